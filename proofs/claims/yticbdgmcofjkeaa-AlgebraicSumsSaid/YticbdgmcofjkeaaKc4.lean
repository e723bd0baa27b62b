/-
Part 4 of 7 of the texts for one claim: Xb Xc Wt0 Qab Qad Xka Wt1 Xkc Wt2 Fs Tb9 Ma2 Ma3 Ma4 P2 P3 P4 P5 P6 P7 Xd P8 P9 P10 P11 P12 P13 P14 P15 P16 W1 P17 Wa Xe P18 P19 P20 P21 Xg P22.
-/
import Derived.Test.YticbdgmcofjkeaaKc3
set_option linter.unusedVariables false
set_option linter.unusedSimpArgs false
namespace Go.Proofs.Yticbdgmcofjkeaa.Ai
open Go Go.RowKit
noncomputable section
variable {τ:Type} (t:Nat) (nx ex:Nat→LS_→Option τ) (l:LS_) (k κ:Nat→LS_→Option τ)
def mo1Xb:List PO:=[oI,(PO.cells true true (PC.r 2)),(PO.fam true .i64),(oG [pI,pI,(rr 0)]),(oG [pI])]
def mo2Xb:List PO:=[oI,(PO.fam true .i64),(PO.cells true true (PC.r 1)),(oG [pI,pI,(rr 0)])]
def mo3Xb:List PO:=[oI,(PO.fam true .i64),(PO.cells true true (PC.r 1))]
def mo4Xb:List PO:=[oI,(PO.cells true true (PC.r 2)),(PO.fam true .i64),(oG [pI,pI,(rr 0)]),(oG [pI]),(oG [pI])]
def mo5Xb:List PO:=[oI,(PO.cells true true (PC.r 2)),(PO.fam true .i64)]
def F81.ps:List PV2:=[pI]
def F81.sh:List PA:=[(PA.mk (PV3.tup [(PV2.agg [iI,iI,(r1 0)]),pB]) [cI]),(PA.mk (PV3.tup [(PV2.agg [(PV1.intC .i64 0),(PV1.intC .i64 0),PV1.nilS]),(PV2.v (PV1.boolC false))]) [])]
def F81.O:Orc P:=⟨[T99.E],[],[],40⟩
def F81:Option τ :=
 T99 [iG l 0]
 (fun j A=>(sw (k 0 [iG A 0,iG A 1,nG A 2,.B (leI (gI l 0) 16),vG A 3])
 (sw (k 1 [])
 (fun _=>none))) j)
theorem F81.eq:FEq F81.O 65 F81.ps F81.sh F81:=by intro τ l κ;kernel_rfl
def F81.E:Ent P:=mkF F81.eq
def L100_2.H:LHead:=⟨false,false,1,409602,409602,403,16,0,[(PS.mk (qR::(PV2.fn 97 [(p1 0)])::us 2 (pI::us 2 (pI::pI::us 10 []))) [(oG [pI])])],[(Out.ret,(PS.mk (us 4 (pI::us 14 [])) [(oG [pI])])),((Out.exit 0),(PS.mk (us 4 (pI::us 14 [])) [(oG [pI])]))]⟩
def L100_2.O:Orc P:=⟨[],[],[],40⟩
def L100_2.s0:Option τ :=
 br (ltI (gI l 4) (gI l 3))
 (ck (((leI 0 (gI l 4))&&(ltI (gI l 4) (gN l 0)))&&true)
 (ck (ltN ((Int.toNat (gI l 4))*1) (gL l 1).length)
 (br (ltI (List.getD (gL l 1) ((Int.toNat (gI l 4))*1) 0) 0)
 (ex 0 [iG l 4,iG l 5])
 (br (geI (List.getD (gL l 1) ((Int.toNat (gI l 4))*1) 0) (gI l 5))
 (ex 0 [iG l 4,iG l 5])
 (nx 0 [nG l 0,vG l 1,iG l 2,iG l 3,.I (wr .i64 ((gI l 4)+1)),iG l 5])))))
 (ex 1 [iG l 2,iG l 5])
theorem L100_2.e0:LEq L100_2.O L100_2.H 0 L100_2.s0:=by intro τ next κ l;kernel_rfl
def L100_2:LStep P Cf:=LStep.mk1 (by decide) L100_2.e0
def L100_2.b:Option τ:=runE L100_2 fuel κ t l
def L100_2.E:LEnt P:=LStep.E L100_2
def S100_0.H:SHead:=⟨100,[qR,(PV2.fn 97 [(p1 0)])],[],[(oG [pI])],[(pI,[(oG [pI])])]⟩
def S100_0.O:Orc P:=⟨[],[L100_2.E],[],40⟩
def S100_0:Option τ :=
 L100_2.b 0 [nG l 0,vG l 1,.I 0,.I (gN l 0),.I 0,iG l 2]
 (fun j A=>(sw (k 0 [iG A 0,iG A 1])
 (sw (k 0 [.I (-1),iG A 1])
 (fun _=>none))) j)
theorem S100_0.eq:SEq S100_0.O S100_0.H S100_0:=by intro τ l κ;kernel_rfl
def S100_0.next:SDyn P S100_0.H:=mkS S100_0.eq
def S100_0.E:SEnt P:=⟨S100_0.H,S100_0.next⟩
def S122_0.H:SHead:=⟨96,[qR,(PV2.fn 97 [(p1 0)])],[],[(oG [pI])],[(pB,[(oG [pI])])]⟩
def S122_0.O:Orc P:=⟨[],[],[S100_0.E],40⟩
def S122_0:Option τ :=
 S100_0 [nG l 0,vG l 1,iG l 2]
 (fun j A=>(sw (k 0 [.B (geI (gI A 0) 0),iG A 1])
 (fun _=>none)) j)
theorem S122_0.eq:SEq S122_0.O S122_0.H S122_0:=by intro τ l κ;kernel_rfl
def S122_0.next:SDyn P S122_0.H:=mkS S122_0.eq
def S122_0.E:SEnt P:=⟨S122_0.H,S122_0.next⟩
def F93.ps:List PV2:=[pI,pI,pR]
def F93.sh:List PA:=[(PA.mk (PV3.v pB) [])]
def F93.O:Orc P:=⟨[],[],[S122_0.E],40⟩
def F93:Option τ :=
 br ((((gL l 2).length:Nat):Int)==(gI l 1))
 (S122_0 [.N (gL l 2).length,vG l 2,iG l 0]
 (fun j A=>(sw (k 0 [.B (!(gB A 0))])
 (fun _=>none)) j))
 (k 0 [.B false])
theorem F93.eq:FEq F93.O 64 F93.ps F93.sh F93:=by intro τ l κ;kernel_rfl
def F93.E:Ent P:=mkF F93.eq
def L114_2.H:LHead:=⟨false,false,2,368642,368642,403,16,0,[(PS.mk (qM::(PV2.fn 89 [(p1 0),(p1 1)])::us 2 (pI::us 2 (pI::pI::us 10 []))) [(oG [pI]),(oG [pI])])],[(Out.ret,(PS.mk (us 4 (pI::us 14 [])) [(oG [pI]),(oG [pI])])),((Out.exit 0),(PS.mk (us 4 (pI::us 14 [])) [(oG [pI]),(oG [pI])]))]⟩
def L114_2.O:Orc P:=⟨[F93.E],[],[],40⟩
def L114_2.s0:Option τ :=
 br (ltI (gI l 4) (gI l 3))
 (ck (((leI 0 (gI l 4))&&(ltI (gI l 4) (gN l 0)))&&true)
 (ck (ltN ((Int.toNat (gI l 4))*1) (gLL l 1).length)
 (ck ((eqM (List.getD (gLL l 1) ((Int.toNat (gI l 4))*1) []).length (List.getD (gLL l 1) ((Int.toNat (gI l 4))*1) []).length)&&true)
 (F93 [iG l 5,iG l 6,.L (List.getD (gLL l 1) ((Int.toNat (gI l 4))*1) [])]
 (fun j A=>(sw (br (!(gB A 0))
 (ex 0 [iG l 4,iG l 5,iG l 6])
 (nx 0 [nG l 0,wG l 1,iG l 2,iG l 3,.I (wr .i64 ((gI l 4)+1)),iG l 5,iG l 6]))
 (fun _=>none)) j)))))
 (ex 1 [iG l 2,iG l 5,iG l 6])
theorem L114_2.e0:LEq L114_2.O L114_2.H 0 L114_2.s0:=by intro τ next κ l;kernel_rfl
def L114_2:LStep P Cf:=LStep.mk1 (by decide) L114_2.e0
def L114_2.b:Option τ:=runE L114_2 fuel κ t l
def L114_2.E:LEnt P:=LStep.E L114_2
def S114_0.H:SHead:=⟨90,[qM,(PV2.fn 89 [(p1 0),(p1 1)])],[],[(oG [pI]),(oG [pI])],[(pI,[(oG [pI]),(oG [pI])])]⟩
def S114_0.O:Orc P:=⟨[],[L114_2.E],[],40⟩
def S114_0:Option τ :=
 L114_2.b 0 [nG l 0,wG l 1,.I 0,.I (gN l 0),.I 0,iG l 2,iG l 3]
 (fun j A=>(sw (k 0 [iG A 0,iG A 1,iG A 2])
 (sw (k 0 [.I (-1),iG A 1,iG A 2])
 (fun _=>none))) j)
theorem S114_0.eq:SEq S114_0.O S114_0.H S114_0:=by intro τ l κ;kernel_rfl
def S114_0.next:SDyn P S114_0.H:=mkS S114_0.eq
def S114_0.E:SEnt P:=⟨S114_0.H,S114_0.next⟩
def S117_0.H:SHead:=⟨88,[qM,(PV2.fn 89 [(p1 0),(p1 1)])],[],[(oG [pI]),(oG [pI])],[(pB,[(oG [pI]),(oG [pI])])]⟩
def S117_0.O:Orc P:=⟨[],[],[S114_0.E],40⟩
def S117_0:Option τ :=
 S114_0 [nG l 0,wG l 1,iG l 2,iG l 3]
 (fun j A=>(sw (k 0 [.B (geI (gI A 0) 0),iG A 1,iG A 2])
 (fun _=>none)) j)
theorem S117_0.eq:SEq S117_0.O S117_0.H S117_0:=by intro τ l κ;kernel_rfl
def S117_0.next:SDyn P S117_0.H:=mkS S117_0.eq
def S117_0.E:SEnt P:=⟨S117_0.H,S117_0.next⟩
def F85.ps:List PV2:=[pI,pI,pI,pM]
def F85.sh:List PA:=[(PA.mk (PV3.tup [(PV2.agg [iI,iI,(r1 0)]),pB]) [cI]),(PA.mk (PV3.tup [(PV2.agg [iI,iI,(r1 0)]),(PV2.v (PV1.boolC false))]) [cI]),(PA.mk (PV3.tup [(PV2.agg [(PV1.intC .i64 0),(PV1.intC .i64 0),PV1.nilS]),(PV2.v (PV1.boolC false))]) [])]
def F85.O:Orc P:=⟨[F81.E],[],[S117_0.E],40⟩
def F85:Option τ :=
 F81 [iG l 0]
 (fun j A=>(sw (br (gB A 3)
 (br (geI (gI l 1) 1)
 (br (leI (gI l 1) 24)
 (br (leI (((gLL l 3).length:Nat):Int) (gI l 2))
 (S117_0 [.N (gLL l 3).length,wG l 3,iG l 0,iG l 1]
 (fun j B=>(sw (k 0 [iG A 0,iG A 1,nG A 2,.B (!(gB B 0)),vG A 4])
 (fun _=>none)) j))
 (k 1 [iG A 0,iG A 1,nG A 2,vG A 4]))
 (k 1 [iG A 0,iG A 1,nG A 2,vG A 4]))
 (k 1 [iG A 0,iG A 1,nG A 2,vG A 4]))
 (k 1 [iG A 0,iG A 1,nG A 2,vG A 4]))
 (sw (k 2 [])
 (fun _=>none))) j)
theorem F85.eq:FEq F85.O 54 F85.ps F85.sh F85:=by intro τ l κ;kernel_rfl
def F85.E:Ent P:=mkF F85.eq
def L87_3.H:LHead:=⟨true,false,2,229379,229379,3592,8,0,[(PS.mk (us 3 ((rr 1)::us 5 (qM::pI::pI::us 18 []))) [(PO.fam true .i64),(PO.cells true true (PC.r 0))])],[((Out.exit 0),(PS.mk (us 3 ((rr 1)::us 26 [])) [(PO.fam true .i64),(PO.cells true true (PC.r 0))]))]⟩
def L87_3.O:Orc P:=⟨[],[],[],40⟩
def L87_3.s0:Option τ :=
 br (ltI (gI l 4) (gI l 3))
 (ck (((leI 0 (gI l 4))&&(ltI (gI l 4) (gN l 1)))&&true)
 (ck (ltN ((Int.toNat (gI l 4))*1) (gLL l 2).length)
 (ck (((leI 0 (((List.getD (gLL l 2) ((Int.toNat (gI l 4))*1) []).length:Nat):Int))&&(leI (((List.getD (gLL l 2) ((Int.toNat (gI l 4))*1) []).length:Nat):Int) (((List.getD (gLL l 2) ((Int.toNat (gI l 4))*1) []).length:Nat):Int)))&&(leI ((((List.getD (gLL l 2) ((Int.toNat (gI l 4))*1) []).length:Nat):Int)*9) 1099511627776))
 (ck (((leI 0 (gI l 4))&&(ltI (gI l 4) (gN l 0)))&&true)
 (ck ((((ltN (0+((Int.toNat (gI l 4))*1)) (gLN l 6).length)&&(eqM (Int.toNat (((List.getD (gLL l 2) ((Int.toNat (gI l 4))*1) []).length:Nat):Int)) (List.replicate (Int.toNat (((List.getD (gLL l 2) ((Int.toNat (gI l 4))*1) []).length:Nat):Int)) (0:Int)).length))&&true)&&(ltN (gLL l 5).length 1048576))
 (ck (((leI 0 (gI l 4))&&(ltI (gI l 4) (gN l 0)))&&true)
 (ck ((ltN (0+((Int.toNat (gI l 4))*1)) (List.set (gLN l 6) (0+((Int.toNat (gI l 4))*1)) (gLL l 5).length).length)&&(ltN (List.getD (List.set (gLN l 6) (0+((Int.toNat (gI l 4))*1)) (gLL l 5).length) (0+((Int.toNat (gI l 4))*1)) 0) ((gLL l 5)++[(List.replicate (Int.toNat (((List.getD (gLL l 2) ((Int.toNat (gI l 4))*1) []).length:Nat):Int)) (0:Int))]).length))
 (ck ((((((ltN (List.getD (List.set (gLN l 6) (0+((Int.toNat (gI l 4))*1)) (gLL l 5).length) (0+((Int.toNat (gI l 4))*1)) 0) ((gLL l 5)++[(List.replicate (Int.toNat (((List.getD (gLL l 2) ((Int.toNat (gI l 4))*1) []).length:Nat):Int)) (0:Int))]).length)&&(eqM (List.getD (gLL l 2) ((Int.toNat (gI l 4))*1) []).length (List.getD ((gLL l 5)++[(List.replicate (Int.toNat (((List.getD (gLL l 2) ((Int.toNat (gI l 4))*1) []).length:Nat):Int)) (0:Int))]) (List.getD (List.set (gLN l 6) (0+((Int.toNat (gI l 4))*1)) (gLL l 5).length) (0+((Int.toNat (gI l 4))*1)) 0) []).length))&&(eqM (List.getD (gLL l 2) ((Int.toNat (gI l 4))*1) []).length (List.getD (gLL l 2) ((Int.toNat (gI l 4))*1) []).length))&&true)&&(eqM (List.getD ((gLL l 5)++[(List.replicate (Int.toNat (((List.getD (gLL l 2) ((Int.toNat (gI l 4))*1) []).length:Nat):Int)) (0:Int))]) (List.getD (List.set (gLN l 6) (0+((Int.toNat (gI l 4))*1)) (gLL l 5).length) (0+((Int.toNat (gI l 4))*1)) 0) []).length (List.getD ((gLL l 5)++[(List.replicate (Int.toNat (((List.getD (gLL l 2) ((Int.toNat (gI l 4))*1) []).length:Nat):Int)) (0:Int))]) (List.getD (List.set (gLN l 6) (0+((Int.toNat (gI l 4))*1)) (gLL l 5).length) (0+((Int.toNat (gI l 4))*1)) 0) []).length))&&true)
 (nx 0 [nG l 0,nG l 1,wG l 2,iG l 3,.I (wr .i64 ((gI l 4)+1)),.LL (List.set ((gLL l 5)++[(List.replicate (Int.toNat (((List.getD (gLL l 2) ((Int.toNat (gI l 4))*1) []).length:Nat):Int)) (0:Int))]) (List.getD (List.set (gLN l 6) (0+((Int.toNat (gI l 4))*1)) (gLL l 5).length) (0+((Int.toNat (gI l 4))*1)) 0) (List.getD (gLL l 2) ((Int.toNat (gI l 4))*1) [])),.LN (List.set (gLN l 6) (0+((Int.toNat (gI l 4))*1)) (gLL l 5).length)])))))))))
 (ex 0 [nG l 0,wG l 5,uG l 6])
theorem L87_3.e0:LEq L87_3.O L87_3.H 0 L87_3.s0:=by intro τ next κ l;kernel_rfl
def L87_3:LStep P Cf:=LStep.mk1 (by decide) L87_3.e0
def L87_3.b:Option τ:=runE L87_3 fuel κ t l
def L87_3.E:LEnt P:=LStep.E L87_3
def S87_0.H:SHead:=⟨56,[qM],[],[],[((rr 0),[(PO.cells true true (PC.r 1)),(PO.fam true .i64)])]⟩
def S87_0.O:Orc P:=⟨[],[L87_3.E],[],40⟩
def S87_0:Option τ :=
 ck (((leI 0 (gN l 0))&&(leI (((gN l 0):Nat):Int) (((gN l 0):Nat):Int)))&&(leI ((((gN l 0):Nat):Int)*25) 1099511627776))
 (L87_3.b 0 [.N (Int.toNat (((gN l 0):Nat):Int)),nG l 0,wG l 1,.I (gN l 0),.I 0,.LL [],.LN (List.replicate (Int.toNat (((gN l 0):Nat):Int)) 1099511627776)]
 (fun j A=>(sw (k 0 [nG A 0,uG A 2,wG A 1])
 (fun _=>none)) j))
theorem S87_0.eq:SEq S87_0.O S87_0.H S87_0:=by intro τ l κ;kernel_rfl
def S87_0.next:SDyn P S87_0.H:=mkS S87_0.eq
def S87_0.E:SEnt P:=⟨S87_0.H,S87_0.next⟩
def L114_2_1.H:LHead:=⟨false,false,3,368642,368642,403,16,0,[(PS.mk ((PV2.v (PV1.ref 0 (some 0) none none 1))::(PV2.fn 91 [(p1 1)])::us 2 (pI::us 2 (pI::pI::us 10 []))) [(PO.cells true true (PC.r 2)),(oG [pI]),(PO.fam true .i64)])],[(Out.ret,(PS.mk (us 4 (pI::us 14 [])) [(PO.cells true true (PC.r 2)),(oG [pI]),(PO.fam true .i64)])),((Out.exit 0),(PS.mk (us 4 (pI::us 14 [])) [(PO.cells true true (PC.r 2)),(oG [pI]),(PO.fam true .i64)]))]⟩
def L114_2_1.O:Orc P:=⟨[],[],[],40⟩
def L114_2_1.s0:Option τ :=
 br (ltI (gI l 4) (gI l 3))
 (ck (((leI 0 (gI l 4))&&(ltI (gI l 4) (gN l 1)))&&true)
 (ck ((ltN ((gN l 0)+((Int.toNat (gI l 4))*1)) (gLN l 5).length)&&(ltN (List.getD (gLN l 5) ((gN l 0)+((Int.toNat (gI l 4))*1)) 0) (gLL l 7).length))
 (ck (((leI 0 (gI l 6))&&(ltI (gI l 6) (((List.getD (gLL l 7) (List.getD (gLN l 5) ((gN l 0)+((Int.toNat (gI l 4))*1)) 0) []).length:Nat):Int)))&&true)
 (ck ((ltN (List.getD (gLN l 5) ((gN l 0)+((Int.toNat (gI l 4))*1)) 0) (gLL l 7).length)&&(ltN (0+((Int.toNat (gI l 6))*1)) (List.getD (gLL l 7) (List.getD (gLN l 5) ((gN l 0)+((Int.toNat (gI l 4))*1)) 0) []).length))
 (br ((List.getD (List.getD (gLL l 7) (List.getD (gLN l 5) ((gN l 0)+((Int.toNat (gI l 4))*1)) 0) []) (0+((Int.toNat (gI l 6))*1)) 0) != 0)
 (ex 0 [iG l 4,uG l 5,iG l 6,wG l 7])
 (nx 0 [nG l 0,nG l 1,iG l 2,iG l 3,.I (wr .i64 ((gI l 4)+1)),uG l 5,iG l 6,wG l 7]))))))
 (ex 1 [iG l 2,uG l 5,iG l 6,wG l 7])
theorem L114_2_1.e0:LEq L114_2_1.O L114_2_1.H 0 L114_2_1.s0:=by intro τ next κ l;kernel_rfl
def L114_2_1:LStep P Cf:=LStep.mk1 (by decide) L114_2_1.e0
def L114_2_1.b:Option τ:=runE L114_2_1 fuel κ t l
def L114_2_1.E:LEnt P:=LStep.E L114_2_1
def S114_1.H:SHead:=⟨90,[(PV2.v (PV1.ref 0 (some 0) none none 1)),(PV2.fn 91 [(p1 1)])],[],[(PO.cells true true (PC.r 2)),(oG [pI]),(PO.fam true .i64)],[(pI,[(PO.cells true true (PC.r 2)),(oG [pI]),(PO.fam true .i64)])]⟩
def S114_1.O:Orc P:=⟨[],[L114_2_1.E],[],40⟩
def S114_1:Option τ :=
 L114_2_1.b 0 [nG l 0,nG l 1,.I 0,.I (gN l 1),.I 0,uG l 2,iG l 3,wG l 4]
 (fun j A=>(sw (k 0 [iG A 0,uG A 1,iG A 2,wG A 3])
 (sw (k 0 [.I (-1),uG A 1,iG A 2,wG A 3])
 (fun _=>none))) j)
theorem S114_1.eq:SEq S114_1.O S114_1.H S114_1:=by intro τ l κ;kernel_rfl
def S114_1.next:SDyn P S114_1.H:=mkS S114_1.eq
def S114_1.E:SEnt P:=⟨S114_1.H,S114_1.next⟩
def L84_10.H:LHead:=⟨true,false,5,225290,225290,885443715538058478990,398,0,[(PS.mk (us 1 (pI::(rr 1)::(pp 3)::us 3 (pI::(pp 4)::us 1 (pI::us 57 (pI::pI::us 51 []))))) mo1Xb)],[((Out.exit 2),(PS.mk (us 1 (pI::(rr 1)::(pp 3)::us 3 (pI::(pp 4)::us 112 []))) mo1Xb))]⟩
def L84_10.O:Orc P:=⟨[T104.E],[],[],40⟩
def L84_10.s0:Option τ :=
 br (ltI (gI l 5) (gI l 4))
 (ck (((leI 0 (gI l 2))&&(ltI (gI l 2) (gN l 1)))&&true)
 (ck ((ltN (0+((Int.toNat (gI l 2))*1)) (gLN l 7).length)&&(ltN (List.getD (gLN l 7) (0+((Int.toNat (gI l 2))*1)) 0) (gLL l 8).length))
 (ck (((leI 0 (gI l 2))&&(ltI (gI l 2) (gN l 1)))&&true)
 (ck ((ltN (0+((Int.toNat (gI l 2))*1)) (gLN l 7).length)&&(ltN (List.getD (gLN l 7) (0+((Int.toNat (gI l 2))*1)) 0) (gLL l 8).length))
 (ck (((leI 0 (gI l 5))&&(ltI (gI l 5) (((List.getD (gLL l 8) (List.getD (gLN l 7) (0+((Int.toNat (gI l 2))*1)) 0) []).length:Nat):Int)))&&true)
 (ck ((ltN (List.getD (gLN l 7) (0+((Int.toNat (gI l 2))*1)) 0) (gLL l 8).length)&&(ltN (0+((Int.toNat (gI l 5))*1)) (List.getD (gLL l 8) (List.getD (gLN l 7) (0+((Int.toNat (gI l 2))*1)) 0) []).length))
 (ck (((eqM (gN l 11) (List.take ((gN l 11)*1) (List.drop 0 (gL l 6))).length)&&true)&&true)
 (T104 [iG l 9,iG l 10,.L (List.take ((gN l 11)*1) (List.drop 0 (gL l 6))),iG l 3,.I (List.getD (List.getD (gLL l 8) (List.getD (gLN l 7) (0+((Int.toNat (gI l 2))*1)) 0) []) (0+((Int.toNat (gI l 5))*1)) 0)]
 (fun j A=>(sw (ck (((leI 0 (gI l 5))&&(ltI (gI l 5) (((List.getD (gLL l 8) (List.getD (gLN l 7) (0+((Int.toNat (gI l 2))*1)) 0) []).length:Nat):Int)))&&true)
 (ck ((ltN (List.getD (gLN l 7) (0+((Int.toNat (gI l 2))*1)) 0) (gLL l 8).length)&&(ltN (0+((Int.toNat (gI l 5))*1)) (List.getD (gLL l 8) (List.getD (gLN l 7) (0+((Int.toNat (gI l 2))*1)) 0) []).length))
 (nx 0 [iG l 0,nG l 1,iG l 2,iG l 3,iG l 4,.I (wr .i64 ((gI l 5)+1)),vG l 6,uG l 7,.LL (List.set (gLL l 8) (List.getD (gLN l 7) (0+((Int.toNat (gI l 2))*1)) 0) (List.set (List.getD (gLL l 8) (List.getD (gLN l 7) (0+((Int.toNat (gI l 2))*1)) 0) []) (0+((Int.toNat (gI l 5))*1)) (gI A 0))),iG l 9,iG l 10,nG l 11,iG l 12])))
 (fun _=>none)) j)))))))))
 (ex 0 [iG l 0,nG l 1,iG l 2,vG l 6,uG l 7,wG l 8,iG l 9,iG l 10,nG l 11,iG l 12])
theorem L84_10.e0:LEq L84_10.O L84_10.H 0 L84_10.s0:=by intro τ next κ l;kernel_rfl
def L84_10:LStep P Cf:=LStep.mk1 (by decide) L84_10.e0
def L84_10.b:Option τ:=runE L84_10 fuel κ t l
def L84_10.E:LEnt P:=LStep.E L84_10
def L94_3.H:LHead:=⟨true,false,4,270339,270339,12318,0,0,[(PS.mk (us 1 ((PV2.v (PV1.ref 1 none (some 0) none 1))::pI::(PV2.v (PV1.ref 1 none (some 0) none 1))::(pp 3)::us 7 (pI::pI::us 21 []))) mo2Xb)],[((Out.exit 0),(PS.mk (us 35 []) mo2Xb))]⟩
def L94_3.O:Orc P:=⟨[T104.E,T103.E],[],[],40⟩
def L94_3.s0:Option τ :=
 br (ltI (gI l 6) (gI l 5))
 (ck (((leI 0 (gI l 6))&&(ltI (gI l 6) (gN l 1)))&&true)
 (ck ((ltN (gN l 0) (gLL l 8).length)&&(ltN (0+((Int.toNat (gI l 6))*1)) (List.getD (gLL l 8) (gN l 0) []).length))
 (ck (((leI 0 (gI l 6))&&(ltI (gI l 6) (gN l 4)))&&true)
 (ck ((ltN (gN l 3) (gLL l 8).length)&&(ltN (0+((Int.toNat (gI l 6))*1)) (List.getD (gLL l 8) (gN l 3) []).length))
 (ck (((eqM (gN l 12) (List.take ((gN l 12)*1) (List.drop 0 (gL l 7))).length)&&true)&&true)
 (T104 [iG l 10,iG l 11,.L (List.take ((gN l 12)*1) (List.drop 0 (gL l 7))),iG l 2,.I (List.getD (List.getD (gLL l 8) (gN l 3) []) (0+((Int.toNat (gI l 6))*1)) 0)]
 (fun j A=>(sw (ck (((eqM (gN l 12) (List.take ((gN l 12)*1) (List.drop 0 (gL l 7))).length)&&true)&&true)
 (T103 [iG l 10,iG l 11,.L (List.take ((gN l 12)*1) (List.drop 0 (gL l 7))),.I (List.getD (List.getD (gLL l 8) (gN l 0) []) (0+((Int.toNat (gI l 6))*1)) 0),iG A 0]
 (fun j B=>(sw (ck (((leI 0 (gI l 6))&&(ltI (gI l 6) (gN l 1)))&&true)
 (ck ((ltN (gN l 0) (gLL l 8).length)&&(ltN (0+((Int.toNat (gI l 6))*1)) (List.getD (gLL l 8) (gN l 0) []).length))
 (nx 0 [nG l 0,nG l 1,iG l 2,nG l 3,nG l 4,iG l 5,.I (wr .i64 ((gI l 6)+1)),vG l 7,.LL (List.set (gLL l 8) (gN l 0) (List.set (List.getD (gLL l 8) (gN l 0) []) (0+((Int.toNat (gI l 6))*1)) (gI B 0))),uG l 9,iG l 10,iG l 11,nG l 12])))
 (fun _=>none)) j)))
 (fun _=>none)) j)))))))
 (ex 0 [vG l 7,wG l 8,uG l 9,iG l 10,iG l 11,nG l 12])
theorem L94_3.e0:LEq L94_3.O L94_3.H 0 L94_3.s0:=by intro τ next κ l;kernel_rfl
def L94_3:LStep P Cf:=LStep.mk1 (by decide) L94_3.e0
def L94_3.b:Option τ:=runE L94_3 fuel κ t l
def L94_3.E:LEnt P:=LStep.E L94_3
def S94_0.H:SHead:=⟨66,[(PV2.agg [iI,iI,(r1 0)]),(PV2.v (PV1.ref 1 none (some 0) none 1)),pI,(PV2.v (PV1.ref 1 none (some 0) none 1))],[],mo3Xb,[((PV2.tup []),mo3Xb)]⟩
def S94_0.O:Orc P:=⟨[],[L94_3.E],[],40⟩
def S94_0:Option τ :=
 br ((gI l 5)==0)
 (k 0 [vG l 8,wG l 9,uG l 10])
 (L94_3.b 0 [nG l 3,nG l 4,iG l 5,nG l 6,nG l 7,.I (gN l 4),.I 0,vG l 8,wG l 9,uG l 10,iG l 0,iG l 1,nG l 2]
 (fun j A=>(sw (k 0 [vG A 0,wG A 1,uG A 2])
 (fun _=>none)) j))
theorem S94_0.eq:SEq S94_0.O S94_0.H S94_0:=by intro τ l κ;kernel_rfl
def S94_0.next:SDyn P S94_0.H:=mkS S94_0.eq
def S94_0.E:SEnt P:=⟨S94_0.H,S94_0.next⟩
def L84_15.H:LHead:=⟨true,false,5,225295,225295,8665580274997661924293869966,398,0,[(PS.mk (us 1 (pI::(rr 1)::(pp 3)::us 3 (pI::(pp 4)::us 81 ((rr 1)::pI::pI::us 28 [])))) mo1Xb)],[((Out.exit 4),(PS.mk (us 1 (pI::(rr 1)::(pp 3)::us 3 (pI::(pp 4)::us 112 []))) mo1Xb))]⟩
def L84_15.O:Orc P:=⟨[T83.E],[],[S94_0.E],40⟩
def L84_15.s0:Option τ :=
 br (ltI (gI l 5) (gI l 4))
 (ck (((leI 0 (gI l 5))&&(ltI (gI l 5) (gN l 3)))&&true)
 (ck ((ltN (0+((Int.toNat (gI l 5))*1)) (gLN l 7).length)&&(ltN (List.getD (gLN l 7) (0+((Int.toNat (gI l 5))*1)) 0) (gLL l 8).length))
 (br ((gI l 5) != (gI l 2))
 (ck (((leI 0 (gI l 12))&&(ltI (gI l 12) (((List.getD (gLL l 8) (List.getD (gLN l 7) (0+((Int.toNat (gI l 5))*1)) 0) []).length:Nat):Int)))&&true)
 (ck ((ltN (List.getD (gLN l 7) (0+((Int.toNat (gI l 5))*1)) 0) (gLL l 8).length)&&(ltN (0+((Int.toNat (gI l 12))*1)) (List.getD (gLL l 8) (List.getD (gLN l 7) (0+((Int.toNat (gI l 5))*1)) 0) []).length))
 (ck (((eqM (gN l 11) (List.take ((gN l 11)*1) (List.drop 0 (gL l 6))).length)&&true)&&true)
 (T83 [iG l 9,iG l 10,.L (List.take ((gN l 11)*1) (List.drop 0 (gL l 6))),.I (List.getD (List.getD (gLL l 8) (List.getD (gLN l 7) (0+((Int.toNat (gI l 5))*1)) 0) []) (0+((Int.toNat (gI l 12))*1)) 0)]
 (fun j A=>(sw (ck (((leI 0 (gI l 2))&&(ltI (gI l 2) (gN l 1)))&&true)
 (ck ((ltN (0+((Int.toNat (gI l 2))*1)) (gLN l 7).length)&&(ltN (List.getD (gLN l 7) (0+((Int.toNat (gI l 2))*1)) 0) (gLL l 8).length))
 (S94_0 [iG l 9,iG l 10,nG l 11,.N (List.getD (gLN l 7) (0+((Int.toNat (gI l 5))*1)) 0),.N (List.getD (gLL l 8) (List.getD (gLN l 7) (0+((Int.toNat (gI l 5))*1)) 0) []).length,iG A 0,.N (List.getD (gLN l 7) (0+((Int.toNat (gI l 2))*1)) 0),.N (List.getD (gLL l 8) (List.getD (gLN l 7) (0+((Int.toNat (gI l 2))*1)) 0) []).length,vG l 6,wG l 8,uG l 7]
 (fun j B=>(sw (nx 0 [iG l 0,nG l 1,iG l 2,nG l 3,iG l 4,.I (wr .i64 ((gI l 5)+1)),vG B 0,uG B 2,wG B 1,iG l 9,iG l 10,nG l 11,iG l 12])
 (fun _=>none)) j))))
 (fun _=>none)) j)))))
 (nx 0 [iG l 0,nG l 1,iG l 2,nG l 3,iG l 4,.I (wr .i64 ((gI l 5)+1)),vG l 6,uG l 7,wG l 8,iG l 9,iG l 10,nG l 11,iG l 12]))))
 (ex 0 [iG l 0,nG l 1,iG l 2,vG l 6,uG l 7,wG l 8,iG l 9,iG l 10,nG l 11,iG l 12])
theorem L84_15.e0:LEq L84_15.O L84_15.H 0 L84_15.s0:=by intro τ next κ l;kernel_rfl
def L84_15:LStep P Cf:=LStep.mk1 (by decide) L84_15.e0
def L84_15.b:Option τ:=runE L84_15 fuel κ t l
def L84_15.E:LEnt P:=LStep.E L84_15
def L114_2_2.H:LHead:=⟨false,false,1,368642,368642,403,16,0,[(PS.mk ((PV2.v (PV1.sl PC0.e))::(PV2.fn 91 [(p1 0)])::us 2 (pI::us 2 (pI::pI::us 10 []))) [(oG [pI])])],[((Out.exit 0),(PS.mk (us 4 (pI::us 14 [])) [(oG [pI])]))]⟩
def L114_2_2.O:Orc P:=⟨[],[],[],40⟩
def L114_2_2.s0 {τ:Type} (next ex:Nat→LS_→Option τ) (l:LS_):Option τ :=
 br (ltI (gI l 3) (gI l 2))
 (ck (((leI 0 (gI l 3))&&(ltI (gI l 3) (gN l 0)))&&true)
 (none))
 (ex 0 [iG l 1,iG l 4])
theorem L114_2_2.e0:LEq L114_2_2.O L114_2_2.H 0 L114_2_2.s0:=by intro τ next κ l;kernel_rfl
def L114_2_2:LStep P Cf:=LStep.mk1 (by decide) L114_2_2.e0
def L114_2_2.b:Option τ:=runE L114_2_2 fuel κ t l
def L114_2_2.E:LEnt P:=LStep.E L114_2_2
def S114_2.H:SHead:=⟨90,[(PV2.v (PV1.sl PC0.e)),(PV2.fn 91 [(p1 0)])],[],[(oG [pI])],[(pI,[(oG [pI])])]⟩
def S114_2.O:Orc P:=⟨[],[L114_2_2.E],[],40⟩
def S114_2:Option τ :=
 L114_2_2.b 0 [nG l 0,.I 0,.I (gN l 0),.I 0,iG l 1]
 (fun j A=>(sw (k 0 [.I (-1),iG A 1])
 (fun _=>none)) j)
theorem S114_2.eq:SEq S114_2.O S114_2.H S114_2:=by intro τ l κ;kernel_rfl
def S114_2.next:SDyn P S114_2.H:=mkS S114_2.eq
def S114_2.E:SEnt P:=⟨S114_2.H,S114_2.next⟩
def L84_10_1.H:LHead:=⟨true,false,6,225290,225290,885443715538058478990,398,0,[(PS.mk (us 1 (pI::(rr 1)::(pp 3)::us 3 (pI::(pp 5)::us 1 (pI::us 57 (pI::pI::us 51 []))))) mo4Xb)],[((Out.exit 2),(PS.mk (us 1 (pI::(rr 1)::(pp 3)::us 3 (pI::(pp 5)::us 112 []))) mo4Xb))]⟩
def L84_10_1.O:Orc P:=⟨[T104.E],[],[],40⟩
def L84_10_1.s0:Option τ :=
 br (ltI (gI l 5) (gI l 4))
 (ck (((leI 0 (gI l 2))&&(ltI (gI l 2) (gN l 1)))&&true)
 (ck ((ltN (0+((Int.toNat (gI l 2))*1)) (gLN l 7).length)&&(ltN (List.getD (gLN l 7) (0+((Int.toNat (gI l 2))*1)) 0) (gLL l 8).length))
 (ck (((leI 0 (gI l 2))&&(ltI (gI l 2) (gN l 1)))&&true)
 (ck ((ltN (0+((Int.toNat (gI l 2))*1)) (gLN l 7).length)&&(ltN (List.getD (gLN l 7) (0+((Int.toNat (gI l 2))*1)) 0) (gLL l 8).length))
 (ck (((leI 0 (gI l 5))&&(ltI (gI l 5) (((List.getD (gLL l 8) (List.getD (gLN l 7) (0+((Int.toNat (gI l 2))*1)) 0) []).length:Nat):Int)))&&true)
 (ck ((ltN (List.getD (gLN l 7) (0+((Int.toNat (gI l 2))*1)) 0) (gLL l 8).length)&&(ltN (0+((Int.toNat (gI l 5))*1)) (List.getD (gLL l 8) (List.getD (gLN l 7) (0+((Int.toNat (gI l 2))*1)) 0) []).length))
 (ck (((eqM (gN l 11) (List.take ((gN l 11)*1) (List.drop 0 (gL l 6))).length)&&true)&&true)
 (T104 [iG l 9,iG l 10,.L (List.take ((gN l 11)*1) (List.drop 0 (gL l 6))),iG l 3,.I (List.getD (List.getD (gLL l 8) (List.getD (gLN l 7) (0+((Int.toNat (gI l 2))*1)) 0) []) (0+((Int.toNat (gI l 5))*1)) 0)]
 (fun j A=>(sw (ck (((leI 0 (gI l 5))&&(ltI (gI l 5) (((List.getD (gLL l 8) (List.getD (gLN l 7) (0+((Int.toNat (gI l 2))*1)) 0) []).length:Nat):Int)))&&true)
 (ck ((ltN (List.getD (gLN l 7) (0+((Int.toNat (gI l 2))*1)) 0) (gLL l 8).length)&&(ltN (0+((Int.toNat (gI l 5))*1)) (List.getD (gLL l 8) (List.getD (gLN l 7) (0+((Int.toNat (gI l 2))*1)) 0) []).length))
 (nx 0 [iG l 0,nG l 1,iG l 2,iG l 3,iG l 4,.I (wr .i64 ((gI l 5)+1)),vG l 6,uG l 7,.LL (List.set (gLL l 8) (List.getD (gLN l 7) (0+((Int.toNat (gI l 2))*1)) 0) (List.set (List.getD (gLL l 8) (List.getD (gLN l 7) (0+((Int.toNat (gI l 2))*1)) 0) []) (0+((Int.toNat (gI l 5))*1)) (gI A 0))),iG l 9,iG l 10,nG l 11,iG l 12,iG l 13])))
 (fun _=>none)) j)))))))))
 (ex 0 [iG l 0,nG l 1,iG l 2,vG l 6,uG l 7,wG l 8,iG l 9,iG l 10,nG l 11,iG l 12,iG l 13])
theorem L84_10_1.e0:LEq L84_10_1.O L84_10_1.H 0 L84_10_1.s0:=by intro τ next κ l;kernel_rfl
def L84_10_1:LStep P Cf:=LStep.mk1 (by decide) L84_10_1.e0
def L84_10_1.b:Option τ:=runE L84_10_1 fuel κ t l
def L84_10_1.E:LEnt P:=LStep.E L84_10_1
def L84_15_1.H:LHead:=⟨true,false,6,225295,225295,8665580274997661924293869966,398,0,[(PS.mk (us 1 (pI::(rr 1)::(pp 3)::us 3 (pI::(pp 5)::us 81 ((rr 1)::pI::pI::us 28 [])))) mo4Xb)],[((Out.exit 4),(PS.mk (us 1 (pI::(rr 1)::(pp 3)::us 3 (pI::(pp 5)::us 112 []))) mo4Xb))]⟩
def L84_15_1.O:Orc P:=⟨[T83.E],[],[S94_0.E],40⟩
def L84_15_1.s0:Option τ :=
 br (ltI (gI l 5) (gI l 4))
 (ck (((leI 0 (gI l 5))&&(ltI (gI l 5) (gN l 3)))&&true)
 (ck ((ltN (0+((Int.toNat (gI l 5))*1)) (gLN l 7).length)&&(ltN (List.getD (gLN l 7) (0+((Int.toNat (gI l 5))*1)) 0) (gLL l 8).length))
 (br ((gI l 5) != (gI l 2))
 (ck (((leI 0 (gI l 13))&&(ltI (gI l 13) (((List.getD (gLL l 8) (List.getD (gLN l 7) (0+((Int.toNat (gI l 5))*1)) 0) []).length:Nat):Int)))&&true)
 (ck ((ltN (List.getD (gLN l 7) (0+((Int.toNat (gI l 5))*1)) 0) (gLL l 8).length)&&(ltN (0+((Int.toNat (gI l 13))*1)) (List.getD (gLL l 8) (List.getD (gLN l 7) (0+((Int.toNat (gI l 5))*1)) 0) []).length))
 (ck (((eqM (gN l 11) (List.take ((gN l 11)*1) (List.drop 0 (gL l 6))).length)&&true)&&true)
 (T83 [iG l 9,iG l 10,.L (List.take ((gN l 11)*1) (List.drop 0 (gL l 6))),.I (List.getD (List.getD (gLL l 8) (List.getD (gLN l 7) (0+((Int.toNat (gI l 5))*1)) 0) []) (0+((Int.toNat (gI l 13))*1)) 0)]
 (fun j A=>(sw (ck (((leI 0 (gI l 2))&&(ltI (gI l 2) (gN l 1)))&&true)
 (ck ((ltN (0+((Int.toNat (gI l 2))*1)) (gLN l 7).length)&&(ltN (List.getD (gLN l 7) (0+((Int.toNat (gI l 2))*1)) 0) (gLL l 8).length))
 (S94_0 [iG l 9,iG l 10,nG l 11,.N (List.getD (gLN l 7) (0+((Int.toNat (gI l 5))*1)) 0),.N (List.getD (gLL l 8) (List.getD (gLN l 7) (0+((Int.toNat (gI l 5))*1)) 0) []).length,iG A 0,.N (List.getD (gLN l 7) (0+((Int.toNat (gI l 2))*1)) 0),.N (List.getD (gLL l 8) (List.getD (gLN l 7) (0+((Int.toNat (gI l 2))*1)) 0) []).length,vG l 6,wG l 8,uG l 7]
 (fun j B=>(sw (nx 0 [iG l 0,nG l 1,iG l 2,nG l 3,iG l 4,.I (wr .i64 ((gI l 5)+1)),vG B 0,uG B 2,wG B 1,iG l 9,iG l 10,nG l 11,iG l 12,iG l 13])
 (fun _=>none)) j))))
 (fun _=>none)) j)))))
 (nx 0 [iG l 0,nG l 1,iG l 2,nG l 3,iG l 4,.I (wr .i64 ((gI l 5)+1)),vG l 6,uG l 7,wG l 8,iG l 9,iG l 10,nG l 11,iG l 12,iG l 13]))))
 (ex 0 [iG l 0,nG l 1,iG l 2,vG l 6,uG l 7,wG l 8,iG l 9,iG l 10,nG l 11,iG l 12,iG l 13])
theorem L84_15_1.e0:LEq L84_15_1.O L84_15_1.H 0 L84_15_1.s0:=by intro τ next κ l;kernel_rfl
def L84_15_1:LStep P Cf:=LStep.mk1 (by decide) L84_15_1.e0
def L84_15_1.b:Option τ:=runE L84_15_1 fuel κ t l
def L84_15_1.E:LEnt P:=LStep.E L84_15_1
def L84_3.H:LHead:=⟨true,false,5,225283,225283,398,132,0,[(PS.mk (us 1 (pI::(rr 1)::(pp 3)::us 3 (pI::(pp 4)::us 112 []))) mo1Xb),(PS.mk (us 1 (pI::(rr 1)::(pp 3)::us 3 (pI::(pp 5)::us 112 []))) mo4Xb)],[((Out.exit 0),(PS.mk (us 2 ((rr 1)::us 4 (pI::us 113 []))) mo1Xb))]⟩
def L84_3.O:Orc P:=⟨[T116.E],[L84_10.E,L84_15.E,L84_10_1.E,L84_15_1.E],[S114_1.E,S114_2.E],40⟩
def L84_3.s0:Option τ :=
 br (ltI (gI l 9) (gI l 0))
 (br (ltI (gI l 2) (gN l 1))
 (ck ((((((leI 0 (gI l 2))&&(leI (gI l 2) (gN l 1)))&&(leI (((gN l 1):Nat):Int) (((gN l 1):Nat):Int)))&&(leI (((gN l 1):Nat):Int) (((gN l 1):Nat):Int)))&&true)&&true)
 (br (ltI (gI l 2) (gN l 1))
 (S114_1 [.N (0+((Int.toNat (gI l 2))*1)),.N ((Int.toNat (((gN l 1):Nat):Int))-(Int.toNat (gI l 2))),uG l 4,iG l 9,wG l 5]
 (fun j A=>(sw (br (ltI (gI A 0) 0)
 (nx 1 [iG l 0,nG l 1,iG l 2,vG l 3,uG A 1,wG A 3,iG l 6,iG l 7,nG l 8,iG A 2,.I (wr .i64 ((gI A 2)+1))])
 (ck (((leI 0 (wr .i64 ((gI l 2)+(gI A 0))))&&(ltI (wr .i64 ((gI l 2)+(gI A 0))) (((gN l 1):Nat):Int)))&&true)
 (ck ((ltN (0+((Int.toNat (wr .i64 ((gI l 2)+(gI A 0))))*1)) (gLN A 1).length)&&(ltN (List.getD (gLN A 1) (0+((Int.toNat (wr .i64 ((gI l 2)+(gI A 0))))*1)) 0) (gLL A 3).length))
 (ck (((leI 0 (gI l 2))&&(ltI (gI l 2) (gN l 1)))&&true)
 (ck ((ltN (0+((Int.toNat (gI l 2))*1)) (gLN A 1).length)&&(ltN (List.getD (gLN A 1) (0+((Int.toNat (gI l 2))*1)) 0) (gLL A 3).length))
 (ck (((leI 0 (gI l 2))&&(ltI (gI l 2) (gN l 1)))&&true)
 (ck ((((ltN (0+((Int.toNat (gI l 2))*1)) (gLN A 1).length)&&(ltN (List.getD (gLN A 1) (0+((Int.toNat (wr .i64 ((gI l 2)+(gI A 0))))*1)) 0) (gLL A 3).length))&&(eqM (List.getD (gLL A 3) (List.getD (gLN A 1) (0+((Int.toNat (wr .i64 ((gI l 2)+(gI A 0))))*1)) 0) []).length (List.getD (gLL A 3) (List.getD (gLN A 1) (0+((Int.toNat (wr .i64 ((gI l 2)+(gI A 0))))*1)) 0) []).length))&&true)
 (ck (((leI 0 (wr .i64 ((gI l 2)+(gI A 0))))&&(ltI (wr .i64 ((gI l 2)+(gI A 0))) (((gN l 1):Nat):Int)))&&true)
 (ck ((((ltN (0+((Int.toNat (wr .i64 ((gI l 2)+(gI A 0))))*1)) (List.set (gLN A 1) (0+((Int.toNat (gI l 2))*1)) (List.getD (gLN A 1) (0+((Int.toNat (wr .i64 ((gI l 2)+(gI A 0))))*1)) 0)).length)&&(ltN (List.getD (gLN A 1) (0+((Int.toNat (gI l 2))*1)) 0) (gLL A 3).length))&&(eqM (List.getD (gLL A 3) (List.getD (gLN A 1) (0+((Int.toNat (gI l 2))*1)) 0) []).length (List.getD (gLL A 3) (List.getD (gLN A 1) (0+((Int.toNat (gI l 2))*1)) 0) []).length))&&true)
 (ck (((leI 0 (gI l 2))&&(ltI (gI l 2) (gN l 1)))&&true)
 (ck ((ltN (0+((Int.toNat (gI l 2))*1)) (List.set (List.set (gLN A 1) (0+((Int.toNat (gI l 2))*1)) (List.getD (gLN A 1) (0+((Int.toNat (wr .i64 ((gI l 2)+(gI A 0))))*1)) 0)) (0+((Int.toNat (wr .i64 ((gI l 2)+(gI A 0))))*1)) (List.getD (gLN A 1) (0+((Int.toNat (gI l 2))*1)) 0)).length)&&(ltN (List.getD (List.set (List.set (gLN A 1) (0+((Int.toNat (gI l 2))*1)) (List.getD (gLN A 1) (0+((Int.toNat (wr .i64 ((gI l 2)+(gI A 0))))*1)) 0)) (0+((Int.toNat (wr .i64 ((gI l 2)+(gI A 0))))*1)) (List.getD (gLN A 1) (0+((Int.toNat (gI l 2))*1)) 0)) (0+((Int.toNat (gI l 2))*1)) 0) (gLL A 3).length))
 (ck (((leI 0 (gI A 2))&&(ltI (gI A 2) (((List.getD (gLL A 3) (List.getD (List.set (List.set (gLN A 1) (0+((Int.toNat (gI l 2))*1)) (List.getD (gLN A 1) (0+((Int.toNat (wr .i64 ((gI l 2)+(gI A 0))))*1)) 0)) (0+((Int.toNat (wr .i64 ((gI l 2)+(gI A 0))))*1)) (List.getD (gLN A 1) (0+((Int.toNat (gI l 2))*1)) 0)) (0+((Int.toNat (gI l 2))*1)) 0) []).length:Nat):Int)))&&true)
 (ck ((ltN (List.getD (List.set (List.set (gLN A 1) (0+((Int.toNat (gI l 2))*1)) (List.getD (gLN A 1) (0+((Int.toNat (wr .i64 ((gI l 2)+(gI A 0))))*1)) 0)) (0+((Int.toNat (wr .i64 ((gI l 2)+(gI A 0))))*1)) (List.getD (gLN A 1) (0+((Int.toNat (gI l 2))*1)) 0)) (0+((Int.toNat (gI l 2))*1)) 0) (gLL A 3).length)&&(ltN (0+((Int.toNat (gI A 2))*1)) (List.getD (gLL A 3) (List.getD (List.set (List.set (gLN A 1) (0+((Int.toNat (gI l 2))*1)) (List.getD (gLN A 1) (0+((Int.toNat (wr .i64 ((gI l 2)+(gI A 0))))*1)) 0)) (0+((Int.toNat (wr .i64 ((gI l 2)+(gI A 0))))*1)) (List.getD (gLN A 1) (0+((Int.toNat (gI l 2))*1)) 0)) (0+((Int.toNat (gI l 2))*1)) 0) []).length))
 (ck (((eqM (gN l 8) (List.take ((gN l 8)*1) (List.drop 0 (gL l 3))).length)&&true)&&true)
 (T116 [iG l 6,iG l 7,.L (List.take ((gN l 8)*1) (List.drop 0 (gL l 3))),.I (List.getD (List.getD (gLL A 3) (List.getD (List.set (List.set (gLN A 1) (0+((Int.toNat (gI l 2))*1)) (List.getD (gLN A 1) (0+((Int.toNat (wr .i64 ((gI l 2)+(gI A 0))))*1)) 0)) (0+((Int.toNat (wr .i64 ((gI l 2)+(gI A 0))))*1)) (List.getD (gLN A 1) (0+((Int.toNat (gI l 2))*1)) 0)) (0+((Int.toNat (gI l 2))*1)) 0) []) (0+((Int.toNat (gI A 2))*1)) 0)]
 (fun j B=>(sw (ck (((leI 0 (gI l 2))&&(ltI (gI l 2) (gN l 1)))&&true)
 (ck ((ltN (0+((Int.toNat (gI l 2))*1)) (List.set (List.set (gLN A 1) (0+((Int.toNat (gI l 2))*1)) (List.getD (gLN A 1) (0+((Int.toNat (wr .i64 ((gI l 2)+(gI A 0))))*1)) 0)) (0+((Int.toNat (wr .i64 ((gI l 2)+(gI A 0))))*1)) (List.getD (gLN A 1) (0+((Int.toNat (gI l 2))*1)) 0)).length)&&(ltN (List.getD (List.set (List.set (gLN A 1) (0+((Int.toNat (gI l 2))*1)) (List.getD (gLN A 1) (0+((Int.toNat (wr .i64 ((gI l 2)+(gI A 0))))*1)) 0)) (0+((Int.toNat (wr .i64 ((gI l 2)+(gI A 0))))*1)) (List.getD (gLN A 1) (0+((Int.toNat (gI l 2))*1)) 0)) (0+((Int.toNat (gI l 2))*1)) 0) (gLL A 3).length))
 (L84_10.b 0 [iG l 0,nG l 1,iG l 2,iG B 0,.I (((List.getD (gLL A 3) (List.getD (List.set (List.set (gLN A 1) (0+((Int.toNat (gI l 2))*1)) (List.getD (gLN A 1) (0+((Int.toNat (wr .i64 ((gI l 2)+(gI A 0))))*1)) 0)) (0+((Int.toNat (wr .i64 ((gI l 2)+(gI A 0))))*1)) (List.getD (gLN A 1) (0+((Int.toNat (gI l 2))*1)) 0)) (0+((Int.toNat (gI l 2))*1)) 0) []).length:Nat):Int),.I 0,vG l 3,.LN (List.set (List.set (gLN A 1) (0+((Int.toNat (gI l 2))*1)) (List.getD (gLN A 1) (0+((Int.toNat (wr .i64 ((gI l 2)+(gI A 0))))*1)) 0)) (0+((Int.toNat (wr .i64 ((gI l 2)+(gI A 0))))*1)) (List.getD (gLN A 1) (0+((Int.toNat (gI l 2))*1)) 0)),wG A 3,iG l 6,iG l 7,nG l 8,iG A 2]
 (fun j C=>(sw (L84_15.b 0 [iG C 0,nG C 1,iG C 2,nG C 1,.I (gN C 1),.I 0,vG C 3,uG C 4,wG C 5,iG C 6,iG C 7,nG C 8,iG C 9]
 (fun j D=>(sw (nx 1 [iG D 0,nG D 1,.I (wr .i64 ((gI D 2)+1)),vG D 3,uG D 4,wG D 5,iG D 6,iG D 7,nG D 8,iG D 9,.I (wr .i64 ((gI D 9)+1))])
 (fun _=>none)) j))
 (fun _=>none)) j))))
 (fun _=>none)) j))))))))))))))))
 (fun _=>none)) j))
 (S114_2 [.N 0,iG l 9]
 (fun j A=>(sw (br (ltI (gI A 0) 0)
 (nx 1 [iG l 0,nG l 1,iG l 2,vG l 3,uG l 4,wG l 5,iG l 6,iG l 7,nG l 8,iG A 1,.I (wr .i64 ((gI A 1)+1))])
 (ck (((leI 0 (wr .i64 ((gI l 2)+(gI A 0))))&&(ltI (wr .i64 ((gI l 2)+(gI A 0))) (((gN l 1):Nat):Int)))&&true)
 (ck ((ltN (0+((Int.toNat (wr .i64 ((gI l 2)+(gI A 0))))*1)) (gLN l 4).length)&&(ltN (List.getD (gLN l 4) (0+((Int.toNat (wr .i64 ((gI l 2)+(gI A 0))))*1)) 0) (gLL l 5).length))
 (ck (((leI 0 (gI l 2))&&(ltI (gI l 2) (gN l 1)))&&true)
 (ck ((ltN (0+((Int.toNat (gI l 2))*1)) (gLN l 4).length)&&(ltN (List.getD (gLN l 4) (0+((Int.toNat (gI l 2))*1)) 0) (gLL l 5).length))
 (ck (((leI 0 (gI l 2))&&(ltI (gI l 2) (gN l 1)))&&true)
 (ck ((((ltN (0+((Int.toNat (gI l 2))*1)) (gLN l 4).length)&&(ltN (List.getD (gLN l 4) (0+((Int.toNat (wr .i64 ((gI l 2)+(gI A 0))))*1)) 0) (gLL l 5).length))&&(eqM (List.getD (gLL l 5) (List.getD (gLN l 4) (0+((Int.toNat (wr .i64 ((gI l 2)+(gI A 0))))*1)) 0) []).length (List.getD (gLL l 5) (List.getD (gLN l 4) (0+((Int.toNat (wr .i64 ((gI l 2)+(gI A 0))))*1)) 0) []).length))&&true)
 (ck (((leI 0 (wr .i64 ((gI l 2)+(gI A 0))))&&(ltI (wr .i64 ((gI l 2)+(gI A 0))) (((gN l 1):Nat):Int)))&&true)
 (ck ((((ltN (0+((Int.toNat (wr .i64 ((gI l 2)+(gI A 0))))*1)) (List.set (gLN l 4) (0+((Int.toNat (gI l 2))*1)) (List.getD (gLN l 4) (0+((Int.toNat (wr .i64 ((gI l 2)+(gI A 0))))*1)) 0)).length)&&(ltN (List.getD (gLN l 4) (0+((Int.toNat (gI l 2))*1)) 0) (gLL l 5).length))&&(eqM (List.getD (gLL l 5) (List.getD (gLN l 4) (0+((Int.toNat (gI l 2))*1)) 0) []).length (List.getD (gLL l 5) (List.getD (gLN l 4) (0+((Int.toNat (gI l 2))*1)) 0) []).length))&&true)
 (ck (((leI 0 (gI l 2))&&(ltI (gI l 2) (gN l 1)))&&true)
 (ck ((ltN (0+((Int.toNat (gI l 2))*1)) (List.set (List.set (gLN l 4) (0+((Int.toNat (gI l 2))*1)) (List.getD (gLN l 4) (0+((Int.toNat (wr .i64 ((gI l 2)+(gI A 0))))*1)) 0)) (0+((Int.toNat (wr .i64 ((gI l 2)+(gI A 0))))*1)) (List.getD (gLN l 4) (0+((Int.toNat (gI l 2))*1)) 0)).length)&&(ltN (List.getD (List.set (List.set (gLN l 4) (0+((Int.toNat (gI l 2))*1)) (List.getD (gLN l 4) (0+((Int.toNat (wr .i64 ((gI l 2)+(gI A 0))))*1)) 0)) (0+((Int.toNat (wr .i64 ((gI l 2)+(gI A 0))))*1)) (List.getD (gLN l 4) (0+((Int.toNat (gI l 2))*1)) 0)) (0+((Int.toNat (gI l 2))*1)) 0) (gLL l 5).length))
 (ck (((leI 0 (gI A 1))&&(ltI (gI A 1) (((List.getD (gLL l 5) (List.getD (List.set (List.set (gLN l 4) (0+((Int.toNat (gI l 2))*1)) (List.getD (gLN l 4) (0+((Int.toNat (wr .i64 ((gI l 2)+(gI A 0))))*1)) 0)) (0+((Int.toNat (wr .i64 ((gI l 2)+(gI A 0))))*1)) (List.getD (gLN l 4) (0+((Int.toNat (gI l 2))*1)) 0)) (0+((Int.toNat (gI l 2))*1)) 0) []).length:Nat):Int)))&&true)
 (ck ((ltN (List.getD (List.set (List.set (gLN l 4) (0+((Int.toNat (gI l 2))*1)) (List.getD (gLN l 4) (0+((Int.toNat (wr .i64 ((gI l 2)+(gI A 0))))*1)) 0)) (0+((Int.toNat (wr .i64 ((gI l 2)+(gI A 0))))*1)) (List.getD (gLN l 4) (0+((Int.toNat (gI l 2))*1)) 0)) (0+((Int.toNat (gI l 2))*1)) 0) (gLL l 5).length)&&(ltN (0+((Int.toNat (gI A 1))*1)) (List.getD (gLL l 5) (List.getD (List.set (List.set (gLN l 4) (0+((Int.toNat (gI l 2))*1)) (List.getD (gLN l 4) (0+((Int.toNat (wr .i64 ((gI l 2)+(gI A 0))))*1)) 0)) (0+((Int.toNat (wr .i64 ((gI l 2)+(gI A 0))))*1)) (List.getD (gLN l 4) (0+((Int.toNat (gI l 2))*1)) 0)) (0+((Int.toNat (gI l 2))*1)) 0) []).length))
 (ck (((eqM (gN l 8) (List.take ((gN l 8)*1) (List.drop 0 (gL l 3))).length)&&true)&&true)
 (T116 [iG l 6,iG l 7,.L (List.take ((gN l 8)*1) (List.drop 0 (gL l 3))),.I (List.getD (List.getD (gLL l 5) (List.getD (List.set (List.set (gLN l 4) (0+((Int.toNat (gI l 2))*1)) (List.getD (gLN l 4) (0+((Int.toNat (wr .i64 ((gI l 2)+(gI A 0))))*1)) 0)) (0+((Int.toNat (wr .i64 ((gI l 2)+(gI A 0))))*1)) (List.getD (gLN l 4) (0+((Int.toNat (gI l 2))*1)) 0)) (0+((Int.toNat (gI l 2))*1)) 0) []) (0+((Int.toNat (gI A 1))*1)) 0)]
 (fun j B=>(sw (ck (((leI 0 (gI l 2))&&(ltI (gI l 2) (gN l 1)))&&true)
 (ck ((ltN (0+((Int.toNat (gI l 2))*1)) (List.set (List.set (gLN l 4) (0+((Int.toNat (gI l 2))*1)) (List.getD (gLN l 4) (0+((Int.toNat (wr .i64 ((gI l 2)+(gI A 0))))*1)) 0)) (0+((Int.toNat (wr .i64 ((gI l 2)+(gI A 0))))*1)) (List.getD (gLN l 4) (0+((Int.toNat (gI l 2))*1)) 0)).length)&&(ltN (List.getD (List.set (List.set (gLN l 4) (0+((Int.toNat (gI l 2))*1)) (List.getD (gLN l 4) (0+((Int.toNat (wr .i64 ((gI l 2)+(gI A 0))))*1)) 0)) (0+((Int.toNat (wr .i64 ((gI l 2)+(gI A 0))))*1)) (List.getD (gLN l 4) (0+((Int.toNat (gI l 2))*1)) 0)) (0+((Int.toNat (gI l 2))*1)) 0) (gLL l 5).length))
 (L84_10.b 0 [iG l 0,nG l 1,iG l 2,iG B 0,.I (((List.getD (gLL l 5) (List.getD (List.set (List.set (gLN l 4) (0+((Int.toNat (gI l 2))*1)) (List.getD (gLN l 4) (0+((Int.toNat (wr .i64 ((gI l 2)+(gI A 0))))*1)) 0)) (0+((Int.toNat (wr .i64 ((gI l 2)+(gI A 0))))*1)) (List.getD (gLN l 4) (0+((Int.toNat (gI l 2))*1)) 0)) (0+((Int.toNat (gI l 2))*1)) 0) []).length:Nat):Int),.I 0,vG l 3,.LN (List.set (List.set (gLN l 4) (0+((Int.toNat (gI l 2))*1)) (List.getD (gLN l 4) (0+((Int.toNat (wr .i64 ((gI l 2)+(gI A 0))))*1)) 0)) (0+((Int.toNat (wr .i64 ((gI l 2)+(gI A 0))))*1)) (List.getD (gLN l 4) (0+((Int.toNat (gI l 2))*1)) 0)),wG l 5,iG l 6,iG l 7,nG l 8,iG A 1]
 (fun j C=>(sw (L84_15.b 0 [iG C 0,nG C 1,iG C 2,nG C 1,.I (gN C 1),.I 0,vG C 3,uG C 4,wG C 5,iG C 6,iG C 7,nG C 8,iG C 9]
 (fun j D=>(sw (nx 1 [iG D 0,nG D 1,.I (wr .i64 ((gI D 2)+1)),vG D 3,uG D 4,wG D 5,iG D 6,iG D 7,nG D 8,iG D 9,.I (wr .i64 ((gI D 9)+1))])
 (fun _=>none)) j))
 (fun _=>none)) j))))
 (fun _=>none)) j))))))))))))))))
 (fun _=>none)) j))))
 (ex 0 [nG l 1,iG l 2,vG l 3,uG l 4,wG l 5,iG l 6,iG l 7,nG l 8,iG l 9]))
 (ex 0 [nG l 1,iG l 2,vG l 3,uG l 4,wG l 5,iG l 6,iG l 7,nG l 8,iG l 9])
theorem L84_3.e0:LEq L84_3.O L84_3.H 0 L84_3.s0:=by intro τ next κ l;kernel_rfl
def L84_3.s1:Option τ :=
 br (ltI (gI l 10) (gI l 0))
 (br (ltI (gI l 2) (gN l 1))
 (ck ((((((leI 0 (gI l 2))&&(leI (gI l 2) (gN l 1)))&&(leI (((gN l 1):Nat):Int) (((gN l 1):Nat):Int)))&&(leI (((gN l 1):Nat):Int) (((gN l 1):Nat):Int)))&&true)&&true)
 (br (ltI (gI l 2) (gN l 1))
 (S114_1 [.N (0+((Int.toNat (gI l 2))*1)),.N ((Int.toNat (((gN l 1):Nat):Int))-(Int.toNat (gI l 2))),uG l 4,iG l 10,wG l 5]
 (fun j A=>(sw (br (ltI (gI A 0) 0)
 (nx 1 [iG l 0,nG l 1,iG l 2,vG l 3,uG A 1,wG A 3,iG l 6,iG l 7,nG l 8,iG l 9,.I (wr .i64 ((gI A 2)+1))])
 (ck (((leI 0 (wr .i64 ((gI l 2)+(gI A 0))))&&(ltI (wr .i64 ((gI l 2)+(gI A 0))) (((gN l 1):Nat):Int)))&&true)
 (ck ((ltN (0+((Int.toNat (wr .i64 ((gI l 2)+(gI A 0))))*1)) (gLN A 1).length)&&(ltN (List.getD (gLN A 1) (0+((Int.toNat (wr .i64 ((gI l 2)+(gI A 0))))*1)) 0) (gLL A 3).length))
 (ck (((leI 0 (gI l 2))&&(ltI (gI l 2) (gN l 1)))&&true)
 (ck ((ltN (0+((Int.toNat (gI l 2))*1)) (gLN A 1).length)&&(ltN (List.getD (gLN A 1) (0+((Int.toNat (gI l 2))*1)) 0) (gLL A 3).length))
 (ck (((leI 0 (gI l 2))&&(ltI (gI l 2) (gN l 1)))&&true)
 (ck ((((ltN (0+((Int.toNat (gI l 2))*1)) (gLN A 1).length)&&(ltN (List.getD (gLN A 1) (0+((Int.toNat (wr .i64 ((gI l 2)+(gI A 0))))*1)) 0) (gLL A 3).length))&&(eqM (List.getD (gLL A 3) (List.getD (gLN A 1) (0+((Int.toNat (wr .i64 ((gI l 2)+(gI A 0))))*1)) 0) []).length (List.getD (gLL A 3) (List.getD (gLN A 1) (0+((Int.toNat (wr .i64 ((gI l 2)+(gI A 0))))*1)) 0) []).length))&&true)
 (ck (((leI 0 (wr .i64 ((gI l 2)+(gI A 0))))&&(ltI (wr .i64 ((gI l 2)+(gI A 0))) (((gN l 1):Nat):Int)))&&true)
 (ck ((((ltN (0+((Int.toNat (wr .i64 ((gI l 2)+(gI A 0))))*1)) (List.set (gLN A 1) (0+((Int.toNat (gI l 2))*1)) (List.getD (gLN A 1) (0+((Int.toNat (wr .i64 ((gI l 2)+(gI A 0))))*1)) 0)).length)&&(ltN (List.getD (gLN A 1) (0+((Int.toNat (gI l 2))*1)) 0) (gLL A 3).length))&&(eqM (List.getD (gLL A 3) (List.getD (gLN A 1) (0+((Int.toNat (gI l 2))*1)) 0) []).length (List.getD (gLL A 3) (List.getD (gLN A 1) (0+((Int.toNat (gI l 2))*1)) 0) []).length))&&true)
 (ck (((leI 0 (gI l 2))&&(ltI (gI l 2) (gN l 1)))&&true)
 (ck ((ltN (0+((Int.toNat (gI l 2))*1)) (List.set (List.set (gLN A 1) (0+((Int.toNat (gI l 2))*1)) (List.getD (gLN A 1) (0+((Int.toNat (wr .i64 ((gI l 2)+(gI A 0))))*1)) 0)) (0+((Int.toNat (wr .i64 ((gI l 2)+(gI A 0))))*1)) (List.getD (gLN A 1) (0+((Int.toNat (gI l 2))*1)) 0)).length)&&(ltN (List.getD (List.set (List.set (gLN A 1) (0+((Int.toNat (gI l 2))*1)) (List.getD (gLN A 1) (0+((Int.toNat (wr .i64 ((gI l 2)+(gI A 0))))*1)) 0)) (0+((Int.toNat (wr .i64 ((gI l 2)+(gI A 0))))*1)) (List.getD (gLN A 1) (0+((Int.toNat (gI l 2))*1)) 0)) (0+((Int.toNat (gI l 2))*1)) 0) (gLL A 3).length))
 (ck (((leI 0 (gI A 2))&&(ltI (gI A 2) (((List.getD (gLL A 3) (List.getD (List.set (List.set (gLN A 1) (0+((Int.toNat (gI l 2))*1)) (List.getD (gLN A 1) (0+((Int.toNat (wr .i64 ((gI l 2)+(gI A 0))))*1)) 0)) (0+((Int.toNat (wr .i64 ((gI l 2)+(gI A 0))))*1)) (List.getD (gLN A 1) (0+((Int.toNat (gI l 2))*1)) 0)) (0+((Int.toNat (gI l 2))*1)) 0) []).length:Nat):Int)))&&true)
 (ck ((ltN (List.getD (List.set (List.set (gLN A 1) (0+((Int.toNat (gI l 2))*1)) (List.getD (gLN A 1) (0+((Int.toNat (wr .i64 ((gI l 2)+(gI A 0))))*1)) 0)) (0+((Int.toNat (wr .i64 ((gI l 2)+(gI A 0))))*1)) (List.getD (gLN A 1) (0+((Int.toNat (gI l 2))*1)) 0)) (0+((Int.toNat (gI l 2))*1)) 0) (gLL A 3).length)&&(ltN (0+((Int.toNat (gI A 2))*1)) (List.getD (gLL A 3) (List.getD (List.set (List.set (gLN A 1) (0+((Int.toNat (gI l 2))*1)) (List.getD (gLN A 1) (0+((Int.toNat (wr .i64 ((gI l 2)+(gI A 0))))*1)) 0)) (0+((Int.toNat (wr .i64 ((gI l 2)+(gI A 0))))*1)) (List.getD (gLN A 1) (0+((Int.toNat (gI l 2))*1)) 0)) (0+((Int.toNat (gI l 2))*1)) 0) []).length))
 (ck (((eqM (gN l 8) (List.take ((gN l 8)*1) (List.drop 0 (gL l 3))).length)&&true)&&true)
 (T116 [iG l 6,iG l 7,.L (List.take ((gN l 8)*1) (List.drop 0 (gL l 3))),.I (List.getD (List.getD (gLL A 3) (List.getD (List.set (List.set (gLN A 1) (0+((Int.toNat (gI l 2))*1)) (List.getD (gLN A 1) (0+((Int.toNat (wr .i64 ((gI l 2)+(gI A 0))))*1)) 0)) (0+((Int.toNat (wr .i64 ((gI l 2)+(gI A 0))))*1)) (List.getD (gLN A 1) (0+((Int.toNat (gI l 2))*1)) 0)) (0+((Int.toNat (gI l 2))*1)) 0) []) (0+((Int.toNat (gI A 2))*1)) 0)]
 (fun j B=>(sw (ck (((leI 0 (gI l 2))&&(ltI (gI l 2) (gN l 1)))&&true)
 (ck ((ltN (0+((Int.toNat (gI l 2))*1)) (List.set (List.set (gLN A 1) (0+((Int.toNat (gI l 2))*1)) (List.getD (gLN A 1) (0+((Int.toNat (wr .i64 ((gI l 2)+(gI A 0))))*1)) 0)) (0+((Int.toNat (wr .i64 ((gI l 2)+(gI A 0))))*1)) (List.getD (gLN A 1) (0+((Int.toNat (gI l 2))*1)) 0)).length)&&(ltN (List.getD (List.set (List.set (gLN A 1) (0+((Int.toNat (gI l 2))*1)) (List.getD (gLN A 1) (0+((Int.toNat (wr .i64 ((gI l 2)+(gI A 0))))*1)) 0)) (0+((Int.toNat (wr .i64 ((gI l 2)+(gI A 0))))*1)) (List.getD (gLN A 1) (0+((Int.toNat (gI l 2))*1)) 0)) (0+((Int.toNat (gI l 2))*1)) 0) (gLL A 3).length))
 (L84_10_1.b 0 [iG l 0,nG l 1,iG l 2,iG B 0,.I (((List.getD (gLL A 3) (List.getD (List.set (List.set (gLN A 1) (0+((Int.toNat (gI l 2))*1)) (List.getD (gLN A 1) (0+((Int.toNat (wr .i64 ((gI l 2)+(gI A 0))))*1)) 0)) (0+((Int.toNat (wr .i64 ((gI l 2)+(gI A 0))))*1)) (List.getD (gLN A 1) (0+((Int.toNat (gI l 2))*1)) 0)) (0+((Int.toNat (gI l 2))*1)) 0) []).length:Nat):Int),.I 0,vG l 3,.LN (List.set (List.set (gLN A 1) (0+((Int.toNat (gI l 2))*1)) (List.getD (gLN A 1) (0+((Int.toNat (wr .i64 ((gI l 2)+(gI A 0))))*1)) 0)) (0+((Int.toNat (wr .i64 ((gI l 2)+(gI A 0))))*1)) (List.getD (gLN A 1) (0+((Int.toNat (gI l 2))*1)) 0)),wG A 3,iG l 6,iG l 7,nG l 8,iG l 9,iG A 2]
 (fun j C=>(sw (L84_15_1.b 0 [iG C 0,nG C 1,iG C 2,nG C 1,.I (gN C 1),.I 0,vG C 3,uG C 4,wG C 5,iG C 6,iG C 7,nG C 8,iG C 9,iG C 10]
 (fun j D=>(sw (nx 1 [iG D 0,nG D 1,.I (wr .i64 ((gI D 2)+1)),vG D 3,uG D 4,wG D 5,iG D 6,iG D 7,nG D 8,iG D 9,.I (wr .i64 ((gI D 10)+1))])
 (fun _=>none)) j))
 (fun _=>none)) j))))
 (fun _=>none)) j))))))))))))))))
 (fun _=>none)) j))
 (S114_2 [.N 0,iG l 10]
 (fun j A=>(sw (br (ltI (gI A 0) 0)
 (nx 1 [iG l 0,nG l 1,iG l 2,vG l 3,uG l 4,wG l 5,iG l 6,iG l 7,nG l 8,iG l 9,.I (wr .i64 ((gI A 1)+1))])
 (ck (((leI 0 (wr .i64 ((gI l 2)+(gI A 0))))&&(ltI (wr .i64 ((gI l 2)+(gI A 0))) (((gN l 1):Nat):Int)))&&true)
 (ck ((ltN (0+((Int.toNat (wr .i64 ((gI l 2)+(gI A 0))))*1)) (gLN l 4).length)&&(ltN (List.getD (gLN l 4) (0+((Int.toNat (wr .i64 ((gI l 2)+(gI A 0))))*1)) 0) (gLL l 5).length))
 (ck (((leI 0 (gI l 2))&&(ltI (gI l 2) (gN l 1)))&&true)
 (ck ((ltN (0+((Int.toNat (gI l 2))*1)) (gLN l 4).length)&&(ltN (List.getD (gLN l 4) (0+((Int.toNat (gI l 2))*1)) 0) (gLL l 5).length))
 (ck (((leI 0 (gI l 2))&&(ltI (gI l 2) (gN l 1)))&&true)
 (ck ((((ltN (0+((Int.toNat (gI l 2))*1)) (gLN l 4).length)&&(ltN (List.getD (gLN l 4) (0+((Int.toNat (wr .i64 ((gI l 2)+(gI A 0))))*1)) 0) (gLL l 5).length))&&(eqM (List.getD (gLL l 5) (List.getD (gLN l 4) (0+((Int.toNat (wr .i64 ((gI l 2)+(gI A 0))))*1)) 0) []).length (List.getD (gLL l 5) (List.getD (gLN l 4) (0+((Int.toNat (wr .i64 ((gI l 2)+(gI A 0))))*1)) 0) []).length))&&true)
 (ck (((leI 0 (wr .i64 ((gI l 2)+(gI A 0))))&&(ltI (wr .i64 ((gI l 2)+(gI A 0))) (((gN l 1):Nat):Int)))&&true)
 (ck ((((ltN (0+((Int.toNat (wr .i64 ((gI l 2)+(gI A 0))))*1)) (List.set (gLN l 4) (0+((Int.toNat (gI l 2))*1)) (List.getD (gLN l 4) (0+((Int.toNat (wr .i64 ((gI l 2)+(gI A 0))))*1)) 0)).length)&&(ltN (List.getD (gLN l 4) (0+((Int.toNat (gI l 2))*1)) 0) (gLL l 5).length))&&(eqM (List.getD (gLL l 5) (List.getD (gLN l 4) (0+((Int.toNat (gI l 2))*1)) 0) []).length (List.getD (gLL l 5) (List.getD (gLN l 4) (0+((Int.toNat (gI l 2))*1)) 0) []).length))&&true)
 (ck (((leI 0 (gI l 2))&&(ltI (gI l 2) (gN l 1)))&&true)
 (ck ((ltN (0+((Int.toNat (gI l 2))*1)) (List.set (List.set (gLN l 4) (0+((Int.toNat (gI l 2))*1)) (List.getD (gLN l 4) (0+((Int.toNat (wr .i64 ((gI l 2)+(gI A 0))))*1)) 0)) (0+((Int.toNat (wr .i64 ((gI l 2)+(gI A 0))))*1)) (List.getD (gLN l 4) (0+((Int.toNat (gI l 2))*1)) 0)).length)&&(ltN (List.getD (List.set (List.set (gLN l 4) (0+((Int.toNat (gI l 2))*1)) (List.getD (gLN l 4) (0+((Int.toNat (wr .i64 ((gI l 2)+(gI A 0))))*1)) 0)) (0+((Int.toNat (wr .i64 ((gI l 2)+(gI A 0))))*1)) (List.getD (gLN l 4) (0+((Int.toNat (gI l 2))*1)) 0)) (0+((Int.toNat (gI l 2))*1)) 0) (gLL l 5).length))
 (ck (((leI 0 (gI A 1))&&(ltI (gI A 1) (((List.getD (gLL l 5) (List.getD (List.set (List.set (gLN l 4) (0+((Int.toNat (gI l 2))*1)) (List.getD (gLN l 4) (0+((Int.toNat (wr .i64 ((gI l 2)+(gI A 0))))*1)) 0)) (0+((Int.toNat (wr .i64 ((gI l 2)+(gI A 0))))*1)) (List.getD (gLN l 4) (0+((Int.toNat (gI l 2))*1)) 0)) (0+((Int.toNat (gI l 2))*1)) 0) []).length:Nat):Int)))&&true)
 (ck ((ltN (List.getD (List.set (List.set (gLN l 4) (0+((Int.toNat (gI l 2))*1)) (List.getD (gLN l 4) (0+((Int.toNat (wr .i64 ((gI l 2)+(gI A 0))))*1)) 0)) (0+((Int.toNat (wr .i64 ((gI l 2)+(gI A 0))))*1)) (List.getD (gLN l 4) (0+((Int.toNat (gI l 2))*1)) 0)) (0+((Int.toNat (gI l 2))*1)) 0) (gLL l 5).length)&&(ltN (0+((Int.toNat (gI A 1))*1)) (List.getD (gLL l 5) (List.getD (List.set (List.set (gLN l 4) (0+((Int.toNat (gI l 2))*1)) (List.getD (gLN l 4) (0+((Int.toNat (wr .i64 ((gI l 2)+(gI A 0))))*1)) 0)) (0+((Int.toNat (wr .i64 ((gI l 2)+(gI A 0))))*1)) (List.getD (gLN l 4) (0+((Int.toNat (gI l 2))*1)) 0)) (0+((Int.toNat (gI l 2))*1)) 0) []).length))
 (ck (((eqM (gN l 8) (List.take ((gN l 8)*1) (List.drop 0 (gL l 3))).length)&&true)&&true)
 (T116 [iG l 6,iG l 7,.L (List.take ((gN l 8)*1) (List.drop 0 (gL l 3))),.I (List.getD (List.getD (gLL l 5) (List.getD (List.set (List.set (gLN l 4) (0+((Int.toNat (gI l 2))*1)) (List.getD (gLN l 4) (0+((Int.toNat (wr .i64 ((gI l 2)+(gI A 0))))*1)) 0)) (0+((Int.toNat (wr .i64 ((gI l 2)+(gI A 0))))*1)) (List.getD (gLN l 4) (0+((Int.toNat (gI l 2))*1)) 0)) (0+((Int.toNat (gI l 2))*1)) 0) []) (0+((Int.toNat (gI A 1))*1)) 0)]
 (fun j B=>(sw (ck (((leI 0 (gI l 2))&&(ltI (gI l 2) (gN l 1)))&&true)
 (ck ((ltN (0+((Int.toNat (gI l 2))*1)) (List.set (List.set (gLN l 4) (0+((Int.toNat (gI l 2))*1)) (List.getD (gLN l 4) (0+((Int.toNat (wr .i64 ((gI l 2)+(gI A 0))))*1)) 0)) (0+((Int.toNat (wr .i64 ((gI l 2)+(gI A 0))))*1)) (List.getD (gLN l 4) (0+((Int.toNat (gI l 2))*1)) 0)).length)&&(ltN (List.getD (List.set (List.set (gLN l 4) (0+((Int.toNat (gI l 2))*1)) (List.getD (gLN l 4) (0+((Int.toNat (wr .i64 ((gI l 2)+(gI A 0))))*1)) 0)) (0+((Int.toNat (wr .i64 ((gI l 2)+(gI A 0))))*1)) (List.getD (gLN l 4) (0+((Int.toNat (gI l 2))*1)) 0)) (0+((Int.toNat (gI l 2))*1)) 0) (gLL l 5).length))
 (L84_10_1.b 0 [iG l 0,nG l 1,iG l 2,iG B 0,.I (((List.getD (gLL l 5) (List.getD (List.set (List.set (gLN l 4) (0+((Int.toNat (gI l 2))*1)) (List.getD (gLN l 4) (0+((Int.toNat (wr .i64 ((gI l 2)+(gI A 0))))*1)) 0)) (0+((Int.toNat (wr .i64 ((gI l 2)+(gI A 0))))*1)) (List.getD (gLN l 4) (0+((Int.toNat (gI l 2))*1)) 0)) (0+((Int.toNat (gI l 2))*1)) 0) []).length:Nat):Int),.I 0,vG l 3,.LN (List.set (List.set (gLN l 4) (0+((Int.toNat (gI l 2))*1)) (List.getD (gLN l 4) (0+((Int.toNat (wr .i64 ((gI l 2)+(gI A 0))))*1)) 0)) (0+((Int.toNat (wr .i64 ((gI l 2)+(gI A 0))))*1)) (List.getD (gLN l 4) (0+((Int.toNat (gI l 2))*1)) 0)),wG l 5,iG l 6,iG l 7,nG l 8,iG l 9,iG A 1]
 (fun j C=>(sw (L84_15_1.b 0 [iG C 0,nG C 1,iG C 2,nG C 1,.I (gN C 1),.I 0,vG C 3,uG C 4,wG C 5,iG C 6,iG C 7,nG C 8,iG C 9,iG C 10]
 (fun j D=>(sw (nx 1 [iG D 0,nG D 1,.I (wr .i64 ((gI D 2)+1)),vG D 3,uG D 4,wG D 5,iG D 6,iG D 7,nG D 8,iG D 9,.I (wr .i64 ((gI D 10)+1))])
 (fun _=>none)) j))
 (fun _=>none)) j))))
 (fun _=>none)) j))))))))))))))))
 (fun _=>none)) j))))
 (ex 0 [nG l 1,iG l 2,vG l 3,uG l 4,wG l 5,iG l 6,iG l 7,nG l 8,iG l 9]))
 (ex 0 [nG l 1,iG l 2,vG l 3,uG l 4,wG l 5,iG l 6,iG l 7,nG l 8,iG l 9])
theorem L84_3.e1:LEq L84_3.O L84_3.H 1 L84_3.s1:=by intro τ next κ l;kernel_rfl
def L84_3:LStep P Cf:=LStep.mk2 (by decide) L84_3.e0 L84_3.e1
def L84_3.b:Option τ:=runE L84_3 fuel κ t l
def L84_3.E:LEnt P:=LStep.E L84_3
def S84_0.H:SHead:=⟨55,[(PV2.agg [iI,iI,(r1 0)]),pI,(rr 1)],[],mo5Xb,[((rr 1),mo5Xb),((PV2.v (PV1.sl PC0.e)),mo5Xb)]⟩
def S84_0.O:Orc P:=⟨[],[L84_3.E],[],40⟩
def S84_0:Option τ :=
 L84_3.b 0 [iG l 3,nG l 4,.I 0,vG l 5,uG l 6,wG l 7,iG l 0,iG l 1,nG l 2,.I 0]
 (fun j A=>(sw (ck (((((leI 0 (gI A 1))&&(leI (gI A 1) (gI A 1)))&&(leI (gI A 1) (gN A 0)))&&true)&&true)
 (br (ltI 0 (gI A 1))
 (k 0 [.N ((Int.toNat (gI A 1))-0),vG A 2,uG A 3,wG A 4])
 (k 1 [.N 0,vG A 2,uG A 3,wG A 4])))
 (fun _=>none)) j)
theorem S84_0.eq:SEq S84_0.O S84_0.H S84_0:=by intro τ l κ;kernel_rfl
def S84_0.next:SDyn P S84_0.H:=mkS S84_0.eq
def S84_0.E:SEnt P:=⟨S84_0.H,S84_0.next⟩
end
end Go.Proofs.Yticbdgmcofjkeaa.Ai
namespace Go.Proofs.Yticbdgmcofjkeaa.Ai
open Go Go.RowKit
noncomputable section
variable {τ:Type} (t:Nat) (nx ex:Nat→LS_→Option τ) (l:LS_) (k κ:Nat→LS_→Option τ)
def L48_3.H:LHead:=⟨false,true,0,139267,139267,206,12,0,[(PS.mk (us 1 ((pp 0)::pI::pI::us 2 (pI::pI::us 13 []))) [(oG [pI,pI,qM])])],[(Out.ret,(PS.mk (us 2 (pI::pI::us 17 [])) [])),((Out.exit 0),(PS.mk (us 2 (pI::pI::us 17 [])) []))]⟩
def L48_3.O:Orc P:=⟨[],[],[],40⟩
def L48_3.s0:Option τ :=
 br (ltI (gI l 3) (gI l 2))
 (br (gtI (wr .i64 ((gI l 1)*(gI l 4))) 4096)
 (ex 0 [.I 4097,.I (wr .i64 ((gI l 1)*(gI l 4)))])
 (br (ltI (wr .i64 ((gI l 1)*(gI l 4))) 1)
 (ex 0 [.I 4097,.I (wr .i64 ((gI l 1)*(gI l 4)))])
 (nx 0 [iG l 0,.I (wr .i64 ((gI l 1)*(gI l 4))),iG l 2,.I (wr .i64 ((gI l 3)+1)),iG l 4,iG l 5,nG l 6,wG l 7])))
 (ex 1 [iG l 0,iG l 1])
theorem L48_3.e0:LEq L48_3.O L48_3.H 0 L48_3.s0:=by intro τ next κ l;kernel_rfl
def L48_3:LStep P Cf:=LStep.mk1 (by decide) L48_3.e0
def L48_3.b:Option τ:=runE L48_3 fuel κ t l
def L48_3.E:LEnt P:=LStep.E L48_3
def F48.ps:List PV2:=[(PV2.agg [iI,iI,aM])]
def F48.sh:List PA:=[(PA.mk (PV3.v pI) [])]
def F48.O:Orc P:=⟨[],[L48_3.E],[],40⟩
def F48:Option τ :=
 L48_3.b 0 [.I 0,.I 1,.I (((gLL l 2).length:Nat):Int),.I 0,iG l 0,iG l 1,.N (gLL l 2).length,wG l 2]
 (fun j A=>(sw (k 0 [iG A 0])
 (sw (k 0 [iG A 1])
 (fun _=>none))) j)
theorem F48.eq:FEq F48.O 34 F48.ps F48.sh F48:=by intro τ l κ;kernel_rfl
def F48.E:Ent P:=mkF F48.eq
def F71.ps:List PV2:=[pR]
def F71.sh:List PA:=[(PA.mk (PV3.v (rr 0)) [cI])]
def F71.O:Orc P:=⟨[],[],[],40⟩
def F71:Option τ :=
 ck (ltN 0 (gL l 0).length)
 (ck (((eqM (gL l 0).length ((gL l 0).length*1))&&(leN ((0+(gL l 0).length)*9) 1099511627776))&&true)
 (k 0 [.N (0+(gL l 0).length),.L ([]++(gL l 0))]))
theorem F71.eq:FEq F71.O 87 F71.ps F71.sh F71:=by intro τ l κ;kernel_rfl
def F71.E:Ent P:=mkF F71.eq
end
end Go.Proofs.Yticbdgmcofjkeaa.Ai
namespace Go.Proofs.Yticbdgmcofjkeaa.Ai
open Go Go.RowKit
noncomputable section
def isE (o:Option Ans):Bool:=match o with
 | some ⟨.nilS,[]⟩=>true
 | some ⟨.ref 0 0 0 0 1,[.i .i64 []]⟩=>true
 | _=>false
theorem isE_ok {f:FuncId} {a:List AV} (h:isE (runC P Cf [] 60 f a)=true):CS P f a ⟨.sl 0 (.g []),[]⟩:=by
 unfold isE at h
 split at h
 ·rename_i e
  exact (runC_ok cfgOk e).weakA AVLe.nilS rfl
 ·rename_i e
  exact ((runC_ok cfgOk e).froze (v':=.sl 0 (.i .i64 [])) rfl rfl rfl).weakA AVLe.sl0 rfl
 ·cases h
theorem e71n:isE (runC P Cf [] 60 87 [.nilS])=true:=by kernel_rfl
theorem e71z:isE (runC P Cf [] 60 87 [.nz])=true:=by kernel_rfl
theorem cs71 (c:Cells):CS P 87 [.sl 0 c] ⟨.sl 0 (.g []),[]⟩:=by
 intro n W F args hF ha
 have h0:=ha.2 0 (by simp)
 have go:∀ a:AV,Rel noMap F W a (args.getD 0 Go.undef)→RelL noMap F W [a] args:=fun a h=>⟨ha.1,fun j hj=>by
  have:j=0:=by simpa using hj
  subst this
  exact h⟩
 have hv:Rel noMap F W .nilS (args.getD 0 Go.undef)∨Rel noMap F W .nz (args.getD 0 Go.undef):=by
  generalize args.getD 0 Go.undef=v at h0
  have h1:Rel noMap F W (.sl 0 c) v:=h0
  cases h1 with
  | sl0 _ A cap hA =>
   cases A with
   | none=>rw [hA rfl];exact .inl .nilS
   | some a=>exact .inr (.nz a cap)
  | sl u hn hF' hc hr=>exact .inr (.nz _ _)
 rcases hv with h | h
 ·exact isE_ok e71n n W F args hF (go _ h)
 ·exact isE_ok e71z n W F args hF (go _ h)
def T71 {τ:Type} (l:LS_) (k:Nat→LS_→Option τ):Option τ:=br (ltN 0 (gL l 0).length) (F71 l k) (k 1 [.N 0])
def T71.E:Ent P:=⟨87,[pR],[(PA.mk (PV3.v (rr 0)) [cI]),(PA.mk (PV3.v (.v (.sl .e))) [])],fun l k=>T71 l k,fun ls κ r h=>by
 unfold T71 at h
 by_cases hl:0<(gL ls 0).length
 ·rw [br_of (by simpa using hl)] at h
  exact F71.E.ok ls κ r h
 ·rw [br_no (by simpa using hl)] at h
  refine ⟨_,?_,h⟩
  have e:fL2 ls [pR] 0=[.sl 0 (.i .i64 (gL ls 0))]:=by
   show [AV.sl (gL ls 0).length (.i .i64 (gL ls 0))]=_
   rw [show (gL ls 0).length=0 by omega]
  rw [e]
  exact cs71 _⟩
theorem T71_spec {x:List Int} (h1:x.length<2^30) {τ:Type} (k:Nat→LS_→Option τ):T71 [.L x] k=if x=[] then k 1 [.N 0] else k 0 [.N x.length,.L x]:=by
 unfold T71
 by_cases h0:x=[]
 ·subst h0;rfl
 ·have:0<x.length:=List.length_pos_iff.2 h0
  rw [if_neg h0,br_of (by simpa using this)]
  unfold F71
  simp only [g_,Int.toNat_natCast,Nat.mul_one,Nat.zero_add,List.drop_zero,List.take_length,List.nil_append,h_]
  rw [ck_of (by simp;omega),ck_of (by simp;omega)]
abbrev qReply:PV2:=.agg [.int .i64,.int .i64,.arr (.i .i64),.arr (.m .i64)]
abbrev qB8:PV2:=.v (.arr (.i .u8))
end
end Go.Proofs.Yticbdgmcofjkeaa.Ai
namespace Go.Proofs.Yticbdgmcofjkeaa.Ai
open Go Go.RowKit
abbrev qOver:PV2:=.agg [.int .i64,.int .i64,.arr (.i .i64),.int .i64]
abbrev qRaw33:PV2:=.agg [.int .u8,.int .u8,.arr (.i .u8),.ar2 .u8,.arr (.i .u8)]
abbrev qCoded:PV2:=.agg [.int .i64,.int .i64,.arr (.m .i64),.int .i64]
abbrev qWorded:PV2:=.agg [.arr (.i .i64),.int .i64]
abbrev qAns:PV2:=.agg [.int .i64,.int .i64,.arr (.i .i64),.arr (.m .i64),.int .i64]
abbrev q22:PV2:=.agg [.int .i64,.int .i64]
end Go.Proofs.Yticbdgmcofjkeaa.Ai
namespace Go.Proofs.Yticbdgmcofjkeaa.Ai
open Go Go.RowKit
noncomputable section
variable {τ:Type} (t:Nat) (nx ex:Nat→LS_→Option τ) (l:LS_) (k κ:Nat→LS_→Option τ)
def kao0:List PO:=[(oG [pI,pI,qR]),(oG [pI]),(oG [pI]),(oG [qR]),(PO.loop false [(PV2.agg [iI,iI,(PV1.sl (PC0.i .i64))]),qR,pI,(pp 0),n_,(pp 1),pI,(pp 2),n_,n_,qR,(PV2.fn 149 [(p1 3)]),n_,n_,n_,n_,n_,n_,n_,n_,n_,n_] [12,13] (rfA 129 0) (rfB 129 0) 2097344 true Out.normal)]
def L288_2.H:LHead:=⟨false,true,0,532482,532482,9,9,0,[(PS.mk (qR::us 2 (pI::us 18 [])) [])],[((Out.exit 0),(PS.mk (qR::us 2 (pI::us 18 [])) []))]⟩
def L288_2.O:Orc P:=⟨[],[],[],40⟩
def L288_2.s0:Option τ :=
 br (gtI (gI l 2) 0)
 (ck (((leI 0 (wr .i64 ((gI l 2)-1)))&&(ltI (wr .i64 ((gI l 2)-1)) (((gN l 0):Nat):Int)))&&true)
 (ck (ltN ((Int.toNat (wr .i64 ((gI l 2)-1)))*1) (gL l 1).length)
 (br ((List.getD (gL l 1) ((Int.toNat (wr .i64 ((gI l 2)-1)))*1) 0)==0)
 (nx 0 [nG l 0,vG l 1,.I (wr .i64 ((gI l 2)-1))])
 (ex 0 [nG l 0,vG l 1,iG l 2]))))
 (ex 0 [nG l 0,vG l 1,iG l 2])
theorem L288_2.e0:LEq L288_2.O L288_2.H 0 L288_2.s0:=by intro τ next κ l;kernel_rfl
def L288_2:LStep P Cf:=LStep.mk1 (by decide) L288_2.e0
def L288_2.b:Option τ:=runE L288_2 fuel κ t l
def L288_2.E:LEnt P:=LStep.E L288_2
def F288.ps:List PV2:=[pR]
def F288.sh:List PA:=[(PA.mk (PV3.v (rr 0)) [cI]),(PA.mk (PV3.v (PV2.v (PV1.sl PC0.e))) [])]
def F288.O:Orc P:=⟨[T71.E],[L288_2.E],[],40⟩
def F288:Option τ :=
 L288_2.b 0 [.N (gL l 0).length,vG l 0,.I (((gL l 0).length:Nat):Int)]
 (fun j A=>(sw (ck (((((leI 0 (gI A 2))&&(leI (gI A 2) (gI A 2)))&&(leI (gI A 2) (gN A 0)))&&(eqM (gL A 1).length ((gN A 0)*1)))&&true)
 (ck ((eqM ((Int.toNat (gI A 2))-0) (List.take (((Int.toNat (gI A 2))-0)*1) (List.drop 0 (gL A 1))).length)&&true)
 (T71 [.L (List.take (((Int.toNat (gI A 2))-0)*1) (List.drop 0 (gL A 1)))]
 (fun j B=>(sw (k 0 [nG B 0,vG B 1])
 (sw (k 1 [nG B 0])
 (fun _=>none))) j))))
 (fun _=>none)) j)
theorem F288.eq:FEq F288.O 130 F288.ps F288.sh F288:=by intro τ l κ;kernel_rfl
def F288.E:Ent P:=mkF F288.eq
def L305_1.H:LHead:=⟨false,false,5,610305,610305,11,0,0,[(PS.mk ((PV2.v (PV1.yld 4))::(pp 3)::us 1 (pI::us 15 [])) kao0)],[((Out.exit 0),(PS.mk (us 19 []) kao0))]⟩
def L305_1.O:Orc P:=⟨[T104.E,T103.E],[],[],40⟩
def L305_1.s0:Option τ :=
 br (geI (gI l 0) 0)
 (ck (((leI 0 (gI l 0))&&(ltI (gI l 0) (gN l 7)))&&true)
 (ck (ltN ((Int.toNat (gI l 0))*1) (gL l 8).length)
 (ck (((eqM (gN l 3) (gL l 4).length)&&true)&&true)
 (T104 [iG l 1,iG l 2,vG l 4,iG l 6,iG l 5]
 (fun j A=>(sw (ck (((eqM (gN l 3) (gL l 4).length)&&true)&&true)
 (T103 [iG l 1,iG l 2,vG l 4,iG A 0,.I (List.getD (gL l 8) ((Int.toNat (gI l 0))*1) 0)]
 (fun j B=>(sw (nx 0 [.I (wr .i64 ((gI l 0)-1)),iG l 1,iG l 2,nG l 3,vG l 4,iG l 5,iG B 0,nG l 7,vG l 8,iG l 9,iG l 10,nG l 11,vG l 12,nG l 13,vG l 14,iG l 15,iG l 16,nG l 17,vG l 18])
 (fun _=>none)) j)))
 (fun _=>none)) j)))))
 (ex 0 [iG l 1,iG l 2,nG l 3,vG l 4,iG l 5,iG l 6,nG l 7,vG l 8,iG l 9,iG l 10,nG l 11,vG l 12,nG l 13,vG l 14,iG l 15,iG l 16,nG l 17,vG l 18])
theorem L305_1.e0:LEq L305_1.O L305_1.H 0 L305_1.s0:=by intro τ next κ l;kernel_rfl
def L305_1:LStep P Cf:=LStep.mk1 (by decide) L305_1.e0
def L305_1.b:Option τ:=runE L305_1 fuel κ t l
def L305_1.E:LEnt P:=LStep.E L305_1
def F287.ps:List PV2:=[pField,pR,pI]
def F287.sh:List PA:=[(PA.mk (PV3.v pI) [])]
def F287.O:Orc P:=⟨[],[L305_1.E],[],40⟩
def F287:Option τ :=
 L305_1.b 0 [.I (wr .i64 ((((gL l 3).length:Nat):Int)-1)),iG l 0,iG l 1,.N (gL l 2).length,vG l 2,iG l 4,.I 0,.N (gL l 3).length,vG l 3,iG l 0,iG l 1,.N (gL l 2).length,vG l 2,.N (gL l 3).length,vG l 3,iG l 4,.I 0,.N (gL l 3).length,vG l 3]
 (fun j A=>(sw (k 0 [iG A 5])
 (fun _=>none)) j)
theorem F287.eq:FEq F287.O 129 F287.ps F287.sh F287:=by intro τ l κ;kernel_rfl
def F287.E:Ent P:=mkF F287.eq
def L301_1.H:LHead:=⟨false,false,1,598017,598017,30,30,0,[(PS.mk (us 1 (nS::pI::pI::(pp 0)::us 23 [])) [(oG [pI,pI,qR])]),(PS.mk (us 1 ((rr 1)::pI::pI::(pp 0)::us 23 [])) [(oG [pI,pI,qR]),oI])],[((Out.exit 0),(PS.mk (us 1 (nS::pI::pI::(pp 0)::us 23 [])) [(oG [pI,pI,qR])])),((Out.exit 0),(PS.mk (us 1 ((rr 1)::pI::pI::(pp 0)::us 23 [])) [(oG [pI,pI,qR]),oI]))]⟩
def L301_1.O:Orc P:=⟨[],[],[],40⟩
def L301_1.s0:Option τ :=
 br (leI 0 (gI l 0))
 (nx 1 [.N 1,iG l 0,iG l 1,iG l 2,iG l 3,nG l 4,vG l 5,.L [0]])
 (ex 0 [iG l 0,iG l 1,iG l 2,iG l 3,nG l 4,vG l 5])
theorem L301_1.e0:LEq L301_1.O L301_1.H 0 L301_1.s0:=by intro τ next κ l;kernel_rfl
def L301_1.s1:Option τ :=
 br (leI (((gN l 0):Nat):Int) (gI l 1))
 (ck (((((eqM (gL l 7).length ((gN l 0)*1))&&true)&&true)&&(leN (((gN l 0)+1)*9) 1099511627776))&&true)
 (nx 1 [.N ((gN l 0)+1),iG l 1,iG l 2,iG l 3,iG l 4,nG l 5,vG l 6,.L ((gL l 7)++[0])]))
 (ex 1 [nG l 0,iG l 1,iG l 2,iG l 3,iG l 4,nG l 5,vG l 6,vG l 7])
theorem L301_1.e1:LEq L301_1.O L301_1.H 1 L301_1.s1:=by intro τ next κ l;kernel_rfl
def L301_1:LStep P Cf:=LStep.mk2 (by decide) L301_1.e0 L301_1.e1
def L301_1.b:Option τ:=runE L301_1 fuel κ t l
def L301_1.E:LEnt P:=LStep.E L301_1
def S301_0.H:SHead:=⟨146,[(PV2.agg [iI,iI,(PV1.sl (PC0.i .i64))]),nS,pI,pI],[],[],[((rr 0),[oI])]⟩
def S301_0.O:Orc P:=⟨[T103.E],[L301_1.E],[],40⟩
def S301_0:Option τ :=
 L301_1.b 0 [iG l 4,iG l 5,iG l 0,iG l 1,nG l 2,vG l 3]
 (fun j A=>(sw (none)
 (sw (ck (((leI 0 (gI A 1))&&(ltI (gI A 1) (gN A 0)))&&true)
 (ck (ltN (0+((Int.toNat (gI A 1))*1)) (gL A 7).length)
 (ck (((eqM (gN A 5) (gL A 6).length)&&true)&&true)
 (T103 [iG A 3,iG A 4,vG A 6,.I (List.getD (gL A 7) (0+((Int.toNat (gI A 1))*1)) 0),iG A 2]
 (fun j B=>(sw (ck (((leI 0 (gI A 1))&&(ltI (gI A 1) (gN A 0)))&&true)
 (ck ((leN ((0+((Int.toNat (gI A 1))*1))+1) (gL A 7).length)&&true)
 (k 0 [nG A 0,.L (List.set (gL A 7) (0+((Int.toNat (gI A 1))*1)) (gI B 0))])))
 (fun _=>none)) j)))))
 (fun _=>none))) j)
theorem S301_0.eq:SEq S301_0.O S301_0.H S301_0:=by intro τ l κ;kernel_rfl
def S301_0.next:SDyn P S301_0.H:=mkS S301_0.eq
def S301_0.E:SEnt P:=⟨S301_0.H,S301_0.next⟩
def L301_1_1.H:LHead:=⟨false,false,2,598017,598017,30,30,0,[(PS.mk (us 1 ((rr 0)::pI::pI::(pp 1)::us 23 [])) [oI,(oG [pI,pI,qR])]),(PS.mk (us 1 ((rr 2)::pI::pI::(pp 1)::us 23 [])) [PO.dead,(oG [pI,pI,qR]),oI])],[((Out.exit 0),(PS.mk (us 1 ((rr 0)::pI::pI::(pp 1)::us 23 [])) [oI,(oG [pI,pI,qR])])),((Out.exit 0),(PS.mk (us 1 ((rr 2)::pI::pI::(pp 1)::us 23 [])) [PO.dead,(oG [pI,pI,qR]),oI]))]⟩
def L301_1_1.O:Orc P:=⟨[],[],[],40⟩
def L301_1_1.s0:Option τ :=
 br (leI (((gN l 0):Nat):Int) (gI l 1))
 (ck (((((eqM (gL l 3).length ((gN l 0)*1))&&true)&&true)&&(leN (((gN l 0)+1)*9) 1099511627776))&&true)
 (nx 1 [.N ((gN l 0)+1),iG l 1,iG l 2,iG l 4,iG l 5,nG l 6,vG l 7,.L ((gL l 3)++[0])]))
 (ex 0 [nG l 0,iG l 1,iG l 2,vG l 3,iG l 4,iG l 5,nG l 6,vG l 7])
theorem L301_1_1.e0:LEq L301_1_1.O L301_1_1.H 0 L301_1_1.s0:=by intro τ next κ l;kernel_rfl
def L301_1_1.s1:Option τ :=
 br (leI (((gN l 0):Nat):Int) (gI l 1))
 (ck (((((eqM (gL l 7).length ((gN l 0)*1))&&true)&&true)&&(leN (((gN l 0)+1)*9) 1099511627776))&&true)
 (nx 1 [.N ((gN l 0)+1),iG l 1,iG l 2,iG l 3,iG l 4,nG l 5,vG l 6,.L ((gL l 7)++[0])]))
 (ex 1 [nG l 0,iG l 1,iG l 2,iG l 3,iG l 4,nG l 5,vG l 6,vG l 7])
theorem L301_1_1.e1:LEq L301_1_1.O L301_1_1.H 1 L301_1_1.s1:=by intro τ next κ l;kernel_rfl
def L301_1_1:LStep P Cf:=LStep.mk2 (by decide) L301_1_1.e0 L301_1_1.e1
def L301_1_1.b:Option τ:=runE L301_1_1 fuel κ t l
def L301_1_1.E:LEnt P:=LStep.E L301_1_1
def S301_1.H:SHead:=⟨146,[(PV2.agg [iI,iI,(PV1.sl (PC0.i .i64))]),(rr 0),pI,pI],[],[oI],[((rr 0),[oI]),((rr 1),[PO.dead,oI])]⟩
def S301_1.O:Orc P:=⟨[T103.E],[L301_1_1.E],[],40⟩
def S301_1:Option τ :=
 L301_1_1.b 0 [nG l 4,iG l 5,iG l 6,vG l 7,iG l 0,iG l 1,nG l 2,vG l 3]
 (fun j A=>(sw (ck (((leI 0 (gI A 1))&&(ltI (gI A 1) (gN A 0)))&&true)
 (ck (ltN (0+((Int.toNat (gI A 1))*1)) (gL A 3).length)
 (ck (((eqM (gN A 6) (gL A 7).length)&&true)&&true)
 (T103 [iG A 4,iG A 5,vG A 7,.I (List.getD (gL A 3) (0+((Int.toNat (gI A 1))*1)) 0),iG A 2]
 (fun j B=>(sw (ck (((leI 0 (gI A 1))&&(ltI (gI A 1) (gN A 0)))&&true)
 (ck ((leN ((0+((Int.toNat (gI A 1))*1))+1) (gL A 3).length)&&true)
 (k 0 [nG A 0,.L (List.set (gL A 3) (0+((Int.toNat (gI A 1))*1)) (gI B 0))])))
 (fun _=>none)) j)))))
 (sw (ck (((leI 0 (gI A 1))&&(ltI (gI A 1) (gN A 0)))&&true)
 (ck (ltN (0+((Int.toNat (gI A 1))*1)) (gL A 7).length)
 (ck (((eqM (gN A 5) (gL A 6).length)&&true)&&true)
 (T103 [iG A 3,iG A 4,vG A 6,.I (List.getD (gL A 7) (0+((Int.toNat (gI A 1))*1)) 0),iG A 2]
 (fun j B=>(sw (ck (((leI 0 (gI A 1))&&(ltI (gI A 1) (gN A 0)))&&true)
 (ck ((leN ((0+((Int.toNat (gI A 1))*1))+1) (gL A 7).length)&&true)
 (k 1 [nG A 0,.L (List.set (gL A 7) (0+((Int.toNat (gI A 1))*1)) (gI B 0))])))
 (fun _=>none)) j)))))
 (fun _=>none))) j)
theorem S301_1.eq:SEq S301_1.O S301_1.H S301_1:=by intro τ l κ;kernel_rfl
def S301_1.next:SDyn P S301_1.H:=mkS S301_1.eq
def S301_1.E:SEnt P:=⟨S301_1.H,S301_1.next⟩
def L302_2.H:LHead:=⟨false,false,3,602114,602114,57390,2,0,[(PS.mk (us 1 ((rr 0)::pI::pI::us 1 ((pp 2)::us 7 ((rr 1)::pI::pI::us 17 [])))) [oI,oI,(oG [pI,pI,qR])]),(PS.mk (us 1 ((rr 3)::pI::pI::us 1 ((pp 2)::us 7 ((rr 1)::pI::pI::us 17 [])))) [PO.dead,oI,(oG [pI,pI,qR]),oI])],[((Out.exit 0),(PS.mk (us 1 ((rr 0)::us 31 [])) [oI,oI,(oG [pI,pI,qR])])),((Out.exit 0),(PS.mk (us 1 ((rr 3)::us 31 [])) [PO.dead,oI,(oG [pI,pI,qR]),oI]))]⟩
def L302_2.O:Orc P:=⟨[T104.E],[],[S301_1.E],40⟩
def L302_2.s0:Option τ :=
 br (ltI (gI l 5) (gI l 4))
 (ck (((leI 0 (gI l 5))&&(ltI (gI l 5) (gN l 3)))&&true)
 (ck (ltN (0+((Int.toNat (gI l 5))*1)) (gL l 7).length)
 (ck (((eqM (gN l 10) (gL l 11).length)&&true)&&true)
 (T104 [iG l 8,iG l 9,vG l 11,iG l 1,.I (List.getD (gL l 7) (0+((Int.toNat (gI l 5))*1)) 0)]
 (fun j A=>(sw (S301_1 [iG l 8,iG l 9,nG l 10,vG l 11,nG l 0,.I (wr .i64 ((gI l 5)+(gI l 2))),iG A 0,vG l 6]
 (fun j B=>(sw (nx 0 [nG B 0,iG l 1,iG l 2,nG l 3,iG l 4,.I (wr .i64 ((gI l 5)+1)),vG B 1,vG l 7,iG l 8,iG l 9,nG l 10,vG l 11])
 (sw (nx 1 [nG B 0,iG l 1,iG l 2,nG l 3,iG l 4,.I (wr .i64 ((gI l 5)+1)),vG l 7,iG l 8,iG l 9,nG l 10,vG l 11,vG B 1])
 (fun _=>none))) j))
 (fun _=>none)) j)))))
 (ex 0 [nG l 0,vG l 6,vG l 7,iG l 8,iG l 9,nG l 10,vG l 11])
theorem L302_2.e0:LEq L302_2.O L302_2.H 0 L302_2.s0:=by intro τ next κ l;kernel_rfl
def L302_2.s1:Option τ :=
 br (ltI (gI l 5) (gI l 4))
 (ck (((leI 0 (gI l 5))&&(ltI (gI l 5) (gN l 3)))&&true)
 (ck (ltN (0+((Int.toNat (gI l 5))*1)) (gL l 6).length)
 (ck (((eqM (gN l 9) (gL l 10).length)&&true)&&true)
 (T104 [iG l 7,iG l 8,vG l 10,iG l 1,.I (List.getD (gL l 6) (0+((Int.toNat (gI l 5))*1)) 0)]
 (fun j A=>(sw (S301_1 [iG l 7,iG l 8,nG l 9,vG l 10,nG l 0,.I (wr .i64 ((gI l 5)+(gI l 2))),iG A 0,vG l 11]
 (fun j B=>(sw (nx 1 [nG B 0,iG l 1,iG l 2,nG l 3,iG l 4,.I (wr .i64 ((gI l 5)+1)),vG l 6,iG l 7,iG l 8,nG l 9,vG l 10,vG B 1])
 (sw (nx 1 [nG B 0,iG l 1,iG l 2,nG l 3,iG l 4,.I (wr .i64 ((gI l 5)+1)),vG l 6,iG l 7,iG l 8,nG l 9,vG l 10,vG B 1])
 (fun _=>none))) j))
 (fun _=>none)) j)))))
 (ex 1 [nG l 0,vG l 6,iG l 7,iG l 8,nG l 9,vG l 10,vG l 11])
theorem L302_2.e1:LEq L302_2.O L302_2.H 1 L302_2.s1:=by intro τ next κ l;kernel_rfl
def L302_2:LStep P Cf:=LStep.mk2 (by decide) L302_2.e0 L302_2.e1
def L302_2.b:Option τ:=runE L302_2 fuel κ t l
def L302_2.E:LEnt P:=LStep.E L302_2
def S302_0.H:SHead:=⟨147,[(PV2.agg [iI,iI,(PV1.sl (PC0.i .i64))]),(rr 0),pI,pI,(rr 1)],[],[oI,oI],[((rr 0),[oI,oI]),((rr 2),[PO.dead,oI,oI])]⟩
def S302_0.O:Orc P:=⟨[],[L302_2.E],[],40⟩
def S302_0:Option τ :=
 L302_2.b 0 [nG l 4,iG l 5,iG l 6,nG l 7,.I (gN l 7),.I 0,vG l 8,vG l 9,iG l 0,iG l 1,nG l 2,vG l 3]
 (fun j A=>(sw (k 0 [nG A 0,vG A 1,vG A 2])
 (sw (k 1 [nG A 0,vG A 1,vG A 6])
 (fun _=>none))) j)
theorem S302_0.eq:SEq S302_0.O S302_0.H S302_0:=by intro τ l κ;kernel_rfl
def S302_0.next:SDyn P S302_0.H:=mkS S302_0.eq
def S302_0.E:SEnt P:=⟨S302_0.H,S302_0.next⟩
def L292_9.H:LHead:=⟨false,true,0,544777,544777,24076,3072,0,[(PS.mk (us 2 ((rr 0)::(pp 1)::us 5 ((pp 2)::(rr 3)::nS::pI::us 1 (pI::us 58 [])))) [oI,(oG [pI,pI,qR]),(oG [pI,pI,qR]),oI]),(PS.mk (us 2 ((rr 0)::(pp 1)::us 5 ((pp 2)::(rr 3)::(rr 4)::pI::us 1 (pI::us 58 [])))) [oI,(oG [pI,pI,qR]),(oG [pI,pI,qR]),oI,oI])],[((Out.exit 0),(PS.mk (us 10 ((rr 0)::nS::us 61 [])) [oI])),((Out.exit 0),(PS.mk (us 10 ((rr 0)::(rr 1)::us 61 [])) [oI,oI]))]⟩
def L292_9.O:Orc P:=⟨[T104.E,T83.E],[],[S301_0.E,S302_0.E,S301_1.E],40⟩
def L292_9.s0:Option τ :=
 br (geI (gI l 3) 0)
 (ck (((leI 0 (wr .i64 ((wr .i64 ((gI l 3)+(((gN l 0):Nat):Int)))-1)))&&(ltI (wr .i64 ((wr .i64 ((gI l 3)+(((gN l 0):Nat):Int)))-1)) (((gN l 1):Nat):Int)))&&true)
 (ck (ltN (0+((Int.toNat (wr .i64 ((wr .i64 ((gI l 3)+(((gN l 0):Nat):Int)))-1)))*1)) (gL l 13).length)
 (ck (((eqM (gN l 7) (gL l 8).length)&&true)&&true)
 (T104 [iG l 5,iG l 6,vG l 8,.I (List.getD (gL l 13) (0+((Int.toNat (wr .i64 ((wr .i64 ((gI l 3)+(((gN l 0):Nat):Int)))-1)))*1)) 0),iG l 2]
 (fun j A=>(sw (S301_0 [iG l 9,iG l 10,nG l 11,vG l 12,iG l 3,iG A 0]
 (fun j B=>(sw (ck (((eqM (gN l 7) (gL l 8).length)&&true)&&true)
 (T83 [iG l 5,iG l 6,vG l 8,iG A 0]
 (fun j C=>(sw (S302_0 [iG l 9,iG l 10,nG l 11,vG l 12,nG l 1,iG C 0,iG l 3,nG l 0,vG l 13,vG l 4]
 (fun j D=>(sw (nx 1 [nG l 0,nG D 0,nG B 0,iG l 2,.I (wr .i64 ((gI l 3)-1)),vG D 2,iG l 5,iG l 6,nG l 7,vG l 8,iG l 9,iG l 10,nG l 11,vG l 12,vG D 1,vG B 1])
 (sw (nx 1 [nG l 0,nG D 0,nG B 0,iG l 2,.I (wr .i64 ((gI l 3)-1)),vG D 1,iG l 5,iG l 6,nG l 7,vG l 8,iG l 9,iG l 10,nG l 11,vG l 12,vG D 2,vG B 1])
 (fun _=>none))) j))
 (fun _=>none)) j)))
 (fun _=>none)) j))
 (fun _=>none)) j)))))
 (ex 0 [nG l 1,vG l 13])
theorem L292_9.e0:LEq L292_9.O L292_9.H 0 L292_9.s0:=by intro τ next κ l;kernel_rfl
def L292_9.s1:Option τ :=
 br (geI (gI l 4) 0)
 (ck (((leI 0 (wr .i64 ((wr .i64 ((gI l 4)+(((gN l 0):Nat):Int)))-1)))&&(ltI (wr .i64 ((wr .i64 ((gI l 4)+(((gN l 0):Nat):Int)))-1)) (((gN l 1):Nat):Int)))&&true)
 (ck (ltN (0+((Int.toNat (wr .i64 ((wr .i64 ((gI l 4)+(((gN l 0):Nat):Int)))-1)))*1)) (gL l 14).length)
 (ck (((eqM (gN l 8) (gL l 9).length)&&true)&&true)
 (T104 [iG l 6,iG l 7,vG l 9,.I (List.getD (gL l 14) (0+((Int.toNat (wr .i64 ((wr .i64 ((gI l 4)+(((gN l 0):Nat):Int)))-1)))*1)) 0),iG l 3]
 (fun j A=>(sw (S301_1 [iG l 10,iG l 11,nG l 12,vG l 13,nG l 2,iG l 4,iG A 0,vG l 15]
 (fun j B=>(sw (ck (((eqM (gN l 8) (gL l 9).length)&&true)&&true)
 (T83 [iG l 6,iG l 7,vG l 9,iG A 0]
 (fun j C=>(sw (S302_0 [iG l 10,iG l 11,nG l 12,vG l 13,nG l 1,iG C 0,iG l 4,nG l 0,vG l 14,vG l 5]
 (fun j D=>(sw (nx 1 [nG l 0,nG D 0,nG B 0,iG l 3,.I (wr .i64 ((gI l 4)-1)),vG D 2,iG l 6,iG l 7,nG l 8,vG l 9,iG l 10,iG l 11,nG l 12,vG l 13,vG D 1,vG B 1])
 (sw (nx 1 [nG l 0,nG D 0,nG B 0,iG l 3,.I (wr .i64 ((gI l 4)-1)),vG D 1,iG l 6,iG l 7,nG l 8,vG l 9,iG l 10,iG l 11,nG l 12,vG l 13,vG D 2,vG B 1])
 (fun _=>none))) j))
 (fun _=>none)) j)))
 (sw (ck (((eqM (gN l 8) (gL l 9).length)&&true)&&true)
 (T83 [iG l 6,iG l 7,vG l 9,iG A 0]
 (fun j C=>(sw (S302_0 [iG l 10,iG l 11,nG l 12,vG l 13,nG l 1,iG C 0,iG l 4,nG l 0,vG l 14,vG l 5]
 (fun j D=>(sw (nx 1 [nG l 0,nG D 0,nG B 0,iG l 3,.I (wr .i64 ((gI l 4)-1)),vG D 2,iG l 6,iG l 7,nG l 8,vG l 9,iG l 10,iG l 11,nG l 12,vG l 13,vG D 1,vG B 1])
 (sw (nx 1 [nG l 0,nG D 0,nG B 0,iG l 3,.I (wr .i64 ((gI l 4)-1)),vG D 1,iG l 6,iG l 7,nG l 8,vG l 9,iG l 10,iG l 11,nG l 12,vG l 13,vG D 2,vG B 1])
 (fun _=>none))) j))
 (fun _=>none)) j)))
 (fun _=>none))) j))
 (fun _=>none)) j)))))
 (ex 1 [nG l 1,nG l 2,vG l 14,vG l 15])
theorem L292_9.e1:LEq L292_9.O L292_9.H 1 L292_9.s1:=by intro τ next κ l;kernel_rfl
def L292_9:LStep P Cf:=LStep.mk2 (by decide) L292_9.e0 L292_9.e1
def L292_9.b:Option τ:=runE L292_9 fuel κ t l
def L292_9.E:LEnt P:=LStep.E L292_9
def L292_9_1.H:LHead:=⟨false,true,0,544777,544777,24076,3072,0,[(PS.mk (us 2 ((rr 0)::(pp 1)::us 5 ((pp 2)::(PV2.v (PV1.sl PC0.e))::nS::pI::us 1 (pI::us 58 [])))) [oI,(oG [pI,pI,qR]),(oG [pI,pI,qR])])],[((Out.exit 0),(PS.mk (us 10 ((PV2.v (PV1.sl PC0.e))::nS::us 61 [])) []))]⟩
def L292_9_1.O:Orc P:=⟨[],[],[],40⟩
def L292_9_1.s0 {τ:Type} (next ex:Nat→LS_→Option τ) (l:LS_):Option τ :=
 br (geI (gI l 3) 0)
 (ck (((leI 0 (wr .i64 ((wr .i64 ((gI l 3)+(((gN l 0):Nat):Int)))-1)))&&(ltI (wr .i64 ((wr .i64 ((gI l 3)+(((gN l 0):Nat):Int)))-1)) (((gN l 1):Nat):Int)))&&true)
 (none))
 (ex 0 [nG l 1])
theorem L292_9_1.e0:LEq L292_9_1.O L292_9_1.H 0 L292_9_1.s0:=by intro τ next κ l;kernel_rfl
def L292_9_1:LStep P Cf:=LStep.mk1 (by decide) L292_9_1.e0
def L292_9_1.b:Option τ:=runE L292_9_1 fuel κ t l
def L292_9_1.E:LEnt P:=LStep.E L292_9_1
def F292.ps:List PV2:=[pField,pR,pR]
def F292.sh:List PA:=[(PA.mk (PV3.tup [nS,nS,(pC 3)]) []),(PA.mk (PV3.tup [(rr 0),(rr 1),(pC 0)]) [cI,cI]),(PA.mk (PV3.tup [(rr 0),(PV2.v (PV1.sl PC0.e)),(pC 0)]) [cI]),(PA.mk (PV3.tup [(PV2.v (PV1.sl PC0.e)),(rr 0),(pC 0)]) [cI]),(PA.mk (PV3.tup [(PV2.v (PV1.sl PC0.e)),(PV2.v (PV1.sl PC0.e)),(pC 0)]) [])]
def F292.O:Orc P:=⟨[F288.E,T116.E],[L292_9.E,L292_9_1.E],[],40⟩
def F292:Option τ :=
 ck ((eqM (gL l 4).length (gL l 4).length)&&true)
 (F288 [vG l 4]
 (fun j A=>(sw (br ((((gN A 0):Nat):Int)==0)
 (k 0 [])
 (ck ((eqM (gL l 3).length (gL l 3).length)&&true)
 (F288 [vG l 3]
 (fun j B=>(sw (ck (((leI 0 (wr .i64 ((((gN A 0):Nat):Int)-1)))&&(ltI (wr .i64 ((((gN A 0):Nat):Int)-1)) (((gN A 0):Nat):Int)))&&true)
 (ck (ltN (0+((Int.toNat (wr .i64 ((((gN A 0):Nat):Int)-1)))*1)) (gL A 1).length)
 (ck (((eqM (gL l 2).length (gL l 2).length)&&true)&&true)
 (T116 [iG l 0,iG l 1,vG l 2,.I (List.getD (gL A 1) (0+((Int.toNat (wr .i64 ((((gN A 0):Nat):Int)-1)))*1)) 0)]
 (fun j C=>(sw (L292_9.b 0 [nG A 0,nG B 0,iG C 0,.I (wr .i64 ((((gN B 0):Nat):Int)-(((gN A 0):Nat):Int))),vG A 1,iG l 0,iG l 1,.N (gL l 2).length,vG l 2,iG l 0,iG l 1,.N (gL l 2).length,vG l 2,vG B 1]
 (fun j D=>(sw (F288 [.L []]
 (fun j E=>(sw (ck ((eqM (gN D 0) (List.take ((gN D 0)*1) (List.drop 0 (gL D 1))).length)&&true)
 (F288 [.L (List.take ((gN D 0)*1) (List.drop 0 (gL D 1)))]
 (fun j F=>(sw (k 1 [nG E 0,nG F 0,vG E 1,vG F 1])
 (sw (k 2 [nG E 0,nG F 0,vG E 1])
 (fun _=>none))) j)))
 (sw (ck ((eqM (gN D 0) (List.take ((gN D 0)*1) (List.drop 0 (gL D 1))).length)&&true)
 (F288 [.L (List.take ((gN D 0)*1) (List.drop 0 (gL D 1)))]
 (fun j F=>(sw (k 3 [nG E 0,nG F 0,vG F 1])
 (sw (k 4 [nG E 0,nG F 0])
 (fun _=>none))) j)))
 (fun _=>none))) j))
 (sw (ck ((eqM (gN D 1) (List.take ((gN D 1)*1) (List.drop 0 (gL D 3))).length)&&true)
 (F288 [.L (List.take ((gN D 1)*1) (List.drop 0 (gL D 3)))]
 (fun j E=>(sw (ck ((eqM (gN D 0) (List.take ((gN D 0)*1) (List.drop 0 (gL D 2))).length)&&true)
 (F288 [.L (List.take ((gN D 0)*1) (List.drop 0 (gL D 2)))]
 (fun j F=>(sw (k 1 [nG E 0,nG F 0,vG E 1,vG F 1])
 (sw (k 2 [nG E 0,nG F 0,vG E 1])
 (fun _=>none))) j)))
 (sw (ck ((eqM (gN D 0) (List.take ((gN D 0)*1) (List.drop 0 (gL D 2))).length)&&true)
 (F288 [.L (List.take ((gN D 0)*1) (List.drop 0 (gL D 2)))]
 (fun j F=>(sw (k 3 [nG E 0,nG F 0,vG F 1])
 (sw (k 4 [nG E 0,nG F 0])
 (fun _=>none))) j)))
 (fun _=>none))) j)))
 (fun _=>none))) j))
 (fun _=>none)) j)))))
 (sw (ck (((leI 0 (wr .i64 ((((gN A 0):Nat):Int)-1)))&&(ltI (wr .i64 ((((gN A 0):Nat):Int)-1)) (((gN A 0):Nat):Int)))&&true)
 (ck (ltN (0+((Int.toNat (wr .i64 ((((gN A 0):Nat):Int)-1)))*1)) (gL A 1).length)
 (ck (((eqM (gL l 2).length (gL l 2).length)&&true)&&true)
 (T116 [iG l 0,iG l 1,vG l 2,.I (List.getD (gL A 1) (0+((Int.toNat (wr .i64 ((((gN A 0):Nat):Int)-1)))*1)) 0)]
 (fun j C=>(sw (L292_9_1.b 0 [nG A 0,nG B 0,iG C 0,.I (wr .i64 ((((gN B 0):Nat):Int)-(((gN A 0):Nat):Int))),vG A 1,iG l 0,iG l 1,.N (gL l 2).length,vG l 2,iG l 0,iG l 1,.N (gL l 2).length,vG l 2]
 (fun j D=>(sw (F288 [.L []]
 (fun j E=>(sw (ck ((eqM (gN D 0) 0)&&true)
 (F288 [.L []]
 (fun j F=>(sw (k 1 [nG E 0,nG F 0,vG E 1,vG F 1])
 (sw (k 2 [nG E 0,nG F 0,vG E 1])
 (fun _=>none))) j)))
 (sw (ck ((eqM (gN D 0) 0)&&true)
 (F288 [.L []]
 (fun j F=>(sw (k 3 [nG E 0,nG F 0,vG F 1])
 (sw (k 4 [nG E 0,nG F 0])
 (fun _=>none))) j)))
 (fun _=>none))) j))
 (fun _=>none)) j))
 (fun _=>none)) j)))))
 (fun _=>none))) j))))
 (sw (br ((((gN A 0):Nat):Int)==0)
 (k 0 [])
 (ck ((eqM (gL l 3).length (gL l 3).length)&&true)
 (F288 [vG l 3]
 (fun j B=>(sw (ck (((leI 0 (wr .i64 ((((gN A 0):Nat):Int)-1)))&&(ltI (wr .i64 ((((gN A 0):Nat):Int)-1)) (((gN A 0):Nat):Int)))&&true)
 (none))
 (sw (ck (((leI 0 (wr .i64 ((((gN A 0):Nat):Int)-1)))&&(ltI (wr .i64 ((((gN A 0):Nat):Int)-1)) (((gN A 0):Nat):Int)))&&true)
 (none))
 (fun _=>none))) j))))
 (fun _=>none))) j))
theorem F292.eq:FEq F292.O 133 F292.ps F292.sh F292:=by intro τ l κ;kernel_rfl
def F292.E:Ent P:=mkF F292.eq
end
end Go.Proofs.Yticbdgmcofjkeaa.Ai
namespace Go.Proofs.Yticbdgmcofjkeaa.Ai
open Go Go.RowKit
noncomputable section
def T287 {τ:Type} (l:LS_) (k:Nat→LS_→Option τ):Option τ:=F287 l k
def T287.E:Ent P:=F287.E
def T288 {τ:Type} (l:LS_) (k:Nat→LS_→Option τ):Option τ:=wrapB F288.E (.v pR) l k
def T288.E:Ent P:=F288.E.wrap (.v pR)
def T292 {τ:Type} (l:LS_) (k:Nat→LS_→Option τ):Option τ:=wrapB F292.E (.tup [pR,pR,pI]) l k
def T292.E:Ent P:=F292.E.wrap (.tup [pR,pR,pI])
variable {τ:Type} (t:Nat) (nx ex:Nat→LS_→Option τ) (l:LS_) (k κ:Nat→LS_→Option τ)
def F276.ps:List PV2:=[pI]
def F276.sh:List PA:=[(PA.mk (PV3.tup [(PV2.agg [iI,iI,(r1 0),iI]),pB]) [cI]),(PA.mk (PV3.tup [(PV2.agg [iI,iI,(r1 0),iI]),(PV2.v (PV1.boolC false))]) [cI]),(PA.mk (PV3.tup [(PV2.agg [(PV1.intC .i64 0),(PV1.intC .i64 0),PV1.nilS,iI]),(PV2.v (PV1.boolC false))]) [])]
def F276.O:Orc P:=⟨[T99.E],[],[],40⟩
def F276:Option τ :=
 T99 [iG l 0]
 (fun j A=>(sw (br (geI (gI l 0) 3)
 (k 0 [iG A 0,iG A 1,nG A 2,iG l 0,.B (leI (gI l 0) 16),vG A 3])
 (k 1 [iG A 0,iG A 1,nG A 2,iG l 0,vG A 3]))
 (sw (k 2 [iG l 0])
 (fun _=>none))) j)
theorem F276.eq:FEq F276.O 109 F276.ps F276.sh F276:=by intro τ l κ;kernel_rfl
def F276.E:Ent P:=mkF F276.eq
def L100_2_5.H:LHead:=⟨false,false,1,409602,409602,403,16,0,[(PS.mk (qR::(PV2.fn 128 [(p1 0)])::us 2 (pI::us 2 (pI::pI::us 10 []))) [(oG [pI,pI,qR,pI])])],[(Out.ret,(PS.mk (us 4 (pI::us 14 [])) [(oG [pI,pI,qR,pI])])),((Out.exit 0),(PS.mk (us 4 (pI::us 14 [])) [(oG [pI,pI,qR,pI])]))]⟩
def L100_2_5.O:Orc P:=⟨[],[],[],40⟩
def L100_2_5.s0:Option τ :=
 br (ltI (gI l 4) (gI l 3))
 (ck (((leI 0 (gI l 4))&&(ltI (gI l 4) (gN l 0)))&&true)
 (ck (ltN ((Int.toNat (gI l 4))*1) (gL l 1).length)
 (br (ltI (List.getD (gL l 1) ((Int.toNat (gI l 4))*1) 0) 0)
 (ex 0 [iG l 4,iG l 5,iG l 6,nG l 7,vG l 8,iG l 9])
 (br (geI (List.getD (gL l 1) ((Int.toNat (gI l 4))*1) 0) (gI l 9))
 (ex 0 [iG l 4,iG l 5,iG l 6,nG l 7,vG l 8,iG l 9])
 (nx 0 [nG l 0,vG l 1,iG l 2,iG l 3,.I (wr .i64 ((gI l 4)+1)),iG l 5,iG l 6,nG l 7,vG l 8,iG l 9])))))
 (ex 1 [iG l 2,iG l 5,iG l 6,nG l 7,vG l 8,iG l 9])
theorem L100_2_5.e0:LEq L100_2_5.O L100_2_5.H 0 L100_2_5.s0:=by intro τ next κ l;kernel_rfl
def L100_2_5:LStep P Cf:=LStep.mk1 (by decide) L100_2_5.e0
def L100_2_5.b:Option τ:=runE L100_2_5 fuel κ t l
def L100_2_5.E:LEnt P:=LStep.E L100_2_5
def F278.ps:List PV2:=[qOver,pR]
def F278.sh:List PA:=[(PA.mk (PV3.v pB) [])]
def F278.O:Orc P:=⟨[],[L100_2_5.E],[],40⟩
def F278:Option τ :=
 L100_2_5.b 0 [.N (gL l 4).length,vG l 4,.I 0,.I (((gL l 4).length:Nat):Int),.I 0,iG l 0,iG l 1,.N (gL l 2).length,vG l 2,iG l 3]
 (fun j A=>(sw (k 0 [.B (!(geI (gI A 0) 0))])
 (sw (k 0 [.B true])
 (fun _=>none))) j)
theorem F278.eq:FEq F278.O 110 F278.ps F278.sh F278:=by intro τ l κ;kernel_rfl
def F278.E:Ent P:=mkF F278.eq
def L290_3.H:LHead:=⟨false,true,0,536579,536579,49686,512,0,[(PS.mk (us 1 (pI::pI::us 1 ((pp 0)::us 4 ((rr 1)::us 4 (pI::pI::us 13 []))))) [(oG [pI,pI,qR,pI]),oI])],[((Out.exit 0),(PS.mk (us 9 ((rr 0)::us 19 [])) [oI]))]⟩
def L290_3.O:Orc P:=⟨[T104.E],[],[],40⟩
def L290_3.s0:Option τ :=
 br (ltI (gI l 4) (gI l 3))
 (ck (((leI 0 (gI l 4))&&(ltI (gI l 4) (gN l 2)))&&true)
 (ck ((leN ((0+((Int.toNat (gI l 4))*1))+1) (gL l 10).length)&&true)
 (ck (((eqM (gN l 7) (gL l 8).length)&&true)&&true)
 (T104 [iG l 5,iG l 6,vG l 8,iG l 1,iG l 0]
 (fun j A=>(sw (nx 0 [iG l 0,iG A 0,nG l 2,iG l 3,.I (wr .i64 ((gI l 4)+1)),iG l 5,iG l 6,nG l 7,vG l 8,iG l 9,.L (List.set (gL l 10) (0+((Int.toNat (gI l 4))*1)) (gI l 1))])
 (fun _=>none)) j)))))
 (ex 0 [nG l 2,vG l 10])
theorem L290_3.e0:LEq L290_3.O L290_3.H 0 L290_3.s0:=by intro τ next κ l;kernel_rfl
def L290_3:LStep P Cf:=LStep.mk1 (by decide) L290_3.e0
def L290_3.b:Option τ:=runE L290_3 fuel κ t l
def L290_3.E:LEnt P:=LStep.E L290_3
def F290.ps:List PV2:=[qOver,pI,pI,pI]
def F290.sh:List PA:=[(PA.mk (PV3.v (rr 0)) [cI])]
def F290.O:Orc P:=⟨[],[L290_3.E],[],40⟩
def F290:Option τ :=
 ck (((leI 0 (gI l 6))&&(leI (gI l 6) (gI l 6)))&&(leI ((gI l 6)*9) 1099511627776))
 (L290_3.b 0 [iG l 4,iG l 5,.N (Int.toNat (gI l 6)),.I (((Int.toNat (gI l 6)):Nat):Int),.I 0,iG l 0,iG l 1,.N (gL l 2).length,vG l 2,iG l 3,.L (List.replicate (Int.toNat (gI l 6)) (0:Int))]
 (fun j A=>(sw (k 0 [nG A 0,vG A 1])
 (fun _=>none)) j))
theorem F290.eq:FEq F290.O 131 F290.ps F290.sh F290:=by intro τ l κ;kernel_rfl
def F290.E:Ent P:=mkF F290.eq
def L277_3.H:LHead:=⟨false,true,0,454659,454659,12326,32,0,[(PS.mk (us 1 (qR::(pp 0)::us 2 ((rr 1)::us 6 (pI::pI::us 14 [])))) [(oG [pI,pI,qR,pI]),oI])],[((Out.exit 0),(PS.mk (us 5 ((rr 0)::us 22 [])) [oI]))]⟩
def L277_3.O:Orc P:=⟨[T288.E,T287.E],[],[],40⟩
def L277_3.s0:Option τ :=
 br (ltI (gI l 4) (gI l 3))
 (ck ((eqM (gN l 0) (gL l 1).length)&&true)
 (T288 [vG l 1]
 (fun j A=>(sw (ck (((eqM (gN l 7) (gL l 8).length)&&true)&&((eqM (gL A 0).length (gL A 0).length)&&true))
 (T287 [iG l 5,iG l 6,vG l 8,vG A 0,.I (wr .i64 ((gI l 4)+1))]
 (fun j B=>(sw (ck (((leI 0 (gI l 4))&&(ltI (gI l 4) (gN l 2)))&&true)
 (ck ((leN ((0+((Int.toNat (gI l 4))*1))+1) (gL l 10).length)&&true)
 (nx 0 [nG l 0,vG l 1,nG l 2,iG l 3,.I (wr .i64 ((gI l 4)+1)),iG l 5,iG l 6,nG l 7,vG l 8,iG l 9,.L (List.set (gL l 10) (0+((Int.toNat (gI l 4))*1)) (gI B 0))])))
 (fun _=>none)) j)))
 (fun _=>none)) j)))
 (ex 0 [nG l 2,vG l 10])
theorem L277_3.e0:LEq L277_3.O L277_3.H 0 L277_3.s0:=by intro τ next κ l;kernel_rfl
def L277_3:LStep P Cf:=LStep.mk1 (by decide) L277_3.e0
def L277_3.b:Option τ:=runE L277_3 fuel κ t l
def L277_3.E:LEnt P:=LStep.E L277_3
def F277.ps:List PV2:=[qOver,pR]
def F277.sh:List PA:=[(PA.mk (PV3.v (rr 0)) [cI])]
def F277.O:Orc P:=⟨[],[L277_3.E],[],40⟩
def F277:Option τ :=
 ck (((leI 0 (wr .i64 ((gI l 3)-1)))&&(leI (wr .i64 ((gI l 3)-1)) (wr .i64 ((gI l 3)-1))))&&(leI ((wr .i64 ((gI l 3)-1))*9) 1099511627776))
 (L277_3.b 0 [.N (gL l 4).length,vG l 4,.N (Int.toNat (wr .i64 ((gI l 3)-1))),.I (((Int.toNat (wr .i64 ((gI l 3)-1))):Nat):Int),.I 0,iG l 0,iG l 1,.N (gL l 2).length,vG l 2,iG l 3,.L (List.replicate (Int.toNat (wr .i64 ((gI l 3)-1))) (0:Int))]
 (fun j A=>(sw (k 0 [nG A 0,vG A 1])
 (fun _=>none)) j))
theorem F277.eq:FEq F277.O 111 F277.ps F277.sh F277:=by intro τ l κ;kernel_rfl
def F277.E:Ent P:=mkF F277.eq
def L279_5.H:LHead:=⟨false,true,0,462853,462853,58720312,16,0,[(PS.mk (us 3 ((pp 0)::pB::pI::us 17 (qR::pI::pI::us 15 []))) [(oG [qR,qR])])],[(Out.ret,(PS.mk (us 4 (pB::us 36 [])) [])),((Out.exit 0),(PS.mk (us 4 (pB::us 36 [])) []))]⟩
def L279_5.O:Orc P:=⟨[],[],[],40⟩
def L279_5.s0:Option τ :=
 br (ltI (gI l 5) (gI l 4))
 (ck (((leI 0 (gI l 5))&&(ltI (gI l 5) (gN l 2)))&&true)
 (ck (ltN ((Int.toNat (gI l 5))*1) (gL l 3).length)
 (br (leI (List.getD (gL l 3) ((Int.toNat (gI l 5))*1) 0) (gI l 1))
 (ex 0 [.B false])
 (br (geI (List.getD (gL l 3) ((Int.toNat (gI l 5))*1) 0) (((gN l 6):Nat):Int))
 (ex 0 [.B false])
 (nx 0 [bG l 0,.I (List.getD (gL l 3) ((Int.toNat (gI l 5))*1) 0),nG l 2,vG l 3,iG l 4,.I (wr .i64 ((gI l 5)+1)),nG l 6,vG l 7,nG l 8,vG l 9])))))
 (ex 1 [bG l 0])
theorem L279_5.e0:LEq L279_5.O L279_5.H 0 L279_5.s0:=by intro τ next κ l;kernel_rfl
def L279_5:LStep P Cf:=LStep.mk1 (by decide) L279_5.e0
def L279_5.b:Option τ:=runE L279_5 fuel κ t l
def L279_5.E:LEnt P:=LStep.E L279_5
def F279.ps:List PV2:=[qOver,pNoisy]
def F279.sh:List PA:=[(PA.mk (PV3.v pB) [])]
def F279.O:Orc P:=⟨[F278.E],[L279_5.E],[],40⟩
def F279:Option τ :=
 br ((((gL l 4).length:Nat):Int) != (wr .i64 ((gI l 3)-1)))
 (k 0 [.B false])
 (ck (((eqM (gL l 2).length (gL l 2).length)&&true)&&((eqM (gL l 4).length (gL l 4).length)&&true))
 (F278 [iG l 0,iG l 1,vG l 2,iG l 3,vG l 4]
 (fun j A=>(sw (br (!(gB A 0))
 (k 0 [.B false])
 (L279_5.b 0 [.B false,.I (-1),.N (gL l 5).length,vG l 5,.I (((gL l 5).length:Nat):Int),.I 0,.N (gL l 4).length,vG l 4,.N (gL l 5).length,vG l 5]
 (fun j B=>(sw (k 0 [bG B 0])
 (sw (k 0 [.B true])
 (fun _=>none))) j)))
 (fun _=>none)) j)))
theorem F279.eq:FEq F279.O 113 F279.ps F279.sh F279:=by intro τ l κ;kernel_rfl
def F279.E:Ent P:=mkF F279.eq
end
end Go.Proofs.Yticbdgmcofjkeaa.Ai
namespace Go.Proofs.Yticbdgmcofjkeaa.Ai
open Go Go.RowKit
noncomputable section
def T276 {τ:Type} (l:LS_) (k:Nat→LS_→Option τ):Option τ:=wrapB F276.E (.tup [qOver,pB]) l k
def T276.E:Ent P:=F276.E.wrap (.tup [qOver,pB])
def T278 {τ:Type} (l:LS_) (k:Nat→LS_→Option τ):Option τ:=F278 l k
def T278.E:Ent P:=F278.E
def T290 {τ:Type} (l:LS_) (k:Nat→LS_→Option τ):Option τ:=F290 l k
def T290.E:Ent P:=F290.E
def T277 {τ:Type} (l:LS_) (k:Nat→LS_→Option τ):Option τ:=wrapB F277.E (.v pR) l k
def T277.E:Ent P:=F277.E.wrap (.v pR)
def T279 {τ:Type} (l:LS_) (k:Nat→LS_→Option τ):Option τ:=F279 l k
def T279.E:Ent P:=F279.E
def F113_4.ps:List PV2:=[(pFieldE (1:Int)),pI,pI]
def F113_4.sh:List PA:=[(PA.mk (PV3.v pI) [])]
def F113_4.O (fu:Nat):Orc P:=⟨[(F128.E fu),(F127.E fu),(F130.E fu)],[(L113_5.E fu)],[],40⟩
def F113_4 (fu:Nat) {τ:Type} (l:LS_) (k:Nat→LS_→Option τ):Option τ :=
 ck ((true&&(true&&((eqM (List.length (gL l 1)) (List.length (gL l 1)))&&true)))&&true)
 ((F128 fu) [.I (gI l 0),.L (gL l 1)]
 (fun j l1=>(sw (br (!(gB l1 0))
 (k 0 [.I (0:Int)])
 ((F127 fu) [.I (gI l 0),.I (gI l 2)]
 (fun j l3=>(sw ((F127 fu) [.I (gI l 0),.I (gI l 3)]
 (fun j l4=>(sw ((L113_5.b fu) 0 [.I (gI l 0),.N (List.length (gL l 1)),.L (gL l 1),.I (gI l3 0),.I (gI l3 1),.I (gI l3 2),.I (gI l3 3),.I (gI l3 4),.I (gI l3 5),.I (gI l3 6),.I (gI l3 7),.I (gI l3 8),.I (gI l3 9),.I (gI l3 10),.I (gI l3 11),.I (gI l4 0),.I (gI l4 1),.I (gI l4 2),.I (gI l4 3),.I (gI l4 4),.I (gI l4 5),.I (gI l4 6),.I (gI l4 7),.I (gI l4 8),.I (gI l4 9),.I (gI l4 10),.I (gI l4 11)]
 (fun j l6=>(sw (ck ((true&&(true&&((eqM (gN l6 1) (List.length (gL l6 2)))&&true)))&&((true&&(true&&(true&&(true&&(true&&(true&&(true&&(true&&(true&&(true&&(true&&(true&&true))))))))))))&&true))
 ((F130 fu) [.I (gI l6 0),.L (gL l6 2),.I (gI l6 3),.I (gI l6 4),.I (gI l6 5),.I (gI l6 6),.I (gI l6 7),.I (gI l6 8),.I (gI l6 9),.I (gI l6 10),.I (gI l6 11),.I (gI l6 12),.I (gI l6 13),.I (gI l6 14)]
 (fun j l8=>(sw (k 0 [.I (gI l8 0)])
 (fun _=>none)) j)))
 (fun _=>none)) j))
 (fun _=>none)) j))
 (fun _=>none)) j)))
 (fun _=>none)) j))
theorem F113_4.eq (fu:Nat):FEq (F113_4.O fu) 103 F113_4.ps F113_4.sh (F113_4 fu):=by intro τ l κ;kernel_rfl
def F113_4.E (fu:Nat):Ent P:=mkF (F113_4.eq fu)
def F113_5.ps:List PV2:=[(pFieldE (2:Int)),pI,pI]
def F113_5.sh:List PA:=[(PA.mk (PV3.v pI) [])]
def F113_5.O (fu:Nat):Orc P:=⟨[(F128_1.E fu),(F127.E fu),(F130_1.E fu)],[(L113_5_1.E fu)],[],40⟩
def F113_5 (fu:Nat) {τ:Type} (l:LS_) (k:Nat→LS_→Option τ):Option τ :=
 ck ((true&&(true&&((eqM (List.length (gL l 1)) (List.length (gL l 1)))&&true)))&&true)
 ((F128_1 fu) [.I (gI l 0),.L (gL l 1)]
 (fun j l10=>(sw (br (!(gB l10 0))
 (k 0 [.I (0:Int)])
 ((F127 fu) [.I (gI l 0),.I (gI l 2)]
 (fun j l11=>(sw ((F127 fu) [.I (gI l 0),.I (gI l 3)]
 (fun j l12=>(sw ((L113_5_1.b fu) 0 [.I (gI l 0),.N (List.length (gL l 1)),.L (gL l 1),.I (gI l11 0),.I (gI l11 1),.I (gI l11 2),.I (gI l11 3),.I (gI l11 4),.I (gI l11 5),.I (gI l11 6),.I (gI l11 7),.I (gI l11 8),.I (gI l11 9),.I (gI l11 10),.I (gI l11 11),.I (gI l12 0),.I (gI l12 1),.I (gI l12 2),.I (gI l12 3),.I (gI l12 4),.I (gI l12 5),.I (gI l12 6),.I (gI l12 7),.I (gI l12 8),.I (gI l12 9),.I (gI l12 10),.I (gI l12 11)]
 (fun j l15=>(sw (ck ((true&&(true&&((eqM (gN l15 1) (List.length (gL l15 2)))&&true)))&&((true&&(true&&(true&&(true&&(true&&(true&&(true&&(true&&(true&&(true&&(true&&(true&&true))))))))))))&&true))
 ((F130_1 fu) [.I (gI l15 0),.L (gL l15 2),.I (gI l15 3),.I (gI l15 4),.I (gI l15 5),.I (gI l15 6),.I (gI l15 7),.I (gI l15 8),.I (gI l15 9),.I (gI l15 10),.I (gI l15 11),.I (gI l15 12),.I (gI l15 13),.I (gI l15 14)]
 (fun j l17=>(sw (k 0 [.I (gI l17 0)])
 (fun _=>none)) j)))
 (fun _=>none)) j))
 (fun _=>none)) j))
 (fun _=>none)) j)))
 (fun _=>none)) j))
theorem F113_5.eq (fu:Nat):FEq (F113_5.O fu) 103 F113_5.ps F113_5.sh (F113_5 fu):=by intro τ l κ;kernel_rfl
def F113_5.E (fu:Nat):Ent P:=mkF (F113_5.eq fu)
def F113_6.ps:List PV2:=[(pFieldE (3:Int)),pI,pI]
def F113_6.sh:List PA:=[(PA.mk (PV3.v pI) [])]
def F113_6.O (fu:Nat):Orc P:=⟨[(F128_2.E fu),(F127.E fu),(F130_2.E fu)],[(L113_5_2.E fu)],[],40⟩
def F113_6 (fu:Nat) {τ:Type} (l:LS_) (k:Nat→LS_→Option τ):Option τ :=
 ck ((true&&(true&&((eqM (List.length (gL l 1)) (List.length (gL l 1)))&&true)))&&true)
 ((F128_2 fu) [.I (gI l 0),.L (gL l 1)]
 (fun j l19=>(sw (br (!(gB l19 0))
 (k 0 [.I (0:Int)])
 ((F127 fu) [.I (gI l 0),.I (gI l 2)]
 (fun j l20=>(sw ((F127 fu) [.I (gI l 0),.I (gI l 3)]
 (fun j l21=>(sw ((L113_5_2.b fu) 0 [.I (gI l 0),.N (List.length (gL l 1)),.L (gL l 1),.I (gI l20 0),.I (gI l20 1),.I (gI l20 2),.I (gI l20 3),.I (gI l20 4),.I (gI l20 5),.I (gI l20 6),.I (gI l20 7),.I (gI l20 8),.I (gI l20 9),.I (gI l20 10),.I (gI l20 11),.I (gI l21 0),.I (gI l21 1),.I (gI l21 2),.I (gI l21 3),.I (gI l21 4),.I (gI l21 5),.I (gI l21 6),.I (gI l21 7),.I (gI l21 8),.I (gI l21 9),.I (gI l21 10),.I (gI l21 11)]
 (fun j l25=>(sw (ck ((true&&(true&&((eqM (gN l25 1) (List.length (gL l25 2)))&&true)))&&((true&&(true&&(true&&(true&&(true&&(true&&(true&&(true&&(true&&(true&&(true&&(true&&true))))))))))))&&true))
 ((F130_2 fu) [.I (gI l25 0),.L (gL l25 2),.I (gI l25 3),.I (gI l25 4),.I (gI l25 5),.I (gI l25 6),.I (gI l25 7),.I (gI l25 8),.I (gI l25 9),.I (gI l25 10),.I (gI l25 11),.I (gI l25 12),.I (gI l25 13),.I (gI l25 14)]
 (fun j l27=>(sw (k 0 [.I (gI l27 0)])
 (fun _=>none)) j)))
 (fun _=>none)) j))
 (fun _=>none)) j))
 (fun _=>none)) j)))
 (fun _=>none)) j))
theorem F113_6.eq (fu:Nat):FEq (F113_6.O fu) 103 F113_6.ps F113_6.sh (F113_6 fu):=by intro τ l κ;kernel_rfl
def F113_6.E (fu:Nat):Ent P:=mkF (F113_6.eq fu)
def F113_3.ps:List PV2:=[(pFieldE (4:Int)),pI,pI]
def F113_3.sh:List PA:=[(PA.mk (PV3.v pI) [])]
def F113_3.O (fu:Nat):Orc P:=⟨[(F128_99.E fu),(F127.E fu),(F130_99.E fu)],[(L113_5_99.E fu)],[],40⟩
def F113_3 (fu:Nat) {τ:Type} (l:LS_) (k:Nat→LS_→Option τ):Option τ :=
 ck ((true&&(true&&((eqM (List.length (gL l 1)) (List.length (gL l 1)))&&true)))&&true)
 ((F128_99 fu) [.I (gI l 0),.L (gL l 1)]
 (fun j l29=>(sw (br (!(gB l29 0))
 (k 0 [.I (0:Int)])
 ((F127 fu) [.I (gI l 0),.I (gI l 2)]
 (fun j l30=>(sw ((F127 fu) [.I (gI l 0),.I (gI l 3)]
 (fun j l31=>(sw ((L113_5_99.b fu) 0 [.I (gI l 0),.N (List.length (gL l 1)),.L (gL l 1),.I (gI l30 0),.I (gI l30 1),.I (gI l30 2),.I (gI l30 3),.I (gI l30 4),.I (gI l30 5),.I (gI l30 6),.I (gI l30 7),.I (gI l30 8),.I (gI l30 9),.I (gI l30 10),.I (gI l30 11),.I (gI l31 0),.I (gI l31 1),.I (gI l31 2),.I (gI l31 3),.I (gI l31 4),.I (gI l31 5),.I (gI l31 6),.I (gI l31 7),.I (gI l31 8),.I (gI l31 9),.I (gI l31 10),.I (gI l31 11)]
 (fun j l36=>(sw (ck ((true&&(true&&((eqM (gN l36 1) (List.length (gL l36 2)))&&true)))&&((true&&(true&&(true&&(true&&(true&&(true&&(true&&(true&&(true&&(true&&(true&&(true&&true))))))))))))&&true))
 ((F130_99 fu) [.I (gI l36 0),.L (gL l36 2),.I (gI l36 3),.I (gI l36 4),.I (gI l36 5),.I (gI l36 6),.I (gI l36 7),.I (gI l36 8),.I (gI l36 9),.I (gI l36 10),.I (gI l36 11),.I (gI l36 12),.I (gI l36 13),.I (gI l36 14)]
 (fun j l38=>(sw (k 0 [.I (gI l38 0)])
 (fun _=>none)) j)))
 (fun _=>none)) j))
 (fun _=>none)) j))
 (fun _=>none)) j)))
 (fun _=>none)) j))
theorem F113_3.eq (fu:Nat):FEq (F113_3.O fu) 103 F113_3.ps F113_3.sh (F113_3 fu):=by intro τ l κ;kernel_rfl
def F113_3.E (fu:Nat):Ent P:=mkF (F113_3.eq fu)
end
end Go.Proofs.Yticbdgmcofjkeaa.Ai
namespace Go.Proofs.Yticbdgmcofjkeaa.Ai
open Go Go.RowKit Ma
noncomputable section
def fsub (q:Nat) (a b:Int):Int:=fadd q a (fneg q b)
def T113 {τ:Type} (l:LS_) (k:Nat→LS_→Option τ):Option τ:=tab2 fsub l k
def p113 (q:Nat) (a b:Int):Bool:=chkI (fsub q a b) (F113_4 64 [.I (fp q),.L (fm q),.I a,.I b] (kk F113_4.sh))
theorem t113:[2,3,5,7,11,13].all (fun q=>(List.range q).all fun a=>(List.range q).all fun b=>p113 q a b)=true:=by kernel_rfl
def p113_1 (q:Nat) (a b:Int):Bool:=chkI (fsub q a b) (F113_5 64 [.I (fp q),.L (fm q),.I a,.I b] (kk F113_5.sh))
theorem t113_1:[4,9].all (fun q=>(List.range q).all fun a=>(List.range q).all fun b=>p113_1 q a b)=true:=by kernel_rfl
def p113_2 (q:Nat) (a b:Int):Bool:=chkI (fsub q a b) (F113_6 64 [.I (fp q),.L (fm q),.I a,.I b] (kk F113_6.sh))
theorem t113_2:[8].all (fun q=>(List.range q).all fun a=>(List.range q).all fun b=>p113_2 q a b)=true:=by kernel_rfl
def p113_3 (q:Nat) (a b:Int):Bool:=chkI (fsub q a b) (F113_3 64 [.I (fp q),.L (fm q),.I a,.I b] (kk F113_3.sh))
theorem t113_3a:(List.range 8).all (fun (a:Nat)=>(List.range 16).all fun (b:Nat)=>p113_3 16 a b)=true:=by kernel_rfl
theorem t113_3b:((List.range 16).drop 8).all (fun (a:Nat)=>(List.range 16).all fun (b:Nat)=>p113_3 16 a b)=true:=by kernel_rfl
theorem t113_3:[16].all (fun q=>(List.range q).all fun a=>(List.range q).all fun b=>p113_3 q a b)=true:=by
 rw [List.all_cons,all_split t113_3a t113_3b]
 rfl
theorem cs113:∀ q∈Qs,∀ a b:Int,0≤a→a<q→0≤b→b<q→CS P 103 [fAV q,.int .i64 a,.int .i64 b] ⟨.int .i64 (fsub q a b),[]⟩:=fun q hq a b h0 h1 h2 h3=>by
 unfold fAV
 rcases qs_cases hq with ⟨h,e⟩ | ⟨h,e⟩ | ⟨h,e⟩ | ⟨h,e⟩
 ·rw [e];exact F_ok (F113_4.eq 64) (chkI_ok (all2 (p:=p113) t113 h h0 h1 h2 h3))
 ·rw [e];exact F_ok (F113_5.eq 64) (chkI_ok (all2 (p:=p113_1) t113_1 h h0 h1 h2 h3))
 ·rw [e];exact F_ok (F113_6.eq 64) (chkI_ok (all2 (p:=p113_2) t113_2 h h0 h1 h2 h3))
 ·rw [e];exact F_ok (F113_3.eq 64) (chkI_ok (all2 (p:=p113_3) t113_3 h h0 h1 h2 h3))
def T113.E:Ent P:=⟨103,[pField,pI,pI],sh1,fun l k=>T113 l k,tab2_ok cs113⟩
end
end Go.Proofs.Yticbdgmcofjkeaa.Ai
namespace Go.Proofs.Yticbdgmcofjkeaa.Ma
def Wd (q n:Nat) (v:List Int):Prop:=v.length=n∧∀ j,j<n→0≤v.getD j 0∧v.getD j 0<q
def vadd (add:Int→Int→Int) (a b:List Int):List Int:=List.zipWith add a b
def vmul (mul:Int→Int→Int) (c:Int) (a:List Int):List Int:=a.map (mul c)
def ent (m:List (List Int)) (i j:Nat):Int:=(m.getD i []).getD j 0
theorem vadd_len {add:Int→Int→Int} {a b:List Int} (h:a.length=b.length):(vadd add a b).length=a.length:=by simp [vadd,h]
theorem vadd_get {add:Int→Int→Int} {a b:List Int} (h:a.length=b.length) {j:Nat} (hj:j<a.length):(vadd add a b).getD j 0=add (a.getD j 0) (b.getD j 0):=by
 have hb:j<b.length:=h▸hj
 have hz:j<(vadd add a b).length:=by rw [vadd_len h];exact hj
 rw [List.getD_eq_getElem?_getD,List.getElem?_eq_getElem hz,List.getD_eq_getElem?_getD,List.getElem?_eq_getElem hj,List.getD_eq_getElem?_getD,List.getElem?_eq_getElem hb]
 simp [vadd]
theorem vmul_len {mul:Int→Int→Int} {c:Int} {a:List Int}:(vmul mul c a).length=a.length:=by simp [vmul]
theorem vmul_get {mul:Int→Int→Int} {c:Int} {a:List Int} {j:Nat} (hj:j<a.length):(vmul mul c a).getD j 0=mul c (a.getD j 0):=by
 simp [vmul,List.getD_eq_getElem?_getD,hj]
theorem ext_getD {a b:List Int} (h:a.length=b.length) (he:∀ j,j<a.length→a.getD j 0=b.getD j 0):a=b:=by
 refine List.ext_getElem h fun j h1 h2=>?_
 have:=he j h1
 simpa [List.getD_eq_getElem?_getD,h1,h2] using this
theorem ext_rows {a b:List (List Int)} (h:a.length=b.length) (he:∀ j,j<a.length→a.getD j []=b.getD j []):a=b:=by
 refine List.ext_getElem h fun j h1 h2=>?_
 have:=he j h1
 simpa [List.getD_eq_getElem?_getD,h1,h2] using this
theorem getD_set_row {m:List (List Int)} {i j:Nat} {x:List Int} (hi:i<m.length):(m.set i x).getD j []=if i=j then x else m.getD j []:=by
 simp only [List.getD_eq_getElem?_getD,List.getElem?_set]
 by_cases h:i=j
 ·subst h;simp [hi]
 ·simp [h]
section
variable {q:Nat} {add mul:Int→Int→Int} {neg inv:Int→Int}
theorem Wd.vadd (F:Fld q add mul neg inv) {n:Nat} {a b:List Int} (ha:Wd q n a) (hb:Wd q n b):Wd q n (vadd add a b):=by
 have h:a.length=b.length:=ha.1.trans hb.1.symm
 refine ⟨(vadd_len h).trans ha.1,fun j hj=>?_⟩
 rw [vadd_get h (by rw [ha.1];exact hj)]
 exact F.add_in _ _ (ha.2 j hj).1 (ha.2 j hj).2 (hb.2 j hj).1 (hb.2 j hj).2
theorem Wd.vmul (F:Fld q add mul neg inv) {n:Nat} {c:Int} {a:List Int} (h0:0≤c) (h1:c<q) (ha:Wd q n a):Wd q n (vmul mul c a):=by
 refine ⟨vmul_len.trans ha.1,fun j hj=>?_⟩
 rw [vmul_get (by rw [ha.1];exact hj)]
 exact F.mul_in _ _ h0 h1 (ha.2 j hj).1 (ha.2 j hj).2
end
def findp (m:List (List Int)) (c:Nat):Nat→Nat→Nat
 | 0,p=>p
 | f+1,p=>if p<m.length then (if ent m p c=0 then findp m c f (p+1) else p) else p
def elim (add mul:Int→Int→Int) (neg:Int→Int) (m:List (List Int)) (r c:Nat):List (List Int) :=
 (List.range m.length).map fun k=>if k=r then m.getD k [] else vadd add (m.getD k []) (vmul mul (neg (ent m k c)) (m.getD r []))
def lift (mul:Int→Int→Int) (inv:Int→Int) (m:List (List Int)) (r p c:Nat):List (List Int):=(m.set p (m.getD r [])).set r (vmul mul (inv (ent m p c)) (m.getD p []))
def red (add mul:Int→Int→Int) (neg inv:Int→Int):Nat→Nat→Nat→List (List Int)→List (List Int)×Nat
 | 0,c,r,m=>(m,r)
 | f+1,c,r,m=>if r<m.length then (if findp m c (m.length-r) r=m.length then red add mul neg inv f (c+1) r m
   else red add mul neg inv f (c+1) (r+1) (elim add mul neg (lift mul inv m r (findp m c (m.length-r) r) c) r c)) else (m,r)
def reduce (add mul:Int→Int→Int) (neg inv:Int→Int) (n:Nat) (m:List (List Int)):List (List Int):=(red add mul neg inv n 0 0 m).1.take (red add mul neg inv n 0 0 m).2
theorem findp_spec (m:List (List Int)) (c:Nat):∀ (f p:Nat),p≤m.length→m.length≤f+p →
  p≤findp m c f p∧findp m c f p≤m.length∧(∀ k,p≤k→k<findp m c f p→ent m k c=0)∧(findp m c f p<m.length→ent m (findp m c f p) c≠0)
 | 0,p,h1,h2=>⟨Nat.le_refl _,h1,fun k a b=>by unfold findp at b;omega,fun h=>by unfold findp at h;omega⟩
 | f+1,p,h1,h2=>by
  unfold findp
  by_cases hp:p<m.length
  ·rw [if_pos hp]
   by_cases he:ent m p c=0
   ·rw [if_pos he]
    obtain ⟨a,b,d,e⟩:=findp_spec m c f (p+1) (by omega) (by omega)
    refine ⟨by omega,b,fun k hk1 hk2=>?_,e⟩
    by_cases hkp:k=p
    ·rw [hkp];exact he
    ·exact d k (by omega) hk2
   ·rw [if_neg he]
    exact ⟨Nat.le_refl _,by omega,fun k a b=>by omega,fun _=>he⟩
  ·rw [if_neg hp]
   exact ⟨Nat.le_refl _,h1,fun k a b=>by omega,fun h=>absurd h hp⟩
structure Rref (q n:Nat) (G:List (List Int)) (piv:Nat→Nat):Prop where
 wd:∀ i,i<G.length→Wd q n (G.getD i [])
 lt:∀ i,i<G.length→piv i<n
 mono:∀ i j,i<j→j<G.length→piv i<piv j
 one:∀ i,i<G.length→ent G i (piv i)=1
 zero:∀ i k,i<G.length→k<G.length→k≠i→ent G k (piv i)=0
 lead:∀ i j,i<G.length→j<piv i→ent G i j=0
structure Way (q n:Nat) (c r:Nat) (m:List (List Int)) (piv:Nat→Nat):Prop where
 wd:∀ i,i<m.length→Wd q n (m.getD i [])
 rl:r≤m.length
 lt:∀ i,i<r→piv i<c
 mono:∀ i j,i<j→j<r→piv i<piv j
 one:∀ i,i<r→ent m i (piv i)=1
 zero:∀ i k,i<r→k<m.length→k≠i→ent m k (piv i)=0
 lead:∀ i j,i<r→j<piv i→ent m i j=0
 rest:∀ k j,r≤k→k<m.length→j<c→ent m k j=0
section
variable {q:Nat} {add mul:Int→Int→Int} {neg inv:Int→Int} {n:Nat}
theorem Way.pass {c r:Nat} {m:List (List Int)} {piv:Nat→Nat} (W:Way q n c r m piv) (h:∀ k,r≤k→k<m.length→ent m k c=0):Way q n (c+1) r m piv :=
 ⟨W.wd,W.rl,fun i hi=>Nat.lt_succ_of_lt (W.lt i hi),W.mono,W.one,W.zero,W.lead,fun k j hk hl hj=>by
  rcases Nat.lt_succ_iff_lt_or_eq.1 hj with h1 | h1
  ·exact W.rest k j hk hl h1
  ·rw [h1];exact h k hk hl⟩
theorem lift_len {m:List (List Int)} {r p c:Nat}:(lift mul inv m r p c).length=m.length:=by simp [lift]
theorem lift_get {m:List (List Int)} {r p c k:Nat} (hr:r<m.length) (hp:p<m.length) :
  (lift mul inv m r p c).getD k []=if k=r then vmul mul (inv (ent m p c)) (m.getD p []) else if k=p then m.getD r [] else m.getD k []:=by
 unfold lift
 rw [getD_set_row (by simpa using hr),getD_set_row hp]
 by_cases h1:k=r
 ·subst h1;simp
 ·rw [if_neg (fun e=>h1 e.symm),if_neg h1]
  by_cases h2:k=p
  ·subst h2;simp
  ·rw [if_neg (fun e=>h2 e.symm),if_neg h2]
theorem elim_len {m:List (List Int)} {r c:Nat}:(elim add mul neg m r c).length=m.length:=by simp [elim]
theorem elim_get {m:List (List Int)} {r c k:Nat} (hk:k<m.length) :
  (elim add mul neg m r c).getD k []=if k=r then m.getD k [] else vadd add (m.getD k []) (vmul mul (neg (ent m k c)) (m.getD r [])):=by
 simp [elim,List.getD_eq_getElem?_getD,hk]
theorem Way.step (F:Fld q add mul neg inv) {c r p:Nat} {m:List (List Int)} {piv:Nat→Nat} (W:Way q n c r m piv) (hc:c<n) (hr:r<m.length) (h1:r≤p) (h2:p<m.length) (h3:ent m p c≠0) :
  Way q n (c+1) (r+1) (elim add mul neg (lift mul inv m r p c) r c) fun i=>if i=r then c else piv i:=by
 have hone:(1:Int)<q:=by exact_mod_cast F.one_lt
 have wp:=W.wd p h2
 have hin:∀ k j,k<m.length→j<n→0≤ent m k j∧ent m k j<q:=fun k j hk hj=>(W.wd k hk).2 j hj
 have hinv:=F.inv_in (ent m p c) (hin p c h2 hc).1 (hin p c h2 hc).2
 -- the rows of the lifted matrix
 let m1:=lift mul inv m r p c
 have l1:m1.length=m.length:=lift_len
 have g1:∀ k,m1.getD k []=if k=r then vmul mul (inv (ent m p c)) (m.getD p []) else if k=p then m.getD r [] else m.getD k []:=fun k=>lift_get hr h2
 have w1:∀ k,k<m1.length→Wd q n (m1.getD k []):=fun k hk=>by
  rw [g1]
  rw [l1] at hk
  split
  ·exact Wd.vmul F hinv.1 hinv.2 wp
  ·split
   ·exact W.wd r hr
   ·exact W.wd k hk
 have e1r:∀ j,j<n→ent m1 r j=mul (inv (ent m p c)) (ent m p j):=fun j hj=>by
  unfold ent
  rw [g1,if_pos rfl,vmul_get (by rw [wp.1];exact hj)]
  rfl
 -- its elements before column c
 have before:∀ j,j<c→ent m1 r j=0:=fun j hj=>by
  rw [e1r j (by omega),W.rest p j h1 h2 hj,F.mul_comm _ _ hinv.1 hinv.2 (by omega) (by omega),F.zero_mul _ hinv.1 hinv.2]
 have at1:ent m1 r c=1:=by rw [e1r c hc];exact F.mul_inv _ (hin p c h2 hc).1 (hin p c h2 hc).2 h3
 have same:∀ k,k≠r→∃ k',k'<m.length∧(k<r→k'=k)∧(r≤k→r≤k')∧(k<m.length→m1.getD k []=m.getD k' []):=fun k hk=>by
  by_cases hkl:k<m.length
  ·by_cases hkp:k=p
   ·exact ⟨r,hr,fun h=>by omega,fun _=>Nat.le_refl _,fun _=>by rw [g1,if_neg hk,if_pos hkp]⟩
   ·exact ⟨k,hkl,fun _=>rfl,fun h=>h,fun _=>by rw [g1,if_neg hk,if_neg hkp]⟩
  ·exact ⟨r,hr,fun h=>by omega,fun _=>Nat.le_refl _,fun h=>absurd h hkl⟩
 let m2:=elim add mul neg m1 r c
 have l2:m2.length=m.length:=elim_len.trans l1
 have g2:∀ k,k<m.length→m2.getD k []=if k=r then m1.getD k [] else vadd add (m1.getD k []) (vmul mul (neg (ent m1 k c)) (m1.getD r [])):=fun k hk=>elim_get (by rw [l1];exact hk)
 have hw1r:=w1 r (by rw [l1];exact hr)
 have negin:∀ k,k<m.length→0≤neg (ent m1 k c)∧neg (ent m1 k c)<q:=fun k hk=>F.neg_in _ ((w1 k (by rw [l1];exact hk)).2 c hc).1 ((w1 k (by rw [l1];exact hk)).2 c hc).2
 have w2:∀ k,k<m2.length→Wd q n (m2.getD k []):=fun k hk=>by
  rw [l2] at hk
  rw [g2 k hk]
  split
  ·exact w1 k (by rw [l1];exact hk)
  ·exact Wd.vadd F (w1 k (by rw [l1];exact hk)) (Wd.vmul F (negin k hk).1 (negin k hk).2 hw1r)
 have e2r:∀ j,ent m2 r j=ent m1 r j:=fun j=>by unfold ent;rw [g2 r hr,if_pos rfl]
 have e2:∀ k j,k<m.length→k≠r→j<n→ent m2 k j=add (ent m1 k j) (mul (neg (ent m1 k c)) (ent m1 r j)):=fun k j hk hkr hj=>by
  have hwk:=w1 k (by rw [l1];exact hk)
  unfold ent
  rw [g2 k hk,if_neg hkr,vadd_get (by rw [vmul_len,hwk.1,hw1r.1]) (by rw [hwk.1];exact hj),vmul_get (by rw [hw1r.1];exact hj)]
  rfl
 have in1:∀ k j,k<m.length→j<n→0≤ent m1 k j∧ent m1 k j<q:=fun k j hk hj=>(w1 k (by rw [l1];exact hk)).2 j hj
 -- where row r is 0,nothing changes
 have e2z:∀ k j,k<m.length→j<n→ent m1 r j=0→ent m2 k j=ent m1 k j:=fun k j hk hj hz=>by
  by_cases hkr:k=r
  ·rw [hkr];exact e2r j
  ·rw [e2 k j hk hkr hj,hz,F.mul_comm _ _ (negin k hk).1 (negin k hk).2 (by omega) (by omega),F.zero_mul _ (negin k hk).1 (negin k hk).2,
    F.add_comm _ _ (in1 k j hk hj).1 (in1 k j hk hj).2 (by omega) (by omega),F.zero_add _ (in1 k j hk hj).1 (in1 k j hk hj).2]
 have e2c:∀ k,k<m.length→k≠r→ent m2 k c=0:=fun k hk hkr=>by
  rw [e2 k c hk hkr hc,at1,F.mul_comm _ _ (negin k hk).1 (negin k hk).2 (by omega) hone,F.one_mul _ (negin k hk).1 (negin k hk).2,F.add_neg _ (in1 k c hk hc).1 (in1 k c hk hc).2]
 -- elements of m1 before column c
 have m1low:∀ k j,k<m.length→j<c→ent m1 k j=ent m k j:=fun k j hk hj=>by
  by_cases hkr:k=r
  ·rw [hkr,before j hj,W.rest r j (Nat.le_refl _) hr hj]
  ·by_cases hkp:k=p
   ·unfold ent
    rw [g1,if_neg hkr,if_pos hkp,hkp]
    have a1:=W.rest r j (Nat.le_refl _) hr hj
    have a2:=W.rest p j h1 h2 hj
    unfold ent at a1 a2
    rw [a1,a2]
   ·unfold ent
    rw [g1,if_neg hkr,if_neg hkp]
 have low:∀ k j,k<m.length→j<c→ent m2 k j=ent m k j:=fun k j hk hj=>by
  rw [e2z k j hk (by omega) (before j hj),m1low k j hk hj]
 refine ⟨w2,by show r+1≤m2.length;rw [l2];omega,fun i hi=>?_,fun i j hij hj=>?_,fun i hi=>?_,fun i k hi hk hki=>?_,fun i j hi hj=>?_,fun k j hk hkl hj=>?_⟩
 ·split
  ·omega
  ·have:=W.lt i (by omega);omega
 ·by_cases hjr:j=r
  ·rw [if_pos hjr,if_neg (by omega)]
   exact W.lt i (by omega)
  ·rw [if_neg hjr,if_neg (by omega)]
   exact W.mono i j hij (by omega)
 ·show ent m2 i _=1
  by_cases hir:i=r
  ·rw [if_pos hir,hir,e2r,at1]
  ·rw [if_neg hir,low i _ (by have:=W.rl;omega) (W.lt i (by omega))]
   exact W.one i (by omega)
 ·show ent m2 k _=0
  have hk':k<m.length:=by have:k<m2.length:=hk;rw [l2] at this;exact this
  by_cases hir:i=r
  ·rw [if_pos hir]
   exact e2c k hk' (by omega)
  ·rw [if_neg hir,low k _ hk' (W.lt i (by omega))]
   exact W.zero i k (by omega) hk' hki
 ·show ent m2 i j=0
  by_cases hir:i=r
  ·subst hir
   simp only [if_true] at hj
   rw [low i j hr hj]
   exact W.rest i j (Nat.le_refl _) hr hj
  ·simp only [if_neg hir] at hj
   have:=W.lt i (by omega)
   rw [low i j (by have:=W.rl;omega) (by omega)]
   exact W.lead i j (by omega) hj
 ·show ent m2 k j=0
  have hk':k<m.length:=by have:k<m2.length:=hkl;rw [l2] at this;exact this
  rcases Nat.lt_succ_iff_lt_or_eq.1 hj with h | h
  ·rw [low k j hk' h]
   exact W.rest k j (by omega) hk' h
  ·rw [h]
   exact e2c k hk' (by omega)
theorem red_way (F:Fld q add mul neg inv):∀ (f c r:Nat) (m:List (List Int)) (piv:Nat→Nat),f+c=n→Way q n c r m piv →
  ∃ piv' c',c'≤n∧Way q n c' (red add mul neg inv f c r m).2 (red add mul neg inv f c r m).1 piv'∧(c'=n∨(red add mul neg inv f c r m).2=(red add mul neg inv f c r m).1.length)∧(red add mul neg inv f c r m).1.length=m.length
 | 0,c,r,m,piv,hf,W=>⟨piv,c,by omega,W,.inl (by omega),rfl⟩
 | f+1,c,r,m,piv,hf,W=>by
  unfold red
  by_cases hr:r<m.length
  ·rw [if_pos hr]
   obtain ⟨a1,a2,a3,a4⟩:=findp_spec m c (m.length-r) r (by omega) (by omega)
   by_cases hp:findp m c (m.length-r) r=m.length
   ·rw [if_pos hp]
    exact red_way F f (c+1) r m piv (by omega) (W.pass fun k hk hl=>a3 k hk (by omega))
   ·rw [if_neg hp]
    obtain ⟨p1,c1,h1,h2,h3,h4⟩:=red_way F f (c+1) (r+1) _ _ (by omega) (W.step F (by omega) hr a1 (by omega) (a4 (by omega)))
    exact ⟨p1,c1,h1,h2,h3,h4.trans (elim_len.trans lift_len)⟩
  ·rw [if_neg hr]
   exact ⟨piv,c,by omega,W,.inr (by have:=W.rl;show r=m.length;omega),rfl⟩
theorem take_get {m:List (List Int)} {r i:Nat} (hi:i<r):(m.take r).getD i []=m.getD i []:=by
 simp [List.getD_eq_getElem?_getD,hi]
theorem Way.rref {c r:Nat} {m:List (List Int)} {piv:Nat→Nat} (W:Way q n c r m piv) (hc:c≤n):Rref q n (m.take r) piv:=by
 have hl:(m.take r).length=r:=by rw [List.length_take];exact Nat.min_eq_left W.rl
 have e:∀ i j,i<r→ent (m.take r) i j=ent m i j:=fun i j hi=>by unfold ent;rw [take_get hi]
 refine ⟨fun i hi=>?_,fun i hi=>?_,fun i j hij hj=>?_,fun i hi=>?_,fun i k hi hk hki=>?_,fun i j hi hj=>?_⟩
 all_goals rw [hl] at *
 ·rw [take_get hi];exact W.wd i (by have:=W.rl;omega)
 ·have:=W.lt i hi;omega
 ·exact W.mono i j hij hj
 ·rw [e i _ hi];exact W.one i hi
 ·rw [e k _ hk];exact W.zero i k hi (by have:=W.rl;omega) hki
 ·rw [e i _ hi];exact W.lead i j hi hj
theorem reduce_rref (F:Fld q add mul neg inv) {m:List (List Int)} (hm:∀ i,i<m.length→Wd q n (m.getD i [])):∃ piv,Rref q n (reduce add mul neg inv n m) piv∧(reduce add mul neg inv n m).length≤m.length:=by
 obtain ⟨piv,c,h1,h2,h3,h4⟩:=red_way F n 0 0 m (fun _=>0) (by omega) ⟨hm,Nat.zero_le _,fun i hi=>by omega,fun i j _ hj=>by omega,fun i hi=>by omega,fun i k hi=>by omega,fun i j hi=>by omega,fun k j _ _ hj=>by omega⟩
 exact ⟨piv,h2.rref h1,by unfold reduce;simp;omega⟩
end
end Go.Proofs.Yticbdgmcofjkeaa.Ma
namespace Go.Proofs.Yticbdgmcofjkeaa.Ma
def words (q:Nat) (add mul:Int→Int→Int):List (List Int)→List Int→List (List Int)
 | [],w=>[w]
 | g::gs,w=>(List.range q).flatMap fun (a:Nat)=>words q add mul gs (vadd add w (vmul mul (a:Int) g))
def comb (add mul:Int→Int→Int):List (List Int)→List Int→List Int→List Int
 | g::gs,a::asl,w=>comb add mul gs asl (vadd add w (vmul mul a g))
 | _,_,w=>w
def digs (q:Nat):Nat→Nat→List Int
 | 0,_=>[]
 | k+1,j=>((j / q^k % q:Nat):Int)::digs q k j
theorem digs_mod (q:Nat) (hq:0<q):∀ (k j M:Nat),digs q k (j+q^k*M)=digs q k j
 | 0,j,M=>rfl
 | k+1,j,M=>by
  unfold digs
  have e:q^(k+1)*M=q^k*(q*M):=by rw [Nat.pow_succ,Nat.mul_assoc]
  rw [e,digs_mod q hq k j (q*M),Nat.add_mul_div_left _ _ (Nat.pow_pos hq),Nat.add_mul_mod_self_left]
theorem range_mul (a b:Nat):List.range (a*b)=(List.range a).flatMap fun i=>(List.range b).map fun j=>b*i+j:=by
 induction a with
 | zero=>simp
 | succ a ih =>
  rw [Nat.succ_mul,List.range_add,ih,List.range_succ,List.flatMap_append]
  simp [Nat.mul_comm]
theorem words_digs (q:Nat) (hq:0<q) (add mul:Int→Int→Int):∀ (G:List (List Int)) (w:List Int),(List.range (q^G.length)).map (fun j=>comb add mul G (digs q G.length j) w)=words q add mul G w
 | [],w=>by simp [words,comb]
 | g::gs,w=>by
  simp only [List.length_cons]
  rw [Nat.pow_succ,Nat.mul_comm,range_mul,List.map_flatMap]
  unfold words
  unfold List.flatMap
  refine congrArg List.flatten (List.map_congr_left fun a ha=>?_)
  have ha':a<q:=by simpa using ha
  rw [←words_digs q hq add mul gs (vadd add w (vmul mul (a:Int) g)),List.map_map]
  refine List.map_congr_left fun j hj=>?_
  have hj':j<q^gs.length:=by simpa using hj
  have e1:(q^gs.length*a+j) / q^gs.length=a:=by
   rw [Nat.mul_add_div (Nat.pow_pos hq),Nat.div_eq_of_lt hj',Nat.add_zero]
  simp only [Function.comp,digs,comb,e1,Nat.mod_eq_of_lt ha']
  rw [Nat.add_comm,digs_mod q hq]
def far (lost:Nat→Bool) (w x:List Int) (a:Nat):Nat→Nat
 | 0=>0
 | k+1=>far lost w x a k+(if !lost (a+k)&&x.getD (a+k) 0 != w.getD (a+k) 0 then 1 else 0)
theorem far_succ (lost:Nat→Bool) (w x:List Int) (a k:Nat):far lost w x a (k+1)=far lost w x a k+(if !lost (a+k)&&x.getD (a+k) 0 != w.getD (a+k) 0 then 1 else 0):=rfl
def dfs (q:Nat) (add mul:Int→Int→Int) (lost:Nat→Bool) (w:List Int) (r:Int):List (List Int)→List Nat→List Int→Nat→List (List Int×Nat)
 | [],_,x,t=>if (t:Int)>r then [] else [(x,t)]
 | g::gs,e,x,t=>if (t:Int)>r then [] else
   (List.range q).flatMap fun (a:Nat)=>dfs q add mul lost w r gs e.tail (vadd add x (vmul mul (a:Int) g)) (t+far lost w (vadd add x (vmul mul (a:Int) g)) (e.getD 0 0) (e.getD 1 0-e.getD 0 0))
section
variable {q n:Nat} {add mul:Int→Int→Int} {neg inv:Int→Int}
theorem words_wd (F:Fld q add mul neg inv):∀ (G:List (List Int)) (w:List Int),(∀ i,i<G.length→Wd q n (G.getD i []))→Wd q n w→∀ y∈words q add mul G w,Wd q n y
 | [],w,_,hw,y,hy=>by
  unfold words at hy
  rw [List.mem_singleton] at hy
  rw [hy];exact hw
 | g::gs,w,hG,hw,y,hy=>by
  unfold words at hy
  obtain ⟨a,ha,hy⟩:=List.mem_flatMap.1 hy
  have ha':a<q:=by simpa using ha
  refine words_wd F gs _ (fun i hi=>by simpa using hG (i+1) (by simpa using hi)) ?_ y hy
  exact hw.vadd F (Wd.vmul F (by omega) (by exact_mod_cast ha') (by simpa using hG 0 (by simp)))
theorem words_same (F:Fld q add mul neg inv) {b:Nat} (hb:b≤n):∀ (G:List (List Int)) (w:List Int),(∀ i,i<G.length→Wd q n (G.getD i []))→(∀ i j,i<G.length→j<b→ent G i j=0)→Wd q n w→∀ y∈words q add mul G w,∀ j,j<b→y.getD j 0=w.getD j 0
 | [],w,_,_,_,y,hy,j,_=>by
  unfold words at hy
  rw [List.mem_singleton] at hy
  rw [hy]
 | g::gs,w,hG,hz,hw,y,hy,j,hj=>by
  unfold words at hy
  obtain ⟨a,ha,hy⟩:=List.mem_flatMap.1 hy
  have ha':a<q:=by simpa using ha
  have hg:Wd q n g:=by simpa using hG 0 (by simp)
  have haq:((a:Nat):Int)<q:=by exact_mod_cast ha'
  have hv:=Wd.vmul F (c:=(a:Int)) (by omega) haq hg
  rw [words_same F hb gs _ (fun i hi=>by simpa using hG (i+1) (by simpa using hi)) (fun i j hi hj=>by have:=hz (i+1) j (by simpa using hi) hj;simpa [ent] using this) (hw.vadd F hv) y hy j hj]
  have h0:g.getD j 0=0:=by have:=hz 0 j (by simp) hj;simpa [ent] using this
  have hwj:=hw.2 j (by omega)
  rw [vadd_get (by rw [hw.1,hv.1]) (by rw [hw.1];omega),vmul_get (by rw [hg.1];omega),h0,F.mul_comm _ _ (by omega) haq (by omega) (by have:=F.one_lt;omega),F.zero_mul _ (by omega) haq,F.add_comm _ _ hwj.1 hwj.2 (by omega) (by have:=F.one_lt;omega),F.zero_add _ hwj.1 hwj.2]
end
end Go.Proofs.Yticbdgmcofjkeaa.Ma
namespace Go.Proofs.Yticbdgmcofjkeaa.Ma
section
variable {q n:Nat} {add mul:Int→Int→Int} {neg inv:Int→Int}
end
def nearStep (d:List Int→Nat) (out:List (List Int)) (y:List Int):List (List Int) :=
 match out with
 | []=>[y]
 | o::os=>if d y>d o then o::os else if d y<d o then [y] else (o::os)++[y]
def near (d:List Int→Nat) (L:List (List Int)):List (List Int):=L.foldl (nearStep d) []
end Go.Proofs.Yticbdgmcofjkeaa.Ma
namespace Go.Proofs.Yticbdgmcofjkeaa.Ai
open Go Ma
noncomputable section
theorem take_succ_getD {α:Type} (d:α) {l:List α} {j:Nat} (h:j<l.length):l.take (j+1)=l.take j++[l.getD j d]:=by
 rw [List.take_succ_eq_append_getElem h]
 simp [List.getD_eq_getElem?_getD,h]
theorem drop_cons {α:Type} (d:α) {l:List α} {j:Nat} (h:j<l.length):l.drop j=l.getD j d::l.drop (j+1):=by
 rw [List.drop_eq_getElem_cons h]
 simp [List.getD_eq_getElem?_getD,h]
theorem wsucc {j:Nat} (h:j<2^62):wr .i64 ((j:Int)+1)=((j+1:Nat):Int):=by rw [wr64 (by omega) (by omega)];rfl
def In (q:Nat) (l:List Int):Prop:=∀ j,j<l.length→0≤l.getD j 0∧l.getD j 0<q
theorem In.of {q n:Nat} {l:List Int} (h:Wd q n l):In q l:=fun j hj=>h.2 j (by rw [←h.1];exact hj)
theorem L30_spec {q:Nat} (hq:q∈Qs) {a b:List Int} (ha:In q a) (hb:In q b) (hl:a.length=b.length) (hs:a.length<2^30) {τ:Type} (κ:Nat→LS_→Option τ):∀ (n j:Nat),j≤a.length→a.length<n+j →
  runE L30_3 n κ 0 [.N a.length,.L a,.N b.length,.L b,.N j,.I j,.I (fp q),.I (fe q),.N (fm q).length,.L (fm q),.L (vadd (fadd q) (a.take j) (b.take j))]=κ 0 [.N a.length,.L (vadd (fadd q) a b)]
 | 0,j,h1,h2=>by omega
 | n+1,j,h1,h2=>by
  rw [runE_succ]
  show L30_3.s0 _ _ _=_
  unfold L30_3.s0
  simp only [g_,h_]
  by_cases hj:j<a.length
  ·have e:=wsucc (j:=j) (by omega)
   have hx:=ha j hj
   have hy:=hb j (by omega)
   have hlen:(vadd (fadd q) (a.take j) (b.take j)).length=j:=by rw [vadd_len (by simp;omega),List.length_take];omega
   simp only [Int.toNat_natCast,Nat.mul_one]
   rw [br_of (by simp;omega),ck_of (by simp <;> omega),ck_of (by simp <;> omega),ck_of (by simp <;> omega),ck_of (by simp <;> omega),ck_of (by simp)]
   unfold T77
   rw [tab2_of hq hx.1 hx.2 hy.1 hy.2]
   simp only [sw_zero,gI_zero,h_]
   rw [ck_of (by simp [hlen] <;> omega),e]
   have:=L30_spec hq ha hb hl hs κ n (j+1) (by omega) (by omega)
   rw [take_succ_getD 0 hj,take_succ_getD (l:=b) 0 (show j<b.length by omega)] at this
   have e2:vadd (fadd q) (a.take j++[a.getD j 0]) (b.take j++[b.getD j 0])=vadd (fadd q) (a.take j) (b.take j)++[fadd q (a.getD j 0) (b.getD j 0)]:=by
    unfold vadd
    rw [List.zipWith_append (by simp;omega)]
    rfl
   rw [e2] at this
   exact this
  ·have:j=a.length:=by omega
   subst this
   rw [br_no (by simp),List.take_length,hl,List.take_length]
theorem F30_spec {q:Nat} (hq:q∈Qs) {a b:List Int} (ha:In q a) (hb:In q b) (hl:a.length=b.length) (hs:a.length<2^30) {τ:Type} (k:Nat→LS_→Option τ) :
  F30 [.I (fp q),.I (fe q),.L (fm q),.L a,.L b] k=k 0 [.N a.length,.L (vadd (fadd q) a b)]:=by
 unfold F30 L30_3.b
 simp only [g_,h_]
 have:=fuel_le
 exact L30_spec hq ha hb hl hs (fun j l9=>sw (k 0 [.N (gN l9 0),.L (gL l9 1)]) (fun _=>none) j) fuel 0 (by omega) (by omega)
theorem L27_spec {τ:Type} (κ:Nat→LS_→Option τ) (a b:List Int) (hl:a.length=b.length) (hb:a.length<2^60):∀ (n j:Nat) (r:Bool),j≤a.length→a.length<n+j →
  runE L27_4 n κ 0 [.N a.length,.L a,.N b.length,.L b,.B r,.I j]=if a.drop j=b.drop j then κ 1 [.B r] else κ 0 [.B false]
 | 0,j,r,h1,h2=>by omega
 | n+1,j,r,h1,h2=>by
  rw [runE_succ]
  show L27_4.s0 _ _ _=_
  unfold L27_4.s0
  simp only [g_,h_]
  by_cases hj:j<a.length
  ·have e:=wsucc (j:=j) (by omega)
   simp only [Int.toNat_natCast,Nat.mul_one]
   rw [br_of (by simp;omega),ck_of (by simp <;> omega),ck_of (by simp <;> omega),ck_of (by simp <;> omega),ck_of (by simp <;> omega),e,L27_spec κ a b hl hb n (j+1) r (by omega) (by omega)]
   rw [drop_cons (l:=a) (j:=j) 0 hj,drop_cons (l:=b) (j:=j) 0 (hl▸hj)]
   by_cases hq:a.getD j 0=b.getD j 0
   ·rw [br_no (by rw [hq];simp),hq];simp
   ·rw [br_of (by simpa using hq),if_neg (by intro h;injection h with h _;exact hq h)]
  ·have:j=a.length:=by omega
   rw [br_no (by simp;omega),if_pos (by rw [List.drop_eq_nil_of_le (by omega),List.drop_eq_nil_of_le (by omega)])]
theorem F27_spec {τ:Type} (k:Nat→LS_→Option τ) (a b:List Int) (hb:a.length<2^60):F27 [.L a,.L b] k=k 0 [.B (decide (a=b))]:=by
 unfold F27 L27_4.b
 simp only [gL_zero,gL_succ,h_]
 by_cases hl:a.length=b.length
 ·have:=fuel_le
  rw [br_no (by simp [hl])]
  have e:=L27_spec (fun j l0=>(sw (k 0 [(Leaf.B (gB l0 0))]) (sw (k 0 [(Leaf.B Bool.true)]) (fun _=>none))) j) a b hl hb fuel 0 false (by omega) (by omega)
  rw [show ((0:Nat):Int)=0 from rfl] at e
  refine Eq.trans e ?_
  by_cases hq:a=b
  ·subst hq;simp
  ·simp [hq]
 ·rw [br_of (by simp;omega)]
  have:a≠b:=fun h=>hl (by rw [h])
  simp [this]
structure Rows (q n:Nat) (m:List (List Int)):Prop where
 wd:∀ i,i<m.length→Wd q n (m.getD i [])
 few:m.length<2^20
 short:n<2^20
theorem fld (q:Nat) (hq:q∈Qs):Fld q (fadd q) (fmul q) (fneg q) (finv q):=fld_of hq
theorem qs_lt {q:Nat} (hq:q∈Qs):1<q∧q≤16:=by
 have:Qs.all (fun q=>decide (1<q∧q≤16))=true:=by decide
 simpa using List.all_eq_true.1 this q hq
def elimTo (add mul:Int→Int→Int) (neg:Int→Int) (m:List (List Int)) (r c k:Nat):List (List Int) :=
 (List.range m.length).map fun i=>if i=r∨k≤i then m.getD i [] else vadd add (m.getD i []) (vmul mul (neg (ent m i c)) (m.getD r []))
theorem elimTo_len {add mul:Int→Int→Int} {neg:Int→Int} {m:List (List Int)} {r c k:Nat}:(elimTo add mul neg m r c k).length=m.length:=by simp [elimTo]
theorem elimTo_get {add mul:Int→Int→Int} {neg:Int→Int} {m:List (List Int)} {r c k i:Nat} (hi:i<m.length) :
  (elimTo add mul neg m r c k).getD i []=if i=r∨k≤i then m.getD i [] else vadd add (m.getD i []) (vmul mul (neg (ent m i c)) (m.getD r [])):=by
 simp [elimTo,List.getD_eq_getElem?_getD,hi]
theorem elimTo_zero {add mul:Int→Int→Int} {neg:Int→Int} {m:List (List Int)} {r c:Nat}:elimTo add mul neg m r c 0=m :=
 ext_rows elimTo_len fun j hj=>by rw [elimTo_len] at hj;rw [elimTo_get hj,if_pos (.inr (Nat.zero_le _))]
theorem elimTo_all {add mul:Int→Int→Int} {neg:Int→Int} {m:List (List Int)} {r c:Nat}:elimTo add mul neg m r c m.length=elim add mul neg m r c :=
 ext_rows (elimTo_len.trans elim_len.symm) fun j hj=>by
  rw [elimTo_len] at hj
  rw [elimTo_get hj,elim_get hj]
  by_cases h:j=r
  ·rw [if_pos (.inl h),if_pos h]
  ·rw [if_neg (by omega),if_neg h]
theorem Rows.set {q n:Nat} {m:List (List Int)} (hm:Rows q n m) {i:Nat} {v:List Int} (hi:i<m.length) (hv:Wd q n v):Rows q n (m.set i v) :=
 ⟨fun j hj=>by
  rw [getD_set_row hi]
  split
  ·exact hv
  ·exact hm.wd j (by simpa using hj),by simpa using hm.few,hm.short⟩
theorem Rows.lift {q n:Nat} (hq:q∈Qs) {m:List (List Int)} (hm:Rows q n m) {r p c:Nat} (hr:r<m.length) (hp:p<m.length) (hc:c<n):Rows q n (lift (fmul q) (finv q) m r p c):=by
 have F:=fld q hq
 have x0:=(hm.wd p hp).2 c hc
 have hi:=F.inv_in _ x0.1 x0.2
 exact (hm.set hp (hm.wd r hr)).set (by simpa using hr) (Wd.vmul F hi.1 hi.2 (hm.wd p hp))
theorem Rows.elim {q n:Nat} (hq:q∈Qs) {m:List (List Int)} (hm:Rows q n m) {r c:Nat} (hr:r<m.length) (hc:c<n):Rows q n (elim (fadd q) (fmul q) (fneg q) m r c):=by
 have F:=fld q hq
 refine ⟨fun k hk=>?_,by rw [elim_len];exact hm.few,hm.short⟩
 rw [elim_len] at hk
 rw [elim_get hk]
 split
 ·exact hm.wd k hk
 ·have x0:=(hm.wd k hk).2 c hc
  have hi:=F.neg_in _ x0.1 x0.2
  exact Wd.vadd F (hm.wd k hk) (Wd.vmul F hi.1 hi.2 (hm.wd r hr))
theorem red_len {add mul:Int→Int→Int} {neg inv:Int→Int}:∀ (g c r:Nat) (m:List (List Int)),(red add mul neg inv g c r m).1.length=m.length∧r≤(red add mul neg inv g c r m).2∧(r≤m.length→(red add mul neg inv g c r m).2≤m.length)
 | 0,c,r,m=>⟨rfl,Nat.le_refl _,id⟩
 | g+1,c,r,m=>by
  unfold red
  split
  ·split
   ·exact red_len g (c+1) r m
   ·obtain ⟨a,b,d⟩:=red_len (add:=add) (mul:=mul) (neg:=neg) (inv:=inv) g (c+1) (r+1) (elim add mul neg (lift mul inv m r (findp m c (m.length-r) r) c) r c)
    rw [elim_len,lift_len] at a d
    exact ⟨a,by omega,fun h=>d (by omega)⟩
  ·exact ⟨rfl,Nat.le_refl _,id⟩
def Bytes (l:List Int):Prop:=l.length<2^63∧∀ j,0≤l.getD j 0∧l.getD j 0<256
theorem Wd.zeros {q n:Nat} (hq:0<q):Wd q n (List.replicate n 0):=⟨by simp,fun j hj=>by simp [List.getD_eq_getElem?_getD,List.getElem?_replicate,hj];omega⟩
theorem Wd.set {q n:Nat} {l:List Int} (h:Wd q n l) {j:Nat} {x:Int} (h0:0≤x) (h1:x<q):Wd q n (l.set j x):=by
 refine ⟨by simpa using h.1,fun i hi=>?_⟩
 have:=h.2 i hi
 simp only [List.getD_eq_getElem?_getD,List.getElem?_set] at this ⊢
 split
 ·split
  ·exact ⟨h0,h1⟩
  ·rename_i hx hy
   exact ⟨by simp,by simp;omega⟩
 ·exact this
structure Cd (q n:Nat) (G:List (List Int)):Prop where
 fq:q∈Qs
 n0:1≤n
 n1:n≤10
 form:∃ piv,Rref q n G piv
 count:q^G.length≤256
end
end Go.Proofs.Yticbdgmcofjkeaa.Ai
namespace Go.Proofs.Yticbdgmcofjkeaa.Ai
open Go Go.RowKit
noncomputable section
variable {τ:Type} (t:Nat) (nx ex:Nat→LS_→Option τ) (l:LS_) (k κ:Nat→LS_→Option τ)
end
end Go.Proofs.Yticbdgmcofjkeaa.Ai
namespace Go.Proofs.Yticbdgmcofjkeaa.Ai
open Go Ma
noncomputable section
theorem L22_run (f:Nat) {τ:Type} (κ:Nat→LS_→Option τ) (l:LS_):runE L22_4 (f+1) κ 0 l=L22_4.s0 (runE L22_4 f κ) κ l:=rfl
theorem L22_spec {a b:List (List Int)} (hl:a.length=b.length) (hs:a.length<2^60) (ha:∀ i,(a.getD i []).length<2^60) {τ:Type} (κ:Nat→LS_→Option τ):∀ (n j:Nat) (r:Bool),j≤a.length→a.length<n+j →
  runE L22_4 n κ 0 [.N a.length,.LL a,.N b.length,.LL b,.B r,.I j]=if a.drop j=b.drop j then κ 1 [.B r] else κ 0 [.B false]
 | 0,j,r,h1,h2=>by omega
 | n+1,j,r,h1,h2=>by
  rw [L22_run]
  unfold L22_4.s0
  simp only [g_,h_]
  by_cases hj:j<a.length
  ·have e:=wsucc (j:=j) (by omega)
   simp only [Int.toNat_natCast,Nat.mul_one]
   rw [br_of (by simp;omega),ck_of (by simp <;> omega),ck_of (by simp <;> omega),ck_of (by simp <;> omega),ck_of (by simp <;> omega),ck_of (by simp),F27_spec _ _ _ (ha j)]
   simp only [sw_zero,gB_zero,h_]
   rw [e,L22_spec hl hs ha κ n (j+1) r (by omega) (by omega),drop_cons (l:=a) (j:=j) [] hj,drop_cons (l:=b) (j:=j) [] (hl▸hj)]
   by_cases hq:a.getD j []=b.getD j []
   ·rw [br_no (by rw [hq];simp),hq];simp
   ·rw [br_of (by simp only [hq,decide_false,Bool.not_false]),if_neg (by intro h;injection h with h _;exact hq h)]
  ·have:j=a.length:=by omega
   rw [br_no (by simp;omega),if_pos (by rw [List.drop_eq_nil_of_le (by omega),List.drop_eq_nil_of_le (by omega)])]
theorem F22_spec {τ:Type} (k:Nat→LS_→Option τ) (a b:List (List Int)) (hs:a.length<2^60) (ha:∀ i,(a.getD i []).length<2^60):F22 [.LL a,.LL b] k=k 0 [.B (decide (a=b))]:=by
 unfold F22 L22_4.b
 simp only [gLL_zero,gLL_succ,h_]
 by_cases hl:a.length=b.length
 ·have:=fuel_le
  rw [br_no (by simp [hl])]
  have e:=L22_spec hl hs ha (fun j l0=>(sw (k 0 [(Leaf.B (gB l0 0))]) (sw (k 0 [(Leaf.B Bool.true)]) (fun _=>none))) j) fuel 0 false (by omega) (by omega)
  rw [show ((0:Nat):Int)=0 from rfl] at e
  refine Eq.trans e ?_
  by_cases hq:a=b
  ·subst hq;simp
  ·simp [hq]
 ·rw [br_of (by simp;omega)]
  have:a≠b:=fun h=>hl (by rw [h])
  simp [this]
def isWord (q n:Int) (l:List Int):Bool:=decide ((l.length:Int)=n)&&(List.range l.length).all fun j=>decide (0≤l.getD j 0)&&decide (l.getD j 0<q)
theorem isWord_iff {q n:Int} {l:List Int}:isWord q n l=true↔(l.length:Int)=n∧∀ i,0≤i→i<l.length→0≤l.getD i 0∧l.getD i 0<q:=by
 unfold isWord
 simp only [Bool.and_eq_true,decide_eq_true_eq,List.all_eq_true,List.mem_range]
 exact ⟨fun h=>⟨h.1,fun i _ hi=>h.2 i hi⟩,fun h=>⟨h.1,fun i hi=>h.2 i (Nat.zero_le _) hi⟩⟩
theorem isWord_wd {q n:Nat} {l:List Int} (h:Wd q n l):isWord q n l=true:=isWord_iff.2 ⟨by rw [h.1],fun i _ hi=>h.2 i (by rw [←h.1];exact hi)⟩
theorem Cd.rows {q n:Nat} {G:List (List Int)} (h:Cd q n G):Rows q n G:=by
 obtain ⟨piv,hp⟩:=h.form
 have hq:=qs_lt h.fq
 have hk:G.length≤8:=by
  rcases Nat.lt_or_ge 8 G.length with hh | hh
  ·have:=Nat.pow_le_pow_right (n:=q) (by omega) (show 9≤G.length from hh)
   have h2:2^9≤q^9:=Nat.pow_le_pow_left hq.1 9
   have:=h.count
   omega
  ·exact hh
 exact ⟨hp.wd,by omega,by have:=h.n1;omega⟩
def isGone (n:Int) (g:List Int):Bool:=(List.range g.length).all fun i=>decide (0≤g.getD i 0)&&(decide (g.getD i 0<n)&&(decide (i=0) || decide (g.getD (i-1) 0<g.getD i 0)))
def Gn (n:Int) (g:List Int) (i:Nat):Prop:=0≤g.getD i 0∧g.getD i 0<n∧(0<i→g.getD (i-1) 0<g.getD i 0)
theorem isGone_iff {n:Int} {g:List Int}:isGone n g=true↔∀ i,0≤i→i<g.length→Gn n g i:=by
 unfold isGone
 simp only [Bool.and_eq_true,Bool.or_eq_true,decide_eq_true_eq,List.all_eq_true,List.mem_range]
 refine ⟨fun h i _ hi=>?_,fun h i hi=>?_⟩
 ·obtain ⟨h1,h2,h3⟩:=h i hi
  exact ⟨h1,h2,fun h0=>h3.resolve_left (by omega)⟩
 ·obtain ⟨h1,h2,h3⟩:=h i (Nat.zero_le _) hi
  refine ⟨h1,h2,?_⟩
  by_cases h0:i=0
  ·exact .inl h0
  ·exact .inr (h3 (by omega))
def isRight (q n:Int) (w g:List Int):Bool:=isWord q n w&&isGone n g
def cnt (q k:Nat):Nat:=if q^k≤4096 then q^k else 4097
theorem L48_run (f:Nat) {τ:Type} (κ:Nat→LS_→Option τ) (l:LS_):runE L48_3 (f+1) κ 0 l=L48_3.s0 (runE L48_3 f κ) κ l:=rfl
theorem L48_spec {q:Nat} (hq:1<q) (hq2:q<2^20) (n:Int) (G:List (List Int)) (hs:G.length<2^60) {τ:Type} (κ:Nat→LS_→Option τ):∀ (f i:Nat) (x:Int),i≤G.length→G.length<f+i→q^i≤4096 →
  ∃ y:Int,runE L48_3 f κ 0 [.I x,.I ((q^i:Nat):Int),.I G.length,.I i,.I q,.I n,.N G.length,.LL G]=if q^G.length≤4096 then κ 1 [.I x,.I ((q^G.length:Nat):Int)] else κ 0 [.I 4097,.I y]
 | 0,i,x,h1,h2,h3=>by omega
 | f+1,i,x,h1,h2,h3=>by
  rw [L48_run]
  unfold L48_3.s0
  simp only [g_,h_]
  by_cases hj:i<G.length
  ·have e1:((q^i:Nat):Int)*q=((q^(i+1):Nat):Int):=by rw [Nat.pow_succ];simp
   have hb:q^(i+1)<2^40:=by rw [Nat.pow_succ];exact Nat.lt_of_le_of_lt (Nat.mul_le_mul h3 (Nat.le_of_lt hq2)) (by decide)
   have e2:wr .i64 (((q^i:Nat):Int)*q)=((q^(i+1):Nat):Int):=by rw [e1,wr64 (by omega) (by omega)]
   have hpos:0<q^(i+1):=Nat.pos_of_ne_zero (by simp;omega)
   rw [br_of (by simp;omega),e2]
   by_cases hc:q^(i+1)≤4096
   ·obtain ⟨y,hy⟩:=L48_spec hq hq2 n G hs κ f (i+1) x (by omega) (by omega) hc
    refine ⟨y,?_⟩
    rw [br_no (by simp only [gtI_no];omega),br_no (by simp only [ltI_no];omega),wsucc (by omega),hy]
   ·refine ⟨((q^(i+1):Nat):Int),?_⟩
    rw [br_of (by simp only [gtI_iff];omega)]
    rw [if_neg]
    intro h
    exact hc (Nat.le_trans (Nat.pow_le_pow_right (by omega) (by omega)) h)
  ·have:i=G.length:=by omega
   subst this
   refine ⟨0,?_⟩
   rw [br_no (by simp),if_pos h3]
theorem F48_spec {q:Nat} (hq:1<q) (hq2:q<2^20) (n:Int) (G:List (List Int)) (hs:G.length<2^60) {τ:Type} (k:Nat→LS_→Option τ):F48 [.I q,.I n,.LL G] k=k 0 [.I ((cnt q G.length:Nat):Int)]:=by
 have hfu:=fuel_le
 unfold F48 L48_3.b
 simp only [g_,h_]
 obtain ⟨y,hy⟩:=L48_spec hq hq2 n G hs (fun j l96=>(sw (k 0 [.I (gI l96 0)]) (sw (k 0 [.I (gI l96 1)]) (fun _=>none))) j) fuel 0 0 (by omega) (by omega) (by simp)
 refine Eq.trans hy ?_
 unfold cnt
 split
 ·simp
 ·simp
theorem getD_set_nat {l:List Nat} {i j x:Nat} (hi:i<l.length):(l.set i x).getD j 0=if i=j then x else l.getD j 0:=by
 simp only [List.getD_eq_getElem?_getD,List.getElem?_set]
 by_cases h:i=j
 ·subst h;simp [hi]
 ·simp [h]
structure Mx (perm:List Nat) (fam m:List (List Int)):Prop where
 len:perm.length=m.length
 lt:∀ i,i<m.length→perm.getD i 0<fam.length
 eq:∀ i,i<m.length→fam.getD (perm.getD i 0) []=m.getD i []
 inj:∀ i j,i<m.length→j<m.length→perm.getD i 0=perm.getD j 0→i=j
theorem Mx.set {perm:List Nat} {fam m:List (List Int)} (h:Mx perm fam m) {i:Nat} (hi:i<m.length) (v:List Int):Mx perm (fam.set (perm.getD i 0) v) (m.set i v) where
 len:=by simp [h.len]
 lt:=fun j hj=>by rw [List.length_set];exact h.lt j (by simpa using hj)
 eq:=fun j hj=>by
  have hj':j<m.length:=by simpa using hj
  rw [getD_set_row (h.lt i hi),getD_set_row hi]
  by_cases e:i=j
  ·subst e;simp
  ·rw [if_neg e,if_neg (fun x=>e (h.inj i j hi hj' x))];exact h.eq j hj'
 inj:=fun a b ha hb=>h.inj a b (by simpa using ha) (by simpa using hb)
theorem Mx.swap {perm:List Nat} {fam m:List (List Int)} (h:Mx perm fam m) {i j:Nat} (hi:i<m.length) (hj:j<m.length) :
  Mx ((perm.set i (perm.getD j 0)).set j (perm.getD i 0)) fam ((m.set i (m.getD j [])).set j (m.getD i [])):=by
 have hl:=h.len
 have g1:∀ k,((perm.set i (perm.getD j 0)).set j (perm.getD i 0)).getD k 0=perm.getD (if j=k then i else if i=k then j else k) 0:=fun k=>by
  rw [getD_set_nat (by rw [List.length_set];omega),getD_set_nat (by omega)]
  by_cases e:j=k
  ·rw [if_pos e,if_pos e]
  ·rw [if_neg e,if_neg e]
   by_cases e2:i=k
   ·rw [if_pos e2,if_pos e2]
   ·rw [if_neg e2,if_neg e2]
 have g2:∀ k,((m.set i (m.getD j [])).set j (m.getD i [])).getD k []=m.getD (if j=k then i else if i=k then j else k) []:=fun k=>by
  rw [getD_set_row (by rw [List.length_set];omega),getD_set_row (by omega)]
  by_cases e:j=k
  ·rw [if_pos e,if_pos e]
  ·rw [if_neg e,if_neg e]
   by_cases e2:i=k
   ·rw [if_pos e2,if_pos e2]
   ·rw [if_neg e2,if_neg e2]
 have b:∀ k,k<m.length→(if j=k then i else if i=k then j else k)<m.length:=fun k hk=>by split <;> (try split) <;> omega
 refine ⟨by simp [hl],fun k hk=>?_,fun k hk=>?_,fun x y hx hy e=>?_⟩
 ·rw [g1];exact h.lt _ (b k (by simpa using hk))
 ·rw [g1,g2];exact h.eq _ (b k (by simpa using hk))
 ·rw [g1,g1] at e
  have:=h.inj _ _ (b x (by simpa using hx)) (b y (by simpa using hy)) e
  revert this
  split <;> split <;> (try split) <;> (try split) <;> omega
theorem lift_swap {mul:Int→Int→Int} {inv:Int→Int} {m:List (List Int)} {r p c:Nat} (hr:r<m.length) (hp:p<m.length) :
  lift mul inv m r p c=((m.set r (m.getD p [])).set p (m.getD r [])).set r (vmul mul (inv (ent m p c)) (m.getD p [])):=by
 unfold lift
 refine ext_rows (by simp) fun k hk=>?_
 rw [getD_set_row (m:=m.set p (m.getD r [])) (i:=r) (by simpa using hr),getD_set_row (m:=(m.set r (m.getD p [])).set p (m.getD r [])) (i:=r) (by simpa using hr)]
 by_cases e:r=k
 ·rw [if_pos e,if_pos e]
 ·rw [if_neg e,if_neg e,getD_set_row (m:=m) (i:=p) hp,getD_set_row (m:=m.set r (m.getD p [])) (i:=p) (by simpa using hp)]
  by_cases e2:p=k
  ·rw [if_pos e2,if_pos e2]
  ·rw [if_neg e2,if_neg e2,getD_set_row hr,if_neg e]
theorem half_get {a b:List Int} (hl:a.length=b.length) {j:Nat} (hj:j<b.length):(a.take j++b.drop j).getD j 0=b.getD j 0:=by
 simp only [List.getD_eq_getElem?_getD]
 rw [List.getElem?_append_right (by simp;omega)]
 simp [show min j a.length=j by omega]
theorem half_len {a b:List Int} (hl:a.length=b.length) {j:Nat} (hj:j≤b.length):(a.take j++b.drop j).length=b.length:=by simp;omega
theorem half_set {a b:List Int} (hl:a.length=b.length) {j:Nat} (hj:j<b.length):(a.take j++b.drop j).set j (a.getD j 0)=a.take (j+1)++b.drop (j+1):=by
 rw [take_succ_getD 0 (by omega),List.append_assoc,List.set_append,if_neg (by simp;omega),drop_cons (l:=b) (j:=j) 0 hj]
 simp [show min j a.length=j by omega]
theorem half_all {a b:List Int} (hl:a.length=b.length):a.take b.length++b.drop b.length=a:=by rw [List.take_of_length_le (by omega),List.drop_eq_nil_of_le (Nat.le_refl _),List.append_nil]
theorem set_set_row {fam:List (List Int)} {P:Nat} {x y:List Int}:(fam.set P x).set P y=fam.set P y:=by simp
theorem set_get_row {fam:List (List Int)} {P:Nat} (h:P<fam.length):fam.set P (fam.getD P [])=fam:=ext_rows (by simp) fun j hj=>by
 rw [getD_set_row h]
 split
 ·rename_i e;rw [e]
 ·rfl
theorem L84_10_spec {q:Nat} (hq:q∈Qs) {perm:List Nat} {r:Nat} (hr:r<perm.length) {v:List Int} (hv:In q v) (hvl:v.length<2^30) {c:Int} (c0:0≤c) (c1:c<q) (N:Int) (col:Int) {τ:Type} (κ:Nat→LS_→Option τ):∀ (f j:Nat) (fam:List (List Int)),perm.getD r 0<fam.length→j≤v.length→v.length<f+j→fam.getD (perm.getD r 0) []=(vmul (fmul q) c v).take j++v.drop j →
  runE L84_10 f κ 0 [.I N,.N perm.length,.I r,.I c,.I v.length,.I j,.L (fm q),.LN perm,.LL fam,.I (fp q),.I (fe q),.N (fm q).length,.I col]=κ 0 [.I N,.N perm.length,.I r,.L (fm q),.LN perm,.LL (fam.set (perm.getD r 0) (vmul (fmul q) c v)),.I (fp q),.I (fe q),.N (fm q).length,.I col]
 | 0,j,fam,h1,h2,h3,h4=>by omega
 | f+1,j,fam,h1,h2,h3,h4=>by
  have hl:(vmul (fmul q) c v).length=v.length:=vmul_len
  have hw:=half_len hl h2
  rw [runE_succ]
  show L84_10.s0 _ _ _=_
  unfold L84_10.s0
  simp only [g_,gLN_zero,gLN_succ,Int.toNat_natCast,Nat.mul_one,Nat.zero_add,List.drop_zero,List.take_length,h_]
  by_cases hj:j<v.length
  ·have hx:=hv j hj
   have hg:(fam.getD (perm.getD r 0) []).getD j 0=v.getD j 0:=by rw [h4,half_get hl hj]
   have hg2:(fam.getD (perm.getD r 0) []).length=v.length:=by rw [h4,hw]
   have key:=L84_10_spec hq hr hv hvl c0 c1 N col κ f (j+1) (fam.set (perm.getD r 0) ((fam.getD (perm.getD r 0) []).set j (fmul q c (v.getD j 0)))) (by simpa using h1) (by omega) (by omega) (by
    rw [getD_set_row h1,if_pos rfl,h4,←vmul_get (mul:=fmul q) hj,half_set hl hj])
   rw [set_set_row] at key
   generalize perm.getD r 0=Pr at h1 h4 hg hg2 key ⊢
   generalize fam.getD Pr []=w at h4 hg hg2 key ⊢
   rw [br_of (by simp;omega),ck_of (by simp;omega),ck_of (by simp;omega),ck_of (by simp;omega),ck_of (by simp;omega),ck_of (by simp;omega),ck_of (by simp;omega),ck_of (by simp),hg]
   unfold T104
   rw [tab2_of hq c0 c1 hx.1 hx.2]
   simp only [sw_zero,gI_zero,h_]
   rw [ck_of (by simp;omega),ck_of (by simp;omega),wsucc (by omega)]
   exact key
  ·have:j=v.length:=by omega
   subst this
   rw [half_all hl] at h4
   rw [br_no (by simp),←h4,set_get_row h1]
theorem L84_10_1_spec {q:Nat} (hq:q∈Qs) {perm:List Nat} {r:Nat} (hr:r<perm.length) {v:List Int} (hv:In q v) (hvl:v.length<2^30) {c:Int} (c0:0≤c) (c1:c<q) (N:Int) (u1:Int) (col:Int) {τ:Type} (κ:Nat→LS_→Option τ):∀ (f j:Nat) (fam:List (List Int)),perm.getD r 0<fam.length→j≤v.length→v.length<f+j→fam.getD (perm.getD r 0) []=(vmul (fmul q) c v).take j++v.drop j →
  runE L84_10_1 f κ 0 [.I N,.N perm.length,.I r,.I c,.I v.length,.I j,.L (fm q),.LN perm,.LL fam,.I (fp q),.I (fe q),.N (fm q).length,.I u1,.I col]=κ 0 [.I N,.N perm.length,.I r,.L (fm q),.LN perm,.LL (fam.set (perm.getD r 0) (vmul (fmul q) c v)),.I (fp q),.I (fe q),.N (fm q).length,.I u1,.I col]
 | 0,j,fam,h1,h2,h3,h4=>by omega
 | f+1,j,fam,h1,h2,h3,h4=>by
  have hl:(vmul (fmul q) c v).length=v.length:=vmul_len
  have hw:=half_len hl h2
  rw [runE_succ]
  show L84_10_1.s0 _ _ _=_
  unfold L84_10_1.s0
  simp only [g_,gLN_zero,gLN_succ,Int.toNat_natCast,Nat.mul_one,Nat.zero_add,List.drop_zero,List.take_length,h_]
  by_cases hj:j<v.length
  ·have hx:=hv j hj
   have hg:(fam.getD (perm.getD r 0) []).getD j 0=v.getD j 0:=by rw [h4,half_get hl hj]
   have hg2:(fam.getD (perm.getD r 0) []).length=v.length:=by rw [h4,hw]
   have key:=L84_10_1_spec hq hr hv hvl c0 c1 N u1 col κ f (j+1) (fam.set (perm.getD r 0) ((fam.getD (perm.getD r 0) []).set j (fmul q c (v.getD j 0)))) (by simpa using h1) (by omega) (by omega) (by
    rw [getD_set_row h1,if_pos rfl,h4,←vmul_get (mul:=fmul q) hj,half_set hl hj])
   rw [set_set_row] at key
   generalize perm.getD r 0=Pr at h1 h4 hg hg2 key ⊢
   generalize fam.getD Pr []=w at h4 hg hg2 key ⊢
   rw [br_of (by simp;omega),ck_of (by simp;omega),ck_of (by simp;omega),ck_of (by simp;omega),ck_of (by simp;omega),ck_of (by simp;omega),ck_of (by simp;omega),ck_of (by simp),hg]
   unfold T104
   rw [tab2_of hq c0 c1 hx.1 hx.2]
   simp only [sw_zero,gI_zero,h_]
   rw [ck_of (by simp;omega),ck_of (by simp;omega),wsucc (by omega)]
   exact key
  ·have:j=v.length:=by omega
   subst this
   rw [half_all hl] at h4
   rw [br_no (by simp),←h4,set_get_row h1]
theorem L114_2_1_spec {perm:List Nat} {fam m:List (List Int)} (hM:Mx perm fam m) (hs:m.length<2^30) {n:Nat} (hw:∀ i,i<m.length→(m.getD i []).length=n) (r c:Nat) (hc:c<n) (hr:r≤m.length) {τ:Type} (κ:Nat→LS_→Option τ):∀ (f p g:Nat),r+p≤m.length→m.length<f+(r+p)→m.length≤g+(r+p) →
  runE L114_2_1 f κ 0 [.N r,.N (m.length-r),.I 0,.I ((m.length-r:Nat):Int),.I p,.LN perm,.I c,.LL fam]=if findp m c g (r+p)=m.length then κ 1 [.I 0,.LN perm,.I c,.LL fam] else κ 0 [.I ((findp m c g (r+p)-r:Nat):Int),.LN perm,.I c,.LL fam]
 | 0,p,g,h1,h2,h3=>by omega
 | f+1,p,g,h1,h2,h3=>by
  have hl:=hM.len
  rw [runE_succ]
  show L114_2_1.s0 _ _ _=_
  unfold L114_2_1.s0
  simp only [g_,gLN_zero,gLN_succ,Int.toNat_natCast,Nat.mul_one,Nat.zero_add,h_]
  by_cases hj:r+p<m.length
  ·have a1:=hM.lt _ hj
   have a2:=hM.eq _ hj
   have a3:=hw _ hj
   cases g with
   | zero=>omega
   | succ g =>
   unfold findp
   rw [if_pos hj]
   generalize perm.getD (r+p) 0=Pr at a1 a2 ⊢
   rw [a2,br_of (by simp;omega),ck_of (by simp;omega),ck_of (by simp;omega),ck_of (by simp only [a3];simp;omega),ck_of (by simp only [a3];simp;omega)]
   by_cases hz:ent m (r+p) c=0
   ·rw [if_pos hz,br_no (by unfold ent at hz;rw [hz];rfl),wsucc (by omega)]
    exact L114_2_1_spec hM hs hw r c hc hr κ f (p+1) g (by omega) (by omega) (by omega)
   ·rw [if_neg hz,br_of (by unfold ent at hz;simpa [-List.getD_eq_getElem?_getD] using hz),if_neg (by omega),show r+p-r=p by omega]
  ·have e:r+p=m.length:=by omega
   have:findp m c g (r+p)=m.length:=by
    rw [e]
    cases g with
    | zero=>rfl
    | succ g=>unfold findp;rw [if_neg (by omega)]
   rw [this,if_pos rfl,br_no (by simp;omega)]
theorem L94_3_spec {q:Nat} (hq:q∈Qs) {perm:List Nat} {Pk Pr:Nat} (hne:Pk≠Pr) {x y:List Int} (hx:In q x) (hy:In q y) (hl:y.length=x.length) (hs:x.length<2^30) {a:Int} (a0:0≤a) (a1:a<q) {τ:Type} (κ:Nat→LS_→Option τ):∀ (f j:Nat) (fam:List (List Int)),Pk<fam.length→Pr<fam.length→j≤x.length→x.length<f+j→fam.getD Pr []=x→fam.getD Pk []=(vadd (fadd q) y (vmul (fmul q) a x)).take j++y.drop j →
  runE L94_3 f κ 0 [.N Pk,.N y.length,.I a,.N Pr,.N x.length,.I y.length,.I j,.L (fm q),.LL fam,.LN perm,.I (fp q),.I (fe q),.N (fm q).length]=κ 0 [.L (fm q),.LL (fam.set Pk (vadd (fadd q) y (vmul (fmul q) a x))),.LN perm,.I (fp q),.I (fe q),.N (fm q).length]
 | 0,j,fam,h1,h1',h2,h3,h4,h5=>by omega
 | f+1,j,fam,h1,h1',h2,h3,h4,h5=>by
  have F:=fld q hq
  have ml:(vmul (fmul q) a x).length=x.length:=vmul_len
  have hlv:(vadd (fadd q) y (vmul (fmul q) a x)).length=y.length:=vadd_len (by rw [ml,hl])
  have hw:=half_len hlv (j:=j) (by omega)
  rw [runE_succ]
  show L94_3.s0 _ _ _=_
  unfold L94_3.s0
  simp only [g_,gLN_zero,gLN_succ,Int.toNat_natCast,Nat.mul_one,Nat.zero_add,List.drop_zero,List.take_length,h_]
  by_cases hj:j<y.length
  ·have ax:=hx j (by omega)
   have ay:=hy j hj
   have am:=F.mul_in _ _ a0 a1 ax.1 ax.2
   have hg:(fam.getD Pk []).getD j 0=y.getD j 0:=by rw [h5,half_get hlv hj]
   have hg2:(fam.getD Pk []).length=y.length:=by rw [h5,hw]
   have key:=L94_3_spec hq (perm:=perm) hne hx hy hl hs a0 a1 κ f (j+1) (fam.set Pk ((fam.getD Pk []).set j (fadd q (y.getD j 0) (fmul q a (x.getD j 0))))) (by simpa using h1) (by simpa using h1') (by omega) (by omega)
    (by rw [getD_set_row h1,if_neg hne,h4]) (by
    rw [getD_set_row h1,if_pos rfl,h5,←vmul_get (mul:=fmul q) (show j<x.length by omega),←vadd_get (add:=fadd q) (by rw [ml,hl]) hj,half_set hlv hj])
   rw [set_set_row] at key
   rw [h4]
   generalize fam.getD Pk []=w at h5 hg hg2 key ⊢
   rw [br_of (by simp;omega),ck_of (by simp;omega),ck_of (by simp;omega),ck_of (by simp;omega),ck_of (by simp;omega),ck_of (by simp),hg]
   unfold T104 T103
   rw [tab2_of hq a0 a1 ax.1 ax.2]
   simp only [sw_zero,gI_zero,h_]
   rw [ck_of (by simp),tab2_of hq ay.1 ay.2 am.1 am.2]
   simp only [sw_zero,gI_zero,h_]
   rw [ck_of (by simp;omega),ck_of (by simp;omega),wsucc (by omega)]
   exact key
  ·have:j=y.length:=by omega
   subst this
   rw [half_all hlv] at h5
   rw [br_no (by simp),←h5,set_get_row h1]
theorem vadd_zero {q n:Nat} (F:Fld q (fadd q) (fmul q) (fneg q) (finv q)) {x y:List Int} (hx:Wd q n x) (hy:Wd q n y):vadd (fadd q) y (vmul (fmul q) 0 x)=y:=by
 have ml:(vmul (fmul q) 0 x).length=x.length:=vmul_len
 refine ext_getD (vadd_len (by rw [ml,hy.1,hx.1])) fun j hj=>?_
 rw [vadd_len (by rw [ml,hy.1,hx.1]),hy.1] at hj
 have a:=hx.2 j hj
 have b:=hy.2 j hj
 have h1:=F.one_lt
 rw [vadd_get (by rw [ml,hy.1,hx.1]) (by rw [hy.1];exact hj),vmul_get (by rw [hx.1];exact hj),F.zero_mul _ a.1 a.2,F.add_comm _ _ b.1 b.2 (by omega) (by omega),F.zero_add _ b.1 b.2]
theorem S94_0_spec {q n:Nat} (hq:q∈Qs) (hn:n<2^30) {perm:List Nat} {fam:List (List Int)} {Pk Pr:Nat} (hne:Pk≠Pr) {x y:List Int} (hx:Wd q n x) (hy:Wd q n y) {a:Int} (a0:0≤a) (a1:a<q) (h1:Pk<fam.length) (h2:Pr<fam.length) (h3:fam.getD Pr []=x) (h4:fam.getD Pk []=y) {τ:Type} (k:Nat→LS_→Option τ) :
  S94_0 [.I (fp q),.I (fe q),.N (fm q).length,.N Pk,.N y.length,.I a,.N Pr,.N x.length,.L (fm q),.LL fam,.LN perm] k=k 0 [.L (fm q),.LL (fam.set Pk (vadd (fadd q) y (vmul (fmul q) a x))),.LN perm]:=by
 have hfu:=fuel_le
 unfold S94_0 L94_3.b
 simp only [g_,gLN_zero,gLN_succ,h_]
 by_cases hz:a=0
 ·subst hz
  rw [br_of (b:=((0:Int)==0)) rfl,vadd_zero (fld q hq) hx hy,←h4,set_get_row h1]
 ·rw [br_no (by simpa using hz)]
  exact L94_3_spec hq hne (In.of hx) (In.of hy) (by rw [hx.1,hy.1]) (by rw [hx.1];exact hn) a0 a1 (fun j l63=>(sw (k 0 [.L (gL l63 0),.LL (gLL l63 1),.LN (gLN l63 2)]) (fun _=>none)) j) fuel 0 fam h1 h2 (by omega) (by rw [hx.1];omega) h3 (by simpa using h4)
theorem elimTo_step {add mul:Int→Int→Int} {neg:Int→Int} {m:List (List Int)} {r c k:Nat} (hk:k<m.length) (hkr:k≠r) :
  elimTo add mul neg m r c (k+1)=(elimTo add mul neg m r c k).set k (vadd add (m.getD k []) (vmul mul (neg (ent m k c)) (m.getD r []))):=by
 refine ext_rows (by rw [elimTo_len,List.length_set,elimTo_len]) fun j hj'=>?_
 rw [elimTo_len] at hj'
 rw [elimTo_get hj',getD_set_row (by rw [elimTo_len];exact hk)]
 by_cases h:k=j
 ·subst h
  rw [if_neg (by omega),if_pos rfl]
 ·rw [if_neg h,elimTo_get hj']
  by_cases h2:j=r∨k≤j
  ·rw [if_pos h2,if_pos (by omega)]
  ·rw [if_neg h2,if_neg (by omega)]
theorem elimTo_skip {add mul:Int→Int→Int} {neg:Int→Int} {m:List (List Int)} {r c:Nat}:elimTo add mul neg m r c (r+1)=elimTo add mul neg m r c r :=
 ext_rows (elimTo_len.trans elimTo_len.symm) fun j hj=>by
  rw [elimTo_len] at hj
  rw [elimTo_get hj,elimTo_get hj]
  by_cases h:j=r∨r≤j
  ·rw [if_pos h,if_pos (by omega)]
  ·rw [if_neg h,if_neg (by omega)]
theorem L84_15_spec {q n:Nat} (hq:q∈Qs) {m:List (List Int)} (hm:Rows q n m) (N:Int) (r c:Nat) (hc:c<n) (hr:r<m.length) {perm:List Nat}:∀ (f k:Nat) (fam:List (List Int)),k≤m.length→m.length<f+k→Mx perm fam (elimTo (fadd q) (fmul q) (fneg q) m r c k) →
  ∃ fam',Mx perm fam' (elim (fadd q) (fmul q) (fneg q) m r c)∧∀ {τ:Type} (κ:Nat→LS_→Option τ),runE L84_15 f κ 0 [.I N,.N m.length,.I r,.N m.length,.I m.length,.I k,.L (fm q),.LN perm,.LL fam,.I (fp q),.I (fe q),.N (fm q).length,.I c]=κ 0 [.I N,.N m.length,.I r,.L (fm q),.LN perm,.LL fam',.I (fp q),.I (fe q),.N (fm q).length,.I c]
 | 0,k,fam,h1,h2,h3=>by omega
 | f+1,k,fam,h1,h2,hM=>by
  have hf:=hm.few
  have hs:=hm.short
  have F:=fld q hq
  have ll:(elimTo (fadd q) (fmul q) (fneg q) m r c k).length=m.length:=elimTo_len
  have hpl:perm.length=m.length:=by rw [hM.len,ll]
  by_cases hj:k<m.length
  ·have wk:=hm.wd k hj
   have wr:=hm.wd r hr
   have gk:(elimTo (fadd q) (fmul q) (fneg q) m r c k).getD k []=m.getD k []:=by rw [elimTo_get hj,if_pos (.inr (Nat.le_refl _))]
   have gr:(elimTo (fadd q) (fmul q) (fneg q) m r c k).getD r []=m.getD r []:=by rw [elimTo_get hr,if_pos (.inl rfl)]
   have b1:=hM.lt k (by rw [ll];exact hj)
   have b2:=hM.lt r (by rw [ll];exact hr)
   have b3:=hM.eq k (by rw [ll];exact hj)
   have b4:=hM.eq r (by rw [ll];exact hr)
   rw [gk] at b3
   rw [gr] at b4
   by_cases hkr:k=r
   ·subst hkr
    obtain ⟨fam',c1,c2⟩:=L84_15_spec hq hm N  k c hc hr f (k+1) fam (by omega) (by omega) (by rw [elimTo_skip];exact hM)
    refine ⟨fam',c1,fun {τ} κ=>?_⟩
    rw [runE_succ]
    show L84_15.s0 _ _ _=_
    unfold L84_15.s0
    simp only [g_,gLN_zero,gLN_succ,Int.toNat_natCast,Nat.mul_one,Nat.zero_add,List.drop_zero,List.take_length,h_]
    generalize perm.getD k 0=Pk at b1 b3 ⊢
    rw [br_of (by simp;omega),ck_of (by simp;omega),ck_of (by simp;omega),br_no (by simp),wsucc (by omega)]
    exact c2 κ
   ·have x0:=wk.2 c hc
    have ng:=F.neg_in _ x0.1 x0.2
    have hne:perm.getD k 0≠perm.getD r 0:=fun e=>hkr (hM.inj k r (by rw [ll];exact hj) (by rw [ll];exact hr) e)
    have hM2:=hM.set (i:=k) (by rw [ll];exact hj) (vadd (fadd q) (m.getD k []) (vmul (fmul q) (fneg q (ent m k c)) (m.getD r [])))
    rw [←elimTo_step hj hkr] at hM2
    obtain ⟨fam',c1,c2⟩:=L84_15_spec hq hm N  r c hc hr f (k+1) _ (by omega) (by omega) hM2
    refine ⟨fam',c1,fun {τ} κ=>?_⟩
    have c2:=c2 κ
    rw [runE_succ]
    show L84_15.s0 _ _ _=_
    unfold L84_15.s0
    simp only [g_,gLN_zero,gLN_succ,Int.toNat_natCast,Nat.mul_one,Nat.zero_add,List.drop_zero,List.take_length,h_]
    generalize perm.getD k 0=Pk at b1 b3 hne c2 ⊢
    generalize perm.getD r 0=Pr at b2 b4 hne c2 ⊢
    have hneg:(k:Int)≠r:=by omega
    rw [b3,b4,br_of (by simp;omega),ck_of (by simp;omega),ck_of (by simp;omega),br_of (by simpa using hneg),ck_of (by simp only [wk.1];simp;omega),ck_of (by simp only [wk.1];simp;omega),ck_of (by simp)]
    unfold T83
    rw [tab1_of hq x0.1 x0.2]
    simp only [sw_zero,gI_zero,h_]
    rw [ck_of (by simp;omega),ck_of (by simp;omega),S94_0_spec hq (by omega) hne wr wk ng.1 ng.2 b1 b2 b4 b3]
    simp only [g_,sw_zero,gLN_zero,gLN_succ,h_]
    rw [wsucc (by omega)]
    exact c2
  ·have:k=m.length:=by omega
   subst this
   rw [elimTo_all] at hM
   refine ⟨fam,hM,fun {τ} κ=>?_⟩
   rw [runE_succ]
   show L84_15.s0 _ _ _=_
   unfold L84_15.s0
   simp only [g_,gLN_zero,gLN_succ,Int.toNat_natCast,Nat.mul_one,Nat.zero_add,List.drop_zero,List.take_length,h_]
   rw [br_no (by simp)]
theorem L84_15_1_spec {q n:Nat} (hq:q∈Qs) {m:List (List Int)} (hm:Rows q n m) (N:Int) (u1:Int) (r c:Nat) (hc:c<n) (hr:r<m.length) {perm:List Nat}:∀ (f k:Nat) (fam:List (List Int)),k≤m.length→m.length<f+k→Mx perm fam (elimTo (fadd q) (fmul q) (fneg q) m r c k) →
  ∃ fam',Mx perm fam' (elim (fadd q) (fmul q) (fneg q) m r c)∧∀ {τ:Type} (κ:Nat→LS_→Option τ),runE L84_15_1 f κ 0 [.I N,.N m.length,.I r,.N m.length,.I m.length,.I k,.L (fm q),.LN perm,.LL fam,.I (fp q),.I (fe q),.N (fm q).length,.I u1,.I c]=κ 0 [.I N,.N m.length,.I r,.L (fm q),.LN perm,.LL fam',.I (fp q),.I (fe q),.N (fm q).length,.I u1,.I c]
 | 0,k,fam,h1,h2,h3=>by omega
 | f+1,k,fam,h1,h2,hM=>by
  have hf:=hm.few
  have hs:=hm.short
  have F:=fld q hq
  have ll:(elimTo (fadd q) (fmul q) (fneg q) m r c k).length=m.length:=elimTo_len
  have hpl:perm.length=m.length:=by rw [hM.len,ll]
  by_cases hj:k<m.length
  ·have wk:=hm.wd k hj
   have wr:=hm.wd r hr
   have gk:(elimTo (fadd q) (fmul q) (fneg q) m r c k).getD k []=m.getD k []:=by rw [elimTo_get hj,if_pos (.inr (Nat.le_refl _))]
   have gr:(elimTo (fadd q) (fmul q) (fneg q) m r c k).getD r []=m.getD r []:=by rw [elimTo_get hr,if_pos (.inl rfl)]
   have b1:=hM.lt k (by rw [ll];exact hj)
   have b2:=hM.lt r (by rw [ll];exact hr)
   have b3:=hM.eq k (by rw [ll];exact hj)
   have b4:=hM.eq r (by rw [ll];exact hr)
   rw [gk] at b3
   rw [gr] at b4
   by_cases hkr:k=r
   ·subst hkr
    obtain ⟨fam',c1,c2⟩:=L84_15_1_spec hq hm N u1 k c hc hr f (k+1) fam (by omega) (by omega) (by rw [elimTo_skip];exact hM)
    refine ⟨fam',c1,fun {τ} κ=>?_⟩
    rw [runE_succ]
    show L84_15_1.s0 _ _ _=_
    unfold L84_15_1.s0
    simp only [g_,gLN_zero,gLN_succ,Int.toNat_natCast,Nat.mul_one,Nat.zero_add,List.drop_zero,List.take_length,h_]
    generalize perm.getD k 0=Pk at b1 b3 ⊢
    rw [br_of (by simp;omega),ck_of (by simp;omega),ck_of (by simp;omega),br_no (by simp),wsucc (by omega)]
    exact c2 κ
   ·have x0:=wk.2 c hc
    have ng:=F.neg_in _ x0.1 x0.2
    have hne:perm.getD k 0≠perm.getD r 0:=fun e=>hkr (hM.inj k r (by rw [ll];exact hj) (by rw [ll];exact hr) e)
    have hM2:=hM.set (i:=k) (by rw [ll];exact hj) (vadd (fadd q) (m.getD k []) (vmul (fmul q) (fneg q (ent m k c)) (m.getD r [])))
    rw [←elimTo_step hj hkr] at hM2
    obtain ⟨fam',c1,c2⟩:=L84_15_1_spec hq hm N u1 r c hc hr f (k+1) _ (by omega) (by omega) hM2
    refine ⟨fam',c1,fun {τ} κ=>?_⟩
    have c2:=c2 κ
    rw [runE_succ]
    show L84_15_1.s0 _ _ _=_
    unfold L84_15_1.s0
    simp only [g_,gLN_zero,gLN_succ,Int.toNat_natCast,Nat.mul_one,Nat.zero_add,List.drop_zero,List.take_length,h_]
    generalize perm.getD k 0=Pk at b1 b3 hne c2 ⊢
    generalize perm.getD r 0=Pr at b2 b4 hne c2 ⊢
    have hneg:(k:Int)≠r:=by omega
    rw [b3,b4,br_of (by simp;omega),ck_of (by simp;omega),ck_of (by simp;omega),br_of (by simpa using hneg),ck_of (by simp only [wk.1];simp;omega),ck_of (by simp only [wk.1];simp;omega),ck_of (by simp)]
    unfold T83
    rw [tab1_of hq x0.1 x0.2]
    simp only [sw_zero,gI_zero,h_]
    rw [ck_of (by simp;omega),ck_of (by simp;omega),S94_0_spec hq (by omega) hne wr wk ng.1 ng.2 b1 b2 b4 b3]
    simp only [g_,sw_zero,gLN_zero,gLN_succ,h_]
    rw [wsucc (by omega)]
    exact c2
  ·have:k=m.length:=by omega
   subst this
   rw [elimTo_all] at hM
   refine ⟨fam,hM,fun {τ} κ=>?_⟩
   rw [runE_succ]
   show L84_15_1.s0 _ _ _=_
   unfold L84_15_1.s0
   simp only [g_,gLN_zero,gLN_succ,Int.toNat_natCast,Nat.mul_one,Nat.zero_add,List.drop_zero,List.take_length,h_]
   rw [br_no (by simp)]
theorem S114_1_spec {perm:List Nat} {fam m:List (List Int)} (hM:Mx perm fam m) (hs:m.length<2^30) {n:Nat} (hw:∀ i,i<m.length→(m.getD i []).length=n) (r c:Nat) (hc:c<n) (hr:r≤m.length) {τ:Type} (k:Nat→LS_→Option τ) :
  S114_1 [.N r,.N (m.length-r),.LN perm,.I c,.LL fam] k=if findp m c (m.length-r) r=m.length then k 0 [.I (-1),.LN perm,.I c,.LL fam] else k 0 [.I ((findp m c (m.length-r) r-r:Nat):Int),.LN perm,.I c,.LL fam]:=by
 have hfu:=fuel_le
 unfold S114_1 L114_2_1.b
 simp only [g_,gLN_zero,gLN_succ,h_]
 have:=L114_2_1_spec hM hs hw r c hc hr (fun j l55=>(sw (k 0 [.I (gI l55 0),.LN (gLN l55 1),.I (gI l55 2),.LL (gLL l55 3)]) (sw (k 0 [.I (-(1:Int)),.LN (gLN l55 1),.I (gI l55 2),.LL (gLL l55 3)]) (fun _=>none))) j) fuel 0 (m.length-r) (by omega) (by omega) (by omega)
 refine Eq.trans this ?_
 rw [Nat.add_zero]
 split <;> rfl
theorem red_succ {add mul:Int→Int→Int} {neg inv:Int→Int} {g c r:Nat} {m:List (List Int)}:red add mul neg inv (g+1) c r m=(if r<m.length then (if findp m c (m.length-r) r=m.length then red add mul neg inv g (c+1) r m
   else red add mul neg inv g (c+1) (r+1) (elim add mul neg (lift mul inv m r (findp m c (m.length-r) r) c) r c)) else (m,r)):=rfl
theorem L84_3_spec {q n:Nat} (hq:q∈Qs):∀ (f g:Nat) (u:Int) (c r:Nat) (m:List (List Int)) (perm:List Nat) (fam:List (List Int)),Rows q n m→Mx perm fam m→g+c=n→r≤m.length→n<f+c →
    ∃ perm' fam' x,Mx perm' fam' (red (fadd q) (fmul q) (fneg q) (finv q) g c r m).1∧∀ {τ:Type} (κ:Nat→LS_→Option τ),runE L84_3 f κ 1 [.I n,.N m.length,.I r,.L (fm q),.LN perm,.LL fam,.I (fp q),.I (fe q),.N (fm q).length,.I u,.I c]=κ 0 [.N m.length,.I (red (fadd q) (fmul q) (fneg q) (finv q) g c r m).2,.L (fm q),.LN perm',.LL fam',.I (fp q),.I (fe q),.N (fm q).length,.I x]
  | 0,g,u,c,r,m,perm,fam,hm,hM,hg,hr,hf=>by omega
  | f+1,0,u,c,r,m,perm,fam,hm,hM,hg,hr,hf=>by
    refine ⟨perm,fam,u,hM,fun {τ} κ=>?_⟩
    rw [runE_succ]
    show L84_3.s1 _ _ _=_
    unfold L84_3.s1
    simp only [g_,gLN_zero,gLN_succ,Int.toNat_natCast,Nat.mul_one,Nat.zero_add,List.drop_zero,List.take_length,h_]
    rw [br_no (by simp;omega)]
    rfl
  | f+1,g+1,u,c,r,m,perm,fam,hm,hM,hg,hr,hf=>by
    have h1:=hm.few
    have h2:=hm.short
    have F:=fld q hq
    have hfu:=fuel_le
    have hpl:=hM.len
    have hc:c<n:=by omega
    rw [red_succ]
    by_cases hlt:r<m.length
    · rw [if_pos hlt]
      obtain ⟨a1,a2,a3,a4⟩:=findp_spec m c (m.length-r) r (by omega) (by omega)
      have hfind:∀ {τ:Type} (k:Nat→LS_→Option τ),_:=fun {τ} k=>S114_1_spec hM (by omega) (fun i hi=>(hm.wd i hi).1) r c hc hr k
      generalize hp:findp m c (m.length-r) r=p at *
      by_cases hpz:p=m.length
      · rw [if_pos hpz]
        obtain ⟨perm',fam',x,c1,c2⟩:=L84_3_spec hq f g u (c+1) r m perm fam hm hM (by omega) hr (by omega)
        refine ⟨perm',fam',x,c1,fun {τ} κ=>?_⟩
        have c2:=c2 κ
        rw [runE_succ]
        show L84_3.s1 _ _ _=_
        unfold L84_3.s1
        simp only [g_,gLN_zero,gLN_succ,Int.toNat_natCast,Nat.mul_one,Nat.zero_add,List.drop_zero,List.take_length,h_]
        rw [br_of (by simp;omega),br_of (by simp;omega),ck_of (by simp;omega),br_of (by simp;omega),hfind,if_pos hpz]
        simp only [g_,sw_zero,gLN_zero,gLN_succ,h_]
        rw [br_of (b:=ltI (-1) 0) (by simp),wsucc (by omega)]
        exact c2
      · have hp':p<m.length:=by omega
        rw [if_neg hpz]
        have wp:=hm.wd p hp'
        have x0:=wp.2 c hc
        have xz:(m.getD p []).getD c 0≠0:=a4 hp'
        have hi:=F.inv_in _ x0.1 x0.2
        have hml:=hm.lift hq hlt hp' hc
        have ll:(lift (fmul q) (finv q) m r p c).length=m.length:=lift_len
        have hM2:=hM.swap hlt hp'
        have e2:((m.set r (m.getD p [])).set p (m.getD r [])).getD r []=m.getD p []:=by
          rw [getD_set_row (by simpa using hp'),getD_set_row hlt]
          by_cases e:p=r
          · rw [if_pos e,e]
          · rw [if_neg e,if_pos rfl]
        have b1:=hM.lt r hlt
        have b2:=hM.lt p hp'
        have b3:=hM2.lt r (by simpa using hlt)
        have b4:=hM2.eq r (by simpa using hlt)
        rw [e2] at b4
        have hM3:=hM2.set (i:=r) (by simpa using hlt) (vmul (fmul q) (finv q (ent m p c)) (m.getD p []))
        rw [←lift_swap hlt hp'] at hM3
        have hpl2:((perm.set r (perm.getD p 0)).set p (perm.getD r 0)).length=m.length:=by simp [hpl]
        have hr1:r<perm.length:=by omega
        have hp1:p<perm.length:=by omega
        have hwr:wr .i64 ((r:Int)+((p-r:Nat):Int))=(p:Nat):=by rw [wr64 (by omega) (by omega)];omega
        have wx:(fam.getD (perm.getD r 0) []).length=n:=by rw [hM.eq r hlt];exact (hm.wd r hlt).1
        have wy:(fam.getD (perm.getD p 0) []).length=n:=by rw [hM.eq p hp'];exact wp.1
        generalize hpm:(perm.set r (perm.getD p 0)).set p (perm.getD r 0)=pm at hM2 hM3 b3 b4 hpl2
        obtain ⟨fam2,d1,d2⟩:=L84_15_1_spec hq hml n u r c hc (by rw [ll];exact hlt) fuel 0 _ (by omega) (by omega) (by rw [elimTo_zero];exact hM3)
        obtain ⟨perm',fam',x,c1,c2⟩:=L84_3_spec hq f g u (c+1) (r+1) (elim (fadd q) (fmul q) (fneg q) (lift (fmul q) (finv q) m r p c) r c) pm fam2 (hml.elim hq (by rw [ll];exact hlt) hc) d1 (by omega) (by rw [elim_len,ll];omega) (by omega)
        refine ⟨perm',fam',x,c1,fun {τ} κ=>?_⟩
        have c2:=c2 κ
        rw [elim_len,ll] at c2
        rw [runE_succ]
        show L84_3.s1 _ _ _=_
        unfold L84_3.s1
        simp only [g_,gLN_zero,gLN_succ,Int.toNat_natCast,Nat.mul_one,Nat.zero_add,List.drop_zero,List.take_length,h_]
        rw [br_of (by simp;omega),br_of (by simp;omega),ck_of (by simp;omega),br_of (by simp;omega),hfind,if_neg hpz]
        simp only [g_,sw_zero,gLN_zero,gLN_succ,h_]
        rw [br_no (by simp only [ltI_no];omega),hwr]
        simp only [Int.toNat_natCast,hpm]
        generalize perm.getD r 0=Pr at b1 wx ⊢
        generalize perm.getD p 0=Pp at b2 wy ⊢
        have hsc:=L84_10_1_spec hq (perm:=pm) (r:=r) (by rw [hpl2];exact hlt) (In.of wp) (by rw [wp.1];omega) hi.1 hi.2 n u c (fun j l59=>(sw (L84_15_1.b 0 [.I (gI l59 0),.N (gN l59 1),.I (gI l59 2),.N (gN l59 1),.I (((gN l59 1):Nat):Int),.I (0:Int),.L (gL l59 3),.LN (gLN l59 4),.LL (gLL l59 5),.I (gI l59 6),.I (gI l59 7),.N (gN l59 8),.I (gI l59 9),.I (gI l59 10)]
 (fun j l65=>(sw (runE L84_3 f κ 1 [.I (gI l65 0),.N (gN l65 1),.I (wr IntKind.i64 ((gI l65 2)+(1:Int))),.L (gL l65 3),.LN (gLN l65 4),.LL (gLL l65 5),.I (gI l65 6),.I (gI l65 7),.N (gN l65 8),.I (gI l65 9),.I (wr IntKind.i64 ((gI l65 10)+(1:Int)))])
 (fun _=>none)) j))
 (fun _=>none)) j) fuel 0 fam b3 (Nat.zero_le _) (by rw [wp.1];omega) (by simpa using b4)
        generalize pm.getD r 0=Pq at b3 b4 hsc d2 hM3 ⊢
        rw [hpl2] at hsc
        rw [ck_of (by simp;omega),ck_of (by simp;omega),ck_of (by simp;omega),ck_of (by simp;omega),ck_of (by simp;omega),ck_of (by simp;omega),ck_of (by simp;omega),ck_of (by simp;omega),ck_of (by simp;omega),ck_of (by simp;omega),b4,ck_of (by simp only [wp.1];simp;omega),ck_of (by simp only [wp.1];simp;omega),ck_of (by simp)]
        unfold T116
        rw [tabI_of hq x0.1 x0.2 xz]
        simp only [sw_zero,gI_zero,h_]
        rw [ck_of (by simp;omega),ck_of (by simp;omega)]
        unfold L84_10_1.b
        refine Eq.trans hsc ?_
        simp only [g_,sw_zero,gLN_zero,gLN_succ,h_]
        unfold L84_15_1.b
        rw [ll] at d2
        refine Eq.trans (d2 _) ?_
        simp only [g_,sw_zero,gLN_zero,gLN_succ,h_]
        rw [wsucc (by omega),wsucc (by omega)]
        exact c2
    · rw [if_neg hlt]
      refine ⟨perm,fam,u,hM,fun {τ} κ=>?_⟩
      rw [runE_succ]
      show L84_3.s1 _ _ _=_
      unfold L84_3.s1
      simp only [g_,gLN_zero,gLN_succ,Int.toNat_natCast,Nat.mul_one,Nat.zero_add,List.drop_zero,List.take_length,h_]
      rw [br_of (by simp;omega),br_no (by simp;omega)]
theorem L84_3_spec0 {q n:Nat} (hq:q∈Qs):∀ (f g:Nat) (c r:Nat) (m:List (List Int)) (perm:List Nat) (fam:List (List Int)),Rows q n m→Mx perm fam m→g+c=n→r≤m.length→n<f+c →
    ∃ perm' fam' x,Mx perm' fam' (red (fadd q) (fmul q) (fneg q) (finv q) g c r m).1∧∀ {τ:Type} (κ:Nat→LS_→Option τ),runE L84_3 f κ 0 [.I n,.N m.length,.I r,.L (fm q),.LN perm,.LL fam,.I (fp q),.I (fe q),.N (fm q).length,.I c]=κ 0 [.N m.length,.I (red (fadd q) (fmul q) (fneg q) (finv q) g c r m).2,.L (fm q),.LN perm',.LL fam',.I (fp q),.I (fe q),.N (fm q).length,.I x]
  | 0,g,c,r,m,perm,fam,hm,hM,hg,hr,hf=>by omega
  | f+1,0,c,r,m,perm,fam,hm,hM,hg,hr,hf=>by
    refine ⟨perm,fam,c,hM,fun {τ} κ=>?_⟩
    rw [runE_succ]
    show L84_3.s0 _ _ _=_
    unfold L84_3.s0
    simp only [g_,gLN_zero,gLN_succ,Int.toNat_natCast,Nat.mul_one,Nat.zero_add,List.drop_zero,List.take_length,h_]
    rw [br_no (by simp;omega)]
    rfl
  | f+1,g+1,c,r,m,perm,fam,hm,hM,hg,hr,hf=>by
    have h1:=hm.few
    have h2:=hm.short
    have F:=fld q hq
    have hfu:=fuel_le
    have hpl:=hM.len
    have hc:c<n:=by omega
    rw [red_succ]
    by_cases hlt:r<m.length
    · rw [if_pos hlt]
      obtain ⟨a1,a2,a3,a4⟩:=findp_spec m c (m.length-r) r (by omega) (by omega)
      have hfind:∀ {τ:Type} (k:Nat→LS_→Option τ),_:=fun {τ} k=>S114_1_spec hM (by omega) (fun i hi=>(hm.wd i hi).1) r c hc hr k
      generalize hp:findp m c (m.length-r) r=p at *
      by_cases hpz:p=m.length
      · rw [if_pos hpz]
        obtain ⟨perm',fam',x,c1,c2⟩:=L84_3_spec hq f g c (c+1) r m perm fam hm hM (by omega) hr (by omega)
        refine ⟨perm',fam',x,c1,fun {τ} κ=>?_⟩
        have c2:=c2 κ
        rw [runE_succ]
        show L84_3.s0 _ _ _=_
        unfold L84_3.s0
        simp only [g_,gLN_zero,gLN_succ,Int.toNat_natCast,Nat.mul_one,Nat.zero_add,List.drop_zero,List.take_length,h_]
        rw [br_of (by simp;omega),br_of (by simp;omega),ck_of (by simp;omega),br_of (by simp;omega),hfind,if_pos hpz]
        simp only [g_,sw_zero,gLN_zero,gLN_succ,h_]
        rw [br_of (b:=ltI (-1) 0) (by simp),wsucc (by omega)]
        exact c2
      · have hp':p<m.length:=by omega
        rw [if_neg hpz]
        have wp:=hm.wd p hp'
        have x0:=wp.2 c hc
        have xz:(m.getD p []).getD c 0≠0:=a4 hp'
        have hi:=F.inv_in _ x0.1 x0.2
        have hml:=hm.lift hq hlt hp' hc
        have ll:(lift (fmul q) (finv q) m r p c).length=m.length:=lift_len
        have hM2:=hM.swap hlt hp'
        have e2:((m.set r (m.getD p [])).set p (m.getD r [])).getD r []=m.getD p []:=by
          rw [getD_set_row (by simpa using hp'),getD_set_row hlt]
          by_cases e:p=r
          · rw [if_pos e,e]
          · rw [if_neg e,if_pos rfl]
        have b1:=hM.lt r hlt
        have b2:=hM.lt p hp'
        have b3:=hM2.lt r (by simpa using hlt)
        have b4:=hM2.eq r (by simpa using hlt)
        rw [e2] at b4
        have hM3:=hM2.set (i:=r) (by simpa using hlt) (vmul (fmul q) (finv q (ent m p c)) (m.getD p []))
        rw [←lift_swap hlt hp'] at hM3
        have hpl2:((perm.set r (perm.getD p 0)).set p (perm.getD r 0)).length=m.length:=by simp [hpl]
        have hr1:r<perm.length:=by omega
        have hp1:p<perm.length:=by omega
        have hwr:wr .i64 ((r:Int)+((p-r:Nat):Int))=(p:Nat):=by rw [wr64 (by omega) (by omega)];omega
        have wx:(fam.getD (perm.getD r 0) []).length=n:=by rw [hM.eq r hlt];exact (hm.wd r hlt).1
        have wy:(fam.getD (perm.getD p 0) []).length=n:=by rw [hM.eq p hp'];exact wp.1
        generalize hpm:(perm.set r (perm.getD p 0)).set p (perm.getD r 0)=pm at hM2 hM3 b3 b4 hpl2
        obtain ⟨fam2,d1,d2⟩:=L84_15_spec hq hml n r c hc (by rw [ll];exact hlt) fuel 0 _ (by omega) (by omega) (by rw [elimTo_zero];exact hM3)
        obtain ⟨perm',fam',x,c1,c2⟩:=L84_3_spec hq f g c (c+1) (r+1) (elim (fadd q) (fmul q) (fneg q) (lift (fmul q) (finv q) m r p c) r c) pm fam2 (hml.elim hq (by rw [ll];exact hlt) hc) d1 (by omega) (by rw [elim_len,ll];omega) (by omega)
        refine ⟨perm',fam',x,c1,fun {τ} κ=>?_⟩
        have c2:=c2 κ
        rw [elim_len,ll] at c2
        rw [runE_succ]
        show L84_3.s0 _ _ _=_
        unfold L84_3.s0
        simp only [g_,gLN_zero,gLN_succ,Int.toNat_natCast,Nat.mul_one,Nat.zero_add,List.drop_zero,List.take_length,h_]
        rw [br_of (by simp;omega),br_of (by simp;omega),ck_of (by simp;omega),br_of (by simp;omega),hfind,if_neg hpz]
        simp only [g_,sw_zero,gLN_zero,gLN_succ,h_]
        rw [br_no (by simp only [ltI_no];omega),hwr]
        simp only [Int.toNat_natCast,hpm]
        generalize perm.getD r 0=Pr at b1 wx ⊢
        generalize perm.getD p 0=Pp at b2 wy ⊢
        have hsc:=L84_10_spec hq (perm:=pm) (r:=r) (by rw [hpl2];exact hlt) (In.of wp) (by rw [wp.1];omega) hi.1 hi.2 n c (fun j l59=>(sw (L84_15.b 0 [.I (gI l59 0),.N (gN l59 1),.I (gI l59 2),.N (gN l59 1),.I (((gN l59 1):Nat):Int),.I (0:Int),.L (gL l59 3),.LN (gLN l59 4),.LL (gLL l59 5),.I (gI l59 6),.I (gI l59 7),.N (gN l59 8),.I (gI l59 9)]
 (fun j l65=>(sw (runE L84_3 f κ 1 [.I (gI l65 0),.N (gN l65 1),.I (wr IntKind.i64 ((gI l65 2)+(1:Int))),.L (gL l65 3),.LN (gLN l65 4),.LL (gLL l65 5),.I (gI l65 6),.I (gI l65 7),.N (gN l65 8),.I (gI l65 9),.I (wr IntKind.i64 ((gI l65 9)+(1:Int)))])
 (fun _=>none)) j))
 (fun _=>none)) j) fuel 0 fam b3 (Nat.zero_le _) (by rw [wp.1];omega) (by simpa using b4)
        generalize pm.getD r 0=Pq at b3 b4 hsc d2 hM3 ⊢
        rw [hpl2] at hsc
        rw [ck_of (by simp;omega),ck_of (by simp;omega),ck_of (by simp;omega),ck_of (by simp;omega),ck_of (by simp;omega),ck_of (by simp;omega),ck_of (by simp;omega),ck_of (by simp;omega),ck_of (by simp;omega),ck_of (by simp;omega),b4,ck_of (by simp only [wp.1];simp;omega),ck_of (by simp only [wp.1];simp;omega),ck_of (by simp)]
        unfold T116
        rw [tabI_of hq x0.1 x0.2 xz]
        simp only [sw_zero,gI_zero,h_]
        rw [ck_of (by simp;omega),ck_of (by simp;omega)]
        unfold L84_10.b
        refine Eq.trans hsc ?_
        simp only [g_,sw_zero,gLN_zero,gLN_succ,h_]
        unfold L84_15.b
        rw [ll] at d2
        refine Eq.trans (d2 _) ?_
        simp only [g_,sw_zero,gLN_zero,gLN_succ,h_]
        rw [wsucc (by omega),wsucc (by omega)]
        exact c2
    · rw [if_neg hlt]
      refine ⟨perm,fam,c,hM,fun {τ} κ=>?_⟩
      rw [runE_succ]
      show L84_3.s0 _ _ _=_
      unfold L84_3.s0
      simp only [g_,gLN_zero,gLN_succ,Int.toNat_natCast,Nat.mul_one,Nat.zero_add,List.drop_zero,List.take_length,h_]
      rw [br_of (by simp;omega),br_no (by simp;omega)]
open Classical in
theorem L100_2_spec (q:Int) {a:List Int} (hs:a.length<2^60) {τ:Type} (κ:Nat→LS_→Option τ):∀ (f j:Nat),j≤a.length→a.length<f+j →
  ∃ i:Nat,runE L100_2 f κ 0 [.N a.length,.L a,.I 0,.I a.length,.I j,.I q]=if (∀ i,j≤i→i<a.length→0≤a.getD i 0∧a.getD i 0<q) then κ 1 [.I 0,.I q] else κ 0 [.I i,.I q]
 | 0,j,h1,h2=>by omega
 | f+1,j,h1,h2=>by
  rw [runE_succ]
  show ∃ i:Nat,L100_2.s0 _ _ _=_
  unfold L100_2.s0
  simp only [g_,h_]
  by_cases hj:j<a.length
  ·have e:=wsucc (j:=j) (by omega)
   simp only [Int.toNat_natCast,Nat.mul_one]
   rw [br_of (by simp;omega),ck_of (by simp <;> omega),ck_of (by simp <;> omega)]
   by_cases h0:0≤a.getD j 0
   ·rw [br_no (by simp only [ltI_no];omega)]
    by_cases h3:a.getD j 0<q
    ·obtain ⟨i,hi⟩:=L100_2_spec q hs κ f (j+1) (by omega) (by omega)
     refine ⟨i,?_⟩
     rw [br_no (by simp only [geI_no];omega),e,hi]
     have hh:(∀ i,j+1≤i→i<a.length→0≤a.getD i 0∧a.getD i 0<q)↔(∀ i,j≤i→i<a.length→0≤a.getD i 0∧a.getD i 0<q):=by
      refine ⟨fun h i hi hl=>?_,fun h i hi hl=>h i (by omega) hl⟩
      by_cases he:i=j
      ·subst he;exact ⟨h0,h3⟩
      ·exact h i (by omega) hl
     simp only [hh]
    ·refine ⟨j,?_⟩
     rw [br_of (by simp only [geI_iff];omega),if_neg (fun h=>h3 (h j (Nat.le_refl _) hj).2)]
   ·refine ⟨j,?_⟩
    rw [br_of (by simp only [ltI_iff];omega),if_neg (fun h=>h0 (h j (Nat.le_refl _) hj).1)]
  ·refine ⟨0,?_⟩
   rw [br_no (by simp;omega),if_pos (fun i h1 h2=>by omega)]
theorem S122_0_spec (q:Int) {a:List Int} (hs:a.length<2^60) {τ:Type} (k:Nat→LS_→Option τ) :
  S122_0 [.N a.length,.L a,.I q] k=k 0 [.B (!isWord q a.length a),.I q]:=by
 have hfu:=fuel_le
 unfold S122_0 S100_0 L100_2.b
 simp only [g_,h_]
 obtain ⟨i,hi⟩:=L100_2_spec q hs (fun j l45=>(sw ((fun j l46=>(sw (k 0 [.B (geI (gI l46 0) (0:Int)),.I (gI l46 1)]) (fun _=>none)) j) 0 [.I (gI l45 0),.I (gI l45 1)]) (sw ((fun j l46=>(sw (k 0 [.B (geI (gI l46 0) (0:Int)),.I (gI l46 1)]) (fun _=>none)) j) 0 [.I (-(1:Int)),.I (gI l45 1)]) (fun _=>none))) j) fuel 0 (by omega) (by omega)
 rw [show ((0:Nat):Int)=0 from rfl] at hi
 refine Eq.trans hi ?_
 cases hw:isWord q (a.length:Int) a with
 | true=>rw [if_pos (isWord_iff.1 hw).2];simp [geI]
 | false=>rw [if_neg (fun h=>by rw [isWord_iff.2 ⟨rfl,h⟩] at hw;cases hw)];simp [geI]
theorem F93_spec (q n:Int) {a:List Int} (hs:a.length<2^60) {τ:Type} (k:Nat→LS_→Option τ):F93 [.I q,.I n,.L a] k=k 0 [.B (isWord q n a)]:=by
 unfold F93
 simp only [g_,h_]
 by_cases hn:(a.length:Int)=n
 ·subst hn
  rw [br_of (by simp),S122_0_spec q hs]
  simp
 ·rw [br_no (by simpa using hn)]
  have:isWord q n a=false:=by
   cases hw:isWord q n a with
   | true=>exact absurd (isWord_iff.1 hw).1 hn
   | false=>rfl
  rw [this]
def allWord (q n:Int) (G:List (List Int)):Bool:=(List.range G.length).all fun i=>isWord q n (G.getD i [])
theorem allWord_iff {q n:Int} {G:List (List Int)}:allWord q n G=true↔∀ i,0≤i→i<G.length→isWord q n (G.getD i [])=true:=by
 unfold allWord
 simp only [List.all_eq_true,List.mem_range]
 exact ⟨fun h i _ hi=>h i hi,fun h i hi=>h i (Nat.zero_le _) hi⟩
open Classical in
theorem L114_2_spec (q n:Int) {G:List (List Int)} (hs:G.length<2^60) (hw:∀ i,(G.getD i []).length<2^60) {τ:Type} (κ:Nat→LS_→Option τ):∀ (f j:Nat),j≤G.length→G.length<f+j →
  ∃ i:Nat,runE L114_2 f κ 0 [.N G.length,.LL G,.I 0,.I G.length,.I j,.I q,.I n]=if (∀ i,j≤i→i<G.length→isWord q n (G.getD i [])=true) then κ 1 [.I 0,.I q,.I n] else κ 0 [.I i,.I q,.I n]
 | 0,j,h1,h2=>by omega
 | f+1,j,h1,h2=>by
  rw [runE_succ]
  show ∃ i:Nat,L114_2.s0 _ _ _=_
  unfold L114_2.s0
  simp only [g_,h_]
  by_cases hj:j<G.length
  ·have e:=wsucc (j:=j) (by omega)
   simp only [Int.toNat_natCast,Nat.mul_one]
   rw [br_of (by simp;omega),ck_of (by simp <;> omega),ck_of (by simp <;> omega),ck_of (by simp),F93_spec q n (hw j)]
   simp only [sw_zero,gB_zero,h_]
   cases h0:isWord q n (G.getD j []) with
   | true =>
    obtain ⟨i,hi⟩:=L114_2_spec q n hs hw κ f (j+1) (by omega) (by omega)
    refine ⟨i,?_⟩
    rw [br_no (b:=!true) rfl,e,hi]
    have hh:(∀ i,j+1≤i→i<G.length→isWord q n (G.getD i [])=true)↔(∀ i,j≤i→i<G.length→isWord q n (G.getD i [])=true):=by
     refine ⟨fun h i hi hl=>?_,fun h i hi hl=>h i (by omega) hl⟩
     by_cases he:i=j
     ·subst he;exact h0
     ·exact h i (by omega) hl
    simp only [hh]
   | false =>
    refine ⟨j,?_⟩
    rw [br_of (b:=!false) rfl,if_neg (fun h=>by have:=h j (Nat.le_refl _) hj;rw [h0] at this;cases this)]
  ·refine ⟨0,?_⟩
   rw [br_no (by simp;omega),if_pos (fun i h1 h2=>by omega)]
theorem S117_0_spec (q n:Int) {G:List (List Int)} (hs:G.length<2^60) (hw:∀ i,(G.getD i []).length<2^60) {τ:Type} (k:Nat→LS_→Option τ) :
  S117_0 [.N G.length,.LL G,.I q,.I n] k=k 0 [.B (!allWord q n G),.I q,.I n]:=by
 have hfu:=fuel_le
 unfold S117_0 S114_0 L114_2.b
 simp only [g_,h_]
 obtain ⟨i,hi⟩:=L114_2_spec q n hs hw (fun j l49=>(sw ((fun j l50=>(sw (k 0 [.B (geI (gI l50 0) (0:Int)),.I (gI l50 1),.I (gI l50 2)]) (fun _=>none)) j) 0 [.I (gI l49 0),.I (gI l49 1),.I (gI l49 2)]) (sw ((fun j l50=>(sw (k 0 [.B (geI (gI l50 0) (0:Int)),.I (gI l50 1),.I (gI l50 2)]) (fun _=>none)) j) 0 [.I (-(1:Int)),.I (gI l49 1),.I (gI l49 2)]) (fun _=>none))) j) fuel 0 (by omega) (by omega)
 rw [show ((0:Nat):Int)=0 from rfl] at hi
 refine Eq.trans hi ?_
 cases hw:allWord q n G with
 | true=>rw [if_pos (allWord_iff.1 hw)];simp [geI]
 | false=>rw [if_neg (fun h=>by rw [allWord_iff.2 h] at hw;cases hw)];simp [geI]
theorem F81_spec {q:Nat} (hq:q∈Qs) {τ:Type} (k:Nat→LS_→Option τ):F81 [.I q] k=k 0 [.I (fp q),.I (fe q),.N (fm q).length,.B true,.L (fm q)]:=by
 unfold F81 T99
 simp only [gI_zero,h_]
 rw [tabM_of hq]
 have:=qs_lt hq
 simp only [g_,sw_zero,h_]
 rw [show leI (q:Int) 16=true from by simp only [leI_iff];omega]
theorem F85_spec {q:Nat} (hq:q∈Qs) (n most:Int) {G:List (List Int)} (hs:G.length<2^60) (hw:∀ i,(G.getD i []).length<2^60) {τ:Type} (k:Nat→LS_→Option τ) :
  F85 [.I q,.I n,.I most,.LL G] k=if 1≤n∧n≤24∧(G.length:Int)≤most then k 0 [.I (fp q),.I (fe q),.N (fm q).length,.B (allWord q n G),.L (fm q)] else k 1 [.I (fp q),.I (fe q),.N (fm q).length,.L (fm q)]:=by
 unfold F85
 simp only [g_,h_]
 rw [F81_spec hq]
 simp only [g_,sw_zero,h_]
 rw [br_of rfl]
 by_cases h1:1≤n
 ·rw [br_of (by simpa using h1)]
  by_cases h2:n≤24
  ·rw [br_of (by simpa using h2)]
   by_cases h3:(G.length:Int)≤most
   ·rw [br_of (by simpa using h3),if_pos ⟨h1,h2,h3⟩,S117_0_spec q n hs hw]
    simp
   ·rw [br_no (by simp only [leI_no];exact h3),if_neg (fun h=>h3 h.2.2)]
  ·rw [br_no (by simp only [leI_no];exact h2),if_neg (fun h=>h2 h.2.1)]
 ·rw [br_no (by simp only [geI_no];exact h1),if_neg (fun h=>h1 h.1)]
theorem take_range_rep (n j:Nat) (hj:j<n) (x:Nat):(List.range j++List.replicate (n-j) x).set j j=List.range (j+1)++List.replicate (n-(j+1)) x:=by
 rw [List.set_append,if_neg (by simp),List.length_range,Nat.sub_self]
 have:n-j=(n-(j+1))+1:=by omega
 rw [this,List.replicate_succ,List.set_cons_zero,List.range_succ,List.append_assoc]
 rfl
theorem L87_3_spec {q n:Nat} {G:List (List Int)} (hG:Rows q n G) {τ:Type} (κ:Nat→LS_→Option τ):∀ (f j:Nat),j≤G.length→G.length<f+j →
  runE L87_3 f κ 0 [.N G.length,.N G.length,.LL G,.I G.length,.I j,.LL (G.take j),.LN (List.range j++List.replicate (G.length-j) 1099511627776)]=κ 0 [.N G.length,.LL G,.LN (List.range G.length)]
 | 0,j,h1,h2=>by omega
 | f+1,j,h1,h2=>by
  have hf:=hG.few
  have hs:=hG.short
  rw [runE_succ]
  show L87_3.s0 _ _ _=_
  unfold L87_3.s0
  simp only [g_,gLN_zero,gLN_succ,Int.toNat_natCast,Nat.mul_one,Nat.zero_add,h_]
  by_cases hj:j<G.length
  ·have wl:=(hG.wd j hj).1
   have tl:(G.take j).length=j:=by simp;omega
   have e1:(List.range j++List.replicate (G.length-j) 1099511627776).set j j=List.range (j+1)++List.replicate (G.length-(j+1)) 1099511627776:=take_range_rep _ _ hj _
   have e2:(List.range (j+1)++List.replicate (G.length-(j+1)) 1099511627776).getD j 0=j:=by
    rw [List.getD_eq_getElem?_getD,List.getElem?_append_left (by simp)];simp
   have e3:(List.range j++List.replicate (G.length-j) 1099511627776).length=G.length:=by simp;omega
   have e4:(List.range (j+1)++List.replicate (G.length-(j+1)) 1099511627776).length=G.length:=by simp;omega
   have e5:(G.take j++[List.replicate (G.getD j []).length (0:Int)]).getD j []=List.replicate (G.getD j []).length 0:=by
    rw [List.getD_eq_getElem?_getD,List.getElem?_append_right (by omega),tl];simp
   have e6:(G.take j++[List.replicate (G.getD j []).length (0:Int)]).set j (G.getD j [])=G.take (j+1):=by
    rw [take_succ_getD [] hj,List.set_append,if_neg (by omega),tl,Nat.sub_self];rfl
   have e7:(G.take j++[List.replicate (G.getD j []).length (0:Int)]).length=j+1:=by rw [List.length_append,tl];rfl
   simp only [e1,e2,e3,e4,e5,e6,e7,tl,List.length_replicate]
   generalize G.getD j []=g at wl ⊢
   rw [br_of (by simp;omega),ck_of (by simp;omega),ck_of (by simp;omega),ck_of (by simp;omega),ck_of (by simp;omega),ck_of (by simp;omega),ck_of (by simp;omega),ck_of (by simp;omega),ck_of (by simp),wsucc (by omega)]
   exact L87_3_spec hG κ f (j+1) (by omega) (by omega)
  ·have:j=G.length:=by omega
   subst this
   rw [br_no (by simp)]
   simp
theorem S87_0_spec {q n:Nat} {G:List (List Int)} (hG:Rows q n G) {τ:Type} (k:Nat→LS_→Option τ):S87_0 [.N G.length,.LL G] k=k 0 [.N G.length,.LN (List.range G.length),.LL G]:=by
 have hf:=hG.few
 have hfu:=fuel_le
 unfold S87_0 L87_3.b
 simp only [g_,Int.toNat_natCast,h_]
 rw [ck_of (by simp;omega)]
 have:=L87_3_spec hG (fun j l53=>(sw (k 0 [.N (gN l53 0),.LN (gLN l53 2),.LL (gLL l53 1)]) (fun _=>none)) j) fuel 0 (by omega) (by omega)
 exact this
theorem Mx_copy (G:List (List Int)):Mx (List.range G.length) G G where
 len:=by simp
 lt:=fun i hi=>by simp [List.getD_eq_getElem?_getD,hi]
 eq:=fun i hi=>by simp [List.getD_eq_getElem?_getD,hi]
 inj:=fun i j hi hj e=>by simpa [List.getD_eq_getElem?_getD,hi,hj] using e
theorem S84_0_spec {q n:Nat} (hq:q∈Qs) {m:List (List Int)} (hm:Rows q n m) {perm:List Nat} {fam:List (List Int)} (hM:Mx perm fam m) :
  ∃ perm' fam',Mx perm' fam' (red (fadd q) (fmul q) (fneg q) (finv q) n 0 0 m).1∧∀ {τ:Type} (k:Nat→LS_→Option τ),S84_0 [.I (fp q),.I (fe q),.N (fm q).length,.I n,.N m.length,.L (fm q),.LN perm,.LL fam] k =
   if (red (fadd q) (fmul q) (fneg q) (finv q) n 0 0 m).2=0 then k 1 [.N 0,.L (fm q),.LN perm',.LL fam'] else k 0 [.N (red (fadd q) (fmul q) (fneg q) (finv q) n 0 0 m).2,.L (fm q),.LN perm',.LL fam']:=by
 have hfu:=fuel_le
 have hf:=hm.few
 have hs:=hm.short
 obtain ⟨perm',fam',x,c1,c2⟩:=L84_3_spec0 hq fuel n 0 0 m perm fam hm hM (by omega) (Nat.zero_le _) (by omega)
 refine ⟨perm',fam',c1,fun {τ} k=>?_⟩
 unfold S84_0 L84_3.b
 simp only [g_,gLN_zero,gLN_succ,h_]
 refine Eq.trans (c2 _) ?_
 obtain ⟨a,b,d⟩:=red_len (add:=fadd q) (mul:=fmul q) (neg:=fneg q) (inv:=finv q) n 0 0 m
 have d:=d (Nat.zero_le _)
 generalize (red (fadd q) (fmul q) (fneg q) (finv q) n 0 0 m).2=r at d ⊢
 simp only [g_,sw_zero,gLN_zero,gLN_succ,Int.toNat_natCast,Nat.sub_zero,h_]
 rw [ck_of (by simp;omega)]
 by_cases hz:r=0
 ·rw [if_pos hz,br_no (by simp;omega)]
 ·rw [if_neg hz,br_of (by simp;omega)]
end
end Go.Proofs.Yticbdgmcofjkeaa.Ai
namespace Go.Proofs.Yticbdgmcofjkeaa.Ai
open Go Ma
noncomputable section
theorem far_le (lost:Nat→Bool) (w x:List Int) (a:Nat):∀ k,far lost w x a k≤k
 | 0=>Nat.le_refl _
 | k+1=>by rw [far_succ];have:=far_le lost w x a k;split <;> omega
structure Sr (q n:Nat) (G:List (List Int)) (w:List Int) (lb:List Bool) (En:List Nat):Prop where
 hq:q∈Qs
 gr:Rows q n G
 wl:w.length=n
 bl:lb.length=n
 n0:1≤n
 n1:n≤1024
 el:En.length=G.length+1
 em:∀ i,i<G.length→En.getD i 0≤En.getD (i+1) 0
 en:∀ i,i≤G.length→En.getD i 0≤n
def found (q:Nat) (lost:Nat→Bool) (w:List Int) (r:Int) (G:List (List Int)) (En:List Nat) (i:Nat) (x:List Int) (t:Nat):List (List Int):=(dfs q (fadd q) (fmul q) lost w r (G.drop i) (En.drop i) x t).map (·.1)
def rest (q:Nat) (lost:Nat→Bool) (w:List Int) (r:Int) (G:List (List Int)) (En:List Nat) (i:Nat) (x:List Int) (t:Nat) (a:Nat):List (List Int) :=
 ((List.range q).drop a).flatMap fun (a:Nat)=>found q lost w r G En (i+1) (vadd (fadd q) x (vmul (fmul q) (a:Int) (G.getD i []))) (t+far lost w (vadd (fadd q) x (vmul (fmul q) (a:Int) (G.getD i []))) (En.getD i 0) (En.getD (i+1) 0-En.getD i 0))
section
variable {q:Nat} {lost:Nat→Bool} {w:List Int} {r:Int} {G:List (List Int)} {En:List Nat} {i:Nat} {x:List Int} {t:Nat}
end
end
end Go.Proofs.Yticbdgmcofjkeaa.Ai
namespace Go.Proofs.Yticbdgmcofjkeaa.Ai
open Go Ma
noncomputable section
def mark (g:List Int) (lb:List Bool):List Bool:=g.foldl (fun l i=>l.set i.toNat true) lb
def pv (piv:Nat→Nat) (k:Nat):List Int:=(List.range k).map fun i=>((piv i:Nat):Int)
theorem wrap_of {e:Ent P} {p:PV3} {ls l2 ls':LS_} {j:Nat} {c:Bool} (hw:∀ {τ:Type} (κ:Option (Bool×LS_)→Option τ),sel e.sh (fun s=>κ (wr3 p (fA s l2))) j=κ (some (c,ls'))) (hc:c=true) {τ:Type} {k:Nat→LS_→Option τ} (h:∀ κ:Nat→LS_→Option τ,e.b ls κ=κ j l2) :
  wrapB e p ls k=k 0 ls':=by
 unfold wrapB
 rw [h]
 refine (hw (fun o=>Option.rec (motive:=fun _=>Option τ) none (fun (q:Bool×LS_)=>ck q.1 (k 0 q.2)) o)).trans ?_
 subst hc
 rfl
theorem Rref.leads {q n:Nat} {G:List (List Int)} {piv:Nat→Nat} (h:Rref q n G piv):∀ i,i<G.length→piv i<n∧(∀ j,j<piv i→(G.getD i []).getD j 0=0)∧(G.getD i []).getD (piv i) 0≠0:=fun i hi=>by
 refine ⟨h.lt i hi,fun j hj=>h.lead i j hi hj,?_⟩
 have:=h.one i hi
 unfold ent at this
 rw [this]
 decide
def lostI (g:List Int):Nat→Bool:=fun i=>g.contains ((i:Nat):Int)
end
end Go.Proofs.Yticbdgmcofjkeaa.Ai
namespace Go.Proofs.Yticbdgmcofjkeaa.Ai
open Go Go.RowKit
noncomputable section
variable {τ:Type} (t:Nat) (nx ex:Nat→LS_→Option τ) (l:LS_) (k κ:Nat→LS_→Option τ)
end
end Go.Proofs.Yticbdgmcofjkeaa.Ai
namespace Go.Proofs.Yticbdgmcofjkeaa.Ai
open Go Ma
noncomputable section
def Up (i:Nat) (g:List Int):Prop:=g.length≤i∧∀ k,k<g.length→Gn i g k
theorem Up.add {i:Nat} {g:List Int} (h:Up i g):Up (i+1) (g++[((i:Nat):Int)]):=by
 refine ⟨by simp;exact h.1,fun k hk=>?_⟩
 simp only [List.length_append,List.length_cons,List.length_nil] at hk
 have get:∀ j,j<g.length→(g++[((i:Nat):Int)]).getD j 0=g.getD j 0:=fun j hj=>by
  rw [List.getD_eq_getElem?_getD,List.getElem?_append_left hj,←List.getD_eq_getElem?_getD]
 have last:(g++[((i:Nat):Int)]).getD g.length 0=i:=by
  rw [List.getD_eq_getElem?_getD,List.getElem?_append_right (Nat.le_refl _)]
  simp
 unfold Gn
 by_cases hk2:k<g.length
 ·have:=h.2 k hk2
  unfold Gn at this
  rw [get k hk2]
  refine ⟨this.1,by omega,fun h0=>?_⟩
  rw [get (k-1) (by omega)]
  exact this.2.2 h0
 ·have:k=g.length:=by omega
  subst this
  rw [last]
  refine ⟨by omega,by omega,fun h0=>?_⟩
  rw [get _ (by omega)]
  exact (h.2 (g.length-1) (by omega)).2.1
theorem Up.skip {i:Nat} {g:List Int} (h:Up i g):Up (i+1) g:=by
 refine ⟨by have:=h.1;omega,fun k hk=>?_⟩
 have:=h.2 k hk
 unfold Gn at this ⊢
 exact ⟨this.1,by omega,this.2.2⟩
theorem Up.gone {i:Nat} {g:List Int} (h:Up i g):isGone i g=true:=isGone_iff.2 fun k _ hk=>h.2 k hk
theorem words_len {q n:Nat} (hq:q∈Qs) (G:List (List Int)) (z:List Int):(words q (fadd q) (fmul q) G z).length=q^G.length:=by
 rw [←words_digs q (by have:=qs_lt hq;omega) (fadd q) (fmul q) G z,List.length_map,List.length_range]
theorem Up.nil {n:Nat}:Up n []:=⟨Nat.zero_le _,fun k hk=>by simp at hk⟩
section
variable {q:Nat} {lost:Nat→Bool} {w:List Int} {G:List (List Int)} {En:List Nat} {i:Nat} {x:List Int} {t:Nat}
end
end
end Go.Proofs.Yticbdgmcofjkeaa.Ai
namespace Go.Proofs.Yticbdgmcofjkeaa.Ai
open Go Ma
noncomputable section
end
end Go.Proofs.Yticbdgmcofjkeaa.Ai
namespace Go.Proofs.Yticbdgmcofjkeaa.Ai
open Go Go.RowKit
noncomputable section
variable {τ:Type} (t:Nat) (nx ex:Nat→LS_→Option τ) (l:LS_) (k κ:Nat→LS_→Option τ)
end
end Go.Proofs.Yticbdgmcofjkeaa.Ai
namespace Go.Proofs.Yticbdgmcofjkeaa.Ai
open Go Ma
noncomputable section
end
end Go.Proofs.Yticbdgmcofjkeaa.Ai
