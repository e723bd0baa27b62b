/-
Part 7 of 7 of the texts for one claim: Xvc Fl2 Fl3 Fl4 Fl5 Fl6 Fl7 Fl8 Xq Xm Wl Wm Xu Wp Fl9 Xw207 FlA Xw201 FlB Xw203 Xw205 FlC Xw204 FlE.
-/
import Derived.Test.YticbdgmcofjkeaaGreatFh6
set_option linter.unusedVariables false
set_option linter.unusedSimpArgs false
namespace Go.Proofs.YticbdgmcofjkeaaGreat.Ai
open Go Go.RowKit
noncomputable section
variable {τ:Type} (t:Nat) (nx ex:Nat→LS_→Option τ) (l:LS_) (k κ:Nat→LS_→Option τ)
def L242_2_2.H:LHead:=⟨false,true,0,221186,221186,54,16,0,[(PS.mk (us 1 (pI::(pp 0)::us 1 (pB::pI::us 14 []))) [(oG [qR,nS])])],[((Out.exit 0),(PS.mk (us 4 (pB::us 15 [])) []))]⟩
def L242_2_2.O:Orc P:=⟨[],[],[],40⟩
def L242_2_2.s0 {τ:Type} (next ex:Nat→LS_→Option τ) (l:LS_):Option τ :=
 br (ltI (gI l 2) 0)
 (none)
 (ex 0 [.B (gB l 1)])
theorem L242_2_2.e0:LEq L242_2_2.O L242_2_2.H 0 L242_2_2.s0:=by intro τ next κ l;kernel_rfl
def L242_2_2:LStep P Cf:=LStep.mk1 (by decide) L242_2_2.e0
def L242_2_2.b:Option τ:=runE L242_2_2 fuel κ t l
def L242_2_2.E:LEnt P:=LStep.E L242_2_2
def F242_2.ps:List PV2:=[(PV2.agg [aI,PV1.nilS]),pI]
def F242_2.sh:List PA:=[(PA.mk (PV3.v pB) [])]
def F242_2.O:Orc P:=⟨[],[L242_2_2.E],[],40⟩
def F242_2:Option τ :=
 L242_2_2.b 0 [.I (gI l 1),.B false,.I 0,.N (List.length (gL l 0)),.L (gL l 0)]
 (fun j A=>(sw (k 0 [.B false])
 (fun _=>none)) j)
theorem F242_2.eq:FEq F242_2.O 54 F242_2.ps F242_2.sh F242_2:=by intro τ l κ;kernel_rfl
def F242_2.E:Ent P:=mkF F242_2.eq
def L243_2.H:LHead:=⟨false,true,0,225282,225282,35,35,0,[(PS.mk (nS::pI::us 3 (pI::us 29 [])) [])],[((Out.exit 0),(PS.mk (nS::pI::us 3 (pI::us 29 [])) []))]⟩
def L243_2.O:Orc P:=⟨[],[],[],40⟩
def L243_2.s0 {τ:Type} (next ex:Nat→LS_→Option τ) (l:LS_):Option τ :=
 br (ltI (gI l 1) 0)
 (none)
 (ex 0 [.I (gI l 0),.I (gI l 1)])
theorem L243_2.e0:LEq L243_2.O L243_2.H 0 L243_2.s0:=by intro τ next κ l;kernel_rfl
def L243_2:LStep P Cf:=LStep.mk1 (by decide) L243_2.e0
def L243_2.b:Option τ:=runE L243_2 fuel κ t l
def L243_2.E:LEnt P:=LStep.E L243_2
def F243.ps:List PV2:=[nS,pI]
def F243.sh:List PA:=[(PA.mk (PV3.v (rr 0)) [cI])]
def F243.O:Orc P:=⟨[],[L243_2.E],[],40⟩
def F243:Option τ :=
 L243_2.b 0 [.I (gI l 0),.I 0]
 (fun j A=>(sw (ck (((eqI (gI A 1) 0)&&(eqI (gI A 1) 0))&&true)
 (ck ((((eqI (gI A 1) 0)&&true)&&true)&&true)
 (k 0 [.N 1,.L [(gI A 0)]])))
 (fun _=>none)) j)
theorem F243.eq:FEq F243.O 55 F243.ps F243.sh F243:=by intro τ l κ;kernel_rfl
def F243.E:Ent P:=mkF F243.eq
def L243_2_1.H:LHead:=⟨false,true,0,225282,225282,35,35,0,[(PS.mk (qR::pI::us 3 (pI::us 29 [])) [])],[((Out.exit 0),(PS.mk (qR::pI::us 3 (pI::us 29 [])) []))]⟩
def L243_2_1.O:Orc P:=⟨[],[],[],40⟩
def L243_2_1.s0:Option τ :=
 br (ltI (gI l 3) (gN l 0))
 (ck (((leI 0 (gI l 3))&&(ltI (gI l 3) (gN l 0)))&&true)
 (ck (ltN ((Int.toNat (gI l 3))*1) (List.length (gL l 1)))
 (br (ltI (List.getD (gL l 1) ((Int.toNat (gI l 3))*1) 0) (gI l 2))
 (nx 0 [.N (gN l 0),.L (gL l 1),.I (gI l 2),.I (wr .i64 ((gI l 3)+1))])
 (ex 0 [.N (gN l 0),.L (gL l 1),.I (gI l 2),.I (gI l 3)]))))
 (ex 0 [.N (gN l 0),.L (gL l 1),.I (gI l 2),.I (gI l 3)])
theorem L243_2_1.e0:LEq L243_2_1.O L243_2_1.H 0 L243_2_1.s0:=by intro τ next κ l;kernel_rfl
def L243_2_1:LStep P Cf:=LStep.mk1 (by decide) L243_2_1.e0
def L243_2_1.b:Option τ:=runE L243_2_1 fuel κ t l
def L243_2_1.E:LEnt P:=LStep.E L243_2_1
def F243_1.ps:List PV2:=[pR,pI]
def F243_1.sh:List PA:=[(PA.mk (PV3.v (rr 0)) [cI])]
def F243_1.O:Orc P:=⟨[],[L243_2_1.E],[],40⟩
def F243_1:Option τ :=
 L243_2_1.b 0 [.N (List.length (gL l 0)),.L (gL l 0),.I (gI l 1),.I 0]
 (fun j A=>(sw (ck (((((leI 0 (gI A 3))&&(leI (gI A 3) (gI A 3)))&&(leI (gI A 3) (gN A 0)))&&(eqM (List.length (gL A 1)) ((gN A 0)*1)))&&true)
 (ck (((eqM (List.length (List.take (((Int.toNat (gI A 3))-0)*1) (List.drop 0 (gL A 1)))) (((Int.toNat (gI A 3))-0)*1))&&(leN ((0+((Int.toNat (gI A 3))-0))*9) 1099511627776))&&true)
 (ck (((((eqM (List.length ([]++(List.take (((Int.toNat (gI A 3))-0)*1) (List.drop 0 (gL A 1))))) ((0+((Int.toNat (gI A 3))-0))*1))&&true)&&(eqM 1 1))&&(leN (((0+((Int.toNat (gI A 3))-0))+1)*9) 1099511627776))&&true)
 (ck ((((((leI 0 (gI A 3))&&(leI (gI A 3) (gN A 0)))&&(leI (((gN A 0):Nat):Int) (((gN A 0):Nat):Int)))&&(leI (((gN A 0):Nat):Int) (((gN A 0):Nat):Int)))&&(eqM (List.length (gL A 1)) ((gN A 0)*1)))&&true)
 (ck (((((eqM (List.length (([]++(List.take (((Int.toNat (gI A 3))-0)*1) (List.drop 0 (gL A 1))))++(List.take 1 (List.drop 0 [(gI A 2)])))) (((0+((Int.toNat (gI A 3))-0))+1)*1))&&true)&&(eqM (List.length (List.take (((Int.toNat (((gN A 0):Nat):Int))-(Int.toNat (gI A 3)))*1) (List.drop ((Int.toNat (gI A 3))*1) (gL A 1)))) (((Int.toNat (((gN A 0):Nat):Int))-(Int.toNat (gI A 3)))*1)))&&(leN ((((0+((Int.toNat (gI A 3))-0))+1)+((Int.toNat (((gN A 0):Nat):Int))-(Int.toNat (gI A 3))))*9) 1099511627776))&&true)
 (k 0 [.N (((0+((Int.toNat (gI A 3))-0))+1)+((Int.toNat (((gN A 0):Nat):Int))-(Int.toNat (gI A 3)))),.L ((([]++(List.take (((Int.toNat (gI A 3))-0)*1) (List.drop 0 (gL A 1))))++(List.take 1 (List.drop 0 [(gI A 2)])))++(List.take (((Int.toNat (((gN A 0):Nat):Int))-(Int.toNat (gI A 3)))*1) (List.drop ((Int.toNat (gI A 3))*1) (gL A 1))))]))))))
 (fun _=>none)) j)
theorem F243_1.eq:FEq F243_1.O 55 F243_1.ps F243_1.sh F243_1:=by intro τ l κ;kernel_rfl
def F243_1.E:Ent P:=mkF F243_1.eq
def L209_8.H:LHead:=⟨false,true,0,53256,53256,918,144,0,[(PS.mk (us 1 ((PV2.v (PV1.sl (PC0.i IntKind.u8)))::(pp 0)::us 1 ((pp 1)::us 2 ((pp 2)::(pp 3)::pI::us 79 [])))) [(oG [pI,pI,qM]),(oG [nS,nS]),(oG [(rr 4),nS]),(oG [pI,pI,qR]),oI]),(PS.mk (us 1 ((PV2.v (PV1.sl (PC0.i IntKind.u8)))::(pp 0)::us 1 ((pp 1)::us 2 ((pp 2)::(pp 3)::pI::us 79 [])))) [(oG [pI,pI,qM]),(oG [nS,nS]),(oG [(rr 4),(rr 5)]),(oG [pI,pI,qR]),oI,oI])],[((Out.exit 0),(PS.mk (us 4 ((pp 0)::us 2 ((pp 1)::us 81 []))) [(oG [nS,nS]),(oG [(rr 2),nS]),oI])),((Out.exit 0),(PS.mk (us 4 ((pp 0)::us 2 ((pp 1)::us 81 []))) [(oG [nS,nS]),(oG [(rr 2),(rr 3)]),oI,oI]))]⟩
def L209_8.O:Orc P:=⟨[F242_2.E,F243.E,T77.E,F242.E,F243_1.E],[],[],40⟩
def L209_8.s0:Option τ :=
 br (ltI (wr .i64 ((gI l 2)+1)) (((gN l 0):Nat):Int))
 (br (ltI (gI l 2) 9)
 (ck (((leI 0 (gI l 2))&&(ltI (gI l 2) (gN l 0)))&&true)
 (ck (ltN ((Int.toNat (gI l 2))*1) (List.length (gL l 1)))
 (ck (!((gI l 4)==0))
 (ck (((leI 0 (wr .i64 ((gI l 2)+1)))&&(ltI (wr .i64 ((gI l 2)+1)) (((gN l 0):Nat):Int)))&&true)
 (ck (ltN ((Int.toNat (wr .i64 ((gI l 2)+1)))*1) (List.length (gL l 1)))
 (br ((Int.tmod (List.getD (gL l 1) ((Int.toNat (wr .i64 ((gI l 2)+1)))*1) 0) 3)==0)
 (ck (((eqM (gN l 7) (List.length (List.take ((gN l 7)*1) (List.drop 0 (gL l 12)))))&&true)&&true)
 (F242_2 [.L (List.take ((gN l 7)*1) (List.drop 0 (gL l 12))),.I (Int.tmod (wr .i64 (List.getD (gL l 1) ((Int.toNat (gI l 2))*1) 0)) (gI l 4))]
 (fun j A=>(sw (br (!(gB A 0))
 (F243 [.I (Int.tmod (wr .i64 (List.getD (gL l 1) ((Int.toNat (gI l 2))*1) 0)) (gI l 4))]
 (fun j B=>(sw (nx 1 [.N (gN l 0),.L (gL l 1),.I (wr .i64 ((gI l 2)+2)),.I (gI l 3),.I (gI l 4),.N (gN l 5),.LL (gLL l 6),.N (gN l 7),.N (gN B 0),.I (gI l 8),.I (gI l 9),.N (gN l 10),.L (gL l 11),.L (gL l 12),.L (gL B 1)])
 (fun _=>none)) j))
 (nx 0 [.N (gN l 0),.L (gL l 1),.I (wr .i64 ((gI l 2)+2)),.I (gI l 3),.I (gI l 4),.N (gN l 5),.LL (gLL l 6),.N (gN l 7),.I (gI l 8),.I (gI l 9),.N (gN l 10),.L (gL l 11),.L (gL l 12)]))
 (fun _=>none)) j)))
 (ck (((leI 0 (Int.tmod (wr .i64 (List.getD (gL l 1) ((Int.toNat (gI l 2))*1) 0)) (gI l 4)))&&(ltI (Int.tmod (wr .i64 (List.getD (gL l 1) ((Int.toNat (gI l 2))*1) 0)) (gI l 4)) (((gN l 7):Nat):Int)))&&true)
 (ck (ltN (0+((Int.toNat (Int.tmod (wr .i64 (List.getD (gL l 1) ((Int.toNat (gI l 2))*1) 0)) (gI l 4)))*1)) (List.length (gL l 12)))
 (ck (((leI 0 (wr .i64 ((gI l 2)+1)))&&(ltI (wr .i64 ((gI l 2)+1)) (((gN l 0):Nat):Int)))&&true)
 (ck (ltN ((Int.toNat (wr .i64 ((gI l 2)+1)))*1) (List.length (gL l 1)))
 (ck (!((gI l 3)==0))
 (ck (((eqM (gN l 10) (List.length (gL l 11)))&&true)&&true)
 (T77 [.I (gI l 8),.I (gI l 9),.L (gL l 11),.I (List.getD (gL l 12) (0+((Int.toNat (Int.tmod (wr .i64 (List.getD (gL l 1) ((Int.toNat (gI l 2))*1) 0)) (gI l 4)))*1)) 0),.I (Int.tmod (wr .i64 (List.getD (gL l 1) ((Int.toNat (wr .i64 ((gI l 2)+1)))*1) 0)) (gI l 3))]
 (fun j A=>(sw (ck (((leI 0 (Int.tmod (wr .i64 (List.getD (gL l 1) ((Int.toNat (gI l 2))*1) 0)) (gI l 4)))&&(ltI (Int.tmod (wr .i64 (List.getD (gL l 1) ((Int.toNat (gI l 2))*1) 0)) (gI l 4)) (((gN l 7):Nat):Int)))&&true)
 (ck ((leN ((0+((Int.toNat (Int.tmod (wr .i64 (List.getD (gL l 1) ((Int.toNat (gI l 2))*1) 0)) (gI l 4)))*1))+1) (List.length (gL l 12)))&&true)
 (nx 0 [.N (gN l 0),.L (gL l 1),.I (wr .i64 ((gI l 2)+2)),.I (gI l 3),.I (gI l 4),.N (gN l 5),.LL (gLL l 6),.N (gN l 7),.I (gI l 8),.I (gI l 9),.N (gN l 10),.L (gL l 11),.L (List.set (gL l 12) (0+((Int.toNat (Int.tmod (wr .i64 (List.getD (gL l 1) ((Int.toNat (gI l 2))*1) 0)) (gI l 4)))*1)) (gI A 0))])))
 (fun _=>none)) j))))))))))))))
 (ex 0 [.N (gN l 7),.L (gL l 12)]))
 (ex 0 [.N (gN l 7),.L (gL l 12)])
theorem L209_8.e0:LEq L209_8.O L209_8.H 0 L209_8.s0:=by intro τ next κ l;kernel_rfl
def L209_8.s1:Option τ :=
 br (ltI (wr .i64 ((gI l 2)+1)) (((gN l 0):Nat):Int))
 (br (ltI (gI l 2) 9)
 (ck (((leI 0 (gI l 2))&&(ltI (gI l 2) (gN l 0)))&&true)
 (ck (ltN ((Int.toNat (gI l 2))*1) (List.length (gL l 1)))
 (ck (!((gI l 4)==0))
 (ck (((leI 0 (wr .i64 ((gI l 2)+1)))&&(ltI (wr .i64 ((gI l 2)+1)) (((gN l 0):Nat):Int)))&&true)
 (ck (ltN ((Int.toNat (wr .i64 ((gI l 2)+1)))*1) (List.length (gL l 1)))
 (br ((Int.tmod (List.getD (gL l 1) ((Int.toNat (wr .i64 ((gI l 2)+1)))*1) 0) 3)==0)
 (ck (((eqM (gN l 7) (List.length (List.take ((gN l 7)*1) (List.drop 0 (gL l 13)))))&&((eqM (gN l 8) (List.length (List.take ((gN l 8)*1) (List.drop 0 (gL l 14)))))&&true))&&true)
 (F242 [.L (List.take ((gN l 7)*1) (List.drop 0 (gL l 13))),.L (List.take ((gN l 8)*1) (List.drop 0 (gL l 14))),.I (Int.tmod (wr .i64 (List.getD (gL l 1) ((Int.toNat (gI l 2))*1) 0)) (gI l 4))]
 (fun j A=>(sw (br (!(gB A 0))
 (ck ((eqM (gN l 8) (List.length (List.take ((gN l 8)*1) (List.drop 0 (gL l 14)))))&&true)
 (F243_1 [.L (List.take ((gN l 8)*1) (List.drop 0 (gL l 14))),.I (Int.tmod (wr .i64 (List.getD (gL l 1) ((Int.toNat (gI l 2))*1) 0)) (gI l 4))]
 (fun j B=>(sw (nx 1 [.N (gN l 0),.L (gL l 1),.I (wr .i64 ((gI l 2)+2)),.I (gI l 3),.I (gI l 4),.N (gN l 5),.LL (gLL l 6),.N (gN l 7),.N (gN B 0),.I (gI l 9),.I (gI l 10),.N (gN l 11),.L (gL l 12),.L (gL l 13),.L (gL B 1)])
 (fun _=>none)) j)))
 (nx 1 [.N (gN l 0),.L (gL l 1),.I (wr .i64 ((gI l 2)+2)),.I (gI l 3),.I (gI l 4),.N (gN l 5),.LL (gLL l 6),.N (gN l 7),.N (gN l 8),.I (gI l 9),.I (gI l 10),.N (gN l 11),.L (gL l 12),.L (gL l 13),.L (gL l 14)]))
 (fun _=>none)) j)))
 (ck (((leI 0 (Int.tmod (wr .i64 (List.getD (gL l 1) ((Int.toNat (gI l 2))*1) 0)) (gI l 4)))&&(ltI (Int.tmod (wr .i64 (List.getD (gL l 1) ((Int.toNat (gI l 2))*1) 0)) (gI l 4)) (((gN l 7):Nat):Int)))&&true)
 (ck (ltN (0+((Int.toNat (Int.tmod (wr .i64 (List.getD (gL l 1) ((Int.toNat (gI l 2))*1) 0)) (gI l 4)))*1)) (List.length (gL l 13)))
 (ck (((leI 0 (wr .i64 ((gI l 2)+1)))&&(ltI (wr .i64 ((gI l 2)+1)) (((gN l 0):Nat):Int)))&&true)
 (ck (ltN ((Int.toNat (wr .i64 ((gI l 2)+1)))*1) (List.length (gL l 1)))
 (ck (!((gI l 3)==0))
 (ck (((eqM (gN l 11) (List.length (gL l 12)))&&true)&&true)
 (T77 [.I (gI l 9),.I (gI l 10),.L (gL l 12),.I (List.getD (gL l 13) (0+((Int.toNat (Int.tmod (wr .i64 (List.getD (gL l 1) ((Int.toNat (gI l 2))*1) 0)) (gI l 4)))*1)) 0),.I (Int.tmod (wr .i64 (List.getD (gL l 1) ((Int.toNat (wr .i64 ((gI l 2)+1)))*1) 0)) (gI l 3))]
 (fun j A=>(sw (ck (((leI 0 (Int.tmod (wr .i64 (List.getD (gL l 1) ((Int.toNat (gI l 2))*1) 0)) (gI l 4)))&&(ltI (Int.tmod (wr .i64 (List.getD (gL l 1) ((Int.toNat (gI l 2))*1) 0)) (gI l 4)) (((gN l 7):Nat):Int)))&&true)
 (ck ((leN ((0+((Int.toNat (Int.tmod (wr .i64 (List.getD (gL l 1) ((Int.toNat (gI l 2))*1) 0)) (gI l 4)))*1))+1) (List.length (gL l 13)))&&true)
 (nx 1 [.N (gN l 0),.L (gL l 1),.I (wr .i64 ((gI l 2)+2)),.I (gI l 3),.I (gI l 4),.N (gN l 5),.LL (gLL l 6),.N (gN l 7),.N (gN l 8),.I (gI l 9),.I (gI l 10),.N (gN l 11),.L (gL l 12),.L (List.set (gL l 13) (0+((Int.toNat (Int.tmod (wr .i64 (List.getD (gL l 1) ((Int.toNat (gI l 2))*1) 0)) (gI l 4)))*1)) (gI A 0)),.L (gL l 14)])))
 (fun _=>none)) j))))))))))))))
 (ex 1 [.N (gN l 7),.N (gN l 8),.L (gL l 13),.L (gL l 14)]))
 (ex 1 [.N (gN l 7),.N (gN l 8),.L (gL l 13),.L (gL l 14)])
theorem L209_8.e1:LEq L209_8.O L209_8.H 1 L209_8.s1:=by intro τ next κ l;kernel_rfl
def L209_8:LStep P Cf:=LStep.mk2 (by decide) L209_8.e0 L209_8.e1
def L209_8.b:Option τ:=runE L209_8 fuel κ t l
def L209_8.E:LEnt P:=LStep.E L209_8
def F209.ps:List PV2:=[pCode,qB8]
def F209.sh:List PA:=[(PA.mk (PV3.v (PV2.agg [(r1 0),PV1.nilS])) [cI]),(PA.mk (PV3.v (PV2.agg [(r1 0),(r1 1)])) [cI,cI])]
def F209.O:Orc P:=⟨[T25.E,T29.E],[L209_8.E],[],40⟩
def F209:Option τ :=
 ck (((eqM (List.length (gLL l 2)) (List.length (gLL l 2)))&&true)&&true)
 (T25 [.I (gI l 0),.I (gI l 1),.LL (gLL l 2)]
 (fun j A=>(sw (br (gtI (((List.length (gL l 3)):Nat):Int) 0)
 (ck ((ltI 0 (List.length (gL l 3)))&&true)
 (ck (ltN 0 (List.length (gL l 3)))
 (ck (!((((List.length (gLL A 0)):Nat):Int)==0))
 (ck (((leI 0 (Int.tmod (wr .i64 (List.getD (gL l 3) 0 0)) (((List.length (gLL A 0)):Nat):Int)))&&(ltI (Int.tmod (wr .i64 (List.getD (gL l 3) 0 0)) (((List.length (gLL A 0)):Nat):Int)) (((List.length (gLL A 0)):Nat):Int)))&&true)
 (ck (ltN ((Int.toNat (Int.tmod (wr .i64 (List.getD (gL l 3) 0 0)) (((List.length (gLL A 0)):Nat):Int)))*1) (List.length (gLL A 0)))
 (ck (((eqM (List.length (List.getD (gLL A 0) ((Int.toNat (Int.tmod (wr .i64 (List.getD (gL l 3) 0 0)) (((List.length (gLL A 0)):Nat):Int)))*1) [])) ((List.length (List.getD (gLL A 0) ((Int.toNat (Int.tmod (wr .i64 (List.getD (gL l 3) 0 0)) (((List.length (gLL A 0)):Nat):Int)))*1) []))*1))&&(leN ((0+(List.length (List.getD (gLL A 0) ((Int.toNat (Int.tmod (wr .i64 (List.getD (gL l 3) 0 0)) (((List.length (gLL A 0)):Nat):Int)))*1) [])))*9) 1099511627776))&&true)
 (T29 [.I (gI l 0)]
 (fun j B=>(sw (L209_8.b 0 [.N (List.length (gL l 3)),.L (gL l 3),.I 1,.I (gI l 0),.I (gI l 1),.N (List.length (gLL l 2)),.LL (gLL l 2),.N (0+(List.length (List.getD (gLL A 0) ((Int.toNat (Int.tmod (wr .i64 (List.getD (gL l 3) 0 0)) (((List.length (gLL A 0)):Nat):Int)))*1) []))),.I (gI B 0),.I (gI B 1),.N (List.length (gL B 2)),.L (gL B 2),.L ([]++(List.getD (gLL A 0) ((Int.toNat (Int.tmod (wr .i64 (List.getD (gL l 3) 0 0)) (((List.length (gLL A 0)):Nat):Int)))*1) []))]
 (fun j C=>(sw (k 0 [.N (gN C 0),.L (gL C 1)])
 (sw (k 1 [.N (gN C 0),.N (gN C 1),.L (gL C 2),.L (gL C 3)])
 (fun _=>none))) j))
 (fun _=>none)) j))))))))
 (ck (!((((List.length (gLL A 0)):Nat):Int)==0))
 (ck (((leI 0 (Int.tmod 0 (((List.length (gLL A 0)):Nat):Int)))&&(ltI (Int.tmod 0 (((List.length (gLL A 0)):Nat):Int)) (((List.length (gLL A 0)):Nat):Int)))&&true)
 (ck (ltN ((Int.toNat (Int.tmod 0 (((List.length (gLL A 0)):Nat):Int)))*1) (List.length (gLL A 0)))
 (ck (((eqM (List.length (List.getD (gLL A 0) ((Int.toNat (Int.tmod 0 (((List.length (gLL A 0)):Nat):Int)))*1) [])) ((List.length (List.getD (gLL A 0) ((Int.toNat (Int.tmod 0 (((List.length (gLL A 0)):Nat):Int)))*1) []))*1))&&(leN ((0+(List.length (List.getD (gLL A 0) ((Int.toNat (Int.tmod 0 (((List.length (gLL A 0)):Nat):Int)))*1) [])))*9) 1099511627776))&&true)
 (T29 [.I (gI l 0)]
 (fun j B=>(sw (L209_8.b 0 [.N (List.length (gL l 3)),.L (gL l 3),.I 1,.I (gI l 0),.I (gI l 1),.N (List.length (gLL l 2)),.LL (gLL l 2),.N (0+(List.length (List.getD (gLL A 0) ((Int.toNat (Int.tmod 0 (((List.length (gLL A 0)):Nat):Int)))*1) []))),.I (gI B 0),.I (gI B 1),.N (List.length (gL B 2)),.L (gL B 2),.L ([]++(List.getD (gLL A 0) ((Int.toNat (Int.tmod 0 (((List.length (gLL A 0)):Nat):Int)))*1) []))]
 (fun j C=>(sw (k 0 [.N (gN C 0),.L (gL C 1)])
 (sw (k 1 [.N (gN C 0),.N (gN C 1),.L (gL C 2),.L (gL C 3)])
 (fun _=>none))) j))
 (fun _=>none)) j)))))))
 (fun _=>none)) j))
theorem F209.eq:FEq F209.O 13 F209.ps F209.sh F209:=by intro τ l κ;kernel_rfl
def F209.E:Ent P:=mkF F209.eq
def F208.ps:List PV2:=[qRaw13]
def F208.sh:List PA:=[(PA.mk (PV3.v (PV2.agg [iI,iI,(PV1.sl (PC0.m .i64))])) [])]
def F208.O:Orc P:=⟨[T35.E],[],[],40⟩
def F208:Option τ :=
 ck (((eqM (List.length (gL l 3)) (List.length (gL l 3)))&&true)&&true)
 (T35 [.I 0,.I (gI l 1),.I (gI l 2),.L (gL l 3)]
 (fun j A=>(sw (k 0 [.I (gI A 0),.I (gI A 1),.N (List.length (gLL A 2)),.LL (gLL A 2)])
 (fun _=>none)) j))
theorem F208.eq:FEq F208.O 11 F208.ps F208.sh F208:=by intro τ l κ;kernel_rfl
def F208.E:Ent P:=mkF F208.eq
end
end Go.Proofs.YticbdgmcofjkeaaGreat.Ai
namespace Go.Proofs.YticbdgmcofjkeaaGreat.Ai
open Go Ma Go.RowKit
noncomputable section
theorem F293_spec (x:Int) {τ:Type} (k:Nat→LS_→Option τ):F293 [.I x] k=k 0 [.B (decide (x<0) || decide (1<x))]:=by
 unfold F293
 simp only [gI_zero]
 by_cases h:x<0
 ·rw [br_of (by simp;omega)];simp [h]
 ·rw [br_no (by simp;omega)];simp [h,gtI]
theorem F282_spec (n:Int) {a:List Int} (hs:a.length<2^60) {τ:Type} (k:Nat→LS_→Option τ):F282 [.I n,.L a] k=k 0 [.B (isWord 2 n a)]:=by
 unfold F282 L100_2_4.b
 simp only [g_]
 by_cases hn:(a.length:Int)=n
 ·subst hn
  rw [br_of (by simp)]
  refine (run_any L100_2_4 L100_2_4.s0 0 (fun _ _ _=>rfl) _ (fun j=>[.N a.length,.L a,.I 0,.I a.length,.I (j:Nat)]) a.length (fun j=>decide (a.getD j 0<0) || decide (1<a.getD j 0)) (k 0 [.B false]) (k 0 [.B true]) (by omega) (fun j hj next=>?_) (fun next=>?_)).trans ?_
  ·skip
   unfold L100_2_4.s0
   simp only [g_,Int.toNat_natCast,Nat.mul_one]
   rw [br_of (by simp;omega),ck_of (by simp <;> omega),ck_of (by simp <;> omega),F293_spec,wsucc (by omega)]
   simp only [sw_zero,gB_zero]
   cases hp:(decide (a.getD j 0<0) || decide (1<a.getD j 0)) with
   | true=>rw [br_of rfl,if_pos rfl];simp [geI]
   | false=>rw [br_no rfl,if_neg (by decide)]
  ·skip
   unfold L100_2_4.s0
   simp only [g_,Int.toNat_natCast,Nat.mul_one]
   rw [br_no (by simp)]
   simp [geI]
  ·cases hw:isWord 2 (a.length:Int) a with
   | true =>
    rw [if_neg]
    intro h
    obtain ⟨j,hj,hp⟩:=List.any_eq_true.1 h
    have:=(isWord_iff.1 hw).2 j (Nat.zero_le _) (List.mem_range.1 hj)
    simp only [Bool.or_eq_true,decide_eq_true_eq] at hp
    omega
   | false =>
    rw [if_pos]
    apply Decidable.byContradiction
    intro h
    rw [List.any_eq_true] at h
    have:isWord 2 (a.length:Int) a=true:=isWord_iff.2 ⟨rfl,fun i _ hi=>by
     have q:¬ (a.getD i 0<0∨1<a.getD i 0):=fun hp=>h ⟨i,List.mem_range.2 hi,by rw [Bool.or_eq_true,decide_eq_true_eq,decide_eq_true_eq];exact hp⟩
     omega⟩
    rw [hw] at this;cases this
 ·rw [br_no (by simpa using hn)]
  have:isWord 2 n a=false:=by
   cases hw:isWord 2 n a with
   | true=>exact absurd (isWord_iff.1 hw).1 hn
   | false=>rfl
  rw [this]
theorem F269_spec {w:List Int} (hw:Bn w) (hl:w.length<30) {τ:Type} (k:Nat→LS_→Option τ):F269 [.L w] k=k 0 [.I ((bv w:Nat):Int)]:=by
 unfold F269 L269_3.b
 simp only [gL_zero]
 refine (run_for L269_3 L269_3.s0 0 (fun _ _ _=>rfl) _ (fun j=>[.I ((bv (w.take j):Nat):Int),.N w.length,.L w,.I w.length,.I (j:Nat)]) w.length (k 0 [.I ((bv w:Nat):Int)]) (by omega) (fun j hj next=>?_) (fun next=>?_))
 ·skip
  unfold L269_3.s0
  simp only [g_,Int.toNat_natCast,Nat.mul_one]
  rw [br_of (by simp;omega),ck_of (by simp <;> omega),ck_of (by simp <;> omega),ck_of (by simp),wsucc (by omega)]
  have e1:=shl1 (hw j hj) (j:=j) (by omega)
  have hb:bv (w.take j)<2^64:=by
   have:=bv_lt (w.take j)
   have h2:2^(w.take j).length≤2^64:=Nat.pow_le_pow_right (by decide) (by simp;omega)
   omega
  have hj2:2^j<2^30:=Nat.pow_lt_pow_right (by decide) (by omega)
  have e2:=b_or (a:=bv (w.take j)) (b:=(if w.getD j 0=1 then 1 else 0)*2^j) hb (by split <;> omega)
  rw [bv_take hj,←e1] at e2
  exact congrArg (fun x=>next 0 (.I x::_)) e2
 ·skip
  unfold L269_3.s0
  simp only [g_]
  rw [br_no (by simp),List.take_length]
  simp
def oc (x:Int):Int:=(F304 (τ:=Int) [.I x] (fun _ l=>some (gI l 0))).getD 0
theorem F304_form (x:Int) {τ:Type} (k:Nat→LS_→Option τ):F304 [.I x] k=k 0 [.I (oc x)]:=rfl
theorem oc_all:(List.range 1024).all (fun x=>oc (x:Nat)==((pc x:Nat):Int))=true:=by kernel_rfl
theorem F295_spec {a:Nat} (h:a<1024) {τ:Type} (k:Nat→LS_→Option τ):F295 [.I (a:Int)] k=k 0 [.I ((pc a:Nat):Int)]:=by
 unfold F295
 simp only [gI_zero]
 rw [F304_form]
 have:=List.all_eq_true.1 oc_all a (List.mem_range.2 h)
 rw [eq_of_beq this]
 simp
def csL (H:List (List Int)):List Int:=H.map fun h=>((bv h:Nat):Int)
theorem csL_len {H:List (List Int)}:(csL H).length=H.length:=by simp [csL]
theorem csL_get {H:List (List Int)} {j:Nat} (hj:j<H.length):(csL H).getD j 0=((bv (H.getD j []):Nat):Int):=by
 simp [csL,List.getD_eq_getElem?_getD,hj]
theorem bv_lt' {n:Nat} (hn:n≤10) {w:List Int} (hl:w.length=n):bv w<1024:=by
 have:=bv_lt w
 have h2:2^w.length≤2^10:=Nat.pow_le_pow_right (by decide) (by omega)
 omega
theorem and_lt {n:Nat} (hn:n≤10) {h w:List Int} (hl:h.length=n):bv h &&& bv w<1024:=Nat.lt_of_le_of_lt Nat.and_le_left (bv_lt' hn hl)
theorem fl_tmod {n:Nat} (hn:n≤10) {h w:List Int} (hh:Bn h) (hw:Bn w) (lh:h.length=n):(Int.tmod ((pc (bv h &&& bv w):Nat):Int) 2==1)=fl n h w:=by
 rw [pc_and hn hh hw lh]
 have:=sN_bnd hh hw n
 unfold fl
 rw [Int.tmod_eq_emod_of_nonneg this.1]
 by_cases e:sN h w n % 2=1
 ·simp [e]
 ·simp [e]
theorem clean_any {n:Nat} {H:List (List Int)} {w:List Int}:(List.range H.length).any (fun j=>fl n (H.getD j []) w)=!clean n H w:=by
 cases hc:clean n H w with
 | true =>
  rw [Bool.not_true,List.any_eq_false]
  intro j hj
  have hj:=List.mem_range.1 hj
  have:=List.all_eq_true.1 hc (H.getD j []) (by rw [List.getD_eq_getElem?_getD,List.getElem?_eq_getElem hj];exact List.getElem_mem _)
  simpa using this
 | false =>
  rw [Bool.not_false,List.any_eq_true]
  obtain ⟨h,hm,hf⟩:=List.all_eq_false.1 hc
  obtain ⟨j,hj,rfl⟩:=List.mem_iff_getElem.1 hm
  refine ⟨j,List.mem_range.2 hj,?_⟩
  rw [List.getD_eq_getElem?_getD,List.getElem?_eq_getElem hj]
  simpa using hf
theorem F273_spec (n x:Int) {τ:Type} (k:Nat→LS_→Option τ):F273 [.I n,.I x] k=k 0 [.B true]:=by
 unfold F273 L296_2.b
 simp only [gI_zero,gI_succ]
 refine run_for L296_2 L296_2.s0 0 (fun _ _ _=>rfl) _ (fun j=>[.I 0,.I 0,.I 0,.I x]) 0 (k 0 [.B true]) (by omega) (fun j hj=>by omega) (fun next=>?_)
 unfold L296_2.s0
 simp only [gI_zero,gI_succ]
 rw [br_no (by simp)]
 simp
theorem F273_1_spec (n0:Int) {n:Nat} (hn:n≤10) {H:List (List Int)} (hH:BnL H n) (hs:H.length<2^60) {w:List Int} (hw:Bn w) (hl:w.length=n) {τ:Type} (k:Nat→LS_→Option τ) :
  F273_1 [.I n0,.L (csL H),.I ((bv w:Nat):Int)] k=k 0 [.B (clean n H w)]:=by
 unfold F273_1 L296_2_1.b
 simp only [g_]
 rw [csL_len]
 refine (run_any L296_2_1 L296_2_1.s0 0 (fun _ _ _=>rfl) _ (fun j=>[.N H.length,.L (csL H),.I 0,.I H.length,.I (j:Nat),.I ((bv w:Nat):Int)]) H.length (fun j=>fl n (H.getD j []) w) (k 0 [.B false]) (k 0 [.B true]) (by omega) (fun j hj next=>?_) (fun next=>?_)).trans ?_
 ·skip
  unfold L296_2_1.s0
  simp only [g_,Int.toNat_natCast,Nat.mul_one]
  obtain ⟨g1,g2⟩:=hH.get hj
  rw [br_of (by simp;omega),ck_of (by simp <;> omega),ck_of (by simp [csL_len];omega),csL_get hj,wsucc (by omega)]
  have e:=b_and (a:=bv w) (b:=bv (H.getD j [])) (Nat.lt_trans (bv_lt' hn hl) (by decide)) (Nat.lt_trans (bv_lt' hn g1) (by decide))
  rw [Nat.and_comm] at e
  refine Eq.trans (congrArg (fun x:Int=>F295 [.I x] (_:Nat→LS_→Option τ)) e) ?_
  rw [F295_spec (and_lt (w:=w) hn g1)]
  simp only [sw_zero,gI_zero]
  rw [fl_tmod hn g2 hw g1]
  cases fl n (H.getD j []) w with
  | true=>rw [br_of rfl,if_pos rfl];simp [geI]
  | false=>rw [br_no rfl,if_neg (by decide)]
 ·skip
  unfold L296_2_1.s0
  simp only [g_,Int.toNat_natCast,Nat.mul_one]
  rw [br_no (by simp)]
  simp [geI]
 ·rw [clean_any]
  cases clean n H w <;> rfl
def lst (g:List Int):Nat→Int
 | 0=>-(1:Int)
 | j+1=>g.getD j 0
theorem lst_any (n:Int) (g:List Int):(List.range g.length).any (fun j=>decide (g.getD j 0≤lst g j) || decide (n≤g.getD j 0))=!isGone n g:=by
 cases hg:isGone n g with
 | true =>
  rw [Bool.not_true,List.any_eq_false]
  intro j hj
  obtain ⟨a,b,c⟩:=isGone_iff.1 hg j (Nat.zero_le _) (List.mem_range.1 hj)
  rw [Bool.or_eq_true,decide_eq_true_eq,decide_eq_true_eq]
  cases j with
  | zero=>simp only [lst];omega
  | succ j=>have:=c (by omega);simp only [lst,Nat.add_sub_cancel] at this ⊢;omega
 | false =>
  rw [Bool.not_false]
  apply Decidable.byContradiction
  intro h
  rw [List.any_eq_true] at h
  have q:∀ j,j<g.length→¬ (g.getD j 0≤lst g j∨n≤g.getD j 0):=fun j hj hp=>h ⟨j,List.mem_range.2 hj,by rw [Bool.or_eq_true,decide_eq_true_eq,decide_eq_true_eq];exact hp⟩
  have nn:∀ j,j<g.length→0≤g.getD j 0:=by
   intro j
   induction j with
   | zero=>intro hj;have:=q 0 hj;simp only [lst] at this;omega
   | succ j ih=>intro hj;have:=q (j+1) hj;have:=ih (by omega);simp only [lst] at *;omega
  have:isGone n g=true:=isGone_iff.2 fun i _ hi=>⟨nn i hi,by have:=q i hi;omega,fun h0=>by
   obtain ⟨i',rfl⟩:∃ i',i=i'+1:=⟨i-1,by omega⟩
   have:=q _ hi
   simp only [lst,Nat.add_sub_cancel] at this ⊢;omega⟩
  rw [hg] at this;cases this
theorem F266_spec (q n:Int) (G:List (List Int)) {w g:List Int} (hw:w.length<2^60) (hg:g.length<2^60) {τ:Type} (k:Nat→LS_→Option τ) :
  F266 [.I q,.I n,.LL G,.L w,.L g] k=k 0 [.B (isGone n g&&(decide (q=2)&&isWord 2 n w))]:=by
 unfold F266 L266_3.b
 simp only [g_]
 refine (run_any L266_3 L266_3.s0 0 (fun _ _ _=>rfl) _ (fun j=>[.B false,.I (lst g j),.N g.length,.L g,.I g.length,.I (j:Nat),.I q,.I n,.N G.length,.LL G,.N w.length,.L w,.N g.length,.L g]) g.length
  (fun j=>decide (g.getD j 0≤lst g j) || decide (n≤g.getD j 0)) (k 0 [.B false]) (k 0 [.B (decide (q=2)&&isWord 2 n w)]) (by omega) (fun j hj next=>?_) (fun next=>?_)).trans ?_
 ·unfold L266_3.s0
  simp only [g_,Int.toNat_natCast,Nat.mul_one]
  rw [br_of (by simp;omega),ck_of (by simp <;> omega),ck_of (by simp <;> omega),wsucc (by omega)]
  by_cases h1:g.getD j 0≤lst g j
  ·rw [br_of (by rw [leI_iff];exact h1),if_pos (by rw [Bool.or_eq_true,decide_eq_true_eq];exact .inl h1)]
   simp
  ·rw [br_no (by rw [leI_no];exact h1)]
   by_cases h2:n≤g.getD j 0
   ·rw [br_of (by rw [geI_iff];exact h2),if_pos (by rw [Bool.or_eq_true,decide_eq_true_eq,decide_eq_true_eq];exact .inr h2)]
    simp
   ·rw [br_no (by rw [geI_no];exact h2),if_neg (by rw [Bool.or_eq_true,decide_eq_true_eq,decide_eq_true_eq];omega)]
    rfl
 ·unfold L266_3.s0
  simp only [g_,Int.toNat_natCast,Nat.mul_one,sw_zero,sw_succ]
  rw [br_no (by simp)]
  by_cases hq:q=2
  ·subst hq
   rw [br_of (by simp),ck_of (by simp),F282_spec n hw]
   simp
  ·rw [br_no (by simpa using hq)]
   simp [hq]
 ·rw [lst_any]
  cases isGone n g <;> rfl
theorem csL_take {H:List (List Int)} {j:Nat} (hj:j<H.length):csL (H.take (j+1))=csL (H.take j)++[((bv (H.getD j []):Nat):Int)]:=by
 have:H.getD j []=H[j]:=by rw [List.getD_eq_getElem?_getD,List.getElem?_eq_getElem hj];rfl
 rw [List.take_succ_eq_append_getElem hj,this]
 unfold csL
 rw [List.map_append]
 rfl
theorem F267_spec {q n:Nat} {G:List (List Int)} (h:Lc q n G) (hn:n≤10) (hB:BnL (dualR q n G) n) (hl:(dualR q n G).length≤10) :
  (dualR q n G=[]∧∀ {τ:Type} (k:Nat→LS_→Option τ),F267 [.I q,.I n,.LL G] k=k 0 [.I n])∨(∀ {τ:Type} (k:Nat→LS_→Option τ),F267 [.I q,.I n,.LL G] k=k 1 [.I n,.N (dualR q n G).length,.L (csL (dualR q n G))]):=by
 have run:∀ {τ:Type} (k:Nat→LS_→Option τ),F267 [.I q,.I n,.LL G] k=L267_3.b 0 [.N (dualR q n G).length,.LL (dualR q n G),.I (((dualR q n G).length:Nat):Int),.I 0,.I 0,.I n]
   (fun j l10=>(sw (k 0 [.I (gI l10 1)]) (sw (k 1 [.I (gI l10 1),.N (gN l10 2),.L (gL l10 3)]) (fun _=>none))) j):=by
  intro τ k
  unfold F267
  simp only [g_]
  rw [ck_of (by simp),T36_spec h]
  simp
 generalize dualR q n G=H at *
 cases H with
 | nil =>
  left
  refine ⟨rfl,fun {τ} k=>?_⟩
  rw [run]
  unfold L267_3.b
  refine run_for L267_3 L267_3.s0 0 (fun _ _ _=>rfl) _ (fun j=>[.N 0,.LL [],.I 0,.I 0,.I 0,.I n]) 0 _ (by omega) (fun j hj=>by omega) (fun next=>?_)
  unfold L267_3.s0
  simp only [g_]
  rw [br_no (by simp)]
  simp
 | cons h0 t =>
  right
  intro τ k
  rw [run]
  unfold L267_3.b
  obtain ⟨f,hf,hf2⟩:=fuel_pred
  have hb:=hB.get (k:=0) (by simp)
  rw [hf,runE_succ]
  rw [show ∀ (next κ:Nat→LS_→Option τ) l,L267_3.step next κ 0 l=L267_3.s0 next κ l from fun _ _ _=>rfl]
  unfold L267_3.s0
  simp only [g_]
  rw [br_of (by simp <;> omega),ck_of (by simp <;> omega),ck_of (by simp),ck_of (by simp)]
  simp only [Int.toNat_zero,Nat.zero_mul]
  rw [F269_spec hb.2 (by omega)]
  simp only [sw_zero,gI_zero]
  rw [show wr .i64 ((0:Int)+1)=((1:Nat):Int) by decide]
  refine run_from L267_3 L267_3.s1 1 (fun _ _ _=>rfl) _ (fun j=>[.N (h0::t).length,.LL (h0::t),.I ((h0::t).length:Nat),.I (j:Nat),.I 0,.I n,.N j,.L (csL ((h0::t).take j))]) (h0::t).length _ (fun j hj next=>?_) (fun next=>?_) f 1 (by simp) (by omega)
  ·have hb:=hB.get hj
   unfold L267_3.s1
   simp only [g_,Int.toNat_natCast,Nat.mul_one]
   rw [br_of (by simp at hj ⊢;omega),ck_of (by simp at hj ⊢;omega),ck_of (by simpa using hj),ck_of (by simp),F269_spec hb.2 (by omega),wsucc (by omega)]
   simp only [sw_zero,gI_zero]
   rw [ck_of (by rw [csL_len,List.length_take];simp at hj hl ⊢;omega),csL_take hj]
   rfl
  ·unfold L267_3.s1
   simp only [g_]
   rw [br_no (by simp),List.take_length]
   simp
theorem L268_3_spec {n:Nat} (hn:n≤10) {w:List Int} (hw:Bn w) (hl:w.length=n) (rd:Int) (d:Bool) {τ:Type} (κ:Nat→LS_→Option τ) :
  L268_3.b 0 [.I ((bv w:Nat):Int),.I ((n:Nat):Int),.I 0,.I 0,.B false,.N n,.I rd,.B d,.L (List.replicate n 0)] κ=κ 0 [.I 0,.B false,.N n,.I rd,.B d,.L w]:=by
 unfold L268_3.b
 refine Eq.trans (congrArg (fun x=>runE L268_3 fuel κ 0 [.I ((bv w:Nat):Int),.I ((n:Nat):Int),.I 0,.I 0,.B false,.N n,.I rd,.B d,.L x]) (map_zero.symm.trans fil_zero.symm:_=fil n (fun i=>w.getD i 0) (fun _=>0) 0)) ?_
 refine run_for L268_3 L268_3.s0 0 (fun _ _ _=>rfl) _ (fun j=>[.I ((bv w:Nat):Int),.I ((n:Nat):Int),.I (j:Nat),.I 0,.B false,.N n,.I rd,.B d,.L (fil n (fun i=>w.getD i 0) (fun _=>0) j)]) n _ (by omega) (fun j hj next=>?_) (fun next=>?_)
 ·unfold L268_3.s0
  simp only [g_,Int.toNat_natCast,Nat.mul_one,Nat.zero_add]
  rw [br_of (by simp;omega),ck_of (by simp),ck_of (by simp;omega),ck_of (by rw [fil_len];simp;omega),wsucc (by omega),←fil_set]
  have e:=bit1 hw (j:=j) (by omega) (by omega)
  rw [Int.toNat_natCast] at e
  exact congrArg (fun x=>next 0 [.I _,.I _,.I _,.I _,.B _,.N _,.I _,.B _,.L (List.set _ _ x)]) e
 ·unfold L268_3.s0
  simp only [g_]
  rw [br_no (by simp),fil_full]
  subst hl
  rw [map_self]
theorem F268_spec {n:Nat} (hn:n≤10) {w:List Int} (hw:Bn w) (hl:w.length=n) (rd:Int) {τ:Type} (k:Nat→LS_→Option τ) :
  F268 [.I ((n:Nat):Int),.I ((bv w:Nat):Int),.I rd] k=k 0 [.N n,.I rd,.B true,.L w]:=by
 unfold F268
 simp only [gI_zero,gI_succ,Int.toNat_natCast]
 rw [ck_of (by simp;omega),F273_spec]
 simp only [sw_zero,gB_zero]
 rw [L268_3_spec hn hw hl]
 simp
theorem F268_1_spec {n:Nat} (hn:n≤10) {H:List (List Int)} (hH:BnL H n) (hs:H.length<2^60) {w:List Int} (hw:Bn w) (hl:w.length=n) (rd:Int) {τ:Type} (k:Nat→LS_→Option τ) :
  F268_1 [.I ((n:Nat):Int),.L (csL H),.I ((bv w:Nat):Int),.I rd] k=k 0 [.N n,.I rd,.B (clean n H w),.L w]:=by
 unfold F268_1
 simp only [g_,Int.toNat_natCast]
 rw [ck_of (by simp;omega),ck_of (by simp),F273_1_spec _ hn hH hs hw hl]
 simp only [sw_zero,gB_zero]
 rw [L268_3_spec hn hw hl]
 simp
theorem F284_spec {b:List Int} (h0:0<b.length) (hs:b.length<2^60) {τ:Type} (k:Nat→LS_→Option τ):F284 [.L b] k=k 0 [.I (most (fun i=>b.getD i 0) (b.length-1))]:=by
 unfold F284 L284_5.b
 simp only [gL_zero]
 rw [br_no (by simp;omega),ck_of (by simp;omega),ck_of (by simpa using h0)]
 refine run_for L284_5 L284_5.s0 0 (fun _ _ _=>rfl) _ (fun j=>[.N b.length,.L b,.I (most (fun i=>b.getD i 0) j),.I ((j+1:Nat):Int)]) (b.length-1) _ (by omega) (fun j hj next=>?_) (fun next=>?_)
 ·unfold L284_5.s0
  simp only [g_,Int.toNat_natCast,Nat.mul_one]
  rw [br_of (by simp;omega),ck_of (by simp <;> omega),ck_of (by simp <;> omega),wsucc (by omega)]
  rfl
 ·unfold L284_5.s0
  simp only [g_]
  rw [br_no (by simp;omega)]
  simp
theorem L272_8_spec {n:Nat} (hn:n≤10) {h:List Int} (hh:Bn h) (lh:h.length=n) (b:Nat→Int) (hb:∀ i,0≤b i∧b i≤1000) (x:Int) (m:Nat) (cs:List Int) (y z v:Int) {τ:Type} (κ:Nat→LS_→Option τ) :
  L272_8.b 0 [.I x,.N n,.I ((bv h:Nat):Int),.N m,.L cs,.I y,.I z,.I ((n:Nat):Int),.I 0,.L ((List.range n).map b),.I v] κ=κ 0 [.I x,.N n,.N m,.L cs,.I y,.I z,.L ((List.range n).map fun i=>b i+h.getD i 0),.I v]:=by
 unfold L272_8.b
 refine Eq.trans (congrArg (fun q=>runE L272_8 fuel κ 0 [.I x,.N n,.I ((bv h:Nat):Int),.N m,.L cs,.I y,.I z,.I ((n:Nat):Int),.I 0,.L q,.I v]) (fil_zero.symm:_=fil n (fun i=>b i+h.getD i 0) b 0)) ?_
 refine run_for L272_8 L272_8.s0 0 (fun _ _ _=>rfl) _ (fun j=>[.I x,.N n,.I ((bv h:Nat):Int),.N m,.L cs,.I y,.I z,.I ((n:Nat):Int),.I (j:Nat),.L (fil n (fun i=>b i+h.getD i 0) b j),.I v]) n _ (by omega) (fun j hj next=>?_) (fun next=>?_)
 ·unfold L272_8.s0
  simp only [g_,Int.toNat_natCast,Nat.mul_one,Nat.zero_add]
  rw [br_of (by simp;omega),ck_of (by simp;omega),ck_of (by rw [fil_len];simp;omega),ck_of (by simp),ck_of (by simp;omega),ck_of (by rw [fil_len];simp;omega),wsucc (by omega),fil_get hj,if_neg (Nat.lt_irrefl _),←fil_set]
  have e:=bit1 hh (j:=j) (by omega) (by omega)
  rw [Int.toNat_natCast] at e
  have e2:∀ y:Int,y=h.getD j 0→wr .i64 (b j+y)=b j+h.getD j 0:=fun y hy=>by
   subst hy
   have:=hb j
   exact wr64 (by rcases hh.bit j with q | q <;> rw [q] <;> omega) (by rcases hh.bit j with q | q <;> rw [q] <;> omega)
  exact congrArg (fun q=>next 0 [.I _,.N _,.I _,.N _,.L _,.I _,.I _,.I _,.I _,.L (List.set _ _ q),.I _]) (e2 _ e)
 ·unfold L272_8.s0
  simp only [g_]
  rw [br_no (by simp),fil_full]
theorem L272_15_spec {n:Nat} (hn:n≤10) {w:List Int} (hw:Bn w) (hl:w.length=n) (b:Nat→Int) (m:Int) {τ:Type} (κ:Nat→LS_→Option τ) :
  L272_15.b 0 [.I ((bv w:Nat):Int),.I m,.N n,.I ((n:Nat):Int),.I 0,.L ((List.range n).map b)] κ=κ 0 [.I ((bv ((List.range n).map fun i=>if b i=m then 1-w.getD i 0 else w.getD i 0):Nat):Int)]:=by
 unfold L272_15.b
 have hF:∀ j,Bn (fil n (fun i=>if b i=m then 1-w.getD i 0 else w.getD i 0) (fun i=>w.getD i 0) j):=fun j i hi=>by
  rw [fil_len] at hi
  rw [fil_get hi]
  split
  ·split
   ·rcases hw.bit i with q | q <;> rw [q] <;> decide
   ·exact hw.bit i
  ·exact hw.bit i
 have e0:w=fil n (fun i=>if b i=m then 1-w.getD i 0 else w.getD i 0) (fun i=>w.getD i 0) 0:=by
  rw [fil_zero];subst hl;exact map_self.symm
 refine Eq.trans (congrArg (fun q=>runE L272_15 fuel κ 0 [.I ((bv q:Nat):Int),.I m,.N n,.I ((n:Nat):Int),.I 0,.L ((List.range n).map b)]) e0) ?_
 refine run_for L272_15 L272_15.s0 0 (fun _ _ _=>rfl) _ (fun j=>[.I ((bv (fil n (fun i=>if b i=m then 1-w.getD i 0 else w.getD i 0) (fun i=>w.getD i 0) j):Nat):Int),.I m,.N n,.I ((n:Nat):Int),.I (j:Nat),.L ((List.range n).map b)]) n _ (by omega) (fun j hj next=>?_) (fun next=>?_)
 ·unfold L272_15.s0
  simp only [g_,Int.toNat_natCast,Nat.mul_one,Nat.zero_add]
  rw [br_of (by simp;omega),ck_of (by simp;omega),ck_of (by simp;omega),wsucc (by omega),map_get hj]
  by_cases hb:b j=m
  ·rw [br_of (by simpa using hb),ck_of (by simp),←fil_set]
   have e1:=shl1' (j:=j) (by omega)
   have e2:=bv_set (w:=fil n (fun i=>if b i=m then 1-w.getD i 0 else w.getD i 0) (fun i=>w.getD i 0) j) (j:=j) (by rw [fil_len];exact hj) (hF j)
   rw [fil_get hj,if_neg (Nat.lt_irrefl _)] at e2
   have hlt:=bv_lt (fil n (fun i=>if b i=m then 1-w.getD i 0 else w.getD i 0) (fun i=>w.getD i 0) j)
   rw [fil_len] at hlt
   have h2:2^n≤2^10:=Nat.pow_le_pow_right (by decide) hn
   have h3:2^j<2^10:=Nat.lt_of_lt_of_le (Nat.pow_lt_pow_right (by decide) hj) h2
   have e3:=b_xor (a:=bv (fil n (fun i=>if b i=m then 1-w.getD i 0 else w.getD i 0) (fun i=>w.getD i 0) j)) (b:=2^j) (by omega) (by omega)
   rw [e2,←e1,Int.toNat_natCast] at e3
   rw [if_pos hb]
   exact congrArg (fun q=>next 0 [.I q,.I _,.N _,.I _,.I _,.L _]) e3
  ·rw [br_no (by simpa using hb),fil_same (by rw [if_neg hb])]
 ·unfold L272_15.s0
  simp only [g_]
  rw [br_no (by simp),fil_full]
theorem F272_1_spec {n:Nat} (h1:1≤n) (hn:n≤10) {H:List (List Int)} (hH:BnL H n) (hs:H.length≤10) {w:List Int} (hw:Bn w) (hl:w.length=n) {τ:Type} (k:Nat→LS_→Option τ) :
  F272_1 [.I ((n:Nat):Int),.L (csL H),.I ((bv w:Nat):Int)] k=k 0 [.I ((bv (turn n H w):Nat):Int)]:=by
 unfold F272_1 L272_4_1.b
 simp only [g_,Int.toNat_natCast]
 rw [ck_of (by simp;omega),csL_len]
 refine Eq.trans (congrArg (fun q=>runE L272_4_1 fuel _ 0 [.I ((bv w:Nat):Int),.N n,.N H.length,.L (csL H),.I ((H.length:Nat):Int),.I 0,.L q,.I ((bv w:Nat):Int)]) (map_zero.symm:_=(List.range n).map (bl n H w 0))) ?_
 refine run_for L272_4_1 L272_4_1.s0 0 (fun _ _ _=>rfl) _ (fun j=>[.I ((bv w:Nat):Int),.N n,.N H.length,.L (csL H),.I ((H.length:Nat):Int),.I (j:Nat),.L ((List.range n).map (bl n H w j)),.I ((bv w:Nat):Int)]) H.length _ (by omega) (fun j hj next=>?_) (fun next=>?_)
 ·obtain ⟨g1,g2⟩:=hH.get hj
  unfold L272_4_1.s0
  simp only [g_,Int.toNat_natCast,Nat.mul_one]
  rw [br_of (by simp;omega),ck_of (by simp;omega),ck_of (by rw [csL_len];simpa using hj),csL_get hj,wsucc (by omega)]
  have e:=b_and (a:=bv w) (b:=bv (H.getD j [])) (Nat.lt_trans (bv_lt' hn hl) (by decide)) (Nat.lt_trans (bv_lt' hn g1) (by decide))
  rw [Nat.and_comm] at e
  refine Eq.trans (congrArg (fun x:Int=>F295 [.I x] (_:Nat→LS_→Option τ)) e) ?_
  rw [F295_spec (and_lt (w:=w) hn g1)]
  simp only [sw_zero,gI_zero]
  rw [fl_tmod hn g2 hw g1]
  have bb:∀ i,0≤bl n H w j i∧bl n H w j i≤1000:=fun i=>by have:=bl_bnd hH w i j (by omega);omega
  cases hf:fl n (H.getD j []) w with
  | true =>
   rw [br_no (b:=!true) rfl,L272_8_spec hn g2 g1 _ bb]
   simp only [g_,sw_zero]
   rw [wsucc (by omega)]
   have:(bl n H w (j+1))=fun i=>bl n H w j i+(H.getD j []).getD i 0:=by
    funext i;simp only [bl];rw [if_pos hf]
   rw [this]
  | false =>
   rw [br_of (b:=!false) rfl]
   have:(bl n H w (j+1))=bl n H w j:=by
    funext i;simp only [bl];rw [if_neg (by rw [hf];decide)];omega
   rw [this]
 ·unfold L272_4_1.s0
  simp only [g_]
  rw [br_no (by simp)]
  simp only [g_,sw_zero,Nat.mul_one,List.drop_zero]
  rw [ck_of (by simp),List.take_of_length_le (by simp),F284_spec (by simp;omega) (by simp;omega)]
  simp only [sw_zero,gI_zero]
  rw [L272_15_spec hn hw hl]
  simp only [sw_zero,gI_zero]
  have e:most (fun i=>((List.range n).map (bl n H w H.length)).getD i 0) (((List.range n).map (bl n H w H.length)).length-1)=most (bl n H w H.length) (n-1):=by
   rw [List.length_map,List.length_range]
   have:∀ m,m<n→most (fun i=>((List.range n).map (bl n H w H.length)).getD i 0) m=most (bl n H w H.length) m:=by
    intro m
    induction m with
    | zero=>intro h;simp only [most];exact map_get h
    | succ m ih=>intro h;simp only [most];rw [ih (by omega),map_get h]
   exact this _ (by omega)
  rw [e]
  rfl
theorem L251_5_1_run {n:Nat} (h1:1≤n) (hn:n≤10) {H:List (List Int)} (hH:BnL H n) (hs:H.length≤10) (c0:Int) (c1:Bool) {τ:Type} (κ:Nat→LS_→Option τ):∀ (f:Nat) (b:Int) (w:List Int) (r:Int),b<2^63→Bn w→w.length=n→0≤r→r≤1000→1000<f+r →
  runE L251_5_1 f κ 0 [.I b,.I ((bv w:Nat):Int),.I ((n:Nat):Int),.N H.length,.I r,.I c0,.B c1,.I ((n:Nat):Int),.N H.length,.L (csL H)] =
   κ 0 [.I ((bv (rounds n H b.toNat (w,r)).1:Nat):Int),.I (rounds n H b.toNat (w,r)).2,.I c0,.B c1,.I ((n:Nat):Int),.N H.length,.L (csL H)]
 | 0,b,w,r,hb,hw,hl,r0,r1,hf=>by omega
 | f+1,b,w,r,hb,hw,hl,r0,r1,hf=>by
  rw [runE_succ,show ∀ (next κ:Nat→LS_→Option τ) l,L251_5_1.step next κ 0 l=L251_5_1.s0 next κ l from fun _ _ _=>rfl]
  unfold L251_5_1.s0
  simp only [g_,Nat.mul_one,List.drop_zero]
  by_cases h0:0<b
  ·obtain ⟨m,hm⟩:∃ m:Nat,b.toNat=m+1:=⟨b.toNat-1,by omega⟩
   rw [br_of (by simp;omega),hm]
   simp only [rounds]
   by_cases h2:r<1000
   ·rw [br_of (by simp;omega),ck_of (by rw [List.take_of_length_le (by rw [csL_len];exact Nat.le_refl _),csL_len];simp),List.take_of_length_le (by rw [csL_len];exact Nat.le_refl _),F273_1_spec _ hn hH (by omega) hw hl]
    simp only [sw_zero,gB_zero]
    cases hc:clean n H w with
    | true=>rw [br_no (b:=!true) rfl,if_neg (by simp)]
    | false =>
     rw [br_of (b:=!false) rfl,ck_of (by rw [csL_len];simp),F272_1_spec h1 hn hH hs hw hl]
     simp only [sw_zero,gI_zero]
     rw [if_pos (by simp [h2]),wr64 (by omega) (by omega),wr64 (by omega) (by omega),L251_5_1_run h1 hn hH hs c0 c1 κ f (b-1) (turn n H w) (r+1) (by omega) (turn_bn hw) turn_len (by omega) (by omega) (by omega),show (b-1).toNat=m by omega]
   ·rw [br_no (by simp;omega),if_neg (by simp;omega)]
  ·have:b.toNat=0:=by omega
   rw [br_no (by simp;omega),this]
   rfl
theorem L251_5_run (n x c0:Int) (c1:Bool) (b r:Int) {τ:Type} (κ:Nat→LS_→Option τ) :
  L251_5.b 0 [.I b,.I x,.I n,.I r,.I c0,.B c1,.I n] κ=κ 0 [.I x,.I r,.I c0,.B c1,.I n]:=by
 unfold L251_5.b
 obtain ⟨f,hf,_⟩:=fuel_pred
 rw [hf,runE_succ,show ∀ (next κ:Nat→LS_→Option τ) l,L251_5.step next κ 0 l=L251_5.s0 next κ l from fun _ _ _=>rfl]
 unfold L251_5.s0
 simp only [g_]
 by_cases h0:0<b
 ·rw [br_of (by simp;omega)]
  by_cases h2:r<1000
  ·rw [br_of (by simp;omega),F273_spec]
   simp only [sw_zero,gB_zero]
   rw [br_no (b:=!true) rfl]
  ·rw [br_no (by simp;omega)]
 ·rw [br_no (by simp;omega)]
theorem rounds_nil {n:Nat}:∀ (k:Nat) (s:List Int×Int),rounds n [] k s=s
 | 0,s=>rfl
 | k+1,s=>by simp [rounds,clean]
section
variable {n:Nat} {q:Int} {G:List (List Int)}
theorem chk_bn (h:Lc 2 n G) (hn:n≤10):BnL (dualR 2 n G) n∧(dualR 2 n G).length≤10:=by
 obtain ⟨D,dl,_⟩:=h.dual
 refine ⟨fun r hr=>?_,by omega⟩
 obtain ⟨i,hi,rfl⟩:=List.mem_iff_getElem.1 hr
 have:=D.rows.wd i hi
 rw [List.getD_eq_getElem?_getD,List.getElem?_eq_getElem hi] at this
 exact ⟨this.1,.of this⟩
theorem word_bn {w:List Int} (h:isWord 2 n w=true):w.length=n∧Bn w:=by
 obtain ⟨h1,h2⟩:=isWord_iff.1 h
 exact ⟨by omega,fun i hi=>by have:=h2 i (Nat.zero_le _) hi;omega⟩
theorem word_of {w:List Int} (h1:w.length=n) (h2:Bn w):isWord 2 n w=true :=
 isWord_iff.2 ⟨by omega,fun i _ hi=>by rcases h2 i hi with e | e <;> rw [e] <;> decide⟩
def stv (q:Int) (n:Nat) (G:List (List Int)) (w:List Int) (r:Int) (d:Bool):Bool :=
 decide (q=2)&&(isWord 2 n w&&(decide (0≤r)&&(decide (r≤1000)&&(clean n (dualR 2 n G) w==d))))
def knv (q:Int) (n:Nat) (w:List Int) (r:Int):Bool:=decide (q=2)&&(isWord 2 n w&&(decide (0≤r)&&decide (r≤1000)))
theorem F271_no {q:Int} {w:List Int} (hw:w.length<2^60) {r:Int} {d:Bool} (h:knv q n w r=false) {τ:Type} (k:Nat→LS_→Option τ):F271 [.I q,.I n,.LL G,.L w,.I r,.B d] k=k 0 []:=by
 unfold F271
 simp only [g_]
 by_cases hq:q=2
 ·subst hq
  rw [br_no (by simp),ck_of (by simp),F282_spec _ hw]
  simp only [sw_zero,gB_zero]
  cases hwd:isWord 2 n w with
  | false=>rw [br_of (b:=!false) rfl]
  | true =>
   rw [br_no (b:=!true) rfl]
   by_cases h0:r<0
   ·rw [br_of (by simpa using h0)]
   ·rw [br_no (by simp;omega)]
    have:1000<r:=by
     apply Decidable.byContradiction
     intro h1
     have:knv 2 n w r=true:=by unfold knv;rw [hwd];simp;omega
     rw [h] at this;cases this
    rw [br_of (by simp;omega)]
 ·rw [br_of (by simpa using hq)]
theorem F271_ok (h:Lc 2 n G) (hn:n≤10) {w:List Int} (hw:isWord 2 n w=true) {r:Int} (r0:0≤r) (r1:r≤1000) (d:Bool) :
    (dualR 2 n G=[]∧∀ {τ:Type} (k:Nat→LS_→Option τ),F271 [.I 2,.I n,.LL G,.L w,.I r,.B d] k=k 1 [.I n,.I ((bv w:Nat):Int),.B (clean n (dualR 2 n G) w==d)]) ∨
    (∀ {τ:Type} (k:Nat→LS_→Option τ),F271 [.I 2,.I n,.LL G,.L w,.I r,.B d] k=k 2 [.I n,.N (dualR 2 n G).length,.I ((bv w:Nat):Int),.B (clean n (dualR 2 n G) w==d),.L (csL (dualR 2 n G))]):=by
  obtain ⟨hB,hl⟩:=chk_bn h hn
  obtain ⟨w1,w2⟩:=word_bn hw
  have pre:∀ {τ:Type} (k:Nat→LS_→Option τ),F271 [.I 2,.I n,.LL G,.L w,.I r,.B d] k=F267 [.I 2,.I n,.LL G]
       (fun j l8=>(sw (ck ((eqM (List.length w) (List.length w))&&true)
       (F269 [.L w]
       (fun j l9=>(sw (F273 [.I (gI l8 0),.I (gI l9 0)]
       (fun j l11=>(sw (k 1 [.I (gI l8 0),.I (gI l9 0),.B ((gB l11 0)==d)])
       (fun _=>none)) j))
       (fun _=>none)) j)))
       (sw (ck ((eqM (List.length w) (List.length w))&&true)
       (F269 [.L w]
       (fun j l12=>(sw (ck ((true&&((eqM (gN l8 1) (List.length (List.take ((gN l8 1)*1) (List.drop 0 (gL l8 2)))))&&true))&&(true&&true))
       (F273_1 [.I (gI l8 0),.L (List.take ((gN l8 1)*1) (List.drop 0 (gL l8 2))),.I (gI l12 0)]
       (fun j l16=>(sw (k 2 [.I (gI l8 0),.N (gN l8 1),.I (gI l12 0),.B ((gB l16 0)==d),.L (gL l8 2)])
       (fun _=>none)) j)))
       (fun _=>none)) j)))
       (fun _=>none))) j):=by
    intro τ k
    unfold F271
    simp only [g_]
    rw [br_no (by simp),ck_of (by simp),F282_spec _ (by omega),hw]
    simp only [sw_zero,gB_zero]
    (rw [br_no (b:=!true) rfl,br_no (by simp;omega),br_no (by simp;omega),ck_of (by simp)]) <;> rfl
  rcases F267_spec h hn hB hl with ⟨he,hk⟩ | hk
  · left
    refine ⟨he,fun {τ} k=>?_⟩
    rw [pre,show (Leaf.I 2)=Leaf.I ((2:Nat):Int) from rfl,hk]
    simp only [sw_zero,gI_zero]
    rw [ck_of (by simp),F269_spec w2 (by omega)]
    simp only [sw_zero,gI_zero]
    rw [F273_spec,he]
    rfl
  · right
    intro τ k
    rw [pre,show (Leaf.I 2)=Leaf.I ((2:Nat):Int) from rfl,hk]
    simp only [g_,sw_zero,sw_succ,Nat.mul_one,List.drop_zero]
    rw [ck_of (by simp),F269_spec w2 (by omega)]
    simp only [sw_zero,gI_zero]
    rw [ck_of (by simp [csL_len]),List.take_of_length_le (by rw [csL_len];exact Nat.le_refl _),F273_1_spec _ hn hB (by omega) w2 w1]
    simp
theorem F251_no (h:q≠2∨Lc 2 n G) (hn:n≤10) {w:List Int} (hs:w.length<2^60) {r:Int} {d:Bool} (hv:stv q n G w r d=false) (b:Int) {τ:Type} (k:Nat→LS_→Option τ) :
  F251 [.I q,.I n,.LL G,.L w,.I r,.B d,.I b] k=k 0 []:=by
 unfold F251
 simp only [g_]
 rw [ck_of (by simp)]
 cases hk:knv q n w r with
 | false=>rw [F271_no hs hk];rfl
 | true =>
  unfold knv at hk
  simp only [Bool.and_eq_true,decide_eq_true_eq] at hk
  obtain ⟨rfl,hw,r0,r1⟩:=hk
  have h:Lc 2 n G:=h.resolve_left (fun e=>e rfl)
  have hc:(clean n (dualR 2 n G) w==d)=false:=by
   unfold stv at hv
   rw [hw,decide_eq_true (rfl:(2:Int)=2),decide_eq_true r0,decide_eq_true r1] at hv
   simpa using hv
  rcases F271_ok h hn hw r0 r1 d with ⟨he,hk⟩ | hk
  ·rw [hk,hc]
   simp only [sw_zero,sw_succ,gB_zero,gB_succ]
   rw [br_of (b:=!false) rfl]
  ·rw [hk,hc]
   simp only [sw_zero,sw_succ,gB_zero,gB_succ]
   rw [br_of (b:=!false) rfl]
theorem F251_ok (h:Lc 2 n G) (h1:1≤n) (hn:n≤10) {w:List Int} {r:Int} {d:Bool} (hv:stv 2 n G w r d=true) {b:Int} (hb:b<2^63) {τ:Type} (k:Nat→LS_→Option τ) :
  F251 [.I 2,.I n,.LL G,.L w,.I r,.B d,.I b] k=k 1 [.N n,.I (rounds n (dualR 2 n G) b.toNat (w,r)).2,.B (clean n (dualR 2 n G) (rounds n (dualR 2 n G) b.toNat (w,r)).1),.L (rounds n (dualR 2 n G) b.toNat (w,r)).1]:=by
 unfold stv at hv
 simp only [Bool.and_eq_true,decide_eq_true_eq] at hv
 obtain ⟨_,hw,r0,r1,hc⟩:=hv
 obtain ⟨hB,hl⟩:=chk_bn h hn
 obtain ⟨w1,w2⟩:=word_bn hw
 have hR:=rounds_bn (n:=n) (H:=dualR 2 n G) b.toNat (w,r) w1 w2
 unfold F251
 simp only [g_]
 rw [ck_of (by simp)]
 have hfu:=fuel_le
 rcases F271_ok h hn hw r0 r1 d with ⟨he,hk⟩ | hk
 ·rw [hk,hc]
  simp only [g_,sw_zero,sw_succ]
  rw [br_no (b:=!true) rfl,L251_5_run]
  simp only [sw_zero,gI_zero,gI_succ]
  rw [F268_spec hn w2 w1,he,rounds_nil]
  simp [clean]
 ·rw [hk,hc]
  simp only [g_,sw_zero,sw_succ]
  rw [br_no (b:=!true) rfl]
  unfold L251_5_1.b
  rw [L251_5_1_run h1 hn hB hl 0 false _ fuel b w r hb w2 w1 r0 r1 (by omega)]
  simp only [g_,sw_zero,Nat.mul_one,List.drop_zero]
  rw [ck_of (by simp [csL_len]),List.take_of_length_le (by rw [csL_len];exact Nat.le_refl _),F268_1_spec hn hB (by omega) hR.2 hR.1]
  simp
theorem F248_no (h:q≠2∨Lc 2 n G) (hn:n≤10) {w:List Int} (hs:w.length<2^60) {r:Int} {d:Bool} (hv:stv q n G w r d=false∨(r=1000∧d=false)) {τ:Type} (k:Nat→LS_→Option τ) :
  F248 [.I q,.I n,.LL G,.L w,.I r,.B d] k=k 0 []:=by
 unfold F248
 simp only [g_]
 by_cases hr:r=1000
 ·rw [br_of (by simpa using hr)]
  cases d with
  | false=>rw [br_of (b:=!false) rfl]
  | true =>
   have hv:=hv.resolve_right (fun e=>by cases e.2)
   rw [br_no (b:=!true) rfl,ck_of (by simp),F251_no h hn hs hv]
   rfl
 ·have hv:=hv.resolve_right (fun e=>hr e.1)
  rw [br_no (by simpa using hr),ck_of (by simp),F251_no h hn hs hv]
  rfl
theorem F248_ok (h:Lc 2 n G) (h1:1≤n) (hn:n≤10) {w:List Int} {r:Int} {d:Bool} (hv:stv 2 n G w r d=true) (hx:¬ (r=1000∧d=false)) {τ:Type} (k:Nat→LS_→Option τ) :
  F248 [.I 2,.I n,.LL G,.L w,.I r,.B d] k=k 1 [.N n,.I (rounds n (dualR 2 n G) 1 (w,r)).2,.B (clean n (dualR 2 n G) (rounds n (dualR 2 n G) 1 (w,r)).1),.L (rounds n (dualR 2 n G) 1 (w,r)).1]:=by
 unfold F248
 simp only [g_]
 by_cases hr:r=1000
 ·rw [br_of (by simpa using hr)]
  cases d with
  | false=>exact absurd ⟨hr,rfl⟩ hx
  | true =>
   rw [br_no (b:=!true) rfl,ck_of (by simp),F251_ok h h1 hn hv (by decide)]
   simp
 ·rw [br_no (by simpa using hr),ck_of (by simp),F251_ok h h1 hn hv (by decide)]
  simp
def T210 {τ:Type} (l:LS_) (k:Nat→LS_→Option τ):Option τ:=wrapB F210.E (.v qState) l k
def T210.E:Ent P:=F210.E.wrap (.v qState)
def T213 {τ:Type} (l:LS_) (k:Nat→LS_→Option τ):Option τ:=wrapB F213.E (.v qState) l k
def T213.E:Ent P:=F213.E.wrap (.v qState)
def T215 {τ:Type} (l:LS_) (k:Nat→LS_→Option τ):Option τ:=wrapB F215.E (.v qState) l k
def T215.E:Ent P:=F215.E.wrap (.v qState)
theorem T213_no (h:q≠2∨Lc 2 n G) (hn:n≤10) {w:List Int} (hs:w.length<2^60) {r:Int} {d:Bool} (hv:stv q n G w r d=false∨(r=1000∧d=false)) {τ:Type} (k:Nat→LS_→Option τ) :
  T213 [.I q,.I n,.LL G,.L w,.I r,.B d] k=k 0 [.L [],.I 0,.B false,.I 1] :=
 wrap_of (e:=F213.E) (p:=.v qState) (j:=0) (l2:=[.I 0,.B false,.I 1]) (c:=true) (ls':=[.L [],.I 0,.B false,.I 1]) (by intro τ κ;kernel_rfl) rfl (fun κ=>by
  show F213 _ κ=_
  unfold F213
  simp only [g_]
  rw [ck_of (by simp),F248_no h hn hs hv]
  rfl)
theorem T215_ok (h:Lc 2 n G) (h1:1≤n) (hn:n≤10) {w:List Int} {r:Int} {d:Bool} (hv:stv 2 n G w r d=true) {b:Int} (hb:b<2^63) {τ:Type} (k:Nat→LS_→Option τ) :
  T215 [.I 2,.I n,.LL G,.L w,.I r,.B d,.I b] k=k 0 [.L (rounds n (dualR 2 n G) b.toNat (w,r)).1,.I (rounds n (dualR 2 n G) b.toNat (w,r)).2,.B (clean n (dualR 2 n G) (rounds n (dualR 2 n G) b.toNat (w,r)).1),.I 0]:=by
 have hw:isWord 2 n w=true:=by unfold stv at hv;simp only [Bool.and_eq_true] at hv;exact hv.2.1
 have hR:=rounds_bn (n:=n) (H:=dualR 2 n G) b.toNat (w,r) (word_bn hw).1 (word_bn hw).2
 have h2:∀ {τ:Type} (κ:Nat→LS_→Option τ),F215 [.I 2,.I n,.LL G,.L w,.I r,.B d,.I b] κ=κ 1 [.N n,.I (rounds n (dualR 2 n G) b.toNat (w,r)).2,.B (clean n (dualR 2 n G) (rounds n (dualR 2 n G) b.toNat (w,r)).1),.I 0,.L (rounds n (dualR 2 n G) b.toNat (w,r)).1]:=by
  intro τ κ
  unfold F215
  simp only [g_]
  rw [ck_of (by simp),F251_ok h h1 hn hv hb]
  simp
 generalize rounds n (dualR 2 n G) b.toNat (w,r)=R at h2 hR ⊢
 generalize clean n (dualR 2 n G) R.1=B at h2 ⊢
 obtain ⟨M,t⟩:=R
 rw [←hR.1] at h2
 have:=wrap_of (e:=F215.E) (p:=.v qState) (j:=1) (l2:=[.N M.length,.I t,.B B,.I 0,.L M]) (c:=decide (M.length=(List.take (M.length*1) (List.drop 0 M)).length)&&true) (ls':=[.L (List.take (M.length*1) (List.drop 0 M)),.I t,.B B,.I 0]) (by intro τ κ;kernel_rfl) (by simp) (k:=k) (fun κ=>h2 κ)
 rw [Nat.mul_one,List.drop_zero,List.take_length] at this
 rw [←hR.1]
 exact this
theorem T213_ok (h:Lc 2 n G) (h1:1≤n) (hn:n≤10) {w:List Int} {r:Int} {d:Bool} (hv:stv 2 n G w r d=true) (hx:¬ (r=1000∧d=false)) {τ:Type} (k:Nat→LS_→Option τ) :
  T213 [.I 2,.I n,.LL G,.L w,.I r,.B d] k=k 0 [.L (rounds n (dualR 2 n G) 1 (w,r)).1,.I (rounds n (dualR 2 n G) 1 (w,r)).2,.B (clean n (dualR 2 n G) (rounds n (dualR 2 n G) 1 (w,r)).1),.I 0]:=by
 have hw:isWord 2 n w=true:=by unfold stv at hv;simp only [Bool.and_eq_true] at hv;exact hv.2.1
 have hR:=rounds_bn (n:=n) (H:=dualR 2 n G) 1 (w,r) (word_bn hw).1 (word_bn hw).2
 have h2:∀ {τ:Type} (κ:Nat→LS_→Option τ),F213 [.I 2,.I n,.LL G,.L w,.I r,.B d] κ=κ 1 [.N n,.I (rounds n (dualR 2 n G) 1 (w,r)).2,.B (clean n (dualR 2 n G) (rounds n (dualR 2 n G) 1 (w,r)).1),.I 0,.L (rounds n (dualR 2 n G) 1 (w,r)).1]:=by
  intro τ κ
  unfold F213
  simp only [g_]
  rw [ck_of (by simp),F248_ok h h1 hn hv hx]
  simp
 generalize rounds n (dualR 2 n G) 1 (w,r)=R at h2 hR ⊢
 generalize clean n (dualR 2 n G) R.1=B at h2 ⊢
 obtain ⟨M,t⟩:=R
 rw [←hR.1] at h2
 have:=wrap_of (e:=F213.E) (p:=.v qState) (j:=1) (l2:=[.N M.length,.I t,.B B,.I 0,.L M]) (c:=decide (M.length=(List.take (M.length*1) (List.drop 0 M)).length)&&true) (ls':=[.L (List.take (M.length*1) (List.drop 0 M)),.I t,.B B,.I 0]) (by intro τ κ;kernel_rfl) (by simp) (k:=k) (fun κ=>h2 κ)
 rw [Nat.mul_one,List.drop_zero,List.take_length] at this
 rw [←hR.1]
 exact this
end
end
end Go.Proofs.YticbdgmcofjkeaaGreat.Ai
namespace Go.Proofs.YticbdgmcofjkeaaGreat.Ai
open Go Ma Go.RowKit
noncomputable section
theorem any_ne {a b:List Int} (hl:a.length=b.length):(List.range a.length).any (fun j=>a.getD j 0 != b.getD j 0)=!decide (a=b):=by
 by_cases h:a=b
 ·subst h
  simp
 ·rw [decide_eq_false h,Bool.not_false]
  apply Decidable.byContradiction
  intro q
  apply h
  rw [List.any_eq_true] at q
  apply List.ext_getElem hl
  intro i h1 h2
  have e1:a.getD i 0=a[i]:=by simp [List.getD_eq_getElem?_getD,h1]
  have e2:b.getD i 0=b[i]:=by simp [List.getD_eq_getElem?_getD,h2]
  rw [←e1,←e2]
  apply Decidable.byContradiction
  intro r
  exact q ⟨i,List.mem_range.2 h1,by simpa using r⟩
theorem F222_spec (a b:List Int) (hs:a.length<2^60) {τ:Type} (k:Nat→LS_→Option τ):F222 [.L a,.L b] k=k 0 [.B (decide (a=b))]:=by
 unfold F222 L222_4.b
 simp only [gL_zero,gL_succ]
 by_cases hl:a.length=b.length
 ·rw [br_no (by simp [hl])]
  refine (run_any L222_4 L222_4.s0 0 (fun _ _ _=>rfl) _ (fun j=>[.N a.length,.L a,.N b.length,.L b,.B false,.I (j:Nat)]) a.length (fun j=>a.getD j 0 != b.getD j 0) (k 0 [.B false]) (k 0 [.B true]) (by omega) (fun j hj next=>?_) (fun next=>?_)).trans ?_
  ·unfold L222_4.s0
   simp only [g_,Int.toNat_natCast,Nat.mul_one]
   rw [br_of (by simp;omega),ck_of (by simp <;> omega),ck_of (by simp <;> omega),ck_of (by simp <;> omega),ck_of (by simp <;> omega),wsucc (by omega)]
   cases a.getD j 0 != b.getD j 0 with
   | true=>rw [br_of rfl,if_pos rfl];simp
   | false=>rw [br_no rfl,if_neg (by decide)]
  ·unfold L222_4.s0
   simp only [g_]
   rw [br_no (by simp)]
   simp
  ·rw [any_ne hl]
   cases decide (a=b) <;> rfl
 ·rw [br_of (by simp;omega),decide_eq_false (fun e=>hl (by rw [e]))]
theorem F245_spec {W V:List Int} (hs:W.length<2^60) (r s:Int) (d e:Bool) {τ:Type} (k:Nat→LS_→Option τ) :
  F245 [.L W,.I r,.B d,.L V,.I s,.B e] k=k 0 [.B (decide (r=s∧d=e∧W=V))]:=by
 unfold F245
 simp only [g_]
 by_cases h1:r=s
 ·rw [br_of (by simpa using h1)]
  by_cases h2:d=e
  ·rw [br_of (by simpa using h2),ck_of (by simp),F222_spec _ _ hs]
   simp [h1,h2]
  ·rw [br_no (by simpa using h2)]
   simp [h2]
 ·rw [br_no (by simpa using h1)]
  simp [h1]
theorem F211_spec {W V:List Int} (hs:W.length<2^60) (r s:Int) (d e:Bool) (x y:Int) {τ:Type} (k:Nat→LS_→Option τ) :
  F211 [.L W,.I r,.B d,.I x,.L V,.I s,.B e,.I y] k=k 0 [.B (decide (x=y∧r=s∧d=e∧W=V))]:=by
 unfold F211
 simp only [g_]
 by_cases h1:x=y
 ·rw [br_of (by simpa using h1),ck_of (by simp),F245_spec hs]
  simp [h1]
 ·rw [br_no (by simpa using h1)]
  simp [h1]
def T211 {τ:Type} (l:LS_) (k:Nat→LS_→Option τ):Option τ:=F211 l k
def T211.E:Ent P:=F211.E
theorem any_ne2 {a b:List (List Int)} (hl:a.length=b.length):(List.range a.length).any (fun j=>!decide (a.getD j []=b.getD j []))=!decide (a=b):=by
 by_cases h:a=b
 ·subst h
  simp
 ·rw [decide_eq_false h,Bool.not_false]
  apply Decidable.byContradiction
  intro q
  apply h
  rw [List.any_eq_true] at q
  apply List.ext_getElem hl
  intro i h1 h2
  have e1:a.getD i []=a[i]:=by simp [List.getD_eq_getElem?_getD,h1]
  have e2:b.getD i []=b[i]:=by simp [List.getD_eq_getElem?_getD,h2]
  rw [←e1,←e2]
  apply Decidable.byContradiction
  intro r
  exact q ⟨i,List.mem_range.2 h1,by rw [decide_eq_false r];rfl⟩
theorem F254_spec {a b:List (List Int)} (hs:a.length<2^60) (hr:∀ i,(a.getD i []).length<2^60) {τ:Type} (k:Nat→LS_→Option τ):F254 [.LL a,.LL b] k=k 0 [.B (decide (a=b))]:=by
 unfold F254 L254_4.b
 simp only [gLL_zero,gLL_succ]
 by_cases hl:a.length=b.length
 ·rw [br_no (by simp [hl])]
  refine (run_any L254_4 L254_4.s0 0 (fun _ _ _=>rfl) _ (fun j=>[.N a.length,.LL a,.N b.length,.LL b,.B false,.I (j:Nat)]) a.length (fun j=>!decide (a.getD j []=b.getD j [])) (k 0 [.B false]) (k 0 [.B true]) (by omega) (fun j hj next=>?_) (fun next=>?_)).trans ?_
  ·unfold L254_4.s0
   simp only [g_,Int.toNat_natCast,Nat.mul_one]
   rw [br_of (by simp;omega),ck_of (by simp <;> omega),ck_of (by simp <;> omega),ck_of (by simp <;> omega),ck_of (by simp <;> omega),ck_of (by simp),F222_spec _ _ (hr j),wsucc (by omega)]
   simp only [sw_zero,gB_zero]
   cases decide (a.getD j []=b.getD j []) with
   | true=>rw [br_no (b:=!true) rfl,if_neg (by decide)]
   | false=>rw [br_of (b:=!false) rfl,if_pos (by decide)]
  ·unfold L254_4.s0
   simp only [g_]
   rw [br_no (by simp)]
   simp
  ·rw [any_ne2 hl]
   cases decide (a=b) <;> rfl
 ·rw [br_of (by simp;omega),decide_eq_false (fun e=>hl (by rw [e]))]
theorem F224_spec {C D:List Int} {L M:List (List Int)} (hC:C.length<2^60) (hs:L.length<2^60) (hr:∀ i,(L.getD i []).length<2^60) (a b x y:Int) {τ:Type} (k:Nat→LS_→Option τ) :
  F224 [.I a,.I b,.L C,.LL L,.I x,.I y,.L D,.LL M] k=k 0 [.B (decide (a=x∧b=y∧C=D∧L=M))]:=by
 unfold F224
 simp only [g_]
 by_cases h1:a=x
 ·rw [br_of (by simpa using h1)]
  by_cases h2:b=y
  ·rw [br_of (by simpa using h2),ck_of (by simp),F222_spec _ _ hC]
   simp only [sw_zero,gB_zero]
   by_cases h3:C=D
   ·rw [br_of (by simpa using h3),ck_of (by simp),F254_spec hs hr]
    simp [h1,h2,h3]
   ·rw [br_no (by simpa using h3)]
    simp [h3]
  ·rw [br_no (by simpa using h2)]
   simp [h2]
 ·rw [br_no (by simpa using h1)]
  simp [h1]
theorem F218_spec {C D:List Int} {L M:List (List Int)} (hC:C.length<2^60) (hs:L.length<2^60) (hr:∀ i,(L.getD i []).length<2^60) (a b x y e f:Int) {τ:Type} (k:Nat→LS_→Option τ) :
  F218 [.I a,.I b,.L C,.LL L,.I e,.I x,.I y,.L D,.LL M,.I f] k=k 0 [.B (decide (e=f∧a=x∧b=y∧C=D∧L=M))]:=by
 unfold F218
 simp only [g_]
 by_cases h1:e=f
 ·rw [br_of (by simpa using h1),ck_of (by simp),F224_spec hC hs hr]
  simp [h1]
 ·rw [br_no (by simpa using h1)]
  simp [h1]
def T218 {τ:Type} (l:LS_) (k:Nat→LS_→Option τ):Option τ:=F218 l k
def T218.E:Ent P:=F218.E
def T224 {τ:Type} (l:LS_) (k:Nat→LS_→Option τ):Option τ:=F224_1 l k
def T224.E:Ent P:=F224_1.E
def T222 {τ:Type} (l:LS_) (k:Nat→LS_→Option τ):Option τ:=F222_1 l k
def T222.E:Ent P:=F222_1.E
theorem any_mem {g:List Int} {i:Nat}:(List.range g.length).any (fun j=>g.getD j 0==(i:Int))=lostI g i:=by
 unfold lostI
 cases h:g.contains (i:Int) with
 | true =>
  obtain ⟨j,hj,e⟩:=List.mem_iff_getElem.1 (by simpa using h:(i:Int)∈g)
  rw [List.any_eq_true]
  exact ⟨j,List.mem_range.2 hj,by rw [List.getD_eq_getElem?_getD,List.getElem?_eq_getElem hj];simpa using e⟩
 | false =>
  rw [List.any_eq_false]
  intro j hj e
  have hj:=List.mem_range.1 hj
  rw [List.getD_eq_getElem?_getD,List.getElem?_eq_getElem hj] at e
  have:(i:Int)∈g:=by
   have e:g[j]=(i:Int):=by simpa using e
   rw [←e];exact List.getElem_mem _
  rw [show g.contains (i:Int)=true by simpa using this] at h
  cases h
theorem F275_spec {g:List Int} (hs:g.length<2^60) (i:Nat) {τ:Type} (k:Nat→LS_→Option τ):F275 [.L g,.I (i:Nat)] k=k 0 [.B (lostI g i)]:=by
 unfold F275 F286 L286_2.b
 simp only [gL_zero,gI_succ,gI_zero]
 rw [ck_of (by simp)]
 refine (run_any L286_2 L286_2.s0 0 (fun _ _ _=>rfl) _ (fun j=>[.N g.length,.L g,.I (i:Nat),.I 0,.I (g.length:Nat),.I (j:Nat)]) g.length (fun j=>g.getD j 0==(i:Int)) (k 0 [.B true]) (k 0 [.B false]) (by omega) (fun j hj next=>?_) (fun next=>?_)).trans ?_
 ·unfold L286_2.s0
  simp only [g_,Int.toNat_natCast,Nat.mul_one]
  rw [br_of (by simp;omega),ck_of (by simp <;> omega),ck_of (by simp <;> omega),wsucc (by omega)]
  by_cases e:g.getD j 0=(i:Int)
  ·rw [br_of (by rw [e];simp),if_pos (by rw [e];simp)];simp [geI]
  ·rw [br_no (by simpa using fun h=>e h.symm),if_neg (by simpa using e)]
 ·unfold L286_2.s0
  simp only [g_]
  rw [br_no (by simp)]
  simp [geI]
 ·rw [any_mem]
  cases lostI g i <;> rfl
def apt (w g x:List Int):Nat→Nat
 | 0=>0
 | k+1=>apt w g x k+if x.getD k 0≠w.getD k 0∧lostI g k=false then 1 else 0
theorem apt_le (w g x:List Int):∀ k,apt w g x k≤k
 | 0=>Nat.le_refl _
 | k+1=>by have:=apt_le w g x k;simp only [apt];split <;> omega
theorem L253_8_spec {w g x:List Int} (hx:x.length<2^60) (hw:w.length=x.length) (hg:g.length<2^60) (a b c:Int) (m:Nat) (l:List Int) {τ:Type} (κ:Nat→LS_→Option τ) :
  L253_8.b 0 [.N x.length,.L x,.I (x.length:Nat),.I 0,.N w.length,.L w,.N g.length,.L g,.I a,.I b,.I c,.I 0,.N m,.L l] κ=κ 0 [.I a,.I b,.I c,.I (apt w g x x.length:Nat),.N m,.L l]:=by
 unfold L253_8.b
 refine run_for L253_8 L253_8.s0 0 (fun _ _ _=>rfl) _ (fun j=>[.N x.length,.L x,.I (x.length:Nat),.I (j:Nat),.N w.length,.L w,.N g.length,.L g,.I a,.I b,.I c,.I (apt w g x j:Nat),.N m,.L l]) x.length _ (by omega) (fun j hj next=>?_) (fun next=>?_)
 ·have hle:=apt_le w g x j
  unfold L253_8.s0
  simp only [g_,Int.toNat_natCast,Nat.mul_one]
  rw [br_of (by simp;omega),ck_of (by simp <;> omega),ck_of (by simp <;> omega),ck_of (by simp <;> omega),ck_of (by simp <;> omega),wsucc (by omega),wsucc (by omega)]
  by_cases h1:x.getD j 0=w.getD j 0
  ·rw [br_no (by simpa using h1)]
   simp only [apt]
   rw [if_neg (fun h=>h.1 h1)]
   rfl
  ·rw [br_of (by simpa using h1),ck_of (by simp),F275_spec hg]
   simp only [sw_zero,gB_zero]
   cases h2:lostI g j with
   | true =>
    rw [br_no (b:=!true) rfl]
    simp only [apt]
    rw [if_neg (fun h=>by rw [h2] at h;cases h.2)]
    rfl
   | false =>
    rw [br_of (b:=!false) rfl]
    simp only [apt]
    rw [if_pos ⟨h1,h2⟩]
 ·unfold L253_8.s0
  simp only [g_]
  rw [br_no (by simp)]
def T225 {τ:Type} (l:LS_) (k:Nat→LS_→Option τ):Option τ:=F225_1 l k
def T225.E:Ent P:=F225_1.E
section
variable {n:Nat} {q:Int} {G:List (List Int)}
def rcv (q:Int) (n:Nat) (w g:List Int):Bool:=isGone n g&&(decide (q=2)&&isWord 2 n w)
theorem F266_rcv (q:Int) (n:Nat) (G:List (List Int)) {w g:List Int} (hw:w.length<2^60) (hg:g.length<2^60) {τ:Type} (k:Nat→LS_→Option τ) :
  F266 [.I q,.I n,.LL G,.L w,.L g] k=k 0 [.B (rcv q n w g)]:=F266_spec q n G hw hg k
theorem F253_ok (h:Lc 2 n G) (h1:1≤n) (hn:n≤10) {w g x:List Int} (hg:g.length<2^60) {r:Int} {d:Bool} (hv:stv 2 n G x r d=true) (hr:rcv 2 n w g=true) {τ:Type} (k:Nat→LS_→Option τ) :
  F253 [.I 2,.I n,.LL G,.L w,.L g,.L x,.I r,.B d] k=if d=true then k 2 [.I 3,.I (apt w g x n:Nat),.N n,.L x] else k 1 []:=by
 unfold stv at hv
 simp only [Bool.and_eq_true,decide_eq_true_eq] at hv
 obtain ⟨_,hx,r0,r1,hc⟩:=hv
 have hw:isWord 2 n w=true:=by unfold rcv at hr;simp only [Bool.and_eq_true] at hr;exact hr.2.2
 have xl:=(word_bn hx).1
 have wl:=(word_bn hw).1
 unfold F253
 simp only [g_]
 rw [ck_of (by simp)]
 rcases F271_ok h hn hx r0 r1 d with ⟨he,hk⟩ | hk
 ·rw [hk,hc]
  simp only [sw_zero,sw_succ,gB_zero,gB_succ]
  rw [br_no (b:=!true) rfl,ck_of (by simp),F266_rcv _ _ _ (by omega) hg]
  simp only [sw_zero,gB_zero]
  rw [hr,br_no (b:=!true) rfl]
  cases d with
  | false=>rw [br_of (b:=!false) rfl,if_neg (by decide)]
  | true =>
   rw [br_no (b:=!true) rfl,if_pos rfl,ck_of (by simp),F71_spec (by omega) (by omega)]
   simp only [sw_zero,gN_zero,gL_succ,gL_zero]
   rw [L253_8_spec (by omega) (by omega) hg,xl]
   simp
 ·rw [hk,hc]
  simp only [sw_zero,sw_succ,gB_zero,gB_succ]
  rw [br_no (b:=!true) rfl,ck_of (by simp),F266_rcv _ _ _ (by omega) hg]
  simp only [sw_zero,gB_zero]
  rw [hr,br_no (b:=!true) rfl]
  cases d with
  | false=>rw [br_of (b:=!false) rfl,if_neg (by decide)]
  | true =>
   rw [br_no (b:=!true) rfl,if_pos rfl,ck_of (by simp),F71_spec (by omega) (by omega)]
   simp only [sw_zero,gN_zero,gL_succ,gL_zero]
   rw [L253_8_spec (by omega) (by omega) hg,xl]
   simp
def T219 {τ:Type} (l:LS_) (k:Nat→LS_→Option τ):Option τ:=wrapB F219.E (.v qTold) l k
def T219.E:Ent P:=F219.E.wrap (.v qTold)
theorem T219_ok (h:Lc 2 n G) (h1:1≤n) (hn:n≤10) {w g x:List Int} (hg:g.length<2^60) {r:Int} {d:Bool} (hv:stv 2 n G x r d=true) (hr:rcv 2 n w g=true) {τ:Type} (k:Nat→LS_→Option τ) :
  T219 [.I 2,.I n,.LL G,.L w,.L g,.L x,.I r,.B d] k=if d=true then k 0 [.I 3,.I (apt w g x n:Nat),.L x,.LL [],.I 0] else k 0 [.I 4,.I 0,.L [],.LL [],.I 0]:=by
 have h2:∀ {τ:Type} (κ:Nat→LS_→Option τ),F219 [.I 2,.I n,.LL G,.L w,.L g,.L x,.I r,.B d] κ=if d=true then κ 1 [.I 3,.I (apt w g x n:Nat),.N n,.I 0,.L x] else κ 0 [.I 4,.I 0,.I 0]:=by
  intro τ κ
  unfold F219
  simp only [g_]
  rw [ck_of (by simp),F253_ok h h1 hn hg hv hr]
  cases d <;> simp
 have hx:isWord 2 n x=true:=by unfold stv at hv;simp only [Bool.and_eq_true] at hv;exact hv.2.1
 have xl:=(word_bn hx).1
 cases d with
 | true =>
  rw [if_pos rfl]
  rw [←xl] at h2
  have:=wrap_of (e:=F219.E) (p:=.v qTold) (j:=1) (l2:=[.I 3,.I (apt w g x x.length:Nat),.N x.length,.I 0,.L x]) (c:=decide (x.length=(List.take (x.length*1) (List.drop 0 x)).length)&&true) (ls':=[.I 3,.I (apt w g x x.length:Nat),.L (List.take (x.length*1) (List.drop 0 x)),.LL [],.I 0]) (by intro τ κ;kernel_rfl) (by simp) (k:=k) (fun κ=>(h2 κ).trans (if_pos rfl))
  rw [Nat.mul_one,List.drop_zero,List.take_length] at this
  rw [←xl]
  exact this
 | false =>
  rw [if_neg (by decide)]
  exact wrap_of (e:=F219.E) (p:=.v qTold) (j:=0) (l2:=[.I 4,.I 0,.I 0]) (c:=true) (ls':=[.I 4,.I 0,.L [],.LL [],.I 0]) (by intro τ κ;kernel_rfl) rfl (fun κ=>(h2 κ).trans (if_neg (by decide)))
def zer (n:Nat) (w g:List Int):List Int:=(List.range n).map fun i=>if lostI g i=true then 0 else w.getD i 0
theorem zer_len {w g:List Int}:(zer n w g).length=n:=by simp [zer]
theorem zer_bn {w g:List Int} (hw:Bn w):Bn (zer n w g):=by
 intro i hi
 rw [zer_len] at hi
 unfold zer
 rw [map_get hi]
 split
 ·exact .inl rfl
 ·exact hw.bit i
theorem zer_nil {w:List Int} (hl:w.length=n):zer n w []=w:=by
 subst hl
 refine Eq.trans ?_ map_self
 unfold zer
 apply List.map_congr_left
 intro i _
 simp [lostI]
theorem zer_set {w g:List Int} {j:Nat} (hj:j<g.length) (h0:0≤g.getD j 0) (h1:g.getD j 0<n):(zer n w (g.take j)).set (Int.toNat (g.getD j 0)) 0=zer n w (g.take (j+1)):=by
 have e:g.getD j 0=g[j]:=by rw [List.getD_eq_getElem?_getD,List.getElem?_eq_getElem hj];rfl
 apply List.ext_getElem
 ·simp [zer]
 ·intro i h2 h3
  rw [zer_len] at h3
  simp only [zer,List.getElem_set,List.getElem_map,List.getElem_range,lostI,List.take_succ_eq_append_getElem hj]
  have c:(g.take j++[g[j]]).contains (i:Int)=((g.take j).contains (i:Int) || (g[j]==(i:Int))):=by
   rw [Bool.eq_iff_iff]
   simp only [List.contains_iff_mem,Bool.or_eq_true,List.mem_append,List.mem_singleton,beq_iff_eq]
   exact ⟨fun h=>h.imp id Eq.symm,fun h=>h.imp id Eq.symm⟩
  rw [c]
  by_cases h4:(g.getD j 0).toNat=i
  ·rw [if_pos h4]
   have:(g[j]==(i:Int))=true:=by rw [←e,beq_iff_eq];omega
   rw [this,Bool.or_true,if_pos rfl]
  ·rw [if_neg h4]
   have:(g[j]==(i:Int))=false:=by rw [←e];exact beq_eq_false_iff_ne.2 (by omega)
   rw [this,Bool.or_false]
theorem F244_no {w g:List Int} (hw:w.length<2^60) (hg:g.length<2^60) (hr:rcv q n w g=false) {τ:Type} (k:Nat→LS_→Option τ):F244 [.I q,.I n,.LL G,.L w,.L g] k=k 0 []:=by
 unfold F244
 simp only [g_]
 rw [ck_of (by simp),F266_rcv _ _ _ hw hg]
 simp only [sw_zero,gB_zero]
 rw [hr,br_of (b:=!false) rfl]
theorem F244_ok (h:Lc 2 n G) (hn:n≤10) {w g:List Int} (hg:g.length<2^60) (hr:rcv 2 n w g=true) {τ:Type} (k:Nat→LS_→Option τ) :
  F244 [.I 2,.I n,.LL G,.L w,.L g] k=k 1 [.N n,.I 0,.B (clean n (dualR 2 n G) (zer n w g)),.L (zer n w g)]:=by
 have hr':=hr
 unfold rcv at hr'
 simp only [Bool.and_eq_true] at hr'
 obtain ⟨hgo,_,hw⟩:=hr'
 obtain ⟨wl,wb⟩:=word_bn hw
 obtain ⟨hB,hl⟩:=chk_bn h hn
 unfold F244
 simp only [g_,Int.toNat_natCast]
 rw [ck_of (by simp),F266_rcv _ _ _ (by omega) hg]
 simp only [sw_zero,gB_zero]
 rw [hr,br_no (b:=!true) rfl,ck_of (by simp;omega),ck_of (by simp [wl])]
 unfold L244_6.b
 refine Eq.trans (congrArg (fun x=>runE L244_6 fuel _ 0 [.N n,.N g.length,.L g,.I (g.length:Nat),.I 0,.I 2,.I n,.N G.length,.LL G,.I 0,.B false,.L x]) ((zer_nil wl).symm:w=zer n w (g.take 0))) ?_
 refine run_for L244_6 L244_6.s0 0 (fun _ _ _=>rfl) _ (fun j=>[.N n,.N g.length,.L g,.I (g.length:Nat),.I (j:Nat),.I 2,.I n,.N G.length,.LL G,.I 0,.B false,.L (zer n w (g.take j))]) g.length _ (by omega) (fun j hj next=>?_) (fun next=>?_)
 ·obtain ⟨a,b,c⟩:=isGone_iff.1 hgo j (Nat.zero_le _) hj
  unfold L244_6.s0
  simp only [g_,Int.toNat_natCast,Nat.mul_one,Nat.zero_add]
  rw [br_of (by simp;omega),ck_of (by simp <;> omega),ck_of (by simp <;> omega),ck_of (by rw [Bool.and_true,Bool.and_eq_true,leI_iff,ltI_iff];exact ⟨a,b⟩),ck_of (by rw [zer_len];simp only [Bool.and_true,Bool.true_and,leN_iff];omega),wsucc (by omega),zer_set hj a b]
 ·unfold L244_6.s0
  simp only [g_]
  rw [br_no (by simp),List.take_length]
  simp only [g_,sw_zero,Nat.mul_one,List.drop_zero]
  rw [ck_of (by simp),List.take_of_length_le (by rw [zer_len];exact Nat.le_refl _)]
  rcases F267_spec h hn hB hl with ⟨he,hk⟩ | hk
  ·rw [show (Leaf.I 2)=Leaf.I ((2:Nat):Int) from rfl,hk]
   simp only [sw_zero,gI_zero]
   rw [ck_of (by simp [zer_len]),F269_spec (zer_bn wb) (by rw [zer_len];omega)]
   simp only [sw_zero,gI_zero]
   rw [F268_spec hn (zer_bn wb) zer_len,he]
   simp [clean]
  ·rw [show (Leaf.I 2)=Leaf.I ((2:Nat):Int) from rfl,hk]
   simp only [g_,sw_zero,sw_succ]
   rw [ck_of (by simp [zer_len]),F269_spec (zer_bn wb) (by rw [zer_len];omega)]
   simp only [sw_zero,gI_zero,Nat.mul_one,List.drop_zero]
   rw [ck_of (by simp [csL_len]),List.take_of_length_le (by rw [csL_len];exact Nat.le_refl _),F268_1_spec hn hB (by omega) (zer_bn wb) zer_len]
   simp
theorem T210_no {w g:List Int} (hw:w.length<2^60) (hg:g.length<2^60) (hr:rcv q n w g=false) {τ:Type} (k:Nat→LS_→Option τ):T210 [.I q,.I n,.LL G,.L w,.L g] k=k 0 [.L [],.I 0,.B false,.I 1] :=
 wrap_of (e:=F210.E) (p:=.v qState) (j:=0) (l2:=[.I 0,.B false,.I 1]) (c:=true) (ls':=[.L [],.I 0,.B false,.I 1]) (by intro τ κ;kernel_rfl) rfl (fun κ=>by
  show F210 _ κ=_
  unfold F210
  simp only [g_]
  rw [ck_of (by simp),F244_no hw hg hr]
  rfl)
theorem T210_ok (h:Lc 2 n G) (hn:n≤10) {w g:List Int} (hg:g.length<2^60) (hr:rcv 2 n w g=true) {τ:Type} (k:Nat→LS_→Option τ) :
  T210 [.I 2,.I n,.LL G,.L w,.L g] k=k 0 [.L (zer n w g),.I 0,.B (clean n (dualR 2 n G) (zer n w g)),.I 0]:=by
 have h2:∀ {τ:Type} (κ:Nat→LS_→Option τ),F210 [.I 2,.I n,.LL G,.L w,.L g] κ=κ 1 [.N n,.I 0,.B (clean n (dualR 2 n G) (zer n w g)),.I 0,.L (zer n w g)]:=by
  intro τ κ
  unfold F210
  simp only [g_]
  rw [ck_of (by simp),F244_ok h hn hg hr]
  simp
 have zl:=zer_len (n:=n) (w:=w) (g:=g)
 generalize zer n w g=M at h2 zl ⊢
 generalize clean n (dualR 2 n G) M=B at h2 ⊢
 rw [←zl] at h2
 have:=wrap_of (e:=F210.E) (p:=.v qState) (j:=1) (l2:=[.N M.length,.I 0,.B B,.I 0,.L M]) (c:=decide (M.length=(List.take (M.length*1) (List.drop 0 M)).length)&&true) (ls':=[.L (List.take (M.length*1) (List.drop 0 M)),.I 0,.B B,.I 0]) (by intro τ κ;kernel_rfl) (by simp) (k:=k) (fun κ=>h2 κ)
 rw [Nat.mul_one,List.drop_zero,List.take_length] at this
 rw [←zl]
 exact this
end
def T223 {τ:Type} (l:LS_) (k:Nat→LS_→Option τ):Option τ:=wrapB F223.E (.v qState) l k
def T223.E:Ent P:=F223.E.wrap (.v qState)
theorem T223_spec (w:List Int) (r:Int) (d:Bool) {τ:Type} (k:Nat→LS_→Option τ):T223 [.L w,.I r,.B d] k=k 0 [.L w,.I r,.B d,.I 0]:=by
 refine wrap_of (e:=F223.E) (p:=.v qState) (j:=0) (l2:=[.N w.length,.L w,.I r,.B d,.I 0]) (c:=decide (w.length=w.length)&&true) (ls':=[.L w,.I r,.B d,.I 0]) (by intro τ κ;kernel_rfl) (by simp) (k:=k) (fun κ=>?_)
 show F223 _ κ=_
 unfold F223
 simp
def T208 {τ:Type} (l:LS_) (k:Nat→LS_→Option τ):Option τ:=wrapB F208.E (.v pCode) l k
def T208.E:Ent P:=F208.E.wrap (.v pCode)
def T221 {τ:Type} (l:LS_) (k:Nat→LS_→Option τ):Option τ:=wrapB F221.E (.v pR) l k
def T221.E:Ent P:=F221.E.wrap (.v pR)
end
end Go.Proofs.YticbdgmcofjkeaaGreat.Ai
namespace Go.Proofs.YticbdgmcofjkeaaGreat.Ai
open Go Ma Go.RowKit
noncomputable section
def pos:List Int→Int→Nat
 | [],_=>0
 | y::ys,x=>if y<x then pos ys x+1 else 0
theorem gone_len {n:Int} {g:List Int} (h:isGone n g=true) (n0:0≤n):(g.length:Int)≤n:=by
 have hg:=isGone_iff.1 h
 have key:∀ j,j<g.length→(j:Int)≤g.getD j 0:=by
  intro j
  induction j with
  | zero=>intro hj;exact (hg 0 (Nat.zero_le _) hj).1
  | succ j ih=>intro hj;have:=ih (by omega);have:=(hg (j+1) (Nat.zero_le _) hj).2.2 (by omega);simp only [Nat.add_sub_cancel] at this;omega
 by_cases h0:g.length=0
 ·omega
 ·have:=key (g.length-1) (by omega)
  have:=(hg (g.length-1) (Nat.zero_le _) (by omega)).2.1
  omega
section
variable {q n:Nat} {L:List Int}
theorem wd_set {w:List Int} (hw:Wd q n w) {k:Nat} (hk:k<n) {v:Int} (h0:0≤v) (h1:v<q):Wd q n (w.set k v):=by
 refine ⟨by rw [List.length_set];exact hw.1,fun j hj=>?_⟩
 have e:(w.set k v).getD j 0=if k=j then v else w.getD j 0:=by
  simp only [List.getD_eq_getElem?_getD,List.getElem?_set]
  by_cases he:k=j
  ·subst he;simp [hw.1,hk]
  ·simp [he]
 rw [e]
 split
 ·exact ⟨h0,h1⟩
 ·exact hw.2 j hj
def T209 {τ:Type} (l:LS_) (k:Nat→LS_→Option τ):Option τ:=wrapB F209.E (.v pNoisy) l k
def T209.E:Ent P:=F209.E.wrap (.v pNoisy)
end
end
end Go.Proofs.YticbdgmcofjkeaaGreat.Ai
namespace Go.Proofs.YticbdgmcofjkeaaGreat.Ai
open Go Go.RowKit
noncomputable section
variable {τ:Type} (t:Nat) (nx ex:Nat→LS_→Option τ) (l:LS_) (k κ:Nat→LS_→Option τ)
end
end Go.Proofs.YticbdgmcofjkeaaGreat.Ai
namespace Go.Proofs.YticbdgmcofjkeaaGreat.Ai
open Go Go.RowKit
noncomputable section
variable {τ:Type} (t:Nat) (nx ex:Nat→LS_→Option τ) (l:LS_) (k κ:Nat→LS_→Option τ)
end
end Go.Proofs.YticbdgmcofjkeaaGreat.Ai
namespace Go.Proofs.YticbdgmcofjkeaaGreat.Ai
open Go Ma
noncomputable section
theorem raw13 {ps:List PV1} {ls:LS_} (h:okLs (.int .u8::.int .u8::.int .u8::.arr (.i .u8)::ps) ls) :
  ∃ Q N K L ls',ls=.I Q::.I N::.I K::.L L::ls'∧(0≤Q∧Q<256)∧(0≤N∧N<256)∧(0≤K∧K<256)∧Bytes L∧okLs ps ls':=by
 obtain ⟨x0,l0,rfl,a0,g0⟩:=okLs_cons h
 obtain ⟨Q,rfl,h1⟩:=ok_int a0
 obtain ⟨x1,l1,rfl,a1,g1⟩:=okLs_cons g0
 obtain ⟨N,rfl,h2⟩:=ok_int a1
 obtain ⟨x2,l2,rfl,a2,g2⟩:=okLs_cons g1
 obtain ⟨K,rfl,h3⟩:=ok_int a2
 obtain ⟨x3,l3,rfl,a3,g3⟩:=okLs_cons g2
 obtain ⟨L,rfl,h4⟩:=ok_bytes a3
 exact ⟨Q,N,K,L,l3,rfl,wf_u8 h1,wf_u8 h2,wf_u8 h3,h4,g3⟩
def T39 {τ:Type} (l:LS_) (k:Nat→LS_→Option τ):Option τ:=F39 l k
def T39.E:Ent P:=F39.E
end
end Go.Proofs.YticbdgmcofjkeaaGreat.Ai
namespace Go.Proofs.YticbdgmcofjkeaaGreat.Ai
open Go Go.RowKit
noncomputable section
variable {τ:Type} (t:Nat) (nx ex:Nat→LS_→Option τ) (l:LS_) (k κ:Nat→LS_→Option τ)
end
end Go.Proofs.YticbdgmcofjkeaaGreat.Ai
namespace Go.Proofs.YticbdgmcofjkeaaGreat.Ai
open Go Ma
noncomputable section
section
variable {q n:Nat} {G:List (List Int)}
theorem synd_zero (h:Lc q n G) {a:List Int} (ha:Wd q n a):synd q n G a=List.replicate (dualR q n G).length 0↔Sp q n (fadd q) (fmul q) G a:=by
 obtain ⟨D,_,_⟩:=h.dual
 obtain ⟨_,_,e⟩:=D.dual
 have:=e a ha
 rw [h.dual_dual] at this
 rw [this]
 constructor
 ·intro e2 i hi
  rw [←synd_get hi,e2]
  simp [List.getD_eq_getElem?_getD,hi]
 ·intro o
  refine ext_getD (by rw [synd_len];simp) fun i hi=>?_
  rw [synd_len] at hi
  rw [synd_get hi,o i hi]
  simp [List.getD_eq_getElem?_getD,hi]
def T27 {τ:Type} (l:LS_) (k:Nat→LS_→Option τ):Option τ:=F27 l k
def T27.E:Ent P:=F27.E
def T30 {τ:Type} (l:LS_) (k:Nat→LS_→Option τ):Option τ:=wrapB F30.E (.v pR) l k
def T30.E:Ent P:=F30.E.wrap (.v pR)
end
end
end Go.Proofs.YticbdgmcofjkeaaGreat.Ai
namespace Go.Proofs.YticbdgmcofjkeaaGreat.Ai
open Go Ma Go.RowKit
noncomputable section
section
variable {n:Nat} {G:List (List Int)}
theorem stv_of (h:Lc 2 n G) {w:List Int} {r:Int} (w1:w.length=n) (w2:Bn w) (r0:0≤r) (r1:r≤1000):stv 2 n G w r (clean n (dualR 2 n G) w)=true:=by
 unfold stv
 rw [word_of w1 w2,decide_eq_true r0,decide_eq_true r1]
 simp
theorem rcv_of {w g:List Int} (hw:Wd 2 n w) (hg:isGone n g=true):rcv 2 n w g=true:=by
 unfold rcv
 rw [hg,word_of hw.1 (.of hw)]
 simp
theorem dot2 {h w:List Int} (hh:Bn h) (hw:Bn w):∀ k,dot (fadd 2) (fmul 2) h w k=sN h w k % 2
 | 0=>rfl
 | k+1=>by
  simp only [dot,sN]
  rw [dot2 hh hw k]
  have e1:fmul 2 (h.getD k 0) (w.getD k 0)=h.getD k 0*w.getD k 0:=by
   unfold fmul
   rw [if_neg (by decide),if_neg (by decide)]
   rcases hh.bit k with e | e <;> rcases hw.bit k with f | f <;> rw [e,f] <;> decide
  rw [e1]
  unfold fadd
  rw [if_neg (by decide),if_neg (by decide)]
  rw [show (((2:Nat)):Int)=2 from rfl]
  omega
theorem clean_iff (h:Lc 2 n G) (hn:n≤10) {w:List Int} (hw:Wd 2 n w):clean n (dualR 2 n G) w=true↔Sp 2 n (fadd 2) (fmul 2) G w:=by
 obtain ⟨hB,_⟩:=chk_bn h hn
 rw [←synd_zero h hw]
 unfold clean synd
 constructor
 ·intro c
  apply List.ext_getElem
  ·simp
  ·intro i h1 h2
   rw [List.getElem_map,List.getElem_replicate]
   have hi:i<(dualR 2 n G).length:=by simpa using h1
   have hm:(dualR 2 n G)[i]∈dualR 2 n G:=List.getElem_mem _
   have q:=List.all_eq_true.1 c _ hm
   rw [dot2 (hB _ hm).2 (.of hw)]
   unfold fl at q
   simp at q
   omega
 ·intro e
  rw [List.all_eq_true]
  intro x hx
  obtain ⟨i,hi,rfl⟩:=List.mem_iff_getElem.1 hx
  have e2:=congrArg (fun l=>l.getD i 0) e
  simp only [List.getD_eq_getElem?_getD,List.getElem?_map,List.getElem?_eq_getElem hi,List.getElem?_replicate,if_pos hi,Option.map_some,Option.getD_some] at e2
  rw [dot2 (hB _ hx).2 (.of hw)] at e2
  unfold fl
  simp;omega
theorem T208_spec {Q N K:Int} {L:List Int} (hQ:0≤Q∧Q<256) (hN:0≤N∧N<256) (hK:0≤K∧K<256) (hL:Bytes L) :
  ∃ (n:Nat) (G:List (List Int)),Cd 2 n G∧∀ {τ:Type} (k:Nat→LS_→Option τ),T208 [.I Q,.I N,.I K,.L L] k=k 0 [.I 2,.I n,.LL G]:=by
 obtain ⟨q,n,G,h0,C,hT⟩:=T35_specq (Q:=0) (by decide) hN hK hL
 obtain rfl:=h0 rfl
 refine ⟨n,G,C,fun {τ} k=>?_⟩
 have h2:∀ {τ:Type} (κ:Nat→LS_→Option τ),F208 [.I Q,.I N,.I K,.L L] κ=κ 0 [.I 2,.I n,.N G.length,.LL G]:=by
  intro τ κ
  unfold F208
  simp only [g_]
  rw [ck_of (by simp),hT]
  simp
 exact wrap_of (e:=F208.E) (p:=.v pCode) (j:=0) (l2:=[.I 2,.I n,.N G.length,.LL G]) (c:=decide (G.length=G.length)&&true) (ls':=[.I 2,.I n,.LL G]) (by intro τ κ;kernel_rfl) (by simp) (k:=k) (fun κ=>h2 κ)
end
end
end Go.Proofs.YticbdgmcofjkeaaGreat.Ai
namespace Go.Proofs.YticbdgmcofjkeaaGreat.Ai
open Go Go.RowKit
noncomputable section
variable {τ:Type} (t:Nat) (nx ex:Nat→LS_→Option τ) (l:LS_) (k κ:Nat→LS_→Option τ)
def F207.ps:List PV2:=[]
def F207.sh:List PA:=[(PA.mk (PV3.v pB) [])]
def F207.O:Orc P:=⟨[T210.E,T223.E,T211.E,T213.E,T215.E,T219.E,T218.E],[],[],40⟩
def F207 {τ:Type} (l:LS_) (k:Nat→LS_→Option τ):Option τ :=
 T210 [.I 2,.I 3,.LL [[1,1,1]],.L [1,0,0],.L []]
 (fun j A=>(sw (T210 [.I 2,.I 3,.LL [[1,1,1]],.L [1,1,1],.L [2]]
 (fun j B=>(sw (T223 [.L [1,0,0],.I 0,.B false]
 (fun j C=>(sw (ck (((eqM (List.length (gL A 0)) (List.length (gL A 0)))&&true)&&(((eqM (List.length (gL C 0)) (List.length (gL C 0)))&&true)&&true))
 (T211 [.L (gL A 0),.I (gI A 1),.B (gB A 2),.I (gI A 3),.L (gL C 0),.I (gI C 1),.B (gB C 2),.I (gI C 3)]
 (fun j D=>(sw (br (!(gB D 0))
 (k 0 [.B false])
 (ck (((eqM (List.length (gL A 0)) (List.length (gL A 0)))&&true)&&true)
 (T213 [.I 2,.I 3,.LL [[1,1,1]],.L (gL A 0),.I (gI A 1),.B (gB A 2)]
 (fun j E=>(sw (T223 [.L [0,0,1],.I 1,.B false]
 (fun j F=>(sw (ck (((eqM (List.length (gL E 0)) (List.length (gL E 0)))&&true)&&(((eqM (List.length (gL F 0)) (List.length (gL F 0)))&&true)&&true))
 (T211 [.L (gL E 0),.I (gI E 1),.B (gB E 2),.I (gI E 3),.L (gL F 0),.I (gI F 1),.B (gB F 2),.I (gI F 3)]
 (fun j G=>(sw (br (!(gB G 0))
 (k 0 [.B false])
 (ck (((eqM (List.length (gL A 0)) (List.length (gL A 0)))&&true)&&true)
 (T215 [.I 2,.I 3,.LL [[1,1,1]],.L (gL A 0),.I (gI A 1),.B (gB A 2),.I 5]
 (fun j H=>(sw (T223 [.L [0,0,0],.I 2,.B true]
 (fun j M=>(sw (ck (((eqM (List.length (gL H 0)) (List.length (gL H 0)))&&true)&&(((eqM (List.length (gL M 0)) (List.length (gL M 0)))&&true)&&true))
 (T211 [.L (gL H 0),.I (gI H 1),.B (gB H 2),.I (gI H 3),.L (gL M 0),.I (gI M 1),.B (gB M 2),.I (gI M 3)]
 (fun j N=>(sw (br (!(gB N 0))
 (k 0 [.B false])
 (T223 [.L [1,1,0],.I 0,.B false]
 (fun j Q=>(sw (ck (((eqM (List.length (gL B 0)) (List.length (gL B 0)))&&true)&&(((eqM (List.length (gL Q 0)) (List.length (gL Q 0)))&&true)&&true))
 (T211 [.L (gL B 0),.I (gI B 1),.B (gB B 2),.I (gI B 3),.L (gL Q 0),.I (gI Q 1),.B (gB Q 2),.I (gI Q 3)]
 (fun j S=>(sw (br (!(gB S 0))
 (k 0 [.B false])
 (ck (((eqM (List.length (gL B 0)) (List.length (gL B 0)))&&true)&&true)
 (T213 [.I 2,.I 3,.LL [[1,1,1]],.L (gL B 0),.I (gI B 1),.B (gB B 2)]
 (fun j T=>(sw (T223 [.L [1,1,1],.I 1,.B true]
 (fun j U=>(sw (ck (((eqM (List.length (gL T 0)) (List.length (gL T 0)))&&true)&&(((eqM (List.length (gL U 0)) (List.length (gL U 0)))&&true)&&true))
 (T211 [.L (gL T 0),.I (gI T 1),.B (gB T 2),.I (gI T 3),.L (gL U 0),.I (gI U 1),.B (gB U 2),.I (gI U 3)]
 (fun j V=>(sw (br (!(gB V 0))
 (k 0 [.B false])
 (ck (((eqM (List.length (gL A 0)) (List.length (gL A 0)))&&true)&&true)
 (T215 [.I 2,.I 3,.LL [[1,1,1]],.L (gL A 0),.I (gI A 1),.B (gB A 2),.I 5]
 (fun j W=>(sw (ck (((eqM (List.length (gL W 0)) (List.length (gL W 0)))&&true)&&true)
 (T219 [.I 2,.I 3,.LL [[1,1,1]],.L [1,0,0],.L [],.L (gL W 0),.I (gI W 1),.B (gB W 2)]
 (fun j X=>(sw (ck (((eqM (List.length (gL X 2)) (List.length (gL X 2)))&&((eqM (List.length (gLL X 3)) (List.length (gLL X 3)))&&true))&&true)
 (T218 [.I (gI X 0),.I (gI X 1),.L (gL X 2),.LL (gLL X 3),.I (gI X 4),.I 3,.I 1,.L [0,0,0],.LL [],.I 0]
 (fun j Y=>(sw (br (!(gB Y 0))
 (k 0 [.B false])
 (ck (((eqM (List.length (gL A 0)) (List.length (gL A 0)))&&true)&&true)
 (T219 [.I 2,.I 3,.LL [[1,1,1]],.L [1,0,0],.L [],.L (gL A 0),.I (gI A 1),.B (gB A 2)]
 (fun j Z=>(sw (ck (((eqM (List.length (gL Z 2)) (List.length (gL Z 2)))&&((eqM (List.length (gLL Z 3)) (List.length (gLL Z 3)))&&true))&&true)
 (T218 [.I (gI Z 0),.I (gI Z 1),.L (gL Z 2),.LL (gLL Z 3),.I (gI Z 4),.I 4,.I 0,.L [],.LL [],.I 0]
 (fun j z19=>(sw (br (!(gB z19 0))
 (k 0 [.B false])
 (T210 [.I 2,.I 3,.LL [[1,0,0],[0,1,0],[0,0,1]],.L [1,0,0],.L []]
 (fun j z20=>(sw (T223 [.L [1,0,0],.I 0,.B true]
 (fun j z21=>(sw (ck (((eqM (List.length (gL z20 0)) (List.length (gL z20 0)))&&true)&&(((eqM (List.length (gL z21 0)) (List.length (gL z21 0)))&&true)&&true))
 (T211 [.L (gL z20 0),.I (gI z20 1),.B (gB z20 2),.I (gI z20 3),.L (gL z21 0),.I (gI z21 1),.B (gB z21 2),.I (gI z21 3)]
 (fun j z22=>(sw (br (!(gB z22 0))
 (k 0 [.B false])
 (T210 [.I 3,.I 1,.LL [],.L [0],.L []]
 (fun j z23=>(sw (br ((gI z23 3)==1)
 (T213 [.I 2,.I 3,.LL [[1,1,1]],.L [1,0,0],.I 0,.B true]
 (fun j z24=>(sw (br ((gI z24 3)==1)
 (T213 [.I 2,.I 3,.LL [[1,1,1]],.L [1,0,0],.I 1000,.B false]
 (fun j z25=>(sw (br ((gI z25 3)==1)
 (T215 [.I 2,.I 3,.LL [[1,1,1]],.L [1,0,0],.I 1000,.B false,.I 5]
 (fun j z26=>(sw (k 0 [.B ((gI z26 3)==0)])
 (fun _=>none)) j))
 (k 0 [.B false]))
 (fun _=>none)) j))
 (k 0 [.B false]))
 (fun _=>none)) j))
 (k 0 [.B false]))
 (fun _=>none)) j)))
 (fun _=>none)) j)))
 (fun _=>none)) j))
 (fun _=>none)) j)))
 (fun _=>none)) j)))
 (fun _=>none)) j))))
 (fun _=>none)) j)))
 (fun _=>none)) j)))
 (fun _=>none)) j))))
 (fun _=>none)) j)))
 (fun _=>none)) j))
 (fun _=>none)) j))))
 (fun _=>none)) j)))
 (fun _=>none)) j)))
 (fun _=>none)) j)))
 (fun _=>none)) j))
 (fun _=>none)) j))))
 (fun _=>none)) j)))
 (fun _=>none)) j))
 (fun _=>none)) j))))
 (fun _=>none)) j)))
 (fun _=>none)) j))
 (fun _=>none)) j))
 (fun _=>none)) j)
theorem F207.eq:FEq F207.O 10 F207.ps F207.sh F207:=by intro τ l κ;kernel_rfl
def F207.E:Ent P:=mkF F207.eq
end
end Go.Proofs.YticbdgmcofjkeaaGreat.Ai
namespace Go.Proofs.YticbdgmcofjkeaaGreat.Ai
open Go Ma Go.RowKit
noncomputable section
theorem lc_111:Lc 2 3 [[1,1,1]] where
  fq:=by decide
  n0:=by decide
  n1:=by decide
  form:=⟨fun _=>0,
    { wd:=fun i hi=>by
        have:i=0:=by simpa using hi
        subst this
        refine ⟨rfl,fun j hj=>?_⟩
        rcases (show j=0∨j=1∨j=2 by omega) with rfl | rfl | rfl <;> decide
      lt:=fun i hi=>by decide
      mono:=fun i j hi hj=>by simp at hj;omega
      one:=fun i hi=>by
        have:i=0:=by simpa using hi
        subst this;rfl
      zero:=fun i k hi hk hne=>by
        simp at hi hk;omega
      lead:=fun i j hi hj=>by omega }⟩
theorem lc_id:Lc 2 3 [[1,0,0],[0,1,0],[0,0,1]] where
  fq:=by decide
  n0:=by decide
  n1:=by decide
  form:=⟨fun i=>i,
    { wd:=fun i hi=>by
        have hi:i<3:=by simpa using hi
        rcases (show i=0∨i=1∨i=2 by omega) with rfl | rfl | rfl
        all_goals
          refine ⟨rfl,fun j hj=>?_⟩
          rcases (show j=0∨j=1∨j=2 by omega) with rfl | rfl | rfl <;> decide
      lt:=fun i hi=>by simpa using hi
      mono:=fun i j hi hj=>hi
      one:=fun i hi=>by
        have hi:i<3:=by simpa using hi
        rcases (show i=0∨i=1∨i=2 by omega) with rfl | rfl | rfl <;> rfl
      zero:=fun i k hi hk hne=>by
        have hi:i<3:=by simpa using hi
        have hk:k<3:=by simpa using hk
        rcases (show i=0∨i=1∨i=2 by omega) with rfl | rfl | rfl <;> rcases (show k=0∨k=1∨k=2 by omega) with rfl | rfl | rfl <;> first | rfl | exact absurd rfl hne
      lead:=fun i j hi hj=>by
        have hi:i<3:=by simpa using hi
        rcases (show i=0∨i=1∨i=2 by omega) with rfl | rfl | rfl <;> rcases (show j=0∨j=1∨2≤j by omega) with rfl | rfl | h <;> first | rfl | omega }⟩
theorem F207_true {τ:Type} (k:Nat→LS_→Option τ):F207 [] k=k 0 [.B true]:=by
 have a0:∀ k:Nat→LS_→Option τ,T210 [.I 2,.I 3,.LL [[1,1,1]],.L [1,0,0],.L []] k=k 0 [.L [1,0,0],.I 0,.B false,.I 0]:=fun k=>(T210_ok (n:=3) lc_111 (by omega) (by decide) (by kernel_rfl) k).trans (by kernel_rfl)
 have a1:∀ k:Nat→LS_→Option τ,T210 [.I 2,.I 3,.LL [[1,1,1]],.L [1,1,1],.L [2]] k=k 0 [.L [1,1,0],.I 0,.B false,.I 0]:=fun k=>(T210_ok (n:=3) lc_111 (by omega) (by decide) (by kernel_rfl) k).trans (by kernel_rfl)
 have a4:∀ k:Nat→LS_→Option τ,T213 [.I 2,.I 3,.LL [[1,1,1]],.L [1,0,0],.I 0,.B false] k=k 0 [.L [0,0,1],.I 1,.B false,.I 0]:=fun k=>(T213_ok (n:=3) lc_111 (by omega) (by omega) (by kernel_rfl) (by omega) k).trans (by kernel_rfl)
 have a7:∀ k:Nat→LS_→Option τ,T215 [.I 2,.I 3,.LL [[1,1,1]],.L [1,0,0],.I 0,.B false,.I 5] k=k 0 [.L [0,0,0],.I 2,.B true,.I 0]:=fun k=>(T215_ok (n:=3) lc_111 (by omega) (by omega) (by kernel_rfl) (by omega) k).trans (by kernel_rfl)
 have a12:∀ k:Nat→LS_→Option τ,T213 [.I 2,.I 3,.LL [[1,1,1]],.L [1,1,0],.I 0,.B false] k=k 0 [.L [1,1,1],.I 1,.B true,.I 0]:=fun k=>(T213_ok (n:=3) lc_111 (by omega) (by omega) (by kernel_rfl) (by omega) k).trans (by kernel_rfl)
 have a16:∀ k:Nat→LS_→Option τ,T219 [.I 2,.I 3,.LL [[1,1,1]],.L [1,0,0],.L [],.L [0,0,0],.I 2,.B true] k=k 0 [.I 3,.I 1,.L [0,0,0],.LL [],.I 0]:=fun k=>(T219_ok (n:=3) lc_111 (by omega) (by omega) (by decide) (by kernel_rfl) (by kernel_rfl) k).trans (by kernel_rfl)
 have a18:∀ k:Nat→LS_→Option τ,T219 [.I 2,.I 3,.LL [[1,1,1]],.L [1,0,0],.L [],.L [1,0,0],.I 0,.B false] k=k 0 [.I 4,.I 0,.L [],.LL [],.I 0]:=fun k=>(T219_ok (n:=3) lc_111 (by omega) (by omega) (by decide) (by kernel_rfl) (by kernel_rfl) k).trans (by kernel_rfl)
 have a20:∀ k:Nat→LS_→Option τ,T210 [.I 2,.I 3,.LL [[1,0,0],[0,1,0],[0,0,1]],.L [1,0,0],.L []] k=k 0 [.L [1,0,0],.I 0,.B true,.I 0]:=fun k=>(T210_ok (n:=3) lc_id (by omega) (by decide) (by kernel_rfl) k).trans (by kernel_rfl)
 have a23:∀ k:Nat→LS_→Option τ,T210 [.I 3,.I 1,.LL [],.L [0],.L []] k=k 0 [.L [],.I 0,.B false,.I 1]:=fun k=>T210_no (n:=1) (by decide) (by decide) (by kernel_rfl) k
 have a24:∀ k:Nat→LS_→Option τ,T213 [.I 2,.I 3,.LL [[1,1,1]],.L [1,0,0],.I 0,.B true] k=k 0 [.L [],.I 0,.B false,.I 1]:=fun k=>T213_no (n:=3) (.inr lc_111) (by omega) (by decide) (.inl (by kernel_rfl)) k
 have a25:∀ k:Nat→LS_→Option τ,T213 [.I 2,.I 3,.LL [[1,1,1]],.L [1,0,0],.I 1000,.B false] k=k 0 [.L [],.I 0,.B false,.I 1]:=fun k=>T213_no (n:=3) (.inr lc_111) (by omega) (by decide) (.inr ⟨rfl,rfl⟩) k
 have a26:∀ k:Nat→LS_→Option τ,T215 [.I 2,.I 3,.LL [[1,1,1]],.L [1,0,0],.I 1000,.B false,.I 5] k=k 0 [.L [1,0,0],.I 1000,.B false,.I 0]:=fun k=>(T215_ok (n:=3) lc_111 (by omega) (by omega) (by kernel_rfl) (by omega) k).trans (by kernel_rfl)
 have al:∀ (W V:List Int) (r s:Int) (d e:Bool) (x y:Int) (k:Nat→LS_→Option τ),W.length<2^60→T211 [.L W,.I r,.B d,.I x,.L V,.I s,.B e,.I y] k=k 0 [.B (decide (x=y∧r=s∧d=e∧W=V))]:=fun W V r s d e x y k h=>F211_spec h r s d e x y k
 have at':∀ (C D:List Int) (a b x y e f:Int) (k:Nat→LS_→Option τ),C.length<2^60→T218 [.I a,.I b,.L C,.LL [],.I e,.I x,.I y,.L D,.LL [],.I f] k=k 0 [.B (decide (e=f∧a=x∧b=y∧C=D∧([]:List (List Int))=[]))]:=fun C D a b x y e f k h=>F218_spec h (by decide) (by simp) a b x y e f k
 unfold F207
 rw [a0]
 simp only [sw_zero]
 rw [a1]
 simp only [sw_zero]
 rw [T223_spec]
 simp only [g_,sw_zero]
 rw [ck_of (by rfl),al _ _ _ _ _ _ _ _ _ (by decide)]
 simp only [sw_zero,gB_zero]
 rw [br_no (by decide),ck_of (by rfl),a4]
 simp only [sw_zero]
 rw [T223_spec]
 simp only [g_,sw_zero]
 rw [ck_of (by rfl),al _ _ _ _ _ _ _ _ _ (by decide)]
 simp only [sw_zero,gB_zero]
 rw [br_no (by decide),ck_of (by rfl),a7]
 simp only [sw_zero]
 rw [T223_spec]
 simp only [g_,sw_zero]
 rw [ck_of (by rfl),al _ _ _ _ _ _ _ _ _ (by decide)]
 simp only [sw_zero,gB_zero]
 rw [br_no (by decide),T223_spec]
 simp only [g_,sw_zero]
 rw [ck_of (by rfl),al _ _ _ _ _ _ _ _ _ (by decide)]
 simp only [sw_zero,gB_zero]
 rw [br_no (by decide),ck_of (by rfl),a12]
 simp only [sw_zero]
 rw [T223_spec]
 simp only [g_,sw_zero]
 rw [ck_of (by rfl),al _ _ _ _ _ _ _ _ _ (by decide)]
 simp only [sw_zero,gB_zero]
 rw [br_no (by decide),ck_of (by rfl),a7]
 simp only [g_,sw_zero]
 rw [ck_of (by rfl),a16]
 simp only [g_,sw_zero]
 rw [ck_of (by rfl),at' _ _ _ _ _ _ _ _ _ (by decide)]
 simp only [sw_zero,gB_zero]
 rw [br_no (by decide),ck_of (by rfl),a18]
 simp only [g_,sw_zero]
 rw [ck_of (by rfl),at' _ _ _ _ _ _ _ _ _ (by decide)]
 simp only [sw_zero,gB_zero]
 rw [br_no (by decide),a20]
 simp only [sw_zero]
 rw [T223_spec]
 simp only [g_,sw_zero]
 rw [ck_of (by rfl),al _ _ _ _ _ _ _ _ _ (by decide)]
 simp only [sw_zero,gB_zero]
 rw [br_no (by decide),a23]
 simp only [g_,sw_zero]
 rw [br_of (by decide),a24]
 simp only [g_,sw_zero]
 rw [br_of (by decide),a25]
 simp only [g_,sw_zero]
 rw [br_of (by decide),a26]
 rfl
def T207 {τ:Type} (l:LS_) (k:Nat→LS_→Option τ):Option τ:=F207 l k
def T207.E:Ent P:=F207.E
end
end Go.Proofs.YticbdgmcofjkeaaGreat.Ai
namespace Go.Proofs.YticbdgmcofjkeaaGreat.Ai
open Go Go.RowKit
noncomputable section
variable {τ:Type} (t:Nat) (nx ex:Nat→LS_→Option τ) (l:LS_) (k κ:Nat→LS_→Option τ)
end
end Go.Proofs.YticbdgmcofjkeaaGreat.Ai
namespace Go.Proofs.YticbdgmcofjkeaaGreat.Ai
open Go Ma Go.RowKit
noncomputable section
theorem T211_spec {W V:List Int} (hs:W.length<2^60) (r s:Int) (d e:Bool) (x y:Int) {τ:Type} (k:Nat→LS_→Option τ) :
  T211 [.L W,.I r,.B d,.I x,.L V,.I s,.B e,.I y] k=k 0 [.B (decide (x=y∧r=s∧d=e∧W=V))]:=F211_spec hs r s d e x y k
theorem T25_two {n:Nat} {G:List (List Int)} (C:Cd 2 n G) {τ:Type} (k:Nat→LS_→Option τ):T25 [.I 2,.I n,.LL G] k=k 0 [.LL (words 2 (fadd 2) (fmul 2) G (List.replicate n 0))] :=
 T25_spec C.fq C.rows (by have:=C.count;omega) k
structure Rc (n:Nat) (G:List (List Int)) (w g:List Int):Prop where
 cd:Cd 2 n G
 wd:Wd 2 n w
 gn:isGone n g=true
section
variable {n:Nat} {G:List (List Int)} {w g:List Int}
theorem Rc.lc (h:Rc n G w g):Lc 2 n G:=h.cd.lc
theorem Rc.n1 (h:Rc n G w g):1≤n:=h.cd.n0
theorem Rc.hn (h:Rc n G w g):n≤10:=h.cd.n1
theorem Rc.g60 (h:Rc n G w g):g.length<2^60:=by have:=gone_len h.gn (by omega);have:=h.hn;omega
theorem Rc.rcv (h:Rc n G w g):rcv 2 n w g=true:=rcv_of h.wd h.gn
theorem Rc.start (h:Rc n G w g) {τ:Type} (k:Nat→LS_→Option τ):T210 [.I 2,.I n,.LL G,.L w,.L g] k=k 0 [.L (zer n w g),.I 0,.B (clean n (dualR 2 n G) (zer n w g)),.I 0] :=
 T210_ok h.lc h.hn h.g60 h.rcv k
theorem next_ok (h:Lc 2 n G) (h1:1≤n) (hn:n≤10) {s:List Int×Int} (w1:s.1.length=n) (w2:Bn s.1) (r0:0≤s.2) (r1:s.2≤1000) (hx:¬ (s.2=1000∧clean n (dualR 2 n G) s.1=false)) {τ:Type} (k:Nat→LS_→Option τ) :
  T213 [.I 2,.I n,.LL G,.L s.1,.I s.2,.B (clean n (dualR 2 n G) s.1)] k=k 0 [.L (rounds n (dualR 2 n G) 1 s).1,.I (rounds n (dualR 2 n G) 1 s).2,.B (clean n (dualR 2 n G) (rounds n (dualR 2 n G) 1 s).1),.I 0] :=
 T213_ok h h1 hn (stv_of h w1 w2 r0 r1) hx k
end
end
end Go.Proofs.YticbdgmcofjkeaaGreat.Ai
namespace Go.Proofs.YticbdgmcofjkeaaGreat.Ai
open Go Go.RowKit
noncomputable section
variable {τ:Type} (t:Nat) (nx ex:Nat→LS_→Option τ) (l:LS_) (k κ:Nat→LS_→Option τ)
end
end Go.Proofs.YticbdgmcofjkeaaGreat.Ai
namespace Go.Proofs.YticbdgmcofjkeaaGreat.Ai
open Go Go.RowKit
noncomputable section
variable {τ:Type} (t:Nat) (nx ex:Nat→LS_→Option τ) (l:LS_) (k κ:Nat→LS_→Option τ)
end
end Go.Proofs.YticbdgmcofjkeaaGreat.Ai
namespace Go.Proofs.YticbdgmcofjkeaaGreat.Ai
open Go Ma Go.RowKit
noncomputable section
section
variable {n:Nat} {G:List (List Int)}
theorem pick_word (C:Cd 2 n G) {z:Int} (hz:0≤z):∃ i:Nat,Int.tmod z (((words 2 (fadd 2) (fmul 2) G (List.replicate n 0)).length:Nat):Int)=i∧i<(words 2 (fadd 2) (fmul 2) G (List.replicate n 0)).length ∧
  Wd 2 n ((words 2 (fadd 2) (fmul 2) G (List.replicate n 0)).getD i [])∧Sp 2 n (fadd 2) (fmul 2) G ((words 2 (fadd 2) (fmul 2) G (List.replicate n 0)).getD i []):=by
 have F:=fld 2 C.fq
 have hl:=words_len (n:=n) C.fq G (List.replicate n 0)
 have hW:=words_wd F G _ C.rows.wd (Wd.zeros (q:=2) (n:=n) (by omega))
 have hpos:0<(words 2 (fadd 2) (fmul 2) G (List.replicate n 0)).length:=by rw [hl];exact Nat.pow_pos (by omega)
 have ix:=tmod_in (a:=z) (b:=((words 2 (fadd 2) (fmul 2) G (List.replicate n 0)).length:Int)) hz (by omega)
 refine ⟨(Int.tmod z ((words 2 (fadd 2) (fmul 2) G (List.replicate n 0)).length:Int)).toNat,by omega,by omega,?_⟩
 have hin:(Int.tmod z ((words 2 (fadd 2) (fmul 2) G (List.replicate n 0)).length:Int)).toNat<(words 2 (fadd 2) (fmul 2) G (List.replicate n 0)).length:=by omega
 have hx:(words 2 (fadd 2) (fmul 2) G (List.replicate n 0)).getD (Int.tmod z ((words 2 (fadd 2) (fmul 2) G (List.replicate n 0)).length:Int)).toNat []∈words 2 (fadd 2) (fmul 2) G (List.replicate n 0):=by
  rw [List.getD_eq_getElem?_getD,List.getElem?_eq_getElem hin]
  exact List.getElem_mem _
 exact ⟨hW _ hx,hx⟩
end
section
variable {n:Nat} {G:List (List Int)}
end
end
end Go.Proofs.YticbdgmcofjkeaaGreat.Ai
namespace Go.Proofs.YticbdgmcofjkeaaGreat.Ai
open Go Go.RowKit
noncomputable section
variable {τ:Type} (t:Nat) (nx ex:Nat→LS_→Option τ) (l:LS_) (k κ:Nat→LS_→Option τ)
def L204_11.H:LHead:=⟨false,true,0,28683,28683,31616,15232,0,[(PS.mk (us 7 (pB::(pp 0)::qM::us 1 (qR::pI::pB::pI::us 122 []))) [(oG [pI,pI,qM])])],[((Out.exit 0),(PS.mk (us 7 (pB::(pp 0)::qM::us 1 (qR::pI::pB::us 123 []))) [(oG [pI,pI,qM])]))]⟩
def L204_11.O:Orc P:=⟨[],[],[],40⟩
def L204_11.s0:Option τ :=
 br (ltI (gI l 7) (gN l 1))
 (br (gB l 6)
 (nx 0 [.B (gB l 0),.N (gN l 1),.LL (gLL l 2),.N (gN l 3),.L (gL l 4),.I (gI l 5),.B true,.I (wr .i64 ((gI l 7)+1)),.I (gI l 8),.I (gI l 9),.N (gN l 10),.LL (gLL l 11)])
 (ck (((leI 0 (gI l 7))&&(ltI (gI l 7) (gN l 1)))&&true)
 (ck (ltN ((Int.toNat (gI l 7))*1) (List.length (gLL l 2)))
 (ck (((leI 0 (gI l 5))&&(ltI (gI l 5) (((List.length (List.getD (gLL l 2) ((Int.toNat (gI l 7))*1) [])):Nat):Int)))&&true)
 (ck (ltN ((Int.toNat (gI l 5))*1) (List.length (List.getD (gLL l 2) ((Int.toNat (gI l 7))*1) [])))
 (nx 0 [.B (gB l 0),.N (gN l 1),.LL (gLL l 2),.N (gN l 3),.L (gL l 4),.I (gI l 5),.B ((List.getD (List.getD (gLL l 2) ((Int.toNat (gI l 7))*1) []) ((Int.toNat (gI l 5))*1) 0)==1),.I (wr .i64 ((gI l 7)+1)),.I (gI l 8),.I (gI l 9),.N (gN l 10),.LL (gLL l 11)]))))))
 (ex 0 [.B (gB l 0),.N (gN l 1),.LL (gLL l 2),.N (gN l 3),.L (gL l 4),.I (gI l 5),.B (gB l 6),.I (gI l 8),.I (gI l 9),.N (gN l 10),.LL (gLL l 11)])
theorem L204_11.e0:LEq L204_11.O L204_11.H 0 L204_11.s0:=by intro τ next κ l;kernel_rfl
def L204_11:LStep P Cf:=LStep.mk1 (by decide) L204_11.e0
def L204_11.b:Option τ:=runE L204_11 fuel κ t l
def L204_11.E:LEnt P:=LStep.E L204_11
def L204_19.H:LHead:=⟨false,true,0,28691,28691,244608,113536,0,[(PS.mk (us 7 (pB::(pp 0)::qM::us 1 (qR::pI::pB::us 1 (pI::pB::pI::us 119 [])))) [(oG [pI,pI,qM])])],[((Out.exit 4),(PS.mk (us 7 (pB::(pp 0)::qM::us 1 (qR::pI::pB::us 1 (pI::pB::us 120 [])))) [(oG [pI,pI,qM])]))]⟩
def L204_19.O:Orc P:=⟨[],[],[],40⟩
def L204_19.s0:Option τ :=
 br (ltI (gI l 9) (gN l 1))
 (br (gB l 8)
 (ck (((leI 0 (gI l 9))&&(ltI (gI l 9) (gN l 1)))&&true)
 (ck (ltN ((Int.toNat (gI l 9))*1) (List.length (gLL l 2)))
 (ck (((leI 0 (gI l 5))&&(ltI (gI l 5) (((List.length (List.getD (gLL l 2) ((Int.toNat (gI l 9))*1) [])):Nat):Int)))&&true)
 (ck (ltN ((Int.toNat (gI l 5))*1) (List.length (List.getD (gLL l 2) ((Int.toNat (gI l 9))*1) [])))
 (br ((List.getD (List.getD (gLL l 2) ((Int.toNat (gI l 9))*1) []) ((Int.toNat (gI l 5))*1) 0)==0)
 (nx 0 [.B (gB l 0),.N (gN l 1),.LL (gLL l 2),.N (gN l 3),.L (gL l 4),.I (gI l 5),.B (gB l 6),.I (gI l 7),.B true,.I (wr .i64 ((gI l 9)+1)),.I (gI l 10),.I (gI l 11),.N (gN l 12),.LL (gLL l 13)])
 (ck (((leI 0 (gI l 9))&&(ltI (gI l 9) (gN l 1)))&&true)
 (ck (ltN ((Int.toNat (gI l 9))*1) (List.length (gLL l 2)))
 (ck (((leI 0 (gI l 7))&&(ltI (gI l 7) (((List.length (List.getD (gLL l 2) ((Int.toNat (gI l 9))*1) [])):Nat):Int)))&&true)
 (ck (ltN ((Int.toNat (gI l 7))*1) (List.length (List.getD (gLL l 2) ((Int.toNat (gI l 9))*1) [])))
 (nx 0 [.B (gB l 0),.N (gN l 1),.LL (gLL l 2),.N (gN l 3),.L (gL l 4),.I (gI l 5),.B (gB l 6),.I (gI l 7),.B ((List.getD (List.getD (gLL l 2) ((Int.toNat (gI l 9))*1) []) ((Int.toNat (gI l 7))*1) 0)==1),.I (wr .i64 ((gI l 9)+1)),.I (gI l 10),.I (gI l 11),.N (gN l 12),.LL (gLL l 13)]))))))))))
 (nx 0 [.B (gB l 0),.N (gN l 1),.LL (gLL l 2),.N (gN l 3),.L (gL l 4),.I (gI l 5),.B (gB l 6),.I (gI l 7),.B false,.I (wr .i64 ((gI l 9)+1)),.I (gI l 10),.I (gI l 11),.N (gN l 12),.LL (gLL l 13)]))
 (ex 0 [.B (gB l 0),.N (gN l 1),.LL (gLL l 2),.N (gN l 3),.L (gL l 4),.I (gI l 5),.B (gB l 6),.I (gI l 7),.B (gB l 8),.I (gI l 10),.I (gI l 11),.N (gN l 12),.LL (gLL l 13)])
theorem L204_19.e0:LEq L204_19.O L204_19.H 0 L204_19.s0:=by intro τ next κ l;kernel_rfl
def L204_19:LStep P Cf:=LStep.mk1 (by decide) L204_19.e0
def L204_19.b:Option τ:=runE L204_19 fuel κ t l
def L204_19.E:LEnt P:=LStep.E L204_19
def L204_15.H:LHead:=⟨false,true,0,28687,28687,48000,14720,0,[(PS.mk (us 7 (pB::(pp 0)::qM::us 1 (qR::pI::pB::us 1 (pI::us 121 [])))) [(oG [pI,pI,qM])])],[((Out.exit 2),(PS.mk (us 7 (pB::(pp 0)::us 2 (qR::pI::pB::us 123 []))) [(oG [pI,pI,qM])]))]⟩
def L204_15.O:Orc P:=⟨[],[L204_19.E],[],40⟩
def L204_15.s0:Option τ :=
 br (ltI (gI l 7) (gI l 9))
 (L204_19.b 0 [.B (gB l 0),.N (gN l 1),.LL (gLL l 2),.N (gN l 3),.L (gL l 4),.I (gI l 5),.B (gB l 6),.I (gI l 7),.B true,.I 0,.I (gI l 8),.I (gI l 9),.N (gN l 10),.LL (gLL l 11)]
 (fun j A=>(sw (br (gB A 6)
 (br ((gI A 7)==(gI A 5))
 (nx 0 [.B (gB A 0),.N (gN A 1),.LL (gLL A 2),.N (gN A 3),.L (gL A 4),.I (gI A 5),.B true,.I (wr .i64 ((gI A 7)+1)),.I (gI A 9),.I (gI A 10),.N (gN A 11),.LL (gLL A 12)])
 (nx 0 [.B (gB A 0),.N (gN A 1),.LL (gLL A 2),.N (gN A 3),.L (gL A 4),.I (gI A 5),.B (!(gB A 8)),.I (wr .i64 ((gI A 7)+1)),.I (gI A 9),.I (gI A 10),.N (gN A 11),.LL (gLL A 12)]))
 (nx 0 [.B (gB A 0),.N (gN A 1),.LL (gLL A 2),.N (gN A 3),.L (gL A 4),.I (gI A 5),.B false,.I (wr .i64 ((gI A 7)+1)),.I (gI A 9),.I (gI A 10),.N (gN A 11),.LL (gLL A 12)]))
 (fun _=>none)) j))
 (ex 0 [.B (gB l 0),.N (gN l 3),.L (gL l 4),.I (gI l 5),.B (gB l 6),.I (gI l 8),.I (gI l 9),.N (gN l 10),.LL (gLL l 11)])
theorem L204_15.e0:LEq L204_15.O L204_15.H 0 L204_15.s0:=by intro τ next κ l;kernel_rfl
def L204_15:LStep P Cf:=LStep.mk1 (by decide) L204_15.e0
def L204_15.b:Option τ:=runE L204_15 fuel κ t l
def L204_15.E:LEnt P:=LStep.E L204_15
def F204.ps:List PV2:=[qRaw13,(pK IntKind.u8),(pK IntKind.u16)]
def F204.sh:List PA:=[(PA.mk (PV3.v pB) [])]
def F204.O:Orc P:=⟨[T207.E,T208.E,T33.E,T25.E,T210.E,T213.E,T223.E,T211.E],[L204_11.E,L204_15.E],[],40⟩
def F204:Option τ :=
 T207 []
 (fun j A=>(sw (br (!(gB A 0))
 (k 0 [.B false])
 (ck (((eqM (List.length (gL l 3)) (List.length (gL l 3)))&&true)&&true)
 (T208 [.I (gI l 0),.I (gI l 1),.I (gI l 2),.L (gL l 3)]
 (fun j B=>(sw (ck (((eqM (List.length (gLL B 2)) (List.length (gLL B 2)))&&true)&&true)
 (T33 [.I (gI B 0),.I (gI B 1),.LL (gLL B 2)]
 (fun j C=>(sw (ck (((eqM (List.length (gLL B 2)) (List.length (gLL B 2)))&&true)&&true)
 (T25 [.I (gI B 0),.I (gI B 1),.LL (gLL B 2)]
 (fun j D=>(sw (ck (!((((List.length (gLL D 0)):Nat):Int)==0))
 (ck (((leI 0 (Int.tmod (wr .i64 (gI l 5)) (((List.length (gLL D 0)):Nat):Int)))&&(ltI (Int.tmod (wr .i64 (gI l 5)) (((List.length (gLL D 0)):Nat):Int)) (((List.length (gLL D 0)):Nat):Int)))&&true)
 (ck (ltN ((Int.toNat (Int.tmod (wr .i64 (gI l 5)) (((List.length (gLL D 0)):Nat):Int)))*1) (List.length (gLL D 0)))
 (ck (!((gI B 1)==0))
 (L204_11.b 0 [.B (gB A 0),.N (List.length (gLL C 2)),.LL (gLL C 2),.N (List.length (List.getD (gLL D 0) ((Int.toNat (Int.tmod (wr .i64 (gI l 5)) (((List.length (gLL D 0)):Nat):Int)))*1) [])),.L (List.getD (gLL D 0) ((Int.toNat (Int.tmod (wr .i64 (gI l 5)) (((List.length (gLL D 0)):Nat):Int)))*1) []),.I (Int.tmod (wr .i64 (gI l 4)) (gI B 1)),.B false,.I 0,.I (gI B 0),.I (gI B 1),.N (List.length (gLL B 2)),.LL (gLL B 2)]
 (fun j E=>(sw (L204_15.b 0 [.B (gB E 0),.N (gN E 1),.LL (gLL E 2),.N (gN E 3),.L (gL E 4),.I (gI E 5),.B (gB E 6),.I 0,.I (gI E 7),.I (gI E 8),.N (gN E 9),.LL (gLL E 10)]
 (fun j F=>(sw (ck (((eqM (List.length (gL F 2)) ((gN F 1)*1))&&(leN ((0+(gN F 1))*9) 1099511627776))&&true)
 (ck (((leI 0 (gI F 3))&&(ltI (gI F 3) (((0+(gN F 1)):Nat):Int)))&&true)
 (ck (ltN (0+((Int.toNat (gI F 3))*1)) (List.length ([]++(gL F 2))))
 (ck (((leI 0 (gI F 3))&&(ltI (gI F 3) (((0+(gN F 1)):Nat):Int)))&&true)
 (ck ((leN ((0+((Int.toNat (gI F 3))*1))+1) (List.length ([]++(gL F 2))))&&true)
 (ck (((eqM (gN F 7) (List.length (gLL F 8)))&&true)&&(((eqM (0+(gN F 1)) (List.length (List.take ((0+(gN F 1))*1) (List.drop 0 (List.set ([]++(gL F 2)) (0+((Int.toNat (gI F 3))*1)) (wr .i64 (1-(List.getD ([]++(gL F 2)) (0+((Int.toNat (gI F 3))*1)) 0))))))))&&true)&&true))
 (T210 [.I (gI F 5),.I (gI F 6),.LL (gLL F 8),.L (List.take ((0+(gN F 1))*1) (List.drop 0 (List.set ([]++(gL F 2)) (0+((Int.toNat (gI F 3))*1)) (wr .i64 (1-(List.getD ([]++(gL F 2)) (0+((Int.toNat (gI F 3))*1)) 0)))))),.L []]
 (fun j G=>(sw (br (gB F 0)
 (br ((gI G 3)==0)
 (br (!(gB F 4))
 (k 0 [.B true])
 (ck (((eqM (gN F 7) (List.length (gLL F 8)))&&true)&&(((eqM (List.length (gL G 0)) (List.length (gL G 0)))&&true)&&true))
 (T213 [.I (gI F 5),.I (gI F 6),.LL (gLL F 8),.L (gL G 0),.I (gI G 1),.B (gB G 2)]
 (fun j H=>(sw (ck ((eqM (gN F 1) (List.length (gL F 2)))&&true)
 (T223 [.L (gL F 2),.I 1,.B true]
 (fun j M=>(sw (ck (((eqM (List.length (gL H 0)) (List.length (gL H 0)))&&true)&&(((eqM (List.length (gL M 0)) (List.length (gL M 0)))&&true)&&true))
 (T211 [.L (gL H 0),.I (gI H 1),.B (gB H 2),.I (gI H 3),.L (gL M 0),.I (gI M 1),.B (gB M 2),.I (gI M 3)]
 (fun j N=>(sw (k 0 [.B (gB N 0)])
 (fun _=>none)) j)))
 (fun _=>none)) j)))
 (fun _=>none)) j))))
 (k 0 [.B false]))
 (k 0 [.B false]))
 (fun _=>none)) j))))))))
 (fun _=>none)) j))
 (fun _=>none)) j))))))
 (fun _=>none)) j)))
 (fun _=>none)) j)))
 (fun _=>none)) j))))
 (fun _=>none)) j)
theorem F204.eq:FEq F204.O 7 F204.ps F204.sh F204:=by intro τ l κ;kernel_rfl
def F204.E:Ent P:=mkF F204.eq
end
end Go.Proofs.YticbdgmcofjkeaaGreat.Ai
namespace Go.Proofs.YticbdgmcofjkeaaGreat.Ai
open Go Ma Go.RowKit
noncomputable section
def hb (H:List (List Int)) (k j:Nat):Int:=(H.getD k []).getD j 0
def al0 (H:List (List Int)) (j:Nat):Nat→Bool
 | 0=>false
 | k+1=>al0 H j k || (hb H k j==1)
def ct (H:List (List Int)) (j i:Nat):Nat→Bool
 | 0=>true
 | k+1=>ct H j i k&&(hb H k j==0 || hb H k i==1)
def al1 (H:List (List Int)) (j:Nat) (a:Bool):Nat→Bool
 | 0=>a
 | i+1=>al1 H j a i&&(decide (i=j) || !ct H j i H.length)
theorem al1_inv {H:List (List Int)} {j:Nat} {a:Bool}:∀ m,al1 H j a m=true→a=true∧∀ i,i<m→i≠j→ct H j i H.length=false
 | 0,h=>⟨h,fun i hi=>by omega⟩
 | m+1,h=>by
  simp only [al1,Bool.and_eq_true,Bool.or_eq_true,decide_eq_true_eq,Bool.not_eq_true'] at h
  obtain ⟨h1,h2⟩:=al1_inv m h.1
  refine ⟨h1,fun i hi hne=>?_⟩
  by_cases he:i=m
  ·subst he;exact h.2.resolve_left hne
  ·exact h2 i (by omega) hne
section
variable {n:Nat} {H:List (List Int)} {v:List Int} {j:Nat}
theorem set_get (hl:v.length=n) (hj:j<n) (x:Int) (i:Nat):(v.set j x).getD i 0=if i=j then x else v.getD i 0:=by
 simp only [List.getD_eq_getElem?_getD,List.getElem?_set]
 by_cases he:j=i
 ·subst he;simp [hl,hj]
 ·rw [if_neg he,if_neg (fun e=>he e.symm)]
theorem sN_set (hl:v.length=n) (hj:j<n) (h:List Int):∀ k,sN h (v.set j (1-v.getD j 0)) k=sN h v k+if j<k then h.getD j 0*(1-2*v.getD j 0) else 0
 | 0=>by simp [sN]
 | k+1=>by
  simp only [sN]
  rw [sN_set hl hj h k,set_get hl hj]
  by_cases he:k=j
  ·subst he
   rw [if_neg (Nat.lt_irrefl _),if_pos rfl,if_pos (by omega),Int.mul_sub,Int.mul_sub]
   have:h.getD k 0*(2*v.getD k 0)=h.getD k 0*v.getD k 0+h.getD k 0*v.getD k 0:=by rw [←Int.mul_add];congr 1;omega
   omega
  ·rw [if_neg he]
   by_cases h2:j<k
   ·rw [if_pos h2,if_pos (by omega)];omega
   ·rw [if_neg h2,if_neg (by omega)];omega
theorem fl_set (hl:v.length=n) (hv:Bn v) (hj:j<n) {h:List Int} (hh:Bn h) (hf:fl n h v=false):fl n h (v.set j (1-v.getD j 0))=(h.getD j 0==1):=by
 unfold fl at *
 rw [sN_set hl hj,if_pos hj]
 have hf:¬ sN h v n % 2=1:=by simpa using hf
 have b1:=sN_bnd hh hv n
 rcases hh.bit j with e | e <;> rcases hv.bit j with f | f <;> rw [e,f] <;> simp <;> omega
theorem bl_set (hH:BnL H n) (hl:v.length=n) (hv:Bn v) (hj:j<n) (hf:clean n H v=true) (i:Nat):∀ k,k≤H.length →
  bl n H (v.set j (1-v.getD j 0)) k i≤bl n H (v.set j (1-v.getD j 0)) k j∧(ct H j i k=false→bl n H (v.set j (1-v.getD j 0)) k i<bl n H (v.set j (1-v.getD j 0)) k j)∧(al0 H j k=true→1≤bl n H (v.set j (1-v.getD j 0)) k j)
 | 0,_=>by simp [bl,ct,al0]
 | k+1,hk=>by
  obtain ⟨a,b,c⟩:=bl_set hH hl hv hj hf i k (by omega)
  have hm:H.getD k []∈H:=by rw [List.getD_eq_getElem?_getD,List.getElem?_eq_getElem (by omega)];exact List.getElem_mem _
  have q:fl n (H.getD k []) v=false:=by have:=List.all_eq_true.1 hf _ hm;simpa using this
  have hb2:=(hH _ hm).2
  have b0:=bl_bnd hH (v.set j (1-v.getD j 0)) j k (by omega)
  simp only [bl,ct,al0,hb]
  rw [fl_set hl hv hj hb2 q]
  generalize bl n H (v.set j (1-v.getD j 0)) k i=A at *
  generalize bl n H (v.set j (1-v.getD j 0)) k j=B at *
  rcases hb2.bit j with e | e <;> rcases hb2.bit i with f | f <;> rw [e,f] <;> simp
  ·exact ⟨a,fun h=>b h,fun h=>c h⟩
  ·exact ⟨a,fun h=>b h,fun h=>c h⟩
  ·exact ⟨by omega,by omega,by omega⟩
  ·exact ⟨a,fun h=>b h,by omega⟩
theorem most_ge {b:Nat→Int}:∀ m i,i≤m→b i≤most b m
 | 0,i,h=>by rw [show i=0 by omega];exact Int.le_refl _
 | m+1,i,h=>by
  simp only [most]
  by_cases e:i=m+1
  ·subst e;omega
  ·have:=most_ge (b:=b) m i (by omega);omega
theorem most_le {b:Nat→Int} {c:Int}:∀ m,(∀ i,i≤m→b i≤c)→most b m≤c
 | 0,h=>h 0 (Nat.le_refl _)
 | m+1,h=>by
  have:=most_le m (fun i hi=>h i (by omega))
  have:=h (m+1) (Nat.le_refl _)
  simp only [most];omega
theorem one_turn (hH:BnL H n) (hl:v.length=n) (hv:Bn v) (hj:j<n) (hf:clean n H v=true) (ha:al1 H j (al0 H j H.length) n=true):rounds n H 1 (v.set j (1-v.getD j 0),0)=(v,1):=by
 obtain ⟨h0,h1⟩:=al1_inv n ha
 have key:=fun i=>bl_set hH hl hv hj hf i H.length (Nat.le_refl _)
 have hm:most (bl n H (v.set j (1-v.getD j 0)) H.length) (n-1)=bl n H (v.set j (1-v.getD j 0)) H.length j :=
  Int.le_antisymm (most_le _ fun i _=>(key i).1) (most_ge _ _ (by omega))
 have ht:turn n H (v.set j (1-v.getD j 0))=v:=by
  unfold turn
  rw [hm]
  refine Eq.trans ?_ (hl▸map_self:(List.range n).map (fun i=>v.getD i 0)=v)
  apply List.map_congr_left
  intro i hi
  have hi:=List.mem_range.1 hi
  rw [set_get hl hj]
  by_cases he:i=j
  ·subst he
   rw [if_pos rfl,if_pos rfl];omega
  ·have:=(key i).2.1 (h1 i hi he)
   rw [if_neg (by omega),if_neg he]
 have hc:clean n H (v.set j (1-v.getD j 0))=false:=by
  have ex:∀ k,k≤H.length→al0 H j k=true→∃ t,t<k∧hb H t j=1:=by
   intro k
   induction k with
   | zero=>intro _ h;cases h
   | succ k ih =>
    intro hk h
    simp only [al0,Bool.or_eq_true,beq_iff_eq] at h
    rcases h with h | h
    ·obtain ⟨t,a,b⟩:=ih (by omega) h;exact ⟨t,by omega,b⟩
    ·exact ⟨k,by omega,h⟩
  obtain ⟨t,ht1,ht2⟩:=ex _ (Nat.le_refl _) h0
  have hmem:H.getD t []∈H:=by rw [List.getD_eq_getElem?_getD,List.getElem?_eq_getElem ht1];exact List.getElem_mem _
  have q:fl n (H.getD t []) v=false:=by have:=List.all_eq_true.1 hf _ hmem;simpa using this
  unfold clean
  rw [List.all_eq_false]
  refine ⟨_,hmem,?_⟩
  rw [fl_set hl hv hj (hH _ hmem).2 q]
  unfold hb at ht2
  rw [ht2]
  decide
 simp only [rounds]
 rw [if_pos ⟨by decide,hc⟩,ht]
 rfl
end
section
variable {n:Nat} {G H:List (List Int)} {v:List Int} {j:Nat}
theorem L204_11_spec (hH:BnL H n) (hs:H.length≤10) (hj:j<n) (u:Bool) (q m:Int) {τ:Type} (κ:Nat→LS_→Option τ) :
  L204_11.b 0 [.B u,.N H.length,.LL H,.N v.length,.L v,.I (j:Nat),.B false,.I 0,.I q,.I m,.N G.length,.LL G] κ=κ 0 [.B u,.N H.length,.LL H,.N v.length,.L v,.I (j:Nat),.B (al0 H j H.length),.I q,.I m,.N G.length,.LL G]:=by
 unfold L204_11.b
 refine run_for L204_11 L204_11.s0 0 (fun _ _ _=>rfl) _ (fun k=>[.B u,.N H.length,.LL H,.N v.length,.L v,.I (j:Nat),.B (al0 H j k),.I (k:Nat),.I q,.I m,.N G.length,.LL G]) H.length _ (by omega) (fun k hk next=>?_) (fun next=>?_)
 ·have g1:=(hH.get hk).1
  unfold L204_11.s0
  simp only [g_,Int.toNat_natCast,Nat.mul_one]
  rw [br_of (by simp;omega),wsucc (by omega)]
  simp only [al0,hb]
  cases al0 H j k with
  | true=>rw [br_of rfl];rfl
  | false=>rw [br_no rfl,ck_of (by simp;omega),ck_of (by simpa using hk),ck_of (by simp only [g1];simp;omega),ck_of (by simp only [g1];simpa using hj)];rfl
 ·unfold L204_11.s0
  simp only [g_]
  rw [br_no (by simp)]
theorem L204_19_spec (hH:BnL H n) (hs:H.length≤10) (hj:j<n) (u a:Bool) {i:Nat} (hi:i<n) (q m:Int) {τ:Type} (κ:Nat→LS_→Option τ) :
  L204_19.b 0 [.B u,.N H.length,.LL H,.N v.length,.L v,.I (j:Nat),.B a,.I (i:Nat),.B true,.I 0,.I q,.I m,.N G.length,.LL G] κ=κ 0 [.B u,.N H.length,.LL H,.N v.length,.L v,.I (j:Nat),.B a,.I (i:Nat),.B (ct H j i H.length),.I q,.I m,.N G.length,.LL G]:=by
 unfold L204_19.b
 refine run_for L204_19 L204_19.s0 0 (fun _ _ _=>rfl) _ (fun k=>[.B u,.N H.length,.LL H,.N v.length,.L v,.I (j:Nat),.B a,.I (i:Nat),.B (ct H j i k),.I (k:Nat),.I q,.I m,.N G.length,.LL G]) H.length _ (by omega) (fun k hk next=>?_) (fun next=>?_)
 ·have g1:=(hH.get hk).1
  unfold L204_19.s0
  simp only [g_,Int.toNat_natCast,Nat.mul_one]
  rw [br_of (by simp;omega),wsucc (by omega)]
  simp only [ct,hb]
  cases ct H j i k with
  | false=>rw [br_no rfl];rfl
  | true =>
   rw [br_of rfl,ck_of (by simp;omega),ck_of (by simpa using hk),ck_of (by simp only [g1];simp;omega),ck_of (by simp only [g1];simpa using hj)]
   cases (H.getD k []).getD j 0==0 with
   | true=>rw [br_of rfl];rfl
   | false=>rw [br_no rfl,ck_of (by simp;omega),ck_of (by simpa using hk),ck_of (by simp only [g1];simp;omega),ck_of (by simp only [g1];simpa using hi)];rfl
 ·unfold L204_19.s0
  simp only [g_]
  rw [br_no (by simp)]
theorem L204_15_spec (hH:BnL H n) (hs:H.length≤10) (hn:n≤10) (hj:j<n) (u a:Bool) (q:Int) {τ:Type} (κ:Nat→LS_→Option τ) :
  L204_15.b 0 [.B u,.N H.length,.LL H,.N v.length,.L v,.I (j:Nat),.B a,.I 0,.I q,.I n,.N G.length,.LL G] κ=κ 0 [.B u,.N v.length,.L v,.I (j:Nat),.B (al1 H j a n),.I q,.I n,.N G.length,.LL G]:=by
 unfold L204_15.b
 refine run_for L204_15 L204_15.s0 0 (fun _ _ _=>rfl) _ (fun i=>[.B u,.N H.length,.LL H,.N v.length,.L v,.I (j:Nat),.B (al1 H j a i),.I (i:Nat),.I q,.I n,.N G.length,.LL G]) n _ (by omega) (fun i hi next=>?_) (fun next=>?_)
 ·unfold L204_15.s0
  simp only [g_]
  rw [br_of (by simp;omega),L204_19_spec hH hs hj _ _ hi]
  simp only [g_,sw_zero,al1]
  rw [wsucc (by omega)]
  cases al1 H j a i with
  | false=>rw [br_no rfl];rfl
  | true =>
   rw [br_of rfl]
   by_cases he:i=j
   ·rw [br_of (by simp [he])];simp [he]
   ·rw [br_no (by simp;omega)];simp [he]
 ·unfold L204_15.s0
  simp only [g_]
  rw [br_no (by simp)]
theorem T33_two (h:Lc 2 n G) {τ:Type} (k:Nat→LS_→Option τ):T33 [.I 2,.I n,.LL G] k=k 0 [.I 2,.I n,.LL (dualR 2 n G)]:=T33_spec h k
end
set_option maxRecDepth 100000 in
theorem F204_true {ls:LS_} (h:okLs [.int .u8,.int .u8,.int .u8,.arr (.i .u8),.int .u8,.int .u16] ls) {τ:Type} (k:Nat→LS_→Option τ):F204 ls k=k 0 [.B true]:=by
 obtain ⟨Q,N,K,L,l1,rfl,hQ,hN,hK,hL,h1⟩:=raw13 h
 obtain ⟨x1,l2,rfl,a1,h2⟩:=okLs_cons h1
 obtain ⟨a,rfl,ba⟩:=ok_int a1
 obtain ⟨x2,l3,rfl,a2,h3⟩:=okLs_cons h2
 obtain ⟨z,rfl,b0⟩:=ok_int a2
 obtain rfl:=okLs_nil h3
 have b0:=wf_u16 b0
 have ba:=wf_u8 ba
 obtain ⟨n,G,C,hT8⟩:=T208_spec hQ hN hK hL
 obtain ⟨i,hi,hin,hv,hs⟩:=pick_word C b0.1
 have lc:=C.lc
 have n1:=C.n0
 have hn:=C.n1
 obtain ⟨hB,hl⟩:=chk_bn lc hn
 have e0:wr .i64 z=z:=wr64 (by omega) (by omega)
 have e1:wr .i64 a=a:=wr64 (by omega) (by omega)
 obtain ⟨j,hj,jn⟩:∃ j:Nat,Int.tmod a (n:Int)=j∧j<n:=by
  have:=tmod_in (a:=a) (b:=(n:Int)) ba.1 (by omega)
  exact ⟨(Int.tmod a n).toNat,by omega,by omega⟩
 have hcnt:=C.count
 unfold F204 T207
 rw [F207_true]
 simp only [g_,sw_zero]
 rw [br_no (b:=!true) rfl,ck_of (by simp),hT8]
 simp only [g_,sw_zero]
 rw [ck_of (by simp),T33_two lc]
 simp only [g_,sw_zero]
 rw [ck_of (by simp),T25_two C]
 simp only [g_,sw_zero,e0,e1]
 generalize (words 2 (fadd 2) (fmul 2) G (List.replicate n 0))=V at *
 rw [hi,hj]
 simp only [Int.toNat_natCast,Nat.mul_one]
 generalize V.getD i []=v at *
 have vl:=hv.1
 have vb:Bn v:=.of hv
 have cv:clean n (dualR 2 n G) v=true:=(clean_iff lc hn hv).2 hs
 have wd:Wd 2 n (v.set j (1-v.getD j 0)):=wd_set hv jn (by rcases vb.bit j with e | e <;> rw [e] <;> decide) (by rcases vb.bit j with e | e <;> rw [e] <;> decide)
 have R:Rc n G (v.set j (1-v.getD j 0)) []:=⟨C,wd,isGone_iff.2 fun i _ h=>by simp at h⟩
 have st:=R.start (τ:=τ)
 rw [zer_nil wd.1] at st
 have e2:wr .i64 ((1:Int)-v.getD j 0)=1-v.getD j 0:=by rcases vb.bit j with e | e <;> rw [e] <;> decide
 have next:=fun (s:List Int×Int) (w1:s.1.length=n) (w2:Bn s.1) (r0:0≤s.2) (r1:s.2≤1000) (hx:¬ (s.2=1000∧clean n (dualR 2 n G) s.1=false)) (k:Nat→LS_→Option τ)=>next_ok lc n1 hn w1 w2 r0 r1 hx k
 have one:=one_turn (j:=j) hB vl vb jn cv
 generalize dualR 2 n G=H at *
 rw [ck_of (by rw [Bool.not_eq_true',beq_eq_false_iff_ne];omega),ck_of (by simp;omega),ck_of (by simpa using hin),ck_of (by rw [Bool.not_eq_true',beq_eq_false_iff_ne];omega),L204_11_spec hB hl jn]
 simp only [g_,sw_zero]
 rw [L204_15_spec hB hl hn jn]
 simp only [g_,sw_zero,Int.toNat_natCast,Nat.mul_one,Nat.zero_add,List.nil_append,List.drop_zero,e2]
 have tk:List.take v.length (v.set j (1-v.getD j 0))=v.set j (1-v.getD j 0):=List.take_of_length_le (by simp)
 rw [ck_of (by simp;omega),ck_of (by simp;omega),ck_of (by simp;omega),ck_of (by simp;omega),ck_of (by simp;omega),tk,ck_of (by simp),st]
 simp only [g_,sw_zero]
 rw [br_of rfl,br_of (by rfl)]
 cases ha:al1 H j (al0 H j H.length) n with
 | false=>rw [br_of (b:=!false) rfl]
 | true =>
  rw [br_no (b:=!true) rfl,ck_of (by simp),next (v.set j (1-v.getD j 0),0) wd.1 (.of wd) (Int.le_refl _) (show (0:Int)≤1000 by decide) (by simp),one ha]
  simp only [g_,sw_zero]
  rw [ck_of (by simp),T223_spec]
  simp only [g_,sw_zero]
  rw [ck_of (by simp),T211_spec (by omega),cv]
  simp
theorem law204 (ls:LS_) (h:okLs ([PV2.agg [.int .u8,.int .u8,.int .u8,.arr (.i .u8)],PV2.v (.int .u8),PV2.v (.int .u16)].flatMap cells2) ls):CS P 7 (fL2 ls [PV2.agg [.int .u8,.int .u8,.int .u8,.arr (.i .u8)],PV2.v (.int .u8),PV2.v (.int .u16)] 0) ⟨.bool true,[]⟩ :=
 F_ok F204.eq ((F204_true h _).trans (by kernel_rfl))
end
end Go.Proofs.YticbdgmcofjkeaaGreat.Ai
