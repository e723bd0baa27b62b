/-
Part 7 of 7 of the texts for one claim: Xvd Xve Xvc Fl2 Fl3 Fl4 Fl5 Fl6 Fl7 Fl8 Xq Xm Wl Wm Xu Wp Fl9 Xw207 FlA Xw201 FlB Xw203 Xw205 FlC FlF FlG Qac Xw200 FlH.
-/
import Derived.Test.YticbdgmcofjkeaaGreatFj6
set_option linter.unusedVariables false
set_option linter.unusedSimpArgs false
namespace Go.Proofs.YticbdgmcofjkeaaGreat.Ai
open Go Go.RowKit
noncomputable section
variable {τ:Type} (t:Nat) (nx ex:Nat→LS_→Option τ) (l:LS_) (k κ:Nat→LS_→Option τ)
def L274_3.H:LHead:=⟨false,true,0,421891,421891,99,32,0,[(PS.mk (qR::qR::us 3 (pI::pI::us 20 [])) [])],[((Out.exit 0),(PS.mk (us 5 (pI::us 21 [])) []))]⟩
def L274_3.O:Orc P:=⟨[],[],[],40⟩
def L274_3.s0:Option τ :=
 br (ltI (gI l 5) (gN l 2))
 (ck (((leI 0 (gI l 5))&&(ltI (gI l 5) (gN l 0)))&&true)
 (ck (ltN ((Int.toNat (gI l 5))*1) (List.length (gL l 1)))
 (ck (((leI 0 (gI l 5))&&(ltI (gI l 5) (gN l 2)))&&true)
 (ck (ltN ((Int.toNat (gI l 5))*1) (List.length (gL l 3)))
 (nx 0 [.N (gN l 0),.L (gL l 1),.N (gN l 2),.L (gL l 3),.I (wr .i64 ((gI l 4)+(wr .i64 ((List.getD (gL l 1) ((Int.toNat (gI l 5))*1) 0)*(List.getD (gL l 3) ((Int.toNat (gI l 5))*1) 0))))),.I (wr .i64 ((gI l 5)+1))])))))
 (ex 0 [.I (gI l 4)])
theorem L274_3.e0:LEq L274_3.O L274_3.H 0 L274_3.s0:=by intro τ next κ l;kernel_rfl
def L274_3:LStep P Cf:=LStep.mk1 (by decide) L274_3.e0
def L274_3.b:Option τ:=runE L274_3 fuel κ t l
def L274_3.E:LEnt P:=LStep.E L274_3
def F274.ps:List PV2:=[pR,pR]
def F274.sh:List PA:=[(PA.mk (PV3.v pB) [])]
def F274.O:Orc P:=⟨[],[L274_3.E],[],40⟩
def F274:Option τ :=
 L274_3.b 0 [.N (List.length (gL l 0)),.L (gL l 0),.N (List.length (gL l 1)),.L (gL l 1),.I 0,.I 0]
 (fun j A=>(sw (k 0 [.B ((Int.tmod (gI A 0) 2)==1)])
 (fun _=>none)) j)
theorem F274.eq:FEq F274.O 103 F274.ps F274.sh F274:=by intro τ l κ;kernel_rfl
def F274.E:Ent P:=mkF F274.eq
def L252_2.H:LHead:=⟨false,true,0,266242,266242,51,16,0,[(PS.mk (qM::qR::us 2 (pB::pI::us 12 [])) [])],[(Out.ret,(PS.mk (us 4 (pB::us 13 [])) [])),((Out.exit 0),(PS.mk (us 4 (pB::us 13 [])) []))]⟩
def L252_2.O:Orc P:=⟨[F274.E],[],[],40⟩
def L252_2.s0:Option τ :=
 br (ltI (gI l 5) (gN l 0))
 (ck (((leI 0 (gI l 5))&&(ltI (gI l 5) (gN l 0)))&&true)
 (ck (ltN ((Int.toNat (gI l 5))*1) (List.length (gLL l 1)))
 (ck ((eqM (List.length (List.getD (gLL l 1) ((Int.toNat (gI l 5))*1) [])) (List.length (List.getD (gLL l 1) ((Int.toNat (gI l 5))*1) [])))&&((eqM (gN l 2) (List.length (gL l 3)))&&true))
 (F274 [.L (List.getD (gLL l 1) ((Int.toNat (gI l 5))*1) []),.L (gL l 3)]
 (fun j A=>(sw (br (gB A 0)
 (ex 0 [.B false])
 (nx 0 [.N (gN l 0),.LL (gLL l 1),.N (gN l 2),.L (gL l 3),.B (gB l 4),.I (wr .i64 ((gI l 5)+1))]))
 (fun _=>none)) j)))))
 (ex 1 [.B (gB l 4)])
theorem L252_2.e0:LEq L252_2.O L252_2.H 0 L252_2.s0:=by intro τ next κ l;kernel_rfl
def L252_2:LStep P Cf:=LStep.mk1 (by decide) L252_2.e0
def L252_2.b:Option τ:=runE L252_2 fuel κ t l
def L252_2.E:LEnt P:=LStep.E L252_2
def F252.ps:List PV2:=[pM,pR]
def F252.sh:List PA:=[(PA.mk (PV3.v pB) [])]
def F252.O:Orc P:=⟨[],[L252_2.E],[],40⟩
def F252:Option τ :=
 L252_2.b 0 [.N (List.length (gLL l 0)),.LL (gLL l 0),.N (List.length (gL l 1)),.L (gL l 1),.B false,.I 0]
 (fun j A=>(sw (k 0 [.B (gB A 0)])
 (sw (k 0 [.B true])
 (fun _=>none))) j)
theorem F252.eq:FEq F252.O 65 F252.ps F252.sh F252:=by intro τ l κ;kernel_rfl
def F252.E:Ent P:=mkF F252.eq
def F217.ps:List PV2:=[(PV2.agg [iI,iI,aM]),pR]
def F217.sh:List PA:=[(PA.mk (PV3.v pB) [])]
def F217.O:Orc P:=⟨[T33.E,F252.E],[],[],40⟩
def F217:Option τ :=
 ck (((eqM (List.length (gLL l 2)) (List.length (gLL l 2)))&&true)&&true)
 (T33 [.I (gI l 0),.I (gI l 1),.LL (gLL l 2)]
 (fun j A=>(sw (ck ((eqM (List.length (gLL A 2)) (List.length (gLL A 2)))&&((eqM (List.length (gL l 3)) (List.length (gL l 3)))&&true))
 (F252 [.LL (gLL A 2),.L (gL l 3)]
 (fun j B=>(sw (k 0 [.B (gB B 0)])
 (fun _=>none)) j)))
 (fun _=>none)) j))
theorem F217.eq:FEq F217.O 22 F217.ps F217.sh F217:=by intro τ l κ;kernel_rfl
def F217.E:Ent P:=mkF F217.eq
def F249.ps:List PV2:=[(PV2.agg [iI,iI,aM]),(PV2.agg [aI,iI,PV1.bool])]
def F249.sh:List PA:=[(PA.mk (PV3.v pB) [])]
def F249.O:Orc P:=⟨[F31.E,F217.E],[],[],40⟩
def F249:Option τ :=
 br ((gI l 0)==2)
 (ck ((eqM (List.length (gL l 3)) (List.length (gL l 3)))&&true)
 (F31 [.I 2,.I (gI l 1),.L (gL l 3)]
 (fun j A=>(sw (br (gB A 0)
 (br (geI (gI l 4) 0)
 (br (leI (gI l 4) 1000)
 (ck (((eqM (List.length (gLL l 2)) (List.length (gLL l 2)))&&true)&&((eqM (List.length (gL l 3)) (List.length (gL l 3)))&&true))
 (F217 [.I (gI l 0),.I (gI l 1),.LL (gLL l 2),.L (gL l 3)]
 (fun j B=>(sw (k 0 [.B ((gB l 5)==(gB B 0))])
 (fun _=>none)) j)))
 (k 0 [.B false]))
 (k 0 [.B false]))
 (k 0 [.B false]))
 (fun _=>none)) j)))
 (k 0 [.B false])
theorem F249.eq:FEq F249.O 62 F249.ps F249.sh F249:=by intro τ l κ;kernel_rfl
def F249.E:Ent P:=mkF F249.eq
def L270_7.H:LHead:=⟨false,true,0,405511,405511,227,99,0,[(PS.mk (qM::qR::us 3 ((rr 0)::pI::pI::us 36 [])) [oI])],[((Out.exit 2),(PS.mk (qM::qR::us 3 ((rr 0)::pI::us 37 [])) [oI]))]⟩
def L270_7.O:Orc P:=⟨[],[],[],40⟩
def L270_7.s0:Option τ :=
 br (ltI (gI l 6) (gN l 2))
 (ck (((leI 0 (gI l 6))&&(ltI (gI l 6) (gN l 4)))&&true)
 (ck (ltN (0+((Int.toNat (gI l 6))*1)) (List.length (gL l 7)))
 (ck (((leI 0 (gI l 5))&&(ltI (gI l 5) (gN l 0)))&&true)
 (ck (ltN ((Int.toNat (gI l 5))*1) (List.length (gLL l 1)))
 (ck (((leI 0 (gI l 6))&&(ltI (gI l 6) (((List.length (List.getD (gLL l 1) ((Int.toNat (gI l 5))*1) [])):Nat):Int)))&&true)
 (ck (ltN ((Int.toNat (gI l 6))*1) (List.length (List.getD (gLL l 1) ((Int.toNat (gI l 5))*1) [])))
 (ck (((leI 0 (gI l 6))&&(ltI (gI l 6) (gN l 4)))&&true)
 (ck ((leN ((0+((Int.toNat (gI l 6))*1))+1) (List.length (gL l 7)))&&true)
 (nx 0 [.N (gN l 0),.LL (gLL l 1),.N (gN l 2),.L (gL l 3),.N (gN l 4),.I (gI l 5),.I (wr .i64 ((gI l 6)+1)),.L (List.set (gL l 7) (0+((Int.toNat (gI l 6))*1)) (wr .i64 ((List.getD (gL l 7) (0+((Int.toNat (gI l 6))*1)) 0)+(List.getD (List.getD (gLL l 1) ((Int.toNat (gI l 5))*1) []) ((Int.toNat (gI l 6))*1) 0))))])))))))))
 (ex 0 [.N (gN l 0),.LL (gLL l 1),.N (gN l 2),.L (gL l 3),.N (gN l 4),.I (gI l 5),.L (gL l 7)])
theorem L270_7.e0:LEq L270_7.O L270_7.H 0 L270_7.s0:=by intro τ next κ l;kernel_rfl
def L270_7:LStep P Cf:=LStep.mk1 (by decide) L270_7.e0
def L270_7.b:Option τ:=runE L270_7 fuel κ t l
def L270_7.E:LEnt P:=LStep.E L270_7
def L270_3.H:LHead:=⟨false,true,0,405507,405507,99,32,0,[(PS.mk (qM::qR::us 3 ((rr 0)::pI::us 37 [])) [oI])],[((Out.exit 0),(PS.mk (us 5 ((rr 0)::us 38 [])) [oI]))]⟩
def L270_3.O:Orc P:=⟨[F274.E],[L270_7.E],[],40⟩
def L270_3.s0:Option τ :=
 br (ltI (gI l 5) (gN l 0))
 (ck (((leI 0 (gI l 5))&&(ltI (gI l 5) (gN l 0)))&&true)
 (ck (ltN ((Int.toNat (gI l 5))*1) (List.length (gLL l 1)))
 (ck ((eqM (List.length (List.getD (gLL l 1) ((Int.toNat (gI l 5))*1) [])) (List.length (List.getD (gLL l 1) ((Int.toNat (gI l 5))*1) [])))&&((eqM (gN l 2) (List.length (gL l 3)))&&true))
 (F274 [.L (List.getD (gLL l 1) ((Int.toNat (gI l 5))*1) []),.L (gL l 3)]
 (fun j A=>(sw (br (!(gB A 0))
 (nx 0 [.N (gN l 0),.LL (gLL l 1),.N (gN l 2),.L (gL l 3),.N (gN l 4),.I (wr .i64 ((gI l 5)+1)),.L (gL l 6)])
 (L270_7.b 0 [.N (gN l 0),.LL (gLL l 1),.N (gN l 2),.L (gL l 3),.N (gN l 4),.I (gI l 5),.I 0,.L (gL l 6)]
 (fun j B=>(sw (nx 0 [.N (gN B 0),.LL (gLL B 1),.N (gN B 2),.L (gL B 3),.N (gN B 4),.I (wr .i64 ((gI B 5)+1)),.L (gL B 6)])
 (fun _=>none)) j)))
 (fun _=>none)) j)))))
 (ex 0 [.N (gN l 4),.L (gL l 6)])
theorem L270_3.e0:LEq L270_3.O L270_3.H 0 L270_3.s0:=by intro τ next κ l;kernel_rfl
def L270_3:LStep P Cf:=LStep.mk1 (by decide) L270_3.e0
def L270_3.b:Option τ:=runE L270_3 fuel κ t l
def L270_3.E:LEnt P:=LStep.E L270_3
def F270.ps:List PV2:=[pM,pR]
def F270.sh:List PA:=[(PA.mk (PV3.v (rr 0)) [cI])]
def F270.O:Orc P:=⟨[],[L270_3.E],[],40⟩
def F270:Option τ :=
 ck (((leI 0 (List.length (gL l 1)))&&(leI (((List.length (gL l 1)):Nat):Int) (((List.length (gL l 1)):Nat):Int)))&&(leI ((((List.length (gL l 1)):Nat):Int)*9) 1099511627776))
 (L270_3.b 0 [.N (List.length (gLL l 0)),.LL (gLL l 0),.N (List.length (gL l 1)),.L (gL l 1),.N (Int.toNat (((List.length (gL l 1)):Nat):Int)),.I 0,.L (List.replicate (Int.toNat (((List.length (gL l 1)):Nat):Int)) (0:Int))]
 (fun j A=>(sw (k 0 [.N (gN A 0),.L (gL A 1)])
 (fun _=>none)) j))
theorem F270.eq:FEq F270.O 99 F270.ps F270.sh F270:=by intro τ l κ;kernel_rfl
def F270.E:Ent P:=mkF F270.eq
def L250_4.H:LHead:=⟨false,true,0,258052,258052,249,121,0,[(PS.mk (qM::us 2 ((pp 0)::(pp 1)::(rr 2)::pI::pI::us 50 [])) [(oG [qR,pI,pB]),(oG [nS,pI,pB]),oI])],[((Out.exit 0),(PS.mk (qM::us 2 ((pp 0)::(pp 1)::(rr 2)::pI::us 51 [])) [(oG [qR,pI,pB]),(oG [nS,pI,pB]),oI]))]⟩
def L250_4.O:Orc P:=⟨[],[],[],40⟩
def L250_4.s0:Option τ :=
 br (ltI (gI l 4) (gN l 2))
 (ck (((leI 0 (gI l 4))&&(ltI (gI l 4) (gN l 2)))&&true)
 (ck (ltN (0+((Int.toNat (gI l 4))*1)) (List.length (gL l 11)))
 (nx 0 [.N (gN l 0),.LL (gLL l 1),.N (gN l 2),.I (max (gI l 3) (List.getD (gL l 11) (0+((Int.toNat (gI l 4))*1)) 0)),.I (wr .i64 ((gI l 4)+1)),.N (gN l 5),.L (gL l 6),.I (gI l 7),.B (gB l 8),.I (gI l 9),.B (gB l 10),.L (gL l 11)])))
 (ex 0 [.N (gN l 0),.LL (gLL l 1),.N (gN l 2),.I (gI l 3),.N (gN l 5),.L (gL l 6),.I (gI l 7),.B (gB l 8),.I (gI l 9),.B (gB l 10),.L (gL l 11)])
theorem L250_4.e0:LEq L250_4.O L250_4.H 0 L250_4.s0:=by intro τ next κ l;kernel_rfl
def L250_4:LStep P Cf:=LStep.mk1 (by decide) L250_4.e0
def L250_4.b:Option τ:=runE L250_4 fuel κ t l
def L250_4.E:LEnt P:=LStep.E L250_4
def L250_9.H:LHead:=⟨false,true,0,258057,258057,889,281,0,[(PS.mk (qM::us 2 ((pp 0)::(pp 1)::(rr 2)::pI::us 1 ((rr 3)::pI::us 48 []))) [(oG [qR,pI,pB]),(oG [nS,pI,pB]),oI,oI])],[((Out.exit 2),(PS.mk (qM::us 2 ((pp 0)::(pp 1)::us 3 ((rr 2)::us 49 []))) [(oG [qR,pI,pB]),(oG [nS,pI,pB]),oI]))]⟩
def L250_9.O:Orc P:=⟨[],[],[],40⟩
def L250_9.s0:Option τ :=
 br (ltI (gI l 5) (gN l 4))
 (ck (((leI 0 (gI l 5))&&(ltI (gI l 5) (gN l 2)))&&true)
 (ck (ltN (0+((Int.toNat (gI l 5))*1)) (List.length (gL l 12)))
 (br ((List.getD (gL l 12) (0+((Int.toNat (gI l 5))*1)) 0)==(gI l 3))
 (ck (((leI 0 (gI l 5))&&(ltI (gI l 5) (gN l 4)))&&true)
 (ck (ltN (0+((Int.toNat (gI l 5))*1)) (List.length (gL l 13)))
 (ck (((leI 0 (gI l 5))&&(ltI (gI l 5) (gN l 4)))&&true)
 (ck ((leN ((0+((Int.toNat (gI l 5))*1))+1) (List.length (gL l 13)))&&true)
 (nx 0 [.N (gN l 0),.LL (gLL l 1),.N (gN l 2),.I (gI l 3),.N (gN l 4),.I (wr .i64 ((gI l 5)+1)),.N (gN l 6),.L (gL l 7),.I (gI l 8),.B (gB l 9),.I (gI l 10),.B (gB l 11),.L (gL l 12),.L (List.set (gL l 13) (0+((Int.toNat (gI l 5))*1)) (wr .i64 (1-(List.getD (gL l 13) (0+((Int.toNat (gI l 5))*1)) 0))))])))))
 (nx 0 [.N (gN l 0),.LL (gLL l 1),.N (gN l 2),.I (gI l 3),.N (gN l 4),.I (wr .i64 ((gI l 5)+1)),.N (gN l 6),.L (gL l 7),.I (gI l 8),.B (gB l 9),.I (gI l 10),.B (gB l 11),.L (gL l 12),.L (gL l 13)]))))
 (ex 0 [.N (gN l 0),.LL (gLL l 1),.N (gN l 4),.N (gN l 6),.L (gL l 7),.I (gI l 8),.B (gB l 9),.I (gI l 10),.B (gB l 11),.L (gL l 13)])
theorem L250_9.e0:LEq L250_9.O L250_9.H 0 L250_9.s0:=by intro τ next κ l;kernel_rfl
def L250_9:LStep P Cf:=LStep.mk1 (by decide) L250_9.e0
def L250_9.b:Option τ:=runE L250_9 fuel κ t l
def L250_9.E:LEnt P:=LStep.E L250_9
def F250.ps:List PV2:=[pM,(PV2.agg [aI,iI,PV1.bool])]
def F250.sh:List PA:=[(PA.mk (PV3.v (PV2.agg [(r1 0),iI,PV1.bool])) [cI])]
def F250.O:Orc P:=⟨[F270.E,F252.E],[L250_4.E,L250_9.E],[],40⟩
def F250:Option τ :=
 ck ((eqM (List.length (gLL l 0)) (List.length (gLL l 0)))&&((eqM (List.length (gL l 1)) (List.length (gL l 1)))&&true))
 (F270 [.LL (gLL l 0),.L (gL l 1)]
 (fun j A=>(sw (L250_4.b 0 [.N (List.length (gLL l 0)),.LL (gLL l 0),.N (gN A 0),.I 0,.I 0,.N (List.length (gL l 1)),.L (gL l 1),.I (gI l 2),.B (gB l 3),.I 0,.B false,.L (gL A 1)]
 (fun j B=>(sw (ck (((eqM (List.length (gL B 5)) ((gN B 4)*1))&&(leN ((0+(gN B 4))*9) 1099511627776))&&true)
 (L250_9.b 0 [.N (gN B 0),.LL (gLL B 1),.N (gN B 2),.I (gI B 3),.N (0+(gN B 4)),.I 0,.N (gN B 4),.L (gL B 5),.I (gI B 6),.B (gB B 7),.I (gI B 8),.B (gB B 9),.L (gL B 10),.L ([]++(gL B 5))]
 (fun j C=>(sw (ck ((eqM (gN C 0) (List.length (gLL C 1)))&&((eqM (gN C 2) (List.length (List.take ((gN C 2)*1) (List.drop 0 (gL C 9)))))&&true))
 (F252 [.LL (gLL C 1),.L (List.take ((gN C 2)*1) (List.drop 0 (gL C 9)))]
 (fun j D=>(sw (k 0 [.N (gN C 2),.I (wr .i64 ((gI C 5)+1)),.B (gB D 0),.L (gL C 9)])
 (fun _=>none)) j)))
 (fun _=>none)) j)))
 (fun _=>none)) j))
 (fun _=>none)) j))
theorem F250.eq:FEq F250.O 63 F250.ps F250.sh F250:=by intro τ l κ;kernel_rfl
def F250.E:Ent P:=mkF F250.eq
def F214.ps:List PV2:=[pCode,qFlip]
def F214.sh:List PA:=[(PA.mk (PV3.v (PV2.agg [PV1.nilS,iI,PV1.bool,iI])) []),(PA.mk (PV3.v (PV2.agg [(PV1.sl (PC0.i .i64)),iI,PV1.bool,iI])) []),(PA.mk (PV3.v (PV2.agg [(r1 0),iI,PV1.bool,iI])) [cI])]
def F214.O:Orc P:=⟨[F249.E,T33.E,F250.E],[],[],40⟩
def F214:Option τ :=
 ck (((eqM (List.length (gLL l 2)) (List.length (gLL l 2)))&&true)&&(((eqM (List.length (gL l 3)) (List.length (gL l 3)))&&true)&&true))
 (F249 [.I (gI l 0),.I (gI l 1),.LL (gLL l 2),.L (gL l 3),.I (gI l 4),.B (gB l 5)]
 (fun j A=>(sw (br (!(gB A 0))
 (k 0 [.I 0,.B false,.I 1])
 (br ((gI l 4)==1000)
 (br (!(gB l 5))
 (k 0 [.I 0,.B false,.I 1])
 (br (gB l 5)
 (k 1 [.N (List.length (gL l 3)),.L (gL l 3),.I (gI l 4),.B (gB l 5),.I 0])
 (ck (((eqM (List.length (gLL l 2)) (List.length (gLL l 2)))&&true)&&true)
 (T33 [.I (gI l 0),.I (gI l 1),.LL (gLL l 2)]
 (fun j B=>(sw (ck ((eqM (List.length (gLL B 2)) (List.length (gLL B 2)))&&(((eqM (List.length (gL l 3)) (List.length (gL l 3)))&&true)&&true))
 (F250 [.LL (gLL B 2),.L (gL l 3),.I (gI l 4),.B (gB l 5)]
 (fun j C=>(sw (k 2 [.N (gN C 0),.I (gI C 1),.B (gB C 2),.I 0,.L (gL C 3)])
 (fun _=>none)) j)))
 (fun _=>none)) j)))))
 (br (gB l 5)
 (k 1 [.N (List.length (gL l 3)),.L (gL l 3),.I (gI l 4),.B (gB l 5),.I 0])
 (ck (((eqM (List.length (gLL l 2)) (List.length (gLL l 2)))&&true)&&true)
 (T33 [.I (gI l 0),.I (gI l 1),.LL (gLL l 2)]
 (fun j B=>(sw (ck ((eqM (List.length (gLL B 2)) (List.length (gLL B 2)))&&(((eqM (List.length (gL l 3)) (List.length (gL l 3)))&&true)&&true))
 (F250 [.LL (gLL B 2),.L (gL l 3),.I (gI l 4),.B (gB l 5)]
 (fun j C=>(sw (k 2 [.N (gN C 0),.I (gI C 1),.B (gB C 2),.I 0,.L (gL C 3)])
 (fun _=>none)) j)))
 (fun _=>none)) j))))))
 (fun _=>none)) j))
theorem F214.eq:FEq F214.O 18 F214.ps F214.sh F214:=by intro τ l κ;kernel_rfl
def F214.E:Ent P:=mkF F214.eq
def L216_5.H:LHead:=⟨false,true,0,81925,81925,468,80,0,[(PS.mk (us 2 (pI::us 1 ((pp 0)::us 1 ((pp 1)::qM::pI::us 28 [])))) [(oG [qR,pI,pB]),(oG [nS,pI,pB,pI])]),(PS.mk (us 2 (pI::us 1 ((pp 0)::us 1 ((pp 1)::qM::pI::us 28 [])))) [(oG [(rr 2),pI,pB]),(oG [nS,pI,pB,pI]),oI])],[((Out.exit 0),(PS.mk (us 4 ((pp 0)::us 1 ((pp 1)::us 30 []))) [(oG [qR,pI,pB]),(oG [nS,pI,pB,pI])])),((Out.exit 0),(PS.mk (us 4 ((pp 0)::us 1 ((pp 1)::us 30 []))) [(oG [(rr 2),pI,pB]),(oG [nS,pI,pB,pI]),oI]))]⟩
def L216_5.O:Orc P:=⟨[F250.E],[],[],40⟩
def L216_5.s0:Option τ :=
 br (ltI (gI l 3) (gI l 0))
 (br (!(gB l 7))
 (br (ltI (gI l 6) 1000)
 (ck ((eqM (gN l 1) (List.length (gLL l 2)))&&(((eqM (gN l 4) (List.length (gL l 5)))&&true)&&true))
 (F250 [.LL (gLL l 2),.L (gL l 5),.I (gI l 6),.B (gB l 7)]
 (fun j A=>(sw (nx 1 [.I (gI l 0),.N (gN l 1),.LL (gLL l 2),.I (wr .i64 ((gI l 3)+1)),.N (gN A 0),.I (gI A 1),.B (gB A 2),.I (gI l 8),.B (gB l 9),.I (gI l 10),.L (gL A 3)])
 (fun _=>none)) j)))
 (ex 0 [.N (gN l 4),.L (gL l 5),.I (gI l 6),.B (gB l 7),.I (gI l 8),.B (gB l 9),.I (gI l 10)]))
 (ex 0 [.N (gN l 4),.L (gL l 5),.I (gI l 6),.B (gB l 7),.I (gI l 8),.B (gB l 9),.I (gI l 10)]))
 (ex 0 [.N (gN l 4),.L (gL l 5),.I (gI l 6),.B (gB l 7),.I (gI l 8),.B (gB l 9),.I (gI l 10)])
theorem L216_5.e0:LEq L216_5.O L216_5.H 0 L216_5.s0:=by intro τ next κ l;kernel_rfl
def L216_5.s1:Option τ :=
 br (ltI (gI l 3) (gI l 0))
 (br (!(gB l 6))
 (br (ltI (gI l 5) 1000)
 (ck ((eqM (gN l 1) (List.length (gLL l 2)))&&(((eqM (gN l 4) (List.length (List.take ((gN l 4)*1) (List.drop 0 (gL l 10)))))&&true)&&true))
 (F250 [.LL (gLL l 2),.L (List.take ((gN l 4)*1) (List.drop 0 (gL l 10))),.I (gI l 5),.B (gB l 6)]
 (fun j A=>(sw (nx 1 [.I (gI l 0),.N (gN l 1),.LL (gLL l 2),.I (wr .i64 ((gI l 3)+1)),.N (gN A 0),.I (gI A 1),.B (gB A 2),.I (gI l 7),.B (gB l 8),.I (gI l 9),.L (gL A 3)])
 (fun _=>none)) j)))
 (ex 1 [.N (gN l 4),.I (gI l 5),.B (gB l 6),.I (gI l 7),.B (gB l 8),.I (gI l 9),.L (gL l 10)]))
 (ex 1 [.N (gN l 4),.I (gI l 5),.B (gB l 6),.I (gI l 7),.B (gB l 8),.I (gI l 9),.L (gL l 10)]))
 (ex 1 [.N (gN l 4),.I (gI l 5),.B (gB l 6),.I (gI l 7),.B (gB l 8),.I (gI l 9),.L (gL l 10)])
theorem L216_5.e1:LEq L216_5.O L216_5.H 1 L216_5.s1:=by intro τ next κ l;kernel_rfl
def L216_5:LStep P Cf:=LStep.mk2 (by decide) L216_5.e0 L216_5.e1
def L216_5.b:Option τ:=runE L216_5 fuel κ t l
def L216_5.E:LEnt P:=LStep.E L216_5
def F216.ps:List PV2:=[pCode,qFlip,pI]
def F216.sh:List PA:=[(PA.mk (PV3.v (PV2.agg [PV1.nilS,iI,PV1.bool,iI])) []),(PA.mk (PV3.v (PV2.agg [(PV1.sl (PC0.i .i64)),iI,PV1.bool,iI])) []),(PA.mk (PV3.v (PV2.agg [(r1 0),iI,PV1.bool,iI])) [cI])]
def F216.O:Orc P:=⟨[F249.E,T33.E],[L216_5.E],[],40⟩
def F216:Option τ :=
 ck (((eqM (List.length (gLL l 2)) (List.length (gLL l 2)))&&true)&&(((eqM (List.length (gL l 3)) (List.length (gL l 3)))&&true)&&true))
 (F249 [.I (gI l 0),.I (gI l 1),.LL (gLL l 2),.L (gL l 3),.I (gI l 4),.B (gB l 5)]
 (fun j A=>(sw (br (!(gB A 0))
 (k 0 [.I 0,.B false,.I 1])
 (ck (((eqM (List.length (gLL l 2)) (List.length (gLL l 2)))&&true)&&true)
 (T33 [.I (gI l 0),.I (gI l 1),.LL (gLL l 2)]
 (fun j B=>(sw (L216_5.b 0 [.I (gI l 6),.N (List.length (gLL B 2)),.LL (gLL B 2),.I 0,.N (List.length (gL l 3)),.L (gL l 3),.I (gI l 4),.B (gB l 5),.I 0,.B false,.I 0]
 (fun j C=>(sw (k 1 [.N (gN C 0),.L (gL C 1),.I (gI C 2),.B (gB C 3),.I 0])
 (sw (k 2 [.N (gN C 0),.I (gI C 1),.B (gB C 2),.I 0,.L (gL C 6)])
 (fun _=>none))) j))
 (fun _=>none)) j))))
 (fun _=>none)) j))
theorem F216.eq:FEq F216.O 20 F216.ps F216.sh F216:=by intro τ l κ;kernel_rfl
def F216.E:Ent P:=mkF F216.eq
def L246_4.H:LHead:=⟨false,true,0,241668,241668,60,16,0,[(PS.mk (us 2 ((pp 0)::(pp 1)::pB::pI::us 49 [])) [(oG [pI,pI,qM]),(oG [qR,qR])])],[(Out.ret,(PS.mk (us 4 (pB::us 50 [])) [])),((Out.exit 0),(PS.mk (us 4 (pB::us 50 [])) []))]⟩
def L246_4.O:Orc P:=⟨[],[],[],40⟩
def L246_4.s0:Option τ :=
 br (ltI (gI l 1) (gN l 8))
 (ck (((leI 0 (gI l 1))&&(ltI (gI l 1) (gN l 8)))&&true)
 (ck (ltN ((Int.toNat (gI l 1))*1) (List.length (gL l 9)))
 (br (ltI (List.getD (gL l 9) ((Int.toNat (gI l 1))*1) 0) 0)
 (ex 0 [.B false])
 (ck (((leI 0 (gI l 1))&&(ltI (gI l 1) (gN l 8)))&&true)
 (ck (ltN ((Int.toNat (gI l 1))*1) (List.length (gL l 9)))
 (br (geI (List.getD (gL l 9) ((Int.toNat (gI l 1))*1) 0) (gI l 3))
 (ex 0 [.B false])
 (br (gtI (gI l 1) 0)
 (ck (((leI 0 (wr .i64 ((gI l 1)-1)))&&(ltI (wr .i64 ((gI l 1)-1)) (((gN l 8):Nat):Int)))&&true)
 (ck (ltN ((Int.toNat (wr .i64 ((gI l 1)-1)))*1) (List.length (gL l 9)))
 (ck (((leI 0 (gI l 1))&&(ltI (gI l 1) (gN l 8)))&&true)
 (ck (ltN ((Int.toNat (gI l 1))*1) (List.length (gL l 9)))
 (br (geI (List.getD (gL l 9) ((Int.toNat (wr .i64 ((gI l 1)-1)))*1) 0) (List.getD (gL l 9) ((Int.toNat (gI l 1))*1) 0))
 (ex 0 [.B false])
 (nx 0 [.B (gB l 0),.I (wr .i64 ((gI l 1)+1)),.I (gI l 2),.I (gI l 3),.N (gN l 4),.LL (gLL l 5),.N (gN l 6),.L (gL l 7),.N (gN l 8),.L (gL l 9)]))))))
 (nx 0 [.B (gB l 0),.I (wr .i64 ((gI l 1)+1)),.I (gI l 2),.I (gI l 3),.N (gN l 4),.LL (gLL l 5),.N (gN l 6),.L (gL l 7),.N (gN l 8),.L (gL l 9)]))))))))
 (ex 1 [.B (gB l 0)])
theorem L246_4.e0:LEq L246_4.O L246_4.H 0 L246_4.s0:=by intro τ next κ l;kernel_rfl
def L246_4:LStep P Cf:=LStep.mk1 (by decide) L246_4.e0
def L246_4.b:Option τ:=runE L246_4 fuel κ t l
def L246_4.E:LEnt P:=LStep.E L246_4
def F246.ps:List PV2:=[(PV2.agg [iI,iI,aM]),(PV2.agg [aI,aI])]
def F246.sh:List PA:=[(PA.mk (PV3.v pB) [])]
def F246.O:Orc P:=⟨[F31.E],[L246_4.E],[],40⟩
def F246:Option τ :=
 ck ((eqM (List.length (gL l 3)) (List.length (gL l 3)))&&true)
 (F31 [.I (gI l 0),.I (gI l 1),.L (gL l 3)]
 (fun j A=>(sw (br (!(gB A 0))
 (k 0 [.B false])
 (L246_4.b 0 [.B false,.I 0,.I (gI l 0),.I (gI l 1),.N (List.length (gLL l 2)),.LL (gLL l 2),.N (List.length (gL l 3)),.L (gL l 3),.N (List.length (gL l 4)),.L (gL l 4)]
 (fun j B=>(sw (k 0 [.B (gB B 0)])
 (sw (k 0 [.B true])
 (fun _=>none))) j)))
 (fun _=>none)) j))
theorem F246.eq:FEq F246.O 59 F246.ps F246.sh F246:=by intro τ l κ;kernel_rfl
def F246.E:Ent P:=mkF F246.eq
def L242_2.H:LHead:=⟨false,true,0,221186,221186,54,16,0,[(PS.mk (us 1 (pI::(pp 0)::us 1 (pB::pI::us 14 []))) [(oG [qR,qR])])],[(Out.ret,(PS.mk (us 4 (pB::us 15 [])) [])),((Out.exit 0),(PS.mk (us 4 (pB::us 15 [])) []))]⟩
def L242_2.O:Orc P:=⟨[],[],[],40⟩
def L242_2.s0:Option τ :=
 br (ltI (gI l 2) (gN l 5))
 (ck (((leI 0 (gI l 2))&&(ltI (gI l 2) (gN l 5)))&&true)
 (ck (ltN ((Int.toNat (gI l 2))*1) (List.length (gL l 6)))
 (br ((List.getD (gL l 6) ((Int.toNat (gI l 2))*1) 0)==(gI l 0))
 (ex 0 [.B true])
 (nx 0 [.I (gI l 0),.B (gB l 1),.I (wr .i64 ((gI l 2)+1)),.N (gN l 3),.L (gL l 4),.N (gN l 5),.L (gL l 6)]))))
 (ex 1 [.B (gB l 1)])
theorem L242_2.e0:LEq L242_2.O L242_2.H 0 L242_2.s0:=by intro τ next κ l;kernel_rfl
def L242_2:LStep P Cf:=LStep.mk1 (by decide) L242_2.e0
def L242_2.b:Option τ:=runE L242_2 fuel κ t l
def L242_2.E:LEnt P:=LStep.E L242_2
def F242.ps:List PV2:=[(PV2.agg [aI,aI]),pI]
def F242.sh:List PA:=[(PA.mk (PV3.v pB) [])]
def F242.O:Orc P:=⟨[],[L242_2.E],[],40⟩
def F242:Option τ :=
 L242_2.b 0 [.I (gI l 2),.B false,.I 0,.N (List.length (gL l 0)),.L (gL l 0),.N (List.length (gL l 1)),.L (gL l 1)]
 (fun j A=>(sw (k 0 [.B (gB A 0)])
 (sw (k 0 [.B false])
 (fun _=>none))) j)
theorem F242.eq:FEq F242.O 54 F242.ps F242.sh F242:=by intro τ l κ;kernel_rfl
def F242.E:Ent P:=mkF F242.eq
def L225_3.H:LHead:=⟨false,true,0,135171,135171,102,32,0,[(PS.mk (us 1 (qR::(pp 0)::us 2 (pI::pI::us 25 []))) [(oG [qR,qR])])],[((Out.exit 0),(PS.mk (us 5 (pI::us 26 [])) []))]⟩
def L225_3.O:Orc P:=⟨[F242.E],[],[],40⟩
def L225_3.s0:Option τ :=
 br (ltI (gI l 3) (gN l 0))
 (ck (((eqM (gN l 4) (List.length (gL l 5)))&&((eqM (gN l 6) (List.length (gL l 7)))&&true))&&true)
 (F242 [.L (gL l 5),.L (gL l 7),.I (gI l 3)]
 (fun j A=>(sw (br (!(gB A 0))
 (ck (((leI 0 (gI l 3))&&(ltI (gI l 3) (gN l 0)))&&true)
 (ck (ltN ((Int.toNat (gI l 3))*1) (List.length (gL l 1)))
 (ck (((leI 0 (gI l 3))&&(ltI (gI l 3) (gN l 4)))&&true)
 (ck (ltN ((Int.toNat (gI l 3))*1) (List.length (gL l 5)))
 (br ((List.getD (gL l 1) ((Int.toNat (gI l 3))*1) 0) != (List.getD (gL l 5) ((Int.toNat (gI l 3))*1) 0))
 (nx 0 [.N (gN l 0),.L (gL l 1),.I (wr .i64 ((gI l 2)+1)),.I (wr .i64 ((gI l 3)+1)),.N (gN l 4),.L (gL l 5),.N (gN l 6),.L (gL l 7)])
 (nx 0 [.N (gN l 0),.L (gL l 1),.I (gI l 2),.I (wr .i64 ((gI l 3)+1)),.N (gN l 4),.L (gL l 5),.N (gN l 6),.L (gL l 7)]))))))
 (nx 0 [.N (gN l 0),.L (gL l 1),.I (gI l 2),.I (wr .i64 ((gI l 3)+1)),.N (gN l 4),.L (gL l 5),.N (gN l 6),.L (gL l 7)]))
 (fun _=>none)) j)))
 (ex 0 [.I (gI l 2)])
theorem L225_3.e0:LEq L225_3.O L225_3.H 0 L225_3.s0:=by intro τ next κ l;kernel_rfl
def L225_3:LStep P Cf:=LStep.mk1 (by decide) L225_3.e0
def L225_3.b:Option τ:=runE L225_3 fuel κ t l
def L225_3.E:LEnt P:=LStep.E L225_3
def F225.ps:List PV2:=[(PV2.agg [aI,aI]),pR]
def F225.sh:List PA:=[(PA.mk (PV3.v pI) [])]
def F225.O:Orc P:=⟨[],[L225_3.E],[],40⟩
def F225:Option τ :=
 L225_3.b 0 [.N (List.length (gL l 2)),.L (gL l 2),.I 0,.I 0,.N (List.length (gL l 0)),.L (gL l 0),.N (List.length (gL l 1)),.L (gL l 1)]
 (fun j A=>(sw (k 0 [.I (gI A 0)])
 (fun _=>none)) j)
theorem F225.eq:FEq F225.O 33 F225.ps F225.sh F225:=by intro τ l κ;kernel_rfl
def F225.E:Ent P:=mkF F225.eq
def F220.ps:List PV2:=[pCode,pNoisy,qFlip]
def F220.sh:List PA:=[(PA.mk (PV3.v (PV2.agg [iI,iI,PV1.nilS,PV1.nilS,iI])) []),(PA.mk (PV3.v (PV2.agg [iI,iI,(PV1.sl (PC0.i .i64)),PV1.nilS,iI])) [])]
def F220.O:Orc P:=⟨[F246.E,F249.E,F225.E],[],[],40⟩
def F220:Option τ :=
 ck (((eqM (List.length (gLL l 2)) (List.length (gLL l 2)))&&true)&&(((eqM (List.length (gL l 3)) (List.length (gL l 3)))&&((eqM (List.length (gL l 4)) (List.length (gL l 4)))&&true))&&true))
 (F246 [.I (gI l 0),.I (gI l 1),.LL (gLL l 2),.L (gL l 3),.L (gL l 4)]
 (fun j A=>(sw (br (!(gB A 0))
 (k 0 [.I 0,.I 0,.I 1])
 (ck (((eqM (List.length (gLL l 2)) (List.length (gLL l 2)))&&true)&&(((eqM (List.length (gL l 5)) (List.length (gL l 5)))&&true)&&true))
 (F249 [.I (gI l 0),.I (gI l 1),.LL (gLL l 2),.L (gL l 5),.I (gI l 6),.B (gB l 7)]
 (fun j B=>(sw (br (!(gB B 0))
 (k 0 [.I 0,.I 0,.I 1])
 (br (!(gB l 7))
 (k 0 [.I 4,.I 0,.I 0])
 (ck (((eqM (List.length (gL l 3)) (List.length (gL l 3)))&&((eqM (List.length (gL l 4)) (List.length (gL l 4)))&&true))&&((eqM (List.length (gL l 5)) (List.length (gL l 5)))&&true))
 (F225 [.L (gL l 3),.L (gL l 4),.L (gL l 5)]
 (fun j C=>(sw (k 1 [.I 3,.I (gI C 0),.N (List.length (gL l 5)),.L (gL l 5),.I 0])
 (fun _=>none)) j)))))
 (fun _=>none)) j))))
 (fun _=>none)) j))
theorem F220.eq:FEq F220.O 25 F220.ps F220.sh F220:=by intro τ l κ;kernel_rfl
def F220.E:Ent P:=mkF F220.eq
def F217_1.ps:List PV2:=[pCode,pR]
def F217_1.sh:List PA:=[(PA.mk (PV3.v pB) [])]
def F217_1.O:Orc P:=⟨[T33.E,F252.E],[],[],40⟩
def F217_1:Option τ :=
 ck (((eqM (List.length (gLL l 2)) (List.length (gLL l 2)))&&true)&&true)
 (T33 [.I (gI l 0),.I (gI l 1),.LL (gLL l 2)]
 (fun j A=>(sw (ck ((eqM (List.length (gLL A 2)) (List.length (gLL A 2)))&&((eqM (List.length (gL l 3)) (List.length (gL l 3)))&&true))
 (F252 [.LL (gLL A 2),.L (gL l 3)]
 (fun j B=>(sw (k 0 [.B (gB B 0)])
 (fun _=>none)) j)))
 (fun _=>none)) j))
theorem F217_1.eq:FEq F217_1.O 22 F217_1.ps F217_1.sh F217_1:=by intro τ l κ;kernel_rfl
def F217_1.E:Ent P:=mkF F217_1.eq
end
end Go.Proofs.YticbdgmcofjkeaaGreat.Ai
namespace Go.Proofs.YticbdgmcofjkeaaGreat.Ai
open Go Go.RowKit
noncomputable section
variable {τ:Type} (t:Nat) (nx ex:Nat→LS_→Option τ) (l:LS_) (k κ:Nat→LS_→Option τ)
def L222_4.H:LHead:=⟨false,true,0,114692,114692,51,16,0,[(PS.mk (qR::qR::us 2 (pB::pI::us 20 [])) [])],[(Out.ret,(PS.mk (us 4 (pB::us 21 [])) [])),((Out.exit 0),(PS.mk (us 4 (pB::us 21 [])) []))]⟩
def L222_4.O:Orc P:=⟨[],[],[],40⟩
def L222_4.s0:Option τ :=
 br (ltI (gI l 5) (gN l 0))
 (ck (((leI 0 (gI l 5))&&(ltI (gI l 5) (gN l 0)))&&true)
 (ck (ltN ((Int.toNat (gI l 5))*1) (List.length (gL l 1)))
 (ck (((leI 0 (gI l 5))&&(ltI (gI l 5) (gN l 2)))&&true)
 (ck (ltN ((Int.toNat (gI l 5))*1) (List.length (gL l 3)))
 (br ((List.getD (gL l 1) ((Int.toNat (gI l 5))*1) 0) != (List.getD (gL l 3) ((Int.toNat (gI l 5))*1) 0))
 (ex 0 [.B false])
 (nx 0 [.N (gN l 0),.L (gL l 1),.N (gN l 2),.L (gL l 3),.B (gB l 4),.I (wr .i64 ((gI l 5)+1))]))))))
 (ex 1 [.B (gB l 4)])
theorem L222_4.e0:LEq L222_4.O L222_4.H 0 L222_4.s0:=by intro τ next κ l;kernel_rfl
def L222_4:LStep P Cf:=LStep.mk1 (by decide) L222_4.e0
def L222_4.b:Option τ:=runE L222_4 fuel κ t l
def L222_4.E:LEnt P:=LStep.E L222_4
def F222.ps:List PV2:=[pR,pR]
def F222.sh:List PA:=[(PA.mk (PV3.v pB) [])]
def F222.O:Orc P:=⟨[],[L222_4.E],[],40⟩
def F222:Option τ :=
 br ((((List.length (gL l 0)):Nat):Int) != (((List.length (gL l 1)):Nat):Int))
 (k 0 [.B false])
 (L222_4.b 0 [.N (List.length (gL l 0)),.L (gL l 0),.N (List.length (gL l 1)),.L (gL l 1),.B false,.I 0]
 (fun j A=>(sw (k 0 [.B (gB A 0)])
 (sw (k 0 [.B true])
 (fun _=>none))) j))
theorem F222.eq:FEq F222.O 28 F222.ps F222.sh F222:=by intro τ l κ;kernel_rfl
def F222.E:Ent P:=mkF F222.eq
def F245.ps:List PV2:=[(PV2.agg [aI,iI,PV1.bool]),(PV2.agg [aI,iI,PV1.bool])]
def F245.sh:List PA:=[(PA.mk (PV3.v pB) [])]
def F245.O:Orc P:=⟨[F222.E],[],[],40⟩
def F245:Option τ :=
 br ((gI l 1)==(gI l 4))
 (br ((gB l 2)==(gB l 5))
 (ck ((eqM (List.length (gL l 0)) (List.length (gL l 0)))&&((eqM (List.length (gL l 3)) (List.length (gL l 3)))&&true))
 (F222 [.L (gL l 0),.L (gL l 3)]
 (fun j A=>(sw (k 0 [.B (gB A 0)])
 (fun _=>none)) j)))
 (k 0 [.B false]))
 (k 0 [.B false])
theorem F245.eq:FEq F245.O 58 F245.ps F245.sh F245:=by intro τ l κ;kernel_rfl
def F245.E:Ent P:=mkF F245.eq
def F211.ps:List PV2:=[qState,qState]
def F211.sh:List PA:=[(PA.mk (PV3.v pB) [])]
def F211.O:Orc P:=⟨[F245.E],[],[],40⟩
def F211:Option τ :=
 br ((gI l 3)==(gI l 7))
 (ck (((eqM (List.length (gL l 0)) (List.length (gL l 0)))&&true)&&(((eqM (List.length (gL l 4)) (List.length (gL l 4)))&&true)&&true))
 (F245 [.L (gL l 0),.I (gI l 1),.B (gB l 2),.L (gL l 4),.I (gI l 5),.B (gB l 6)]
 (fun j A=>(sw (k 0 [.B (gB A 0)])
 (fun _=>none)) j)))
 (k 0 [.B false])
theorem F211.eq:FEq F211.O 15 F211.ps F211.sh F211:=by intro τ l κ;kernel_rfl
def F211.E:Ent P:=mkF F211.eq
def L254_4.H:LHead:=⟨false,true,0,307204,307204,51,16,0,[(PS.mk (qM::qM::us 2 (pB::pI::us 21 [])) [])],[(Out.ret,(PS.mk (us 4 (pB::us 22 [])) [])),((Out.exit 0),(PS.mk (us 4 (pB::us 22 [])) []))]⟩
def L254_4.O:Orc P:=⟨[F222.E],[],[],40⟩
def L254_4.s0:Option τ :=
 br (ltI (gI l 5) (gN l 0))
 (ck (((leI 0 (gI l 5))&&(ltI (gI l 5) (gN l 0)))&&true)
 (ck (ltN ((Int.toNat (gI l 5))*1) (List.length (gLL l 1)))
 (ck (((leI 0 (gI l 5))&&(ltI (gI l 5) (gN l 2)))&&true)
 (ck (ltN ((Int.toNat (gI l 5))*1) (List.length (gLL l 3)))
 (ck ((eqM (List.length (List.getD (gLL l 1) ((Int.toNat (gI l 5))*1) [])) (List.length (List.getD (gLL l 1) ((Int.toNat (gI l 5))*1) [])))&&((eqM (List.length (List.getD (gLL l 3) ((Int.toNat (gI l 5))*1) [])) (List.length (List.getD (gLL l 3) ((Int.toNat (gI l 5))*1) [])))&&true))
 (F222 [.L (List.getD (gLL l 1) ((Int.toNat (gI l 5))*1) []),.L (List.getD (gLL l 3) ((Int.toNat (gI l 5))*1) [])]
 (fun j A=>(sw (br (!(gB A 0))
 (ex 0 [.B false])
 (nx 0 [.N (gN l 0),.LL (gLL l 1),.N (gN l 2),.LL (gLL l 3),.B (gB l 4),.I (wr .i64 ((gI l 5)+1))]))
 (fun _=>none)) j)))))))
 (ex 1 [.B (gB l 4)])
theorem L254_4.e0:LEq L254_4.O L254_4.H 0 L254_4.s0:=by intro τ next κ l;kernel_rfl
def L254_4:LStep P Cf:=LStep.mk1 (by decide) L254_4.e0
def L254_4.b:Option τ:=runE L254_4 fuel κ t l
def L254_4.E:LEnt P:=LStep.E L254_4
def F254.ps:List PV2:=[pM,pM]
def F254.sh:List PA:=[(PA.mk (PV3.v pB) [])]
def F254.O:Orc P:=⟨[],[L254_4.E],[],40⟩
def F254:Option τ :=
 br ((((List.length (gLL l 0)):Nat):Int) != (((List.length (gLL l 1)):Nat):Int))
 (k 0 [.B false])
 (L254_4.b 0 [.N (List.length (gLL l 0)),.LL (gLL l 0),.N (List.length (gLL l 1)),.LL (gLL l 1),.B false,.I 0]
 (fun j A=>(sw (k 0 [.B (gB A 0)])
 (sw (k 0 [.B true])
 (fun _=>none))) j))
theorem F254.eq:FEq F254.O 75 F254.ps F254.sh F254:=by intro τ l κ;kernel_rfl
def F254.E:Ent P:=mkF F254.eq
def F224.ps:List PV2:=[(PV2.agg [iI,iI,aI,aM]),(PV2.agg [iI,iI,aI,aM])]
def F224.sh:List PA:=[(PA.mk (PV3.v pB) [])]
def F224.O:Orc P:=⟨[F222.E,F254.E],[],[],40⟩
def F224:Option τ :=
 br ((gI l 0)==(gI l 4))
 (br ((gI l 1)==(gI l 5))
 (ck ((eqM (List.length (gL l 2)) (List.length (gL l 2)))&&((eqM (List.length (gL l 6)) (List.length (gL l 6)))&&true))
 (F222 [.L (gL l 2),.L (gL l 6)]
 (fun j A=>(sw (br (gB A 0)
 (ck ((eqM (List.length (gLL l 3)) (List.length (gLL l 3)))&&((eqM (List.length (gLL l 7)) (List.length (gLL l 7)))&&true))
 (F254 [.LL (gLL l 3),.LL (gLL l 7)]
 (fun j B=>(sw (k 0 [.B (gB B 0)])
 (fun _=>none)) j)))
 (k 0 [.B false]))
 (fun _=>none)) j)))
 (k 0 [.B false]))
 (k 0 [.B false])
theorem F224.eq:FEq F224.O 32 F224.ps F224.sh F224:=by intro τ l κ;kernel_rfl
def F224.E:Ent P:=mkF F224.eq
def F218.ps:List PV2:=[qTold,qTold]
def F218.sh:List PA:=[(PA.mk (PV3.v pB) [])]
def F218.O:Orc P:=⟨[F224.E],[],[],40⟩
def F218:Option τ :=
 br ((gI l 4)==(gI l 9))
 (ck (((eqM (List.length (gL l 2)) (List.length (gL l 2)))&&((eqM (List.length (gLL l 3)) (List.length (gLL l 3)))&&true))&&(((eqM (List.length (gL l 7)) (List.length (gL l 7)))&&((eqM (List.length (gLL l 8)) (List.length (gLL l 8)))&&true))&&true))
 (F224 [.I (gI l 0),.I (gI l 1),.L (gL l 2),.LL (gLL l 3),.I (gI l 5),.I (gI l 6),.L (gL l 7),.LL (gLL l 8)]
 (fun j A=>(sw (k 0 [.B (gB A 0)])
 (fun _=>none)) j)))
 (k 0 [.B false])
theorem F218.eq:FEq F218.O 23 F218.ps F218.sh F218:=by intro τ l κ;kernel_rfl
def F218.E:Ent P:=mkF F218.eq
def F224_1.ps:List PV2:=[qReply,qReply]
def F224_1.sh:List PA:=[(PA.mk (PV3.v pB) [])]
def F224_1.O:Orc P:=⟨[F222.E,F254.E],[],[],40⟩
def F224_1:Option τ :=
 br ((gI l 0)==(gI l 4))
 (br ((gI l 1)==(gI l 5))
 (ck ((eqM (List.length (gL l 2)) (List.length (gL l 2)))&&((eqM (List.length (gL l 6)) (List.length (gL l 6)))&&true))
 (F222 [.L (gL l 2),.L (gL l 6)]
 (fun j A=>(sw (br (gB A 0)
 (ck ((eqM (List.length (gLL l 3)) (List.length (gLL l 3)))&&((eqM (List.length (gLL l 7)) (List.length (gLL l 7)))&&true))
 (F254 [.LL (gLL l 3),.LL (gLL l 7)]
 (fun j B=>(sw (k 0 [.B (gB B 0)])
 (fun _=>none)) j)))
 (k 0 [.B false]))
 (fun _=>none)) j)))
 (k 0 [.B false]))
 (k 0 [.B false])
theorem F224_1.eq:FEq F224_1.O 32 F224_1.ps F224_1.sh F224_1:=by intro τ l κ;kernel_rfl
def F224_1.E:Ent P:=mkF F224_1.eq
def F225_1.ps:List PV2:=[pNoisy,pR]
def F225_1.sh:List PA:=[(PA.mk (PV3.v pI) [])]
def F225_1.O:Orc P:=⟨[],[L225_3.E],[],40⟩
def F225_1:Option τ :=
 L225_3.b 0 [.N (List.length (gL l 2)),.L (gL l 2),.I 0,.I 0,.N (List.length (gL l 0)),.L (gL l 0),.N (List.length (gL l 1)),.L (gL l 1)]
 (fun j A=>(sw (k 0 [.I (gI A 0)])
 (fun _=>none)) j)
theorem F225_1.eq:FEq F225_1.O 33 F225_1.ps F225_1.sh F225_1:=by intro τ l κ;kernel_rfl
def F225_1.E:Ent P:=mkF F225_1.eq
def F222_1.ps:List PV2:=[pR,pR]
def F222_1.sh:List PA:=[(PA.mk (PV3.v pB) [])]
def F222_1.O:Orc P:=⟨[],[L222_4.E],[],40⟩
def F222_1:Option τ :=
 br ((((List.length (gL l 0)):Nat):Int) != (((List.length (gL l 1)):Nat):Int))
 (k 0 [.B false])
 (L222_4.b 0 [.N (List.length (gL l 0)),.L (gL l 0),.N (List.length (gL l 1)),.L (gL l 1),.B false,.I 0]
 (fun j A=>(sw (k 0 [.B (gB A 0)])
 (sw (k 0 [.B true])
 (fun _=>none))) j))
theorem F222_1.eq:FEq F222_1.O 28 F222_1.ps F222_1.sh F222_1:=by intro τ l κ;kernel_rfl
def F222_1.E:Ent P:=mkF F222_1.eq
def L221_3.H:LHead:=⟨false,true,0,110595,110595,99,32,0,[(PS.mk (qR::qR::us 3 ((rr 0)::pI::us 20 [])) [oI])],[((Out.exit 0),(PS.mk (us 5 ((rr 0)::us 21 [])) [oI]))]⟩
def L221_3.O:Orc P:=⟨[],[],[],40⟩
def L221_3.s0:Option τ :=
 br (ltI (gI l 5) (gN l 0))
 (ck (((leI 0 (gI l 5))&&(ltI (gI l 5) (gN l 0)))&&true)
 (ck (ltN ((Int.toNat (gI l 5))*1) (List.length (gL l 1)))
 (ck (((leI 0 (gI l 5))&&(ltI (gI l 5) (gN l 2)))&&true)
 (ck (ltN ((Int.toNat (gI l 5))*1) (List.length (gL l 3)))
 (ck (((((eqM (List.length (gL l 6)) ((gN l 4)*1))&&true)&&(eqM 1 1))&&(leN (((gN l 4)+1)*9) 1099511627776))&&true)
 (nx 0 [.N (gN l 0),.L (gL l 1),.N (gN l 2),.L (gL l 3),.N ((gN l 4)+1),.I (wr .i64 ((gI l 5)+1)),.L ((gL l 6)++(List.take 1 (List.drop 0 [(wr .i64 (((@BitVec.toNat 64 (@HXor.hXor (BitVec (IntKind.bits .i64)) (BitVec (IntKind.bits .i64)) (BitVec (IntKind.bits .i64)) (@instHXorOfXorOp (BitVec (IntKind.bits .i64)) (@BitVec.instXorOp (IntKind.bits .i64))) (BitVec.ofInt 64 (List.getD (gL l 1) ((Int.toNat (gI l 5))*1) 0)) (BitVec.ofInt 64 (List.getD (gL l 3) ((Int.toNat (gI l 5))*1) 0)))):Nat):Int))])))]))))))
 (ex 0 [.N (gN l 4),.L (gL l 6)])
theorem L221_3.e0:LEq L221_3.O L221_3.H 0 L221_3.s0:=by intro τ next κ l;kernel_rfl
def L221_3:LStep P Cf:=LStep.mk1 (by decide) L221_3.e0
def L221_3.b:Option τ:=runE L221_3 fuel κ t l
def L221_3.E:LEnt P:=LStep.E L221_3
def F221.ps:List PV2:=[pR,pR]
def F221.sh:List PA:=[(PA.mk (PV3.v (rr 0)) [cI])]
def F221.O:Orc P:=⟨[],[L221_3.E],[],40⟩
def F221:Option τ :=
 L221_3.b 0 [.N (List.length (gL l 0)),.L (gL l 0),.N (List.length (gL l 1)),.L (gL l 1),.N 0,.I 0,.L []]
 (fun j A=>(sw (k 0 [.N (gN A 0),.L (gL A 1)])
 (fun _=>none)) j)
theorem F221.eq:FEq F221.O 27 F221.ps F221.sh F221:=by intro τ l κ;kernel_rfl
def F221.E:Ent P:=mkF F221.eq
def F223.ps:List PV2:=[pR,pI,pB]
def F223.sh:List PA:=[(PA.mk (PV3.v (PV2.agg [(PV1.sl (PC0.i .i64)),iI,PV1.bool,iI])) [])]
def F223.O:Orc P:=⟨[],[],[],40⟩
def F223:Option τ :=
 k 0 [.N (List.length (gL l 0)),.L (gL l 0),.I (gI l 1),.B (gB l 2),.I 0]
theorem F223.eq:FEq F223.O 29 F223.ps F223.sh F223:=by intro τ l κ;kernel_rfl
def F223.E:Ent P:=mkF F223.eq
end
end Go.Proofs.YticbdgmcofjkeaaGreat.Ai
namespace Go.Proofs.YticbdgmcofjkeaaGreat.Ai
open Go Go.RowKit
noncomputable section
variable {τ:Type} (t:Nat) (nx ex:Nat→LS_→Option τ) (l:LS_) (k κ:Nat→LS_→Option τ)
def L212_5.H:LHead:=⟨false,true,0,65541,65541,124,52,0,[(PS.mk (us 2 ((pp 0)::(pp 1)::(pp 2)::(rr 3)::pI::us 32 [])) [(oG [pI,pI,qM]),(oG [qR,qR]),(oG [nS,pI,pB,pI]),oI])],[((Out.exit 0),(PS.mk (us 2 ((pp 0)::us 1 ((pp 1)::(rr 2)::us 33 []))) [(oG [pI,pI,qM]),(oG [nS,pI,pB,pI]),oI]))]⟩
def L212_5.O:Orc P:=⟨[],[],[],40⟩
def L212_5.s0:Option τ :=
 br (ltI (gI l 1) (gN l 8))
 (ck (((leI 0 (gI l 1))&&(ltI (gI l 1) (gN l 8)))&&true)
 (ck (ltN ((Int.toNat (gI l 1))*1) (List.length (gL l 9)))
 (ck (((leI 0 (List.getD (gL l 9) ((Int.toNat (gI l 1))*1) 0))&&(ltI (List.getD (gL l 9) ((Int.toNat (gI l 1))*1) 0) (((gN l 0):Nat):Int)))&&true)
 (ck ((leN ((0+((Int.toNat (List.getD (gL l 9) ((Int.toNat (gI l 1))*1) 0))*1))+1) (List.length (gL l 13)))&&true)
 (nx 0 [.N (gN l 0),.I (wr .i64 ((gI l 1)+1)),.I (gI l 2),.I (gI l 3),.N (gN l 4),.LL (gLL l 5),.N (gN l 6),.L (gL l 7),.N (gN l 8),.L (gL l 9),.I (gI l 10),.B (gB l 11),.I (gI l 12),.L (List.set (gL l 13) (0+((Int.toNat (List.getD (gL l 9) ((Int.toNat (gI l 1))*1) 0))*1)) 0)])))))
 (ex 0 [.N (gN l 0),.I (gI l 2),.I (gI l 3),.N (gN l 4),.LL (gLL l 5),.I (gI l 10),.B (gB l 11),.I (gI l 12),.L (gL l 13)])
theorem L212_5.e0:LEq L212_5.O L212_5.H 0 L212_5.s0:=by intro τ next κ l;kernel_rfl
def L212_5:LStep P Cf:=LStep.mk1 (by decide) L212_5.e0
def L212_5.b:Option τ:=runE L212_5 fuel κ t l
def L212_5.E:LEnt P:=LStep.E L212_5
def F247.ps:List PV2:=[(PV2.agg [iI,iI,aM]),pR,pI]
def F247.sh:List PA:=[(PA.mk (PV3.v (PV2.agg [(PV1.sl (PC0.i .i64)),iI,PV1.bool])) [])]
def F247.O:Orc P:=⟨[F217.E],[],[],40⟩
def F247:Option τ :=
 ck (((eqM (List.length (gLL l 2)) (List.length (gLL l 2)))&&true)&&((eqM (List.length (gL l 3)) (List.length (gL l 3)))&&true))
 (F217 [.I (gI l 0),.I (gI l 1),.LL (gLL l 2),.L (gL l 3)]
 (fun j A=>(sw (k 0 [.N (List.length (gL l 3)),.L (gL l 3),.I (gI l 4),.B (gB A 0)])
 (fun _=>none)) j))
theorem F247.eq:FEq F247.O 60 F247.ps F247.sh F247:=by intro τ l κ;kernel_rfl
def F247.E:Ent P:=mkF F247.eq
def F212.ps:List PV2:=[pCode,pNoisy]
def F212.sh:List PA:=[(PA.mk (PV3.v (PV2.agg [PV1.nilS,iI,PV1.bool,iI])) []),(PA.mk (PV3.v (PV2.agg [(PV1.sl (PC0.i .i64)),iI,PV1.bool,iI])) [])]
def F212.O:Orc P:=⟨[F246.E,F247.E],[L212_5.E],[],40⟩
def F212:Option τ :=
 br ((gI l 0) != 2)
 (k 0 [.I 0,.B false,.I 1])
 (ck (((eqM (List.length (gLL l 2)) (List.length (gLL l 2)))&&true)&&(((eqM (List.length (gL l 3)) (List.length (gL l 3)))&&((eqM (List.length (gL l 4)) (List.length (gL l 4)))&&true))&&true))
 (F246 [.I (gI l 0),.I (gI l 1),.LL (gLL l 2),.L (gL l 3),.L (gL l 4)]
 (fun j A=>(sw (br (!(gB A 0))
 (k 0 [.I 0,.B false,.I 1])
 (ck (((eqM (List.length (gL l 3)) ((List.length (gL l 3))*1))&&(leN ((0+(List.length (gL l 3)))*9) 1099511627776))&&true)
 (L212_5.b 0 [.N (0+(List.length (gL l 3))),.I 0,.I (gI l 0),.I (gI l 1),.N (List.length (gLL l 2)),.LL (gLL l 2),.N (List.length (gL l 3)),.L (gL l 3),.N (List.length (gL l 4)),.L (gL l 4),.I 0,.B false,.I 0,.L ([]++(gL l 3))]
 (fun j B=>(sw (ck (((eqM (gN B 3) (List.length (gLL B 4)))&&true)&&((eqM (gN B 0) (List.length (List.take ((gN B 0)*1) (List.drop 0 (gL B 8)))))&&true))
 (F247 [.I (gI B 1),.I (gI B 2),.LL (gLL B 4),.L (List.take ((gN B 0)*1) (List.drop 0 (gL B 8))),.I 0]
 (fun j C=>(sw (k 1 [.N (gN C 0),.L (gL C 1),.I (gI C 2),.B (gB C 3),.I 0])
 (fun _=>none)) j)))
 (fun _=>none)) j))))
 (fun _=>none)) j)))
theorem F212.eq:FEq F212.O 16 F212.ps F212.sh F212:=by intro τ l κ;kernel_rfl
def F212.E:Ent P:=mkF F212.eq
def L242_2_2.H:LHead:=⟨false,true,0,221186,221186,54,16,0,[(PS.mk (us 1 (pI::(pp 0)::us 1 (pB::pI::us 14 []))) [(oG [qR,nS])])],[((Out.exit 0),(PS.mk (us 4 (pB::us 15 [])) []))]⟩
def L242_2_2.O:Orc P:=⟨[],[],[],40⟩
def L242_2_2.s0 {τ:Type} (next ex:Nat→LS_→Option τ) (l:LS_):Option τ :=
 br (ltI (gI l 2) 0)
 (none)
 (ex 0 [.B (gB l 1)])
theorem L242_2_2.e0:LEq L242_2_2.O L242_2_2.H 0 L242_2_2.s0:=by intro τ next κ l;kernel_rfl
def L242_2_2:LStep P Cf:=LStep.mk1 (by decide) L242_2_2.e0
def L242_2_2.b:Option τ:=runE L242_2_2 fuel κ t l
def L242_2_2.E:LEnt P:=LStep.E L242_2_2
def F242_2.ps:List PV2:=[(PV2.agg [aI,PV1.nilS]),pI]
def F242_2.sh:List PA:=[(PA.mk (PV3.v pB) [])]
def F242_2.O:Orc P:=⟨[],[L242_2_2.E],[],40⟩
def F242_2:Option τ :=
 L242_2_2.b 0 [.I (gI l 1),.B false,.I 0,.N (List.length (gL l 0)),.L (gL l 0)]
 (fun j A=>(sw (k 0 [.B false])
 (fun _=>none)) j)
theorem F242_2.eq:FEq F242_2.O 54 F242_2.ps F242_2.sh F242_2:=by intro τ l κ;kernel_rfl
def F242_2.E:Ent P:=mkF F242_2.eq
def L243_2.H:LHead:=⟨false,true,0,225282,225282,35,35,0,[(PS.mk (nS::pI::us 3 (pI::us 29 [])) [])],[((Out.exit 0),(PS.mk (nS::pI::us 3 (pI::us 29 [])) []))]⟩
def L243_2.O:Orc P:=⟨[],[],[],40⟩
def L243_2.s0 {τ:Type} (next ex:Nat→LS_→Option τ) (l:LS_):Option τ :=
 br (ltI (gI l 1) 0)
 (none)
 (ex 0 [.I (gI l 0),.I (gI l 1)])
theorem L243_2.e0:LEq L243_2.O L243_2.H 0 L243_2.s0:=by intro τ next κ l;kernel_rfl
def L243_2:LStep P Cf:=LStep.mk1 (by decide) L243_2.e0
def L243_2.b:Option τ:=runE L243_2 fuel κ t l
def L243_2.E:LEnt P:=LStep.E L243_2
def F243.ps:List PV2:=[nS,pI]
def F243.sh:List PA:=[(PA.mk (PV3.v (rr 0)) [cI])]
def F243.O:Orc P:=⟨[],[L243_2.E],[],40⟩
def F243:Option τ :=
 L243_2.b 0 [.I (gI l 0),.I 0]
 (fun j A=>(sw (ck (((eqI (gI A 1) 0)&&(eqI (gI A 1) 0))&&true)
 (ck ((((eqI (gI A 1) 0)&&true)&&true)&&true)
 (k 0 [.N 1,.L [(gI A 0)]])))
 (fun _=>none)) j)
theorem F243.eq:FEq F243.O 55 F243.ps F243.sh F243:=by intro τ l κ;kernel_rfl
def F243.E:Ent P:=mkF F243.eq
def L243_2_1.H:LHead:=⟨false,true,0,225282,225282,35,35,0,[(PS.mk (qR::pI::us 3 (pI::us 29 [])) [])],[((Out.exit 0),(PS.mk (qR::pI::us 3 (pI::us 29 [])) []))]⟩
def L243_2_1.O:Orc P:=⟨[],[],[],40⟩
def L243_2_1.s0:Option τ :=
 br (ltI (gI l 3) (gN l 0))
 (ck (((leI 0 (gI l 3))&&(ltI (gI l 3) (gN l 0)))&&true)
 (ck (ltN ((Int.toNat (gI l 3))*1) (List.length (gL l 1)))
 (br (ltI (List.getD (gL l 1) ((Int.toNat (gI l 3))*1) 0) (gI l 2))
 (nx 0 [.N (gN l 0),.L (gL l 1),.I (gI l 2),.I (wr .i64 ((gI l 3)+1))])
 (ex 0 [.N (gN l 0),.L (gL l 1),.I (gI l 2),.I (gI l 3)]))))
 (ex 0 [.N (gN l 0),.L (gL l 1),.I (gI l 2),.I (gI l 3)])
theorem L243_2_1.e0:LEq L243_2_1.O L243_2_1.H 0 L243_2_1.s0:=by intro τ next κ l;kernel_rfl
def L243_2_1:LStep P Cf:=LStep.mk1 (by decide) L243_2_1.e0
def L243_2_1.b:Option τ:=runE L243_2_1 fuel κ t l
def L243_2_1.E:LEnt P:=LStep.E L243_2_1
def F243_1.ps:List PV2:=[pR,pI]
def F243_1.sh:List PA:=[(PA.mk (PV3.v (rr 0)) [cI])]
def F243_1.O:Orc P:=⟨[],[L243_2_1.E],[],40⟩
def F243_1:Option τ :=
 L243_2_1.b 0 [.N (List.length (gL l 0)),.L (gL l 0),.I (gI l 1),.I 0]
 (fun j A=>(sw (ck (((((leI 0 (gI A 3))&&(leI (gI A 3) (gI A 3)))&&(leI (gI A 3) (gN A 0)))&&(eqM (List.length (gL A 1)) ((gN A 0)*1)))&&true)
 (ck (((eqM (List.length (List.take (((Int.toNat (gI A 3))-0)*1) (List.drop 0 (gL A 1)))) (((Int.toNat (gI A 3))-0)*1))&&(leN ((0+((Int.toNat (gI A 3))-0))*9) 1099511627776))&&true)
 (ck (((((eqM (List.length ([]++(List.take (((Int.toNat (gI A 3))-0)*1) (List.drop 0 (gL A 1))))) ((0+((Int.toNat (gI A 3))-0))*1))&&true)&&(eqM 1 1))&&(leN (((0+((Int.toNat (gI A 3))-0))+1)*9) 1099511627776))&&true)
 (ck ((((((leI 0 (gI A 3))&&(leI (gI A 3) (gN A 0)))&&(leI (((gN A 0):Nat):Int) (((gN A 0):Nat):Int)))&&(leI (((gN A 0):Nat):Int) (((gN A 0):Nat):Int)))&&(eqM (List.length (gL A 1)) ((gN A 0)*1)))&&true)
 (ck (((((eqM (List.length (([]++(List.take (((Int.toNat (gI A 3))-0)*1) (List.drop 0 (gL A 1))))++(List.take 1 (List.drop 0 [(gI A 2)])))) (((0+((Int.toNat (gI A 3))-0))+1)*1))&&true)&&(eqM (List.length (List.take (((Int.toNat (((gN A 0):Nat):Int))-(Int.toNat (gI A 3)))*1) (List.drop ((Int.toNat (gI A 3))*1) (gL A 1)))) (((Int.toNat (((gN A 0):Nat):Int))-(Int.toNat (gI A 3)))*1)))&&(leN ((((0+((Int.toNat (gI A 3))-0))+1)+((Int.toNat (((gN A 0):Nat):Int))-(Int.toNat (gI A 3))))*9) 1099511627776))&&true)
 (k 0 [.N (((0+((Int.toNat (gI A 3))-0))+1)+((Int.toNat (((gN A 0):Nat):Int))-(Int.toNat (gI A 3)))),.L ((([]++(List.take (((Int.toNat (gI A 3))-0)*1) (List.drop 0 (gL A 1))))++(List.take 1 (List.drop 0 [(gI A 2)])))++(List.take (((Int.toNat (((gN A 0):Nat):Int))-(Int.toNat (gI A 3)))*1) (List.drop ((Int.toNat (gI A 3))*1) (gL A 1))))]))))))
 (fun _=>none)) j)
theorem F243_1.eq:FEq F243_1.O 55 F243_1.ps F243_1.sh F243_1:=by intro τ l κ;kernel_rfl
def F243_1.E:Ent P:=mkF F243_1.eq
def L209_8.H:LHead:=⟨false,true,0,53256,53256,918,144,0,[(PS.mk (us 1 ((PV2.v (PV1.sl (PC0.i IntKind.u8)))::(pp 0)::us 1 ((pp 1)::us 2 ((pp 2)::(pp 3)::pI::us 79 [])))) [(oG [pI,pI,qM]),(oG [nS,nS]),(oG [(rr 4),nS]),(oG [pI,pI,qR]),oI]),(PS.mk (us 1 ((PV2.v (PV1.sl (PC0.i IntKind.u8)))::(pp 0)::us 1 ((pp 1)::us 2 ((pp 2)::(pp 3)::pI::us 79 [])))) [(oG [pI,pI,qM]),(oG [nS,nS]),(oG [(rr 4),(rr 5)]),(oG [pI,pI,qR]),oI,oI])],[((Out.exit 0),(PS.mk (us 4 ((pp 0)::us 2 ((pp 1)::us 81 []))) [(oG [nS,nS]),(oG [(rr 2),nS]),oI])),((Out.exit 0),(PS.mk (us 4 ((pp 0)::us 2 ((pp 1)::us 81 []))) [(oG [nS,nS]),(oG [(rr 2),(rr 3)]),oI,oI]))]⟩
def L209_8.O:Orc P:=⟨[F242_2.E,F243.E,T77.E,F242.E,F243_1.E],[],[],40⟩
def L209_8.s0:Option τ :=
 br (ltI (wr .i64 ((gI l 2)+1)) (((gN l 0):Nat):Int))
 (br (ltI (gI l 2) 9)
 (ck (((leI 0 (gI l 2))&&(ltI (gI l 2) (gN l 0)))&&true)
 (ck (ltN ((Int.toNat (gI l 2))*1) (List.length (gL l 1)))
 (ck (!((gI l 4)==0))
 (ck (((leI 0 (wr .i64 ((gI l 2)+1)))&&(ltI (wr .i64 ((gI l 2)+1)) (((gN l 0):Nat):Int)))&&true)
 (ck (ltN ((Int.toNat (wr .i64 ((gI l 2)+1)))*1) (List.length (gL l 1)))
 (br ((Int.tmod (List.getD (gL l 1) ((Int.toNat (wr .i64 ((gI l 2)+1)))*1) 0) 3)==0)
 (ck (((eqM (gN l 7) (List.length (List.take ((gN l 7)*1) (List.drop 0 (gL l 12)))))&&true)&&true)
 (F242_2 [.L (List.take ((gN l 7)*1) (List.drop 0 (gL l 12))),.I (Int.tmod (wr .i64 (List.getD (gL l 1) ((Int.toNat (gI l 2))*1) 0)) (gI l 4))]
 (fun j A=>(sw (br (!(gB A 0))
 (F243 [.I (Int.tmod (wr .i64 (List.getD (gL l 1) ((Int.toNat (gI l 2))*1) 0)) (gI l 4))]
 (fun j B=>(sw (nx 1 [.N (gN l 0),.L (gL l 1),.I (wr .i64 ((gI l 2)+2)),.I (gI l 3),.I (gI l 4),.N (gN l 5),.LL (gLL l 6),.N (gN l 7),.N (gN B 0),.I (gI l 8),.I (gI l 9),.N (gN l 10),.L (gL l 11),.L (gL l 12),.L (gL B 1)])
 (fun _=>none)) j))
 (nx 0 [.N (gN l 0),.L (gL l 1),.I (wr .i64 ((gI l 2)+2)),.I (gI l 3),.I (gI l 4),.N (gN l 5),.LL (gLL l 6),.N (gN l 7),.I (gI l 8),.I (gI l 9),.N (gN l 10),.L (gL l 11),.L (gL l 12)]))
 (fun _=>none)) j)))
 (ck (((leI 0 (Int.tmod (wr .i64 (List.getD (gL l 1) ((Int.toNat (gI l 2))*1) 0)) (gI l 4)))&&(ltI (Int.tmod (wr .i64 (List.getD (gL l 1) ((Int.toNat (gI l 2))*1) 0)) (gI l 4)) (((gN l 7):Nat):Int)))&&true)
 (ck (ltN (0+((Int.toNat (Int.tmod (wr .i64 (List.getD (gL l 1) ((Int.toNat (gI l 2))*1) 0)) (gI l 4)))*1)) (List.length (gL l 12)))
 (ck (((leI 0 (wr .i64 ((gI l 2)+1)))&&(ltI (wr .i64 ((gI l 2)+1)) (((gN l 0):Nat):Int)))&&true)
 (ck (ltN ((Int.toNat (wr .i64 ((gI l 2)+1)))*1) (List.length (gL l 1)))
 (ck (!((gI l 3)==0))
 (ck (((eqM (gN l 10) (List.length (gL l 11)))&&true)&&true)
 (T77 [.I (gI l 8),.I (gI l 9),.L (gL l 11),.I (List.getD (gL l 12) (0+((Int.toNat (Int.tmod (wr .i64 (List.getD (gL l 1) ((Int.toNat (gI l 2))*1) 0)) (gI l 4)))*1)) 0),.I (Int.tmod (wr .i64 (List.getD (gL l 1) ((Int.toNat (wr .i64 ((gI l 2)+1)))*1) 0)) (gI l 3))]
 (fun j A=>(sw (ck (((leI 0 (Int.tmod (wr .i64 (List.getD (gL l 1) ((Int.toNat (gI l 2))*1) 0)) (gI l 4)))&&(ltI (Int.tmod (wr .i64 (List.getD (gL l 1) ((Int.toNat (gI l 2))*1) 0)) (gI l 4)) (((gN l 7):Nat):Int)))&&true)
 (ck ((leN ((0+((Int.toNat (Int.tmod (wr .i64 (List.getD (gL l 1) ((Int.toNat (gI l 2))*1) 0)) (gI l 4)))*1))+1) (List.length (gL l 12)))&&true)
 (nx 0 [.N (gN l 0),.L (gL l 1),.I (wr .i64 ((gI l 2)+2)),.I (gI l 3),.I (gI l 4),.N (gN l 5),.LL (gLL l 6),.N (gN l 7),.I (gI l 8),.I (gI l 9),.N (gN l 10),.L (gL l 11),.L (List.set (gL l 12) (0+((Int.toNat (Int.tmod (wr .i64 (List.getD (gL l 1) ((Int.toNat (gI l 2))*1) 0)) (gI l 4)))*1)) (gI A 0))])))
 (fun _=>none)) j))))))))))))))
 (ex 0 [.N (gN l 7),.L (gL l 12)]))
 (ex 0 [.N (gN l 7),.L (gL l 12)])
theorem L209_8.e0:LEq L209_8.O L209_8.H 0 L209_8.s0:=by intro τ next κ l;kernel_rfl
def L209_8.s1:Option τ :=
 br (ltI (wr .i64 ((gI l 2)+1)) (((gN l 0):Nat):Int))
 (br (ltI (gI l 2) 9)
 (ck (((leI 0 (gI l 2))&&(ltI (gI l 2) (gN l 0)))&&true)
 (ck (ltN ((Int.toNat (gI l 2))*1) (List.length (gL l 1)))
 (ck (!((gI l 4)==0))
 (ck (((leI 0 (wr .i64 ((gI l 2)+1)))&&(ltI (wr .i64 ((gI l 2)+1)) (((gN l 0):Nat):Int)))&&true)
 (ck (ltN ((Int.toNat (wr .i64 ((gI l 2)+1)))*1) (List.length (gL l 1)))
 (br ((Int.tmod (List.getD (gL l 1) ((Int.toNat (wr .i64 ((gI l 2)+1)))*1) 0) 3)==0)
 (ck (((eqM (gN l 7) (List.length (List.take ((gN l 7)*1) (List.drop 0 (gL l 13)))))&&((eqM (gN l 8) (List.length (List.take ((gN l 8)*1) (List.drop 0 (gL l 14)))))&&true))&&true)
 (F242 [.L (List.take ((gN l 7)*1) (List.drop 0 (gL l 13))),.L (List.take ((gN l 8)*1) (List.drop 0 (gL l 14))),.I (Int.tmod (wr .i64 (List.getD (gL l 1) ((Int.toNat (gI l 2))*1) 0)) (gI l 4))]
 (fun j A=>(sw (br (!(gB A 0))
 (ck ((eqM (gN l 8) (List.length (List.take ((gN l 8)*1) (List.drop 0 (gL l 14)))))&&true)
 (F243_1 [.L (List.take ((gN l 8)*1) (List.drop 0 (gL l 14))),.I (Int.tmod (wr .i64 (List.getD (gL l 1) ((Int.toNat (gI l 2))*1) 0)) (gI l 4))]
 (fun j B=>(sw (nx 1 [.N (gN l 0),.L (gL l 1),.I (wr .i64 ((gI l 2)+2)),.I (gI l 3),.I (gI l 4),.N (gN l 5),.LL (gLL l 6),.N (gN l 7),.N (gN B 0),.I (gI l 9),.I (gI l 10),.N (gN l 11),.L (gL l 12),.L (gL l 13),.L (gL B 1)])
 (fun _=>none)) j)))
 (nx 1 [.N (gN l 0),.L (gL l 1),.I (wr .i64 ((gI l 2)+2)),.I (gI l 3),.I (gI l 4),.N (gN l 5),.LL (gLL l 6),.N (gN l 7),.N (gN l 8),.I (gI l 9),.I (gI l 10),.N (gN l 11),.L (gL l 12),.L (gL l 13),.L (gL l 14)]))
 (fun _=>none)) j)))
 (ck (((leI 0 (Int.tmod (wr .i64 (List.getD (gL l 1) ((Int.toNat (gI l 2))*1) 0)) (gI l 4)))&&(ltI (Int.tmod (wr .i64 (List.getD (gL l 1) ((Int.toNat (gI l 2))*1) 0)) (gI l 4)) (((gN l 7):Nat):Int)))&&true)
 (ck (ltN (0+((Int.toNat (Int.tmod (wr .i64 (List.getD (gL l 1) ((Int.toNat (gI l 2))*1) 0)) (gI l 4)))*1)) (List.length (gL l 13)))
 (ck (((leI 0 (wr .i64 ((gI l 2)+1)))&&(ltI (wr .i64 ((gI l 2)+1)) (((gN l 0):Nat):Int)))&&true)
 (ck (ltN ((Int.toNat (wr .i64 ((gI l 2)+1)))*1) (List.length (gL l 1)))
 (ck (!((gI l 3)==0))
 (ck (((eqM (gN l 11) (List.length (gL l 12)))&&true)&&true)
 (T77 [.I (gI l 9),.I (gI l 10),.L (gL l 12),.I (List.getD (gL l 13) (0+((Int.toNat (Int.tmod (wr .i64 (List.getD (gL l 1) ((Int.toNat (gI l 2))*1) 0)) (gI l 4)))*1)) 0),.I (Int.tmod (wr .i64 (List.getD (gL l 1) ((Int.toNat (wr .i64 ((gI l 2)+1)))*1) 0)) (gI l 3))]
 (fun j A=>(sw (ck (((leI 0 (Int.tmod (wr .i64 (List.getD (gL l 1) ((Int.toNat (gI l 2))*1) 0)) (gI l 4)))&&(ltI (Int.tmod (wr .i64 (List.getD (gL l 1) ((Int.toNat (gI l 2))*1) 0)) (gI l 4)) (((gN l 7):Nat):Int)))&&true)
 (ck ((leN ((0+((Int.toNat (Int.tmod (wr .i64 (List.getD (gL l 1) ((Int.toNat (gI l 2))*1) 0)) (gI l 4)))*1))+1) (List.length (gL l 13)))&&true)
 (nx 1 [.N (gN l 0),.L (gL l 1),.I (wr .i64 ((gI l 2)+2)),.I (gI l 3),.I (gI l 4),.N (gN l 5),.LL (gLL l 6),.N (gN l 7),.N (gN l 8),.I (gI l 9),.I (gI l 10),.N (gN l 11),.L (gL l 12),.L (List.set (gL l 13) (0+((Int.toNat (Int.tmod (wr .i64 (List.getD (gL l 1) ((Int.toNat (gI l 2))*1) 0)) (gI l 4)))*1)) (gI A 0)),.L (gL l 14)])))
 (fun _=>none)) j))))))))))))))
 (ex 1 [.N (gN l 7),.N (gN l 8),.L (gL l 13),.L (gL l 14)]))
 (ex 1 [.N (gN l 7),.N (gN l 8),.L (gL l 13),.L (gL l 14)])
theorem L209_8.e1:LEq L209_8.O L209_8.H 1 L209_8.s1:=by intro τ next κ l;kernel_rfl
def L209_8:LStep P Cf:=LStep.mk2 (by decide) L209_8.e0 L209_8.e1
def L209_8.b:Option τ:=runE L209_8 fuel κ t l
def L209_8.E:LEnt P:=LStep.E L209_8
def F209.ps:List PV2:=[pCode,qB8]
def F209.sh:List PA:=[(PA.mk (PV3.v (PV2.agg [(r1 0),PV1.nilS])) [cI]),(PA.mk (PV3.v (PV2.agg [(r1 0),(r1 1)])) [cI,cI])]
def F209.O:Orc P:=⟨[T25.E,T29.E],[L209_8.E],[],40⟩
def F209:Option τ :=
 ck (((eqM (List.length (gLL l 2)) (List.length (gLL l 2)))&&true)&&true)
 (T25 [.I (gI l 0),.I (gI l 1),.LL (gLL l 2)]
 (fun j A=>(sw (br (gtI (((List.length (gL l 3)):Nat):Int) 0)
 (ck ((ltI 0 (List.length (gL l 3)))&&true)
 (ck (ltN 0 (List.length (gL l 3)))
 (ck (!((((List.length (gLL A 0)):Nat):Int)==0))
 (ck (((leI 0 (Int.tmod (wr .i64 (List.getD (gL l 3) 0 0)) (((List.length (gLL A 0)):Nat):Int)))&&(ltI (Int.tmod (wr .i64 (List.getD (gL l 3) 0 0)) (((List.length (gLL A 0)):Nat):Int)) (((List.length (gLL A 0)):Nat):Int)))&&true)
 (ck (ltN ((Int.toNat (Int.tmod (wr .i64 (List.getD (gL l 3) 0 0)) (((List.length (gLL A 0)):Nat):Int)))*1) (List.length (gLL A 0)))
 (ck (((eqM (List.length (List.getD (gLL A 0) ((Int.toNat (Int.tmod (wr .i64 (List.getD (gL l 3) 0 0)) (((List.length (gLL A 0)):Nat):Int)))*1) [])) ((List.length (List.getD (gLL A 0) ((Int.toNat (Int.tmod (wr .i64 (List.getD (gL l 3) 0 0)) (((List.length (gLL A 0)):Nat):Int)))*1) []))*1))&&(leN ((0+(List.length (List.getD (gLL A 0) ((Int.toNat (Int.tmod (wr .i64 (List.getD (gL l 3) 0 0)) (((List.length (gLL A 0)):Nat):Int)))*1) [])))*9) 1099511627776))&&true)
 (T29 [.I (gI l 0)]
 (fun j B=>(sw (L209_8.b 0 [.N (List.length (gL l 3)),.L (gL l 3),.I 1,.I (gI l 0),.I (gI l 1),.N (List.length (gLL l 2)),.LL (gLL l 2),.N (0+(List.length (List.getD (gLL A 0) ((Int.toNat (Int.tmod (wr .i64 (List.getD (gL l 3) 0 0)) (((List.length (gLL A 0)):Nat):Int)))*1) []))),.I (gI B 0),.I (gI B 1),.N (List.length (gL B 2)),.L (gL B 2),.L ([]++(List.getD (gLL A 0) ((Int.toNat (Int.tmod (wr .i64 (List.getD (gL l 3) 0 0)) (((List.length (gLL A 0)):Nat):Int)))*1) []))]
 (fun j C=>(sw (k 0 [.N (gN C 0),.L (gL C 1)])
 (sw (k 1 [.N (gN C 0),.N (gN C 1),.L (gL C 2),.L (gL C 3)])
 (fun _=>none))) j))
 (fun _=>none)) j))))))))
 (ck (!((((List.length (gLL A 0)):Nat):Int)==0))
 (ck (((leI 0 (Int.tmod 0 (((List.length (gLL A 0)):Nat):Int)))&&(ltI (Int.tmod 0 (((List.length (gLL A 0)):Nat):Int)) (((List.length (gLL A 0)):Nat):Int)))&&true)
 (ck (ltN ((Int.toNat (Int.tmod 0 (((List.length (gLL A 0)):Nat):Int)))*1) (List.length (gLL A 0)))
 (ck (((eqM (List.length (List.getD (gLL A 0) ((Int.toNat (Int.tmod 0 (((List.length (gLL A 0)):Nat):Int)))*1) [])) ((List.length (List.getD (gLL A 0) ((Int.toNat (Int.tmod 0 (((List.length (gLL A 0)):Nat):Int)))*1) []))*1))&&(leN ((0+(List.length (List.getD (gLL A 0) ((Int.toNat (Int.tmod 0 (((List.length (gLL A 0)):Nat):Int)))*1) [])))*9) 1099511627776))&&true)
 (T29 [.I (gI l 0)]
 (fun j B=>(sw (L209_8.b 0 [.N (List.length (gL l 3)),.L (gL l 3),.I 1,.I (gI l 0),.I (gI l 1),.N (List.length (gLL l 2)),.LL (gLL l 2),.N (0+(List.length (List.getD (gLL A 0) ((Int.toNat (Int.tmod 0 (((List.length (gLL A 0)):Nat):Int)))*1) []))),.I (gI B 0),.I (gI B 1),.N (List.length (gL B 2)),.L (gL B 2),.L ([]++(List.getD (gLL A 0) ((Int.toNat (Int.tmod 0 (((List.length (gLL A 0)):Nat):Int)))*1) []))]
 (fun j C=>(sw (k 0 [.N (gN C 0),.L (gL C 1)])
 (sw (k 1 [.N (gN C 0),.N (gN C 1),.L (gL C 2),.L (gL C 3)])
 (fun _=>none))) j))
 (fun _=>none)) j)))))))
 (fun _=>none)) j))
theorem F209.eq:FEq F209.O 13 F209.ps F209.sh F209:=by intro τ l κ;kernel_rfl
def F209.E:Ent P:=mkF F209.eq
def F208.ps:List PV2:=[qRaw13]
def F208.sh:List PA:=[(PA.mk (PV3.v (PV2.agg [iI,iI,(PV1.sl (PC0.m .i64))])) [])]
def F208.O:Orc P:=⟨[T35.E],[],[],40⟩
def F208:Option τ :=
 ck (((eqM (List.length (gL l 3)) (List.length (gL l 3)))&&true)&&true)
 (T35 [.I 0,.I (gI l 1),.I (gI l 2),.L (gL l 3)]
 (fun j A=>(sw (k 0 [.I (gI A 0),.I (gI A 1),.N (List.length (gLL A 2)),.LL (gLL A 2)])
 (fun _=>none)) j))
theorem F208.eq:FEq F208.O 11 F208.ps F208.sh F208:=by intro τ l κ;kernel_rfl
def F208.E:Ent P:=mkF F208.eq
end
end Go.Proofs.YticbdgmcofjkeaaGreat.Ai
namespace Go.Proofs.YticbdgmcofjkeaaGreat.Ai
open Go Ma Go.RowKit
noncomputable section
theorem F293_spec (x:Int) {τ:Type} (k:Nat→LS_→Option τ):F293 [.I x] k=k 0 [.B (decide (x<0) || decide (1<x))]:=by
 unfold F293
 simp only [gI_zero]
 by_cases h:x<0
 ·rw [br_of (by simp;omega)];simp [h]
 ·rw [br_no (by simp;omega)];simp [h,gtI]
theorem F282_spec (n:Int) {a:List Int} (hs:a.length<2^60) {τ:Type} (k:Nat→LS_→Option τ):F282 [.I n,.L a] k=k 0 [.B (isWord 2 n a)]:=by
 unfold F282 L100_2_4.b
 simp only [g_]
 by_cases hn:(a.length:Int)=n
 ·subst hn
  rw [br_of (by simp)]
  refine (run_any L100_2_4 L100_2_4.s0 0 (fun _ _ _=>rfl) _ (fun j=>[.N a.length,.L a,.I 0,.I a.length,.I (j:Nat)]) a.length (fun j=>decide (a.getD j 0<0) || decide (1<a.getD j 0)) (k 0 [.B false]) (k 0 [.B true]) (by omega) (fun j hj next=>?_) (fun next=>?_)).trans ?_
  ·skip
   unfold L100_2_4.s0
   simp only [g_,Int.toNat_natCast,Nat.mul_one]
   rw [br_of (by simp;omega),ck_of (by simp <;> omega),ck_of (by simp <;> omega),F293_spec,wsucc (by omega)]
   simp only [sw_zero,gB_zero]
   cases hp:(decide (a.getD j 0<0) || decide (1<a.getD j 0)) with
   | true=>rw [br_of rfl,if_pos rfl];simp [geI]
   | false=>rw [br_no rfl,if_neg (by decide)]
  ·skip
   unfold L100_2_4.s0
   simp only [g_,Int.toNat_natCast,Nat.mul_one]
   rw [br_no (by simp)]
   simp [geI]
  ·cases hw:isWord 2 (a.length:Int) a with
   | true =>
    rw [if_neg]
    intro h
    obtain ⟨j,hj,hp⟩:=List.any_eq_true.1 h
    have:=(isWord_iff.1 hw).2 j (Nat.zero_le _) (List.mem_range.1 hj)
    simp only [Bool.or_eq_true,decide_eq_true_eq] at hp
    omega
   | false =>
    rw [if_pos]
    apply Decidable.byContradiction
    intro h
    rw [List.any_eq_true] at h
    have:isWord 2 (a.length:Int) a=true:=isWord_iff.2 ⟨rfl,fun i _ hi=>by
     have q:¬ (a.getD i 0<0∨1<a.getD i 0):=fun hp=>h ⟨i,List.mem_range.2 hi,by rw [Bool.or_eq_true,decide_eq_true_eq,decide_eq_true_eq];exact hp⟩
     omega⟩
    rw [hw] at this;cases this
 ·rw [br_no (by simpa using hn)]
  have:isWord 2 n a=false:=by
   cases hw:isWord 2 n a with
   | true=>exact absurd (isWord_iff.1 hw).1 hn
   | false=>rfl
  rw [this]
theorem F269_spec {w:List Int} (hw:Bn w) (hl:w.length<30) {τ:Type} (k:Nat→LS_→Option τ):F269 [.L w] k=k 0 [.I ((bv w:Nat):Int)]:=by
 unfold F269 L269_3.b
 simp only [gL_zero]
 refine (run_for L269_3 L269_3.s0 0 (fun _ _ _=>rfl) _ (fun j=>[.I ((bv (w.take j):Nat):Int),.N w.length,.L w,.I w.length,.I (j:Nat)]) w.length (k 0 [.I ((bv w:Nat):Int)]) (by omega) (fun j hj next=>?_) (fun next=>?_))
 ·skip
  unfold L269_3.s0
  simp only [g_,Int.toNat_natCast,Nat.mul_one]
  rw [br_of (by simp;omega),ck_of (by simp <;> omega),ck_of (by simp <;> omega),ck_of (by simp),wsucc (by omega)]
  have e1:=shl1 (hw j hj) (j:=j) (by omega)
  have hb:bv (w.take j)<2^64:=by
   have:=bv_lt (w.take j)
   have h2:2^(w.take j).length≤2^64:=Nat.pow_le_pow_right (by decide) (by simp;omega)
   omega
  have hj2:2^j<2^30:=Nat.pow_lt_pow_right (by decide) (by omega)
  have e2:=b_or (a:=bv (w.take j)) (b:=(if w.getD j 0=1 then 1 else 0)*2^j) hb (by split <;> omega)
  rw [bv_take hj,←e1] at e2
  exact congrArg (fun x=>next 0 (.I x::_)) e2
 ·skip
  unfold L269_3.s0
  simp only [g_]
  rw [br_no (by simp),List.take_length]
  simp
def oc (x:Int):Int:=(F304 (τ:=Int) [.I x] (fun _ l=>some (gI l 0))).getD 0
theorem F304_form (x:Int) {τ:Type} (k:Nat→LS_→Option τ):F304 [.I x] k=k 0 [.I (oc x)]:=rfl
theorem oc_all:(List.range 1024).all (fun x=>oc (x:Nat)==((pc x:Nat):Int))=true:=by kernel_rfl
theorem F295_spec {a:Nat} (h:a<1024) {τ:Type} (k:Nat→LS_→Option τ):F295 [.I (a:Int)] k=k 0 [.I ((pc a:Nat):Int)]:=by
 unfold F295
 simp only [gI_zero]
 rw [F304_form]
 have:=List.all_eq_true.1 oc_all a (List.mem_range.2 h)
 rw [eq_of_beq this]
 simp
def csL (H:List (List Int)):List Int:=H.map fun h=>((bv h:Nat):Int)
theorem csL_len {H:List (List Int)}:(csL H).length=H.length:=by simp [csL]
theorem csL_get {H:List (List Int)} {j:Nat} (hj:j<H.length):(csL H).getD j 0=((bv (H.getD j []):Nat):Int):=by
 simp [csL,List.getD_eq_getElem?_getD,hj]
theorem bv_lt' {n:Nat} (hn:n≤10) {w:List Int} (hl:w.length=n):bv w<1024:=by
 have:=bv_lt w
 have h2:2^w.length≤2^10:=Nat.pow_le_pow_right (by decide) (by omega)
 omega
theorem and_lt {n:Nat} (hn:n≤10) {h w:List Int} (hl:h.length=n):bv h &&& bv w<1024:=Nat.lt_of_le_of_lt Nat.and_le_left (bv_lt' hn hl)
theorem fl_tmod {n:Nat} (hn:n≤10) {h w:List Int} (hh:Bn h) (hw:Bn w) (lh:h.length=n):(Int.tmod ((pc (bv h &&& bv w):Nat):Int) 2==1)=fl n h w:=by
 rw [pc_and hn hh hw lh]
 have:=sN_bnd hh hw n
 unfold fl
 rw [Int.tmod_eq_emod_of_nonneg this.1]
 by_cases e:sN h w n % 2=1
 ·simp [e]
 ·simp [e]
theorem clean_any {n:Nat} {H:List (List Int)} {w:List Int}:(List.range H.length).any (fun j=>fl n (H.getD j []) w)=!clean n H w:=by
 cases hc:clean n H w with
 | true =>
  rw [Bool.not_true,List.any_eq_false]
  intro j hj
  have hj:=List.mem_range.1 hj
  have:=List.all_eq_true.1 hc (H.getD j []) (by rw [List.getD_eq_getElem?_getD,List.getElem?_eq_getElem hj];exact List.getElem_mem _)
  simpa using this
 | false =>
  rw [Bool.not_false,List.any_eq_true]
  obtain ⟨h,hm,hf⟩:=List.all_eq_false.1 hc
  obtain ⟨j,hj,rfl⟩:=List.mem_iff_getElem.1 hm
  refine ⟨j,List.mem_range.2 hj,?_⟩
  rw [List.getD_eq_getElem?_getD,List.getElem?_eq_getElem hj]
  simpa using hf
theorem F273_spec (n x:Int) {τ:Type} (k:Nat→LS_→Option τ):F273 [.I n,.I x] k=k 0 [.B true]:=by
 unfold F273 L296_2.b
 simp only [gI_zero,gI_succ]
 refine run_for L296_2 L296_2.s0 0 (fun _ _ _=>rfl) _ (fun j=>[.I 0,.I 0,.I 0,.I x]) 0 (k 0 [.B true]) (by omega) (fun j hj=>by omega) (fun next=>?_)
 unfold L296_2.s0
 simp only [gI_zero,gI_succ]
 rw [br_no (by simp)]
 simp
theorem F273_1_spec (n0:Int) {n:Nat} (hn:n≤10) {H:List (List Int)} (hH:BnL H n) (hs:H.length<2^60) {w:List Int} (hw:Bn w) (hl:w.length=n) {τ:Type} (k:Nat→LS_→Option τ) :
  F273_1 [.I n0,.L (csL H),.I ((bv w:Nat):Int)] k=k 0 [.B (clean n H w)]:=by
 unfold F273_1 L296_2_1.b
 simp only [g_]
 rw [csL_len]
 refine (run_any L296_2_1 L296_2_1.s0 0 (fun _ _ _=>rfl) _ (fun j=>[.N H.length,.L (csL H),.I 0,.I H.length,.I (j:Nat),.I ((bv w:Nat):Int)]) H.length (fun j=>fl n (H.getD j []) w) (k 0 [.B false]) (k 0 [.B true]) (by omega) (fun j hj next=>?_) (fun next=>?_)).trans ?_
 ·skip
  unfold L296_2_1.s0
  simp only [g_,Int.toNat_natCast,Nat.mul_one]
  obtain ⟨g1,g2⟩:=hH.get hj
  rw [br_of (by simp;omega),ck_of (by simp <;> omega),ck_of (by simp [csL_len];omega),csL_get hj,wsucc (by omega)]
  have e:=b_and (a:=bv w) (b:=bv (H.getD j [])) (Nat.lt_trans (bv_lt' hn hl) (by decide)) (Nat.lt_trans (bv_lt' hn g1) (by decide))
  rw [Nat.and_comm] at e
  refine Eq.trans (congrArg (fun x:Int=>F295 [.I x] (_:Nat→LS_→Option τ)) e) ?_
  rw [F295_spec (and_lt (w:=w) hn g1)]
  simp only [sw_zero,gI_zero]
  rw [fl_tmod hn g2 hw g1]
  cases fl n (H.getD j []) w with
  | true=>rw [br_of rfl,if_pos rfl];simp [geI]
  | false=>rw [br_no rfl,if_neg (by decide)]
 ·skip
  unfold L296_2_1.s0
  simp only [g_,Int.toNat_natCast,Nat.mul_one]
  rw [br_no (by simp)]
  simp [geI]
 ·rw [clean_any]
  cases clean n H w <;> rfl
def lst (g:List Int):Nat→Int
 | 0=>-(1:Int)
 | j+1=>g.getD j 0
theorem lst_any (n:Int) (g:List Int):(List.range g.length).any (fun j=>decide (g.getD j 0≤lst g j) || decide (n≤g.getD j 0))=!isGone n g:=by
 cases hg:isGone n g with
 | true =>
  rw [Bool.not_true,List.any_eq_false]
  intro j hj
  obtain ⟨a,b,c⟩:=isGone_iff.1 hg j (Nat.zero_le _) (List.mem_range.1 hj)
  rw [Bool.or_eq_true,decide_eq_true_eq,decide_eq_true_eq]
  cases j with
  | zero=>simp only [lst];omega
  | succ j=>have:=c (by omega);simp only [lst,Nat.add_sub_cancel] at this ⊢;omega
 | false =>
  rw [Bool.not_false]
  apply Decidable.byContradiction
  intro h
  rw [List.any_eq_true] at h
  have q:∀ j,j<g.length→¬ (g.getD j 0≤lst g j∨n≤g.getD j 0):=fun j hj hp=>h ⟨j,List.mem_range.2 hj,by rw [Bool.or_eq_true,decide_eq_true_eq,decide_eq_true_eq];exact hp⟩
  have nn:∀ j,j<g.length→0≤g.getD j 0:=by
   intro j
   induction j with
   | zero=>intro hj;have:=q 0 hj;simp only [lst] at this;omega
   | succ j ih=>intro hj;have:=q (j+1) hj;have:=ih (by omega);simp only [lst] at *;omega
  have:isGone n g=true:=isGone_iff.2 fun i _ hi=>⟨nn i hi,by have:=q i hi;omega,fun h0=>by
   obtain ⟨i',rfl⟩:∃ i',i=i'+1:=⟨i-1,by omega⟩
   have:=q _ hi
   simp only [lst,Nat.add_sub_cancel] at this ⊢;omega⟩
  rw [hg] at this;cases this
theorem F266_spec (q n:Int) (G:List (List Int)) {w g:List Int} (hw:w.length<2^60) (hg:g.length<2^60) {τ:Type} (k:Nat→LS_→Option τ) :
  F266 [.I q,.I n,.LL G,.L w,.L g] k=k 0 [.B (isGone n g&&(decide (q=2)&&isWord 2 n w))]:=by
 unfold F266 L266_3.b
 simp only [g_]
 refine (run_any L266_3 L266_3.s0 0 (fun _ _ _=>rfl) _ (fun j=>[.B false,.I (lst g j),.N g.length,.L g,.I g.length,.I (j:Nat),.I q,.I n,.N G.length,.LL G,.N w.length,.L w,.N g.length,.L g]) g.length
  (fun j=>decide (g.getD j 0≤lst g j) || decide (n≤g.getD j 0)) (k 0 [.B false]) (k 0 [.B (decide (q=2)&&isWord 2 n w)]) (by omega) (fun j hj next=>?_) (fun next=>?_)).trans ?_
 ·unfold L266_3.s0
  simp only [g_,Int.toNat_natCast,Nat.mul_one]
  rw [br_of (by simp;omega),ck_of (by simp <;> omega),ck_of (by simp <;> omega),wsucc (by omega)]
  by_cases h1:g.getD j 0≤lst g j
  ·rw [br_of (by rw [leI_iff];exact h1),if_pos (by rw [Bool.or_eq_true,decide_eq_true_eq];exact .inl h1)]
   simp
  ·rw [br_no (by rw [leI_no];exact h1)]
   by_cases h2:n≤g.getD j 0
   ·rw [br_of (by rw [geI_iff];exact h2),if_pos (by rw [Bool.or_eq_true,decide_eq_true_eq,decide_eq_true_eq];exact .inr h2)]
    simp
   ·rw [br_no (by rw [geI_no];exact h2),if_neg (by rw [Bool.or_eq_true,decide_eq_true_eq,decide_eq_true_eq];omega)]
    rfl
 ·unfold L266_3.s0
  simp only [g_,Int.toNat_natCast,Nat.mul_one,sw_zero,sw_succ]
  rw [br_no (by simp)]
  by_cases hq:q=2
  ·subst hq
   rw [br_of (by simp),ck_of (by simp),F282_spec n hw]
   simp
  ·rw [br_no (by simpa using hq)]
   simp [hq]
 ·rw [lst_any]
  cases isGone n g <;> rfl
theorem csL_take {H:List (List Int)} {j:Nat} (hj:j<H.length):csL (H.take (j+1))=csL (H.take j)++[((bv (H.getD j []):Nat):Int)]:=by
 have:H.getD j []=H[j]:=by rw [List.getD_eq_getElem?_getD,List.getElem?_eq_getElem hj];rfl
 rw [List.take_succ_eq_append_getElem hj,this]
 unfold csL
 rw [List.map_append]
 rfl
theorem F267_spec {q n:Nat} {G:List (List Int)} (h:Lc q n G) (hn:n≤10) (hB:BnL (dualR q n G) n) (hl:(dualR q n G).length≤10) :
  (dualR q n G=[]∧∀ {τ:Type} (k:Nat→LS_→Option τ),F267 [.I q,.I n,.LL G] k=k 0 [.I n])∨(∀ {τ:Type} (k:Nat→LS_→Option τ),F267 [.I q,.I n,.LL G] k=k 1 [.I n,.N (dualR q n G).length,.L (csL (dualR q n G))]):=by
 have run:∀ {τ:Type} (k:Nat→LS_→Option τ),F267 [.I q,.I n,.LL G] k=L267_3.b 0 [.N (dualR q n G).length,.LL (dualR q n G),.I (((dualR q n G).length:Nat):Int),.I 0,.I 0,.I n]
   (fun j l10=>(sw (k 0 [.I (gI l10 1)]) (sw (k 1 [.I (gI l10 1),.N (gN l10 2),.L (gL l10 3)]) (fun _=>none))) j):=by
  intro τ k
  unfold F267
  simp only [g_]
  rw [ck_of (by simp),T36_spec h]
  simp
 generalize dualR q n G=H at *
 cases H with
 | nil =>
  left
  refine ⟨rfl,fun {τ} k=>?_⟩
  rw [run]
  unfold L267_3.b
  refine run_for L267_3 L267_3.s0 0 (fun _ _ _=>rfl) _ (fun j=>[.N 0,.LL [],.I 0,.I 0,.I 0,.I n]) 0 _ (by omega) (fun j hj=>by omega) (fun next=>?_)
  unfold L267_3.s0
  simp only [g_]
  rw [br_no (by simp)]
  simp
 | cons h0 t =>
  right
  intro τ k
  rw [run]
  unfold L267_3.b
  obtain ⟨f,hf,hf2⟩:=fuel_pred
  have hb:=hB.get (k:=0) (by simp)
  rw [hf,runE_succ]
  rw [show ∀ (next κ:Nat→LS_→Option τ) l,L267_3.step next κ 0 l=L267_3.s0 next κ l from fun _ _ _=>rfl]
  unfold L267_3.s0
  simp only [g_]
  rw [br_of (by simp <;> omega),ck_of (by simp <;> omega),ck_of (by simp),ck_of (by simp)]
  simp only [Int.toNat_zero,Nat.zero_mul]
  rw [F269_spec hb.2 (by omega)]
  simp only [sw_zero,gI_zero]
  rw [show wr .i64 ((0:Int)+1)=((1:Nat):Int) by decide]
  refine run_from L267_3 L267_3.s1 1 (fun _ _ _=>rfl) _ (fun j=>[.N (h0::t).length,.LL (h0::t),.I ((h0::t).length:Nat),.I (j:Nat),.I 0,.I n,.N j,.L (csL ((h0::t).take j))]) (h0::t).length _ (fun j hj next=>?_) (fun next=>?_) f 1 (by simp) (by omega)
  ·have hb:=hB.get hj
   unfold L267_3.s1
   simp only [g_,Int.toNat_natCast,Nat.mul_one]
   rw [br_of (by simp at hj ⊢;omega),ck_of (by simp at hj ⊢;omega),ck_of (by simpa using hj),ck_of (by simp),F269_spec hb.2 (by omega),wsucc (by omega)]
   simp only [sw_zero,gI_zero]
   rw [ck_of (by rw [csL_len,List.length_take];simp at hj hl ⊢;omega),csL_take hj]
   rfl
  ·unfold L267_3.s1
   simp only [g_]
   rw [br_no (by simp),List.take_length]
   simp
theorem L268_3_spec {n:Nat} (hn:n≤10) {w:List Int} (hw:Bn w) (hl:w.length=n) (rd:Int) (d:Bool) {τ:Type} (κ:Nat→LS_→Option τ) :
  L268_3.b 0 [.I ((bv w:Nat):Int),.I ((n:Nat):Int),.I 0,.I 0,.B false,.N n,.I rd,.B d,.L (List.replicate n 0)] κ=κ 0 [.I 0,.B false,.N n,.I rd,.B d,.L w]:=by
 unfold L268_3.b
 refine Eq.trans (congrArg (fun x=>runE L268_3 fuel κ 0 [.I ((bv w:Nat):Int),.I ((n:Nat):Int),.I 0,.I 0,.B false,.N n,.I rd,.B d,.L x]) (map_zero.symm.trans fil_zero.symm:_=fil n (fun i=>w.getD i 0) (fun _=>0) 0)) ?_
 refine run_for L268_3 L268_3.s0 0 (fun _ _ _=>rfl) _ (fun j=>[.I ((bv w:Nat):Int),.I ((n:Nat):Int),.I (j:Nat),.I 0,.B false,.N n,.I rd,.B d,.L (fil n (fun i=>w.getD i 0) (fun _=>0) j)]) n _ (by omega) (fun j hj next=>?_) (fun next=>?_)
 ·unfold L268_3.s0
  simp only [g_,Int.toNat_natCast,Nat.mul_one,Nat.zero_add]
  rw [br_of (by simp;omega),ck_of (by simp),ck_of (by simp;omega),ck_of (by rw [fil_len];simp;omega),wsucc (by omega),←fil_set]
  have e:=bit1 hw (j:=j) (by omega) (by omega)
  rw [Int.toNat_natCast] at e
  exact congrArg (fun x=>next 0 [.I _,.I _,.I _,.I _,.B _,.N _,.I _,.B _,.L (List.set _ _ x)]) e
 ·unfold L268_3.s0
  simp only [g_]
  rw [br_no (by simp),fil_full]
  subst hl
  rw [map_self]
theorem F268_spec {n:Nat} (hn:n≤10) {w:List Int} (hw:Bn w) (hl:w.length=n) (rd:Int) {τ:Type} (k:Nat→LS_→Option τ) :
  F268 [.I ((n:Nat):Int),.I ((bv w:Nat):Int),.I rd] k=k 0 [.N n,.I rd,.B true,.L w]:=by
 unfold F268
 simp only [gI_zero,gI_succ,Int.toNat_natCast]
 rw [ck_of (by simp;omega),F273_spec]
 simp only [sw_zero,gB_zero]
 rw [L268_3_spec hn hw hl]
 simp
theorem F268_1_spec {n:Nat} (hn:n≤10) {H:List (List Int)} (hH:BnL H n) (hs:H.length<2^60) {w:List Int} (hw:Bn w) (hl:w.length=n) (rd:Int) {τ:Type} (k:Nat→LS_→Option τ) :
  F268_1 [.I ((n:Nat):Int),.L (csL H),.I ((bv w:Nat):Int),.I rd] k=k 0 [.N n,.I rd,.B (clean n H w),.L w]:=by
 unfold F268_1
 simp only [g_,Int.toNat_natCast]
 rw [ck_of (by simp;omega),ck_of (by simp),F273_1_spec _ hn hH hs hw hl]
 simp only [sw_zero,gB_zero]
 rw [L268_3_spec hn hw hl]
 simp
theorem F284_spec {b:List Int} (h0:0<b.length) (hs:b.length<2^60) {τ:Type} (k:Nat→LS_→Option τ):F284 [.L b] k=k 0 [.I (most (fun i=>b.getD i 0) (b.length-1))]:=by
 unfold F284 L284_5.b
 simp only [gL_zero]
 rw [br_no (by simp;omega),ck_of (by simp;omega),ck_of (by simpa using h0)]
 refine run_for L284_5 L284_5.s0 0 (fun _ _ _=>rfl) _ (fun j=>[.N b.length,.L b,.I (most (fun i=>b.getD i 0) j),.I ((j+1:Nat):Int)]) (b.length-1) _ (by omega) (fun j hj next=>?_) (fun next=>?_)
 ·unfold L284_5.s0
  simp only [g_,Int.toNat_natCast,Nat.mul_one]
  rw [br_of (by simp;omega),ck_of (by simp <;> omega),ck_of (by simp <;> omega),wsucc (by omega)]
  rfl
 ·unfold L284_5.s0
  simp only [g_]
  rw [br_no (by simp;omega)]
  simp
theorem L272_8_spec {n:Nat} (hn:n≤10) {h:List Int} (hh:Bn h) (lh:h.length=n) (b:Nat→Int) (hb:∀ i,0≤b i∧b i≤1000) (x:Int) (m:Nat) (cs:List Int) (y z v:Int) {τ:Type} (κ:Nat→LS_→Option τ) :
  L272_8.b 0 [.I x,.N n,.I ((bv h:Nat):Int),.N m,.L cs,.I y,.I z,.I ((n:Nat):Int),.I 0,.L ((List.range n).map b),.I v] κ=κ 0 [.I x,.N n,.N m,.L cs,.I y,.I z,.L ((List.range n).map fun i=>b i+h.getD i 0),.I v]:=by
 unfold L272_8.b
 refine Eq.trans (congrArg (fun q=>runE L272_8 fuel κ 0 [.I x,.N n,.I ((bv h:Nat):Int),.N m,.L cs,.I y,.I z,.I ((n:Nat):Int),.I 0,.L q,.I v]) (fil_zero.symm:_=fil n (fun i=>b i+h.getD i 0) b 0)) ?_
 refine run_for L272_8 L272_8.s0 0 (fun _ _ _=>rfl) _ (fun j=>[.I x,.N n,.I ((bv h:Nat):Int),.N m,.L cs,.I y,.I z,.I ((n:Nat):Int),.I (j:Nat),.L (fil n (fun i=>b i+h.getD i 0) b j),.I v]) n _ (by omega) (fun j hj next=>?_) (fun next=>?_)
 ·unfold L272_8.s0
  simp only [g_,Int.toNat_natCast,Nat.mul_one,Nat.zero_add]
  rw [br_of (by simp;omega),ck_of (by simp;omega),ck_of (by rw [fil_len];simp;omega),ck_of (by simp),ck_of (by simp;omega),ck_of (by rw [fil_len];simp;omega),wsucc (by omega),fil_get hj,if_neg (Nat.lt_irrefl _),←fil_set]
  have e:=bit1 hh (j:=j) (by omega) (by omega)
  rw [Int.toNat_natCast] at e
  have e2:∀ y:Int,y=h.getD j 0→wr .i64 (b j+y)=b j+h.getD j 0:=fun y hy=>by
   subst hy
   have:=hb j
   exact wr64 (by rcases hh.bit j with q | q <;> rw [q] <;> omega) (by rcases hh.bit j with q | q <;> rw [q] <;> omega)
  exact congrArg (fun q=>next 0 [.I _,.N _,.I _,.N _,.L _,.I _,.I _,.I _,.I _,.L (List.set _ _ q),.I _]) (e2 _ e)
 ·unfold L272_8.s0
  simp only [g_]
  rw [br_no (by simp),fil_full]
theorem L272_15_spec {n:Nat} (hn:n≤10) {w:List Int} (hw:Bn w) (hl:w.length=n) (b:Nat→Int) (m:Int) {τ:Type} (κ:Nat→LS_→Option τ) :
  L272_15.b 0 [.I ((bv w:Nat):Int),.I m,.N n,.I ((n:Nat):Int),.I 0,.L ((List.range n).map b)] κ=κ 0 [.I ((bv ((List.range n).map fun i=>if b i=m then 1-w.getD i 0 else w.getD i 0):Nat):Int)]:=by
 unfold L272_15.b
 have hF:∀ j,Bn (fil n (fun i=>if b i=m then 1-w.getD i 0 else w.getD i 0) (fun i=>w.getD i 0) j):=fun j i hi=>by
  rw [fil_len] at hi
  rw [fil_get hi]
  split
  ·split
   ·rcases hw.bit i with q | q <;> rw [q] <;> decide
   ·exact hw.bit i
  ·exact hw.bit i
 have e0:w=fil n (fun i=>if b i=m then 1-w.getD i 0 else w.getD i 0) (fun i=>w.getD i 0) 0:=by
  rw [fil_zero];subst hl;exact map_self.symm
 refine Eq.trans (congrArg (fun q=>runE L272_15 fuel κ 0 [.I ((bv q:Nat):Int),.I m,.N n,.I ((n:Nat):Int),.I 0,.L ((List.range n).map b)]) e0) ?_
 refine run_for L272_15 L272_15.s0 0 (fun _ _ _=>rfl) _ (fun j=>[.I ((bv (fil n (fun i=>if b i=m then 1-w.getD i 0 else w.getD i 0) (fun i=>w.getD i 0) j):Nat):Int),.I m,.N n,.I ((n:Nat):Int),.I (j:Nat),.L ((List.range n).map b)]) n _ (by omega) (fun j hj next=>?_) (fun next=>?_)
 ·unfold L272_15.s0
  simp only [g_,Int.toNat_natCast,Nat.mul_one,Nat.zero_add]
  rw [br_of (by simp;omega),ck_of (by simp;omega),ck_of (by simp;omega),wsucc (by omega),map_get hj]
  by_cases hb:b j=m
  ·rw [br_of (by simpa using hb),ck_of (by simp),←fil_set]
   have e1:=shl1' (j:=j) (by omega)
   have e2:=bv_set (w:=fil n (fun i=>if b i=m then 1-w.getD i 0 else w.getD i 0) (fun i=>w.getD i 0) j) (j:=j) (by rw [fil_len];exact hj) (hF j)
   rw [fil_get hj,if_neg (Nat.lt_irrefl _)] at e2
   have hlt:=bv_lt (fil n (fun i=>if b i=m then 1-w.getD i 0 else w.getD i 0) (fun i=>w.getD i 0) j)
   rw [fil_len] at hlt
   have h2:2^n≤2^10:=Nat.pow_le_pow_right (by decide) hn
   have h3:2^j<2^10:=Nat.lt_of_lt_of_le (Nat.pow_lt_pow_right (by decide) hj) h2
   have e3:=b_xor (a:=bv (fil n (fun i=>if b i=m then 1-w.getD i 0 else w.getD i 0) (fun i=>w.getD i 0) j)) (b:=2^j) (by omega) (by omega)
   rw [e2,←e1,Int.toNat_natCast] at e3
   rw [if_pos hb]
   exact congrArg (fun q=>next 0 [.I q,.I _,.N _,.I _,.I _,.L _]) e3
  ·rw [br_no (by simpa using hb),fil_same (by rw [if_neg hb])]
 ·unfold L272_15.s0
  simp only [g_]
  rw [br_no (by simp),fil_full]
theorem F272_1_spec {n:Nat} (h1:1≤n) (hn:n≤10) {H:List (List Int)} (hH:BnL H n) (hs:H.length≤10) {w:List Int} (hw:Bn w) (hl:w.length=n) {τ:Type} (k:Nat→LS_→Option τ) :
  F272_1 [.I ((n:Nat):Int),.L (csL H),.I ((bv w:Nat):Int)] k=k 0 [.I ((bv (turn n H w):Nat):Int)]:=by
 unfold F272_1 L272_4_1.b
 simp only [g_,Int.toNat_natCast]
 rw [ck_of (by simp;omega),csL_len]
 refine Eq.trans (congrArg (fun q=>runE L272_4_1 fuel _ 0 [.I ((bv w:Nat):Int),.N n,.N H.length,.L (csL H),.I ((H.length:Nat):Int),.I 0,.L q,.I ((bv w:Nat):Int)]) (map_zero.symm:_=(List.range n).map (bl n H w 0))) ?_
 refine run_for L272_4_1 L272_4_1.s0 0 (fun _ _ _=>rfl) _ (fun j=>[.I ((bv w:Nat):Int),.N n,.N H.length,.L (csL H),.I ((H.length:Nat):Int),.I (j:Nat),.L ((List.range n).map (bl n H w j)),.I ((bv w:Nat):Int)]) H.length _ (by omega) (fun j hj next=>?_) (fun next=>?_)
 ·obtain ⟨g1,g2⟩:=hH.get hj
  unfold L272_4_1.s0
  simp only [g_,Int.toNat_natCast,Nat.mul_one]
  rw [br_of (by simp;omega),ck_of (by simp;omega),ck_of (by rw [csL_len];simpa using hj),csL_get hj,wsucc (by omega)]
  have e:=b_and (a:=bv w) (b:=bv (H.getD j [])) (Nat.lt_trans (bv_lt' hn hl) (by decide)) (Nat.lt_trans (bv_lt' hn g1) (by decide))
  rw [Nat.and_comm] at e
  refine Eq.trans (congrArg (fun x:Int=>F295 [.I x] (_:Nat→LS_→Option τ)) e) ?_
  rw [F295_spec (and_lt (w:=w) hn g1)]
  simp only [sw_zero,gI_zero]
  rw [fl_tmod hn g2 hw g1]
  have bb:∀ i,0≤bl n H w j i∧bl n H w j i≤1000:=fun i=>by have:=bl_bnd hH w i j (by omega);omega
  cases hf:fl n (H.getD j []) w with
  | true =>
   rw [br_no (b:=!true) rfl,L272_8_spec hn g2 g1 _ bb]
   simp only [g_,sw_zero]
   rw [wsucc (by omega)]
   have:(bl n H w (j+1))=fun i=>bl n H w j i+(H.getD j []).getD i 0:=by
    funext i;simp only [bl];rw [if_pos hf]
   rw [this]
  | false =>
   rw [br_of (b:=!false) rfl]
   have:(bl n H w (j+1))=bl n H w j:=by
    funext i;simp only [bl];rw [if_neg (by rw [hf];decide)];omega
   rw [this]
 ·unfold L272_4_1.s0
  simp only [g_]
  rw [br_no (by simp)]
  simp only [g_,sw_zero,Nat.mul_one,List.drop_zero]
  rw [ck_of (by simp),List.take_of_length_le (by simp),F284_spec (by simp;omega) (by simp;omega)]
  simp only [sw_zero,gI_zero]
  rw [L272_15_spec hn hw hl]
  simp only [sw_zero,gI_zero]
  have e:most (fun i=>((List.range n).map (bl n H w H.length)).getD i 0) (((List.range n).map (bl n H w H.length)).length-1)=most (bl n H w H.length) (n-1):=by
   rw [List.length_map,List.length_range]
   have:∀ m,m<n→most (fun i=>((List.range n).map (bl n H w H.length)).getD i 0) m=most (bl n H w H.length) m:=by
    intro m
    induction m with
    | zero=>intro h;simp only [most];exact map_get h
    | succ m ih=>intro h;simp only [most];rw [ih (by omega),map_get h]
   exact this _ (by omega)
  rw [e]
  rfl
theorem L251_5_1_run {n:Nat} (h1:1≤n) (hn:n≤10) {H:List (List Int)} (hH:BnL H n) (hs:H.length≤10) (c0:Int) (c1:Bool) {τ:Type} (κ:Nat→LS_→Option τ):∀ (f:Nat) (b:Int) (w:List Int) (r:Int),b<2^63→Bn w→w.length=n→0≤r→r≤1000→1000<f+r →
  runE L251_5_1 f κ 0 [.I b,.I ((bv w:Nat):Int),.I ((n:Nat):Int),.N H.length,.I r,.I c0,.B c1,.I ((n:Nat):Int),.N H.length,.L (csL H)] =
   κ 0 [.I ((bv (rounds n H b.toNat (w,r)).1:Nat):Int),.I (rounds n H b.toNat (w,r)).2,.I c0,.B c1,.I ((n:Nat):Int),.N H.length,.L (csL H)]
 | 0,b,w,r,hb,hw,hl,r0,r1,hf=>by omega
 | f+1,b,w,r,hb,hw,hl,r0,r1,hf=>by
  rw [runE_succ,show ∀ (next κ:Nat→LS_→Option τ) l,L251_5_1.step next κ 0 l=L251_5_1.s0 next κ l from fun _ _ _=>rfl]
  unfold L251_5_1.s0
  simp only [g_,Nat.mul_one,List.drop_zero]
  by_cases h0:0<b
  ·obtain ⟨m,hm⟩:∃ m:Nat,b.toNat=m+1:=⟨b.toNat-1,by omega⟩
   rw [br_of (by simp;omega),hm]
   simp only [rounds]
   by_cases h2:r<1000
   ·rw [br_of (by simp;omega),ck_of (by rw [List.take_of_length_le (by rw [csL_len];exact Nat.le_refl _),csL_len];simp),List.take_of_length_le (by rw [csL_len];exact Nat.le_refl _),F273_1_spec _ hn hH (by omega) hw hl]
    simp only [sw_zero,gB_zero]
    cases hc:clean n H w with
    | true=>rw [br_no (b:=!true) rfl,if_neg (by simp)]
    | false =>
     rw [br_of (b:=!false) rfl,ck_of (by rw [csL_len];simp),F272_1_spec h1 hn hH hs hw hl]
     simp only [sw_zero,gI_zero]
     rw [if_pos (by simp [h2]),wr64 (by omega) (by omega),wr64 (by omega) (by omega),L251_5_1_run h1 hn hH hs c0 c1 κ f (b-1) (turn n H w) (r+1) (by omega) (turn_bn hw) turn_len (by omega) (by omega) (by omega),show (b-1).toNat=m by omega]
   ·rw [br_no (by simp;omega),if_neg (by simp;omega)]
  ·have:b.toNat=0:=by omega
   rw [br_no (by simp;omega),this]
   rfl
theorem L251_5_run (n x c0:Int) (c1:Bool) (b r:Int) {τ:Type} (κ:Nat→LS_→Option τ) :
  L251_5.b 0 [.I b,.I x,.I n,.I r,.I c0,.B c1,.I n] κ=κ 0 [.I x,.I r,.I c0,.B c1,.I n]:=by
 unfold L251_5.b
 obtain ⟨f,hf,_⟩:=fuel_pred
 rw [hf,runE_succ,show ∀ (next κ:Nat→LS_→Option τ) l,L251_5.step next κ 0 l=L251_5.s0 next κ l from fun _ _ _=>rfl]
 unfold L251_5.s0
 simp only [g_]
 by_cases h0:0<b
 ·rw [br_of (by simp;omega)]
  by_cases h2:r<1000
  ·rw [br_of (by simp;omega),F273_spec]
   simp only [sw_zero,gB_zero]
   rw [br_no (b:=!true) rfl]
  ·rw [br_no (by simp;omega)]
 ·rw [br_no (by simp;omega)]
theorem rounds_nil {n:Nat}:∀ (k:Nat) (s:List Int×Int),rounds n [] k s=s
 | 0,s=>rfl
 | k+1,s=>by simp [rounds,clean]
section
variable {n:Nat} {q:Int} {G:List (List Int)}
theorem chk_bn (h:Lc 2 n G) (hn:n≤10):BnL (dualR 2 n G) n∧(dualR 2 n G).length≤10:=by
 obtain ⟨D,dl,_⟩:=h.dual
 refine ⟨fun r hr=>?_,by omega⟩
 obtain ⟨i,hi,rfl⟩:=List.mem_iff_getElem.1 hr
 have:=D.rows.wd i hi
 rw [List.getD_eq_getElem?_getD,List.getElem?_eq_getElem hi] at this
 exact ⟨this.1,.of this⟩
theorem word_bn {w:List Int} (h:isWord 2 n w=true):w.length=n∧Bn w:=by
 obtain ⟨h1,h2⟩:=isWord_iff.1 h
 exact ⟨by omega,fun i hi=>by have:=h2 i (Nat.zero_le _) hi;omega⟩
theorem word_of {w:List Int} (h1:w.length=n) (h2:Bn w):isWord 2 n w=true :=
 isWord_iff.2 ⟨by omega,fun i _ hi=>by rcases h2 i hi with e | e <;> rw [e] <;> decide⟩
def stv (q:Int) (n:Nat) (G:List (List Int)) (w:List Int) (r:Int) (d:Bool):Bool :=
 decide (q=2)&&(isWord 2 n w&&(decide (0≤r)&&(decide (r≤1000)&&(clean n (dualR 2 n G) w==d))))
def knv (q:Int) (n:Nat) (w:List Int) (r:Int):Bool:=decide (q=2)&&(isWord 2 n w&&(decide (0≤r)&&decide (r≤1000)))
theorem F271_no {q:Int} {w:List Int} (hw:w.length<2^60) {r:Int} {d:Bool} (h:knv q n w r=false) {τ:Type} (k:Nat→LS_→Option τ):F271 [.I q,.I n,.LL G,.L w,.I r,.B d] k=k 0 []:=by
 unfold F271
 simp only [g_]
 by_cases hq:q=2
 ·subst hq
  rw [br_no (by simp),ck_of (by simp),F282_spec _ hw]
  simp only [sw_zero,gB_zero]
  cases hwd:isWord 2 n w with
  | false=>rw [br_of (b:=!false) rfl]
  | true =>
   rw [br_no (b:=!true) rfl]
   by_cases h0:r<0
   ·rw [br_of (by simpa using h0)]
   ·rw [br_no (by simp;omega)]
    have:1000<r:=by
     apply Decidable.byContradiction
     intro h1
     have:knv 2 n w r=true:=by unfold knv;rw [hwd];simp;omega
     rw [h] at this;cases this
    rw [br_of (by simp;omega)]
 ·rw [br_of (by simpa using hq)]
theorem F271_ok (h:Lc 2 n G) (hn:n≤10) {w:List Int} (hw:isWord 2 n w=true) {r:Int} (r0:0≤r) (r1:r≤1000) (d:Bool) :
    (dualR 2 n G=[]∧∀ {τ:Type} (k:Nat→LS_→Option τ),F271 [.I 2,.I n,.LL G,.L w,.I r,.B d] k=k 1 [.I n,.I ((bv w:Nat):Int),.B (clean n (dualR 2 n G) w==d)]) ∨
    (∀ {τ:Type} (k:Nat→LS_→Option τ),F271 [.I 2,.I n,.LL G,.L w,.I r,.B d] k=k 2 [.I n,.N (dualR 2 n G).length,.I ((bv w:Nat):Int),.B (clean n (dualR 2 n G) w==d),.L (csL (dualR 2 n G))]):=by
  obtain ⟨hB,hl⟩:=chk_bn h hn
  obtain ⟨w1,w2⟩:=word_bn hw
  have pre:∀ {τ:Type} (k:Nat→LS_→Option τ),F271 [.I 2,.I n,.LL G,.L w,.I r,.B d] k=F267 [.I 2,.I n,.LL G]
       (fun j l8=>(sw (ck ((eqM (List.length w) (List.length w))&&true)
       (F269 [.L w]
       (fun j l9=>(sw (F273 [.I (gI l8 0),.I (gI l9 0)]
       (fun j l11=>(sw (k 1 [.I (gI l8 0),.I (gI l9 0),.B ((gB l11 0)==d)])
       (fun _=>none)) j))
       (fun _=>none)) j)))
       (sw (ck ((eqM (List.length w) (List.length w))&&true)
       (F269 [.L w]
       (fun j l12=>(sw (ck ((true&&((eqM (gN l8 1) (List.length (List.take ((gN l8 1)*1) (List.drop 0 (gL l8 2)))))&&true))&&(true&&true))
       (F273_1 [.I (gI l8 0),.L (List.take ((gN l8 1)*1) (List.drop 0 (gL l8 2))),.I (gI l12 0)]
       (fun j l16=>(sw (k 2 [.I (gI l8 0),.N (gN l8 1),.I (gI l12 0),.B ((gB l16 0)==d),.L (gL l8 2)])
       (fun _=>none)) j)))
       (fun _=>none)) j)))
       (fun _=>none))) j):=by
    intro τ k
    unfold F271
    simp only [g_]
    rw [br_no (by simp),ck_of (by simp),F282_spec _ (by omega),hw]
    simp only [sw_zero,gB_zero]
    (rw [br_no (b:=!true) rfl,br_no (by simp;omega),br_no (by simp;omega),ck_of (by simp)]) <;> rfl
  rcases F267_spec h hn hB hl with ⟨he,hk⟩ | hk
  · left
    refine ⟨he,fun {τ} k=>?_⟩
    rw [pre,show (Leaf.I 2)=Leaf.I ((2:Nat):Int) from rfl,hk]
    simp only [sw_zero,gI_zero]
    rw [ck_of (by simp),F269_spec w2 (by omega)]
    simp only [sw_zero,gI_zero]
    rw [F273_spec,he]
    rfl
  · right
    intro τ k
    rw [pre,show (Leaf.I 2)=Leaf.I ((2:Nat):Int) from rfl,hk]
    simp only [g_,sw_zero,sw_succ,Nat.mul_one,List.drop_zero]
    rw [ck_of (by simp),F269_spec w2 (by omega)]
    simp only [sw_zero,gI_zero]
    rw [ck_of (by simp [csL_len]),List.take_of_length_le (by rw [csL_len];exact Nat.le_refl _),F273_1_spec _ hn hB (by omega) w2 w1]
    simp
theorem F251_no (h:q≠2∨Lc 2 n G) (hn:n≤10) {w:List Int} (hs:w.length<2^60) {r:Int} {d:Bool} (hv:stv q n G w r d=false) (b:Int) {τ:Type} (k:Nat→LS_→Option τ) :
  F251 [.I q,.I n,.LL G,.L w,.I r,.B d,.I b] k=k 0 []:=by
 unfold F251
 simp only [g_]
 rw [ck_of (by simp)]
 cases hk:knv q n w r with
 | false=>rw [F271_no hs hk];rfl
 | true =>
  unfold knv at hk
  simp only [Bool.and_eq_true,decide_eq_true_eq] at hk
  obtain ⟨rfl,hw,r0,r1⟩:=hk
  have h:Lc 2 n G:=h.resolve_left (fun e=>e rfl)
  have hc:(clean n (dualR 2 n G) w==d)=false:=by
   unfold stv at hv
   rw [hw,decide_eq_true (rfl:(2:Int)=2),decide_eq_true r0,decide_eq_true r1] at hv
   simpa using hv
  rcases F271_ok h hn hw r0 r1 d with ⟨he,hk⟩ | hk
  ·rw [hk,hc]
   simp only [sw_zero,sw_succ,gB_zero,gB_succ]
   rw [br_of (b:=!false) rfl]
  ·rw [hk,hc]
   simp only [sw_zero,sw_succ,gB_zero,gB_succ]
   rw [br_of (b:=!false) rfl]
theorem F251_ok (h:Lc 2 n G) (h1:1≤n) (hn:n≤10) {w:List Int} {r:Int} {d:Bool} (hv:stv 2 n G w r d=true) {b:Int} (hb:b<2^63) {τ:Type} (k:Nat→LS_→Option τ) :
  F251 [.I 2,.I n,.LL G,.L w,.I r,.B d,.I b] k=k 1 [.N n,.I (rounds n (dualR 2 n G) b.toNat (w,r)).2,.B (clean n (dualR 2 n G) (rounds n (dualR 2 n G) b.toNat (w,r)).1),.L (rounds n (dualR 2 n G) b.toNat (w,r)).1]:=by
 unfold stv at hv
 simp only [Bool.and_eq_true,decide_eq_true_eq] at hv
 obtain ⟨_,hw,r0,r1,hc⟩:=hv
 obtain ⟨hB,hl⟩:=chk_bn h hn
 obtain ⟨w1,w2⟩:=word_bn hw
 have hR:=rounds_bn (n:=n) (H:=dualR 2 n G) b.toNat (w,r) w1 w2
 unfold F251
 simp only [g_]
 rw [ck_of (by simp)]
 have hfu:=fuel_le
 rcases F271_ok h hn hw r0 r1 d with ⟨he,hk⟩ | hk
 ·rw [hk,hc]
  simp only [g_,sw_zero,sw_succ]
  rw [br_no (b:=!true) rfl,L251_5_run]
  simp only [sw_zero,gI_zero,gI_succ]
  rw [F268_spec hn w2 w1,he,rounds_nil]
  simp [clean]
 ·rw [hk,hc]
  simp only [g_,sw_zero,sw_succ]
  rw [br_no (b:=!true) rfl]
  unfold L251_5_1.b
  rw [L251_5_1_run h1 hn hB hl 0 false _ fuel b w r hb w2 w1 r0 r1 (by omega)]
  simp only [g_,sw_zero,Nat.mul_one,List.drop_zero]
  rw [ck_of (by simp [csL_len]),List.take_of_length_le (by rw [csL_len];exact Nat.le_refl _),F268_1_spec hn hB (by omega) hR.2 hR.1]
  simp
theorem F248_no (h:q≠2∨Lc 2 n G) (hn:n≤10) {w:List Int} (hs:w.length<2^60) {r:Int} {d:Bool} (hv:stv q n G w r d=false∨(r=1000∧d=false)) {τ:Type} (k:Nat→LS_→Option τ) :
  F248 [.I q,.I n,.LL G,.L w,.I r,.B d] k=k 0 []:=by
 unfold F248
 simp only [g_]
 by_cases hr:r=1000
 ·rw [br_of (by simpa using hr)]
  cases d with
  | false=>rw [br_of (b:=!false) rfl]
  | true =>
   have hv:=hv.resolve_right (fun e=>by cases e.2)
   rw [br_no (b:=!true) rfl,ck_of (by simp),F251_no h hn hs hv]
   rfl
 ·have hv:=hv.resolve_right (fun e=>hr e.1)
  rw [br_no (by simpa using hr),ck_of (by simp),F251_no h hn hs hv]
  rfl
theorem F248_ok (h:Lc 2 n G) (h1:1≤n) (hn:n≤10) {w:List Int} {r:Int} {d:Bool} (hv:stv 2 n G w r d=true) (hx:¬ (r=1000∧d=false)) {τ:Type} (k:Nat→LS_→Option τ) :
  F248 [.I 2,.I n,.LL G,.L w,.I r,.B d] k=k 1 [.N n,.I (rounds n (dualR 2 n G) 1 (w,r)).2,.B (clean n (dualR 2 n G) (rounds n (dualR 2 n G) 1 (w,r)).1),.L (rounds n (dualR 2 n G) 1 (w,r)).1]:=by
 unfold F248
 simp only [g_]
 by_cases hr:r=1000
 ·rw [br_of (by simpa using hr)]
  cases d with
  | false=>exact absurd ⟨hr,rfl⟩ hx
  | true =>
   rw [br_no (b:=!true) rfl,ck_of (by simp),F251_ok h h1 hn hv (by decide)]
   simp
 ·rw [br_no (by simpa using hr),ck_of (by simp),F251_ok h h1 hn hv (by decide)]
  simp
def T210 {τ:Type} (l:LS_) (k:Nat→LS_→Option τ):Option τ:=wrapB F210.E (.v qState) l k
def T210.E:Ent P:=F210.E.wrap (.v qState)
def T213 {τ:Type} (l:LS_) (k:Nat→LS_→Option τ):Option τ:=wrapB F213.E (.v qState) l k
def T213.E:Ent P:=F213.E.wrap (.v qState)
def T215 {τ:Type} (l:LS_) (k:Nat→LS_→Option τ):Option τ:=wrapB F215.E (.v qState) l k
def T215.E:Ent P:=F215.E.wrap (.v qState)
theorem T215_no (h:q≠2∨Lc 2 n G) (hn:n≤10) {w:List Int} (hs:w.length<2^60) {r:Int} {d:Bool} (hv:stv q n G w r d=false) (b:Int) {τ:Type} (k:Nat→LS_→Option τ) :
  T215 [.I q,.I n,.LL G,.L w,.I r,.B d,.I b] k=k 0 [.L [],.I 0,.B false,.I 1] :=
 wrap_of (e:=F215.E) (p:=.v qState) (j:=0) (l2:=[.I 0,.B false,.I 1]) (c:=true) (ls':=[.L [],.I 0,.B false,.I 1]) (by intro τ κ;kernel_rfl) rfl (fun κ=>by
  show F215 _ κ=_
  unfold F215
  simp only [g_]
  rw [ck_of (by simp),F251_no h hn hs hv]
  rfl)
theorem T213_no (h:q≠2∨Lc 2 n G) (hn:n≤10) {w:List Int} (hs:w.length<2^60) {r:Int} {d:Bool} (hv:stv q n G w r d=false∨(r=1000∧d=false)) {τ:Type} (k:Nat→LS_→Option τ) :
  T213 [.I q,.I n,.LL G,.L w,.I r,.B d] k=k 0 [.L [],.I 0,.B false,.I 1] :=
 wrap_of (e:=F213.E) (p:=.v qState) (j:=0) (l2:=[.I 0,.B false,.I 1]) (c:=true) (ls':=[.L [],.I 0,.B false,.I 1]) (by intro τ κ;kernel_rfl) rfl (fun κ=>by
  show F213 _ κ=_
  unfold F213
  simp only [g_]
  rw [ck_of (by simp),F248_no h hn hs hv]
  rfl)
theorem T215_ok (h:Lc 2 n G) (h1:1≤n) (hn:n≤10) {w:List Int} {r:Int} {d:Bool} (hv:stv 2 n G w r d=true) {b:Int} (hb:b<2^63) {τ:Type} (k:Nat→LS_→Option τ) :
  T215 [.I 2,.I n,.LL G,.L w,.I r,.B d,.I b] k=k 0 [.L (rounds n (dualR 2 n G) b.toNat (w,r)).1,.I (rounds n (dualR 2 n G) b.toNat (w,r)).2,.B (clean n (dualR 2 n G) (rounds n (dualR 2 n G) b.toNat (w,r)).1),.I 0]:=by
 have hw:isWord 2 n w=true:=by unfold stv at hv;simp only [Bool.and_eq_true] at hv;exact hv.2.1
 have hR:=rounds_bn (n:=n) (H:=dualR 2 n G) b.toNat (w,r) (word_bn hw).1 (word_bn hw).2
 have h2:∀ {τ:Type} (κ:Nat→LS_→Option τ),F215 [.I 2,.I n,.LL G,.L w,.I r,.B d,.I b] κ=κ 1 [.N n,.I (rounds n (dualR 2 n G) b.toNat (w,r)).2,.B (clean n (dualR 2 n G) (rounds n (dualR 2 n G) b.toNat (w,r)).1),.I 0,.L (rounds n (dualR 2 n G) b.toNat (w,r)).1]:=by
  intro τ κ
  unfold F215
  simp only [g_]
  rw [ck_of (by simp),F251_ok h h1 hn hv hb]
  simp
 generalize rounds n (dualR 2 n G) b.toNat (w,r)=R at h2 hR ⊢
 generalize clean n (dualR 2 n G) R.1=B at h2 ⊢
 obtain ⟨M,t⟩:=R
 rw [←hR.1] at h2
 have:=wrap_of (e:=F215.E) (p:=.v qState) (j:=1) (l2:=[.N M.length,.I t,.B B,.I 0,.L M]) (c:=decide (M.length=(List.take (M.length*1) (List.drop 0 M)).length)&&true) (ls':=[.L (List.take (M.length*1) (List.drop 0 M)),.I t,.B B,.I 0]) (by intro τ κ;kernel_rfl) (by simp) (k:=k) (fun κ=>h2 κ)
 rw [Nat.mul_one,List.drop_zero,List.take_length] at this
 rw [←hR.1]
 exact this
theorem T213_ok (h:Lc 2 n G) (h1:1≤n) (hn:n≤10) {w:List Int} {r:Int} {d:Bool} (hv:stv 2 n G w r d=true) (hx:¬ (r=1000∧d=false)) {τ:Type} (k:Nat→LS_→Option τ) :
  T213 [.I 2,.I n,.LL G,.L w,.I r,.B d] k=k 0 [.L (rounds n (dualR 2 n G) 1 (w,r)).1,.I (rounds n (dualR 2 n G) 1 (w,r)).2,.B (clean n (dualR 2 n G) (rounds n (dualR 2 n G) 1 (w,r)).1),.I 0]:=by
 have hw:isWord 2 n w=true:=by unfold stv at hv;simp only [Bool.and_eq_true] at hv;exact hv.2.1
 have hR:=rounds_bn (n:=n) (H:=dualR 2 n G) 1 (w,r) (word_bn hw).1 (word_bn hw).2
 have h2:∀ {τ:Type} (κ:Nat→LS_→Option τ),F213 [.I 2,.I n,.LL G,.L w,.I r,.B d] κ=κ 1 [.N n,.I (rounds n (dualR 2 n G) 1 (w,r)).2,.B (clean n (dualR 2 n G) (rounds n (dualR 2 n G) 1 (w,r)).1),.I 0,.L (rounds n (dualR 2 n G) 1 (w,r)).1]:=by
  intro τ κ
  unfold F213
  simp only [g_]
  rw [ck_of (by simp),F248_ok h h1 hn hv hx]
  simp
 generalize rounds n (dualR 2 n G) 1 (w,r)=R at h2 hR ⊢
 generalize clean n (dualR 2 n G) R.1=B at h2 ⊢
 obtain ⟨M,t⟩:=R
 rw [←hR.1] at h2
 have:=wrap_of (e:=F213.E) (p:=.v qState) (j:=1) (l2:=[.N M.length,.I t,.B B,.I 0,.L M]) (c:=decide (M.length=(List.take (M.length*1) (List.drop 0 M)).length)&&true) (ls':=[.L (List.take (M.length*1) (List.drop 0 M)),.I t,.B B,.I 0]) (by intro τ κ;kernel_rfl) (by simp) (k:=k) (fun κ=>h2 κ)
 rw [Nat.mul_one,List.drop_zero,List.take_length] at this
 rw [←hR.1]
 exact this
end
end
end Go.Proofs.YticbdgmcofjkeaaGreat.Ai
namespace Go.Proofs.YticbdgmcofjkeaaGreat.Ai
open Go Ma Go.RowKit
noncomputable section
theorem any_ne {a b:List Int} (hl:a.length=b.length):(List.range a.length).any (fun j=>a.getD j 0 != b.getD j 0)=!decide (a=b):=by
 by_cases h:a=b
 ·subst h
  simp
 ·rw [decide_eq_false h,Bool.not_false]
  apply Decidable.byContradiction
  intro q
  apply h
  rw [List.any_eq_true] at q
  apply List.ext_getElem hl
  intro i h1 h2
  have e1:a.getD i 0=a[i]:=by simp [List.getD_eq_getElem?_getD,h1]
  have e2:b.getD i 0=b[i]:=by simp [List.getD_eq_getElem?_getD,h2]
  rw [←e1,←e2]
  apply Decidable.byContradiction
  intro r
  exact q ⟨i,List.mem_range.2 h1,by simpa using r⟩
theorem F222_spec (a b:List Int) (hs:a.length<2^60) {τ:Type} (k:Nat→LS_→Option τ):F222 [.L a,.L b] k=k 0 [.B (decide (a=b))]:=by
 unfold F222 L222_4.b
 simp only [gL_zero,gL_succ]
 by_cases hl:a.length=b.length
 ·rw [br_no (by simp [hl])]
  refine (run_any L222_4 L222_4.s0 0 (fun _ _ _=>rfl) _ (fun j=>[.N a.length,.L a,.N b.length,.L b,.B false,.I (j:Nat)]) a.length (fun j=>a.getD j 0 != b.getD j 0) (k 0 [.B false]) (k 0 [.B true]) (by omega) (fun j hj next=>?_) (fun next=>?_)).trans ?_
  ·unfold L222_4.s0
   simp only [g_,Int.toNat_natCast,Nat.mul_one]
   rw [br_of (by simp;omega),ck_of (by simp <;> omega),ck_of (by simp <;> omega),ck_of (by simp <;> omega),ck_of (by simp <;> omega),wsucc (by omega)]
   cases a.getD j 0 != b.getD j 0 with
   | true=>rw [br_of rfl,if_pos rfl];simp
   | false=>rw [br_no rfl,if_neg (by decide)]
  ·unfold L222_4.s0
   simp only [g_]
   rw [br_no (by simp)]
   simp
  ·rw [any_ne hl]
   cases decide (a=b) <;> rfl
 ·rw [br_of (by simp;omega),decide_eq_false (fun e=>hl (by rw [e]))]
theorem F245_spec {W V:List Int} (hs:W.length<2^60) (r s:Int) (d e:Bool) {τ:Type} (k:Nat→LS_→Option τ) :
  F245 [.L W,.I r,.B d,.L V,.I s,.B e] k=k 0 [.B (decide (r=s∧d=e∧W=V))]:=by
 unfold F245
 simp only [g_]
 by_cases h1:r=s
 ·rw [br_of (by simpa using h1)]
  by_cases h2:d=e
  ·rw [br_of (by simpa using h2),ck_of (by simp),F222_spec _ _ hs]
   simp [h1,h2]
  ·rw [br_no (by simpa using h2)]
   simp [h2]
 ·rw [br_no (by simpa using h1)]
  simp [h1]
theorem F211_spec {W V:List Int} (hs:W.length<2^60) (r s:Int) (d e:Bool) (x y:Int) {τ:Type} (k:Nat→LS_→Option τ) :
  F211 [.L W,.I r,.B d,.I x,.L V,.I s,.B e,.I y] k=k 0 [.B (decide (x=y∧r=s∧d=e∧W=V))]:=by
 unfold F211
 simp only [g_]
 by_cases h1:x=y
 ·rw [br_of (by simpa using h1),ck_of (by simp),F245_spec hs]
  simp [h1]
 ·rw [br_no (by simpa using h1)]
  simp [h1]
def T211 {τ:Type} (l:LS_) (k:Nat→LS_→Option τ):Option τ:=F211 l k
def T211.E:Ent P:=F211.E
theorem any_ne2 {a b:List (List Int)} (hl:a.length=b.length):(List.range a.length).any (fun j=>!decide (a.getD j []=b.getD j []))=!decide (a=b):=by
 by_cases h:a=b
 ·subst h
  simp
 ·rw [decide_eq_false h,Bool.not_false]
  apply Decidable.byContradiction
  intro q
  apply h
  rw [List.any_eq_true] at q
  apply List.ext_getElem hl
  intro i h1 h2
  have e1:a.getD i []=a[i]:=by simp [List.getD_eq_getElem?_getD,h1]
  have e2:b.getD i []=b[i]:=by simp [List.getD_eq_getElem?_getD,h2]
  rw [←e1,←e2]
  apply Decidable.byContradiction
  intro r
  exact q ⟨i,List.mem_range.2 h1,by rw [decide_eq_false r];rfl⟩
theorem F254_spec {a b:List (List Int)} (hs:a.length<2^60) (hr:∀ i,(a.getD i []).length<2^60) {τ:Type} (k:Nat→LS_→Option τ):F254 [.LL a,.LL b] k=k 0 [.B (decide (a=b))]:=by
 unfold F254 L254_4.b
 simp only [gLL_zero,gLL_succ]
 by_cases hl:a.length=b.length
 ·rw [br_no (by simp [hl])]
  refine (run_any L254_4 L254_4.s0 0 (fun _ _ _=>rfl) _ (fun j=>[.N a.length,.LL a,.N b.length,.LL b,.B false,.I (j:Nat)]) a.length (fun j=>!decide (a.getD j []=b.getD j [])) (k 0 [.B false]) (k 0 [.B true]) (by omega) (fun j hj next=>?_) (fun next=>?_)).trans ?_
  ·unfold L254_4.s0
   simp only [g_,Int.toNat_natCast,Nat.mul_one]
   rw [br_of (by simp;omega),ck_of (by simp <;> omega),ck_of (by simp <;> omega),ck_of (by simp <;> omega),ck_of (by simp <;> omega),ck_of (by simp),F222_spec _ _ (hr j),wsucc (by omega)]
   simp only [sw_zero,gB_zero]
   cases decide (a.getD j []=b.getD j []) with
   | true=>rw [br_no (b:=!true) rfl,if_neg (by decide)]
   | false=>rw [br_of (b:=!false) rfl,if_pos (by decide)]
  ·unfold L254_4.s0
   simp only [g_]
   rw [br_no (by simp)]
   simp
  ·rw [any_ne2 hl]
   cases decide (a=b) <;> rfl
 ·rw [br_of (by simp;omega),decide_eq_false (fun e=>hl (by rw [e]))]
theorem F224_spec {C D:List Int} {L M:List (List Int)} (hC:C.length<2^60) (hs:L.length<2^60) (hr:∀ i,(L.getD i []).length<2^60) (a b x y:Int) {τ:Type} (k:Nat→LS_→Option τ) :
  F224 [.I a,.I b,.L C,.LL L,.I x,.I y,.L D,.LL M] k=k 0 [.B (decide (a=x∧b=y∧C=D∧L=M))]:=by
 unfold F224
 simp only [g_]
 by_cases h1:a=x
 ·rw [br_of (by simpa using h1)]
  by_cases h2:b=y
  ·rw [br_of (by simpa using h2),ck_of (by simp),F222_spec _ _ hC]
   simp only [sw_zero,gB_zero]
   by_cases h3:C=D
   ·rw [br_of (by simpa using h3),ck_of (by simp),F254_spec hs hr]
    simp [h1,h2,h3]
   ·rw [br_no (by simpa using h3)]
    simp [h3]
  ·rw [br_no (by simpa using h2)]
   simp [h2]
 ·rw [br_no (by simpa using h1)]
  simp [h1]
theorem F218_spec {C D:List Int} {L M:List (List Int)} (hC:C.length<2^60) (hs:L.length<2^60) (hr:∀ i,(L.getD i []).length<2^60) (a b x y e f:Int) {τ:Type} (k:Nat→LS_→Option τ) :
  F218 [.I a,.I b,.L C,.LL L,.I e,.I x,.I y,.L D,.LL M,.I f] k=k 0 [.B (decide (e=f∧a=x∧b=y∧C=D∧L=M))]:=by
 unfold F218
 simp only [g_]
 by_cases h1:e=f
 ·rw [br_of (by simpa using h1),ck_of (by simp),F224_spec hC hs hr]
  simp [h1]
 ·rw [br_no (by simpa using h1)]
  simp [h1]
def T218 {τ:Type} (l:LS_) (k:Nat→LS_→Option τ):Option τ:=F218 l k
def T218.E:Ent P:=F218.E
def T224 {τ:Type} (l:LS_) (k:Nat→LS_→Option τ):Option τ:=F224_1 l k
def T224.E:Ent P:=F224_1.E
def T222 {τ:Type} (l:LS_) (k:Nat→LS_→Option τ):Option τ:=F222_1 l k
def T222.E:Ent P:=F222_1.E
theorem any_mem {g:List Int} {i:Nat}:(List.range g.length).any (fun j=>g.getD j 0==(i:Int))=lostI g i:=by
 unfold lostI
 cases h:g.contains (i:Int) with
 | true =>
  obtain ⟨j,hj,e⟩:=List.mem_iff_getElem.1 (by simpa using h:(i:Int)∈g)
  rw [List.any_eq_true]
  exact ⟨j,List.mem_range.2 hj,by rw [List.getD_eq_getElem?_getD,List.getElem?_eq_getElem hj];simpa using e⟩
 | false =>
  rw [List.any_eq_false]
  intro j hj e
  have hj:=List.mem_range.1 hj
  rw [List.getD_eq_getElem?_getD,List.getElem?_eq_getElem hj] at e
  have:(i:Int)∈g:=by
   have e:g[j]=(i:Int):=by simpa using e
   rw [←e];exact List.getElem_mem _
  rw [show g.contains (i:Int)=true by simpa using this] at h
  cases h
theorem F275_spec {g:List Int} (hs:g.length<2^60) (i:Nat) {τ:Type} (k:Nat→LS_→Option τ):F275 [.L g,.I (i:Nat)] k=k 0 [.B (lostI g i)]:=by
 unfold F275 F286 L286_2.b
 simp only [gL_zero,gI_succ,gI_zero]
 rw [ck_of (by simp)]
 refine (run_any L286_2 L286_2.s0 0 (fun _ _ _=>rfl) _ (fun j=>[.N g.length,.L g,.I (i:Nat),.I 0,.I (g.length:Nat),.I (j:Nat)]) g.length (fun j=>g.getD j 0==(i:Int)) (k 0 [.B true]) (k 0 [.B false]) (by omega) (fun j hj next=>?_) (fun next=>?_)).trans ?_
 ·unfold L286_2.s0
  simp only [g_,Int.toNat_natCast,Nat.mul_one]
  rw [br_of (by simp;omega),ck_of (by simp <;> omega),ck_of (by simp <;> omega),wsucc (by omega)]
  by_cases e:g.getD j 0=(i:Int)
  ·rw [br_of (by rw [e];simp),if_pos (by rw [e];simp)];simp [geI]
  ·rw [br_no (by simpa using fun h=>e h.symm),if_neg (by simpa using e)]
 ·unfold L286_2.s0
  simp only [g_]
  rw [br_no (by simp)]
  simp [geI]
 ·rw [any_mem]
  cases lostI g i <;> rfl
theorem F242_spec {g:List Int} (hs:g.length<2^60) (w:List Int) (i:Nat) {τ:Type} (k:Nat→LS_→Option τ):F242 [.L w,.L g,.I (i:Nat)] k=k 0 [.B (lostI g i)]:=by
 unfold F242 L242_2.b
 simp only [g_]
 refine (run_any L242_2 L242_2.s0 0 (fun _ _ _=>rfl) _ (fun j=>[.I (i:Nat),.B false,.I (j:Nat),.N w.length,.L w,.N g.length,.L g]) g.length (fun j=>g.getD j 0==(i:Int)) (k 0 [.B true]) (k 0 [.B false]) (by omega) (fun j hj next=>?_) (fun next=>?_)).trans ?_
 ·unfold L242_2.s0
  simp only [g_,Int.toNat_natCast,Nat.mul_one]
  rw [br_of (by simp;omega),ck_of (by simp <;> omega),ck_of (by simp <;> omega),wsucc (by omega)]
  cases g.getD j 0==(i:Int) with
  | true=>rw [br_of rfl,if_pos rfl];simp
  | false=>rw [br_no rfl,if_neg (by decide)]
 ·unfold L242_2.s0
  simp only [g_]
  rw [br_no (by simp)]
  simp
 ·rw [any_mem]
  cases lostI g i <;> rfl
def apt (w g x:List Int):Nat→Nat
 | 0=>0
 | k+1=>apt w g x k+if x.getD k 0≠w.getD k 0∧lostI g k=false then 1 else 0
theorem apt_le (w g x:List Int):∀ k,apt w g x k≤k
 | 0=>Nat.le_refl _
 | k+1=>by have:=apt_le w g x k;simp only [apt];split <;> omega
theorem L253_8_spec {w g x:List Int} (hx:x.length<2^60) (hw:w.length=x.length) (hg:g.length<2^60) (a b c:Int) (m:Nat) (l:List Int) {τ:Type} (κ:Nat→LS_→Option τ) :
  L253_8.b 0 [.N x.length,.L x,.I (x.length:Nat),.I 0,.N w.length,.L w,.N g.length,.L g,.I a,.I b,.I c,.I 0,.N m,.L l] κ=κ 0 [.I a,.I b,.I c,.I (apt w g x x.length:Nat),.N m,.L l]:=by
 unfold L253_8.b
 refine run_for L253_8 L253_8.s0 0 (fun _ _ _=>rfl) _ (fun j=>[.N x.length,.L x,.I (x.length:Nat),.I (j:Nat),.N w.length,.L w,.N g.length,.L g,.I a,.I b,.I c,.I (apt w g x j:Nat),.N m,.L l]) x.length _ (by omega) (fun j hj next=>?_) (fun next=>?_)
 ·have hle:=apt_le w g x j
  unfold L253_8.s0
  simp only [g_,Int.toNat_natCast,Nat.mul_one]
  rw [br_of (by simp;omega),ck_of (by simp <;> omega),ck_of (by simp <;> omega),ck_of (by simp <;> omega),ck_of (by simp <;> omega),wsucc (by omega),wsucc (by omega)]
  by_cases h1:x.getD j 0=w.getD j 0
  ·rw [br_no (by simpa using h1)]
   simp only [apt]
   rw [if_neg (fun h=>h.1 h1)]
   rfl
  ·rw [br_of (by simpa using h1),ck_of (by simp),F275_spec hg]
   simp only [sw_zero,gB_zero]
   cases h2:lostI g j with
   | true =>
    rw [br_no (b:=!true) rfl]
    simp only [apt]
    rw [if_neg (fun h=>by rw [h2] at h;cases h.2)]
    rfl
   | false =>
    rw [br_of (b:=!false) rfl]
    simp only [apt]
    rw [if_pos ⟨h1,h2⟩]
 ·unfold L253_8.s0
  simp only [g_]
  rw [br_no (by simp)]
theorem F225_1_spec {w g x:List Int} (hx:x.length<2^60) (hw:w.length=x.length) (hg:g.length<2^60) {τ:Type} (k:Nat→LS_→Option τ) :
  F225_1 [.L w,.L g,.L x] k=k 0 [.I (apt w g x x.length:Nat)]:=by
 unfold F225_1 L225_3.b
 simp only [gL_zero,gL_succ]
 refine run_for L225_3 L225_3.s0 0 (fun _ _ _=>rfl) _ (fun j=>[.N x.length,.L x,.I (apt w g x j:Nat),.I (j:Nat),.N w.length,.L w,.N g.length,.L g]) x.length _ (by omega) (fun j hj next=>?_) (fun next=>?_)
 ·have hle:=apt_le w g x j
  unfold L225_3.s0
  simp only [g_,Int.toNat_natCast,Nat.mul_one]
  rw [br_of (by simp;omega),ck_of (by simp),F242_spec hg]
  simp only [sw_zero,gB_zero]
  rw [wsucc (by omega),wsucc (by omega)]
  cases h2:lostI g j with
  | true =>
   rw [br_no (b:=!true) rfl]
   simp only [apt]
   rw [if_neg (fun h=>by rw [h2] at h;cases h.2)]
   rfl
  | false =>
   rw [br_of (b:=!false) rfl,ck_of (by simp <;> omega),ck_of (by simp <;> omega),ck_of (by simp <;> omega),ck_of (by simp <;> omega)]
   by_cases h1:x.getD j 0=w.getD j 0
   ·rw [br_no (by simpa using h1)]
    simp only [apt]
    rw [if_neg (fun h=>h.1 h1)]
    rfl
   ·rw [br_of (by simpa using h1)]
    simp only [apt]
    rw [if_pos ⟨h1,h2⟩]
 ·unfold L225_3.s0
  simp only [g_]
  rw [br_no (by simp)]
  simp
def T225 {τ:Type} (l:LS_) (k:Nat→LS_→Option τ):Option τ:=F225_1 l k
def T225.E:Ent P:=F225_1.E
section
variable {n:Nat} {q:Int} {G:List (List Int)}
def rcv (q:Int) (n:Nat) (w g:List Int):Bool:=isGone n g&&(decide (q=2)&&isWord 2 n w)
theorem F266_rcv (q:Int) (n:Nat) (G:List (List Int)) {w g:List Int} (hw:w.length<2^60) (hg:g.length<2^60) {τ:Type} (k:Nat→LS_→Option τ) :
  F266 [.I q,.I n,.LL G,.L w,.L g] k=k 0 [.B (rcv q n w g)]:=F266_spec q n G hw hg k
theorem F253_no (h:q≠2∨Lc 2 n G) (hn:n≤10) {w g x:List Int} (hs:x.length<2^60) (hw:w.length<2^60) (hg:g.length<2^60) {r:Int} {d:Bool} (hv:(stv q n G x r d&&rcv q n w g)=false) {τ:Type} (k:Nat→LS_→Option τ) :
  F253 [.I q,.I n,.LL G,.L w,.L g,.L x,.I r,.B d] k=k 0 []:=by
 unfold F253
 simp only [g_]
 rw [ck_of (by simp)]
 cases hk:knv q n x r with
 | false=>rw [F271_no hs hk];rfl
 | true =>
  unfold knv at hk
  simp only [Bool.and_eq_true,decide_eq_true_eq] at hk
  obtain ⟨rfl,hx,r0,r1⟩:=hk
  have h:Lc 2 n G:=h.resolve_left (fun e=>e rfl)
  have hv':(clean n (dualR 2 n G) x==d)=false∨rcv 2 n w g=false:=by
   cases hc:(clean n (dualR 2 n G) x==d) with
   | false=>exact .inl rfl
   | true =>
    right
    unfold stv at hv
    rw [hx,hc,decide_eq_true (rfl:(2:Int)=2),decide_eq_true r0,decide_eq_true r1] at hv
    simpa using hv
  rcases F271_ok h hn hx r0 r1 d with ⟨he,hk⟩ | hk
  ·rw [hk]
   simp only [sw_zero,sw_succ,gB_zero,gB_succ]
   cases hc:(clean n (dualR 2 n G) x==d) with
   | false=>rw [br_of (b:=!false) rfl]
   | true =>
    have hv':=hv'.resolve_left (by rw [hc];decide)
    rw [br_no (b:=!true) rfl,ck_of (by simp),F266_rcv _ _ _ hw hg]
    simp only [sw_zero,gB_zero]
    rw [hv',br_of (b:=!false) rfl]
  ·rw [hk]
   simp only [sw_zero,sw_succ,gB_zero,gB_succ]
   cases hc:(clean n (dualR 2 n G) x==d) with
   | false=>rw [br_of (b:=!false) rfl]
   | true =>
    have hv':=hv'.resolve_left (by rw [hc];decide)
    rw [br_no (b:=!true) rfl,ck_of (by simp),F266_rcv _ _ _ hw hg]
    simp only [sw_zero,gB_zero]
    rw [hv',br_of (b:=!false) rfl]
theorem F253_ok (h:Lc 2 n G) (h1:1≤n) (hn:n≤10) {w g x:List Int} (hg:g.length<2^60) {r:Int} {d:Bool} (hv:stv 2 n G x r d=true) (hr:rcv 2 n w g=true) {τ:Type} (k:Nat→LS_→Option τ) :
  F253 [.I 2,.I n,.LL G,.L w,.L g,.L x,.I r,.B d] k=if d=true then k 2 [.I 3,.I (apt w g x n:Nat),.N n,.L x] else k 1 []:=by
 unfold stv at hv
 simp only [Bool.and_eq_true,decide_eq_true_eq] at hv
 obtain ⟨_,hx,r0,r1,hc⟩:=hv
 have hw:isWord 2 n w=true:=by unfold rcv at hr;simp only [Bool.and_eq_true] at hr;exact hr.2.2
 have xl:=(word_bn hx).1
 have wl:=(word_bn hw).1
 unfold F253
 simp only [g_]
 rw [ck_of (by simp)]
 rcases F271_ok h hn hx r0 r1 d with ⟨he,hk⟩ | hk
 ·rw [hk,hc]
  simp only [sw_zero,sw_succ,gB_zero,gB_succ]
  rw [br_no (b:=!true) rfl,ck_of (by simp),F266_rcv _ _ _ (by omega) hg]
  simp only [sw_zero,gB_zero]
  rw [hr,br_no (b:=!true) rfl]
  cases d with
  | false=>rw [br_of (b:=!false) rfl,if_neg (by decide)]
  | true =>
   rw [br_no (b:=!true) rfl,if_pos rfl,ck_of (by simp),F71_spec (by omega) (by omega)]
   simp only [sw_zero,gN_zero,gL_succ,gL_zero]
   rw [L253_8_spec (by omega) (by omega) hg,xl]
   simp
 ·rw [hk,hc]
  simp only [sw_zero,sw_succ,gB_zero,gB_succ]
  rw [br_no (b:=!true) rfl,ck_of (by simp),F266_rcv _ _ _ (by omega) hg]
  simp only [sw_zero,gB_zero]
  rw [hr,br_no (b:=!true) rfl]
  cases d with
  | false=>rw [br_of (b:=!false) rfl,if_neg (by decide)]
  | true =>
   rw [br_no (b:=!true) rfl,if_pos rfl,ck_of (by simp),F71_spec (by omega) (by omega)]
   simp only [sw_zero,gN_zero,gL_succ,gL_zero]
   rw [L253_8_spec (by omega) (by omega) hg,xl]
   simp
def T219 {τ:Type} (l:LS_) (k:Nat→LS_→Option τ):Option τ:=wrapB F219.E (.v qTold) l k
def T219.E:Ent P:=F219.E.wrap (.v qTold)
theorem T219_no (h:q≠2∨Lc 2 n G) (hn:n≤10) {w g x:List Int} (hs:x.length<2^60) (hw:w.length<2^60) (hg:g.length<2^60) {r:Int} {d:Bool} (hv:(stv q n G x r d&&rcv q n w g)=false) {τ:Type} (k:Nat→LS_→Option τ) :
  T219 [.I q,.I n,.LL G,.L w,.L g,.L x,.I r,.B d] k=k 0 [.I 0,.I 0,.L [],.LL [],.I 1] :=
 wrap_of (e:=F219.E) (p:=.v qTold) (j:=0) (l2:=[.I 0,.I 0,.I 1]) (c:=true) (ls':=[.I 0,.I 0,.L [],.LL [],.I 1]) (by intro τ κ;kernel_rfl) rfl (fun κ=>by
  show F219 _ κ=_
  unfold F219
  simp only [g_]
  rw [ck_of (by simp),F253_no h hn hs hw hg hv]
  rfl)
theorem T219_ok (h:Lc 2 n G) (h1:1≤n) (hn:n≤10) {w g x:List Int} (hg:g.length<2^60) {r:Int} {d:Bool} (hv:stv 2 n G x r d=true) (hr:rcv 2 n w g=true) {τ:Type} (k:Nat→LS_→Option τ) :
  T219 [.I 2,.I n,.LL G,.L w,.L g,.L x,.I r,.B d] k=if d=true then k 0 [.I 3,.I (apt w g x n:Nat),.L x,.LL [],.I 0] else k 0 [.I 4,.I 0,.L [],.LL [],.I 0]:=by
 have h2:∀ {τ:Type} (κ:Nat→LS_→Option τ),F219 [.I 2,.I n,.LL G,.L w,.L g,.L x,.I r,.B d] κ=if d=true then κ 1 [.I 3,.I (apt w g x n:Nat),.N n,.I 0,.L x] else κ 0 [.I 4,.I 0,.I 0]:=by
  intro τ κ
  unfold F219
  simp only [g_]
  rw [ck_of (by simp),F253_ok h h1 hn hg hv hr]
  cases d <;> simp
 have hx:isWord 2 n x=true:=by unfold stv at hv;simp only [Bool.and_eq_true] at hv;exact hv.2.1
 have xl:=(word_bn hx).1
 cases d with
 | true =>
  rw [if_pos rfl]
  rw [←xl] at h2
  have:=wrap_of (e:=F219.E) (p:=.v qTold) (j:=1) (l2:=[.I 3,.I (apt w g x x.length:Nat),.N x.length,.I 0,.L x]) (c:=decide (x.length=(List.take (x.length*1) (List.drop 0 x)).length)&&true) (ls':=[.I 3,.I (apt w g x x.length:Nat),.L (List.take (x.length*1) (List.drop 0 x)),.LL [],.I 0]) (by intro τ κ;kernel_rfl) (by simp) (k:=k) (fun κ=>(h2 κ).trans (if_pos rfl))
  rw [Nat.mul_one,List.drop_zero,List.take_length] at this
  rw [←xl]
  exact this
 | false =>
  rw [if_neg (by decide)]
  exact wrap_of (e:=F219.E) (p:=.v qTold) (j:=0) (l2:=[.I 4,.I 0,.I 0]) (c:=true) (ls':=[.I 4,.I 0,.L [],.LL [],.I 0]) (by intro τ κ;kernel_rfl) rfl (fun κ=>(h2 κ).trans (if_neg (by decide)))
def zer (n:Nat) (w g:List Int):List Int:=(List.range n).map fun i=>if lostI g i=true then 0 else w.getD i 0
theorem zer_len {w g:List Int}:(zer n w g).length=n:=by simp [zer]
theorem zer_bn {w g:List Int} (hw:Bn w):Bn (zer n w g):=by
 intro i hi
 rw [zer_len] at hi
 unfold zer
 rw [map_get hi]
 split
 ·exact .inl rfl
 ·exact hw.bit i
theorem zer_nil {w:List Int} (hl:w.length=n):zer n w []=w:=by
 subst hl
 refine Eq.trans ?_ map_self
 unfold zer
 apply List.map_congr_left
 intro i _
 simp [lostI]
theorem zer_set {w g:List Int} {j:Nat} (hj:j<g.length) (h0:0≤g.getD j 0) (h1:g.getD j 0<n):(zer n w (g.take j)).set (Int.toNat (g.getD j 0)) 0=zer n w (g.take (j+1)):=by
 have e:g.getD j 0=g[j]:=by rw [List.getD_eq_getElem?_getD,List.getElem?_eq_getElem hj];rfl
 apply List.ext_getElem
 ·simp [zer]
 ·intro i h2 h3
  rw [zer_len] at h3
  simp only [zer,List.getElem_set,List.getElem_map,List.getElem_range,lostI,List.take_succ_eq_append_getElem hj]
  have c:(g.take j++[g[j]]).contains (i:Int)=((g.take j).contains (i:Int) || (g[j]==(i:Int))):=by
   rw [Bool.eq_iff_iff]
   simp only [List.contains_iff_mem,Bool.or_eq_true,List.mem_append,List.mem_singleton,beq_iff_eq]
   exact ⟨fun h=>h.imp id Eq.symm,fun h=>h.imp id Eq.symm⟩
  rw [c]
  by_cases h4:(g.getD j 0).toNat=i
  ·rw [if_pos h4]
   have:(g[j]==(i:Int))=true:=by rw [←e,beq_iff_eq];omega
   rw [this,Bool.or_true,if_pos rfl]
  ·rw [if_neg h4]
   have:(g[j]==(i:Int))=false:=by rw [←e];exact beq_eq_false_iff_ne.2 (by omega)
   rw [this,Bool.or_false]
theorem F244_no {w g:List Int} (hw:w.length<2^60) (hg:g.length<2^60) (hr:rcv q n w g=false) {τ:Type} (k:Nat→LS_→Option τ):F244 [.I q,.I n,.LL G,.L w,.L g] k=k 0 []:=by
 unfold F244
 simp only [g_]
 rw [ck_of (by simp),F266_rcv _ _ _ hw hg]
 simp only [sw_zero,gB_zero]
 rw [hr,br_of (b:=!false) rfl]
theorem F244_ok (h:Lc 2 n G) (hn:n≤10) {w g:List Int} (hg:g.length<2^60) (hr:rcv 2 n w g=true) {τ:Type} (k:Nat→LS_→Option τ) :
  F244 [.I 2,.I n,.LL G,.L w,.L g] k=k 1 [.N n,.I 0,.B (clean n (dualR 2 n G) (zer n w g)),.L (zer n w g)]:=by
 have hr':=hr
 unfold rcv at hr'
 simp only [Bool.and_eq_true] at hr'
 obtain ⟨hgo,_,hw⟩:=hr'
 obtain ⟨wl,wb⟩:=word_bn hw
 obtain ⟨hB,hl⟩:=chk_bn h hn
 unfold F244
 simp only [g_,Int.toNat_natCast]
 rw [ck_of (by simp),F266_rcv _ _ _ (by omega) hg]
 simp only [sw_zero,gB_zero]
 rw [hr,br_no (b:=!true) rfl,ck_of (by simp;omega),ck_of (by simp [wl])]
 unfold L244_6.b
 refine Eq.trans (congrArg (fun x=>runE L244_6 fuel _ 0 [.N n,.N g.length,.L g,.I (g.length:Nat),.I 0,.I 2,.I n,.N G.length,.LL G,.I 0,.B false,.L x]) ((zer_nil wl).symm:w=zer n w (g.take 0))) ?_
 refine run_for L244_6 L244_6.s0 0 (fun _ _ _=>rfl) _ (fun j=>[.N n,.N g.length,.L g,.I (g.length:Nat),.I (j:Nat),.I 2,.I n,.N G.length,.LL G,.I 0,.B false,.L (zer n w (g.take j))]) g.length _ (by omega) (fun j hj next=>?_) (fun next=>?_)
 ·obtain ⟨a,b,c⟩:=isGone_iff.1 hgo j (Nat.zero_le _) hj
  unfold L244_6.s0
  simp only [g_,Int.toNat_natCast,Nat.mul_one,Nat.zero_add]
  rw [br_of (by simp;omega),ck_of (by simp <;> omega),ck_of (by simp <;> omega),ck_of (by rw [Bool.and_true,Bool.and_eq_true,leI_iff,ltI_iff];exact ⟨a,b⟩),ck_of (by rw [zer_len];simp only [Bool.and_true,Bool.true_and,leN_iff];omega),wsucc (by omega),zer_set hj a b]
 ·unfold L244_6.s0
  simp only [g_]
  rw [br_no (by simp),List.take_length]
  simp only [g_,sw_zero,Nat.mul_one,List.drop_zero]
  rw [ck_of (by simp),List.take_of_length_le (by rw [zer_len];exact Nat.le_refl _)]
  rcases F267_spec h hn hB hl with ⟨he,hk⟩ | hk
  ·rw [show (Leaf.I 2)=Leaf.I ((2:Nat):Int) from rfl,hk]
   simp only [sw_zero,gI_zero]
   rw [ck_of (by simp [zer_len]),F269_spec (zer_bn wb) (by rw [zer_len];omega)]
   simp only [sw_zero,gI_zero]
   rw [F268_spec hn (zer_bn wb) zer_len,he]
   simp [clean]
  ·rw [show (Leaf.I 2)=Leaf.I ((2:Nat):Int) from rfl,hk]
   simp only [g_,sw_zero,sw_succ]
   rw [ck_of (by simp [zer_len]),F269_spec (zer_bn wb) (by rw [zer_len];omega)]
   simp only [sw_zero,gI_zero,Nat.mul_one,List.drop_zero]
   rw [ck_of (by simp [csL_len]),List.take_of_length_le (by rw [csL_len];exact Nat.le_refl _),F268_1_spec hn hB (by omega) (zer_bn wb) zer_len]
   simp
theorem T210_no {w g:List Int} (hw:w.length<2^60) (hg:g.length<2^60) (hr:rcv q n w g=false) {τ:Type} (k:Nat→LS_→Option τ):T210 [.I q,.I n,.LL G,.L w,.L g] k=k 0 [.L [],.I 0,.B false,.I 1] :=
 wrap_of (e:=F210.E) (p:=.v qState) (j:=0) (l2:=[.I 0,.B false,.I 1]) (c:=true) (ls':=[.L [],.I 0,.B false,.I 1]) (by intro τ κ;kernel_rfl) rfl (fun κ=>by
  show F210 _ κ=_
  unfold F210
  simp only [g_]
  rw [ck_of (by simp),F244_no hw hg hr]
  rfl)
theorem T210_ok (h:Lc 2 n G) (hn:n≤10) {w g:List Int} (hg:g.length<2^60) (hr:rcv 2 n w g=true) {τ:Type} (k:Nat→LS_→Option τ) :
  T210 [.I 2,.I n,.LL G,.L w,.L g] k=k 0 [.L (zer n w g),.I 0,.B (clean n (dualR 2 n G) (zer n w g)),.I 0]:=by
 have h2:∀ {τ:Type} (κ:Nat→LS_→Option τ),F210 [.I 2,.I n,.LL G,.L w,.L g] κ=κ 1 [.N n,.I 0,.B (clean n (dualR 2 n G) (zer n w g)),.I 0,.L (zer n w g)]:=by
  intro τ κ
  unfold F210
  simp only [g_]
  rw [ck_of (by simp),F244_ok h hn hg hr]
  simp
 have zl:=zer_len (n:=n) (w:=w) (g:=g)
 generalize zer n w g=M at h2 zl ⊢
 generalize clean n (dualR 2 n G) M=B at h2 ⊢
 rw [←zl] at h2
 have:=wrap_of (e:=F210.E) (p:=.v qState) (j:=1) (l2:=[.N M.length,.I 0,.B B,.I 0,.L M]) (c:=decide (M.length=(List.take (M.length*1) (List.drop 0 M)).length)&&true) (ls':=[.L (List.take (M.length*1) (List.drop 0 M)),.I 0,.B B,.I 0]) (by intro τ κ;kernel_rfl) (by simp) (k:=k) (fun κ=>h2 κ)
 rw [Nat.mul_one,List.drop_zero,List.take_length] at this
 rw [←zl]
 exact this
end
def T223 {τ:Type} (l:LS_) (k:Nat→LS_→Option τ):Option τ:=wrapB F223.E (.v qState) l k
def T223.E:Ent P:=F223.E.wrap (.v qState)
theorem T223_spec (w:List Int) (r:Int) (d:Bool) {τ:Type} (k:Nat→LS_→Option τ):T223 [.L w,.I r,.B d] k=k 0 [.L w,.I r,.B d,.I 0]:=by
 refine wrap_of (e:=F223.E) (p:=.v qState) (j:=0) (l2:=[.N w.length,.L w,.I r,.B d,.I 0]) (c:=decide (w.length=w.length)&&true) (ls':=[.L w,.I r,.B d,.I 0]) (by intro τ κ;kernel_rfl) (by simp) (k:=k) (fun κ=>?_)
 show F223 _ κ=_
 unfold F223
 simp
def T208 {τ:Type} (l:LS_) (k:Nat→LS_→Option τ):Option τ:=wrapB F208.E (.v pCode) l k
def T208.E:Ent P:=F208.E.wrap (.v pCode)
def T221 {τ:Type} (l:LS_) (k:Nat→LS_→Option τ):Option τ:=wrapB F221.E (.v pR) l k
def T221.E:Ent P:=F221.E.wrap (.v pR)
end
end Go.Proofs.YticbdgmcofjkeaaGreat.Ai
namespace Go.Proofs.YticbdgmcofjkeaaGreat.Ai
open Go Ma Go.RowKit
noncomputable section
def pos:List Int→Int→Nat
 | [],_=>0
 | y::ys,x=>if y<x then pos ys x+1 else 0
theorem pos_le:∀ (g:List Int) (x:Int),pos g x≤g.length
 | [],_=>Nat.le_refl _
 | y::ys,x=>by have:=pos_le ys x;simp only [pos];split <;> simp <;> omega
theorem pos_lt:∀ (g:List Int) (x:Int) (j:Nat),j<pos g x→g.getD j 0<x
 | [],_,j,h=>by simp [pos] at h
 | y::ys,x,j,h=>by
  simp only [pos] at h
  split at h
  ·cases j with
   | zero=>simpa using ‹y<x›
   | succ j=>rw [List.getD_cons_succ];exact pos_lt ys x j (by omega)
  ·omega
theorem pos_ge:∀ (g:List Int) (x:Int),pos g x<g.length→¬ g.getD (pos g x) 0<x
 | [],_,h=>by simp at h
 | y::ys,x,h=>by
  simp only [pos] at h ⊢
  by_cases hy:y<x
  ·rw [if_pos hy] at h ⊢;rw [List.getD_cons_succ];exact pos_ge ys x (by simpa using h)
  ·rw [if_neg hy];simpa using hy
def ins (g:List Int) (x:Int):List Int:=g.take (pos g x)++[x]++g.drop (pos g x)
theorem ins_len (g:List Int) (x:Int):(ins g x).length=g.length+1:=by
 have:=pos_le g x
 simp [ins];omega
theorem ins_get (g:List Int) (x:Int) (i:Nat):(ins g x).getD i 0=if i<pos g x then g.getD i 0 else if i=pos g x then x else g.getD (i-1) 0:=by
 have hp:=pos_le g x
 unfold ins
 simp only [List.getD_eq_getElem?_getD]
 by_cases h1:i<pos g x
 ·rw [if_pos h1,List.append_assoc,List.getElem?_append_left (by simp;omega),List.getElem?_take_of_lt h1]
 ·rw [if_neg h1]
  by_cases h2:i=pos g x
  ·rw [if_pos h2,List.append_assoc,List.getElem?_append_right (by simp;omega)]
   have:i-(g.take (pos g x)).length=0:=by simp;omega
   rw [this];rfl
  ·rw [if_neg h2,List.getElem?_append_right (by simp;omega),List.getElem?_drop]
   have:pos g x+(i-(g.take (pos g x)++[x]).length)=i-1:=by simp;omega
   rw [this]
theorem ins_gone {n:Int} {g:List Int} (h:isGone n g=true) {x:Nat} (hx:(x:Int)<n) (hl:lostI g x=false):isGone n (ins g x)=true:=by
 have hg:=isGone_iff.1 h
 have hp:=pos_le g x
 have hne:∀ j,j<g.length→g.getD j 0≠x:=fun j hj e=>by
  have:=any_mem (g:=g) (i:=x)
  rw [hl,List.any_eq_false] at this
  exact this j (List.mem_range.2 hj) (by rw [e];simp)
 refine isGone_iff.2 fun i _ hi=>?_
 rw [ins_len] at hi
 unfold Gn
 rw [ins_get,ins_get]
 by_cases h1:i<pos g x
 ·obtain ⟨a,b,c⟩:=hg i (Nat.zero_le _) (by omega)
  rw [if_pos h1,if_pos (show i-1<pos g x by omega)]
  exact ⟨a,b,c⟩
 ·rw [if_neg h1]
  by_cases h2:i=pos g x
  ·rw [if_pos h2]
   refine ⟨by omega,hx,fun h0=>?_⟩
   rw [if_pos (by omega)]
   exact pos_lt g x _ (by omega)
  ·rw [if_neg h2]
   obtain ⟨a,b,c⟩:=hg (i-1) (Nat.zero_le _) (by omega)
   refine ⟨a,b,fun h0=>?_⟩
   by_cases h3:i-1=pos g x
   ·rw [if_neg (by omega),if_pos h3,h3]
    have h4:=pos_ge g x (by omega)
    have h5:=hne (pos g x) (by omega)
    omega
   ·rw [if_neg (by omega),if_neg h3]
    exact c (by omega)
theorem gone_len {n:Int} {g:List Int} (h:isGone n g=true) (n0:0≤n):(g.length:Int)≤n:=by
 have hg:=isGone_iff.1 h
 have key:∀ j,j<g.length→(j:Int)≤g.getD j 0:=by
  intro j
  induction j with
  | zero=>intro hj;exact (hg 0 (Nat.zero_le _) hj).1
  | succ j ih=>intro hj;have:=ih (by omega);have:=(hg (j+1) (Nat.zero_le _) hj).2.2 (by omega);simp only [Nat.add_sub_cancel] at this;omega
 by_cases h0:g.length=0
 ·omega
 ·have:=key (g.length-1) (by omega)
  have:=(hg (g.length-1) (Nat.zero_le _) (by omega)).2.1
  omega
theorem gone_one {n:Int} {x:Nat} (hx:(x:Int)<n):isGone n [(x:Int)]=true :=
 isGone_iff.2 fun i _ hi=>by
  have:i=0:=by simpa using hi
  subst this
  exact ⟨by simp,by simpa using hx,fun h=>by omega⟩
theorem F243_spec (x:Int) {τ:Type} (k:Nat→LS_→Option τ):F243 [.I x] k=k 0 [.N 1,.L [x]]:=by
 unfold F243 L243_2.b
 simp only [gI_zero]
 refine run_for L243_2 L243_2.s0 0 (fun _ _ _=>rfl) _ (fun j=>[.I x,.I 0]) 0 _ (by omega) (fun j hj=>by omega) (fun next=>?_)
 unfold L243_2.s0
 simp only [gI_zero,gI_succ]
 rw [br_no (by simp)]
 simp only [sw_zero,gI_zero,gI_succ]
 rw [ck_of (by simp),ck_of (by simp)]
theorem F243_1_spec {g:List Int} (hs:g.length<2^20) (x:Int) {τ:Type} (k:Nat→LS_→Option τ):F243_1 [.L g,.I x] k=k 0 [.N (ins g x).length,.L (ins g x)]:=by
 have hp:=pos_le g x
 unfold F243_1 L243_2_1.b
 simp only [gL_zero,gI_succ,gI_zero]
 refine run_for L243_2_1 L243_2_1.s0 0 (fun _ _ _=>rfl) _ (fun j=>[.N g.length,.L g,.I x,.I (j:Nat)]) (pos g x) _ (by omega) (fun j hj next=>?_) (fun next=>?_)
 ·have h1:=pos_lt g x j hj
  unfold L243_2_1.s0
  simp only [g_,Int.toNat_natCast,Nat.mul_one]
  rw [br_of (by simp;omega),ck_of (by simp <;> omega),ck_of (by simp <;> omega),br_of (by rw [ltI_iff];exact h1),wsucc (by omega)]
 ·have out:∀ (κ:Nat→LS_→Option τ),L243_2_1.s0 next κ [.N g.length,.L g,.I x,.I (pos g x:Nat)]=κ 0 [.N g.length,.L g,.I x,.I (pos g x:Nat)]:=by
   intro κ
   unfold L243_2_1.s0
   simp only [g_,Int.toNat_natCast,Nat.mul_one]
   by_cases h1:pos g x<g.length
   ·rw [br_of (by simp;omega),ck_of (by simp <;> omega),ck_of (by simp <;> omega),br_no (by rw [ltI_no];exact pos_ge g x h1)]
   ·rw [br_no (by simp;omega)]
  rw [out]
  simp only [g_,sw_zero,Int.toNat_natCast,Nat.mul_one,Nat.sub_zero,Nat.zero_add,List.drop_zero,List.nil_append]
  have tl:(g.take (pos g x)).length=pos g x:=by simp;omega
  have dl:((g.drop (pos g x)).take (g.length-pos g x))=g.drop (pos g x):=List.take_of_length_le (by simp)
  rw [ck_of (by simp;omega),ck_of (by simp;omega),ck_of (by simp;omega),ck_of (by simp;omega),ck_of (by simp;omega),dl]
  have e:pos g x+1+(g.length-pos g x)=(ins g x).length:=by rw [ins_len];omega
  rw [e]
  rfl
section
variable {q n:Nat} {L:List Int}
theorem byte_at (hL:Bytes L) (n1:1≤n) (i:Nat):∃ k:Nat,Int.tmod (wr .i64 (L.getD i 0)) (n:Int)=k∧k<n:=by
 have hb:=hL.2 i
 have:=tmod_in (a:=L.getD i 0) (b:=(n:Int)) hb.1 (by omega)
 rw [wr64 (by omega) (by omega)]
 exact ⟨(Int.tmod (L.getD i 0) n).toNat,by omega,by omega⟩
theorem wd_set {w:List Int} (hw:Wd q n w) {k:Nat} (hk:k<n) {v:Int} (h0:0≤v) (h1:v<q):Wd q n (w.set k v):=by
 refine ⟨by rw [List.length_set];exact hw.1,fun j hj=>?_⟩
 have e:(w.set k v).getD j 0=if k=j then v else w.getD j 0:=by
  simp only [List.getD_eq_getElem?_getD,List.getElem?_set]
  by_cases he:k=j
  ·subst he;simp [hw.1,hk]
  ·simp [he]
 rw [e]
 split
 ·exact ⟨h0,h1⟩
 ·exact hw.2 j hj
theorem L209_1 (hq:q∈Qs) (n1:1≤n) (hn:n≤10) (hL:Bytes L) (G:List (List Int)):∀ (f i:Nat),1≤i→i≤12→12<f+i→∀ w g,Wd q n w→isGone n g=true→0<g.length →
  ∃ w' g',Wd q n w'∧isGone n g'=true∧0<g'.length∧∀ {τ:Type} (κ:Nat→LS_→Option τ),
   runE L209_8 f κ 1 [.N L.length,.L L,.I (i:Nat),.I q,.I n,.N G.length,.LL G,.N n,.N g.length,.I (fp q),.I (fe q),.N (fm q).length,.L (fm q),.L w,.L g]=κ 1 [.N n,.N g'.length,.L w',.L g']
 | 0,i,i1,i2,hf,w,g,hw,hg,g0=>by
  refine ⟨w,g,hw,hg,g0,fun κ=>?_⟩
  omega
 | f+1,i,i1,i2,hf,w,g,hw,hg,g0=>by
  have hst:∀ {τ:Type} (next κ:Nat→LS_→Option τ) l,L209_8.step next κ 1 l=L209_8.s1 next κ l:=fun _ _ _=>rfl
  have qq:=qs_lt hq
  have gl:=gone_len hg (by omega)
  have wl:=hw.1
  by_cases c1:i+1<L.length∧i<9
  ·obtain ⟨c1,c2⟩:=c1
   obtain ⟨k,hk,kn⟩:=byte_at hL n1 i
   have e1:wr .i64 ((i:Int)+1)=((i+1:Nat):Int):=wsucc (by omega)
   have e2:wr .i64 ((i:Int)+2)=((i+2:Nat):Int):=by rw [wr64 (by omega) (by omega)];omega
   by_cases c3:Int.tmod (L.getD (i+1) 0) 3=0
   ·cases c4:lostI g k with
    | true =>
     obtain ⟨w',g',a,b,c,r⟩:=L209_1 hq n1 hn hL G f (i+2) (by omega) (by omega) (by omega) w g hw hg g0
     refine ⟨w',g',a,b,c,fun κ=>?_⟩
     rw [runE_succ,hst]
     unfold L209_8.s1
     simp only [g_,Int.toNat_natCast,Nat.mul_one,e1,e2,hk,List.drop_zero]
     rw [br_of (by simp;omega),br_of (by simp;omega),ck_of (by simp;omega),ck_of (by simp;omega),ck_of (by simp;omega),ck_of (by simp;omega),ck_of (by simp;omega),br_of (by rw [c3];rfl),ck_of (by simp [wl]),F242_spec (by rw [List.length_take];omega),List.take_length,c4]
     simp only [sw_zero,gB_zero]
     rw [br_no (b:=!true) rfl]
     exact r κ
    | false =>
     obtain ⟨w',g',a,b,c,r⟩:=L209_1 hq n1 hn hL G f (i+2) (by omega) (by omega) (by omega) w (ins g k) hw (ins_gone hg (by omega) c4) (by rw [ins_len];omega)
     refine ⟨w',g',a,b,c,fun κ=>?_⟩
     rw [runE_succ,hst]
     unfold L209_8.s1
     simp only [g_,Int.toNat_natCast,Nat.mul_one,e1,e2,hk,List.drop_zero]
     rw [br_of (by simp;omega),br_of (by simp;omega),ck_of (by simp;omega),ck_of (by simp;omega),ck_of (by simp;omega),ck_of (by simp;omega),ck_of (by simp;omega),br_of (by rw [c3];rfl),ck_of (by simp [wl]),F242_spec (by rw [List.length_take];omega),List.take_length,c4]
     simp only [sw_zero,gB_zero]
     rw [br_of (b:=!false) rfl,ck_of (by simp),F243_1_spec (by omega)]
     simp only [sw_zero,gN_zero,gL_zero,gL_succ]
     exact r κ
   ·have hv:=tmod_in (a:=L.getD (i+1) 0) (b:=(q:Int)) (hL.2 _).1 (by omega)
    have hwk:=hw.2 k kn
    have hadd:=(fld q hq).add_in _ _ hwk.1 hwk.2 hv.1 hv.2
    obtain ⟨w',g',a,b,c,r⟩:=L209_1 hq n1 hn hL G f (i+2) (by omega) (by omega) (by omega) (w.set k (fadd q (w.getD k 0) (Int.tmod (L.getD (i+1) 0) q))) g (wd_set hw kn hadd.1 hadd.2) hg g0
    refine ⟨w',g',a,b,c,fun κ=>?_⟩
    rw [runE_succ,hst]
    unfold L209_8.s1
    simp only [g_,Int.toNat_natCast,Nat.mul_one,e1,e2,hk,List.drop_zero,Nat.zero_add]
    rw [br_of (by simp;omega),br_of (by simp;omega),ck_of (by simp;omega),ck_of (by simp;omega),ck_of (by simp;omega),ck_of (by simp;omega),ck_of (by simp;omega),br_no (by simpa using c3),
     ck_of (by simp;omega),ck_of (by simp;omega),ck_of (by simp;omega),ck_of (by simp;omega),ck_of (by simp;omega),ck_of (by simp)]
    unfold T77
    rw [show wr .i64 (L.getD (i+1) 0)=L.getD (i+1) 0 from by have:=hL.2 (i+1);exact wr64 (by omega) (by omega),tab2_of hq hwk.1 hwk.2 hv.1 hv.2]
    simp only [sw_zero,gI_zero]
    rw [ck_of (by simp;omega),ck_of (by simp;omega)]
    exact r κ
  ·refine ⟨w,g,hw,hg,g0,fun κ=>?_⟩
   rw [runE_succ,hst]
   unfold L209_8.s1
   simp only [g_]
   by_cases c2:i<9
   ·have e1:wr .i64 ((i:Int)+1)=((i+1:Nat):Int):=wsucc (by omega)
    rw [e1,br_no (by simp;omega)]
   ·by_cases c3:ltI (wr .i64 ((i:Int)+1)) ((L.length:Nat):Int)=true
    ·rw [br_of c3,br_no (by simp;omega)]
    ·rw [br_no (by simpa using c3)]
theorem F242_2_spec (w:List Int) (i:Int) {τ:Type} (k:Nat→LS_→Option τ):F242_2 [.L w,.I i] k=k 0 [.B false]:=by
 unfold F242_2 L242_2_2.b
 simp only [gL_zero,gI_succ,gI_zero]
 refine run_for L242_2_2 L242_2_2.s0 0 (fun _ _ _=>rfl) _ (fun j=>[.I i,.B false,.I 0,.N w.length,.L w]) 0 _ (by omega) (fun j hj=>by omega) (fun next=>?_)
 unfold L242_2_2.s0
 simp only [g_]
 rw [br_no (by simp)]
 simp
theorem L209_0 (hq:q∈Qs) (n1:1≤n) (hn:n≤10) (hL:Bytes L) (G:List (List Int)):∀ (f i:Nat),1≤i→i≤12→12<f+i→∀ w,Wd q n w →
  ∃ w' g',Wd q n w'∧isGone n g'=true∧((g'=[]∧∀ {τ:Type} (κ:Nat→LS_→Option τ),
   runE L209_8 f κ 0 [.N L.length,.L L,.I (i:Nat),.I q,.I n,.N G.length,.LL G,.N n,.I (fp q),.I (fe q),.N (fm q).length,.L (fm q),.L w]=κ 0 [.N n,.L w'])∨(0<g'.length∧∀ {τ:Type} (κ:Nat→LS_→Option τ),
   runE L209_8 f κ 0 [.N L.length,.L L,.I (i:Nat),.I q,.I n,.N G.length,.LL G,.N n,.I (fp q),.I (fe q),.N (fm q).length,.L (fm q),.L w]=κ 1 [.N n,.N g'.length,.L w',.L g']))
 | 0,i,i1,i2,hf,w,hw=>by omega
 | f+1,i,i1,i2,hf,w,hw=>by
  have hst:∀ {τ:Type} (next κ:Nat→LS_→Option τ) l,L209_8.step next κ 0 l=L209_8.s0 next κ l:=fun _ _ _=>rfl
  have qq:=qs_lt hq
  have wl:=hw.1
  by_cases c1:i+1<L.length∧i<9
  ·obtain ⟨c1,c2⟩:=c1
   obtain ⟨k,hk,kn⟩:=byte_at hL n1 i
   have e1:wr .i64 ((i:Int)+1)=((i+1:Nat):Int):=wsucc (by omega)
   have e2:wr .i64 ((i:Int)+2)=((i+2:Nat):Int):=by rw [wr64 (by omega) (by omega)];omega
   by_cases c3:Int.tmod (L.getD (i+1) 0) 3=0
   ·obtain ⟨w',g',a,b,c,r⟩:=L209_1 hq n1 hn hL G f (i+2) (by omega) (by omega) (by omega) w [(k:Int)] hw (gone_one (by omega)) (by simp)
    refine ⟨w',g',a,b,.inr ⟨c,fun κ=>?_⟩⟩
    rw [runE_succ,hst]
    unfold L209_8.s0
    simp only [g_,Int.toNat_natCast,Nat.mul_one,e1,e2,hk,List.drop_zero]
    rw [br_of (by simp;omega),br_of (by simp;omega),ck_of (by simp;omega),ck_of (by simp;omega),ck_of (by simp;omega),ck_of (by simp;omega),ck_of (by simp;omega),br_of (by rw [c3];rfl),ck_of (by simp [wl]),F242_2_spec]
    simp only [sw_zero,gB_zero]
    rw [br_of (b:=!false) rfl,F243_spec]
    simp only [sw_zero,gN_zero,gL_zero,gL_succ]
    exact r κ
   ·have hv:=tmod_in (a:=L.getD (i+1) 0) (b:=(q:Int)) (hL.2 _).1 (by omega)
    have hwk:=hw.2 k kn
    have hadd:=(fld q hq).add_in _ _ hwk.1 hwk.2 hv.1 hv.2
    have:=L209_0 hq n1 hn hL G f (i+2) (by omega) (by omega) (by omega) (w.set k (fadd q (w.getD k 0) (Int.tmod (L.getD (i+1) 0) q))) (wd_set hw kn hadd.1 hadd.2)
    have st:∀ {τ:Type} (κ:Nat→LS_→Option τ),runE L209_8 (f+1) κ 0 [.N L.length,.L L,.I (i:Nat),.I q,.I n,.N G.length,.LL G,.N n,.I (fp q),.I (fe q),.N (fm q).length,.L (fm q),.L w] =
      runE L209_8 f κ 0 [.N L.length,.L L,.I ((i+2:Nat):Int),.I q,.I n,.N G.length,.LL G,.N n,.I (fp q),.I (fe q),.N (fm q).length,.L (fm q),.L (w.set k (fadd q (w.getD k 0) (Int.tmod (L.getD (i+1) 0) q)))]:=by
     intro τ κ
     rw [runE_succ,hst]
     unfold L209_8.s0
     simp only [g_,Int.toNat_natCast,Nat.mul_one,e1,e2,hk,List.drop_zero,Nat.zero_add]
     rw [br_of (by simp;omega),br_of (by simp;omega),ck_of (by simp;omega),ck_of (by simp;omega),ck_of (by simp;omega),ck_of (by simp;omega),ck_of (by simp;omega),br_no (by simpa using c3),
      ck_of (by simp;omega),ck_of (by simp;omega),ck_of (by simp;omega),ck_of (by simp;omega),ck_of (by simp;omega),ck_of (by simp)]
     unfold T77
     rw [show wr .i64 (L.getD (i+1) 0)=L.getD (i+1) 0 from by have:=hL.2 (i+1);exact wr64 (by omega) (by omega),tab2_of hq hwk.1 hwk.2 hv.1 hv.2]
     simp only [sw_zero,gI_zero]
     rw [ck_of (by simp;omega),ck_of (by simp;omega)]
    obtain ⟨w',g',a,b,c⟩:=this
    refine ⟨w',g',a,b,?_⟩
    rcases c with ⟨c,r⟩ | ⟨c,r⟩
    ·exact .inl ⟨c,fun κ=>(st κ).trans (r κ)⟩
    ·exact .inr ⟨c,fun κ=>(st κ).trans (r κ)⟩
  ·refine ⟨w,[],hw,isGone_iff.2 fun i _ h=>by simp at h,.inl ⟨rfl,fun κ=>?_⟩⟩
   rw [runE_succ,hst]
   unfold L209_8.s0
   simp only [g_]
   by_cases c2:i<9
   ·have e1:wr .i64 ((i:Int)+1)=((i+1:Nat):Int):=wsucc (by omega)
    rw [e1,br_no (by simp;omega)]
   ·by_cases c3:ltI (wr .i64 ((i:Int)+1)) ((L.length:Nat):Int)=true
    ·rw [br_of c3,br_no (by simp;omega)]
    ·rw [br_no (by simpa using c3)]
def T209 {τ:Type} (l:LS_) (k:Nat→LS_→Option τ):Option τ:=wrapB F209.E (.v pNoisy) l k
def T209.E:Ent P:=F209.E.wrap (.v pNoisy)
theorem F209_ok {G:List (List Int)} (C:Cd q n G) (hL:Bytes L):∃ w g,Wd q n w∧isGone n g=true∧((g=[]∧∀ {τ:Type} (k:Nat→LS_→Option τ),F209 [.I q,.I n,.LL G,.L L] k=k 0 [.N n,.L w])∨(0<g.length∧∀ {τ:Type} (k:Nat→LS_→Option τ),F209 [.I q,.I n,.LL G,.L L] k=k 1 [.N n,.N g.length,.L w,.L g])):=by
 have n1:=C.n0
 have hn:=C.n1
 have hq:=C.fq
 have F:=fld q hq
 have hl:=words_len (n:=n) hq G (List.replicate n 0)
 have hW:=words_wd F G _ C.rows.wd (Wd.zeros (q:=q) (n:=n) (by have:=qs_lt hq;omega))
 have hpos:0<(words q (fadd q) (fmul q) G (List.replicate n 0)).length:=by rw [hl];exact Nat.pow_pos (by have:=qs_lt hq;omega)
 obtain ⟨f,hf,hf2⟩:=fuel_pred
 have go:∃ w0,Wd q n w0∧∀ {τ:Type} (k:Nat→LS_→Option τ),F209 [.I q,.I n,.LL G,.L L] k=L209_8.b 0 [.N L.length,.L L,.I (1:Nat),.I q,.I n,.N G.length,.LL G,.N n,.I (fp q),.I (fe q),.N (fm q).length,.L (fm q),.L w0]
   (fun j l24=>(sw (k 0 [.N (gN l24 0),.L (gL l24 1)]) (sw (k 1 [.N (gN l24 0),.N (gN l24 1),.L (gL l24 2),.L (gL l24 3)]) (fun _=>none))) j):=by
  have pick:∀ i,i<(words q (fadd q) (fmul q) G (List.replicate n 0)).length→Wd q n ((words q (fadd q) (fmul q) G (List.replicate n 0)).getD i []):=fun i hi=>by
   rw [List.getD_eq_getElem?_getD,List.getElem?_eq_getElem hi]
   exact hW _ (List.getElem_mem _)
  by_cases h0:0<L.length
  ·obtain ⟨i,hi,hin⟩:=byte_at hL (show 1≤(words q (fadd q) (fmul q) G (List.replicate n 0)).length from hpos) 0
   have wi:=pick i hin
   refine ⟨_,wi,fun {τ} k=>?_⟩
   have wl:=wi.1
   unfold F209
   simp only [g_]
   rw [ck_of (by simp),T25_spec hq C.rows (by have:=C.count;omega)]
   simp only [sw_zero,gLL_zero]
   generalize words q (fadd q) (fmul q) G (List.replicate n 0)=W at *
   rw [br_of (by simp;omega),ck_of (by simp;omega),ck_of (by simpa using h0),hi]
   simp only [Int.toNat_natCast,Nat.mul_one,Nat.zero_add,List.nil_append]
   rw [ck_of (by rw [Bool.not_eq_true',beq_eq_false_iff_ne];omega),ck_of (by simp;omega),ck_of (by simpa using hin),ck_of (by rw [wl];simp;omega),T29_spec hq]
   simp only [g_,sw_zero]
   rw [wl]
   rfl
  ·have wi:=pick 0 hpos
   refine ⟨_,wi,fun {τ} k=>?_⟩
   have wl:=wi.1
   unfold F209
   simp only [g_]
   rw [ck_of (by simp),T25_spec hq C.rows (by have:=C.count;omega)]
   simp only [sw_zero,gLL_zero]
   generalize words q (fadd q) (fmul q) G (List.replicate n 0)=W at *
   have z:Int.tmod 0 ((W.length:Nat):Int)=((0:Nat):Int):=by simp
   rw [br_no (by rw [gtI_no];omega),z]
   simp only [Int.toNat_natCast,Nat.mul_one,Nat.zero_add,List.nil_append]
   rw [ck_of (by rw [Bool.not_eq_true',beq_eq_false_iff_ne];omega),ck_of (by simp;omega),ck_of (by simpa using hpos),ck_of (by rw [wl];simp;omega),T29_spec hq]
   simp only [g_,sw_zero]
   rw [wl]
   rfl
 obtain ⟨w0,hw0,hr⟩:=go
 obtain ⟨w',g',a,b,c⟩:=L209_0 hq n1 hn hL G (f+1) 1 (by omega) (by omega) (by omega) w0 hw0
 refine ⟨w',g',a,b,?_⟩
 rcases c with ⟨c,r⟩ | ⟨c,r⟩
 ·refine .inl ⟨c,fun {τ} k=>?_⟩
  rw [hr]
  unfold L209_8.b
  rw [hf,r]
  rfl
 ·refine .inr ⟨c,fun {τ} k=>?_⟩
  rw [hr]
  unfold L209_8.b
  rw [hf,r]
  rfl
theorem T209_spec {G:List (List Int)} (C:Cd q n G) (hL:Bytes L):∃ w g,Wd q n w∧isGone n g=true∧∀ {τ:Type} (k:Nat→LS_→Option τ),T209 [.I q,.I n,.LL G,.L L] k=k 0 [.L w,.L g]:=by
 obtain ⟨w,g,hw,hg,c⟩:=F209_ok C hL
 refine ⟨w,g,hw,hg,fun {τ} k=>?_⟩
 have wl:=hw.1
 rcases c with ⟨rfl,r⟩ | ⟨c,r⟩
 ·have r2:∀ {τ:Type} (k:Nat→LS_→Option τ),F209 [.I q,.I n,.LL G,.L L] k=k 0 [.N w.length,.L w]:=fun k=>by rw [wl];exact r k
  have:=wrap_of (e:=F209.E) (p:=.v pNoisy) (j:=0) (l2:=[.N w.length,.L w]) (c:=decide (w.length=(List.take (w.length*1) (List.drop 0 w)).length)&&true) (ls':=[.L (List.take (w.length*1) (List.drop 0 w)),.L []]) (by intro τ κ;kernel_rfl) (by simp) (k:=k) (fun κ=>r2 κ)
  rw [Nat.mul_one,List.drop_zero,List.take_length] at this
  exact this
 ·have r2:∀ {τ:Type} (k:Nat→LS_→Option τ),F209 [.I q,.I n,.LL G,.L L] k=k 1 [.N w.length,.N g.length,.L w,.L g]:=fun k=>by rw [wl];exact r k
  have:=wrap_of (e:=F209.E) (p:=.v pNoisy) (j:=1) (l2:=[.N w.length,.N g.length,.L w,.L g]) (c:=decide (w.length=(List.take (w.length*1) (List.drop 0 w)).length)&&(decide (g.length=(List.take (g.length*1) (List.drop 0 g)).length)&&true)) (ls':=[.L (List.take (w.length*1) (List.drop 0 w)),.L (List.take (g.length*1) (List.drop 0 g))]) (by intro τ κ;kernel_rfl) (by simp) (k:=k) (fun κ=>r2 κ)
  rw [Nat.mul_one,List.drop_zero,List.take_length,Nat.mul_one,List.drop_zero,List.take_length] at this
  exact this
end
end
end Go.Proofs.YticbdgmcofjkeaaGreat.Ai
namespace Go.Proofs.YticbdgmcofjkeaaGreat.Ai
open Go Go.RowKit
noncomputable section
variable {τ:Type} (t:Nat) (nx ex:Nat→LS_→Option τ) (l:LS_) (k κ:Nat→LS_→Option τ)
end
end Go.Proofs.YticbdgmcofjkeaaGreat.Ai
namespace Go.Proofs.YticbdgmcofjkeaaGreat.Ai
open Go Go.RowKit
noncomputable section
variable {τ:Type} (t:Nat) (nx ex:Nat→LS_→Option τ) (l:LS_) (k κ:Nat→LS_→Option τ)
end
end Go.Proofs.YticbdgmcofjkeaaGreat.Ai
namespace Go.Proofs.YticbdgmcofjkeaaGreat.Ai
open Go Ma
noncomputable section
theorem raw13 {ps:List PV1} {ls:LS_} (h:okLs (.int .u8::.int .u8::.int .u8::.arr (.i .u8)::ps) ls) :
  ∃ Q N K L ls',ls=.I Q::.I N::.I K::.L L::ls'∧(0≤Q∧Q<256)∧(0≤N∧N<256)∧(0≤K∧K<256)∧Bytes L∧okLs ps ls':=by
 obtain ⟨x0,l0,rfl,a0,g0⟩:=okLs_cons h
 obtain ⟨Q,rfl,h1⟩:=ok_int a0
 obtain ⟨x1,l1,rfl,a1,g1⟩:=okLs_cons g0
 obtain ⟨N,rfl,h2⟩:=ok_int a1
 obtain ⟨x2,l2,rfl,a2,g2⟩:=okLs_cons g1
 obtain ⟨K,rfl,h3⟩:=ok_int a2
 obtain ⟨x3,l3,rfl,a3,g3⟩:=okLs_cons g2
 obtain ⟨L,rfl,h4⟩:=ok_bytes a3
 exact ⟨Q,N,K,L,l3,rfl,wf_u8 h1,wf_u8 h2,wf_u8 h3,h4,g3⟩
def T39 {τ:Type} (l:LS_) (k:Nat→LS_→Option τ):Option τ:=F39 l k
def T39.E:Ent P:=F39.E
end
end Go.Proofs.YticbdgmcofjkeaaGreat.Ai
namespace Go.Proofs.YticbdgmcofjkeaaGreat.Ai
open Go Go.RowKit
noncomputable section
variable {τ:Type} (t:Nat) (nx ex:Nat→LS_→Option τ) (l:LS_) (k κ:Nat→LS_→Option τ)
end
end Go.Proofs.YticbdgmcofjkeaaGreat.Ai
namespace Go.Proofs.YticbdgmcofjkeaaGreat.Ai
open Go Ma
noncomputable section
section
variable {q n:Nat} {G:List (List Int)}
def T27 {τ:Type} (l:LS_) (k:Nat→LS_→Option τ):Option τ:=F27 l k
def T27.E:Ent P:=F27.E
def T30 {τ:Type} (l:LS_) (k:Nat→LS_→Option τ):Option τ:=wrapB F30.E (.v pR) l k
def T30.E:Ent P:=F30.E.wrap (.v pR)
end
end
end Go.Proofs.YticbdgmcofjkeaaGreat.Ai
namespace Go.Proofs.YticbdgmcofjkeaaGreat.Ai
open Go Ma Go.RowKit
noncomputable section
theorem rounds_stop {n:Nat} {H:List (List Int)} {s:List Int×Int} (h:¬ (s.2<1000∧clean n H s.1=false)):∀ k,rounds n H k s=s
 | 0=>rfl
 | k+1=>by simp only [rounds];rw [if_neg h]
section
variable {n:Nat} {G:List (List Int)}
theorem rcv_of {w g:List Int} (hw:Wd 2 n w) (hg:isGone n g=true):rcv 2 n w g=true:=by
 unfold rcv
 rw [hg,word_of hw.1 (.of hw)]
 simp
theorem T208_spec {Q N K:Int} {L:List Int} (hQ:0≤Q∧Q<256) (hN:0≤N∧N<256) (hK:0≤K∧K<256) (hL:Bytes L) :
  ∃ (n:Nat) (G:List (List Int)),Cd 2 n G∧∀ {τ:Type} (k:Nat→LS_→Option τ),T208 [.I Q,.I N,.I K,.L L] k=k 0 [.I 2,.I n,.LL G]:=by
 obtain ⟨q,n,G,h0,C,hT⟩:=T35_specq (Q:=0) (by decide) hN hK hL
 obtain rfl:=h0 rfl
 refine ⟨n,G,C,fun {τ} k=>?_⟩
 have h2:∀ {τ:Type} (κ:Nat→LS_→Option τ),F208 [.I Q,.I N,.I K,.L L] κ=κ 0 [.I 2,.I n,.N G.length,.LL G]:=by
  intro τ κ
  unfold F208
  simp only [g_]
  rw [ck_of (by simp),hT]
  simp
 exact wrap_of (e:=F208.E) (p:=.v pCode) (j:=0) (l2:=[.I 2,.I n,.N G.length,.LL G]) (c:=decide (G.length=G.length)&&true) (ls':=[.I 2,.I n,.LL G]) (by intro τ κ;kernel_rfl) (by simp) (k:=k) (fun κ=>h2 κ)
end
end
end Go.Proofs.YticbdgmcofjkeaaGreat.Ai
namespace Go.Proofs.YticbdgmcofjkeaaGreat.Ai
open Go Go.RowKit
noncomputable section
variable {τ:Type} (t:Nat) (nx ex:Nat→LS_→Option τ) (l:LS_) (k κ:Nat→LS_→Option τ)
def F207.ps:List PV2:=[]
def F207.sh:List PA:=[(PA.mk (PV3.v pB) [])]
def F207.O:Orc P:=⟨[T210.E,T223.E,T211.E,T213.E,T215.E,T219.E,T218.E],[],[],40⟩
def F207 {τ:Type} (l:LS_) (k:Nat→LS_→Option τ):Option τ :=
 T210 [.I 2,.I 3,.LL [[1,1,1]],.L [1,0,0],.L []]
 (fun j A=>(sw (T210 [.I 2,.I 3,.LL [[1,1,1]],.L [1,1,1],.L [2]]
 (fun j B=>(sw (T223 [.L [1,0,0],.I 0,.B false]
 (fun j C=>(sw (ck (((eqM (List.length (gL A 0)) (List.length (gL A 0)))&&true)&&(((eqM (List.length (gL C 0)) (List.length (gL C 0)))&&true)&&true))
 (T211 [.L (gL A 0),.I (gI A 1),.B (gB A 2),.I (gI A 3),.L (gL C 0),.I (gI C 1),.B (gB C 2),.I (gI C 3)]
 (fun j D=>(sw (br (!(gB D 0))
 (k 0 [.B false])
 (ck (((eqM (List.length (gL A 0)) (List.length (gL A 0)))&&true)&&true)
 (T213 [.I 2,.I 3,.LL [[1,1,1]],.L (gL A 0),.I (gI A 1),.B (gB A 2)]
 (fun j E=>(sw (T223 [.L [0,0,1],.I 1,.B false]
 (fun j F=>(sw (ck (((eqM (List.length (gL E 0)) (List.length (gL E 0)))&&true)&&(((eqM (List.length (gL F 0)) (List.length (gL F 0)))&&true)&&true))
 (T211 [.L (gL E 0),.I (gI E 1),.B (gB E 2),.I (gI E 3),.L (gL F 0),.I (gI F 1),.B (gB F 2),.I (gI F 3)]
 (fun j G=>(sw (br (!(gB G 0))
 (k 0 [.B false])
 (ck (((eqM (List.length (gL A 0)) (List.length (gL A 0)))&&true)&&true)
 (T215 [.I 2,.I 3,.LL [[1,1,1]],.L (gL A 0),.I (gI A 1),.B (gB A 2),.I 5]
 (fun j H=>(sw (T223 [.L [0,0,0],.I 2,.B true]
 (fun j M=>(sw (ck (((eqM (List.length (gL H 0)) (List.length (gL H 0)))&&true)&&(((eqM (List.length (gL M 0)) (List.length (gL M 0)))&&true)&&true))
 (T211 [.L (gL H 0),.I (gI H 1),.B (gB H 2),.I (gI H 3),.L (gL M 0),.I (gI M 1),.B (gB M 2),.I (gI M 3)]
 (fun j N=>(sw (br (!(gB N 0))
 (k 0 [.B false])
 (T223 [.L [1,1,0],.I 0,.B false]
 (fun j Q=>(sw (ck (((eqM (List.length (gL B 0)) (List.length (gL B 0)))&&true)&&(((eqM (List.length (gL Q 0)) (List.length (gL Q 0)))&&true)&&true))
 (T211 [.L (gL B 0),.I (gI B 1),.B (gB B 2),.I (gI B 3),.L (gL Q 0),.I (gI Q 1),.B (gB Q 2),.I (gI Q 3)]
 (fun j S=>(sw (br (!(gB S 0))
 (k 0 [.B false])
 (ck (((eqM (List.length (gL B 0)) (List.length (gL B 0)))&&true)&&true)
 (T213 [.I 2,.I 3,.LL [[1,1,1]],.L (gL B 0),.I (gI B 1),.B (gB B 2)]
 (fun j T=>(sw (T223 [.L [1,1,1],.I 1,.B true]
 (fun j U=>(sw (ck (((eqM (List.length (gL T 0)) (List.length (gL T 0)))&&true)&&(((eqM (List.length (gL U 0)) (List.length (gL U 0)))&&true)&&true))
 (T211 [.L (gL T 0),.I (gI T 1),.B (gB T 2),.I (gI T 3),.L (gL U 0),.I (gI U 1),.B (gB U 2),.I (gI U 3)]
 (fun j V=>(sw (br (!(gB V 0))
 (k 0 [.B false])
 (ck (((eqM (List.length (gL A 0)) (List.length (gL A 0)))&&true)&&true)
 (T215 [.I 2,.I 3,.LL [[1,1,1]],.L (gL A 0),.I (gI A 1),.B (gB A 2),.I 5]
 (fun j W=>(sw (ck (((eqM (List.length (gL W 0)) (List.length (gL W 0)))&&true)&&true)
 (T219 [.I 2,.I 3,.LL [[1,1,1]],.L [1,0,0],.L [],.L (gL W 0),.I (gI W 1),.B (gB W 2)]
 (fun j X=>(sw (ck (((eqM (List.length (gL X 2)) (List.length (gL X 2)))&&((eqM (List.length (gLL X 3)) (List.length (gLL X 3)))&&true))&&true)
 (T218 [.I (gI X 0),.I (gI X 1),.L (gL X 2),.LL (gLL X 3),.I (gI X 4),.I 3,.I 1,.L [0,0,0],.LL [],.I 0]
 (fun j Y=>(sw (br (!(gB Y 0))
 (k 0 [.B false])
 (ck (((eqM (List.length (gL A 0)) (List.length (gL A 0)))&&true)&&true)
 (T219 [.I 2,.I 3,.LL [[1,1,1]],.L [1,0,0],.L [],.L (gL A 0),.I (gI A 1),.B (gB A 2)]
 (fun j Z=>(sw (ck (((eqM (List.length (gL Z 2)) (List.length (gL Z 2)))&&((eqM (List.length (gLL Z 3)) (List.length (gLL Z 3)))&&true))&&true)
 (T218 [.I (gI Z 0),.I (gI Z 1),.L (gL Z 2),.LL (gLL Z 3),.I (gI Z 4),.I 4,.I 0,.L [],.LL [],.I 0]
 (fun j z19=>(sw (br (!(gB z19 0))
 (k 0 [.B false])
 (T210 [.I 2,.I 3,.LL [[1,0,0],[0,1,0],[0,0,1]],.L [1,0,0],.L []]
 (fun j z20=>(sw (T223 [.L [1,0,0],.I 0,.B true]
 (fun j z21=>(sw (ck (((eqM (List.length (gL z20 0)) (List.length (gL z20 0)))&&true)&&(((eqM (List.length (gL z21 0)) (List.length (gL z21 0)))&&true)&&true))
 (T211 [.L (gL z20 0),.I (gI z20 1),.B (gB z20 2),.I (gI z20 3),.L (gL z21 0),.I (gI z21 1),.B (gB z21 2),.I (gI z21 3)]
 (fun j z22=>(sw (br (!(gB z22 0))
 (k 0 [.B false])
 (T210 [.I 3,.I 1,.LL [],.L [0],.L []]
 (fun j z23=>(sw (br ((gI z23 3)==1)
 (T213 [.I 2,.I 3,.LL [[1,1,1]],.L [1,0,0],.I 0,.B true]
 (fun j z24=>(sw (br ((gI z24 3)==1)
 (T213 [.I 2,.I 3,.LL [[1,1,1]],.L [1,0,0],.I 1000,.B false]
 (fun j z25=>(sw (br ((gI z25 3)==1)
 (T215 [.I 2,.I 3,.LL [[1,1,1]],.L [1,0,0],.I 1000,.B false,.I 5]
 (fun j z26=>(sw (k 0 [.B ((gI z26 3)==0)])
 (fun _=>none)) j))
 (k 0 [.B false]))
 (fun _=>none)) j))
 (k 0 [.B false]))
 (fun _=>none)) j))
 (k 0 [.B false]))
 (fun _=>none)) j)))
 (fun _=>none)) j)))
 (fun _=>none)) j))
 (fun _=>none)) j)))
 (fun _=>none)) j)))
 (fun _=>none)) j))))
 (fun _=>none)) j)))
 (fun _=>none)) j)))
 (fun _=>none)) j))))
 (fun _=>none)) j)))
 (fun _=>none)) j))
 (fun _=>none)) j))))
 (fun _=>none)) j)))
 (fun _=>none)) j)))
 (fun _=>none)) j)))
 (fun _=>none)) j))
 (fun _=>none)) j))))
 (fun _=>none)) j)))
 (fun _=>none)) j))
 (fun _=>none)) j))))
 (fun _=>none)) j)))
 (fun _=>none)) j))
 (fun _=>none)) j))
 (fun _=>none)) j)
theorem F207.eq:FEq F207.O 10 F207.ps F207.sh F207:=by intro τ l κ;kernel_rfl
def F207.E:Ent P:=mkF F207.eq
end
end Go.Proofs.YticbdgmcofjkeaaGreat.Ai
namespace Go.Proofs.YticbdgmcofjkeaaGreat.Ai
open Go Ma Go.RowKit
noncomputable section
theorem lc_111:Lc 2 3 [[1,1,1]] where
  fq:=by decide
  n0:=by decide
  n1:=by decide
  form:=⟨fun _=>0,
    { wd:=fun i hi=>by
        have:i=0:=by simpa using hi
        subst this
        refine ⟨rfl,fun j hj=>?_⟩
        rcases (show j=0∨j=1∨j=2 by omega) with rfl | rfl | rfl <;> decide
      lt:=fun i hi=>by decide
      mono:=fun i j hi hj=>by simp at hj;omega
      one:=fun i hi=>by
        have:i=0:=by simpa using hi
        subst this;rfl
      zero:=fun i k hi hk hne=>by
        simp at hi hk;omega
      lead:=fun i j hi hj=>by omega }⟩
theorem lc_id:Lc 2 3 [[1,0,0],[0,1,0],[0,0,1]] where
  fq:=by decide
  n0:=by decide
  n1:=by decide
  form:=⟨fun i=>i,
    { wd:=fun i hi=>by
        have hi:i<3:=by simpa using hi
        rcases (show i=0∨i=1∨i=2 by omega) with rfl | rfl | rfl
        all_goals
          refine ⟨rfl,fun j hj=>?_⟩
          rcases (show j=0∨j=1∨j=2 by omega) with rfl | rfl | rfl <;> decide
      lt:=fun i hi=>by simpa using hi
      mono:=fun i j hi hj=>hi
      one:=fun i hi=>by
        have hi:i<3:=by simpa using hi
        rcases (show i=0∨i=1∨i=2 by omega) with rfl | rfl | rfl <;> rfl
      zero:=fun i k hi hk hne=>by
        have hi:i<3:=by simpa using hi
        have hk:k<3:=by simpa using hk
        rcases (show i=0∨i=1∨i=2 by omega) with rfl | rfl | rfl <;> rcases (show k=0∨k=1∨k=2 by omega) with rfl | rfl | rfl <;> first | rfl | exact absurd rfl hne
      lead:=fun i j hi hj=>by
        have hi:i<3:=by simpa using hi
        rcases (show i=0∨i=1∨i=2 by omega) with rfl | rfl | rfl <;> rcases (show j=0∨j=1∨2≤j by omega) with rfl | rfl | h <;> first | rfl | omega }⟩
theorem F207_true {τ:Type} (k:Nat→LS_→Option τ):F207 [] k=k 0 [.B true]:=by
 have a0:∀ k:Nat→LS_→Option τ,T210 [.I 2,.I 3,.LL [[1,1,1]],.L [1,0,0],.L []] k=k 0 [.L [1,0,0],.I 0,.B false,.I 0]:=fun k=>(T210_ok (n:=3) lc_111 (by omega) (by decide) (by kernel_rfl) k).trans (by kernel_rfl)
 have a1:∀ k:Nat→LS_→Option τ,T210 [.I 2,.I 3,.LL [[1,1,1]],.L [1,1,1],.L [2]] k=k 0 [.L [1,1,0],.I 0,.B false,.I 0]:=fun k=>(T210_ok (n:=3) lc_111 (by omega) (by decide) (by kernel_rfl) k).trans (by kernel_rfl)
 have a4:∀ k:Nat→LS_→Option τ,T213 [.I 2,.I 3,.LL [[1,1,1]],.L [1,0,0],.I 0,.B false] k=k 0 [.L [0,0,1],.I 1,.B false,.I 0]:=fun k=>(T213_ok (n:=3) lc_111 (by omega) (by omega) (by kernel_rfl) (by omega) k).trans (by kernel_rfl)
 have a7:∀ k:Nat→LS_→Option τ,T215 [.I 2,.I 3,.LL [[1,1,1]],.L [1,0,0],.I 0,.B false,.I 5] k=k 0 [.L [0,0,0],.I 2,.B true,.I 0]:=fun k=>(T215_ok (n:=3) lc_111 (by omega) (by omega) (by kernel_rfl) (by omega) k).trans (by kernel_rfl)
 have a12:∀ k:Nat→LS_→Option τ,T213 [.I 2,.I 3,.LL [[1,1,1]],.L [1,1,0],.I 0,.B false] k=k 0 [.L [1,1,1],.I 1,.B true,.I 0]:=fun k=>(T213_ok (n:=3) lc_111 (by omega) (by omega) (by kernel_rfl) (by omega) k).trans (by kernel_rfl)
 have a16:∀ k:Nat→LS_→Option τ,T219 [.I 2,.I 3,.LL [[1,1,1]],.L [1,0,0],.L [],.L [0,0,0],.I 2,.B true] k=k 0 [.I 3,.I 1,.L [0,0,0],.LL [],.I 0]:=fun k=>(T219_ok (n:=3) lc_111 (by omega) (by omega) (by decide) (by kernel_rfl) (by kernel_rfl) k).trans (by kernel_rfl)
 have a18:∀ k:Nat→LS_→Option τ,T219 [.I 2,.I 3,.LL [[1,1,1]],.L [1,0,0],.L [],.L [1,0,0],.I 0,.B false] k=k 0 [.I 4,.I 0,.L [],.LL [],.I 0]:=fun k=>(T219_ok (n:=3) lc_111 (by omega) (by omega) (by decide) (by kernel_rfl) (by kernel_rfl) k).trans (by kernel_rfl)
 have a20:∀ k:Nat→LS_→Option τ,T210 [.I 2,.I 3,.LL [[1,0,0],[0,1,0],[0,0,1]],.L [1,0,0],.L []] k=k 0 [.L [1,0,0],.I 0,.B true,.I 0]:=fun k=>(T210_ok (n:=3) lc_id (by omega) (by decide) (by kernel_rfl) k).trans (by kernel_rfl)
 have a23:∀ k:Nat→LS_→Option τ,T210 [.I 3,.I 1,.LL [],.L [0],.L []] k=k 0 [.L [],.I 0,.B false,.I 1]:=fun k=>T210_no (n:=1) (by decide) (by decide) (by kernel_rfl) k
 have a24:∀ k:Nat→LS_→Option τ,T213 [.I 2,.I 3,.LL [[1,1,1]],.L [1,0,0],.I 0,.B true] k=k 0 [.L [],.I 0,.B false,.I 1]:=fun k=>T213_no (n:=3) (.inr lc_111) (by omega) (by decide) (.inl (by kernel_rfl)) k
 have a25:∀ k:Nat→LS_→Option τ,T213 [.I 2,.I 3,.LL [[1,1,1]],.L [1,0,0],.I 1000,.B false] k=k 0 [.L [],.I 0,.B false,.I 1]:=fun k=>T213_no (n:=3) (.inr lc_111) (by omega) (by decide) (.inr ⟨rfl,rfl⟩) k
 have a26:∀ k:Nat→LS_→Option τ,T215 [.I 2,.I 3,.LL [[1,1,1]],.L [1,0,0],.I 1000,.B false,.I 5] k=k 0 [.L [1,0,0],.I 1000,.B false,.I 0]:=fun k=>(T215_ok (n:=3) lc_111 (by omega) (by omega) (by kernel_rfl) (by omega) k).trans (by kernel_rfl)
 have al:∀ (W V:List Int) (r s:Int) (d e:Bool) (x y:Int) (k:Nat→LS_→Option τ),W.length<2^60→T211 [.L W,.I r,.B d,.I x,.L V,.I s,.B e,.I y] k=k 0 [.B (decide (x=y∧r=s∧d=e∧W=V))]:=fun W V r s d e x y k h=>F211_spec h r s d e x y k
 have at':∀ (C D:List Int) (a b x y e f:Int) (k:Nat→LS_→Option τ),C.length<2^60→T218 [.I a,.I b,.L C,.LL [],.I e,.I x,.I y,.L D,.LL [],.I f] k=k 0 [.B (decide (e=f∧a=x∧b=y∧C=D∧([]:List (List Int))=[]))]:=fun C D a b x y e f k h=>F218_spec h (by decide) (by simp) a b x y e f k
 unfold F207
 rw [a0]
 simp only [sw_zero]
 rw [a1]
 simp only [sw_zero]
 rw [T223_spec]
 simp only [g_,sw_zero]
 rw [ck_of (by rfl),al _ _ _ _ _ _ _ _ _ (by decide)]
 simp only [sw_zero,gB_zero]
 rw [br_no (by decide),ck_of (by rfl),a4]
 simp only [sw_zero]
 rw [T223_spec]
 simp only [g_,sw_zero]
 rw [ck_of (by rfl),al _ _ _ _ _ _ _ _ _ (by decide)]
 simp only [sw_zero,gB_zero]
 rw [br_no (by decide),ck_of (by rfl),a7]
 simp only [sw_zero]
 rw [T223_spec]
 simp only [g_,sw_zero]
 rw [ck_of (by rfl),al _ _ _ _ _ _ _ _ _ (by decide)]
 simp only [sw_zero,gB_zero]
 rw [br_no (by decide),T223_spec]
 simp only [g_,sw_zero]
 rw [ck_of (by rfl),al _ _ _ _ _ _ _ _ _ (by decide)]
 simp only [sw_zero,gB_zero]
 rw [br_no (by decide),ck_of (by rfl),a12]
 simp only [sw_zero]
 rw [T223_spec]
 simp only [g_,sw_zero]
 rw [ck_of (by rfl),al _ _ _ _ _ _ _ _ _ (by decide)]
 simp only [sw_zero,gB_zero]
 rw [br_no (by decide),ck_of (by rfl),a7]
 simp only [g_,sw_zero]
 rw [ck_of (by rfl),a16]
 simp only [g_,sw_zero]
 rw [ck_of (by rfl),at' _ _ _ _ _ _ _ _ _ (by decide)]
 simp only [sw_zero,gB_zero]
 rw [br_no (by decide),ck_of (by rfl),a18]
 simp only [g_,sw_zero]
 rw [ck_of (by rfl),at' _ _ _ _ _ _ _ _ _ (by decide)]
 simp only [sw_zero,gB_zero]
 rw [br_no (by decide),a20]
 simp only [sw_zero]
 rw [T223_spec]
 simp only [g_,sw_zero]
 rw [ck_of (by rfl),al _ _ _ _ _ _ _ _ _ (by decide)]
 simp only [sw_zero,gB_zero]
 rw [br_no (by decide),a23]
 simp only [g_,sw_zero]
 rw [br_of (by decide),a24]
 simp only [g_,sw_zero]
 rw [br_of (by decide),a25]
 simp only [g_,sw_zero]
 rw [br_of (by decide),a26]
 rfl
def T207 {τ:Type} (l:LS_) (k:Nat→LS_→Option τ):Option τ:=F207 l k
def T207.E:Ent P:=F207.E
end
end Go.Proofs.YticbdgmcofjkeaaGreat.Ai
namespace Go.Proofs.YticbdgmcofjkeaaGreat.Ai
open Go Go.RowKit
noncomputable section
variable {τ:Type} (t:Nat) (nx ex:Nat→LS_→Option τ) (l:LS_) (k κ:Nat→LS_→Option τ)
end
end Go.Proofs.YticbdgmcofjkeaaGreat.Ai
namespace Go.Proofs.YticbdgmcofjkeaaGreat.Ai
open Go Ma Go.RowKit
noncomputable section
theorem T211_spec {W V:List Int} (hs:W.length<2^60) (r s:Int) (d e:Bool) (x y:Int) {τ:Type} (k:Nat→LS_→Option τ) :
  T211 [.L W,.I r,.B d,.I x,.L V,.I s,.B e,.I y] k=k 0 [.B (decide (x=y∧r=s∧d=e∧W=V))]:=F211_spec hs r s d e x y k
theorem T209_two {n:Nat} {G:List (List Int)} {L:List Int} (C:Cd 2 n G) (hL:Bytes L):∃ w g,Wd 2 n w∧isGone n g=true∧∀ {τ:Type} (k:Nat→LS_→Option τ),T209 [.I 2,.I n,.LL G,.L L] k=k 0 [.L w,.L g]:=T209_spec C hL
structure Rc (n:Nat) (G:List (List Int)) (w g:List Int):Prop where
 cd:Cd 2 n G
 wd:Wd 2 n w
 gn:isGone n g=true
section
variable {n:Nat} {G:List (List Int)} {w g:List Int}
theorem Rc.lc (h:Rc n G w g):Lc 2 n G:=h.cd.lc
theorem Rc.n1 (h:Rc n G w g):1≤n:=h.cd.n0
theorem Rc.hn (h:Rc n G w g):n≤10:=h.cd.n1
theorem Rc.g60 (h:Rc n G w g):g.length<2^60:=by have:=gone_len h.gn (by omega);have:=h.hn;omega
theorem Rc.rcv (h:Rc n G w g):rcv 2 n w g=true:=rcv_of h.wd h.gn
theorem Rc.start (h:Rc n G w g) {τ:Type} (k:Nat→LS_→Option τ):T210 [.I 2,.I n,.LL G,.L w,.L g] k=k 0 [.L (zer n w g),.I 0,.B (clean n (dualR 2 n G) (zer n w g)),.I 0] :=
 T210_ok h.lc h.hn h.g60 h.rcv k
end
end
end Go.Proofs.YticbdgmcofjkeaaGreat.Ai
namespace Go.Proofs.YticbdgmcofjkeaaGreat.Ai
open Go Go.RowKit
noncomputable section
variable {τ:Type} (t:Nat) (nx ex:Nat→LS_→Option τ) (l:LS_) (k κ:Nat→LS_→Option τ)
end
end Go.Proofs.YticbdgmcofjkeaaGreat.Ai
namespace Go.Proofs.YticbdgmcofjkeaaGreat.Ai
open Go Go.RowKit
noncomputable section
variable {τ:Type} (t:Nat) (nx ex:Nat→LS_→Option τ) (l:LS_) (k κ:Nat→LS_→Option τ)
end
end Go.Proofs.YticbdgmcofjkeaaGreat.Ai
namespace Go.Proofs.YticbdgmcofjkeaaGreat.Ai
open Go Ma Go.RowKit
noncomputable section
section
variable {n:Nat} {G:List (List Int)}
theorem rounds_done {H:List (List Int)} {s:List Int×Int} (h:clean n H s.1=true) (k:Nat):rounds n H k s=s:=rounds_stop (fun c=>by rw [h] at c;cases c.2) k
theorem T218_spec {C D:List Int} (hC:C.length<2^60) (a b x y e f:Int) {τ:Type} (k:Nat→LS_→Option τ) :
  T218 [.I a,.I b,.L C,.LL [],.I e,.I x,.I y,.L D,.LL [],.I f] k=k 0 [.B (decide (e=f∧a=x∧b=y∧C=D))]:=by
 refine (F218_spec hC (by decide) (by simp) a b x y e f k).trans ?_
 simp
end
theorem T31_spec (q n:Int) {a:List Int} (hs:a.length<2^60) {τ:Type} (k:Nat→LS_→Option τ):T31 [.I q,.I n,.L a] k=k 0 [.B (isWord q n a)]:=F31_spec q n hs k
section
variable {n:Nat} {G:List (List Int)}
end
end
end Go.Proofs.YticbdgmcofjkeaaGreat.Ai
namespace Go.Proofs.YticbdgmcofjkeaaGreat.Ai
open Go Ma Go.RowKit
noncomputable section
section
variable {n:Nat} {q:Int} {G H:List (List Int)} {w:List Int}
theorem F274_spec (hn:n≤10) {h:List Int} (hh:Bn h) (lh:h.length=n) (hw:Bn w) (hl:w.length=n) {τ:Type} (k:Nat→LS_→Option τ):F274 [.L h,.L w] k=k 0 [.B (fl n h w)]:=by
 unfold F274 L274_3.b
 simp only [gL_zero,gL_succ]
 rw [lh,hl]
 refine run_for L274_3 L274_3.s0 0 (fun _ _ _=>rfl) _ (fun j=>[.N n,.L h,.N n,.L w,.I (sN h w j),.I (j:Nat)]) n _ (by omega) (fun j hj next=>?_) (fun next=>?_)
 ·have b:=sN_bnd hh hw j
  unfold L274_3.s0
  simp only [g_,Int.toNat_natCast,Nat.mul_one]
  have e:wr .i64 (sN h w j+wr .i64 (h.getD j 0*w.getD j 0))=sN h w (j+1):=by
   simp only [sN]
   rcases hh.bit j with e | e <;> rcases hw.bit j with f | f <;> rw [e,f]
   ·rw [show wr .i64 ((0:Int)*0)=0 by decide,wr64 (by omega) (by omega)];rfl
   ·rw [show wr .i64 ((0:Int)*1)=0 by decide,wr64 (by omega) (by omega)];rfl
   ·rw [show wr .i64 ((1:Int)*0)=0 by decide,wr64 (by omega) (by omega)];rfl
   ·rw [show wr .i64 ((1:Int)*1)=1 by decide,wr64 (by omega) (by omega)];rfl
  rw [br_of (by simp;omega),ck_of (by simp;omega),ck_of (by simp;omega),ck_of (by simp;omega),ck_of (by simp;omega),e,wsucc (by omega)]
 ·have b:=sN_bnd hh hw n
  unfold L274_3.s0
  simp only [g_]
  rw [br_no (by simp)]
  simp only [sw_zero,gI_zero]
  rw [Int.tmod_eq_emod_of_nonneg b.1]
  unfold fl
  by_cases e:sN h w n % 2=1
  ·rw [decide_eq_true e,e];rfl
  ·rw [decide_eq_false e,show (sN h w n % 2==1)=false from beq_eq_false_iff_ne.2 e]
theorem F252_spec (hn:n≤10) (hH:BnL H n) (hs:H.length≤10) (hw:Bn w) (hl:w.length=n) {τ:Type} (k:Nat→LS_→Option τ):F252 [.LL H,.L w] k=k 0 [.B (clean n H w)]:=by
 unfold F252 L252_2.b
 simp only [gL_zero,gL_succ,gLL_zero]
 refine (run_any L252_2 L252_2.s0 0 (fun _ _ _=>rfl) _ (fun j=>[.N H.length,.LL H,.N w.length,.L w,.B false,.I (j:Nat)]) H.length (fun j=>fl n (H.getD j []) w) (k 0 [.B false]) (k 0 [.B true]) (by omega) (fun j hj next=>?_) (fun next=>?_)).trans ?_
 ·obtain ⟨g1,g2⟩:=hH.get hj
  unfold L252_2.s0
  simp only [g_,Int.toNat_natCast,Nat.mul_one]
  rw [br_of (by simp;omega),ck_of (by simp;omega),ck_of (by simpa using hj),ck_of (by simp),F274_spec hn g2 g1 hw hl,wsucc (by omega)]
  simp only [sw_zero,gB_zero]
  cases fl n (H.getD j []) w with
  | true=>rw [br_of rfl,if_pos rfl]
  | false=>rw [br_no rfl,if_neg (by decide)]
 ·unfold L252_2.s0
  simp only [g_]
  rw [br_no (by simp)]
  simp
 ·rw [clean_any]
  cases clean n H w <;> rfl
theorem T33_2 (h:Lc 2 n G) {τ:Type} (k:Nat→LS_→Option τ):T33 [.I 2,.I n,.LL G] k=k 0 [.I 2,.I n,.LL (dualR 2 n G)]:=T33_spec h k
theorem F217_spec (h:Lc 2 n G) (hn:n≤10) (hw:Bn w) (hl:w.length=n) {τ:Type} (k:Nat→LS_→Option τ):F217 [.I 2,.I n,.LL G,.L w] k=k 0 [.B (clean n (dualR 2 n G) w)]:=by
 obtain ⟨hB,hs⟩:=chk_bn h hn
 unfold F217
 simp only [g_]
 rw [ck_of (by simp),T33_2 h]
 simp only [sw_zero,gLL_zero,gLL_succ]
 rw [ck_of (by simp),F252_spec hn hB hs hw hl]
 simp
def T217 {τ:Type} (l:LS_) (k:Nat→LS_→Option τ):Option τ:=F217_1 l k
def T217.E:Ent P:=F217_1.E
theorem T217_spec (h:Lc 2 n G) (hn:n≤10) (hw:Bn w) (hl:w.length=n) {τ:Type} (k:Nat→LS_→Option τ):T217 [.I 2,.I n,.LL G,.L w] k=k 0 [.B (clean n (dualR 2 n G) w)]:=F217_spec h hn hw hl k
theorem F249_spec (h:q≠2∨Lc 2 n G) (hn:n≤10) (hs:w.length<2^60) (r:Int) (d:Bool) {τ:Type} (k:Nat→LS_→Option τ):F249 [.I q,.I n,.LL G,.L w,.I r,.B d] k=k 0 [.B (stv q n G w r d)]:=by
 unfold F249
 simp only [g_]
 by_cases hq:q=2
 ·subst hq
  have h:Lc 2 n G:=h.resolve_left (fun e=>e rfl)
  rw [br_of (by simp),ck_of (by simp),F31_spec _ _ hs]
  simp only [sw_zero,gB_zero]
  cases hw:isWord 2 n w with
  | false=>rw [br_no rfl];unfold stv;rw [hw];simp
  | true =>
   rw [br_of rfl]
   by_cases r0:0≤r
   ·rw [br_of (by simp;omega)]
    by_cases r1:r≤1000
    ·rw [br_of (by simp;omega),ck_of (by simp),F217_spec h hn (word_bn hw).2 (word_bn hw).1]
     simp only [sw_zero,gB_zero]
     unfold stv
     rw [hw,decide_eq_true r0,decide_eq_true r1]
     cases clean n (dualR 2 n G) w <;> cases d <;> rfl
    ·rw [br_no (by simp;omega)];unfold stv;rw [decide_eq_false r1];simp
   ·rw [br_no (by simp;omega)];unfold stv;rw [decide_eq_false r0];simp
 ·rw [br_no (by simpa using hq)]
  unfold stv
  rw [decide_eq_false hq]
  rfl
theorem F270_spec (hn:n≤10) (hH:BnL H n) (hs:H.length≤10) (hw:Bn w) (hl:w.length=n) {τ:Type} (k:Nat→LS_→Option τ):F270 [.LL H,.L w] k=k 0 [.N n,.L ((List.range n).map (bl n H w H.length))]:=by
 unfold F270 L270_3.b
 simp only [gL_zero,gL_succ,gLL_zero,Int.toNat_natCast]
 rw [hl,ck_of (by simp;omega)]
 refine Eq.trans (congrArg (fun x=>runE L270_3 fuel _ 0 [.N H.length,.LL H,.N n,.L w,.N n,.I 0,.L x]) (map_zero.symm:_=(List.range n).map (bl n H w 0))) ?_
 refine run_for L270_3 L270_3.s0 0 (fun _ _ _=>rfl) _ (fun j=>[.N H.length,.LL H,.N n,.L w,.N n,.I (j:Nat),.L ((List.range n).map (bl n H w j))]) H.length _ (by omega) (fun j hj next=>?_) (fun next=>?_)
 ·obtain ⟨g1,g2⟩:=hH.get hj
  have bb:∀ i,0≤bl n H w j i∧bl n H w j i≤1000:=fun i=>by have:=bl_bnd hH w i j (by omega);omega
  unfold L270_3.s0
  simp only [g_,Int.toNat_natCast,Nat.mul_one]
  rw [br_of (by simp;omega),ck_of (by simp;omega),ck_of (by simpa using hj),ck_of (by simp [hl]),F274_spec hn g2 g1 hw hl,wsucc (by omega)]
  simp only [sw_zero,gB_zero]
  cases hf:fl n (H.getD j []) w with
  | false =>
   rw [br_of (b:=!false) rfl]
   have:(bl n H w (j+1))=bl n H w j:=by
    funext i;simp only [bl];rw [if_neg (by rw [hf];decide)];omega
   rw [this]
  | true =>
   rw [br_no (b:=!true) rfl]
   have e:(bl n H w (j+1))=fun i=>bl n H w j i+(H.getD j []).getD i 0:=by
    funext i;simp only [bl];rw [if_pos hf]
   rw [e]
   unfold L270_7.b
   refine Eq.trans (congrArg (fun x=>runE L270_7 fuel _ 0 [.N H.length,.LL H,.N n,.L w,.N n,.I (j:Nat),.I 0,.L x]) (fil_zero.symm:_=fil n (fun i=>bl n H w j i+(H.getD j []).getD i 0) (bl n H w j) 0)) ?_
   refine run_for L270_7 L270_7.s0 0 (fun _ _ _=>rfl) _ (fun i=>[.N H.length,.LL H,.N n,.L w,.N n,.I (j:Nat),.I (i:Nat),.L (fil n (fun i=>bl n H w j i+(H.getD j []).getD i 0) (bl n H w j) i)]) n _ (by omega) (fun i hi nx=>?_) (fun nx=>?_)
   ·unfold L270_7.s0
    simp only [g_,Int.toNat_natCast,Nat.mul_one,Nat.zero_add]
    rw [br_of (by simp;omega),ck_of (by simp;omega),ck_of (by rw [fil_len];simp;omega),ck_of (by simp;omega),ck_of (by simpa using hj),ck_of (by simp only [g1];simp;omega),ck_of (by simp only [g1];simpa using hi),ck_of (by simp;omega),ck_of (by rw [fil_len];simp;omega),wsucc (by omega),fil_get hi,if_neg (Nat.lt_irrefl _),←fil_set]
    have:=bb i
    have e2:wr .i64 (bl n H w j i+(H.getD j []).getD i 0)=bl n H w j i+(H.getD j []).getD i 0:=wr64 (by rcases g2.bit i with z | z <;> rw [z] <;> omega) (by rcases g2.bit i with z | z <;> rw [z] <;> omega)
    rw [e2]
   ·unfold L270_7.s0
    simp only [g_]
    rw [br_no (by simp),fil_full]
    simp only [g_,sw_zero]
    rw [wsucc (by omega)]
 ·unfold L270_3.s0
  simp only [g_]
  rw [br_no (by simp)]
  simp
def mo (b:Nat→Int):Nat→Int
 | 0=>0
 | j+1=>max (mo b j) (b j)
theorem mo_most {b:Nat→Int} (hb:∀ i,0≤b i):∀ m,mo b (m+1)=most b m
 | 0=>by have:=hb 0;simp only [mo,most];omega
 | m+1=>by rw [mo,mo_most hb m];rfl
theorem F250_spec (h1:1≤n) (hn:n≤10) (hH:BnL H n) (hs:H.length≤10) (hw:Bn w) (hl:w.length=n) {r:Int} (r0:0≤r) (r1:r≤1000) (d:Bool) {τ:Type} (k:Nat→LS_→Option τ) :
  F250 [.LL H,.L w,.I r,.B d] k=k 0 [.N n,.I (r+1),.B (clean n H (turn n H w)),.L (turn n H w)]:=by
 have b0:∀ i,0≤bl n H w H.length i:=fun i=>(bl_bnd hH w i _ (Nat.le_refl _)).1
 unfold F250
 simp only [g_]
 rw [ck_of (by simp),F270_spec hn hH hs hw hl]
 simp only [sw_zero,gN_zero,gL_zero,gL_succ]
 have hmo:mo (bl n H w H.length) n=most (bl n H w H.length) (n-1):=by
  obtain ⟨m,rfl⟩:∃ m,n=m+1:=⟨n-1,by omega⟩
  exact mo_most b0 m
 have tu:turn n H w=(List.range n).map fun i=>if bl n H w H.length i=most (bl n H w H.length) (n-1) then 1-w.getD i 0 else w.getD i 0:=rfl
 have tb:=turn_bn (n:=n) (H:=H) hw
 have tl:=turn_len (n:=n) (H:=H) (w:=w)
 generalize bl n H w H.length=b at *
 generalize most b (n-1)=m at *
 unfold L250_4.b
 rw [hl]
 refine run_for L250_4 L250_4.s0 0 (fun _ _ _=>rfl) _ (fun j=>[.N H.length,.LL H,.N n,.I (mo b j),.I (j:Nat),.N n,.L w,.I r,.B d,.I 0,.B false,.L ((List.range n).map b)]) n _ (by omega) (fun j hj next=>?_) (fun next=>?_)
 ·unfold L250_4.s0
  simp only [g_,Int.toNat_natCast,Nat.mul_one,Nat.zero_add]
  rw [br_of (by simp;omega),ck_of (by simp;omega),ck_of (by simp;omega),map_get hj,wsucc (by omega)]
  rfl
 ·unfold L250_4.s0
  simp only [g_]
  rw [br_no (by simp)]
  simp only [g_,sw_zero,Nat.mul_one,Nat.zero_add,List.nil_append,hmo]
  rw [ck_of (by simp;omega)]
  unfold L250_9.b
  have e0:w=fil n (fun i=>if b i=m then 1-w.getD i 0 else w.getD i 0) (fun i=>w.getD i 0) 0:=by
   rw [fil_zero];subst hl;exact map_self.symm
  refine Eq.trans (congrArg (fun x=>runE L250_9 fuel _ 0 [.N H.length,.LL H,.N n,.I m,.N n,.I 0,.N n,.L w,.I r,.B d,.I 0,.B false,.L ((List.range n).map b),.L x]) e0) ?_
  refine run_for L250_9 L250_9.s0 0 (fun _ _ _=>rfl) _ (fun i=>[.N H.length,.LL H,.N n,.I m,.N n,.I (i:Nat),.N n,.L w,.I r,.B d,.I 0,.B false,.L ((List.range n).map b),.L (fil n (fun i=>if b i=m then 1-w.getD i 0 else w.getD i 0) (fun i=>w.getD i 0) i)]) n _ (by omega) (fun i hi nx=>?_) (fun nx=>?_)
  ·unfold L250_9.s0
   simp only [g_,Int.toNat_natCast,Nat.mul_one,Nat.zero_add]
   rw [br_of (by simp;omega),ck_of (by simp;omega),ck_of (by simp;omega),map_get hi,wsucc (by omega)]
   by_cases e:b i=m
   ·rw [br_of (by simpa using e),ck_of (by simp;omega),ck_of (by rw [fil_len];simp;omega),ck_of (by simp;omega),ck_of (by rw [fil_len];simp;omega),fil_get hi,if_neg (Nat.lt_irrefl _),←fil_set,if_pos e]
    have e2:wr .i64 ((1:Int)-w.getD i 0)=1-w.getD i 0:=by rcases hw.bit i with z | z <;> rw [z] <;> decide
    rw [e2]
   ·rw [br_no (by simpa using e),fil_same (by rw [if_neg e])]
  ·unfold L250_9.s0
   simp only [g_]
   rw [br_no (by simp),fil_full,←tu]
   simp only [g_,sw_zero,Nat.mul_one,List.drop_zero]
   rw [ck_of (by simp [tl]),List.take_of_length_le (by omega),F252_spec hn hH hs tb tl,wr64 (by omega) (by omega)]
   simp
end
end
end Go.Proofs.YticbdgmcofjkeaaGreat.Ai
namespace Go.Proofs.YticbdgmcofjkeaaGreat.Ai
open Go Ma Go.RowKit
noncomputable section
section
variable {n:Nat} {q:Int} {G:List (List Int)} {w g x:List Int}
def gnB (n:Int) (g:List Int) (i:Nat):Bool:=decide (0≤g.getD i 0)&&(decide (g.getD i 0<n)&&(decide (i=0) || decide (g.getD (i-1) 0<g.getD i 0)))
theorem F246_spec (q n:Int) (G:List (List Int)) (hw:w.length<2^60) (hg:g.length<2^60) {τ:Type} (k:Nat→LS_→Option τ):F246 [.I q,.I n,.LL G,.L w,.L g] k=k 0 [.B (isWord q n w&&isGone n g)]:=by
 unfold F246 L246_4.b
 simp only [g_]
 rw [ck_of (by simp),F31_spec _ _ hw]
 simp only [sw_zero,gB_zero]
 cases isWord q n w with
 | false=>rw [br_of (b:=!false) rfl];rfl
 | true =>
  rw [br_no (b:=!true) rfl]
  refine (run_any L246_4 L246_4.s0 0 (fun _ _ _=>rfl) _ (fun j=>[.B false,.I (j:Nat),.I q,.I n,.N G.length,.LL G,.N w.length,.L w,.N g.length,.L g]) g.length (fun j=>!gnB n g j) (k 0 [.B false]) (k 0 [.B true]) (by omega) (fun j hj next=>?_) (fun next=>?_)).trans ?_
  ·unfold L246_4.s0
   simp only [g_,Int.toNat_natCast,Nat.mul_one]
   rw [br_of (by simp;omega),ck_of (by simp <;> omega),ck_of (by simp <;> omega),wsucc (by omega)]
   unfold gnB
   by_cases h0:0≤g.getD j 0
   ·rw [br_no (by rw [ltI_no];omega),ck_of (by simp <;> omega),ck_of (by simp <;> omega)]
    by_cases h1:g.getD j 0<n
    ·rw [br_no (by rw [geI_no];omega)]
     by_cases h2:0<j
     ·have e1:wr .i64 ((j:Int)-1)=((j-1:Nat):Int):=by rw [wr64 (by omega) (by omega)];omega
      rw [br_of (by rw [gtI_iff];omega),e1]
      simp only [Int.toNat_natCast]
      rw [ck_of (by simp <;> omega),ck_of (by simp <;> omega),ck_of (by simp <;> omega),ck_of (by simp <;> omega),decide_eq_true h0,decide_eq_true h1,decide_eq_false (show ¬ j=0 by omega)]
      by_cases h3:g.getD (j-1) 0<g.getD j 0
      ·rw [br_no (by rw [geI_no];omega),decide_eq_true h3,if_neg (by decide)]
      ·rw [br_of (by rw [geI_iff];omega),decide_eq_false h3,if_pos (by decide)]
       simp
     ·rw [br_no (by rw [gtI_no];omega),decide_eq_true h0,decide_eq_true h1,decide_eq_true (show j=0 by omega),if_neg (by simp)]
    ·rw [br_of (by rw [geI_iff];omega),decide_eq_false h1,if_pos (by simp)]
     simp
   ·rw [br_of (by rw [ltI_iff];omega),decide_eq_false h0,if_pos (by simp)]
    simp
  ·unfold L246_4.s0
   simp only [g_]
   rw [br_no (by simp)]
   simp
  ·have e:(List.range g.length).any (fun j=>!gnB n g j)=!isGone n g:=List.not_all_eq_any_not.symm
   rw [e]
   cases isGone n g <;> rfl
theorem F247_spec (h:Lc 2 n G) (hn:n≤10) (hw:Bn w) (hl:w.length=n) (r:Int) {τ:Type} (k:Nat→LS_→Option τ):F247 [.I 2,.I n,.LL G,.L w,.I r] k=k 0 [.N w.length,.L w,.I r,.B (clean n (dualR 2 n G) w)]:=by
 unfold F247
 simp only [g_]
 rw [ck_of (by simp),F217_spec h hn hw hl]
 simp
theorem F212_no (hw:w.length<2^60) (hg:g.length<2^60) (hr:rcv q n w g=false) {τ:Type} (k:Nat→LS_→Option τ):F212 [.I q,.I n,.LL G,.L w,.L g] k=k 0 [.I 0,.B false,.I 1]:=by
 unfold F212
 simp only [g_]
 by_cases hq:q=2
 ·subst hq
  have hr2:(isWord 2 n w&&isGone n g)=false:=by
   unfold rcv at hr
   rw [decide_eq_true (rfl:(2:Int)=2)] at hr
   rw [Bool.and_comm]
   exact hr
  rw [br_no (by simp),ck_of (by simp),F246_spec _ _ _ hw hg,hr2]
  simp only [sw_zero,gB_zero]
  rw [br_of (b:=!false) rfl]
 ·rw [br_of (by simpa using hq)]
theorem F212_ok (h:Lc 2 n G) (hn:n≤10) (hg:g.length<2^60) (hr:rcv 2 n w g=true) {τ:Type} (k:Nat→LS_→Option τ) :
  F212 [.I 2,.I n,.LL G,.L w,.L g] k=k 1 [.N (zer n w g).length,.L (zer n w g),.I 0,.B (clean n (dualR 2 n G) (zer n w g)),.I 0]:=by
 have hr':=hr
 unfold rcv at hr'
 simp only [Bool.and_eq_true] at hr'
 obtain ⟨hgo,_,hw⟩:=hr'
 obtain ⟨wl,wb⟩:=word_bn hw
 unfold F212
 simp only [g_]
 rw [br_no (by simp),ck_of (by simp),F246_spec _ _ _ (by omega) hg,hw,hgo]
 simp only [sw_zero,gB_zero,Bool.and_true,Nat.zero_add,List.nil_append]
 rw [br_no (b:=!true) rfl,ck_of (by simp;omega),wl]
 unfold L212_5.b
 refine Eq.trans (congrArg (fun x=>runE L212_5 fuel _ 0 [.N n,.I 0,.I 2,.I n,.N G.length,.LL G,.N n,.L w,.N g.length,.L g,.I 0,.B false,.I 0,.L x]) ((zer_nil wl).symm:w=zer n w (g.take 0))) ?_
 refine run_for L212_5 L212_5.s0 0 (fun _ _ _=>rfl) _ (fun j=>[.N n,.I (j:Nat),.I 2,.I n,.N G.length,.LL G,.N n,.L w,.N g.length,.L g,.I 0,.B false,.I 0,.L (zer n w (g.take j))]) g.length _ (by omega) (fun j hj next=>?_) (fun next=>?_)
 ·obtain ⟨a,b,c⟩:=isGone_iff.1 hgo j (Nat.zero_le _) hj
  unfold L212_5.s0
  simp only [g_,Int.toNat_natCast,Nat.mul_one,Nat.zero_add]
  have c1:(leI 0 (g.getD j 0)&&ltI (g.getD j 0) (n:Int)&&true)=true:=by rw [Bool.and_true,Bool.and_eq_true,leI_iff,ltI_iff];exact ⟨a,b⟩
  rw [br_of (by simp;omega),ck_of (by simp <;> omega),ck_of (by simp <;> omega),ck_of c1,ck_of (by rw [zer_len];simp only [Bool.and_true,Bool.true_and,leN_iff];omega),wsucc (by omega),zer_set hj a b]
 ·unfold L212_5.s0
  simp only [g_]
  rw [br_no (by simp),List.take_length]
  simp only [g_,sw_zero,Nat.mul_one,List.drop_zero]
  rw [ck_of (by simp [zer_len]),List.take_of_length_le (by rw [zer_len];exact Nat.le_refl _),F247_spec h hn (zer_bn wb) zer_len]
  simp
def T212 {τ:Type} (l:LS_) (k:Nat→LS_→Option τ):Option τ:=wrapB F212.E (.v qState) l k
def T212.E:Ent P:=F212.E.wrap (.v qState)
theorem T212_no (hw:w.length<2^60) (hg:g.length<2^60) (hr:rcv q n w g=false) {τ:Type} (k:Nat→LS_→Option τ):T212 [.I q,.I n,.LL G,.L w,.L g] k=k 0 [.L [],.I 0,.B false,.I 1] :=
 wrap_of (e:=F212.E) (p:=.v qState) (j:=0) (l2:=[.I 0,.B false,.I 1]) (c:=true) (ls':=[.L [],.I 0,.B false,.I 1]) (by intro τ κ;kernel_rfl) rfl (fun κ=>F212_no hw hg hr κ)
theorem T212_ok (h:Lc 2 n G) (hn:n≤10) (hg:g.length<2^60) (hr:rcv 2 n w g=true) {τ:Type} (k:Nat→LS_→Option τ) :
  T212 [.I 2,.I n,.LL G,.L w,.L g] k=k 0 [.L (zer n w g),.I 0,.B (clean n (dualR 2 n G) (zer n w g)),.I 0] :=
 wrap_of (e:=F212.E) (p:=.v qState) (j:=1) (l2:=[.N (zer n w g).length,.L (zer n w g),.I 0,.B (clean n (dualR 2 n G) (zer n w g)),.I 0]) (c:=decide ((zer n w g).length=(zer n w g).length)&&true) (ls':=[.L (zer n w g),.I 0,.B (clean n (dualR 2 n G) (zer n w g)),.I 0]) (by intro τ κ;kernel_rfl) (by simp) (k:=k) (fun κ=>F212_ok h hn hg hr κ)
def T214 {τ:Type} (l:LS_) (k:Nat→LS_→Option τ):Option τ:=wrapB F214.E (.v qState) l k
def T214.E:Ent P:=F214.E.wrap (.v qState)
theorem T214_no (h:q≠2∨Lc 2 n G) (hn:n≤10) (hs:w.length<2^60) {r:Int} {d:Bool} (hv:stv q n G w r d=false∨(r=1000∧d=false)) {τ:Type} (k:Nat→LS_→Option τ):T214 [.I q,.I n,.LL G,.L w,.I r,.B d] k=k 0 [.L [],.I 0,.B false,.I 1]:=by
 refine wrap_of (e:=F214.E) (p:=.v qState) (j:=0) (l2:=[.I 0,.B false,.I 1]) (c:=true) (ls':=[.L [],.I 0,.B false,.I 1]) (by intro τ κ;kernel_rfl) rfl (fun κ=>?_)
 show F214 _ κ=_
 unfold F214
 simp only [g_]
 rw [ck_of (by simp),F249_spec h hn hs]
 simp only [sw_zero,gB_zero]
 cases hst:stv q n G w r d with
 | false=>rw [br_of (b:=!false) rfl]
 | true =>
  obtain ⟨rfl,rfl⟩:=hv.resolve_left (fun e=>by rw [hst] at e;cases e)
  rw [br_no (b:=!true) rfl,br_of (by simp),br_of (b:=!false) rfl]
theorem T214_ok (h:Lc 2 n G) (h1:1≤n) (hn:n≤10) {r:Int} {d:Bool} (hv:stv 2 n G w r d=true) (hx:¬ (r=1000∧d=false)) {τ:Type} (k:Nat→LS_→Option τ) :
  T214 [.I 2,.I n,.LL G,.L w,.I r,.B d] k=k 0 [.L (rounds n (dualR 2 n G) 1 (w,r)).1,.I (rounds n (dualR 2 n G) 1 (w,r)).2,.B (clean n (dualR 2 n G) (rounds n (dualR 2 n G) 1 (w,r)).1),.I 0]:=by
 have hv':=hv
 unfold stv at hv'
 simp only [Bool.and_eq_true,decide_eq_true_eq] at hv'
 obtain ⟨_,hw,r0,r1,hc⟩:=hv'
 obtain ⟨hB,hl⟩:=chk_bn h hn
 obtain ⟨w1,w2⟩:=word_bn hw
 have hc:clean n (dualR 2 n G) w=d:=by simpa using hc
 cases d with
 | true =>
  rw [rounds_done (s:=(w,r)) hc]
  simp only [hc]
  refine wrap_of (e:=F214.E) (p:=.v qState) (j:=1) (l2:=[.N w.length,.L w,.I r,.B true,.I 0]) (c:=decide (w.length=w.length)&&true) (ls':=[.L w,.I r,.B true,.I 0]) (by intro τ κ;kernel_rfl) (by simp) (k:=k) (fun κ=>?_)
  show F214 _ κ=_
  unfold F214
  simp only [g_]
  rw [ck_of (by simp),F249_spec (.inr h) hn (by omega),hv]
  simp only [sw_zero,gB_zero]
  rw [br_no (b:=!true) rfl]
  by_cases hr:r=1000
  ·rw [br_of (by simpa using hr),br_no (b:=!true) rfl,br_of rfl]
  ·rw [br_no (by simpa using hr),br_of rfl]
 | false =>
  have hr:¬ r=1000:=fun e=>hx ⟨e,rfl⟩
  have e:rounds n (dualR 2 n G) 1 (w,r)=(turn n (dualR 2 n G) w,r+1):=by
   simp only [rounds];rw [if_pos ⟨by omega,hc⟩]
  rw [e]
  have tl:=turn_len (n:=n) (H:=dualR 2 n G) (w:=w)
  have h2:∀ {τ:Type} (κ:Nat→LS_→Option τ),F214 [.I 2,.I n,.LL G,.L w,.I r,.B false] κ=κ 2 [.N n,.I (r+1),.B (clean n (dualR 2 n G) (turn n (dualR 2 n G) w)),.I 0,.L (turn n (dualR 2 n G) w)]:=by
   intro τ κ
   unfold F214
   simp only [g_]
   rw [ck_of (by simp),F249_spec (.inr h) hn (by omega),hv]
   simp only [sw_zero,gB_zero]
   rw [br_no (b:=!true) rfl,br_no (by simpa using hr),br_no rfl,ck_of (by simp),T33_2 h]
   simp only [sw_zero,gLL_zero,gLL_succ]
   rw [ck_of (by simp),F250_spec h1 hn hB hl w2 w1 r0 r1]
   simp
  simp only
  generalize turn n (dualR 2 n G) w=M at h2 tl ⊢
  generalize clean n (dualR 2 n G) M=B at h2 ⊢
  rw [←tl] at h2
  have:=wrap_of (e:=F214.E) (p:=.v qState) (j:=2) (l2:=[.N M.length,.I (r+1),.B B,.I 0,.L M]) (c:=decide (M.length=(List.take (M.length*1) (List.drop 0 M)).length)&&true) (ls':=[.L (List.take (M.length*1) (List.drop 0 M)),.I (r+1),.B B,.I 0]) (by intro τ κ;kernel_rfl) (by simp) (k:=k) (fun κ=>h2 κ)
  rw [Nat.mul_one,List.drop_zero,List.take_length] at this
  rw [←tl]
  exact this
theorem L216_1 (h1:1≤n) (hn:n≤10) {H:List (List Int)} (hH:BnL H n) (hs:H.length≤10) {τ:Type} (κ:Nat→LS_→Option τ):∀ (f:Nat) (b:Int) (i:Nat) (w:List Int) (r:Int),Bn w→w.length=n→(i:Int)≤r→r≤1000→1000<f+r →
  runE L216_5 f κ 1 [.I b,.N H.length,.LL H,.I (i:Nat),.N n,.I r,.B (clean n H w),.I 0,.B false,.I 0,.L w] =
   κ 1 [.N n,.I (rounds n H (b-i).toNat (w,r)).2,.B (clean n H (rounds n H (b-i).toNat (w,r)).1),.I 0,.B false,.I 0,.L (rounds n H (b-i).toNat (w,r)).1]
 | 0,b,i,w,r,hw,hl,r0,r1,hf=>by omega
 | f+1,b,i,w,r,hw,hl,r0,r1,hf=>by
  rw [runE_succ,show ∀ (next κ:Nat→LS_→Option τ) l,L216_5.step next κ 1 l=L216_5.s1 next κ l from fun _ _ _=>rfl]
  unfold L216_5.s1
  simp only [g_,Nat.mul_one,List.drop_zero]
  by_cases h0:(i:Int)<b
  ·obtain ⟨m,hm⟩:∃ m:Nat,(b-i).toNat=m+1:=⟨(b-i).toNat-1,by omega⟩
   rw [br_of (by rw [ltI_iff];exact h0),hm]
   simp only [rounds]
   cases hc:clean n H w with
   | true=>rw [br_no (b:=!true) rfl,if_neg (by simp),hc]
   | false =>
    rw [br_of (b:=!false) rfl]
    by_cases h2:r<1000
    ·rw [br_of (by simp;omega),ck_of (by simp [hl]),List.take_of_length_le (by omega),F250_spec h1 hn hH hs hw hl (by omega) r1]
     simp only [g_,sw_zero]
     rw [if_pos (by simp [h2]),wsucc (by omega),L216_1 h1 hn hH hs κ f b (i+1) (turn n H w) (r+1) (turn_bn hw) turn_len (by omega) (by omega) (by omega),show (b-((i+1:Nat):Int)).toNat=m by omega]
    ·rw [br_no (by simp;omega),if_neg (by simp;omega),hc]
  ·rw [br_no (by rw [ltI_no];exact h0),show (b-i).toNat=0 by omega]
   rfl
def T216 {τ:Type} (l:LS_) (k:Nat→LS_→Option τ):Option τ:=wrapB F216.E (.v qState) l k
def T216.E:Ent P:=F216.E.wrap (.v qState)
theorem T216_no (h:q≠2∨Lc 2 n G) (hn:n≤10) (hs:w.length<2^60) {r:Int} {d:Bool} (hv:stv q n G w r d=false) (b:Int) {τ:Type} (k:Nat→LS_→Option τ):T216 [.I q,.I n,.LL G,.L w,.I r,.B d,.I b] k=k 0 [.L [],.I 0,.B false,.I 1]:=by
 refine wrap_of (e:=F216.E) (p:=.v qState) (j:=0) (l2:=[.I 0,.B false,.I 1]) (c:=true) (ls':=[.L [],.I 0,.B false,.I 1]) (by intro τ κ;kernel_rfl) rfl (fun κ=>?_)
 show F216 _ κ=_
 unfold F216
 simp only [g_]
 rw [ck_of (by simp),F249_spec h hn hs,hv]
 simp only [sw_zero,gB_zero]
 rw [br_of (b:=!false) rfl]
theorem T216_ok (h:Lc 2 n G) (h1:1≤n) (hn:n≤10) {r:Int} {d:Bool} (hv:stv 2 n G w r d=true) (b:Int) {τ:Type} (k:Nat→LS_→Option τ) :
  T216 [.I 2,.I n,.LL G,.L w,.I r,.B d,.I b] k=k 0 [.L (rounds n (dualR 2 n G) b.toNat (w,r)).1,.I (rounds n (dualR 2 n G) b.toNat (w,r)).2,.B (clean n (dualR 2 n G) (rounds n (dualR 2 n G) b.toNat (w,r)).1),.I 0]:=by
 have hv':=hv
 unfold stv at hv'
 simp only [Bool.and_eq_true,decide_eq_true_eq] at hv'
 obtain ⟨_,hw,r0,r1,hc⟩:=hv'
 obtain ⟨hB,hl⟩:=chk_bn h hn
 obtain ⟨w1,w2⟩:=word_bn hw
 have hc:clean n (dualR 2 n G) w=d:=by simpa using hc
 have pre:∀ {τ:Type} (κ:Nat→LS_→Option τ),F216 [.I 2,.I n,.LL G,.L w,.I r,.B d,.I b] κ=L216_5.b 0 [.I b,.N (dualR 2 n G).length,.LL (dualR 2 n G),.I 0,.N w.length,.L w,.I r,.B d,.I 0,.B false,.I 0]
   (fun j l24=>(sw (κ 1 [.N (gN l24 0),.L (gL l24 1),.I (gI l24 2),.B (gB l24 3),.I (0:Int)]) (sw (κ 2 [.N (gN l24 0),.I (gI l24 1),.B (gB l24 2),.I (0:Int),.L (gL l24 6)]) (fun _=>none))) j):=by
  intro τ κ
  unfold F216
  simp only [g_]
  rw [ck_of (by simp),F249_spec (.inr h) hn (by omega),hv]
  simp only [sw_zero,gB_zero]
  rw [br_no (b:=!true) rfl,ck_of (by simp),T33_2 h]
  rfl
 obtain ⟨f,hf,hf2⟩:=fuel_pred
 have hst:∀ {τ:Type} (next κ:Nat→LS_→Option τ) l,L216_5.step next κ 0 l=L216_5.s0 next κ l:=fun _ _ _=>rfl
 by_cases go:0<b∧d=false∧r<1000
 ·obtain ⟨g1,rfl,g2⟩:=go
  obtain ⟨m,hm⟩:∃ m:Nat,b.toNat=m+1:=⟨b.toNat-1,by omega⟩
  have hR:=rounds_bn (n:=n) (H:=dualR 2 n G) b.toNat (w,r) w1 w2
  have h2:∀ {τ:Type} (κ:Nat→LS_→Option τ),F216 [.I 2,.I n,.LL G,.L w,.I r,.B false,.I b] κ=κ 2 [.N n,.I (rounds n (dualR 2 n G) b.toNat (w,r)).2,.B (clean n (dualR 2 n G) (rounds n (dualR 2 n G) b.toNat (w,r)).1),.I 0,.L (rounds n (dualR 2 n G) b.toNat (w,r)).1]:=by
   intro τ κ
   rw [pre]
   unfold L216_5.b
   rw [hf,runE_succ,hst]
   unfold L216_5.s0
   simp only [g_]
   rw [br_of (by simp;omega),br_of (b:=!false) rfl,br_of (by simp;omega),ck_of (by simp),F250_spec h1 hn hB hl w2 w1 r0 r1]
   simp only [g_,sw_zero]
   rw [show wr .i64 ((0:Int)+1)=((1:Nat):Int) by decide,L216_1 h1 hn hB hl _ f b 1 (turn n (dualR 2 n G) w) (r+1) (turn_bn w2) turn_len (by omega) (by omega) (by omega),show (b-((1:Nat):Int)).toNat=m by omega,hm]
   simp only [rounds]
   rw [if_pos ⟨g2,hc⟩]
   simp
  generalize rounds n (dualR 2 n G) b.toNat (w,r)=R at h2 hR ⊢
  generalize clean n (dualR 2 n G) R.1=B at h2 ⊢
  obtain ⟨M,t⟩:=R
  rw [←hR.1] at h2
  have:=wrap_of (e:=F216.E) (p:=.v qState) (j:=2) (l2:=[.N M.length,.I t,.B B,.I 0,.L M]) (c:=decide (M.length=(List.take (M.length*1) (List.drop 0 M)).length)&&true) (ls':=[.L (List.take (M.length*1) (List.drop 0 M)),.I t,.B B,.I 0]) (by intro τ κ;kernel_rfl) (by simp) (k:=k) (fun κ=>h2 κ)
  rw [Nat.mul_one,List.drop_zero,List.take_length] at this
  rw [←hR.1]
  exact this
 ·have e:rounds n (dualR 2 n G) b.toNat (w,r)=(w,r):=by
   by_cases g1:0<b
   ·refine rounds_stop (fun c=>go ⟨g1,?_,c.1⟩) _
    rw [←hc];exact c.2
   ·rw [show b.toNat=0 by omega];rfl
  rw [e]
  simp only [hc]
  refine wrap_of (e:=F216.E) (p:=.v qState) (j:=1) (l2:=[.N w.length,.L w,.I r,.B d,.I 0]) (c:=decide (w.length=w.length)&&true) (ls':=[.L w,.I r,.B d,.I 0]) (by intro τ κ;kernel_rfl) (by simp) (k:=k) (fun κ=>?_)
  show F216 _ κ=_
  rw [pre]
  unfold L216_5.b
  rw [hf,runE_succ,hst]
  unfold L216_5.s0
  simp only [g_]
  by_cases g1:0<b
  ·rw [br_of (by simp;omega)]
   cases d with
   | true=>rw [br_no (b:=!true) rfl];simp
   | false =>
    rw [br_of (b:=!false) rfl,br_no (by simp;exact Int.not_lt.1 fun h=>go ⟨g1,rfl,h⟩)]
    simp
  ·rw [br_no (by simp;omega)]
   simp
theorem F225_spec (hx:x.length<2^60) (hw:w.length=x.length) (hg:g.length<2^60) {τ:Type} (k:Nat→LS_→Option τ):F225 [.L w,.L g,.L x] k=k 0 [.I (apt w g x x.length:Nat)]:=F225_1_spec hx hw hg k
def T220 {τ:Type} (l:LS_) (k:Nat→LS_→Option τ):Option τ:=wrapB F220.E (.v qTold) l k
def T220.E:Ent P:=F220.E.wrap (.v qTold)
theorem T220_no (h:q≠2∨Lc 2 n G) (hn:n≤10) (hs:x.length<2^60) (hw:w.length<2^60) (hg:g.length<2^60) {r:Int} {d:Bool} (hv:(stv q n G x r d&&rcv q n w g)=false) {τ:Type} (k:Nat→LS_→Option τ) :
  T220 [.I q,.I n,.LL G,.L w,.L g,.L x,.I r,.B d] k=k 0 [.I 0,.I 0,.L [],.LL [],.I 1]:=by
 refine wrap_of (e:=F220.E) (p:=.v qTold) (j:=0) (l2:=[.I 0,.I 0,.I 1]) (c:=true) (ls':=[.I 0,.I 0,.L [],.LL [],.I 1]) (by intro τ κ;kernel_rfl) rfl (fun κ=>?_)
 show F220 _ κ=_
 unfold F220
 simp only [g_]
 rw [ck_of (by simp),F246_spec _ _ _ hw hg]
 simp only [sw_zero,gB_zero]
 cases hr:(isWord q n w&&isGone n g) with
 | false=>rw [br_of (b:=!false) rfl]
 | true =>
  have hst:stv q n G x r d=false:=by
   cases e:stv q n G x r d with
   | false=>rfl
   | true =>
    have hq:q=2:=by unfold stv at e;simp only [Bool.and_eq_true,decide_eq_true_eq] at e;exact e.1
    subst hq
    rw [e,Bool.true_and] at hv
    unfold rcv at hv
    rw [Bool.and_eq_true] at hr
    rw [hr.1,hr.2] at hv
    simp at hv
  rw [br_no (b:=!true) rfl,ck_of (by simp),F249_spec h hn hs,hst]
  simp only [sw_zero,gB_zero]
  rw [br_of (b:=!false) rfl]
theorem T220_ok (h:Lc 2 n G) (hn:n≤10) (hg:g.length<2^60) {r:Int} {d:Bool} (hv:stv 2 n G x r d=true) (hr:rcv 2 n w g=true) {τ:Type} (k:Nat→LS_→Option τ) :
  T220 [.I 2,.I n,.LL G,.L w,.L g,.L x,.I r,.B d] k=if d=true then k 0 [.I 3,.I (apt w g x n:Nat),.L x,.LL [],.I 0] else k 0 [.I 4,.I 0,.L [],.LL [],.I 0]:=by
 have hx:isWord 2 n x=true:=by unfold stv at hv;simp only [Bool.and_eq_true] at hv;exact hv.2.1
 have hr':=hr
 unfold rcv at hr'
 simp only [Bool.and_eq_true] at hr'
 obtain ⟨hgo,_,hw⟩:=hr'
 have xl:=(word_bn hx).1
 have wl:=(word_bn hw).1
 cases d with
 | true =>
  rw [if_pos rfl]
  refine wrap_of (e:=F220.E) (p:=.v qTold) (j:=1) (l2:=[.I 3,.I (apt w g x n:Nat),.N x.length,.L x,.I 0]) (c:=decide (x.length=x.length)&&true) (ls':=[.I 3,.I (apt w g x n:Nat),.L x,.LL [],.I 0]) (by intro τ κ;kernel_rfl) (by simp) (k:=k) (fun κ=>?_)
  show F220 _ κ=_
  unfold F220
  simp only [g_]
  rw [ck_of (by simp),F246_spec _ _ _ (by omega) hg,hw,hgo]
  simp only [sw_zero,gB_zero,Bool.and_true]
  rw [br_no (b:=!true) rfl,ck_of (by simp),F249_spec (.inr h) hn (by omega),hv]
  simp only [sw_zero,gB_zero]
  rw [br_no (b:=!true) rfl,br_no (b:=!true) rfl,ck_of (by simp),F225_spec (by omega) (by omega) hg,xl]
  simp
 | false =>
  rw [if_neg (by decide)]
  refine wrap_of (e:=F220.E) (p:=.v qTold) (j:=0) (l2:=[.I 4,.I 0,.I 0]) (c:=true) (ls':=[.I 4,.I 0,.L [],.LL [],.I 0]) (by intro τ κ;kernel_rfl) rfl (fun κ=>?_)
  show F220 _ κ=_
  unfold F220
  simp only [g_]
  rw [ck_of (by simp),F246_spec _ _ _ (by omega) hg,hw,hgo]
  simp only [sw_zero,gB_zero,Bool.and_true]
  rw [br_no (b:=!true) rfl,ck_of (by simp),F249_spec (.inr h) hn (by omega),hv]
  simp only [sw_zero,gB_zero]
  rw [br_no (b:=!true) rfl,br_of (b:=!false) rfl]
end
end
end Go.Proofs.YticbdgmcofjkeaaGreat.Ai
namespace Go.Proofs.YticbdgmcofjkeaaGreat.Ai
open Go Go.RowKit
noncomputable section
abbrev qSess:PV2:=.agg [.int .i64,.int .i64,.int .i64,.arr (.m .i64),.arr (.i .i64),.arr (.i .i64),.int .i64,.arr (.i .i64),.int .i64,.bool,.int .i64,.int .i64,.arr (.i .i64),.arr (.m .i64)]
variable {τ:Type} (t:Nat) (nx ex:Nat→LS_→Option τ) (l:LS_) (k κ:Nat→LS_→Option τ)
def F200.ps:List PV2:=[qRaw13,qB8,qSess]
def F200.sh:List PA:=[(PA.mk (PV3.v pB) [])]
def F200.O:Orc P:=⟨[T207.E,T208.E,T35.E,T209.E,T210.E,T212.E,T211.E,T213.E,T214.E,T215.E,T216.E,T31.E,T217.E,T219.E,T220.E,T218.E],[],[],40⟩
def F200.p7:PS:=(PS.mk [(PV2.agg [(PV1.int IntKind.u8),(PV1.int IntKind.u8),(PV1.int IntKind.u8),(PV1.sl (PC0.i IntKind.u8))]),(PV2.v (PV1.sl (PC0.i IntKind.u8))),(PV2.agg [iI,iI,iI,(PV1.sl (PC0.m .i64)),(PV1.sl (PC0.i .i64)),(PV1.sl (PC0.i .i64)),iI,(PV1.sl (PC0.i .i64)),iI,PV1.bool,iI,iI,(PV1.sl (PC0.i .i64)),(PV1.sl (PC0.m .i64))]),(pp 0),n_,(pp 1),pB,pB,(pp 2),(pp 3),(pp 4),(pp 5),n_,n_,pB,pB,pB,pB,(PV2.v (PV1.ptr 1 (some 0) (some 4))),(PV2.v (PV1.ptr 1 (some 0) (some 4))),qR,pI,pB,pB,pB,(PV2.v (PV1.ptr 1 (some 0) (some 4))),(PV2.v (PV1.ptr 1 (some 0) (some 5))),qR,pI,pB,pB,pB,(PV2.v (PV1.ptr 1 (some 0) (some 7))),(PV2.v (PV1.ptr 1 (some 0) (some 7))),qR,pI,pB,pB,n_,(PV2.agg [(PV1.int IntKind.u8),(PV1.int IntKind.u8),(PV1.int IntKind.u8),(PV1.sl (PC0.i IntKind.u8))]),(PV2.agg [iI,iI,(PV1.sl (PC0.m .i64))]),(PV2.agg [(PV1.int IntKind.u8),(PV1.int IntKind.u8),(PV1.int IntKind.u8),(PV1.sl (PC0.i IntKind.u8))]),(PV2.agg [iI,iI,(PV1.sl (PC0.m .i64))]),(PV2.agg [iI,iI,(PV1.sl (PC0.m .i64))]),(PV2.v (PV1.sl (PC0.i IntKind.u8))),(PV2.agg [(PV1.sl (PC0.i .i64)),(PV1.sl (PC0.i .i64))]),(PV2.agg [iI,iI,(PV1.sl (PC0.m .i64))]),(PV2.agg [(PV1.sl (PC0.i .i64)),(PV1.sl (PC0.i .i64))]),(PV2.agg [(PV1.sl (PC0.i .i64)),iI,PV1.bool,iI]),n_,n_,n_,n_,n_,n_,n_,n_,n_,n_,n_,n_,n_,n_,n_,n_,n_,n_,n_,n_,n_,n_,n_,n_,n_,n_,n_,n_,n_,n_,n_,n_,n_,n_,n_,n_,n_,n_,n_,n_,n_,n_,n_,n_,n_,n_,n_,n_,n_,n_,n_,n_,n_,n_,n_,n_,n_,n_,n_,n_,n_,n_,n_,n_,n_,n_,n_,n_,n_,n_,n_,n_,n_,n_,n_,n_,n_,n_,n_,n_,n_,n_,n_,n_,n_,n_,n_,n_,n_,n_,n_,n_,n_,n_,n_,n_,n_,n_,n_,n_,n_,n_,n_,n_,n_,n_,n_,n_,n_,n_,n_,n_,n_,n_,n_,n_,n_,n_,n_,n_,n_,n_,n_,n_,n_,n_,n_,n_,n_,n_,n_,n_,n_,n_,n_,n_,n_,n_,n_,n_,n_,n_,n_,n_,n_,n_,n_,n_,n_,n_,n_,n_,n_,n_,n_,n_,n_,n_,n_,n_,n_,n_,n_] [(oG [(pK IntKind.u8),(pK IntKind.u8),(pK IntKind.u8),(PV2.v (PV1.sl (PC0.i IntKind.u8)))]),(oG [pI,pI,pI,qM,qR,qR,pI,qR,pI,pB,pI,pI,qR,qM]),(oG [pI,pI,qM]),(oG [pI,pI,qM]),(oG [qR,qR]),(oG [qR,pI,pB,pI])])
def F200.p8:PS:=(PS.mk [(PV2.agg [(PV1.int IntKind.u8),(PV1.int IntKind.u8),(PV1.int IntKind.u8),(PV1.sl (PC0.i IntKind.u8))]),(PV2.v (PV1.sl (PC0.i IntKind.u8))),(PV2.agg [iI,iI,iI,(PV1.sl (PC0.m .i64)),(PV1.sl (PC0.i .i64)),(PV1.sl (PC0.i .i64)),iI,(PV1.sl (PC0.i .i64)),iI,PV1.bool,iI,iI,(PV1.sl (PC0.i .i64)),(PV1.sl (PC0.m .i64))]),(pp 0),n_,(pp 1),pB,pB,(pp 2),(pp 3),(pp 4),(pp 5),n_,n_,pB,pB,pB,pB,(PV2.v (PV1.ptr 1 (some 0) (some 4))),(PV2.v (PV1.ptr 1 (some 0) (some 4))),qR,pI,pB,pB,pB,(PV2.v (PV1.ptr 1 (some 0) (some 4))),(PV2.v (PV1.ptr 1 (some 0) (some 5))),qR,pI,pB,pB,pB,(PV2.v (PV1.ptr 1 (some 0) (some 7))),(PV2.v (PV1.ptr 1 (some 0) (some 7))),qR,pI,pB,pB,n_,(PV2.agg [(PV1.int IntKind.u8),(PV1.int IntKind.u8),(PV1.int IntKind.u8),(PV1.sl (PC0.i IntKind.u8))]),(PV2.agg [iI,iI,(PV1.sl (PC0.m .i64))]),(PV2.agg [(PV1.int IntKind.u8),(PV1.int IntKind.u8),(PV1.int IntKind.u8),(PV1.sl (PC0.i IntKind.u8))]),(PV2.agg [iI,iI,(PV1.sl (PC0.m .i64))]),(PV2.agg [iI,iI,(PV1.sl (PC0.m .i64))]),(PV2.v (PV1.sl (PC0.i IntKind.u8))),(PV2.agg [(PV1.sl (PC0.i .i64)),(PV1.sl (PC0.i .i64))]),(PV2.agg [iI,iI,(PV1.sl (PC0.m .i64))]),(PV2.agg [(PV1.sl (PC0.i .i64)),(PV1.sl (PC0.i .i64))]),(PV2.agg [(PV1.sl (PC0.i .i64)),iI,PV1.bool,iI]),(PV2.agg [(PV1.sl (PC0.i .i64)),iI,PV1.bool,iI]),(PV2.agg [iI,iI,(PV1.sl (PC0.m .i64))]),(PV2.agg [(PV1.sl (PC0.i .i64)),(PV1.sl (PC0.i .i64))]),(PV2.agg [(PV1.sl (PC0.i .i64)),iI,PV1.bool,iI]),pB,pB,pB,(PV2.agg [iI,iI,(PV1.sl (PC0.m .i64))]),(PV2.v (PV1.ptr 1 (some 0) (some 4))),(PV2.agg [(PV1.sl (PC0.i .i64)),(PV1.sl (PC0.i .i64))]),(PV2.agg [(PV1.sl (PC0.i .i64)),iI,PV1.bool,iI]),(PV2.agg [iI,iI,(PV1.sl (PC0.m .i64))]),(PV2.v (PV1.ptr 1 (some 0) (some 4))),(PV2.agg [(PV1.sl (PC0.i .i64)),(PV1.sl (PC0.i .i64))]),(PV2.agg [(PV1.sl (PC0.i .i64)),iI,PV1.bool,iI]),pB,pB,pB,pB,(PV2.agg [iI,iI,(PV1.sl (PC0.m .i64))]),(PV2.v (PV1.ptr 1 (some 0) (some 4))),(PV2.agg [(PV1.sl (PC0.i .i64)),(PV1.sl (PC0.i .i64))]),(PV2.agg [(PV1.sl (PC0.i .i64)),iI,PV1.bool,iI]),(PV2.agg [iI,iI,(PV1.sl (PC0.m .i64))]),(PV2.v (PV1.ptr 1 (some 0) (some 4))),(PV2.agg [(PV1.sl (PC0.i .i64)),(PV1.sl (PC0.i .i64))]),(PV2.agg [(PV1.sl (PC0.i .i64)),iI,PV1.bool,iI]),pB,pB,pB,pB,(PV2.agg [iI,iI,(PV1.sl (PC0.m .i64))]),(pp 5),(PV2.agg [(PV1.sl (PC0.i .i64)),iI,PV1.bool]),(PV2.agg [(PV1.sl (PC0.i .i64)),iI,PV1.bool,iI]),(PV2.agg [iI,iI,(PV1.sl (PC0.m .i64))]),(pp 5),(PV2.agg [(PV1.sl (PC0.i .i64)),iI,PV1.bool]),(PV2.agg [(PV1.sl (PC0.i .i64)),iI,PV1.bool,iI]),pB,pB,pB,pB,(PV2.agg [iI,iI,(PV1.sl (PC0.m .i64))]),(pp 5),(PV2.agg [(PV1.sl (PC0.i .i64)),iI,PV1.bool]),(PV2.v (PV1.ptr 1 (some 0) (some 6))),pI,(PV2.agg [(PV1.sl (PC0.i .i64)),iI,PV1.bool,iI]),(PV2.agg [iI,iI,(PV1.sl (PC0.m .i64))]),(pp 5),(PV2.agg [(PV1.sl (PC0.i .i64)),iI,PV1.bool]),(PV2.v (PV1.ptr 1 (some 0) (some 6))),pI,(PV2.agg [(PV1.sl (PC0.i .i64)),iI,PV1.bool,iI]),pB,pB,pB,n_,n_,n_,n_,n_,n_,n_,n_,n_,n_,n_,n_,n_,n_,n_,n_,n_,n_,n_,n_,n_,n_,n_,n_,n_,n_,n_,n_,n_,n_,n_,n_,n_,n_,n_,n_,n_,n_,n_,n_,n_,n_,n_,n_,n_,n_,n_,n_,n_,n_,n_,n_,n_,n_,n_,n_,n_,n_,n_,n_,n_,n_,n_,n_,n_,n_,n_,n_,n_,n_,n_,n_,n_,n_,n_,n_,n_,n_,n_,n_,n_,n_,n_,n_,n_,n_,n_,n_,n_,n_,n_,n_,n_,n_,n_,n_,n_,n_,n_,n_,n_,n_,n_,n_,n_] [(oG [(pK IntKind.u8),(pK IntKind.u8),(pK IntKind.u8),(PV2.v (PV1.sl (PC0.i IntKind.u8)))]),(oG [pI,pI,pI,qM,qR,qR,pI,qR,pI,pB,pI,pI,qR,qM]),(oG [pI,pI,qM]),(oG [pI,pI,qM]),(oG [qR,qR]),(oG [qR,pI,pB,pI])])
def F200_c0 {τ:Type} (l:LS_) (k:Nat→LS_→Option τ) (n:LS_→Option τ):Option τ :=
 T207 []
 (fun j A=>(sw (br (!(gB A 0))
 (k 0 [.B (gB A 0)])
 (br (gtI (((List.length (gL l 9)):Nat):Int) 20)
 (k 0 [.B (gB A 0)])
 (br (gtI (((List.length (gL l 10)):Nat):Int) 20)
 (k 0 [.B (gB A 0)])
 (br (gtI (((List.length (gL l 12)):Nat):Int) 20)
 (k 0 [.B (gB A 0)])
 (ck (((eqM (List.length (gL l 3)) (List.length (gL l 3)))&&true)&&true)
 (T208 [.I (gI l 0),.I (gI l 1),.I (gI l 2),.L (gL l 3)]
 (fun j B=>(sw (ck (((eqM (List.length (gL l 3)) (List.length (gL l 3)))&&true)&&true)
 (T35 [.I (gI l 0),.I (gI l 1),.I (gI l 2),.L (gL l 3)]
 (fun j C=>(sw (ck (((eqM (List.length (gLL B 2)) (List.length (gLL B 2)))&&true)&&((eqM (List.length (gL l 4)) (List.length (gL l 4)))&&true))
 (T209 [.I (gI B 0),.I (gI B 1),.LL (gLL B 2),.L (gL l 4)]
 (fun j D=>(sw (ck (((eqM (List.length (gLL B 2)) (List.length (gLL B 2)))&&true)&&(((eqM (List.length (gL D 0)) (List.length (gL D 0)))&&((eqM (List.length (gL D 1)) (List.length (gL D 1)))&&true))&&true))
 (T210 [.I (gI B 0),.I (gI B 1),.LL (gLL B 2),.L (gL D 0),.L (gL D 1)]
 (fun j E=>(sw (n [.I (gI l 0),.I (gI l 1),.I (gI l 2),.N (List.length (gL l 3)),.L (gL l 3),.N (List.length (gL l 4)),.L (gL l 4),.I (gI l 5),.I (gI l 6),.I (gI l 7),.N (List.length (gLL l 8)),.LL (gLL l 8),.N (List.length (gL l 9)),.L (gL l 9),.N (List.length (gL l 10)),.L (gL l 10),.I (gI l 11),.N (List.length (gL l 12)),.L (gL l 12),.I (gI l 13),.B (gB l 14),.I (gI l 15),.I (gI l 16),.N (List.length (gL l 17)),.L (gL l 17),.N (List.length (gLL l 18)),.LL (gLL l 18),.B false,.B (gB A 0),.B (gB A 0),.B (gB A 0),.B (!(gB A 0)),.B false,.N (List.length (gL l 9)),.L (gL l 9),.I (((List.length (gL l 9)):Nat):Int),.B (gtI (((List.length (gL l 9)):Nat):Int) 20),.B (gtI (((List.length (gL l 9)):Nat):Int) 20),.B false,.N (List.length (gL l 10)),.L (gL l 10),.I (((List.length (gL l 10)):Nat):Int),.B (gtI (((List.length (gL l 10)):Nat):Int) 20),.B (gtI (((List.length (gL l 10)):Nat):Int) 20),.B false,.N (List.length (gL l 12)),.L (gL l 12),.I (((List.length (gL l 12)):Nat):Int),.B (gtI (((List.length (gL l 12)):Nat):Int) 20),.B false,.I (gI l 0),.I (gI l 1),.I (gI l 2),.N (List.length (gL l 3)),.L (gL l 3),.I (gI B 0),.I (gI B 1),.N (List.length (gLL B 2)),.LL (gLL B 2),.I (gI l 0),.I (gI l 1),.I (gI l 2),.N (List.length (gL l 3)),.L (gL l 3),.I (gI C 0),.I (gI C 1),.N (List.length (gLL C 2)),.LL (gLL C 2),.I (gI B 0),.I (gI B 1),.N (List.length (gLL B 2)),.LL (gLL B 2),.N (List.length (gL l 4)),.L (gL l 4),.N (List.length (gL D 0)),.L (gL D 0),.N (List.length (gL D 1)),.L (gL D 1),.I (gI B 0),.I (gI B 1),.N (List.length (gLL B 2)),.LL (gLL B 2),.N (List.length (gL D 0)),.L (gL D 0),.N (List.length (gL D 1)),.L (gL D 1),.N (List.length (gL E 0)),.L (gL E 0),.I (gI E 1),.B (gB E 2),.I (gI E 3),.I (gI l 0),.I (gI l 1),.I (gI l 2),.N (List.length (gL l 3)),.L (gL l 3),.I (gI l 5),.I (gI l 6),.I (gI l 7),.N (List.length (gLL l 8)),.LL (gLL l 8),.N (List.length (gL l 9)),.L (gL l 9),.N (List.length (gL l 10)),.L (gL l 10),.I (gI l 11),.N (List.length (gL l 12)),.L (gL l 12),.I (gI l 13),.B (gB l 14),.I (gI l 15),.I (gI l 16),.N (List.length (gL l 17)),.L (gL l 17),.N (List.length (gLL l 18)),.LL (gLL l 18),.I (gI B 0),.I (gI B 1),.N (List.length (gLL B 2)),.LL (gLL B 2),.I (gI C 0),.I (gI C 1),.N (List.length (gLL C 2)),.LL (gLL C 2),.N (List.length (gL D 0)),.L (gL D 0),.N (List.length (gL D 1)),.L (gL D 1),.N (List.length (gL E 0)),.L (gL E 0),.I (gI E 1),.B (gB E 2),.I (gI E 3)])
 (fun _=>none)) j)))
 (fun _=>none)) j)))
 (fun _=>none)) j)))
 (fun _=>none)) j)))))))
 (fun _=>none)) j)
theorem F200.q0:FEqK F200.O 3 F200.ps F200.sh 7 F200.p7 F200_c0:=by intro τ l κ B;kernel_rfl
def F200_c7 {τ:Type} (l:LS_) (k:Nat→LS_→Option τ) (n:LS_→Option τ):Option τ :=
 ck (((eqM (gN l 118) (List.length (gLL l 119)))&&true)&&(((eqM (gN l 124) (List.length (gL l 125)))&&((eqM (gN l 126) (List.length (gL l 127)))&&true))&&true))
 (T212 [.I (gI l 116),.I (gI l 117),.LL (gLL l 119),.L (gL l 125),.L (gL l 127)]
 (fun j A=>(sw (ck (((eqM (gN l 128) (List.length (gL l 129)))&&true)&&(((eqM (List.length (gL A 0)) (List.length (gL A 0)))&&true)&&true))
 (T211 [.L (gL l 129),.I (gI l 130),.B (gB l 131),.I (gI l 132),.L (gL A 0),.I (gI A 1),.B (gB A 2),.I (gI A 3)]
 (fun j B=>(sw (br (!(gB B 0))
 (k 0 [.B false])
 (ck (((eqM (gN l 118) (List.length (gLL l 119)))&&true)&&(((eqM (gN l 101) (List.length (gL l 102)))&&((eqM (gN l 103) (List.length (gL l 104)))&&true))&&true))
 (T210 [.I (gI l 116),.I (gI l 117),.LL (gLL l 119),.L (gL l 102),.L (gL l 104)]
 (fun j C=>(sw (ck (((eqM (gN l 118) (List.length (gLL l 119)))&&true)&&(((eqM (gN l 101) (List.length (gL l 102)))&&((eqM (gN l 103) (List.length (gL l 104)))&&true))&&true))
 (T212 [.I (gI l 116),.I (gI l 117),.LL (gLL l 119),.L (gL l 102),.L (gL l 104)]
 (fun j D=>(sw (ck (((eqM (List.length (gL C 0)) (List.length (gL C 0)))&&true)&&(((eqM (List.length (gL D 0)) (List.length (gL D 0)))&&true)&&true))
 (T211 [.L (gL C 0),.I (gI C 1),.B (gB C 2),.I (gI C 3),.L (gL D 0),.I (gI D 1),.B (gB D 2),.I (gI D 3)]
 (fun j E=>(sw (br (!(gB E 0))
 (k 0 [.B false])
 (ck (((eqM (gN l 122) (List.length (gLL l 123)))&&true)&&(((eqM (gN l 101) (List.length (gL l 102)))&&((eqM (gN l 103) (List.length (gL l 104)))&&true))&&true))
 (T210 [.I (gI l 120),.I (gI l 121),.LL (gLL l 123),.L (gL l 102),.L (gL l 104)]
 (fun j F=>(sw (ck (((eqM (gN l 122) (List.length (gLL l 123)))&&true)&&(((eqM (gN l 101) (List.length (gL l 102)))&&((eqM (gN l 103) (List.length (gL l 104)))&&true))&&true))
 (T212 [.I (gI l 120),.I (gI l 121),.LL (gLL l 123),.L (gL l 102),.L (gL l 104)]
 (fun j G=>(sw (ck (((eqM (List.length (gL F 0)) (List.length (gL F 0)))&&true)&&(((eqM (List.length (gL G 0)) (List.length (gL G 0)))&&true)&&true))
 (T211 [.L (gL F 0),.I (gI F 1),.B (gB F 2),.I (gI F 3),.L (gL G 0),.I (gI G 1),.B (gB G 2),.I (gI G 3)]
 (fun j H=>(sw (br (!(gB H 0))
 (k 0 [.B false])
 (ck (((eqM (gN l 118) (List.length (gLL l 119)))&&true)&&(((eqM (gN l 128) (List.length (gL l 129)))&&true)&&true))
 (T213 [.I (gI l 116),.I (gI l 117),.LL (gLL l 119),.L (gL l 129),.I (gI l 130),.B (gB l 131)]
 (fun j M=>(sw (ck (((eqM (gN l 118) (List.length (gLL l 119)))&&true)&&(((eqM (gN l 128) (List.length (gL l 129)))&&true)&&true))
 (T214 [.I (gI l 116),.I (gI l 117),.LL (gLL l 119),.L (gL l 129),.I (gI l 130),.B (gB l 131)]
 (fun j N=>(sw (ck (((eqM (List.length (gL M 0)) (List.length (gL M 0)))&&true)&&(((eqM (List.length (gL N 0)) (List.length (gL N 0)))&&true)&&true))
 (T211 [.L (gL M 0),.I (gI M 1),.B (gB M 2),.I (gI M 3),.L (gL N 0),.I (gI N 1),.B (gB N 2),.I (gI N 3)]
 (fun j Q=>(sw (br (!(gB Q 0))
 (k 0 [.B false])
 (ck (((eqM (gN l 118) (List.length (gLL l 119)))&&true)&&(((eqM (gN l 128) (List.length (gL l 129)))&&true)&&true))
 (T215 [.I (gI l 116),.I (gI l 117),.LL (gLL l 119),.L (gL l 129),.I (gI l 130),.B (gB l 131),.I (gI l 105)]
 (fun j S=>(sw (ck (((eqM (gN l 118) (List.length (gLL l 119)))&&true)&&(((eqM (gN l 128) (List.length (gL l 129)))&&true)&&true))
 (T216 [.I (gI l 116),.I (gI l 117),.LL (gLL l 119),.L (gL l 129),.I (gI l 130),.B (gB l 131),.I (gI l 105)]
 (fun j T=>(sw (ck (((eqM (List.length (gL S 0)) (List.length (gL S 0)))&&true)&&(((eqM (List.length (gL T 0)) (List.length (gL T 0)))&&true)&&true))
 (T211 [.L (gL S 0),.I (gI S 1),.B (gB S 2),.I (gI S 3),.L (gL T 0),.I (gI T 1),.B (gB T 2),.I (gI T 3)]
 (fun j U=>(sw (br (!(gB U 0))
 (k 0 [.B false])
 (n [.I (gI l 0),.I (gI l 1),.I (gI l 2),.N (gN l 3),.L (gL l 4),.N (gN l 5),.L (gL l 6),.I (gI l 7),.I (gI l 8),.I (gI l 9),.N (gN l 10),.LL (gLL l 11),.N (gN l 12),.L (gL l 13),.N (gN l 14),.L (gL l 15),.I (gI l 16),.N (gN l 17),.L (gL l 18),.I (gI l 19),.B (gB l 20),.I (gI l 21),.I (gI l 22),.N (gN l 23),.L (gL l 24),.N (gN l 25),.LL (gLL l 26),.B (gB l 27),.B (gB l 28),.B (gB l 29),.B (gB l 30),.B (gB l 31),.B (gB l 32),.N (gN l 33),.L (gL l 34),.I (gI l 35),.B (gB l 36),.B (gB l 37),.B (gB l 38),.N (gN l 39),.L (gL l 40),.I (gI l 41),.B (gB l 42),.B (gB l 43),.B (gB l 44),.N (gN l 45),.L (gL l 46),.I (gI l 47),.B (gB l 48),.B (gB l 49),.I (gI l 50),.I (gI l 51),.I (gI l 52),.N (gN l 53),.L (gL l 54),.I (gI l 55),.I (gI l 56),.N (gN l 57),.LL (gLL l 58),.I (gI l 59),.I (gI l 60),.I (gI l 61),.N (gN l 62),.L (gL l 63),.I (gI l 64),.I (gI l 65),.N (gN l 66),.LL (gLL l 67),.I (gI l 68),.I (gI l 69),.N (gN l 70),.LL (gLL l 71),.N (gN l 72),.L (gL l 73),.N (gN l 74),.L (gL l 75),.N (gN l 76),.L (gL l 77),.I (gI l 78),.I (gI l 79),.N (gN l 80),.LL (gLL l 81),.N (gN l 82),.L (gL l 83),.N (gN l 84),.L (gL l 85),.N (gN l 86),.L (gL l 87),.I (gI l 88),.B (gB l 89),.I (gI l 90),.N (gN l 128),.L (gL l 129),.I (gI l 130),.B (gB l 131),.I (gI l 132),.I (gI l 116),.I (gI l 117),.N (gN l 118),.LL (gLL l 119),.N (gN l 124),.L (gL l 125),.N (gN l 126),.L (gL l 127),.N (List.length (gL A 0)),.L (gL A 0),.I (gI A 1),.B (gB A 2),.I (gI A 3),.B (gB B 0),.B (!(gB B 0)),.B false,.I (gI l 116),.I (gI l 117),.N (gN l 118),.LL (gLL l 119),.N (gN l 101),.L (gL l 102),.N (gN l 103),.L (gL l 104),.N (List.length (gL C 0)),.L (gL C 0),.I (gI C 1),.B (gB C 2),.I (gI C 3),.I (gI l 116),.I (gI l 117),.N (gN l 118),.LL (gLL l 119),.N (gN l 101),.L (gL l 102),.N (gN l 103),.L (gL l 104),.N (List.length (gL D 0)),.L (gL D 0),.I (gI D 1),.B (gB D 2),.I (gI D 3),.B (gB E 0),.B (!(gB E 0)),.B (!(gB E 0)),.B false,.I (gI l 120),.I (gI l 121),.N (gN l 122),.LL (gLL l 123),.N (gN l 101),.L (gL l 102),.N (gN l 103),.L (gL l 104),.N (List.length (gL F 0)),.L (gL F 0),.I (gI F 1),.B (gB F 2),.I (gI F 3),.I (gI l 120),.I (gI l 121),.N (gN l 122),.LL (gLL l 123),.N (gN l 101),.L (gL l 102),.N (gN l 103),.L (gL l 104),.N (List.length (gL G 0)),.L (gL G 0),.I (gI G 1),.B (gB G 2),.I (gI G 3),.B (gB H 0),.B (!(gB H 0)),.B (!(gB H 0)),.B false,.I (gI l 116),.I (gI l 117),.N (gN l 118),.LL (gLL l 119),.N (gN l 128),.L (gL l 129),.I (gI l 130),.B (gB l 131),.N (List.length (gL M 0)),.L (gL M 0),.I (gI M 1),.B (gB M 2),.I (gI M 3),.I (gI l 116),.I (gI l 117),.N (gN l 118),.LL (gLL l 119),.N (gN l 128),.L (gL l 129),.I (gI l 130),.B (gB l 131),.N (List.length (gL N 0)),.L (gL N 0),.I (gI N 1),.B (gB N 2),.I (gI N 3),.B (gB Q 0),.B (!(gB Q 0)),.B (!(gB Q 0)),.B false,.I (gI l 116),.I (gI l 117),.N (gN l 118),.LL (gLL l 119),.N (gN l 128),.L (gL l 129),.I (gI l 130),.B (gB l 131),.I (gI l 105),.N (List.length (gL S 0)),.L (gL S 0),.I (gI S 1),.B (gB S 2),.I (gI S 3),.I (gI l 116),.I (gI l 117),.N (gN l 118),.LL (gLL l 119),.N (gN l 128),.L (gL l 129),.I (gI l 130),.B (gB l 131),.I (gI l 105),.N (List.length (gL T 0)),.L (gL T 0),.I (gI T 1),.B (gB T 2),.I (gI T 3),.B (gB U 0),.B (!(gB U 0)),.B false,.I (gI l 91),.I (gI l 92),.I (gI l 93),.N (gN l 94),.L (gL l 95),.I (gI l 96),.I (gI l 97),.I (gI l 98),.N (gN l 99),.LL (gLL l 100),.N (gN l 101),.L (gL l 102),.N (gN l 103),.L (gL l 104),.I (gI l 105),.N (gN l 106),.L (gL l 107),.I (gI l 108),.B (gB l 109),.I (gI l 110),.I (gI l 111),.N (gN l 112),.L (gL l 113),.N (gN l 114),.LL (gLL l 115),.I (gI l 116),.I (gI l 117),.N (gN l 118),.LL (gLL l 119),.I (gI l 120),.I (gI l 121),.N (gN l 122),.LL (gLL l 123),.N (gN l 124),.L (gL l 125),.N (gN l 126),.L (gL l 127),.N (gN l 128),.L (gL l 129),.I (gI l 130),.B (gB l 131),.I (gI l 132)]))
 (fun _=>none)) j)))
 (fun _=>none)) j)))
 (fun _=>none)) j))))
 (fun _=>none)) j)))
 (fun _=>none)) j)))
 (fun _=>none)) j))))
 (fun _=>none)) j)))
 (fun _=>none)) j)))
 (fun _=>none)) j))))
 (fun _=>none)) j)))
 (fun _=>none)) j)))
 (fun _=>none)) j))))
 (fun _=>none)) j)))
 (fun _=>none)) j))
theorem F200.q7:MEqK F200.O 3 F200.sh 7 F200.p7 1 F200.p8 F200_c7:=by intro τ l κ B;kernel_rfl
def F200_c8 {τ:Type} (l:LS_) (k:Nat→LS_→Option τ):Option τ :=
 ck ((eqM (gN l 248) (List.length (gL l 249)))&&true)
 (T31 [.I 2,.I (gI l 259),.L (gL l 249)]
 (fun j A=>(sw (br (gB A 0)
 (br ((wr .i64 (((@BitVec.toNat 64 (@HAnd.hAnd (BitVec (IntKind.bits .i64)) (BitVec (IntKind.bits .i64)) (BitVec (IntKind.bits .i64)) (@instHAndOfAndOp (BitVec (IntKind.bits .i64)) (@BitVec.instAndOp (IntKind.bits .i64))) (BitVec.ofInt 64 (gI l 238)) (BitVec.ofInt (IntKind.bits .i64) 1))):Nat):Int))==1)
 (ck (((eqM (gN l 260) (List.length (gLL l 261)))&&true)&&((eqM (gN l 248) (List.length (gL l 249)))&&true))
 (T217 [.I (gI l 258),.I (gI l 259),.LL (gLL l 261),.L (gL l 249)]
 (fun j B=>(sw (ck (((eqM (gN l 260) (List.length (gLL l 261)))&&true)&&(((eqM (gN l 248) (List.length (gL l 249)))&&true)&&true))
 (T213 [.I (gI l 258),.I (gI l 259),.LL (gLL l 261),.L (gL l 249),.I (gI l 250),.B (gB B 0)]
 (fun j C=>(sw (ck (((eqM (gN l 260) (List.length (gLL l 261)))&&true)&&(((eqM (gN l 248) (List.length (gL l 249)))&&true)&&true))
 (T214 [.I (gI l 258),.I (gI l 259),.LL (gLL l 261),.L (gL l 249),.I (gI l 250),.B (gB B 0)]
 (fun j D=>(sw (ck (((eqM (List.length (gL C 0)) (List.length (gL C 0)))&&true)&&(((eqM (List.length (gL D 0)) (List.length (gL D 0)))&&true)&&true))
 (T211 [.L (gL C 0),.I (gI C 1),.B (gB C 2),.I (gI C 3),.L (gL D 0),.I (gI D 1),.B (gB D 2),.I (gI D 3)]
 (fun j E=>(sw (br (!(gB E 0))
 (k 0 [.B false])
 (ck (((eqM (gN l 260) (List.length (gLL l 261)))&&true)&&(((eqM (gN l 248) (List.length (gL l 249)))&&true)&&true))
 (T215 [.I (gI l 258),.I (gI l 259),.LL (gLL l 261),.L (gL l 249),.I (gI l 250),.B (gB B 0),.I (gI l 247)]
 (fun j F=>(sw (ck (((eqM (gN l 260) (List.length (gLL l 261)))&&true)&&(((eqM (gN l 248) (List.length (gL l 249)))&&true)&&true))
 (T216 [.I (gI l 258),.I (gI l 259),.LL (gLL l 261),.L (gL l 249),.I (gI l 250),.B (gB B 0),.I (gI l 247)]
 (fun j G=>(sw (ck (((eqM (List.length (gL F 0)) (List.length (gL F 0)))&&true)&&(((eqM (List.length (gL G 0)) (List.length (gL G 0)))&&true)&&true))
 (T211 [.L (gL F 0),.I (gI F 1),.B (gB F 2),.I (gI F 3),.L (gL G 0),.I (gI G 1),.B (gB G 2),.I (gI G 3)]
 (fun j H=>(sw (br (!(gB H 0))
 (k 0 [.B false])
 (ck (((eqM (gN l 264) (List.length (gLL l 265)))&&true)&&(((eqM (gN l 248) (List.length (gL l 249)))&&true)&&true))
 (T213 [.I (gI l 262),.I (gI l 263),.LL (gLL l 265),.L (gL l 249),.I (gI l 250),.B (gB B 0)]
 (fun j M=>(sw (ck (((eqM (gN l 264) (List.length (gLL l 265)))&&true)&&(((eqM (gN l 248) (List.length (gL l 249)))&&true)&&true))
 (T214 [.I (gI l 262),.I (gI l 263),.LL (gLL l 265),.L (gL l 249),.I (gI l 250),.B (gB B 0)]
 (fun j N=>(sw (ck (((eqM (List.length (gL M 0)) (List.length (gL M 0)))&&true)&&(((eqM (List.length (gL N 0)) (List.length (gL N 0)))&&true)&&true))
 (T211 [.L (gL M 0),.I (gI M 1),.B (gB M 2),.I (gI M 3),.L (gL N 0),.I (gI N 1),.B (gB N 2),.I (gI N 3)]
 (fun j Q=>(sw (br (!(gB Q 0))
 (k 0 [.B false])
 (ck (((eqM (gN l 260) (List.length (gLL l 261)))&&true)&&(((eqM (gN l 266) (List.length (gL l 267)))&&((eqM (gN l 268) (List.length (gL l 269)))&&true))&&(((eqM (gN l 248) (List.length (gL l 249)))&&true)&&true)))
 (T219 [.I (gI l 258),.I (gI l 259),.LL (gLL l 261),.L (gL l 267),.L (gL l 269),.L (gL l 249),.I (gI l 250),.B (gB B 0)]
 (fun j S=>(sw (ck (((eqM (gN l 260) (List.length (gLL l 261)))&&true)&&(((eqM (gN l 266) (List.length (gL l 267)))&&((eqM (gN l 268) (List.length (gL l 269)))&&true))&&(((eqM (gN l 248) (List.length (gL l 249)))&&true)&&true)))
 (T220 [.I (gI l 258),.I (gI l 259),.LL (gLL l 261),.L (gL l 267),.L (gL l 269),.L (gL l 249),.I (gI l 250),.B (gB B 0)]
 (fun j T=>(sw (ck (((eqM (List.length (gL S 2)) (List.length (gL S 2)))&&((eqM (List.length (gLL S 3)) (List.length (gLL S 3)))&&true))&&(((eqM (List.length (gL T 2)) (List.length (gL T 2)))&&((eqM (List.length (gLL T 3)) (List.length (gLL T 3)))&&true))&&true))
 (T218 [.I (gI S 0),.I (gI S 1),.L (gL S 2),.LL (gLL S 3),.I (gI S 4),.I (gI T 0),.I (gI T 1),.L (gL T 2),.LL (gLL T 3),.I (gI T 4)]
 (fun j U=>(sw (br (!(gB U 0))
 (k 0 [.B false])
 (ck (((eqM (gN l 260) (List.length (gLL l 261)))&&true)&&(((eqM (gN l 270) (List.length (gL l 271)))&&true)&&true))
 (T215 [.I (gI l 258),.I (gI l 259),.LL (gLL l 261),.L (gL l 271),.I (gI l 272),.B (gB l 273),.I 30]
 (fun j V=>(sw (br (gB l 28)
 (ck (((eqM (gN l 260) (List.length (gLL l 261)))&&true)&&(((eqM (gN l 266) (List.length (gL l 267)))&&((eqM (gN l 268) (List.length (gL l 269)))&&true))&&(((eqM (List.length (gL V 0)) (List.length (gL V 0)))&&true)&&true)))
 (T219 [.I (gI l 258),.I (gI l 259),.LL (gLL l 261),.L (gL l 267),.L (gL l 269),.L (gL V 0),.I (gI V 1),.B (gB V 2)]
 (fun j W=>(sw (ck (((eqM (gN l 260) (List.length (gLL l 261)))&&true)&&(((eqM (gN l 266) (List.length (gL l 267)))&&((eqM (gN l 268) (List.length (gL l 269)))&&true))&&(((eqM (List.length (gL V 0)) (List.length (gL V 0)))&&true)&&true)))
 (T220 [.I (gI l 258),.I (gI l 259),.LL (gLL l 261),.L (gL l 267),.L (gL l 269),.L (gL V 0),.I (gI V 1),.B (gB V 2)]
 (fun j X=>(sw (ck (((eqM (List.length (gL W 2)) (List.length (gL W 2)))&&((eqM (List.length (gLL W 3)) (List.length (gLL W 3)))&&true))&&(((eqM (List.length (gL X 2)) (List.length (gL X 2)))&&((eqM (List.length (gLL X 3)) (List.length (gLL X 3)))&&true))&&true))
 (T218 [.I (gI W 0),.I (gI W 1),.L (gL W 2),.LL (gLL W 3),.I (gI W 4),.I (gI X 0),.I (gI X 1),.L (gL X 2),.LL (gLL X 3),.I (gI X 4)]
 (fun j Y=>(sw (br (gB Y 0)
 (ck (((eqM (gN l 260) (List.length (gLL l 261)))&&true)&&(((eqM (gN l 243) (List.length (gL l 244)))&&((eqM (gN l 245) (List.length (gL l 246)))&&true))&&(((eqM (List.length (gL V 0)) (List.length (gL V 0)))&&true)&&true)))
 (T219 [.I (gI l 258),.I (gI l 259),.LL (gLL l 261),.L (gL l 244),.L (gL l 246),.L (gL V 0),.I (gI V 1),.B (gB V 2)]
 (fun j Z=>(sw (ck (((eqM (gN l 260) (List.length (gLL l 261)))&&true)&&(((eqM (gN l 243) (List.length (gL l 244)))&&((eqM (gN l 245) (List.length (gL l 246)))&&true))&&(((eqM (List.length (gL V 0)) (List.length (gL V 0)))&&true)&&true)))
 (T220 [.I (gI l 258),.I (gI l 259),.LL (gLL l 261),.L (gL l 244),.L (gL l 246),.L (gL V 0),.I (gI V 1),.B (gB V 2)]
 (fun j z19=>(sw (ck (((eqM (List.length (gL Z 2)) (List.length (gL Z 2)))&&((eqM (List.length (gLL Z 3)) (List.length (gLL Z 3)))&&true))&&(((eqM (List.length (gL z19 2)) (List.length (gL z19 2)))&&((eqM (List.length (gLL z19 3)) (List.length (gLL z19 3)))&&true))&&true))
 (T218 [.I (gI Z 0),.I (gI Z 1),.L (gL Z 2),.LL (gLL Z 3),.I (gI Z 4),.I (gI z19 0),.I (gI z19 1),.L (gL z19 2),.LL (gLL z19 3),.I (gI z19 4)]
 (fun j z20=>(sw (br (gB z20 0)
 (ck (((eqM (gN l 264) (List.length (gLL l 265)))&&true)&&(((eqM (gN l 243) (List.length (gL l 244)))&&((eqM (gN l 245) (List.length (gL l 246)))&&true))&&(((eqM (gN l 248) (List.length (gL l 249)))&&true)&&true)))
 (T219 [.I (gI l 262),.I (gI l 263),.LL (gLL l 265),.L (gL l 244),.L (gL l 246),.L (gL l 249),.I (gI l 250),.B (gB B 0)]
 (fun j z21=>(sw (ck (((eqM (gN l 264) (List.length (gLL l 265)))&&true)&&(((eqM (gN l 243) (List.length (gL l 244)))&&((eqM (gN l 245) (List.length (gL l 246)))&&true))&&(((eqM (gN l 248) (List.length (gL l 249)))&&true)&&true)))
 (T220 [.I (gI l 262),.I (gI l 263),.LL (gLL l 265),.L (gL l 244),.L (gL l 246),.L (gL l 249),.I (gI l 250),.B (gB B 0)]
 (fun j z22=>(sw (ck (((eqM (List.length (gL z21 2)) (List.length (gL z21 2)))&&((eqM (List.length (gLL z21 3)) (List.length (gLL z21 3)))&&true))&&(((eqM (List.length (gL z22 2)) (List.length (gL z22 2)))&&((eqM (List.length (gLL z22 3)) (List.length (gLL z22 3)))&&true))&&true))
 (T218 [.I (gI z21 0),.I (gI z21 1),.L (gL z21 2),.LL (gLL z21 3),.I (gI z21 4),.I (gI z22 0),.I (gI z22 1),.L (gL z22 2),.LL (gLL z22 3),.I (gI z22 4)]
 (fun j z23=>(sw (k 0 [.B (gB z23 0)])
 (fun _=>none)) j)))
 (fun _=>none)) j)))
 (fun _=>none)) j)))
 (k 0 [.B false]))
 (fun _=>none)) j)))
 (fun _=>none)) j)))
 (fun _=>none)) j)))
 (k 0 [.B false]))
 (fun _=>none)) j)))
 (fun _=>none)) j)))
 (fun _=>none)) j)))
 (k 0 [.B false]))
 (fun _=>none)) j))))
 (fun _=>none)) j)))
 (fun _=>none)) j)))
 (fun _=>none)) j))))
 (fun _=>none)) j)))
 (fun _=>none)) j)))
 (fun _=>none)) j))))
 (fun _=>none)) j)))
 (fun _=>none)) j)))
 (fun _=>none)) j))))
 (fun _=>none)) j)))
 (fun _=>none)) j)))
 (fun _=>none)) j)))
 (fun _=>none)) j)))
 (ck (((eqM (gN l 260) (List.length (gLL l 261)))&&true)&&(((eqM (gN l 248) (List.length (gL l 249)))&&true)&&true))
 (T213 [.I (gI l 258),.I (gI l 259),.LL (gLL l 261),.L (gL l 249),.I (gI l 250),.B (gB l 251)]
 (fun j B=>(sw (ck (((eqM (gN l 260) (List.length (gLL l 261)))&&true)&&(((eqM (gN l 248) (List.length (gL l 249)))&&true)&&true))
 (T214 [.I (gI l 258),.I (gI l 259),.LL (gLL l 261),.L (gL l 249),.I (gI l 250),.B (gB l 251)]
 (fun j C=>(sw (ck (((eqM (List.length (gL B 0)) (List.length (gL B 0)))&&true)&&(((eqM (List.length (gL C 0)) (List.length (gL C 0)))&&true)&&true))
 (T211 [.L (gL B 0),.I (gI B 1),.B (gB B 2),.I (gI B 3),.L (gL C 0),.I (gI C 1),.B (gB C 2),.I (gI C 3)]
 (fun j D=>(sw (br (!(gB D 0))
 (k 0 [.B false])
 (ck (((eqM (gN l 260) (List.length (gLL l 261)))&&true)&&(((eqM (gN l 248) (List.length (gL l 249)))&&true)&&true))
 (T215 [.I (gI l 258),.I (gI l 259),.LL (gLL l 261),.L (gL l 249),.I (gI l 250),.B (gB l 251),.I (gI l 247)]
 (fun j E=>(sw (ck (((eqM (gN l 260) (List.length (gLL l 261)))&&true)&&(((eqM (gN l 248) (List.length (gL l 249)))&&true)&&true))
 (T216 [.I (gI l 258),.I (gI l 259),.LL (gLL l 261),.L (gL l 249),.I (gI l 250),.B (gB l 251),.I (gI l 247)]
 (fun j F=>(sw (ck (((eqM (List.length (gL E 0)) (List.length (gL E 0)))&&true)&&(((eqM (List.length (gL F 0)) (List.length (gL F 0)))&&true)&&true))
 (T211 [.L (gL E 0),.I (gI E 1),.B (gB E 2),.I (gI E 3),.L (gL F 0),.I (gI F 1),.B (gB F 2),.I (gI F 3)]
 (fun j G=>(sw (br (!(gB G 0))
 (k 0 [.B false])
 (ck (((eqM (gN l 264) (List.length (gLL l 265)))&&true)&&(((eqM (gN l 248) (List.length (gL l 249)))&&true)&&true))
 (T213 [.I (gI l 262),.I (gI l 263),.LL (gLL l 265),.L (gL l 249),.I (gI l 250),.B (gB l 251)]
 (fun j H=>(sw (ck (((eqM (gN l 264) (List.length (gLL l 265)))&&true)&&(((eqM (gN l 248) (List.length (gL l 249)))&&true)&&true))
 (T214 [.I (gI l 262),.I (gI l 263),.LL (gLL l 265),.L (gL l 249),.I (gI l 250),.B (gB l 251)]
 (fun j M=>(sw (ck (((eqM (List.length (gL H 0)) (List.length (gL H 0)))&&true)&&(((eqM (List.length (gL M 0)) (List.length (gL M 0)))&&true)&&true))
 (T211 [.L (gL H 0),.I (gI H 1),.B (gB H 2),.I (gI H 3),.L (gL M 0),.I (gI M 1),.B (gB M 2),.I (gI M 3)]
 (fun j N=>(sw (br (!(gB N 0))
 (k 0 [.B false])
 (ck (((eqM (gN l 260) (List.length (gLL l 261)))&&true)&&(((eqM (gN l 266) (List.length (gL l 267)))&&((eqM (gN l 268) (List.length (gL l 269)))&&true))&&(((eqM (gN l 248) (List.length (gL l 249)))&&true)&&true)))
 (T219 [.I (gI l 258),.I (gI l 259),.LL (gLL l 261),.L (gL l 267),.L (gL l 269),.L (gL l 249),.I (gI l 250),.B (gB l 251)]
 (fun j Q=>(sw (ck (((eqM (gN l 260) (List.length (gLL l 261)))&&true)&&(((eqM (gN l 266) (List.length (gL l 267)))&&((eqM (gN l 268) (List.length (gL l 269)))&&true))&&(((eqM (gN l 248) (List.length (gL l 249)))&&true)&&true)))
 (T220 [.I (gI l 258),.I (gI l 259),.LL (gLL l 261),.L (gL l 267),.L (gL l 269),.L (gL l 249),.I (gI l 250),.B (gB l 251)]
 (fun j S=>(sw (ck (((eqM (List.length (gL Q 2)) (List.length (gL Q 2)))&&((eqM (List.length (gLL Q 3)) (List.length (gLL Q 3)))&&true))&&(((eqM (List.length (gL S 2)) (List.length (gL S 2)))&&((eqM (List.length (gLL S 3)) (List.length (gLL S 3)))&&true))&&true))
 (T218 [.I (gI Q 0),.I (gI Q 1),.L (gL Q 2),.LL (gLL Q 3),.I (gI Q 4),.I (gI S 0),.I (gI S 1),.L (gL S 2),.LL (gLL S 3),.I (gI S 4)]
 (fun j T=>(sw (br (!(gB T 0))
 (k 0 [.B false])
 (ck (((eqM (gN l 260) (List.length (gLL l 261)))&&true)&&(((eqM (gN l 270) (List.length (gL l 271)))&&true)&&true))
 (T215 [.I (gI l 258),.I (gI l 259),.LL (gLL l 261),.L (gL l 271),.I (gI l 272),.B (gB l 273),.I 30]
 (fun j U=>(sw (br (gB l 28)
 (ck (((eqM (gN l 260) (List.length (gLL l 261)))&&true)&&(((eqM (gN l 266) (List.length (gL l 267)))&&((eqM (gN l 268) (List.length (gL l 269)))&&true))&&(((eqM (List.length (gL U 0)) (List.length (gL U 0)))&&true)&&true)))
 (T219 [.I (gI l 258),.I (gI l 259),.LL (gLL l 261),.L (gL l 267),.L (gL l 269),.L (gL U 0),.I (gI U 1),.B (gB U 2)]
 (fun j V=>(sw (ck (((eqM (gN l 260) (List.length (gLL l 261)))&&true)&&(((eqM (gN l 266) (List.length (gL l 267)))&&((eqM (gN l 268) (List.length (gL l 269)))&&true))&&(((eqM (List.length (gL U 0)) (List.length (gL U 0)))&&true)&&true)))
 (T220 [.I (gI l 258),.I (gI l 259),.LL (gLL l 261),.L (gL l 267),.L (gL l 269),.L (gL U 0),.I (gI U 1),.B (gB U 2)]
 (fun j W=>(sw (ck (((eqM (List.length (gL V 2)) (List.length (gL V 2)))&&((eqM (List.length (gLL V 3)) (List.length (gLL V 3)))&&true))&&(((eqM (List.length (gL W 2)) (List.length (gL W 2)))&&((eqM (List.length (gLL W 3)) (List.length (gLL W 3)))&&true))&&true))
 (T218 [.I (gI V 0),.I (gI V 1),.L (gL V 2),.LL (gLL V 3),.I (gI V 4),.I (gI W 0),.I (gI W 1),.L (gL W 2),.LL (gLL W 3),.I (gI W 4)]
 (fun j X=>(sw (br (gB X 0)
 (ck (((eqM (gN l 260) (List.length (gLL l 261)))&&true)&&(((eqM (gN l 243) (List.length (gL l 244)))&&((eqM (gN l 245) (List.length (gL l 246)))&&true))&&(((eqM (List.length (gL U 0)) (List.length (gL U 0)))&&true)&&true)))
 (T219 [.I (gI l 258),.I (gI l 259),.LL (gLL l 261),.L (gL l 244),.L (gL l 246),.L (gL U 0),.I (gI U 1),.B (gB U 2)]
 (fun j Y=>(sw (ck (((eqM (gN l 260) (List.length (gLL l 261)))&&true)&&(((eqM (gN l 243) (List.length (gL l 244)))&&((eqM (gN l 245) (List.length (gL l 246)))&&true))&&(((eqM (List.length (gL U 0)) (List.length (gL U 0)))&&true)&&true)))
 (T220 [.I (gI l 258),.I (gI l 259),.LL (gLL l 261),.L (gL l 244),.L (gL l 246),.L (gL U 0),.I (gI U 1),.B (gB U 2)]
 (fun j Z=>(sw (ck (((eqM (List.length (gL Y 2)) (List.length (gL Y 2)))&&((eqM (List.length (gLL Y 3)) (List.length (gLL Y 3)))&&true))&&(((eqM (List.length (gL Z 2)) (List.length (gL Z 2)))&&((eqM (List.length (gLL Z 3)) (List.length (gLL Z 3)))&&true))&&true))
 (T218 [.I (gI Y 0),.I (gI Y 1),.L (gL Y 2),.LL (gLL Y 3),.I (gI Y 4),.I (gI Z 0),.I (gI Z 1),.L (gL Z 2),.LL (gLL Z 3),.I (gI Z 4)]
 (fun j z19=>(sw (br (gB z19 0)
 (ck (((eqM (gN l 264) (List.length (gLL l 265)))&&true)&&(((eqM (gN l 243) (List.length (gL l 244)))&&((eqM (gN l 245) (List.length (gL l 246)))&&true))&&(((eqM (gN l 248) (List.length (gL l 249)))&&true)&&true)))
 (T219 [.I (gI l 262),.I (gI l 263),.LL (gLL l 265),.L (gL l 244),.L (gL l 246),.L (gL l 249),.I (gI l 250),.B (gB l 251)]
 (fun j z20=>(sw (ck (((eqM (gN l 264) (List.length (gLL l 265)))&&true)&&(((eqM (gN l 243) (List.length (gL l 244)))&&((eqM (gN l 245) (List.length (gL l 246)))&&true))&&(((eqM (gN l 248) (List.length (gL l 249)))&&true)&&true)))
 (T220 [.I (gI l 262),.I (gI l 263),.LL (gLL l 265),.L (gL l 244),.L (gL l 246),.L (gL l 249),.I (gI l 250),.B (gB l 251)]
 (fun j z21=>(sw (ck (((eqM (List.length (gL z20 2)) (List.length (gL z20 2)))&&((eqM (List.length (gLL z20 3)) (List.length (gLL z20 3)))&&true))&&(((eqM (List.length (gL z21 2)) (List.length (gL z21 2)))&&((eqM (List.length (gLL z21 3)) (List.length (gLL z21 3)))&&true))&&true))
 (T218 [.I (gI z20 0),.I (gI z20 1),.L (gL z20 2),.LL (gLL z20 3),.I (gI z20 4),.I (gI z21 0),.I (gI z21 1),.L (gL z21 2),.LL (gLL z21 3),.I (gI z21 4)]
 (fun j z22=>(sw (k 0 [.B (gB z22 0)])
 (fun _=>none)) j)))
 (fun _=>none)) j)))
 (fun _=>none)) j)))
 (k 0 [.B false]))
 (fun _=>none)) j)))
 (fun _=>none)) j)))
 (fun _=>none)) j)))
 (k 0 [.B false]))
 (fun _=>none)) j)))
 (fun _=>none)) j)))
 (fun _=>none)) j)))
 (k 0 [.B false]))
 (fun _=>none)) j))))
 (fun _=>none)) j)))
 (fun _=>none)) j)))
 (fun _=>none)) j))))
 (fun _=>none)) j)))
 (fun _=>none)) j)))
 (fun _=>none)) j))))
 (fun _=>none)) j)))
 (fun _=>none)) j)))
 (fun _=>none)) j))))
 (fun _=>none)) j)))
 (fun _=>none)) j)))
 (fun _=>none)) j))))
 (ck (((eqM (gN l 260) (List.length (gLL l 261)))&&true)&&(((eqM (gN l 248) (List.length (gL l 249)))&&true)&&true))
 (T213 [.I (gI l 258),.I (gI l 259),.LL (gLL l 261),.L (gL l 249),.I (gI l 250),.B (gB l 251)]
 (fun j B=>(sw (ck (((eqM (gN l 260) (List.length (gLL l 261)))&&true)&&(((eqM (gN l 248) (List.length (gL l 249)))&&true)&&true))
 (T214 [.I (gI l 258),.I (gI l 259),.LL (gLL l 261),.L (gL l 249),.I (gI l 250),.B (gB l 251)]
 (fun j C=>(sw (ck (((eqM (List.length (gL B 0)) (List.length (gL B 0)))&&true)&&(((eqM (List.length (gL C 0)) (List.length (gL C 0)))&&true)&&true))
 (T211 [.L (gL B 0),.I (gI B 1),.B (gB B 2),.I (gI B 3),.L (gL C 0),.I (gI C 1),.B (gB C 2),.I (gI C 3)]
 (fun j D=>(sw (br (!(gB D 0))
 (k 0 [.B false])
 (ck (((eqM (gN l 260) (List.length (gLL l 261)))&&true)&&(((eqM (gN l 248) (List.length (gL l 249)))&&true)&&true))
 (T215 [.I (gI l 258),.I (gI l 259),.LL (gLL l 261),.L (gL l 249),.I (gI l 250),.B (gB l 251),.I (gI l 247)]
 (fun j E=>(sw (ck (((eqM (gN l 260) (List.length (gLL l 261)))&&true)&&(((eqM (gN l 248) (List.length (gL l 249)))&&true)&&true))
 (T216 [.I (gI l 258),.I (gI l 259),.LL (gLL l 261),.L (gL l 249),.I (gI l 250),.B (gB l 251),.I (gI l 247)]
 (fun j F=>(sw (ck (((eqM (List.length (gL E 0)) (List.length (gL E 0)))&&true)&&(((eqM (List.length (gL F 0)) (List.length (gL F 0)))&&true)&&true))
 (T211 [.L (gL E 0),.I (gI E 1),.B (gB E 2),.I (gI E 3),.L (gL F 0),.I (gI F 1),.B (gB F 2),.I (gI F 3)]
 (fun j G=>(sw (br (!(gB G 0))
 (k 0 [.B false])
 (ck (((eqM (gN l 264) (List.length (gLL l 265)))&&true)&&(((eqM (gN l 248) (List.length (gL l 249)))&&true)&&true))
 (T213 [.I (gI l 262),.I (gI l 263),.LL (gLL l 265),.L (gL l 249),.I (gI l 250),.B (gB l 251)]
 (fun j H=>(sw (ck (((eqM (gN l 264) (List.length (gLL l 265)))&&true)&&(((eqM (gN l 248) (List.length (gL l 249)))&&true)&&true))
 (T214 [.I (gI l 262),.I (gI l 263),.LL (gLL l 265),.L (gL l 249),.I (gI l 250),.B (gB l 251)]
 (fun j M=>(sw (ck (((eqM (List.length (gL H 0)) (List.length (gL H 0)))&&true)&&(((eqM (List.length (gL M 0)) (List.length (gL M 0)))&&true)&&true))
 (T211 [.L (gL H 0),.I (gI H 1),.B (gB H 2),.I (gI H 3),.L (gL M 0),.I (gI M 1),.B (gB M 2),.I (gI M 3)]
 (fun j N=>(sw (br (!(gB N 0))
 (k 0 [.B false])
 (ck (((eqM (gN l 260) (List.length (gLL l 261)))&&true)&&(((eqM (gN l 266) (List.length (gL l 267)))&&((eqM (gN l 268) (List.length (gL l 269)))&&true))&&(((eqM (gN l 248) (List.length (gL l 249)))&&true)&&true)))
 (T219 [.I (gI l 258),.I (gI l 259),.LL (gLL l 261),.L (gL l 267),.L (gL l 269),.L (gL l 249),.I (gI l 250),.B (gB l 251)]
 (fun j Q=>(sw (ck (((eqM (gN l 260) (List.length (gLL l 261)))&&true)&&(((eqM (gN l 266) (List.length (gL l 267)))&&((eqM (gN l 268) (List.length (gL l 269)))&&true))&&(((eqM (gN l 248) (List.length (gL l 249)))&&true)&&true)))
 (T220 [.I (gI l 258),.I (gI l 259),.LL (gLL l 261),.L (gL l 267),.L (gL l 269),.L (gL l 249),.I (gI l 250),.B (gB l 251)]
 (fun j S=>(sw (ck (((eqM (List.length (gL Q 2)) (List.length (gL Q 2)))&&((eqM (List.length (gLL Q 3)) (List.length (gLL Q 3)))&&true))&&(((eqM (List.length (gL S 2)) (List.length (gL S 2)))&&((eqM (List.length (gLL S 3)) (List.length (gLL S 3)))&&true))&&true))
 (T218 [.I (gI Q 0),.I (gI Q 1),.L (gL Q 2),.LL (gLL Q 3),.I (gI Q 4),.I (gI S 0),.I (gI S 1),.L (gL S 2),.LL (gLL S 3),.I (gI S 4)]
 (fun j T=>(sw (br (!(gB T 0))
 (k 0 [.B false])
 (ck (((eqM (gN l 260) (List.length (gLL l 261)))&&true)&&(((eqM (gN l 270) (List.length (gL l 271)))&&true)&&true))
 (T215 [.I (gI l 258),.I (gI l 259),.LL (gLL l 261),.L (gL l 271),.I (gI l 272),.B (gB l 273),.I 30]
 (fun j U=>(sw (br (gB l 28)
 (ck (((eqM (gN l 260) (List.length (gLL l 261)))&&true)&&(((eqM (gN l 266) (List.length (gL l 267)))&&((eqM (gN l 268) (List.length (gL l 269)))&&true))&&(((eqM (List.length (gL U 0)) (List.length (gL U 0)))&&true)&&true)))
 (T219 [.I (gI l 258),.I (gI l 259),.LL (gLL l 261),.L (gL l 267),.L (gL l 269),.L (gL U 0),.I (gI U 1),.B (gB U 2)]
 (fun j V=>(sw (ck (((eqM (gN l 260) (List.length (gLL l 261)))&&true)&&(((eqM (gN l 266) (List.length (gL l 267)))&&((eqM (gN l 268) (List.length (gL l 269)))&&true))&&(((eqM (List.length (gL U 0)) (List.length (gL U 0)))&&true)&&true)))
 (T220 [.I (gI l 258),.I (gI l 259),.LL (gLL l 261),.L (gL l 267),.L (gL l 269),.L (gL U 0),.I (gI U 1),.B (gB U 2)]
 (fun j W=>(sw (ck (((eqM (List.length (gL V 2)) (List.length (gL V 2)))&&((eqM (List.length (gLL V 3)) (List.length (gLL V 3)))&&true))&&(((eqM (List.length (gL W 2)) (List.length (gL W 2)))&&((eqM (List.length (gLL W 3)) (List.length (gLL W 3)))&&true))&&true))
 (T218 [.I (gI V 0),.I (gI V 1),.L (gL V 2),.LL (gLL V 3),.I (gI V 4),.I (gI W 0),.I (gI W 1),.L (gL W 2),.LL (gLL W 3),.I (gI W 4)]
 (fun j X=>(sw (br (gB X 0)
 (ck (((eqM (gN l 260) (List.length (gLL l 261)))&&true)&&(((eqM (gN l 243) (List.length (gL l 244)))&&((eqM (gN l 245) (List.length (gL l 246)))&&true))&&(((eqM (List.length (gL U 0)) (List.length (gL U 0)))&&true)&&true)))
 (T219 [.I (gI l 258),.I (gI l 259),.LL (gLL l 261),.L (gL l 244),.L (gL l 246),.L (gL U 0),.I (gI U 1),.B (gB U 2)]
 (fun j Y=>(sw (ck (((eqM (gN l 260) (List.length (gLL l 261)))&&true)&&(((eqM (gN l 243) (List.length (gL l 244)))&&((eqM (gN l 245) (List.length (gL l 246)))&&true))&&(((eqM (List.length (gL U 0)) (List.length (gL U 0)))&&true)&&true)))
 (T220 [.I (gI l 258),.I (gI l 259),.LL (gLL l 261),.L (gL l 244),.L (gL l 246),.L (gL U 0),.I (gI U 1),.B (gB U 2)]
 (fun j Z=>(sw (ck (((eqM (List.length (gL Y 2)) (List.length (gL Y 2)))&&((eqM (List.length (gLL Y 3)) (List.length (gLL Y 3)))&&true))&&(((eqM (List.length (gL Z 2)) (List.length (gL Z 2)))&&((eqM (List.length (gLL Z 3)) (List.length (gLL Z 3)))&&true))&&true))
 (T218 [.I (gI Y 0),.I (gI Y 1),.L (gL Y 2),.LL (gLL Y 3),.I (gI Y 4),.I (gI Z 0),.I (gI Z 1),.L (gL Z 2),.LL (gLL Z 3),.I (gI Z 4)]
 (fun j z19=>(sw (br (gB z19 0)
 (ck (((eqM (gN l 264) (List.length (gLL l 265)))&&true)&&(((eqM (gN l 243) (List.length (gL l 244)))&&((eqM (gN l 245) (List.length (gL l 246)))&&true))&&(((eqM (gN l 248) (List.length (gL l 249)))&&true)&&true)))
 (T219 [.I (gI l 262),.I (gI l 263),.LL (gLL l 265),.L (gL l 244),.L (gL l 246),.L (gL l 249),.I (gI l 250),.B (gB l 251)]
 (fun j z20=>(sw (ck (((eqM (gN l 264) (List.length (gLL l 265)))&&true)&&(((eqM (gN l 243) (List.length (gL l 244)))&&((eqM (gN l 245) (List.length (gL l 246)))&&true))&&(((eqM (gN l 248) (List.length (gL l 249)))&&true)&&true)))
 (T220 [.I (gI l 262),.I (gI l 263),.LL (gLL l 265),.L (gL l 244),.L (gL l 246),.L (gL l 249),.I (gI l 250),.B (gB l 251)]
 (fun j z21=>(sw (ck (((eqM (List.length (gL z20 2)) (List.length (gL z20 2)))&&((eqM (List.length (gLL z20 3)) (List.length (gLL z20 3)))&&true))&&(((eqM (List.length (gL z21 2)) (List.length (gL z21 2)))&&((eqM (List.length (gLL z21 3)) (List.length (gLL z21 3)))&&true))&&true))
 (T218 [.I (gI z20 0),.I (gI z20 1),.L (gL z20 2),.LL (gLL z20 3),.I (gI z20 4),.I (gI z21 0),.I (gI z21 1),.L (gL z21 2),.LL (gLL z21 3),.I (gI z21 4)]
 (fun j z22=>(sw (k 0 [.B (gB z22 0)])
 (fun _=>none)) j)))
 (fun _=>none)) j)))
 (fun _=>none)) j)))
 (k 0 [.B false]))
 (fun _=>none)) j)))
 (fun _=>none)) j)))
 (fun _=>none)) j)))
 (k 0 [.B false]))
 (fun _=>none)) j)))
 (fun _=>none)) j)))
 (fun _=>none)) j)))
 (k 0 [.B false]))
 (fun _=>none)) j))))
 (fun _=>none)) j)))
 (fun _=>none)) j)))
 (fun _=>none)) j))))
 (fun _=>none)) j)))
 (fun _=>none)) j)))
 (fun _=>none)) j))))
 (fun _=>none)) j)))
 (fun _=>none)) j)))
 (fun _=>none)) j))))
 (fun _=>none)) j)))
 (fun _=>none)) j)))
 (fun _=>none)) j))))
 (fun _=>none)) j))
theorem F200.q8:REqK F200.O 3 F200.sh 8 F200.p8 F200_c8:=by intro τ l κ;kernel_rfl
def F200_d7 {τ:Type} (l:LS_) (k:Nat→LS_→Option τ):Option τ:=F200_c7 l k fun m=>F200_c8 m k
theorem F200.r7:REqK F200.O 3 F200.sh 7 F200.p7 F200_d7:=MEqK.join (n:=7) (m:=1) (p:=F200.p7) (p2:=F200.p8) (F:=F200_c7) (G:=F200_c8) F200.q7 F200.q8
def F200:Option τ:=F200_c0 l k fun m=>F200_d7 m k
theorem F200.eq:FEq F200.O 3 F200.ps F200.sh F200:=FEqK.join (n:=7) (p:=F200.p7) (F:=F200_c0) (G:=F200_d7) F200.q0 F200.r7
def F200.E:Ent P:=mkF F200.eq
end
end Go.Proofs.YticbdgmcofjkeaaGreat.Ai
namespace Go.Proofs.YticbdgmcofjkeaaGreat.Ai
open Go Ma Go.RowKit
noncomputable section
theorem wf_i64 {n:Int} (h:wfI .i64 n):-9223372036854775808≤n∧n<9223372036854775808:=by
 unfold wfI Lit.wf at h
 simp [IntKind.min,IntKind.max,IntKind.signed,IntKind.bits] at h
 omega
theorem ok_bool {x:Leaf} (h:okLeaf .bool x):∃ b,x=.B b:=by
 cases x <;> first | exact ⟨_,rfl⟩ | cases h
theorem ok_mat {k:IntKind} {x:Leaf} (h:okLeaf (.arr (.m k)) x):∃ l,x=.LL l:=by
 cases x <;> first | exact ⟨_,rfl⟩ | cases h
theorem br_any {τ:Type} {b:Bool} {x y r:Option τ} (hx:x=r) (hy:y=r):br b x y=r:=by
 cases b
 ·exact hy
 ·exact hx
section
variable {n:Nat} {q:Int} {G:List (List Int)} {w g x:List Int}
structure Fc (q:Int) (n:Nat) (G:List (List Int)):Prop where
 lc:q≠2∨Lc 2 n G
 n1:1≤n
 hn:n≤10
theorem Fc.two (h:Fc 2 n G):Lc 2 n G:=h.lc.resolve_left (fun e=>e rfl)
def stS (q:Int) (n:Nat) (G:List (List Int)) (w g:List Int):List Int×Int×Bool×Int :=
 if rcv q n w g=true then (zer n w g,0,clean n (dualR 2 n G) (zer n w g),0) else ([],0,false,1)
def nxS (q:Int) (n:Nat) (G:List (List Int)) (w:List Int) (r:Int) (d:Bool):List Int×Int×Bool×Int :=
 if stv q n G w r d=true∧¬ (r=1000∧d=false) then ((rounds n (dualR 2 n G) 1 (w,r)).1,(rounds n (dualR 2 n G) 1 (w,r)).2,clean n (dualR 2 n G) (rounds n (dualR 2 n G) 1 (w,r)).1,0) else ([],0,false,1)
def rnS (q:Int) (n:Nat) (G:List (List Int)) (w:List Int) (r:Int) (d:Bool) (b:Int):List Int×Int×Bool×Int :=
 if stv q n G w r d=true then ((rounds n (dualR 2 n G) b.toNat (w,r)).1,(rounds n (dualR 2 n G) b.toNat (w,r)).2,clean n (dualR 2 n G) (rounds n (dualR 2 n G) b.toNat (w,r)).1,0) else ([],0,false,1)
def rpS (q:Int) (n:Nat) (G:List (List Int)) (w g x:List Int) (r:Int) (d:Bool):Int×Int×List Int×Int :=
 if (stv q n G x r d&&rcv q n w g)=true then (if d=true then (3,(apt w g x n:Nat),x,0) else (4,0,[],0)) else (0,0,[],1)
theorem stv_q {r:Int} {d:Bool} (h:stv q n G w r d=true):q=2∧isWord 2 n w=true:=by
 unfold stv at h;simp only [Bool.and_eq_true,decide_eq_true_eq] at h;exact ⟨h.1,h.2.1⟩
theorem rcv_q (h:rcv q n w g=true):q=2:=by
 unfold rcv at h;simp only [Bool.and_eq_true,decide_eq_true_eq] at h;exact h.2.1
theorem st_len (h:Fc q n G):(stS q n G w g).1.length<2^60:=by
 have:=h.hn
 unfold stS;split
 ·show (zer n w g).length<_;rw [zer_len];omega
 ·decide
theorem nx_len (h:Fc q n G) (r:Int) (d:Bool):(nxS q n G w r d).1.length<2^60:=by
 have:=h.hn
 unfold nxS;split
 ·rename_i e
  have hw:=(stv_q e.1).2
  show (rounds n (dualR 2 n G) 1 (w,r)).1.length<_
  rw [(rounds_bn 1 (w,r) (word_bn hw).1 (word_bn hw).2).1];omega
 ·decide
theorem rn_len (h:Fc q n G) (r:Int) (d:Bool) (b:Int):(rnS q n G w r d b).1.length<2^60:=by
 have:=h.hn
 unfold rnS;split
 ·rename_i e
  have hw:=(stv_q e).2
  show (rounds n (dualR 2 n G) b.toNat (w,r)).1.length<_
  rw [(rounds_bn b.toNat (w,r) (word_bn hw).1 (word_bn hw).2).1];omega
 ·decide
theorem rp_len (hs:x.length<2^60) (r:Int) (d:Bool):(rpS q n G w g x r d).2.2.1.length<2^60:=by
 unfold rpS;split
 ·split
  ·exact hs
  ·decide
 ·decide
theorem T210_fn (h:Fc q n G) (hw:w.length<2^60) (hg:g.length<2^60) {τ:Type} (k:Nat→LS_→Option τ) :
  T210 [.I q,.I n,.LL G,.L w,.L g] k=k 0 [.L (stS q n G w g).1,.I (stS q n G w g).2.1,.B (stS q n G w g).2.2.1,.I (stS q n G w g).2.2.2]:=by
 unfold stS
 by_cases e:rcv q n w g=true
 ·rw [if_pos e]
  have e2:=rcv_q e
  subst e2
  exact T210_ok h.two h.hn hg e k
 ·rw [if_neg e]
  exact T210_no hw hg (by simpa using e) k
theorem T212_fn (h:Fc q n G) (hw:w.length<2^60) (hg:g.length<2^60) {τ:Type} (k:Nat→LS_→Option τ) :
  T212 [.I q,.I n,.LL G,.L w,.L g] k=k 0 [.L (stS q n G w g).1,.I (stS q n G w g).2.1,.B (stS q n G w g).2.2.1,.I (stS q n G w g).2.2.2]:=by
 unfold stS
 by_cases e:rcv q n w g=true
 ·rw [if_pos e]
  have e2:=rcv_q e
  subst e2
  exact T212_ok h.two h.hn hg e k
 ·rw [if_neg e]
  exact T212_no hw hg (by simpa using e) k
theorem nx_no {r:Int} {d:Bool} (e:¬ (stv q n G w r d=true∧¬ (r=1000∧d=false))):stv q n G w r d=false∨(r=1000∧d=false):=by
 cases hs:stv q n G w r d with
 | false=>exact .inl rfl
 | true=>exact .inr (Decidable.byContradiction fun c=>e ⟨hs,c⟩)
theorem T213_fn (h:Fc q n G) (hs:w.length<2^60) (r:Int) (d:Bool) {τ:Type} (k:Nat→LS_→Option τ) :
  T213 [.I q,.I n,.LL G,.L w,.I r,.B d] k=k 0 [.L (nxS q n G w r d).1,.I (nxS q n G w r d).2.1,.B (nxS q n G w r d).2.2.1,.I (nxS q n G w r d).2.2.2]:=by
 unfold nxS
 by_cases e:stv q n G w r d=true∧¬ (r=1000∧d=false)
 ·rw [if_pos e]
  have e2:=(stv_q e.1).1
  subst e2
  exact T213_ok h.two h.n1 h.hn e.1 e.2 k
 ·rw [if_neg e]
  exact T213_no h.lc h.hn hs (nx_no e) k
theorem T214_fn (h:Fc q n G) (hs:w.length<2^60) (r:Int) (d:Bool) {τ:Type} (k:Nat→LS_→Option τ) :
  T214 [.I q,.I n,.LL G,.L w,.I r,.B d] k=k 0 [.L (nxS q n G w r d).1,.I (nxS q n G w r d).2.1,.B (nxS q n G w r d).2.2.1,.I (nxS q n G w r d).2.2.2]:=by
 unfold nxS
 by_cases e:stv q n G w r d=true∧¬ (r=1000∧d=false)
 ·rw [if_pos e]
  have e2:=(stv_q e.1).1
  subst e2
  exact T214_ok h.two h.n1 h.hn e.1 e.2 k
 ·rw [if_neg e]
  exact T214_no h.lc h.hn hs (nx_no e) k
theorem T215_fn (h:Fc q n G) (hs:w.length<2^60) (r:Int) (d:Bool) {b:Int} (hb:b<2^63) {τ:Type} (k:Nat→LS_→Option τ) :
  T215 [.I q,.I n,.LL G,.L w,.I r,.B d,.I b] k=k 0 [.L (rnS q n G w r d b).1,.I (rnS q n G w r d b).2.1,.B (rnS q n G w r d b).2.2.1,.I (rnS q n G w r d b).2.2.2]:=by
 unfold rnS
 by_cases e:stv q n G w r d=true
 ·rw [if_pos e]
  have e2:=(stv_q e).1
  subst e2
  exact T215_ok h.two h.n1 h.hn e hb k
 ·rw [if_neg e]
  exact T215_no h.lc h.hn hs (by simpa using e) b k
theorem T216_fn (h:Fc q n G) (hs:w.length<2^60) (r:Int) (d:Bool) (b:Int) {τ:Type} (k:Nat→LS_→Option τ) :
  T216 [.I q,.I n,.LL G,.L w,.I r,.B d,.I b] k=k 0 [.L (rnS q n G w r d b).1,.I (rnS q n G w r d b).2.1,.B (rnS q n G w r d b).2.2.1,.I (rnS q n G w r d b).2.2.2]:=by
 unfold rnS
 by_cases e:stv q n G w r d=true
 ·rw [if_pos e]
  have e2:=(stv_q e).1
  subst e2
  exact T216_ok h.two h.n1 h.hn e b k
 ·rw [if_neg e]
  exact T216_no h.lc h.hn hs (by simpa using e) b k
theorem T219_fn (h:Fc q n G) (hs:x.length<2^60) (hw:w.length<2^60) (hg:g.length<2^60) (r:Int) (d:Bool) {τ:Type} (k:Nat→LS_→Option τ) :
  T219 [.I q,.I n,.LL G,.L w,.L g,.L x,.I r,.B d] k=k 0 [.I (rpS q n G w g x r d).1,.I (rpS q n G w g x r d).2.1,.L (rpS q n G w g x r d).2.2.1,.LL [],.I (rpS q n G w g x r d).2.2.2]:=by
 unfold rpS
 by_cases e:(stv q n G x r d&&rcv q n w g)=true
 ·rw [if_pos e]
  obtain ⟨a,b⟩:=(Bool.and_eq_true _ _▸e:_∧_)
  have e2:=(stv_q a).1
  subst e2
  refine (T219_ok h.two h.n1 h.hn hg a b k).trans ?_
  cases d <;> rfl
 ·rw [if_neg e]
  exact T219_no h.lc h.hn hs hw hg (by simpa using e) k
theorem T220_fn (h:Fc q n G) (hs:x.length<2^60) (hw:w.length<2^60) (hg:g.length<2^60) (r:Int) (d:Bool) {τ:Type} (k:Nat→LS_→Option τ) :
  T220 [.I q,.I n,.LL G,.L w,.L g,.L x,.I r,.B d] k=k 0 [.I (rpS q n G w g x r d).1,.I (rpS q n G w g x r d).2.1,.L (rpS q n G w g x r d).2.2.1,.LL [],.I (rpS q n G w g x r d).2.2.2]:=by
 unfold rpS
 by_cases e:(stv q n G x r d&&rcv q n w g)=true
 ·rw [if_pos e]
  obtain ⟨a,b⟩:=(Bool.and_eq_true _ _▸e:_∧_)
  have e2:=(stv_q a).1
  subst e2
  refine (T220_ok h.two h.hn hg a b k).trans ?_
  cases d <;> rfl
 ·rw [if_neg e]
  exact T220_no h.lc h.hn hs hw hg (by simpa using e) k
theorem T211_same (hs:w.length<2^60) (r:Int) (d:Bool) (e:Int) {τ:Type} (k:Nat→LS_→Option τ):T211 [.L w,.I r,.B d,.I e,.L w,.I r,.B d,.I e] k=k 0 [.B true] :=
 (T211_spec hs r r d d e e k).trans (by simp)
theorem T218_same (hs:w.length<2^60) (a b e:Int) {τ:Type} (k:Nat→LS_→Option τ):T218 [.I a,.I b,.L w,.LL [],.I e,.I a,.I b,.L w,.LL [],.I e] k=k 0 [.B true] :=
 (T218_spec hs a b a b e e k).trans (by simp)
end
set_option maxRecDepth 100000 in
theorem F200_true {ls:LS_} (h:okLs [.int .u8,.int .u8,.int .u8,.arr (.i .u8),.arr (.i .u8),.int .i64,.int .i64,.int .i64,.arr (.m .i64),.arr (.i .i64),.arr (.i .i64),.int .i64,.arr (.i .i64),.int .i64,.bool,.int .i64,.int .i64,.arr (.i .i64),.arr (.m .i64)] ls) {τ:Type} (k:Nat→LS_→Option τ):F200 ls k=k 0 [.B true]:=by
 obtain ⟨Q,N,K,L,l1,rfl,hQ,hN,hK,hL,h1⟩:=raw13 h
 obtain ⟨x1,l2,rfl,a1,h2⟩:=okLs_cons h1
 obtain ⟨M,rfl,bM⟩:=ok_bytes a1
 obtain ⟨x2,l3,rfl,a2,h3⟩:=okLs_cons h2
 obtain ⟨kd,rfl,_⟩:=ok_int a2
 obtain ⟨x3,l4,rfl,a3,h4⟩:=okLs_cons h3
 obtain ⟨cq,rfl,_⟩:=ok_int a3
 obtain ⟨x4,l5,rfl,a4,h5⟩:=okLs_cons h4
 obtain ⟨cn,rfl,_⟩:=ok_int a4
 obtain ⟨x5,l6,rfl,a5,h6⟩:=okLs_cons h5
 obtain ⟨cG,rfl⟩:=ok_mat a5
 obtain ⟨x6,l7,rfl,a6,h7⟩:=okLs_cons h6
 obtain ⟨nW,rfl,_⟩:=ok_arr a6
 obtain ⟨x7,l8,rfl,a7,h8⟩:=okLs_cons h7
 obtain ⟨nG,rfl,_⟩:=ok_arr a7
 obtain ⟨x8,l9,rfl,a8,h9⟩:=okLs_cons h8
 obtain ⟨A,rfl,bA⟩:=ok_int a8
 obtain ⟨x9,l10,rfl,a9,h10⟩:=okLs_cons h9
 obtain ⟨fW,rfl,_⟩:=ok_arr a9
 obtain ⟨x10,l11,rfl,a10,h11⟩:=okLs_cons h10
 obtain ⟨fR,rfl,_⟩:=ok_int a10
 obtain ⟨x11,l12,rfl,a11,h12⟩:=okLs_cons h11
 obtain ⟨fD,rfl⟩:=ok_bool a11
 obtain ⟨x12,l13,rfl,a12,h13⟩:=okLs_cons h12
 obtain ⟨rH,rfl,_⟩:=ok_int a12
 obtain ⟨x13,l14,rfl,a13,h14⟩:=okLs_cons h13
 obtain ⟨rT,rfl,_⟩:=ok_int a13
 obtain ⟨x14,l15,rfl,a14,h15⟩:=okLs_cons h14
 obtain ⟨rC,rfl,_⟩:=ok_arr a14
 obtain ⟨x15,l16,rfl,a15,h16⟩:=okLs_cons h15
 obtain ⟨rL,rfl⟩:=ok_mat a15
 obtain rfl:=okLs_nil h16
 have bA:=wf_i64 bA
 obtain ⟨n,G,C,hT8⟩:=T208_spec hQ hN hK hL
 obtain ⟨q',n',G',C',hT35⟩:=T35_spec hQ hN hK hL
 obtain ⟨w,g,hw,hg,hT9⟩:=T209_two C bM
 have R:Rc n G w g:=⟨C,hw,hg⟩
 have lc:=R.lc
 have hc:Fc 2 n G:=⟨.inr lc,R.n1,R.hn⟩
 have hm:Fc (q':Int) n' G':=⟨by
  by_cases e:q'=2
  ·subst e;exact .inr C'.lc
  ·exact .inl (by omega),C'.n0,C'.n1⟩
 have hn:=R.hn
 have wl:w.length<2^60:=by have:=hw.1;omega
 have g60:=R.g60
 unfold F200 F200_c0 T207
 simp only [g_]
 rw [F207_true]
 simp only [g_,sw_zero]
 rw [br_no (b:=!true) rfl]
 by_cases u1:(20:Int)<(nW.length:Nat)
 ·rw [br_of (by rw [gtI_iff];exact u1)]
 by_cases u2:(20:Int)<(nG.length:Nat)
 ·rw [br_no (by rw [gtI_no];exact u1),br_of (by rw [gtI_iff];exact u2)]
 by_cases u3:(20:Int)<(fW.length:Nat)
 ·rw [br_no (by rw [gtI_no];exact u1),br_no (by rw [gtI_no];exact u2),br_of (by rw [gtI_iff];exact u3)]
 have v1:nW.length<2^60:=by omega
 have v2:nG.length<2^60:=by omega
 have v3:fW.length<2^60:=by omega
 rw [br_no (by rw [gtI_no];exact u1),br_no (by rw [gtI_no];exact u2),br_no (by rw [gtI_no];exact u3),ck_of (by simp),hT8]
 simp only [g_,sw_zero]
 rw [ck_of (by simp),hT35]
 simp only [g_,sw_zero]
 rw [ck_of (by simp),hT9]
 simp only [g_,sw_zero]
 rw [ck_of (by simp),T210_fn hc wl g60]
 simp only [g_,sw_zero]
 have sl:=st_len (w:=w) (g:=g) hc
 unfold F200_d7 F200_c7
 simp only [g_]
 rw [ck_of (by simp),T212_fn hc wl g60]
 generalize stS 2 n G w g=S at *
 simp only [g_,sw_zero]
 rw [ck_of (by simp),T211_same sl]
 simp only [sw_zero,gB_zero]
 rw [br_no (b:=!true) rfl,ck_of (by simp),T210_fn hc v1 v2]
 simp only [g_,sw_zero]
 rw [ck_of (by simp),T212_fn hc v1 v2]
 simp only [g_,sw_zero]
 rw [ck_of (by simp),T211_same (st_len hc)]
 simp only [sw_zero,gB_zero]
 rw [br_no (b:=!true) rfl,ck_of (by simp),T210_fn hm v1 v2]
 simp only [g_,sw_zero]
 rw [ck_of (by simp),T212_fn hm v1 v2]
 simp only [g_,sw_zero]
 rw [ck_of (by simp),T211_same (st_len hm)]
 simp only [sw_zero,gB_zero]
 rw [br_no (b:=!true) rfl,ck_of (by simp),T213_fn hc sl]
 simp only [g_,sw_zero]
 rw [ck_of (by simp),T214_fn hc sl]
 simp only [g_,sw_zero]
 rw [ck_of (by simp),T211_same (nx_len hc _ _)]
 simp only [sw_zero,gB_zero]
 rw [br_no (b:=!true) rfl,ck_of (by simp),T215_fn hc sl _ _ (by omega)]
 simp only [g_,sw_zero]
 rw [ck_of (by simp),T216_fn hc sl]
 simp only [g_,sw_zero]
 rw [ck_of (by simp),T211_same (rn_len hc _ _ _)]
 simp only [sw_zero,gB_zero]
 rw [br_no (b:=!true) rfl]
 unfold F200_c8
 simp only [g_]
 rw [ck_of (by simp),T31_spec _ _ v3]
 simp only [sw_zero,gB_zero]
 cases hW:isWord 2 n fW with
 | true =>
  obtain ⟨f1,f2⟩:=word_bn hW
  rw [br_of rfl]
  refine br_any ?_ ?_
  ·rw [ck_of (by simp),T217_spec lc hn f2 f1]
   simp only [sw_zero,gB_zero]
   generalize clean n (dualR 2 n G) fW=D
   rw [ck_of (by simp),T213_fn hc v3]
   simp only [g_,sw_zero]
   rw [ck_of (by simp),T214_fn hc v3]
   simp only [g_,sw_zero]
   rw [ck_of (by simp),T211_same (nx_len hc _ _)]
   simp only [sw_zero,gB_zero]
   rw [br_no (b:=!true) rfl,ck_of (by simp),T215_fn hc v3 _ _ (by omega)]
   simp only [g_,sw_zero]
   rw [ck_of (by simp),T216_fn hc v3]
   simp only [g_,sw_zero]
   rw [ck_of (by simp),T211_same (rn_len hc _ _ _)]
   simp only [sw_zero,gB_zero]
   rw [br_no (b:=!true) rfl,ck_of (by simp),T213_fn hm v3]
   simp only [g_,sw_zero]
   rw [ck_of (by simp),T214_fn hm v3]
   simp only [g_,sw_zero]
   rw [ck_of (by simp),T211_same (nx_len hm _ _)]
   simp only [sw_zero,gB_zero]
   rw [br_no (b:=!true) rfl,ck_of (by simp),T219_fn hc v3 wl g60]
   simp only [g_,sw_zero]
   rw [ck_of (by simp),T220_fn hc v3 wl g60]
   simp only [g_,sw_zero]
   rw [ck_of (by simp),T218_same (rp_len v3 _ _)]
   simp only [sw_zero,gB_zero]
   rw [br_no (b:=!true) rfl,ck_of (by simp),T215_fn hc sl _ _ (by decide)]
   simp only [g_,sw_zero]
   have rl:=rn_len (w:=S.1) hc S.2.1 S.2.2.1 30
   generalize rnS 2 n G S.1 S.2.1 S.2.2.1 30=Z at *
   rw [br_of rfl,ck_of (by simp),T219_fn hc rl wl g60]
   simp only [g_,sw_zero]
   rw [ck_of (by simp),T220_fn hc rl wl g60]
   simp only [g_,sw_zero]
   rw [ck_of (by simp),T218_same (rp_len rl _ _)]
   simp only [sw_zero,gB_zero]
   rw [br_of rfl,ck_of (by simp),T219_fn hc rl v1 v2]
   simp only [g_,sw_zero]
   rw [ck_of (by simp),T220_fn hc rl v1 v2]
   simp only [g_,sw_zero]
   rw [ck_of (by simp),T218_same (rp_len rl _ _)]
   simp only [sw_zero,gB_zero]
   rw [br_of rfl,ck_of (by simp),T219_fn hm v3 v1 v2]
   simp only [g_,sw_zero]
   rw [ck_of (by simp),T220_fn hm v3 v1 v2]
   simp only [g_,sw_zero]
   rw [ck_of (by simp),T218_same (rp_len v3 _ _)]
   simp only [sw_zero,gB_zero]
  ·rw [ck_of (by simp),T213_fn hc v3]
   simp only [g_,sw_zero]
   rw [ck_of (by simp),T214_fn hc v3]
   simp only [g_,sw_zero]
   rw [ck_of (by simp),T211_same (nx_len hc _ _)]
   simp only [sw_zero,gB_zero]
   rw [br_no (b:=!true) rfl,ck_of (by simp),T215_fn hc v3 _ _ (by omega)]
   simp only [g_,sw_zero]
   rw [ck_of (by simp),T216_fn hc v3]
   simp only [g_,sw_zero]
   rw [ck_of (by simp),T211_same (rn_len hc _ _ _)]
   simp only [sw_zero,gB_zero]
   rw [br_no (b:=!true) rfl,ck_of (by simp),T213_fn hm v3]
   simp only [g_,sw_zero]
   rw [ck_of (by simp),T214_fn hm v3]
   simp only [g_,sw_zero]
   rw [ck_of (by simp),T211_same (nx_len hm _ _)]
   simp only [sw_zero,gB_zero]
   rw [br_no (b:=!true) rfl,ck_of (by simp),T219_fn hc v3 wl g60]
   simp only [g_,sw_zero]
   rw [ck_of (by simp),T220_fn hc v3 wl g60]
   simp only [g_,sw_zero]
   rw [ck_of (by simp),T218_same (rp_len v3 _ _)]
   simp only [sw_zero,gB_zero]
   rw [br_no (b:=!true) rfl,ck_of (by simp),T215_fn hc sl _ _ (by decide)]
   simp only [g_,sw_zero]
   have rl:=rn_len (w:=S.1) hc S.2.1 S.2.2.1 30
   generalize rnS 2 n G S.1 S.2.1 S.2.2.1 30=Z at *
   rw [br_of rfl,ck_of (by simp),T219_fn hc rl wl g60]
   simp only [g_,sw_zero]
   rw [ck_of (by simp),T220_fn hc rl wl g60]
   simp only [g_,sw_zero]
   rw [ck_of (by simp),T218_same (rp_len rl _ _)]
   simp only [sw_zero,gB_zero]
   rw [br_of rfl,ck_of (by simp),T219_fn hc rl v1 v2]
   simp only [g_,sw_zero]
   rw [ck_of (by simp),T220_fn hc rl v1 v2]
   simp only [g_,sw_zero]
   rw [ck_of (by simp),T218_same (rp_len rl _ _)]
   simp only [sw_zero,gB_zero]
   rw [br_of rfl,ck_of (by simp),T219_fn hm v3 v1 v2]
   simp only [g_,sw_zero]
   rw [ck_of (by simp),T220_fn hm v3 v1 v2]
   simp only [g_,sw_zero]
   rw [ck_of (by simp),T218_same (rp_len v3 _ _)]
   simp only [sw_zero,gB_zero]
 | false =>
  rw [br_no rfl]
  rw [ck_of (by simp),T213_fn hc v3]
  simp only [g_,sw_zero]
  rw [ck_of (by simp),T214_fn hc v3]
  simp only [g_,sw_zero]
  rw [ck_of (by simp),T211_same (nx_len hc _ _)]
  simp only [sw_zero,gB_zero]
  rw [br_no (b:=!true) rfl,ck_of (by simp),T215_fn hc v3 _ _ (by omega)]
  simp only [g_,sw_zero]
  rw [ck_of (by simp),T216_fn hc v3]
  simp only [g_,sw_zero]
  rw [ck_of (by simp),T211_same (rn_len hc _ _ _)]
  simp only [sw_zero,gB_zero]
  rw [br_no (b:=!true) rfl,ck_of (by simp),T213_fn hm v3]
  simp only [g_,sw_zero]
  rw [ck_of (by simp),T214_fn hm v3]
  simp only [g_,sw_zero]
  rw [ck_of (by simp),T211_same (nx_len hm _ _)]
  simp only [sw_zero,gB_zero]
  rw [br_no (b:=!true) rfl,ck_of (by simp),T219_fn hc v3 wl g60]
  simp only [g_,sw_zero]
  rw [ck_of (by simp),T220_fn hc v3 wl g60]
  simp only [g_,sw_zero]
  rw [ck_of (by simp),T218_same (rp_len v3 _ _)]
  simp only [sw_zero,gB_zero]
  rw [br_no (b:=!true) rfl,ck_of (by simp),T215_fn hc sl _ _ (by decide)]
  simp only [g_,sw_zero]
  have rl:=rn_len (w:=S.1) hc S.2.1 S.2.2.1 30
  generalize rnS 2 n G S.1 S.2.1 S.2.2.1 30=Z at *
  rw [br_of rfl,ck_of (by simp),T219_fn hc rl wl g60]
  simp only [g_,sw_zero]
  rw [ck_of (by simp),T220_fn hc rl wl g60]
  simp only [g_,sw_zero]
  rw [ck_of (by simp),T218_same (rp_len rl _ _)]
  simp only [sw_zero,gB_zero]
  rw [br_of rfl,ck_of (by simp),T219_fn hc rl v1 v2]
  simp only [g_,sw_zero]
  rw [ck_of (by simp),T220_fn hc rl v1 v2]
  simp only [g_,sw_zero]
  rw [ck_of (by simp),T218_same (rp_len rl _ _)]
  simp only [sw_zero,gB_zero]
  rw [br_of rfl,ck_of (by simp),T219_fn hm v3 v1 v2]
  simp only [g_,sw_zero]
  rw [ck_of (by simp),T220_fn hm v3 v1 v2]
  simp only [g_,sw_zero]
  rw [ck_of (by simp),T218_same (rp_len v3 _ _)]
  simp only [sw_zero,gB_zero]
theorem law200 (ls:LS_) (h:okLs ([PV2.agg [.int .u8,.int .u8,.int .u8,.arr (.i .u8)],PV2.v (.arr (.i .u8)),PV2.agg [.int .i64,.int .i64,.int .i64,.arr (.m .i64),.arr (.i .i64),.arr (.i .i64),.int .i64,.arr (.i .i64),.int .i64,.bool,.int .i64,.int .i64,.arr (.i .i64),.arr (.m .i64)]].flatMap cells2) ls):CS P 3 (fL2 ls [PV2.agg [.int .u8,.int .u8,.int .u8,.arr (.i .u8)],PV2.v (.arr (.i .u8)),PV2.agg [.int .i64,.int .i64,.int .i64,.arr (.m .i64),.arr (.i .i64),.arr (.i .i64),.int .i64,.arr (.i .i64),.int .i64,.bool,.int .i64,.int .i64,.arr (.i .i64),.arr (.m .i64)]] 0) ⟨.bool true,[]⟩ :=
 F_ok F200.eq ((F200_true h _).trans (by kernel_rfl))
end
end Go.Proofs.YticbdgmcofjkeaaGreat.Ai
