/-
Part 4 of 7 of the texts for one claim: Tb7 Tb3 Xa Ma2 Ma3 Ma4 P2 P3 P4 P5 P6 P7 Xd P8 P9 Xb Xc P10 P11 P12 P13 P14 P15 P16 W1 P17 Wa Xe P18 P19 P20 P21 Xg P22.
-/
import Derived.Test.YticbdgmcofjkeaaCm3
set_option linter.unusedVariables false
set_option linter.unusedSimpArgs false
namespace Go.Proofs.Yticbdgmcofjkeaa.Ai
open Go Go.RowKit Ma
noncomputable section
def p99 (q:Nat):Bool:=chkM (fp q) (fe q) (fm q) (runC P Cf [T137.E,F127.E 64] 90 98 [.int .i64 (q:Int)])
theorem t99_q17:p99 17=true:=by kernel_rfl
theorem t99_q19:p99 19=true:=by kernel_rfl
theorem t99_q23:p99 23=true:=by kernel_rfl
theorem t99_q25:p99 25=true:=by kernel_rfl
theorem t99_q27:p99 27=true:=by kernel_rfl
theorem t99_q29:p99 29=true:=by kernel_rfl
theorem t99_q31:p99 31=true:=by kernel_rfl
theorem t99_q32:p99 32=true:=by kernel_rfl
theorem t99_q37:p99 37=true:=by kernel_rfl
theorem t99_q41:p99 41=true:=by kernel_rfl
theorem t99_q43:p99 43=true:=by kernel_rfl
theorem t99_q47:p99 47=true:=by kernel_rfl
theorem t99_q49:p99 49=true:=by kernel_rfl
theorem t99_q53:p99 53=true:=by kernel_rfl
theorem t99_q59:p99 59=true:=by kernel_rfl
theorem t99_q61:p99 61=true:=by kernel_rfl
theorem t99_q64:p99 64=true:=by kernel_rfl
theorem t99b:Qb.all p99=true:=by
 simp only [Qb,List.all_cons,List.all_nil,t99_q17,t99_q19,t99_q23,t99_q25,t99_q27,t99_q29,t99_q31,t99_q32,t99_q37,t99_q41,t99_q43,t99_q47,t99_q49,t99_q53,t99_q59,t99_q61,t99_q64,Bool.and_self]
def n99 (q:Nat):Bool:=chkE (runC P Cf [] 60 98 [.int .i64 (q:Int)])
theorem n99_0:[6,10,12,14].all n99=true:=by kernel_rfl
theorem n99_1:[15,18,20,21].all n99=true:=by kernel_rfl
theorem n99_2:[22,24,26,28].all n99=true:=by kernel_rfl
theorem n99_3:[30,33,34,35].all n99=true:=by kernel_rfl
theorem n99_4:[36,38,39,40].all n99=true:=by kernel_rfl
theorem n99_5:[42,44,45,46].all n99=true:=by kernel_rfl
theorem n99_6:[48,50,51,52].all n99=true:=by kernel_rfl
theorem n99_7:[54,55,56,57].all n99=true:=by kernel_rfl
theorem n99_8:[58,60,62,63].all n99=true:=by kernel_rfl
def NQ:List Nat:=[6,10,12,14]++[15,18,20,21]++[22,24,26,28]++[30,33,34,35]++[36,38,39,40]++[42,44,45,46]++[48,50,51,52]++[54,55,56,57]++[58,60,62,63]
theorem n99_all:NQ.all n99=true:=by
 simp only [NQ,List.all_append,n99_0,n99_1,n99_2,n99_3,n99_4,n99_5,n99_6,n99_7,n99_8,Bool.and_self]
theorem q_cases:(List.range 65).all (fun q=>decide (q<2) || (isq (q:Int) || NQ.contains q))=true:=by decide +kernel
theorem t99n {q:Nat} (hq:q<65) (h2:¬ q<2) (h:isq (q:Int)=false):n99 q=true:=by
 have:=List.all_eq_true.1 q_cases q (List.mem_range.2 hq)
 rw [h,Bool.false_or,decide_eq_false h2,Bool.false_or] at this
 exact List.all_eq_true.1 n99_all q (List.contains_iff_mem.1 this)
def F99e.O:Orc P:=⟨[],[],[],40⟩
def F99e {τ:Type} (l:LS_) (k:Nat→LS_→Option τ):Option τ :=
 br (ltI (gI l 0) (2:Int)) (k 0 []) (br (gtI (gI l 0) (64:Int)) (k 0 []) none)
theorem F99e.eq:FEq F99e.O 98 [pI] [PA.mk (PV3.tup [(PV2.agg [(PV1.intC IntKind.i64 (0:Int)),(PV1.intC IntKind.i64 (0:Int)),PV1.nilS]),(pC (1:Int))]) []] F99e:=by intro τ l κ;kernel_rfl
theorem no99 {q:Int} (h:isq q=false):CS P 98 [.int .i64 q] ⟨.tup [.agg [.int .i64 0,.int .i64 0,.nilS],.int .i64 1],[]⟩:=by
 by_cases h1:q<2
 ·refine F_ok F99e.eq (ls:=[.I q]) ?_
  unfold F99e
  simp only [gI_zero]
  rw [br_of (by simpa using h1)]
  rfl
 ·by_cases h2:64<q
  ·refine F_ok F99e.eq (ls:=[.I q]) ?_
   unfold F99e
   simp only [gI_zero]
   rw [br_no (by simpa using h1),br_of (by simpa using h2)]
   rfl
  ·obtain ⟨m,rfl⟩:∃ m:Nat,q=m:=⟨q.toNat,by omega⟩
   exact runC_ok cfgOk (chkE_ok (t99n (by omega) (by omega) h))
def p116 (q:Nat) (a:Int):Bool:=decide (a=0) || chkP (finv q a) (F116 64 [.I (fp q),.I (fe q),.L (fm q),.I a] (kk F116.sh))
theorem t116:Qs.all (fun q=>(List.range q).all fun a=>p116 q a)=true:=by kernel_rfl
def T116.E:Ent P:=⟨92,[pField,pI],shI,fun l k=>T116 l k,tabI_ok fun q hq a h0 h1 hz=>F_ok (F116.eq 64) (chkP_ok (or_no (all1 (p:=p116) t116 hq h0 h1) (by simpa using hz)))⟩
theorem t99_0:[2,3,4,5,7,8].all (fun q=>chkM (fp q) (fe q) (fm q) (runC P Cf [F127.E 64] 60 98 [.int .i64 (q:Int)]))=true:=by kernel_rfl
theorem t99_1:[9,11].all (fun q=>chkM (fp q) (fe q) (fm q) (runC P Cf [F127.E 64] 60 98 [.int .i64 (q:Int)]))=true:=by kernel_rfl
theorem t99_2:[13].all (fun q=>chkM (fp q) (fe q) (fm q) (runC P Cf [F127.E 64] 60 98 [.int .i64 (q:Int)]))=true:=by kernel_rfl
theorem t99_3:[16].all (fun q=>chkM (fp q) (fe q) (fm q) (runC P Cf [F127.E 64] 60 98 [.int .i64 (q:Int)]))=true:=by kernel_rfl
theorem t99:Qs.all (fun q=>chkM (fp q) (fe q) (fm q) (runC P Cf [F127.E 64] 60 98 [.int .i64 (q:Int)]))=true:=by
 have e:Qs=[2,3,4,5,7,8]++([9,11]++([13]++[16])):=rfl
 rw [e,List.all_append,t99_0,List.all_append,t99_1,List.all_append,t99_2,t99_3]
 rfl
theorem cs99:∀ q∈Qs++Qb,CS P 98 [.int .i64 (q:Int)] ⟨.tup [.agg [.int .i64 (fp q),.int .i64 (fe q),.ref 0 0 0 (fm q).length 1],.int .i64 0],[.i .i64 (fm q)]⟩:=fun q hq=>by
 rcases List.mem_append.1 hq with h | h
 ·have:=List.all_eq_true.1 t99 q h
  exact runC_ok cfgOk (chkM_ok this)
 ·have:p99 q=true:=List.all_eq_true.1 t99b q h
  unfold p99 at this
  exact runC_ok cfgOk (chkM_ok this)
def T99.E:Ent P:=⟨98,[pI],shM,fun l k=>T99 l k,tabM_ok cs99 (fun q hq=>no99 hq)⟩
end
end Go.Proofs.Yticbdgmcofjkeaa.Ai
namespace Go.Proofs.Yticbdgmcofjkeaa.Ai
open Go Go.RowKit
noncomputable section
variable {τ:Type} (t:Nat) (nx ex:Nat→LS_→Option τ) (l:LS_) (k κ:Nat→LS_→Option τ)
def mo0Xa:List PO:=[(oG [(pK IntKind.u8),(pK IntKind.u8),(pK IntKind.u8),(PV2.v (PV1.sl (PC0.i IntKind.u8)))]),(oG [pI,pI,nS]),oM,oI]
def L27_4.H:LHead:=⟨false,true,0,98308,98308,51,16,0,[(PS.mk (qR::qR::us 2 (pB::pI::us 20 [])) [])],[(Out.ret,(PS.mk (us 4 (pB::us 21 [])) [])),((Out.exit 0),(PS.mk (us 4 (pB::us 21 [])) []))]⟩
def L27_4.O:Orc P:=⟨[],[],[],40⟩
def L27_4.s0:Option τ :=
 br (ltI (gI l 5) (gN l 0))
 (ck (((leI 0 (gI l 5))&&(ltI (gI l 5) (gN l 0)))&&true)
 (ck (ltN ((Int.toNat (gI l 5))*1) (List.length (gL l 1)))
 (ck (((leI 0 (gI l 5))&&(ltI (gI l 5) (gN l 2)))&&true)
 (ck (ltN ((Int.toNat (gI l 5))*1) (List.length (gL l 3)))
 (br ((List.getD (gL l 1) ((Int.toNat (gI l 5))*1) 0) != (List.getD (gL l 3) ((Int.toNat (gI l 5))*1) 0))
 (ex 0 [.B false])
 (nx 0 [.N (gN l 0),.L (gL l 1),.N (gN l 2),.L (gL l 3),.B (gB l 4),.I (wr .i64 ((gI l 5)+1))]))))))
 (ex 1 [.B (gB l 4)])
theorem L27_4.e0:LEq L27_4.O L27_4.H 0 L27_4.s0:=by intro τ next κ l;kernel_rfl
def L27_4:LStep P Cf:=LStep.mk1 (by decide) L27_4.e0
def L27_4.b:Option τ:=runE L27_4 fuel κ t l
def L27_4.E:LEnt P:=LStep.E L27_4
def F27.ps:List PV2:=[pR,pR]
def F27.sh:List PA:=[(PA.mk (PV3.v pB) [])]
def F27.O:Orc P:=⟨[],[L27_4.E],[],40⟩
def F27:Option τ :=
 br ((((List.length (gL l 0)):Nat):Int) != (((List.length (gL l 1)):Nat):Int))
 (k 0 [.B false])
 (L27_4.b 0 [.N (List.length (gL l 0)),.L (gL l 0),.N (List.length (gL l 1)),.L (gL l 1),.B false,.I 0]
 (fun j A=>(sw (k 0 [.B (gB A 0)])
 (sw (k 0 [.B true])
 (fun _=>none))) j))
theorem F27.eq:FEq F27.O 24 F27.ps F27.sh F27:=by intro τ l κ;kernel_rfl
def F27.E:Ent P:=mkF F27.eq
def L22_4.H:LHead:=⟨false,true,0,126980,126980,51,16,0,[(PS.mk (qM::qM::us 2 (pB::pI::us 21 [])) [])],[(Out.ret,(PS.mk (us 4 (pB::us 22 [])) [])),((Out.exit 0),(PS.mk (us 4 (pB::us 22 [])) []))]⟩
def L22_4.O:Orc P:=⟨[F27.E],[],[],40⟩
def L22_4.s0:Option τ :=
 br (ltI (gI l 5) (gN l 0))
 (ck (((leI 0 (gI l 5))&&(ltI (gI l 5) (gN l 0)))&&true)
 (ck (ltN ((Int.toNat (gI l 5))*1) (List.length (gLL l 1)))
 (ck (((leI 0 (gI l 5))&&(ltI (gI l 5) (gN l 2)))&&true)
 (ck (ltN ((Int.toNat (gI l 5))*1) (List.length (gLL l 3)))
 (ck ((eqM (List.length (List.getD (gLL l 1) ((Int.toNat (gI l 5))*1) [])) (List.length (List.getD (gLL l 1) ((Int.toNat (gI l 5))*1) [])))&&((eqM (List.length (List.getD (gLL l 3) ((Int.toNat (gI l 5))*1) [])) (List.length (List.getD (gLL l 3) ((Int.toNat (gI l 5))*1) [])))&&true))
 (F27 [.L (List.getD (gLL l 1) ((Int.toNat (gI l 5))*1) []),.L (List.getD (gLL l 3) ((Int.toNat (gI l 5))*1) [])]
 (fun j A=>(sw (br (!(gB A 0))
 (ex 0 [.B false])
 (nx 0 [.N (gN l 0),.LL (gLL l 1),.N (gN l 2),.LL (gLL l 3),.B (gB l 4),.I (wr .i64 ((gI l 5)+1))]))
 (fun _=>none)) j)))))))
 (ex 1 [.B (gB l 4)])
theorem L22_4.e0:LEq L22_4.O L22_4.H 0 L22_4.s0:=by intro τ next κ l;kernel_rfl
def L22_4:LStep P Cf:=LStep.mk1 (by decide) L22_4.e0
def L22_4.b:Option τ:=runE L22_4 fuel κ t l
def L22_4.E:LEnt P:=LStep.E L22_4
def F22.ps:List PV2:=[pM,pM]
def F22.sh:List PA:=[(PA.mk (PV3.v pB) [])]
def F22.O:Orc P:=⟨[],[L22_4.E],[],40⟩
def F22:Option τ :=
 br ((((List.length (gLL l 0)):Nat):Int) != (((List.length (gLL l 1)):Nat):Int))
 (k 0 [.B false])
 (L22_4.b 0 [.N (List.length (gLL l 0)),.LL (gLL l 0),.N (List.length (gLL l 1)),.LL (gLL l 1),.B false,.I 0]
 (fun j A=>(sw (k 0 [.B (gB A 0)])
 (sw (k 0 [.B true])
 (fun _=>none))) j))
theorem F22.eq:FEq F22.O 31 F22.ps F22.sh F22:=by intro τ l κ;kernel_rfl
def F22.E:Ent P:=mkF F22.eq
def F32.ps:List PV2:=[pI]
def F32.sh:List PA:=[(PA.mk (PV3.v (rr 0)) [cI])]
def F32.O:Orc P:=⟨[],[],[],40⟩
def F32:Option τ :=
 ck (((leI 0 (gI l 0))&&(leI (gI l 0) (gI l 0)))&&(leI ((gI l 0)*9) 1099511627776))
 (k 0 [.N (Int.toNat (gI l 0)),.L (List.replicate (Int.toNat (gI l 0)) (0:Int))])
theorem F32.eq:FEq F32.O 63 F32.ps F32.sh F32:=by intro τ l κ;kernel_rfl
def F32.E:Ent P:=mkF F32.eq
def L35_10.H:LHead:=⟨false,true,0,65546,65546,2014,990,0,[(PS.mk (us 1 ((pp 0)::(pp 1)::pI::pI::us 1 (pI::(rr 2)::pI::(rr 3)::pI::us 77 []))) mo0Xa)],[((Out.exit 2),(PS.mk (us 1 ((pp 0)::(pp 1)::pI::pI::us 1 (pI::(rr 2)::pI::(rr 3)::us 78 []))) mo0Xa))]⟩
def L35_10.O:Orc P:=⟨[],[],[],40⟩
def L35_10.s0:Option τ :=
 br (ltI (gI l 6) (gI l 1))
 (br (gtI (((gN l 10):Nat):Int) 0)
 (ck (!((((gN l 10):Nat):Int)==0))
 (ck (((leI 0 (Int.tmod (wr .i64 ((wr .i64 ((gI l 4)*(gI l 1)))+(gI l 6))) (((gN l 10):Nat):Int)))&&(ltI (Int.tmod (wr .i64 ((wr .i64 ((gI l 4)*(gI l 1)))+(gI l 6))) (((gN l 10):Nat):Int)) (((gN l 10):Nat):Int)))&&true)
 (ck (ltN ((Int.toNat (Int.tmod (wr .i64 ((wr .i64 ((gI l 4)*(gI l 1)))+(gI l 6))) (((gN l 10):Nat):Int)))*1) (List.length (gL l 11)))
 (ck (!((gI l 0)==0))
 (ck (((leI 0 (gI l 6))&&(ltI (gI l 6) (gN l 5)))&&true)
 (ck ((leN ((0+((Int.toNat (gI l 6))*1))+1) (List.length (gL l 15)))&&true)
 (nx 0 [.I (gI l 0),.I (gI l 1),.I (gI l 2),.N (gN l 3),.I (gI l 4),.N (gN l 5),.I (wr .i64 ((gI l 6)+1)),.I (gI l 7),.I (gI l 8),.I (gI l 9),.N (gN l 10),.L (gL l 11),.I (gI l 12),.I (gI l 13),.LL (gLL l 14),.L (List.set (gL l 15) (0+((Int.toNat (gI l 6))*1)) (Int.tmod (wr .i64 (List.getD (gL l 11) ((Int.toNat (Int.tmod (wr .i64 ((wr .i64 ((gI l 4)*(gI l 1)))+(gI l 6))) (((gN l 10):Nat):Int)))*1) 0)) (gI l 0)))])))))))
 (nx 0 [.I (gI l 0),.I (gI l 1),.I (gI l 2),.N (gN l 3),.I (gI l 4),.N (gN l 5),.I (wr .i64 ((gI l 6)+1)),.I (gI l 7),.I (gI l 8),.I (gI l 9),.N (gN l 10),.L (gL l 11),.I (gI l 12),.I (gI l 13),.LL (gLL l 14),.L (gL l 15)]))
 (ex 0 [.I (gI l 0),.I (gI l 1),.I (gI l 2),.N (gN l 3),.I (gI l 4),.N (gN l 5),.I (gI l 7),.I (gI l 8),.I (gI l 9),.N (gN l 10),.L (gL l 11),.I (gI l 12),.I (gI l 13),.LL (gLL l 14),.L (gL l 15)])
theorem L35_10.e0:LEq L35_10.O L35_10.H 0 L35_10.s0:=by intro τ next κ l;kernel_rfl
def L35_10:LStep P Cf:=LStep.mk1 (by decide) L35_10.e0
def L35_10.b:Option τ:=runE L35_10 fuel κ t l
def L35_10.E:LEnt P:=LStep.E L35_10
def L35_6.H:LHead:=⟨false,true,0,65542,65542,478,156,0,[(PS.mk (us 1 ((pp 0)::(pp 1)::pI::pI::us 1 (pI::(rr 2)::pI::us 79 []))) [(oG [(pK IntKind.u8),(pK IntKind.u8),(pK IntKind.u8),(PV2.v (PV1.sl (PC0.i IntKind.u8)))]),(oG [pI,pI,nS]),oM])],[((Out.exit 0),(PS.mk (us 2 ((pp 0)::pI::pI::us 2 ((rr 1)::us 80 []))) [(oG [pI,pI,nS]),oM]))]⟩
def L35_6.O:Orc P:=⟨[F32.E],[L35_10.E],[],40⟩
def L35_6.s0:Option τ :=
 br (ltI (gI l 4) (gI l 2))
 (F32 [.I (gI l 1)]
 (fun j A=>(sw (L35_10.b 0 [.I (gI l 0),.I (gI l 1),.I (gI l 2),.N (gN l 3),.I (gI l 4),.N (gN A 0),.I 0,.I (gI l 5),.I (gI l 6),.I (gI l 7),.N (gN l 8),.L (gL l 9),.I (gI l 10),.I (gI l 11),.LL (gLL l 12),.L (gL A 1)]
 (fun j B=>(sw (br (ltI (gI B 4) (gI B 1))
 (ck (((leI 0 (gI B 4))&&(ltI (gI B 4) (gN B 5)))&&true)
 (ck ((leN ((0+((Int.toNat (gI B 4))*1))+1) (List.length (gL B 14)))&&true)
 (ck ((eqM (gN B 5) (List.length (List.take ((gN B 5)*1) (List.drop 0 (List.set (gL B 14) (0+((Int.toNat (gI B 4))*1)) 1)))))&&true)
 (ck (((((eqM (List.length (gLL B 13)) ((gN B 3)*1))&&true)&&(eqM 1 1))&&(leN (((gN B 3)+1)*25) 1099511627776))&&true)
 (nx 0 [.I (gI B 0),.I (gI B 1),.I (gI B 2),.N ((gN B 3)+1),.I (wr .i64 ((gI B 4)+1)),.I (gI B 6),.I (gI B 7),.I (gI B 8),.N (gN B 9),.L (gL B 10),.I (gI B 11),.I (gI B 12),.LL ((gLL B 13)++(List.take 1 (List.drop 0 [(List.take ((gN B 5)*1) (List.drop 0 (List.set (gL B 14) (0+((Int.toNat (gI B 4))*1)) 1)))])))])))))
 (ck ((eqM (gN B 5) (List.length (List.take ((gN B 5)*1) (List.drop 0 (gL B 14)))))&&true)
 (ck (((((eqM (List.length (gLL B 13)) ((gN B 3)*1))&&true)&&(eqM 1 1))&&(leN (((gN B 3)+1)*25) 1099511627776))&&true)
 (nx 0 [.I (gI B 0),.I (gI B 1),.I (gI B 2),.N ((gN B 3)+1),.I (wr .i64 ((gI B 4)+1)),.I (gI B 6),.I (gI B 7),.I (gI B 8),.N (gN B 9),.L (gL B 10),.I (gI B 11),.I (gI B 12),.LL ((gLL B 13)++(List.take 1 (List.drop 0 [(List.take ((gN B 5)*1) (List.drop 0 (gL B 14)))])))]))))
 (fun _=>none)) j))
 (fun _=>none)) j))
 (ex 0 [.I (gI l 0),.I (gI l 1),.N (gN l 3),.I (gI l 10),.I (gI l 11),.LL (gLL l 12)])
theorem L35_6.e0:LEq L35_6.O L35_6.H 0 L35_6.s0:=by intro τ next κ l;kernel_rfl
def L35_6:LStep P Cf:=LStep.mk1 (by decide) L35_6.e0
def L35_6.b:Option τ:=runE L35_6 fuel κ t l
def L35_6.E:LEnt P:=LStep.E L35_6
def F29.ps:List PV2:=[pI]
def F29.sh:List PA:=[(PA.mk (PV3.v (PV2.agg [iI,iI,(r1 0)])) [cI]),(PA.mk (PV3.v (PV2.agg [iI,iI,PV1.nilS])) [])]
def F29.O:Orc P:=⟨[T76.E],[],[],40⟩
def F29:Option τ :=
 T76 [.I (gI l 0)]
 (fun j A=>(sw (k 0 [.I (gI A 0),.I (gI A 1),.N (gN A 2),.L (gL A 3)])
 (sw (k 1 [.I 0,.I 0])
 (fun _=>none))) j)
theorem F29.eq:FEq F29.O 60 F29.ps F29.sh F29:=by intro τ l κ;kernel_rfl
def F29.E:Ent P:=mkF F29.eq
def L80_3.H:LHead:=⟨false,true,0,241667,241667,398,138,0,[(PS.mk (us 1 (pI::qM::(pp 0)::us 3 ((rr 1)::pI::us 120 []))) [(oG [pI,pI,qR]),oM])],[((Out.exit 0),(PS.mk (us 1 (pI::us 1 ((pp 0)::us 3 ((rr 1)::us 121 [])))) [(oG [pI,pI,qR]),oM]))]⟩
def L80_3.O:Orc P:=⟨[],[],[],40⟩
def L80_3.s0:Option τ :=
 br (ltI (gI l 4) (gN l 1))
 (ck (((leI 0 (gI l 4))&&(ltI (gI l 4) (gN l 1)))&&true)
 (ck (ltN ((Int.toNat (gI l 4))*1) (List.length (gLL l 2)))
 (ck (((eqM (List.length (List.getD (gLL l 2) ((Int.toNat (gI l 4))*1) [])) ((List.length (List.getD (gLL l 2) ((Int.toNat (gI l 4))*1) []))*1))&&(leN ((0+(List.length (List.getD (gLL l 2) ((Int.toNat (gI l 4))*1) [])))*9) 1099511627776))&&true)
 (ck ((eqM (0+(List.length (List.getD (gLL l 2) ((Int.toNat (gI l 4))*1) []))) (List.length (List.take ((0+(List.length (List.getD (gLL l 2) ((Int.toNat (gI l 4))*1) [])))*1) (List.drop 0 ([]++(List.getD (gLL l 2) ((Int.toNat (gI l 4))*1) []))))))&&true)
 (ck (((((eqM (List.length (gLL l 9)) ((gN l 3)*1))&&true)&&(eqM 1 1))&&(leN (((gN l 3)+1)*25) 1099511627776))&&true)
 (nx 0 [.I (gI l 0),.N (gN l 1),.LL (gLL l 2),.N ((gN l 3)+1),.I (wr .i64 ((gI l 4)+1)),.I (gI l 5),.I (gI l 6),.N (gN l 7),.L (gL l 8),.LL ((gLL l 9)++(List.take 1 (List.drop 0 [(List.take ((0+(List.length (List.getD (gLL l 2) ((Int.toNat (gI l 4))*1) [])))*1) (List.drop 0 ([]++(List.getD (gLL l 2) ((Int.toNat (gI l 4))*1) []))))])))]))))))
 (ex 0 [.I (gI l 0),.N (gN l 3),.I (gI l 5),.I (gI l 6),.N (gN l 7),.L (gL l 8),.LL (gLL l 9)])
theorem L80_3.e0:LEq L80_3.O L80_3.H 0 L80_3.s0:=by intro τ next κ l;kernel_rfl
def L80_3:LStep P Cf:=LStep.mk1 (by decide) L80_3.e0
def L80_3.b:Option τ:=runE L80_3 fuel κ t l
def L80_3.E:LEnt P:=LStep.E L80_3
def L80_11.H:LHead:=⟨false,true,0,241675,241675,3722,3722,0,[(PS.mk (us 1 (pI::us 1 ((pp 0)::us 3 ((rr 1)::us 1 (pI::pI::pI::us 117 []))))) [(oG [pI,pI,qR]),oM])],[((Out.exit 4),(PS.mk (us 1 (pI::us 1 ((pp 0)::us 3 ((rr 1)::us 1 (pI::pI::pI::us 117 []))))) [(oG [pI,pI,qR]),oM]))]⟩
def L80_11.O:Orc P:=⟨[],[],[],40⟩
def L80_11.s0:Option τ :=
 br (ltI (gI l 4) (gN l 1))
 (ck (((leI 0 (gI l 4))&&(ltI (gI l 4) (gN l 1)))&&true)
 (ck (ltN (0+((Int.toNat (gI l 4))*1)) (List.length (gLL l 9)))
 (ck (((leI 0 (gI l 3))&&(ltI (gI l 3) (((List.length (List.getD (gLL l 9) (0+((Int.toNat (gI l 4))*1)) [])):Nat):Int)))&&true)
 (ck (ltN ((Int.toNat (gI l 3))*1) (List.length (List.getD (gLL l 9) (0+((Int.toNat (gI l 4))*1)) [])))
 (br ((List.getD (List.getD (gLL l 9) (0+((Int.toNat (gI l 4))*1)) []) ((Int.toNat (gI l 3))*1) 0)==0)
 (nx 0 [.I (gI l 0),.N (gN l 1),.I (gI l 2),.I (gI l 3),.I (wr .i64 ((gI l 4)+1)),.I (gI l 5),.I (gI l 6),.N (gN l 7),.L (gL l 8),.LL (gLL l 9)])
 (ex 0 [.I (gI l 0),.N (gN l 1),.I (gI l 2),.I (gI l 3),.I (gI l 4),.I (gI l 5),.I (gI l 6),.N (gN l 7),.L (gL l 8),.LL (gLL l 9)]))))))
 (ex 0 [.I (gI l 0),.N (gN l 1),.I (gI l 2),.I (gI l 3),.I (gI l 4),.I (gI l 5),.I (gI l 6),.N (gN l 7),.L (gL l 8),.LL (gLL l 9)])
theorem L80_11.e0:LEq L80_11.O L80_11.H 0 L80_11.s0:=by intro τ next κ l;kernel_rfl
def L80_11:LStep P Cf:=LStep.mk1 (by decide) L80_11.e0
def L80_11.b:Option τ:=runE L80_11 fuel κ t l
def L80_11.E:LEnt P:=LStep.E L80_11
def L45_3.H:LHead:=⟨false,true,0,389123,389123,398,128,0,[(PS.mk (us 1 (pI::qR::(pp 0)::us 3 ((rr 1)::pI::us 18 []))) [(oG [pI,pI,qR]),oI])],[((Out.exit 0),(PS.mk (us 7 ((rr 0)::us 19 [])) [oI]))]⟩
def L45_3.O:Orc P:=⟨[T89.E],[],[],40⟩
def L45_3.s0:Option τ :=
 br (ltI (gI l 4) (gN l 1))
 (ck (((leI 0 (gI l 4))&&(ltI (gI l 4) (gN l 1)))&&true)
 (ck (ltN ((Int.toNat (gI l 4))*1) (List.length (gL l 2)))
 (ck (((eqM (gN l 7) (List.length (gL l 8)))&&true)&&true)
 (T89 [.I (gI l 5),.I (gI l 6),.L (gL l 8),.I (gI l 0),.I (List.getD (gL l 2) ((Int.toNat (gI l 4))*1) 0)]
 (fun j A=>(sw (ck (((((eqM (List.length (gL l 9)) ((gN l 3)*1))&&true)&&(eqM 1 1))&&(leN (((gN l 3)+1)*9) 1099511627776))&&true)
 (nx 0 [.I (gI l 0),.N (gN l 1),.L (gL l 2),.N ((gN l 3)+1),.I (wr .i64 ((gI l 4)+1)),.I (gI l 5),.I (gI l 6),.N (gN l 7),.L (gL l 8),.L ((gL l 9)++(List.take 1 (List.drop 0 [(gI A 0)])))]))
 (fun _=>none)) j)))))
 (ex 0 [.N (gN l 3),.L (gL l 9)])
theorem L45_3.e0:LEq L45_3.O L45_3.H 0 L45_3.s0:=by intro τ next κ l;kernel_rfl
def L45_3:LStep P Cf:=LStep.mk1 (by decide) L45_3.e0
def L45_3.b:Option τ:=runE L45_3 fuel κ t l
def L45_3.E:LEnt P:=LStep.E L45_3
def F45.ps:List PV2:=[(PV2.agg [iI,iI,aI]),pI,pR]
def F45.sh:List PA:=[(PA.mk (PV3.v (rr 0)) [cI])]
def F45.O:Orc P:=⟨[],[L45_3.E],[],40⟩
def F45:Option τ :=
 L45_3.b 0 [.I (gI l 3),.N (List.length (gL l 4)),.L (gL l 4),.N 0,.I 0,.I (gI l 0),.I (gI l 1),.N (List.length (gL l 2)),.L (gL l 2),.L []]
 (fun j A=>(sw (k 0 [.N (gN A 0),.L (gL A 1)])
 (fun _=>none)) j)
theorem F45.eq:FEq F45.O 95 F45.ps F45.sh F45:=by intro τ l κ;kernel_rfl
def F45.E:Ent P:=mkF F45.eq
def L30_3.H:LHead:=⟨false,true,0,196611,196611,398,128,0,[(PS.mk (us 1 (qR::qR::(pp 0)::us 3 ((rr 1)::pI::us 21 []))) [(oG [pI,pI,qR]),oI])],[((Out.exit 0),(PS.mk (us 7 ((rr 0)::us 22 [])) [oI]))]⟩
def L30_3.O:Orc P:=⟨[T77.E],[],[],40⟩
def L30_3.s0:Option τ :=
 br (ltI (gI l 5) (gN l 0))
 (ck (((leI 0 (gI l 5))&&(ltI (gI l 5) (gN l 0)))&&true)
 (ck (ltN ((Int.toNat (gI l 5))*1) (List.length (gL l 1)))
 (ck (((leI 0 (gI l 5))&&(ltI (gI l 5) (gN l 2)))&&true)
 (ck (ltN ((Int.toNat (gI l 5))*1) (List.length (gL l 3)))
 (ck (((eqM (gN l 8) (List.length (gL l 9)))&&true)&&true)
 (T77 [.I (gI l 6),.I (gI l 7),.L (gL l 9),.I (List.getD (gL l 1) ((Int.toNat (gI l 5))*1) 0),.I (List.getD (gL l 3) ((Int.toNat (gI l 5))*1) 0)]
 (fun j A=>(sw (ck (((((eqM (List.length (gL l 10)) ((gN l 4)*1))&&true)&&(eqM 1 1))&&(leN (((gN l 4)+1)*9) 1099511627776))&&true)
 (nx 0 [.N (gN l 0),.L (gL l 1),.N (gN l 2),.L (gL l 3),.N ((gN l 4)+1),.I (wr .i64 ((gI l 5)+1)),.I (gI l 6),.I (gI l 7),.N (gN l 8),.L (gL l 9),.L ((gL l 10)++(List.take 1 (List.drop 0 [(gI A 0)])))]))
 (fun _=>none)) j)))))))
 (ex 0 [.N (gN l 4),.L (gL l 10)])
theorem L30_3.e0:LEq L30_3.O L30_3.H 0 L30_3.s0:=by intro τ next κ l;kernel_rfl
def L30_3:LStep P Cf:=LStep.mk1 (by decide) L30_3.e0
def L30_3.b:Option τ:=runE L30_3 fuel κ t l
def L30_3.E:LEnt P:=LStep.E L30_3
def F30.ps:List PV2:=[(PV2.agg [iI,iI,aI]),pR,pR]
def F30.sh:List PA:=[(PA.mk (PV3.v (rr 0)) [cI])]
def F30.O:Orc P:=⟨[],[L30_3.E],[],40⟩
def F30:Option τ :=
 L30_3.b 0 [.N (List.length (gL l 3)),.L (gL l 3),.N (List.length (gL l 4)),.L (gL l 4),.N 0,.I 0,.I (gI l 0),.I (gI l 1),.N (List.length (gL l 2)),.L (gL l 2),.L []]
 (fun j A=>(sw (k 0 [.N (gN A 0),.L (gL A 1)])
 (fun _=>none)) j)
theorem F30.eq:FEq F30.O 48 F30.ps F30.sh F30:=by intro τ l κ;kernel_rfl
def F30.E:Ent P:=mkF F30.eq
def L80_19.H:LHead:=⟨false,true,0,241683,241683,34442,1674,0,[(PS.mk (us 1 (pI::us 1 ((pp 0)::us 3 ((rr 1)::us 1 (pI::pI::us 4 (pI::us 113 [])))))) [(oG [pI,pI,qR]),oM])],[((Out.exit 6),(PS.mk (us 1 (pI::us 1 ((pp 0)::us 3 ((rr 1)::us 1 (pI::pI::us 118 []))))) [(oG [pI,pI,qR]),oM]))]⟩
def L80_19.O:Orc P:=⟨[T79.E,F45.E,F30.E],[],[],40⟩
def L80_19.s0:Option τ :=
 br (ltI (gI l 4) (gN l 1))
 (br ((gI l 4) != (gI l 2))
 (ck (((leI 0 (gI l 4))&&(ltI (gI l 4) (gN l 1)))&&true)
 (ck (ltN (0+((Int.toNat (gI l 4))*1)) (List.length (gLL l 9)))
 (ck (((leI 0 (gI l 4))&&(ltI (gI l 4) (gN l 1)))&&true)
 (ck (ltN (0+((Int.toNat (gI l 4))*1)) (List.length (gLL l 9)))
 (ck (((leI 0 (gI l 3))&&(ltI (gI l 3) (((List.length (List.getD (gLL l 9) (0+((Int.toNat (gI l 4))*1)) [])):Nat):Int)))&&true)
 (ck (ltN ((Int.toNat (gI l 3))*1) (List.length (List.getD (gLL l 9) (0+((Int.toNat (gI l 4))*1)) [])))
 (ck (((eqM (gN l 7) (List.length (gL l 8)))&&true)&&true)
 (T79 [.I (gI l 5),.I (gI l 6),.L (gL l 8),.I (List.getD (List.getD (gLL l 9) (0+((Int.toNat (gI l 4))*1)) []) ((Int.toNat (gI l 3))*1) 0)]
 (fun j A=>(sw (ck (((leI 0 (gI l 2))&&(ltI (gI l 2) (gN l 1)))&&true)
 (ck (ltN (0+((Int.toNat (gI l 2))*1)) (List.length (gLL l 9)))
 (ck (((eqM (gN l 7) (List.length (gL l 8)))&&true)&&((eqM (List.length (List.getD (gLL l 9) (0+((Int.toNat (gI l 2))*1)) [])) (List.length (List.getD (gLL l 9) (0+((Int.toNat (gI l 2))*1)) [])))&&true))
 (F45 [.I (gI l 5),.I (gI l 6),.L (gL l 8),.I (gI A 0),.L (List.getD (gLL l 9) (0+((Int.toNat (gI l 2))*1)) [])]
 (fun j B=>(sw (ck (((eqM (gN l 7) (List.length (gL l 8)))&&true)&&((eqM (List.length (List.getD (gLL l 9) (0+((Int.toNat (gI l 4))*1)) [])) (List.length (List.getD (gLL l 9) (0+((Int.toNat (gI l 4))*1)) [])))&&((eqM (gN B 0) (List.length (List.take ((gN B 0)*1) (List.drop 0 (gL B 1)))))&&true)))
 (F30 [.I (gI l 5),.I (gI l 6),.L (gL l 8),.L (List.getD (gLL l 9) (0+((Int.toNat (gI l 4))*1)) []),.L (List.take ((gN B 0)*1) (List.drop 0 (gL B 1)))]
 (fun j C=>(sw (ck (((leI 0 (gI l 4))&&(ltI (gI l 4) (gN l 1)))&&true)
 (ck ((leN ((0+((Int.toNat (gI l 4))*1))+1) (List.length (gLL l 9)))&&((eqM (gN C 0) (List.length (List.take ((gN C 0)*1) (List.drop 0 (gL C 1)))))&&true))
 (nx 0 [.I (gI l 0),.N (gN l 1),.I (gI l 2),.I (gI l 3),.I (wr .i64 ((gI l 4)+1)),.I (gI l 5),.I (gI l 6),.N (gN l 7),.L (gL l 8),.LL (List.set (gLL l 9) (0+((Int.toNat (gI l 4))*1)) (List.take ((gN C 0)*1) (List.drop 0 (gL C 1))))])))
 (fun _=>none)) j)))
 (fun _=>none)) j)))))
 (fun _=>none)) j)))))))))
 (nx 0 [.I (gI l 0),.N (gN l 1),.I (gI l 2),.I (gI l 3),.I (wr .i64 ((gI l 4)+1)),.I (gI l 5),.I (gI l 6),.N (gN l 7),.L (gL l 8),.LL (gLL l 9)]))
 (ex 0 [.I (gI l 0),.N (gN l 1),.I (gI l 2),.I (gI l 3),.I (gI l 5),.I (gI l 6),.N (gN l 7),.L (gL l 8),.LL (gLL l 9)])
theorem L80_19.e0:LEq L80_19.O L80_19.H 0 L80_19.s0:=by intro τ next κ l;kernel_rfl
def L80_19:LStep P Cf:=LStep.mk1 (by decide) L80_19.e0
def L80_19.b:Option τ:=runE L80_19 fuel κ t l
def L80_19.E:LEnt P:=LStep.E L80_19
def L80_8.H:LHead:=⟨false,true,0,241672,241672,1674,640,0,[(PS.mk (us 1 (pI::us 1 ((pp 0)::us 3 ((rr 1)::us 1 (pI::pI::us 118 []))))) [(oG [pI,pI,qR]),oM])],[((Out.exit 2),(PS.mk (us 7 ((rr 0)::us 1 (pI::us 119 []))) [oM]))]⟩
def L80_8.O:Orc P:=⟨[T111.E,F45.E],[L80_11.E,L80_19.E],[],40⟩
def L80_8.s0:Option τ :=
 br (ltI (gI l 3) (gI l 0))
 (br (ltI (gI l 2) (gN l 1))
 (L80_11.b 0 [.I (gI l 0),.N (gN l 1),.I (gI l 2),.I (gI l 3),.I (gI l 2),.I (gI l 4),.I (gI l 5),.N (gN l 6),.L (gL l 7),.LL (gLL l 8)]
 (fun j A=>(sw (br ((gI A 4)==(((gN A 1):Nat):Int))
 (nx 0 [.I (gI A 0),.N (gN A 1),.I (gI A 2),.I (wr .i64 ((gI A 3)+1)),.I (gI A 5),.I (gI A 6),.N (gN A 7),.L (gL A 8),.LL (gLL A 9)])
 (ck (((leI 0 (gI A 4))&&(ltI (gI A 4) (gN A 1)))&&true)
 (ck (ltN (0+((Int.toNat (gI A 4))*1)) (List.length (gLL A 9)))
 (ck (((leI 0 (gI A 2))&&(ltI (gI A 2) (gN A 1)))&&true)
 (ck (ltN (0+((Int.toNat (gI A 2))*1)) (List.length (gLL A 9)))
 (ck (((leI 0 (gI A 4))&&(ltI (gI A 4) (gN A 1)))&&true)
 (ck ((leN ((0+((Int.toNat (gI A 4))*1))+1) (List.length (gLL A 9)))&&((eqM (List.length (List.getD (gLL A 9) (0+((Int.toNat (gI A 2))*1)) [])) (List.length (List.getD (gLL A 9) (0+((Int.toNat (gI A 2))*1)) [])))&&true))
 (ck (((leI 0 (gI A 3))&&(ltI (gI A 3) (((List.length (List.getD (gLL A 9) (0+((Int.toNat (gI A 4))*1)) [])):Nat):Int)))&&true)
 (ck (ltN ((Int.toNat (gI A 3))*1) (List.length (List.getD (gLL A 9) (0+((Int.toNat (gI A 4))*1)) [])))
 (ck (((eqM (gN A 7) (List.length (gL A 8)))&&true)&&true)
 (T111 [.I (gI A 5),.I (gI A 6),.L (gL A 8),.I (List.getD (List.getD (gLL A 9) (0+((Int.toNat (gI A 4))*1)) []) ((Int.toNat (gI A 3))*1) 0)]
 (fun j B=>(sw (ck (((eqM (gN A 7) (List.length (gL A 8)))&&true)&&((eqM (List.length (List.getD (gLL A 9) (0+((Int.toNat (gI A 4))*1)) [])) (List.length (List.getD (gLL A 9) (0+((Int.toNat (gI A 4))*1)) [])))&&true))
 (F45 [.I (gI A 5),.I (gI A 6),.L (gL A 8),.I (gI B 0),.L (List.getD (gLL A 9) (0+((Int.toNat (gI A 4))*1)) [])]
 (fun j C=>(sw (ck (((leI 0 (gI A 2))&&(ltI (gI A 2) (gN A 1)))&&true)
 (ck ((leN ((0+((Int.toNat (gI A 2))*1))+1) (List.length (List.set (gLL A 9) (0+((Int.toNat (gI A 4))*1)) (List.getD (gLL A 9) (0+((Int.toNat (gI A 2))*1)) []))))&&((eqM (gN C 0) (List.length (List.take ((gN C 0)*1) (List.drop 0 (gL C 1)))))&&true))
 (L80_19.b 0 [.I (gI A 0),.N (gN A 1),.I (gI A 2),.I (gI A 3),.I 0,.I (gI A 5),.I (gI A 6),.N (gN A 7),.L (gL A 8),.LL (List.set (List.set (gLL A 9) (0+((Int.toNat (gI A 4))*1)) (List.getD (gLL A 9) (0+((Int.toNat (gI A 2))*1)) [])) (0+((Int.toNat (gI A 2))*1)) (List.take ((gN C 0)*1) (List.drop 0 (gL C 1))))]
 (fun j D=>(sw (nx 0 [.I (gI D 0),.N (gN D 1),.I (wr .i64 ((gI D 2)+1)),.I (wr .i64 ((gI D 3)+1)),.I (gI D 4),.I (gI D 5),.N (gN D 6),.L (gL D 7),.LL (gLL D 8)])
 (fun _=>none)) j))))
 (fun _=>none)) j)))
 (fun _=>none)) j))))))))))))
 (fun _=>none)) j))
 (ex 0 [.N (gN l 1),.I (gI l 2),.LL (gLL l 8)]))
 (ex 0 [.N (gN l 1),.I (gI l 2),.LL (gLL l 8)])
theorem L80_8.e0:LEq L80_8.O L80_8.H 0 L80_8.s0:=by intro τ next κ l;kernel_rfl
def L80_8:LStep P Cf:=LStep.mk1 (by decide) L80_8.e0
def L80_8.b:Option τ:=runE L80_8 fuel κ t l
def L80_8.E:LEnt P:=LStep.E L80_8
def F80.ps:List PV2:=[(PV2.agg [iI,iI,aI]),pI,pM]
def F80.sh:List PA:=[(PA.mk (PV3.v (rr 0)) [cM]),(PA.mk (PV3.v (PV2.v (PV1.sl PC0.e))) [])]
def F80.O:Orc P:=⟨[],[L80_3.E,L80_8.E],[],40⟩
def F80:Option τ :=
 L80_3.b 0 [.I (gI l 3),.N (List.length (gLL l 4)),.LL (gLL l 4),.N 0,.I 0,.I (gI l 0),.I (gI l 1),.N (List.length (gL l 2)),.L (gL l 2),.LL []]
 (fun j A=>(sw (L80_8.b 0 [.I (gI A 0),.N (gN A 1),.I 0,.I 0,.I (gI A 2),.I (gI A 3),.N (gN A 4),.L (gL A 5),.LL (gLL A 6)]
 (fun j B=>(sw (ck (((((leI 0 (gI B 1))&&(leI (gI B 1) (gI B 1)))&&(leI (gI B 1) (gN B 0)))&&true)&&true)
 (br (ltI 0 (gI B 1))
 (k 0 [.N ((Int.toNat (gI B 1))-0),.LL (gLL B 2)])
 (k 1 [.N 0])))
 (fun _=>none)) j))
 (fun _=>none)) j)
theorem F80.eq:FEq F80.O 59 F80.ps F80.sh F80:=by intro τ l κ;kernel_rfl
def F80.E:Ent P:=mkF F80.eq
def F35.ps:List PV2:=[pRaw13]
def F35.sh:List PA:=[(PA.mk (PV3.v (PV2.agg [iI,iI,(r1 0)])) [cM]),(PA.mk (PV3.v (PV2.agg [iI,iI,(PV1.sl PC0.e)])) [])]
def F35.O:Orc P:=⟨[F29.E,F80.E],[L35_6.E],[],40⟩
def F35:Option τ :=
 ck (((leI 0 (Int.tmod (gI l 0) 6))&&(ltI (Int.tmod (gI l 0) 6) 6))&&true)
 (ck (ltN (0+((Int.toNat (Int.tmod (gI l 0) 6))*1)) 6)
 (ck (((leI 0 (Int.tmod (gI l 0) 6))&&(ltI (Int.tmod (gI l 0) 6) 6))&&true)
 (ck (ltN (0+((Int.toNat (Int.tmod (gI l 0) 6))*1)) 6)
 (ck (!((wr .i64 ((List.getD [8,5,4,3,2,2] (0+((Int.toNat (Int.tmod (gI l 0) 6))*1)) 0)+1))==0))
 (L35_6.b 0 [.I (List.getD [2,3,4,5,7,8] (0+((Int.toNat (Int.tmod (gI l 0) 6))*1)) 0),.I (wr .i64 (1+(wr .i64 (Int.tmod (gI l 1) 10)))),.I (Int.tmod (wr .i64 (gI l 2)) (wr .i64 ((List.getD [8,5,4,3,2,2] (0+((Int.toNat (Int.tmod (gI l 0) 6))*1)) 0)+1))),.N 0,.I 0,.I (gI l 0),.I (gI l 1),.I (gI l 2),.N (List.length (gL l 3)),.L (gL l 3),.I 0,.I 0,.LL []]
 (fun j A=>(sw (F29 [.I (gI A 0)]
 (fun j B=>(sw (ck (((eqM (gN B 2) (List.length (List.take ((gN B 2)*1) (List.drop 0 (gL B 3)))))&&true)&&((eqM (gN A 2) (List.length (List.take ((gN A 2)*1) (List.drop 0 (gLL A 5)))))&&true))
 (F80 [.I (gI B 0),.I (gI B 1),.L (List.take ((gN B 2)*1) (List.drop 0 (gL B 3))),.I (gI A 1),.LL (List.take ((gN A 2)*1) (List.drop 0 (gLL A 5)))]
 (fun j C=>(sw (k 0 [.I (gI A 0),.I (gI A 1),.N (gN C 0),.LL (gLL C 1)])
 (sw (k 1 [.I (gI A 0),.I (gI A 1),.N (gN C 0)])
 (fun _=>none))) j)))
 (sw (ck ((eqM (gN A 2) (List.length (List.take ((gN A 2)*1) (List.drop 0 (gLL A 5)))))&&true)
 (F80 [.I (gI B 0),.I (gI B 1),.L [],.I (gI A 1),.LL (List.take ((gN A 2)*1) (List.drop 0 (gLL A 5)))]
 (fun j C=>(sw (k 0 [.I (gI A 0),.I (gI A 1),.N (gN C 0),.LL (gLL C 1)])
 (sw (k 1 [.I (gI A 0),.I (gI A 1),.N (gN C 0)])
 (fun _=>none))) j)))
 (fun _=>none))) j))
 (fun _=>none)) j))))))
theorem F35.eq:FEq F35.O 16 F35.ps F35.sh F35:=by intro τ l κ;kernel_rfl
def F35.E:Ent P:=mkF F35.eq
def L61_3.H:LHead:=⟨false,true,0,143363,143363,26,8,0,[(PS.mk (us 1 ((pp 0)::us 1 (pI::pI::us 13 []))) [(oG [pI,pI,qM])])],[((Out.exit 0),(PS.mk (us 3 (pI::us 14 [])) []))]⟩
def L61_3.O:Orc P:=⟨[],[],[],40⟩
def L61_3.s0:Option τ :=
 br (ltI (gI l 1) (gN l 4))
 (nx 0 [.I (min (wr .i64 ((gI l 0)*(gI l 2))) 4097),.I (wr .i64 ((gI l 1)+1)),.I (gI l 2),.I (gI l 3),.N (gN l 4),.LL (gLL l 5)])
 (ex 0 [.I (gI l 0)])
theorem L61_3.e0:LEq L61_3.O L61_3.H 0 L61_3.s0:=by intro τ next κ l;kernel_rfl
def L61_3:LStep P Cf:=LStep.mk1 (by decide) L61_3.e0
def L61_3.b:Option τ:=runE L61_3 fuel κ t l
def L61_3.E:LEnt P:=LStep.E L61_3
def F61.ps:List PV2:=[(PV2.agg [iI,iI,aM])]
def F61.sh:List PA:=[(PA.mk (PV3.v pI) [])]
def F61.O:Orc P:=⟨[],[L61_3.E],[],40⟩
def F61:Option τ :=
 L61_3.b 0 [.I 1,.I 0,.I (gI l 0),.I (gI l 1),.N (List.length (gLL l 2)),.LL (gLL l 2)]
 (fun j A=>(sw (k 0 [.I (gI A 0)])
 (fun _=>none)) j)
theorem F61.eq:FEq F61.O 35 F61.ps F61.sh F61:=by intro τ l κ;kernel_rfl
def F61.E:Ent P:=mkF F61.eq
def L106_3.H:LHead:=⟨false,true,0,442371,442371,102,32,0,[(PS.mk (us 1 (pI::(pp 0)::us 2 ((rr 1)::pI::us 23 []))) [(oG [pI,pI,qM]),oI])],[((Out.exit 0),(PS.mk (us 5 ((rr 0)::us 24 [])) [oI]))]⟩
def L106_3.O:Orc P:=⟨[],[],[],40⟩
def L106_3.s0:Option τ :=
 br (geI (gI l 2) 0)
 (ck (!((gI l 3)==0))
 (ck (((leI 0 (gI l 2))&&(ltI (gI l 2) (gN l 1)))&&true)
 (ck ((leN ((0+((Int.toNat (gI l 2))*1))+1) (List.length (gL l 7)))&&true)
 (ck (!((gI l 3)==0))
 (nx 0 [.I (wr .i64 (Int.tdiv (gI l 0) (gI l 3))),.N (gN l 1),.I (wr .i64 ((gI l 2)-1)),.I (gI l 3),.I (gI l 4),.N (gN l 5),.LL (gLL l 6),.L (List.set (gL l 7) (0+((Int.toNat (gI l 2))*1)) (Int.tmod (gI l 0) (gI l 3)))])))))
 (ex 0 [.N (gN l 1),.L (gL l 7)])
theorem L106_3.e0:LEq L106_3.O L106_3.H 0 L106_3.s0:=by intro τ next κ l;kernel_rfl
def L106_3:LStep P Cf:=LStep.mk1 (by decide) L106_3.e0
def L106_3.b:Option τ:=runE L106_3 fuel κ t l
def L106_3.E:LEnt P:=LStep.E L106_3
def F106.ps:List PV2:=[(PV2.agg [iI,iI,aM]),pI]
def F106.sh:List PA:=[(PA.mk (PV3.v (rr 0)) [cI])]
def F106.O:Orc P:=⟨[],[L106_3.E],[],40⟩
def F106:Option τ :=
 ck (((leI 0 (List.length (gLL l 2)))&&(leI (((List.length (gLL l 2)):Nat):Int) (((List.length (gLL l 2)):Nat):Int)))&&(leI ((((List.length (gLL l 2)):Nat):Int)*9) 1099511627776))
 (L106_3.b 0 [.I (gI l 3),.N (Int.toNat (((List.length (gLL l 2)):Nat):Int)),.I (wr .i64 ((((Int.toNat (((List.length (gLL l 2)):Nat):Int)):Nat):Int)-1)),.I (gI l 0),.I (gI l 1),.N (List.length (gLL l 2)),.LL (gLL l 2),.L (List.replicate (Int.toNat (((List.length (gLL l 2)):Nat):Int)) (0:Int))]
 (fun j A=>(sw (k 0 [.N (gN A 0),.L (gL A 1)])
 (fun _=>none)) j))
theorem F106.eq:FEq F106.O 108 F106.ps F106.sh F106:=by intro τ l κ;kernel_rfl
def F106.E:Ent P:=mkF F106.eq
def L96_3.H:LHead:=⟨false,true,0,274435,274435,230,64,0,[(PS.mk (us 1 (qR::(pp 0)::us 2 ((pp 1)::(rr 2)::pI::us 27 []))) [(oG [pI,pI,qM]),(oG [pI,pI,(rr 3)]),oI,oI])],[((Out.exit 0),(PS.mk (us 6 ((rr 0)::us 28 [])) [oI]))]⟩
def L96_3.O:Orc P:=⟨[F45.E,F30.E],[],[],40⟩
def L96_3.s0:Option τ :=
 br (ltI (gI l 3) (gN l 0))
 (ck (((leI 0 (gI l 3))&&(ltI (gI l 3) (gN l 0)))&&true)
 (ck (ltN ((Int.toNat (gI l 3))*1) (List.length (gL l 1)))
 (ck (((leI 0 (gI l 3))&&(ltI (gI l 3) (gN l 6)))&&true)
 (ck (ltN ((Int.toNat (gI l 3))*1) (List.length (gLL l 7)))
 (ck (((eqM (gN l 10) (List.length (List.take ((gN l 10)*1) (List.drop 0 (gL l 12)))))&&true)&&((eqM (List.length (List.getD (gLL l 7) ((Int.toNat (gI l 3))*1) [])) (List.length (List.getD (gLL l 7) ((Int.toNat (gI l 3))*1) [])))&&true))
 (F45 [.I (gI l 8),.I (gI l 9),.L (List.take ((gN l 10)*1) (List.drop 0 (gL l 12))),.I (List.getD (gL l 1) ((Int.toNat (gI l 3))*1) 0),.L (List.getD (gLL l 7) ((Int.toNat (gI l 3))*1) [])]
 (fun j A=>(sw (ck (((eqM (gN l 10) (List.length (List.take ((gN l 10)*1) (List.drop 0 (gL l 12)))))&&true)&&((eqM (gN l 2) (List.length (List.take ((gN l 2)*1) (List.drop 0 (gL l 11)))))&&((eqM (gN A 0) (List.length (List.take ((gN A 0)*1) (List.drop 0 (gL A 1)))))&&true)))
 (F30 [.I (gI l 8),.I (gI l 9),.L (List.take ((gN l 10)*1) (List.drop 0 (gL l 12))),.L (List.take ((gN l 2)*1) (List.drop 0 (gL l 11))),.L (List.take ((gN A 0)*1) (List.drop 0 (gL A 1)))]
 (fun j B=>(sw (nx 0 [.N (gN l 0),.L (gL l 1),.N (gN B 0),.I (wr .i64 ((gI l 3)+1)),.I (gI l 4),.I (gI l 5),.N (gN l 6),.LL (gLL l 7),.I (gI l 8),.I (gI l 9),.N (gN l 10),.L (gL B 1),.L (gL l 12)])
 (fun _=>none)) j)))
 (fun _=>none)) j)))))))
 (ex 0 [.N (gN l 2),.L (gL l 11)])
theorem L96_3.e0:LEq L96_3.O L96_3.H 0 L96_3.s0:=by intro τ next κ l;kernel_rfl
def L96_3:LStep P Cf:=LStep.mk1 (by decide) L96_3.e0
def L96_3.b:Option τ:=runE L96_3 fuel κ t l
def L96_3.E:LEnt P:=LStep.E L96_3
def L96_3_1.H:LHead:=⟨false,true,0,274435,274435,230,64,0,[(PS.mk (us 1 (qR::(pp 0)::us 2 ((pp 1)::(rr 2)::pI::us 27 []))) [(oG [pI,pI,qM]),(oG [pI,pI,nS]),oI])],[((Out.exit 0),(PS.mk (us 6 ((rr 0)::us 28 [])) [oI]))]⟩
def L96_3_1.O:Orc P:=⟨[F45.E,F30.E],[],[],40⟩
def L96_3_1.s0:Option τ :=
 br (ltI (gI l 3) (gN l 0))
 (ck (((leI 0 (gI l 3))&&(ltI (gI l 3) (gN l 0)))&&true)
 (ck (ltN ((Int.toNat (gI l 3))*1) (List.length (gL l 1)))
 (ck (((leI 0 (gI l 3))&&(ltI (gI l 3) (gN l 6)))&&true)
 (ck (ltN ((Int.toNat (gI l 3))*1) (List.length (gLL l 7)))
 (ck ((eqM (List.length (List.getD (gLL l 7) ((Int.toNat (gI l 3))*1) [])) (List.length (List.getD (gLL l 7) ((Int.toNat (gI l 3))*1) [])))&&true)
 (F45 [.I (gI l 8),.I (gI l 9),.L [],.I (List.getD (gL l 1) ((Int.toNat (gI l 3))*1) 0),.L (List.getD (gLL l 7) ((Int.toNat (gI l 3))*1) [])]
 (fun j A=>(sw (ck ((eqM (gN l 2) (List.length (List.take ((gN l 2)*1) (List.drop 0 (gL l 10)))))&&((eqM (gN A 0) (List.length (List.take ((gN A 0)*1) (List.drop 0 (gL A 1)))))&&true))
 (F30 [.I (gI l 8),.I (gI l 9),.L [],.L (List.take ((gN l 2)*1) (List.drop 0 (gL l 10))),.L (List.take ((gN A 0)*1) (List.drop 0 (gL A 1)))]
 (fun j B=>(sw (nx 0 [.N (gN l 0),.L (gL l 1),.N (gN B 0),.I (wr .i64 ((gI l 3)+1)),.I (gI l 4),.I (gI l 5),.N (gN l 6),.LL (gLL l 7),.I (gI l 8),.I (gI l 9),.L (gL B 1)])
 (fun _=>none)) j)))
 (fun _=>none)) j)))))))
 (ex 0 [.N (gN l 2),.L (gL l 10)])
theorem L96_3_1.e0:LEq L96_3_1.O L96_3_1.H 0 L96_3_1.s0:=by intro τ next κ l;kernel_rfl
def L96_3_1:LStep P Cf:=LStep.mk1 (by decide) L96_3_1.e0
def L96_3_1.b:Option τ:=runE L96_3_1 fuel κ t l
def L96_3_1.E:LEnt P:=LStep.E L96_3_1
def F96.ps:List PV2:=[(PV2.agg [iI,iI,aM]),pR]
def F96.sh:List PA:=[(PA.mk (PV3.v (rr 0)) [cI])]
def F96.O:Orc P:=⟨[F29.E,F32.E],[L96_3.E,L96_3_1.E],[],40⟩
def F96:Option τ :=
 F29 [.I (gI l 0)]
 (fun j A=>(sw (F32 [.I (gI l 1)]
 (fun j B=>(sw (L96_3.b 0 [.N (List.length (gL l 3)),.L (gL l 3),.N (gN B 0),.I 0,.I (gI l 0),.I (gI l 1),.N (List.length (gLL l 2)),.LL (gLL l 2),.I (gI A 0),.I (gI A 1),.N (gN A 2),.L (gL B 1),.L (gL A 3)]
 (fun j C=>(sw (k 0 [.N (gN C 0),.L (gL C 1)])
 (fun _=>none)) j))
 (fun _=>none)) j))
 (sw (F32 [.I (gI l 1)]
 (fun j B=>(sw (L96_3_1.b 0 [.N (List.length (gL l 3)),.L (gL l 3),.N (gN B 0),.I 0,.I (gI l 0),.I (gI l 1),.N (List.length (gLL l 2)),.LL (gLL l 2),.I (gI A 0),.I (gI A 1),.L (gL B 1)]
 (fun j C=>(sw (k 0 [.N (gN C 0),.L (gL C 1)])
 (fun _=>none)) j))
 (fun _=>none)) j))
 (fun _=>none))) j)
theorem F96.eq:FEq F96.O 67 F96.ps F96.sh F96:=by intro τ l κ;kernel_rfl
def F96.E:Ent P:=mkF F96.eq
def L74_5.H:LHead:=⟨false,true,0,315397,315397,50,16,0,[(PS.mk (us 1 ((pp 0)::us 2 ((rr 1)::pI::us 19 []))) [(oG [pI,pI,qM]),oM])],[((Out.exit 0),(PS.mk (us 4 ((rr 0)::us 20 [])) [oM]))]⟩
def L74_5.O:Orc P:=⟨[F61.E,F106.E,F96.E],[],[],40⟩
def L74_5.s0:Option τ :=
 ck (((eqM (gN l 4) (List.length (gLL l 5)))&&true)&&true)
 (F61 [.I (gI l 2),.I (gI l 3),.LL (gLL l 5)]
 (fun j A=>(sw (br (ltI (gI l 1) (gI A 0))
 (ck (((eqM (gN l 4) (List.length (gLL l 5)))&&true)&&true)
 (F106 [.I (gI l 2),.I (gI l 3),.LL (gLL l 5),.I (gI l 1)]
 (fun j B=>(sw (ck (((eqM (gN l 4) (List.length (gLL l 5)))&&true)&&((eqM (gN B 0) (List.length (List.take ((gN B 0)*1) (List.drop 0 (gL B 1)))))&&true))
 (F96 [.I (gI l 2),.I (gI l 3),.LL (gLL l 5),.L (List.take ((gN B 0)*1) (List.drop 0 (gL B 1)))]
 (fun j C=>(sw (ck ((eqM (gN C 0) (List.length (List.take ((gN C 0)*1) (List.drop 0 (gL C 1)))))&&true)
 (ck (((((eqM (List.length (gLL l 6)) ((gN l 0)*1))&&true)&&(eqM 1 1))&&(leN (((gN l 0)+1)*25) 1099511627776))&&true)
 (nx 0 [.N ((gN l 0)+1),.I (wr .i64 ((gI l 1)+1)),.I (gI l 2),.I (gI l 3),.N (gN l 4),.LL (gLL l 5),.LL ((gLL l 6)++(List.take 1 (List.drop 0 [(List.take ((gN C 0)*1) (List.drop 0 (gL C 1)))])))])))
 (fun _=>none)) j)))
 (fun _=>none)) j)))
 (ex 0 [.N (gN l 0),.LL (gLL l 6)]))
 (fun _=>none)) j))
theorem L74_5.e0:LEq L74_5.O L74_5.H 0 L74_5.s0:=by intro τ next κ l;kernel_rfl
def L74_5:LStep P Cf:=LStep.mk1 (by decide) L74_5.e0
def L74_5.b:Option τ:=runE L74_5 fuel κ t l
def L74_5.E:LEnt P:=LStep.E L74_5
def F74.ps:List PV2:=[(PV2.agg [iI,iI,aM])]
def F74.sh:List PA:=[(PA.mk (PV3.tup [nS,(pC 2)]) []),(PA.mk (PV3.tup [(rr 0),(pC 0)]) [cM])]
def F74.O:Orc P:=⟨[F61.E],[L74_5.E],[],40⟩
def F74:Option τ :=
 ck (((eqM (List.length (gLL l 2)) (List.length (gLL l 2)))&&true)&&true)
 (F61 [.I (gI l 0),.I (gI l 1),.LL (gLL l 2)]
 (fun j A=>(sw (br (gtI (gI A 0) 4096)
 (k 0 [])
 (L74_5.b 0 [.N 0,.I 0,.I (gI l 0),.I (gI l 1),.N (List.length (gLL l 2)),.LL (gLL l 2),.LL []]
 (fun j B=>(sw (k 1 [.N (gN B 0),.LL (gLL B 1)])
 (fun _=>none)) j)))
 (fun _=>none)) j))
theorem F74.eq:FEq F74.O 77 F74.ps F74.sh F74:=by intro τ l κ;kernel_rfl
def F74.E:Ent P:=mkF F74.eq
def F25.ps:List PV2:=[pCode]
def F25.sh:List PA:=[(PA.mk (PV3.v nS) []),(PA.mk (PV3.v (rr 0)) [cM])]
def F25.O:Orc P:=⟨[F74.E],[],[],40⟩
def F25:Option τ :=
 ck (((eqM (List.length (gLL l 2)) (List.length (gLL l 2)))&&true)&&true)
 (F74 [.I (gI l 0),.I (gI l 1),.LL (gLL l 2)]
 (fun j A=>(sw (k 0 [])
 (sw (k 1 [.N (gN A 0),.LL (gLL A 1)])
 (fun _=>none))) j))
theorem F25.eq:FEq F25.O 33 F25.ps F25.sh F25:=by intro τ l κ;kernel_rfl
def F25.E:Ent P:=mkF F25.eq
end
end Go.Proofs.Yticbdgmcofjkeaa.Ai
namespace Go.Proofs.Yticbdgmcofjkeaa.Ma
def Wd (q n:Nat) (v:List Int):Prop:=v.length=n∧∀ j,j<n→0≤v.getD j 0∧v.getD j 0<q
def vadd (add:Int→Int→Int) (a b:List Int):List Int:=List.zipWith add a b
def vmul (mul:Int→Int→Int) (c:Int) (a:List Int):List Int:=a.map (mul c)
def ent (m:List (List Int)) (i j:Nat):Int:=(m.getD i []).getD j 0
theorem vadd_len {add:Int→Int→Int} {a b:List Int} (h:a.length=b.length):(vadd add a b).length=a.length:=by simp [vadd,h]
theorem vadd_get {add:Int→Int→Int} {a b:List Int} (h:a.length=b.length) {j:Nat} (hj:j<a.length):(vadd add a b).getD j 0=add (a.getD j 0) (b.getD j 0):=by
 have hb:j<b.length:=h▸hj
 have hz:j<(vadd add a b).length:=by rw [vadd_len h];exact hj
 rw [List.getD_eq_getElem?_getD,List.getElem?_eq_getElem hz,List.getD_eq_getElem?_getD,List.getElem?_eq_getElem hj,List.getD_eq_getElem?_getD,List.getElem?_eq_getElem hb]
 simp [vadd]
theorem vmul_len {mul:Int→Int→Int} {c:Int} {a:List Int}:(vmul mul c a).length=a.length:=by simp [vmul]
theorem vmul_get {mul:Int→Int→Int} {c:Int} {a:List Int} {j:Nat} (hj:j<a.length):(vmul mul c a).getD j 0=mul c (a.getD j 0):=by
 simp [vmul,List.getD_eq_getElem?_getD,hj]
theorem ext_getD {a b:List Int} (h:a.length=b.length) (he:∀ j,j<a.length→a.getD j 0=b.getD j 0):a=b:=by
 refine List.ext_getElem h fun j h1 h2=>?_
 have:=he j h1
 simpa [List.getD_eq_getElem?_getD,h1,h2] using this
theorem ext_rows {a b:List (List Int)} (h:a.length=b.length) (he:∀ j,j<a.length→a.getD j []=b.getD j []):a=b:=by
 refine List.ext_getElem h fun j h1 h2=>?_
 have:=he j h1
 simpa [List.getD_eq_getElem?_getD,h1,h2] using this
theorem getD_set_row {m:List (List Int)} {i j:Nat} {x:List Int} (hi:i<m.length):(m.set i x).getD j []=if i=j then x else m.getD j []:=by
 simp only [List.getD_eq_getElem?_getD,List.getElem?_set]
 by_cases h:i=j
 ·subst h;simp [hi]
 ·simp [h]
section
variable {q:Nat} {add mul:Int→Int→Int} {neg inv:Int→Int}
theorem Wd.vadd (F:Fld q add mul neg inv) {n:Nat} {a b:List Int} (ha:Wd q n a) (hb:Wd q n b):Wd q n (vadd add a b):=by
 have h:a.length=b.length:=ha.1.trans hb.1.symm
 refine ⟨(vadd_len h).trans ha.1,fun j hj=>?_⟩
 rw [vadd_get h (by rw [ha.1];exact hj)]
 exact F.add_in _ _ (ha.2 j hj).1 (ha.2 j hj).2 (hb.2 j hj).1 (hb.2 j hj).2
theorem Wd.vmul (F:Fld q add mul neg inv) {n:Nat} {c:Int} {a:List Int} (h0:0≤c) (h1:c<q) (ha:Wd q n a):Wd q n (vmul mul c a):=by
 refine ⟨vmul_len.trans ha.1,fun j hj=>?_⟩
 rw [vmul_get (by rw [ha.1];exact hj)]
 exact F.mul_in _ _ h0 h1 (ha.2 j hj).1 (ha.2 j hj).2
end
def findp (m:List (List Int)) (c:Nat):Nat→Nat→Nat
 | 0,p=>p
 | f+1,p=>if p<m.length then (if ent m p c=0 then findp m c f (p+1) else p) else p
def elim (add mul:Int→Int→Int) (neg:Int→Int) (m:List (List Int)) (r c:Nat):List (List Int) :=
 (List.range m.length).map fun k=>if k=r then m.getD k [] else vadd add (m.getD k []) (vmul mul (neg (ent m k c)) (m.getD r []))
def lift (mul:Int→Int→Int) (inv:Int→Int) (m:List (List Int)) (r p c:Nat):List (List Int):=(m.set p (m.getD r [])).set r (vmul mul (inv (ent m p c)) (m.getD p []))
def red (add mul:Int→Int→Int) (neg inv:Int→Int):Nat→Nat→Nat→List (List Int)→List (List Int)×Nat
 | 0,c,r,m=>(m,r)
 | f+1,c,r,m=>if r<m.length then (if findp m c (m.length-r) r=m.length then red add mul neg inv f (c+1) r m
   else red add mul neg inv f (c+1) (r+1) (elim add mul neg (lift mul inv m r (findp m c (m.length-r) r) c) r c)) else (m,r)
def reduce (add mul:Int→Int→Int) (neg inv:Int→Int) (n:Nat) (m:List (List Int)):List (List Int):=(red add mul neg inv n 0 0 m).1.take (red add mul neg inv n 0 0 m).2
theorem findp_spec (m:List (List Int)) (c:Nat):∀ (f p:Nat),p≤m.length→m.length≤f+p →
  p≤findp m c f p∧findp m c f p≤m.length∧(∀ k,p≤k→k<findp m c f p→ent m k c=0)∧(findp m c f p<m.length→ent m (findp m c f p) c≠0)
 | 0,p,h1,h2=>⟨Nat.le_refl _,h1,fun k a b=>by unfold findp at b;omega,fun h=>by unfold findp at h;omega⟩
 | f+1,p,h1,h2=>by
  unfold findp
  by_cases hp:p<m.length
  ·rw [if_pos hp]
   by_cases he:ent m p c=0
   ·rw [if_pos he]
    obtain ⟨a,b,d,e⟩:=findp_spec m c f (p+1) (by omega) (by omega)
    refine ⟨by omega,b,fun k hk1 hk2=>?_,e⟩
    by_cases hkp:k=p
    ·rw [hkp];exact he
    ·exact d k (by omega) hk2
   ·rw [if_neg he]
    exact ⟨Nat.le_refl _,by omega,fun k a b=>by omega,fun _=>he⟩
  ·rw [if_neg hp]
   exact ⟨Nat.le_refl _,h1,fun k a b=>by omega,fun h=>absurd h hp⟩
structure Rref (q n:Nat) (G:List (List Int)) (piv:Nat→Nat):Prop where
 wd:∀ i,i<G.length→Wd q n (G.getD i [])
 lt:∀ i,i<G.length→piv i<n
 mono:∀ i j,i<j→j<G.length→piv i<piv j
 one:∀ i,i<G.length→ent G i (piv i)=1
 zero:∀ i k,i<G.length→k<G.length→k≠i→ent G k (piv i)=0
 lead:∀ i j,i<G.length→j<piv i→ent G i j=0
structure Way (q n:Nat) (c r:Nat) (m:List (List Int)) (piv:Nat→Nat):Prop where
 wd:∀ i,i<m.length→Wd q n (m.getD i [])
 rl:r≤m.length
 lt:∀ i,i<r→piv i<c
 mono:∀ i j,i<j→j<r→piv i<piv j
 one:∀ i,i<r→ent m i (piv i)=1
 zero:∀ i k,i<r→k<m.length→k≠i→ent m k (piv i)=0
 lead:∀ i j,i<r→j<piv i→ent m i j=0
 rest:∀ k j,r≤k→k<m.length→j<c→ent m k j=0
section
variable {q:Nat} {add mul:Int→Int→Int} {neg inv:Int→Int} {n:Nat}
theorem Way.pass {c r:Nat} {m:List (List Int)} {piv:Nat→Nat} (W:Way q n c r m piv) (h:∀ k,r≤k→k<m.length→ent m k c=0):Way q n (c+1) r m piv :=
 ⟨W.wd,W.rl,fun i hi=>Nat.lt_succ_of_lt (W.lt i hi),W.mono,W.one,W.zero,W.lead,fun k j hk hl hj=>by
  rcases Nat.lt_succ_iff_lt_or_eq.1 hj with h1 | h1
  ·exact W.rest k j hk hl h1
  ·rw [h1];exact h k hk hl⟩
theorem lift_len {m:List (List Int)} {r p c:Nat}:(lift mul inv m r p c).length=m.length:=by simp [lift]
theorem lift_get {m:List (List Int)} {r p c k:Nat} (hr:r<m.length) (hp:p<m.length) :
  (lift mul inv m r p c).getD k []=if k=r then vmul mul (inv (ent m p c)) (m.getD p []) else if k=p then m.getD r [] else m.getD k []:=by
 unfold lift
 rw [getD_set_row (by simpa using hr),getD_set_row hp]
 by_cases h1:k=r
 ·subst h1;simp
 ·rw [if_neg (fun e=>h1 e.symm),if_neg h1]
  by_cases h2:k=p
  ·subst h2;simp
  ·rw [if_neg (fun e=>h2 e.symm),if_neg h2]
theorem elim_len {m:List (List Int)} {r c:Nat}:(elim add mul neg m r c).length=m.length:=by simp [elim]
theorem elim_get {m:List (List Int)} {r c k:Nat} (hk:k<m.length) :
  (elim add mul neg m r c).getD k []=if k=r then m.getD k [] else vadd add (m.getD k []) (vmul mul (neg (ent m k c)) (m.getD r [])):=by
 simp [elim,List.getD_eq_getElem?_getD,hk]
theorem Way.step (F:Fld q add mul neg inv) {c r p:Nat} {m:List (List Int)} {piv:Nat→Nat} (W:Way q n c r m piv) (hc:c<n) (hr:r<m.length) (h1:r≤p) (h2:p<m.length) (h3:ent m p c≠0) :
  Way q n (c+1) (r+1) (elim add mul neg (lift mul inv m r p c) r c) fun i=>if i=r then c else piv i:=by
 have hone:(1:Int)<q:=by exact_mod_cast F.one_lt
 have wp:=W.wd p h2
 have hin:∀ k j,k<m.length→j<n→0≤ent m k j∧ent m k j<q:=fun k j hk hj=>(W.wd k hk).2 j hj
 have hinv:=F.inv_in (ent m p c) (hin p c h2 hc).1 (hin p c h2 hc).2
 -- the rows of the lifted matrix
 let m1:=lift mul inv m r p c
 have l1:m1.length=m.length:=lift_len
 have g1:∀ k,m1.getD k []=if k=r then vmul mul (inv (ent m p c)) (m.getD p []) else if k=p then m.getD r [] else m.getD k []:=fun k=>lift_get hr h2
 have w1:∀ k,k<m1.length→Wd q n (m1.getD k []):=fun k hk=>by
  rw [g1]
  rw [l1] at hk
  split
  ·exact Wd.vmul F hinv.1 hinv.2 wp
  ·split
   ·exact W.wd r hr
   ·exact W.wd k hk
 have e1r:∀ j,j<n→ent m1 r j=mul (inv (ent m p c)) (ent m p j):=fun j hj=>by
  unfold ent
  rw [g1,if_pos rfl,vmul_get (by rw [wp.1];exact hj)]
  rfl
 -- its elements before column c
 have before:∀ j,j<c→ent m1 r j=0:=fun j hj=>by
  rw [e1r j (by omega),W.rest p j h1 h2 hj,F.mul_comm _ _ hinv.1 hinv.2 (by omega) (by omega),F.zero_mul _ hinv.1 hinv.2]
 have at1:ent m1 r c=1:=by rw [e1r c hc];exact F.mul_inv _ (hin p c h2 hc).1 (hin p c h2 hc).2 h3
 have same:∀ k,k≠r→∃ k',k'<m.length∧(k<r→k'=k)∧(r≤k→r≤k')∧(k<m.length→m1.getD k []=m.getD k' []):=fun k hk=>by
  by_cases hkl:k<m.length
  ·by_cases hkp:k=p
   ·exact ⟨r,hr,fun h=>by omega,fun _=>Nat.le_refl _,fun _=>by rw [g1,if_neg hk,if_pos hkp]⟩
   ·exact ⟨k,hkl,fun _=>rfl,fun h=>h,fun _=>by rw [g1,if_neg hk,if_neg hkp]⟩
  ·exact ⟨r,hr,fun h=>by omega,fun _=>Nat.le_refl _,fun h=>absurd h hkl⟩
 let m2:=elim add mul neg m1 r c
 have l2:m2.length=m.length:=elim_len.trans l1
 have g2:∀ k,k<m.length→m2.getD k []=if k=r then m1.getD k [] else vadd add (m1.getD k []) (vmul mul (neg (ent m1 k c)) (m1.getD r [])):=fun k hk=>elim_get (by rw [l1];exact hk)
 have hw1r:=w1 r (by rw [l1];exact hr)
 have negin:∀ k,k<m.length→0≤neg (ent m1 k c)∧neg (ent m1 k c)<q:=fun k hk=>F.neg_in _ ((w1 k (by rw [l1];exact hk)).2 c hc).1 ((w1 k (by rw [l1];exact hk)).2 c hc).2
 have w2:∀ k,k<m2.length→Wd q n (m2.getD k []):=fun k hk=>by
  rw [l2] at hk
  rw [g2 k hk]
  split
  ·exact w1 k (by rw [l1];exact hk)
  ·exact Wd.vadd F (w1 k (by rw [l1];exact hk)) (Wd.vmul F (negin k hk).1 (negin k hk).2 hw1r)
 have e2r:∀ j,ent m2 r j=ent m1 r j:=fun j=>by unfold ent;rw [g2 r hr,if_pos rfl]
 have e2:∀ k j,k<m.length→k≠r→j<n→ent m2 k j=add (ent m1 k j) (mul (neg (ent m1 k c)) (ent m1 r j)):=fun k j hk hkr hj=>by
  have hwk:=w1 k (by rw [l1];exact hk)
  unfold ent
  rw [g2 k hk,if_neg hkr,vadd_get (by rw [vmul_len,hwk.1,hw1r.1]) (by rw [hwk.1];exact hj),vmul_get (by rw [hw1r.1];exact hj)]
  rfl
 have in1:∀ k j,k<m.length→j<n→0≤ent m1 k j∧ent m1 k j<q:=fun k j hk hj=>(w1 k (by rw [l1];exact hk)).2 j hj
 -- where row r is 0,nothing changes
 have e2z:∀ k j,k<m.length→j<n→ent m1 r j=0→ent m2 k j=ent m1 k j:=fun k j hk hj hz=>by
  by_cases hkr:k=r
  ·rw [hkr];exact e2r j
  ·rw [e2 k j hk hkr hj,hz,F.mul_comm _ _ (negin k hk).1 (negin k hk).2 (by omega) (by omega),F.zero_mul _ (negin k hk).1 (negin k hk).2,
    F.add_comm _ _ (in1 k j hk hj).1 (in1 k j hk hj).2 (by omega) (by omega),F.zero_add _ (in1 k j hk hj).1 (in1 k j hk hj).2]
 have e2c:∀ k,k<m.length→k≠r→ent m2 k c=0:=fun k hk hkr=>by
  rw [e2 k c hk hkr hc,at1,F.mul_comm _ _ (negin k hk).1 (negin k hk).2 (by omega) hone,F.one_mul _ (negin k hk).1 (negin k hk).2,F.add_neg _ (in1 k c hk hc).1 (in1 k c hk hc).2]
 -- elements of m1 before column c
 have m1low:∀ k j,k<m.length→j<c→ent m1 k j=ent m k j:=fun k j hk hj=>by
  by_cases hkr:k=r
  ·rw [hkr,before j hj,W.rest r j (Nat.le_refl _) hr hj]
  ·by_cases hkp:k=p
   ·unfold ent
    rw [g1,if_neg hkr,if_pos hkp,hkp]
    have a1:=W.rest r j (Nat.le_refl _) hr hj
    have a2:=W.rest p j h1 h2 hj
    unfold ent at a1 a2
    rw [a1,a2]
   ·unfold ent
    rw [g1,if_neg hkr,if_neg hkp]
 have low:∀ k j,k<m.length→j<c→ent m2 k j=ent m k j:=fun k j hk hj=>by
  rw [e2z k j hk (by omega) (before j hj),m1low k j hk hj]
 refine ⟨w2,by show r+1≤m2.length;rw [l2];omega,fun i hi=>?_,fun i j hij hj=>?_,fun i hi=>?_,fun i k hi hk hki=>?_,fun i j hi hj=>?_,fun k j hk hkl hj=>?_⟩
 ·split
  ·omega
  ·have:=W.lt i (by omega);omega
 ·by_cases hjr:j=r
  ·rw [if_pos hjr,if_neg (by omega)]
   exact W.lt i (by omega)
  ·rw [if_neg hjr,if_neg (by omega)]
   exact W.mono i j hij (by omega)
 ·show ent m2 i _=1
  by_cases hir:i=r
  ·rw [if_pos hir,hir,e2r,at1]
  ·rw [if_neg hir,low i _ (by have:=W.rl;omega) (W.lt i (by omega))]
   exact W.one i (by omega)
 ·show ent m2 k _=0
  have hk':k<m.length:=by have:k<m2.length:=hk;rw [l2] at this;exact this
  by_cases hir:i=r
  ·rw [if_pos hir]
   exact e2c k hk' (by omega)
  ·rw [if_neg hir,low k _ hk' (W.lt i (by omega))]
   exact W.zero i k (by omega) hk' hki
 ·show ent m2 i j=0
  by_cases hir:i=r
  ·subst hir
   simp only [if_true] at hj
   rw [low i j hr hj]
   exact W.rest i j (Nat.le_refl _) hr hj
  ·simp only [if_neg hir] at hj
   have:=W.lt i (by omega)
   rw [low i j (by have:=W.rl;omega) (by omega)]
   exact W.lead i j (by omega) hj
 ·show ent m2 k j=0
  have hk':k<m.length:=by have:k<m2.length:=hkl;rw [l2] at this;exact this
  rcases Nat.lt_succ_iff_lt_or_eq.1 hj with h | h
  ·rw [low k j hk' h]
   exact W.rest k j (by omega) hk' h
  ·rw [h]
   exact e2c k hk' (by omega)
theorem red_way (F:Fld q add mul neg inv):∀ (f c r:Nat) (m:List (List Int)) (piv:Nat→Nat),f+c=n→Way q n c r m piv →
  ∃ piv' c',c'≤n∧Way q n c' (red add mul neg inv f c r m).2 (red add mul neg inv f c r m).1 piv'∧(c'=n∨(red add mul neg inv f c r m).2=(red add mul neg inv f c r m).1.length)∧(red add mul neg inv f c r m).1.length=m.length
 | 0,c,r,m,piv,hf,W=>⟨piv,c,by omega,W,.inl (by omega),rfl⟩
 | f+1,c,r,m,piv,hf,W=>by
  unfold red
  by_cases hr:r<m.length
  ·rw [if_pos hr]
   obtain ⟨a1,a2,a3,a4⟩:=findp_spec m c (m.length-r) r (by omega) (by omega)
   by_cases hp:findp m c (m.length-r) r=m.length
   ·rw [if_pos hp]
    exact red_way F f (c+1) r m piv (by omega) (W.pass fun k hk hl=>a3 k hk (by omega))
   ·rw [if_neg hp]
    obtain ⟨p1,c1,h1,h2,h3,h4⟩:=red_way F f (c+1) (r+1) _ _ (by omega) (W.step F (by omega) hr a1 (by omega) (a4 (by omega)))
    exact ⟨p1,c1,h1,h2,h3,h4.trans (elim_len.trans lift_len)⟩
  ·rw [if_neg hr]
   exact ⟨piv,c,by omega,W,.inr (by have:=W.rl;show r=m.length;omega),rfl⟩
theorem take_get {m:List (List Int)} {r i:Nat} (hi:i<r):(m.take r).getD i []=m.getD i []:=by
 simp [List.getD_eq_getElem?_getD,hi]
theorem Way.rref {c r:Nat} {m:List (List Int)} {piv:Nat→Nat} (W:Way q n c r m piv) (hc:c≤n):Rref q n (m.take r) piv:=by
 have hl:(m.take r).length=r:=by rw [List.length_take];exact Nat.min_eq_left W.rl
 have e:∀ i j,i<r→ent (m.take r) i j=ent m i j:=fun i j hi=>by unfold ent;rw [take_get hi]
 refine ⟨fun i hi=>?_,fun i hi=>?_,fun i j hij hj=>?_,fun i hi=>?_,fun i k hi hk hki=>?_,fun i j hi hj=>?_⟩
 all_goals rw [hl] at *
 ·rw [take_get hi];exact W.wd i (by have:=W.rl;omega)
 ·have:=W.lt i hi;omega
 ·exact W.mono i j hij hj
 ·rw [e i _ hi];exact W.one i hi
 ·rw [e k _ hk];exact W.zero i k hi (by have:=W.rl;omega) hki
 ·rw [e i _ hi];exact W.lead i j hi hj
theorem reduce_rref (F:Fld q add mul neg inv) {m:List (List Int)} (hm:∀ i,i<m.length→Wd q n (m.getD i [])):∃ piv,Rref q n (reduce add mul neg inv n m) piv∧(reduce add mul neg inv n m).length≤m.length:=by
 obtain ⟨piv,c,h1,h2,h3,h4⟩:=red_way F n 0 0 m (fun _=>0) (by omega) ⟨hm,Nat.zero_le _,fun i hi=>by omega,fun i j _ hj=>by omega,fun i hi=>by omega,fun i k hi=>by omega,fun i j hi=>by omega,fun k j _ _ hj=>by omega⟩
 exact ⟨piv,h2.rref h1,by unfold reduce;simp;omega⟩
theorem red_fix (F:Fld q add mul neg inv) {G:List (List Int)} {piv:Nat→Nat} (R:Rref q n G piv):∀ (f c r:Nat),f+c=n→r≤G.length→(∀ i,i<r→piv i<c)→(∀ i,r≤i→i<G.length→c≤piv i)→red add mul neg inv f c r G=(G,G.length)
 | 0,c,r,hf,hr,h1,h2=>by
  have:r=G.length:=by
   rcases Nat.lt_or_ge r G.length with h | h
   ·have:=h2 r (Nat.le_refl _) h
    have:=R.lt r h
    omega
   ·omega
  unfold red
  rw [this]
 | f+1,c,r,hf,hr,h1,h2=>by
  have hone:(1:Int)<q:=by exact_mod_cast F.one_lt
  unfold red
  by_cases hlt:r<G.length
  ·rw [if_pos hlt]
   obtain ⟨a1,a2,a3,a4⟩:=findp_spec G c (G.length-r) r (by omega) (by omega)
   have hrc:=h2 r (Nat.le_refl _) hlt
   have zlow:∀ k,r≤k→k<G.length→c<piv k→ent G k c=0:=fun k _ hk hc=>R.lead k c hk hc
   by_cases hc:piv r=c
   ·-- row r begins in column c
    have hpr:findp G c (G.length-r) r=r:=by
     rcases Nat.lt_or_ge r (findp G c (G.length-r) r) with h | h
     ·have:=a3 r (Nat.le_refl _) h
      rw [←hc,R.one r hlt] at this
      exact absurd this (by omega)
     ·omega
    rw [hpr,if_neg (by omega)]
    have e1:ent G r c=1:=by rw [←hc];exact R.one r hlt
    have wr:=R.wd r hlt
    have m1:vmul mul (inv (ent G r c)) (G.getD r [])=G.getD r []:=by
     refine ext_getD vmul_len fun j hj=>?_
     rw [vmul_len] at hj
     have:=wr.2 j (by rw [←wr.1];exact hj)
     rw [vmul_get hj,e1,F.inv_one,F.one_mul _ this.1 this.2]
    have l1:lift mul inv G r r c=G:=by
     refine ext_rows lift_len fun k hk=>?_
     rw [lift_get hlt hlt]
     split
     ·rename_i e;rw [e];exact m1
     ·rfl
    have l2:elim add mul neg G r c=G:=by
     refine ext_rows elim_len fun k hk=>?_
     rw [elim_len] at hk
     rw [elim_get hk]
     split
     ·rfl
     ·rename_i hkr
      have ez:ent G k c=0:=by rw [←hc];exact R.zero r k hlt hk hkr
      have wk:=R.wd k hk
      refine ext_getD (vadd_len (by rw [vmul_len,wk.1,wr.1])) fun j hj=>?_
      rw [vadd_len (by rw [vmul_len,wk.1,wr.1])] at hj
      have hjn:j<n:=by rw [←wk.1];exact hj
      have b1:=wk.2 j hjn
      have b2:=wr.2 j hjn
      rw [vadd_get (by rw [vmul_len,wk.1,wr.1]) hj,vmul_get (by rw [wr.1];exact hjn),ez,F.neg_zero,F.zero_mul _ b2.1 b2.2,F.add_comm _ _ b1.1 b1.2 (by omega) (by omega),F.zero_add _ b1.1 b1.2]
    rw [l1,l2]
    refine red_fix F R f (c+1) (r+1) (by omega) (by omega) (fun i hi=>?_) (fun i hi hl=>?_)
    ·by_cases h:i=r
     ·rw [h,hc];omega
     ·have:=h1 i (by omega);omega
    ·have:=R.mono r i (by omega) hl
     omega
   ·have hp:findp G c (G.length-r) r=G.length:=by
     rcases Nat.lt_or_ge (findp G c (G.length-r) r) G.length with h | h
     ·refine absurd ?_ (a4 h)
      refine zlow _ a1 h ?_
      by_cases he:findp G c (G.length-r) r=r
      ·rw [he];omega
      ·have:=R.mono r _ (by omega) h
       omega
     ·omega
    rw [if_pos hp]
    refine red_fix F R f (c+1) r (by omega) hr (fun i hi=>by have:=h1 i hi;omega) (fun i hi hl=>?_)
    by_cases h:i=r
    ·rw [h];omega
    ·have:=R.mono r i (by omega) hl
     omega
  ·rw [if_neg hlt,show r=G.length by omega]
end
end Go.Proofs.Yticbdgmcofjkeaa.Ma
namespace Go.Proofs.Yticbdgmcofjkeaa.Ma
def words (q:Nat) (add mul:Int→Int→Int):List (List Int)→List Int→List (List Int)
 | [],w=>[w]
 | g::gs,w=>(List.range q).flatMap fun (a:Nat)=>words q add mul gs (vadd add w (vmul mul (a:Int) g))
def comb (add mul:Int→Int→Int):List (List Int)→List Int→List Int→List Int
 | g::gs,a::asl,w=>comb add mul gs asl (vadd add w (vmul mul a g))
 | _,_,w=>w
def digs (q:Nat):Nat→Nat→List Int
 | 0,_=>[]
 | k+1,j=>((j / q^k % q:Nat):Int)::digs q k j
theorem digs_len (q:Nat):∀ k j,(digs q k j).length=k
 | 0,j=>rfl
 | k+1,j=>by simp [digs,digs_len q k j]
theorem digs_mod (q:Nat) (hq:0<q):∀ (k j M:Nat),digs q k (j+q^k*M)=digs q k j
 | 0,j,M=>rfl
 | k+1,j,M=>by
  unfold digs
  have e:q^(k+1)*M=q^k*(q*M):=by rw [Nat.pow_succ,Nat.mul_assoc]
  rw [e,digs_mod q hq k j (q*M),Nat.add_mul_div_left _ _ (Nat.pow_pos hq),Nat.add_mul_mod_self_left]
theorem range_mul (a b:Nat):List.range (a*b)=(List.range a).flatMap fun i=>(List.range b).map fun j=>b*i+j:=by
 induction a with
 | zero=>simp
 | succ a ih =>
  rw [Nat.succ_mul,List.range_add,ih,List.range_succ,List.flatMap_append]
  simp [Nat.mul_comm]
theorem words_digs (q:Nat) (hq:0<q) (add mul:Int→Int→Int):∀ (G:List (List Int)) (w:List Int),(List.range (q^G.length)).map (fun j=>comb add mul G (digs q G.length j) w)=words q add mul G w
 | [],w=>by simp [words,comb]
 | g::gs,w=>by
  simp only [List.length_cons]
  rw [Nat.pow_succ,Nat.mul_comm,range_mul,List.map_flatMap]
  unfold words
  unfold List.flatMap
  refine congrArg List.flatten (List.map_congr_left fun a ha=>?_)
  have ha':a<q:=by simpa using ha
  rw [←words_digs q hq add mul gs (vadd add w (vmul mul (a:Int) g)),List.map_map]
  refine List.map_congr_left fun j hj=>?_
  have hj':j<q^gs.length:=by simpa using hj
  have e1:(q^gs.length*a+j) / q^gs.length=a:=by
   rw [Nat.mul_add_div (Nat.pow_pos hq),Nat.div_eq_of_lt hj',Nat.add_zero]
  simp only [Function.comp,digs,comb,e1,Nat.mod_eq_of_lt ha']
  rw [Nat.add_comm,digs_mod q hq]
def far (lost:Nat→Bool) (w x:List Int) (a:Nat):Nat→Nat
 | 0=>0
 | k+1=>far lost w x a k+(if !lost (a+k)&&x.getD (a+k) 0 != w.getD (a+k) 0 then 1 else 0)
theorem far_succ (lost:Nat→Bool) (w x:List Int) (a k:Nat):far lost w x a (k+1)=far lost w x a k+(if !lost (a+k)&&x.getD (a+k) 0 != w.getD (a+k) 0 then 1 else 0):=rfl
def dfs (q:Nat) (add mul:Int→Int→Int) (lost:Nat→Bool) (w:List Int) (r:Int):List (List Int)→List Nat→List Int→Nat→List (List Int×Nat)
 | [],_,x,t=>if (t:Int)>r then [] else [(x,t)]
 | g::gs,e,x,t=>if (t:Int)>r then [] else
   (List.range q).flatMap fun (a:Nat)=>dfs q add mul lost w r gs e.tail (vadd add x (vmul mul (a:Int) g)) (t+far lost w (vadd add x (vmul mul (a:Int) g)) (e.getD 0 0) (e.getD 1 0-e.getD 0 0))
section
variable {q n:Nat} {add mul:Int→Int→Int} {neg inv:Int→Int}
theorem words_wd (F:Fld q add mul neg inv):∀ (G:List (List Int)) (w:List Int),(∀ i,i<G.length→Wd q n (G.getD i []))→Wd q n w→∀ y∈words q add mul G w,Wd q n y
 | [],w,_,hw,y,hy=>by
  unfold words at hy
  rw [List.mem_singleton] at hy
  rw [hy];exact hw
 | g::gs,w,hG,hw,y,hy=>by
  unfold words at hy
  obtain ⟨a,ha,hy⟩:=List.mem_flatMap.1 hy
  have ha':a<q:=by simpa using ha
  refine words_wd F gs _ (fun i hi=>by simpa using hG (i+1) (by simpa using hi)) ?_ y hy
  exact hw.vadd F (Wd.vmul F (by omega) (by exact_mod_cast ha') (by simpa using hG 0 (by simp)))
theorem words_same (F:Fld q add mul neg inv) {b:Nat} (hb:b≤n):∀ (G:List (List Int)) (w:List Int),(∀ i,i<G.length→Wd q n (G.getD i []))→(∀ i j,i<G.length→j<b→ent G i j=0)→Wd q n w→∀ y∈words q add mul G w,∀ j,j<b→y.getD j 0=w.getD j 0
 | [],w,_,_,_,y,hy,j,_=>by
  unfold words at hy
  rw [List.mem_singleton] at hy
  rw [hy]
 | g::gs,w,hG,hz,hw,y,hy,j,hj=>by
  unfold words at hy
  obtain ⟨a,ha,hy⟩:=List.mem_flatMap.1 hy
  have ha':a<q:=by simpa using ha
  have hg:Wd q n g:=by simpa using hG 0 (by simp)
  have haq:((a:Nat):Int)<q:=by exact_mod_cast ha'
  have hv:=Wd.vmul F (c:=(a:Int)) (by omega) haq hg
  rw [words_same F hb gs _ (fun i hi=>by simpa using hG (i+1) (by simpa using hi)) (fun i j hi hj=>by have:=hz (i+1) j (by simpa using hi) hj;simpa [ent] using this) (hw.vadd F hv) y hy j hj]
  have h0:g.getD j 0=0:=by have:=hz 0 j (by simp) hj;simpa [ent] using this
  have hwj:=hw.2 j (by omega)
  rw [vadd_get (by rw [hw.1,hv.1]) (by rw [hw.1];omega),vmul_get (by rw [hg.1];omega),h0,F.mul_comm _ _ (by omega) haq (by omega) (by have:=F.one_lt;omega),F.zero_mul _ (by omega) haq,F.add_comm _ _ hwj.1 hwj.2 (by omega) (by have:=F.one_lt;omega),F.zero_add _ hwj.1 hwj.2]
end
end Go.Proofs.Yticbdgmcofjkeaa.Ma
namespace Go.Proofs.Yticbdgmcofjkeaa.Ma
section
variable {q n:Nat} {add mul:Int→Int→Int} {neg inv:Int→Int}
end
def nearStep (d:List Int→Nat) (out:List (List Int)) (y:List Int):List (List Int) :=
 match out with
 | []=>[y]
 | o::os=>if d y>d o then o::os else if d y<d o then [y] else (o::os)++[y]
def near (d:List Int→Nat) (L:List (List Int)):List (List Int):=L.foldl (nearStep d) []
end Go.Proofs.Yticbdgmcofjkeaa.Ma
namespace Go.Proofs.Yticbdgmcofjkeaa.Ai
open Go Ma
noncomputable section
theorem take_succ_getD {α:Type} (d:α) {l:List α} {j:Nat} (h:j<l.length):l.take (j+1)=l.take j++[l.getD j d]:=by
 rw [List.take_succ_eq_append_getElem h]
 simp [List.getD_eq_getElem?_getD,h]
theorem drop_cons {α:Type} (d:α) {l:List α} {j:Nat} (h:j<l.length):l.drop j=l.getD j d::l.drop (j+1):=by
 rw [List.drop_eq_getElem_cons h]
 simp [List.getD_eq_getElem?_getD,h]
theorem wsucc {j:Nat} (h:j<2^62):wr .i64 ((j:Int)+1)=((j+1:Nat):Int):=by rw [wr64 (by omega) (by omega)];rfl
def In (q:Nat) (l:List Int):Prop:=∀ j,j<l.length→0≤l.getD j 0∧l.getD j 0<q
theorem In.of {q n:Nat} {l:List Int} (h:Wd q n l):In q l:=fun j hj=>h.2 j (by rw [←h.1];exact hj)
theorem L45_spec {q:Nat} (hq:q∈Qs) {a:Int} (a0:0≤a) (a1:a<q) {l:List Int} (hl:In q l) (hb:l.length<2^30) {τ:Type} (κ:Nat→LS_→Option τ):∀ (n j:Nat),j≤l.length→l.length<n+j →
  runE L45_3 n κ 0 [.I a,.N l.length,.L l,.N j,.I j,.I (fp q),.I (fe q),.N (fm q).length,.L (fm q),.L ((l.take j).map (fmul q a))]=κ 0 [.N l.length,.L (l.map (fmul q a))]
 | 0,j,h1,h2=>by omega
 | n+1,j,h1,h2=>by
  rw [runE_succ]
  show L45_3.s0 _ _ _=_
  unfold L45_3.s0
  simp only [g_]
  by_cases hj:j<l.length
  ·have e:=wsucc (j:=j) (by omega)
   have hx:=hl j hj
   simp only [Int.toNat_natCast,Nat.mul_one]
   rw [br_of (by simp;omega),ck_of (by simp <;> omega),ck_of (by simp <;> omega),ck_of (by simp)]
   unfold T89
   rw [tab2_of hq a0 a1 hx.1 hx.2]
   simp only [sw_zero,gI_zero]
   rw [ck_of (by simp <;> omega),e]
   have:=L45_spec hq a0 a1 hl hb κ n (j+1) (by omega) (by omega)
   rw [take_succ_getD 0 hj,List.map_append] at this
   exact this
  ·have:j=l.length:=by omega
   subst this
   rw [br_no (by simp),List.take_length]
theorem F45_spec {q:Nat} (hq:q∈Qs) {a:Int} (a0:0≤a) (a1:a<q) {l:List Int} (hl:In q l) (hb:l.length<2^30) {τ:Type} (k:Nat→LS_→Option τ) :
  F45 [.I (fp q),.I (fe q),.L (fm q),.I a,.L l] k=k 0 [.N l.length,.L (vmul (fmul q) a l)]:=by
 unfold F45 L45_3.b
 simp only [g_]
 have:=fuel_le
 have e:=L45_spec hq a0 a1 hl hb (fun j l9=>sw (k 0 [.N (gN l9 0),.L (gL l9 1)]) (fun _=>none) j) fuel 0 (by omega) (by omega)
 exact e
theorem L30_spec {q:Nat} (hq:q∈Qs) {a b:List Int} (ha:In q a) (hb:In q b) (hl:a.length=b.length) (hs:a.length<2^30) {τ:Type} (κ:Nat→LS_→Option τ):∀ (n j:Nat),j≤a.length→a.length<n+j →
  runE L30_3 n κ 0 [.N a.length,.L a,.N b.length,.L b,.N j,.I j,.I (fp q),.I (fe q),.N (fm q).length,.L (fm q),.L (vadd (fadd q) (a.take j) (b.take j))]=κ 0 [.N a.length,.L (vadd (fadd q) a b)]
 | 0,j,h1,h2=>by omega
 | n+1,j,h1,h2=>by
  rw [runE_succ]
  show L30_3.s0 _ _ _=_
  unfold L30_3.s0
  simp only [g_]
  by_cases hj:j<a.length
  ·have e:=wsucc (j:=j) (by omega)
   have hx:=ha j hj
   have hy:=hb j (by omega)
   have hlen:(vadd (fadd q) (a.take j) (b.take j)).length=j:=by rw [vadd_len (by simp;omega),List.length_take];omega
   simp only [Int.toNat_natCast,Nat.mul_one]
   rw [br_of (by simp;omega),ck_of (by simp <;> omega),ck_of (by simp <;> omega),ck_of (by simp <;> omega),ck_of (by simp <;> omega),ck_of (by simp)]
   unfold T77
   rw [tab2_of hq hx.1 hx.2 hy.1 hy.2]
   simp only [sw_zero,gI_zero]
   rw [ck_of (by simp [hlen] <;> omega),e]
   have:=L30_spec hq ha hb hl hs κ n (j+1) (by omega) (by omega)
   rw [take_succ_getD 0 hj,take_succ_getD (l:=b) 0 (show j<b.length by omega)] at this
   have e2:vadd (fadd q) (a.take j++[a.getD j 0]) (b.take j++[b.getD j 0])=vadd (fadd q) (a.take j) (b.take j)++[fadd q (a.getD j 0) (b.getD j 0)]:=by
    unfold vadd
    rw [List.zipWith_append (by simp;omega)]
    rfl
   rw [e2] at this
   exact this
  ·have:j=a.length:=by omega
   subst this
   rw [br_no (by simp),List.take_length,hl,List.take_length]
theorem F30_spec {q:Nat} (hq:q∈Qs) {a b:List Int} (ha:In q a) (hb:In q b) (hl:a.length=b.length) (hs:a.length<2^30) {τ:Type} (k:Nat→LS_→Option τ) :
  F30 [.I (fp q),.I (fe q),.L (fm q),.L a,.L b] k=k 0 [.N a.length,.L (vadd (fadd q) a b)]:=by
 unfold F30 L30_3.b
 simp only [g_]
 have:=fuel_le
 exact L30_spec hq ha hb hl hs (fun j l9=>sw (k 0 [.N (gN l9 0),.L (gL l9 1)]) (fun _=>none) j) fuel 0 (by omega) (by omega)
theorem L27_spec {τ:Type} (κ:Nat→LS_→Option τ) (a b:List Int) (hl:a.length=b.length) (hb:a.length<2^60):∀ (n j:Nat) (r:Bool),j≤a.length→a.length<n+j →
  runE L27_4 n κ 0 [.N a.length,.L a,.N b.length,.L b,.B r,.I j]=if a.drop j=b.drop j then κ 1 [.B r] else κ 0 [.B false]
 | 0,j,r,h1,h2=>by omega
 | n+1,j,r,h1,h2=>by
  rw [runE_succ]
  show L27_4.s0 _ _ _=_
  unfold L27_4.s0
  simp only [g_]
  by_cases hj:j<a.length
  ·have e:=wsucc (j:=j) (by omega)
   simp only [Int.toNat_natCast,Nat.mul_one]
   rw [br_of (by simp;omega),ck_of (by simp <;> omega),ck_of (by simp <;> omega),ck_of (by simp <;> omega),ck_of (by simp <;> omega),e,L27_spec κ a b hl hb n (j+1) r (by omega) (by omega)]
   rw [drop_cons (l:=a) (j:=j) 0 hj,drop_cons (l:=b) (j:=j) 0 (hl▸hj)]
   by_cases hq:a.getD j 0=b.getD j 0
   ·rw [br_no (by rw [hq];simp),hq];simp
   ·rw [br_of (by simpa using hq),if_neg (by intro h;injection h with h _;exact hq h)]
  ·have:j=a.length:=by omega
   rw [br_no (by simp;omega),if_pos (by rw [List.drop_eq_nil_of_le (by omega),List.drop_eq_nil_of_le (by omega)])]
theorem F27_spec {τ:Type} (k:Nat→LS_→Option τ) (a b:List Int) (hb:a.length<2^60):F27 [.L a,.L b] k=k 0 [.B (decide (a=b))]:=by
 unfold F27 L27_4.b
 simp only [gL_zero,gL_succ]
 by_cases hl:a.length=b.length
 ·have:=fuel_le
  rw [br_no (by simp [hl])]
  have e:=L27_spec (fun j l0=>(sw (k 0 [(Leaf.B (gB l0 0))]) (sw (k 0 [(Leaf.B Bool.true)]) (fun _=>none))) j) a b hl hb fuel 0 false (by omega) (by omega)
  rw [show ((0:Nat):Int)=0 from rfl] at e
  refine Eq.trans e ?_
  by_cases hq:a=b
  ·subst hq;simp
  ·simp [hq]
 ·rw [br_of (by simp;omega)]
  have:a≠b:=fun h=>hl (by rw [h])
  simp [this]
structure Rows (q n:Nat) (m:List (List Int)):Prop where
 wd:∀ i,i<m.length→Wd q n (m.getD i [])
 few:m.length<2^20
 short:n<2^20
theorem L80_3_spec {q n:Nat} {m:List (List Int)} (hm:Rows q n m) (N:Int) {τ:Type} (κ:Nat→LS_→Option τ):∀ (f j:Nat),j≤m.length→m.length<f+j →
  runE L80_3 f κ 0 [.I N,.N m.length,.LL m,.N j,.I j,.I (fp q),.I (fe q),.N (fm q).length,.L (fm q),.LL (m.take j)]=κ 0 [.I N,.N m.length,.I (fp q),.I (fe q),.N (fm q).length,.L (fm q),.LL m]
 | 0,j,h1,h2=>by omega
 | f+1,j,h1,h2=>by
  have hf:=hm.few
  have hs:=hm.short
  rw [runE_succ]
  show L80_3.s0 _ _ _=_
  unfold L80_3.s0
  simp only [g_]
  by_cases hj:j<m.length
  ·have e:=wsucc (j:=j) (by omega)
   have hl:=(hm.wd j hj).1
   simp only [Int.toNat_natCast,Nat.mul_one,Nat.zero_add,List.nil_append,List.drop_zero,List.take_length,hl]
   rw [br_of (by simp;omega),ck_of (by simp <;> omega),ck_of (by simp <;> omega),ck_of (by simp <;> omega),ck_of (by simp [-List.getD_eq_getElem?_getD,hl] <;> omega),ck_of (by simp <;> omega),e]
   have:=L80_3_spec hm N κ f (j+1) (by omega) (by omega)
   rw [take_succ_getD [] hj] at this
   have ht:List.take n (m.getD j [])=m.getD j []:=by rw [←hl,List.take_length]
   rw [ht]
   exact this
  ·have:j=m.length:=by omega
   subst this
   rw [br_no (by simp),List.take_length]
theorem L80_11_spec {q n:Nat} {m:List (List Int)} (hm:Rows q n m) (N:Int) (r c:Nat) (hc:c<n) {τ:Type} (κ:Nat→LS_→Option τ):∀ (f p g:Nat),p≤m.length→m.length<f+p→m.length≤g+p →
  runE L80_11 f κ 0 [.I N,.N m.length,.I r,.I c,.I p,.I (fp q),.I (fe q),.N (fm q).length,.L (fm q),.LL m]=κ 0 [.I N,.N m.length,.I r,.I c,.I (findp m c g p),.I (fp q),.I (fe q),.N (fm q).length,.L (fm q),.LL m]
 | 0,p,g,h1,h2,h3=>by omega
 | f+1,p,g,h1,h2,h3=>by
  have hf:=hm.few
  have hs:=hm.short
  rw [runE_succ]
  show L80_11.s0 _ _ _=_
  unfold L80_11.s0
  simp only [g_]
  by_cases hj:p<m.length
  ·have e:=wsucc (j:=p) (by omega)
   have hl:=(hm.wd p hj).1
   cases g with
   | zero=>omega
   | succ g =>
   simp only [Int.toNat_natCast,Nat.mul_one,Nat.zero_add]
   rw [br_of (by simp;omega),ck_of (by simp <;> omega),ck_of (by simp <;> omega),ck_of (by simp [-List.getD_eq_getElem?_getD,hl] <;> omega),ck_of (by simp [-List.getD_eq_getElem?_getD,hl] <;> omega)]
   unfold findp
   rw [if_pos hj]
   by_cases hz:ent m p c=0
   ·rw [br_of (by unfold ent at hz;rw [hz];rfl),if_pos hz,e]
    exact L80_11_spec hm N r c hc κ f (p+1) g (by omega) (by omega) (by omega)
   ·rw [br_no (by unfold ent at hz;simpa [-List.getD_eq_getElem?_getD] using hz),if_neg hz]
  ·have:p=m.length:=by omega
   subst this
   rw [br_no (by simp)]
   cases g with
   | zero=>rfl
   | succ g=>unfold findp;rw [if_neg (by omega)]
theorem fld (q:Nat) (hq:q∈Qs):Fld q (fadd q) (fmul q) (fneg q) (finv q):=fld_of hq
theorem qs_lt {q:Nat} (hq:q∈Qs):1<q∧q≤16:=by
 have:Qs.all (fun q=>decide (1<q∧q≤16))=true:=by decide
 simpa using List.all_eq_true.1 this q hq
def elimTo (add mul:Int→Int→Int) (neg:Int→Int) (m:List (List Int)) (r c k:Nat):List (List Int) :=
 (List.range m.length).map fun i=>if i=r∨k≤i then m.getD i [] else vadd add (m.getD i []) (vmul mul (neg (ent m i c)) (m.getD r []))
theorem elimTo_len {add mul:Int→Int→Int} {neg:Int→Int} {m:List (List Int)} {r c k:Nat}:(elimTo add mul neg m r c k).length=m.length:=by simp [elimTo]
theorem elimTo_get {add mul:Int→Int→Int} {neg:Int→Int} {m:List (List Int)} {r c k i:Nat} (hi:i<m.length) :
  (elimTo add mul neg m r c k).getD i []=if i=r∨k≤i then m.getD i [] else vadd add (m.getD i []) (vmul mul (neg (ent m i c)) (m.getD r [])):=by
 simp [elimTo,List.getD_eq_getElem?_getD,hi]
theorem elimTo_zero {add mul:Int→Int→Int} {neg:Int→Int} {m:List (List Int)} {r c:Nat}:elimTo add mul neg m r c 0=m :=
 ext_rows elimTo_len fun j hj=>by rw [elimTo_len] at hj;rw [elimTo_get hj,if_pos (.inr (Nat.zero_le _))]
theorem elimTo_all {add mul:Int→Int→Int} {neg:Int→Int} {m:List (List Int)} {r c:Nat}:elimTo add mul neg m r c m.length=elim add mul neg m r c :=
 ext_rows (elimTo_len.trans elim_len.symm) fun j hj=>by
  rw [elimTo_len] at hj
  rw [elimTo_get hj,elim_get hj]
  by_cases h:j=r
  ·rw [if_pos (.inl h),if_pos h]
  ·rw [if_neg (by omega),if_neg h]
theorem L80_19_spec {q n:Nat} (hq:q∈Qs) {m:List (List Int)} (hm:Rows q n m) (N:Int) (r c:Nat) (hc:c<n) (hr:r<m.length) {τ:Type} (κ:Nat→LS_→Option τ):∀ (f k:Nat),k≤m.length→m.length<f+k →
  runE L80_19 f κ 0 [.I N,.N m.length,.I r,.I c,.I k,.I (fp q),.I (fe q),.N (fm q).length,.L (fm q),.LL (elimTo (fadd q) (fmul q) (fneg q) m r c k)]=κ 0 [.I N,.N m.length,.I r,.I c,.I (fp q),.I (fe q),.N (fm q).length,.L (fm q),.LL (elim (fadd q) (fmul q) (fneg q) m r c)]
 | 0,k,h1,h2=>by omega
 | f+1,k,h1,h2=>by
  have hf:=hm.few
  have hs:=hm.short
  have F:=fld q hq
  rw [runE_succ]
  show L80_19.s0 _ _ _=_
  unfold L80_19.s0
  simp only [g_]
  by_cases hj:k<m.length
  ·have e:=wsucc (j:=k) (by omega)
   have wk:=hm.wd k hj
   have wr:=hm.wd r hr
   have gk:(elimTo (fadd q) (fmul q) (fneg q) m r c k).getD k []=m.getD k []:=by rw [elimTo_get hj,if_pos (.inr (Nat.le_refl _))]
   have gr:(elimTo (fadd q) (fmul q) (fneg q) m r c k).getD r []=m.getD r []:=by rw [elimTo_get hr,if_pos (.inl rfl)]
   have hlen:(elimTo (fadd q) (fmul q) (fneg q) m r c k).length=m.length:=elimTo_len
   have nx:=L80_19_spec hq hm N r c hc hr κ f (k+1) (by omega) (by omega)
   simp only [Int.toNat_natCast,Nat.mul_one,Nat.zero_add,gk,gr,hlen]
   rw [br_of (by simp;omega)]
   by_cases hkr:k=r
   ·rw [br_no (by subst hkr;simp),e]
    have:elimTo (fadd q) (fmul q) (fneg q) m r c (k+1)=elimTo (fadd q) (fmul q) (fneg q) m r c k:=ext_rows (elimTo_len.trans elimTo_len.symm) fun j hj=>by
     rw [elimTo_len] at hj
     rw [elimTo_get hj,elimTo_get hj]
     by_cases h:j=r∨k≤j
     ·rw [if_pos h,if_pos (by omega)]
     ·rw [if_neg h,if_neg (by omega)]
    rw [this] at nx
    exact nx
   ·have x0:=wk.2 c hc
    have ng:=F.neg_in _ x0.1 x0.2
    have wt:=Wd.vmul F ng.1 ng.2 wr
    have hneg:(k:Int)≠r:=by omega
    rw [br_of (by simpa using hneg),ck_of (by simp <;> omega),ck_of (by simp <;> omega),ck_of (by simp <;> omega),ck_of (by simp <;> omega),ck_of (by simp [-List.getD_eq_getElem?_getD,wk.1] <;> omega),ck_of (by simp [-List.getD_eq_getElem?_getD,wk.1] <;> omega),ck_of (by simp)]
    unfold T79
    rw [tab1_of hq x0.1 x0.2]
    simp only [sw_zero,gI_zero]
    rw [ck_of (by simp <;> omega),ck_of (by simp <;> omega),ck_of (by simp),F45_spec hq ng.1 ng.2 (In.of wr) (by rw [wr.1];omega)]
    simp only [sw_zero,gN_zero,gL_zero,gL_succ,Nat.mul_one,List.drop_zero]
    have ht:List.take (m.getD r []).length (vmul (fmul q) (fneg q ((m.getD k []).getD c 0)) (m.getD r []))=vmul (fmul q) (fneg q ((m.getD k []).getD c 0)) (m.getD r []):=by
     rw [←vmul_len (mul:=fmul q) (c:=fneg q ((m.getD k []).getD c 0)) (a:=m.getD r []),List.take_length]
    rw [ht,ck_of (by simp [vmul_len]),F30_spec hq (In.of wk) (In.of wt) (by rw [wk.1,wt.1]) (by rw [wk.1];omega)]
    simp only [sw_zero,gN_zero,gL_zero,gL_succ,Nat.mul_one,List.drop_zero]
    have hva:(vadd (fadd q) (m.getD k []) (vmul (fmul q) (fneg q ((m.getD k []).getD c 0)) (m.getD r []))).length=(m.getD k []).length:=vadd_len (by rw [wk.1,wt.1])
    have ht2:List.take (m.getD k []).length (vadd (fadd q) (m.getD k []) (vmul (fmul q) (fneg q ((m.getD k []).getD c 0)) (m.getD r [])))=vadd (fadd q) (m.getD k []) (vmul (fmul q) (fneg q ((m.getD k []).getD c 0)) (m.getD r [])):=by
     rw [←hva,List.take_length]
    rw [ht2,ck_of (by simp <;> omega),ck_of (by simp [-List.getD_eq_getElem?_getD,hva] <;> omega),e]
    have:elimTo (fadd q) (fmul q) (fneg q) m r c (k+1)=(elimTo (fadd q) (fmul q) (fneg q) m r c k).set k (vadd (fadd q) (m.getD k []) (vmul (fmul q) (fneg q ((m.getD k []).getD c 0)) (m.getD r []))):=ext_rows (by rw [elimTo_len,List.length_set,elimTo_len]) fun j hj'=>by
     rw [elimTo_len] at hj'
     rw [elimTo_get hj',getD_set_row (by rw [elimTo_len];exact hj)]
     by_cases h:k=j
     ·subst h
      rw [if_neg (by omega),if_pos rfl]
      rfl
     ·rw [if_neg h,elimTo_get hj']
      by_cases h2:j=r∨k≤j
      ·rw [if_pos h2,if_pos (by omega)]
      ·rw [if_neg h2,if_neg (by omega)]
    rw [this] at nx
    exact nx
  ·have:k=m.length:=by omega
   subst this
   rw [br_no (by simp),elimTo_all]
theorem Rows.set {q n:Nat} {m:List (List Int)} (hm:Rows q n m) {i:Nat} {v:List Int} (hi:i<m.length) (hv:Wd q n v):Rows q n (m.set i v) :=
 ⟨fun j hj=>by
  rw [getD_set_row hi]
  split
  ·exact hv
  ·exact hm.wd j (by simpa using hj),by simpa using hm.few,hm.short⟩
theorem Rows.lift {q n:Nat} (hq:q∈Qs) {m:List (List Int)} (hm:Rows q n m) {r p c:Nat} (hr:r<m.length) (hp:p<m.length) (hc:c<n):Rows q n (lift (fmul q) (finv q) m r p c):=by
 have F:=fld q hq
 have x0:=(hm.wd p hp).2 c hc
 have hi:=F.inv_in _ x0.1 x0.2
 exact (hm.set hp (hm.wd r hr)).set (by simpa using hr) (Wd.vmul F hi.1 hi.2 (hm.wd p hp))
theorem Rows.elim {q n:Nat} (hq:q∈Qs) {m:List (List Int)} (hm:Rows q n m) {r c:Nat} (hr:r<m.length) (hc:c<n):Rows q n (elim (fadd q) (fmul q) (fneg q) m r c):=by
 have F:=fld q hq
 refine ⟨fun k hk=>?_,by rw [elim_len];exact hm.few,hm.short⟩
 rw [elim_len] at hk
 rw [elim_get hk]
 split
 ·exact hm.wd k hk
 ·have x0:=(hm.wd k hk).2 c hc
  have hi:=F.neg_in _ x0.1 x0.2
  exact Wd.vadd F (hm.wd k hk) (Wd.vmul F hi.1 hi.2 (hm.wd r hr))
theorem L80_8_spec {q n:Nat} (hq:q∈Qs) {τ:Type} (κ:Nat→LS_→Option τ):∀ (g f c r:Nat) (m:List (List Int)),Rows q n m→g+c=n→r≤m.length→n<f+c →
  runE L80_8 f κ 0 [.I n,.N m.length,.I r,.I c,.I (fp q),.I (fe q),.N (fm q).length,.L (fm q),.LL m]=κ 0 [.N m.length,.I (red (fadd q) (fmul q) (fneg q) (finv q) g c r m).2,.LL (red (fadd q) (fmul q) (fneg q) (finv q) g c r m).1]
 | _,0,c,r,m,hm,hg,hr,hf=>by omega
 | 0,f+1,c,r,m,hm,hg,hr,hf=>by
  rw [runE_succ]
  show L80_8.s0 _ _ _=_
  unfold L80_8.s0
  simp only [g_]
  rw [br_no (by simp;omega)]
  rfl
 | g+1,f+1,c,r,m,hm,hg,hr,hf=>by
  have h1:=hm.few
  have h2:=hm.short
  have F:=fld q hq
  have hfu:=fuel_le
  rw [runE_succ]
  show L80_8.s0 _ _ _=_
  unfold L80_8.s0
  simp only [g_]
  have hc:c<n:=by omega
  unfold red
  rw [br_of (by simp;omega)]
  by_cases hlt:r<m.length
  ·rw [br_of (by simp;omega),if_pos hlt]
   unfold L80_11.b
   rw [L80_11_spec hm n r c hc _ fuel r (m.length-r) (by omega) (by omega) (by omega)]
   simp only [g_,sw_zero]
   obtain ⟨a1,a2,a3,a4⟩:=findp_spec m c (m.length-r) r (by omega) (by omega)
   generalize hp:findp m c (m.length-r) r=p at *
   by_cases hpl:p=m.length
   ·rw [br_of (by simp [hpl]),if_pos hpl,wsucc (by omega)]
    exact L80_8_spec hq κ g f (c+1) r m hm (by omega) hr (by omega)
   ·have hp':p<m.length:=by omega
    have wp:=hm.wd p hp'
    have wrr:=hm.wd r hlt
    have x0:=wp.2 c hc
    have xz:(m.getD p []).getD c 0≠0:=a4 hp'
    have hi:=F.inv_in _ x0.1 x0.2
    have wt:=Wd.vmul F hi.1 hi.2 wp
    have hpn:(p:Int)≠m.length:=by omega
    rw [br_no (by simpa using hpn),if_neg hpl]
    simp only [Int.toNat_natCast,Nat.mul_one,Nat.zero_add]
    rw [ck_of (by simp <;> omega),ck_of (by simp <;> omega),ck_of (by simp <;> omega),ck_of (by simp <;> omega),ck_of (by simp <;> omega),ck_of (by simp <;> omega),ck_of (by simp [-List.getD_eq_getElem?_getD,wp.1] <;> omega),ck_of (by simp [-List.getD_eq_getElem?_getD,wp.1] <;> omega),ck_of (by simp)]
    unfold T111
    rw [tabI_of hq x0.1 x0.2 xz]
    simp only [sw_zero,gI_zero]
    rw [ck_of (by simp),F45_spec hq hi.1 hi.2 (In.of wp) (by rw [wp.1];omega)]
    simp only [sw_zero,gN_zero,gL_zero,gL_succ,Nat.mul_one,List.drop_zero]
    have ht:List.take (m.getD p []).length (vmul (fmul q) (finv q ((m.getD p []).getD c 0)) (m.getD p []))=vmul (fmul q) (finv q ((m.getD p []).getD c 0)) (m.getD p []):=by
     rw [←vmul_len (mul:=fmul q) (c:=finv q ((m.getD p []).getD c 0)) (a:=m.getD p []),List.take_length]
    rw [ht,ck_of (by simp <;> omega),ck_of (by simp [-List.getD_eq_getElem?_getD,vmul_len] <;> omega)]
    unfold L80_19.b
    have e1:(m.set p (m.getD r [])).set r (vmul (fmul q) (finv q ((m.getD p []).getD c 0)) (m.getD p []))=lift (fmul q) (finv q) m r p c:=rfl
    rw [e1]
    have hml:=hm.lift hq hlt hp' hc
    have ll:(lift (fmul q) (finv q) m r p c).length=m.length:=lift_len
    have sp:=L80_19_spec hq hml n r c hc (by rw [ll];exact hlt) (fun j l16=>sw (runE L80_8 f κ 0 [.I (gI l16 0),.N (gN l16 1),.I (wr .i64 (gI l16 2+1)),.I (wr .i64 (gI l16 3+1)),.I (gI l16 4),.I (gI l16 5),.N (gN l16 6),.L (gL l16 7),.LL (gLL l16 8)]) (fun _=>none) j) fuel 0 (by omega) (by omega)
    rw [elimTo_zero,ll] at sp
    refine Eq.trans sp ?_
    simp only [g_,sw_zero]
    rw [wsucc (by omega),wsucc (by omega)]
    have:=L80_8_spec hq κ g f (c+1) (r+1) (elim (fadd q) (fmul q) (fneg q) (lift (fmul q) (finv q) m r p c) r c) (hml.elim hq (by rw [ll];exact hlt) hc) (by omega) (by rw [elim_len,ll];omega) (by omega)
    rw [elim_len,ll] at this
    exact this
  ·rw [br_no (by simp;omega),if_neg hlt]
theorem red_len {add mul:Int→Int→Int} {neg inv:Int→Int}:∀ (g c r:Nat) (m:List (List Int)),(red add mul neg inv g c r m).1.length=m.length∧r≤(red add mul neg inv g c r m).2∧(r≤m.length→(red add mul neg inv g c r m).2≤m.length)
 | 0,c,r,m=>⟨rfl,Nat.le_refl _,id⟩
 | g+1,c,r,m=>by
  unfold red
  split
  ·split
   ·exact red_len g (c+1) r m
   ·obtain ⟨a,b,d⟩:=red_len (add:=add) (mul:=mul) (neg:=neg) (inv:=inv) g (c+1) (r+1) (elim add mul neg (lift mul inv m r (findp m c (m.length-r) r) c) r c)
    rw [elim_len,lift_len] at a d
    exact ⟨a,by omega,fun h=>d (by omega)⟩
  ·exact ⟨rfl,Nat.le_refl _,id⟩
theorem F80_spec {q n:Nat} (hq:q∈Qs) {m:List (List Int)} (hm:Rows q n m) {τ:Type} (k:Nat→LS_→Option τ) :
  F80 [.I (fp q),.I (fe q),.L (fm q),.I n,.LL m] k =
   if (red (fadd q) (fmul q) (fneg q) (finv q) n 0 0 m).2=0 then k 1 [.N 0] else k 0 [.N (red (fadd q) (fmul q) (fneg q) (finv q) n 0 0 m).2,.LL (red (fadd q) (fmul q) (fneg q) (finv q) n 0 0 m).1]:=by
 have h1:=hm.few
 have h2:=hm.short
 have hfu:=fuel_le
 unfold F80 L80_3.b L80_8.b
 simp only [g_]
 have e1:=L80_3_spec hm n (fun j l5=>sw (runE L80_8 fuel (fun j l17=>sw (ck (((((Bool.true&&(leI (0:Int) (gI l17 1)))&&(leI (gI l17 1) (gI l17 1)))&&(leI (gI l17 1) (((gN l17 0):Nat):Int)))&&Bool.true)&&Bool.true)
  (br (ltI (0:Int) (gI l17 1)) (k 0 [(Leaf.N ((Int.toNat (gI l17 1))-0)),(Leaf.LL (gLL l17 2))]) (k 1 [(Leaf.N 0)]))) (fun _=>none) j) 0 [.I (gI l5 0),.N (gN l5 1),.I 0,.I 0,.I (gI l5 2),.I (gI l5 3),.N (gN l5 4),.L (gL l5 5),.LL (gLL l5 6)]) (fun _=>none) j) fuel 0 (by omega) (by omega)
 refine Eq.trans e1 ?_
 simp only [g_,sw_zero]
 obtain ⟨a,b,d⟩:=red_len (add:=fadd q) (mul:=fmul q) (neg:=fneg q) (inv:=finv q) n 0 0 m
 have e2:=L80_8_spec hq (fun j l17=>sw (ck (((((Bool.true&&(leI (0:Int) (gI l17 1)))&&(leI (gI l17 1) (gI l17 1)))&&(leI (gI l17 1) (((gN l17 0):Nat):Int)))&&Bool.true)&&Bool.true)
  (br (ltI (0:Int) (gI l17 1)) (k 0 [(Leaf.N ((Int.toNat (gI l17 1))-0)),(Leaf.LL (gLL l17 2))]) (k 1 [(Leaf.N 0)]))) (fun _=>none) j) n fuel 0 0 m hm (by omega) (by omega) (by omega)
 refine Eq.trans e2 ?_
 simp only [g_,sw_zero]
 rw [ck_of (by simp;exact d (Nat.zero_le _))]
 by_cases hz:(red (fadd q) (fmul q) (fneg q) (finv q) n 0 0 m).2=0
 ·rw [if_pos hz,hz,br_no (by simp)]
 ·rw [if_neg hz,br_of (by simp;omega)]
  simp
def Bytes (l:List Int):Prop:=l.length<2^63∧∀ j,0≤l.getD j 0∧l.getD j 0<256
theorem F32_spec {n:Nat} (hn:n<2^30) {τ:Type} (k:Nat→LS_→Option τ):F32 [.I n] k=k 0 [.N n,.L (List.replicate n 0)]:=by
 unfold F32
 simp only [gI_zero]
 rw [ck_of (by simp <;> omega)]
 simp
theorem Wd.zeros {q n:Nat} (hq:0<q):Wd q n (List.replicate n 0):=⟨by simp,fun j hj=>by simp [List.getD_eq_getElem?_getD,List.getElem?_replicate,hj];omega⟩
theorem Wd.set {q n:Nat} {l:List Int} (h:Wd q n l) {j:Nat} {x:Int} (h0:0≤x) (h1:x<q):Wd q n (l.set j x):=by
 refine ⟨by simpa using h.1,fun i hi=>?_⟩
 have:=h.2 i hi
 simp only [List.getD_eq_getElem?_getD,List.getElem?_set] at this ⊢
 split
 ·split
  ·exact ⟨h0,h1⟩
  ·rename_i hx hy
   exact ⟨by simp,by simp;omega⟩
 ·exact this
theorem tmod_in {a b:Int} (ha:0≤a) (hb:0<b):0≤a.tmod b∧a.tmod b<b:=⟨Int.tmod_nonneg b ha,Int.tmod_lt_of_pos a hb⟩
theorem L35_10_run (f:Nat) {τ:Type} (κ:Nat→LS_→Option τ) (l:LS_):runE L35_10 (f+1) κ 0 l=L35_10.s0 (runE L35_10 f κ) κ l:=rfl
theorem L35_10_spec {q n:Nat} (hq:q∈Qs) (hn:n<64) (i:Nat) (hi:i<64) {L:List Int} (hL:Bytes L) (K a b c u1 u2:Int) (cnt:Nat) (out:List (List Int)):∀ (f j:Nat) (row:List Int),Wd q n row→j≤n→n<f+j →
  ∃ row',Wd q n row'∧∀ {τ:Type} (κ:Nat→LS_→Option τ),runE L35_10 f κ 0 [.I q,.I n,.I K,.N cnt,.I i,.N n,.I j,.I a,.I b,.I c,.N L.length,.L L,.I u1,.I u2,.LL out,.L row]=κ 0 [.I q,.I n,.I K,.N cnt,.I i,.N n,.I a,.I b,.I c,.N L.length,.L L,.I u1,.I u2,.LL out,.L row']
 | 0,j,row,hr,h1,h2=>by omega
 | f+1,j,row,hr,h1,h2=>by
  have hq1:=(qs_lt hq).1
  have hLl:=hL.1
  by_cases hj:j<n
  ·have e:=wsucc (j:=j) (by omega)
   by_cases hz:0<L.length
   ·have hmul:(i:Int)*n=((i*n:Nat):Int):=by simp
    have hin:i*n<4096:=Nat.mul_lt_mul'' hi hn
    have e2:wr .i64 ((i:Int)*n)=((i*n:Nat):Int):=by rw [hmul,wr64 (by omega) (by omega)]
    have e3:wr .i64 (((i*n:Nat):Int)+j)=((i*n+j:Nat):Int):=by rw [wr64 (by omega) (by omega)];rfl
    have ht:=tmod_in (a:=((i*n+j:Nat):Int)) (b:=(L.length:Int)) (by omega) (by omega)
    generalize hte:Int.tmod ((i*n+j:Nat):Int) (L.length:Int)=t at *
    have hx:=hL.2 t.toNat
    have hy:=tmod_in (a:=L.getD t.toNat 0) (b:=(q:Int)) hx.1 (by omega)
    obtain ⟨row',w1,w2⟩:=L35_10_spec hq hn i hi hL K a b c u1 u2 cnt out f (j+1) _ (Wd.set hr hy.1 hy.2 (j:=j)) (by omega) (by omega)
    refine ⟨row',w1,fun κ=>?_⟩
    rw [L35_10_run]
    unfold L35_10.s0
    simp only [g_,e2,e3,hte]
    simp only [Nat.mul_one,Nat.zero_add,Int.toNat_natCast]
    rw [br_of (by simp;omega),br_of (by simp only [gtI_iff];omega),ck_of (by simp only [Bool.not_eq_true',beq_eq_false_iff_ne];omega),ck_of (by simp <;> omega),ck_of (by simp <;> omega),ck_of (by simp only [Bool.not_eq_true',beq_eq_false_iff_ne];omega),ck_of (by simp <;> omega),ck_of (by simp [hr.1] <;> omega),e,wr64 (n:=L.getD t.toNat 0) (by omega) (by omega)]
    exact w2 κ
   ·obtain ⟨row',w1,w2⟩:=L35_10_spec hq hn i hi hL K a b c u1 u2 cnt out f (j+1) row hr (by omega) (by omega)
    refine ⟨row',w1,fun κ=>?_⟩
    rw [L35_10_run]
    unfold L35_10.s0
    simp only [g_]
    rw [br_of (by simp;omega),br_no (by simp only [gtI_no];omega),e]
    exact w2 κ
  ·refine ⟨row,hr,fun κ=>?_⟩
   rw [L35_10_run]
   unfold L35_10.s0
   simp only [g_]
   rw [br_no (by simp;omega)]
theorem Rows.snoc {q n:Nat} {m:List (List Int)} (hm:Rows q n m) {v:List Int} (hv:Wd q n v) (hl:m.length+1<2^20):Rows q n (m++[v]) :=
 ⟨fun i hi=>by
  simp only [List.length_append,List.length_cons,List.length_nil] at hi
  by_cases h:i<m.length
  ·have:=hm.wd i h
   simpa [List.getD_eq_getElem?_getD,List.getElem?_append_left h] using this
  ·have:i=m.length:=by omega
   subst this
   simpa [List.getD_eq_getElem?_getD] using hv,by simpa using hl,hm.short⟩
theorem L35_6_run (f:Nat) {τ:Type} (κ:Nat→LS_→Option τ) (l:LS_):runE L35_6 (f+1) κ 0 l=L35_6.s0 (runE L35_6 f κ) κ l:=rfl
theorem L35_6_spec {q n:Nat} (hq:q∈Qs) (hn:n<64) (K:Nat) (hK:K<64) {L:List Int} (hL:Bytes L) (a b c u1 u2:Int):∀ (f i:Nat) (out:List (List Int)),Rows q n out→out.length=i→i≤K→K<f+i →
  ∃ out',Rows q n out'∧out'.length=K∧∀ {τ:Type} (κ:Nat→LS_→Option τ),runE L35_6 f κ 0 [.I q,.I n,.I K,.N i,.I i,.I a,.I b,.I c,.N L.length,.L L,.I u1,.I u2,.LL out]=κ 0 [.I q,.I n,.N K,.I u1,.I u2,.LL out']
 | 0,i,out,hr,hl,h1,h2=>by omega
 | f+1,i,out,hr,hl,h1,h2=>by
  have hq1:=(qs_lt hq).1
  have hLl:=hL.1
  have hfu:=fuel_le
  have take_all:∀ v:List Int,Wd q n v→List.take n v=v:=fun v hv=>by rw [←hv.1,List.take_length]
  by_cases hj:i<K
  ·have e:=wsucc (j:=i) (by omega)
   obtain ⟨row,w1,w2⟩:=L35_10_spec hq hn i (by omega) hL K a b c u1 u2 i out fuel 0 (List.replicate n 0) (Wd.zeros (by omega)) (by omega) (by omega)
   have w2:∀ {τ:Type} (κ:Nat→LS_→Option τ),runE L35_10 fuel κ 0 [.I q,.I n,.I K,.N i,.I i,.N n,.I 0,.I a,.I b,.I c,.N L.length,.L L,.I u1,.I u2,.LL out,.L (List.replicate n 0)]=_:=w2
   by_cases hin:i<n
   ·have wset:Wd q n (row.set i 1):=Wd.set w1 (by omega) (by omega)
    obtain ⟨out',o1,o2,o3⟩:=L35_6_spec hq hn K hK hL a b c u1 u2 f (i+1) (out++[row.set i 1]) (hr.snoc wset (by omega)) (by simp [hl]) (by omega) (by omega)
    refine ⟨out',o1,o2,fun κ=>?_⟩
    rw [L35_6_run]
    unfold L35_6.s0
    simp only [g_]
    rw [br_of (by simp;omega),F32_spec (by omega)]
    simp only [sw_zero,gN_zero,gL_zero,gL_succ]
    unfold L35_10.b
    rw [w2]
    simp only [g_,sw_zero,Int.toNat_natCast,Nat.mul_one,Nat.zero_add,List.drop_zero]
    rw [br_of (by simp;omega),take_all _ wset,ck_of (by simp <;> omega),ck_of (by simp [w1.1] <;> omega),ck_of (by simp [w1.1]),ck_of (by simp [hl] <;> omega),e]
    exact o3 κ
   ·obtain ⟨out',o1,o2,o3⟩:=L35_6_spec hq hn K hK hL a b c u1 u2 f (i+1) (out++[row]) (hr.snoc w1 (by omega)) (by simp [hl]) (by omega) (by omega)
    refine ⟨out',o1,o2,fun κ=>?_⟩
    rw [L35_6_run]
    unfold L35_6.s0
    simp only [g_]
    rw [br_of (by simp;omega),F32_spec (by omega)]
    simp only [sw_zero,gN_zero,gL_zero,gL_succ]
    unfold L35_10.b
    rw [w2]
    simp only [g_,sw_zero,Int.toNat_natCast,Nat.mul_one,Nat.zero_add,List.drop_zero]
    rw [br_no (by simp;omega),take_all _ w1,ck_of (by simp [w1.1]),ck_of (by simp [hl] <;> omega),e]
    exact o3 κ
  ·have:i=K:=by omega
   subst this
   refine ⟨out,hr,hl,fun κ=>?_⟩
   rw [L35_6_run]
   unfold L35_6.s0
   simp only [g_]
   rw [br_no (by simp)]
def mosts:List Nat:=[8,5,4,3,2,2]
theorem F29_spec {q:Nat} (hq:q∈Qs) {τ:Type} (k:Nat→LS_→Option τ):F29 [.I q] k=k 0 [.I (fp q),.I (fe q),.N (fm q).length,.L (fm q)]:=by
 unfold F29 T76
 simp only [gI_zero]
 rw [tabM_of hq]
 simp only [g_,sw_zero]
structure Cd (q n:Nat) (G:List (List Int)):Prop where
 fq:q∈Qs
 n0:1≤n
 n1:n≤10
 form:∃ piv,Rref q n G piv
 count:q^G.length≤256
theorem F35_specq {Q N K:Int} {L:List Int} (hQ:0≤Q∧Q<256) (hN:0≤N∧N<256) (hK:0≤K∧K<256) (hL:Bytes L) :
  ∃ (q n:Nat) (M:List (List Int)) (r:Nat),(Q=0→q=2)∧Cd q n (M.take r)∧(M.take r).length=r∧Rows q n M∧∀ {τ:Type} (κ:Nat→LS_→Option τ),F35 [.I Q,.I N,.I K,.L L] κ=if r=0 then κ 1 [.I q,.I n,.N 0] else κ 0 [.I q,.I n,.N r,.LL M]:=by
 have hfu:=fuel_le
 have hLl:=hL.1
 obtain ⟨t,ht,ht6⟩:∃ t:Nat,Int.tmod Q 6=t∧t<6:=by
  have:=tmod_in (a:=Q) (b:=6) hQ.1 (by omega)
  exact ⟨(Int.tmod Q 6).toNat,by omega,by omega⟩
 obtain ⟨n',hn',hn10⟩:∃ t:Nat,Int.tmod N 10=t∧t<10:=by
  have:=tmod_in (a:=N) (b:=10) hN.1 (by omega)
  exact ⟨(Int.tmod N 10).toNat,by omega,by omega⟩
 have hqs:∀ t,t<6→(List.getD [(2:Int),3,4,5,7,8] t 0=((Qs.getD t 0:Nat):Int)∧List.getD [(8:Int),5,4,3,2,2] t 0=((mosts.getD t 0:Nat):Int)∧Qs.getD t 0∈Qs∧(Qs.getD t 0)^(mosts.getD t 0)≤256∧mosts.getD t 0≤8):=by
  decide
 obtain ⟨q1,q2,hq,q4,q5⟩:=hqs t ht6
 generalize hqe:Qs.getD t 0=q at *
 generalize hme:mosts.getD t 0=most at *
 obtain ⟨K',hK',hKm⟩:∃ t:Nat,Int.tmod K ((most+1:Nat):Int)=t∧t≤most:=by
  have:=tmod_in (a:=K) (b:=((most+1:Nat):Int)) hK.1 (by omega)
  exact ⟨(Int.tmod K ((most+1:Nat):Int)).toNat,by omega,by omega⟩
 have hq1:=qs_lt hq
 have F:=fld q hq
 have e0:Rows q (1+n') ([]:List (List Int)):=⟨fun i hi=>by simp at hi,by simp,by omega⟩
 obtain ⟨m,m1,m2,m3⟩:=L35_6_spec hq (n:=1+n') (by omega) K' (by omega) hL Q N K 0 0 fuel 0 [] e0 rfl (Nat.zero_le _) (by omega)
 obtain ⟨piv,c,c1,c2,c3,c4⟩:=red_way F (1+n') 0 0 m (fun _=>0) (by omega) ⟨m1.wd,Nat.zero_le _,fun i hi=>by omega,fun i j _ hj=>by omega,fun i hi=>by omega,fun i k hi=>by omega,fun i j hi=>by omega,fun k j _ _ hj=>by omega⟩
 have hrl:=c2.rl
 have htl:((red (fadd q) (fmul q) (fneg q) (finv q) (1+n') 0 0 m).1.take (red (fadd q) (fmul q) (fneg q) (finv q) (1+n') 0 0 m).2).length=(red (fadd q) (fmul q) (fneg q) (finv q) (1+n') 0 0 m).2:=by
  rw [List.length_take];exact Nat.min_eq_left hrl
 refine ⟨q,1+n',(red (fadd q) (fmul q) (fneg q) (finv q) (1+n') 0 0 m).1,(red (fadd q) (fmul q) (fneg q) (finv q) (1+n') 0 0 m).2,fun hQ0=>?_,⟨hq,by omega,by omega,⟨piv,c2.rref c1⟩,?_⟩,htl,⟨c2.wd,by rw [c4];exact m1.few,m1.short⟩,fun κ=>?_⟩
 ·subst hQ0
  have:t=0:=by rw [Int.zero_tmod] at ht;omega
  rw [←hqe,this];rfl
 ·rw [htl]
  refine Nat.le_trans (Nat.pow_le_pow_right (by omega) ?_) q4
  omega
 ·unfold F35
  simp only [g_,ht,hn',Int.toNat_natCast,Nat.mul_one,Nat.zero_add]
  rw [q1,q2]
  have w1:wr .i64 ((most:Int)+1)=((most+1:Nat):Int):=wsucc (by omega)
  have w2:wr .i64 ((1:Int)+wr .i64 (n':Int))=((1+n':Nat):Int):=by rw [wr64 (n:=(n':Int)) (by omega) (by omega),wr64 (by omega) (by omega)];simp
  have w3:wr .i64 K=K:=wr64 (by omega) (by omega)
  rw [w1,w2,w3,hK',ck_of (by simp <;> omega),ck_of (by simp <;> omega),ck_of (by simp <;> omega),ck_of (by simp <;> omega),ck_of (by simp only [Bool.not_eq_true',beq_eq_false_iff_ne];omega)]
  unfold L35_6.b
  have m3':∀ {τ:Type} (κ:Nat→LS_→Option τ),runE L35_6 fuel κ 0 [.I q,.I ((1+n':Nat):Int),.I K',.N 0,.I 0,.I Q,.I N,.I K,.N L.length,.L L,.I 0,.I 0,.LL []]=_:=m3
  rw [m3']
  simp only [g_,sw_zero]
  rw [F29_spec hq]
  simp only [g_,sw_zero,Nat.mul_one,List.drop_zero,List.take_length]
  have hmt:List.take K' m=m:=by rw [←m2,List.take_length]
  rw [hmt,ck_of (by simp [m2]),F80_spec hq m1]
  by_cases hz:(red (fadd q) (fmul q) (fneg q) (finv q) (1+n') 0 0 m).2=0
  ·rw [if_pos hz,if_pos hz]
   simp only [sw_one,sw_zero,gN_zero]
  ·rw [if_neg hz,if_neg hz]
   simp only [sw_zero,gN_zero,gLL_zero,gLL_succ]
theorem pow_le_of {q a b M:Nat} (hq:0<q) (h:a≤b) (hM:q^b≤M):q^a≤M:=Nat.le_trans (Nat.pow_le_pow_right hq h) hM
theorem L61_run (f:Nat) {τ:Type} (κ:Nat→LS_→Option τ) (l:LS_):runE L61_3 (f+1) κ 0 l=L61_3.s0 (runE L61_3 f κ) κ l:=rfl
theorem L61_spec {q:Nat} (hq:q∈Qs) (n:Int) (G:List (List Int)) (hc:q^G.length≤4096) (hs:G.length<2^20) {τ:Type} (κ:Nat→LS_→Option τ):∀ (f i:Nat),i≤G.length→G.length<f+i →
  runE L61_3 f κ 0 [.I ((q^i:Nat):Int),.I i,.I q,.I n,.N G.length,.LL G]=κ 0 [.I ((q^G.length:Nat):Int)]
 | 0,i,h1,h2=>by omega
 | f+1,i,h1,h2=>by
  have hq1:=qs_lt hq
  rw [L61_run]
  unfold L61_3.s0
  simp only [g_]
  by_cases hj:i<G.length
  ·have hp:=pow_le_of (q:=q) (by omega) (show i+1≤G.length by omega) hc
   have e1:((q^i:Nat):Int)*q=((q^(i+1):Nat):Int):=by rw [Nat.pow_succ];simp
   have e2:wr .i64 (((q^i:Nat):Int)*q)=((q^(i+1):Nat):Int):=by rw [e1,wr64 (by omega) (by omega)]
   have e3:min ((q^(i+1):Nat):Int) 4097=((q^(i+1):Nat):Int):=by omega
   rw [br_of (by simp;omega),e2,e3,wsucc (by omega)]
   exact L61_spec hq n G hc hs κ f (i+1) (by omega) (by omega)
  ·have:i=G.length:=by omega
   subst this
   rw [br_no (by simp)]
theorem F61_spec {q:Nat} (hq:q∈Qs) (n:Int) (G:List (List Int)) (hc:q^G.length≤4096) (hs:G.length<2^20) {τ:Type} (k:Nat→LS_→Option τ) :
  F61 [.I q,.I n,.LL G] k=k 0 [.I ((q^G.length:Nat):Int)]:=by
 have hfu:=fuel_le
 unfold F61 L61_3.b
 simp only [g_]
 exact L61_spec hq n G hc hs (fun j l20=>sw (k 0 [.I (gI l20 0)]) (fun _=>none) j) fuel 0 (by omega) (by omega)
theorem L106_run (f:Nat) {τ:Type} (κ:Nat→LS_→Option τ) (l:LS_):runE L106_3 (f+1) κ 0 l=L106_3.s0 (runE L106_3 f κ) κ l:=rfl
theorem digs_in {q:Nat} (hq:0<q):∀ (k j:Nat),In q (digs q k j)
 | 0,j=>fun i hi=>by simp [digs] at hi
 | k+1,j=>fun i hi=>by
  have:=Nat.mod_lt (j / q^k) hq
  cases i with
  | zero=>simp only [digs,List.getD_cons_zero];omega
  | succ i =>
   simp only [digs,List.getD_cons_succ]
   exact digs_in hq k j i (by simpa [digs] using hi)
theorem L106_spec {q:Nat} (hq:q∈Qs) (n:Int) (G:List (List Int)) (hs:G.length<2^20) (num:Nat) (hnum:num<2^40) {τ:Type} (κ:Nat→LS_→Option τ):∀ (i f d:Nat),i+d=G.length→i<f →
  runE L106_3 f κ 0 [.I ((num / q^d:Nat):Int),.N G.length,.I ((i:Int)-1),.I q,.I n,.N G.length,.LL G,.L (List.replicate i 0++digs q d num)]=κ 0 [.N G.length,.L (digs q G.length num)]
 | i,0,d,h1,h2=>by omega
 | 0,f+1,d,h1,h2=>by
  rw [L106_run]
  unfold L106_3.s0
  simp only [g_]
  rw [br_no (by simp)]
  have:d=G.length:=by omega
  subst this
  simp
 | i+1,f+1,d,h1,h2=>by
  have hq1:=qs_lt hq
  have hdl:=digs_len q d num
  rw [L106_run]
  unfold L106_3.s0
  simp only [g_]
  have e0:((i+1:Nat):Int)-1=(i:Nat):=by omega
  have hlt:num / q^d≤num:=Nat.div_le_self _ _
  have e1:Int.tdiv ((num / q^d:Nat):Int) q=((num / q^(d+1):Nat):Int):=by rw [Nat.pow_succ,←Nat.div_div_eq_div_mul];rfl
  have hlt2:num / q^(d+1)≤num:=Nat.div_le_self _ _
  have e2:Int.tmod ((num / q^d:Nat):Int) q=((num / q^d % q:Nat):Int):=rfl
  have e3:wr .i64 ((i:Int)-1)=(i:Int)-1:=wr64 (by omega) (by omega)
  simp only [e0,e1,e2,e3,Int.toNat_natCast,Nat.mul_one,Nat.zero_add]
  have e4:wr .i64 ((num / q^(d+1):Nat):Int)=((num / q^(d+1):Nat):Int):=wr64 (Int.le_trans (by decide) (Int.natCast_nonneg _)) (Int.lt_of_le_of_lt (Int.ofNat_le.2 hlt2) (by omega))
  rw [br_of (by simp),ck_of (by simp only [Bool.not_eq_true',beq_eq_false_iff_ne];omega),ck_of (by simp <;> omega),ck_of (by simp [hdl] <;> omega),ck_of (by simp only [Bool.not_eq_true',beq_eq_false_iff_ne];omega),e4]
  have e5:(List.replicate (i+1) (0:Int)++digs q d num).set i ((num / q^d % q:Nat):Int)=List.replicate i 0++digs q (d+1) num:=by
   rw [List.replicate_succ',List.append_assoc,List.set_append]
   simp [digs]
  rw [e5]
  exact L106_spec hq n G hs num hnum κ i f (d+1) (by omega) (by omega)
theorem F106_spec {q:Nat} (hq:q∈Qs) (n:Int) (G:List (List Int)) (hs:G.length<2^20) (num:Nat) (hnum:num<2^40) {τ:Type} (k:Nat→LS_→Option τ) :
  F106 [.I q,.I n,.LL G,.I num] k=k 0 [.N G.length,.L (digs q G.length num)]:=by
 have hfu:=fuel_le
 unfold F106 L106_3.b
 simp only [g_,Int.toNat_natCast]
 rw [ck_of (by simp <;> omega),wr64 (n:=(G.length:Int)-1) (by omega) (by omega)]
 have:=L106_spec hq n G hs num hnum (fun j l23=>sw (k 0 [.N (gN l23 0),.L (gL l23 1)]) (fun _=>none) j) G.length fuel 0 (by omega) (by omega)
 simp only [Nat.pow_zero,Nat.div_one,digs,List.append_nil] at this
 exact this
theorem L96_run (f:Nat) {τ:Type} (κ:Nat→LS_→Option τ) (l:LS_):runE L96_3 (f+1) κ 0 l=L96_3.s0 (runE L96_3 f κ) κ l:=rfl
theorem L96_spec {q n:Nat} (hq:q∈Qs) {G:List (List Int)} (hG:Rows q n G) {msg:List Int} (hm:In q msg) (hl:msg.length=G.length) {τ:Type} (κ:Nat→LS_→Option τ):∀ (f i:Nat) (w:List Int),Wd q n w→i≤G.length→G.length<f+i →
  runE L96_3 f κ 0 [.N msg.length,.L msg,.N n,.I i,.I q,.I n,.N G.length,.LL G,.I (fp q),.I (fe q),.N (fm q).length,.L w,.L (fm q)]=κ 0 [.N n,.L (comb (fadd q) (fmul q) (G.drop i) (msg.drop i) w)]
 | 0,i,w,hw,h1,h2=>by omega
 | f+1,i,w,hw,h1,h2=>by
  have h3:=hG.few
  have h4:=hG.short
  have F:=fld q hq
  rw [L96_run]
  unfold L96_3.s0
  simp only [g_]
  by_cases hj:i<G.length
  ·have wg:=hG.wd i hj
   have wm:=hm i (by omega)
   have wt:=Wd.vmul F wm.1 wm.2 wg
   simp only [Int.toNat_natCast,Nat.mul_one,List.drop_zero,List.take_length]
   rw [br_of (by simp;omega),ck_of (by simp <;> omega),ck_of (by simp <;> omega),ck_of (by simp <;> omega),ck_of (by simp <;> omega),ck_of (by simp),F45_spec hq wm.1 wm.2 (In.of wg) (by rw [wg.1];omega)]
   simp only [sw_zero,gN_zero,gL_zero,gL_succ,Nat.mul_one,List.drop_zero]
   have t1:List.take n w=w:=by rw [←hw.1,List.take_length]
   have t2:List.take (G.getD i []).length (vmul (fmul q) (msg.getD i 0) (G.getD i []))=vmul (fmul q) (msg.getD i 0) (G.getD i []):=by
    rw [←vmul_len (mul:=fmul q) (c:=msg.getD i 0) (a:=G.getD i []),List.take_length]
   rw [t1,t2,ck_of (by simp [-List.getD_eq_getElem?_getD,vmul_len,hw.1]),F30_spec hq (In.of hw) (In.of wt) (by rw [hw.1,wt.1]) (by rw [hw.1];omega)]
   simp only [sw_zero,gN_zero,gL_zero,gL_succ,hw.1]
   rw [wsucc (by omega),L96_spec hq hG hm hl κ f (i+1) _ (hw.vadd F wt) (by omega) (by omega),drop_cons (l:=G) (j:=i) [] hj,drop_cons (l:=msg) (j:=i) 0 (by omega)]
   rfl
  ·have:i=G.length:=by omega
   subst this
   rw [br_no (by simp;omega),List.drop_eq_nil_of_le (Nat.le_refl _)]
   rfl
theorem F96_spec {q n:Nat} (hq:q∈Qs) {G:List (List Int)} (hG:Rows q n G) {msg:List Int} (hm:In q msg) (hl:msg.length=G.length) {τ:Type} (k:Nat→LS_→Option τ) :
  F96 [.I q,.I n,.LL G,.L msg] k=k 0 [.N n,.L (comb (fadd q) (fmul q) G msg (List.replicate n 0))]:=by
 have hfu:=fuel_le
 have h3:=hG.few
 have h4:=hG.short
 unfold F96
 simp only [g_]
 rw [F29_spec hq]
 simp only [sw_zero]
 rw [F32_spec (by omega)]
 simp only [g_,sw_zero]
 unfold L96_3.b
 have:=L96_spec hq hG hm hl (fun j l29=>sw (k 0 [.N (gN l29 0),.L (gL l29 1)]) (fun _=>none) j) fuel 0 (List.replicate n 0) (Wd.zeros (by have:=qs_lt hq;omega)) (by omega) (by omega)
 exact this
theorem L74_run (f:Nat) {τ:Type} (κ:Nat→LS_→Option τ) (l:LS_):runE L74_5 (f+1) κ 0 l=L74_5.s0 (runE L74_5 f κ) κ l:=rfl
def wordAt (q n:Nat) (G:List (List Int)) (j:Nat):List Int:=comb (fadd q) (fmul q) G (digs q G.length j) (List.replicate n 0)
theorem comb_wd {q n:Nat} (F:Fld q (fadd q) (fmul q) (fneg q) (finv q)):∀ (G:List (List Int)) (msg w:List Int),(∀ i,i<G.length→Wd q n (G.getD i []))→In q msg→Wd q n w→Wd q n (comb (fadd q) (fmul q) G msg w)
 | [],_,w,_,_,hw=>hw
 | g::gs,[],w,_,_,hw=>hw
 | g::gs,a::bs,w,hG,hm,hw=>by
  unfold comb
  have h0:=hm 0 (by simp)
  exact comb_wd F gs bs _ (fun i hi=>by simpa using hG (i+1) (by simpa using hi)) (fun i hi=>by simpa using hm (i+1) (by simpa using hi)) (hw.vadd F (Wd.vmul F h0.1 h0.2 (by simpa using hG 0 (by simp))))
theorem L74_spec {q n:Nat} (hq:q∈Qs) {G:List (List Int)} (hG:Rows q n G) (hc:q^G.length≤4096) {τ:Type} (κ:Nat→LS_→Option τ):∀ (f i:Nat),i≤q^G.length→q^G.length<f+i →
  runE L74_5 f κ 0 [.N i,.I i,.I q,.I n,.N G.length,.LL G,.LL ((List.range i).map (wordAt q n G))]=κ 0 [.N (q^G.length),.LL ((List.range (q^G.length)).map (wordAt q n G))]
 | 0,i,h1,h2=>by omega
 | f+1,i,h1,h2=>by
  have h3:=hG.few
  have h4:=hG.short
  have hq1:=qs_lt hq
  have F:=fld q hq
  rw [L74_run]
  unfold L74_5.s0
  simp only [g_]
  rw [ck_of (by simp),F61_spec hq n G hc h3]
  simp only [sw_zero,gI_zero]
  by_cases hj:i<q^G.length
  ·rw [br_of (by simp only [ltI_iff];omega),ck_of (by simp),F106_spec hq n G h3 i (by omega)]
   simp only [sw_zero,gN_zero,gL_zero,gL_succ,Nat.mul_one,List.drop_zero]
   have t1:List.take G.length (digs q G.length i)=digs q G.length i:=by rw [List.take_of_length_le (by rw [digs_len];exact Nat.le_refl _)]
   have hd:=digs_in (q:=q) (by omega) G.length i
   rw [t1,ck_of (by simp [digs_len]),F96_spec hq hG hd (digs_len _ _ _)]
   simp only [sw_zero,gN_zero,gL_zero,gL_succ,Nat.mul_one,List.drop_zero]
   have ww:=comb_wd F G (digs q G.length i) (List.replicate n 0) hG.wd hd (Wd.zeros (by omega))
   have t2:List.take n (comb (fadd q) (fmul q) G (digs q G.length i) (List.replicate n 0))=comb (fadd q) (fmul q) G (digs q G.length i) (List.replicate n 0):=by rw [List.take_of_length_le (by rw [ww.1];exact Nat.le_refl _)]
   rw [t2,ck_of (by simp [ww.1]),ck_of (by simp <;> omega),wsucc (by omega)]
   have:=L74_spec hq hG hc κ f (i+1) (by omega) (by omega)
   rw [List.range_succ,List.map_append] at this
   exact this
  ·have:i=q^G.length:=by omega
   subst this
   rw [br_no (by simp only [ltI_no];omega)]
theorem F25_spec {q n:Nat} (hq:q∈Qs) {G:List (List Int)} (hG:Rows q n G) (hc:q^G.length≤4096) {τ:Type} (k:Nat→LS_→Option τ) :
  F25 [.I q,.I n,.LL G] k=k 1 [.N (q^G.length),.LL (words q (fadd q) (fmul q) G (List.replicate n 0))]:=by
 have hfu:=fuel_le
 have h3:=hG.few
 have hq1:=qs_lt hq
 rw [←words_digs q (by omega)]
 unfold F25
 simp only [g_]
 rw [ck_of (by simp)]
 unfold F74 L74_5.b
 simp only [g_]
 rw [ck_of (by simp),F61_spec hq n G hc h3]
 simp only [sw_zero,gI_zero]
 rw [br_no (by simp only [gtI_no];omega)]
 exact L74_spec hq hG hc _ fuel 0 (by omega) (by omega)
end
end Go.Proofs.Yticbdgmcofjkeaa.Ai
namespace Go.Proofs.Yticbdgmcofjkeaa.Ai
open Go Go.RowKit
noncomputable section
variable {τ:Type} (t:Nat) (nx ex:Nat→LS_→Option τ) (l:LS_) (k κ:Nat→LS_→Option τ)
def F95.ps:List PV2:=[pI]
def F95.sh:List PA:=[(PA.mk (PV3.v pB) [])]
def F95.O:Orc P:=⟨[T76.E],[],[],40⟩
def F95:Option τ :=
 T76 [.I (gI l 0)]
 (fun j A=>(sw (k 0 [.B (leI (gI l 0) 16)])
 (sw (k 0 [.B false])
 (fun _=>none))) j)
theorem F95.eq:FEq F95.O 57 F95.ps F95.sh F95:=by intro τ l κ;kernel_rfl
def F95.E:Ent P:=mkF F95.eq
def L31_4.H:LHead:=⟨false,true,0,237572,237572,199,64,0,[(PS.mk (pI::pI::qR::us 3 (pB::pI::us 22 [])) [])],[(Out.ret,(PS.mk (us 6 (pB::us 23 [])) [])),((Out.exit 0),(PS.mk (us 6 (pB::us 23 [])) []))]⟩
def L31_4.O:Orc P:=⟨[],[],[],40⟩
def L31_4.s0:Option τ :=
 br (ltI (gI l 5) (gI l 1))
 (ck (((leI 0 (gI l 5))&&(ltI (gI l 5) (gN l 2)))&&true)
 (ck (ltN ((Int.toNat (gI l 5))*1) (List.length (gL l 3)))
 (br (ltI (List.getD (gL l 3) ((Int.toNat (gI l 5))*1) 0) 0)
 (ex 0 [.B false])
 (ck (((leI 0 (gI l 5))&&(ltI (gI l 5) (gN l 2)))&&true)
 (ck (ltN ((Int.toNat (gI l 5))*1) (List.length (gL l 3)))
 (br (geI (List.getD (gL l 3) ((Int.toNat (gI l 5))*1) 0) (gI l 0))
 (ex 0 [.B false])
 (nx 0 [.I (gI l 0),.I (gI l 1),.N (gN l 2),.L (gL l 3),.B (gB l 4),.I (wr .i64 ((gI l 5)+1))])))))))
 (ex 1 [.B (gB l 4)])
theorem L31_4.e0:LEq L31_4.O L31_4.H 0 L31_4.s0:=by intro τ next κ l;kernel_rfl
def L31_4:LStep P Cf:=LStep.mk1 (by decide) L31_4.e0
def L31_4.b:Option τ:=runE L31_4 fuel κ t l
def L31_4.E:LEnt P:=LStep.E L31_4
def F31.ps:List PV2:=[pI,pI,pR]
def F31.sh:List PA:=[(PA.mk (PV3.v pB) [])]
def F31.O:Orc P:=⟨[],[L31_4.E],[],40⟩
def F31:Option τ :=
 br ((((List.length (gL l 2)):Nat):Int) != (gI l 1))
 (k 0 [.B false])
 (L31_4.b 0 [.I (gI l 0),.I (gI l 1),.N (List.length (gL l 2)),.L (gL l 2),.B false,.I 0]
 (fun j A=>(sw (k 0 [.B (gB A 0)])
 (sw (k 0 [.B true])
 (fun _=>none))) j))
theorem F31.eq:FEq F31.O 58 F31.ps F31.sh F31:=by intro τ l κ;kernel_rfl
def F31.E:Ent P:=mkF F31.eq
def L53_4.H:LHead:=⟨false,true,0,61444,61444,14,6,0,[(PS.mk (us 1 ((pp 0)::pB::pI::us 51 [])) [(oG [pI,pI,qM])])],[(Out.ret,(PS.mk (us 1 ((pp 0)::pB::us 52 [])) [(oG [pI,pI,qM])])),((Out.exit 0),(PS.mk (us 1 ((pp 0)::pB::us 52 [])) [(oG [pI,pI,qM])]))]⟩
def L53_4.O:Orc P:=⟨[F31.E],[],[],40⟩
def L53_4.s0:Option τ :=
 br (ltI (gI l 1) (gN l 4))
 (ck (((leI 0 (gI l 1))&&(ltI (gI l 1) (gN l 4)))&&true)
 (ck (ltN ((Int.toNat (gI l 1))*1) (List.length (gLL l 5)))
 (ck ((eqM (List.length (List.getD (gLL l 5) ((Int.toNat (gI l 1))*1) [])) (List.length (List.getD (gLL l 5) ((Int.toNat (gI l 1))*1) [])))&&true)
 (F31 [.I (gI l 2),.I (gI l 3),.L (List.getD (gLL l 5) ((Int.toNat (gI l 1))*1) [])]
 (fun j A=>(sw (br (!(gB A 0))
 (ex 0 [.B false,.I (gI l 2),.I (gI l 3),.N (gN l 4),.LL (gLL l 5)])
 (nx 0 [.B (gB l 0),.I (wr .i64 ((gI l 1)+1)),.I (gI l 2),.I (gI l 3),.N (gN l 4),.LL (gLL l 5)]))
 (fun _=>none)) j)))))
 (ex 1 [.B (gB l 0),.I (gI l 2),.I (gI l 3),.N (gN l 4),.LL (gLL l 5)])
theorem L53_4.e0:LEq L53_4.O L53_4.H 0 L53_4.s0:=by intro τ next κ l;kernel_rfl
def L53_4:LStep P Cf:=LStep.mk1 (by decide) L53_4.e0
def L53_4.b:Option τ:=runE L53_4 fuel κ t l
def L53_4.E:LEnt P:=LStep.E L53_4
def F53.ps:List PV2:=[(PV2.agg [iI,iI,aM])]
def F53.sh:List PA:=[(PA.mk (PV3.v pB) [])]
def F53.O:Orc P:=⟨[F95.E,F29.E,F80.E,F22.E],[L53_4.E],[],40⟩
def F53:Option τ :=
 F95 [.I (gI l 0)]
 (fun j A=>(sw (br (!(gB A 0))
 (k 0 [.B false])
 (br (ltI (gI l 1) 1)
 (k 0 [.B false])
 (br (gtI (gI l 1) 24)
 (k 0 [.B false])
 (br (gtI (((List.length (gLL l 2)):Nat):Int) (gI l 1))
 (k 0 [.B false])
 (L53_4.b 0 [.B false,.I 0,.I (gI l 0),.I (gI l 1),.N (List.length (gLL l 2)),.LL (gLL l 2)]
 (fun j B=>(sw (k 0 [.B (gB B 0)])
 (sw (F29 [.I (gI B 1)]
 (fun j C=>(sw (ck (((eqM (gN C 2) (List.length (List.take ((gN C 2)*1) (List.drop 0 (gL C 3)))))&&true)&&((eqM (gN B 3) (List.length (gLL B 4)))&&true))
 (F80 [.I (gI C 0),.I (gI C 1),.L (List.take ((gN C 2)*1) (List.drop 0 (gL C 3))),.I (gI B 2),.LL (gLL B 4)]
 (fun j D=>(sw (ck ((eqM (gN B 3) (List.length (gLL B 4)))&&((eqM (gN D 0) (List.length (List.take ((gN D 0)*1) (List.drop 0 (gLL D 1)))))&&true))
 (F22 [.LL (gLL B 4),.LL (List.take ((gN D 0)*1) (List.drop 0 (gLL D 1)))]
 (fun j E=>(sw (k 0 [.B (gB E 0)])
 (fun _=>none)) j)))
 (sw (ck ((eqM (gN B 3) (List.length (gLL B 4)))&&((eqM (gN D 0) 0)&&true))
 (F22 [.LL (gLL B 4),.LL []]
 (fun j E=>(sw (k 0 [.B (gB E 0)])
 (fun _=>none)) j)))
 (fun _=>none))) j)))
 (sw (ck ((eqM (gN B 3) (List.length (gLL B 4)))&&true)
 (F80 [.I (gI C 0),.I (gI C 1),.L [],.I (gI B 2),.LL (gLL B 4)]
 (fun j D=>(sw (ck ((eqM (gN B 3) (List.length (gLL B 4)))&&((eqM (gN D 0) (List.length (List.take ((gN D 0)*1) (List.drop 0 (gLL D 1)))))&&true))
 (F22 [.LL (gLL B 4),.LL (List.take ((gN D 0)*1) (List.drop 0 (gLL D 1)))]
 (fun j E=>(sw (k 0 [.B (gB E 0)])
 (fun _=>none)) j)))
 (sw (ck ((eqM (gN B 3) (List.length (gLL B 4)))&&((eqM (gN D 0) 0)&&true))
 (F22 [.LL (gLL B 4),.LL []]
 (fun j E=>(sw (k 0 [.B (gB E 0)])
 (fun _=>none)) j)))
 (fun _=>none))) j)))
 (fun _=>none))) j))
 (fun _=>none))) j))))))
 (fun _=>none)) j)
theorem F53.eq:FEq F53.O 15 F53.ps F53.sh F53:=by intro τ l κ;kernel_rfl
def F53.E:Ent P:=mkF F53.eq
end
end Go.Proofs.Yticbdgmcofjkeaa.Ai
namespace Go.Proofs.Yticbdgmcofjkeaa.Ai
open Go Ma
noncomputable section
theorem L22_run (f:Nat) {τ:Type} (κ:Nat→LS_→Option τ) (l:LS_):runE L22_4 (f+1) κ 0 l=L22_4.s0 (runE L22_4 f κ) κ l:=rfl
theorem L22_spec {a b:List (List Int)} (hl:a.length=b.length) (hs:a.length<2^60) (ha:∀ i,(a.getD i []).length<2^60) {τ:Type} (κ:Nat→LS_→Option τ):∀ (n j:Nat) (r:Bool),j≤a.length→a.length<n+j →
  runE L22_4 n κ 0 [.N a.length,.LL a,.N b.length,.LL b,.B r,.I j]=if a.drop j=b.drop j then κ 1 [.B r] else κ 0 [.B false]
 | 0,j,r,h1,h2=>by omega
 | n+1,j,r,h1,h2=>by
  rw [L22_run]
  unfold L22_4.s0
  simp only [g_]
  by_cases hj:j<a.length
  ·have e:=wsucc (j:=j) (by omega)
   simp only [Int.toNat_natCast,Nat.mul_one]
   rw [br_of (by simp;omega),ck_of (by simp <;> omega),ck_of (by simp <;> omega),ck_of (by simp <;> omega),ck_of (by simp <;> omega),ck_of (by simp),F27_spec _ _ _ (ha j)]
   simp only [sw_zero,gB_zero]
   rw [e,L22_spec hl hs ha κ n (j+1) r (by omega) (by omega),drop_cons (l:=a) (j:=j) [] hj,drop_cons (l:=b) (j:=j) [] (hl▸hj)]
   by_cases hq:a.getD j []=b.getD j []
   ·rw [br_no (by rw [hq];simp),hq];simp
   ·rw [br_of (by simp only [hq,decide_false,Bool.not_false]),if_neg (by intro h;injection h with h _;exact hq h)]
  ·have:j=a.length:=by omega
   rw [br_no (by simp;omega),if_pos (by rw [List.drop_eq_nil_of_le (by omega),List.drop_eq_nil_of_le (by omega)])]
theorem F22_spec {τ:Type} (k:Nat→LS_→Option τ) (a b:List (List Int)) (hs:a.length<2^60) (ha:∀ i,(a.getD i []).length<2^60):F22 [.LL a,.LL b] k=k 0 [.B (decide (a=b))]:=by
 unfold F22 L22_4.b
 simp only [gLL_zero,gLL_succ]
 by_cases hl:a.length=b.length
 ·have:=fuel_le
  rw [br_no (by simp [hl])]
  have e:=L22_spec hl hs ha (fun j l0=>(sw (k 0 [(Leaf.B (gB l0 0))]) (sw (k 0 [(Leaf.B Bool.true)]) (fun _=>none))) j) fuel 0 false (by omega) (by omega)
  rw [show ((0:Nat):Int)=0 from rfl] at e
  refine Eq.trans e ?_
  by_cases hq:a=b
  ·subst hq;simp
  ·simp [hq]
 ·rw [br_of (by simp;omega)]
  have:a≠b:=fun h=>hl (by rw [h])
  simp [this]
def isWord (q n:Int) (l:List Int):Bool:=decide ((l.length:Int)=n)&&(List.range l.length).all fun j=>decide (0≤l.getD j 0)&&decide (l.getD j 0<q)
theorem L31_run (f:Nat) {τ:Type} (κ:Nat→LS_→Option τ) (l:LS_):runE L31_4 (f+1) κ 0 l=L31_4.s0 (runE L31_4 f κ) κ l:=rfl
open Classical in
theorem L31_spec (q:Int) {a:List Int} (hs:a.length<2^60) {τ:Type} (κ:Nat→LS_→Option τ):∀ (n j:Nat) (r:Bool),j≤a.length→a.length<n+j →
  runE L31_4 n κ 0 [.I q,.I a.length,.N a.length,.L a,.B r,.I j]=if (∀ i,j≤i→i<a.length→0≤a.getD i 0∧a.getD i 0<q) then κ 1 [.B r] else κ 0 [.B false]
 | 0,j,r,h1,h2=>by omega
 | n+1,j,r,h1,h2=>by
  rw [L31_run]
  unfold L31_4.s0
  simp only [g_]
  by_cases hj:j<a.length
  ·have e:=wsucc (j:=j) (by omega)
   simp only [Int.toNat_natCast,Nat.mul_one]
   rw [br_of (by simp;omega),ck_of (by simp <;> omega),ck_of (by simp <;> omega)]
   by_cases h0:0≤a.getD j 0
   ·rw [br_no (by simp only [ltI_no];omega),ck_of (by simp <;> omega),ck_of (by simp <;> omega)]
    by_cases h3:a.getD j 0<q
    ·rw [br_no (by simp only [geI_no];omega),e,L31_spec q hs κ n (j+1) r (by omega) (by omega)]
     have hh:(∀ i,j+1≤i→i<a.length→0≤a.getD i 0∧a.getD i 0<q)↔(∀ i,j≤i→i<a.length→0≤a.getD i 0∧a.getD i 0<q):=by
      refine ⟨fun h i hi hl=>?_,fun h i hi hl=>h i (by omega) hl⟩
      by_cases he:i=j
      ·subst he;exact ⟨h0,h3⟩
      ·exact h i (by omega) hl
     simp only [hh]
    ·rw [br_of (by simp only [geI_iff];omega),if_neg (fun h=>h3 (h j (Nat.le_refl _) hj).2)]
   ·rw [br_of (by simp only [ltI_iff];omega),if_neg (fun h=>h0 (h j (Nat.le_refl _) hj).1)]
  ·rw [br_no (by simp;omega),if_pos (fun i h1 h2=>by omega)]
theorem isWord_iff {q n:Int} {l:List Int}:isWord q n l=true↔(l.length:Int)=n∧∀ i,0≤i→i<l.length→0≤l.getD i 0∧l.getD i 0<q:=by
 unfold isWord
 simp only [Bool.and_eq_true,decide_eq_true_eq,List.all_eq_true,List.mem_range]
 exact ⟨fun h=>⟨h.1,fun i _ hi=>h.2 i hi⟩,fun h=>⟨h.1,fun i hi=>h.2 i (Nat.zero_le _) hi⟩⟩
theorem F31_spec (q n:Int) {a:List Int} (hs:a.length<2^60) {τ:Type} (k:Nat→LS_→Option τ):F31 [.I q,.I n,.L a] k=k 0 [.B (isWord q n a)]:=by
 have hfu:=fuel_le
 unfold F31 L31_4.b
 simp only [g_]
 by_cases hn:(a.length:Int)=n
 ·subst hn
  rw [br_no (by simp)]
  have e:=L31_spec q hs (fun j l64=>(sw (k 0 [(Leaf.B (gB l64 0))]) (sw (k 0 [(Leaf.B Bool.true)]) (fun _=>none))) j) fuel 0 false (by omega) (by omega)
  rw [show ((0:Nat):Int)=0 from rfl] at e
  refine Eq.trans e ?_
  cases hw:isWord q (a.length:Int) a with
  | true=>rw [if_pos (isWord_iff.1 hw).2];simp
  | false=>rw [if_neg (fun h=>by rw [isWord_iff.2 ⟨rfl,h⟩] at hw;cases hw)];simp
 ·rw [br_of (by simpa using hn)]
  have:isWord q n a=false:=by
   cases hw:isWord q n a with
   | true=>exact absurd (isWord_iff.1 hw).1 hn
   | false=>rfl
  rw [this]
theorem isWord_wd {q n:Nat} {l:List Int} (h:Wd q n l):isWord q n l=true:=isWord_iff.2 ⟨by rw [h.1],fun i _ hi=>h.2 i (by rw [←h.1];exact hi)⟩
theorem Cd.rows {q n:Nat} {G:List (List Int)} (h:Cd q n G):Rows q n G:=by
 obtain ⟨piv,hp⟩:=h.form
 have hq:=qs_lt h.fq
 have hk:G.length≤8:=by
  rcases Nat.lt_or_ge 8 G.length with hh | hh
  ·have:=Nat.pow_le_pow_right (n:=q) (by omega) (show 9≤G.length from hh)
   have h2:2^9≤q^9:=Nat.pow_le_pow_left hq.1 9
   have:=h.count
   omega
  ·exact hh
 exact ⟨hp.wd,by omega,by have:=h.n1;omega⟩
theorem fix_red {q n:Nat} {G:List (List Int)} (h:Cd q n G):red (fadd q) (fmul q) (fneg q) (finv q) n 0 0 G=(G,G.length):=by
 obtain ⟨piv,hp⟩:=h.form
 exact red_fix (fld q h.fq) hp n 0 0 (by omega) (Nat.zero_le _) (fun i hi=>by omega) (fun i _ _=>Nat.zero_le _)
theorem Cd.len_le {q n:Nat} {G:List (List Int)} (h:Cd q n G):G.length≤n:=by
 obtain ⟨piv,hp⟩:=h.form
 -- first columns increase below n
 have:∀ i,i<G.length→i≤piv i:=by
  intro i
  induction i with
  | zero=>intro _;exact Nat.zero_le _
  | succ i ih =>
   intro hi
   have:=ih (by omega)
   have:=hp.mono i (i+1) (by omega) hi
   omega
 rcases Nat.eq_zero_or_pos G.length with h0 | h0
 ·omega
 ·have:=this (G.length-1) (by omega)
  have:=hp.lt (G.length-1) (by omega)
  omega
end
end Go.Proofs.Yticbdgmcofjkeaa.Ai
namespace Go.Proofs.Yticbdgmcofjkeaa.Ai
open Go Ma
noncomputable section
theorem F95_spec {q:Nat} (hq:q∈Qs) {τ:Type} (k:Nat→LS_→Option τ):F95 [.I q] k=k 0 [.B true]:=by
 unfold F95 T76
 simp only [gI_zero]
 rw [tabM_of hq]
 have:=qs_lt hq
 simp only [sw_zero]
 rw [show leI (q:Int) 16=true from by simp only [leI_iff];omega]
end
end Go.Proofs.Yticbdgmcofjkeaa.Ai
namespace Go.Proofs.Yticbdgmcofjkeaa.Ai
open Go Go.RowKit
noncomputable section
variable {τ:Type} (t:Nat) (nx ex:Nat→LS_→Option τ) (l:LS_) (k κ:Nat→LS_→Option τ)
def mo1Xb:List PO:=[oI,(PO.cells true true (PC.r 2)),(PO.fam true .i64),(oG [pI,pI,(rr 0)]),(oG [pI])]
def mo2Xb:List PO:=[oI,(PO.fam true .i64),(PO.cells true true (PC.r 1)),(oG [pI,pI,(rr 0)])]
def mo3Xb:List PO:=[oI,(PO.fam true .i64),(PO.cells true true (PC.r 1))]
def mo4Xb:List PO:=[oI,(PO.cells true true (PC.r 2)),(PO.fam true .i64),(oG [pI,pI,(rr 0)]),(oG [pI]),(oG [pI])]
def mo5Xb:List PO:=[oI,(PO.cells true true (PC.r 2)),(PO.fam true .i64)]
def F81.ps:List PV2:=[pI]
def F81.sh:List PA:=[(PA.mk (PV3.tup [(PV2.agg [iI,iI,(r1 0)]),pB]) [cI]),(PA.mk (PV3.tup [(PV2.agg [(PV1.intC .i64 0),(PV1.intC .i64 0),PV1.nilS]),(PV2.v (PV1.boolC false))]) [])]
def F81.O:Orc P:=⟨[T99.E],[],[],40⟩
def F81:Option τ :=
 T99 [.I (gI l 0)]
 (fun j A=>(sw (k 0 [.I (gI A 0),.I (gI A 1),.N (gN A 2),.B (leI (gI l 0) 16),.L (gL A 3)])
 (sw (k 1 [])
 (fun _=>none))) j)
theorem F81.eq:FEq F81.O 65 F81.ps F81.sh F81:=by intro τ l κ;kernel_rfl
def F81.E:Ent P:=mkF F81.eq
def L100_2.H:LHead:=⟨false,false,1,409602,409602,403,16,0,[(PS.mk (qR::(PV2.fn 97 [(p1 0)])::us 2 (pI::us 2 (pI::pI::us 10 []))) [(oG [pI])])],[(Out.ret,(PS.mk (us 4 (pI::us 14 [])) [(oG [pI])])),((Out.exit 0),(PS.mk (us 4 (pI::us 14 [])) [(oG [pI])]))]⟩
def L100_2.O:Orc P:=⟨[],[],[],40⟩
def L100_2.s0:Option τ :=
 br (ltI (gI l 4) (gI l 3))
 (ck (((leI 0 (gI l 4))&&(ltI (gI l 4) (gN l 0)))&&true)
 (ck (ltN ((Int.toNat (gI l 4))*1) (List.length (gL l 1)))
 (br (ltI (List.getD (gL l 1) ((Int.toNat (gI l 4))*1) 0) 0)
 (ex 0 [.I (gI l 4),.I (gI l 5)])
 (br (geI (List.getD (gL l 1) ((Int.toNat (gI l 4))*1) 0) (gI l 5))
 (ex 0 [.I (gI l 4),.I (gI l 5)])
 (nx 0 [.N (gN l 0),.L (gL l 1),.I (gI l 2),.I (gI l 3),.I (wr .i64 ((gI l 4)+1)),.I (gI l 5)])))))
 (ex 1 [.I (gI l 2),.I (gI l 5)])
theorem L100_2.e0:LEq L100_2.O L100_2.H 0 L100_2.s0:=by intro τ next κ l;kernel_rfl
def L100_2:LStep P Cf:=LStep.mk1 (by decide) L100_2.e0
def L100_2.b:Option τ:=runE L100_2 fuel κ t l
def L100_2.E:LEnt P:=LStep.E L100_2
def S100_0.H:SHead:=⟨100,[qR,(PV2.fn 97 [(p1 0)])],[],[(oG [pI])],[(pI,[(oG [pI])])]⟩
def S100_0.O:Orc P:=⟨[],[L100_2.E],[],40⟩
def S100_0:Option τ :=
 L100_2.b 0 [.N (gN l 0),.L (gL l 1),.I 0,.I (gN l 0),.I 0,.I (gI l 2)]
 (fun j A=>(sw (k 0 [.I (gI A 0),.I (gI A 1)])
 (sw (k 0 [.I (-1),.I (gI A 1)])
 (fun _=>none))) j)
theorem S100_0.eq:SEq S100_0.O S100_0.H S100_0:=by intro τ l κ;kernel_rfl
def S100_0.next:SDyn P S100_0.H:=mkS S100_0.eq
def S100_0.E:SEnt P:=⟨S100_0.H,S100_0.next⟩
def S122_0.H:SHead:=⟨96,[qR,(PV2.fn 97 [(p1 0)])],[],[(oG [pI])],[(pB,[(oG [pI])])]⟩
def S122_0.O:Orc P:=⟨[],[],[S100_0.E],40⟩
def S122_0:Option τ :=
 S100_0 [.N (gN l 0),.L (gL l 1),.I (gI l 2)]
 (fun j A=>(sw (k 0 [.B (geI (gI A 0) 0),.I (gI A 1)])
 (fun _=>none)) j)
theorem S122_0.eq:SEq S122_0.O S122_0.H S122_0:=by intro τ l κ;kernel_rfl
def S122_0.next:SDyn P S122_0.H:=mkS S122_0.eq
def S122_0.E:SEnt P:=⟨S122_0.H,S122_0.next⟩
def F93.ps:List PV2:=[pI,pI,pR]
def F93.sh:List PA:=[(PA.mk (PV3.v pB) [])]
def F93.O:Orc P:=⟨[],[],[S122_0.E],40⟩
def F93:Option τ :=
 br ((((List.length (gL l 2)):Nat):Int)==(gI l 1))
 (S122_0 [.N (List.length (gL l 2)),.L (gL l 2),.I (gI l 0)]
 (fun j A=>(sw (k 0 [.B (!(gB A 0))])
 (fun _=>none)) j))
 (k 0 [.B false])
theorem F93.eq:FEq F93.O 64 F93.ps F93.sh F93:=by intro τ l κ;kernel_rfl
def F93.E:Ent P:=mkF F93.eq
def L114_2.H:LHead:=⟨false,false,2,368642,368642,403,16,0,[(PS.mk (qM::(PV2.fn 89 [(p1 0),(p1 1)])::us 2 (pI::us 2 (pI::pI::us 10 []))) [(oG [pI]),(oG [pI])])],[(Out.ret,(PS.mk (us 4 (pI::us 14 [])) [(oG [pI]),(oG [pI])])),((Out.exit 0),(PS.mk (us 4 (pI::us 14 [])) [(oG [pI]),(oG [pI])]))]⟩
def L114_2.O:Orc P:=⟨[F93.E],[],[],40⟩
def L114_2.s0:Option τ :=
 br (ltI (gI l 4) (gI l 3))
 (ck (((leI 0 (gI l 4))&&(ltI (gI l 4) (gN l 0)))&&true)
 (ck (ltN ((Int.toNat (gI l 4))*1) (List.length (gLL l 1)))
 (ck ((eqM (List.length (List.getD (gLL l 1) ((Int.toNat (gI l 4))*1) [])) (List.length (List.getD (gLL l 1) ((Int.toNat (gI l 4))*1) [])))&&true)
 (F93 [.I (gI l 5),.I (gI l 6),.L (List.getD (gLL l 1) ((Int.toNat (gI l 4))*1) [])]
 (fun j A=>(sw (br (!(gB A 0))
 (ex 0 [.I (gI l 4),.I (gI l 5),.I (gI l 6)])
 (nx 0 [.N (gN l 0),.LL (gLL l 1),.I (gI l 2),.I (gI l 3),.I (wr .i64 ((gI l 4)+1)),.I (gI l 5),.I (gI l 6)]))
 (fun _=>none)) j)))))
 (ex 1 [.I (gI l 2),.I (gI l 5),.I (gI l 6)])
theorem L114_2.e0:LEq L114_2.O L114_2.H 0 L114_2.s0:=by intro τ next κ l;kernel_rfl
def L114_2:LStep P Cf:=LStep.mk1 (by decide) L114_2.e0
def L114_2.b:Option τ:=runE L114_2 fuel κ t l
def L114_2.E:LEnt P:=LStep.E L114_2
def S114_0.H:SHead:=⟨90,[qM,(PV2.fn 89 [(p1 0),(p1 1)])],[],[(oG [pI]),(oG [pI])],[(pI,[(oG [pI]),(oG [pI])])]⟩
def S114_0.O:Orc P:=⟨[],[L114_2.E],[],40⟩
def S114_0:Option τ :=
 L114_2.b 0 [.N (gN l 0),.LL (gLL l 1),.I 0,.I (gN l 0),.I 0,.I (gI l 2),.I (gI l 3)]
 (fun j A=>(sw (k 0 [.I (gI A 0),.I (gI A 1),.I (gI A 2)])
 (sw (k 0 [.I (-1),.I (gI A 1),.I (gI A 2)])
 (fun _=>none))) j)
theorem S114_0.eq:SEq S114_0.O S114_0.H S114_0:=by intro τ l κ;kernel_rfl
def S114_0.next:SDyn P S114_0.H:=mkS S114_0.eq
def S114_0.E:SEnt P:=⟨S114_0.H,S114_0.next⟩
def S117_0.H:SHead:=⟨88,[qM,(PV2.fn 89 [(p1 0),(p1 1)])],[],[(oG [pI]),(oG [pI])],[(pB,[(oG [pI]),(oG [pI])])]⟩
def S117_0.O:Orc P:=⟨[],[],[S114_0.E],40⟩
def S117_0:Option τ :=
 S114_0 [.N (gN l 0),.LL (gLL l 1),.I (gI l 2),.I (gI l 3)]
 (fun j A=>(sw (k 0 [.B (geI (gI A 0) 0),.I (gI A 1),.I (gI A 2)])
 (fun _=>none)) j)
theorem S117_0.eq:SEq S117_0.O S117_0.H S117_0:=by intro τ l κ;kernel_rfl
def S117_0.next:SDyn P S117_0.H:=mkS S117_0.eq
def S117_0.E:SEnt P:=⟨S117_0.H,S117_0.next⟩
def F85.ps:List PV2:=[pI,pI,pI,pM]
def F85.sh:List PA:=[(PA.mk (PV3.tup [(PV2.agg [iI,iI,(r1 0)]),pB]) [cI]),(PA.mk (PV3.tup [(PV2.agg [iI,iI,(r1 0)]),(PV2.v (PV1.boolC false))]) [cI]),(PA.mk (PV3.tup [(PV2.agg [(PV1.intC .i64 0),(PV1.intC .i64 0),PV1.nilS]),(PV2.v (PV1.boolC false))]) [])]
def F85.O:Orc P:=⟨[F81.E],[],[S117_0.E],40⟩
def F85:Option τ :=
 F81 [.I (gI l 0)]
 (fun j A=>(sw (br (gB A 3)
 (br (geI (gI l 1) 1)
 (br (leI (gI l 1) 24)
 (br (leI (((List.length (gLL l 3)):Nat):Int) (gI l 2))
 (S117_0 [.N (List.length (gLL l 3)),.LL (gLL l 3),.I (gI l 0),.I (gI l 1)]
 (fun j B=>(sw (k 0 [.I (gI A 0),.I (gI A 1),.N (gN A 2),.B (!(gB B 0)),.L (gL A 4)])
 (fun _=>none)) j))
 (k 1 [.I (gI A 0),.I (gI A 1),.N (gN A 2),.L (gL A 4)]))
 (k 1 [.I (gI A 0),.I (gI A 1),.N (gN A 2),.L (gL A 4)]))
 (k 1 [.I (gI A 0),.I (gI A 1),.N (gN A 2),.L (gL A 4)]))
 (k 1 [.I (gI A 0),.I (gI A 1),.N (gN A 2),.L (gL A 4)]))
 (sw (k 2 [])
 (fun _=>none))) j)
theorem F85.eq:FEq F85.O 54 F85.ps F85.sh F85:=by intro τ l κ;kernel_rfl
def F85.E:Ent P:=mkF F85.eq
def L87_3.H:LHead:=⟨true,false,2,229379,229379,3592,8,0,[(PS.mk (us 3 ((rr 1)::us 5 (qM::pI::pI::us 18 []))) [(PO.fam true .i64),(PO.cells true true (PC.r 0))])],[((Out.exit 0),(PS.mk (us 3 ((rr 1)::us 26 [])) [(PO.fam true .i64),(PO.cells true true (PC.r 0))]))]⟩
def L87_3.O:Orc P:=⟨[],[],[],40⟩
def L87_3.s0:Option τ :=
 br (ltI (gI l 4) (gI l 3))
 (ck (((leI 0 (gI l 4))&&(ltI (gI l 4) (gN l 1)))&&true)
 (ck (ltN ((Int.toNat (gI l 4))*1) (List.length (gLL l 2)))
 (ck (((leI 0 (((List.length (List.getD (gLL l 2) ((Int.toNat (gI l 4))*1) [])):Nat):Int))&&(leI (((List.length (List.getD (gLL l 2) ((Int.toNat (gI l 4))*1) [])):Nat):Int) (((List.length (List.getD (gLL l 2) ((Int.toNat (gI l 4))*1) [])):Nat):Int)))&&(leI ((((List.length (List.getD (gLL l 2) ((Int.toNat (gI l 4))*1) [])):Nat):Int)*9) 1099511627776))
 (ck (((leI 0 (gI l 4))&&(ltI (gI l 4) (gN l 0)))&&true)
 (ck ((((ltN (0+((Int.toNat (gI l 4))*1)) (List.length (gLN l 6)))&&(eqM (Int.toNat (((List.length (List.getD (gLL l 2) ((Int.toNat (gI l 4))*1) [])):Nat):Int)) (List.length (List.replicate (Int.toNat (((List.length (List.getD (gLL l 2) ((Int.toNat (gI l 4))*1) [])):Nat):Int)) (0:Int)))))&&true)&&(ltN (List.length (gLL l 5)) 1048576))
 (ck (((leI 0 (gI l 4))&&(ltI (gI l 4) (gN l 0)))&&true)
 (ck ((ltN (0+((Int.toNat (gI l 4))*1)) (List.length (List.set (gLN l 6) (0+((Int.toNat (gI l 4))*1)) (List.length (gLL l 5)))))&&(ltN (List.getD (List.set (gLN l 6) (0+((Int.toNat (gI l 4))*1)) (List.length (gLL l 5))) (0+((Int.toNat (gI l 4))*1)) 0) (List.length ((gLL l 5)++[(List.replicate (Int.toNat (((List.length (List.getD (gLL l 2) ((Int.toNat (gI l 4))*1) [])):Nat):Int)) (0:Int))]))))
 (ck ((((((ltN (List.getD (List.set (gLN l 6) (0+((Int.toNat (gI l 4))*1)) (List.length (gLL l 5))) (0+((Int.toNat (gI l 4))*1)) 0) (List.length ((gLL l 5)++[(List.replicate (Int.toNat (((List.length (List.getD (gLL l 2) ((Int.toNat (gI l 4))*1) [])):Nat):Int)) (0:Int))])))&&(eqM (List.length (List.getD (gLL l 2) ((Int.toNat (gI l 4))*1) [])) (List.length (List.getD ((gLL l 5)++[(List.replicate (Int.toNat (((List.length (List.getD (gLL l 2) ((Int.toNat (gI l 4))*1) [])):Nat):Int)) (0:Int))]) (List.getD (List.set (gLN l 6) (0+((Int.toNat (gI l 4))*1)) (List.length (gLL l 5))) (0+((Int.toNat (gI l 4))*1)) 0) []))))&&(eqM (List.length (List.getD (gLL l 2) ((Int.toNat (gI l 4))*1) [])) (List.length (List.getD (gLL l 2) ((Int.toNat (gI l 4))*1) []))))&&true)&&(eqM (List.length (List.getD ((gLL l 5)++[(List.replicate (Int.toNat (((List.length (List.getD (gLL l 2) ((Int.toNat (gI l 4))*1) [])):Nat):Int)) (0:Int))]) (List.getD (List.set (gLN l 6) (0+((Int.toNat (gI l 4))*1)) (List.length (gLL l 5))) (0+((Int.toNat (gI l 4))*1)) 0) [])) (List.length (List.getD ((gLL l 5)++[(List.replicate (Int.toNat (((List.length (List.getD (gLL l 2) ((Int.toNat (gI l 4))*1) [])):Nat):Int)) (0:Int))]) (List.getD (List.set (gLN l 6) (0+((Int.toNat (gI l 4))*1)) (List.length (gLL l 5))) (0+((Int.toNat (gI l 4))*1)) 0) []))))&&true)
 (nx 0 [.N (gN l 0),.N (gN l 1),.LL (gLL l 2),.I (gI l 3),.I (wr .i64 ((gI l 4)+1)),.LL (List.set ((gLL l 5)++[(List.replicate (Int.toNat (((List.length (List.getD (gLL l 2) ((Int.toNat (gI l 4))*1) [])):Nat):Int)) (0:Int))]) (List.getD (List.set (gLN l 6) (0+((Int.toNat (gI l 4))*1)) (List.length (gLL l 5))) (0+((Int.toNat (gI l 4))*1)) 0) (List.getD (gLL l 2) ((Int.toNat (gI l 4))*1) [])),.LN (List.set (gLN l 6) (0+((Int.toNat (gI l 4))*1)) (List.length (gLL l 5)))])))))))))
 (ex 0 [.N (gN l 0),.LL (gLL l 5),.LN (gLN l 6)])
theorem L87_3.e0:LEq L87_3.O L87_3.H 0 L87_3.s0:=by intro τ next κ l;kernel_rfl
def L87_3:LStep P Cf:=LStep.mk1 (by decide) L87_3.e0
def L87_3.b:Option τ:=runE L87_3 fuel κ t l
def L87_3.E:LEnt P:=LStep.E L87_3
def S87_0.H:SHead:=⟨56,[qM],[],[],[((rr 0),[(PO.cells true true (PC.r 1)),(PO.fam true .i64)])]⟩
def S87_0.O:Orc P:=⟨[],[L87_3.E],[],40⟩
def S87_0:Option τ :=
 ck (((leI 0 (gN l 0))&&(leI (((gN l 0):Nat):Int) (((gN l 0):Nat):Int)))&&(leI ((((gN l 0):Nat):Int)*25) 1099511627776))
 (L87_3.b 0 [.N (Int.toNat (((gN l 0):Nat):Int)),.N (gN l 0),.LL (gLL l 1),.I (gN l 0),.I 0,.LL [],.LN (List.replicate (Int.toNat (((gN l 0):Nat):Int)) 1099511627776)]
 (fun j A=>(sw (k 0 [.N (gN A 0),.LN (gLN A 2),.LL (gLL A 1)])
 (fun _=>none)) j))
theorem S87_0.eq:SEq S87_0.O S87_0.H S87_0:=by intro τ l κ;kernel_rfl
def S87_0.next:SDyn P S87_0.H:=mkS S87_0.eq
def S87_0.E:SEnt P:=⟨S87_0.H,S87_0.next⟩
def L114_2_1.H:LHead:=⟨false,false,3,368642,368642,403,16,0,[(PS.mk ((PV2.v (PV1.ref 0 (some 0) none none 1))::(PV2.fn 91 [(p1 1)])::us 2 (pI::us 2 (pI::pI::us 10 []))) [(PO.cells true true (PC.r 2)),(oG [pI]),(PO.fam true .i64)])],[(Out.ret,(PS.mk (us 4 (pI::us 14 [])) [(PO.cells true true (PC.r 2)),(oG [pI]),(PO.fam true .i64)])),((Out.exit 0),(PS.mk (us 4 (pI::us 14 [])) [(PO.cells true true (PC.r 2)),(oG [pI]),(PO.fam true .i64)]))]⟩
def L114_2_1.O:Orc P:=⟨[],[],[],40⟩
def L114_2_1.s0:Option τ :=
 br (ltI (gI l 4) (gI l 3))
 (ck (((leI 0 (gI l 4))&&(ltI (gI l 4) (gN l 1)))&&true)
 (ck ((ltN ((gN l 0)+((Int.toNat (gI l 4))*1)) (List.length (gLN l 5)))&&(ltN (List.getD (gLN l 5) ((gN l 0)+((Int.toNat (gI l 4))*1)) 0) (List.length (gLL l 7))))
 (ck (((leI 0 (gI l 6))&&(ltI (gI l 6) (((List.length (List.getD (gLL l 7) (List.getD (gLN l 5) ((gN l 0)+((Int.toNat (gI l 4))*1)) 0) [])):Nat):Int)))&&true)
 (ck ((ltN (List.getD (gLN l 5) ((gN l 0)+((Int.toNat (gI l 4))*1)) 0) (List.length (gLL l 7)))&&(ltN (0+((Int.toNat (gI l 6))*1)) (List.length (List.getD (gLL l 7) (List.getD (gLN l 5) ((gN l 0)+((Int.toNat (gI l 4))*1)) 0) []))))
 (br ((List.getD (List.getD (gLL l 7) (List.getD (gLN l 5) ((gN l 0)+((Int.toNat (gI l 4))*1)) 0) []) (0+((Int.toNat (gI l 6))*1)) 0) != 0)
 (ex 0 [.I (gI l 4),.LN (gLN l 5),.I (gI l 6),.LL (gLL l 7)])
 (nx 0 [.N (gN l 0),.N (gN l 1),.I (gI l 2),.I (gI l 3),.I (wr .i64 ((gI l 4)+1)),.LN (gLN l 5),.I (gI l 6),.LL (gLL l 7)]))))))
 (ex 1 [.I (gI l 2),.LN (gLN l 5),.I (gI l 6),.LL (gLL l 7)])
theorem L114_2_1.e0:LEq L114_2_1.O L114_2_1.H 0 L114_2_1.s0:=by intro τ next κ l;kernel_rfl
def L114_2_1:LStep P Cf:=LStep.mk1 (by decide) L114_2_1.e0
def L114_2_1.b:Option τ:=runE L114_2_1 fuel κ t l
def L114_2_1.E:LEnt P:=LStep.E L114_2_1
def S114_1.H:SHead:=⟨90,[(PV2.v (PV1.ref 0 (some 0) none none 1)),(PV2.fn 91 [(p1 1)])],[],[(PO.cells true true (PC.r 2)),(oG [pI]),(PO.fam true .i64)],[(pI,[(PO.cells true true (PC.r 2)),(oG [pI]),(PO.fam true .i64)])]⟩
def S114_1.O:Orc P:=⟨[],[L114_2_1.E],[],40⟩
def S114_1:Option τ :=
 L114_2_1.b 0 [.N (gN l 0),.N (gN l 1),.I 0,.I (gN l 1),.I 0,.LN (gLN l 2),.I (gI l 3),.LL (gLL l 4)]
 (fun j A=>(sw (k 0 [.I (gI A 0),.LN (gLN A 1),.I (gI A 2),.LL (gLL A 3)])
 (sw (k 0 [.I (-1),.LN (gLN A 1),.I (gI A 2),.LL (gLL A 3)])
 (fun _=>none))) j)
theorem S114_1.eq:SEq S114_1.O S114_1.H S114_1:=by intro τ l κ;kernel_rfl
def S114_1.next:SDyn P S114_1.H:=mkS S114_1.eq
def S114_1.E:SEnt P:=⟨S114_1.H,S114_1.next⟩
def L84_10.H:LHead:=⟨true,false,5,225290,225290,885443715538058478990,398,0,[(PS.mk (us 1 (pI::(rr 1)::(pp 3)::us 3 (pI::(pp 4)::us 1 (pI::us 57 (pI::pI::us 51 []))))) mo1Xb)],[((Out.exit 2),(PS.mk (us 1 (pI::(rr 1)::(pp 3)::us 3 (pI::(pp 4)::us 112 []))) mo1Xb))]⟩
def L84_10.O:Orc P:=⟨[T104.E],[],[],40⟩
def L84_10.s0:Option τ :=
 br (ltI (gI l 5) (gI l 4))
 (ck (((leI 0 (gI l 2))&&(ltI (gI l 2) (gN l 1)))&&true)
 (ck ((ltN (0+((Int.toNat (gI l 2))*1)) (List.length (gLN l 7)))&&(ltN (List.getD (gLN l 7) (0+((Int.toNat (gI l 2))*1)) 0) (List.length (gLL l 8))))
 (ck (((leI 0 (gI l 2))&&(ltI (gI l 2) (gN l 1)))&&true)
 (ck ((ltN (0+((Int.toNat (gI l 2))*1)) (List.length (gLN l 7)))&&(ltN (List.getD (gLN l 7) (0+((Int.toNat (gI l 2))*1)) 0) (List.length (gLL l 8))))
 (ck (((leI 0 (gI l 5))&&(ltI (gI l 5) (((List.length (List.getD (gLL l 8) (List.getD (gLN l 7) (0+((Int.toNat (gI l 2))*1)) 0) [])):Nat):Int)))&&true)
 (ck ((ltN (List.getD (gLN l 7) (0+((Int.toNat (gI l 2))*1)) 0) (List.length (gLL l 8)))&&(ltN (0+((Int.toNat (gI l 5))*1)) (List.length (List.getD (gLL l 8) (List.getD (gLN l 7) (0+((Int.toNat (gI l 2))*1)) 0) []))))
 (ck (((eqM (gN l 11) (List.length (List.take ((gN l 11)*1) (List.drop 0 (gL l 6)))))&&true)&&true)
 (T104 [.I (gI l 9),.I (gI l 10),.L (List.take ((gN l 11)*1) (List.drop 0 (gL l 6))),.I (gI l 3),.I (List.getD (List.getD (gLL l 8) (List.getD (gLN l 7) (0+((Int.toNat (gI l 2))*1)) 0) []) (0+((Int.toNat (gI l 5))*1)) 0)]
 (fun j A=>(sw (ck (((leI 0 (gI l 5))&&(ltI (gI l 5) (((List.length (List.getD (gLL l 8) (List.getD (gLN l 7) (0+((Int.toNat (gI l 2))*1)) 0) [])):Nat):Int)))&&true)
 (ck ((ltN (List.getD (gLN l 7) (0+((Int.toNat (gI l 2))*1)) 0) (List.length (gLL l 8)))&&(ltN (0+((Int.toNat (gI l 5))*1)) (List.length (List.getD (gLL l 8) (List.getD (gLN l 7) (0+((Int.toNat (gI l 2))*1)) 0) []))))
 (nx 0 [.I (gI l 0),.N (gN l 1),.I (gI l 2),.I (gI l 3),.I (gI l 4),.I (wr .i64 ((gI l 5)+1)),.L (gL l 6),.LN (gLN l 7),.LL (List.set (gLL l 8) (List.getD (gLN l 7) (0+((Int.toNat (gI l 2))*1)) 0) (List.set (List.getD (gLL l 8) (List.getD (gLN l 7) (0+((Int.toNat (gI l 2))*1)) 0) []) (0+((Int.toNat (gI l 5))*1)) (gI A 0))),.I (gI l 9),.I (gI l 10),.N (gN l 11),.I (gI l 12)])))
 (fun _=>none)) j)))))))))
 (ex 0 [.I (gI l 0),.N (gN l 1),.I (gI l 2),.L (gL l 6),.LN (gLN l 7),.LL (gLL l 8),.I (gI l 9),.I (gI l 10),.N (gN l 11),.I (gI l 12)])
theorem L84_10.e0:LEq L84_10.O L84_10.H 0 L84_10.s0:=by intro τ next κ l;kernel_rfl
def L84_10:LStep P Cf:=LStep.mk1 (by decide) L84_10.e0
def L84_10.b:Option τ:=runE L84_10 fuel κ t l
def L84_10.E:LEnt P:=LStep.E L84_10
def L94_3.H:LHead:=⟨true,false,4,270339,270339,12318,0,0,[(PS.mk (us 1 ((PV2.v (PV1.ref 1 none (some 0) none 1))::pI::(PV2.v (PV1.ref 1 none (some 0) none 1))::(pp 3)::us 7 (pI::pI::us 21 []))) mo2Xb)],[((Out.exit 0),(PS.mk (us 35 []) mo2Xb))]⟩
def L94_3.O:Orc P:=⟨[T104.E,T103.E],[],[],40⟩
def L94_3.s0:Option τ :=
 br (ltI (gI l 6) (gI l 5))
 (ck (((leI 0 (gI l 6))&&(ltI (gI l 6) (gN l 1)))&&true)
 (ck ((ltN (gN l 0) (List.length (gLL l 8)))&&(ltN (0+((Int.toNat (gI l 6))*1)) (List.length (List.getD (gLL l 8) (gN l 0) []))))
 (ck (((leI 0 (gI l 6))&&(ltI (gI l 6) (gN l 4)))&&true)
 (ck ((ltN (gN l 3) (List.length (gLL l 8)))&&(ltN (0+((Int.toNat (gI l 6))*1)) (List.length (List.getD (gLL l 8) (gN l 3) []))))
 (ck (((eqM (gN l 12) (List.length (List.take ((gN l 12)*1) (List.drop 0 (gL l 7)))))&&true)&&true)
 (T104 [.I (gI l 10),.I (gI l 11),.L (List.take ((gN l 12)*1) (List.drop 0 (gL l 7))),.I (gI l 2),.I (List.getD (List.getD (gLL l 8) (gN l 3) []) (0+((Int.toNat (gI l 6))*1)) 0)]
 (fun j A=>(sw (ck (((eqM (gN l 12) (List.length (List.take ((gN l 12)*1) (List.drop 0 (gL l 7)))))&&true)&&true)
 (T103 [.I (gI l 10),.I (gI l 11),.L (List.take ((gN l 12)*1) (List.drop 0 (gL l 7))),.I (List.getD (List.getD (gLL l 8) (gN l 0) []) (0+((Int.toNat (gI l 6))*1)) 0),.I (gI A 0)]
 (fun j B=>(sw (ck (((leI 0 (gI l 6))&&(ltI (gI l 6) (gN l 1)))&&true)
 (ck ((ltN (gN l 0) (List.length (gLL l 8)))&&(ltN (0+((Int.toNat (gI l 6))*1)) (List.length (List.getD (gLL l 8) (gN l 0) []))))
 (nx 0 [.N (gN l 0),.N (gN l 1),.I (gI l 2),.N (gN l 3),.N (gN l 4),.I (gI l 5),.I (wr .i64 ((gI l 6)+1)),.L (gL l 7),.LL (List.set (gLL l 8) (gN l 0) (List.set (List.getD (gLL l 8) (gN l 0) []) (0+((Int.toNat (gI l 6))*1)) (gI B 0))),.LN (gLN l 9),.I (gI l 10),.I (gI l 11),.N (gN l 12)])))
 (fun _=>none)) j)))
 (fun _=>none)) j)))))))
 (ex 0 [.L (gL l 7),.LL (gLL l 8),.LN (gLN l 9),.I (gI l 10),.I (gI l 11),.N (gN l 12)])
theorem L94_3.e0:LEq L94_3.O L94_3.H 0 L94_3.s0:=by intro τ next κ l;kernel_rfl
def L94_3:LStep P Cf:=LStep.mk1 (by decide) L94_3.e0
def L94_3.b:Option τ:=runE L94_3 fuel κ t l
def L94_3.E:LEnt P:=LStep.E L94_3
def S94_0.H:SHead:=⟨66,[(PV2.agg [iI,iI,(r1 0)]),(PV2.v (PV1.ref 1 none (some 0) none 1)),pI,(PV2.v (PV1.ref 1 none (some 0) none 1))],[],mo3Xb,[((PV2.tup []),mo3Xb)]⟩
def S94_0.O:Orc P:=⟨[],[L94_3.E],[],40⟩
def S94_0:Option τ :=
 br ((gI l 5)==0)
 (k 0 [.L (gL l 8),.LL (gLL l 9),.LN (gLN l 10)])
 (L94_3.b 0 [.N (gN l 3),.N (gN l 4),.I (gI l 5),.N (gN l 6),.N (gN l 7),.I (gN l 4),.I 0,.L (gL l 8),.LL (gLL l 9),.LN (gLN l 10),.I (gI l 0),.I (gI l 1),.N (gN l 2)]
 (fun j A=>(sw (k 0 [.L (gL A 0),.LL (gLL A 1),.LN (gLN A 2)])
 (fun _=>none)) j))
theorem S94_0.eq:SEq S94_0.O S94_0.H S94_0:=by intro τ l κ;kernel_rfl
def S94_0.next:SDyn P S94_0.H:=mkS S94_0.eq
def S94_0.E:SEnt P:=⟨S94_0.H,S94_0.next⟩
def L84_15.H:LHead:=⟨true,false,5,225295,225295,8665580274997661924293869966,398,0,[(PS.mk (us 1 (pI::(rr 1)::(pp 3)::us 3 (pI::(pp 4)::us 81 ((rr 1)::pI::pI::us 28 [])))) mo1Xb)],[((Out.exit 4),(PS.mk (us 1 (pI::(rr 1)::(pp 3)::us 3 (pI::(pp 4)::us 112 []))) mo1Xb))]⟩
def L84_15.O:Orc P:=⟨[T83.E],[],[S94_0.E],40⟩
def L84_15.s0:Option τ :=
 br (ltI (gI l 5) (gI l 4))
 (ck (((leI 0 (gI l 5))&&(ltI (gI l 5) (gN l 3)))&&true)
 (ck ((ltN (0+((Int.toNat (gI l 5))*1)) (List.length (gLN l 7)))&&(ltN (List.getD (gLN l 7) (0+((Int.toNat (gI l 5))*1)) 0) (List.length (gLL l 8))))
 (br ((gI l 5) != (gI l 2))
 (ck (((leI 0 (gI l 12))&&(ltI (gI l 12) (((List.length (List.getD (gLL l 8) (List.getD (gLN l 7) (0+((Int.toNat (gI l 5))*1)) 0) [])):Nat):Int)))&&true)
 (ck ((ltN (List.getD (gLN l 7) (0+((Int.toNat (gI l 5))*1)) 0) (List.length (gLL l 8)))&&(ltN (0+((Int.toNat (gI l 12))*1)) (List.length (List.getD (gLL l 8) (List.getD (gLN l 7) (0+((Int.toNat (gI l 5))*1)) 0) []))))
 (ck (((eqM (gN l 11) (List.length (List.take ((gN l 11)*1) (List.drop 0 (gL l 6)))))&&true)&&true)
 (T83 [.I (gI l 9),.I (gI l 10),.L (List.take ((gN l 11)*1) (List.drop 0 (gL l 6))),.I (List.getD (List.getD (gLL l 8) (List.getD (gLN l 7) (0+((Int.toNat (gI l 5))*1)) 0) []) (0+((Int.toNat (gI l 12))*1)) 0)]
 (fun j A=>(sw (ck (((leI 0 (gI l 2))&&(ltI (gI l 2) (gN l 1)))&&true)
 (ck ((ltN (0+((Int.toNat (gI l 2))*1)) (List.length (gLN l 7)))&&(ltN (List.getD (gLN l 7) (0+((Int.toNat (gI l 2))*1)) 0) (List.length (gLL l 8))))
 (S94_0 [.I (gI l 9),.I (gI l 10),.N (gN l 11),.N (List.getD (gLN l 7) (0+((Int.toNat (gI l 5))*1)) 0),.N (List.length (List.getD (gLL l 8) (List.getD (gLN l 7) (0+((Int.toNat (gI l 5))*1)) 0) [])),.I (gI A 0),.N (List.getD (gLN l 7) (0+((Int.toNat (gI l 2))*1)) 0),.N (List.length (List.getD (gLL l 8) (List.getD (gLN l 7) (0+((Int.toNat (gI l 2))*1)) 0) [])),.L (gL l 6),.LL (gLL l 8),.LN (gLN l 7)]
 (fun j B=>(sw (nx 0 [.I (gI l 0),.N (gN l 1),.I (gI l 2),.N (gN l 3),.I (gI l 4),.I (wr .i64 ((gI l 5)+1)),.L (gL B 0),.LN (gLN B 2),.LL (gLL B 1),.I (gI l 9),.I (gI l 10),.N (gN l 11),.I (gI l 12)])
 (fun _=>none)) j))))
 (fun _=>none)) j)))))
 (nx 0 [.I (gI l 0),.N (gN l 1),.I (gI l 2),.N (gN l 3),.I (gI l 4),.I (wr .i64 ((gI l 5)+1)),.L (gL l 6),.LN (gLN l 7),.LL (gLL l 8),.I (gI l 9),.I (gI l 10),.N (gN l 11),.I (gI l 12)]))))
 (ex 0 [.I (gI l 0),.N (gN l 1),.I (gI l 2),.L (gL l 6),.LN (gLN l 7),.LL (gLL l 8),.I (gI l 9),.I (gI l 10),.N (gN l 11),.I (gI l 12)])
theorem L84_15.e0:LEq L84_15.O L84_15.H 0 L84_15.s0:=by intro τ next κ l;kernel_rfl
def L84_15:LStep P Cf:=LStep.mk1 (by decide) L84_15.e0
def L84_15.b:Option τ:=runE L84_15 fuel κ t l
def L84_15.E:LEnt P:=LStep.E L84_15
def L114_2_2.H:LHead:=⟨false,false,1,368642,368642,403,16,0,[(PS.mk ((PV2.v (PV1.sl PC0.e))::(PV2.fn 91 [(p1 0)])::us 2 (pI::us 2 (pI::pI::us 10 []))) [(oG [pI])])],[((Out.exit 0),(PS.mk (us 4 (pI::us 14 [])) [(oG [pI])]))]⟩
def L114_2_2.O:Orc P:=⟨[],[],[],40⟩
def L114_2_2.s0 {τ:Type} (next ex:Nat→LS_→Option τ) (l:LS_):Option τ :=
 br (ltI (gI l 3) (gI l 2))
 (ck (((leI 0 (gI l 3))&&(ltI (gI l 3) (gN l 0)))&&true)
 (none))
 (ex 0 [.I (gI l 1),.I (gI l 4)])
theorem L114_2_2.e0:LEq L114_2_2.O L114_2_2.H 0 L114_2_2.s0:=by intro τ next κ l;kernel_rfl
def L114_2_2:LStep P Cf:=LStep.mk1 (by decide) L114_2_2.e0
def L114_2_2.b:Option τ:=runE L114_2_2 fuel κ t l
def L114_2_2.E:LEnt P:=LStep.E L114_2_2
def S114_2.H:SHead:=⟨90,[(PV2.v (PV1.sl PC0.e)),(PV2.fn 91 [(p1 0)])],[],[(oG [pI])],[(pI,[(oG [pI])])]⟩
def S114_2.O:Orc P:=⟨[],[L114_2_2.E],[],40⟩
def S114_2:Option τ :=
 L114_2_2.b 0 [.N (gN l 0),.I 0,.I (gN l 0),.I 0,.I (gI l 1)]
 (fun j A=>(sw (k 0 [.I (-1),.I (gI A 1)])
 (fun _=>none)) j)
theorem S114_2.eq:SEq S114_2.O S114_2.H S114_2:=by intro τ l κ;kernel_rfl
def S114_2.next:SDyn P S114_2.H:=mkS S114_2.eq
def S114_2.E:SEnt P:=⟨S114_2.H,S114_2.next⟩
def L84_10_1.H:LHead:=⟨true,false,6,225290,225290,885443715538058478990,398,0,[(PS.mk (us 1 (pI::(rr 1)::(pp 3)::us 3 (pI::(pp 5)::us 1 (pI::us 57 (pI::pI::us 51 []))))) mo4Xb)],[((Out.exit 2),(PS.mk (us 1 (pI::(rr 1)::(pp 3)::us 3 (pI::(pp 5)::us 112 []))) mo4Xb))]⟩
def L84_10_1.O:Orc P:=⟨[T104.E],[],[],40⟩
def L84_10_1.s0:Option τ :=
 br (ltI (gI l 5) (gI l 4))
 (ck (((leI 0 (gI l 2))&&(ltI (gI l 2) (gN l 1)))&&true)
 (ck ((ltN (0+((Int.toNat (gI l 2))*1)) (List.length (gLN l 7)))&&(ltN (List.getD (gLN l 7) (0+((Int.toNat (gI l 2))*1)) 0) (List.length (gLL l 8))))
 (ck (((leI 0 (gI l 2))&&(ltI (gI l 2) (gN l 1)))&&true)
 (ck ((ltN (0+((Int.toNat (gI l 2))*1)) (List.length (gLN l 7)))&&(ltN (List.getD (gLN l 7) (0+((Int.toNat (gI l 2))*1)) 0) (List.length (gLL l 8))))
 (ck (((leI 0 (gI l 5))&&(ltI (gI l 5) (((List.length (List.getD (gLL l 8) (List.getD (gLN l 7) (0+((Int.toNat (gI l 2))*1)) 0) [])):Nat):Int)))&&true)
 (ck ((ltN (List.getD (gLN l 7) (0+((Int.toNat (gI l 2))*1)) 0) (List.length (gLL l 8)))&&(ltN (0+((Int.toNat (gI l 5))*1)) (List.length (List.getD (gLL l 8) (List.getD (gLN l 7) (0+((Int.toNat (gI l 2))*1)) 0) []))))
 (ck (((eqM (gN l 11) (List.length (List.take ((gN l 11)*1) (List.drop 0 (gL l 6)))))&&true)&&true)
 (T104 [.I (gI l 9),.I (gI l 10),.L (List.take ((gN l 11)*1) (List.drop 0 (gL l 6))),.I (gI l 3),.I (List.getD (List.getD (gLL l 8) (List.getD (gLN l 7) (0+((Int.toNat (gI l 2))*1)) 0) []) (0+((Int.toNat (gI l 5))*1)) 0)]
 (fun j A=>(sw (ck (((leI 0 (gI l 5))&&(ltI (gI l 5) (((List.length (List.getD (gLL l 8) (List.getD (gLN l 7) (0+((Int.toNat (gI l 2))*1)) 0) [])):Nat):Int)))&&true)
 (ck ((ltN (List.getD (gLN l 7) (0+((Int.toNat (gI l 2))*1)) 0) (List.length (gLL l 8)))&&(ltN (0+((Int.toNat (gI l 5))*1)) (List.length (List.getD (gLL l 8) (List.getD (gLN l 7) (0+((Int.toNat (gI l 2))*1)) 0) []))))
 (nx 0 [.I (gI l 0),.N (gN l 1),.I (gI l 2),.I (gI l 3),.I (gI l 4),.I (wr .i64 ((gI l 5)+1)),.L (gL l 6),.LN (gLN l 7),.LL (List.set (gLL l 8) (List.getD (gLN l 7) (0+((Int.toNat (gI l 2))*1)) 0) (List.set (List.getD (gLL l 8) (List.getD (gLN l 7) (0+((Int.toNat (gI l 2))*1)) 0) []) (0+((Int.toNat (gI l 5))*1)) (gI A 0))),.I (gI l 9),.I (gI l 10),.N (gN l 11),.I (gI l 12),.I (gI l 13)])))
 (fun _=>none)) j)))))))))
 (ex 0 [.I (gI l 0),.N (gN l 1),.I (gI l 2),.L (gL l 6),.LN (gLN l 7),.LL (gLL l 8),.I (gI l 9),.I (gI l 10),.N (gN l 11),.I (gI l 12),.I (gI l 13)])
theorem L84_10_1.e0:LEq L84_10_1.O L84_10_1.H 0 L84_10_1.s0:=by intro τ next κ l;kernel_rfl
def L84_10_1:LStep P Cf:=LStep.mk1 (by decide) L84_10_1.e0
def L84_10_1.b:Option τ:=runE L84_10_1 fuel κ t l
def L84_10_1.E:LEnt P:=LStep.E L84_10_1
def L84_15_1.H:LHead:=⟨true,false,6,225295,225295,8665580274997661924293869966,398,0,[(PS.mk (us 1 (pI::(rr 1)::(pp 3)::us 3 (pI::(pp 5)::us 81 ((rr 1)::pI::pI::us 28 [])))) mo4Xb)],[((Out.exit 4),(PS.mk (us 1 (pI::(rr 1)::(pp 3)::us 3 (pI::(pp 5)::us 112 []))) mo4Xb))]⟩
def L84_15_1.O:Orc P:=⟨[T83.E],[],[S94_0.E],40⟩
def L84_15_1.s0:Option τ :=
 br (ltI (gI l 5) (gI l 4))
 (ck (((leI 0 (gI l 5))&&(ltI (gI l 5) (gN l 3)))&&true)
 (ck ((ltN (0+((Int.toNat (gI l 5))*1)) (List.length (gLN l 7)))&&(ltN (List.getD (gLN l 7) (0+((Int.toNat (gI l 5))*1)) 0) (List.length (gLL l 8))))
 (br ((gI l 5) != (gI l 2))
 (ck (((leI 0 (gI l 13))&&(ltI (gI l 13) (((List.length (List.getD (gLL l 8) (List.getD (gLN l 7) (0+((Int.toNat (gI l 5))*1)) 0) [])):Nat):Int)))&&true)
 (ck ((ltN (List.getD (gLN l 7) (0+((Int.toNat (gI l 5))*1)) 0) (List.length (gLL l 8)))&&(ltN (0+((Int.toNat (gI l 13))*1)) (List.length (List.getD (gLL l 8) (List.getD (gLN l 7) (0+((Int.toNat (gI l 5))*1)) 0) []))))
 (ck (((eqM (gN l 11) (List.length (List.take ((gN l 11)*1) (List.drop 0 (gL l 6)))))&&true)&&true)
 (T83 [.I (gI l 9),.I (gI l 10),.L (List.take ((gN l 11)*1) (List.drop 0 (gL l 6))),.I (List.getD (List.getD (gLL l 8) (List.getD (gLN l 7) (0+((Int.toNat (gI l 5))*1)) 0) []) (0+((Int.toNat (gI l 13))*1)) 0)]
 (fun j A=>(sw (ck (((leI 0 (gI l 2))&&(ltI (gI l 2) (gN l 1)))&&true)
 (ck ((ltN (0+((Int.toNat (gI l 2))*1)) (List.length (gLN l 7)))&&(ltN (List.getD (gLN l 7) (0+((Int.toNat (gI l 2))*1)) 0) (List.length (gLL l 8))))
 (S94_0 [.I (gI l 9),.I (gI l 10),.N (gN l 11),.N (List.getD (gLN l 7) (0+((Int.toNat (gI l 5))*1)) 0),.N (List.length (List.getD (gLL l 8) (List.getD (gLN l 7) (0+((Int.toNat (gI l 5))*1)) 0) [])),.I (gI A 0),.N (List.getD (gLN l 7) (0+((Int.toNat (gI l 2))*1)) 0),.N (List.length (List.getD (gLL l 8) (List.getD (gLN l 7) (0+((Int.toNat (gI l 2))*1)) 0) [])),.L (gL l 6),.LL (gLL l 8),.LN (gLN l 7)]
 (fun j B=>(sw (nx 0 [.I (gI l 0),.N (gN l 1),.I (gI l 2),.N (gN l 3),.I (gI l 4),.I (wr .i64 ((gI l 5)+1)),.L (gL B 0),.LN (gLN B 2),.LL (gLL B 1),.I (gI l 9),.I (gI l 10),.N (gN l 11),.I (gI l 12),.I (gI l 13)])
 (fun _=>none)) j))))
 (fun _=>none)) j)))))
 (nx 0 [.I (gI l 0),.N (gN l 1),.I (gI l 2),.N (gN l 3),.I (gI l 4),.I (wr .i64 ((gI l 5)+1)),.L (gL l 6),.LN (gLN l 7),.LL (gLL l 8),.I (gI l 9),.I (gI l 10),.N (gN l 11),.I (gI l 12),.I (gI l 13)]))))
 (ex 0 [.I (gI l 0),.N (gN l 1),.I (gI l 2),.L (gL l 6),.LN (gLN l 7),.LL (gLL l 8),.I (gI l 9),.I (gI l 10),.N (gN l 11),.I (gI l 12),.I (gI l 13)])
theorem L84_15_1.e0:LEq L84_15_1.O L84_15_1.H 0 L84_15_1.s0:=by intro τ next κ l;kernel_rfl
def L84_15_1:LStep P Cf:=LStep.mk1 (by decide) L84_15_1.e0
def L84_15_1.b:Option τ:=runE L84_15_1 fuel κ t l
def L84_15_1.E:LEnt P:=LStep.E L84_15_1
def L84_3.H:LHead:=⟨true,false,5,225283,225283,398,132,0,[(PS.mk (us 1 (pI::(rr 1)::(pp 3)::us 3 (pI::(pp 4)::us 112 []))) mo1Xb),(PS.mk (us 1 (pI::(rr 1)::(pp 3)::us 3 (pI::(pp 5)::us 112 []))) mo4Xb)],[((Out.exit 0),(PS.mk (us 2 ((rr 1)::us 4 (pI::us 113 []))) mo1Xb))]⟩
def L84_3.O:Orc P:=⟨[T116.E],[L84_10.E,L84_15.E,L84_10_1.E,L84_15_1.E],[S114_1.E,S114_2.E],40⟩
def L84_3.s0:Option τ :=
 br (ltI (gI l 9) (gI l 0))
 (br (ltI (gI l 2) (gN l 1))
 (ck ((((((leI 0 (gI l 2))&&(leI (gI l 2) (gN l 1)))&&(leI (((gN l 1):Nat):Int) (((gN l 1):Nat):Int)))&&(leI (((gN l 1):Nat):Int) (((gN l 1):Nat):Int)))&&true)&&true)
 (br (ltI (gI l 2) (gN l 1))
 (S114_1 [.N (0+((Int.toNat (gI l 2))*1)),.N ((Int.toNat (((gN l 1):Nat):Int))-(Int.toNat (gI l 2))),.LN (gLN l 4),.I (gI l 9),.LL (gLL l 5)]
 (fun j A=>(sw (br (ltI (gI A 0) 0)
 (nx 1 [.I (gI l 0),.N (gN l 1),.I (gI l 2),.L (gL l 3),.LN (gLN A 1),.LL (gLL A 3),.I (gI l 6),.I (gI l 7),.N (gN l 8),.I (gI A 2),.I (wr .i64 ((gI A 2)+1))])
 (ck (((leI 0 (wr .i64 ((gI l 2)+(gI A 0))))&&(ltI (wr .i64 ((gI l 2)+(gI A 0))) (((gN l 1):Nat):Int)))&&true)
 (ck ((ltN (0+((Int.toNat (wr .i64 ((gI l 2)+(gI A 0))))*1)) (List.length (gLN A 1)))&&(ltN (List.getD (gLN A 1) (0+((Int.toNat (wr .i64 ((gI l 2)+(gI A 0))))*1)) 0) (List.length (gLL A 3))))
 (ck (((leI 0 (gI l 2))&&(ltI (gI l 2) (gN l 1)))&&true)
 (ck ((ltN (0+((Int.toNat (gI l 2))*1)) (List.length (gLN A 1)))&&(ltN (List.getD (gLN A 1) (0+((Int.toNat (gI l 2))*1)) 0) (List.length (gLL A 3))))
 (ck (((leI 0 (gI l 2))&&(ltI (gI l 2) (gN l 1)))&&true)
 (ck ((((ltN (0+((Int.toNat (gI l 2))*1)) (List.length (gLN A 1)))&&(ltN (List.getD (gLN A 1) (0+((Int.toNat (wr .i64 ((gI l 2)+(gI A 0))))*1)) 0) (List.length (gLL A 3))))&&(eqM (List.length (List.getD (gLL A 3) (List.getD (gLN A 1) (0+((Int.toNat (wr .i64 ((gI l 2)+(gI A 0))))*1)) 0) [])) (List.length (List.getD (gLL A 3) (List.getD (gLN A 1) (0+((Int.toNat (wr .i64 ((gI l 2)+(gI A 0))))*1)) 0) []))))&&true)
 (ck (((leI 0 (wr .i64 ((gI l 2)+(gI A 0))))&&(ltI (wr .i64 ((gI l 2)+(gI A 0))) (((gN l 1):Nat):Int)))&&true)
 (ck ((((ltN (0+((Int.toNat (wr .i64 ((gI l 2)+(gI A 0))))*1)) (List.length (List.set (gLN A 1) (0+((Int.toNat (gI l 2))*1)) (List.getD (gLN A 1) (0+((Int.toNat (wr .i64 ((gI l 2)+(gI A 0))))*1)) 0))))&&(ltN (List.getD (gLN A 1) (0+((Int.toNat (gI l 2))*1)) 0) (List.length (gLL A 3))))&&(eqM (List.length (List.getD (gLL A 3) (List.getD (gLN A 1) (0+((Int.toNat (gI l 2))*1)) 0) [])) (List.length (List.getD (gLL A 3) (List.getD (gLN A 1) (0+((Int.toNat (gI l 2))*1)) 0) []))))&&true)
 (ck (((leI 0 (gI l 2))&&(ltI (gI l 2) (gN l 1)))&&true)
 (ck ((ltN (0+((Int.toNat (gI l 2))*1)) (List.length (List.set (List.set (gLN A 1) (0+((Int.toNat (gI l 2))*1)) (List.getD (gLN A 1) (0+((Int.toNat (wr .i64 ((gI l 2)+(gI A 0))))*1)) 0)) (0+((Int.toNat (wr .i64 ((gI l 2)+(gI A 0))))*1)) (List.getD (gLN A 1) (0+((Int.toNat (gI l 2))*1)) 0))))&&(ltN (List.getD (List.set (List.set (gLN A 1) (0+((Int.toNat (gI l 2))*1)) (List.getD (gLN A 1) (0+((Int.toNat (wr .i64 ((gI l 2)+(gI A 0))))*1)) 0)) (0+((Int.toNat (wr .i64 ((gI l 2)+(gI A 0))))*1)) (List.getD (gLN A 1) (0+((Int.toNat (gI l 2))*1)) 0)) (0+((Int.toNat (gI l 2))*1)) 0) (List.length (gLL A 3))))
 (ck (((leI 0 (gI A 2))&&(ltI (gI A 2) (((List.length (List.getD (gLL A 3) (List.getD (List.set (List.set (gLN A 1) (0+((Int.toNat (gI l 2))*1)) (List.getD (gLN A 1) (0+((Int.toNat (wr .i64 ((gI l 2)+(gI A 0))))*1)) 0)) (0+((Int.toNat (wr .i64 ((gI l 2)+(gI A 0))))*1)) (List.getD (gLN A 1) (0+((Int.toNat (gI l 2))*1)) 0)) (0+((Int.toNat (gI l 2))*1)) 0) [])):Nat):Int)))&&true)
 (ck ((ltN (List.getD (List.set (List.set (gLN A 1) (0+((Int.toNat (gI l 2))*1)) (List.getD (gLN A 1) (0+((Int.toNat (wr .i64 ((gI l 2)+(gI A 0))))*1)) 0)) (0+((Int.toNat (wr .i64 ((gI l 2)+(gI A 0))))*1)) (List.getD (gLN A 1) (0+((Int.toNat (gI l 2))*1)) 0)) (0+((Int.toNat (gI l 2))*1)) 0) (List.length (gLL A 3)))&&(ltN (0+((Int.toNat (gI A 2))*1)) (List.length (List.getD (gLL A 3) (List.getD (List.set (List.set (gLN A 1) (0+((Int.toNat (gI l 2))*1)) (List.getD (gLN A 1) (0+((Int.toNat (wr .i64 ((gI l 2)+(gI A 0))))*1)) 0)) (0+((Int.toNat (wr .i64 ((gI l 2)+(gI A 0))))*1)) (List.getD (gLN A 1) (0+((Int.toNat (gI l 2))*1)) 0)) (0+((Int.toNat (gI l 2))*1)) 0) []))))
 (ck (((eqM (gN l 8) (List.length (List.take ((gN l 8)*1) (List.drop 0 (gL l 3)))))&&true)&&true)
 (T116 [.I (gI l 6),.I (gI l 7),.L (List.take ((gN l 8)*1) (List.drop 0 (gL l 3))),.I (List.getD (List.getD (gLL A 3) (List.getD (List.set (List.set (gLN A 1) (0+((Int.toNat (gI l 2))*1)) (List.getD (gLN A 1) (0+((Int.toNat (wr .i64 ((gI l 2)+(gI A 0))))*1)) 0)) (0+((Int.toNat (wr .i64 ((gI l 2)+(gI A 0))))*1)) (List.getD (gLN A 1) (0+((Int.toNat (gI l 2))*1)) 0)) (0+((Int.toNat (gI l 2))*1)) 0) []) (0+((Int.toNat (gI A 2))*1)) 0)]
 (fun j B=>(sw (ck (((leI 0 (gI l 2))&&(ltI (gI l 2) (gN l 1)))&&true)
 (ck ((ltN (0+((Int.toNat (gI l 2))*1)) (List.length (List.set (List.set (gLN A 1) (0+((Int.toNat (gI l 2))*1)) (List.getD (gLN A 1) (0+((Int.toNat (wr .i64 ((gI l 2)+(gI A 0))))*1)) 0)) (0+((Int.toNat (wr .i64 ((gI l 2)+(gI A 0))))*1)) (List.getD (gLN A 1) (0+((Int.toNat (gI l 2))*1)) 0))))&&(ltN (List.getD (List.set (List.set (gLN A 1) (0+((Int.toNat (gI l 2))*1)) (List.getD (gLN A 1) (0+((Int.toNat (wr .i64 ((gI l 2)+(gI A 0))))*1)) 0)) (0+((Int.toNat (wr .i64 ((gI l 2)+(gI A 0))))*1)) (List.getD (gLN A 1) (0+((Int.toNat (gI l 2))*1)) 0)) (0+((Int.toNat (gI l 2))*1)) 0) (List.length (gLL A 3))))
 (L84_10.b 0 [.I (gI l 0),.N (gN l 1),.I (gI l 2),.I (gI B 0),.I (((List.length (List.getD (gLL A 3) (List.getD (List.set (List.set (gLN A 1) (0+((Int.toNat (gI l 2))*1)) (List.getD (gLN A 1) (0+((Int.toNat (wr .i64 ((gI l 2)+(gI A 0))))*1)) 0)) (0+((Int.toNat (wr .i64 ((gI l 2)+(gI A 0))))*1)) (List.getD (gLN A 1) (0+((Int.toNat (gI l 2))*1)) 0)) (0+((Int.toNat (gI l 2))*1)) 0) [])):Nat):Int),.I 0,.L (gL l 3),.LN (List.set (List.set (gLN A 1) (0+((Int.toNat (gI l 2))*1)) (List.getD (gLN A 1) (0+((Int.toNat (wr .i64 ((gI l 2)+(gI A 0))))*1)) 0)) (0+((Int.toNat (wr .i64 ((gI l 2)+(gI A 0))))*1)) (List.getD (gLN A 1) (0+((Int.toNat (gI l 2))*1)) 0)),.LL (gLL A 3),.I (gI l 6),.I (gI l 7),.N (gN l 8),.I (gI A 2)]
 (fun j C=>(sw (L84_15.b 0 [.I (gI C 0),.N (gN C 1),.I (gI C 2),.N (gN C 1),.I (gN C 1),.I 0,.L (gL C 3),.LN (gLN C 4),.LL (gLL C 5),.I (gI C 6),.I (gI C 7),.N (gN C 8),.I (gI C 9)]
 (fun j D=>(sw (nx 1 [.I (gI D 0),.N (gN D 1),.I (wr .i64 ((gI D 2)+1)),.L (gL D 3),.LN (gLN D 4),.LL (gLL D 5),.I (gI D 6),.I (gI D 7),.N (gN D 8),.I (gI D 9),.I (wr .i64 ((gI D 9)+1))])
 (fun _=>none)) j))
 (fun _=>none)) j))))
 (fun _=>none)) j))))))))))))))))
 (fun _=>none)) j))
 (S114_2 [.N 0,.I (gI l 9)]
 (fun j A=>(sw (br (ltI (gI A 0) 0)
 (nx 1 [.I (gI l 0),.N (gN l 1),.I (gI l 2),.L (gL l 3),.LN (gLN l 4),.LL (gLL l 5),.I (gI l 6),.I (gI l 7),.N (gN l 8),.I (gI A 1),.I (wr .i64 ((gI A 1)+1))])
 (ck (((leI 0 (wr .i64 ((gI l 2)+(gI A 0))))&&(ltI (wr .i64 ((gI l 2)+(gI A 0))) (((gN l 1):Nat):Int)))&&true)
 (ck ((ltN (0+((Int.toNat (wr .i64 ((gI l 2)+(gI A 0))))*1)) (List.length (gLN l 4)))&&(ltN (List.getD (gLN l 4) (0+((Int.toNat (wr .i64 ((gI l 2)+(gI A 0))))*1)) 0) (List.length (gLL l 5))))
 (ck (((leI 0 (gI l 2))&&(ltI (gI l 2) (gN l 1)))&&true)
 (ck ((ltN (0+((Int.toNat (gI l 2))*1)) (List.length (gLN l 4)))&&(ltN (List.getD (gLN l 4) (0+((Int.toNat (gI l 2))*1)) 0) (List.length (gLL l 5))))
 (ck (((leI 0 (gI l 2))&&(ltI (gI l 2) (gN l 1)))&&true)
 (ck ((((ltN (0+((Int.toNat (gI l 2))*1)) (List.length (gLN l 4)))&&(ltN (List.getD (gLN l 4) (0+((Int.toNat (wr .i64 ((gI l 2)+(gI A 0))))*1)) 0) (List.length (gLL l 5))))&&(eqM (List.length (List.getD (gLL l 5) (List.getD (gLN l 4) (0+((Int.toNat (wr .i64 ((gI l 2)+(gI A 0))))*1)) 0) [])) (List.length (List.getD (gLL l 5) (List.getD (gLN l 4) (0+((Int.toNat (wr .i64 ((gI l 2)+(gI A 0))))*1)) 0) []))))&&true)
 (ck (((leI 0 (wr .i64 ((gI l 2)+(gI A 0))))&&(ltI (wr .i64 ((gI l 2)+(gI A 0))) (((gN l 1):Nat):Int)))&&true)
 (ck ((((ltN (0+((Int.toNat (wr .i64 ((gI l 2)+(gI A 0))))*1)) (List.length (List.set (gLN l 4) (0+((Int.toNat (gI l 2))*1)) (List.getD (gLN l 4) (0+((Int.toNat (wr .i64 ((gI l 2)+(gI A 0))))*1)) 0))))&&(ltN (List.getD (gLN l 4) (0+((Int.toNat (gI l 2))*1)) 0) (List.length (gLL l 5))))&&(eqM (List.length (List.getD (gLL l 5) (List.getD (gLN l 4) (0+((Int.toNat (gI l 2))*1)) 0) [])) (List.length (List.getD (gLL l 5) (List.getD (gLN l 4) (0+((Int.toNat (gI l 2))*1)) 0) []))))&&true)
 (ck (((leI 0 (gI l 2))&&(ltI (gI l 2) (gN l 1)))&&true)
 (ck ((ltN (0+((Int.toNat (gI l 2))*1)) (List.length (List.set (List.set (gLN l 4) (0+((Int.toNat (gI l 2))*1)) (List.getD (gLN l 4) (0+((Int.toNat (wr .i64 ((gI l 2)+(gI A 0))))*1)) 0)) (0+((Int.toNat (wr .i64 ((gI l 2)+(gI A 0))))*1)) (List.getD (gLN l 4) (0+((Int.toNat (gI l 2))*1)) 0))))&&(ltN (List.getD (List.set (List.set (gLN l 4) (0+((Int.toNat (gI l 2))*1)) (List.getD (gLN l 4) (0+((Int.toNat (wr .i64 ((gI l 2)+(gI A 0))))*1)) 0)) (0+((Int.toNat (wr .i64 ((gI l 2)+(gI A 0))))*1)) (List.getD (gLN l 4) (0+((Int.toNat (gI l 2))*1)) 0)) (0+((Int.toNat (gI l 2))*1)) 0) (List.length (gLL l 5))))
 (ck (((leI 0 (gI A 1))&&(ltI (gI A 1) (((List.length (List.getD (gLL l 5) (List.getD (List.set (List.set (gLN l 4) (0+((Int.toNat (gI l 2))*1)) (List.getD (gLN l 4) (0+((Int.toNat (wr .i64 ((gI l 2)+(gI A 0))))*1)) 0)) (0+((Int.toNat (wr .i64 ((gI l 2)+(gI A 0))))*1)) (List.getD (gLN l 4) (0+((Int.toNat (gI l 2))*1)) 0)) (0+((Int.toNat (gI l 2))*1)) 0) [])):Nat):Int)))&&true)
 (ck ((ltN (List.getD (List.set (List.set (gLN l 4) (0+((Int.toNat (gI l 2))*1)) (List.getD (gLN l 4) (0+((Int.toNat (wr .i64 ((gI l 2)+(gI A 0))))*1)) 0)) (0+((Int.toNat (wr .i64 ((gI l 2)+(gI A 0))))*1)) (List.getD (gLN l 4) (0+((Int.toNat (gI l 2))*1)) 0)) (0+((Int.toNat (gI l 2))*1)) 0) (List.length (gLL l 5)))&&(ltN (0+((Int.toNat (gI A 1))*1)) (List.length (List.getD (gLL l 5) (List.getD (List.set (List.set (gLN l 4) (0+((Int.toNat (gI l 2))*1)) (List.getD (gLN l 4) (0+((Int.toNat (wr .i64 ((gI l 2)+(gI A 0))))*1)) 0)) (0+((Int.toNat (wr .i64 ((gI l 2)+(gI A 0))))*1)) (List.getD (gLN l 4) (0+((Int.toNat (gI l 2))*1)) 0)) (0+((Int.toNat (gI l 2))*1)) 0) []))))
 (ck (((eqM (gN l 8) (List.length (List.take ((gN l 8)*1) (List.drop 0 (gL l 3)))))&&true)&&true)
 (T116 [.I (gI l 6),.I (gI l 7),.L (List.take ((gN l 8)*1) (List.drop 0 (gL l 3))),.I (List.getD (List.getD (gLL l 5) (List.getD (List.set (List.set (gLN l 4) (0+((Int.toNat (gI l 2))*1)) (List.getD (gLN l 4) (0+((Int.toNat (wr .i64 ((gI l 2)+(gI A 0))))*1)) 0)) (0+((Int.toNat (wr .i64 ((gI l 2)+(gI A 0))))*1)) (List.getD (gLN l 4) (0+((Int.toNat (gI l 2))*1)) 0)) (0+((Int.toNat (gI l 2))*1)) 0) []) (0+((Int.toNat (gI A 1))*1)) 0)]
 (fun j B=>(sw (ck (((leI 0 (gI l 2))&&(ltI (gI l 2) (gN l 1)))&&true)
 (ck ((ltN (0+((Int.toNat (gI l 2))*1)) (List.length (List.set (List.set (gLN l 4) (0+((Int.toNat (gI l 2))*1)) (List.getD (gLN l 4) (0+((Int.toNat (wr .i64 ((gI l 2)+(gI A 0))))*1)) 0)) (0+((Int.toNat (wr .i64 ((gI l 2)+(gI A 0))))*1)) (List.getD (gLN l 4) (0+((Int.toNat (gI l 2))*1)) 0))))&&(ltN (List.getD (List.set (List.set (gLN l 4) (0+((Int.toNat (gI l 2))*1)) (List.getD (gLN l 4) (0+((Int.toNat (wr .i64 ((gI l 2)+(gI A 0))))*1)) 0)) (0+((Int.toNat (wr .i64 ((gI l 2)+(gI A 0))))*1)) (List.getD (gLN l 4) (0+((Int.toNat (gI l 2))*1)) 0)) (0+((Int.toNat (gI l 2))*1)) 0) (List.length (gLL l 5))))
 (L84_10.b 0 [.I (gI l 0),.N (gN l 1),.I (gI l 2),.I (gI B 0),.I (((List.length (List.getD (gLL l 5) (List.getD (List.set (List.set (gLN l 4) (0+((Int.toNat (gI l 2))*1)) (List.getD (gLN l 4) (0+((Int.toNat (wr .i64 ((gI l 2)+(gI A 0))))*1)) 0)) (0+((Int.toNat (wr .i64 ((gI l 2)+(gI A 0))))*1)) (List.getD (gLN l 4) (0+((Int.toNat (gI l 2))*1)) 0)) (0+((Int.toNat (gI l 2))*1)) 0) [])):Nat):Int),.I 0,.L (gL l 3),.LN (List.set (List.set (gLN l 4) (0+((Int.toNat (gI l 2))*1)) (List.getD (gLN l 4) (0+((Int.toNat (wr .i64 ((gI l 2)+(gI A 0))))*1)) 0)) (0+((Int.toNat (wr .i64 ((gI l 2)+(gI A 0))))*1)) (List.getD (gLN l 4) (0+((Int.toNat (gI l 2))*1)) 0)),.LL (gLL l 5),.I (gI l 6),.I (gI l 7),.N (gN l 8),.I (gI A 1)]
 (fun j C=>(sw (L84_15.b 0 [.I (gI C 0),.N (gN C 1),.I (gI C 2),.N (gN C 1),.I (gN C 1),.I 0,.L (gL C 3),.LN (gLN C 4),.LL (gLL C 5),.I (gI C 6),.I (gI C 7),.N (gN C 8),.I (gI C 9)]
 (fun j D=>(sw (nx 1 [.I (gI D 0),.N (gN D 1),.I (wr .i64 ((gI D 2)+1)),.L (gL D 3),.LN (gLN D 4),.LL (gLL D 5),.I (gI D 6),.I (gI D 7),.N (gN D 8),.I (gI D 9),.I (wr .i64 ((gI D 9)+1))])
 (fun _=>none)) j))
 (fun _=>none)) j))))
 (fun _=>none)) j))))))))))))))))
 (fun _=>none)) j))))
 (ex 0 [.N (gN l 1),.I (gI l 2),.L (gL l 3),.LN (gLN l 4),.LL (gLL l 5),.I (gI l 6),.I (gI l 7),.N (gN l 8),.I (gI l 9)]))
 (ex 0 [.N (gN l 1),.I (gI l 2),.L (gL l 3),.LN (gLN l 4),.LL (gLL l 5),.I (gI l 6),.I (gI l 7),.N (gN l 8),.I (gI l 9)])
theorem L84_3.e0:LEq L84_3.O L84_3.H 0 L84_3.s0:=by intro τ next κ l;kernel_rfl
def L84_3.s1:Option τ :=
 br (ltI (gI l 10) (gI l 0))
 (br (ltI (gI l 2) (gN l 1))
 (ck ((((((leI 0 (gI l 2))&&(leI (gI l 2) (gN l 1)))&&(leI (((gN l 1):Nat):Int) (((gN l 1):Nat):Int)))&&(leI (((gN l 1):Nat):Int) (((gN l 1):Nat):Int)))&&true)&&true)
 (br (ltI (gI l 2) (gN l 1))
 (S114_1 [.N (0+((Int.toNat (gI l 2))*1)),.N ((Int.toNat (((gN l 1):Nat):Int))-(Int.toNat (gI l 2))),.LN (gLN l 4),.I (gI l 10),.LL (gLL l 5)]
 (fun j A=>(sw (br (ltI (gI A 0) 0)
 (nx 1 [.I (gI l 0),.N (gN l 1),.I (gI l 2),.L (gL l 3),.LN (gLN A 1),.LL (gLL A 3),.I (gI l 6),.I (gI l 7),.N (gN l 8),.I (gI l 9),.I (wr .i64 ((gI A 2)+1))])
 (ck (((leI 0 (wr .i64 ((gI l 2)+(gI A 0))))&&(ltI (wr .i64 ((gI l 2)+(gI A 0))) (((gN l 1):Nat):Int)))&&true)
 (ck ((ltN (0+((Int.toNat (wr .i64 ((gI l 2)+(gI A 0))))*1)) (List.length (gLN A 1)))&&(ltN (List.getD (gLN A 1) (0+((Int.toNat (wr .i64 ((gI l 2)+(gI A 0))))*1)) 0) (List.length (gLL A 3))))
 (ck (((leI 0 (gI l 2))&&(ltI (gI l 2) (gN l 1)))&&true)
 (ck ((ltN (0+((Int.toNat (gI l 2))*1)) (List.length (gLN A 1)))&&(ltN (List.getD (gLN A 1) (0+((Int.toNat (gI l 2))*1)) 0) (List.length (gLL A 3))))
 (ck (((leI 0 (gI l 2))&&(ltI (gI l 2) (gN l 1)))&&true)
 (ck ((((ltN (0+((Int.toNat (gI l 2))*1)) (List.length (gLN A 1)))&&(ltN (List.getD (gLN A 1) (0+((Int.toNat (wr .i64 ((gI l 2)+(gI A 0))))*1)) 0) (List.length (gLL A 3))))&&(eqM (List.length (List.getD (gLL A 3) (List.getD (gLN A 1) (0+((Int.toNat (wr .i64 ((gI l 2)+(gI A 0))))*1)) 0) [])) (List.length (List.getD (gLL A 3) (List.getD (gLN A 1) (0+((Int.toNat (wr .i64 ((gI l 2)+(gI A 0))))*1)) 0) []))))&&true)
 (ck (((leI 0 (wr .i64 ((gI l 2)+(gI A 0))))&&(ltI (wr .i64 ((gI l 2)+(gI A 0))) (((gN l 1):Nat):Int)))&&true)
 (ck ((((ltN (0+((Int.toNat (wr .i64 ((gI l 2)+(gI A 0))))*1)) (List.length (List.set (gLN A 1) (0+((Int.toNat (gI l 2))*1)) (List.getD (gLN A 1) (0+((Int.toNat (wr .i64 ((gI l 2)+(gI A 0))))*1)) 0))))&&(ltN (List.getD (gLN A 1) (0+((Int.toNat (gI l 2))*1)) 0) (List.length (gLL A 3))))&&(eqM (List.length (List.getD (gLL A 3) (List.getD (gLN A 1) (0+((Int.toNat (gI l 2))*1)) 0) [])) (List.length (List.getD (gLL A 3) (List.getD (gLN A 1) (0+((Int.toNat (gI l 2))*1)) 0) []))))&&true)
 (ck (((leI 0 (gI l 2))&&(ltI (gI l 2) (gN l 1)))&&true)
 (ck ((ltN (0+((Int.toNat (gI l 2))*1)) (List.length (List.set (List.set (gLN A 1) (0+((Int.toNat (gI l 2))*1)) (List.getD (gLN A 1) (0+((Int.toNat (wr .i64 ((gI l 2)+(gI A 0))))*1)) 0)) (0+((Int.toNat (wr .i64 ((gI l 2)+(gI A 0))))*1)) (List.getD (gLN A 1) (0+((Int.toNat (gI l 2))*1)) 0))))&&(ltN (List.getD (List.set (List.set (gLN A 1) (0+((Int.toNat (gI l 2))*1)) (List.getD (gLN A 1) (0+((Int.toNat (wr .i64 ((gI l 2)+(gI A 0))))*1)) 0)) (0+((Int.toNat (wr .i64 ((gI l 2)+(gI A 0))))*1)) (List.getD (gLN A 1) (0+((Int.toNat (gI l 2))*1)) 0)) (0+((Int.toNat (gI l 2))*1)) 0) (List.length (gLL A 3))))
 (ck (((leI 0 (gI A 2))&&(ltI (gI A 2) (((List.length (List.getD (gLL A 3) (List.getD (List.set (List.set (gLN A 1) (0+((Int.toNat (gI l 2))*1)) (List.getD (gLN A 1) (0+((Int.toNat (wr .i64 ((gI l 2)+(gI A 0))))*1)) 0)) (0+((Int.toNat (wr .i64 ((gI l 2)+(gI A 0))))*1)) (List.getD (gLN A 1) (0+((Int.toNat (gI l 2))*1)) 0)) (0+((Int.toNat (gI l 2))*1)) 0) [])):Nat):Int)))&&true)
 (ck ((ltN (List.getD (List.set (List.set (gLN A 1) (0+((Int.toNat (gI l 2))*1)) (List.getD (gLN A 1) (0+((Int.toNat (wr .i64 ((gI l 2)+(gI A 0))))*1)) 0)) (0+((Int.toNat (wr .i64 ((gI l 2)+(gI A 0))))*1)) (List.getD (gLN A 1) (0+((Int.toNat (gI l 2))*1)) 0)) (0+((Int.toNat (gI l 2))*1)) 0) (List.length (gLL A 3)))&&(ltN (0+((Int.toNat (gI A 2))*1)) (List.length (List.getD (gLL A 3) (List.getD (List.set (List.set (gLN A 1) (0+((Int.toNat (gI l 2))*1)) (List.getD (gLN A 1) (0+((Int.toNat (wr .i64 ((gI l 2)+(gI A 0))))*1)) 0)) (0+((Int.toNat (wr .i64 ((gI l 2)+(gI A 0))))*1)) (List.getD (gLN A 1) (0+((Int.toNat (gI l 2))*1)) 0)) (0+((Int.toNat (gI l 2))*1)) 0) []))))
 (ck (((eqM (gN l 8) (List.length (List.take ((gN l 8)*1) (List.drop 0 (gL l 3)))))&&true)&&true)
 (T116 [.I (gI l 6),.I (gI l 7),.L (List.take ((gN l 8)*1) (List.drop 0 (gL l 3))),.I (List.getD (List.getD (gLL A 3) (List.getD (List.set (List.set (gLN A 1) (0+((Int.toNat (gI l 2))*1)) (List.getD (gLN A 1) (0+((Int.toNat (wr .i64 ((gI l 2)+(gI A 0))))*1)) 0)) (0+((Int.toNat (wr .i64 ((gI l 2)+(gI A 0))))*1)) (List.getD (gLN A 1) (0+((Int.toNat (gI l 2))*1)) 0)) (0+((Int.toNat (gI l 2))*1)) 0) []) (0+((Int.toNat (gI A 2))*1)) 0)]
 (fun j B=>(sw (ck (((leI 0 (gI l 2))&&(ltI (gI l 2) (gN l 1)))&&true)
 (ck ((ltN (0+((Int.toNat (gI l 2))*1)) (List.length (List.set (List.set (gLN A 1) (0+((Int.toNat (gI l 2))*1)) (List.getD (gLN A 1) (0+((Int.toNat (wr .i64 ((gI l 2)+(gI A 0))))*1)) 0)) (0+((Int.toNat (wr .i64 ((gI l 2)+(gI A 0))))*1)) (List.getD (gLN A 1) (0+((Int.toNat (gI l 2))*1)) 0))))&&(ltN (List.getD (List.set (List.set (gLN A 1) (0+((Int.toNat (gI l 2))*1)) (List.getD (gLN A 1) (0+((Int.toNat (wr .i64 ((gI l 2)+(gI A 0))))*1)) 0)) (0+((Int.toNat (wr .i64 ((gI l 2)+(gI A 0))))*1)) (List.getD (gLN A 1) (0+((Int.toNat (gI l 2))*1)) 0)) (0+((Int.toNat (gI l 2))*1)) 0) (List.length (gLL A 3))))
 (L84_10_1.b 0 [.I (gI l 0),.N (gN l 1),.I (gI l 2),.I (gI B 0),.I (((List.length (List.getD (gLL A 3) (List.getD (List.set (List.set (gLN A 1) (0+((Int.toNat (gI l 2))*1)) (List.getD (gLN A 1) (0+((Int.toNat (wr .i64 ((gI l 2)+(gI A 0))))*1)) 0)) (0+((Int.toNat (wr .i64 ((gI l 2)+(gI A 0))))*1)) (List.getD (gLN A 1) (0+((Int.toNat (gI l 2))*1)) 0)) (0+((Int.toNat (gI l 2))*1)) 0) [])):Nat):Int),.I 0,.L (gL l 3),.LN (List.set (List.set (gLN A 1) (0+((Int.toNat (gI l 2))*1)) (List.getD (gLN A 1) (0+((Int.toNat (wr .i64 ((gI l 2)+(gI A 0))))*1)) 0)) (0+((Int.toNat (wr .i64 ((gI l 2)+(gI A 0))))*1)) (List.getD (gLN A 1) (0+((Int.toNat (gI l 2))*1)) 0)),.LL (gLL A 3),.I (gI l 6),.I (gI l 7),.N (gN l 8),.I (gI l 9),.I (gI A 2)]
 (fun j C=>(sw (L84_15_1.b 0 [.I (gI C 0),.N (gN C 1),.I (gI C 2),.N (gN C 1),.I (gN C 1),.I 0,.L (gL C 3),.LN (gLN C 4),.LL (gLL C 5),.I (gI C 6),.I (gI C 7),.N (gN C 8),.I (gI C 9),.I (gI C 10)]
 (fun j D=>(sw (nx 1 [.I (gI D 0),.N (gN D 1),.I (wr .i64 ((gI D 2)+1)),.L (gL D 3),.LN (gLN D 4),.LL (gLL D 5),.I (gI D 6),.I (gI D 7),.N (gN D 8),.I (gI D 9),.I (wr .i64 ((gI D 10)+1))])
 (fun _=>none)) j))
 (fun _=>none)) j))))
 (fun _=>none)) j))))))))))))))))
 (fun _=>none)) j))
 (S114_2 [.N 0,.I (gI l 10)]
 (fun j A=>(sw (br (ltI (gI A 0) 0)
 (nx 1 [.I (gI l 0),.N (gN l 1),.I (gI l 2),.L (gL l 3),.LN (gLN l 4),.LL (gLL l 5),.I (gI l 6),.I (gI l 7),.N (gN l 8),.I (gI l 9),.I (wr .i64 ((gI A 1)+1))])
 (ck (((leI 0 (wr .i64 ((gI l 2)+(gI A 0))))&&(ltI (wr .i64 ((gI l 2)+(gI A 0))) (((gN l 1):Nat):Int)))&&true)
 (ck ((ltN (0+((Int.toNat (wr .i64 ((gI l 2)+(gI A 0))))*1)) (List.length (gLN l 4)))&&(ltN (List.getD (gLN l 4) (0+((Int.toNat (wr .i64 ((gI l 2)+(gI A 0))))*1)) 0) (List.length (gLL l 5))))
 (ck (((leI 0 (gI l 2))&&(ltI (gI l 2) (gN l 1)))&&true)
 (ck ((ltN (0+((Int.toNat (gI l 2))*1)) (List.length (gLN l 4)))&&(ltN (List.getD (gLN l 4) (0+((Int.toNat (gI l 2))*1)) 0) (List.length (gLL l 5))))
 (ck (((leI 0 (gI l 2))&&(ltI (gI l 2) (gN l 1)))&&true)
 (ck ((((ltN (0+((Int.toNat (gI l 2))*1)) (List.length (gLN l 4)))&&(ltN (List.getD (gLN l 4) (0+((Int.toNat (wr .i64 ((gI l 2)+(gI A 0))))*1)) 0) (List.length (gLL l 5))))&&(eqM (List.length (List.getD (gLL l 5) (List.getD (gLN l 4) (0+((Int.toNat (wr .i64 ((gI l 2)+(gI A 0))))*1)) 0) [])) (List.length (List.getD (gLL l 5) (List.getD (gLN l 4) (0+((Int.toNat (wr .i64 ((gI l 2)+(gI A 0))))*1)) 0) []))))&&true)
 (ck (((leI 0 (wr .i64 ((gI l 2)+(gI A 0))))&&(ltI (wr .i64 ((gI l 2)+(gI A 0))) (((gN l 1):Nat):Int)))&&true)
 (ck ((((ltN (0+((Int.toNat (wr .i64 ((gI l 2)+(gI A 0))))*1)) (List.length (List.set (gLN l 4) (0+((Int.toNat (gI l 2))*1)) (List.getD (gLN l 4) (0+((Int.toNat (wr .i64 ((gI l 2)+(gI A 0))))*1)) 0))))&&(ltN (List.getD (gLN l 4) (0+((Int.toNat (gI l 2))*1)) 0) (List.length (gLL l 5))))&&(eqM (List.length (List.getD (gLL l 5) (List.getD (gLN l 4) (0+((Int.toNat (gI l 2))*1)) 0) [])) (List.length (List.getD (gLL l 5) (List.getD (gLN l 4) (0+((Int.toNat (gI l 2))*1)) 0) []))))&&true)
 (ck (((leI 0 (gI l 2))&&(ltI (gI l 2) (gN l 1)))&&true)
 (ck ((ltN (0+((Int.toNat (gI l 2))*1)) (List.length (List.set (List.set (gLN l 4) (0+((Int.toNat (gI l 2))*1)) (List.getD (gLN l 4) (0+((Int.toNat (wr .i64 ((gI l 2)+(gI A 0))))*1)) 0)) (0+((Int.toNat (wr .i64 ((gI l 2)+(gI A 0))))*1)) (List.getD (gLN l 4) (0+((Int.toNat (gI l 2))*1)) 0))))&&(ltN (List.getD (List.set (List.set (gLN l 4) (0+((Int.toNat (gI l 2))*1)) (List.getD (gLN l 4) (0+((Int.toNat (wr .i64 ((gI l 2)+(gI A 0))))*1)) 0)) (0+((Int.toNat (wr .i64 ((gI l 2)+(gI A 0))))*1)) (List.getD (gLN l 4) (0+((Int.toNat (gI l 2))*1)) 0)) (0+((Int.toNat (gI l 2))*1)) 0) (List.length (gLL l 5))))
 (ck (((leI 0 (gI A 1))&&(ltI (gI A 1) (((List.length (List.getD (gLL l 5) (List.getD (List.set (List.set (gLN l 4) (0+((Int.toNat (gI l 2))*1)) (List.getD (gLN l 4) (0+((Int.toNat (wr .i64 ((gI l 2)+(gI A 0))))*1)) 0)) (0+((Int.toNat (wr .i64 ((gI l 2)+(gI A 0))))*1)) (List.getD (gLN l 4) (0+((Int.toNat (gI l 2))*1)) 0)) (0+((Int.toNat (gI l 2))*1)) 0) [])):Nat):Int)))&&true)
 (ck ((ltN (List.getD (List.set (List.set (gLN l 4) (0+((Int.toNat (gI l 2))*1)) (List.getD (gLN l 4) (0+((Int.toNat (wr .i64 ((gI l 2)+(gI A 0))))*1)) 0)) (0+((Int.toNat (wr .i64 ((gI l 2)+(gI A 0))))*1)) (List.getD (gLN l 4) (0+((Int.toNat (gI l 2))*1)) 0)) (0+((Int.toNat (gI l 2))*1)) 0) (List.length (gLL l 5)))&&(ltN (0+((Int.toNat (gI A 1))*1)) (List.length (List.getD (gLL l 5) (List.getD (List.set (List.set (gLN l 4) (0+((Int.toNat (gI l 2))*1)) (List.getD (gLN l 4) (0+((Int.toNat (wr .i64 ((gI l 2)+(gI A 0))))*1)) 0)) (0+((Int.toNat (wr .i64 ((gI l 2)+(gI A 0))))*1)) (List.getD (gLN l 4) (0+((Int.toNat (gI l 2))*1)) 0)) (0+((Int.toNat (gI l 2))*1)) 0) []))))
 (ck (((eqM (gN l 8) (List.length (List.take ((gN l 8)*1) (List.drop 0 (gL l 3)))))&&true)&&true)
 (T116 [.I (gI l 6),.I (gI l 7),.L (List.take ((gN l 8)*1) (List.drop 0 (gL l 3))),.I (List.getD (List.getD (gLL l 5) (List.getD (List.set (List.set (gLN l 4) (0+((Int.toNat (gI l 2))*1)) (List.getD (gLN l 4) (0+((Int.toNat (wr .i64 ((gI l 2)+(gI A 0))))*1)) 0)) (0+((Int.toNat (wr .i64 ((gI l 2)+(gI A 0))))*1)) (List.getD (gLN l 4) (0+((Int.toNat (gI l 2))*1)) 0)) (0+((Int.toNat (gI l 2))*1)) 0) []) (0+((Int.toNat (gI A 1))*1)) 0)]
 (fun j B=>(sw (ck (((leI 0 (gI l 2))&&(ltI (gI l 2) (gN l 1)))&&true)
 (ck ((ltN (0+((Int.toNat (gI l 2))*1)) (List.length (List.set (List.set (gLN l 4) (0+((Int.toNat (gI l 2))*1)) (List.getD (gLN l 4) (0+((Int.toNat (wr .i64 ((gI l 2)+(gI A 0))))*1)) 0)) (0+((Int.toNat (wr .i64 ((gI l 2)+(gI A 0))))*1)) (List.getD (gLN l 4) (0+((Int.toNat (gI l 2))*1)) 0))))&&(ltN (List.getD (List.set (List.set (gLN l 4) (0+((Int.toNat (gI l 2))*1)) (List.getD (gLN l 4) (0+((Int.toNat (wr .i64 ((gI l 2)+(gI A 0))))*1)) 0)) (0+((Int.toNat (wr .i64 ((gI l 2)+(gI A 0))))*1)) (List.getD (gLN l 4) (0+((Int.toNat (gI l 2))*1)) 0)) (0+((Int.toNat (gI l 2))*1)) 0) (List.length (gLL l 5))))
 (L84_10_1.b 0 [.I (gI l 0),.N (gN l 1),.I (gI l 2),.I (gI B 0),.I (((List.length (List.getD (gLL l 5) (List.getD (List.set (List.set (gLN l 4) (0+((Int.toNat (gI l 2))*1)) (List.getD (gLN l 4) (0+((Int.toNat (wr .i64 ((gI l 2)+(gI A 0))))*1)) 0)) (0+((Int.toNat (wr .i64 ((gI l 2)+(gI A 0))))*1)) (List.getD (gLN l 4) (0+((Int.toNat (gI l 2))*1)) 0)) (0+((Int.toNat (gI l 2))*1)) 0) [])):Nat):Int),.I 0,.L (gL l 3),.LN (List.set (List.set (gLN l 4) (0+((Int.toNat (gI l 2))*1)) (List.getD (gLN l 4) (0+((Int.toNat (wr .i64 ((gI l 2)+(gI A 0))))*1)) 0)) (0+((Int.toNat (wr .i64 ((gI l 2)+(gI A 0))))*1)) (List.getD (gLN l 4) (0+((Int.toNat (gI l 2))*1)) 0)),.LL (gLL l 5),.I (gI l 6),.I (gI l 7),.N (gN l 8),.I (gI l 9),.I (gI A 1)]
 (fun j C=>(sw (L84_15_1.b 0 [.I (gI C 0),.N (gN C 1),.I (gI C 2),.N (gN C 1),.I (gN C 1),.I 0,.L (gL C 3),.LN (gLN C 4),.LL (gLL C 5),.I (gI C 6),.I (gI C 7),.N (gN C 8),.I (gI C 9),.I (gI C 10)]
 (fun j D=>(sw (nx 1 [.I (gI D 0),.N (gN D 1),.I (wr .i64 ((gI D 2)+1)),.L (gL D 3),.LN (gLN D 4),.LL (gLL D 5),.I (gI D 6),.I (gI D 7),.N (gN D 8),.I (gI D 9),.I (wr .i64 ((gI D 10)+1))])
 (fun _=>none)) j))
 (fun _=>none)) j))))
 (fun _=>none)) j))))))))))))))))
 (fun _=>none)) j))))
 (ex 0 [.N (gN l 1),.I (gI l 2),.L (gL l 3),.LN (gLN l 4),.LL (gLL l 5),.I (gI l 6),.I (gI l 7),.N (gN l 8),.I (gI l 9)]))
 (ex 0 [.N (gN l 1),.I (gI l 2),.L (gL l 3),.LN (gLN l 4),.LL (gLL l 5),.I (gI l 6),.I (gI l 7),.N (gN l 8),.I (gI l 9)])
theorem L84_3.e1:LEq L84_3.O L84_3.H 1 L84_3.s1:=by intro τ next κ l;kernel_rfl
def L84_3:LStep P Cf:=LStep.mk2 (by decide) L84_3.e0 L84_3.e1
def L84_3.b:Option τ:=runE L84_3 fuel κ t l
def L84_3.E:LEnt P:=LStep.E L84_3
def S84_0.H:SHead:=⟨55,[(PV2.agg [iI,iI,(r1 0)]),pI,(rr 1)],[],mo5Xb,[((rr 1),mo5Xb),((PV2.v (PV1.sl PC0.e)),mo5Xb)]⟩
def S84_0.O:Orc P:=⟨[],[L84_3.E],[],40⟩
def S84_0:Option τ :=
 L84_3.b 0 [.I (gI l 3),.N (gN l 4),.I 0,.L (gL l 5),.LN (gLN l 6),.LL (gLL l 7),.I (gI l 0),.I (gI l 1),.N (gN l 2),.I 0]
 (fun j A=>(sw (ck (((((leI 0 (gI A 1))&&(leI (gI A 1) (gI A 1)))&&(leI (gI A 1) (gN A 0)))&&true)&&true)
 (br (ltI 0 (gI A 1))
 (k 0 [.N ((Int.toNat (gI A 1))-0),.L (gL A 2),.LN (gLN A 3),.LL (gLL A 4)])
 (k 1 [.N 0,.L (gL A 2),.LN (gLN A 3),.LL (gLL A 4)])))
 (fun _=>none)) j)
theorem S84_0.eq:SEq S84_0.O S84_0.H S84_0:=by intro τ l κ;kernel_rfl
def S84_0.next:SDyn P S84_0.H:=mkS S84_0.eq
def S84_0.E:SEnt P:=⟨S84_0.H,S84_0.next⟩
def L88_4.H:LHead:=⟨false,true,0,253956,253956,12307,16,0,[(PS.mk (qR::qR::us 2 (pB::us 7 (pI::pI::us 12 []))) [])],[(Out.ret,(PS.mk (us 4 (pB::us 21 [])) [])),((Out.exit 0),(PS.mk (us 4 (pB::us 21 [])) []))]⟩
def L88_4.O:Orc P:=⟨[],[],[],40⟩
def L88_4.s0:Option τ :=
 br (ltI (gI l 6) (gI l 5))
 (ck (((leI 0 (gI l 6))&&(ltI (gI l 6) (gN l 0)))&&true)
 (ck (ltN ((Int.toNat (gI l 6))*1) (List.length (gL l 1)))
 (ck (((leI 0 (gI l 6))&&(ltI (gI l 6) (gN l 2)))&&true)
 (ck (ltN ((Int.toNat (gI l 6))*1) (List.length (gL l 3)))
 (br ((List.getD (gL l 1) ((Int.toNat (gI l 6))*1) 0) != (List.getD (gL l 3) ((Int.toNat (gI l 6))*1) 0))
 (ex 0 [.B false])
 (nx 0 [.N (gN l 0),.L (gL l 1),.N (gN l 2),.L (gL l 3),.B (gB l 4),.I (gI l 5),.I (wr .i64 ((gI l 6)+1))]))))))
 (ex 1 [.B (gB l 4)])
theorem L88_4.e0:LEq L88_4.O L88_4.H 0 L88_4.s0:=by intro τ next κ l;kernel_rfl
def L88_4:LStep P Cf:=LStep.mk1 (by decide) L88_4.e0
def L88_4.b:Option τ:=runE L88_4 fuel κ t l
def L88_4.E:LEnt P:=LStep.E L88_4
def F88.ps:List PV2:=[pR,pR]
def F88.sh:List PA:=[(PA.mk (PV3.v pB) [])]
def F88.O:Orc P:=⟨[],[L88_4.E],[],40⟩
def F88:Option τ :=
 br ((((List.length (gL l 0)):Nat):Int) != (((List.length (gL l 1)):Nat):Int))
 (k 0 [.B false])
 (L88_4.b 0 [.N (List.length (gL l 0)),.L (gL l 0),.N (List.length (gL l 1)),.L (gL l 1),.B false,.I (((List.length (gL l 0)):Nat):Int),.I 0]
 (fun j A=>(sw (k 0 [.B (gB A 0)])
 (sw (k 0 [.B true])
 (fun _=>none))) j))
theorem F88.eq:FEq F88.O 62 F88.ps F88.sh F88:=by intro τ l κ;kernel_rfl
def F88.E:Ent P:=mkF F88.eq
def L86_4.H:LHead:=⟨false,false,2,249860,249860,229446,64,0,[(PS.mk (us 1 ((rr 0)::(PV2.fn 62 [])::us 3 (pB::us 8 (qM::pI::pI::us 14 [])))) [(PO.cells true true (PC.r 1)),(PO.fam true .i64)])],[(Out.ret,(PS.mk (us 6 (pB::us 25 [])) [(PO.cells true true (PC.r 1)),(PO.fam true .i64)])),((Out.exit 0),(PS.mk (us 6 (pB::us 25 [])) [(PO.cells true true (PC.r 1)),(PO.fam true .i64)]))]⟩
def L86_4.O:Orc P:=⟨[F88.E],[],[],40⟩
def L86_4.s0:Option τ :=
 br (ltI (gI l 5) (gI l 4))
 (ck (((leI 0 (gI l 5))&&(ltI (gI l 5) (gN l 2)))&&true)
 (ck (ltN ((Int.toNat (gI l 5))*1) (List.length (gLL l 3)))
 (ck (((leI 0 (gI l 5))&&(ltI (gI l 5) (gN l 0)))&&true)
 (ck ((ltN (0+((Int.toNat (gI l 5))*1)) (List.length (gLN l 6)))&&(ltN (List.getD (gLN l 6) (0+((Int.toNat (gI l 5))*1)) 0) (List.length (gLL l 7))))
 (ck (((ltN (List.getD (gLN l 6) (0+((Int.toNat (gI l 5))*1)) 0) (List.length (gLL l 7)))&&true)&&true)
 (ck ((eqM (List.length (List.getD (gLL l 3) ((Int.toNat (gI l 5))*1) [])) (List.length (List.getD (gLL l 3) ((Int.toNat (gI l 5))*1) [])))&&((eqM (List.length (List.getD (gLL l 7) (List.getD (gLN l 6) (0+((Int.toNat (gI l 5))*1)) 0) [])) (List.length (List.take ((List.length (List.getD (gLL l 7) (List.getD (gLN l 6) (0+((Int.toNat (gI l 5))*1)) 0) []))*1) (List.drop 0 (List.getD (gLL l 7) (List.getD (gLN l 6) (0+((Int.toNat (gI l 5))*1)) 0) [])))))&&true))
 (F88 [.L (List.getD (gLL l 3) ((Int.toNat (gI l 5))*1) []),.L (List.take ((List.length (List.getD (gLL l 7) (List.getD (gLN l 6) (0+((Int.toNat (gI l 5))*1)) 0) []))*1) (List.drop 0 (List.getD (gLL l 7) (List.getD (gLN l 6) (0+((Int.toNat (gI l 5))*1)) 0) [])))]
 (fun j A=>(sw (br (!(gB A 0))
 (ex 0 [.B false,.LN (gLN l 6),.LL (gLL l 7)])
 (nx 0 [.N (gN l 0),.B (gB l 1),.N (gN l 2),.LL (gLL l 3),.I (gI l 4),.I (wr .i64 ((gI l 5)+1)),.LN (gLN l 6),.LL (gLL l 7)]))
 (fun _=>none)) j))))))))
 (ex 1 [.B (gB l 1),.LN (gLN l 6),.LL (gLL l 7)])
theorem L86_4.e0:LEq L86_4.O L86_4.H 0 L86_4.s0:=by intro τ next κ l;kernel_rfl
def L86_4:LStep P Cf:=LStep.mk1 (by decide) L86_4.e0
def L86_4.b:Option τ:=runE L86_4 fuel κ t l
def L86_4.E:LEnt P:=LStep.E L86_4
def S86_0.H:SHead:=⟨61,[qM,(rr 0),(PV2.fn 62 [])],[],[(PO.cells true true (PC.r 1)),(PO.fam true .i64)],[(pB,[(PO.cells true true (PC.r 1)),(PO.fam true .i64)])]⟩
def S86_0.O:Orc P:=⟨[],[L86_4.E],[],40⟩
def S86_0:Option τ :=
 br ((((gN l 0):Nat):Int) != (((gN l 2):Nat):Int))
 (k 0 [.B false,.LN (gLN l 3),.LL (gLL l 4)])
 (L86_4.b 0 [.N (gN l 2),.B false,.N (gN l 0),.LL (gLL l 1),.I (gN l 0),.I 0,.LN (gLN l 3),.LL (gLL l 4)]
 (fun j A=>(sw (k 0 [.B (gB A 0),.LN (gLN A 1),.LL (gLL A 2)])
 (sw (k 0 [.B true,.LN (gLN A 1),.LL (gLL A 2)])
 (fun _=>none))) j))
theorem S86_0.eq:SEq S86_0.O S86_0.H S86_0:=by intro τ l κ;kernel_rfl
def S86_0.next:SDyn P S86_0.H:=mkS S86_0.eq
def S86_0.E:SEnt P:=⟨S86_0.H,S86_0.next⟩
def L86_4_1.H:LHead:=⟨false,false,0,249860,249860,229446,64,0,[(PS.mk (us 1 ((PV2.v (PV1.sl PC0.e))::(PV2.fn 62 [])::us 3 (pB::us 8 (qM::pI::pI::us 14 [])))) [])],[((Out.exit 0),(PS.mk (us 6 (pB::us 25 [])) []))]⟩
def L86_4_1.O:Orc P:=⟨[],[],[],40⟩
def L86_4_1.s0 {τ:Type} (next ex:Nat→LS_→Option τ) (l:LS_):Option τ :=
 br (ltI (gI l 5) (gI l 4))
 (ck (((leI 0 (gI l 5))&&(ltI (gI l 5) (gN l 2)))&&true)
 (ck (ltN ((Int.toNat (gI l 5))*1) (List.length (gLL l 3)))
 (ck (((leI 0 (gI l 5))&&(ltI (gI l 5) (gN l 0)))&&true)
 (none))))
 (ex 0 [.B (gB l 1)])
theorem L86_4_1.e0:LEq L86_4_1.O L86_4_1.H 0 L86_4_1.s0:=by intro τ next κ l;kernel_rfl
def L86_4_1:LStep P Cf:=LStep.mk1 (by decide) L86_4_1.e0
def L86_4_1.b:Option τ:=runE L86_4_1 fuel κ t l
def L86_4_1.E:LEnt P:=LStep.E L86_4_1
def S86_1.H:SHead:=⟨61,[qM,(PV2.v (PV1.sl PC0.e)),(PV2.fn 62 [])],[],[],[(pB,[])]⟩
def S86_1.O:Orc P:=⟨[],[L86_4_1.E],[],40⟩
def S86_1:Option τ :=
 br ((((gN l 0):Nat):Int) != (((gN l 2):Nat):Int))
 (k 0 [.B false])
 (L86_4_1.b 0 [.N (gN l 2),.B false,.N (gN l 0),.LL (gLL l 1),.I (gN l 0),.I 0]
 (fun j A=>(sw (k 0 [.B true])
 (fun _=>none)) j))
theorem S86_1.eq:SEq S86_1.O S86_1.H S86_1:=by intro τ l κ;kernel_rfl
def S86_1.next:SDyn P S86_1.H:=mkS S86_1.eq
def S86_1.E:SEnt P:=⟨S86_1.H,S86_1.next⟩
def F37.ps:List PV2:=[pCode]
def F37.sh:List PA:=[(PA.mk (PV3.v pB) [])]
def F37.O:Orc P:=⟨[F85.E],[],[S87_0.E,S84_0.E,S86_0.E,S86_1.E],40⟩
def F37:Option τ :=
 ck ((eqM (List.length (gLL l 2)) (List.length (gLL l 2)))&&true)
 (F85 [.I (gI l 0),.I (gI l 1),.I (gI l 1),.LL (gLL l 2)]
 (fun j A=>(sw (br (gB A 3)
 (S87_0 [.N (List.length (gLL l 2)),.LL (gLL l 2)]
 (fun j B=>(sw (S84_0 [.I (gI A 0),.I (gI A 1),.N (gN A 2),.I (gI l 1),.N (gN B 0),.L (gL A 4),.LN (gLN B 1),.LL (gLL B 2)]
 (fun j C=>(sw (S86_0 [.N (List.length (gLL l 2)),.LL (gLL l 2),.N (gN C 0),.LN (gLN C 2),.LL (gLL C 3)]
 (fun j D=>(sw (k 0 [.B (gB D 0)])
 (fun _=>none)) j))
 (sw (S86_1 [.N (List.length (gLL l 2)),.LL (gLL l 2),.N (gN C 0)]
 (fun j D=>(sw (k 0 [.B (gB D 0)])
 (fun _=>none)) j))
 (fun _=>none))) j))
 (fun _=>none)) j))
 (k 0 [.B false]))
 (sw (k 0 [.B false])
 (sw (k 0 [.B false])
 (fun _=>none)))) j))
theorem F37.eq:FEq F37.O 14 F37.ps F37.sh F37:=by intro τ l κ;kernel_rfl
def F37.E:Ent P:=mkF F37.eq
end
end Go.Proofs.Yticbdgmcofjkeaa.Ai
namespace Go.Proofs.Yticbdgmcofjkeaa.Ai
open Go Go.RowKit
noncomputable section
variable {τ:Type} (t:Nat) (nx ex:Nat→LS_→Option τ) (l:LS_) (k κ:Nat→LS_→Option τ)
def L48_3.H:LHead:=⟨false,true,0,139267,139267,206,12,0,[(PS.mk (us 1 ((pp 0)::pI::pI::us 2 (pI::pI::us 13 []))) [(oG [pI,pI,qM])])],[(Out.ret,(PS.mk (us 2 (pI::pI::us 17 [])) [])),((Out.exit 0),(PS.mk (us 2 (pI::pI::us 17 [])) []))]⟩
def L48_3.O:Orc P:=⟨[],[],[],40⟩
def L48_3.s0:Option τ :=
 br (ltI (gI l 3) (gI l 2))
 (br (gtI (wr .i64 ((gI l 1)*(gI l 4))) 4096)
 (ex 0 [.I 4097,.I (wr .i64 ((gI l 1)*(gI l 4)))])
 (br (ltI (wr .i64 ((gI l 1)*(gI l 4))) 1)
 (ex 0 [.I 4097,.I (wr .i64 ((gI l 1)*(gI l 4)))])
 (nx 0 [.I (gI l 0),.I (wr .i64 ((gI l 1)*(gI l 4))),.I (gI l 2),.I (wr .i64 ((gI l 3)+1)),.I (gI l 4),.I (gI l 5),.N (gN l 6),.LL (gLL l 7)])))
 (ex 1 [.I (gI l 0),.I (gI l 1)])
theorem L48_3.e0:LEq L48_3.O L48_3.H 0 L48_3.s0:=by intro τ next κ l;kernel_rfl
def L48_3:LStep P Cf:=LStep.mk1 (by decide) L48_3.e0
def L48_3.b:Option τ:=runE L48_3 fuel κ t l
def L48_3.E:LEnt P:=LStep.E L48_3
def F48.ps:List PV2:=[(PV2.agg [iI,iI,aM])]
def F48.sh:List PA:=[(PA.mk (PV3.v pI) [])]
def F48.O:Orc P:=⟨[],[L48_3.E],[],40⟩
def F48:Option τ :=
 L48_3.b 0 [.I 0,.I 1,.I (((List.length (gLL l 2)):Nat):Int),.I 0,.I (gI l 0),.I (gI l 1),.N (List.length (gLL l 2)),.LL (gLL l 2)]
 (fun j A=>(sw (k 0 [.I (gI A 0)])
 (sw (k 0 [.I (gI A 1)])
 (fun _=>none))) j)
theorem F48.eq:FEq F48.O 34 F48.ps F48.sh F48:=by intro τ l κ;kernel_rfl
def F48.E:Ent P:=mkF F48.eq
def F71.ps:List PV2:=[pR]
def F71.sh:List PA:=[(PA.mk (PV3.v (rr 0)) [cI])]
def F71.O:Orc P:=⟨[],[],[],40⟩
def F71:Option τ :=
 ck (ltN 0 (List.length (gL l 0)))
 (ck (((eqM (List.length (gL l 0)) ((List.length (gL l 0))*1))&&(leN ((0+(List.length (gL l 0)))*9) 1099511627776))&&true)
 (k 0 [.N (0+(List.length (gL l 0))),.L ([]++(gL l 0))]))
theorem F71.eq:FEq F71.O 87 F71.ps F71.sh F71:=by intro τ l κ;kernel_rfl
def F71.E:Ent P:=mkF F71.eq
end
end Go.Proofs.Yticbdgmcofjkeaa.Ai
namespace Go.Proofs.Yticbdgmcofjkeaa.Ai
open Go Ma
noncomputable section
def isGone (n:Int) (g:List Int):Bool:=(List.range g.length).all fun i=>decide (0≤g.getD i 0)&&(decide (g.getD i 0<n)&&(decide (i=0) || decide (g.getD (i-1) 0<g.getD i 0)))
def Gn (n:Int) (g:List Int) (i:Nat):Prop:=0≤g.getD i 0∧g.getD i 0<n∧(0<i→g.getD (i-1) 0<g.getD i 0)
theorem isGone_iff {n:Int} {g:List Int}:isGone n g=true↔∀ i,0≤i→i<g.length→Gn n g i:=by
 unfold isGone
 simp only [Bool.and_eq_true,Bool.or_eq_true,decide_eq_true_eq,List.all_eq_true,List.mem_range]
 refine ⟨fun h i _ hi=>?_,fun h i hi=>?_⟩
 ·obtain ⟨h1,h2,h3⟩:=h i hi
  exact ⟨h1,h2,fun h0=>h3.resolve_left (by omega)⟩
 ·obtain ⟨h1,h2,h3⟩:=h i (Nat.zero_le _) hi
  refine ⟨h1,h2,?_⟩
  by_cases h0:i=0
  ·exact .inl h0
  ·exact .inr (h3 (by omega))
def isRight (q n:Int) (w g:List Int):Bool:=isWord q n w&&isGone n g
def cnt (q k:Nat):Nat:=if q^k≤4096 then q^k else 4097
theorem L48_run (f:Nat) {τ:Type} (κ:Nat→LS_→Option τ) (l:LS_):runE L48_3 (f+1) κ 0 l=L48_3.s0 (runE L48_3 f κ) κ l:=rfl
theorem L48_spec {q:Nat} (hq:1<q) (hq2:q<2^20) (n:Int) (G:List (List Int)) (hs:G.length<2^60) {τ:Type} (κ:Nat→LS_→Option τ):∀ (f i:Nat) (x:Int),i≤G.length→G.length<f+i→q^i≤4096 →
  ∃ y:Int,runE L48_3 f κ 0 [.I x,.I ((q^i:Nat):Int),.I G.length,.I i,.I q,.I n,.N G.length,.LL G]=if q^G.length≤4096 then κ 1 [.I x,.I ((q^G.length:Nat):Int)] else κ 0 [.I 4097,.I y]
 | 0,i,x,h1,h2,h3=>by omega
 | f+1,i,x,h1,h2,h3=>by
  rw [L48_run]
  unfold L48_3.s0
  simp only [g_]
  by_cases hj:i<G.length
  ·have e1:((q^i:Nat):Int)*q=((q^(i+1):Nat):Int):=by rw [Nat.pow_succ];simp
   have hb:q^(i+1)<2^40:=by rw [Nat.pow_succ];exact Nat.lt_of_le_of_lt (Nat.mul_le_mul h3 (Nat.le_of_lt hq2)) (by decide)
   have e2:wr .i64 (((q^i:Nat):Int)*q)=((q^(i+1):Nat):Int):=by rw [e1,wr64 (by omega) (by omega)]
   have hpos:0<q^(i+1):=Nat.pos_of_ne_zero (by simp;omega)
   rw [br_of (by simp;omega),e2]
   by_cases hc:q^(i+1)≤4096
   ·obtain ⟨y,hy⟩:=L48_spec hq hq2 n G hs κ f (i+1) x (by omega) (by omega) hc
    refine ⟨y,?_⟩
    rw [br_no (by simp only [gtI_no];omega),br_no (by simp only [ltI_no];omega),wsucc (by omega),hy]
   ·refine ⟨((q^(i+1):Nat):Int),?_⟩
    rw [br_of (by simp only [gtI_iff];omega)]
    rw [if_neg]
    intro h
    exact hc (Nat.le_trans (Nat.pow_le_pow_right (by omega) (by omega)) h)
  ·have:i=G.length:=by omega
   subst this
   refine ⟨0,?_⟩
   rw [br_no (by simp),if_pos h3]
theorem F48_spec {q:Nat} (hq:1<q) (hq2:q<2^20) (n:Int) (G:List (List Int)) (hs:G.length<2^60) {τ:Type} (k:Nat→LS_→Option τ):F48 [.I q,.I n,.LL G] k=k 0 [.I ((cnt q G.length:Nat):Int)]:=by
 have hfu:=fuel_le
 unfold F48 L48_3.b
 simp only [g_]
 obtain ⟨y,hy⟩:=L48_spec hq hq2 n G hs (fun j l96=>(sw (k 0 [.I (gI l96 0)]) (sw (k 0 [.I (gI l96 1)]) (fun _=>none))) j) fuel 0 0 (by omega) (by omega) (by simp)
 refine Eq.trans hy ?_
 unfold cnt
 split
 ·simp
 ·simp
theorem getD_set_nat {l:List Nat} {i j x:Nat} (hi:i<l.length):(l.set i x).getD j 0=if i=j then x else l.getD j 0:=by
 simp only [List.getD_eq_getElem?_getD,List.getElem?_set]
 by_cases h:i=j
 ·subst h;simp [hi]
 ·simp [h]
structure Mx (perm:List Nat) (fam m:List (List Int)):Prop where
 len:perm.length=m.length
 lt:∀ i,i<m.length→perm.getD i 0<fam.length
 eq:∀ i,i<m.length→fam.getD (perm.getD i 0) []=m.getD i []
 inj:∀ i j,i<m.length→j<m.length→perm.getD i 0=perm.getD j 0→i=j
theorem Mx.set {perm:List Nat} {fam m:List (List Int)} (h:Mx perm fam m) {i:Nat} (hi:i<m.length) (v:List Int):Mx perm (fam.set (perm.getD i 0) v) (m.set i v) where
 len:=by simp [h.len]
 lt:=fun j hj=>by rw [List.length_set];exact h.lt j (by simpa using hj)
 eq:=fun j hj=>by
  have hj':j<m.length:=by simpa using hj
  rw [getD_set_row (h.lt i hi),getD_set_row hi]
  by_cases e:i=j
  ·subst e;simp
  ·rw [if_neg e,if_neg (fun x=>e (h.inj i j hi hj' x))];exact h.eq j hj'
 inj:=fun a b ha hb=>h.inj a b (by simpa using ha) (by simpa using hb)
theorem Mx.swap {perm:List Nat} {fam m:List (List Int)} (h:Mx perm fam m) {i j:Nat} (hi:i<m.length) (hj:j<m.length) :
  Mx ((perm.set i (perm.getD j 0)).set j (perm.getD i 0)) fam ((m.set i (m.getD j [])).set j (m.getD i [])):=by
 have hl:=h.len
 have g1:∀ k,((perm.set i (perm.getD j 0)).set j (perm.getD i 0)).getD k 0=perm.getD (if j=k then i else if i=k then j else k) 0:=fun k=>by
  rw [getD_set_nat (by rw [List.length_set];omega),getD_set_nat (by omega)]
  by_cases e:j=k
  ·rw [if_pos e,if_pos e]
  ·rw [if_neg e,if_neg e]
   by_cases e2:i=k
   ·rw [if_pos e2,if_pos e2]
   ·rw [if_neg e2,if_neg e2]
 have g2:∀ k,((m.set i (m.getD j [])).set j (m.getD i [])).getD k []=m.getD (if j=k then i else if i=k then j else k) []:=fun k=>by
  rw [getD_set_row (by rw [List.length_set];omega),getD_set_row (by omega)]
  by_cases e:j=k
  ·rw [if_pos e,if_pos e]
  ·rw [if_neg e,if_neg e]
   by_cases e2:i=k
   ·rw [if_pos e2,if_pos e2]
   ·rw [if_neg e2,if_neg e2]
 have b:∀ k,k<m.length→(if j=k then i else if i=k then j else k)<m.length:=fun k hk=>by split <;> (try split) <;> omega
 refine ⟨by simp [hl],fun k hk=>?_,fun k hk=>?_,fun x y hx hy e=>?_⟩
 ·rw [g1];exact h.lt _ (b k (by simpa using hk))
 ·rw [g1,g2];exact h.eq _ (b k (by simpa using hk))
 ·rw [g1,g1] at e
  have:=h.inj _ _ (b x (by simpa using hx)) (b y (by simpa using hy)) e
  revert this
  split <;> split <;> (try split) <;> (try split) <;> omega
theorem lift_swap {mul:Int→Int→Int} {inv:Int→Int} {m:List (List Int)} {r p c:Nat} (hr:r<m.length) (hp:p<m.length) :
  lift mul inv m r p c=((m.set r (m.getD p [])).set p (m.getD r [])).set r (vmul mul (inv (ent m p c)) (m.getD p [])):=by
 unfold lift
 refine ext_rows (by simp) fun k hk=>?_
 rw [getD_set_row (m:=m.set p (m.getD r [])) (i:=r) (by simpa using hr),getD_set_row (m:=(m.set r (m.getD p [])).set p (m.getD r [])) (i:=r) (by simpa using hr)]
 by_cases e:r=k
 ·rw [if_pos e,if_pos e]
 ·rw [if_neg e,if_neg e,getD_set_row (m:=m) (i:=p) hp,getD_set_row (m:=m.set r (m.getD p [])) (i:=p) (by simpa using hp)]
  by_cases e2:p=k
  ·rw [if_pos e2,if_pos e2]
  ·rw [if_neg e2,if_neg e2,getD_set_row hr,if_neg e]
theorem half_get {a b:List Int} (hl:a.length=b.length) {j:Nat} (hj:j<b.length):(a.take j++b.drop j).getD j 0=b.getD j 0:=by
 simp only [List.getD_eq_getElem?_getD]
 rw [List.getElem?_append_right (by simp;omega)]
 simp [show min j a.length=j by omega]
theorem half_len {a b:List Int} (hl:a.length=b.length) {j:Nat} (hj:j≤b.length):(a.take j++b.drop j).length=b.length:=by simp;omega
theorem half_set {a b:List Int} (hl:a.length=b.length) {j:Nat} (hj:j<b.length):(a.take j++b.drop j).set j (a.getD j 0)=a.take (j+1)++b.drop (j+1):=by
 rw [take_succ_getD 0 (by omega),List.append_assoc,List.set_append,if_neg (by simp;omega),drop_cons (l:=b) (j:=j) 0 hj]
 simp [show min j a.length=j by omega]
theorem half_all {a b:List Int} (hl:a.length=b.length):a.take b.length++b.drop b.length=a:=by rw [List.take_of_length_le (by omega),List.drop_eq_nil_of_le (Nat.le_refl _),List.append_nil]
theorem set_set_row {fam:List (List Int)} {P:Nat} {x y:List Int}:(fam.set P x).set P y=fam.set P y:=by simp
theorem set_get_row {fam:List (List Int)} {P:Nat} (h:P<fam.length):fam.set P (fam.getD P [])=fam:=ext_rows (by simp) fun j hj=>by
 rw [getD_set_row h]
 split
 ·rename_i e;rw [e]
 ·rfl
theorem L84_10_spec {q:Nat} (hq:q∈Qs) {perm:List Nat} {r:Nat} (hr:r<perm.length) {v:List Int} (hv:In q v) (hvl:v.length<2^30) {c:Int} (c0:0≤c) (c1:c<q) (N:Int) (col:Int) {τ:Type} (κ:Nat→LS_→Option τ):∀ (f j:Nat) (fam:List (List Int)),perm.getD r 0<fam.length→j≤v.length→v.length<f+j→fam.getD (perm.getD r 0) []=(vmul (fmul q) c v).take j++v.drop j →
  runE L84_10 f κ 0 [.I N,.N perm.length,.I r,.I c,.I v.length,.I j,.L (fm q),.LN perm,.LL fam,.I (fp q),.I (fe q),.N (fm q).length,.I col]=κ 0 [.I N,.N perm.length,.I r,.L (fm q),.LN perm,.LL (fam.set (perm.getD r 0) (vmul (fmul q) c v)),.I (fp q),.I (fe q),.N (fm q).length,.I col]
 | 0,j,fam,h1,h2,h3,h4=>by omega
 | f+1,j,fam,h1,h2,h3,h4=>by
  have hl:(vmul (fmul q) c v).length=v.length:=vmul_len
  have hw:=half_len hl h2
  rw [runE_succ]
  show L84_10.s0 _ _ _=_
  unfold L84_10.s0
  simp only [g_,gLN_zero,gLN_succ,Int.toNat_natCast,Nat.mul_one,Nat.zero_add,List.drop_zero,List.take_length]
  by_cases hj:j<v.length
  ·have hx:=hv j hj
   have hg:(fam.getD (perm.getD r 0) []).getD j 0=v.getD j 0:=by rw [h4,half_get hl hj]
   have hg2:(fam.getD (perm.getD r 0) []).length=v.length:=by rw [h4,hw]
   have key:=L84_10_spec hq hr hv hvl c0 c1 N col κ f (j+1) (fam.set (perm.getD r 0) ((fam.getD (perm.getD r 0) []).set j (fmul q c (v.getD j 0)))) (by simpa using h1) (by omega) (by omega) (by
    rw [getD_set_row h1,if_pos rfl,h4,←vmul_get (mul:=fmul q) hj,half_set hl hj])
   rw [set_set_row] at key
   generalize perm.getD r 0=Pr at h1 h4 hg hg2 key ⊢
   generalize fam.getD Pr []=w at h4 hg hg2 key ⊢
   rw [br_of (by simp;omega),ck_of (by simp;omega),ck_of (by simp;omega),ck_of (by simp;omega),ck_of (by simp;omega),ck_of (by simp;omega),ck_of (by simp;omega),ck_of (by simp),hg]
   unfold T104
   rw [tab2_of hq c0 c1 hx.1 hx.2]
   simp only [sw_zero,gI_zero]
   rw [ck_of (by simp;omega),ck_of (by simp;omega),wsucc (by omega)]
   exact key
  ·have:j=v.length:=by omega
   subst this
   rw [half_all hl] at h4
   rw [br_no (by simp),←h4,set_get_row h1]
theorem L84_10_1_spec {q:Nat} (hq:q∈Qs) {perm:List Nat} {r:Nat} (hr:r<perm.length) {v:List Int} (hv:In q v) (hvl:v.length<2^30) {c:Int} (c0:0≤c) (c1:c<q) (N:Int) (u1:Int) (col:Int) {τ:Type} (κ:Nat→LS_→Option τ):∀ (f j:Nat) (fam:List (List Int)),perm.getD r 0<fam.length→j≤v.length→v.length<f+j→fam.getD (perm.getD r 0) []=(vmul (fmul q) c v).take j++v.drop j →
  runE L84_10_1 f κ 0 [.I N,.N perm.length,.I r,.I c,.I v.length,.I j,.L (fm q),.LN perm,.LL fam,.I (fp q),.I (fe q),.N (fm q).length,.I u1,.I col]=κ 0 [.I N,.N perm.length,.I r,.L (fm q),.LN perm,.LL (fam.set (perm.getD r 0) (vmul (fmul q) c v)),.I (fp q),.I (fe q),.N (fm q).length,.I u1,.I col]
 | 0,j,fam,h1,h2,h3,h4=>by omega
 | f+1,j,fam,h1,h2,h3,h4=>by
  have hl:(vmul (fmul q) c v).length=v.length:=vmul_len
  have hw:=half_len hl h2
  rw [runE_succ]
  show L84_10_1.s0 _ _ _=_
  unfold L84_10_1.s0
  simp only [g_,gLN_zero,gLN_succ,Int.toNat_natCast,Nat.mul_one,Nat.zero_add,List.drop_zero,List.take_length]
  by_cases hj:j<v.length
  ·have hx:=hv j hj
   have hg:(fam.getD (perm.getD r 0) []).getD j 0=v.getD j 0:=by rw [h4,half_get hl hj]
   have hg2:(fam.getD (perm.getD r 0) []).length=v.length:=by rw [h4,hw]
   have key:=L84_10_1_spec hq hr hv hvl c0 c1 N u1 col κ f (j+1) (fam.set (perm.getD r 0) ((fam.getD (perm.getD r 0) []).set j (fmul q c (v.getD j 0)))) (by simpa using h1) (by omega) (by omega) (by
    rw [getD_set_row h1,if_pos rfl,h4,←vmul_get (mul:=fmul q) hj,half_set hl hj])
   rw [set_set_row] at key
   generalize perm.getD r 0=Pr at h1 h4 hg hg2 key ⊢
   generalize fam.getD Pr []=w at h4 hg hg2 key ⊢
   rw [br_of (by simp;omega),ck_of (by simp;omega),ck_of (by simp;omega),ck_of (by simp;omega),ck_of (by simp;omega),ck_of (by simp;omega),ck_of (by simp;omega),ck_of (by simp),hg]
   unfold T104
   rw [tab2_of hq c0 c1 hx.1 hx.2]
   simp only [sw_zero,gI_zero]
   rw [ck_of (by simp;omega),ck_of (by simp;omega),wsucc (by omega)]
   exact key
  ·have:j=v.length:=by omega
   subst this
   rw [half_all hl] at h4
   rw [br_no (by simp),←h4,set_get_row h1]
theorem L114_2_1_spec {perm:List Nat} {fam m:List (List Int)} (hM:Mx perm fam m) (hs:m.length<2^30) {n:Nat} (hw:∀ i,i<m.length→(m.getD i []).length=n) (r c:Nat) (hc:c<n) (hr:r≤m.length) {τ:Type} (κ:Nat→LS_→Option τ):∀ (f p g:Nat),r+p≤m.length→m.length<f+(r+p)→m.length≤g+(r+p) →
  runE L114_2_1 f κ 0 [.N r,.N (m.length-r),.I 0,.I ((m.length-r:Nat):Int),.I p,.LN perm,.I c,.LL fam]=if findp m c g (r+p)=m.length then κ 1 [.I 0,.LN perm,.I c,.LL fam] else κ 0 [.I ((findp m c g (r+p)-r:Nat):Int),.LN perm,.I c,.LL fam]
 | 0,p,g,h1,h2,h3=>by omega
 | f+1,p,g,h1,h2,h3=>by
  have hl:=hM.len
  rw [runE_succ]
  show L114_2_1.s0 _ _ _=_
  unfold L114_2_1.s0
  simp only [g_,gLN_zero,gLN_succ,Int.toNat_natCast,Nat.mul_one,Nat.zero_add]
  by_cases hj:r+p<m.length
  ·have a1:=hM.lt _ hj
   have a2:=hM.eq _ hj
   have a3:=hw _ hj
   cases g with
   | zero=>omega
   | succ g =>
   unfold findp
   rw [if_pos hj]
   generalize perm.getD (r+p) 0=Pr at a1 a2 ⊢
   rw [a2,br_of (by simp;omega),ck_of (by simp;omega),ck_of (by simp;omega),ck_of (by simp only [a3];simp;omega),ck_of (by simp only [a3];simp;omega)]
   by_cases hz:ent m (r+p) c=0
   ·rw [if_pos hz,br_no (by unfold ent at hz;rw [hz];rfl),wsucc (by omega)]
    exact L114_2_1_spec hM hs hw r c hc hr κ f (p+1) g (by omega) (by omega) (by omega)
   ·rw [if_neg hz,br_of (by unfold ent at hz;simpa [-List.getD_eq_getElem?_getD] using hz),if_neg (by omega),show r+p-r=p by omega]
  ·have e:r+p=m.length:=by omega
   have:findp m c g (r+p)=m.length:=by
    rw [e]
    cases g with
    | zero=>rfl
    | succ g=>unfold findp;rw [if_neg (by omega)]
   rw [this,if_pos rfl,br_no (by simp;omega)]
theorem L94_3_spec {q:Nat} (hq:q∈Qs) {perm:List Nat} {Pk Pr:Nat} (hne:Pk≠Pr) {x y:List Int} (hx:In q x) (hy:In q y) (hl:y.length=x.length) (hs:x.length<2^30) {a:Int} (a0:0≤a) (a1:a<q) {τ:Type} (κ:Nat→LS_→Option τ):∀ (f j:Nat) (fam:List (List Int)),Pk<fam.length→Pr<fam.length→j≤x.length→x.length<f+j→fam.getD Pr []=x→fam.getD Pk []=(vadd (fadd q) y (vmul (fmul q) a x)).take j++y.drop j →
  runE L94_3 f κ 0 [.N Pk,.N y.length,.I a,.N Pr,.N x.length,.I y.length,.I j,.L (fm q),.LL fam,.LN perm,.I (fp q),.I (fe q),.N (fm q).length]=κ 0 [.L (fm q),.LL (fam.set Pk (vadd (fadd q) y (vmul (fmul q) a x))),.LN perm,.I (fp q),.I (fe q),.N (fm q).length]
 | 0,j,fam,h1,h1',h2,h3,h4,h5=>by omega
 | f+1,j,fam,h1,h1',h2,h3,h4,h5=>by
  have F:=fld q hq
  have ml:(vmul (fmul q) a x).length=x.length:=vmul_len
  have hlv:(vadd (fadd q) y (vmul (fmul q) a x)).length=y.length:=vadd_len (by rw [ml,hl])
  have hw:=half_len hlv (j:=j) (by omega)
  rw [runE_succ]
  show L94_3.s0 _ _ _=_
  unfold L94_3.s0
  simp only [g_,gLN_zero,gLN_succ,Int.toNat_natCast,Nat.mul_one,Nat.zero_add,List.drop_zero,List.take_length]
  by_cases hj:j<y.length
  ·have ax:=hx j (by omega)
   have ay:=hy j hj
   have am:=F.mul_in _ _ a0 a1 ax.1 ax.2
   have hg:(fam.getD Pk []).getD j 0=y.getD j 0:=by rw [h5,half_get hlv hj]
   have hg2:(fam.getD Pk []).length=y.length:=by rw [h5,hw]
   have key:=L94_3_spec hq (perm:=perm) hne hx hy hl hs a0 a1 κ f (j+1) (fam.set Pk ((fam.getD Pk []).set j (fadd q (y.getD j 0) (fmul q a (x.getD j 0))))) (by simpa using h1) (by simpa using h1') (by omega) (by omega)
    (by rw [getD_set_row h1,if_neg hne,h4]) (by
    rw [getD_set_row h1,if_pos rfl,h5,←vmul_get (mul:=fmul q) (show j<x.length by omega),←vadd_get (add:=fadd q) (by rw [ml,hl]) hj,half_set hlv hj])
   rw [set_set_row] at key
   rw [h4]
   generalize fam.getD Pk []=w at h5 hg hg2 key ⊢
   rw [br_of (by simp;omega),ck_of (by simp;omega),ck_of (by simp;omega),ck_of (by simp;omega),ck_of (by simp;omega),ck_of (by simp),hg]
   unfold T104 T103
   rw [tab2_of hq a0 a1 ax.1 ax.2]
   simp only [sw_zero,gI_zero]
   rw [ck_of (by simp),tab2_of hq ay.1 ay.2 am.1 am.2]
   simp only [sw_zero,gI_zero]
   rw [ck_of (by simp;omega),ck_of (by simp;omega),wsucc (by omega)]
   exact key
  ·have:j=y.length:=by omega
   subst this
   rw [half_all hlv] at h5
   rw [br_no (by simp),←h5,set_get_row h1]
theorem vadd_zero {q n:Nat} (F:Fld q (fadd q) (fmul q) (fneg q) (finv q)) {x y:List Int} (hx:Wd q n x) (hy:Wd q n y):vadd (fadd q) y (vmul (fmul q) 0 x)=y:=by
 have ml:(vmul (fmul q) 0 x).length=x.length:=vmul_len
 refine ext_getD (vadd_len (by rw [ml,hy.1,hx.1])) fun j hj=>?_
 rw [vadd_len (by rw [ml,hy.1,hx.1]),hy.1] at hj
 have a:=hx.2 j hj
 have b:=hy.2 j hj
 have h1:=F.one_lt
 rw [vadd_get (by rw [ml,hy.1,hx.1]) (by rw [hy.1];exact hj),vmul_get (by rw [hx.1];exact hj),F.zero_mul _ a.1 a.2,F.add_comm _ _ b.1 b.2 (by omega) (by omega),F.zero_add _ b.1 b.2]
theorem S94_0_spec {q n:Nat} (hq:q∈Qs) (hn:n<2^30) {perm:List Nat} {fam:List (List Int)} {Pk Pr:Nat} (hne:Pk≠Pr) {x y:List Int} (hx:Wd q n x) (hy:Wd q n y) {a:Int} (a0:0≤a) (a1:a<q) (h1:Pk<fam.length) (h2:Pr<fam.length) (h3:fam.getD Pr []=x) (h4:fam.getD Pk []=y) {τ:Type} (k:Nat→LS_→Option τ) :
  S94_0 [.I (fp q),.I (fe q),.N (fm q).length,.N Pk,.N y.length,.I a,.N Pr,.N x.length,.L (fm q),.LL fam,.LN perm] k=k 0 [.L (fm q),.LL (fam.set Pk (vadd (fadd q) y (vmul (fmul q) a x))),.LN perm]:=by
 have hfu:=fuel_le
 unfold S94_0 L94_3.b
 simp only [g_,gLN_zero,gLN_succ]
 by_cases hz:a=0
 ·subst hz
  rw [br_of (b:=((0:Int)==0)) rfl,vadd_zero (fld q hq) hx hy,←h4,set_get_row h1]
 ·rw [br_no (by simpa using hz)]
  exact L94_3_spec hq hne (In.of hx) (In.of hy) (by rw [hx.1,hy.1]) (by rw [hx.1];exact hn) a0 a1 (fun j l63=>(sw (k 0 [.L (gL l63 0),.LL (gLL l63 1),.LN (gLN l63 2)]) (fun _=>none)) j) fuel 0 fam h1 h2 (by omega) (by rw [hx.1];omega) h3 (by simpa using h4)
theorem elimTo_step {add mul:Int→Int→Int} {neg:Int→Int} {m:List (List Int)} {r c k:Nat} (hk:k<m.length) (hkr:k≠r) :
  elimTo add mul neg m r c (k+1)=(elimTo add mul neg m r c k).set k (vadd add (m.getD k []) (vmul mul (neg (ent m k c)) (m.getD r []))):=by
 refine ext_rows (by rw [elimTo_len,List.length_set,elimTo_len]) fun j hj'=>?_
 rw [elimTo_len] at hj'
 rw [elimTo_get hj',getD_set_row (by rw [elimTo_len];exact hk)]
 by_cases h:k=j
 ·subst h
  rw [if_neg (by omega),if_pos rfl]
 ·rw [if_neg h,elimTo_get hj']
  by_cases h2:j=r∨k≤j
  ·rw [if_pos h2,if_pos (by omega)]
  ·rw [if_neg h2,if_neg (by omega)]
theorem elimTo_skip {add mul:Int→Int→Int} {neg:Int→Int} {m:List (List Int)} {r c:Nat}:elimTo add mul neg m r c (r+1)=elimTo add mul neg m r c r :=
 ext_rows (elimTo_len.trans elimTo_len.symm) fun j hj=>by
  rw [elimTo_len] at hj
  rw [elimTo_get hj,elimTo_get hj]
  by_cases h:j=r∨r≤j
  ·rw [if_pos h,if_pos (by omega)]
  ·rw [if_neg h,if_neg (by omega)]
theorem L84_15_spec {q n:Nat} (hq:q∈Qs) {m:List (List Int)} (hm:Rows q n m) (N:Int) (r c:Nat) (hc:c<n) (hr:r<m.length) {perm:List Nat}:∀ (f k:Nat) (fam:List (List Int)),k≤m.length→m.length<f+k→Mx perm fam (elimTo (fadd q) (fmul q) (fneg q) m r c k) →
  ∃ fam',Mx perm fam' (elim (fadd q) (fmul q) (fneg q) m r c)∧∀ {τ:Type} (κ:Nat→LS_→Option τ),runE L84_15 f κ 0 [.I N,.N m.length,.I r,.N m.length,.I m.length,.I k,.L (fm q),.LN perm,.LL fam,.I (fp q),.I (fe q),.N (fm q).length,.I c]=κ 0 [.I N,.N m.length,.I r,.L (fm q),.LN perm,.LL fam',.I (fp q),.I (fe q),.N (fm q).length,.I c]
 | 0,k,fam,h1,h2,h3=>by omega
 | f+1,k,fam,h1,h2,hM=>by
  have hf:=hm.few
  have hs:=hm.short
  have F:=fld q hq
  have ll:(elimTo (fadd q) (fmul q) (fneg q) m r c k).length=m.length:=elimTo_len
  have hpl:perm.length=m.length:=by rw [hM.len,ll]
  by_cases hj:k<m.length
  ·have wk:=hm.wd k hj
   have wr:=hm.wd r hr
   have gk:(elimTo (fadd q) (fmul q) (fneg q) m r c k).getD k []=m.getD k []:=by rw [elimTo_get hj,if_pos (.inr (Nat.le_refl _))]
   have gr:(elimTo (fadd q) (fmul q) (fneg q) m r c k).getD r []=m.getD r []:=by rw [elimTo_get hr,if_pos (.inl rfl)]
   have b1:=hM.lt k (by rw [ll];exact hj)
   have b2:=hM.lt r (by rw [ll];exact hr)
   have b3:=hM.eq k (by rw [ll];exact hj)
   have b4:=hM.eq r (by rw [ll];exact hr)
   rw [gk] at b3
   rw [gr] at b4
   by_cases hkr:k=r
   ·subst hkr
    obtain ⟨fam',c1,c2⟩:=L84_15_spec hq hm N  k c hc hr f (k+1) fam (by omega) (by omega) (by rw [elimTo_skip];exact hM)
    refine ⟨fam',c1,fun {τ} κ=>?_⟩
    rw [runE_succ]
    show L84_15.s0 _ _ _=_
    unfold L84_15.s0
    simp only [g_,gLN_zero,gLN_succ,Int.toNat_natCast,Nat.mul_one,Nat.zero_add,List.drop_zero,List.take_length]
    generalize perm.getD k 0=Pk at b1 b3 ⊢
    rw [br_of (by simp;omega),ck_of (by simp;omega),ck_of (by simp;omega),br_no (by simp),wsucc (by omega)]
    exact c2 κ
   ·have x0:=wk.2 c hc
    have ng:=F.neg_in _ x0.1 x0.2
    have hne:perm.getD k 0≠perm.getD r 0:=fun e=>hkr (hM.inj k r (by rw [ll];exact hj) (by rw [ll];exact hr) e)
    have hM2:=hM.set (i:=k) (by rw [ll];exact hj) (vadd (fadd q) (m.getD k []) (vmul (fmul q) (fneg q (ent m k c)) (m.getD r [])))
    rw [←elimTo_step hj hkr] at hM2
    obtain ⟨fam',c1,c2⟩:=L84_15_spec hq hm N  r c hc hr f (k+1) _ (by omega) (by omega) hM2
    refine ⟨fam',c1,fun {τ} κ=>?_⟩
    have c2:=c2 κ
    rw [runE_succ]
    show L84_15.s0 _ _ _=_
    unfold L84_15.s0
    simp only [g_,gLN_zero,gLN_succ,Int.toNat_natCast,Nat.mul_one,Nat.zero_add,List.drop_zero,List.take_length]
    generalize perm.getD k 0=Pk at b1 b3 hne c2 ⊢
    generalize perm.getD r 0=Pr at b2 b4 hne c2 ⊢
    have hneg:(k:Int)≠r:=by omega
    rw [b3,b4,br_of (by simp;omega),ck_of (by simp;omega),ck_of (by simp;omega),br_of (by simpa using hneg),ck_of (by simp only [wk.1];simp;omega),ck_of (by simp only [wk.1];simp;omega),ck_of (by simp)]
    unfold T83
    rw [tab1_of hq x0.1 x0.2]
    simp only [sw_zero,gI_zero]
    rw [ck_of (by simp;omega),ck_of (by simp;omega),S94_0_spec hq (by omega) hne wr wk ng.1 ng.2 b1 b2 b4 b3]
    simp only [g_,sw_zero,gLN_zero,gLN_succ]
    rw [wsucc (by omega)]
    exact c2
  ·have:k=m.length:=by omega
   subst this
   rw [elimTo_all] at hM
   refine ⟨fam,hM,fun {τ} κ=>?_⟩
   rw [runE_succ]
   show L84_15.s0 _ _ _=_
   unfold L84_15.s0
   simp only [g_,gLN_zero,gLN_succ,Int.toNat_natCast,Nat.mul_one,Nat.zero_add,List.drop_zero,List.take_length]
   rw [br_no (by simp)]
theorem L84_15_1_spec {q n:Nat} (hq:q∈Qs) {m:List (List Int)} (hm:Rows q n m) (N:Int) (u1:Int) (r c:Nat) (hc:c<n) (hr:r<m.length) {perm:List Nat}:∀ (f k:Nat) (fam:List (List Int)),k≤m.length→m.length<f+k→Mx perm fam (elimTo (fadd q) (fmul q) (fneg q) m r c k) →
  ∃ fam',Mx perm fam' (elim (fadd q) (fmul q) (fneg q) m r c)∧∀ {τ:Type} (κ:Nat→LS_→Option τ),runE L84_15_1 f κ 0 [.I N,.N m.length,.I r,.N m.length,.I m.length,.I k,.L (fm q),.LN perm,.LL fam,.I (fp q),.I (fe q),.N (fm q).length,.I u1,.I c]=κ 0 [.I N,.N m.length,.I r,.L (fm q),.LN perm,.LL fam',.I (fp q),.I (fe q),.N (fm q).length,.I u1,.I c]
 | 0,k,fam,h1,h2,h3=>by omega
 | f+1,k,fam,h1,h2,hM=>by
  have hf:=hm.few
  have hs:=hm.short
  have F:=fld q hq
  have ll:(elimTo (fadd q) (fmul q) (fneg q) m r c k).length=m.length:=elimTo_len
  have hpl:perm.length=m.length:=by rw [hM.len,ll]
  by_cases hj:k<m.length
  ·have wk:=hm.wd k hj
   have wr:=hm.wd r hr
   have gk:(elimTo (fadd q) (fmul q) (fneg q) m r c k).getD k []=m.getD k []:=by rw [elimTo_get hj,if_pos (.inr (Nat.le_refl _))]
   have gr:(elimTo (fadd q) (fmul q) (fneg q) m r c k).getD r []=m.getD r []:=by rw [elimTo_get hr,if_pos (.inl rfl)]
   have b1:=hM.lt k (by rw [ll];exact hj)
   have b2:=hM.lt r (by rw [ll];exact hr)
   have b3:=hM.eq k (by rw [ll];exact hj)
   have b4:=hM.eq r (by rw [ll];exact hr)
   rw [gk] at b3
   rw [gr] at b4
   by_cases hkr:k=r
   ·subst hkr
    obtain ⟨fam',c1,c2⟩:=L84_15_1_spec hq hm N u1 k c hc hr f (k+1) fam (by omega) (by omega) (by rw [elimTo_skip];exact hM)
    refine ⟨fam',c1,fun {τ} κ=>?_⟩
    rw [runE_succ]
    show L84_15_1.s0 _ _ _=_
    unfold L84_15_1.s0
    simp only [g_,gLN_zero,gLN_succ,Int.toNat_natCast,Nat.mul_one,Nat.zero_add,List.drop_zero,List.take_length]
    generalize perm.getD k 0=Pk at b1 b3 ⊢
    rw [br_of (by simp;omega),ck_of (by simp;omega),ck_of (by simp;omega),br_no (by simp),wsucc (by omega)]
    exact c2 κ
   ·have x0:=wk.2 c hc
    have ng:=F.neg_in _ x0.1 x0.2
    have hne:perm.getD k 0≠perm.getD r 0:=fun e=>hkr (hM.inj k r (by rw [ll];exact hj) (by rw [ll];exact hr) e)
    have hM2:=hM.set (i:=k) (by rw [ll];exact hj) (vadd (fadd q) (m.getD k []) (vmul (fmul q) (fneg q (ent m k c)) (m.getD r [])))
    rw [←elimTo_step hj hkr] at hM2
    obtain ⟨fam',c1,c2⟩:=L84_15_1_spec hq hm N u1 r c hc hr f (k+1) _ (by omega) (by omega) hM2
    refine ⟨fam',c1,fun {τ} κ=>?_⟩
    have c2:=c2 κ
    rw [runE_succ]
    show L84_15_1.s0 _ _ _=_
    unfold L84_15_1.s0
    simp only [g_,gLN_zero,gLN_succ,Int.toNat_natCast,Nat.mul_one,Nat.zero_add,List.drop_zero,List.take_length]
    generalize perm.getD k 0=Pk at b1 b3 hne c2 ⊢
    generalize perm.getD r 0=Pr at b2 b4 hne c2 ⊢
    have hneg:(k:Int)≠r:=by omega
    rw [b3,b4,br_of (by simp;omega),ck_of (by simp;omega),ck_of (by simp;omega),br_of (by simpa using hneg),ck_of (by simp only [wk.1];simp;omega),ck_of (by simp only [wk.1];simp;omega),ck_of (by simp)]
    unfold T83
    rw [tab1_of hq x0.1 x0.2]
    simp only [sw_zero,gI_zero]
    rw [ck_of (by simp;omega),ck_of (by simp;omega),S94_0_spec hq (by omega) hne wr wk ng.1 ng.2 b1 b2 b4 b3]
    simp only [g_,sw_zero,gLN_zero,gLN_succ]
    rw [wsucc (by omega)]
    exact c2
  ·have:k=m.length:=by omega
   subst this
   rw [elimTo_all] at hM
   refine ⟨fam,hM,fun {τ} κ=>?_⟩
   rw [runE_succ]
   show L84_15_1.s0 _ _ _=_
   unfold L84_15_1.s0
   simp only [g_,gLN_zero,gLN_succ,Int.toNat_natCast,Nat.mul_one,Nat.zero_add,List.drop_zero,List.take_length]
   rw [br_no (by simp)]
theorem S114_1_spec {perm:List Nat} {fam m:List (List Int)} (hM:Mx perm fam m) (hs:m.length<2^30) {n:Nat} (hw:∀ i,i<m.length→(m.getD i []).length=n) (r c:Nat) (hc:c<n) (hr:r≤m.length) {τ:Type} (k:Nat→LS_→Option τ) :
  S114_1 [.N r,.N (m.length-r),.LN perm,.I c,.LL fam] k=if findp m c (m.length-r) r=m.length then k 0 [.I (-1),.LN perm,.I c,.LL fam] else k 0 [.I ((findp m c (m.length-r) r-r:Nat):Int),.LN perm,.I c,.LL fam]:=by
 have hfu:=fuel_le
 unfold S114_1 L114_2_1.b
 simp only [g_,gLN_zero,gLN_succ]
 have:=L114_2_1_spec hM hs hw r c hc hr (fun j l55=>(sw (k 0 [.I (gI l55 0),.LN (gLN l55 1),.I (gI l55 2),.LL (gLL l55 3)]) (sw (k 0 [.I (-(1:Int)),.LN (gLN l55 1),.I (gI l55 2),.LL (gLL l55 3)]) (fun _=>none))) j) fuel 0 (m.length-r) (by omega) (by omega) (by omega)
 refine Eq.trans this ?_
 rw [Nat.add_zero]
 split <;> rfl
theorem red_succ {add mul:Int→Int→Int} {neg inv:Int→Int} {g c r:Nat} {m:List (List Int)}:red add mul neg inv (g+1) c r m=(if r<m.length then (if findp m c (m.length-r) r=m.length then red add mul neg inv g (c+1) r m
   else red add mul neg inv g (c+1) (r+1) (elim add mul neg (lift mul inv m r (findp m c (m.length-r) r) c) r c)) else (m,r)):=rfl
theorem L84_3_spec {q n:Nat} (hq:q∈Qs):∀ (f g:Nat) (u:Int) (c r:Nat) (m:List (List Int)) (perm:List Nat) (fam:List (List Int)),Rows q n m→Mx perm fam m→g+c=n→r≤m.length→n<f+c →
    ∃ perm' fam' x,Mx perm' fam' (red (fadd q) (fmul q) (fneg q) (finv q) g c r m).1∧∀ {τ:Type} (κ:Nat→LS_→Option τ),runE L84_3 f κ 1 [.I n,.N m.length,.I r,.L (fm q),.LN perm,.LL fam,.I (fp q),.I (fe q),.N (fm q).length,.I u,.I c]=κ 0 [.N m.length,.I (red (fadd q) (fmul q) (fneg q) (finv q) g c r m).2,.L (fm q),.LN perm',.LL fam',.I (fp q),.I (fe q),.N (fm q).length,.I x]
  | 0,g,u,c,r,m,perm,fam,hm,hM,hg,hr,hf=>by omega
  | f+1,0,u,c,r,m,perm,fam,hm,hM,hg,hr,hf=>by
    refine ⟨perm,fam,u,hM,fun {τ} κ=>?_⟩
    rw [runE_succ]
    show L84_3.s1 _ _ _=_
    unfold L84_3.s1
    simp only [g_,gLN_zero,gLN_succ,Int.toNat_natCast,Nat.mul_one,Nat.zero_add,List.drop_zero,List.take_length]
    rw [br_no (by simp;omega)]
    rfl
  | f+1,g+1,u,c,r,m,perm,fam,hm,hM,hg,hr,hf=>by
    have h1:=hm.few
    have h2:=hm.short
    have F:=fld q hq
    have hfu:=fuel_le
    have hpl:=hM.len
    have hc:c<n:=by omega
    rw [red_succ]
    by_cases hlt:r<m.length
    · rw [if_pos hlt]
      obtain ⟨a1,a2,a3,a4⟩:=findp_spec m c (m.length-r) r (by omega) (by omega)
      have hfind:∀ {τ:Type} (k:Nat→LS_→Option τ),_:=fun {τ} k=>S114_1_spec hM (by omega) (fun i hi=>(hm.wd i hi).1) r c hc hr k
      generalize hp:findp m c (m.length-r) r=p at *
      by_cases hpz:p=m.length
      · rw [if_pos hpz]
        obtain ⟨perm',fam',x,c1,c2⟩:=L84_3_spec hq f g u (c+1) r m perm fam hm hM (by omega) hr (by omega)
        refine ⟨perm',fam',x,c1,fun {τ} κ=>?_⟩
        have c2:=c2 κ
        rw [runE_succ]
        show L84_3.s1 _ _ _=_
        unfold L84_3.s1
        simp only [g_,gLN_zero,gLN_succ,Int.toNat_natCast,Nat.mul_one,Nat.zero_add,List.drop_zero,List.take_length]
        rw [br_of (by simp;omega),br_of (by simp;omega),ck_of (by simp;omega),br_of (by simp;omega),hfind,if_pos hpz]
        simp only [g_,sw_zero,gLN_zero,gLN_succ]
        rw [br_of (b:=ltI (-1) 0) (by simp),wsucc (by omega)]
        exact c2
      · have hp':p<m.length:=by omega
        rw [if_neg hpz]
        have wp:=hm.wd p hp'
        have x0:=wp.2 c hc
        have xz:(m.getD p []).getD c 0≠0:=a4 hp'
        have hi:=F.inv_in _ x0.1 x0.2
        have hml:=hm.lift hq hlt hp' hc
        have ll:(lift (fmul q) (finv q) m r p c).length=m.length:=lift_len
        have hM2:=hM.swap hlt hp'
        have e2:((m.set r (m.getD p [])).set p (m.getD r [])).getD r []=m.getD p []:=by
          rw [getD_set_row (by simpa using hp'),getD_set_row hlt]
          by_cases e:p=r
          · rw [if_pos e,e]
          · rw [if_neg e,if_pos rfl]
        have b1:=hM.lt r hlt
        have b2:=hM.lt p hp'
        have b3:=hM2.lt r (by simpa using hlt)
        have b4:=hM2.eq r (by simpa using hlt)
        rw [e2] at b4
        have hM3:=hM2.set (i:=r) (by simpa using hlt) (vmul (fmul q) (finv q (ent m p c)) (m.getD p []))
        rw [←lift_swap hlt hp'] at hM3
        have hpl2:((perm.set r (perm.getD p 0)).set p (perm.getD r 0)).length=m.length:=by simp [hpl]
        have hr1:r<perm.length:=by omega
        have hp1:p<perm.length:=by omega
        have hwr:wr .i64 ((r:Int)+((p-r:Nat):Int))=(p:Nat):=by rw [wr64 (by omega) (by omega)];omega
        have wx:(fam.getD (perm.getD r 0) []).length=n:=by rw [hM.eq r hlt];exact (hm.wd r hlt).1
        have wy:(fam.getD (perm.getD p 0) []).length=n:=by rw [hM.eq p hp'];exact wp.1
        generalize hpm:(perm.set r (perm.getD p 0)).set p (perm.getD r 0)=pm at hM2 hM3 b3 b4 hpl2
        obtain ⟨fam2,d1,d2⟩:=L84_15_1_spec hq hml n u r c hc (by rw [ll];exact hlt) fuel 0 _ (by omega) (by omega) (by rw [elimTo_zero];exact hM3)
        obtain ⟨perm',fam',x,c1,c2⟩:=L84_3_spec hq f g u (c+1) (r+1) (elim (fadd q) (fmul q) (fneg q) (lift (fmul q) (finv q) m r p c) r c) pm fam2 (hml.elim hq (by rw [ll];exact hlt) hc) d1 (by omega) (by rw [elim_len,ll];omega) (by omega)
        refine ⟨perm',fam',x,c1,fun {τ} κ=>?_⟩
        have c2:=c2 κ
        rw [elim_len,ll] at c2
        rw [runE_succ]
        show L84_3.s1 _ _ _=_
        unfold L84_3.s1
        simp only [g_,gLN_zero,gLN_succ,Int.toNat_natCast,Nat.mul_one,Nat.zero_add,List.drop_zero,List.take_length]
        rw [br_of (by simp;omega),br_of (by simp;omega),ck_of (by simp;omega),br_of (by simp;omega),hfind,if_neg hpz]
        simp only [g_,sw_zero,gLN_zero,gLN_succ]
        rw [br_no (by simp only [ltI_no];omega),hwr]
        simp only [Int.toNat_natCast,hpm]
        generalize perm.getD r 0=Pr at b1 wx ⊢
        generalize perm.getD p 0=Pp at b2 wy ⊢
        have hsc:=L84_10_1_spec hq (perm:=pm) (r:=r) (by rw [hpl2];exact hlt) (In.of wp) (by rw [wp.1];omega) hi.1 hi.2 n u c (fun j l59=>(sw (L84_15_1.b 0 [.I (gI l59 0),.N (gN l59 1),.I (gI l59 2),.N (gN l59 1),.I (((gN l59 1):Nat):Int),.I (0:Int),.L (gL l59 3),.LN (gLN l59 4),.LL (gLL l59 5),.I (gI l59 6),.I (gI l59 7),.N (gN l59 8),.I (gI l59 9),.I (gI l59 10)]
 (fun j l65=>(sw (runE L84_3 f κ 1 [.I (gI l65 0),.N (gN l65 1),.I (wr IntKind.i64 ((gI l65 2)+(1:Int))),.L (gL l65 3),.LN (gLN l65 4),.LL (gLL l65 5),.I (gI l65 6),.I (gI l65 7),.N (gN l65 8),.I (gI l65 9),.I (wr IntKind.i64 ((gI l65 10)+(1:Int)))])
 (fun _=>none)) j))
 (fun _=>none)) j) fuel 0 fam b3 (Nat.zero_le _) (by rw [wp.1];omega) (by simpa using b4)
        generalize pm.getD r 0=Pq at b3 b4 hsc d2 hM3 ⊢
        rw [hpl2] at hsc
        rw [ck_of (by simp;omega),ck_of (by simp;omega),ck_of (by simp;omega),ck_of (by simp;omega),ck_of (by simp;omega),ck_of (by simp;omega),ck_of (by simp;omega),ck_of (by simp;omega),ck_of (by simp;omega),ck_of (by simp;omega),b4,ck_of (by simp only [wp.1];simp;omega),ck_of (by simp only [wp.1];simp;omega),ck_of (by simp)]
        unfold T116
        rw [tabI_of hq x0.1 x0.2 xz]
        simp only [sw_zero,gI_zero]
        rw [ck_of (by simp;omega),ck_of (by simp;omega)]
        unfold L84_10_1.b
        refine Eq.trans hsc ?_
        simp only [g_,sw_zero,gLN_zero,gLN_succ]
        unfold L84_15_1.b
        rw [ll] at d2
        refine Eq.trans (d2 _) ?_
        simp only [g_,sw_zero,gLN_zero,gLN_succ]
        rw [wsucc (by omega),wsucc (by omega)]
        exact c2
    · rw [if_neg hlt]
      refine ⟨perm,fam,u,hM,fun {τ} κ=>?_⟩
      rw [runE_succ]
      show L84_3.s1 _ _ _=_
      unfold L84_3.s1
      simp only [g_,gLN_zero,gLN_succ,Int.toNat_natCast,Nat.mul_one,Nat.zero_add,List.drop_zero,List.take_length]
      rw [br_of (by simp;omega),br_no (by simp;omega)]
theorem L84_3_spec0 {q n:Nat} (hq:q∈Qs):∀ (f g:Nat) (c r:Nat) (m:List (List Int)) (perm:List Nat) (fam:List (List Int)),Rows q n m→Mx perm fam m→g+c=n→r≤m.length→n<f+c →
    ∃ perm' fam' x,Mx perm' fam' (red (fadd q) (fmul q) (fneg q) (finv q) g c r m).1∧∀ {τ:Type} (κ:Nat→LS_→Option τ),runE L84_3 f κ 0 [.I n,.N m.length,.I r,.L (fm q),.LN perm,.LL fam,.I (fp q),.I (fe q),.N (fm q).length,.I c]=κ 0 [.N m.length,.I (red (fadd q) (fmul q) (fneg q) (finv q) g c r m).2,.L (fm q),.LN perm',.LL fam',.I (fp q),.I (fe q),.N (fm q).length,.I x]
  | 0,g,c,r,m,perm,fam,hm,hM,hg,hr,hf=>by omega
  | f+1,0,c,r,m,perm,fam,hm,hM,hg,hr,hf=>by
    refine ⟨perm,fam,c,hM,fun {τ} κ=>?_⟩
    rw [runE_succ]
    show L84_3.s0 _ _ _=_
    unfold L84_3.s0
    simp only [g_,gLN_zero,gLN_succ,Int.toNat_natCast,Nat.mul_one,Nat.zero_add,List.drop_zero,List.take_length]
    rw [br_no (by simp;omega)]
    rfl
  | f+1,g+1,c,r,m,perm,fam,hm,hM,hg,hr,hf=>by
    have h1:=hm.few
    have h2:=hm.short
    have F:=fld q hq
    have hfu:=fuel_le
    have hpl:=hM.len
    have hc:c<n:=by omega
    rw [red_succ]
    by_cases hlt:r<m.length
    · rw [if_pos hlt]
      obtain ⟨a1,a2,a3,a4⟩:=findp_spec m c (m.length-r) r (by omega) (by omega)
      have hfind:∀ {τ:Type} (k:Nat→LS_→Option τ),_:=fun {τ} k=>S114_1_spec hM (by omega) (fun i hi=>(hm.wd i hi).1) r c hc hr k
      generalize hp:findp m c (m.length-r) r=p at *
      by_cases hpz:p=m.length
      · rw [if_pos hpz]
        obtain ⟨perm',fam',x,c1,c2⟩:=L84_3_spec hq f g c (c+1) r m perm fam hm hM (by omega) hr (by omega)
        refine ⟨perm',fam',x,c1,fun {τ} κ=>?_⟩
        have c2:=c2 κ
        rw [runE_succ]
        show L84_3.s0 _ _ _=_
        unfold L84_3.s0
        simp only [g_,gLN_zero,gLN_succ,Int.toNat_natCast,Nat.mul_one,Nat.zero_add,List.drop_zero,List.take_length]
        rw [br_of (by simp;omega),br_of (by simp;omega),ck_of (by simp;omega),br_of (by simp;omega),hfind,if_pos hpz]
        simp only [g_,sw_zero,gLN_zero,gLN_succ]
        rw [br_of (b:=ltI (-1) 0) (by simp),wsucc (by omega)]
        exact c2
      · have hp':p<m.length:=by omega
        rw [if_neg hpz]
        have wp:=hm.wd p hp'
        have x0:=wp.2 c hc
        have xz:(m.getD p []).getD c 0≠0:=a4 hp'
        have hi:=F.inv_in _ x0.1 x0.2
        have hml:=hm.lift hq hlt hp' hc
        have ll:(lift (fmul q) (finv q) m r p c).length=m.length:=lift_len
        have hM2:=hM.swap hlt hp'
        have e2:((m.set r (m.getD p [])).set p (m.getD r [])).getD r []=m.getD p []:=by
          rw [getD_set_row (by simpa using hp'),getD_set_row hlt]
          by_cases e:p=r
          · rw [if_pos e,e]
          · rw [if_neg e,if_pos rfl]
        have b1:=hM.lt r hlt
        have b2:=hM.lt p hp'
        have b3:=hM2.lt r (by simpa using hlt)
        have b4:=hM2.eq r (by simpa using hlt)
        rw [e2] at b4
        have hM3:=hM2.set (i:=r) (by simpa using hlt) (vmul (fmul q) (finv q (ent m p c)) (m.getD p []))
        rw [←lift_swap hlt hp'] at hM3
        have hpl2:((perm.set r (perm.getD p 0)).set p (perm.getD r 0)).length=m.length:=by simp [hpl]
        have hr1:r<perm.length:=by omega
        have hp1:p<perm.length:=by omega
        have hwr:wr .i64 ((r:Int)+((p-r:Nat):Int))=(p:Nat):=by rw [wr64 (by omega) (by omega)];omega
        have wx:(fam.getD (perm.getD r 0) []).length=n:=by rw [hM.eq r hlt];exact (hm.wd r hlt).1
        have wy:(fam.getD (perm.getD p 0) []).length=n:=by rw [hM.eq p hp'];exact wp.1
        generalize hpm:(perm.set r (perm.getD p 0)).set p (perm.getD r 0)=pm at hM2 hM3 b3 b4 hpl2
        obtain ⟨fam2,d1,d2⟩:=L84_15_spec hq hml n r c hc (by rw [ll];exact hlt) fuel 0 _ (by omega) (by omega) (by rw [elimTo_zero];exact hM3)
        obtain ⟨perm',fam',x,c1,c2⟩:=L84_3_spec hq f g c (c+1) (r+1) (elim (fadd q) (fmul q) (fneg q) (lift (fmul q) (finv q) m r p c) r c) pm fam2 (hml.elim hq (by rw [ll];exact hlt) hc) d1 (by omega) (by rw [elim_len,ll];omega) (by omega)
        refine ⟨perm',fam',x,c1,fun {τ} κ=>?_⟩
        have c2:=c2 κ
        rw [elim_len,ll] at c2
        rw [runE_succ]
        show L84_3.s0 _ _ _=_
        unfold L84_3.s0
        simp only [g_,gLN_zero,gLN_succ,Int.toNat_natCast,Nat.mul_one,Nat.zero_add,List.drop_zero,List.take_length]
        rw [br_of (by simp;omega),br_of (by simp;omega),ck_of (by simp;omega),br_of (by simp;omega),hfind,if_neg hpz]
        simp only [g_,sw_zero,gLN_zero,gLN_succ]
        rw [br_no (by simp only [ltI_no];omega),hwr]
        simp only [Int.toNat_natCast,hpm]
        generalize perm.getD r 0=Pr at b1 wx ⊢
        generalize perm.getD p 0=Pp at b2 wy ⊢
        have hsc:=L84_10_spec hq (perm:=pm) (r:=r) (by rw [hpl2];exact hlt) (In.of wp) (by rw [wp.1];omega) hi.1 hi.2 n c (fun j l59=>(sw (L84_15.b 0 [.I (gI l59 0),.N (gN l59 1),.I (gI l59 2),.N (gN l59 1),.I (((gN l59 1):Nat):Int),.I (0:Int),.L (gL l59 3),.LN (gLN l59 4),.LL (gLL l59 5),.I (gI l59 6),.I (gI l59 7),.N (gN l59 8),.I (gI l59 9)]
 (fun j l65=>(sw (runE L84_3 f κ 1 [.I (gI l65 0),.N (gN l65 1),.I (wr IntKind.i64 ((gI l65 2)+(1:Int))),.L (gL l65 3),.LN (gLN l65 4),.LL (gLL l65 5),.I (gI l65 6),.I (gI l65 7),.N (gN l65 8),.I (gI l65 9),.I (wr IntKind.i64 ((gI l65 9)+(1:Int)))])
 (fun _=>none)) j))
 (fun _=>none)) j) fuel 0 fam b3 (Nat.zero_le _) (by rw [wp.1];omega) (by simpa using b4)
        generalize pm.getD r 0=Pq at b3 b4 hsc d2 hM3 ⊢
        rw [hpl2] at hsc
        rw [ck_of (by simp;omega),ck_of (by simp;omega),ck_of (by simp;omega),ck_of (by simp;omega),ck_of (by simp;omega),ck_of (by simp;omega),ck_of (by simp;omega),ck_of (by simp;omega),ck_of (by simp;omega),ck_of (by simp;omega),b4,ck_of (by simp only [wp.1];simp;omega),ck_of (by simp only [wp.1];simp;omega),ck_of (by simp)]
        unfold T116
        rw [tabI_of hq x0.1 x0.2 xz]
        simp only [sw_zero,gI_zero]
        rw [ck_of (by simp;omega),ck_of (by simp;omega)]
        unfold L84_10.b
        refine Eq.trans hsc ?_
        simp only [g_,sw_zero,gLN_zero,gLN_succ]
        unfold L84_15.b
        rw [ll] at d2
        refine Eq.trans (d2 _) ?_
        simp only [g_,sw_zero,gLN_zero,gLN_succ]
        rw [wsucc (by omega),wsucc (by omega)]
        exact c2
    · rw [if_neg hlt]
      refine ⟨perm,fam,c,hM,fun {τ} κ=>?_⟩
      rw [runE_succ]
      show L84_3.s0 _ _ _=_
      unfold L84_3.s0
      simp only [g_,gLN_zero,gLN_succ,Int.toNat_natCast,Nat.mul_one,Nat.zero_add,List.drop_zero,List.take_length]
      rw [br_of (by simp;omega),br_no (by simp;omega)]
open Classical in
theorem L100_2_spec (q:Int) {a:List Int} (hs:a.length<2^60) {τ:Type} (κ:Nat→LS_→Option τ):∀ (f j:Nat),j≤a.length→a.length<f+j →
  ∃ i:Nat,runE L100_2 f κ 0 [.N a.length,.L a,.I 0,.I a.length,.I j,.I q]=if (∀ i,j≤i→i<a.length→0≤a.getD i 0∧a.getD i 0<q) then κ 1 [.I 0,.I q] else κ 0 [.I i,.I q]
 | 0,j,h1,h2=>by omega
 | f+1,j,h1,h2=>by
  rw [runE_succ]
  show ∃ i:Nat,L100_2.s0 _ _ _=_
  unfold L100_2.s0
  simp only [g_]
  by_cases hj:j<a.length
  ·have e:=wsucc (j:=j) (by omega)
   simp only [Int.toNat_natCast,Nat.mul_one]
   rw [br_of (by simp;omega),ck_of (by simp <;> omega),ck_of (by simp <;> omega)]
   by_cases h0:0≤a.getD j 0
   ·rw [br_no (by simp only [ltI_no];omega)]
    by_cases h3:a.getD j 0<q
    ·obtain ⟨i,hi⟩:=L100_2_spec q hs κ f (j+1) (by omega) (by omega)
     refine ⟨i,?_⟩
     rw [br_no (by simp only [geI_no];omega),e,hi]
     have hh:(∀ i,j+1≤i→i<a.length→0≤a.getD i 0∧a.getD i 0<q)↔(∀ i,j≤i→i<a.length→0≤a.getD i 0∧a.getD i 0<q):=by
      refine ⟨fun h i hi hl=>?_,fun h i hi hl=>h i (by omega) hl⟩
      by_cases he:i=j
      ·subst he;exact ⟨h0,h3⟩
      ·exact h i (by omega) hl
     simp only [hh]
    ·refine ⟨j,?_⟩
     rw [br_of (by simp only [geI_iff];omega),if_neg (fun h=>h3 (h j (Nat.le_refl _) hj).2)]
   ·refine ⟨j,?_⟩
    rw [br_of (by simp only [ltI_iff];omega),if_neg (fun h=>h0 (h j (Nat.le_refl _) hj).1)]
  ·refine ⟨0,?_⟩
   rw [br_no (by simp;omega),if_pos (fun i h1 h2=>by omega)]
theorem S122_0_spec (q:Int) {a:List Int} (hs:a.length<2^60) {τ:Type} (k:Nat→LS_→Option τ) :
  S122_0 [.N a.length,.L a,.I q] k=k 0 [.B (!isWord q a.length a),.I q]:=by
 have hfu:=fuel_le
 unfold S122_0 S100_0 L100_2.b
 simp only [g_]
 obtain ⟨i,hi⟩:=L100_2_spec q hs (fun j l45=>(sw ((fun j l46=>(sw (k 0 [.B (geI (gI l46 0) (0:Int)),.I (gI l46 1)]) (fun _=>none)) j) 0 [.I (gI l45 0),.I (gI l45 1)]) (sw ((fun j l46=>(sw (k 0 [.B (geI (gI l46 0) (0:Int)),.I (gI l46 1)]) (fun _=>none)) j) 0 [.I (-(1:Int)),.I (gI l45 1)]) (fun _=>none))) j) fuel 0 (by omega) (by omega)
 rw [show ((0:Nat):Int)=0 from rfl] at hi
 refine Eq.trans hi ?_
 cases hw:isWord q (a.length:Int) a with
 | true=>rw [if_pos (isWord_iff.1 hw).2];simp [geI]
 | false=>rw [if_neg (fun h=>by rw [isWord_iff.2 ⟨rfl,h⟩] at hw;cases hw)];simp [geI]
theorem F93_spec (q n:Int) {a:List Int} (hs:a.length<2^60) {τ:Type} (k:Nat→LS_→Option τ):F93 [.I q,.I n,.L a] k=k 0 [.B (isWord q n a)]:=by
 unfold F93
 simp only [g_]
 by_cases hn:(a.length:Int)=n
 ·subst hn
  rw [br_of (by simp),S122_0_spec q hs]
  simp
 ·rw [br_no (by simpa using hn)]
  have:isWord q n a=false:=by
   cases hw:isWord q n a with
   | true=>exact absurd (isWord_iff.1 hw).1 hn
   | false=>rfl
  rw [this]
def allWord (q n:Int) (G:List (List Int)):Bool:=(List.range G.length).all fun i=>isWord q n (G.getD i [])
theorem allWord_iff {q n:Int} {G:List (List Int)}:allWord q n G=true↔∀ i,0≤i→i<G.length→isWord q n (G.getD i [])=true:=by
 unfold allWord
 simp only [List.all_eq_true,List.mem_range]
 exact ⟨fun h i _ hi=>h i hi,fun h i hi=>h i (Nat.zero_le _) hi⟩
open Classical in
theorem L114_2_spec (q n:Int) {G:List (List Int)} (hs:G.length<2^60) (hw:∀ i,(G.getD i []).length<2^60) {τ:Type} (κ:Nat→LS_→Option τ):∀ (f j:Nat),j≤G.length→G.length<f+j →
  ∃ i:Nat,runE L114_2 f κ 0 [.N G.length,.LL G,.I 0,.I G.length,.I j,.I q,.I n]=if (∀ i,j≤i→i<G.length→isWord q n (G.getD i [])=true) then κ 1 [.I 0,.I q,.I n] else κ 0 [.I i,.I q,.I n]
 | 0,j,h1,h2=>by omega
 | f+1,j,h1,h2=>by
  rw [runE_succ]
  show ∃ i:Nat,L114_2.s0 _ _ _=_
  unfold L114_2.s0
  simp only [g_]
  by_cases hj:j<G.length
  ·have e:=wsucc (j:=j) (by omega)
   simp only [Int.toNat_natCast,Nat.mul_one]
   rw [br_of (by simp;omega),ck_of (by simp <;> omega),ck_of (by simp <;> omega),ck_of (by simp),F93_spec q n (hw j)]
   simp only [sw_zero,gB_zero]
   cases h0:isWord q n (G.getD j []) with
   | true =>
    obtain ⟨i,hi⟩:=L114_2_spec q n hs hw κ f (j+1) (by omega) (by omega)
    refine ⟨i,?_⟩
    rw [br_no (b:=!true) rfl,e,hi]
    have hh:(∀ i,j+1≤i→i<G.length→isWord q n (G.getD i [])=true)↔(∀ i,j≤i→i<G.length→isWord q n (G.getD i [])=true):=by
     refine ⟨fun h i hi hl=>?_,fun h i hi hl=>h i (by omega) hl⟩
     by_cases he:i=j
     ·subst he;exact h0
     ·exact h i (by omega) hl
    simp only [hh]
   | false =>
    refine ⟨j,?_⟩
    rw [br_of (b:=!false) rfl,if_neg (fun h=>by have:=h j (Nat.le_refl _) hj;rw [h0] at this;cases this)]
  ·refine ⟨0,?_⟩
   rw [br_no (by simp;omega),if_pos (fun i h1 h2=>by omega)]
theorem S117_0_spec (q n:Int) {G:List (List Int)} (hs:G.length<2^60) (hw:∀ i,(G.getD i []).length<2^60) {τ:Type} (k:Nat→LS_→Option τ) :
  S117_0 [.N G.length,.LL G,.I q,.I n] k=k 0 [.B (!allWord q n G),.I q,.I n]:=by
 have hfu:=fuel_le
 unfold S117_0 S114_0 L114_2.b
 simp only [g_]
 obtain ⟨i,hi⟩:=L114_2_spec q n hs hw (fun j l49=>(sw ((fun j l50=>(sw (k 0 [.B (geI (gI l50 0) (0:Int)),.I (gI l50 1),.I (gI l50 2)]) (fun _=>none)) j) 0 [.I (gI l49 0),.I (gI l49 1),.I (gI l49 2)]) (sw ((fun j l50=>(sw (k 0 [.B (geI (gI l50 0) (0:Int)),.I (gI l50 1),.I (gI l50 2)]) (fun _=>none)) j) 0 [.I (-(1:Int)),.I (gI l49 1),.I (gI l49 2)]) (fun _=>none))) j) fuel 0 (by omega) (by omega)
 rw [show ((0:Nat):Int)=0 from rfl] at hi
 refine Eq.trans hi ?_
 cases hw:allWord q n G with
 | true=>rw [if_pos (allWord_iff.1 hw)];simp [geI]
 | false=>rw [if_neg (fun h=>by rw [allWord_iff.2 h] at hw;cases hw)];simp [geI]
theorem F81_spec {q:Nat} (hq:q∈Qs) {τ:Type} (k:Nat→LS_→Option τ):F81 [.I q] k=k 0 [.I (fp q),.I (fe q),.N (fm q).length,.B true,.L (fm q)]:=by
 unfold F81 T99
 simp only [gI_zero]
 rw [tabM_of hq]
 have:=qs_lt hq
 simp only [g_,sw_zero]
 rw [show leI (q:Int) 16=true from by simp only [leI_iff];omega]
theorem F85_spec {q:Nat} (hq:q∈Qs) (n most:Int) {G:List (List Int)} (hs:G.length<2^60) (hw:∀ i,(G.getD i []).length<2^60) {τ:Type} (k:Nat→LS_→Option τ) :
  F85 [.I q,.I n,.I most,.LL G] k=if 1≤n∧n≤24∧(G.length:Int)≤most then k 0 [.I (fp q),.I (fe q),.N (fm q).length,.B (allWord q n G),.L (fm q)] else k 1 [.I (fp q),.I (fe q),.N (fm q).length,.L (fm q)]:=by
 unfold F85
 simp only [g_]
 rw [F81_spec hq]
 simp only [g_,sw_zero]
 rw [br_of rfl]
 by_cases h1:1≤n
 ·rw [br_of (by simpa using h1)]
  by_cases h2:n≤24
  ·rw [br_of (by simpa using h2)]
   by_cases h3:(G.length:Int)≤most
   ·rw [br_of (by simpa using h3),if_pos ⟨h1,h2,h3⟩,S117_0_spec q n hs hw]
    simp
   ·rw [br_no (by simp only [leI_no];exact h3),if_neg (fun h=>h3 h.2.2)]
  ·rw [br_no (by simp only [leI_no];exact h2),if_neg (fun h=>h2 h.2.1)]
 ·rw [br_no (by simp only [geI_no];exact h1),if_neg (fun h=>h1 h.1)]
theorem take_range_rep (n j:Nat) (hj:j<n) (x:Nat):(List.range j++List.replicate (n-j) x).set j j=List.range (j+1)++List.replicate (n-(j+1)) x:=by
 rw [List.set_append,if_neg (by simp),List.length_range,Nat.sub_self]
 have:n-j=(n-(j+1))+1:=by omega
 rw [this,List.replicate_succ,List.set_cons_zero,List.range_succ,List.append_assoc]
 rfl
theorem L87_3_spec {q n:Nat} {G:List (List Int)} (hG:Rows q n G) {τ:Type} (κ:Nat→LS_→Option τ):∀ (f j:Nat),j≤G.length→G.length<f+j →
  runE L87_3 f κ 0 [.N G.length,.N G.length,.LL G,.I G.length,.I j,.LL (G.take j),.LN (List.range j++List.replicate (G.length-j) 1099511627776)]=κ 0 [.N G.length,.LL G,.LN (List.range G.length)]
 | 0,j,h1,h2=>by omega
 | f+1,j,h1,h2=>by
  have hf:=hG.few
  have hs:=hG.short
  rw [runE_succ]
  show L87_3.s0 _ _ _=_
  unfold L87_3.s0
  simp only [g_,gLN_zero,gLN_succ,Int.toNat_natCast,Nat.mul_one,Nat.zero_add]
  by_cases hj:j<G.length
  ·have wl:=(hG.wd j hj).1
   have tl:(G.take j).length=j:=by simp;omega
   have e1:(List.range j++List.replicate (G.length-j) 1099511627776).set j j=List.range (j+1)++List.replicate (G.length-(j+1)) 1099511627776:=take_range_rep _ _ hj _
   have e2:(List.range (j+1)++List.replicate (G.length-(j+1)) 1099511627776).getD j 0=j:=by
    rw [List.getD_eq_getElem?_getD,List.getElem?_append_left (by simp)];simp
   have e3:(List.range j++List.replicate (G.length-j) 1099511627776).length=G.length:=by simp;omega
   have e4:(List.range (j+1)++List.replicate (G.length-(j+1)) 1099511627776).length=G.length:=by simp;omega
   have e5:(G.take j++[List.replicate (G.getD j []).length (0:Int)]).getD j []=List.replicate (G.getD j []).length 0:=by
    rw [List.getD_eq_getElem?_getD,List.getElem?_append_right (by omega),tl];simp
   have e6:(G.take j++[List.replicate (G.getD j []).length (0:Int)]).set j (G.getD j [])=G.take (j+1):=by
    rw [take_succ_getD [] hj,List.set_append,if_neg (by omega),tl,Nat.sub_self];rfl
   have e7:(G.take j++[List.replicate (G.getD j []).length (0:Int)]).length=j+1:=by rw [List.length_append,tl];rfl
   simp only [e1,e2,e3,e4,e5,e6,e7,tl,List.length_replicate]
   generalize G.getD j []=g at wl ⊢
   rw [br_of (by simp;omega),ck_of (by simp;omega),ck_of (by simp;omega),ck_of (by simp;omega),ck_of (by simp;omega),ck_of (by simp;omega),ck_of (by simp;omega),ck_of (by simp;omega),ck_of (by simp),wsucc (by omega)]
   exact L87_3_spec hG κ f (j+1) (by omega) (by omega)
  ·have:j=G.length:=by omega
   subst this
   rw [br_no (by simp)]
   simp
theorem S87_0_spec {q n:Nat} {G:List (List Int)} (hG:Rows q n G) {τ:Type} (k:Nat→LS_→Option τ):S87_0 [.N G.length,.LL G] k=k 0 [.N G.length,.LN (List.range G.length),.LL G]:=by
 have hf:=hG.few
 have hfu:=fuel_le
 unfold S87_0 L87_3.b
 simp only [g_,Int.toNat_natCast]
 rw [ck_of (by simp;omega)]
 have:=L87_3_spec hG (fun j l53=>(sw (k 0 [.N (gN l53 0),.LN (gLN l53 2),.LL (gLL l53 1)]) (fun _=>none)) j) fuel 0 (by omega) (by omega)
 exact this
theorem Mx_copy (G:List (List Int)):Mx (List.range G.length) G G where
 len:=by simp
 lt:=fun i hi=>by simp [List.getD_eq_getElem?_getD,hi]
 eq:=fun i hi=>by simp [List.getD_eq_getElem?_getD,hi]
 inj:=fun i j hi hj e=>by simpa [List.getD_eq_getElem?_getD,hi,hj] using e
theorem S84_0_spec {q n:Nat} (hq:q∈Qs) {m:List (List Int)} (hm:Rows q n m) {perm:List Nat} {fam:List (List Int)} (hM:Mx perm fam m) :
  ∃ perm' fam',Mx perm' fam' (red (fadd q) (fmul q) (fneg q) (finv q) n 0 0 m).1∧∀ {τ:Type} (k:Nat→LS_→Option τ),S84_0 [.I (fp q),.I (fe q),.N (fm q).length,.I n,.N m.length,.L (fm q),.LN perm,.LL fam] k =
   if (red (fadd q) (fmul q) (fneg q) (finv q) n 0 0 m).2=0 then k 1 [.N 0,.L (fm q),.LN perm',.LL fam'] else k 0 [.N (red (fadd q) (fmul q) (fneg q) (finv q) n 0 0 m).2,.L (fm q),.LN perm',.LL fam']:=by
 have hfu:=fuel_le
 have hf:=hm.few
 have hs:=hm.short
 obtain ⟨perm',fam',x,c1,c2⟩:=L84_3_spec0 hq fuel n 0 0 m perm fam hm hM (by omega) (Nat.zero_le _) (by omega)
 refine ⟨perm',fam',c1,fun {τ} k=>?_⟩
 unfold S84_0 L84_3.b
 simp only [g_,gLN_zero,gLN_succ]
 refine Eq.trans (c2 _) ?_
 obtain ⟨a,b,d⟩:=red_len (add:=fadd q) (mul:=fmul q) (neg:=fneg q) (inv:=finv q) n 0 0 m
 have d:=d (Nat.zero_le _)
 generalize (red (fadd q) (fmul q) (fneg q) (finv q) n 0 0 m).2=r at d ⊢
 simp only [g_,sw_zero,gLN_zero,gLN_succ,Int.toNat_natCast,Nat.sub_zero]
 rw [ck_of (by simp;omega)]
 by_cases hz:r=0
 ·rw [if_pos hz,br_no (by simp;omega)]
 ·rw [if_neg hz,br_of (by simp;omega)]
theorem L88_spec {τ:Type} (κ:Nat→LS_→Option τ) (a b:List Int) (hl:a.length=b.length) (hb:a.length<2^60):∀ (n j:Nat) (r:Bool),j≤a.length→a.length<n+j →
  runE L88_4 n κ 0 [.N a.length,.L a,.N b.length,.L b,.B r,.I a.length,.I j]=if a.drop j=b.drop j then κ 1 [.B r] else κ 0 [.B false]
 | 0,j,r,h1,h2=>by omega
 | n+1,j,r,h1,h2=>by
  rw [runE_succ]
  show L88_4.s0 _ _ _=_
  unfold L88_4.s0
  simp only [g_]
  by_cases hj:j<a.length
  ·have e:=wsucc (j:=j) (by omega)
   simp only [Int.toNat_natCast,Nat.mul_one]
   rw [br_of (by simp;omega),ck_of (by simp <;> omega),ck_of (by simp <;> omega),ck_of (by simp <;> omega),ck_of (by simp <;> omega),e,L88_spec κ a b hl hb n (j+1) r (by omega) (by omega)]
   rw [drop_cons (l:=a) (j:=j) 0 hj,drop_cons (l:=b) (j:=j) 0 (hl▸hj)]
   by_cases hq:a.getD j 0=b.getD j 0
   ·rw [br_no (by rw [hq];simp),hq];simp
   ·rw [br_of (by simpa using hq),if_neg (by intro h;injection h with h _;exact hq h)]
  ·have:j=a.length:=by omega
   rw [br_no (by simp;omega),if_pos (by rw [List.drop_eq_nil_of_le (by omega),List.drop_eq_nil_of_le (by omega)])]
theorem F88_spec {τ:Type} (k:Nat→LS_→Option τ) (a b:List Int) (hb:a.length<2^60):F88 [.L a,.L b] k=k 0 [.B (decide (a=b))]:=by
 unfold F88 L88_4.b
 simp only [gL_zero,gL_succ]
 by_cases hl:a.length=b.length
 ·have:=fuel_le
  rw [br_no (by simp [hl])]
  have e:=L88_spec (fun j l0=>(sw (k 0 [(Leaf.B (gB l0 0))]) (sw (k 0 [(Leaf.B Bool.true)]) (fun _=>none))) j) a b hl hb fuel 0 false (by omega) (by omega)
  rw [show ((0:Nat):Int)=0 from rfl] at e
  refine Eq.trans e ?_
  by_cases hq:a=b
  ·subst hq;simp
  ·simp [hq]
 ·rw [br_of (by simp;omega)]
  have:a≠b:=fun h=>hl (by rw [h])
  simp [this]
theorem L86_spec {a:List (List Int)} {perm:List Nat} {fam m:List (List Int)} (hM:Mx perm fam m) (hl:a.length≤m.length) (hs:a.length<2^60) (ha:∀ i,(a.getD i []).length<2^60) {τ:Type} (κ:Nat→LS_→Option τ):∀ (n j:Nat) (r:Bool),j≤a.length→a.length<n+j →
  runE L86_4 n κ 0 [.N a.length,.B r,.N a.length,.LL a,.I a.length,.I j,.LN perm,.LL fam]=if a.drop j=(m.take a.length).drop j then κ 1 [.B r,.LN perm,.LL fam] else κ 0 [.B false,.LN perm,.LL fam]
 | 0,j,r,h1,h2=>by omega
 | n+1,j,r,h1,h2=>by
  have hpl:=hM.len
  rw [runE_succ]
  show L86_4.s0 _ _ _=_
  unfold L86_4.s0
  simp only [g_,gLN_zero,gLN_succ,Int.toNat_natCast,Nat.mul_one,Nat.zero_add,List.drop_zero,List.take_length]
  by_cases hj:j<a.length
  ·have b1:=hM.lt j (by omega)
   have b2:=hM.eq j (by omega)
   have tg:(m.take a.length).getD j []=m.getD j []:=by simp [List.getD_eq_getElem?_getD,List.getElem?_take,hj]
   have nx:=L86_spec hM hl hs ha κ n (j+1) r (by omega) (by omega)
   rw [drop_cons (l:=a) (j:=j) [] hj,drop_cons (l:=m.take a.length) (j:=j) [] (by simp;omega),tg]
   generalize perm.getD j 0=Pj at b1 b2 ⊢
   rw [b2,br_of (by simp;omega),ck_of (by simp;omega),ck_of (by simp;omega),ck_of (by simp;omega),ck_of (by simp;omega),ck_of (by simp;omega),ck_of (by simp),F88_spec _ _ _ (ha j)]
   simp only [sw_zero,gB_zero]
   rw [wsucc (by omega),nx]
   by_cases hq:a.getD j []=m.getD j []
   ·rw [br_no (by rw [hq];simp),hq];simp
   ·rw [br_of (by simp only [hq,decide_false,Bool.not_false]),if_neg (by intro h;injection h with h _;exact hq h)]
  ·have:j=a.length:=by omega
   rw [br_no (by simp;omega),if_pos (by rw [List.drop_eq_nil_of_le (by omega),List.drop_eq_nil_of_le (by simp;omega)])]
theorem S86_0_spec {a:List (List Int)} {perm:List Nat} {fam m:List (List Int)} (hM:Mx perm fam m) {r:Nat} (hr:r≤m.length) (hs:a.length<2^60) (ha:∀ i,(a.getD i []).length<2^60) {τ:Type} (k:Nat→LS_→Option τ) :
  S86_0 [.N a.length,.LL a,.N r,.LN perm,.LL fam] k=k 0 [.B (decide (a=m.take r)),.LN perm,.LL fam]:=by
 have hfu:=fuel_le
 unfold S86_0 L86_4.b
 simp only [g_,gLN_zero,gLN_succ]
 by_cases hl:a.length=r
 ·subst hl
  rw [br_no (by simp)]
  have e:=L86_spec hM hr hs ha (fun j l86=>(sw (k 0 [.B (gB l86 0),.LN (gLN l86 1),.LL (gLL l86 2)]) (sw (k 0 [.B true,.LN (gLN l86 1),.LL (gLL l86 2)]) (fun _=>none))) j) fuel 0 false (by omega) (by omega)
  rw [show ((0:Nat):Int)=0 from rfl] at e
  refine Eq.trans e ?_
  by_cases hq:a=m.take a.length
  ·rw [if_pos (by rw [List.drop_zero,List.drop_zero];exact hq),show decide (a=m.take a.length)=true from decide_eq_true hq]
   simp
  ·rw [if_neg (by rw [List.drop_zero,List.drop_zero];exact hq),show decide (a=m.take a.length)=false from decide_eq_false hq]
   simp
 ·rw [br_of (by simp;omega)]
  have:a≠m.take r:=fun h=>hl (by rw [h];simp;omega)
  simp [this]
theorem L86_4_1_run (f:Nat) {τ:Type} (κ:Nat→LS_→Option τ) (l:LS_):runE L86_4_1 (f+1) κ 0 l=L86_4_1.s0 (runE L86_4_1 f κ) κ l:=rfl
theorem S86_1_spec {a:List (List Int)} (hs:a.length<2^60) {τ:Type} (k:Nat→LS_→Option τ):S86_1 [.N a.length,.LL a,.N 0] k=k 0 [.B (decide (a=[]))]:=by
 have hfu:=fuel_le
 unfold S86_1 L86_4_1.b
 simp only [g_]
 cases a with
 | nil =>
  rw [br_no (by simp),show fuel=(fuel-1)+1 by omega,L86_4_1_run]
  unfold L86_4_1.s0
  simp only [g_]
  rw [br_no (by simp)]
  simp
 | cons x xs =>
  rw [br_of (by simp;omega)]
  simp
def validB (q:Nat) (n:Int) (G:List (List Int)):Bool:=decide (1≤n)&&(decide (n≤24)&&(decide ((G.length:Int)≤n)&&(allWord q n G&&decide (G=(red (fadd q) (fmul q) (fneg q) (finv q) n.toNat 0 0 G).1.take (red (fadd q) (fmul q) (fneg q) (finv q) n.toNat 0 0 G).2))))
theorem F37_spec {q:Nat} (hq:q∈Qs) (n:Int) {G:List (List Int)} (hs:G.length<2^60) (hw:∀ i,(G.getD i []).length<2^60) {τ:Type} (k:Nat→LS_→Option τ):F37 [.I q,.I n,.LL G] k=k 0 [.B (validB q n G)]:=by
 unfold F37 validB
 simp only [g_]
 rw [ck_of (by simp),F85_spec hq n n hs hw]
 by_cases hc:1≤n∧n≤24∧(G.length:Int)≤n
 ·obtain ⟨c1,c2,c3⟩:=hc
  rw [if_pos ⟨c1,c2,c3⟩,decide_eq_true c1,decide_eq_true c2,decide_eq_true c3]
  simp only [g_,sw_zero,Bool.true_and]
  cases ha:allWord q n G with
  | false=>rw [br_no rfl];rfl
  | true =>
   obtain ⟨n',rfl⟩:∃ n':Nat,n=n':=⟨n.toNat,by omega⟩
   have hR:Rows q n' G:=⟨fun i hi=>by
    have:=isWord_iff.1 (allWord_iff.1 ha i (Nat.zero_le _) hi)
    exact ⟨by omega,fun j hj=>this.2 j (Nat.zero_le _) (by omega)⟩,by omega,by omega⟩
   obtain ⟨perm',fam',d1,d2⟩:=S84_0_spec hq hR (Mx_copy G)
   obtain ⟨a,b,d⟩:=red_len (add:=fadd q) (mul:=fmul q) (neg:=fneg q) (inv:=finv q) n' 0 0 G
   rw [br_of rfl,S87_0_spec hR]
   simp only [g_,sw_zero,gLN_zero,gLN_succ]
   rw [d2,Bool.true_and]
   have d:=d (Nat.zero_le _)
   have et:(n':Int).toNat=n':=rfl
   rw [et]
   by_cases hz:(red (fadd q) (fmul q) (fneg q) (finv q) n' 0 0 G).2=0
   ·rw [if_pos hz,hz]
    simp only [sw_one,sw_zero,gN_zero,List.take_zero]
    rw [S86_1_spec hs]
    exact congrArg (fun b=>k 0 [.B b]) (decide_eq_decide.2 Iff.rfl)
   ·rw [if_neg hz]
    simp only [sw_zero,gN_zero,gLL_zero,gLN_zero,gLL_succ,gLN_succ]
    rw [S86_0_spec d1 (by rw [a];exact d) hs hw]
    simp
 ·rw [if_neg hc]
  have:(decide (1≤n)&&(decide (n≤24)&&(decide ((G.length:Int)≤n)&&(allWord q n G&&decide (G=(red (fadd q) (fmul q) (fneg q) (finv q) n.toNat 0 0 G).1.take (red (fadd q) (fmul q) (fneg q) (finv q) n.toNat 0 0 G).2)))))=false:=by
   cases hb:(decide (1≤n)&&(decide (n≤24)&&(decide ((G.length:Int)≤n)&&(allWord q n G&&decide (G=(red (fadd q) (fmul q) (fneg q) (finv q) n.toNat 0 0 G).1.take (red (fadd q) (fmul q) (fneg q) (finv q) n.toNat 0 0 G).2))))) with
   | false=>rfl
   | true =>
    simp only [Bool.and_eq_true,decide_eq_true_eq] at hb
    exact absurd ⟨hb.1,hb.2.1,hb.2.2.1⟩ hc
  rw [this]
  simp
theorem validB_cd {q n:Nat} {G:List (List Int)} (h:Cd q n G):validB q n G=true:=by
 have hG:=h.rows
 have h1:=h.n0
 have h2:=h.n1
 have h3:=h.len_le
 unfold validB
 rw [show (n:Int).toNat=n from rfl,fix_red h]
 simp only [List.take_length,Bool.and_eq_true,decide_eq_true_eq,and_true]
 exact ⟨by omega,by omega,by omega,allWord_iff.2 fun i _ hi=>isWord_wd (hG.wd i hi)⟩
end
end Go.Proofs.Yticbdgmcofjkeaa.Ai
namespace Go.Proofs.Yticbdgmcofjkeaa.Ai
open Go Ma
noncomputable section
theorem far_le (lost:Nat→Bool) (w x:List Int) (a:Nat):∀ k,far lost w x a k≤k
 | 0=>Nat.le_refl _
 | k+1=>by rw [far_succ];have:=far_le lost w x a k;split <;> omega
theorem F71_spec {x:List Int} (h0:0<x.length) (h1:x.length<2^30) {τ:Type} (k:Nat→LS_→Option τ):F71 [.L x] k=k 0 [.N x.length,.L x]:=by
 unfold F71
 simp only [g_,Int.toNat_natCast,Nat.mul_one,Nat.zero_add,List.drop_zero,List.take_length,List.nil_append]
 rw [ck_of (by simp;omega),ck_of (by simp;omega)]
structure Sr (q n:Nat) (G:List (List Int)) (w:List Int) (lb:List Bool) (En:List Nat):Prop where
 hq:q∈Qs
 gr:Rows q n G
 wl:w.length=n
 bl:lb.length=n
 n0:1≤n
 n1:n≤1024
 el:En.length=G.length+1
 em:∀ i,i<G.length→En.getD i 0≤En.getD (i+1) 0
 en:∀ i,i≤G.length→En.getD i 0≤n
def found (q:Nat) (lost:Nat→Bool) (w:List Int) (r:Int) (G:List (List Int)) (En:List Nat) (i:Nat) (x:List Int) (t:Nat):List (List Int):=(dfs q (fadd q) (fmul q) lost w r (G.drop i) (En.drop i) x t).map (·.1)
def rest (q:Nat) (lost:Nat→Bool) (w:List Int) (r:Int) (G:List (List Int)) (En:List Nat) (i:Nat) (x:List Int) (t:Nat) (a:Nat):List (List Int) :=
 ((List.range q).drop a).flatMap fun (a:Nat)=>found q lost w r G En (i+1) (vadd (fadd q) x (vmul (fmul q) (a:Int) (G.getD i []))) (t+far lost w (vadd (fadd q) x (vmul (fmul q) (a:Int) (G.getD i []))) (En.getD i 0) (En.getD (i+1) 0-En.getD i 0))
section
variable {q:Nat} {lost:Nat→Bool} {w:List Int} {r:Int} {G:List (List Int)} {En:List Nat} {i:Nat} {x:List Int} {t:Nat}
end
end
end Go.Proofs.Yticbdgmcofjkeaa.Ai
namespace Go.Proofs.Yticbdgmcofjkeaa.Ai
open Go Ma
noncomputable section
def mark (g:List Int) (lb:List Bool):List Bool:=g.foldl (fun l i=>l.set i.toNat true) lb
def T35 {τ:Type} (l:LS_) (k:Nat→LS_→Option τ):Option τ:=wrapB F35.E (.v pCode) l k
def T35.E:Ent P:=F35.E.wrap (.v pCode)
def T25 {τ:Type} (l:LS_) (k:Nat→LS_→Option τ):Option τ:=wrapB F25.E (.v pM) l k
def T25.E:Ent P:=F25.E.wrap (.v pM)
theorem wrap_of {e:Ent P} {p:PV3} {ls l2 ls':LS_} {j:Nat} {c:Bool} (hw:∀ {τ:Type} (κ:Option (Bool×LS_)→Option τ),sel e.sh (fun s=>κ (wr3 p (fA s l2))) j=κ (some (c,ls'))) (hc:c=true) {τ:Type} {k:Nat→LS_→Option τ} (h:∀ κ:Nat→LS_→Option τ,e.b ls κ=κ j l2) :
  wrapB e p ls k=k 0 ls':=by
 unfold wrapB
 rw [h]
 refine (hw (fun o=>Option.rec (motive:=fun _=>Option τ) none (fun (q:Bool×LS_)=>ck q.1 (k 0 q.2)) o)).trans ?_
 subst hc
 rfl
theorem T35_specq {Q N K:Int} {L:List Int} (hQ:0≤Q∧Q<256) (hN:0≤N∧N<256) (hK:0≤K∧K<256) (hL:Bytes L) :
  ∃ (q n:Nat) (G:List (List Int)),(Q=0→q=2)∧Cd q n G∧∀ {τ:Type} (κ:Nat→LS_→Option τ),T35 [.I Q,.I N,.I K,.L L] κ=κ 0 [.I q,.I n,.LL G]:=by
 obtain ⟨q,n,M,r,h0,h1,h2,h3,h4⟩:=F35_specq hQ hN hK hL
 refine ⟨q,n,M.take r,h0,h1,fun {τ} κ=>?_⟩
 by_cases hr:r=0
 ·subst hr
  exact wrap_of (e:=F35.E) (p:=.v pCode) (j:=1) (l2:=[.I q,.I n,.N 0]) (c:=true) (ls':=[.I q,.I n,.LL []]) (by intro τ κ;kernel_rfl) rfl (fun κ=>(h4 κ).trans (if_pos rfl))
 ·have:=wrap_of (e:=F35.E) (p:=.v pCode) (j:=0) (l2:=[.I q,.I n,.N r,.LL M]) (c:=true&&(true&&(true&&(true&&(true&&(decide (r=(List.take (r*1) (List.drop 0 M)).length)&&true)))))) (ls':=[.I q,.I n,.LL (List.take (r*1) (List.drop 0 M))]) (by intro τ κ;kernel_rfl)
   (by rw [Nat.mul_one,List.drop_zero,h2];simp) (k:=κ) (fun κ=>(h4 κ).trans (if_neg hr))
  rw [Nat.mul_one,List.drop_zero] at this
  exact this
theorem T35_spec {Q N K:Int} {L:List Int} (hQ:0≤Q∧Q<256) (hN:0≤N∧N<256) (hK:0≤K∧K<256) (hL:Bytes L) :
  ∃ (q n:Nat) (G:List (List Int)),Cd q n G∧∀ {τ:Type} (κ:Nat→LS_→Option τ),T35 [.I Q,.I N,.I K,.L L] κ=κ 0 [.I q,.I n,.LL G]:=by
 obtain ⟨q,n,G,_,h⟩:=T35_specq hQ hN hK hL
 exact ⟨q,n,G,h⟩
theorem T25_spec {q n:Nat} (hq:q∈Qs) {G:List (List Int)} (hG:Rows q n G) (hc:q^G.length≤4096) {τ:Type} (k:Nat→LS_→Option τ) :
  T25 [.I q,.I n,.LL G] k=k 0 [.LL (words q (fadd q) (fmul q) G (List.replicate n 0))]:=by
 have hl:(words q (fadd q) (fmul q) G (List.replicate n 0)).length=q^G.length:=by
  have:=words_digs q (by have:=qs_lt hq;omega) (fadd q) (fmul q) G (List.replicate n 0)
  rw [←this,List.length_map,List.length_range]
 have:=wrap_of (e:=F25.E) (p:=.v pM) (j:=1) (l2:=[.N (q^G.length),.LL (words q (fadd q) (fmul q) G (List.replicate n 0))]) (c:=true&&(true&&(true&&decide (q^G.length=(List.take (q^G.length*1) (List.drop 0 (words q (fadd q) (fmul q) G (List.replicate n 0)))).length)))) (ls':=[.LL (List.take (q^G.length*1) (List.drop 0 (words q (fadd q) (fmul q) G (List.replicate n 0))))]) (by intro τ κ;kernel_rfl)
   (by rw [Nat.mul_one,List.drop_zero,List.take_of_length_le (by omega),hl];simp) (k:=k) (fun κ=>F25_spec hq hG hc κ)
 rw [Nat.mul_one,List.drop_zero,List.take_of_length_le (by omega)] at this
 exact this
theorem Rref.leads {q n:Nat} {G:List (List Int)} {piv:Nat→Nat} (h:Rref q n G piv):∀ i,i<G.length→piv i<n∧(∀ j,j<piv i→(G.getD i []).getD j 0=0)∧(G.getD i []).getD (piv i) 0≠0:=fun i hi=>by
 refine ⟨h.lt i hi,fun j hj=>h.lead i j hi hj,?_⟩
 have:=h.one i hi
 unfold ent at this
 rw [this]
 decide
end
end Go.Proofs.Yticbdgmcofjkeaa.Ai
namespace Go.Proofs.Yticbdgmcofjkeaa.Ai
open Go Go.RowKit
noncomputable section
variable {τ:Type} (t:Nat) (nx ex:Nat→LS_→Option τ) (l:LS_) (k κ:Nat→LS_→Option τ)
end
end Go.Proofs.Yticbdgmcofjkeaa.Ai
namespace Go.Proofs.Yticbdgmcofjkeaa.Ai
open Go Ma
noncomputable section
def Up (i:Nat) (g:List Int):Prop:=g.length≤i∧∀ k,k<g.length→Gn i g k
theorem Up.add {i:Nat} {g:List Int} (h:Up i g):Up (i+1) (g++[((i:Nat):Int)]):=by
 refine ⟨by simp;exact h.1,fun k hk=>?_⟩
 simp only [List.length_append,List.length_cons,List.length_nil] at hk
 have get:∀ j,j<g.length→(g++[((i:Nat):Int)]).getD j 0=g.getD j 0:=fun j hj=>by
  rw [List.getD_eq_getElem?_getD,List.getElem?_append_left hj,←List.getD_eq_getElem?_getD]
 have last:(g++[((i:Nat):Int)]).getD g.length 0=i:=by
  rw [List.getD_eq_getElem?_getD,List.getElem?_append_right (Nat.le_refl _)]
  simp
 unfold Gn
 by_cases hk2:k<g.length
 ·have:=h.2 k hk2
  unfold Gn at this
  rw [get k hk2]
  refine ⟨this.1,by omega,fun h0=>?_⟩
  rw [get (k-1) (by omega)]
  exact this.2.2 h0
 ·have:k=g.length:=by omega
  subst this
  rw [last]
  refine ⟨by omega,by omega,fun h0=>?_⟩
  rw [get _ (by omega)]
  exact (h.2 (g.length-1) (by omega)).2.1
theorem Up.skip {i:Nat} {g:List Int} (h:Up i g):Up (i+1) g:=by
 refine ⟨by have:=h.1;omega,fun k hk=>?_⟩
 have:=h.2 k hk
 unfold Gn at this ⊢
 exact ⟨this.1,by omega,this.2.2⟩
theorem Up.gone {i:Nat} {g:List Int} (h:Up i g):isGone i g=true:=isGone_iff.2 fun k _ hk=>h.2 k hk
theorem words_len {q n:Nat} (hq:q∈Qs) (G:List (List Int)) (z:List Int):(words q (fadd q) (fmul q) G z).length=q^G.length:=by
 rw [←words_digs q (by have:=qs_lt hq;omega) (fadd q) (fmul q) G z,List.length_map,List.length_range]
theorem Up.nil {n:Nat}:Up n []:=⟨Nat.zero_le _,fun k hk=>by simp at hk⟩
section
variable {q:Nat} {lost:Nat→Bool} {w:List Int} {G:List (List Int)} {En:List Nat} {i:Nat} {x:List Int} {t:Nat}
end
end
end Go.Proofs.Yticbdgmcofjkeaa.Ai
namespace Go.Proofs.Yticbdgmcofjkeaa.Ai
open Go Ma
noncomputable section
end
end Go.Proofs.Yticbdgmcofjkeaa.Ai
namespace Go.Proofs.Yticbdgmcofjkeaa.Ai
open Go Go.RowKit
noncomputable section
variable {τ:Type} (t:Nat) (nx ex:Nat→LS_→Option τ) (l:LS_) (k κ:Nat→LS_→Option τ)
end
end Go.Proofs.Yticbdgmcofjkeaa.Ai
namespace Go.Proofs.Yticbdgmcofjkeaa.Ai
open Go Ma
noncomputable section
end
end Go.Proofs.Yticbdgmcofjkeaa.Ai
