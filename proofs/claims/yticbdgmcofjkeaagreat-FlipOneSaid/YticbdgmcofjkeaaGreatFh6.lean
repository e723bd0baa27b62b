/-
Part 6 of 7 of the texts for one claim: P23 Xf4 Wd Wf Xj P30 Wg Fl0 Wi Xk Ma5 Ma6 P31 P33 Wj Wk Xn Ma7 Ma8 P36 Fl1 P37 Xs Ma9 Wn Xt Xr Wo Ai25 Qab Xva Xvb Xvd Xve.
-/
import Derived.Test.YticbdgmcofjkeaaGreatFh5
set_option linter.unusedVariables false
set_option linter.unusedSimpArgs false
namespace Go.Proofs.YticbdgmcofjkeaaGreat.Ai
open Go Ma
noncomputable section
theorem okLs_cons {p:PV1} {ps:List PV1} {ls:LS_} (h:okLs (p::ps) ls):∃ x ls',ls=x::ls'∧okLeaf p x∧okLs ps ls':=by
 cases ls with
 | nil=>have:=h.1;simp at this
 | cons x ls' =>
  refine ⟨x,ls',rfl,h.2 0 (by simp),by have:=h.1;simpa using this,fun j hj=>?_⟩
  exact h.2 (j+1) (by simpa using hj)
theorem okLs_nil {ls:LS_} (h:okLs [] ls):ls=[]:=List.length_eq_zero_iff.1 h.1
theorem ok_int {k:IntKind} {x:Leaf} (h:okLeaf (.int k) x):∃ n,x=.I n∧wfI k n:=by
 unfold okLeaf at h
 split at h
 ·rename_i e;cases e
 ·rename_i k' n e;cases e;exact ⟨n,rfl,h⟩
 ·rename_i e;cases e
 ·rename_i e;cases e
 ·exact h.elim
theorem ok_arr {k:IntKind} {x:Leaf} (h:okLeaf (.arr (.i k)) x):∃ l,x=.L l∧l.length≤maxLen∧∀ n∈l,wfI k n:=by
 unfold okLeaf at h
 split at h
 ·rename_i e;cases e
 ·rename_i e;cases e
 ·rename_i k' l e;cases e;exact ⟨l,rfl,h.1,h.2⟩
 ·rename_i e;cases e
 ·exact h.elim
theorem wf_u8 {n:Int} (h:wfI .u8 n):0≤n∧n<256:=by
 unfold wfI at h
 simp [Lit.wf,IntKind.min,IntKind.max,IntKind.signed,IntKind.bits] at h
 omega
theorem wf_u16 {n:Int} (h:wfI .u16 n):0≤n∧n<65536:=by
 unfold wfI at h
 simp [Lit.wf,IntKind.min,IntKind.max,IntKind.signed,IntKind.bits] at h
 omega
theorem ok_bytes {x:Leaf} (h:okLeaf (.arr (.i .u8)) x):∃ l,x=.L l∧Bytes l:=by
 obtain ⟨l,e,h1,h2⟩:=ok_arr h
 refine ⟨l,e,by unfold maxLen at h1;omega,fun j=>?_⟩
 by_cases hj:j<l.length
 ·rw [List.getD_eq_getElem?_getD,List.getElem?_eq_getElem hj]
  exact wf_u8 (h2 _ (List.getElem_mem hj))
 ·rw [List.getD_eq_getElem?_getD,List.getElem?_eq_none (by omega)]
  decide
structure Cs (q n:Nat) (G:List (List Int)) (s w g:List Int):Prop where
 cd:Cd q n G
 sent:s∈words q (fadd q) (fmul q) G (List.replicate n 0)
 wd:Wd q n w
 up:Up n g
theorem isRight_of {q n:Nat} {w g:List Int} (hw:Wd q n w) (hg:Up n g):isRight q n w g=true:=by
 unfold isRight
 rw [Bool.and_eq_true]
 exact ⟨isWord_iff.2 ⟨by rw [hw.1],fun i _ hi=>hw.2 i (by have:=hw.1;omega)⟩,hg.gone⟩
theorem Up.pos {n:Nat} {g:List Int} (h:Up n g):∀ k,k<g.length→0≤g.getD k 0:=fun k hk=>(h.2 k hk).1
section
variable {q n:Nat} {G:List (List Int)} {s w g:List Int}
theorem Cs.right (h:Cs q n G s w g):isRight q n w g=true:=isRight_of h.wd h.up
theorem Cs.gs (h:Cs q n G s w g):g.length<2^60:=by have:=h.up.1;have:=h.cd.n1;omega
theorem Cs.cnt (h:Cs q n G s w g):(words q (fadd q) (fmul q) G (List.replicate n 0)).length≤256:=by rw [words_len (n:=0) h.cd.fq];exact h.cd.count
end
theorem short2 {L:List (List Int)} (h:∀ r∈L,r.length<2^60):∀ i,(L.getD i []).length<2^60:=fun i=>by
 by_cases hi:i<L.length
 ·rw [List.getD_eq_getElem?_getD,List.getElem?_eq_getElem hi]
  exact h _ (List.getElem_mem hi)
 ·rw [List.getD_eq_getElem?_getD,List.getElem?_eq_none (by omega)]
  decide
end
end Go.Proofs.YticbdgmcofjkeaaGreat.Ai
namespace Go.Proofs.YticbdgmcofjkeaaGreat.Ai
open Go Go.RowKit
noncomputable section
variable {τ:Type} (t:Nat) (nx ex:Nat→LS_→Option τ) (l:LS_) (k κ:Nat→LS_→Option τ)
end
end Go.Proofs.YticbdgmcofjkeaaGreat.Ai
namespace Go.Proofs.YticbdgmcofjkeaaGreat.Ai
open Go Ma
noncomputable section
def T29 {τ:Type} (l:LS_) (k:Nat→LS_→Option τ):Option τ:=wrapB F29.E (.v pField) l k
def T29.E:Ent P:=F29.E.wrap (.v pField)
theorem T29_spec {q:Nat} (hq:q∈Qs) {τ:Type} (k:Nat→LS_→Option τ):T29 [.I q] k=k 0 [.I (fp q),.I (fe q),.L (fm q)]:=by
 have h:=fun {τ:Type} (κ:Nat→LS_→Option τ)=>F29_spec hq κ
 generalize fm q=M at h ⊢
 have:=wrap_of (e:=F29.E) (p:=.v pField) (j:=0) (l2:=[.I (fp q),.I (fe q),.N M.length,.L M]) (c:=true&&(true&&(true&&(true&&(true&&(decide (M.length=(List.take (M.length*1) (List.drop 0 M)).length)&&true)))))) (ls':=[.I (fp q),.I (fe q),.L (List.take (M.length*1) (List.drop 0 M))]) (by intro τ κ;kernel_rfl) (by simp) (k:=k) (fun κ=>h κ)
 rw [Nat.mul_one,List.drop_zero,List.take_length] at this
 exact this
end
end Go.Proofs.YticbdgmcofjkeaaGreat.Ai
namespace Go.Proofs.YticbdgmcofjkeaaGreat.Ai
open Go Go.RowKit
noncomputable section
variable {τ:Type} (t:Nat) (nx ex:Nat→LS_→Option τ) (l:LS_) (k κ:Nat→LS_→Option τ)
def jao0:List PO:=[(oG [pI,pI,qM]),(oG [pI,pI,nS]),(oG [pI,pI,qR]),oI]
def jao1:List PO:=[(oG [pI,pI,qM]),(oG [pI,pI,nS]),(oG [pI,pI,qR]),oI,oM,oI]
def L78_2.H:LHead:=⟨false,true,0,278530,278530,9,8,0,[(PS.mk (qR::us 2 (pI::us 8 [])) [])],[((Out.exit 0),(PS.mk (us 3 (pI::us 8 [])) []))]⟩
def L78_2.O:Orc P:=⟨[],[],[],40⟩
def L78_2.s0:Option τ :=
 ck (((leI 0 (gI l 2))&&(ltI (gI l 2) (gN l 0)))&&true)
 (ck (ltN ((Int.toNat (gI l 2))*1) (List.length (gL l 1)))
 (br ((List.getD (gL l 1) ((Int.toNat (gI l 2))*1) 0)==0)
 (nx 0 [.N (gN l 0),.L (gL l 1),.I (wr .i64 ((gI l 2)+1))])
 (ex 0 [.I (gI l 2)])))
theorem L78_2.e0:LEq L78_2.O L78_2.H 0 L78_2.s0:=by intro τ next κ l;kernel_rfl
def L78_2:LStep P Cf:=LStep.mk1 (by decide) L78_2.e0
def L78_2.b:Option τ:=runE L78_2 fuel κ t l
def L78_2.E:LEnt P:=LStep.E L78_2
def F78.ps:List PV2:=[pR]
def F78.sh:List PA:=[(PA.mk (PV3.v pI) [])]
def F78.O:Orc P:=⟨[],[L78_2.E],[],40⟩
def F78:Option τ :=
 L78_2.b 0 [.N (List.length (gL l 0)),.L (gL l 0),.I 0]
 (fun j A=>(sw (k 0 [.I (gI A 0)])
 (fun _=>none)) j)
theorem F78.eq:FEq F78.O 68 F78.ps F78.sh F78:=by intro τ l κ;kernel_rfl
def F78.E:Ent P:=mkF F78.eq
def L33_4.H:LHead:=⟨false,true,0,122884,122884,62,30,0,[(PS.mk (us 1 ((pp 0)::(pp 1)::(pp 2)::(rr 3)::pI::us 87 [])) jao0)],[((Out.exit 0),(PS.mk (us 1 ((pp 0)::(pp 1)::(pp 2)::(rr 3)::us 88 [])) jao0))]⟩
def L33_4.O:Orc P:=⟨[F78.E],[],[],40⟩
def L33_4.s0:Option τ :=
 br (ltI (gI l 1) (gN l 4))
 (ck (((leI 0 (gI l 1))&&(ltI (gI l 1) (gN l 4)))&&true)
 (ck (ltN ((Int.toNat (gI l 1))*1) (List.length (gLL l 5)))
 (ck ((eqM (List.length (List.getD (gLL l 5) ((Int.toNat (gI l 1))*1) [])) (List.length (List.getD (gLL l 5) ((Int.toNat (gI l 1))*1) [])))&&true)
 (F78 [.L (List.getD (gLL l 5) ((Int.toNat (gI l 1))*1) [])]
 (fun j A=>(sw (ck (((leI 0 (gI A 0))&&(ltI (gI A 0) (gN l 0)))&&true)
 (ck ((leN ((0+((Int.toNat (gI A 0))*1))+1) (List.length (gL l 12)))&&true)
 (nx 0 [.N (gN l 0),.I (wr .i64 ((gI l 1)+1)),.I (gI l 2),.I (gI l 3),.N (gN l 4),.LL (gLL l 5),.I (gI l 6),.I (gI l 7),.I (gI l 8),.I (gI l 9),.N (gN l 10),.L (gL l 11),.L (List.set (gL l 12) (0+((Int.toNat (gI A 0))*1)) (wr .i64 ((gI l 1)+1)))])))
 (fun _=>none)) j)))))
 (ex 0 [.N (gN l 0),.I (gI l 2),.I (gI l 3),.N (gN l 4),.LL (gLL l 5),.I (gI l 6),.I (gI l 7),.I (gI l 8),.I (gI l 9),.N (gN l 10),.L (gL l 11),.L (gL l 12)])
theorem L33_4.e0:LEq L33_4.O L33_4.H 0 L33_4.s0:=by intro τ next κ l;kernel_rfl
def L33_4:LStep P Cf:=LStep.mk1 (by decide) L33_4.e0
def L33_4.b:Option τ:=runE L33_4 fuel κ t l
def L33_4.E:LEnt P:=LStep.E L33_4
def L33_15.H:LHead:=⟨false,true,0,122895,122895,990,478,0,[(PS.mk (us 1 ((pp 0)::(pp 1)::(pp 2)::(rr 3)::us 1 ((rr 4)::pI::(rr 5)::pI::us 83 []))) jao1)],[((Out.exit 4),(PS.mk (us 1 ((pp 0)::(pp 1)::(pp 2)::(rr 3)::us 1 ((rr 4)::pI::(rr 5)::us 84 []))) jao1))]⟩
def L33_15.O:Orc P:=⟨[T79.E],[],[],40⟩
def L33_15.s0:Option τ :=
 br (ltI (gI l 4) (gI l 6))
 (ck (((leI 0 (gI l 4))&&(ltI (gI l 4) (gN l 0)))&&true)
 (ck (ltN (0+((Int.toNat (gI l 4))*1)) (List.length (gL l 15)))
 (br (gtI (List.getD (gL l 15) (0+((Int.toNat (gI l 4))*1)) 0) 0)
 (ck (((leI 0 (gI l 4))&&(ltI (gI l 4) (gN l 0)))&&true)
 (ck (ltN (0+((Int.toNat (gI l 4))*1)) (List.length (gL l 15)))
 (ck (((leI 0 (wr .i64 ((List.getD (gL l 15) (0+((Int.toNat (gI l 4))*1)) 0)-1)))&&(ltI (wr .i64 ((List.getD (gL l 15) (0+((Int.toNat (gI l 4))*1)) 0)-1)) (((gN l 7):Nat):Int)))&&true)
 (ck (ltN ((Int.toNat (wr .i64 ((List.getD (gL l 15) (0+((Int.toNat (gI l 4))*1)) 0)-1)))*1) (List.length (gLL l 8)))
 (ck (((leI 0 (gI l 2))&&(ltI (gI l 2) (((List.length (List.getD (gLL l 8) ((Int.toNat (wr .i64 ((List.getD (gL l 15) (0+((Int.toNat (gI l 4))*1)) 0)-1)))*1) [])):Nat):Int)))&&true)
 (ck (ltN ((Int.toNat (gI l 2))*1) (List.length (List.getD (gLL l 8) ((Int.toNat (wr .i64 ((List.getD (gL l 15) (0+((Int.toNat (gI l 4))*1)) 0)-1)))*1) [])))
 (ck (((eqM (gN l 13) (List.length (gL l 14)))&&true)&&true)
 (T79 [.I (gI l 11),.I (gI l 12),.L (gL l 14),.I (List.getD (List.getD (gLL l 8) ((Int.toNat (wr .i64 ((List.getD (gL l 15) (0+((Int.toNat (gI l 4))*1)) 0)-1)))*1) []) ((Int.toNat (gI l 2))*1) 0)]
 (fun j A=>(sw (ck (((leI 0 (gI l 4))&&(ltI (gI l 4) (gN l 3)))&&true)
 (ck ((leN ((0+((Int.toNat (gI l 4))*1))+1) (List.length (gL l 17)))&&true)
 (nx 0 [.N (gN l 0),.N (gN l 1),.I (gI l 2),.N (gN l 3),.I (wr .i64 ((gI l 4)+1)),.I (gI l 5),.I (gI l 6),.N (gN l 7),.LL (gLL l 8),.I (gI l 9),.I (gI l 10),.I (gI l 11),.I (gI l 12),.N (gN l 13),.L (gL l 14),.L (gL l 15),.LL (gLL l 16),.L (List.set (gL l 17) (0+((Int.toNat (gI l 4))*1)) (gI A 0))])))
 (fun _=>none)) j)))))))))
 (nx 0 [.N (gN l 0),.N (gN l 1),.I (gI l 2),.N (gN l 3),.I (wr .i64 ((gI l 4)+1)),.I (gI l 5),.I (gI l 6),.N (gN l 7),.LL (gLL l 8),.I (gI l 9),.I (gI l 10),.I (gI l 11),.I (gI l 12),.N (gN l 13),.L (gL l 14),.L (gL l 15),.LL (gLL l 16),.L (gL l 17)]))))
 (ex 0 [.N (gN l 0),.N (gN l 1),.I (gI l 2),.N (gN l 3),.I (gI l 5),.I (gI l 6),.N (gN l 7),.LL (gLL l 8),.I (gI l 9),.I (gI l 10),.I (gI l 11),.I (gI l 12),.N (gN l 13),.L (gL l 14),.L (gL l 15),.LL (gLL l 16),.L (gL l 17)])
theorem L33_15.e0:LEq L33_15.O L33_15.H 0 L33_15.s0:=by intro τ next κ l;kernel_rfl
def L33_15:LStep P Cf:=LStep.mk1 (by decide) L33_15.e0
def L33_15.b:Option τ:=runE L33_15 fuel κ t l
def L33_15.E:LEnt P:=LStep.E L33_15
def L33_9.H:LHead:=⟨false,true,0,122889,122889,222,78,0,[(PS.mk (us 1 ((pp 0)::(pp 1)::(pp 2)::(rr 3)::us 1 ((rr 4)::pI::us 85 []))) [(oG [pI,pI,qM]),(oG [pI,pI,nS]),(oG [pI,pI,qR]),oI,oM])],[((Out.exit 2),(PS.mk (us 1 ((pp 0)::(pp 1)::(pp 2)::us 2 ((rr 3)::us 86 []))) [(oG [pI,pI,qM]),(oG [pI,pI,nS]),(oG [pI,pI,qR]),oM]))]⟩
def L33_9.O:Orc P:=⟨[F32.E],[L33_15.E],[],40⟩
def L33_9.s0:Option τ :=
 br (ltI (gI l 2) (gI l 4))
 (ck (((leI 0 (gI l 2))&&(ltI (gI l 2) (gN l 0)))&&true)
 (ck (ltN (0+((Int.toNat (gI l 2))*1)) (List.length (gL l 13)))
 (br (gtI (List.getD (gL l 13) (0+((Int.toNat (gI l 2))*1)) 0) 0)
 (nx 0 [.N (gN l 0),.N (gN l 1),.I (wr .i64 ((gI l 2)+1)),.I (gI l 3),.I (gI l 4),.N (gN l 5),.LL (gLL l 6),.I (gI l 7),.I (gI l 8),.I (gI l 9),.I (gI l 10),.N (gN l 11),.L (gL l 12),.L (gL l 13),.LL (gLL l 14)])
 (F32 [.I (gI l 4)]
 (fun j A=>(sw (ck (((leI 0 (gI l 2))&&(ltI (gI l 2) (gN A 0)))&&true)
 (ck ((leN ((0+((Int.toNat (gI l 2))*1))+1) (List.length (gL A 1)))&&true)
 (L33_15.b 0 [.N (gN l 0),.N (gN l 1),.I (gI l 2),.N (gN A 0),.I 0,.I (gI l 3),.I (gI l 4),.N (gN l 5),.LL (gLL l 6),.I (gI l 7),.I (gI l 8),.I (gI l 9),.I (gI l 10),.N (gN l 11),.L (gL l 12),.L (gL l 13),.LL (gLL l 14),.L (List.set (gL A 1) (0+((Int.toNat (gI l 2))*1)) 1)]
 (fun j B=>(sw (ck ((eqM (gN B 3) (List.length (List.take ((gN B 3)*1) (List.drop 0 (gL B 16)))))&&true)
 (ck (((((eqM (List.length (gLL B 15)) ((gN B 1)*1))&&true)&&(eqM 1 1))&&(leN (((gN B 1)+1)*25) 1099511627776))&&true)
 (nx 0 [.N (gN B 0),.N ((gN B 1)+1),.I (wr .i64 ((gI B 2)+1)),.I (gI B 4),.I (gI B 5),.N (gN B 6),.LL (gLL B 7),.I (gI B 8),.I (gI B 9),.I (gI B 10),.I (gI B 11),.N (gN B 12),.L (gL B 13),.L (gL B 14),.LL ((gLL B 15)++(List.take 1 (List.drop 0 [(List.take ((gN B 3)*1) (List.drop 0 (gL B 16)))])))])))
 (fun _=>none)) j))))
 (fun _=>none)) j)))))
 (ex 0 [.N (gN l 1),.I (gI l 3),.I (gI l 4),.N (gN l 5),.LL (gLL l 6),.I (gI l 7),.I (gI l 8),.I (gI l 9),.I (gI l 10),.N (gN l 11),.L (gL l 12),.LL (gLL l 14)])
theorem L33_9.e0:LEq L33_9.O L33_9.H 0 L33_9.s0:=by intro τ next κ l;kernel_rfl
def L33_9:LStep P Cf:=LStep.mk1 (by decide) L33_9.e0
def L33_9.b:Option τ:=runE L33_9 fuel κ t l
def L33_9.E:LEnt P:=LStep.E L33_9
def F33.ps:List PV2:=[pCode]
def F33.sh:List PA:=[(PA.mk (PV3.v (PV2.agg [iI,iI,(r1 0)])) [cM]),(PA.mk (PV3.v (PV2.agg [iI,iI,(PV1.sl PC0.e)])) [])]
def F33.O:Orc P:=⟨[T29.E,F80.E],[L33_4.E,L33_9.E],[],40⟩
def F33:Option τ :=
 T29 [.I (gI l 0)]
 (fun j A=>(sw (ck (((leI 0 (gI l 1))&&(leI (gI l 1) (gI l 1)))&&(leI ((gI l 1)*9) 1099511627776))
 (L33_4.b 0 [.N (Int.toNat (gI l 1)),.I 0,.I (gI l 0),.I (gI l 1),.N (List.length (gLL l 2)),.LL (gLL l 2),.I 0,.I 0,.I (gI A 0),.I (gI A 1),.N (List.length (gL A 2)),.L (gL A 2),.L (List.replicate (Int.toNat (gI l 1)) (0:Int))]
 (fun j B=>(sw (L33_9.b 0 [.N (gN B 0),.N 0,.I 0,.I (gI B 1),.I (gI B 2),.N (gN B 3),.LL (gLL B 4),.I (gI B 5),.I (gI B 6),.I (gI B 7),.I (gI B 8),.N (gN B 9),.L (gL B 10),.L (gL B 11),.LL []]
 (fun j C=>(sw (ck (((eqM (gN C 9) (List.length (gL C 10)))&&true)&&((eqM (gN C 0) (List.length (List.take ((gN C 0)*1) (List.drop 0 (gLL C 11)))))&&true))
 (F80 [.I (gI C 7),.I (gI C 8),.L (gL C 10),.I (gI C 2),.LL (List.take ((gN C 0)*1) (List.drop 0 (gLL C 11)))]
 (fun j D=>(sw (k 0 [.I (gI C 1),.I (gI C 2),.N (gN D 0),.LL (gLL D 1)])
 (sw (k 1 [.I (gI C 1),.I (gI C 2),.N (gN D 0)])
 (fun _=>none))) j)))
 (fun _=>none)) j))
 (fun _=>none)) j)))
 (fun _=>none)) j)
theorem F33.eq:FEq F33.O 30 F33.ps F33.sh F33:=by intro τ l κ;kernel_rfl
def F33.E:Ent P:=mkF F33.eq
def F39.ps:List PV2:=[pCode,pCode]
def F39.sh:List PA:=[(PA.mk (PV3.v pB) [])]
def F39.O:Orc P:=⟨[F22.E],[],[],40⟩
def F39:Option τ :=
 br ((gI l 0)==(gI l 3))
 (br ((gI l 1)==(gI l 4))
 (ck ((eqM (List.length (gLL l 2)) (List.length (gLL l 2)))&&((eqM (List.length (gLL l 5)) (List.length (gLL l 5)))&&true))
 (F22 [.LL (gLL l 2),.LL (gLL l 5)]
 (fun j A=>(sw (k 0 [.B (gB A 0)])
 (fun _=>none)) j)))
 (k 0 [.B false]))
 (k 0 [.B false])
theorem F39.eq:FEq F39.O 40 F39.ps F39.sh F39:=by intro τ l κ;kernel_rfl
def F39.E:Ent P:=mkF F39.eq
end
end Go.Proofs.YticbdgmcofjkeaaGreat.Ai
namespace Go.Proofs.YticbdgmcofjkeaaGreat.Ai
open Go Ma
noncomputable section
def fnz (r:List Int):Nat:=r.findIdx fun a=>a != 0
theorem fz_ne {r:List Int} (h:fnz r<r.length):r.getD (fnz r) 0≠0:=by
 unfold fnz at h ⊢
 have:=List.findIdx_getElem (p:=fun a:Int=>a != 0) (xs:=r) (w:=h)
 rw [List.getD_eq_getElem?_getD,List.getElem?_eq_getElem h]
 simpa using this
theorem fz_lt {r:List Int} {j:Nat} (h:j<fnz r):r.getD j 0=0:=by
 have hl:j<r.length:=Nat.lt_of_lt_of_le h List.findIdx_le_length
 have:=List.not_of_lt_findIdx (p:=fun a:Int=>a != 0) (xs:=r) h
 rw [List.getD_eq_getElem?_getD,List.getElem?_eq_getElem hl]
 simpa using this
theorem fz_eq {r:List Int} {k:Nat} (h0:∀ j,j<k→r.getD j 0=0) (h1:r.getD k 0≠0):fnz r=k:=by
 have hk:k<r.length:=by
  rcases Nat.lt_or_ge k r.length with h | h
  ·exact h
  ·exact absurd (by rw [List.getD_eq_getElem?_getD,List.getElem?_eq_none h];rfl) h1
 rcases Nat.lt_trichotomy (fnz r) k with h | h | h
 ·exact absurd (h0 _ h) (fz_ne (by omega))
 ·exact h
 ·exact absurd (fz_lt h) h1
structure Lc (q n:Nat) (G:List (List Int)):Prop where
 fq:q∈Qs
 n0:1≤n
 n1:n≤24
 form:∃ piv,Rref q n G piv
theorem Cd.lc {q n:Nat} {G:List (List Int)} (h:Cd q n G):Lc q n G:=⟨h.fq,h.n0,by have:=h.n1;omega,h.form⟩
theorem rref_fz {q n:Nat} {G:List (List Int)} {piv:Nat→Nat} (h:Rref q n G piv) {i:Nat} (hi:i<G.length):fnz (G.getD i [])=piv i :=
 fz_eq (fun j hj=>h.lead i j hi hj) (by have:=h.one i hi;unfold ent at this;rw [this];omega)
theorem rref_len {q n:Nat} {G:List (List Int)} {piv:Nat→Nat} (h:Rref q n G piv):G.length≤n:=by
 have:∀ k,k≤G.length→∀ i,i<k→i≤piv i:=by
  intro k
  induction k with
  | zero=>intro _ i hi;omega
  | succ k ih =>
   intro hk i hi
   rcases Nat.lt_or_ge i k with h1 | h1
   ·exact ih (by omega) i h1
   ·have e:i=k:=by omega
    subst e
    cases i with
    | zero=>omega
    | succ i =>
     have:=ih (by omega) i (by omega)
     have:=h.mono i (i+1) (by omega) (by omega)
     omega
 rcases Nat.eq_zero_or_pos G.length with e | e
 ·omega
 ·have h1:=this G.length (Nat.le_refl _) (G.length-1) (by omega)
  have h2:=h.lt (G.length-1) (by omega)
  omega
theorem Lc.rows {q n:Nat} {G:List (List Int)} (h:Lc q n G):Rows q n G:=by
 obtain ⟨piv,R⟩:=h.form
 have:=rref_len R
 have:=h.n1
 exact ⟨R.wd,by omega,by omega⟩
theorem Lc.len {q n:Nat} {G:List (List Int)} (h:Lc q n G):G.length≤n:=by
 obtain ⟨piv,R⟩:=h.form
 exact rref_len R
theorem Lc.fnzs {q n:Nat} {G:List (List Int)} (h:Lc q n G) {i:Nat} (hi:i<G.length):fnz (G.getD i [])<n∧(G.getD i []).length=n:=by
 obtain ⟨piv,R⟩:=h.form
 exact ⟨by rw [rref_fz R hi];exact R.lt i hi,(R.wd i hi).1⟩
theorem L78_2_spec {r:List Int} (hs:r.length<2^60) (hp:fnz r<r.length) {τ:Type} (κ:Nat→LS_→Option τ):∀ (f j:Nat),j≤fnz r→r.length<f+j →
  runE L78_2 f κ 0 [.N r.length,.L r,.I j]=κ 0 [.I (fnz r)]
 | 0,j,h1,h2=>by omega
 | f+1,j,h1,h2=>by
  rw [runE_succ]
  show L78_2.s0 _ _ _=_
  unfold L78_2.s0
  simp only [g_,Int.toNat_natCast,Nat.mul_one]
  rw [ck_of (by simp;omega),ck_of (by simp;omega)]
  rcases Nat.lt_or_ge j (fnz r) with h | h
  ·rw [br_of (by rw [fz_lt h];rfl),wsucc (j:=j) (by omega)]
   exact L78_2_spec hs hp κ f (j+1) (by omega) (by omega)
  ·have e:j=fnz r:=by omega
   subst e
   rw [br_no (by simpa using fz_ne hp)]
theorem F78_spec {r:List Int} (hs:r.length<2^60) (hp:fnz r<r.length) {τ:Type} (k:Nat→LS_→Option τ):F78 [.L r] k=k 0 [.I (fnz r)]:=by
 have hfu:=fuel_le
 unfold F78 L78_2.b
 simp only [gL_zero]
 refine (L78_2_spec hs hp _ fuel 0 (by omega) (by omega)).trans ?_
 simp only [sw_zero,gI_zero]
def pA (n:Nat) (G:List (List Int)):Nat→List Int
 | 0=>List.replicate n 0
 | i+1=>(pA n G i).set (fnz (G.getD i [])) (((i+1:Nat):Nat):Int)
theorem pA_len (n:Nat) (G:List (List Int)):∀ i,(pA n G i).length=n
 | 0=>by simp [pA]
 | i+1=>by simp [pA,pA_len n G i]
theorem L33_4_spec {n:Nat} (hn:n<2^20) {G:List (List Int)} (hG:G.length<2^20) (hp:∀ i,i<G.length→fnz (G.getD i [])<n∧(G.getD i []).length=n) (q a b p e:Int) (c:Nat) (M:List Int) {τ:Type} (κ:Nat→LS_→Option τ):∀ (f i:Nat),i≤G.length→G.length<f+i →
  runE L33_4 f κ 0 [.N n,.I i,.I q,.I n,.N G.length,.LL G,.I a,.I b,.I p,.I e,.N c,.L M,.L (pA n G i)]
   = κ 0 [.N n,.I q,.I n,.N G.length,.LL G,.I a,.I b,.I p,.I e,.N c,.L M,.L (pA n G G.length)]
 | 0,i,h1,h2=>by omega
 | f+1,i,h1,h2=>by
  rw [runE_succ]
  show L33_4.s0 _ _ _=_
  unfold L33_4.s0
  simp only [g_,Int.toNat_natCast,Nat.mul_one,Nat.zero_add]
  by_cases hi:i<G.length
  ·obtain ⟨p1,p2⟩:=hp i hi
   have pl:=pA_len n G i
   have ih:=L33_4_spec hn hG hp q a b p e c M κ f (i+1) (by omega) (by omega)
   rw [show pA n G (i+1)=(pA n G i).set (fnz (G.getD i [])) ((i+1:Nat):Int) from rfl] at ih
   rw [br_of (by simp;omega),ck_of (by simp;omega),ck_of (by simp;omega),ck_of (by simp),F78_spec (by omega) (by omega)]
   simp only [sw_zero,gI_zero,Int.toNat_natCast]
   generalize fnz (G.getD i [])=z at p1 p2 ih ⊢
   rw [ck_of (by simp;omega),ck_of (by simp;omega),wsucc (j:=i) (by omega)]
   exact ih
  ·have:i=G.length:=by omega
   subst this
   rw [br_no (by simp)]
def drow (q n:Nat) (A:List Int) (G:List (List Int)) (j k:Nat):List Int :=
 (List.range n).map fun t=>if t<k∧0<A.getD t 0 then fneg q ((G.getD ((A.getD t 0).toNat-1) []).getD j 0) else if t=j then 1 else 0
theorem drow_len {q n:Nat} {A:List Int} {G:List (List Int)} {j k:Nat}:(drow q n A G j k).length=n:=by simp [drow]
theorem drow_get {q n:Nat} {A:List Int} {G:List (List Int)} {j k t:Nat} (ht:t<n):(drow q n A G j k).getD t 0=if t<k∧0<A.getD t 0 then fneg q ((G.getD ((A.getD t 0).toNat-1) []).getD j 0) else if t=j then 1 else 0:=by
 simp [drow,List.getD_eq_getElem?_getD,ht]
theorem drow_zero {q n:Nat} {A:List Int} {G:List (List Int)} {j:Nat} (hj:j<n):(List.replicate n (0:Int)).set j 1=drow q n A G j 0 :=
 ext_getD (by rw [drow_len];simp) fun t ht=>by
  simp only [List.length_set,List.length_replicate] at ht
  rw [drow_get ht,if_neg (by omega),List.getD_eq_getElem?_getD,List.getElem?_set]
  by_cases e:j=t
  ·subst e;simp [hj]
  ·rw [if_neg e,if_neg (fun x=>e x.symm)];simp [ht]
theorem drow_skip {q n:Nat} {A:List Int} {G:List (List Int)} {j k:Nat} (h:¬ 0<A.getD k 0):drow q n A G j (k+1)=drow q n A G j k :=
 ext_getD (by rw [drow_len,drow_len]) fun t ht=>by
  rw [drow_len] at ht
  rw [drow_get ht,drow_get ht]
  by_cases e:t=k
  ·subst e;rw [if_neg (c:=t<t+1∧0<A.getD t 0) (fun x=>h x.2),if_neg (c:=t<t∧0<A.getD t 0) (fun x=>h x.2)]
  ·by_cases c:t<k∧0<A.getD t 0
   ·rw [if_pos c,if_pos (c:=t<k+1∧0<A.getD t 0) ⟨by omega,c.2⟩]
   ·rw [if_neg c,if_neg (c:=t<k+1∧0<A.getD t 0) (fun x=>c ⟨by omega,x.2⟩)]
theorem drow_step {q n:Nat} {A:List Int} {G:List (List Int)} {j k:Nat} (hk:k<n) (h:0<A.getD k 0):(drow q n A G j k).set k (fneg q ((G.getD ((A.getD k 0).toNat-1) []).getD j 0))=drow q n A G j (k+1) :=
 ext_getD (by rw [List.length_set,drow_len,drow_len]) fun t ht=>by
  rw [List.length_set,drow_len] at ht
  rw [drow_get ht,List.getD_eq_getElem?_getD,List.getElem?_set]
  by_cases e:k=t
  ·subst e;rw [if_pos rfl,if_pos (by rw [drow_len];exact hk),if_pos (c:=k<k+1∧0<A.getD k 0) ⟨by omega,h⟩];rfl
  ·rw [if_neg e,←List.getD_eq_getElem?_getD,drow_get ht]
   by_cases c:t<k∧0<A.getD t 0
   ·rw [if_pos c,if_pos (c:=t<k+1∧0<A.getD t 0) ⟨by omega,c.2⟩]
   ·rw [if_neg c,if_neg (c:=t<k+1∧0<A.getD t 0) (fun x=>c ⟨by omega,x.2⟩)]
structure Cols (q n:Nat) (A:List Int) (G:List (List Int)):Prop where
 len:A.length=n
 at_:∀ t,t<n→0≤A.getD t 0∧A.getD t 0≤G.length
theorem L33_15_spec {q n:Nat} (hq:q∈Qs) {A:List Int} {G:List (List Int)} (hR:Rows q n G) (hA:Cols q n A G) (cnt:Nat) {j:Nat} (hj:j<n) (a b Q:Int) (rows:List (List Int)) {τ:Type} (κ:Nat→LS_→Option τ):∀ (f k:Nat),k≤n→n<f+k →
  runE L33_15 f κ 0 [.N n,.N cnt,.I j,.N n,.I k,.I Q,.I n,.N G.length,.LL G,.I a,.I b,.I (fp q),.I (fe q),.N (fm q).length,.L (fm q),.L A,.LL rows,.L (drow q n A G j k)]
   = κ 0 [.N n,.N cnt,.I j,.N n,.I Q,.I n,.N G.length,.LL G,.I a,.I b,.I (fp q),.I (fe q),.N (fm q).length,.L (fm q),.L A,.LL rows,.L (drow q n A G j n)]
 | 0,k,h1,h2=>by omega
 | f+1,k,h1,h2=>by
  have hn:=hR.short
  have hg:=hR.few
  have hAl:=hA.len
  rw [runE_succ]
  show L33_15.s0 _ _ _=_
  unfold L33_15.s0
  simp only [g_,Int.toNat_natCast,Nat.mul_one,Nat.zero_add]
  by_cases hk:k<n
  ·rw [br_of (by simp;omega),ck_of (by simp;omega),ck_of (by simp;omega)]
   obtain ⟨a0,a1⟩:=hA.at_ k hk
   by_cases h:0<A.getD k 0
   ·obtain ⟨x,hx,hxl⟩:∃ x:Nat,A.getD k 0-1=(x:Int)∧x<G.length:=⟨(A.getD k 0-1).toNat,by omega,by omega⟩
    have hx2:(A.getD k 0).toNat-1=x:=by omega
    have wx:=hR.wd x hxl
    have wxl:=wx.1
    have wj:=wx.2 j hj
    have st:=drow_step (q:=q) (G:=G) (j:=j) hk h
    rw [hx2] at st
    have dl:=drow_len (q:=q) (n:=n) (A:=A) (G:=G) (j:=j) (k:=k)
    rw [br_of (by simpa using h),ck_of (by simp;omega),ck_of (by simp;omega),wr64 (n:=A.getD k 0-1) (by omega) (by omega),hx,Int.toNat_natCast]
    generalize G.getD x []=X at wx wxl wj st ⊢
    rw [ck_of (by simp;omega),ck_of (by simp;omega),ck_of (by simp;omega),ck_of (by simp;omega),ck_of (by simp)]
    unfold T79
    rw [tab1_of hq wj.1 wj.2]
    simp only [sw_zero,gI_zero]
    rw [ck_of (by simp;omega),ck_of (by simp;omega),wsucc (j:=k) (by omega),st]
    exact L33_15_spec hq hR hA cnt hj a b Q rows κ f (k+1) (by omega) (by omega)
   ·rw [br_no (by simp only [gtI_no];exact h),wsucc (j:=k) (by omega),←drow_skip (q:=q) (n:=n) (G:=G) (j:=j) h]
    exact L33_15_spec hq hR hA cnt hj a b Q rows κ f (k+1) (by omega) (by omega)
  ·have:k=n:=by omega
   subst this
   rw [br_no (by simp)]
def frees (A:List Int) (j:Nat):List Nat:=(List.range j).filter fun t=>decide (A.getD t 0=0)
def drows (q n:Nat) (A:List Int) (G:List (List Int)) (j:Nat):List (List Int):=(frees A j).map fun t=>drow q n A G t n
theorem frees_succ (A:List Int) (j:Nat):frees A (j+1)=if A.getD j 0=0 then frees A j++[j] else frees A j:=by
 unfold frees
 rw [List.range_succ,List.filter_append]
 split
 ·rename_i h;rw [List.filter_cons,if_pos (by simpa using h)];rfl
 ·rename_i h;rw [List.filter_cons,if_neg (by simpa using h)];simp
theorem frees_len (A:List Int) (j:Nat):(frees A j).length≤j:=Nat.le_trans (List.length_filter_le _ _) (by simp)
theorem drows_len {q n:Nat} {A:List Int} {G:List (List Int)} {j:Nat}:(drows q n A G j).length=(frees A j).length:=by simp [drows]
theorem L33_9_spec {q n:Nat} (hq:q∈Qs) {A:List Int} {G:List (List Int)} (hR:Rows q n G) (hA:Cols q n A G) (a b Q:Int) {τ:Type} (κ:Nat→LS_→Option τ):∀ (f j:Nat),j≤n→n<f+j →
  runE L33_9 f κ 0 [.N n,.N (drows q n A G j).length,.I j,.I Q,.I n,.N G.length,.LL G,.I a,.I b,.I (fp q),.I (fe q),.N (fm q).length,.L (fm q),.L A,.LL (drows q n A G j)]
   = κ 0 [.N (drows q n A G n).length,.I Q,.I n,.N G.length,.LL G,.I a,.I b,.I (fp q),.I (fe q),.N (fm q).length,.L (fm q),.LL (drows q n A G n)]
 | 0,j,h1,h2=>by omega
 | f+1,j,h1,h2=>by
  have hn:=hR.short
  have hg:=hR.few
  have hAl:=hA.len
  have hfu:=fuel_le
  have hl:=frees_len A j
  rw [runE_succ]
  show L33_9.s0 _ _ _=_
  unfold L33_9.s0
  simp only [g_,Int.toNat_natCast,Nat.mul_one,Nat.zero_add]
  by_cases hj:j<n
  ·rw [br_of (by simp;omega),ck_of (by simp;omega),ck_of (by simp;omega)]
   obtain ⟨a0,a1⟩:=hA.at_ j hj
   by_cases h:0<A.getD j 0
   ·rw [br_of (by simpa using h),wsucc (j:=j) (by omega)]
    have e:drows q n A G (j+1)=drows q n A G j:=by unfold drows;rw [frees_succ,if_neg (by omega)]
    have ih:=L33_9_spec hq hR hA a b Q κ f (j+1) (by omega) (by omega)
    rw [e] at ih
    exact ih
   ·have hz:A.getD j 0=0:=by omega
    have e:drows q n A G (j+1)=drows q n A G j++[drow q n A G j n]:=by unfold drows;rw [frees_succ,if_pos hz,List.map_append];rfl
    have dl:=drows_len (q:=q) (n:=n) (A:=A) (G:=G) (j:=j)
    have ih:=L33_9_spec hq hR hA a b Q κ f (j+1) (by omega) (by omega)
    rw [br_no (by simp only [gtI_no];exact h),F32_spec (by omega)]
    simp only [sw_zero,gN_zero,gL_succ,gL_zero]
    rw [ck_of (by simp;omega),ck_of (by simp;omega),drow_zero (q:=q) (A:=A) (G:=G) hj]
    unfold L33_15.b
    refine (L33_15_spec hq hR hA _ hj a b Q _ _ fuel 0 (by omega) (by omega)).trans ?_
    simp only [g_,sw_zero,Nat.mul_one,List.drop_zero]
    have ft:List.take n (drow q n A G j n)=drow q n A G j n:=List.take_of_length_le (by rw [drow_len];exact Nat.le_refl _)
    rw [ft,ck_of (by simp [drow_len]),ck_of (by simp;omega),wsucc (j:=j) (by omega)]
    rw [e,List.length_append] at ih
    exact ih
  ·have:j=n:=by omega
   subst this
   rw [br_no (by simp)]
theorem pA_cols {q n:Nat} {G:List (List Int)} (hp:∀ i,i<G.length→fnz (G.getD i [])<n):∀ i,i≤G.length→∀ t,t<n→0≤(pA n G i).getD t 0∧(pA n G i).getD t 0≤i
 | 0,_,t,ht=>by simp [pA,List.getD_eq_getElem?_getD,ht]
 | i+1,h,t,ht=>by
  have ih:=pA_cols (q:=q) hp i (by omega) t ht
  have pl:=pA_len n G i
  unfold pA
  rw [List.getD_eq_getElem?_getD,List.getElem?_set]
  by_cases e:fnz (G.getD i [])=t
  ·rw [if_pos e,if_pos (by rw [pl,e];exact ht)]
   simp
   omega
  ·rw [if_neg e,←List.getD_eq_getElem?_getD]
   omega
theorem Lc.cols {q n:Nat} {G:List (List Int)} (h:Lc q n G):Cols q n (pA n G G.length) G :=
 ⟨pA_len _ _ _,fun t ht=>pA_cols (q:=q) (fun i hi=>(h.fnzs hi).1) G.length (Nat.le_refl _) t ht⟩
theorem drow_wd {q n:Nat} (hq:q∈Qs) {A:List Int} {G:List (List Int)} (hR:Rows q n G) (hA:Cols q n A G) {j:Nat} (hj:j<n) (k:Nat):Wd q n (drow q n A G j k):=by
 have F:=fld q hq
 have q1:=qs_lt hq
 refine ⟨drow_len,fun t ht=>?_⟩
 rw [drow_get ht]
 split
 ·rename_i h
  obtain ⟨a0,a1⟩:=hA.at_ t ht
  have w:=(hR.wd ((A.getD t 0).toNat-1) (by omega)).2 j hj
  exact F.neg_in _ w.1 w.2
 ·split <;> omega
theorem drows_rows {q n:Nat} (hq:q∈Qs) {A:List Int} {G:List (List Int)} (hR:Rows q n G) (hA:Cols q n A G):Rows q n (drows q n A G n):=by
 have hn:=hR.short
 have hl:=frees_len A n
 refine ⟨fun i hi=>?_,by rw [drows_len];omega,hn⟩
 rw [drows_len] at hi
 have:(drows q n A G n).getD i []=drow q n A G ((frees A n).getD i 0) n:=by
  unfold drows
  simp [List.getD_eq_getElem?_getD,hi]
 rw [this]
 refine drow_wd hq hR hA ?_ n
 have hm:(frees A n).getD i 0∈frees A n:=by
  rw [List.getD_eq_getElem?_getD,List.getElem?_eq_getElem hi]
  exact List.getElem_mem _
 simpa using (List.mem_filter.1 hm).1
def dualR (q n:Nat) (G:List (List Int)):List (List Int):=reduce (fadd q) (fmul q) (fneg q) (finv q) n (drows q n (pA n G G.length) G n)
theorem F33_spec {q n:Nat} {G:List (List Int)} (h:Lc q n G):∃ m:List (List Int),m.take (dualR q n G).length=dualR q n G∧∀ {τ:Type} (k:Nat→LS_→Option τ),
  F33 [.I q,.I n,.LL G] k=if (dualR q n G).length=0 then k 1 [.I q,.I n,.N 0] else k 0 [.I q,.I n,.N (dualR q n G).length,.LL m]:=by
 have hfu:=fuel_le
 have hq:=h.fq
 have hR:=h.rows
 have hn:=hR.short
 have hg:=hR.few
 have hA:=h.cols
 have hD:=drows_rows hq hR hA
 have hr:=red_len (add:=fadd q) (mul:=fmul q) (neg:=fneg q) (inv:=finv q) n 0 0 (drows q n (pA n G G.length) G n)
 have hl:(dualR q n G).length=(red (fadd q) (fmul q) (fneg q) (finv q) n 0 0 (drows q n (pA n G G.length) G n)).2:=by
  unfold dualR reduce
  rw [List.length_take,hr.1]
  have:=hr.2.2 (Nat.zero_le _)
  omega
 refine ⟨(red (fadd q) (fmul q) (fneg q) (finv q) n 0 0 (drows q n (pA n G G.length) G n)).1,by rw [hl];rfl,fun {τ} k=>?_⟩
 unfold F33
 simp only [g_]
 rw [T29_spec hq]
 simp only [g_,sw_zero,Int.toNat_natCast]
 rw [ck_of (by simp;omega)]
 unfold L33_4.b
 refine (L33_4_spec (by omega) (by omega) (fun i hi=>h.fnzs hi) q 0 0 (fp q) (fe q) (fm q).length (fm q) _ fuel 0 (by omega) (by omega)).trans ?_
 simp only [g_,sw_zero]
 unfold L33_9.b
 refine (L33_9_spec hq hR hA 0 0 q _ fuel 0 (by omega) (by omega)).trans ?_
 simp only [g_,sw_zero,Nat.mul_one,List.drop_zero,List.take_length]
 rw [ck_of (by simp),F80_spec hq hD,hl]
 split
 ·simp only [sw_succ,sw_zero,gN_zero]
 ·simp only [sw_zero,gN_zero,gLL_succ,gLL_zero]
def T33 {τ:Type} (l:LS_) (k:Nat→LS_→Option τ):Option τ:=wrapB F33.E (.v pCode) l k
def T33.E:Ent P:=F33.E.wrap (.v pCode)
theorem T33_spec {q n:Nat} {G:List (List Int)} (h:Lc q n G) {τ:Type} (k:Nat→LS_→Option τ):T33 [.I q,.I n,.LL G] k=k 0 [.I q,.I n,.LL (dualR q n G)]:=by
 obtain ⟨m,h1,h2⟩:=F33_spec h
 generalize dualR q n G=D at h1 h2 ⊢
 by_cases hr:D.length=0
 ·obtain rfl:=List.length_eq_zero_iff.1 hr
  exact wrap_of (e:=F33.E) (p:=.v pCode) (j:=1) (l2:=[.I q,.I n,.N 0]) (c:=true) (ls':=[.I q,.I n,.LL []]) (by intro τ κ;kernel_rfl) rfl (fun κ=>(h2 κ).trans (if_pos rfl))
 ·have h2:=fun {τ:Type} (κ:Nat→LS_→Option τ)=>(h2 κ).trans (if_neg hr)
  generalize hD:D.length=r at h1 h2
  have:=wrap_of (e:=F33.E) (p:=.v pCode) (j:=0) (l2:=[.I q,.I n,.N r,.LL m]) (c:=true&&(true&&(true&&(true&&(true&&(decide (r=(List.take (r*1) (List.drop 0 m)).length)&&true)))))) (ls':=[.I q,.I n,.LL (List.take (r*1) (List.drop 0 m))]) (by intro τ κ;kernel_rfl)
   (by rw [Nat.mul_one,List.drop_zero,h1];simp [hD]) (k:=k) (fun κ=>h2 κ)
  rw [Nat.mul_one,List.drop_zero,h1] at this
  exact this
end
end Go.Proofs.YticbdgmcofjkeaaGreat.Ai
namespace Go.Proofs.YticbdgmcofjkeaaGreat.Ai
open Go Ma Go.RowKit
noncomputable section
theorem run_for (e:LStep P Cf) {τ:Type} (s:(Nat→LS_→Option τ)→(Nat→LS_→Option τ)→LS_→Option τ) (t:Nat) (h0:∀ next κ l,e.step next κ t l=s next κ l) (κ:Nat→LS_→Option τ) (S:Nat→LS_) (n:Nat) (r:Option τ) (hn:n<2^62)
  (hs:∀ j,j<n→∀ next:Nat→LS_→Option τ,s next κ (S j)=next t (S (j+1)))
  (hx:∀ next:Nat→LS_→Option τ,s next κ (S n)=r):runE e fuel κ t (S 0)=r:=by
 have key:∀ f j,j≤n→n<f+j→runE e f κ t (S j)=r:=by
  intro f
  induction f with
  | zero=>intro j h1 h2;omega
  | succ f ih =>
   intro j h1 h2
   rw [runE_succ,h0]
   by_cases hj:j<n
   ·rw [hs j hj];exact ih (j+1) hj (by omega)
   ·have:j=n:=by omega
    subst this
    exact hx _
 have:=fuel_le
 exact key fuel 0 (by omega) (by omega)
theorem run_from (e:LStep P Cf) {τ:Type} (s:(Nat→LS_→Option τ)→(Nat→LS_→Option τ)→LS_→Option τ) (t:Nat) (h0:∀ next κ l,e.step next κ t l=s next κ l) (κ:Nat→LS_→Option τ) (S:Nat→LS_) (n:Nat) (r:Option τ)
  (hs:∀ j,j<n→∀ next:Nat→LS_→Option τ,s next κ (S j)=next t (S (j+1)))
  (hx:∀ next:Nat→LS_→Option τ,s next κ (S n)=r):∀ f j,j≤n→n<f+j→runE e f κ t (S j)=r:=by
 intro f
 induction f with
 | zero=>intro j h1 h2;omega
 | succ f ih =>
  intro j h1 h2
  rw [runE_succ,h0]
  by_cases hj:j<n
  ·rw [hs j hj];exact ih (j+1) hj (by omega)
  ·have:j=n:=by omega
   subst this
   exact hx _
theorem fuel_pred:∃ f,fuel=f+1∧2^63≤f:=by
 have:=fuel_le
 exact ⟨fuel-1,by omega,by omega⟩
theorem run_any (e:LStep P Cf) {τ:Type} (s:(Nat→LS_→Option τ)→(Nat→LS_→Option τ)→LS_→Option τ) (t:Nat) (h0:∀ next κ l,e.step next κ t l=s next κ l) (κ:Nat→LS_→Option τ) (S:Nat→LS_) (n:Nat) (p:Nat→Bool) (r rx:Option τ) (hn:n<2^62)
  (hs:∀ j,j<n→∀ next:Nat→LS_→Option τ,s next κ (S j)=if p j=true then r else next t (S (j+1)))
  (hx:∀ next:Nat→LS_→Option τ,s next κ (S n)=rx):runE e fuel κ t (S 0)=if (List.range n).any p=true then r else rx:=by
 have key:∀ f j,j≤n→n<f+j→runE e f κ t (S j)=if (List.range n).any (fun i=>decide (j≤i)&&p i)=true then r else rx:=by
  intro f
  induction f with
  | zero=>intro j h1 h2;omega
  | succ f ih =>
   intro j h1 h2
   rw [runE_succ,h0]
   by_cases hj:j<n
   ·rw [hs j hj]
    by_cases hp:p j=true
    ·rw [if_pos hp,if_pos]
     simp only [List.any_eq_true,List.mem_range,Bool.and_eq_true,decide_eq_true_eq]
     exact ⟨j,hj,Nat.le_refl _,hp⟩
    ·rw [if_neg hp,ih (j+1) hj (by omega)]
     congr 1
     apply propext
     simp only [List.any_eq_true,List.mem_range,Bool.and_eq_true,decide_eq_true_eq]
     constructor
     ·rintro ⟨i,a,b,c⟩;exact ⟨i,a,by omega,c⟩
     ·rintro ⟨i,a,b,c⟩
      refine ⟨i,a,?_,c⟩
      by_cases hi:i=j
      ·subst hi;exact absurd c hp
      ·omega
   ·have:j=n:=by omega
    subst this
    rw [hx,if_neg]
    simp only [List.any_eq_true,List.mem_range,Bool.and_eq_true,decide_eq_true_eq]
    rintro ⟨i,a,b,c⟩;omega
 have:=fuel_le
 refine (key fuel 0 (by omega) (by omega)).trans ?_
 simp
def fil (n:Nat) (f g:Nat→Int) (j:Nat):List Int:=(List.range n).map fun i=>if i<j then f i else g i
theorem fil_len {n:Nat} {f g:Nat→Int} {j:Nat}:(fil n f g j).length=n:=by simp [fil]
theorem fil_get {n:Nat} {f g:Nat→Int} {j i:Nat} (h:i<n):(fil n f g j).getD i 0=if i<j then f i else g i:=by
 simp [fil,List.getD_eq_getElem?_getD,h]
theorem fil_set {n:Nat} {f g:Nat→Int} {j:Nat}:(fil n f g j).set j (f j)=fil n f g (j+1):=by
 apply List.ext_getElem
 ·simp [fil]
 ·intro i h1 h2
  simp only [fil,List.length_set,List.length_map,List.length_range] at h1
  simp only [fil,List.getElem_set,List.getElem_map,List.getElem_range]
  by_cases he:j=i
  ·subst he;simp
  ·rw [if_neg he]
   by_cases h3:i<j
   ·rw [if_pos h3,if_pos (by omega)]
   ·rw [if_neg h3,if_neg (by omega)]
theorem fil_same {n:Nat} {f g:Nat→Int} {j:Nat} (h:f j=g j):fil n f g (j+1)=fil n f g j:=by
 simp only [fil]
 apply List.map_congr_left
 intro i _
 by_cases he:i=j
 ·subst he;simp [h]
 ·by_cases h3:i<j
  ·rw [if_pos h3,if_pos (by omega)]
  ·rw [if_neg h3,if_neg (by omega)]
theorem fil_zero {n:Nat} {f g:Nat→Int}:fil n f g 0=(List.range n).map g:=by simp [fil]
theorem fil_full {n:Nat} {f g:Nat→Int}:fil n f g n=(List.range n).map f:=by
 simp only [fil]
 apply List.map_congr_left
 intro i hi
 rw [if_pos (List.mem_range.1 hi)]
theorem map_get {n:Nat} {f:Nat→Int} {i:Nat} (h:i<n):((List.range n).map f).getD i 0=f i:=by
 simp [List.getD_eq_getElem?_getD,h]
theorem map_self {w:List Int}:(List.range w.length).map (fun i=>w.getD i 0)=w:=by
 apply List.ext_getElem
 ·simp
 ·intro i h1 h2
  simp [List.getD_eq_getElem?_getD,h2]
theorem map_zero {n:Nat}:(List.range n).map (fun _=>(0:Int))=List.replicate n 0:=by
 apply List.ext_getElem <;> simp
def Bn (w:List Int):Prop:=∀ i,i<w.length→w.getD i 0=0∨w.getD i 0=1
theorem Bn.of {n:Nat} {w:List Int} (h:Wd 2 n w):Bn w:=fun i hi=>by
 have:=h.2 i (by rw [←h.1];exact hi)
 omega
theorem Bn.wd {w:List Int} (h:Bn w):Wd 2 w.length w:=⟨rfl,fun i hi=>by rcases h i hi with e | e <;> rw [e] <;> decide⟩
theorem Bn.bit {w:List Int} (h:Bn w) (i:Nat):w.getD i 0=0∨w.getD i 0=1:=by
 by_cases hi:i<w.length
 ·exact h i hi
 ·left;simp [List.getD_eq_getElem?_getD,List.getElem?_eq_none (Nat.le_of_not_lt hi)]
def bv:List Int→Nat
 | []=>0
 | x::xs=>(if x=1 then 1 else 0)+2*bv xs
theorem bv_lt:∀ w:List Int,bv w<2^w.length
 | []=>by decide
 | x::xs=>by
  have:=bv_lt xs
  simp only [bv,List.length_cons,Nat.pow_succ]
  split <;> omega
theorem bv_bit:∀ (w:List Int) (i:Nat),(bv w).testBit i=decide (w.getD i 0=1)
 | [],i=>by simp [bv]
 | x::xs,0=>by
  simp only [bv,Nat.testBit_zero,List.getD_cons_zero]
  by_cases hx:x=1
  ·simp [hx]
  ·simp [hx]
 | x::xs,i+1=>by
  rw [Nat.testBit_succ]
  have:bv (x::xs) / 2=bv xs:=by simp only [bv];split <;> omega
  rw [this,bv_bit xs i,List.getD_cons_succ]
theorem u64_of {a:Nat} (h:a<2^64):wr .u64 (a:Int)=(a:Int):=by
 rw [wr_eq]
 simp only [IntKind.wrap,IntKind.signed,IntKind.bits]
 simp
 omega
theorem ofInt_nat (a:Nat):BitVec.ofInt 64 (a:Int)=BitVec.ofNat 64 a:=by
 apply BitVec.eq_of_toNat_eq
 simp [BitVec.toNat_ofInt,BitVec.toNat_ofNat]
theorem b_and {a b:Nat} (ha:a<2^64) (hb:b<2^64):wr .u64 (((BitVec.ofInt 64 (a:Int) &&& BitVec.ofInt 64 (b:Int)).toNat:Nat):Int)=((a &&& b:Nat):Int):=by
 rw [ofInt_nat,ofInt_nat,BitVec.toNat_and,BitVec.toNat_ofNat,BitVec.toNat_ofNat,Nat.mod_eq_of_lt ha,Nat.mod_eq_of_lt hb,u64_of (Nat.lt_of_le_of_lt Nat.and_le_left ha)]
theorem b_or {a b:Nat} (ha:a<2^64) (hb:b<2^64):wr .u64 (((BitVec.ofInt 64 (a:Int) ||| BitVec.ofInt 64 (b:Int)).toNat:Nat):Int)=((a ||| b:Nat):Int):=by
 rw [ofInt_nat,ofInt_nat,BitVec.toNat_or,BitVec.toNat_ofNat,BitVec.toNat_ofNat,Nat.mod_eq_of_lt ha,Nat.mod_eq_of_lt hb,u64_of (Nat.or_lt_two_pow ha hb)]
theorem b_xor {a b:Nat} (ha:a<2^64) (hb:b<2^64):wr .u64 (((BitVec.ofInt 64 (a:Int) ^^^ BitVec.ofInt 64 (b:Int)).toNat:Nat):Int)=((a ^^^ b:Nat):Int):=by
 rw [ofInt_nat,ofInt_nat,BitVec.toNat_xor,BitVec.toNat_ofNat,BitVec.toNat_ofNat,Nat.mod_eq_of_lt ha,Nat.mod_eq_of_lt hb,u64_of (Nat.xor_lt_two_pow ha hb)]
theorem shl1 {x:Int} (hx:x=0∨x=1) {j:Nat} (hj:j<30):wr .u64 (wr .u64 x*(2:Int)^min (Int.toNat (j:Int)) 64)=(((if x=1 then 1 else 0)*2^j:Nat):Int):=by
 have h2:2^j<2^30:=Nat.pow_lt_pow_right (by decide) hj
 rw [Int.toNat_natCast,Nat.min_eq_left (by omega)]
 rcases hx with rfl | rfl
 ·rw [show wr .u64 0=0 by decide,Int.zero_mul];simp;decide
 ·rw [show wr .u64 1=1 by decide,Int.one_mul,if_pos rfl,Nat.one_mul,←u64_of (a:=2^j) (by omega)]
  norm_cast
theorem shl1' {j:Nat} (hj:j<30):wr .u64 ((1:Int)*(2:Int)^min (Int.toNat (j:Int)) 64)=((2^j:Nat):Int):=by
 have:=shl1 (x:=1) (.inr rfl) hj
 rwa [if_pos rfl,Nat.one_mul,show wr .u64 1=1 by decide] at this
theorem bit1 {w:List Int} (h:Bn w) {j:Nat} (hj:j<30) (hl:w.length<30):wr .i64 (wr .u64 (((BitVec.ofInt 64 (Int.fdiv ((bv w:Nat):Int) ((2:Int)^min (Int.toNat (j:Int)) 64)) &&& BitVec.ofInt 64 1).toNat:Nat):Int))=w.getD j 0:=by
 have hb:=bv_lt w
 have h3:2^w.length<2^30:=Nat.pow_lt_pow_right (by decide) hl
 rw [Int.toNat_natCast,Nat.min_eq_left (by omega)]
 have e:Int.fdiv ((bv w:Nat):Int) ((2:Int)^j)=((bv w >>> j:Nat):Int):=by
  rw [Int.fdiv_eq_ediv_of_nonneg _ (by exact Int.pow_nonneg (by decide)),Nat.shiftRight_eq_div_pow]
  norm_cast
 have hs:bv w >>> j<2^64:=by rw [Nat.shiftRight_eq_div_pow];exact Nat.lt_of_le_of_lt (Nat.div_le_self _ _) (by omega)
 rw [e]
 have:=b_and (b:=1) hs (by decide)
 rw [show (((1:Nat):Int))=1 from rfl] at this
 rw [this]
 have t:=bv_bit w j
 have q:bv w >>> j &&& 1=if w.getD j 0=1 then 1 else 0:=by
  rw [Nat.and_one_is_mod,Nat.shiftRight_eq_div_pow]
  rw [Nat.testBit_eq_decide_div_mod_eq] at t
  have t:(bv w / 2^j % 2=1)↔w.getD j 0=1:=by simpa using t
  by_cases hw:w.getD j 0=1
  ·rw [if_pos hw];exact t.2 hw
  ·rw [if_neg hw]
   have:=mt t.1 hw
   omega
 rw [q]
 rcases h.bit j with e | e <;> rw [e] <;> decide
theorem bv_take {w:List Int} {j:Nat} (hj:j<w.length):bv (w.take j) ||| ((if w.getD j 0=1 then 1 else 0)*2^j)=bv (w.take (j+1)):=by
 apply Nat.eq_of_testBit_eq
 intro i
 rw [Nat.testBit_or,bv_bit,bv_bit,Nat.mul_comm]
 have e1:(w.take j).getD i 0=if i<j then w.getD i 0 else 0:=by
  simp only [List.getD_eq_getElem?_getD,List.getElem?_take];split <;> rfl
 have e2:(w.take (j+1)).getD i 0=if i<j+1 then w.getD i 0 else 0:=by
  simp only [List.getD_eq_getElem?_getD,List.getElem?_take];split <;> rfl
 rw [e1,e2]
 have e3:(2^j*(if w.getD j 0=1 then 1 else 0)).testBit i=(decide (i=j)&&decide (w.getD j 0=1)):=by
  by_cases hw:w.getD j 0=1
  ·rw [if_pos hw,Nat.mul_one,Nat.testBit_two_pow,decide_eq_true hw,Bool.and_true]
   exact decide_eq_decide.2 eq_comm
  ·rw [if_neg hw,decide_eq_false hw,Bool.and_false];simp
 rw [e3]
 by_cases h1:i<j
 ·rw [if_pos h1,if_pos (by omega)]
  have:¬ i=j:=by omega
  simp [this]
 ·rw [if_neg h1]
  by_cases h2:i=j
  ·subst h2;simp
  ·rw [if_neg (by omega)];simp [h2]
theorem bv_set {w:List Int} {j:Nat} (hj:j<w.length) (h:Bn w):bv w ^^^ 2^j=bv (w.set j (1-w.getD j 0)):=by
 apply Nat.eq_of_testBit_eq
 intro i
 rw [Nat.testBit_xor,bv_bit,bv_bit,Nat.testBit_two_pow]
 have e:(w.set j (1-w.getD j 0)).getD i 0=if j=i then 1-w.getD j 0 else w.getD i 0:=by
  simp only [List.getD_eq_getElem?_getD,List.getElem?_set]
  by_cases he:j=i
  ·subst he;simp [hj]
  ·simp [he]
 rw [e]
 by_cases he:j=i
 ·subst he
  rcases h.bit j with q | q <;> rw [q] <;> simp
 ·simp [he]
def pc (a:Nat):Nat:=(List.range 10).countP fun i=>a.testBit i
end
end Go.Proofs.YticbdgmcofjkeaaGreat.Ai
namespace Go.Proofs.YticbdgmcofjkeaaGreat.Ai
open Go Ma
noncomputable section
def T37 {τ:Type} (l:LS_) (k:Nat→LS_→Option τ):Option τ:=F37 l k
def T37.E:Ent P:=F37.E
def T48 {τ:Type} (l:LS_) (k:Nat→LS_→Option τ):Option τ:=F48 l k
def T48.E:Ent P:=F48.E
def T81 {τ:Type} (l:LS_) (k:Nat→LS_→Option τ):Option τ:=wrapB F81.E (.tup [pField,pB]) l k
def T81.E:Ent P:=F81.E.wrap (.tup [pField,pB])
end
end Go.Proofs.YticbdgmcofjkeaaGreat.Ai
namespace Go.Proofs.YticbdgmcofjkeaaGreat.Ai
open Go Go.RowKit
noncomputable section
variable {τ:Type} (t:Nat) (nx ex:Nat→LS_→Option τ) (l:LS_) (k κ:Nat→LS_→Option τ)
def L94_3_1.H:LHead:=⟨true,false,2,483331,483331,12318,0,0,[(PS.mk (us 1 ((rr 0)::pI::qR::(pp 1)::us 7 (pI::pI::us 21 []))) [oI,(oG [pI,pI,qR])])],[((Out.exit 0),(PS.mk (us 35 []) [oI,(oG [pI,pI,qR])]))]⟩
def L94_3_1.O:Orc P:=⟨[T104.E,T103.E],[],[],40⟩
def L94_3_1.s0:Option τ :=
 br (ltI (gI l 5) (gI l 4))
 (ck (((leI 0 (gI l 5))&&(ltI (gI l 5) (gN l 0)))&&true)
 (ck (ltN (0+((Int.toNat (gI l 5))*1)) (List.length (gL l 6)))
 (ck (((leI 0 (gI l 5))&&(ltI (gI l 5) (gN l 2)))&&true)
 (ck (ltN ((Int.toNat (gI l 5))*1) (List.length (gL l 3)))
 (ck (((eqM (gN l 9) (List.length (gL l 10)))&&true)&&true)
 (T104 [.I (gI l 7),.I (gI l 8),.L (gL l 10),.I (gI l 1),.I (List.getD (gL l 3) ((Int.toNat (gI l 5))*1) 0)]
 (fun j A=>(sw (ck (((eqM (gN l 9) (List.length (gL l 10)))&&true)&&true)
 (T103 [.I (gI l 7),.I (gI l 8),.L (gL l 10),.I (List.getD (gL l 6) (0+((Int.toNat (gI l 5))*1)) 0),.I (gI A 0)]
 (fun j B=>(sw (ck (((leI 0 (gI l 5))&&(ltI (gI l 5) (gN l 0)))&&true)
 (ck ((leN ((0+((Int.toNat (gI l 5))*1))+1) (List.length (gL l 6)))&&true)
 (nx 0 [.N (gN l 0),.I (gI l 1),.N (gN l 2),.L (gL l 3),.I (gI l 4),.I (wr .i64 ((gI l 5)+1)),.L (List.set (gL l 6) (0+((Int.toNat (gI l 5))*1)) (gI B 0)),.I (gI l 7),.I (gI l 8),.N (gN l 9),.L (gL l 10)])))
 (fun _=>none)) j)))
 (fun _=>none)) j)))))))
 (ex 0 [.L (gL l 6),.I (gI l 7),.I (gI l 8),.N (gN l 9),.L (gL l 10)])
theorem L94_3_1.e0:LEq L94_3_1.O L94_3_1.H 0 L94_3_1.s0:=by intro τ next κ l;kernel_rfl
def L94_3_1:LStep P Cf:=LStep.mk1 (by decide) L94_3_1.e0
def L94_3_1.b:Option τ:=runE L94_3_1 fuel κ t l
def L94_3_1.E:LEnt P:=LStep.E L94_3_1
def S94_1.H:SHead:=⟨118,[(PV2.agg [iI,iI,(PV1.sl (PC0.i .i64))]),(rr 0),pI,qR],[],[oI],[((PV2.tup []),[oI])]⟩
def S94_1.O:Orc P:=⟨[],[L94_3_1.E],[],40⟩
def S94_1:Option τ :=
 br ((gI l 5)==0)
 (k 0 [.L (gL l 8)])
 (L94_3_1.b 0 [.N (gN l 4),.I (gI l 5),.N (gN l 6),.L (gL l 7),.I (gN l 4),.I 0,.L (gL l 8),.I (gI l 0),.I (gI l 1),.N (gN l 2),.L (gL l 3)]
 (fun j A=>(sw (k 0 [.L (gL A 0)])
 (fun _=>none)) j))
theorem S94_1.eq:SEq S94_1.O S94_1.H S94_1:=by intro τ l κ;kernel_rfl
def S94_1.next:SDyn P S94_1.H:=mkS S94_1.eq
def S94_1.E:SEnt P:=⟨S94_1.H,S94_1.next⟩
end
end Go.Proofs.YticbdgmcofjkeaaGreat.Ai
namespace Go.Proofs.YticbdgmcofjkeaaGreat.Ma
section
variable {q n:Nat} {add mul:Int→Int→Int} {neg inv:Int→Int}
theorem vadd_comm (F:Fld q add mul neg inv) {a b:List Int} (ha:Wd q n a) (hb:Wd q n b):vadd add a b=vadd add b a:=by
 have e:=ha.1.trans hb.1.symm
 refine ext_getD (by rw [vadd_len e,vadd_len e.symm,e]) fun j hj=>?_
 rw [vadd_len e,ha.1] at hj
 have x:=ha.2 j hj
 have y:=hb.2 j hj
 rw [vadd_get e (by rw [ha.1];exact hj),vadd_get e.symm (by rw [hb.1];exact hj),F.add_comm _ _ x.1 x.2 y.1 y.2]
theorem vadd_assoc (F:Fld q add mul neg inv) {a b c:List Int} (ha:Wd q n a) (hb:Wd q n b) (hc:Wd q n c):vadd add (vadd add a b) c=vadd add a (vadd add b c):=by
 have ab:=ha.vadd F hb
 have bc:=hb.vadd F hc
 have l1:=ab.vadd F hc
 have l2:=ha.vadd F bc
 refine ext_getD (by rw [l1.1,l2.1]) fun j hj=>?_
 rw [l1.1] at hj
 have x:=ha.2 j hj
 have y:=hb.2 j hj
 have z:=hc.2 j hj
 rw [vadd_get (by rw [ab.1,hc.1]) (by rw [ab.1];exact hj),vadd_get (by rw [ha.1,hb.1]) (by rw [ha.1];exact hj),vadd_get (by rw [ha.1,bc.1]) (by rw [ha.1];exact hj),vadd_get (by rw [hb.1,hc.1]) (by rw [hb.1];exact hj),F.add_assoc _ _ _ x.1 x.2 y.1 y.2 z.1 z.2]
theorem zero_vadd (F:Fld q add mul neg inv) {a:List Int} (ha:Wd q n a):vadd add (List.replicate n 0) a=a:=by
 have e:(List.replicate n (0:Int)).length=a.length:=by rw [List.length_replicate,ha.1]
 refine ext_getD (by rw [vadd_len e,e]) fun j hj=>?_
 rw [vadd_len e,e,ha.1] at hj
 have x:=ha.2 j hj
 rw [vadd_get e (by rw [e,ha.1];exact hj),show (List.replicate n (0:Int)).getD j 0=0 by simp [List.getD_eq_getElem?_getD,hj],F.zero_add _ x.1 x.2]
theorem zeros_wd (F:Fld q add mul neg inv):Wd q n (List.replicate n 0):=⟨by simp,fun j hj=>by
 have:=F.one_lt
 rw [show (List.replicate n (0:Int)).getD j 0=0 by simp [List.getD_eq_getElem?_getD,hj]]
 omega⟩
theorem vmul_add (F:Fld q add mul neg inv) {g:List Int} (hg:Wd q n g) {a b:Int} (a0:0≤a) (a1:a<q) (b0:0≤b) (b1:b<q):vadd add (vmul mul a g) (vmul mul b g)=vmul mul (add a b) g:=by
 have ha:=Wd.vmul F a0 a1 hg
 have hb:=Wd.vmul F b0 b1 hg
 have ab:=F.add_in a b a0 a1 b0 b1
 have hab:=Wd.vmul F ab.1 ab.2 hg
 refine ext_getD (by rw [(ha.vadd F hb).1,hab.1]) fun j hj=>?_
 rw [(ha.vadd F hb).1] at hj
 have x:=hg.2 j hj
 rw [vadd_get (by rw [ha.1,hb.1]) (by rw [ha.1];exact hj),vmul_get (by rw [hg.1];exact hj),vmul_get (by rw [hg.1];exact hj),vmul_get (by rw [hg.1];exact hj),
  F.mul_comm a _ a0 a1 x.1 x.2,F.mul_comm b _ b0 b1 x.1 x.2,F.mul_comm (add a b) _ ab.1 ab.2 x.1 x.2,F.distrib _ _ _ x.1 x.2 a0 a1 b0 b1]
theorem add_cancel (F:Fld q add mul neg inv) {a b c:Int} (ha:0≤a∧a<q) (hb:0≤b∧b<q) (hc:0≤c∧c<q) (h:add a c=add b c):a=b:=by
 have hn:=F.neg_in c hc.1 hc.2
 have e:∀ x:Int,0≤x∧x<q→add (add x c) (neg c)=x:=fun x hx=>by
  rw [F.add_assoc _ _ _ hx.1 hx.2 hc.1 hc.2 hn.1 hn.2,F.add_neg c hc.1 hc.2,F.add_comm x 0 hx.1 hx.2 (by omega) (by have:=F.one_lt;omega),F.zero_add x hx.1 hx.2]
 rw [←e a ha,←e b hb,h]
theorem words_shift (F:Fld q add mul neg inv):∀ (G:List (List Int)) (z v:List Int),(∀ i,i<G.length→Wd q n (G.getD i []))→Wd q n z→Wd q n v→words q add mul G (vadd add z v)=(words q add mul G z).map fun y=>vadd add y v
 | [],z,v,_,_,_=>rfl
 | g::gs,z,v,hG,hz,hv=>by
  have hg:Wd q n g:=by simpa using hG 0 (by simp)
  unfold words
  rw [List.map_flatMap]
  unfold List.flatMap
  refine congrArg List.flatten (List.map_congr_left fun a ha=>?_)
  have ha':a<q:=by simpa using ha
  have hag:=Wd.vmul F (c:=((a:Nat):Int)) (by omega) (by exact_mod_cast ha') hg
  rw [vadd_assoc F hz hv hag,vadd_comm F hv hag,←vadd_assoc F hz hag hv]
  exact words_shift F gs _ v (fun i hi=>by simpa using hG (i+1) (by simpa using hi)) (hz.vadd F hag) hv
theorem sum_perm {l m:List Nat} (h:l.Perm m):l.sum=m.sum:=by
 induction h with
 | nil=>rfl
 | cons x _ ih=>rw [List.sum_cons,List.sum_cons,ih]
 | swap x y l=>simp only [List.sum_cons];omega
 | trans _ _ h1 h2=>rw [h1,h2]
theorem count_shift (F:Fld q add mul neg inv) (P:∀ c:Nat,c<q→((List.range q).map fun (a:Nat)=>add (a:Int) (c:Int)).Perm ((List.range q).map fun (a:Nat)=>(a:Int))):∀ (G:List (List Int)) (z v:List Int) (p:List Int→Bool),(∀ i,i<G.length→Wd q n (G.getD i []))→Wd q n z→v∈words q add mul G (List.replicate n 0) →
  ((words q add mul G z).countP fun y=>p (vadd add y v))=(words q add mul G z).countP p
 | [],z,v,p,_,hz,hv=>by
  unfold words at hv
  rw [List.mem_singleton] at hv
  subst hv
  unfold words
  rw [List.countP_singleton,List.countP_singleton,vadd_comm F hz (zeros_wd F),zero_vadd F hz]
 | g::gs,z,v,p,hG,hz,hv=>by
  have hg:Wd q n g:=by simpa using hG 0 (by simp)
  have hG':∀ i,i<gs.length→Wd q n (gs.getD i []):=fun i hi=>by simpa using hG (i+1) (by simpa using hi)
  unfold words at hv
  obtain ⟨c,hc,hv⟩:=List.mem_flatMap.1 hv
  have hc':c<q:=by simpa using hc
  have c1:((c:Nat):Int)<q:=by exact_mod_cast hc'
  have hu:=Wd.vmul F (c:=((c:Nat):Int)) (by omega) c1 hg
  have hz0:=zeros_wd F (n:=n)
  rw [words_shift F gs _ _ hG' hz0 hu] at hv
  obtain ⟨v',hv',rfl⟩:=List.mem_map.1 hv
  have wv':=words_wd F gs _ hG' hz0 v' hv'
  have key:∀ a:Nat,a<q→((words q add mul gs (vadd add z (vmul mul (a:Int) g))).countP fun y=>p (vadd add y (vadd add v' (vmul mul (c:Int) g))))=(words q add mul gs (vadd add z (vmul mul (add (a:Int) (c:Int)) g))).countP p:=by
   intro a ha
   have a1:((a:Nat):Int)<q:=by exact_mod_cast ha
   have hag:=Wd.vmul F (c:=((a:Nat):Int)) (by omega) a1 hg
   have hza:=hz.vadd F hag
   have e1:((words q add mul gs (vadd add z (vmul mul (a:Int) g))).countP fun y=>p (vadd add y (vadd add v' (vmul mul (c:Int) g))))=(words q add mul gs (vadd add z (vmul mul (a:Int) g))).countP fun y=>(fun x=>p (vadd add x (vmul mul (c:Int) g))) (vadd add y v'):=by
    refine List.countP_congr fun y hy=>?_
    have wy:=words_wd F gs _ hG' hza y hy
    show p (vadd add y (vadd add v' (vmul mul (c:Int) g)))=true↔p (vadd add (vadd add y v') (vmul mul (c:Int) g))=true
    rw [vadd_assoc F wy wv' hu]
   rw [e1,count_shift F P gs _ v' (fun x=>p (vadd add x (vmul mul (c:Int) g))) hG' hza hv',←vmul_add F hg (by omega) a1 (by omega) c1,←vadd_assoc F hz hag hu,words_shift F gs _ _ hG' hza hu,List.countP_map]
   rfl
  unfold words
  rw [List.countP_flatMap,List.countP_flatMap]
  have l1:((List.range q).map (List.countP (fun y=>p (vadd add y (vadd add v' (vmul mul (c:Int) g)))) ∘ fun (a:Nat)=>words q add mul gs (vadd add z (vmul mul (a:Int) g))))=((List.range q).map fun (a:Nat)=>add (a:Int) (c:Int)).map fun x=>(words q add mul gs (vadd add z (vmul mul x g))).countP p:=by
   rw [List.map_map]
   exact List.map_congr_left fun a ha=>key a (by simpa using ha)
  have l2:((List.range q).map (List.countP p ∘ fun (a:Nat)=>words q add mul gs (vadd add z (vmul mul (a:Int) g))))=((List.range q).map fun (a:Nat)=>(a:Int)).map fun x=>(words q add mul gs (vadd add z (vmul mul x g))).countP p:=by
   rw [List.map_map]
   rfl
  rw [l1,l2]
  exact sum_perm ((P c hc').map _)
theorem words_closed (F:Fld q add mul neg inv) (P:∀ c:Nat,c<q→((List.range q).map fun (a:Nat)=>add (a:Int) (c:Int)).Perm ((List.range q).map fun (a:Nat)=>(a:Int))) {G:List (List Int)} (hG:∀ i,i<G.length→Wd q n (G.getD i [])) {x v:List Int} (hx:x∈words q add mul G (List.replicate n 0)) (hv:v∈words q add mul G (List.replicate n 0)):vadd add x v∈words q add mul G (List.replicate n 0):=by
 have h:=count_shift F P G (List.replicate n 0) v (fun y=>decide (y=vadd add x v)) hG (zeros_wd F) hv
 have h1:0<(words q add mul G (List.replicate n 0)).countP fun y=>decide (vadd add y v=vadd add x v):=List.countP_pos_iff.2 ⟨x,hx,by simp⟩
 rw [h] at h1
 obtain ⟨y,hy,e⟩:=List.countP_pos_iff.1 h1
 have e:=of_decide_eq_true e
 rw [←e];exact hy
end
theorem turn {q:Nat} (hq:q∈Qs):∀ c:Nat,c<q→((List.range q).map fun (a:Nat)=>fadd q (a:Int) (c:Int)).Perm ((List.range q).map fun (a:Nat)=>(a:Int)):=by
 have:(Qs.all fun q=>(List.range q).all fun (c:Nat)=>((List.range q).map fun (a:Nat)=>fadd q (a:Int) (c:Int)).isPerm ((List.range q).map fun (a:Nat)=>(a:Int)))=true:=by decide +kernel
 intro c hc
 have h:=List.all_eq_true.1 (List.all_eq_true.1 this q hq) c (by simpa using hc)
 exact List.isPerm_iff.1 h
end Go.Proofs.YticbdgmcofjkeaaGreat.Ma
namespace Go.Proofs.YticbdgmcofjkeaaGreat.Ma
def lx (n:Nat) (a b:List Int):Prop:=∃ p,p<n∧(∀ j,j<p→a.getD j 0=b.getD j 0)∧a.getD p 0<b.getD p 0
section
variable {q:Nat} {add mul:Int→Int→Int} {neg inv:Int→Int} {n:Nat}
theorem Rref.tail {g:List Int} {gs:List (List Int)} {piv:Nat→Nat} (R:Rref q n (g::gs) piv):Rref q n gs (fun i=>piv (i+1)) where
 wd:=fun i hi=>by simpa using R.wd (i+1) (by simpa using hi)
 lt:=fun i hi=>R.lt (i+1) (by simpa using hi)
 mono:=fun i j hij hj=>R.mono (i+1) (j+1) (by omega) (by simpa using hj)
 one:=fun i hi=>by simpa [ent] using R.one (i+1) (by simpa using hi)
 zero:=fun i k hi hk hne=>by simpa [ent] using R.zero (i+1) (k+1) (by simpa using hi) (by simpa using hk) (by omega)
 lead:=fun i j hi hj=>by simpa [ent] using R.lead (i+1) j (by simpa using hi) hj
theorem mul_zero (F:Fld q add mul neg inv) {a:Int} (h0:0≤a) (h1:a<q):mul a 0=0:=by
 have:=F.one_lt
 rw [F.mul_comm _ _ h0 h1 (by omega) (by omega),F.zero_mul _ h0 h1]
theorem add_zero (F:Fld q add mul neg inv) {a:Int} (h0:0≤a) (h1:a<q):add a 0=a:=by
 have:=F.one_lt
 rw [F.add_comm _ _ h0 h1 (by omega) (by omega),F.zero_add _ h0 h1]
theorem mul_one (F:Fld q add mul neg inv) {a:Int} (h0:0≤a) (h1:a<q):mul a 1=a:=by
 have:=F.one_lt
 rw [F.mul_comm _ _ h0 h1 (by omega) (by omega),F.one_mul _ h0 h1]
theorem words_sorted (F:Fld q add mul neg inv):∀ (G:List (List Int)) (piv:Nat→Nat) (z:List Int),Rref q n G piv→Wd q n z→(∀ i,i<G.length→z.getD (piv i) 0=0)→(words q add mul G z).Pairwise (lx n)
 | [],piv,z,R,hz,h0=>by unfold words;exact List.pairwise_singleton _ _
 | g::gs,piv,z,R,hz,h0=>by
  have hg:Wd q n g:=by simpa using R.wd 0 (by simp)
  have p0:=R.lt 0 (by simp)
  have q1:=F.one_lt
  have in_:∀ a,a<q→0≤((a:Nat):Int)∧((a:Nat):Int)<q:=fun a ha=>⟨by omega,by omega⟩
  have hv:∀ a,a<q→Wd q n (vmul mul (a:Int) g):=fun a ha=>Wd.vmul F (in_ a ha).1 (in_ a ha).2 hg
  have at_:∀ a j,a<q→j<n→(vadd add z (vmul mul (a:Int) g)).getD j 0=add (z.getD j 0) (mul a (g.getD j 0)):=fun a j ha hj=>by
   rw [vadd_get (by rw [hz.1,(hv a ha).1]) (by rw [hz.1];exact hj),vmul_get (by rw [hg.1];exact hj)]
  unfold words
  rw [List.pairwise_flatMap]
  refine ⟨fun a ha=>?_,?_⟩
  ·have ha':a<q:=by simpa using ha
   refine words_sorted F gs _ _ R.tail (hz.vadd F (hv a ha')) fun i hi=>?_
   have hl:=R.lt (i+1) (by simpa using hi)
   have z0:=h0 (i+1) (by simpa using hi)
   have g0:g.getD (piv (i+1)) 0=0:=by simpa [ent] using R.zero (i+1) 0 (by simpa using hi) (by simp) (by omega)
   rw [at_ a _ ha' hl,z0,g0,mul_zero F (in_ a ha').1 (in_ a ha').2,F.zero_add 0 (by omega) (by omega)]
  ·refine (List.pairwise_lt_range (n:=q)).imp_of_mem fun {a b} ha hb hab x hx y hy=>?_
   have ha':a<q:=by simpa using ha
   have hb':b<q:=by simpa using hb
   have low:∀ i j,i<gs.length→j<piv 0+1→ent gs i j=0:=fun i j hi hj=>by
    have:=R.mono 0 (i+1) (by omega) (by simpa using hi)
    simpa [ent] using R.lead (i+1) j (by simpa using hi) (by omega)
   have ex:∀ c,c<q→∀ w∈words q add mul gs (vadd add z (vmul mul (c:Int) g)),∀ j,j<piv 0+1→w.getD j 0=add (z.getD j 0) (mul c (g.getD j 0)):=fun c hc w hw j hj=>by
    rw [words_same F (by omega) gs _ R.tail.wd low (hz.vadd F (hv c hc)) w hw j hj,at_ c j hc (by omega)]
   refine ⟨piv 0,p0,fun j hj=>?_,?_⟩
   ·have g0:g.getD j 0=0:=by simpa [ent] using R.lead 0 j (by simp) hj
    rw [ex a ha' x hx j (by omega),ex b hb' y hy j (by omega),g0,mul_zero F (in_ a ha').1 (in_ a ha').2,mul_zero F (in_ b hb').1 (in_ b hb').2]
   ·have g1:g.getD (piv 0) 0=1:=by simpa [ent] using R.one 0 (by simp)
    rw [ex a ha' x hx _ (by omega),ex b hb' y hy _ (by omega),g1,h0 0 (by simp),mul_one F (in_ a ha').1 (in_ a ha').2,mul_one F (in_ b hb').1 (in_ b hb').2,F.zero_add _ (in_ a ha').1 (in_ a ha').2,F.zero_add _ (in_ b hb').1 (in_ b hb').2]
    omega
theorem words_nodup (F:Fld q add mul neg inv) {G:List (List Int)} {piv:Nat→Nat} (R:Rref q n G piv):(words q add mul G (List.replicate n 0)).Nodup:=by
 refine (words_sorted F G piv _ R (zeros_wd F) fun i hi=>?_).imp fun {a b} h e=>?_
 ·have:=R.lt i hi
  simp [List.getD_eq_getElem?_getD,this]
 ·obtain ⟨p,_,_,h⟩:=h
  rw [e] at h
  omega
end
def ham (n:Nat) (a b:List Int):Nat:=far (fun _=>false) a b 0 n
def wt (n:Nat) (y:List Int):Nat:=ham n (List.replicate n 0) y
section
variable {q:Nat} {add mul:Int→Int→Int} {neg inv:Int→Int} {n:Nat}
end
end Go.Proofs.YticbdgmcofjkeaaGreat.Ma
namespace Go.Proofs.YticbdgmcofjkeaaGreat.Ai
open Go Ma
noncomputable section
section
variable {q n:Nat} {G:List (List Int)}
end
end
end Go.Proofs.YticbdgmcofjkeaaGreat.Ai
namespace Go.Proofs.YticbdgmcofjkeaaGreat.Ai
open Go Ma
noncomputable section
def cnt1 (n:Nat) (s:List Int) (y:List Int):List Int:=s.set (wt n y) (s.getD (wt n y) 0+1)
def Hb (n:Nat) (s:List Int) (m:Nat):Prop:=s.length=n+1∧∀ j,0≤s.getD j 0∧s.getD j 0+m≤2^60
theorem Hb.mono {n:Nat} {s:List Int} {m k:Nat} (h:Hb n s m) (hk:k≤m):Hb n s k:=⟨h.1,fun j=>⟨(h.2 j).1,by have:=(h.2 j).2;omega⟩⟩
theorem wt_le (n:Nat) (y:List Int):wt n y≤n:=far_le _ _ _ _ _
theorem Hb.step {n:Nat} {s:List Int} {m:Nat} (h:Hb n s (m+1)) (y:List Int):Hb n (cnt1 n s y) m:=by
 have hw:=wt_le n y
 refine ⟨by unfold cnt1;rw [List.length_set];exact h.1,fun j=>?_⟩
 have a:=h.2 j
 have b:=h.2 (wt n y)
 unfold cnt1
 rw [List.getD_eq_getElem?_getD,List.getElem?_set]
 by_cases e:wt n y=j
 ·rw [if_pos e,if_pos (by rw [h.1];omega)]
  simp only [Option.getD_some]
  omega
 ·rw [if_neg e,←List.getD_eq_getElem?_getD]
  omega
end
end Go.Proofs.YticbdgmcofjkeaaGreat.Ai
namespace Go.Proofs.YticbdgmcofjkeaaGreat.Ai
open Go Ma Go.RowKit
noncomputable section
end
end Go.Proofs.YticbdgmcofjkeaaGreat.Ai
namespace Go.Proofs.YticbdgmcofjkeaaGreat.Ai
open Go Ma
noncomputable section
def isRefA:Ans→Bool
 | ⟨.tup [.agg [_,_,.ref _ _ _ _ _],_],_⟩=>true
 | _=>false
def sh81:List PA:=[⟨.tup [.agg [.int .i64,.int .i64,.ref 0 (some 0) (some 0) none 1],.v .bool],[.c (.i .i64)]⟩]
def V81 {τ:Type} (l:LS_) (k:Nat→LS_→Option τ):Option τ:=F81 l fun j m=>sw (k 0 m) (fun _=>none) j
def V81.E:Ent P:=⟨117,[pI],sh81,fun l k=>V81 l k,fun ls κ r h=>by
 have e:(fun (j:Nat) (l:LS_)=>sel F81.E.sh (fun s=>Bool.rec (motive:=fun _=>Option _) none (κ (fA s l)) (isRefA (fA s l))) j)=fun (j:Nat) (m:LS_)=>sw (sel sh81 (fun s=>κ (fA s m)) 0) (fun _=>none) j:=by
  funext j l
  match j with
  | 0=>rfl
  | 1=>rfl
  | j+2=>rfl
 have h2:F81.E.b ls (fun j l=>sel F81.E.sh (fun s=>Bool.rec (motive:=fun _=>Option _) none (κ (fA s l)) (isRefA (fA s l))) j)=some r:=by
  rw [e]
  exact h
 obtain ⟨x,h3,h4⟩:=F81.E.ok ls (fun x=>Bool.rec (motive:=fun _=>Option _) none (κ x) (isRefA x)) r h2
 cases hb:isRefA x with
 | false=>simp only [hb] at h4;cases h4
 | true=>simp only [hb] at h4;exact ⟨x,h3,h4⟩⟩
theorem V81_spec {q:Nat} (hq:q∈Qs) {τ:Type} (k:Nat→LS_→Option τ):V81 [.I q] k=k 0 [.I (fp q),.I (fe q),.N (fm q).length,.B true,.L (fm q)]:=by
 show F81 [.I q] (fun j m=>sw (k 0 m) (fun _=>none) j)=_
 rw [F81_spec hq]
 rfl
def T31 {τ:Type} (l:LS_) (k:Nat→LS_→Option τ):Option τ:=F31 l k
def T31.E:Ent P:=F31.E
end
end Go.Proofs.YticbdgmcofjkeaaGreat.Ai
namespace Go.Proofs.YticbdgmcofjkeaaGreat.Ai
open Go Go.RowKit
noncomputable section
variable {τ:Type} (t:Nat) (nx ex:Nat→LS_→Option τ) (l:LS_) (k κ:Nat→LS_→Option τ)
def rao0:List PO:=[(oG [pI,pI,qM]),(oG [pI,pI,nS]),(oG [pI,pI,(rr 4)]),oB,oI]
def rao1:List PO:=[(oG [pI,pI,qM]),(oG [pI,pI,nS]),(oG [pI,pI,(rr 5)]),oB,oI,oI]
def rao2:List PO:=[(oG [pI,pI,qM]),(oG [pI,pI,nS]),(oG [pI,pI,(rr 6)]),oB,(PO.cells true true (PC.r 7)),oI,oI,(PO.fam true .i64)]
def F112.ps:List PV2:=[pI]
def F112.sh:List PA:=[(PA.mk (PV3.v pB) [])]
def F112.O:Orc P:=⟨[],[],[],40⟩
def F112:Option τ :=
 k 0 [.B ((gI l 0) != 0)]
theorem F112.eq:FEq F112.O 116 F112.ps F112.sh F112:=by intro τ l κ;kernel_rfl
def F112.E:Ent P:=mkF F112.eq
def L100_2_3.H:LHead:=⟨false,false,0,471042,471042,403,16,0,[(PS.mk (qR::(PV2.fn 116 [])::us 2 (pI::us 2 (pI::pI::us 10 []))) [])],[(Out.ret,(PS.mk (us 4 (pI::us 14 [])) [])),((Out.exit 0),(PS.mk (us 4 (pI::us 14 [])) []))]⟩
def L100_2_3.O:Orc P:=⟨[F112.E],[],[],40⟩
def L100_2_3.s0:Option τ :=
 br (ltI (gI l 4) (gI l 3))
 (ck (((leI 0 (gI l 4))&&(ltI (gI l 4) (gN l 0)))&&true)
 (ck (ltN ((Int.toNat (gI l 4))*1) (List.length (gL l 1)))
 (F112 [.I (List.getD (gL l 1) ((Int.toNat (gI l 4))*1) 0)]
 (fun j A=>(sw (br (gB A 0)
 (ex 0 [.I (gI l 4)])
 (nx 0 [.N (gN l 0),.L (gL l 1),.I (gI l 2),.I (gI l 3),.I (wr .i64 ((gI l 4)+1))]))
 (fun _=>none)) j))))
 (ex 1 [.I (gI l 2)])
theorem L100_2_3.e0:LEq L100_2_3.O L100_2_3.H 0 L100_2_3.s0:=by intro τ next κ l;kernel_rfl
def L100_2_3:LStep P Cf:=LStep.mk1 (by decide) L100_2_3.e0
def L100_2_3.b:Option τ:=runE L100_2_3 fuel κ t l
def L100_2_3.E:LEnt P:=LStep.E L100_2_3
def S100_3.H:SHead:=⟨115,[qR,(PV2.fn 116 [])],[],[],[(pI,[])]⟩
def S100_3.O:Orc P:=⟨[],[L100_2_3.E],[],40⟩
def S100_3:Option τ :=
 L100_2_3.b 0 [.N (gN l 0),.L (gL l 1),.I 0,.I (gN l 0),.I 0]
 (fun j A=>(sw (k 0 [.I (gI A 0)])
 (sw (k 0 [.I (-1)])
 (fun _=>none))) j)
theorem S100_3.eq:SEq S100_3.O S100_3.H S100_3:=by intro τ l κ;kernel_rfl
def S100_3.next:SDyn P S100_3.H:=mkS S100_3.eq
def S100_3.E:SEnt P:=⟨S100_3.H,S100_3.next⟩
def F82.ps:List PV2:=[pR]
def F82.sh:List PA:=[(PA.mk (PV3.v pI) [])]
def F82.O:Orc P:=⟨[],[],[S100_3.E],40⟩
def F82:Option τ :=
 S100_3 [.N (List.length (gL l 0)),.L (gL l 0)]
 (fun j A=>(sw (k 0 [.I (gI A 0)])
 (fun _=>none)) j)
theorem F82.eq:FEq F82.O 72 F82.ps F82.sh F82:=by intro τ l κ;kernel_rfl
def F82.E:Ent P:=mkF F82.eq
def L36_6.H:LHead:=⟨true,true,0,544774,544774,805306414,46,0,[(PS.mk (us 1 ((pp 0)::(pp 1)::(pp 2)::us 1 ((rr 3)::us 22 (pI::pI::us 68 [])))) rao0)],[((Out.exit 0),(PS.mk (us 1 ((pp 0)::(pp 1)::(pp 2)::us 1 ((rr 3)::us 92 []))) rao0))]⟩
def L36_6.O:Orc P:=⟨[],[],[],40⟩
def L36_6.s0:Option τ :=
 br (ltI (gI l 2) (gI l 1))
 (ck (((leI 0 (gI l 2))&&(ltI (gI l 2) (gN l 0)))&&true)
 (ck ((leN ((0+((Int.toNat (gI l 2))*1))+1) (List.length (gLB l 12)))&&true)
 (nx 0 [.N (gN l 0),.I (gI l 1),.I (wr .i64 ((gI l 2)+1)),.I (gI l 3),.I (gI l 4),.N (gN l 5),.LL (gLL l 6),.I (gI l 7),.I (gI l 8),.I (gI l 9),.I (gI l 10),.N (gN l 11),.LB (List.set (gLB l 12) (0+((Int.toNat (gI l 2))*1)) true),.L (gL l 13)])))
 (ex 0 [.N (gN l 0),.I (gI l 3),.I (gI l 4),.N (gN l 5),.LL (gLL l 6),.I (gI l 7),.I (gI l 8),.I (gI l 9),.I (gI l 10),.N (gN l 11),.LB (gLB l 12),.L (gL l 13)])
theorem L36_6.e0:LEq L36_6.O L36_6.H 0 L36_6.s0:=by intro τ next κ l;kernel_rfl
def L36_6:LStep P Cf:=LStep.mk1 (by decide) L36_6.e0
def L36_6.b:Option τ:=runE L36_6 fuel κ t l
def L36_6.E:LEnt P:=LStep.E L36_6
def L36_11.H:LHead:=⟨true,true,0,544779,544779,962072674350,46,0,[(PS.mk (us 1 ((pp 0)::(pp 1)::(pp 2)::us 1 ((rr 3)::us 31 (qM::pI::pI::us 58 [])))) rao0)],[((Out.exit 2),(PS.mk (us 1 ((pp 0)::(pp 1)::(pp 2)::us 1 ((rr 3)::us 92 []))) rao0))]⟩
def L36_11.O:Orc P:=⟨[F82.E],[],[],40⟩
def L36_11.s0:Option τ :=
 br (ltI (gI l 4) (gI l 3))
 (ck (((leI 0 (gI l 4))&&(ltI (gI l 4) (gN l 1)))&&true)
 (ck (ltN ((Int.toNat (gI l 4))*1) (List.length (gLL l 2)))
 (ck ((eqM (List.length (List.getD (gLL l 2) ((Int.toNat (gI l 4))*1) [])) (List.length (List.getD (gLL l 2) ((Int.toNat (gI l 4))*1) [])))&&true)
 (F82 [.L (List.getD (gLL l 2) ((Int.toNat (gI l 4))*1) [])]
 (fun j A=>(sw (ck (((leI 0 (gI A 0))&&(ltI (gI A 0) (gN l 0)))&&true)
 (ck ((leN ((0+((Int.toNat (gI A 0))*1))+1) (List.length (gLB l 14)))&&true)
 (nx 0 [.N (gN l 0),.N (gN l 1),.LL (gLL l 2),.I (gI l 3),.I (wr .i64 ((gI l 4)+1)),.I (gI l 5),.I (gI l 6),.N (gN l 7),.LL (gLL l 8),.I (gI l 9),.I (gI l 10),.I (gI l 11),.I (gI l 12),.N (gN l 13),.LB (List.set (gLB l 14) (0+((Int.toNat (gI A 0))*1)) false),.L (gL l 15)])))
 (fun _=>none)) j)))))
 (ex 0 [.N (gN l 0),.I (gI l 5),.I (gI l 6),.N (gN l 7),.LL (gLL l 8),.I (gI l 9),.I (gI l 10),.I (gI l 11),.I (gI l 12),.N (gN l 13),.LB (gLB l 14),.L (gL l 15)])
theorem L36_11.e0:LEq L36_11.O L36_11.H 0 L36_11.s0:=by intro τ next κ l;kernel_rfl
def L36_11:LStep P Cf:=LStep.mk1 (by decide) L36_11.e0
def L36_11.b:Option τ:=runE L36_11 fuel κ t l
def L36_11.E:LEnt P:=LStep.E L36_11
def L36_23.H:LHead:=⟨true,true,0,544791,544791,258256105881793990190,1688849860266542,0,[(PS.mk (us 1 ((pp 0)::(pp 1)::(pp 2)::us 1 ((rr 3)::us 3 (nS::pI::(rr 4)::us 37 (pI::pI::us 14 (qM::pI::pI::us 30 [])))))) rao1)],[((Out.exit 6),(PS.mk (us 1 ((pp 0)::(pp 1)::(pp 2)::us 1 ((rr 3)::us 3 (nS::us 1 ((rr 4)::us 37 (pI::pI::us 47 [])))))) rao1))]⟩
def L36_23.O:Orc P:=⟨[F82.E,T83.E],[],[],40⟩
def L36_23.s0:Option τ :=
 br (ltI (gI l 8) (gI l 7))
 (ck (((leI 0 (gI l 8))&&(ltI (gI l 8) (gN l 5)))&&true)
 (ck (ltN ((Int.toNat (gI l 8))*1) (List.length (gLL l 6)))
 (ck ((eqM (List.length (List.getD (gLL l 6) ((Int.toNat (gI l 8))*1) [])) (List.length (List.getD (gLL l 6) ((Int.toNat (gI l 8))*1) [])))&&true)
 (F82 [.L (List.getD (gLL l 6) ((Int.toNat (gI l 8))*1) [])]
 (fun j A=>(sw (ck (((leI 0 (gI l 1))&&(ltI (gI l 1) (((List.length (List.getD (gLL l 6) ((Int.toNat (gI l 8))*1) [])):Nat):Int)))&&true)
 (ck (ltN ((Int.toNat (gI l 1))*1) (List.length (List.getD (gLL l 6) ((Int.toNat (gI l 8))*1) [])))
 (ck (((eqM (gN l 17) (List.length (List.take ((gN l 17)*1) (List.drop 0 (gL l 20)))))&&true)&&true)
 (T83 [.I (gI l 15),.I (gI l 16),.L (List.take ((gN l 17)*1) (List.drop 0 (gL l 20))),.I (List.getD (List.getD (gLL l 6) ((Int.toNat (gI l 8))*1) []) ((Int.toNat (gI l 1))*1) 0)]
 (fun j B=>(sw (ck (((leI 0 (gI A 0))&&(ltI (gI A 0) (gN l 2)))&&true)
 (ck ((leN ((0+((Int.toNat (gI A 0))*1))+1) (List.length (gL l 19)))&&true)
 (nx 0 [.N (gN l 0),.I (gI l 1),.N (gN l 2),.I (gI l 3),.I (gI l 4),.N (gN l 5),.LL (gLL l 6),.I (gI l 7),.I (wr .i64 ((gI l 8)+1)),.I (gI l 9),.I (gI l 10),.N (gN l 11),.LL (gLL l 12),.I (gI l 13),.I (gI l 14),.I (gI l 15),.I (gI l 16),.N (gN l 17),.LB (gLB l 18),.L (List.set (gL l 19) (0+((Int.toNat (gI A 0))*1)) (gI B 0)),.L (gL l 20)])))
 (fun _=>none)) j)))))
 (fun _=>none)) j)))))
 (ex 0 [.N (gN l 0),.N (gN l 2),.I (gI l 3),.I (gI l 4),.I (gI l 9),.I (gI l 10),.N (gN l 11),.LL (gLL l 12),.I (gI l 13),.I (gI l 14),.I (gI l 15),.I (gI l 16),.N (gN l 17),.LB (gLB l 18),.L (gL l 19),.L (gL l 20)])
theorem L36_23.e0:LEq L36_23.O L36_23.H 0 L36_23.s0:=by intro τ next κ l;kernel_rfl
def L36_23:LStep P Cf:=LStep.mk1 (by decide) L36_23.e0
def L36_23.b:Option τ:=runE L36_23 fuel κ t l
def L36_23.E:LEnt P:=LStep.E L36_23
def L36_23_1.H:LHead:=⟨true,true,0,544791,544791,258256105881793990190,1688849860266542,0,[(PS.mk (us 1 ((pp 0)::(pp 1)::(pp 2)::us 1 ((rr 3)::us 3 ((rr 4)::pI::(rr 5)::us 37 (pI::pI::us 14 (qM::pI::pI::us 30 [])))))) rao2)],[((Out.exit 6),(PS.mk (us 1 ((pp 0)::(pp 1)::(pp 2)::us 1 ((rr 3)::us 3 ((rr 4)::us 1 ((rr 5)::us 37 (pI::pI::us 47 [])))))) rao2))]⟩
def L36_23_1.O:Orc P:=⟨[F82.E,T83.E],[],[],40⟩
def L36_23_1.s0:Option τ :=
 br (ltI (gI l 9) (gI l 8))
 (ck (((leI 0 (gI l 9))&&(ltI (gI l 9) (gN l 6)))&&true)
 (ck (ltN ((Int.toNat (gI l 9))*1) (List.length (gLL l 7)))
 (ck ((eqM (List.length (List.getD (gLL l 7) ((Int.toNat (gI l 9))*1) [])) (List.length (List.getD (gLL l 7) ((Int.toNat (gI l 9))*1) [])))&&true)
 (F82 [.L (List.getD (gLL l 7) ((Int.toNat (gI l 9))*1) [])]
 (fun j A=>(sw (ck (((leI 0 (gI l 2))&&(ltI (gI l 2) (((List.length (List.getD (gLL l 7) ((Int.toNat (gI l 9))*1) [])):Nat):Int)))&&true)
 (ck (ltN ((Int.toNat (gI l 2))*1) (List.length (List.getD (gLL l 7) ((Int.toNat (gI l 9))*1) [])))
 (ck (((eqM (gN l 18) (List.length (List.take ((gN l 18)*1) (List.drop 0 (gL l 22)))))&&true)&&true)
 (T83 [.I (gI l 16),.I (gI l 17),.L (List.take ((gN l 18)*1) (List.drop 0 (gL l 22))),.I (List.getD (List.getD (gLL l 7) ((Int.toNat (gI l 9))*1) []) ((Int.toNat (gI l 2))*1) 0)]
 (fun j B=>(sw (ck (((leI 0 (gI A 0))&&(ltI (gI A 0) (gN l 3)))&&true)
 (ck ((leN ((0+((Int.toNat (gI A 0))*1))+1) (List.length (gL l 21)))&&true)
 (nx 0 [.N (gN l 0),.N (gN l 1),.I (gI l 2),.N (gN l 3),.I (gI l 4),.I (gI l 5),.N (gN l 6),.LL (gLL l 7),.I (gI l 8),.I (wr .i64 ((gI l 9)+1)),.I (gI l 10),.I (gI l 11),.N (gN l 12),.LL (gLL l 13),.I (gI l 14),.I (gI l 15),.I (gI l 16),.I (gI l 17),.N (gN l 18),.LB (gLB l 19),.LN (gLN l 20),.L (List.set (gL l 21) (0+((Int.toNat (gI A 0))*1)) (gI B 0)),.L (gL l 22),.LL (gLL l 23)])))
 (fun _=>none)) j)))))
 (fun _=>none)) j)))))
 (ex 0 [.N (gN l 0),.N (gN l 1),.N (gN l 3),.I (gI l 4),.I (gI l 5),.I (gI l 10),.I (gI l 11),.N (gN l 12),.LL (gLL l 13),.I (gI l 14),.I (gI l 15),.I (gI l 16),.I (gI l 17),.N (gN l 18),.LB (gLB l 19),.LN (gLN l 20),.L (gL l 21),.L (gL l 22),.LL (gLL l 23)])
theorem L36_23_1.e0:LEq L36_23_1.O L36_23_1.H 0 L36_23_1.s0:=by intro τ next κ l;kernel_rfl
def L36_23_1:LStep P Cf:=LStep.mk1 (by decide) L36_23_1.e0
def L36_23_1.b:Option τ:=runE L36_23_1 fuel κ t l
def L36_23_1.E:LEnt P:=LStep.E L36_23_1
def L36_17.H:LHead:=⟨true,true,0,544785,544785,1688849860264494,526,0,[(PS.mk (us 1 ((pp 0)::(pp 1)::(pp 2)::us 1 ((rr 3)::us 3 (nS::us 39 (pI::pI::us 47 []))))) rao0),(PS.mk (us 1 ((pp 0)::(pp 1)::(pp 2)::us 1 ((rr 3)::us 3 ((rr 4)::us 39 (pI::pI::us 47 []))))) [(oG [pI,pI,qM]),(oG [pI,pI,nS]),(oG [pI,pI,(rr 5)]),oB,(PO.cells true true (PC.r 6)),oI,(PO.fam true .i64)])],[((Out.exit 4),(PS.mk (us 1 ((pp 0)::(pp 1)::(pp 2)::us 5 (nS::us 88 []))) [(oG [pI,pI,qM]),(oG [pI,pI,nS]),(oG [pI,pI,(rr 3)]),oI])),((Out.exit 4),(PS.mk (us 1 ((pp 0)::(pp 1)::(pp 2)::us 5 ((rr 3)::us 88 []))) [(oG [pI,pI,qM]),(oG [pI,pI,nS]),(oG [pI,pI,(rr 4)]),(PO.cells true true (PC.r 5)),oI,(PO.fam true .i64)]))]⟩
def L36_17.O:Orc P:=⟨[],[L36_23.E,L36_23_1.E],[],40⟩
def L36_17.s0:Option τ :=
 br (ltI (gI l 2) (gI l 1))
 (ck (((leI 0 (gI l 2))&&(ltI (gI l 2) (gN l 0)))&&true)
 (ck (ltN (0+((Int.toNat (gI l 2))*1)) (List.length (gLB l 12)))
 (br (!(List.getD (gLB l 12) (0+((Int.toNat (gI l 2))*1)) false))
 (nx 0 [.N (gN l 0),.I (gI l 1),.I (wr .i64 ((gI l 2)+1)),.I (gI l 3),.I (gI l 4),.N (gN l 5),.LL (gLL l 6),.I (gI l 7),.I (gI l 8),.I (gI l 9),.I (gI l 10),.N (gN l 11),.LB (gLB l 12),.L (gL l 13)])
 (ck (((leI 0 (gI l 4))&&(leI (gI l 4) (gI l 4)))&&(leI ((gI l 4)*9) 1099511627776))
 (ck (((leI 0 (gI l 2))&&(ltI (gI l 2) (((Int.toNat (gI l 4)):Nat):Int)))&&true)
 (ck ((leN ((0+((Int.toNat (gI l 2))*1))+1) (List.length (List.replicate (Int.toNat (gI l 4)) (0:Int))))&&true)
 (L36_23.b 0 [.N (gN l 0),.I (gI l 2),.N (Int.toNat (gI l 4)),.I (gI l 1),.I (gI l 2),.N (gN l 5),.LL (gLL l 6),.I (gN l 5),.I 0,.I (gI l 3),.I (gI l 4),.N (gN l 5),.LL (gLL l 6),.I (gI l 7),.I (gI l 8),.I (gI l 9),.I (gI l 10),.N (gN l 11),.LB (gLB l 12),.L (List.set (List.replicate (Int.toNat (gI l 4)) (0:Int)) (0+((Int.toNat (gI l 2))*1)) 1),.L (gL l 13)]
 (fun j A=>(sw (ck ((((eqM (gN A 1) (List.length (gL A 14)))&&true)&&true)&&true)
 (nx 1 [.N (gN A 0),.N 1,.I (gI A 2),.I (wr .i64 ((gI A 3)+1)),.I (gI A 4),.I (gI A 5),.N (gN A 6),.LL (gLL A 7),.I (gI A 8),.I (gI A 9),.I (gI A 10),.I (gI A 11),.N (gN A 12),.LB (gLB A 13),.LN [0],.L (gL A 15),.LL [(gL A 14)]]))
 (fun _=>none)) j))))))))
 (ex 0 [.I (gI l 3),.I (gI l 4),.N (gN l 5),.LL (gLL l 6),.I (gI l 7),.I (gI l 8),.I (gI l 9),.I (gI l 10),.N (gN l 11),.L (gL l 13)])
theorem L36_17.e0:LEq L36_17.O L36_17.H 0 L36_17.s0:=by intro τ next κ l;kernel_rfl
def L36_17.s1:Option τ :=
 br (ltI (gI l 3) (gI l 2))
 (ck (((leI 0 (gI l 3))&&(ltI (gI l 3) (gN l 0)))&&true)
 (ck (ltN (0+((Int.toNat (gI l 3))*1)) (List.length (gLB l 13)))
 (br (!(List.getD (gLB l 13) (0+((Int.toNat (gI l 3))*1)) false))
 (nx 1 [.N (gN l 0),.N (gN l 1),.I (gI l 2),.I (wr .i64 ((gI l 3)+1)),.I (gI l 4),.I (gI l 5),.N (gN l 6),.LL (gLL l 7),.I (gI l 8),.I (gI l 9),.I (gI l 10),.I (gI l 11),.N (gN l 12),.LB (gLB l 13),.LN (gLN l 14),.L (gL l 15),.LL (gLL l 16)])
 (ck (((leI 0 (gI l 5))&&(leI (gI l 5) (gI l 5)))&&(leI ((gI l 5)*9) 1099511627776))
 (ck (((leI 0 (gI l 3))&&(ltI (gI l 3) (((Int.toNat (gI l 5)):Nat):Int)))&&true)
 (ck ((leN ((0+((Int.toNat (gI l 3))*1))+1) (List.length (List.replicate (Int.toNat (gI l 5)) (0:Int))))&&true)
 (L36_23_1.b 0 [.N (gN l 0),.N (gN l 1),.I (gI l 3),.N (Int.toNat (gI l 5)),.I (gI l 2),.I (gI l 3),.N (gN l 6),.LL (gLL l 7),.I (gN l 6),.I 0,.I (gI l 4),.I (gI l 5),.N (gN l 6),.LL (gLL l 7),.I (gI l 8),.I (gI l 9),.I (gI l 10),.I (gI l 11),.N (gN l 12),.LB (gLB l 13),.LN (gLN l 14),.L (List.set (List.replicate (Int.toNat (gI l 5)) (0:Int)) (0+((Int.toNat (gI l 3))*1)) 1),.L (gL l 15),.LL (gLL l 16)]
 (fun j A=>(sw (ck (((((((eqM (gN A 2) (List.length (gL A 16)))&&true)&&(eqM (gN A 1) (List.length (gLN A 15))))&&true)&&true)&&(ltN (List.length (gLL A 18)) 1048576))&&(leN (((gN A 1)+1)*25) 1099511627776))
 (nx 1 [.N (gN A 0),.N ((gN A 1)+1),.I (gI A 3),.I (wr .i64 ((gI A 4)+1)),.I (gI A 5),.I (gI A 6),.N (gN A 7),.LL (gLL A 8),.I (gI A 9),.I (gI A 10),.I (gI A 11),.I (gI A 12),.N (gN A 13),.LB (gLB A 14),.LN ((gLN A 15)++[(List.length (gLL A 18))]),.L (gL A 17),.LL ((gLL A 18)++[(gL A 16)])]))
 (fun _=>none)) j))))))))
 (ex 1 [.N (gN l 1),.I (gI l 4),.I (gI l 5),.N (gN l 6),.LL (gLL l 7),.I (gI l 8),.I (gI l 9),.I (gI l 10),.I (gI l 11),.N (gN l 12),.LN (gLN l 14),.L (gL l 15),.LL (gLL l 16)])
theorem L36_17.e1:LEq L36_17.O L36_17.H 1 L36_17.s1:=by intro τ next κ l;kernel_rfl
def L36_17:LStep P Cf:=LStep.mk2 (by decide) L36_17.e0 L36_17.e1
def L36_17.b:Option τ:=runE L36_17 fuel κ t l
def L36_17.E:LEnt P:=LStep.E L36_17
def L114_2_3.H:LHead:=⟨false,false,1,573442,573442,403,16,0,[(PS.mk (nS::(PV2.fn 141 [(p1 0)])::us 2 (pI::us 2 (pI::pI::us 10 []))) [(oG [pI])])],[((Out.exit 0),(PS.mk (us 4 (pI::us 14 [])) [(oG [pI])]))]⟩
def L114_2_3.O:Orc P:=⟨[],[],[],40⟩
def L114_2_3.s0 {τ:Type} (next ex:Nat→LS_→Option τ) (l:LS_):Option τ :=
 br (ltI (gI l 2) (gI l 1))
 (none)
 (ex 0 [.I (gI l 0),.I (gI l 3)])
theorem L114_2_3.e0:LEq L114_2_3.O L114_2_3.H 0 L114_2_3.s0:=by intro τ next κ l;kernel_rfl
def L114_2_3:LStep P Cf:=LStep.mk1 (by decide) L114_2_3.e0
def L114_2_3.b:Option τ:=runE L114_2_3 fuel κ t l
def L114_2_3.E:LEnt P:=LStep.E L114_2_3
def S114_3.H:SHead:=⟨140,[nS,(PV2.fn 141 [(p1 0)])],[],[(oG [pI])],[(pI,[(oG [pI])])]⟩
def S114_3.O:Orc P:=⟨[],[L114_2_3.E],[],40⟩
def S114_3:Option τ :=
 L114_2_3.b 0 [.I 0,.I 0,.I 0,.I (gI l 0)]
 (fun j A=>(sw (k 0 [.I (-1),.I (gI A 1)])
 (fun _=>none)) j)
theorem S114_3.eq:SEq S114_3.O S114_3.H S114_3:=by intro τ l κ;kernel_rfl
def S114_3.next:SDyn P S114_3.H:=mkS S114_3.eq
def S114_3.E:SEnt P:=⟨S114_3.H,S114_3.next⟩
def L84_3_2.H:LHead:=⟨true,false,3,454659,454659,398,132,0,[(PS.mk (us 1 (pI::nS::(pp 1)::us 3 (pI::(pp 2)::us 112 []))) [oI,(oG [pI,pI,(rr 0)]),(oG [pI])]),(PS.mk (us 1 (pI::nS::(pp 1)::us 3 (pI::(pp 3)::us 112 []))) [oI,(oG [pI,pI,(rr 0)]),(oG [pI]),(oG [pI])])],[((Out.exit 0),(PS.mk (us 2 (nS::us 4 (pI::us 113 []))) [oI,(oG [pI,pI,(rr 0)]),(oG [pI])]))]⟩
def L84_3_2.O:Orc P:=⟨[],[],[S114_3.E],40⟩
def L84_3_2.s0:Option τ :=
 br (ltI (gI l 6) (gI l 0))
 (br (ltI (gI l 1) 0)
 (ck ((((eqI (gI l 1) 0)&&true)&&true)&&true)
 (S114_3 [.I (gI l 6)]
 (fun j A=>(sw (br (ltI (gI A 0) 0)
 (nx 1 [.I (gI l 0),.I (gI l 1),.L (gL l 2),.I (gI l 3),.I (gI l 4),.N (gN l 5),.I (gI A 1),.I (wr .i64 ((gI A 1)+1))])
 (none))
 (fun _=>none)) j)))
 (ex 0 [.I (gI l 1),.L (gL l 2),.I (gI l 3),.I (gI l 4),.N (gN l 5),.I (gI l 6)]))
 (ex 0 [.I (gI l 1),.L (gL l 2),.I (gI l 3),.I (gI l 4),.N (gN l 5),.I (gI l 6)])
theorem L84_3_2.e0:LEq L84_3_2.O L84_3_2.H 0 L84_3_2.s0:=by intro τ next κ l;kernel_rfl
def L84_3_2.s1:Option τ :=
 br (ltI (gI l 7) (gI l 0))
 (br (ltI (gI l 1) 0)
 (ck ((((eqI (gI l 1) 0)&&true)&&true)&&true)
 (S114_3 [.I (gI l 7)]
 (fun j A=>(sw (br (ltI (gI A 0) 0)
 (nx 1 [.I (gI l 0),.I (gI l 1),.L (gL l 2),.I (gI l 3),.I (gI l 4),.N (gN l 5),.I (gI l 6),.I (wr .i64 ((gI A 1)+1))])
 (none))
 (fun _=>none)) j)))
 (ex 0 [.I (gI l 1),.L (gL l 2),.I (gI l 3),.I (gI l 4),.N (gN l 5),.I (gI l 6)]))
 (ex 0 [.I (gI l 1),.L (gL l 2),.I (gI l 3),.I (gI l 4),.N (gN l 5),.I (gI l 6)])
theorem L84_3_2.e1:LEq L84_3_2.O L84_3_2.H 1 L84_3_2.s1:=by intro τ next κ l;kernel_rfl
def L84_3_2:LStep P Cf:=LStep.mk2 (by decide) L84_3_2.e0 L84_3_2.e1
def L84_3_2.b:Option τ:=runE L84_3_2 fuel κ t l
def L84_3_2.E:LEnt P:=LStep.E L84_3_2
def S84_2.H:SHead:=⟨111,[(PV2.agg [iI,iI,(r1 0)]),pI,nS],[],[oI],[(nS,[oI])]⟩
def S84_2.O:Orc P:=⟨[],[L84_3_2.E],[],40⟩
def S84_2:Option τ :=
 L84_3_2.b 0 [.I (gI l 3),.I 0,.L (gL l 4),.I (gI l 0),.I (gI l 1),.N (gN l 2),.I 0]
 (fun j A=>(sw (ck (((eqI (gI A 0) 0)&&(eqI (gI A 0) 0))&&true)
 (k 0 [.L (gL A 1)]))
 (fun _=>none)) j)
theorem S84_2.eq:SEq S84_2.O S84_2.H S84_2:=by intro τ l κ;kernel_rfl
def S84_2.next:SDyn P S84_2.H:=mkS S84_2.eq
def S84_2.E:SEnt P:=⟨S84_2.H,S84_2.next⟩
def F36.ps:List PV2:=[pCode]
def F36.sh:List PA:=[(PA.mk (PV3.v (PV2.agg [iI,iI,PV1.nilS])) []),(PA.mk (PV3.v (PV2.agg [iI,iI,(PV1.sl (PC0.m .i64))])) []),(PA.mk (PV3.v (PV2.agg [iI,iI,(PV1.sl PC0.e)])) [])]
def F36.O:Orc P:=⟨[T37.E,V81.E],[L36_6.E,L36_11.E,L36_17.E],[S84_2.E,S84_0.E],40⟩
def F36:Option τ :=
 ck (((eqM (List.length (gLL l 2)) (List.length (gLL l 2)))&&true)&&true)
 (T37 [.I (gI l 0),.I (gI l 1),.LL (gLL l 2)]
 (fun j A=>(sw (br (!(gB A 0))
 (k 0 [.I 0,.I 0])
 (V81 [.I (gI l 0)]
 (fun j B=>(sw (ck (((leI 0 (gI l 1))&&(leI (gI l 1) (gI l 1)))&&(leI ((gI l 1)*2) 1099511627776))
 (L36_6.b 0 [.N (Int.toNat (gI l 1)),.I (((Int.toNat (gI l 1)):Nat):Int),.I 0,.I (gI l 0),.I (gI l 1),.N (List.length (gLL l 2)),.LL (gLL l 2),.I 0,.I 0,.I (gI B 0),.I (gI B 1),.N (gN B 2),.LB (List.replicate (Int.toNat (gI l 1)) false),.L (gL B 4)]
 (fun j C=>(sw (L36_11.b 0 [.N (gN C 0),.N (gN C 3),.LL (gLL C 4),.I (gN C 3),.I 0,.I (gI C 1),.I (gI C 2),.N (gN C 3),.LL (gLL C 4),.I (gI C 5),.I (gI C 6),.I (gI C 7),.I (gI C 8),.N (gN C 9),.LB (gLB C 10),.L (gL C 11)]
 (fun j D=>(sw (L36_17.b 0 [.N (gN D 0),.I (gI D 2),.I 0,.I (gI D 1),.I (gI D 2),.N (gN D 3),.LL (gLL D 4),.I (gI D 5),.I (gI D 6),.I (gI D 7),.I (gI D 8),.N (gN D 9),.LB (gLB D 10),.L (gL D 11)]
 (fun j E=>(sw (S84_2 [.I (gI E 6),.I (gI E 7),.N (gN E 8),.I (gI E 1),.L (gL E 9)]
 (fun j F=>(sw (k 0 [.I (gI E 0),.I (gI E 1)])
 (fun _=>none)) j))
 (sw (S84_0 [.I (gI E 7),.I (gI E 8),.N (gN E 9),.I (gI E 2),.N (gN E 0),.L (gL E 11),.LN (gLN E 10),.LL (gLL E 12)]
 (fun j F=>(sw (ck ((@List.all Nat (List.take ((gN F 0)*1) (List.drop 0 (gLN F 2))) (fun y50=>(ltN y50 (List.length (gLL F 3)))))&&true)
 (k 1 [.I (gI E 1),.I (gI E 2),.N (gN F 0),.LL (List.map (fun y49=>(List.getD (gLL F 3) y49 [])) (List.take ((gN F 0)*1) (List.drop 0 (gLN F 2))))]))
 (sw (k 2 [.I (gI E 1),.I (gI E 2),.N (gN F 0)])
 (fun _=>none))) j))
 (fun _=>none))) j))
 (fun _=>none)) j))
 (fun _=>none)) j)))
 (fun _=>none)) j)))
 (fun _=>none)) j))
theorem F36.eq:FEq F36.O 133 F36.ps F36.sh F36:=by intro τ l κ;kernel_rfl
def F36.E:Ent P:=mkF F36.eq
end
end Go.Proofs.YticbdgmcofjkeaaGreat.Ai
namespace Go.Proofs.YticbdgmcofjkeaaGreat.Ma
abbrev Trn (q:Nat) (add:Int→Int→Int):Prop:=∀ c:Nat,c<q→((List.range q).map fun (a:Nat)=>add (a:Int) (c:Int)).Perm ((List.range q).map fun (a:Nat)=>(a:Int))
abbrev Rw (q n:Nat) (m:List (List Int)):Prop:=∀ i,i<m.length→Wd q n (m.getD i [])
def Sp (q n:Nat) (add mul:Int→Int→Int) (m:List (List Int)) (x:List Int):Prop:=x∈words q add mul m (List.replicate n 0)
section
variable {q:Nat} {add mul:Int→Int→Int} {neg inv:Int→Int} {n:Nat}
theorem Rw.head {g:List Int} {gs:List (List Int)} (h:Rw q n (g::gs)):Wd q n g:=by simpa using h 0 (by simp)
theorem Rw.tail {g:List Int} {gs:List (List Int)} (h:Rw q n (g::gs)):Rw q n gs:=fun i hi=>by simpa using h (i+1) (by simpa using hi)
theorem in_ {a:Nat} (h:a<q):0≤((a:Nat):Int)∧((a:Nat):Int)<q:=⟨by omega,by omega⟩
theorem vmul_zero (F:Fld q add mul neg inv) {x:List Int} (hx:Wd q n x):vmul mul 0 x=List.replicate n 0 :=
 ext_getD (by rw [vmul_len,hx.1];simp) fun j hj=>by
  rw [vmul_len,hx.1] at hj
  have a:=hx.2 j hj
  rw [vmul_get (by rw [hx.1];exact hj),F.zero_mul _ a.1 a.2]
  simp [List.getD_eq_getElem?_getD,hj]
theorem vadd_zeros (F:Fld q add mul neg inv) {x:List Int} (hx:Wd q n x):vadd add x (List.replicate n 0)=x:=by
 rw [vadd_comm F hx (zeros_wd F),zero_vadd F hx]
theorem vmul_zeros (F:Fld q add mul neg inv) {c:Int} (h0:0≤c) (h1:c<q):vmul mul c (List.replicate n 0)=List.replicate n 0:=by
 unfold vmul
 rw [List.map_replicate,mul_zero F h0 h1]
theorem vmul_one (F:Fld q add mul neg inv) {x:List Int} (hx:Wd q n x):vmul mul 1 x=x :=
 ext_getD vmul_len fun j hj=>by
  rw [vmul_len] at hj
  have a:=hx.2 j (by rw [←hx.1];exact hj)
  rw [vmul_get hj,F.one_mul _ a.1 a.2]
theorem vmul_vmul (F:Fld q add mul neg inv) {a b:Int} (a0:0≤a) (a1:a<q) (b0:0≤b) (b1:b<q) {x:List Int} (hx:Wd q n x):vmul mul a (vmul mul b x)=vmul mul (mul a b) x :=
 ext_getD (by rw [vmul_len,vmul_len,vmul_len]) fun j hj=>by
  rw [vmul_len,vmul_len] at hj
  have c:=hx.2 j (by rw [←hx.1];exact hj)
  rw [vmul_get (by rw [vmul_len];exact hj),vmul_get hj,vmul_get hj,F.mul_assoc _ _ _ a0 a1 b0 b1 c.1 c.2]
theorem vmul_vadd (F:Fld q add mul neg inv) {c:Int} (h0:0≤c) (h1:c<q) {x y:List Int} (hx:Wd q n x) (hy:Wd q n y):vmul mul c (vadd add x y)=vadd add (vmul mul c x) (vmul mul c y):=by
 have lx:=hx.1
 have ly:=hy.1
 have l1:(vadd add x y).length=n:=by rw [vadd_len (by omega)];exact lx
 refine ext_getD (by rw [vmul_len,l1,vadd_len (by rw [vmul_len,vmul_len];omega),vmul_len,lx]) fun j hj=>?_
 rw [vmul_len,l1] at hj
 have a:=hx.2 j hj
 have b:=hy.2 j hj
 rw [vmul_get (by omega),vadd_get (by omega) (by omega),vadd_get (by rw [vmul_len,vmul_len];omega) (by rw [vmul_len];omega),vmul_get (by omega),vmul_get (by omega),F.distrib _ _ _ h0 h1 a.1 a.2 b.1 b.2]
theorem words_base (F:Fld q add mul neg inv):∀ (m:List (List Int)) (z:List Int),Rw q n m→Wd q n z→z∈words q add mul m z
 | [],z,_,_=>by unfold words;simp
 | g::gs,z,hm,hz=>by
  have q1:=F.one_lt
  unfold words
  refine List.mem_flatMap.2 ⟨0,by simp;omega,?_⟩
  rw [show (((0:Nat):Int))=(0:Int) from rfl,vmul_zero F hm.head,vadd_zeros F hz]
  exact words_base F gs z hm.tail hz
theorem Sp.wd (F:Fld q add mul neg inv) {m:List (List Int)} (hm:Rw q n m) {x:List Int} (h:Sp q n add mul m x):Wd q n x:=words_wd F m _ hm (zeros_wd F) x h
theorem Sp.zero (F:Fld q add mul neg inv) {m:List (List Int)} (hm:Rw q n m):Sp q n add mul m (List.replicate n 0):=words_base F m _ hm (zeros_wd F)
theorem Sp.plus (F:Fld q add mul neg inv) (P:Trn q add) {m:List (List Int)} (hm:Rw q n m) {x y:List Int} (hx:Sp q n add mul m x) (hy:Sp q n add mul m y):Sp q n add mul m (vadd add x y):=words_closed F P hm hx hy
theorem smul_words (F:Fld q add mul neg inv) {c:Int} (h0:0≤c) (h1:c<q):∀ (m:List (List Int)) (z:List Int),Rw q n m→Wd q n z→∀ x∈words q add mul m z,vmul mul c x∈words q add mul m (vmul mul c z)
 | [],z,_,_,x,hx=>by
  unfold words at hx ⊢
  rw [List.mem_singleton.1 hx]
  simp
 | g::gs,z,hm,hz,x,hx=>by
  unfold words at hx ⊢
  obtain ⟨a,ha,hx⟩:=List.mem_flatMap.1 hx
  have a1:a<q:=by simpa using ha
  have hv:=Wd.vmul F (in_ a1).1 (in_ a1).2 hm.head
  have ih:=smul_words F h0 h1 gs _ hm.tail (hz.vadd F hv) x hx
  have hc:=F.mul_in c a h0 h1 (in_ a1).1 (in_ a1).2
  obtain ⟨b,hb⟩:∃ b:Nat,mul c (a:Int)=b:=⟨(mul c (a:Int)).toNat,by omega⟩
  refine List.mem_flatMap.2 ⟨b,by simp;omega,?_⟩
  rw [vmul_vadd F h0 h1 hz hv,vmul_vmul F h0 h1 (in_ a1).1 (in_ a1).2 hm.head,hb] at ih
  exact ih
theorem Sp.smul (F:Fld q add mul neg inv) {m:List (List Int)} (hm:Rw q n m) {c:Int} (h0:0≤c) (h1:c<q) {x:List Int} (hx:Sp q n add mul m x):Sp q n add mul m (vmul mul c x):=by
 have:=smul_words F h0 h1 m _ hm (zeros_wd F) x hx
 rw [vmul_zeros F h0 h1] at this
 exact this
theorem Sp.row (F:Fld q add mul neg inv):∀ {m:List (List Int)},Rw q n m→∀ {i:Nat},i<m.length→Sp q n add mul m (m.getD i [])
 | g::gs,hm,0,_=>by
  have q1:=F.one_lt
  unfold Sp words
  refine List.mem_flatMap.2 ⟨1,by simp;omega,?_⟩
  rw [show (((1:Nat):Int))=(1:Int) from rfl,vmul_one F hm.head,zero_vadd F hm.head,List.getD_cons_zero]
  exact words_base F gs g hm.tail hm.head
 | g::gs,hm,i+1,hi=>by
  have q1:=F.one_lt
  unfold Sp words
  refine List.mem_flatMap.2 ⟨0,by simp;omega,?_⟩
  rw [show (((0:Nat):Int))=(0:Int) from rfl,vmul_zero F hm.head,vadd_zeros F (zeros_wd F),List.getD_cons_succ]
  exact Sp.row F hm.tail (by simpa using hi)
theorem sp_words (F:Fld q add mul neg inv) (P:Trn q add) {m':List (List Int)} (hm':Rw q n m'):∀ (m:List (List Int)) (z:List Int),Rw q n m→(∀ i,i<m.length→Sp q n add mul m' (m.getD i []))→Sp q n add mul m' z→∀ x∈words q add mul m z,Sp q n add mul m' x
 | [],z,_,_,hz,x,hx=>by
  unfold words at hx
  rw [List.mem_singleton.1 hx]
  exact hz
 | g::gs,z,hm,hs,hz,x,hx=>by
  unfold words at hx
  obtain ⟨a,ha,hx⟩:=List.mem_flatMap.1 hx
  have a1:a<q:=by simpa using ha
  have hg:Sp q n add mul m' g:=by simpa using hs 0 (by simp)
  exact sp_words F P hm' gs _ hm.tail (fun i hi=>by simpa using hs (i+1) (by simpa using hi)) (hz.plus F P hm' (hg.smul F hm' (in_ a1).1 (in_ a1).2)) x hx
theorem Sp.sub (F:Fld q add mul neg inv) (P:Trn q add) {m m':List (List Int)} (hm:Rw q n m) (hm':Rw q n m') (hs:∀ i,i<m.length→Sp q n add mul m' (m.getD i [])) {x:List Int} (hx:Sp q n add mul m x):Sp q n add mul m' x :=
 sp_words F P hm' m _ hm hs (Sp.zero F hm') x hx
theorem neg_neg_row (F:Fld q add mul neg inv) {a r:List Int} (ha:Wd q n a) (hr:Wd q n r) {e:Int} (e0:0≤e) (e1:e<q):vadd add (vadd add a (vmul mul (neg e) r)) (vmul mul (neg (neg e)) r)=a:=by
 have n1:=F.neg_in e e0 e1
 have n2:=F.neg_in _ n1.1 n1.2
 rw [vadd_assoc F ha (Wd.vmul F n1.1 n1.2 hr) (Wd.vmul F n2.1 n2.2 hr),vmul_add F hr n1.1 n1.2 n2.1 n2.2,F.add_neg _ n1.1 n1.2,vmul_zero F hr,vadd_zeros F ha]
theorem elim_rw (F:Fld q add mul neg inv) {m:List (List Int)} (hm:Rw q n m) {r c:Nat} (hr:r<m.length) (hc:c<n):Rw q n (elim add mul neg m r c):=fun i hi=>by
 rw [elim_len] at hi
 rw [elim_get hi]
 have e:=(hm i hi).2 c hc
 have ni:=F.neg_in (ent m i c) e.1 e.2
 split
 ·exact hm i hi
 ·exact (hm i hi).vadd F (Wd.vmul F ni.1 ni.2 (hm r hr))
theorem elim_span (F:Fld q add mul neg inv) (P:Trn q add) {m:List (List Int)} (hm:Rw q n m) {r c:Nat} (hr:r<m.length) (hc:c<n) (x:List Int):Sp q n add mul (elim add mul neg m r c) x↔Sp q n add mul m x:=by
 have h2:=elim_rw F hm hr hc
 constructor
 ·refine Sp.sub F P h2 hm fun i hi=>?_
  rw [elim_len] at hi
  rw [elim_get hi]
  have e:=(hm i hi).2 c hc
  have ni:=F.neg_in (ent m i c) e.1 e.2
  split
  ·exact Sp.row F hm hi
  ·exact (Sp.row F hm hi).plus F P hm ((Sp.row F hm hr).smul F hm ni.1 ni.2)
 ·refine Sp.sub F P hm h2 fun i hi=>?_
  have e:=(hm i hi).2 c hc
  have ni:=F.neg_in (ent m i c) e.1 e.2
  have n2:=F.neg_in _ ni.1 ni.2
  have hi':i<(elim add mul neg m r c).length:=by rw [elim_len];exact hi
  have hr':r<(elim add mul neg m r c).length:=by rw [elim_len];exact hr
  have g1:=Sp.row F h2 hi'
  have g2:=Sp.row F h2 hr'
  rw [elim_get hi] at g1
  rw [elim_get hr,if_pos rfl] at g2
  by_cases h:i=r
  ·rw [if_pos h] at g1;exact g1
  ·rw [if_neg h] at g1
   have:=g1.plus F P h2 (g2.smul F h2 n2.1 n2.2)
   rw [neg_neg_row F (hm i hi) (hm r hr) (e:=ent m i c) e.1 e.2] at this
   exact this
theorem lift_rw (F:Fld q add mul neg inv) {m:List (List Int)} (hm:Rw q n m) {r p c:Nat} (hr:r<m.length) (hp:p<m.length) (hc:c<n):Rw q n (lift mul inv m r p c):=fun i hi=>by
 rw [lift_len] at hi
 rw [lift_get hr hp]
 have e:=(hm p hp).2 c hc
 have ni:=F.inv_in (ent m p c) e.1 e.2
 split
 ·exact Wd.vmul F ni.1 ni.2 (hm p hp)
 ·split
  ·exact hm r hr
  ·exact hm i hi
theorem lift_span (F:Fld q add mul neg inv) (P:Trn q add) {m:List (List Int)} (hm:Rw q n m) {r p c:Nat} (hr:r<m.length) (hp:p<m.length) (hc:c<n) (he:ent m p c≠0) (x:List Int):Sp q n add mul (lift mul inv m r p c) x↔Sp q n add mul m x:=by
 have h2:=lift_rw F hm hr hp hc
 have e:=(hm p hp).2 c hc
 have ni:=F.inv_in (ent m p c) e.1 e.2
 constructor
 ·refine Sp.sub F P h2 hm fun i hi=>?_
  rw [lift_len] at hi
  rw [lift_get hr hp]
  split
  ·exact (Sp.row F hm hp).smul F hm ni.1 ni.2
  ·split
   ·exact Sp.row F hm hr
   ·exact Sp.row F hm hi
 ·refine Sp.sub F P hm h2 fun i hi=>?_
  have row:∀ k,k<m.length→Sp q n add mul (lift mul inv m r p c) (if k=r then vmul mul (inv (ent m p c)) (m.getD p []) else if k=p then m.getD r [] else m.getD k []):=fun k hk=>by
   have:=Sp.row F h2 (i:=k) (by rw [lift_len];exact hk)
   rw [lift_get hr hp] at this
   exact this
  have hpp:Sp q n add mul (lift mul inv m r p c) (m.getD p []):=by
   have h3:=row r hr
   rw [if_pos rfl] at h3
   have:=h3.smul F h2 e.1 e.2
   rw [vmul_vmul F e.1 e.2 ni.1 ni.2 (hm p hp),F.mul_comm _ _ e.1 e.2 ni.1 ni.2] at this
   have e2:mul (inv (ent m p c)) ((m.getD p []).getD c 0)=1:=F.mul_inv _ e.1 e.2 he
   rw [e2,vmul_one F (hm p hp)] at this
   exact this
  by_cases h1:i=p
  ·rw [h1];exact hpp
  ·by_cases h3:i=r
   ·have h4:=row p hp
    rw [h3]
    rw [h3] at h1
    rw [if_neg (fun e=>h1 e.symm),if_pos rfl] at h4
    exact h4
   ·have h4:=row i hi
    rw [if_neg h3,if_neg h1] at h4
    exact h4
theorem red_span (F:Fld q add mul neg inv) (P:Trn q add):∀ (f c r:Nat) (m:List (List Int)),f+c=n→Rw q n m→Rw q n (red add mul neg inv f c r m).1∧∀ x,Sp q n add mul (red add mul neg inv f c r m).1 x↔Sp q n add mul m x
 | 0,c,r,m,_,hm=>⟨hm,fun x=>Iff.rfl⟩
 | f+1,c,r,m,hf,hm=>by
  unfold red
  by_cases hr:r<m.length
  ·rw [if_pos hr]
   obtain ⟨a1,a2,a3,a4⟩:=findp_spec m c (m.length-r) r (by omega) (by omega)
   by_cases hp:findp m c (m.length-r) r=m.length
   ·rw [if_pos hp]
    exact red_span F P f (c+1) r m (by omega) hm
   ·rw [if_neg hp]
    have hp2:findp m c (m.length-r) r<m.length:=by omega
    have l1:=lift_rw F hm hr hp2 (c:=c) (by omega)
    have l2:=elim_rw F l1 (r:=r) (c:=c) (by rw [lift_len];exact hr) (by omega)
    obtain ⟨h1,h2⟩:=red_span F P f (c+1) (r+1) _ (by omega) l2
    exact ⟨h1,fun x=>(h2 x).trans ((elim_span F P l1 (by rw [lift_len];exact hr) (by omega) x).trans (lift_span F P hm hr hp2 (by omega) (a4 hp2) x))⟩
  ·rw [if_neg hr]
   exact ⟨hm,fun x=>Iff.rfl⟩
theorem reduce_span (F:Fld q add mul neg inv) (P:Trn q add) {m:List (List Int)} (hm:Rw q n m) (x:List Int):Sp q n add mul (reduce add mul neg inv n m) x↔Sp q n add mul m x:=by
 obtain ⟨h1,h2⟩:=red_span F P n 0 0 m (by omega) hm
 obtain ⟨piv,c,hc,W,hw,hl⟩:=red_way F n 0 0 m (fun _=>0) (by omega) ⟨hm,Nat.zero_le _,fun i hi=>by omega,fun i j _ hj=>by omega,fun i hi=>by omega,fun i k hi=>by omega,fun i j hi=>by omega,fun k j _ _ hj=>by omega⟩
 obtain ⟨piv2,R,_⟩:=reduce_rref F hm
 rw [←h2 x]
 have h3:Rw q n (reduce add mul neg inv n m):=R.wd
 unfold reduce at h3 ⊢
 generalize red add mul neg inv n 0 0 m=S at *
 have hlen:(S.1.take S.2).length=S.2:=by rw [List.length_take];exact Nat.min_eq_left W.rl
 constructor
 ·refine Sp.sub F P h3 h1 fun i hi=>?_
  rw [hlen] at hi
  rw [take_get hi]
  exact Sp.row F h1 (by have:=W.rl;omega)
 ·refine Sp.sub F P h1 h3 fun i hi=>?_
  by_cases hr:i<S.2
  ·have:=Sp.row F h3 (i:=i) (by rw [hlen];exact hr)
   rw [take_get hr] at this
   exact this
  ·have hz:S.1.getD i []=List.replicate n 0:=ext_getD (by rw [(h1 i hi).1];simp) fun j hj=>by
    rw [(h1 i hi).1] at hj
    rcases hw with e | e
    ·have:=W.rest i j (by omega) hi (by omega)
     unfold ent at this
     rw [this]
     simp [List.getD_eq_getElem?_getD,hj]
    ·omega
   rw [hz]
   exact Sp.zero F h3
theorem words_at (F:Fld q add mul neg inv):∀ (G:List (List Int)) (z:List Int),Rw q n G→Wd q n z→∀ i,i<G.length→(words q add mul G z).getD (q^(G.length-1-i)) []=vadd add z (G.getD i []):=by
 intro G
 have q1:=F.one_lt
 induction G with
 | nil=>intro z _ _ i hi;simp at hi
 | cons g gs ih =>
  intro z hG hz i hi
  have hl:∀ w,(words q add mul gs w).length=q^gs.length:=fun w=>by
   have:=words_digs q (by omega) add mul gs w
   rw [←this,List.length_map,List.length_range]
  have h0:∀ w,Wd q n w→(words q add mul gs w).getD 0 []=w:=by
   clear ih
   have:∀ (gs:List (List Int)),Rw q n gs→∀ w,Wd q n w→(words q add mul gs w).getD 0 []=w:=by
    intro gs
    induction gs with
    | nil=>intro _ w _;rfl
    | cons g gs ih =>
     intro hm w hw
     unfold words
     obtain ⟨q',hq'⟩:∃ q',q=q'+1:=⟨q-1,by omega⟩
     have e:List.range q=0::(List.range q').map (·+1):=by rw [hq',List.range_succ_eq_map]
     rw [e,List.flatMap_cons,show (((0:Nat):Int))=(0:Int) from rfl,vmul_zero F hm.head,vadd_zeros F hw]
     have h1:=ih hm.tail w hw
     have h2:0<(words q add mul gs w).length:=by
      have:=words_digs q (by omega) add mul gs w
      rw [←this,List.length_map,List.length_range]
      exact Nat.pow_pos (by omega)
     rw [List.getD_eq_getElem?_getD,List.getElem?_append_left h2,←List.getD_eq_getElem?_getD,h1]
   exact this gs hG.tail
  unfold words
  obtain ⟨q',hq'⟩:∃ q',q=q'+2:=⟨q-2,by omega⟩
  have e:List.range q=0::1::(List.range q').map (·+2):=by
   rw [hq',List.range_succ_eq_map,List.range_succ_eq_map,List.map_cons,List.map_map]
   rfl
  rw [e,List.flatMap_cons,List.flatMap_cons,show (((0:Nat):Int))=(0:Int) from rfl,show (((1:Nat):Int))=(1:Int) from rfl,vmul_zero F hG.head,vadd_zeros F hz,vmul_one F hG.head]
  have hzg:=hz.vadd F hG.head
  have hp:=Nat.pow_pos (n:=gs.length) (show 0<q by omega)
  cases i with
  | zero =>
   rw [List.length_cons,Nat.add_sub_cancel,Nat.sub_zero,List.getD_cons_zero,List.getD_eq_getElem?_getD,List.getElem?_append_right (by rw [hl];exact Nat.le_refl _),hl,Nat.sub_self,List.getElem?_append_left (by rw [hl];exact hp),←List.getD_eq_getElem?_getD,h0 _ hzg]
  | succ i =>
   have hi':i<gs.length:=by simpa using hi
   rw [List.length_cons,show gs.length+1-1-(i+1)=gs.length-1-i by omega,List.getD_cons_succ,List.getD_eq_getElem?_getD,List.getElem?_append_left (by rw [hl];exact Nat.pow_lt_pow_right q1 (by omega)),←List.getD_eq_getElem?_getD]
   exact ih z hG.tail hz i hi'
theorem rref_unique (F:Fld q add mul neg inv) {G H:List (List Int)} {pg ph:Nat→Nat} (hG:Rref q n G pg) (hH:Rref q n H ph) (h:∀ x,Sp q n add mul G x↔Sp q n add mul H x):G=H:=by
 have q1:=F.one_lt
 have sz:∀ {K:List (List Int)} {p:Nat→Nat},Rref q n K p→(words q add mul K (List.replicate n 0)).Pairwise (lx n):=fun R=>words_sorted F _ _ _ R (zeros_wd F) fun i hi=>by
  have:=R.lt i hi
  simp [List.getD_eq_getElem?_getD,this]
 have asym:∀ a b,lx n a b→lx n b a→a=b:=fun a b ⟨p,hp,e1,e2⟩ ⟨r,hr,e3,e4⟩=>by
  exfalso
  rcases Nat.lt_trichotomy p r with c | c | c
  ·have:=e3 p c;omega
  ·subst c;omega
  ·have:=e1 r c;omega
 have hw:words q add mul G (List.replicate n 0)=words q add mul H (List.replicate n 0) :=
  List.Perm.eq_of_pairwise (fun a b _ _ h1 h2=>asym a b h1 h2) (sz hG) (sz hH) ((List.perm_ext_iff_of_nodup (words_nodup F hG) (words_nodup F hH)).2 h)
 have hl:∀ K:List (List Int),(words q add mul K (List.replicate n 0)).length=q^K.length:=fun K=>by
  have:=words_digs q (by omega) add mul K (List.replicate n 0)
  rw [←this,List.length_map,List.length_range]
 have hlen:G.length=H.length:=by
  have:=congrArg List.length hw
  rw [hl,hl] at this
  exact (Nat.pow_right_inj q1).1 this
 refine ext_rows hlen fun i hi=>?_
 have a:=words_at F G _ hG.wd (zeros_wd F) i hi
 have b:=words_at F H _ hH.wd (zeros_wd F) i (by omega)
 rw [zero_vadd F (hG.wd i hi)] at a
 rw [zero_vadd F (hH.wd i (by omega))] at b
 rw [←a,←b,hw,hlen]
end
end Go.Proofs.YticbdgmcofjkeaaGreat.Ma
namespace Go.Proofs.YticbdgmcofjkeaaGreat.Ma
def dot (add mul:Int→Int→Int) (a b:List Int):Nat→Int
 | 0=>0
 | k+1=>add (dot add mul a b k) (mul (a.getD k 0) (b.getD k 0))
section
variable {q:Nat} {add mul:Int→Int→Int} {neg inv:Int→Int} {n:Nat}
theorem dot_in (F:Fld q add mul neg inv) {a b:List Int} (ha:Wd q n a) (hb:Wd q n b):∀ k,k≤n→0≤dot add mul a b k∧dot add mul a b k<q
 | 0,_=>by have:=F.one_lt;exact ⟨by unfold dot;omega,by unfold dot;omega⟩
 | k+1,hk=>by
  have ih:=dot_in F ha hb k (by omega)
  have x:=ha.2 k (by omega)
  have y:=hb.2 k (by omega)
  have m:=F.mul_in _ _ x.1 x.2 y.1 y.2
  exact F.add_in _ _ ih.1 ih.2 m.1 m.2
theorem dot_comm (F:Fld q add mul neg inv) {a b:List Int} (ha:Wd q n a) (hb:Wd q n b):∀ k,k≤n→dot add mul a b k=dot add mul b a k
 | 0,_=>rfl
 | k+1,hk=>by
  have x:=ha.2 k (by omega)
  have y:=hb.2 k (by omega)
  unfold dot
  rw [dot_comm F ha hb k (by omega),F.mul_comm _ _ x.1 x.2 y.1 y.2]
theorem add4 (F:Fld q add mul neg inv) {a b c d:Int} (ha:0≤a∧a<q) (hb:0≤b∧b<q) (hc:0≤c∧c<q) (hd:0≤d∧d<q):add (add a b) (add c d)=add (add a c) (add b d):=by
 have bc:=F.add_in b c hb.1 hb.2 hc.1 hc.2
 have cd:=F.add_in c d hc.1 hc.2 hd.1 hd.2
 have bd:=F.add_in b d hb.1 hb.2 hd.1 hd.2
 rw [F.add_assoc _ _ _ ha.1 ha.2 hb.1 hb.2 cd.1 cd.2,F.add_assoc _ _ _ ha.1 ha.2 hc.1 hc.2 bd.1 bd.2,←F.add_assoc b c d hb.1 hb.2 hc.1 hc.2 hd.1 hd.2,F.add_comm b c hb.1 hb.2 hc.1 hc.2,F.add_assoc c b d hc.1 hc.2 hb.1 hb.2 hd.1 hd.2]
theorem dot_vadd (F:Fld q add mul neg inv) {a x y:List Int} (ha:Wd q n a) (hx:Wd q n x) (hy:Wd q n y):∀ k,k≤n→dot add mul a (vadd add x y) k=add (dot add mul a x k) (dot add mul a y k)
 | 0,_=>by have:=F.one_lt;unfold dot;rw [F.zero_add 0 (by omega) (by omega)]
 | k+1,hk=>by
  have a0:=ha.2 k (by omega)
  have x0:=hx.2 k (by omega)
  have y0:=hy.2 k (by omega)
  have d1:=dot_in F ha hx k (by omega)
  have d2:=dot_in F ha hy k (by omega)
  have m1:=F.mul_in _ _ a0.1 a0.2 x0.1 x0.2
  have m2:=F.mul_in _ _ a0.1 a0.2 y0.1 y0.2
  unfold dot
  rw [dot_vadd F ha hx hy k (by omega),vadd_get (by rw [hx.1,hy.1]) (by rw [hx.1];omega),F.distrib _ _ _ a0.1 a0.2 x0.1 x0.2 y0.1 y0.2,add4 F d1 d2 m1 m2]
theorem dot_vmul (F:Fld q add mul neg inv) {a x:List Int} (ha:Wd q n a) (hx:Wd q n x) {c:Int} (c0:0≤c) (c1:c<q):∀ k,k≤n→dot add mul a (vmul mul c x) k=mul c (dot add mul a x k)
 | 0,_=>by unfold dot;rw [mul_zero F c0 c1]
 | k+1,hk=>by
  have a0:=ha.2 k (by omega)
  have x0:=hx.2 k (by omega)
  have d1:=dot_in F ha hx k (by omega)
  have m1:=F.mul_in _ _ a0.1 a0.2 x0.1 x0.2
  have m2:=F.mul_in _ _ c0 c1 x0.1 x0.2
  unfold dot
  rw [dot_vmul F ha hx c0 c1 k (by omega),vmul_get (by rw [hx.1];omega),F.distrib _ _ _ c0 c1 d1.1 d1.2 m1.1 m1.2,←F.mul_assoc _ _ _ a0.1 a0.2 c0 c1 x0.1 x0.2,F.mul_comm _ _ a0.1 a0.2 c0 c1,F.mul_assoc _ _ _ c0 c1 a0.1 a0.2 x0.1 x0.2]
theorem dot_zeros (F:Fld q add mul neg inv) {a:List Int} (ha:Wd q n a):∀ k,k≤n→dot add mul a (List.replicate n 0) k=0
 | 0,_=>rfl
 | k+1,hk=>by
  have q1:=F.one_lt
  have a0:=ha.2 k (by omega)
  have z:(List.replicate n (0:Int)).getD k 0=0:=by simp [List.getD_eq_getElem?_getD,show k<n by omega]
  unfold dot
  rw [dot_zeros F ha k (by omega),z,mul_zero F a0.1 a0.2,F.zero_add 0 (by omega) (by omega)]
def Orth (n:Nat) (add mul:Int→Int→Int) (G:List (List Int)) (x:List Int):Prop:=∀ i,i<G.length→dot add mul (G.getD i []) x n=0
theorem words_dot (F:Fld q add mul neg inv) {a:List Int} (ha:Wd q n a):∀ (m:List (List Int)) (z:List Int),Rw q n m→Wd q n z→(∀ i,i<m.length→dot add mul a (m.getD i []) n=0)→dot add mul a z n=0→∀ x∈words q add mul m z,dot add mul a x n=0
 | [],z,_,_,_,h,x,hx=>by
  unfold words at hx
  rw [List.mem_singleton.1 hx]
  exact h
 | g::gs,z,hm,hz,hd,h,x,hx=>by
  have q1:=F.one_lt
  unfold words at hx
  obtain ⟨b,hb,hx⟩:=List.mem_flatMap.1 hx
  have b1:b<q:=by simpa using hb
  have hv:=Wd.vmul F (in_ b1).1 (in_ b1).2 hm.head
  refine words_dot F ha gs _ hm.tail (hz.vadd F hv) (fun i hi=>by simpa using hd (i+1) (by simpa using hi)) ?_ x hx
  have hg:dot add mul a g n=0:=by simpa using hd 0 (by simp)
  rw [dot_vadd F ha hz hv n (Nat.le_refl _),dot_vmul F ha hm.head (in_ b1).1 (in_ b1).2 n (Nat.le_refl _),h,hg,mul_zero F (in_ b1).1 (in_ b1).2,F.zero_add 0 (by omega) (by omega)]
theorem sp_dot (F:Fld q add mul neg inv) {a:List Int} (ha:Wd q n a) {m:List (List Int)} (hm:Rw q n m) (hd:∀ i,i<m.length→dot add mul a (m.getD i []) n=0) {x:List Int} (hx:Sp q n add mul m x):dot add mul a x n=0 :=
 words_dot F ha m _ hm (zeros_wd F) hd (dot_zeros F ha n (Nat.le_refl _)) x hx
structure DualOf (q n:Nat) (neg:Int→Int) (G:List (List Int)) (piv:Nat→Nat) (fr:List Nat) (D:Nat→List Int):Prop where
 rref:Rref q n G piv
 mem:∀ t,t∈fr↔t<n∧∀ i,i<G.length→piv i≠t
 nd:fr.Nodup
 len:fr.length+G.length=n
 wd:∀ j∈fr,Wd q n (D j)
 free:∀ j∈fr,∀ t∈fr,(D j).getD t 0=if t=j then 1 else 0
 at_:∀ j∈fr,∀ i,i<G.length→(D j).getD (piv i) 0=neg (ent G i j)
theorem DualOf.row {G:List (List Int)} {piv:Nat→Nat} {fr:List Nat} {D:Nat→List Int} (h:DualOf q n neg G piv fr D) (F:Fld q add mul neg inv) {i j:Nat} (hi:i<G.length) (hj:j∈fr):dot add mul (G.getD i []) (D j) n=0:=by
 have q1:=F.one_lt
 have wg:=h.rref.wd i hi
 obtain ⟨jn,jp⟩:=(h.mem j).1 hj
 have e:=wg.2 j jn
 have ne:=F.neg_in _ e.1 e.2
 have hpi:=h.rref.lt i hi
 have key:∀ k,k≤n→dot add mul (G.getD i []) (D j) k=add (if j<k then (G.getD i []).getD j 0 else 0) (if piv i<k then neg ((G.getD i []).getD j 0) else 0):=by
  intro k
  induction k with
  | zero=>intro _;rw [if_neg (by omega),if_neg (by omega),F.zero_add 0 (by omega) (by omega)];rfl
  | succ k ih =>
   intro hk
   have x0:=wg.2 k (by omega)
   have i1:0≤(if j<k then (G.getD i []).getD j 0 else 0)∧(if j<k then (G.getD i []).getD j 0 else 0)<(q:Int):=by split <;> omega
   have i2:0≤(if piv i<k then neg ((G.getD i []).getD j 0) else 0)∧(if piv i<k then neg ((G.getD i []).getD j 0) else 0)<(q:Int):=by split <;> omega
   unfold dot
   rw [ih (by omega)]
   by_cases c1:k=j
   ·subst c1
    rw [h.free k hj k hj,if_pos rfl,mul_one F x0.1 x0.2,if_neg (c:=k<k) (by omega),if_pos (c:=k<k+1) (by omega)]
    have e3:(piv i<k+1)=(piv i<k):=by have:=jp i hi;simp;omega
    simp only [e3]
    rw [F.zero_add _ i2.1 i2.2,F.add_comm _ _ i2.1 i2.2 x0.1 x0.2]
   ·by_cases c2:k=piv i
    ·have one:(G.getD i []).getD k 0=1:=by rw [c2];exact h.rref.one i hi
     have e4:(D j).getD k 0=neg ((G.getD i []).getD j 0):=by rw [c2];exact h.at_ j hj i hi
     have e3:(j<k+1)=(j<k):=by simp;omega
     rw [one,e4,F.one_mul _ ne.1 ne.2,if_neg (c:=piv i<k) (by omega),if_pos (c:=piv i<k+1) (by omega)]
     simp only [e3]
     rw [add_zero F i1.1 i1.2]
    ·have e3:(j<k+1)=(j<k):=by simp;omega
     have e5:(piv i<k+1)=(piv i<k):=by simp;omega
     have hz:mul ((G.getD i []).getD k 0) ((D j).getD k 0)=0:=by
      by_cases c3:∃ l,l<G.length∧piv l=k
      ·obtain ⟨l,hl,el⟩:=c3
       have z:(G.getD i []).getD k 0=0:=by
        rw [←el];exact h.rref.zero l i hl hi (fun e=>c2 (by rw [e,el]))
       have d0:=(h.wd j hj).2 k (by omega)
       rw [z,F.zero_mul _ d0.1 d0.2]
      ·have hf:k∈fr:=(h.mem k).2 ⟨by omega,fun l hl e=>c3 ⟨l,hl,e⟩⟩
       rw [h.free j hj k hf,if_neg c1,mul_zero F x0.1 x0.2]
     simp only [e3,e5]
     have ai:=F.add_in _ _ i1.1 i1.2 i2.1 i2.2
     rw [hz,add_zero F ai.1 ai.2]
 rw [key n (Nat.le_refl _),if_pos jn,if_pos hpi,F.add_neg _ e.1 e.2]
theorem map_getD {fr:List Nat} {D:Nat→List Int} {i:Nat} (hi:i<fr.length):∃ j∈fr,(fr.map D).getD i []=D j:=⟨fr[i],List.getElem_mem _,by simp [List.getD_eq_getElem?_getD,hi]⟩
theorem DualOf.rw {G:List (List Int)} {piv:Nat→Nat} {fr:List Nat} {D:Nat→List Int} (h:DualOf q n neg G piv fr D):Rw q n (fr.map D):=fun i hi=>by
 obtain ⟨j,hj,e⟩:=map_getD (D:=D) (show i<fr.length by simpa using hi)
 rw [e]
 exact h.wd j hj
theorem DualOf.orth {G:List (List Int)} {piv:Nat→Nat} {fr:List Nat} {D:Nat→List Int} (h:DualOf q n neg G piv fr D) (F:Fld q add mul neg inv) {x:List Int} (hx:Sp q n add mul (fr.map D) x):Orth n add mul G x:=fun i hi =>
 sp_dot F (h.rref.wd i hi) h.rw (fun k hk=>by
  obtain ⟨j,hj,e⟩:=map_getD (D:=D) (show k<fr.length by simpa using hk)
  rw [e]
  exact h.row F hi hj) hx
theorem DualOf.pick {G:List (List Int)} {piv:Nat→Nat} {fr:List Nat} {D:Nat→List Int} (h:DualOf q n neg G piv fr D) (F:Fld q add mul neg inv) {x:List Int} (hx:Wd q n x):∀ (L:List Nat) (z:List Int),L.Nodup→(∀ t∈L,t∈fr)→Wd q n z →
  ∃ y∈words q add mul (L.map D) z,(∀ t∈L,y.getD t 0=add (z.getD t 0) (x.getD t 0))∧∀ t∈fr,t∉L→y.getD t 0=z.getD t 0
 | [],z,_,_,hz=>⟨z,by unfold words;simp,fun t ht=>by simp at ht,fun t _ _=>rfl⟩
 | j::L,z,hn,hs,hz=>by
  have hj:j∈fr:=hs j (by simp)
  have jn:=((h.mem j).1 hj).1
  have xj:=hx.2 j jn
  have wj:=h.wd j hj
  obtain ⟨c,hc,hcq⟩:∃ c:Nat,x.getD j 0=c∧c<q:=⟨(x.getD j 0).toNat,by omega,by omega⟩
  have hv:=Wd.vmul F (in_ hcq).1 (in_ hcq).2 wj
  obtain ⟨n1,n2⟩:=List.nodup_cons.1 hn
  obtain ⟨y,hy,y1,y2⟩:=DualOf.pick h F hx L (vadd add z (vmul mul (c:Int) (D j))) n2 (fun t ht=>hs t (by simp [ht])) (hz.vadd F hv)
  have at_:∀ t∈fr,(vadd add z (vmul mul (c:Int) (D j))).getD t 0=if t=j then add (z.getD t 0) (x.getD t 0) else z.getD t 0:=fun t ht=>by
   have tn:=((h.mem t).1 ht).1
   have zt:=hz.2 t tn
   rw [vadd_get (by rw [hz.1,hv.1]) (by rw [hz.1];exact tn),vmul_get (by rw [wj.1];exact tn),h.free j hj t ht]
   by_cases e:t=j
   ·subst e
    rw [if_pos rfl,if_pos rfl,mul_one F (in_ hcq).1 (in_ hcq).2,hc]
   ·rw [if_neg e,if_neg e,mul_zero F (in_ hcq).1 (in_ hcq).2,add_zero F zt.1 zt.2]
  refine ⟨y,?_,fun t ht=>?_,fun t ht hnt=>?_⟩
  ·rw [List.map_cons]
   unfold words
   exact List.mem_flatMap.2 ⟨c,by simpa using hcq,hy⟩
  ·rcases List.mem_cons.1 ht with e | e
   ·subst e
    rw [y2 t hj n1,at_ t hj,if_pos rfl]
   ·rw [y1 t e,at_ t (hs t ht),if_neg (fun e2:t=j=>n1 (by rw [←e2];exact e))]
  ·rw [y2 t ht (fun e=>hnt (by simp [e])),at_ t ht,if_neg (fun e=>hnt (by simp [e]))]
theorem DualOf.known {G:List (List Int)} {piv:Nat→Nat} {fr:List Nat} {D:Nat→List Int} (h:DualOf q n neg G piv fr D) (F:Fld q add mul neg inv) {x y:List Int} (hx:Wd q n x) (hy:Wd q n y) (ox:Orth n add mul G x) (oy:Orth n add mul G y) (he:∀ t∈fr,x.getD t 0=y.getD t 0):x=y:=by
 have q1:=F.one_lt
 refine ext_getD (by rw [hx.1,hy.1]) fun t ht=>?_
 rw [hx.1] at ht
 by_cases hp:∃ i,i<G.length∧piv i=t
 ·obtain ⟨i,hi,hit⟩:=hp
  have wg:=h.rref.wd i hi
  have same:∀ k,k<n→k≠t→mul ((G.getD i []).getD k 0) (x.getD k 0)=mul ((G.getD i []).getD k 0) (y.getD k 0):=fun k hk hkt=>by
   by_cases c:∃ l,l<G.length∧piv l=k
   ·obtain ⟨l,hl,el⟩:=c
    have z:(G.getD i []).getD k 0=0:=by
     rw [←el];exact h.rref.zero l i hl hi (fun e=>hkt (by rw [←el,←e,hit]))
    have x0:=hx.2 k hk
    have y0:=hy.2 k hk
    rw [z,F.zero_mul _ x0.1 x0.2,F.zero_mul _ y0.1 y0.2]
   ·rw [he k ((h.mem k).2 ⟨hk,fun l hl e=>c ⟨l,hl,e⟩⟩)]
  have low:∀ k,k≤t→dot add mul (G.getD i []) x k=dot add mul (G.getD i []) y k:=by
   intro k
   induction k with
   | zero=>intro _;rfl
   | succ k ih =>
    intro hk
    unfold dot
    rw [ih (by omega),same k (by omega) (by omega)]
  have one:(G.getD i []).getD t 0=1:=by rw [←hit];exact h.rref.one i hi
  have xt:=hx.2 t ht
  have yt:=hy.2 t ht
  have high:∀ k,t+1+k≤n→∃ c:Int,(0≤c∧c<q)∧dot add mul (G.getD i []) x (t+1+k)=add (x.getD t 0) c∧dot add mul (G.getD i []) y (t+1+k)=add (y.getD t 0) c:=by
   intro k
   induction k with
   | zero =>
    intro _
    have d:=dot_in F wg hy t (by omega)
    refine ⟨dot add mul (G.getD i []) y t,d,?_,?_⟩
    ·show add (dot add mul (G.getD i []) x t) (mul _ _)=_
     rw [low t (Nat.le_refl _),one,F.one_mul _ xt.1 xt.2,F.add_comm _ _ d.1 d.2 xt.1 xt.2]
    ·show add (dot add mul (G.getD i []) y t) (mul _ _)=_
     rw [one,F.one_mul _ yt.1 yt.2,F.add_comm _ _ d.1 d.2 yt.1 yt.2]
   | succ k ih =>
    intro hk
    obtain ⟨c,hc,e1,e2⟩:=ih (by omega)
    have g0:=wg.2 (t+1+k) (by omega)
    have y0:=hy.2 (t+1+k) (by omega)
    have m:=F.mul_in _ _ g0.1 g0.2 y0.1 y0.2
    have cm:=F.add_in _ _ hc.1 hc.2 m.1 m.2
    refine ⟨add c (mul ((G.getD i []).getD (t+1+k) 0) (y.getD (t+1+k) 0)),cm,?_,?_⟩
    ·show add (dot add mul (G.getD i []) x (t+1+k)) (mul ((G.getD i []).getD (t+1+k) 0) (x.getD (t+1+k) 0))=_
     rw [e1,same (t+1+k) (by omega) (by omega),F.add_assoc _ _ _ xt.1 xt.2 hc.1 hc.2 m.1 m.2]
    ·show add (dot add mul (G.getD i []) y (t+1+k)) (mul ((G.getD i []).getD (t+1+k) 0) (y.getD (t+1+k) 0))=_
     rw [e2,F.add_assoc _ _ _ yt.1 yt.2 hc.1 hc.2 m.1 m.2]
  obtain ⟨c,hc,e1,e2⟩:=high (n-(t+1)) (by omega)
  rw [show t+1+(n-(t+1))=n by omega] at e1 e2
  rw [ox i hi] at e1
  rw [oy i hi] at e2
  exact add_cancel F xt yt hc (e1.symm.trans e2)
 ·exact he t ((h.mem t).2 ⟨ht,fun i hi e=>hp ⟨i,hi,e⟩⟩)
theorem DualOf.span {G:List (List Int)} {piv:Nat→Nat} {fr:List Nat} {D:Nat→List Int} (h:DualOf q n neg G piv fr D) (F:Fld q add mul neg inv) {x:List Int} (hx:Wd q n x):Sp q n add mul (fr.map D) x↔Orth n add mul G x:=by
 refine ⟨h.orth F,fun ox=>?_⟩
 obtain ⟨y,hy,y1,_⟩:=h.pick F hx fr (List.replicate n 0) h.nd (fun t ht=>ht) (zeros_wd F)
 have sy:Sp q n add mul (fr.map D) y:=hy
 have wy:=sy.wd F h.rw
 have:x=y:=h.known F hx wy ox (h.orth F sy) fun t ht=>by
  have tn:=((h.mem t).1 ht).1
  have x0:=hx.2 t tn
  rw [y1 t ht]
  have z:(List.replicate n (0:Int)).getD t 0=0:=by simp [List.getD_eq_getElem?_getD,tn]
  rw [z,F.zero_add _ x0.1 x0.2]
 rw [this]
 exact sy
theorem words_col (F:Fld q add mul neg inv) {c:Nat} (hc:c<n):∀ (G:List (List Int)) (z:List Int),Rw q n G→(∀ i,i<G.length→ent G i c=0)→Wd q n z→∀ y∈words q add mul G z,y.getD c 0=z.getD c 0
 | [],z,_,_,_,y,hy=>by
  unfold words at hy
  rw [List.mem_singleton.1 hy]
 | g::gs,z,hG,h0,hz,y,hy=>by
  unfold words at hy
  obtain ⟨b,hb,hy⟩:=List.mem_flatMap.1 hy
  have b1:b<q:=by simpa using hb
  have hv:=Wd.vmul F (in_ b1).1 (in_ b1).2 hG.head
  have g0:g.getD c 0=0:=by simpa [ent] using h0 0 (by simp)
  have zc:=hz.2 c hc
  rw [words_col F hc gs _ hG.tail (fun i hi=>by simpa [ent] using h0 (i+1) (by simpa using hi)) (hz.vadd F hv) y hy,vadd_get (by rw [hz.1,hv.1]) (by rw [hz.1];exact hc),vmul_get (by rw [hG.head.1];exact hc),g0,mul_zero F (in_ b1).1 (in_ b1).2,add_zero F zc.1 zc.2]
theorem words_nodup_u (F:Fld q add mul neg inv):∀ (m:List (List Int)) (e:Nat→Nat) (z:List Int),Rw q n m→(∀ i,i<m.length→e i<n)→(∀ i k,i<m.length→k<m.length→ent m k (e i)=if k=i then 1 else 0)→Wd q n z→(words q add mul m z).Nodup
 | [],e,z,_,_,_,_=>by unfold words;simp
 | g::gs,e,z,hm,he,hu,hz=>by
  have g1:g.getD (e 0) 0=1:=by simpa [ent] using hu 0 0 (by simp) (by simp)
  have e0:=he 0 (by simp)
  have z0:=hz.2 (e 0) e0
  unfold words
  unfold List.Nodup
  rw [List.pairwise_flatMap]
  have hv:∀ a,a<q→Wd q n (vmul mul (a:Int) g):=fun a ha=>Wd.vmul F (in_ ha).1 (in_ ha).2 hm.head
  have col:∀ a,a<q→∀ y∈words q add mul gs (vadd add z (vmul mul (a:Int) g)),y.getD (e 0) 0=add (z.getD (e 0) 0) a:=fun a ha y hy=>by
   rw [words_col F e0 gs _ hm.tail (fun i hi=>by
    have:=hu 0 (i+1) (by simp) (by simpa using hi)
    rw [if_neg (by omega)] at this
    simpa [ent] using this) (hz.vadd F (hv a ha)) y hy,vadd_get (by rw [hz.1,(hv a ha).1]) (by rw [hz.1];exact e0),vmul_get (by rw [hm.head.1];exact e0),g1,mul_one F (in_ ha).1 (in_ ha).2]
  refine ⟨fun a ha=>?_,?_⟩
  ·have ha':a<q:=by simpa using ha
   exact words_nodup_u F gs (fun i=>e (i+1)) _ hm.tail (fun i hi=>he (i+1) (by simpa using hi)) (fun i k hi hk=>by
    have:=hu (i+1) (k+1) (by simpa using hi) (by simpa using hk)
    simpa [ent] using this) (hz.vadd F (hv a ha'))
  ·refine (List.pairwise_lt_range (n:=q)).imp_of_mem fun {a b} ha hb hab x hx y hy exy=>?_
   have ha':a<q:=by simpa using ha
   have hb':b<q:=by simpa using hb
   have h1:=col a ha' x hx
   have h2:=col b hb' y hy
   rw [exy,h2,F.add_comm _ _ z0.1 z0.2 (in_ hb').1 (in_ hb').2,F.add_comm _ _ z0.1 z0.2 (in_ ha').1 (in_ ha').2] at h1
   have:=add_cancel F (in_ hb') (in_ ha') z0 h1
   omega
theorem DualOf.nodup {G:List (List Int)} {piv:Nat→Nat} {fr:List Nat} {D:Nat→List Int} (h:DualOf q n neg G piv fr D) (F:Fld q add mul neg inv):(words q add mul (fr.map D) (List.replicate n 0)).Nodup:=by
 have hg:∀ i,i<fr.length→fr.getD i 0∈fr:=fun i hi=>by
  rw [List.getD_eq_getElem?_getD,List.getElem?_eq_getElem hi]
  exact List.getElem_mem _
 refine words_nodup_u F _ (fun i=>fr.getD i 0) _ h.rw (fun i hi=>((h.mem _).1 (hg i (by simpa using hi))).1) (fun i k hi hk=>?_) (zeros_wd F)
 rw [List.length_map] at hi hk
 have e:(fr.map D).getD k []=D (fr.getD k 0):=by simp [List.getD_eq_getElem?_getD,hk]
 unfold ent
 rw [e,h.free _ (hg k hk) _ (hg i hi)]
 by_cases c:k=i
 ·rw [c,if_pos rfl,if_pos rfl]
 ·rw [if_neg c,if_neg]
  intro e2
  rw [List.getD_eq_getElem?_getD,List.getD_eq_getElem?_getD,List.getElem?_eq_getElem hi,List.getElem?_eq_getElem hk] at e2
  exact c (((List.getElem_inj h.nd).1 e2).symm)
theorem words_cnt (F:Fld q add mul neg inv) (K:List (List Int)) (z:List Int):(words q add mul K z).length=q^K.length:=by
 have:=words_digs q (by have:=F.one_lt;omega) add mul K z
 rw [←this,List.length_map,List.length_range]
theorem DualOf.dual {G:List (List Int)} {piv:Nat→Nat} {fr:List Nat} {D:Nat→List Int} (h:DualOf q n neg G piv fr D) (F:Fld q add mul neg inv) (P:Trn q add):(∃ p,Rref q n (reduce add mul neg inv n (fr.map D)) p)∧(reduce add mul neg inv n (fr.map D)).length+G.length=n∧∀ x,Wd q n x→(Sp q n add mul (reduce add mul neg inv n (fr.map D)) x↔Orth n add mul G x):=by
 obtain ⟨p,R,_⟩:=reduce_rref F h.rw
 have hs:=reduce_span F P h.rw
 have hl:(reduce add mul neg inv n (fr.map D)).length=fr.length:=by
  have pm:=(List.perm_ext_iff_of_nodup (words_nodup F R) (h.nodup F)).2 hs
  have e:=pm.length_eq
  rw [words_cnt F,words_cnt F,List.length_map] at e
  exact (Nat.pow_right_inj F.one_lt).1 e
 exact ⟨⟨p,R⟩,by rw [hl];exact h.len,fun x hx=>(hs x).trans (h.span F hx)⟩
theorem same_of_len {L M:List (List Int)} (hL:L.Nodup) (hs:∀ x∈L,x∈M) (hl:M.length≤L.length):∀ x∈M,x∈L:=fun x hx=>by
 by_cases h:x∈L
 ·exact h
 ·have:(x::L).Nodup:=List.nodup_cons.2 ⟨h,hL⟩
  have:=this.length_le_of_subset (l₂:=M) fun y hy=>by
   rcases List.mem_cons.1 hy with e | e
   ·rw [e];exact hx
   ·exact hs y e
  rw [List.length_cons] at this
  omega
theorem dual_dual (F:Fld q add mul neg inv) (P:Trn q add) {G D E:List (List Int)} {pg pe:Nat→Nat} (hG:Rref q n G pg) (hE:Rref q n E pe) (hD:Rw q n D) (h1:D.length+G.length=n) (h2:∀ x,Wd q n x→(Sp q n add mul D x↔Orth n add mul G x)) (h3:E.length+D.length=n) (h4:∀ x,Wd q n x→(Sp q n add mul E x↔Orth n add mul D x)):E=G:=by
 have row:∀ i,i<G.length→Sp q n add mul E (G.getD i []):=fun i hi=>(h4 _ (hG.wd i hi)).2 fun k hk=>by
  have hk':=hD k hk
  rw [dot_comm F hk' (hG.wd i hi) n (Nat.le_refl _)]
  exact (h2 _ hk').1 (Sp.row F hD hk) i hi
 have sub:∀ x,Sp q n add mul G x→Sp q n add mul E x:=fun x hx=>Sp.sub F P hG.wd hE.wd row hx
 refine (rref_unique F hG hE fun x=>⟨sub x,fun hx=>?_⟩).symm
 exact same_of_len (words_nodup F hG) sub (by rw [words_cnt F,words_cnt F,show E.length=G.length by omega];exact Nat.le_refl _) x hx
end
end Go.Proofs.YticbdgmcofjkeaaGreat.Ma
namespace Go.Proofs.YticbdgmcofjkeaaGreat.Ai
open Go Ma
noncomputable section
section
variable {q n:Nat} {G:List (List Int)}
theorem pA_zero (hp:∀ i,i<G.length→fnz (G.getD i [])<n) {t:Nat} (ht:t<n):∀ i,i≤G.length→(∀ l,l<i→fnz (G.getD l [])≠t)→(pA n G i).getD t 0=0
 | 0,_,_=>by simp [pA,List.getD_eq_getElem?_getD,ht]
 | i+1,h,hl=>by
  unfold pA
  rw [List.getD_eq_getElem?_getD,List.getElem?_set,if_neg (hl i (by omega)),←List.getD_eq_getElem?_getD]
  exact pA_zero hp ht i (by omega) fun l h=>hl l (by omega)
theorem pA_at (hp:∀ i,i<G.length→fnz (G.getD i [])<n) (hd:∀ i j,i<j→j<G.length→fnz (G.getD i [])≠fnz (G.getD j [])):∀ i,i≤G.length→∀ l,l<i→(pA n G i).getD (fnz (G.getD l [])) 0=((l+1:Nat):Int)
 | 0,_,l,hl=>by omega
 | i+1,h,l,hl=>by
  have pl:=pA_len n G i
  unfold pA
  rw [List.getD_eq_getElem?_getD,List.getElem?_set]
  by_cases e:l=i
  ·subst e
   rw [if_pos rfl,if_pos (by rw [pl];exact hp l (by omega))]
   rfl
  ·rw [if_neg (fun e2=>hd l i (by omega) (by omega) e2.symm),←List.getD_eq_getElem?_getD]
   exact pA_at hp hd i (by omega) l (by omega)
theorem count_less {P Q:Nat→Bool} {p:Nat}:∀ m,p<m→P p=true→Q p=false→(∀ t,t<m→t≠p→Q t=P t)→(List.range m).countP Q+1=(List.range m).countP P
 | 0,h,_,_,_=>by omega
 | m+1,h,hP,hQ,he=>by
  rw [List.range_succ,List.countP_append,List.countP_append]
  by_cases e:p=m
  ·subst e
   have:(List.range p).countP Q=(List.range p).countP P:=List.countP_congr fun t ht=>by
    have ht':t<p:=by simpa using ht
    rw [he t (by omega) (by omega)]
   rw [this]
   simp [hP,hQ]
  ·have ih:=count_less m (by omega) hP hQ fun t ht hne=>he t (by omega) hne
   have h2:[m].countP Q=[m].countP P:=List.countP_congr fun t ht=>by
    have:t=m:=by simpa using ht
    subst this
    rw [he t (by omega) (fun e2=>e e2.symm)]
   rw [h2]
   omega
theorem frees_count (hp:∀ i,i<G.length→fnz (G.getD i [])<n) (hd:∀ i j,i<j→j<G.length→fnz (G.getD i [])≠fnz (G.getD j [])):∀ i,i≤G.length→(frees (pA n G i) n).length+i=n
 | 0,_=>by
  have:frees (pA n G 0) n=List.range n:=List.filter_eq_self.2 fun t ht=>by
   have ht':t<n:=by simpa using ht
   simp [pA,List.getD_eq_getElem?_getD,ht']
  rw [this]
  simp
 | i+1,h=>by
  have ih:=frees_count hp hd i (by omega)
  have pl:=pA_len n G i
  have hpi:=hp i (by omega)
  have h1:=count_less (P:=fun t=>decide ((pA n G i).getD t 0=0)) (Q:=fun t=>decide ((pA n G (i+1)).getD t 0=0)) (p:=fnz (G.getD i [])) n hpi
   (by simpa using pA_zero hp hpi i (by omega) fun l hl=>hd l i hl (by omega))
   (by
    have:(pA n G (i+1)).getD (fnz (G.getD i [])) 0=((i+1:Nat):Int):=pA_at hp hd (i+1) h i (by omega)
    rw [this]
    simp
    omega)
   (fun t ht hne=>by
    have e0:pA n G (i+1)=(pA n G i).set (fnz (G.getD i [])) ((i+1:Nat):Int):=rfl
    rw [e0,List.getD_eq_getElem?_getD,List.getElem?_set,if_neg (fun e=>hne e.symm),←List.getD_eq_getElem?_getD])
  unfold frees at ih ⊢
  rw [←List.countP_eq_length_filter] at ih ⊢
  omega
theorem Lc.pdist (h:Lc q n G):∀ i j,i<j→j<G.length→fnz (G.getD i [])≠fnz (G.getD j []):=fun i j hij hj=>by
 obtain ⟨piv,R⟩:=h.form
 rw [rref_fz R (by omega),rref_fz R hj]
 have:=R.mono i j hij hj
 omega
theorem Lc.dualOf (h:Lc q n G):∃ piv,DualOf q n (fneg q) G piv (frees (pA n G G.length) n) (fun j=>drow q n (pA n G G.length) G j n):=by
 obtain ⟨piv,R⟩:=h.form
 have hp:=fun i hi=>(h.fnzs (i:=i) hi).1
 have hd:=h.pdist
 have hA:=h.cols
 have hR:=h.rows
 have mem:∀ t,t∈frees (pA n G G.length) n↔t<n∧∀ i,i<G.length→piv i≠t:=fun t=>by
  unfold frees
  rw [List.mem_filter,decide_eq_true_eq,List.mem_range]
  refine and_congr_right fun ht=>⟨fun h0 i hi e=>?_,fun h0=>pA_zero hp ht _ (Nat.le_refl _) fun l hl e=>h0 l hl (by rw [←rref_fz R hl];exact e)⟩
  have:=pA_at hp hd G.length (Nat.le_refl _) i hi
  rw [rref_fz R hi,e,h0] at this
  omega
 have z:∀ t∈frees (pA n G G.length) n,(pA n G G.length).getD t 0=0:=fun t ht=>by
  unfold frees at ht
  simpa using (List.mem_filter.1 ht).2
 refine ⟨piv,R,mem,?_,frees_count hp hd G.length (Nat.le_refl _),fun j hj=>drow_wd h.fq hR hA ((mem j).1 hj).1 n,fun j hj t ht=>?_,fun j hj i hi=>?_⟩
 ·unfold frees
  exact List.nodup_range.filter _
 ·rw [drow_get ((mem t).1 ht).1,if_neg (by rw [z t ht];omega)]
 ·have e:=pA_at hp hd G.length (Nat.le_refl _) i hi
  rw [rref_fz R hi] at e
  rw [drow_get (R.lt i hi),if_pos ⟨R.lt i hi,by rw [e];omega⟩,e]
  rfl
theorem Lc.dual (h:Lc q n G):Lc q n (dualR q n G)∧(dualR q n G).length+G.length=n∧∀ x,Wd q n x→(Sp q n (fadd q) (fmul q) (dualR q n G) x↔Orth n (fadd q) (fmul q) G x):=by
 obtain ⟨piv,D⟩:=h.dualOf
 obtain ⟨⟨p,R⟩,h2,h3⟩:=D.dual (fld q h.fq) (turn h.fq)
 exact ⟨⟨h.fq,h.n0,h.n1,⟨p,R⟩⟩,h2,h3⟩
theorem Lc.dual_dual (h:Lc q n G):dualR q n (dualR q n G)=G:=by
 obtain ⟨h1,h2,h3⟩:=h.dual
 obtain ⟨k1,k2,k3⟩:=h1.dual
 obtain ⟨p,R⟩:=h.form
 obtain ⟨p2,R2⟩:=k1.form
 exact Ma.dual_dual (fld q h.fq) (turn h.fq) R R2 h1.rows.wd h2 h3 k2 k3
theorem Lc.valid (h:Lc q n G):validB q n G=true:=by
 have hG:=h.rows
 have h1:=h.n0
 have h2:=h.n1
 have h3:=h.len
 obtain ⟨piv,R⟩:=h.form
 have e:=red_fix (fld q h.fq) R n 0 0 (by omega) (by omega) (fun i hi=>by omega) (fun i _ _=>by omega)
 unfold validB
 rw [decide_eq_true (show (1:Int)≤n by omega),decide_eq_true (show (n:Int)≤24 by omega),decide_eq_true (show (G.length:Int)≤n by omega),allWord_iff.2 fun i _ hi=>isWord_wd (hG.wd i hi)]
 simp only [Bool.true_and,decide_eq_true_eq,Int.toNat_natCast]
 rw [e]
 exact List.take_length.symm
end
theorem L100_2_3_spec {r:List Int} (hs:r.length<2^60) (hp:fnz r<r.length) {τ:Type} (κ:Nat→LS_→Option τ):∀ (f j:Nat),j≤fnz r→r.length<f+j →
  runE L100_2_3 f κ 0 [.N r.length,.L r,.I 0,.I r.length,.I j]=κ 0 [.I (fnz r)]
 | 0,j,h1,h2=>by omega
 | f+1,j,h1,h2=>by
  rw [runE_succ]
  show L100_2_3.s0 _ _ _=_
  unfold L100_2_3.s0 F112
  simp only [g_,Int.toNat_natCast,Nat.mul_one]
  rw [br_of (by simp;omega),ck_of (by simp;omega),ck_of (by simp;omega)]
  simp only [sw_zero,gB_zero]
  rcases Nat.lt_or_ge j (fnz r) with h | h
  ·rw [br_no (by rw [fz_lt h];rfl),wsucc (j:=j) (by omega)]
   exact L100_2_3_spec hs hp κ f (j+1) (by omega) (by omega)
  ·have e:j=fnz r:=by omega
   subst e
   rw [br_of (by simpa using fz_ne hp)]
theorem F82_spec {r:List Int} (hs:r.length<2^60) (hp:fnz r<r.length) {τ:Type} (k:Nat→LS_→Option τ):F82 [.L r] k=k 0 [.I (fnz r)]:=by
 have hfu:=fuel_le
 unfold F82 S100_3 L100_2_3.b
 simp only [gL_zero,gN_zero,gL_succ]
 refine (L100_2_3_spec hs hp _ fuel 0 (by omega) (by omega)).trans ?_
 simp only [sw_zero,gI_zero]
def marks (n j:Nat):List Bool:=(List.range n).map fun t=>decide (t<j)
theorem marks_len (n j:Nat):(marks n j).length=n:=by simp [marks]
theorem marks_set {n j:Nat} (hj:j<n):(marks n j).set j true=marks n (j+1):=by
 refine List.ext_getElem (by rw [List.length_set,marks_len,marks_len]) fun t h1 h2=>?_
 rw [List.length_set,marks_len] at h1
 rw [List.getElem_set]
 simp only [marks,List.getElem_map,List.getElem_range]
 by_cases e:j=t
 ·rw [if_pos e];symm;simp;omega
 ·rw [if_neg e,decide_eq_decide];omega
theorem L36_6_spec {n:Nat} (hn:n<2^20) (q a b p e:Int) (G:List (List Int)) (M:List Int) (c:Nat) {τ:Type} (κ:Nat→LS_→Option τ):∀ (f j:Nat),j≤n→n<f+j →
  runE L36_6 f κ 0 [.N n,.I n,.I j,.I q,.I n,.N G.length,.LL G,.I a,.I b,.I p,.I e,.N c,.LB (marks n j),.L M]
   = κ 0 [.N n,.I q,.I n,.N G.length,.LL G,.I a,.I b,.I p,.I e,.N c,.LB (marks n n),.L M]
 | 0,j,h1,h2=>by omega
 | f+1,j,h1,h2=>by
  have ml:=marks_len n j
  rw [runE_succ]
  show L36_6.s0 _ _ _=_
  unfold L36_6.s0
  simp only [g_,Int.toNat_natCast,Nat.mul_one,Nat.zero_add]
  by_cases hj:j<n
  ·rw [br_of (by simp;omega),ck_of (by simp;omega),ck_of (by simp;omega),wsucc (j:=j) (by omega),marks_set hj]
   exact L36_6_spec hn q a b p e G M c κ f (j+1) (by omega) (by omega)
  ·have:j=n:=by omega
   subst this
   rw [br_no (by simp)]
def fB (n:Nat) (G:List (List Int)) (k:Nat):List Bool:=(pA n G k).map fun x=>decide (x=0)
theorem fB_len (n:Nat) (G:List (List Int)) (k:Nat):(fB n G k).length=n:=by simp [fB,pA_len]
theorem fB_zero (n:Nat) (G:List (List Int)):marks n n=fB n G 0:=by
 unfold marks fB pA
 rw [List.map_replicate]
 refine List.ext_getElem (by simp) fun t h1 h2=>?_
 simp only [List.length_map,List.length_range] at h1
 simp [h1]
theorem fB_succ (n:Nat) (G:List (List Int)) (k:Nat):(fB n G k).set (fnz (G.getD k [])) false=fB n G (k+1):=by
 unfold fB
 rw [show pA n G (k+1)=(pA n G k).set (fnz (G.getD k [])) ((k+1:Nat):Int) from rfl,List.map_set]
 congr 1
theorem fB_get {n:Nat} {G:List (List Int)} {k t:Nat} (ht:t<n):(fB n G k).getD t false=decide ((pA n G k).getD t 0=0):=by
 have pl:=pA_len n G k
 unfold fB
 simp [List.getD_eq_getElem?_getD,pl,ht]
theorem L36_11_spec {n:Nat} (hn:n<2^20) {G:List (List Int)} (hG:G.length<2^20) (hp:∀ i,i<G.length→fnz (G.getD i [])<n∧(G.getD i []).length=n) (q a b p e:Int) (c:Nat) (M:List Int) {τ:Type} (κ:Nat→LS_→Option τ):∀ (f i:Nat),i≤G.length→G.length<f+i →
  runE L36_11 f κ 0 [.N n,.N G.length,.LL G,.I G.length,.I i,.I q,.I n,.N G.length,.LL G,.I a,.I b,.I p,.I e,.N c,.LB (fB n G i),.L M]
   = κ 0 [.N n,.I q,.I n,.N G.length,.LL G,.I a,.I b,.I p,.I e,.N c,.LB (fB n G G.length),.L M]
 | 0,i,h1,h2=>by omega
 | f+1,i,h1,h2=>by
  have fl:=fB_len n G i
  rw [runE_succ]
  show L36_11.s0 _ _ _=_
  unfold L36_11.s0
  simp only [g_,Int.toNat_natCast,Nat.mul_one,Nat.zero_add]
  by_cases hi:i<G.length
  ·obtain ⟨p1,p2⟩:=hp i hi
   have ih:=L36_11_spec hn hG hp q a b p e c M κ f (i+1) (by omega) (by omega)
   rw [←fB_succ] at ih
   rw [br_of (by simp;omega),ck_of (by simp;omega),ck_of (by simp;omega),ck_of (by simp),F82_spec (by omega) (by omega)]
   simp only [sw_zero,gI_zero,Int.toNat_natCast]
   generalize fnz (G.getD i [])=z at p1 p2 ih ⊢
   rw [ck_of (by simp;omega),ck_of (by simp;omega),wsucc (j:=i) (by omega)]
   exact ih
  ·have:i=G.length:=by omega
   subst this
   rw [br_no (by simp)]
theorem drow_next {q n:Nat} {G:List (List Int)} {i j:Nat} (hp:fnz (G.getD i [])<n):(drow q n (pA n G i) G j n).set (fnz (G.getD i [])) (fneg q ((G.getD i []).getD j 0))=drow q n (pA n G (i+1)) G j n :=
 ext_getD (by rw [List.length_set,drow_len,drow_len]) fun t ht=>by
  rw [List.length_set,drow_len] at ht
  have pl:=pA_len n G i
  have hA:(pA n G (i+1)).getD t 0=if fnz (G.getD i [])=t then ((i+1:Nat):Int) else (pA n G i).getD t 0:=by
   have e0:pA n G (i+1)=(pA n G i).set (fnz (G.getD i [])) ((i+1:Nat):Int):=rfl
   rw [e0,List.getD_eq_getElem?_getD,List.getElem?_set]
   by_cases e:fnz (G.getD i [])=t
   ·rw [if_pos e,if_pos e,if_pos (by rw [pl,e];exact ht)]
    rfl
   ·rw [if_neg e,if_neg e,←List.getD_eq_getElem?_getD]
  rw [drow_get ht,List.getD_eq_getElem?_getD,List.getElem?_set]
  by_cases e:fnz (G.getD i [])=t
  ·rw [if_pos e] at hA
   rw [if_pos e,if_pos (by rw [drow_len,e];exact ht),hA,if_pos ⟨ht,by omega⟩]
   rfl
  ·rw [if_neg e] at hA
   rw [if_neg e,hA,←List.getD_eq_getElem?_getD,drow_get ht]
theorem drow_first {q n:Nat} {G:List (List Int)} {j:Nat} (hj:j<n):(List.replicate n (0:Int)).set j 1=drow q n (pA n G 0) G j n:=by
 rw [drow_zero (q:=q) (A:=pA n G 0) (G:=G) hj]
 refine ext_getD (by rw [drow_len,drow_len]) fun t ht=>?_
 rw [drow_len] at ht
 have:(pA n G 0).getD t 0=0:=by simp [pA,List.getD_eq_getElem?_getD,ht]
 rw [drow_get ht,drow_get ht,this,if_neg (c:=t<0∧(0:Int)<0) (by omega),if_neg (c:=t<n∧(0:Int)<0) (by omega)]
theorem L36_23_spec {q n:Nat} {G:List (List Int)} (h:Lc q n G) (cnt:Nat) {j:Nat} (hj:j<n) (B:Int) (a b Q:Int) (LBs:List Bool) {τ:Type} (κ:Nat→LS_→Option τ):∀ (f i:Nat),i≤G.length→G.length<f+i →
  runE L36_23 f κ 0 [.N cnt,.I j,.N n,.I B,.I j,.N G.length,.LL G,.I G.length,.I i,.I Q,.I n,.N G.length,.LL G,.I a,.I b,.I (fp q),.I (fe q),.N (fm q).length,.LB LBs,.L (drow q n (pA n G i) G j n),.L (fm q)]
   = κ 0 [.N cnt,.N n,.I B,.I j,.I Q,.I n,.N G.length,.LL G,.I a,.I b,.I (fp q),.I (fe q),.N (fm q).length,.LB LBs,.L (drow q n (pA n G G.length) G j n),.L (fm q)]
 | 0,i,h1,h2=>by omega
 | f+1,i,h1,h2=>by
  have hR:=h.rows
  have hf:=hR.few
  have n1:=h.n1
  rw [runE_succ]
  show L36_23.s0 _ _ _=_
  unfold L36_23.s0
  simp only [g_,Int.toNat_natCast,Nat.mul_one,Nat.zero_add,List.drop_zero,List.take_length]
  by_cases hi:i<G.length
  ·obtain ⟨p1,p2⟩:=h.fnzs hi
   have wx:=hR.wd i hi
   have wj:=wx.2 j hj
   have ih:=L36_23_spec h cnt hj B a b Q LBs κ f (i+1) (by omega) (by omega)
   rw [←drow_next p1] at ih
   have dl:=drow_len (q:=q) (n:=n) (A:=pA n G i) (G:=G) (j:=j) (k:=n)
   rw [br_of (by simp;omega),ck_of (by simp;omega),ck_of (by simp;omega),ck_of (by simp),F82_spec (by omega) (by omega)]
   simp only [sw_zero,gI_zero,Int.toNat_natCast]
   generalize fnz (G.getD i [])=z at p1 p2 ih ⊢
   generalize G.getD i []=X at p2 wx wj ih ⊢
   rw [ck_of (by simp;omega),ck_of (by simp;omega),ck_of (by simp)]
   unfold T83
   rw [tab1_of h.fq wj.1 wj.2]
   simp only [sw_zero,gI_zero]
   rw [ck_of (by simp;omega),ck_of (by simp;omega),wsucc (j:=i) (by omega)]
   exact ih
  ·have:i=G.length:=by omega
   subst this
   rw [br_no (by simp)]
theorem L36_23_1_spec {q n:Nat} {G:List (List Int)} (h:Lc q n G) (cnt c2:Nat) {j:Nat} (hj:j<n) (B:Int) (a b Q:Int) (LBs:List Bool) (ln:List Nat) (fam:List (List Int)) {τ:Type} (κ:Nat→LS_→Option τ):∀ (f i:Nat),i≤G.length→G.length<f+i →
  runE L36_23_1 f κ 0 [.N cnt,.N c2,.I j,.N n,.I B,.I j,.N G.length,.LL G,.I G.length,.I i,.I Q,.I n,.N G.length,.LL G,.I a,.I b,.I (fp q),.I (fe q),.N (fm q).length,.LB LBs,.LN ln,.L (drow q n (pA n G i) G j n),.L (fm q),.LL fam]
   = κ 0 [.N cnt,.N c2,.N n,.I B,.I j,.I Q,.I n,.N G.length,.LL G,.I a,.I b,.I (fp q),.I (fe q),.N (fm q).length,.LB LBs,.LN ln,.L (drow q n (pA n G G.length) G j n),.L (fm q),.LL fam]
 | 0,i,h1,h2=>by omega
 | f+1,i,h1,h2=>by
  have hR:=h.rows
  have hf:=hR.few
  have n1:=h.n1
  rw [runE_succ]
  show L36_23_1.s0 _ _ _=_
  unfold L36_23_1.s0
  simp only [g_,gLN_zero,gLN_succ,Int.toNat_natCast,Nat.mul_one,Nat.zero_add,List.drop_zero,List.take_length]
  by_cases hi:i<G.length
  ·obtain ⟨p1,p2⟩:=h.fnzs hi
   have wx:=hR.wd i hi
   have wj:=wx.2 j hj
   have ih:=L36_23_1_spec h cnt c2 hj B a b Q LBs ln fam κ f (i+1) (by omega) (by omega)
   rw [←drow_next p1] at ih
   have dl:=drow_len (q:=q) (n:=n) (A:=pA n G i) (G:=G) (j:=j) (k:=n)
   rw [br_of (by simp;omega),ck_of (by simp;omega),ck_of (by simp;omega),ck_of (by simp),F82_spec (by omega) (by omega)]
   simp only [sw_zero,gI_zero,Int.toNat_natCast]
   generalize fnz (G.getD i [])=z at p1 p2 ih ⊢
   generalize G.getD i []=X at p2 wx wj ih ⊢
   rw [ck_of (by simp;omega),ck_of (by simp;omega),ck_of (by simp)]
   unfold T83
   rw [tab1_of h.fq wj.1 wj.2]
   simp only [sw_zero,gI_zero]
   rw [ck_of (by simp;omega),ck_of (by simp;omega),wsucc (j:=i) (by omega)]
   exact ih
  ·have:i=G.length:=by omega
   subst this
   rw [br_no (by simp)]
end
end Go.Proofs.YticbdgmcofjkeaaGreat.Ai
namespace Go.Proofs.YticbdgmcofjkeaaGreat.Ai
open Go Ma Go.RowKit
noncomputable section
def sN (h w:List Int):Nat→Int
 | 0=>0
 | k+1=>sN h w k+h.getD k 0*w.getD k 0
theorem sN_bnd {h w:List Int} (hh:Bn h) (hw:Bn w):∀ k,0≤sN h w k∧sN h w k≤k
 | 0=>by simp [sN]
 | k+1=>by
  have:=sN_bnd hh hw k
  simp only [sN]
  rcases hh.bit k with e | e <;> rcases hw.bit k with f | f <;> rw [e,f] <;> omega
def fl (n:Nat) (h w:List Int):Bool:=decide (sN h w n % 2=1)
def clean (n:Nat) (H:List (List Int)) (w:List Int):Bool:=H.all fun h=>!fl n h w
def bl (n:Nat) (H:List (List Int)) (w:List Int):Nat→Nat→Int
 | 0,_=>0
 | k+1,i=>bl n H w k i+if fl n (H.getD k []) w=true then (H.getD k []).getD i 0 else 0
def most (b:Nat→Int):Nat→Int
 | 0=>b 0
 | k+1=>max (most b k) (b (k+1))
def turn (n:Nat) (H:List (List Int)) (w:List Int):List Int :=
 (List.range n).map fun i=>if bl n H w H.length i=most (bl n H w H.length) (n-1) then 1-w.getD i 0 else w.getD i 0
def rounds (n:Nat) (H:List (List Int)):Nat→List Int×Int→List Int×Int
 | 0,s=>s
 | k+1,s=>if s.2<1000∧clean n H s.1=false then rounds n H k (turn n H s.1,s.2+1) else s
def BnL (H:List (List Int)) (n:Nat):Prop:=∀ h∈H,h.length=n∧Bn h
theorem BnL.get {H:List (List Int)} {n:Nat} (h:BnL H n) {k:Nat} (hk:k<H.length):(H.getD k []).length=n∧Bn (H.getD k []):=by
 rw [List.getD_eq_getElem?_getD,List.getElem?_eq_getElem hk]
 exact h _ (List.getElem_mem _)
theorem bl_bnd {H:List (List Int)} {n:Nat} (h:BnL H n) (w:List Int) (i:Nat):∀ k,k≤H.length→0≤bl n H w k i∧bl n H w k i≤k
 | 0,_=>by simp [bl]
 | k+1,hk=>by
  have:=bl_bnd h w i k (by omega)
  simp only [bl]
  split
  ·rcases (h.get (k:=k) (by omega)).2.bit i with e | e <;> rw [e] <;> omega
  ·omega
theorem turn_len {n:Nat} {H:List (List Int)} {w:List Int}:(turn n H w).length=n:=by simp [turn]
theorem turn_bn {n:Nat} {H:List (List Int)} {w:List Int} (hw:Bn w):Bn (turn n H w):=by
 intro i hi
 rw [turn_len] at hi
 unfold turn
 rw [map_get hi]
 split
 ·rcases hw.bit i with e | e <;> rw [e] <;> simp
 ·exact hw.bit i
theorem rounds_bn {n:Nat} {H:List (List Int)}:∀ k (s:List Int×Int),s.1.length=n→Bn s.1→(rounds n H k s).1.length=n∧Bn (rounds n H k s).1
 | 0,s,h1,h2=>⟨h1,h2⟩
 | k+1,s,h1,h2=>by
  simp only [rounds]
  split
  ·exact rounds_bn k _ turn_len (turn_bn h2)
  ·exact ⟨h1,h2⟩
theorem pc_and {n:Nat} (hn:n≤10) {h w:List Int} (hh:Bn h) (hw:Bn w) (lh:h.length=n):((pc (bv h &&& bv w):Nat):Int)=sN h w n:=by
 have key:∀ k,(((List.range k).countP fun i=>(bv h &&& bv w).testBit i:Nat):Int)=sN h w k:=by
  intro k
  induction k with
  | zero=>rfl
  | succ k ih =>
   rw [List.range_succ,List.countP_append,Int.natCast_add,ih,sN]
   congr 1
   simp only [List.countP_cons,List.countP_nil,Nat.testBit_and,bv_bit]
   rcases hh.bit k with e | e <;> rcases hw.bit k with f | f <;> rw [e,f] <;> simp
 have stay:∀ k,n≤k→sN h w k=sN h w n:=by
  intro k
  induction k with
  | zero=>intro q;rw [show n=0 by omega]
  | succ k ih =>
   intro q
   by_cases he:n=k+1
   ·rw [he]
   ·rw [sN,ih (by omega)]
    have:h.getD k 0=0:=by simp [List.getD_eq_getElem?_getD,List.getElem?_eq_none (show h.length≤k by omega)]
    rw [this];omega
 unfold pc
 rw [key 10,stay 10 hn]
end
end Go.Proofs.YticbdgmcofjkeaaGreat.Ai
namespace Go.Proofs.YticbdgmcofjkeaaGreat.Ai
open Go Ma
noncomputable section
section
variable {q n:Nat} {G:List (List Int)}
theorem drows_succ (A:List Int) (j:Nat):drows q n A G (j+1)=if A.getD j 0=0 then drows q n A G j++[drow q n A G j n] else drows q n A G j:=by
 unfold drows
 rw [frees_succ]
 split
 ·rw [List.map_append];rfl
 ·rfl
theorem L36_17_spec1 (h:Lc q n G) (a b Q:Int) {τ:Type} (κ:Nat→LS_→Option τ):∀ (f j:Nat),j≤n→n<f+j →
  runE L36_17 f κ 1 [.N n,.N (drows q n (pA n G G.length) G j).length,.I n,.I j,.I Q,.I n,.N G.length,.LL G,.I a,.I b,.I (fp q),.I (fe q),.N (fm q).length,.LB (fB n G G.length),.LN (List.range (drows q n (pA n G G.length) G j).length),.L (fm q),.LL (drows q n (pA n G G.length) G j)]
   = κ 1 [.N (drows q n (pA n G G.length) G n).length,.I Q,.I n,.N G.length,.LL G,.I a,.I b,.I (fp q),.I (fe q),.N (fm q).length,.LN (List.range (drows q n (pA n G G.length) G n).length),.L (fm q),.LL (drows q n (pA n G G.length) G n)]
 | 0,j,h1,h2=>by omega
 | f+1,j,h1,h2=>by
  have hfu:=fuel_le
  have hR:=h.rows
  have hf:=hR.few
  have n1:=h.n1
  have hA:=h.cols
  have fl:=fB_len n G G.length
  have dl:=drows_len (q:=q) (n:=n) (A:=pA n G G.length) (G:=G) (j:=j)
  have hl:=frees_len (pA n G G.length) j
  have ds:=drows_succ (q:=q) (n:=n) (G:=G) (pA n G G.length) j
  rw [runE_succ]
  show L36_17.s1 _ _ _=_
  unfold L36_17.s1
  simp only [g_,gLN_zero,gLN_succ,Int.toNat_natCast,Nat.mul_one,Nat.zero_add]
  by_cases hj:j<n
  ·have ih:=L36_17_spec1 h a b Q κ f (j+1) (by omega) (by omega)
   have fg:=fB_get (n:=n) (G:=G) (k:=G.length) hj
   rw [br_of (by simp;omega),ck_of (by simp;omega),ck_of (by simp;omega),fg]
   by_cases c:(pA n G G.length).getD j 0=0
   ·rw [if_pos c] at ds
    rw [ds,List.length_append] at ih
    rw [decide_eq_true c,br_no (b:=!true) rfl,ck_of (by simp;omega),ck_of (by simp;omega),ck_of (by simp;omega),drow_first (q:=q) (G:=G) hj]
    unfold L36_23_1.b
    refine (L36_23_1_spec h _ _ hj n a b Q _ _ _ _ fuel 0 (by omega) (by omega)).trans ?_
    simp only [g_,sw_zero,gLN_zero,gLN_succ]
    rw [ck_of (by simp [drow_len];omega),wsucc (j:=j) (by omega),show List.range (drows q n (pA n G G.length) G j).length++[(drows q n (pA n G G.length) G j).length]=List.range ((drows q n (pA n G G.length) G j).length+1) from List.range_succ.symm]
    exact ih
   ·rw [if_neg c] at ds
    rw [ds] at ih
    rw [decide_eq_false c,br_of (b:=!false) rfl,wsucc (j:=j) (by omega)]
    exact ih
  ·have:j=n:=by omega
   subst this
   rw [br_no (by simp)]
theorem L36_17_spec0 (h:Lc q n G) (a b Q:Int) {τ:Type} (κ:Nat→LS_→Option τ):∀ (f j:Nat),j≤n→n<f+j→drows q n (pA n G G.length) G j=[] →
  runE L36_17 f κ 0 [.N n,.I n,.I j,.I Q,.I n,.N G.length,.LL G,.I a,.I b,.I (fp q),.I (fe q),.N (fm q).length,.LB (fB n G G.length),.L (fm q)]
   = if drows q n (pA n G G.length) G n=[] then κ 0 [.I Q,.I n,.N G.length,.LL G,.I a,.I b,.I (fp q),.I (fe q),.N (fm q).length,.L (fm q)]
    else κ 1 [.N (drows q n (pA n G G.length) G n).length,.I Q,.I n,.N G.length,.LL G,.I a,.I b,.I (fp q),.I (fe q),.N (fm q).length,.LN (List.range (drows q n (pA n G G.length) G n).length),.L (fm q),.LL (drows q n (pA n G G.length) G n)]
 | 0,j,h1,h2,h3=>by omega
 | f+1,j,h1,h2,h3=>by
  have hfu:=fuel_le
  have hR:=h.rows
  have hf:=hR.few
  have n1:=h.n1
  have hA:=h.cols
  have fl:=fB_len n G G.length
  have ds:=drows_succ (q:=q) (n:=n) (G:=G) (pA n G G.length) j
  rw [runE_succ]
  show L36_17.s0 _ _ _=_
  unfold L36_17.s0
  simp only [g_,gLN_zero,gLN_succ,Int.toNat_natCast,Nat.mul_one,Nat.zero_add]
  by_cases hj:j<n
  ·have fg:=fB_get (n:=n) (G:=G) (k:=G.length) hj
   rw [br_of (by simp;omega),ck_of (by simp;omega),ck_of (by simp;omega),fg]
   by_cases c:(pA n G G.length).getD j 0=0
   ·rw [if_pos c,h3,List.nil_append] at ds
    have ih:=L36_17_spec1 h a b Q κ f (j+1) (by omega) (by omega)
    rw [ds] at ih
    have hne:drows q n (pA n G G.length) G n≠[]:=fun e=>by
     have e1:(drows q n (pA n G G.length) G (j+1)).length≤(drows q n (pA n G G.length) G n).length:=by
      rw [drows_len,drows_len]
      have:∀ d,(frees (pA n G G.length) (j+1)).length≤(frees (pA n G G.length) (j+1+d)).length:=fun d=>by
       induction d with
       | zero=>exact Nat.le_refl _
       | succ d ihd =>
        rw [←Nat.add_assoc,frees_succ _ (j+1+d)]
        split
        ·rw [List.length_append];omega
        ·exact ihd
      have:=this (n-(j+1))
      rw [show j+1+(n-(j+1))=n by omega] at this
      exact this
     rw [ds,e] at e1
     simp at e1
    rw [if_neg hne,decide_eq_true c,br_no (b:=!true) rfl,ck_of (by simp;omega),ck_of (by simp;omega),ck_of (by simp;omega),drow_first (q:=q) (G:=G) hj]
    unfold L36_23.b
    refine (L36_23_spec h _ hj n a b Q _ _ fuel 0 (by omega) (by omega)).trans ?_
    simp only [g_,sw_zero,gLN_zero,gLN_succ]
    rw [ck_of (by simp [drow_len]),wsucc (j:=j) (by omega)]
    exact ih
   ·rw [if_neg c,h3] at ds
    rw [decide_eq_false c,br_of (b:=!false) rfl,wsucc (j:=j) (by omega)]
    exact L36_17_spec0 h a b Q κ f (j+1) (by omega) (by omega) ds
  ·have:j=n:=by omega
   subst this
   rw [br_no (by simp),if_pos h3]
theorem S84_2_spec (hn:1≤n) {τ:Type} (k:Nat→LS_→Option τ):S84_2 [.I (fp q),.I (fe q),.N (fm q).length,.I n,.L (fm q)] k=k 0 [.L (fm q)]:=by
 have hfu:=fuel_le
 obtain ⟨f,hf⟩:∃ f,fuel=f+1:=⟨fuel-1,by omega⟩
 have key:∀ (κ:Nat→LS_→Option τ),runE L84_3_2 fuel κ 0 [.I n,.I 0,.L (fm q),.I (fp q),.I (fe q),.N (fm q).length,.I 0]=κ 0 [.I 0,.L (fm q),.I (fp q),.I (fe q),.N (fm q).length,.I 0]:=fun κ=>by
  rw [hf,runE_succ]
  show L84_3_2.s0 _ _ _=_
  unfold L84_3_2.s0
  simp only [g_]
  rw [br_of (by simp;omega),br_no (by simp)]
 unfold S84_2 L84_3_2.b
 simp only [g_]
 refine (key _).trans ?_
 simp only [g_,sw_zero]
 rw [ck_of (by simp)]
theorem Mx_take {perm:List Nat} {fam m:List (List Int)} (h:Mx perm fam m) {r:Nat} (hr:r≤m.length):(perm.take r).map (fun y=>fam.getD y [])=m.take r:=by
 have hl:=h.len
 refine ext_rows (by simp;omega) fun i hi=>?_
 simp only [List.length_map,List.length_take] at hi
 have hi2:i<r:=by omega
 rw [take_get hi2,←h.eq i (by omega)]
 simp [List.getD_eq_getElem?_getD,List.getElem?_take,hi2,show i<perm.length by omega]
theorem Mx_lt {perm:List Nat} {fam m:List (List Int)} (h:Mx perm fam m) {r:Nat} (hr:r≤m.length):((perm.take r).all fun y=>ltN y fam.length)=true:=by
 rw [List.all_eq_true]
 intro y hy
 obtain ⟨i,hi,rfl⟩:=List.getElem_of_mem hy
 have hl:=h.len
 rw [List.length_take] at hi
 have:=h.lt i (by omega)
 rw [List.getD_eq_getElem?_getD,List.getElem?_eq_getElem (by omega)] at this
 simpa using this
theorem dualR_eq (h:Lc q n G):(red (fadd q) (fmul q) (fneg q) (finv q) n 0 0 (drows q n (pA n G G.length) G n)).1.take (red (fadd q) (fmul q) (fneg q) (finv q) n 0 0 (drows q n (pA n G G.length) G n)).2=dualR q n G:=rfl
theorem F36_spec (h:Lc q n G):(dualR q n G=[]∧∀ {τ:Type} (k:Nat→LS_→Option τ),F36 [.I q,.I n,.LL G] k=k 0 [.I q,.I n])∨(∀ {τ:Type} (k:Nat→LS_→Option τ),F36 [.I q,.I n,.LL G] k=k 1 [.I q,.I n,.N (dualR q n G).length,.LL (dualR q n G)])∨(dualR q n G=[]∧∀ {τ:Type} (k:Nat→LS_→Option τ),F36 [.I q,.I n,.LL G] k=k 2 [.I q,.I n,.N 0]):=by
 have hfu:=fuel_le
 have hq:=h.fq
 have hR:=h.rows
 have n0:=h.n0
 have n1:=h.n1
 have hf:=h.len
 have hA:=h.cols
 have hD:=drows_rows hq hR hA
 have hs:∀ i,(G.getD i []).length<2^60:=short2 fun r hr=>by
  obtain ⟨i,hi,rfl⟩:=List.getElem_of_mem hr
  have:=(hR.wd i hi).1
  rw [List.getD_eq_getElem?_getD,List.getElem?_eq_getElem hi] at this
  simp at this
  omega
 have start:∀ {τ:Type} (k:Nat→LS_→Option τ),F36 [.I q,.I n,.LL G] k=(if drows q n (pA n G G.length) G n=[] then k 0 [.I q,.I n] else
   S84_0 [.I (fp q),.I (fe q),.N (fm q).length,.I n,.N (drows q n (pA n G G.length) G n).length,.L (fm q),.LN (List.range (drows q n (pA n G G.length) G n).length),.LL (drows q n (pA n G G.length) G n)]
    (fun j l=>(sw (ck (true&&(true&&((true&&(List.all (List.take ((gN l 0)*1) (List.drop 0 (gLN l 2))) (fun y=>(ltN y (List.length (gLL l 3))))))&&true)))
     (k 1 [.I q,.I n,.N (gN l 0),.LL (List.map (fun y=>(List.getD (gLL l 3) y [])) (List.take ((gN l 0)*1) (List.drop 0 (gLN l 2))))]))
     (sw (k 2 [.I q,.I n,.N (gN l 0)]) (fun _=>none))) j)):=fun {τ} k=>by
  unfold F36 T37
  simp only [g_]
  rw [ck_of (by simp),F37_spec hq n (by omega) hs,h.valid]
  simp only [sw_zero,gB_zero]
  rw [br_no (b:=!true) rfl,V81_spec hq]
  simp only [g_,sw_zero,Int.toNat_natCast]
  rw [ck_of (by simp;omega)]
  unfold L36_6.b
  rw [show List.replicate n false=marks n 0 by
   refine List.ext_getElem (by rw [marks_len];simp) fun t h1 h2=>?_
   simp [marks]]
  refine (L36_6_spec (by omega) q 0 0 (fp q) (fe q) G (fm q) _ _ fuel 0 (by omega) (by omega)).trans ?_
  rw [fB_zero n G]
  simp only [g_,sw_zero]
  unfold L36_11.b
  refine (L36_11_spec (by omega) (by omega) (fun i hi=>h.fnzs hi) q 0 0 (fp q) (fe q) _ (fm q) _ fuel 0 (by omega) (by omega)).trans ?_
  simp only [g_,sw_zero]
  unfold L36_17.b
  refine (L36_17_spec0 h 0 0 q _ fuel 0 (by omega) (by omega) rfl).trans ?_
  by_cases he:drows q n (pA n G G.length) G n=[]
  ·rw [if_pos he,if_pos he]
   simp only [g_,sw_zero]
   rw [S84_2_spec n0]
   simp only [sw_zero]
  ·rw [if_neg he,if_neg he]
   simp only [g_,sw_one,sw_zero,gLN_succ,gLN_zero] <;> rfl
 by_cases he:drows q n (pA n G G.length) G n=[]
 ·refine .inl ⟨?_,fun {τ} k=>by rw [start,if_pos he]⟩
  rw [←dualR_eq h,he]
  exact List.length_eq_zero_iff.1 (by rw [List.length_take,(red_len (add:=fadd q) (mul:=fmul q) (neg:=fneg q) (inv:=finv q) n 0 0 []).1];simp)
 ·obtain ⟨perm',fam',d1,d2⟩:=S84_0_spec hq hD (Mx_copy (drows q n (pA n G G.length) G n))
  obtain ⟨a,b,d⟩:=red_len (add:=fadd q) (mul:=fmul q) (neg:=fneg q) (inv:=finv q) n 0 0 (drows q n (pA n G G.length) G n)
  have d:=d (Nat.zero_le _)
  have hl:(dualR q n G).length=(red (fadd q) (fmul q) (fneg q) (finv q) n 0 0 (drows q n (pA n G G.length) G n)).2:=by
   rw [←dualR_eq h,List.length_take]
   omega
  by_cases hz:(red (fadd q) (fmul q) (fneg q) (finv q) n 0 0 (drows q n (pA n G G.length) G n)).2=0
  ·refine .inr (.inr ⟨List.length_eq_zero_iff.1 (by rw [hl,hz]),fun {τ} k=>?_⟩)
   rw [start,if_neg he,d2,if_pos hz]
   rfl
  ·refine .inr (.inl fun {τ} k=>?_)
   rw [start,if_neg he,d2,if_neg hz]
   simp only [sw_zero,gN_zero,gLN_succ,gLN_zero,gLL_succ,gLL_zero,Nat.mul_one,List.drop_zero]
   rw [ck_of (by rw [Mx_lt d1 (by omega)];rfl),Mx_take d1 (by omega),hl,←dualR_eq h]
def T36 {τ:Type} (l:LS_) (k:Nat→LS_→Option τ):Option τ:=wrapB F36.E (.v pCode) l k
def T36.E:Ent P:=F36.E.wrap (.v pCode)
theorem T36_spec (h:Lc q n G) {τ:Type} (k:Nat→LS_→Option τ):T36 [.I q,.I n,.LL G] k=k 0 [.I q,.I n,.LL (dualR q n G)]:=by
 rcases F36_spec h with ⟨e,h1⟩ | h1 | ⟨e,h1⟩
 ·rw [e]
  exact wrap_of (e:=F36.E) (p:=.v pCode) (j:=0) (l2:=[.I q,.I n]) (c:=true) (ls':=[.I q,.I n,.LL []]) (by intro τ κ;kernel_rfl) rfl (fun κ=>h1 κ)
 ·generalize dualR q n G=D at h1 ⊢
  exact wrap_of (e:=F36.E) (p:=.v pCode) (j:=1) (l2:=[.I q,.I n,.N D.length,.LL D]) (c:=(true&&(true&&(true&&(true&&(true&&(decide (D.length=D.length)&&true))))))) (ls':=[.I q,.I n,.LL D]) (by intro τ κ;kernel_rfl) (by simp) (fun κ=>h1 κ)
 ·rw [e]
  exact wrap_of (e:=F36.E) (p:=.v pCode) (j:=2) (l2:=[.I q,.I n,.N 0]) (c:=true) (ls':=[.I q,.I n,.LL []]) (by intro τ κ;kernel_rfl) rfl (fun κ=>h1 κ)
end
end
end Go.Proofs.YticbdgmcofjkeaaGreat.Ai
namespace Go.Proofs.YticbdgmcofjkeaaGreat.Ai
open Go Go.RowKit
noncomputable section
variable {τ:Type} (t:Nat) (nx ex:Nat→LS_→Option τ) (l:LS_) (k κ:Nat→LS_→Option τ)
def L49_6.H:LHead:=⟨false,true,0,299014,299014,60129542468,256,0,[(PS.mk (us 2 ((pp 0)::us 3 ((pp 1)::us 1 ((rr 2)::us 24 (qR::pI::pI::us 15 []))))) [(oG [pI,pI,qM]),(oG [pI,pI,qR]),oI])],[((Out.exit 0),(PS.mk (us 8 ((rr 0)::us 42 [])) [oI]))]⟩
def L49_6.O:Orc P:=⟨[],[],[S94_1.E],40⟩
def L49_6.s0:Option τ :=
 br (ltI (gI l 4) (gI l 3))
 (ck (((leI 0 (gI l 4))&&(ltI (gI l 4) (gN l 1)))&&true)
 (ck (ltN ((Int.toNat (gI l 4))*1) (List.length (gL l 2)))
 (ck (((leI 0 (gI l 4))&&(ltI (gI l 4) (gN l 7)))&&true)
 (ck (ltN ((Int.toNat (gI l 4))*1) (List.length (gLL l 8)))
 (S94_1 [.I (gI l 9),.I (gI l 10),.N (gN l 11),.L (gL l 12),.N (gN l 0),.I (List.getD (gL l 2) ((Int.toNat (gI l 4))*1) 0),.N (List.length (List.getD (gLL l 8) ((Int.toNat (gI l 4))*1) [])),.L (List.getD (gLL l 8) ((Int.toNat (gI l 4))*1) []),.L (gL l 13)]
 (fun j A=>(sw (nx 0 [.N (gN l 0),.N (gN l 1),.L (gL l 2),.I (gI l 3),.I (wr .i64 ((gI l 4)+1)),.I (gI l 5),.I (gI l 6),.N (gN l 7),.LL (gLL l 8),.I (gI l 9),.I (gI l 10),.N (gN l 11),.L (gL l 12),.L (gL A 0)])
 (fun _=>none)) j))))))
 (ex 0 [.N (gN l 0),.L (gL l 13)])
theorem L49_6.e0:LEq L49_6.O L49_6.H 0 L49_6.s0:=by intro τ next κ l;kernel_rfl
def L49_6:LStep P Cf:=LStep.mk1 (by decide) L49_6.e0
def L49_6.b:Option τ:=runE L49_6 fuel κ t l
def L49_6.E:LEnt P:=LStep.E L49_6
def F49.ps:List PV2:=[pCode,pR]
def F49.sh:List PA:=[(PA.mk (PV3.tup [nS,(pC 1)]) []),(PA.mk (PV3.tup [(rr 0),(pC 0)]) [cI])]
def F49.O:Orc P:=⟨[T37.E,F93.E,T81.E],[L49_6.E],[],40⟩
def F49:Option τ :=
 ck (((eqM (List.length (gLL l 2)) (List.length (gLL l 2)))&&true)&&true)
 (T37 [.I (gI l 0),.I (gI l 1),.LL (gLL l 2)]
 (fun j A=>(sw (br (!(gB A 0))
 (k 0 [])
 (ck ((eqM (List.length (gL l 3)) (List.length (gL l 3)))&&true)
 (F93 [.I (gI l 0),.I (((List.length (gLL l 2)):Nat):Int),.L (gL l 3)]
 (fun j B=>(sw (br (!(gB B 0))
 (k 0 [])
 (T81 [.I (gI l 0)]
 (fun j C=>(sw (ck (((leI 0 (gI l 1))&&(leI (gI l 1) (gI l 1)))&&(leI ((gI l 1)*9) 1099511627776))
 (L49_6.b 0 [.N (Int.toNat (gI l 1)),.N (List.length (gL l 3)),.L (gL l 3),.I (((List.length (gL l 3)):Nat):Int),.I 0,.I (gI l 0),.I (gI l 1),.N (List.length (gLL l 2)),.LL (gLL l 2),.I (gI C 0),.I (gI C 1),.N (List.length (gL C 2)),.L (gL C 2),.L (List.replicate (Int.toNat (gI l 1)) (0:Int))]
 (fun j D=>(sw (k 1 [.N (gN D 0),.L (gL D 1)])
 (fun _=>none)) j)))
 (fun _=>none)) j)))
 (fun _=>none)) j))))
 (fun _=>none)) j))
theorem F49.eq:FEq F49.O 73 F49.ps F49.sh F49:=by intro τ l κ;kernel_rfl
def F49.E:Ent P:=mkF F49.eq
end
end Go.Proofs.YticbdgmcofjkeaaGreat.Ai
namespace Go.Proofs.YticbdgmcofjkeaaGreat.Ma
section
variable {q:Nat} {add mul:Int→Int→Int} {neg inv:Int→Int} {n:Nat}
end
end Go.Proofs.YticbdgmcofjkeaaGreat.Ma
namespace Go.Proofs.YticbdgmcofjkeaaGreat.Ai
open Go Ma
noncomputable section
section
variable {q n:Nat} {G:List (List Int)}
theorem Lc.short {q n:Nat} {G:List (List Int)} (h:Lc q n G):∀ i,(G.getD i []).length<2^60:=short2 fun r hr=>by
 obtain ⟨i,hi,rfl⟩:=List.getElem_of_mem hr
 have:=(h.rows.wd i hi).1
 have:=h.n1
 rw [List.getD_eq_getElem?_getD,List.getElem?_eq_getElem hi] at *
 simp at *
 omega
def T49 {τ:Type} (l:LS_) (k:Nat→LS_→Option τ):Option τ:=wrapB F49.E (.tup [pR,pI]) l k
def T49.E:Ent P:=F49.E.wrap (.tup [pR,pI])
end
end
end Go.Proofs.YticbdgmcofjkeaaGreat.Ai
namespace Go.Proofs.YticbdgmcofjkeaaGreat.Ai
open Go Go.RowKit
noncomputable section
variable {τ:Type} (t:Nat) (nx ex:Nat→LS_→Option τ) (l:LS_) (k κ:Nat→LS_→Option τ)
def L47_5.H:LHead:=⟨false,true,0,126981,126981,1879048262,70,0,[(PS.mk (us 1 (qR::(pp 0)::us 3 ((rr 1)::us 21 (qM::pI::pI::us 28 [])))) [(oG [pI,pI,qM]),oI])],[((Out.exit 0),(PS.mk (us 1 (qR::(pp 0)::us 3 ((rr 1)::us 52 []))) [(oG [pI,pI,qM]),oI]))]⟩
def L47_5.O:Orc P:=⟨[F82.E],[],[],40⟩
def L47_5.s0:Option τ :=
 br (ltI (gI l 6) (gI l 5))
 (ck (((leI 0 (gI l 6))&&(ltI (gI l 6) (gN l 3)))&&true)
 (ck (ltN ((Int.toNat (gI l 6))*1) (List.length (gLL l 4)))
 (ck ((eqM (List.length (List.getD (gLL l 4) ((Int.toNat (gI l 6))*1) [])) (List.length (List.getD (gLL l 4) ((Int.toNat (gI l 6))*1) [])))&&true)
 (F82 [.L (List.getD (gLL l 4) ((Int.toNat (gI l 6))*1) [])]
 (fun j A=>(sw (ck (((leI 0 (gI A 0))&&(ltI (gI A 0) (gN l 0)))&&true)
 (ck (ltN ((Int.toNat (gI A 0))*1) (List.length (gL l 1)))
 (ck (((leI 0 (gI l 6))&&(ltI (gI l 6) (gN l 2)))&&true)
 (ck ((leN ((0+((Int.toNat (gI l 6))*1))+1) (List.length (gL l 11)))&&true)
 (nx 0 [.N (gN l 0),.L (gL l 1),.N (gN l 2),.N (gN l 3),.LL (gLL l 4),.I (gI l 5),.I (wr .i64 ((gI l 6)+1)),.I (gI l 7),.I (gI l 8),.N (gN l 9),.LL (gLL l 10),.L (List.set (gL l 11) (0+((Int.toNat (gI l 6))*1)) (List.getD (gL l 1) ((Int.toNat (gI A 0))*1) 0))])))))
 (fun _=>none)) j)))))
 (ex 0 [.N (gN l 0),.L (gL l 1),.N (gN l 2),.I (gI l 7),.I (gI l 8),.N (gN l 9),.LL (gLL l 10),.L (gL l 11)])
theorem L47_5.e0:LEq L47_5.O L47_5.H 0 L47_5.s0:=by intro τ next κ l;kernel_rfl
def L47_5:LStep P Cf:=LStep.mk1 (by decide) L47_5.e0
def L47_5.b:Option τ:=runE L47_5 fuel κ t l
def L47_5.E:LEnt P:=LStep.E L47_5
def F47.ps:List PV2:=[pCode,pR]
def F47.sh:List PA:=[(PA.mk (PV3.tup [nS,(pC 1)]) []),(PA.mk (PV3.tup [nS,(pC 6)]) []),(PA.mk (PV3.tup [qR,(pC 0)]) [])]
def F47.O:Orc P:=⟨[T37.E,F93.E,T49.E,F88.E],[L47_5.E],[],40⟩
def F47:Option τ :=
 ck (((eqM (List.length (gLL l 2)) (List.length (gLL l 2)))&&true)&&true)
 (T37 [.I (gI l 0),.I (gI l 1),.LL (gLL l 2)]
 (fun j A=>(sw (br (!(gB A 0))
 (k 0 [])
 (ck ((eqM (List.length (gL l 3)) (List.length (gL l 3)))&&true)
 (F93 [.I (gI l 0),.I (gI l 1),.L (gL l 3)]
 (fun j B=>(sw (br (!(gB B 0))
 (k 0 [])
 (ck (((leI 0 (List.length (gLL l 2)))&&(leI (((List.length (gLL l 2)):Nat):Int) (((List.length (gLL l 2)):Nat):Int)))&&(leI ((((List.length (gLL l 2)):Nat):Int)*9) 1099511627776))
 (L47_5.b 0 [.N (List.length (gL l 3)),.L (gL l 3),.N (Int.toNat (((List.length (gLL l 2)):Nat):Int)),.N (List.length (gLL l 2)),.LL (gLL l 2),.I (((List.length (gLL l 2)):Nat):Int),.I 0,.I (gI l 0),.I (gI l 1),.N (List.length (gLL l 2)),.LL (gLL l 2),.L (List.replicate (Int.toNat (((List.length (gLL l 2)):Nat):Int)) (0:Int))]
 (fun j C=>(sw (ck (((eqM (gN C 5) (List.length (gLL C 6)))&&true)&&((eqM (gN C 2) (List.length (List.take ((gN C 2)*1) (List.drop 0 (gL C 7)))))&&true))
 (T49 [.I (gI C 3),.I (gI C 4),.LL (gLL C 6),.L (List.take ((gN C 2)*1) (List.drop 0 (gL C 7)))]
 (fun j D=>(sw (br ((gI D 1) != 0)
 (k 1 [])
 (ck ((eqM (List.length (gL D 0)) (List.length (gL D 0)))&&((eqM (gN C 0) (List.length (gL C 1)))&&true))
 (F88 [.L (gL D 0),.L (gL C 1)]
 (fun j E=>(sw (br (!(gB E 0))
 (k 1 [])
 (k 2 [.N (gN C 2),.L (List.take ((gN C 2)*1) (List.drop 0 (gL C 7)))]))
 (fun _=>none)) j))))
 (fun _=>none)) j)))
 (fun _=>none)) j))))
 (fun _=>none)) j))))
 (fun _=>none)) j))
theorem F47.eq:FEq F47.O 31 F47.ps F47.sh F47:=by intro τ l κ;kernel_rfl
def F47.E:Ent P:=mkF F47.eq
end
end Go.Proofs.YticbdgmcofjkeaaGreat.Ai
namespace Go.Proofs.YticbdgmcofjkeaaGreat.Ai
open Go Go.RowKit
noncomputable section
variable {τ:Type} (t:Nat) (nx ex:Nat→LS_→Option τ) (l:LS_) (k κ:Nat→LS_→Option τ)
end
end Go.Proofs.YticbdgmcofjkeaaGreat.Ai
namespace Go.Proofs.YticbdgmcofjkeaaGreat.Ai
open Go Ma
noncomputable section
section
variable {q n:Nat} {G:List (List Int)}
def T47 {τ:Type} (l:LS_) (k:Nat→LS_→Option τ):Option τ:=wrapB F47.E (.tup [pR,pI]) l k
def T47.E:Ent P:=F47.E.wrap (.tup [pR,pI])
def synd (q n:Nat) (G:List (List Int)) (w:List Int):List Int:=(dualR q n G).map fun r=>dot (fadd q) (fmul q) r w n
theorem synd_len (w:List Int):(synd q n G w).length=(dualR q n G).length:=by simp [synd]
theorem synd_get {w:List Int} {i:Nat} (hi:i<(dualR q n G).length):(synd q n G w).getD i 0=dot (fadd q) (fmul q) ((dualR q n G).getD i []) w n:=by
 simp [synd,List.getD_eq_getElem?_getD,hi]
end
end
end Go.Proofs.YticbdgmcofjkeaaGreat.Ai
namespace Go.Proofs.YticbdgmcofjkeaaGreat.Ai
open Go Go.RowKit
noncomputable section
def dropSeq:Nat→Code→Code
 | 0,c=>c
 | n+1,.seq a b=>dropSeq n b
 | _+1,_=>.skip
section
variable (P:Program) {ρ:Type}
def execK (nf:Cfg) (nest gc:Bool) (fi res:Nat):Nat→Code→Nat→St→(Out→St→M ρ)→(St→M ρ)→M ρ
 | 0,c,aft,st,κ,B=>B st
 | n+1,.seq a b,aft,st,κ,B=>execC P nf nest gc fi res a (reads res b ||| aft) st fun
  | .normal,st'=>execK nf nest gc fi res n b aft st' κ B
  | e,st'=>κ e st'
 | n+1,c,aft,st,κ,B=>execC P nf nest gc fi res c aft st κ
theorem execK_eq (nf:Cfg) (nest gc:Bool) (fi res:Nat):∀ (n:Nat) (c:Code) (aft:Nat) (st:St) (κ:Out→St→M ρ),
  execC P nf nest gc fi res c aft st κ=execK P nf nest gc fi res n c aft st κ (fun st=>execC P nf nest gc fi res (dropSeq n c) aft st κ)
 | 0,c,aft,st,κ=>rfl
 | n+1,.seq a b,aft,st,κ=>by
  show execC P nf nest gc fi res a (reads res b ||| aft) st _=execC P nf nest gc fi res a (reads res b ||| aft) st _
  congr 1
  funext e st'
  cases e with
  | normal=>exact execK_eq nf nest gc fi res n b aft st' κ
  | ret=>rfl
  | exit i=>rfl
 | n+1,.skip,aft,st,κ=>rfl
 | n+1,.region _ _ _,aft,st,κ=>rfl
 | n+1,.cond _ _ _,aft,st,κ=>rfl
 | n+1,.block _ _,aft,st,κ=>rfl
 | n+1,.loop _,aft,st,κ=>rfl
 | n+1,.rangeFunc _ _ _ _,aft,st,κ=>rfl
 | n+1,.exit _,aft,st,κ=>rfl
 | n+1,.ret,aft,st,κ=>rfl
 | n+1,.scope _,aft,st,κ=>rfl
 | n+1,.label _,aft,st,κ=>rfl
 | n+1,.goto _,aft,st,κ=>rfl
 | n+1,.refuse _,aft,st,κ=>rfl
theorem dropSeq_add:∀ (n m:Nat) (c:Code),dropSeq (n+m) c=dropSeq m (dropSeq n c)
 | 0,m,c=>by rw [Nat.zero_add];rfl
 | n+1,m,.seq a b=>by rw [show n+1+m=n+m+1 by omega];exact dropSeq_add n m b
 | n+1,m,.skip=>by rw [show n+1+m=n+m+1 by omega];cases m <;> rfl
 | n+1,m,.region _ _ _=>by rw [show n+1+m=n+m+1 by omega];cases m <;> rfl
 | n+1,m,.cond _ _ _=>by rw [show n+1+m=n+m+1 by omega];cases m <;> rfl
 | n+1,m,.block _ _=>by rw [show n+1+m=n+m+1 by omega];cases m <;> rfl
 | n+1,m,.loop _=>by rw [show n+1+m=n+m+1 by omega];cases m <;> rfl
 | n+1,m,.rangeFunc _ _ _ _=>by rw [show n+1+m=n+m+1 by omega];cases m <;> rfl
 | n+1,m,.exit _=>by rw [show n+1+m=n+m+1 by omega];cases m <;> rfl
 | n+1,m,.ret=>by rw [show n+1+m=n+m+1 by omega];cases m <;> rfl
 | n+1,m,.scope _=>by rw [show n+1+m=n+m+1 by omega];cases m <;> rfl
 | n+1,m,.label _=>by rw [show n+1+m=n+m+1 by omega];cases m <;> rfl
 | n+1,m,.goto _=>by rw [show n+1+m=n+m+1 by omega];cases m <;> rfl
 | n+1,m,.refuse _=>by rw [show n+1+m=n+m+1 by omega];cases m <;> rfl
def endK (fn:Func):Out→St→M (AV×List AObj):=fun
 | .exit _,_=>.fail
 | _,st=>(resM P st.tm st.hp fn.results.toList).bind fun vs=>.done (tupOf vs,st.hp)
def callK (nf:Cfg) (n:Nat) (f:FuncId) (args:List AV) (B:St→M (AV×List AObj)):M (AV×List AObj) :=
 match P.funcs[f]? with
 | some fn=>match fn.body with
  | some c =>
   if nf.ok f&&decide (args.length≤fn.ntmps) then
   execK P nf (nf.nest f) true f (resMask fn) n c (resMask fn) ⟨args++List.replicate (fn.ntmps-args.length) .none_,[]⟩ (endK P fn) B
   else .fail
  | none=>.fail
 | none=>.fail
def midK (nf:Cfg) (n m:Nat) (f:FuncId) (st:St) (B:St→M (AV×List AObj)):M (AV×List AObj) :=
 match P.funcs[f]? with
 | some fn=>match fn.body with
  | some c=>execK P nf (nf.nest f) true f (resMask fn) m (dropSeq n c) (resMask fn) st (endK P fn) B
  | none=>.fail
 | none=>.fail
def restK (nf:Cfg) (n:Nat) (f:FuncId) (st:St):M (AV×List AObj) :=
 match P.funcs[f]? with
 | some fn=>match fn.body with
  | some c=>execC P nf (nf.nest f) true f (resMask fn) (dropSeq n c) (resMask fn) st (endK P fn)
  | none=>.fail
 | none=>.fail
def packK (p:AV×List AObj):M Ans:=pack p.1 p.2
theorem callK_eq (nf:Cfg) (n:Nat) (f:FuncId) (args:List AV):callT P nf f args=(callK P nf n f args (restK P nf n f)).bind packK:=by
 unfold callT bodyM callK restK
 cases P.funcs[f]? with
 | none=>rfl
 | some fn =>
  cases h:fn.body with
  | none=>simp only [h];rfl
  | some c =>
   simp only [h]
   by_cases c1:(nf.ok f&&decide (args.length≤fn.ntmps))=true
   ·rw [if_pos c1,if_pos c1]
    have:=execK_eq P nf (nf.nest f) true f (resMask fn) n c (resMask fn) ⟨args++List.replicate (fn.ntmps-args.length) .none_,[]⟩ (endK P fn)
    exact congrArg (fun t=>M.bind t packK) this
   ·rw [if_neg c1,if_neg c1]
    rfl
theorem midK_eq (nf:Cfg) (n m:Nat) (f:FuncId) (st:St):restK P nf n f st=midK P nf n m f st (restK P nf (n+m) f):=by
 unfold midK restK
 cases P.funcs[f]? with
 | none=>rfl
 | some fn =>
  cases h:fn.body with
  | none=>simp only [h]
  | some c =>
   simp only [h]
   rw [dropSeq_add]
   exact execK_eq P nf (nf.nest f) true f (resMask fn) m (dropSeq n c) (resMask fn) st (endK P fn)
end
section
variable {O:Orc P} {f:FuncId} {ps:List PV2} {sh:List PA}
def FEqK (O:Orc P) (f:FuncId) (ps:List PV2) (sh:List PA) (n:Nat) (p:PS) (F:∀ {τ:Type},LS_→(Nat→LS_→Option τ)→(LS_→Option τ)→Option τ):Prop :=
 ∀ {τ:Type} (l:LS_) (κ:Ans→Option τ) (B:St→M (AV×List AObj)),O.ev Cf ((callK P Cf n f (fL2 l ps 0) B).bind packK) κ=F l (fun j m=>sel sh (fun s=>κ (fA s m)) j) (fun m=>O.ev Cf ((B (fS p m)).bind packK) κ)
def MEqK (O:Orc P) (f:FuncId) (sh:List PA) (n:Nat) (p:PS) (m:Nat) (p2:PS) (F:∀ {τ:Type},LS_→(Nat→LS_→Option τ)→(LS_→Option τ)→Option τ):Prop :=
 ∀ {τ:Type} (l:LS_) (κ:Ans→Option τ) (B:St→M (AV×List AObj)),O.ev Cf ((midK P Cf n m f (fS p l) B).bind packK) κ=F l (fun j m=>sel sh (fun s=>κ (fA s m)) j) (fun m=>O.ev Cf ((B (fS p2 m)).bind packK) κ)
def REqK (O:Orc P) (f:FuncId) (sh:List PA) (n:Nat) (p:PS) (F:∀ {τ:Type},LS_→(Nat→LS_→Option τ)→Option τ):Prop :=
 ∀ {τ:Type} (l:LS_) (κ:Ans→Option τ),O.ev Cf ((restK P Cf n f (fS p l)).bind packK) κ=F l (fun j m=>sel sh (fun s=>κ (fA s m)) j)
theorem MEqK.join {n m:Nat} {p p2:PS} {F:∀ {τ:Type},LS_→(Nat→LS_→Option τ)→(LS_→Option τ)→Option τ} {G:∀ {τ:Type},LS_→(Nat→LS_→Option τ)→Option τ}
  (h1:MEqK O f sh n p m p2 F) (h2:REqK O f sh (n+m) p2 G):REqK O f sh n p (fun l k=>F l k fun m=>G m k):=fun {τ} l κ =>
 (congrArg (fun t=>O.ev Cf (M.bind t packK) κ) (midK_eq P Cf n m f (fS p l))).trans ((h1 l κ _).trans (congrArg (F l (fun j m=>sel sh (fun s=>κ (fA s m)) j)) (funext fun x=>h2 x κ)))
theorem FEqK.join {n:Nat} {p:PS} {F:∀ {τ:Type},LS_→(Nat→LS_→Option τ)→(LS_→Option τ)→Option τ} {G:∀ {τ:Type},LS_→(Nat→LS_→Option τ)→Option τ}
  (h1:FEqK O f ps sh n p F) (h2:REqK O f sh n p G):FEq O f ps sh (fun l k=>F l k fun m=>G m k):=fun {τ} l κ =>
 (congrArg (fun t=>O.ev Cf t κ) (callK_eq P Cf n f (fL2 l ps 0))).trans ((h1 l κ _).trans (congrArg (F l (fun j m=>sel sh (fun s=>κ (fA s m)) j)) (funext fun x=>h2 x κ)))
end
end
end Go.Proofs.YticbdgmcofjkeaaGreat.Ai
namespace Go.Proofs.YticbdgmcofjkeaaGreat.Ai
open Go Go.RowKit
noncomputable section
abbrev qFlip:PV2:=.agg [.arr (.i .i64),.int .i64,.bool]
abbrev qState:PV2:=.agg [.arr (.i .i64),.int .i64,.bool,.int .i64]
abbrev qReply:PV2:=.agg [.int .i64,.int .i64,.arr (.i .i64),.arr (.m .i64)]
abbrev qTold:PV2:=.agg [.int .i64,.int .i64,.arr (.i .i64),.arr (.m .i64),.int .i64]
abbrev qB8:PV2:=.v (.arr (.i .u8))
abbrev qRaw13:PV2:=.agg [.int .u8,.int .u8,.int .u8,.arr (.i .u8)]
variable {τ:Type} (t:Nat) (nx ex:Nat→LS_→Option τ) (l:LS_) (k κ:Nat→LS_→Option τ)
def vao0:List PO:=[(oG [pI,nS]),(oG [pI,(rr 2)]),(PO.cells true true (PC.c (PC0.i IntKind.u64)))]
def L266_3.H:LHead:=⟨false,true,0,389123,389123,3644,28,0,[(PS.mk (us 2 ((pp 0)::(pp 1)::pB::pI::us 3 (qR::pI::pI::us 24 []))) [(oG [pI,pI,qM]),(oG [qR,qR])])],[(Out.ret,(PS.mk (us 2 ((pp 0)::(pp 1)::pB::us 31 [])) [(oG [pI,pI,qM]),(oG [qR,qR])])),((Out.exit 0),(PS.mk (us 2 ((pp 0)::(pp 1)::pB::us 31 [])) [(oG [pI,pI,qM]),(oG [qR,qR])]))]⟩
def L266_3.O:Orc P:=⟨[],[],[],40⟩
def L266_3.s0:Option τ :=
 br (ltI (gI l 5) (gI l 4))
 (ck (((leI 0 (gI l 5))&&(ltI (gI l 5) (gN l 2)))&&true)
 (ck (ltN ((Int.toNat (gI l 5))*1) (List.length (gL l 3)))
 (br (leI (List.getD (gL l 3) ((Int.toNat (gI l 5))*1) 0) (gI l 1))
 (ex 0 [.B false,.I (gI l 6),.I (gI l 7),.N (gN l 8),.LL (gLL l 9),.N (gN l 10),.L (gL l 11),.N (gN l 12),.L (gL l 13)])
 (br (geI (List.getD (gL l 3) ((Int.toNat (gI l 5))*1) 0) (gI l 7))
 (ex 0 [.B false,.I (gI l 6),.I (gI l 7),.N (gN l 8),.LL (gLL l 9),.N (gN l 10),.L (gL l 11),.N (gN l 12),.L (gL l 13)])
 (nx 0 [.B (gB l 0),.I (List.getD (gL l 3) ((Int.toNat (gI l 5))*1) 0),.N (gN l 2),.L (gL l 3),.I (gI l 4),.I (wr .i64 ((gI l 5)+1)),.I (gI l 6),.I (gI l 7),.N (gN l 8),.LL (gLL l 9),.N (gN l 10),.L (gL l 11),.N (gN l 12),.L (gL l 13)])))))
 (ex 1 [.B (gB l 0),.I (gI l 6),.I (gI l 7),.N (gN l 8),.LL (gLL l 9),.N (gN l 10),.L (gL l 11),.N (gN l 12),.L (gL l 13)])
theorem L266_3.e0:LEq L266_3.O L266_3.H 0 L266_3.s0:=by intro τ next κ l;kernel_rfl
def L266_3:LStep P Cf:=LStep.mk1 (by decide) L266_3.e0
def L266_3.b:Option τ:=runE L266_3 fuel κ t l
def L266_3.E:LEnt P:=LStep.E L266_3
def F293.ps:List PV2:=[pI]
def F293.sh:List PA:=[(PA.mk (PV3.v pB) [])]
def F293.O:Orc P:=⟨[],[],[],40⟩
def F293:Option τ :=
 br (ltI (gI l 0) 0)
 (k 0 [.B true])
 (k 0 [.B (gtI (gI l 0) 1)])
theorem F293.eq:FEq F293.O 158 F293.ps F293.sh F293:=by intro τ l κ;kernel_rfl
def F293.E:Ent P:=mkF F293.eq
def L100_2_4.H:LHead:=⟨false,false,0,471042,471042,403,16,0,[(PS.mk (qR::(PV2.fn 158 [])::us 2 (pI::us 2 (pI::pI::us 10 []))) [])],[(Out.ret,(PS.mk (us 4 (pI::us 14 [])) [])),((Out.exit 0),(PS.mk (us 4 (pI::us 14 [])) []))]⟩
def L100_2_4.O:Orc P:=⟨[F293.E],[],[],40⟩
def L100_2_4.s0:Option τ :=
 br (ltI (gI l 4) (gI l 3))
 (ck (((leI 0 (gI l 4))&&(ltI (gI l 4) (gN l 0)))&&true)
 (ck (ltN ((Int.toNat (gI l 4))*1) (List.length (gL l 1)))
 (F293 [.I (List.getD (gL l 1) ((Int.toNat (gI l 4))*1) 0)]
 (fun j A=>(sw (br (gB A 0)
 (ex 0 [.I (gI l 4)])
 (nx 0 [.N (gN l 0),.L (gL l 1),.I (gI l 2),.I (gI l 3),.I (wr .i64 ((gI l 4)+1))]))
 (fun _=>none)) j))))
 (ex 1 [.I (gI l 2)])
theorem L100_2_4.e0:LEq L100_2_4.O L100_2_4.H 0 L100_2_4.s0:=by intro τ next κ l;kernel_rfl
def L100_2_4:LStep P Cf:=LStep.mk1 (by decide) L100_2_4.e0
def L100_2_4.b:Option τ:=runE L100_2_4 fuel κ t l
def L100_2_4.E:LEnt P:=LStep.E L100_2_4
def F282.ps:List PV2:=[pI,pR]
def F282.sh:List PA:=[(PA.mk (PV3.v pB) [])]
def F282.O:Orc P:=⟨[],[L100_2_4.E],[],40⟩
def F282:Option τ :=
 br ((((List.length (gL l 1)):Nat):Int)==(gI l 0))
 (L100_2_4.b 0 [.N (List.length (gL l 1)),.L (gL l 1),.I 0,.I (((List.length (gL l 1)):Nat):Int),.I 0]
 (fun j A=>(sw (k 0 [.B (!(geI (gI A 0) 0))])
 (sw (k 0 [.B true])
 (fun _=>none))) j))
 (k 0 [.B false])
theorem F282.eq:FEq F282.O 132 F282.ps F282.sh F282:=by intro τ l κ;kernel_rfl
def F282.E:Ent P:=mkF F282.eq
def F266.ps:List PV2:=[(PV2.agg [iI,iI,aM]),(PV2.agg [aI,aI])]
def F266.sh:List PA:=[(PA.mk (PV3.v pB) [])]
def F266.O:Orc P:=⟨[F282.E],[L266_3.E],[],40⟩
def F266:Option τ :=
 L266_3.b 0 [.B false,.I (-1),.N (List.length (gL l 4)),.L (gL l 4),.I (((List.length (gL l 4)):Nat):Int),.I 0,.I (gI l 0),.I (gI l 1),.N (List.length (gLL l 2)),.LL (gLL l 2),.N (List.length (gL l 3)),.L (gL l 3),.N (List.length (gL l 4)),.L (gL l 4)]
 (fun j A=>(sw (k 0 [.B (gB A 0)])
 (sw (br ((gI A 1)==2)
 (ck ((eqM (gN A 5) (List.length (gL A 6)))&&true)
 (F282 [.I (gI A 2),.L (gL A 6)]
 (fun j B=>(sw (k 0 [.B (gB B 0)])
 (fun _=>none)) j)))
 (k 0 [.B false]))
 (fun _=>none))) j)
theorem F266.eq:FEq F266.O 95 F266.ps F266.sh F266:=by intro τ l κ;kernel_rfl
def F266.E:Ent P:=mkF F266.eq
def L244_6.H:LHead:=⟨false,true,0,233478,233478,29360212,84,0,[(PS.mk (us 2 ((pp 0)::us 1 ((pp 1)::us 1 ((rr 2)::us 15 (qR::pI::pI::us 12 []))))) [(oG [pI,pI,qM]),(oG [nS,pI,pB]),oI])],[((Out.exit 0),(PS.mk (us 2 ((pp 0)::us 1 ((pp 1)::us 1 ((rr 2)::us 30 [])))) [(oG [pI,pI,qM]),(oG [nS,pI,pB]),oI]))]⟩
def L244_6.O:Orc P:=⟨[],[],[],40⟩
def L244_6.s0:Option τ :=
 br (ltI (gI l 4) (gI l 3))
 (ck (((leI 0 (gI l 4))&&(ltI (gI l 4) (gN l 1)))&&true)
 (ck (ltN ((Int.toNat (gI l 4))*1) (List.length (gL l 2)))
 (ck (((leI 0 (List.getD (gL l 2) ((Int.toNat (gI l 4))*1) 0))&&(ltI (List.getD (gL l 2) ((Int.toNat (gI l 4))*1) 0) (((gN l 0):Nat):Int)))&&true)
 (ck ((leN ((0+((Int.toNat (List.getD (gL l 2) ((Int.toNat (gI l 4))*1) 0))*1))+1) (List.length (gL l 11)))&&true)
 (nx 0 [.N (gN l 0),.N (gN l 1),.L (gL l 2),.I (gI l 3),.I (wr .i64 ((gI l 4)+1)),.I (gI l 5),.I (gI l 6),.N (gN l 7),.LL (gLL l 8),.I (gI l 9),.B (gB l 10),.L (List.set (gL l 11) (0+((Int.toNat (List.getD (gL l 2) ((Int.toNat (gI l 4))*1) 0))*1)) 0)])))))
 (ex 0 [.N (gN l 0),.I (gI l 5),.I (gI l 6),.N (gN l 7),.LL (gLL l 8),.I (gI l 9),.B (gB l 10),.L (gL l 11)])
theorem L244_6.e0:LEq L244_6.O L244_6.H 0 L244_6.s0:=by intro τ next κ l;kernel_rfl
def L244_6:LStep P Cf:=LStep.mk1 (by decide) L244_6.e0
def L244_6.b:Option τ:=runE L244_6 fuel κ t l
def L244_6.E:LEnt P:=LStep.E L244_6
def L269_3.H:LHead:=⟨false,true,0,401411,401411,456,8,0,[(PS.mk (us 3 ((pK IntKind.u64)::us 2 (qR::pI::pI::us 12 []))) [])],[((Out.exit 0),(PS.mk (us 3 ((pK IntKind.u64)::us 17 [])) []))]⟩
def L269_3.O:Orc P:=⟨[],[],[],40⟩
def L269_3.s0:Option τ :=
 br (ltI (gI l 4) (gI l 3))
 (ck (((leI 0 (gI l 4))&&(ltI (gI l 4) (gN l 1)))&&true)
 (ck (ltN ((Int.toNat (gI l 4))*1) (List.length (gL l 2)))
 (ck (leI 0 (gI l 4))
 (nx 0 [.I (wr IntKind.u64 (((@BitVec.toNat 64 (@HOr.hOr (BitVec (IntKind.bits IntKind.u64)) (BitVec (IntKind.bits IntKind.u64)) (BitVec (IntKind.bits IntKind.u64)) (@instHOrOfOrOp (BitVec (IntKind.bits IntKind.u64)) (@BitVec.instOrOp (IntKind.bits IntKind.u64))) (BitVec.ofInt 64 (gI l 0)) (BitVec.ofInt 64 (wr IntKind.u64 ((wr IntKind.u64 (List.getD (gL l 2) ((Int.toNat (gI l 4))*1) 0))*(@HPow.hPow Int Nat Int (@instHPow Int Nat (@instPowNat Int Int.instNatPow)) 2 (min (Int.toNat (gI l 4)) 64))))))):Nat):Int)),.N (gN l 1),.L (gL l 2),.I (gI l 3),.I (wr .i64 ((gI l 4)+1))]))))
 (ex 0 [.I (gI l 0)])
theorem L269_3.e0:LEq L269_3.O L269_3.H 0 L269_3.s0:=by intro τ next κ l;kernel_rfl
def L269_3:LStep P Cf:=LStep.mk1 (by decide) L269_3.e0
def L269_3.b:Option τ:=runE L269_3 fuel κ t l
def L269_3.E:LEnt P:=LStep.E L269_3
def F269.ps:List PV2:=[pR]
def F269.sh:List PA:=[(PA.mk (PV3.v (pK IntKind.u64)) [])]
def F269.O:Orc P:=⟨[],[L269_3.E],[],40⟩
def F269:Option τ :=
 L269_3.b 0 [.I 0,.N (List.length (gL l 0)),.L (gL l 0),.I (((List.length (gL l 0)):Nat):Int),.I 0]
 (fun j A=>(sw (k 0 [.I (gI A 0)])
 (fun _=>none)) j)
theorem F269.eq:FEq F269.O 98 F269.ps F269.sh F269:=by intro τ l κ;kernel_rfl
def F269.E:Ent P:=mkF F269.eq
def L267_3.H:LHead:=⟨false,true,0,393219,393219,14348,12,0,[(PS.mk (us 2 ((pp 0)::(pp 1)::us 7 (qM::pI::pI::us 12 []))) [(oG [pI,nS]),(oG [pI,nS])]),(PS.mk (us 2 ((pp 0)::(pp 1)::us 7 (qM::pI::pI::us 12 []))) vao0)],[((Out.exit 0),(PS.mk (us 2 ((pp 0)::(pp 1)::us 22 [])) [(oG [pI,nS]),(oG [pI,nS])])),((Out.exit 0),(PS.mk (us 2 ((pp 0)::(pp 1)::us 22 [])) vao0))]⟩
def L267_3.O:Orc P:=⟨[F269.E],[],[],40⟩
def L267_3.s0:Option τ :=
 br (ltI (gI l 3) (gI l 2))
 (ck (((leI 0 (gI l 3))&&(ltI (gI l 3) (gN l 0)))&&true)
 (ck (ltN ((Int.toNat (gI l 3))*1) (List.length (gLL l 1)))
 (ck ((eqM (List.length (List.getD (gLL l 1) ((Int.toNat (gI l 3))*1) [])) (List.length (List.getD (gLL l 1) ((Int.toNat (gI l 3))*1) [])))&&true)
 (F269 [.L (List.getD (gLL l 1) ((Int.toNat (gI l 3))*1) [])]
 (fun j A=>(sw (nx 1 [.N (gN l 0),.LL (gLL l 1),.I (gI l 2),.I (wr .i64 ((gI l 3)+1)),.I (gI l 4),.I (gI l 5),.N 1,.L (List.take 1 (List.drop 0 [(gI A 0)]))])
 (fun _=>none)) j)))))
 (ex 0 [.I (gI l 4),.I (gI l 5)])
theorem L267_3.e0:LEq L267_3.O L267_3.H 0 L267_3.s0:=by intro τ next κ l;kernel_rfl
def L267_3.s1:Option τ :=
 br (ltI (gI l 3) (gI l 2))
 (ck (((leI 0 (gI l 3))&&(ltI (gI l 3) (gN l 0)))&&true)
 (ck (ltN ((Int.toNat (gI l 3))*1) (List.length (gLL l 1)))
 (ck ((eqM (List.length (List.getD (gLL l 1) ((Int.toNat (gI l 3))*1) [])) (List.length (List.getD (gLL l 1) ((Int.toNat (gI l 3))*1) [])))&&true)
 (F269 [.L (List.getD (gLL l 1) ((Int.toNat (gI l 3))*1) [])]
 (fun j A=>(sw (ck (((((eqM (List.length (gL l 7)) ((gN l 6)*1))&&true)&&(eqM 1 1))&&(leN (((gN l 6)+1)*9) 1099511627776))&&true)
 (nx 1 [.N (gN l 0),.LL (gLL l 1),.I (gI l 2),.I (wr .i64 ((gI l 3)+1)),.I (gI l 4),.I (gI l 5),.N ((gN l 6)+1),.L ((gL l 7)++(List.take 1 (List.drop 0 [(gI A 0)])))]))
 (fun _=>none)) j)))))
 (ex 1 [.I (gI l 4),.I (gI l 5),.N (gN l 6),.L (gL l 7)])
theorem L267_3.e1:LEq L267_3.O L267_3.H 1 L267_3.s1:=by intro τ next κ l;kernel_rfl
def L267_3:LStep P Cf:=LStep.mk2 (by decide) L267_3.e0 L267_3.e1
def L267_3.b:Option τ:=runE L267_3 fuel κ t l
def L267_3.E:LEnt P:=LStep.E L267_3
def F267.ps:List PV2:=[(PV2.agg [iI,iI,aM])]
def F267.sh:List PA:=[(PA.mk (PV3.v (PV2.agg [iI,PV1.nilS])) []),(PA.mk (PV3.v (PV2.agg [iI,(r1 0)])) [(PC.c (PC0.i IntKind.u64))])]
def F267.O:Orc P:=⟨[T36.E],[L267_3.E],[],40⟩
def F267:Option τ :=
 ck (((eqM (List.length (gLL l 2)) (List.length (gLL l 2)))&&true)&&true)
 (T36 [.I (gI l 0),.I (gI l 1),.LL (gLL l 2)]
 (fun j A=>(sw (L267_3.b 0 [.N (List.length (gLL A 2)),.LL (gLL A 2),.I (((List.length (gLL A 2)):Nat):Int),.I 0,.I 0,.I (gI l 1)]
 (fun j B=>(sw (k 0 [.I (gI B 1)])
 (sw (k 1 [.I (gI B 1),.N (gN B 2),.L (gL B 3)])
 (fun _=>none))) j))
 (fun _=>none)) j))
theorem F267.eq:FEq F267.O 96 F267.ps F267.sh F267:=by intro τ l κ;kernel_rfl
def F267.E:Ent P:=mkF F267.eq
def L296_2.H:LHead:=⟨false,false,2,659458,659458,403,16,0,[(PS.mk (nS::(PV2.fn 159 [(p1 1)])::us 2 (pI::us 2 (pI::pI::us 10 []))) [PO.dead,(oG [(pK IntKind.u64)])])],[((Out.exit 0),(PS.mk (us 4 (pI::us 14 [])) [PO.dead,(oG [(pK IntKind.u64)])]))]⟩
def L296_2.O:Orc P:=⟨[],[],[],40⟩
def L296_2.s0 {τ:Type} (next ex:Nat→LS_→Option τ) (l:LS_):Option τ :=
 br (ltI (gI l 2) (gI l 1))
 (none)
 (ex 0 [.I (gI l 0),.I (gI l 3)])
theorem L296_2.e0:LEq L296_2.O L296_2.H 0 L296_2.s0:=by intro τ next κ l;kernel_rfl
def L296_2:LStep P Cf:=LStep.mk1 (by decide) L296_2.e0
def L296_2.b:Option τ:=runE L296_2 fuel κ t l
def L296_2.E:LEnt P:=LStep.E L296_2
def F273.ps:List PV2:=[(PV2.agg [iI,PV1.nilS]),(pK IntKind.u64)]
def F273.sh:List PA:=[(PA.mk (PV3.v pB) [])]
def F273.O:Orc P:=⟨[],[L296_2.E],[],40⟩
def F273:Option τ :=
 L296_2.b 0 [.I 0,.I 0,.I 0,.I (gI l 1)]
 (fun j A=>(sw (k 0 [.B true])
 (fun _=>none)) j)
theorem F273.eq:FEq F273.O 102 F273.ps F273.sh F273:=by intro τ l κ;kernel_rfl
def F273.E:Ent P:=mkF F273.eq
def L268_3.H:LHead:=⟨false,true,0,397315,397315,1573058,192,0,[(PS.mk (us 1 ((pK IntKind.u64)::us 4 ((pp 0)::(pp 1)::us 11 (pI::pI::us 13 [])))) [(oG [nS,pI,pB]),(oG [(rr 2),pI,pB]),oI])],[((Out.exit 0),(PS.mk (us 6 ((pp 0)::(pp 1)::us 26 [])) [(oG [nS,pI,pB]),(oG [(rr 2),pI,pB]),oI]))]⟩
def L268_3.O:Orc P:=⟨[],[],[],40⟩
def L268_3.s0:Option τ :=
 br (ltI (gI l 2) (gI l 1))
 (ck (leI 0 (gI l 2))
 (ck (((leI 0 (gI l 2))&&(ltI (gI l 2) (gN l 5)))&&true)
 (ck ((leN ((0+((Int.toNat (gI l 2))*1))+1) (List.length (gL l 8)))&&true)
 (nx 0 [.I (gI l 0),.I (gI l 1),.I (wr .i64 ((gI l 2)+1)),.I (gI l 3),.B (gB l 4),.N (gN l 5),.I (gI l 6),.B (gB l 7),.L (List.set (gL l 8) (0+((Int.toNat (gI l 2))*1)) (wr .i64 (wr IntKind.u64 (((@BitVec.toNat 64 (@HAnd.hAnd (BitVec (IntKind.bits IntKind.u64)) (BitVec (IntKind.bits IntKind.u64)) (BitVec (IntKind.bits IntKind.u64)) (@instHAndOfAndOp (BitVec (IntKind.bits IntKind.u64)) (@BitVec.instAndOp (IntKind.bits IntKind.u64))) (BitVec.ofInt 64 (Int.fdiv (gI l 0) (@HPow.hPow Int Nat Int (@instHPow Int Nat (@instPowNat Int Int.instNatPow)) 2 (min (Int.toNat (gI l 2)) 64)))) (BitVec.ofInt (IntKind.bits IntKind.u64) 1))):Nat):Int))))]))))
 (ex 0 [.I (gI l 3),.B (gB l 4),.N (gN l 5),.I (gI l 6),.B (gB l 7),.L (gL l 8)])
theorem L268_3.e0:LEq L268_3.O L268_3.H 0 L268_3.s0:=by intro τ next κ l;kernel_rfl
def L268_3:LStep P Cf:=LStep.mk1 (by decide) L268_3.e0
def L268_3.b:Option τ:=runE L268_3 fuel κ t l
def L268_3.E:LEnt P:=LStep.E L268_3
def F268.ps:List PV2:=[(PV2.agg [iI,PV1.nilS]),(pK IntKind.u64),pI]
def F268.sh:List PA:=[(PA.mk (PV3.v (PV2.agg [(r1 0),iI,PV1.bool])) [cI])]
def F268.O:Orc P:=⟨[F273.E],[L268_3.E],[],40⟩
def F268:Option τ :=
 ck (((leI 0 (gI l 0))&&(leI (gI l 0) (gI l 0)))&&(leI ((gI l 0)*9) 1099511627776))
 (F273 [.I (gI l 0),.I (gI l 1)]
 (fun j A=>(sw (L268_3.b 0 [.I (gI l 1),.I (((Int.toNat (gI l 0)):Nat):Int),.I 0,.I 0,.B false,.N (Int.toNat (gI l 0)),.I (gI l 2),.B (gB A 0),.L (List.replicate (Int.toNat (gI l 0)) (0:Int))]
 (fun j B=>(sw (k 0 [.N (gN B 2),.I (gI B 3),.B (gB B 4),.L (gL B 5)])
 (fun _=>none)) j))
 (fun _=>none)) j))
theorem F268.eq:FEq F268.O 97 F268.ps F268.sh F268:=by intro τ l κ;kernel_rfl
def F268.E:Ent P:=mkF F268.eq
def F304.ps:List PV2:=[(pK IntKind.u64)]
def F304.sh:List PA:=[(PA.mk (PV3.v pI) [])]
def F304.O:Orc P:=⟨[],[],[],40⟩
def F304:Option τ :=
 k 0 [.I (wr .i64 (((@BitVec.toNat 64 (@HAnd.hAnd (BitVec (IntKind.bits .i64)) (BitVec (IntKind.bits .i64)) (BitVec (IntKind.bits .i64)) (@instHAndOfAndOp (BitVec (IntKind.bits .i64)) (@BitVec.instAndOp (IntKind.bits .i64))) (BitVec.ofInt 64 (wr .i64 (wr IntKind.u64 ((wr IntKind.u64 ((wr IntKind.u64 ((wr IntKind.u64 (((@BitVec.toNat 64 (@HAnd.hAnd (BitVec (IntKind.bits IntKind.u64)) (BitVec (IntKind.bits IntKind.u64)) (BitVec (IntKind.bits IntKind.u64)) (@instHAndOfAndOp (BitVec (IntKind.bits IntKind.u64)) (@BitVec.instAndOp (IntKind.bits IntKind.u64))) (BitVec.ofInt 64 (wr IntKind.u64 ((Int.fdiv (wr IntKind.u64 ((wr IntKind.u64 (((@BitVec.toNat 64 (@HAnd.hAnd (BitVec (IntKind.bits IntKind.u64)) (BitVec (IntKind.bits IntKind.u64)) (BitVec (IntKind.bits IntKind.u64)) (@instHAndOfAndOp (BitVec (IntKind.bits IntKind.u64)) (@BitVec.instAndOp (IntKind.bits IntKind.u64))) (BitVec.ofInt 64 (Int.fdiv (wr IntKind.u64 ((wr IntKind.u64 (((@BitVec.toNat 64 (@HAnd.hAnd (BitVec (IntKind.bits IntKind.u64)) (BitVec (IntKind.bits IntKind.u64)) (BitVec (IntKind.bits IntKind.u64)) (@instHAndOfAndOp (BitVec (IntKind.bits IntKind.u64)) (@BitVec.instAndOp (IntKind.bits IntKind.u64))) (BitVec.ofInt 64 (Int.fdiv (gI l 0) 2)) (BitVec.ofInt (IntKind.bits IntKind.u64) 6148914691236517205))):Nat):Int))+(wr IntKind.u64 (((@BitVec.toNat 64 (@HAnd.hAnd (BitVec (IntKind.bits IntKind.u64)) (BitVec (IntKind.bits IntKind.u64)) (BitVec (IntKind.bits IntKind.u64)) (@instHAndOfAndOp (BitVec (IntKind.bits IntKind.u64)) (@BitVec.instAndOp (IntKind.bits IntKind.u64))) (BitVec.ofInt 64 (gI l 0)) (BitVec.ofInt (IntKind.bits IntKind.u64) 6148914691236517205))):Nat):Int)))) 4)) (BitVec.ofInt (IntKind.bits IntKind.u64) 3689348814741910323))):Nat):Int))+(wr IntKind.u64 (((@BitVec.toNat 64 (@HAnd.hAnd (BitVec (IntKind.bits IntKind.u64)) (BitVec (IntKind.bits IntKind.u64)) (BitVec (IntKind.bits IntKind.u64)) (@instHAndOfAndOp (BitVec (IntKind.bits IntKind.u64)) (@BitVec.instAndOp (IntKind.bits IntKind.u64))) (BitVec.ofInt 64 (wr IntKind.u64 ((wr IntKind.u64 (((@BitVec.toNat 64 (@HAnd.hAnd (BitVec (IntKind.bits IntKind.u64)) (BitVec (IntKind.bits IntKind.u64)) (BitVec (IntKind.bits IntKind.u64)) (@instHAndOfAndOp (BitVec (IntKind.bits IntKind.u64)) (@BitVec.instAndOp (IntKind.bits IntKind.u64))) (BitVec.ofInt 64 (Int.fdiv (gI l 0) 2)) (BitVec.ofInt (IntKind.bits IntKind.u64) 6148914691236517205))):Nat):Int))+(wr IntKind.u64 (((@BitVec.toNat 64 (@HAnd.hAnd (BitVec (IntKind.bits IntKind.u64)) (BitVec (IntKind.bits IntKind.u64)) (BitVec (IntKind.bits IntKind.u64)) (@instHAndOfAndOp (BitVec (IntKind.bits IntKind.u64)) (@BitVec.instAndOp (IntKind.bits IntKind.u64))) (BitVec.ofInt 64 (gI l 0)) (BitVec.ofInt (IntKind.bits IntKind.u64) 6148914691236517205))):Nat):Int))))) (BitVec.ofInt (IntKind.bits IntKind.u64) 3689348814741910323))):Nat):Int)))) 16)+(wr IntKind.u64 ((wr IntKind.u64 (((@BitVec.toNat 64 (@HAnd.hAnd (BitVec (IntKind.bits IntKind.u64)) (BitVec (IntKind.bits IntKind.u64)) (BitVec (IntKind.bits IntKind.u64)) (@instHAndOfAndOp (BitVec (IntKind.bits IntKind.u64)) (@BitVec.instAndOp (IntKind.bits IntKind.u64))) (BitVec.ofInt 64 (Int.fdiv (wr IntKind.u64 ((wr IntKind.u64 (((@BitVec.toNat 64 (@HAnd.hAnd (BitVec (IntKind.bits IntKind.u64)) (BitVec (IntKind.bits IntKind.u64)) (BitVec (IntKind.bits IntKind.u64)) (@instHAndOfAndOp (BitVec (IntKind.bits IntKind.u64)) (@BitVec.instAndOp (IntKind.bits IntKind.u64))) (BitVec.ofInt 64 (Int.fdiv (gI l 0) 2)) (BitVec.ofInt (IntKind.bits IntKind.u64) 6148914691236517205))):Nat):Int))+(wr IntKind.u64 (((@BitVec.toNat 64 (@HAnd.hAnd (BitVec (IntKind.bits IntKind.u64)) (BitVec (IntKind.bits IntKind.u64)) (BitVec (IntKind.bits IntKind.u64)) (@instHAndOfAndOp (BitVec (IntKind.bits IntKind.u64)) (@BitVec.instAndOp (IntKind.bits IntKind.u64))) (BitVec.ofInt 64 (gI l 0)) (BitVec.ofInt (IntKind.bits IntKind.u64) 6148914691236517205))):Nat):Int)))) 4)) (BitVec.ofInt (IntKind.bits IntKind.u64) 3689348814741910323))):Nat):Int))+(wr IntKind.u64 (((@BitVec.toNat 64 (@HAnd.hAnd (BitVec (IntKind.bits IntKind.u64)) (BitVec (IntKind.bits IntKind.u64)) (BitVec (IntKind.bits IntKind.u64)) (@instHAndOfAndOp (BitVec (IntKind.bits IntKind.u64)) (@BitVec.instAndOp (IntKind.bits IntKind.u64))) (BitVec.ofInt 64 (wr IntKind.u64 ((wr IntKind.u64 (((@BitVec.toNat 64 (@HAnd.hAnd (BitVec (IntKind.bits IntKind.u64)) (BitVec (IntKind.bits IntKind.u64)) (BitVec (IntKind.bits IntKind.u64)) (@instHAndOfAndOp (BitVec (IntKind.bits IntKind.u64)) (@BitVec.instAndOp (IntKind.bits IntKind.u64))) (BitVec.ofInt 64 (Int.fdiv (gI l 0) 2)) (BitVec.ofInt (IntKind.bits IntKind.u64) 6148914691236517205))):Nat):Int))+(wr IntKind.u64 (((@BitVec.toNat 64 (@HAnd.hAnd (BitVec (IntKind.bits IntKind.u64)) (BitVec (IntKind.bits IntKind.u64)) (BitVec (IntKind.bits IntKind.u64)) (@instHAndOfAndOp (BitVec (IntKind.bits IntKind.u64)) (@BitVec.instAndOp (IntKind.bits IntKind.u64))) (BitVec.ofInt 64 (gI l 0)) (BitVec.ofInt (IntKind.bits IntKind.u64) 6148914691236517205))):Nat):Int))))) (BitVec.ofInt (IntKind.bits IntKind.u64) 3689348814741910323))):Nat):Int))))))) (BitVec.ofInt (IntKind.bits IntKind.u64) 1085102592571150095))):Nat):Int))+(Int.fdiv (wr IntKind.u64 (((@BitVec.toNat 64 (@HAnd.hAnd (BitVec (IntKind.bits IntKind.u64)) (BitVec (IntKind.bits IntKind.u64)) (BitVec (IntKind.bits IntKind.u64)) (@instHAndOfAndOp (BitVec (IntKind.bits IntKind.u64)) (@BitVec.instAndOp (IntKind.bits IntKind.u64))) (BitVec.ofInt 64 (wr IntKind.u64 ((Int.fdiv (wr IntKind.u64 ((wr IntKind.u64 (((@BitVec.toNat 64 (@HAnd.hAnd (BitVec (IntKind.bits IntKind.u64)) (BitVec (IntKind.bits IntKind.u64)) (BitVec (IntKind.bits IntKind.u64)) (@instHAndOfAndOp (BitVec (IntKind.bits IntKind.u64)) (@BitVec.instAndOp (IntKind.bits IntKind.u64))) (BitVec.ofInt 64 (Int.fdiv (wr IntKind.u64 ((wr IntKind.u64 (((@BitVec.toNat 64 (@HAnd.hAnd (BitVec (IntKind.bits IntKind.u64)) (BitVec (IntKind.bits IntKind.u64)) (BitVec (IntKind.bits IntKind.u64)) (@instHAndOfAndOp (BitVec (IntKind.bits IntKind.u64)) (@BitVec.instAndOp (IntKind.bits IntKind.u64))) (BitVec.ofInt 64 (Int.fdiv (gI l 0) 2)) (BitVec.ofInt (IntKind.bits IntKind.u64) 6148914691236517205))):Nat):Int))+(wr IntKind.u64 (((@BitVec.toNat 64 (@HAnd.hAnd (BitVec (IntKind.bits IntKind.u64)) (BitVec (IntKind.bits IntKind.u64)) (BitVec (IntKind.bits IntKind.u64)) (@instHAndOfAndOp (BitVec (IntKind.bits IntKind.u64)) (@BitVec.instAndOp (IntKind.bits IntKind.u64))) (BitVec.ofInt 64 (gI l 0)) (BitVec.ofInt (IntKind.bits IntKind.u64) 6148914691236517205))):Nat):Int)))) 4)) (BitVec.ofInt (IntKind.bits IntKind.u64) 3689348814741910323))):Nat):Int))+(wr IntKind.u64 (((@BitVec.toNat 64 (@HAnd.hAnd (BitVec (IntKind.bits IntKind.u64)) (BitVec (IntKind.bits IntKind.u64)) (BitVec (IntKind.bits IntKind.u64)) (@instHAndOfAndOp (BitVec (IntKind.bits IntKind.u64)) (@BitVec.instAndOp (IntKind.bits IntKind.u64))) (BitVec.ofInt 64 (wr IntKind.u64 ((wr IntKind.u64 (((@BitVec.toNat 64 (@HAnd.hAnd (BitVec (IntKind.bits IntKind.u64)) (BitVec (IntKind.bits IntKind.u64)) (BitVec (IntKind.bits IntKind.u64)) (@instHAndOfAndOp (BitVec (IntKind.bits IntKind.u64)) (@BitVec.instAndOp (IntKind.bits IntKind.u64))) (BitVec.ofInt 64 (Int.fdiv (gI l 0) 2)) (BitVec.ofInt (IntKind.bits IntKind.u64) 6148914691236517205))):Nat):Int))+(wr IntKind.u64 (((@BitVec.toNat 64 (@HAnd.hAnd (BitVec (IntKind.bits IntKind.u64)) (BitVec (IntKind.bits IntKind.u64)) (BitVec (IntKind.bits IntKind.u64)) (@instHAndOfAndOp (BitVec (IntKind.bits IntKind.u64)) (@BitVec.instAndOp (IntKind.bits IntKind.u64))) (BitVec.ofInt 64 (gI l 0)) (BitVec.ofInt (IntKind.bits IntKind.u64) 6148914691236517205))):Nat):Int))))) (BitVec.ofInt (IntKind.bits IntKind.u64) 3689348814741910323))):Nat):Int)))) 16)+(wr IntKind.u64 ((wr IntKind.u64 (((@BitVec.toNat 64 (@HAnd.hAnd (BitVec (IntKind.bits IntKind.u64)) (BitVec (IntKind.bits IntKind.u64)) (BitVec (IntKind.bits IntKind.u64)) (@instHAndOfAndOp (BitVec (IntKind.bits IntKind.u64)) (@BitVec.instAndOp (IntKind.bits IntKind.u64))) (BitVec.ofInt 64 (Int.fdiv (wr IntKind.u64 ((wr IntKind.u64 (((@BitVec.toNat 64 (@HAnd.hAnd (BitVec (IntKind.bits IntKind.u64)) (BitVec (IntKind.bits IntKind.u64)) (BitVec (IntKind.bits IntKind.u64)) (@instHAndOfAndOp (BitVec (IntKind.bits IntKind.u64)) (@BitVec.instAndOp (IntKind.bits IntKind.u64))) (BitVec.ofInt 64 (Int.fdiv (gI l 0) 2)) (BitVec.ofInt (IntKind.bits IntKind.u64) 6148914691236517205))):Nat):Int))+(wr IntKind.u64 (((@BitVec.toNat 64 (@HAnd.hAnd (BitVec (IntKind.bits IntKind.u64)) (BitVec (IntKind.bits IntKind.u64)) (BitVec (IntKind.bits IntKind.u64)) (@instHAndOfAndOp (BitVec (IntKind.bits IntKind.u64)) (@BitVec.instAndOp (IntKind.bits IntKind.u64))) (BitVec.ofInt 64 (gI l 0)) (BitVec.ofInt (IntKind.bits IntKind.u64) 6148914691236517205))):Nat):Int)))) 4)) (BitVec.ofInt (IntKind.bits IntKind.u64) 3689348814741910323))):Nat):Int))+(wr IntKind.u64 (((@BitVec.toNat 64 (@HAnd.hAnd (BitVec (IntKind.bits IntKind.u64)) (BitVec (IntKind.bits IntKind.u64)) (BitVec (IntKind.bits IntKind.u64)) (@instHAndOfAndOp (BitVec (IntKind.bits IntKind.u64)) (@BitVec.instAndOp (IntKind.bits IntKind.u64))) (BitVec.ofInt 64 (wr IntKind.u64 ((wr IntKind.u64 (((@BitVec.toNat 64 (@HAnd.hAnd (BitVec (IntKind.bits IntKind.u64)) (BitVec (IntKind.bits IntKind.u64)) (BitVec (IntKind.bits IntKind.u64)) (@instHAndOfAndOp (BitVec (IntKind.bits IntKind.u64)) (@BitVec.instAndOp (IntKind.bits IntKind.u64))) (BitVec.ofInt 64 (Int.fdiv (gI l 0) 2)) (BitVec.ofInt (IntKind.bits IntKind.u64) 6148914691236517205))):Nat):Int))+(wr IntKind.u64 (((@BitVec.toNat 64 (@HAnd.hAnd (BitVec (IntKind.bits IntKind.u64)) (BitVec (IntKind.bits IntKind.u64)) (BitVec (IntKind.bits IntKind.u64)) (@instHAndOfAndOp (BitVec (IntKind.bits IntKind.u64)) (@BitVec.instAndOp (IntKind.bits IntKind.u64))) (BitVec.ofInt 64 (gI l 0)) (BitVec.ofInt (IntKind.bits IntKind.u64) 6148914691236517205))):Nat):Int))))) (BitVec.ofInt (IntKind.bits IntKind.u64) 3689348814741910323))):Nat):Int))))))) (BitVec.ofInt (IntKind.bits IntKind.u64) 1085102592571150095))):Nat):Int)) 256)))+(Int.fdiv (wr IntKind.u64 ((wr IntKind.u64 (((@BitVec.toNat 64 (@HAnd.hAnd (BitVec (IntKind.bits IntKind.u64)) (BitVec (IntKind.bits IntKind.u64)) (BitVec (IntKind.bits IntKind.u64)) (@instHAndOfAndOp (BitVec (IntKind.bits IntKind.u64)) (@BitVec.instAndOp (IntKind.bits IntKind.u64))) (BitVec.ofInt 64 (wr IntKind.u64 ((Int.fdiv (wr IntKind.u64 ((wr IntKind.u64 (((@BitVec.toNat 64 (@HAnd.hAnd (BitVec (IntKind.bits IntKind.u64)) (BitVec (IntKind.bits IntKind.u64)) (BitVec (IntKind.bits IntKind.u64)) (@instHAndOfAndOp (BitVec (IntKind.bits IntKind.u64)) (@BitVec.instAndOp (IntKind.bits IntKind.u64))) (BitVec.ofInt 64 (Int.fdiv (wr IntKind.u64 ((wr IntKind.u64 (((@BitVec.toNat 64 (@HAnd.hAnd (BitVec (IntKind.bits IntKind.u64)) (BitVec (IntKind.bits IntKind.u64)) (BitVec (IntKind.bits IntKind.u64)) (@instHAndOfAndOp (BitVec (IntKind.bits IntKind.u64)) (@BitVec.instAndOp (IntKind.bits IntKind.u64))) (BitVec.ofInt 64 (Int.fdiv (gI l 0) 2)) (BitVec.ofInt (IntKind.bits IntKind.u64) 6148914691236517205))):Nat):Int))+(wr IntKind.u64 (((@BitVec.toNat 64 (@HAnd.hAnd (BitVec (IntKind.bits IntKind.u64)) (BitVec (IntKind.bits IntKind.u64)) (BitVec (IntKind.bits IntKind.u64)) (@instHAndOfAndOp (BitVec (IntKind.bits IntKind.u64)) (@BitVec.instAndOp (IntKind.bits IntKind.u64))) (BitVec.ofInt 64 (gI l 0)) (BitVec.ofInt (IntKind.bits IntKind.u64) 6148914691236517205))):Nat):Int)))) 4)) (BitVec.ofInt (IntKind.bits IntKind.u64) 3689348814741910323))):Nat):Int))+(wr IntKind.u64 (((@BitVec.toNat 64 (@HAnd.hAnd (BitVec (IntKind.bits IntKind.u64)) (BitVec (IntKind.bits IntKind.u64)) (BitVec (IntKind.bits IntKind.u64)) (@instHAndOfAndOp (BitVec (IntKind.bits IntKind.u64)) (@BitVec.instAndOp (IntKind.bits IntKind.u64))) (BitVec.ofInt 64 (wr IntKind.u64 ((wr IntKind.u64 (((@BitVec.toNat 64 (@HAnd.hAnd (BitVec (IntKind.bits IntKind.u64)) (BitVec (IntKind.bits IntKind.u64)) (BitVec (IntKind.bits IntKind.u64)) (@instHAndOfAndOp (BitVec (IntKind.bits IntKind.u64)) (@BitVec.instAndOp (IntKind.bits IntKind.u64))) (BitVec.ofInt 64 (Int.fdiv (gI l 0) 2)) (BitVec.ofInt (IntKind.bits IntKind.u64) 6148914691236517205))):Nat):Int))+(wr IntKind.u64 (((@BitVec.toNat 64 (@HAnd.hAnd (BitVec (IntKind.bits IntKind.u64)) (BitVec (IntKind.bits IntKind.u64)) (BitVec (IntKind.bits IntKind.u64)) (@instHAndOfAndOp (BitVec (IntKind.bits IntKind.u64)) (@BitVec.instAndOp (IntKind.bits IntKind.u64))) (BitVec.ofInt 64 (gI l 0)) (BitVec.ofInt (IntKind.bits IntKind.u64) 6148914691236517205))):Nat):Int))))) (BitVec.ofInt (IntKind.bits IntKind.u64) 3689348814741910323))):Nat):Int)))) 16)+(wr IntKind.u64 ((wr IntKind.u64 (((@BitVec.toNat 64 (@HAnd.hAnd (BitVec (IntKind.bits IntKind.u64)) (BitVec (IntKind.bits IntKind.u64)) (BitVec (IntKind.bits IntKind.u64)) (@instHAndOfAndOp (BitVec (IntKind.bits IntKind.u64)) (@BitVec.instAndOp (IntKind.bits IntKind.u64))) (BitVec.ofInt 64 (Int.fdiv (wr IntKind.u64 ((wr IntKind.u64 (((@BitVec.toNat 64 (@HAnd.hAnd (BitVec (IntKind.bits IntKind.u64)) (BitVec (IntKind.bits IntKind.u64)) (BitVec (IntKind.bits IntKind.u64)) (@instHAndOfAndOp (BitVec (IntKind.bits IntKind.u64)) (@BitVec.instAndOp (IntKind.bits IntKind.u64))) (BitVec.ofInt 64 (Int.fdiv (gI l 0) 2)) (BitVec.ofInt (IntKind.bits IntKind.u64) 6148914691236517205))):Nat):Int))+(wr IntKind.u64 (((@BitVec.toNat 64 (@HAnd.hAnd (BitVec (IntKind.bits IntKind.u64)) (BitVec (IntKind.bits IntKind.u64)) (BitVec (IntKind.bits IntKind.u64)) (@instHAndOfAndOp (BitVec (IntKind.bits IntKind.u64)) (@BitVec.instAndOp (IntKind.bits IntKind.u64))) (BitVec.ofInt 64 (gI l 0)) (BitVec.ofInt (IntKind.bits IntKind.u64) 6148914691236517205))):Nat):Int)))) 4)) (BitVec.ofInt (IntKind.bits IntKind.u64) 3689348814741910323))):Nat):Int))+(wr IntKind.u64 (((@BitVec.toNat 64 (@HAnd.hAnd (BitVec (IntKind.bits IntKind.u64)) (BitVec (IntKind.bits IntKind.u64)) (BitVec (IntKind.bits IntKind.u64)) (@instHAndOfAndOp (BitVec (IntKind.bits IntKind.u64)) (@BitVec.instAndOp (IntKind.bits IntKind.u64))) (BitVec.ofInt 64 (wr IntKind.u64 ((wr IntKind.u64 (((@BitVec.toNat 64 (@HAnd.hAnd (BitVec (IntKind.bits IntKind.u64)) (BitVec (IntKind.bits IntKind.u64)) (BitVec (IntKind.bits IntKind.u64)) (@instHAndOfAndOp (BitVec (IntKind.bits IntKind.u64)) (@BitVec.instAndOp (IntKind.bits IntKind.u64))) (BitVec.ofInt 64 (Int.fdiv (gI l 0) 2)) (BitVec.ofInt (IntKind.bits IntKind.u64) 6148914691236517205))):Nat):Int))+(wr IntKind.u64 (((@BitVec.toNat 64 (@HAnd.hAnd (BitVec (IntKind.bits IntKind.u64)) (BitVec (IntKind.bits IntKind.u64)) (BitVec (IntKind.bits IntKind.u64)) (@instHAndOfAndOp (BitVec (IntKind.bits IntKind.u64)) (@BitVec.instAndOp (IntKind.bits IntKind.u64))) (BitVec.ofInt 64 (gI l 0)) (BitVec.ofInt (IntKind.bits IntKind.u64) 6148914691236517205))):Nat):Int))))) (BitVec.ofInt (IntKind.bits IntKind.u64) 3689348814741910323))):Nat):Int))))))) (BitVec.ofInt (IntKind.bits IntKind.u64) 1085102592571150095))):Nat):Int))+(Int.fdiv (wr IntKind.u64 (((@BitVec.toNat 64 (@HAnd.hAnd (BitVec (IntKind.bits IntKind.u64)) (BitVec (IntKind.bits IntKind.u64)) (BitVec (IntKind.bits IntKind.u64)) (@instHAndOfAndOp (BitVec (IntKind.bits IntKind.u64)) (@BitVec.instAndOp (IntKind.bits IntKind.u64))) (BitVec.ofInt 64 (wr IntKind.u64 ((Int.fdiv (wr IntKind.u64 ((wr IntKind.u64 (((@BitVec.toNat 64 (@HAnd.hAnd (BitVec (IntKind.bits IntKind.u64)) (BitVec (IntKind.bits IntKind.u64)) (BitVec (IntKind.bits IntKind.u64)) (@instHAndOfAndOp (BitVec (IntKind.bits IntKind.u64)) (@BitVec.instAndOp (IntKind.bits IntKind.u64))) (BitVec.ofInt 64 (Int.fdiv (wr IntKind.u64 ((wr IntKind.u64 (((@BitVec.toNat 64 (@HAnd.hAnd (BitVec (IntKind.bits IntKind.u64)) (BitVec (IntKind.bits IntKind.u64)) (BitVec (IntKind.bits IntKind.u64)) (@instHAndOfAndOp (BitVec (IntKind.bits IntKind.u64)) (@BitVec.instAndOp (IntKind.bits IntKind.u64))) (BitVec.ofInt 64 (Int.fdiv (gI l 0) 2)) (BitVec.ofInt (IntKind.bits IntKind.u64) 6148914691236517205))):Nat):Int))+(wr IntKind.u64 (((@BitVec.toNat 64 (@HAnd.hAnd (BitVec (IntKind.bits IntKind.u64)) (BitVec (IntKind.bits IntKind.u64)) (BitVec (IntKind.bits IntKind.u64)) (@instHAndOfAndOp (BitVec (IntKind.bits IntKind.u64)) (@BitVec.instAndOp (IntKind.bits IntKind.u64))) (BitVec.ofInt 64 (gI l 0)) (BitVec.ofInt (IntKind.bits IntKind.u64) 6148914691236517205))):Nat):Int)))) 4)) (BitVec.ofInt (IntKind.bits IntKind.u64) 3689348814741910323))):Nat):Int))+(wr IntKind.u64 (((@BitVec.toNat 64 (@HAnd.hAnd (BitVec (IntKind.bits IntKind.u64)) (BitVec (IntKind.bits IntKind.u64)) (BitVec (IntKind.bits IntKind.u64)) (@instHAndOfAndOp (BitVec (IntKind.bits IntKind.u64)) (@BitVec.instAndOp (IntKind.bits IntKind.u64))) (BitVec.ofInt 64 (wr IntKind.u64 ((wr IntKind.u64 (((@BitVec.toNat 64 (@HAnd.hAnd (BitVec (IntKind.bits IntKind.u64)) (BitVec (IntKind.bits IntKind.u64)) (BitVec (IntKind.bits IntKind.u64)) (@instHAndOfAndOp (BitVec (IntKind.bits IntKind.u64)) (@BitVec.instAndOp (IntKind.bits IntKind.u64))) (BitVec.ofInt 64 (Int.fdiv (gI l 0) 2)) (BitVec.ofInt (IntKind.bits IntKind.u64) 6148914691236517205))):Nat):Int))+(wr IntKind.u64 (((@BitVec.toNat 64 (@HAnd.hAnd (BitVec (IntKind.bits IntKind.u64)) (BitVec (IntKind.bits IntKind.u64)) (BitVec (IntKind.bits IntKind.u64)) (@instHAndOfAndOp (BitVec (IntKind.bits IntKind.u64)) (@BitVec.instAndOp (IntKind.bits IntKind.u64))) (BitVec.ofInt 64 (gI l 0)) (BitVec.ofInt (IntKind.bits IntKind.u64) 6148914691236517205))):Nat):Int))))) (BitVec.ofInt (IntKind.bits IntKind.u64) 3689348814741910323))):Nat):Int)))) 16)+(wr IntKind.u64 ((wr IntKind.u64 (((@BitVec.toNat 64 (@HAnd.hAnd (BitVec (IntKind.bits IntKind.u64)) (BitVec (IntKind.bits IntKind.u64)) (BitVec (IntKind.bits IntKind.u64)) (@instHAndOfAndOp (BitVec (IntKind.bits IntKind.u64)) (@BitVec.instAndOp (IntKind.bits IntKind.u64))) (BitVec.ofInt 64 (Int.fdiv (wr IntKind.u64 ((wr IntKind.u64 (((@BitVec.toNat 64 (@HAnd.hAnd (BitVec (IntKind.bits IntKind.u64)) (BitVec (IntKind.bits IntKind.u64)) (BitVec (IntKind.bits IntKind.u64)) (@instHAndOfAndOp (BitVec (IntKind.bits IntKind.u64)) (@BitVec.instAndOp (IntKind.bits IntKind.u64))) (BitVec.ofInt 64 (Int.fdiv (gI l 0) 2)) (BitVec.ofInt (IntKind.bits IntKind.u64) 6148914691236517205))):Nat):Int))+(wr IntKind.u64 (((@BitVec.toNat 64 (@HAnd.hAnd (BitVec (IntKind.bits IntKind.u64)) (BitVec (IntKind.bits IntKind.u64)) (BitVec (IntKind.bits IntKind.u64)) (@instHAndOfAndOp (BitVec (IntKind.bits IntKind.u64)) (@BitVec.instAndOp (IntKind.bits IntKind.u64))) (BitVec.ofInt 64 (gI l 0)) (BitVec.ofInt (IntKind.bits IntKind.u64) 6148914691236517205))):Nat):Int)))) 4)) (BitVec.ofInt (IntKind.bits IntKind.u64) 3689348814741910323))):Nat):Int))+(wr IntKind.u64 (((@BitVec.toNat 64 (@HAnd.hAnd (BitVec (IntKind.bits IntKind.u64)) (BitVec (IntKind.bits IntKind.u64)) (BitVec (IntKind.bits IntKind.u64)) (@instHAndOfAndOp (BitVec (IntKind.bits IntKind.u64)) (@BitVec.instAndOp (IntKind.bits IntKind.u64))) (BitVec.ofInt 64 (wr IntKind.u64 ((wr IntKind.u64 (((@BitVec.toNat 64 (@HAnd.hAnd (BitVec (IntKind.bits IntKind.u64)) (BitVec (IntKind.bits IntKind.u64)) (BitVec (IntKind.bits IntKind.u64)) (@instHAndOfAndOp (BitVec (IntKind.bits IntKind.u64)) (@BitVec.instAndOp (IntKind.bits IntKind.u64))) (BitVec.ofInt 64 (Int.fdiv (gI l 0) 2)) (BitVec.ofInt (IntKind.bits IntKind.u64) 6148914691236517205))):Nat):Int))+(wr IntKind.u64 (((@BitVec.toNat 64 (@HAnd.hAnd (BitVec (IntKind.bits IntKind.u64)) (BitVec (IntKind.bits IntKind.u64)) (BitVec (IntKind.bits IntKind.u64)) (@instHAndOfAndOp (BitVec (IntKind.bits IntKind.u64)) (@BitVec.instAndOp (IntKind.bits IntKind.u64))) (BitVec.ofInt 64 (gI l 0)) (BitVec.ofInt (IntKind.bits IntKind.u64) 6148914691236517205))):Nat):Int))))) (BitVec.ofInt (IntKind.bits IntKind.u64) 3689348814741910323))):Nat):Int))))))) (BitVec.ofInt (IntKind.bits IntKind.u64) 1085102592571150095))):Nat):Int)) 256))) 65536)))+(Int.fdiv (wr IntKind.u64 ((wr IntKind.u64 ((wr IntKind.u64 (((@BitVec.toNat 64 (@HAnd.hAnd (BitVec (IntKind.bits IntKind.u64)) (BitVec (IntKind.bits IntKind.u64)) (BitVec (IntKind.bits IntKind.u64)) (@instHAndOfAndOp (BitVec (IntKind.bits IntKind.u64)) (@BitVec.instAndOp (IntKind.bits IntKind.u64))) (BitVec.ofInt 64 (wr IntKind.u64 ((Int.fdiv (wr IntKind.u64 ((wr IntKind.u64 (((@BitVec.toNat 64 (@HAnd.hAnd (BitVec (IntKind.bits IntKind.u64)) (BitVec (IntKind.bits IntKind.u64)) (BitVec (IntKind.bits IntKind.u64)) (@instHAndOfAndOp (BitVec (IntKind.bits IntKind.u64)) (@BitVec.instAndOp (IntKind.bits IntKind.u64))) (BitVec.ofInt 64 (Int.fdiv (wr IntKind.u64 ((wr IntKind.u64 (((@BitVec.toNat 64 (@HAnd.hAnd (BitVec (IntKind.bits IntKind.u64)) (BitVec (IntKind.bits IntKind.u64)) (BitVec (IntKind.bits IntKind.u64)) (@instHAndOfAndOp (BitVec (IntKind.bits IntKind.u64)) (@BitVec.instAndOp (IntKind.bits IntKind.u64))) (BitVec.ofInt 64 (Int.fdiv (gI l 0) 2)) (BitVec.ofInt (IntKind.bits IntKind.u64) 6148914691236517205))):Nat):Int))+(wr IntKind.u64 (((@BitVec.toNat 64 (@HAnd.hAnd (BitVec (IntKind.bits IntKind.u64)) (BitVec (IntKind.bits IntKind.u64)) (BitVec (IntKind.bits IntKind.u64)) (@instHAndOfAndOp (BitVec (IntKind.bits IntKind.u64)) (@BitVec.instAndOp (IntKind.bits IntKind.u64))) (BitVec.ofInt 64 (gI l 0)) (BitVec.ofInt (IntKind.bits IntKind.u64) 6148914691236517205))):Nat):Int)))) 4)) (BitVec.ofInt (IntKind.bits IntKind.u64) 3689348814741910323))):Nat):Int))+(wr IntKind.u64 (((@BitVec.toNat 64 (@HAnd.hAnd (BitVec (IntKind.bits IntKind.u64)) (BitVec (IntKind.bits IntKind.u64)) (BitVec (IntKind.bits IntKind.u64)) (@instHAndOfAndOp (BitVec (IntKind.bits IntKind.u64)) (@BitVec.instAndOp (IntKind.bits IntKind.u64))) (BitVec.ofInt 64 (wr IntKind.u64 ((wr IntKind.u64 (((@BitVec.toNat 64 (@HAnd.hAnd (BitVec (IntKind.bits IntKind.u64)) (BitVec (IntKind.bits IntKind.u64)) (BitVec (IntKind.bits IntKind.u64)) (@instHAndOfAndOp (BitVec (IntKind.bits IntKind.u64)) (@BitVec.instAndOp (IntKind.bits IntKind.u64))) (BitVec.ofInt 64 (Int.fdiv (gI l 0) 2)) (BitVec.ofInt (IntKind.bits IntKind.u64) 6148914691236517205))):Nat):Int))+(wr IntKind.u64 (((@BitVec.toNat 64 (@HAnd.hAnd (BitVec (IntKind.bits IntKind.u64)) (BitVec (IntKind.bits IntKind.u64)) (BitVec (IntKind.bits IntKind.u64)) (@instHAndOfAndOp (BitVec (IntKind.bits IntKind.u64)) (@BitVec.instAndOp (IntKind.bits IntKind.u64))) (BitVec.ofInt 64 (gI l 0)) (BitVec.ofInt (IntKind.bits IntKind.u64) 6148914691236517205))):Nat):Int))))) (BitVec.ofInt (IntKind.bits IntKind.u64) 3689348814741910323))):Nat):Int)))) 16)+(wr IntKind.u64 ((wr IntKind.u64 (((@BitVec.toNat 64 (@HAnd.hAnd (BitVec (IntKind.bits IntKind.u64)) (BitVec (IntKind.bits IntKind.u64)) (BitVec (IntKind.bits IntKind.u64)) (@instHAndOfAndOp (BitVec (IntKind.bits IntKind.u64)) (@BitVec.instAndOp (IntKind.bits IntKind.u64))) (BitVec.ofInt 64 (Int.fdiv (wr IntKind.u64 ((wr IntKind.u64 (((@BitVec.toNat 64 (@HAnd.hAnd (BitVec (IntKind.bits IntKind.u64)) (BitVec (IntKind.bits IntKind.u64)) (BitVec (IntKind.bits IntKind.u64)) (@instHAndOfAndOp (BitVec (IntKind.bits IntKind.u64)) (@BitVec.instAndOp (IntKind.bits IntKind.u64))) (BitVec.ofInt 64 (Int.fdiv (gI l 0) 2)) (BitVec.ofInt (IntKind.bits IntKind.u64) 6148914691236517205))):Nat):Int))+(wr IntKind.u64 (((@BitVec.toNat 64 (@HAnd.hAnd (BitVec (IntKind.bits IntKind.u64)) (BitVec (IntKind.bits IntKind.u64)) (BitVec (IntKind.bits IntKind.u64)) (@instHAndOfAndOp (BitVec (IntKind.bits IntKind.u64)) (@BitVec.instAndOp (IntKind.bits IntKind.u64))) (BitVec.ofInt 64 (gI l 0)) (BitVec.ofInt (IntKind.bits IntKind.u64) 6148914691236517205))):Nat):Int)))) 4)) (BitVec.ofInt (IntKind.bits IntKind.u64) 3689348814741910323))):Nat):Int))+(wr IntKind.u64 (((@BitVec.toNat 64 (@HAnd.hAnd (BitVec (IntKind.bits IntKind.u64)) (BitVec (IntKind.bits IntKind.u64)) (BitVec (IntKind.bits IntKind.u64)) (@instHAndOfAndOp (BitVec (IntKind.bits IntKind.u64)) (@BitVec.instAndOp (IntKind.bits IntKind.u64))) (BitVec.ofInt 64 (wr IntKind.u64 ((wr IntKind.u64 (((@BitVec.toNat 64 (@HAnd.hAnd (BitVec (IntKind.bits IntKind.u64)) (BitVec (IntKind.bits IntKind.u64)) (BitVec (IntKind.bits IntKind.u64)) (@instHAndOfAndOp (BitVec (IntKind.bits IntKind.u64)) (@BitVec.instAndOp (IntKind.bits IntKind.u64))) (BitVec.ofInt 64 (Int.fdiv (gI l 0) 2)) (BitVec.ofInt (IntKind.bits IntKind.u64) 6148914691236517205))):Nat):Int))+(wr IntKind.u64 (((@BitVec.toNat 64 (@HAnd.hAnd (BitVec (IntKind.bits IntKind.u64)) (BitVec (IntKind.bits IntKind.u64)) (BitVec (IntKind.bits IntKind.u64)) (@instHAndOfAndOp (BitVec (IntKind.bits IntKind.u64)) (@BitVec.instAndOp (IntKind.bits IntKind.u64))) (BitVec.ofInt 64 (gI l 0)) (BitVec.ofInt (IntKind.bits IntKind.u64) 6148914691236517205))):Nat):Int))))) (BitVec.ofInt (IntKind.bits IntKind.u64) 3689348814741910323))):Nat):Int))))))) (BitVec.ofInt (IntKind.bits IntKind.u64) 1085102592571150095))):Nat):Int))+(Int.fdiv (wr IntKind.u64 (((@BitVec.toNat 64 (@HAnd.hAnd (BitVec (IntKind.bits IntKind.u64)) (BitVec (IntKind.bits IntKind.u64)) (BitVec (IntKind.bits IntKind.u64)) (@instHAndOfAndOp (BitVec (IntKind.bits IntKind.u64)) (@BitVec.instAndOp (IntKind.bits IntKind.u64))) (BitVec.ofInt 64 (wr IntKind.u64 ((Int.fdiv (wr IntKind.u64 ((wr IntKind.u64 (((@BitVec.toNat 64 (@HAnd.hAnd (BitVec (IntKind.bits IntKind.u64)) (BitVec (IntKind.bits IntKind.u64)) (BitVec (IntKind.bits IntKind.u64)) (@instHAndOfAndOp (BitVec (IntKind.bits IntKind.u64)) (@BitVec.instAndOp (IntKind.bits IntKind.u64))) (BitVec.ofInt 64 (Int.fdiv (wr IntKind.u64 ((wr IntKind.u64 (((@BitVec.toNat 64 (@HAnd.hAnd (BitVec (IntKind.bits IntKind.u64)) (BitVec (IntKind.bits IntKind.u64)) (BitVec (IntKind.bits IntKind.u64)) (@instHAndOfAndOp (BitVec (IntKind.bits IntKind.u64)) (@BitVec.instAndOp (IntKind.bits IntKind.u64))) (BitVec.ofInt 64 (Int.fdiv (gI l 0) 2)) (BitVec.ofInt (IntKind.bits IntKind.u64) 6148914691236517205))):Nat):Int))+(wr IntKind.u64 (((@BitVec.toNat 64 (@HAnd.hAnd (BitVec (IntKind.bits IntKind.u64)) (BitVec (IntKind.bits IntKind.u64)) (BitVec (IntKind.bits IntKind.u64)) (@instHAndOfAndOp (BitVec (IntKind.bits IntKind.u64)) (@BitVec.instAndOp (IntKind.bits IntKind.u64))) (BitVec.ofInt 64 (gI l 0)) (BitVec.ofInt (IntKind.bits IntKind.u64) 6148914691236517205))):Nat):Int)))) 4)) (BitVec.ofInt (IntKind.bits IntKind.u64) 3689348814741910323))):Nat):Int))+(wr IntKind.u64 (((@BitVec.toNat 64 (@HAnd.hAnd (BitVec (IntKind.bits IntKind.u64)) (BitVec (IntKind.bits IntKind.u64)) (BitVec (IntKind.bits IntKind.u64)) (@instHAndOfAndOp (BitVec (IntKind.bits IntKind.u64)) (@BitVec.instAndOp (IntKind.bits IntKind.u64))) (BitVec.ofInt 64 (wr IntKind.u64 ((wr IntKind.u64 (((@BitVec.toNat 64 (@HAnd.hAnd (BitVec (IntKind.bits IntKind.u64)) (BitVec (IntKind.bits IntKind.u64)) (BitVec (IntKind.bits IntKind.u64)) (@instHAndOfAndOp (BitVec (IntKind.bits IntKind.u64)) (@BitVec.instAndOp (IntKind.bits IntKind.u64))) (BitVec.ofInt 64 (Int.fdiv (gI l 0) 2)) (BitVec.ofInt (IntKind.bits IntKind.u64) 6148914691236517205))):Nat):Int))+(wr IntKind.u64 (((@BitVec.toNat 64 (@HAnd.hAnd (BitVec (IntKind.bits IntKind.u64)) (BitVec (IntKind.bits IntKind.u64)) (BitVec (IntKind.bits IntKind.u64)) (@instHAndOfAndOp (BitVec (IntKind.bits IntKind.u64)) (@BitVec.instAndOp (IntKind.bits IntKind.u64))) (BitVec.ofInt 64 (gI l 0)) (BitVec.ofInt (IntKind.bits IntKind.u64) 6148914691236517205))):Nat):Int))))) (BitVec.ofInt (IntKind.bits IntKind.u64) 3689348814741910323))):Nat):Int)))) 16)+(wr IntKind.u64 ((wr IntKind.u64 (((@BitVec.toNat 64 (@HAnd.hAnd (BitVec (IntKind.bits IntKind.u64)) (BitVec (IntKind.bits IntKind.u64)) (BitVec (IntKind.bits IntKind.u64)) (@instHAndOfAndOp (BitVec (IntKind.bits IntKind.u64)) (@BitVec.instAndOp (IntKind.bits IntKind.u64))) (BitVec.ofInt 64 (Int.fdiv (wr IntKind.u64 ((wr IntKind.u64 (((@BitVec.toNat 64 (@HAnd.hAnd (BitVec (IntKind.bits IntKind.u64)) (BitVec (IntKind.bits IntKind.u64)) (BitVec (IntKind.bits IntKind.u64)) (@instHAndOfAndOp (BitVec (IntKind.bits IntKind.u64)) (@BitVec.instAndOp (IntKind.bits IntKind.u64))) (BitVec.ofInt 64 (Int.fdiv (gI l 0) 2)) (BitVec.ofInt (IntKind.bits IntKind.u64) 6148914691236517205))):Nat):Int))+(wr IntKind.u64 (((@BitVec.toNat 64 (@HAnd.hAnd (BitVec (IntKind.bits IntKind.u64)) (BitVec (IntKind.bits IntKind.u64)) (BitVec (IntKind.bits IntKind.u64)) (@instHAndOfAndOp (BitVec (IntKind.bits IntKind.u64)) (@BitVec.instAndOp (IntKind.bits IntKind.u64))) (BitVec.ofInt 64 (gI l 0)) (BitVec.ofInt (IntKind.bits IntKind.u64) 6148914691236517205))):Nat):Int)))) 4)) (BitVec.ofInt (IntKind.bits IntKind.u64) 3689348814741910323))):Nat):Int))+(wr IntKind.u64 (((@BitVec.toNat 64 (@HAnd.hAnd (BitVec (IntKind.bits IntKind.u64)) (BitVec (IntKind.bits IntKind.u64)) (BitVec (IntKind.bits IntKind.u64)) (@instHAndOfAndOp (BitVec (IntKind.bits IntKind.u64)) (@BitVec.instAndOp (IntKind.bits IntKind.u64))) (BitVec.ofInt 64 (wr IntKind.u64 ((wr IntKind.u64 (((@BitVec.toNat 64 (@HAnd.hAnd (BitVec (IntKind.bits IntKind.u64)) (BitVec (IntKind.bits IntKind.u64)) (BitVec (IntKind.bits IntKind.u64)) (@instHAndOfAndOp (BitVec (IntKind.bits IntKind.u64)) (@BitVec.instAndOp (IntKind.bits IntKind.u64))) (BitVec.ofInt 64 (Int.fdiv (gI l 0) 2)) (BitVec.ofInt (IntKind.bits IntKind.u64) 6148914691236517205))):Nat):Int))+(wr IntKind.u64 (((@BitVec.toNat 64 (@HAnd.hAnd (BitVec (IntKind.bits IntKind.u64)) (BitVec (IntKind.bits IntKind.u64)) (BitVec (IntKind.bits IntKind.u64)) (@instHAndOfAndOp (BitVec (IntKind.bits IntKind.u64)) (@BitVec.instAndOp (IntKind.bits IntKind.u64))) (BitVec.ofInt 64 (gI l 0)) (BitVec.ofInt (IntKind.bits IntKind.u64) 6148914691236517205))):Nat):Int))))) (BitVec.ofInt (IntKind.bits IntKind.u64) 3689348814741910323))):Nat):Int))))))) (BitVec.ofInt (IntKind.bits IntKind.u64) 1085102592571150095))):Nat):Int)) 256)))+(Int.fdiv (wr IntKind.u64 ((wr IntKind.u64 (((@BitVec.toNat 64 (@HAnd.hAnd (BitVec (IntKind.bits IntKind.u64)) (BitVec (IntKind.bits IntKind.u64)) (BitVec (IntKind.bits IntKind.u64)) (@instHAndOfAndOp (BitVec (IntKind.bits IntKind.u64)) (@BitVec.instAndOp (IntKind.bits IntKind.u64))) (BitVec.ofInt 64 (wr IntKind.u64 ((Int.fdiv (wr IntKind.u64 ((wr IntKind.u64 (((@BitVec.toNat 64 (@HAnd.hAnd (BitVec (IntKind.bits IntKind.u64)) (BitVec (IntKind.bits IntKind.u64)) (BitVec (IntKind.bits IntKind.u64)) (@instHAndOfAndOp (BitVec (IntKind.bits IntKind.u64)) (@BitVec.instAndOp (IntKind.bits IntKind.u64))) (BitVec.ofInt 64 (Int.fdiv (wr IntKind.u64 ((wr IntKind.u64 (((@BitVec.toNat 64 (@HAnd.hAnd (BitVec (IntKind.bits IntKind.u64)) (BitVec (IntKind.bits IntKind.u64)) (BitVec (IntKind.bits IntKind.u64)) (@instHAndOfAndOp (BitVec (IntKind.bits IntKind.u64)) (@BitVec.instAndOp (IntKind.bits IntKind.u64))) (BitVec.ofInt 64 (Int.fdiv (gI l 0) 2)) (BitVec.ofInt (IntKind.bits IntKind.u64) 6148914691236517205))):Nat):Int))+(wr IntKind.u64 (((@BitVec.toNat 64 (@HAnd.hAnd (BitVec (IntKind.bits IntKind.u64)) (BitVec (IntKind.bits IntKind.u64)) (BitVec (IntKind.bits IntKind.u64)) (@instHAndOfAndOp (BitVec (IntKind.bits IntKind.u64)) (@BitVec.instAndOp (IntKind.bits IntKind.u64))) (BitVec.ofInt 64 (gI l 0)) (BitVec.ofInt (IntKind.bits IntKind.u64) 6148914691236517205))):Nat):Int)))) 4)) (BitVec.ofInt (IntKind.bits IntKind.u64) 3689348814741910323))):Nat):Int))+(wr IntKind.u64 (((@BitVec.toNat 64 (@HAnd.hAnd (BitVec (IntKind.bits IntKind.u64)) (BitVec (IntKind.bits IntKind.u64)) (BitVec (IntKind.bits IntKind.u64)) (@instHAndOfAndOp (BitVec (IntKind.bits IntKind.u64)) (@BitVec.instAndOp (IntKind.bits IntKind.u64))) (BitVec.ofInt 64 (wr IntKind.u64 ((wr IntKind.u64 (((@BitVec.toNat 64 (@HAnd.hAnd (BitVec (IntKind.bits IntKind.u64)) (BitVec (IntKind.bits IntKind.u64)) (BitVec (IntKind.bits IntKind.u64)) (@instHAndOfAndOp (BitVec (IntKind.bits IntKind.u64)) (@BitVec.instAndOp (IntKind.bits IntKind.u64))) (BitVec.ofInt 64 (Int.fdiv (gI l 0) 2)) (BitVec.ofInt (IntKind.bits IntKind.u64) 6148914691236517205))):Nat):Int))+(wr IntKind.u64 (((@BitVec.toNat 64 (@HAnd.hAnd (BitVec (IntKind.bits IntKind.u64)) (BitVec (IntKind.bits IntKind.u64)) (BitVec (IntKind.bits IntKind.u64)) (@instHAndOfAndOp (BitVec (IntKind.bits IntKind.u64)) (@BitVec.instAndOp (IntKind.bits IntKind.u64))) (BitVec.ofInt 64 (gI l 0)) (BitVec.ofInt (IntKind.bits IntKind.u64) 6148914691236517205))):Nat):Int))))) (BitVec.ofInt (IntKind.bits IntKind.u64) 3689348814741910323))):Nat):Int)))) 16)+(wr IntKind.u64 ((wr IntKind.u64 (((@BitVec.toNat 64 (@HAnd.hAnd (BitVec (IntKind.bits IntKind.u64)) (BitVec (IntKind.bits IntKind.u64)) (BitVec (IntKind.bits IntKind.u64)) (@instHAndOfAndOp (BitVec (IntKind.bits IntKind.u64)) (@BitVec.instAndOp (IntKind.bits IntKind.u64))) (BitVec.ofInt 64 (Int.fdiv (wr IntKind.u64 ((wr IntKind.u64 (((@BitVec.toNat 64 (@HAnd.hAnd (BitVec (IntKind.bits IntKind.u64)) (BitVec (IntKind.bits IntKind.u64)) (BitVec (IntKind.bits IntKind.u64)) (@instHAndOfAndOp (BitVec (IntKind.bits IntKind.u64)) (@BitVec.instAndOp (IntKind.bits IntKind.u64))) (BitVec.ofInt 64 (Int.fdiv (gI l 0) 2)) (BitVec.ofInt (IntKind.bits IntKind.u64) 6148914691236517205))):Nat):Int))+(wr IntKind.u64 (((@BitVec.toNat 64 (@HAnd.hAnd (BitVec (IntKind.bits IntKind.u64)) (BitVec (IntKind.bits IntKind.u64)) (BitVec (IntKind.bits IntKind.u64)) (@instHAndOfAndOp (BitVec (IntKind.bits IntKind.u64)) (@BitVec.instAndOp (IntKind.bits IntKind.u64))) (BitVec.ofInt 64 (gI l 0)) (BitVec.ofInt (IntKind.bits IntKind.u64) 6148914691236517205))):Nat):Int)))) 4)) (BitVec.ofInt (IntKind.bits IntKind.u64) 3689348814741910323))):Nat):Int))+(wr IntKind.u64 (((@BitVec.toNat 64 (@HAnd.hAnd (BitVec (IntKind.bits IntKind.u64)) (BitVec (IntKind.bits IntKind.u64)) (BitVec (IntKind.bits IntKind.u64)) (@instHAndOfAndOp (BitVec (IntKind.bits IntKind.u64)) (@BitVec.instAndOp (IntKind.bits IntKind.u64))) (BitVec.ofInt 64 (wr IntKind.u64 ((wr IntKind.u64 (((@BitVec.toNat 64 (@HAnd.hAnd (BitVec (IntKind.bits IntKind.u64)) (BitVec (IntKind.bits IntKind.u64)) (BitVec (IntKind.bits IntKind.u64)) (@instHAndOfAndOp (BitVec (IntKind.bits IntKind.u64)) (@BitVec.instAndOp (IntKind.bits IntKind.u64))) (BitVec.ofInt 64 (Int.fdiv (gI l 0) 2)) (BitVec.ofInt (IntKind.bits IntKind.u64) 6148914691236517205))):Nat):Int))+(wr IntKind.u64 (((@BitVec.toNat 64 (@HAnd.hAnd (BitVec (IntKind.bits IntKind.u64)) (BitVec (IntKind.bits IntKind.u64)) (BitVec (IntKind.bits IntKind.u64)) (@instHAndOfAndOp (BitVec (IntKind.bits IntKind.u64)) (@BitVec.instAndOp (IntKind.bits IntKind.u64))) (BitVec.ofInt 64 (gI l 0)) (BitVec.ofInt (IntKind.bits IntKind.u64) 6148914691236517205))):Nat):Int))))) (BitVec.ofInt (IntKind.bits IntKind.u64) 3689348814741910323))):Nat):Int))))))) (BitVec.ofInt (IntKind.bits IntKind.u64) 1085102592571150095))):Nat):Int))+(Int.fdiv (wr IntKind.u64 (((@BitVec.toNat 64 (@HAnd.hAnd (BitVec (IntKind.bits IntKind.u64)) (BitVec (IntKind.bits IntKind.u64)) (BitVec (IntKind.bits IntKind.u64)) (@instHAndOfAndOp (BitVec (IntKind.bits IntKind.u64)) (@BitVec.instAndOp (IntKind.bits IntKind.u64))) (BitVec.ofInt 64 (wr IntKind.u64 ((Int.fdiv (wr IntKind.u64 ((wr IntKind.u64 (((@BitVec.toNat 64 (@HAnd.hAnd (BitVec (IntKind.bits IntKind.u64)) (BitVec (IntKind.bits IntKind.u64)) (BitVec (IntKind.bits IntKind.u64)) (@instHAndOfAndOp (BitVec (IntKind.bits IntKind.u64)) (@BitVec.instAndOp (IntKind.bits IntKind.u64))) (BitVec.ofInt 64 (Int.fdiv (wr IntKind.u64 ((wr IntKind.u64 (((@BitVec.toNat 64 (@HAnd.hAnd (BitVec (IntKind.bits IntKind.u64)) (BitVec (IntKind.bits IntKind.u64)) (BitVec (IntKind.bits IntKind.u64)) (@instHAndOfAndOp (BitVec (IntKind.bits IntKind.u64)) (@BitVec.instAndOp (IntKind.bits IntKind.u64))) (BitVec.ofInt 64 (Int.fdiv (gI l 0) 2)) (BitVec.ofInt (IntKind.bits IntKind.u64) 6148914691236517205))):Nat):Int))+(wr IntKind.u64 (((@BitVec.toNat 64 (@HAnd.hAnd (BitVec (IntKind.bits IntKind.u64)) (BitVec (IntKind.bits IntKind.u64)) (BitVec (IntKind.bits IntKind.u64)) (@instHAndOfAndOp (BitVec (IntKind.bits IntKind.u64)) (@BitVec.instAndOp (IntKind.bits IntKind.u64))) (BitVec.ofInt 64 (gI l 0)) (BitVec.ofInt (IntKind.bits IntKind.u64) 6148914691236517205))):Nat):Int)))) 4)) (BitVec.ofInt (IntKind.bits IntKind.u64) 3689348814741910323))):Nat):Int))+(wr IntKind.u64 (((@BitVec.toNat 64 (@HAnd.hAnd (BitVec (IntKind.bits IntKind.u64)) (BitVec (IntKind.bits IntKind.u64)) (BitVec (IntKind.bits IntKind.u64)) (@instHAndOfAndOp (BitVec (IntKind.bits IntKind.u64)) (@BitVec.instAndOp (IntKind.bits IntKind.u64))) (BitVec.ofInt 64 (wr IntKind.u64 ((wr IntKind.u64 (((@BitVec.toNat 64 (@HAnd.hAnd (BitVec (IntKind.bits IntKind.u64)) (BitVec (IntKind.bits IntKind.u64)) (BitVec (IntKind.bits IntKind.u64)) (@instHAndOfAndOp (BitVec (IntKind.bits IntKind.u64)) (@BitVec.instAndOp (IntKind.bits IntKind.u64))) (BitVec.ofInt 64 (Int.fdiv (gI l 0) 2)) (BitVec.ofInt (IntKind.bits IntKind.u64) 6148914691236517205))):Nat):Int))+(wr IntKind.u64 (((@BitVec.toNat 64 (@HAnd.hAnd (BitVec (IntKind.bits IntKind.u64)) (BitVec (IntKind.bits IntKind.u64)) (BitVec (IntKind.bits IntKind.u64)) (@instHAndOfAndOp (BitVec (IntKind.bits IntKind.u64)) (@BitVec.instAndOp (IntKind.bits IntKind.u64))) (BitVec.ofInt 64 (gI l 0)) (BitVec.ofInt (IntKind.bits IntKind.u64) 6148914691236517205))):Nat):Int))))) (BitVec.ofInt (IntKind.bits IntKind.u64) 3689348814741910323))):Nat):Int)))) 16)+(wr IntKind.u64 ((wr IntKind.u64 (((@BitVec.toNat 64 (@HAnd.hAnd (BitVec (IntKind.bits IntKind.u64)) (BitVec (IntKind.bits IntKind.u64)) (BitVec (IntKind.bits IntKind.u64)) (@instHAndOfAndOp (BitVec (IntKind.bits IntKind.u64)) (@BitVec.instAndOp (IntKind.bits IntKind.u64))) (BitVec.ofInt 64 (Int.fdiv (wr IntKind.u64 ((wr IntKind.u64 (((@BitVec.toNat 64 (@HAnd.hAnd (BitVec (IntKind.bits IntKind.u64)) (BitVec (IntKind.bits IntKind.u64)) (BitVec (IntKind.bits IntKind.u64)) (@instHAndOfAndOp (BitVec (IntKind.bits IntKind.u64)) (@BitVec.instAndOp (IntKind.bits IntKind.u64))) (BitVec.ofInt 64 (Int.fdiv (gI l 0) 2)) (BitVec.ofInt (IntKind.bits IntKind.u64) 6148914691236517205))):Nat):Int))+(wr IntKind.u64 (((@BitVec.toNat 64 (@HAnd.hAnd (BitVec (IntKind.bits IntKind.u64)) (BitVec (IntKind.bits IntKind.u64)) (BitVec (IntKind.bits IntKind.u64)) (@instHAndOfAndOp (BitVec (IntKind.bits IntKind.u64)) (@BitVec.instAndOp (IntKind.bits IntKind.u64))) (BitVec.ofInt 64 (gI l 0)) (BitVec.ofInt (IntKind.bits IntKind.u64) 6148914691236517205))):Nat):Int)))) 4)) (BitVec.ofInt (IntKind.bits IntKind.u64) 3689348814741910323))):Nat):Int))+(wr IntKind.u64 (((@BitVec.toNat 64 (@HAnd.hAnd (BitVec (IntKind.bits IntKind.u64)) (BitVec (IntKind.bits IntKind.u64)) (BitVec (IntKind.bits IntKind.u64)) (@instHAndOfAndOp (BitVec (IntKind.bits IntKind.u64)) (@BitVec.instAndOp (IntKind.bits IntKind.u64))) (BitVec.ofInt 64 (wr IntKind.u64 ((wr IntKind.u64 (((@BitVec.toNat 64 (@HAnd.hAnd (BitVec (IntKind.bits IntKind.u64)) (BitVec (IntKind.bits IntKind.u64)) (BitVec (IntKind.bits IntKind.u64)) (@instHAndOfAndOp (BitVec (IntKind.bits IntKind.u64)) (@BitVec.instAndOp (IntKind.bits IntKind.u64))) (BitVec.ofInt 64 (Int.fdiv (gI l 0) 2)) (BitVec.ofInt (IntKind.bits IntKind.u64) 6148914691236517205))):Nat):Int))+(wr IntKind.u64 (((@BitVec.toNat 64 (@HAnd.hAnd (BitVec (IntKind.bits IntKind.u64)) (BitVec (IntKind.bits IntKind.u64)) (BitVec (IntKind.bits IntKind.u64)) (@instHAndOfAndOp (BitVec (IntKind.bits IntKind.u64)) (@BitVec.instAndOp (IntKind.bits IntKind.u64))) (BitVec.ofInt 64 (gI l 0)) (BitVec.ofInt (IntKind.bits IntKind.u64) 6148914691236517205))):Nat):Int))))) (BitVec.ofInt (IntKind.bits IntKind.u64) 3689348814741910323))):Nat):Int))))))) (BitVec.ofInt (IntKind.bits IntKind.u64) 1085102592571150095))):Nat):Int)) 256))) 65536))) 4294967296))))) (BitVec.ofInt (IntKind.bits .i64) 127))):Nat):Int))]
theorem F304.eq:FEq F304.O 178 F304.ps F304.sh F304:=by intro τ l κ;kernel_rfl
def F304.E:Ent P:=mkF F304.eq
def F295.ps:List PV2:=[(pK IntKind.u64)]
def F295.sh:List PA:=[(PA.mk (PV3.v pI) [])]
def F295.O:Orc P:=⟨[F304.E],[],[],40⟩
def F295:Option τ :=
 F304 [.I (gI l 0)]
 (fun j A=>(sw (k 0 [.I (gI A 0)])
 (fun _=>none)) j)
theorem F295.eq:FEq F295.O 160 F295.ps F295.sh F295:=by intro τ l κ;kernel_rfl
def F295.E:Ent P:=mkF F295.eq
def L296_2_1.H:LHead:=⟨false,false,2,659458,659458,403,16,0,[(PS.mk ((PV2.v (PV1.sl (PC0.i IntKind.u64)))::(PV2.fn 159 [(p1 1)])::us 2 (pI::us 2 (pI::pI::us 10 []))) [PO.dead,(oG [(pK IntKind.u64)])])],[(Out.ret,(PS.mk (us 4 (pI::us 14 [])) [PO.dead,(oG [(pK IntKind.u64)])])),((Out.exit 0),(PS.mk (us 4 (pI::us 14 [])) [PO.dead,(oG [(pK IntKind.u64)])]))]⟩
def L296_2_1.O:Orc P:=⟨[F295.E],[],[],40⟩
def L296_2_1.s0:Option τ :=
 br (ltI (gI l 4) (gI l 3))
 (ck (((leI 0 (gI l 4))&&(ltI (gI l 4) (gN l 0)))&&true)
 (ck (ltN ((Int.toNat (gI l 4))*1) (List.length (gL l 1)))
 (F295 [.I (wr IntKind.u64 (((@BitVec.toNat 64 (@HAnd.hAnd (BitVec (IntKind.bits IntKind.u64)) (BitVec (IntKind.bits IntKind.u64)) (BitVec (IntKind.bits IntKind.u64)) (@instHAndOfAndOp (BitVec (IntKind.bits IntKind.u64)) (@BitVec.instAndOp (IntKind.bits IntKind.u64))) (BitVec.ofInt 64 (gI l 5)) (BitVec.ofInt 64 (List.getD (gL l 1) ((Int.toNat (gI l 4))*1) 0)))):Nat):Int))]
 (fun j A=>(sw (br ((Int.tmod (gI A 0) 2)==1)
 (ex 0 [.I (gI l 4),.I (gI l 5)])
 (nx 0 [.N (gN l 0),.L (gL l 1),.I (gI l 2),.I (gI l 3),.I (wr .i64 ((gI l 4)+1)),.I (gI l 5)]))
 (fun _=>none)) j))))
 (ex 1 [.I (gI l 2),.I (gI l 5)])
theorem L296_2_1.e0:LEq L296_2_1.O L296_2_1.H 0 L296_2_1.s0:=by intro τ next κ l;kernel_rfl
def L296_2_1:LStep P Cf:=LStep.mk1 (by decide) L296_2_1.e0
def L296_2_1.b:Option τ:=runE L296_2_1 fuel κ t l
def L296_2_1.E:LEnt P:=LStep.E L296_2_1
def F273_1.ps:List PV2:=[(PV2.agg [iI,(PV1.arr (PC0.i IntKind.u64))]),(pK IntKind.u64)]
def F273_1.sh:List PA:=[(PA.mk (PV3.v pB) [])]
def F273_1.O:Orc P:=⟨[],[L296_2_1.E],[],40⟩
def F273_1:Option τ :=
 L296_2_1.b 0 [.N (List.length (gL l 1)),.L (gL l 1),.I 0,.I (((List.length (gL l 1)):Nat):Int),.I 0,.I (gI l 2)]
 (fun j A=>(sw (k 0 [.B (!(geI (gI A 0) 0))])
 (sw (k 0 [.B true])
 (fun _=>none))) j)
theorem F273_1.eq:FEq F273_1.O 102 F273_1.ps F273_1.sh F273_1:=by intro τ l κ;kernel_rfl
def F273_1.E:Ent P:=mkF F273_1.eq
def F268_1.ps:List PV2:=[(PV2.agg [iI,(PV1.arr (PC0.i IntKind.u64))]),(pK IntKind.u64),pI]
def F268_1.sh:List PA:=[(PA.mk (PV3.v (PV2.agg [(r1 0),iI,PV1.bool])) [cI])]
def F268_1.O:Orc P:=⟨[F273_1.E],[L268_3.E],[],40⟩
def F268_1:Option τ :=
 ck (((leI 0 (gI l 0))&&(leI (gI l 0) (gI l 0)))&&(leI ((gI l 0)*9) 1099511627776))
 (ck (((eqM (List.length (gL l 1)) (List.length (gL l 1)))&&true)&&true)
 (F273_1 [.I (gI l 0),.L (gL l 1),.I (gI l 2)]
 (fun j A=>(sw (L268_3.b 0 [.I (gI l 2),.I (((Int.toNat (gI l 0)):Nat):Int),.I 0,.I 0,.B false,.N (Int.toNat (gI l 0)),.I (gI l 3),.B (gB A 0),.L (List.replicate (Int.toNat (gI l 0)) (0:Int))]
 (fun j B=>(sw (k 0 [.N (gN B 2),.I (gI B 3),.B (gB B 4),.L (gL B 5)])
 (fun _=>none)) j))
 (fun _=>none)) j)))
theorem F268_1.eq:FEq F268_1.O 97 F268_1.ps F268_1.sh F268_1:=by intro τ l κ;kernel_rfl
def F268_1.E:Ent P:=mkF F268_1.eq
def F244.ps:List PV2:=[(PV2.agg [iI,iI,aM]),(PV2.agg [aI,aI])]
def F244.sh:List PA:=[(PA.mk (PV3.tup [(PV2.agg [PV1.nilS,(PV1.intC .i64 0),(PV1.boolC false)]),(pC 1)]) []),(PA.mk (PV3.tup [(PV2.agg [(r1 0),iI,PV1.bool]),(pC 0)]) [cI])]
def F244.O:Orc P:=⟨[F266.E,F267.E,F269.E,F268.E,F268_1.E],[L244_6.E],[],40⟩
def F244:Option τ :=
 ck (((eqM (List.length (gLL l 2)) (List.length (gLL l 2)))&&true)&&(((eqM (List.length (gL l 3)) (List.length (gL l 3)))&&((eqM (List.length (gL l 4)) (List.length (gL l 4)))&&true))&&true))
 (F266 [.I (gI l 0),.I (gI l 1),.LL (gLL l 2),.L (gL l 3),.L (gL l 4)]
 (fun j A=>(sw (br (!(gB A 0))
 (k 0 [])
 (ck (((leI 0 (gI l 1))&&(leI (gI l 1) (gI l 1)))&&(leI ((gI l 1)*9) 1099511627776))
 (ck (((((eqM (List.length (gL l 3)) (Int.toNat (gI l 1)))&&(eqM (List.length (gL l 3)) (List.length (gL l 3))))&&true)&&(eqM (List.length (List.replicate (Int.toNat (gI l 1)) (0:Int))) (Int.toNat (gI l 1))))&&true)
 (L244_6.b 0 [.N (Int.toNat (gI l 1)),.N (List.length (gL l 4)),.L (gL l 4),.I (((List.length (gL l 4)):Nat):Int),.I 0,.I (gI l 0),.I (gI l 1),.N (List.length (gLL l 2)),.LL (gLL l 2),.I 0,.B false,.L (gL l 3)]
 (fun j B=>(sw (ck (((eqM (gN B 3) (List.length (gLL B 4)))&&true)&&true)
 (F267 [.I (gI B 1),.I (gI B 2),.LL (gLL B 4)]
 (fun j C=>(sw (ck ((eqM (gN B 0) (List.length (List.take ((gN B 0)*1) (List.drop 0 (gL B 7)))))&&true)
 (F269 [.L (List.take ((gN B 0)*1) (List.drop 0 (gL B 7)))]
 (fun j D=>(sw (F268 [.I (gI C 0),.I (gI D 0),.I 0]
 (fun j E=>(sw (k 1 [.N (gN E 0),.I (gI E 1),.B (gB E 2),.L (gL E 3)])
 (fun _=>none)) j))
 (fun _=>none)) j)))
 (sw (ck ((eqM (gN B 0) (List.length (List.take ((gN B 0)*1) (List.drop 0 (gL B 7)))))&&true)
 (F269 [.L (List.take ((gN B 0)*1) (List.drop 0 (gL B 7)))]
 (fun j D=>(sw (ck (((eqM (gN C 1) (List.length (List.take ((gN C 1)*1) (List.drop 0 (gL C 2)))))&&true)&&true)
 (F268_1 [.I (gI C 0),.L (List.take ((gN C 1)*1) (List.drop 0 (gL C 2))),.I (gI D 0),.I 0]
 (fun j E=>(sw (k 1 [.N (gN E 0),.I (gI E 1),.B (gB E 2),.L (gL E 3)])
 (fun _=>none)) j)))
 (fun _=>none)) j)))
 (fun _=>none))) j)))
 (fun _=>none)) j)))))
 (fun _=>none)) j))
theorem F244.eq:FEq F244.O 57 F244.ps F244.sh F244:=by intro τ l κ;kernel_rfl
def F244.E:Ent P:=mkF F244.eq
def F210.ps:List PV2:=[pCode,pNoisy]
def F210.sh:List PA:=[(PA.mk (PV3.v (PV2.agg [PV1.nilS,iI,PV1.bool,iI])) []),(PA.mk (PV3.v (PV2.agg [(r1 0),iI,PV1.bool,iI])) [cI])]
def F210.O:Orc P:=⟨[F244.E],[],[],40⟩
def F210:Option τ :=
 ck (((eqM (List.length (gLL l 2)) (List.length (gLL l 2)))&&true)&&(((eqM (List.length (gL l 3)) (List.length (gL l 3)))&&((eqM (List.length (gL l 4)) (List.length (gL l 4)))&&true))&&true))
 (F244 [.I (gI l 0),.I (gI l 1),.LL (gLL l 2),.L (gL l 3),.L (gL l 4)]
 (fun j A=>(sw (k 0 [.I 0,.B false,.I 1])
 (sw (k 1 [.N (gN A 0),.I (gI A 1),.B (gB A 2),.I 0,.L (gL A 3)])
 (fun _=>none))) j))
theorem F210.eq:FEq F210.O 14 F210.ps F210.sh F210:=by intro τ l κ;kernel_rfl
def F210.E:Ent P:=mkF F210.eq
end
end Go.Proofs.YticbdgmcofjkeaaGreat.Ai
namespace Go.Proofs.YticbdgmcofjkeaaGreat.Ai
open Go Go.RowKit
noncomputable section
variable {τ:Type} (t:Nat) (nx ex:Nat→LS_→Option τ) (l:LS_) (k κ:Nat→LS_→Option τ)
def vbo1:List PO:=[(oG [nS,pI,pB]),(oG [pI,(rr 2)]),(PO.cells true true (PC.c (PC0.i IntKind.u64)))]
def F271.ps:List PV2:=[(PV2.agg [iI,iI,aM]),(PV2.agg [aI,iI,PV1.bool])]
def F271.sh:List PA:=[(PA.mk (PV3.tup [(PV2.agg [(PV1.intC .i64 0),PV1.nilS]),(PV2.v (PV1.intC IntKind.u64 0)),(PV2.v (PV1.boolC false))]) []),(PA.mk (PV3.tup [(PV2.agg [iI,PV1.nilS]),(pK IntKind.u64),pB]) []),(PA.mk (PV3.tup [(PV2.agg [iI,(r1 0)]),(pK IntKind.u64),pB]) [(PC.c (PC0.i IntKind.u64))])]
def F271.O:Orc P:=⟨[F282.E,F267.E,F269.E,F273.E,F273_1.E],[],[],40⟩
def F271:Option τ :=
 br ((gI l 0) != 2)
 (k 0 [])
 (ck ((eqM (List.length (gL l 3)) (List.length (gL l 3)))&&true)
 (F282 [.I (gI l 1),.L (gL l 3)]
 (fun j A=>(sw (br (!(gB A 0))
 (k 0 [])
 (br (ltI (gI l 4) 0)
 (k 0 [])
 (br (gtI (gI l 4) 1000)
 (k 0 [])
 (ck (((eqM (List.length (gLL l 2)) (List.length (gLL l 2)))&&true)&&true)
 (F267 [.I (gI l 0),.I (gI l 1),.LL (gLL l 2)]
 (fun j B=>(sw (ck ((eqM (List.length (gL l 3)) (List.length (gL l 3)))&&true)
 (F269 [.L (gL l 3)]
 (fun j C=>(sw (F273 [.I (gI B 0),.I (gI C 0)]
 (fun j D=>(sw (k 1 [.I (gI B 0),.I (gI C 0),.B ((gB D 0)==(gB l 5))])
 (fun _=>none)) j))
 (fun _=>none)) j)))
 (sw (ck ((eqM (List.length (gL l 3)) (List.length (gL l 3)))&&true)
 (F269 [.L (gL l 3)]
 (fun j C=>(sw (ck (((eqM (gN B 1) (List.length (List.take ((gN B 1)*1) (List.drop 0 (gL B 2)))))&&true)&&true)
 (F273_1 [.I (gI B 0),.L (List.take ((gN B 1)*1) (List.drop 0 (gL B 2))),.I (gI C 0)]
 (fun j D=>(sw (k 2 [.I (gI B 0),.N (gN B 1),.I (gI C 0),.B ((gB D 0)==(gB l 5)),.L (gL B 2)])
 (fun _=>none)) j)))
 (fun _=>none)) j)))
 (fun _=>none))) j))))))
 (fun _=>none)) j)))
theorem F271.eq:FEq F271.O 100 F271.ps F271.sh F271:=by intro τ l κ;kernel_rfl
def F271.E:Ent P:=mkF F271.eq
def L272_4.H:LHead:=⟨false,true,0,413700,413700,3670114,34,0,[(PS.mk (us 1 ((pK IntKind.u64)::us 3 ((rr 0)::(PV2.fn 159 [(p1 1)])::us 12 (nS::pI::pI::us 43 [])))) [oI,(oG [(pK IntKind.u64)])])],[((Out.exit 0),(PS.mk (us 1 ((pK IntKind.u64)::us 3 ((rr 0)::us 59 []))) [oI]))]⟩
def L272_4.O:Orc P:=⟨[],[],[],40⟩
def L272_4.s0 {τ:Type} (next ex:Nat→LS_→Option τ) (l:LS_):Option τ :=
 br (ltI (gI l 3) (gI l 2))
 (none)
 (ex 0 [.I (gI l 0),.N (gN l 1),.L (gL l 4)])
theorem L272_4.e0:LEq L272_4.O L272_4.H 0 L272_4.s0:=by intro τ next κ l;kernel_rfl
def L272_4:LStep P Cf:=LStep.mk1 (by decide) L272_4.e0
def L272_4.b:Option τ:=runE L272_4 fuel κ t l
def L272_4.E:LEnt P:=LStep.E L272_4
def L284_5.H:LHead:=⟨false,true,0,552965,552965,25,8,0,[(PS.mk (qR::us 2 (pI::pI::us 20 [])) [])],[((Out.exit 0),(PS.mk (us 3 (pI::us 21 [])) []))]⟩
def L284_5.O:Orc P:=⟨[],[],[],40⟩
def L284_5.s0:Option τ :=
 br (ltI (gI l 3) (gN l 0))
 (ck (((leI 0 (gI l 3))&&(ltI (gI l 3) (gN l 0)))&&true)
 (ck (ltN ((Int.toNat (gI l 3))*1) (List.length (gL l 1)))
 (nx 0 [.N (gN l 0),.L (gL l 1),.I (max (gI l 2) (List.getD (gL l 1) ((Int.toNat (gI l 3))*1) 0)),.I (wr .i64 ((gI l 3)+1))])))
 (ex 0 [.I (gI l 2)])
theorem L284_5.e0:LEq L284_5.O L284_5.H 0 L284_5.s0:=by intro τ next κ l;kernel_rfl
def L284_5:LStep P Cf:=LStep.mk1 (by decide) L284_5.e0
def L284_5.b:Option τ:=runE L284_5 fuel κ t l
def L284_5.E:LEnt P:=LStep.E L284_5
def F284.ps:List PV2:=[pR]
def F284.sh:List PA:=[(PA.mk (PV3.v pI) [])]
def F284.O:Orc P:=⟨[],[L284_5.E],[],40⟩
def F284:Option τ :=
 br (ltI (((List.length (gL l 0)):Nat):Int) 1)
 (none)
 (ck ((ltI 0 (List.length (gL l 0)))&&true)
 (ck (ltN 0 (List.length (gL l 0)))
 (L284_5.b 0 [.N (List.length (gL l 0)),.L (gL l 0),.I (List.getD (gL l 0) 0 0),.I 1]
 (fun j A=>(sw (k 0 [.I (gI A 0)])
 (fun _=>none)) j))))
theorem F284.eq:FEq F284.O 135 F284.ps F284.sh F284:=by intro τ l κ;kernel_rfl
def F284.E:Ent P:=mkF F284.eq
def L272_15.H:LHead:=⟨false,true,0,413711,413711,3940649673950210,2,0,[(PS.mk (us 1 ((pK IntKind.u64)::us 8 (pI::us 38 ((rr 0)::pI::pI::us 13 [])))) [oI])],[((Out.exit 4),(PS.mk (us 1 ((pK IntKind.u64)::us 63 [])) []))]⟩
def L272_15.O:Orc P:=⟨[],[],[],40⟩
def L272_15.s0:Option τ :=
 br (ltI (gI l 4) (gI l 3))
 (ck (((leI 0 (gI l 4))&&(ltI (gI l 4) (gN l 2)))&&true)
 (ck (ltN (0+((Int.toNat (gI l 4))*1)) (List.length (gL l 5)))
 (br ((List.getD (gL l 5) (0+((Int.toNat (gI l 4))*1)) 0)==(gI l 1))
 (ck (leI 0 (gI l 4))
 (nx 0 [.I (wr IntKind.u64 (((@BitVec.toNat 64 (@HXor.hXor (BitVec (IntKind.bits IntKind.u64)) (BitVec (IntKind.bits IntKind.u64)) (BitVec (IntKind.bits IntKind.u64)) (@instHXorOfXorOp (BitVec (IntKind.bits IntKind.u64)) (@BitVec.instXorOp (IntKind.bits IntKind.u64))) (BitVec.ofInt 64 (gI l 0)) (BitVec.ofInt 64 (wr IntKind.u64 (1*(@HPow.hPow Int Nat Int (@instHPow Int Nat (@instPowNat Int Int.instNatPow)) 2 (min (Int.toNat (gI l 4)) 64))))))):Nat):Int)),.I (gI l 1),.N (gN l 2),.I (gI l 3),.I (wr .i64 ((gI l 4)+1)),.L (gL l 5)]))
 (nx 0 [.I (gI l 0),.I (gI l 1),.N (gN l 2),.I (gI l 3),.I (wr .i64 ((gI l 4)+1)),.L (gL l 5)]))))
 (ex 0 [.I (gI l 0)])
theorem L272_15.e0:LEq L272_15.O L272_15.H 0 L272_15.s0:=by intro τ next κ l;kernel_rfl
def L272_15:LStep P Cf:=LStep.mk1 (by decide) L272_15.e0
def L272_15.b:Option τ:=runE L272_15 fuel κ t l
def L272_15.E:LEnt P:=LStep.E L272_15
def F272.ps:List PV2:=[(PV2.agg [iI,PV1.nilS]),(pK IntKind.u64)]
def F272.sh:List PA:=[(PA.mk (PV3.v (pK IntKind.u64)) [])]
def F272.O:Orc P:=⟨[F284.E],[L272_4.E,L272_15.E],[],40⟩
def F272:Option τ :=
 ck (((leI 0 (gI l 0))&&(leI (gI l 0) (gI l 0)))&&(leI ((gI l 0)*9) 1099511627776))
 (L272_4.b 0 [.I (gI l 1),.N (Int.toNat (gI l 0)),.I 0,.I 0,.L (List.replicate (Int.toNat (gI l 0)) (0:Int)),.I (gI l 1)]
 (fun j A=>(sw (ck ((eqM (gN A 1) (List.length (List.take ((gN A 1)*1) (List.drop 0 (gL A 2)))))&&true)
 (F284 [.L (List.take ((gN A 1)*1) (List.drop 0 (gL A 2)))]
 (fun j B=>(sw (L272_15.b 0 [.I (gI A 0),.I (gI B 0),.N (gN A 1),.I (gN A 1),.I 0,.L (gL A 2)]
 (fun j C=>(sw (k 0 [.I (gI C 0)])
 (fun _=>none)) j))
 (fun _=>none)) j)))
 (fun _=>none)) j))
theorem F272.eq:FEq F272.O 101 F272.ps F272.sh F272:=by intro τ l κ;kernel_rfl
def F272.E:Ent P:=mkF F272.eq
def L251_5.H:LHead:=⟨false,true,0,262149,262149,6980,4928,0,[(PS.mk (us 2 (pI::us 3 ((pp 0)::us 1 ((pp 1)::(pK IntKind.u64)::us 1 ((PV2.fn 1048677 [iI,PV1.nilS])::pI::us 37 []))))) [(oG [nS,pI,pB]),(oG [pI,nS])])],[((Out.exit 0),(PS.mk (us 6 ((pp 0)::us 1 ((pp 1)::(pK IntKind.u64)::us 2 (pI::us 37 [])))) [(oG [nS,pI,pB]),(oG [pI,nS])]))]⟩
def L251_5.O:Orc P:=⟨[F273.E,F272.E],[],[],40⟩
def L251_5.s0:Option τ :=
 br (gtI (gI l 0) 0)
 (br (ltI (gI l 3) 1000)
 (F273 [.I (gI l 6),.I (gI l 1)]
 (fun j A=>(sw (br (!(gB A 0))
 (F272 [.I (gI l 2),.I (gI l 1)]
 (fun j B=>(sw (nx 0 [.I (wr .i64 ((gI l 0)-1)),.I (gI B 0),.I (gI l 2),.I (wr .i64 ((gI l 3)+1)),.I (gI l 4),.B (gB l 5),.I (gI l 6)])
 (fun _=>none)) j))
 (ex 0 [.I (gI l 1),.I (gI l 3),.I (gI l 4),.B (gB l 5),.I (gI l 6)]))
 (fun _=>none)) j))
 (ex 0 [.I (gI l 1),.I (gI l 3),.I (gI l 4),.B (gB l 5),.I (gI l 6)]))
 (ex 0 [.I (gI l 1),.I (gI l 3),.I (gI l 4),.B (gB l 5),.I (gI l 6)])
theorem L251_5.e0:LEq L251_5.O L251_5.H 0 L251_5.s0:=by intro τ next κ l;kernel_rfl
def L251_5:LStep P Cf:=LStep.mk1 (by decide) L251_5.e0
def L251_5.b:Option τ:=runE L251_5 fuel κ t l
def L251_5.E:LEnt P:=LStep.E L251_5
def L272_8.H:LHead:=⟨false,true,0,413704,413704,3224895842,3670114,0,[(PS.mk (us 1 ((pK IntKind.u64)::us 3 ((rr 0)::(PV2.fn 159 [(p1 1)])::us 1 ((pK IntKind.u64)::us 10 ((PV2.v (PV1.sl (PC0.i IntKind.u64)))::pI::pI::us 8 (pI::pI::us 33 [])))))) [oI,(oG [(pK IntKind.u64)])])],[((Out.exit 2),(PS.mk (us 1 ((pK IntKind.u64)::us 3 ((rr 0)::(PV2.fn 159 [(p1 1)])::us 12 ((PV2.v (PV1.sl (PC0.i IntKind.u64)))::pI::pI::us 43 [])))) [oI,(oG [(pK IntKind.u64)])]))]⟩
def L272_8.O:Orc P:=⟨[],[],[],40⟩
def L272_8.s0:Option τ :=
 br (ltI (gI l 8) (gI l 7))
 (ck (((leI 0 (gI l 8))&&(ltI (gI l 8) (gN l 1)))&&true)
 (ck (ltN (0+((Int.toNat (gI l 8))*1)) (List.length (gL l 9)))
 (ck (leI 0 (gI l 8))
 (ck (((leI 0 (gI l 8))&&(ltI (gI l 8) (gN l 1)))&&true)
 (ck ((leN ((0+((Int.toNat (gI l 8))*1))+1) (List.length (gL l 9)))&&true)
 (nx 0 [.I (gI l 0),.N (gN l 1),.I (gI l 2),.N (gN l 3),.L (gL l 4),.I (gI l 5),.I (gI l 6),.I (gI l 7),.I (wr .i64 ((gI l 8)+1)),.L (List.set (gL l 9) (0+((Int.toNat (gI l 8))*1)) (wr .i64 ((List.getD (gL l 9) (0+((Int.toNat (gI l 8))*1)) 0)+(wr .i64 (wr IntKind.u64 (((@BitVec.toNat 64 (@HAnd.hAnd (BitVec (IntKind.bits IntKind.u64)) (BitVec (IntKind.bits IntKind.u64)) (BitVec (IntKind.bits IntKind.u64)) (@instHAndOfAndOp (BitVec (IntKind.bits IntKind.u64)) (@BitVec.instAndOp (IntKind.bits IntKind.u64))) (BitVec.ofInt 64 (Int.fdiv (gI l 2) (@HPow.hPow Int Nat Int (@instHPow Int Nat (@instPowNat Int Int.instNatPow)) 2 (min (Int.toNat (gI l 8)) 64)))) (BitVec.ofInt (IntKind.bits IntKind.u64) 1))):Nat):Int)))))),.I (gI l 10)]))))))
 (ex 0 [.I (gI l 0),.N (gN l 1),.N (gN l 3),.L (gL l 4),.I (gI l 5),.I (gI l 6),.L (gL l 9),.I (gI l 10)])
theorem L272_8.e0:LEq L272_8.O L272_8.H 0 L272_8.s0:=by intro τ next κ l;kernel_rfl
def L272_8:LStep P Cf:=LStep.mk1 (by decide) L272_8.e0
def L272_8.b:Option τ:=runE L272_8 fuel κ t l
def L272_8.E:LEnt P:=LStep.E L272_8
def L272_4_1.H:LHead:=⟨false,true,0,413700,413700,3670114,34,0,[(PS.mk (us 1 ((pK IntKind.u64)::us 3 ((rr 0)::(PV2.fn 159 [(p1 1)])::us 12 ((PV2.v (PV1.sl (PC0.i IntKind.u64)))::pI::pI::us 43 [])))) [oI,(oG [(pK IntKind.u64)])])],[((Out.exit 0),(PS.mk (us 1 ((pK IntKind.u64)::us 3 ((rr 0)::us 59 []))) [oI]))]⟩
def L272_4_1.O:Orc P:=⟨[F295.E],[L272_8.E],[],40⟩
def L272_4_1.s0:Option τ :=
 br (ltI (gI l 5) (gI l 4))
 (ck (((leI 0 (gI l 5))&&(ltI (gI l 5) (gN l 2)))&&true)
 (ck (ltN ((Int.toNat (gI l 5))*1) (List.length (gL l 3)))
 (F295 [.I (wr IntKind.u64 (((@BitVec.toNat 64 (@HAnd.hAnd (BitVec (IntKind.bits IntKind.u64)) (BitVec (IntKind.bits IntKind.u64)) (BitVec (IntKind.bits IntKind.u64)) (@instHAndOfAndOp (BitVec (IntKind.bits IntKind.u64)) (@BitVec.instAndOp (IntKind.bits IntKind.u64))) (BitVec.ofInt 64 (gI l 7)) (BitVec.ofInt 64 (List.getD (gL l 3) ((Int.toNat (gI l 5))*1) 0)))):Nat):Int))]
 (fun j A=>(sw (br (!((Int.tmod (gI A 0) 2)==1))
 (nx 0 [.I (gI l 0),.N (gN l 1),.N (gN l 2),.L (gL l 3),.I (gI l 4),.I (wr .i64 ((gI l 5)+1)),.L (gL l 6),.I (gI l 7)])
 (L272_8.b 0 [.I (gI l 0),.N (gN l 1),.I (List.getD (gL l 3) ((Int.toNat (gI l 5))*1) 0),.N (gN l 2),.L (gL l 3),.I (gI l 4),.I (gI l 5),.I (gN l 1),.I 0,.L (gL l 6),.I (gI l 7)]
 (fun j B=>(sw (nx 0 [.I (gI B 0),.N (gN B 1),.N (gN B 2),.L (gL B 3),.I (gI B 4),.I (wr .i64 ((gI B 5)+1)),.L (gL B 6),.I (gI B 7)])
 (fun _=>none)) j)))
 (fun _=>none)) j))))
 (ex 0 [.I (gI l 0),.N (gN l 1),.L (gL l 6)])
theorem L272_4_1.e0:LEq L272_4_1.O L272_4_1.H 0 L272_4_1.s0:=by intro τ next κ l;kernel_rfl
def L272_4_1:LStep P Cf:=LStep.mk1 (by decide) L272_4_1.e0
def L272_4_1.b:Option τ:=runE L272_4_1 fuel κ t l
def L272_4_1.E:LEnt P:=LStep.E L272_4_1
def F272_1.ps:List PV2:=[(PV2.agg [iI,(PV1.arr (PC0.i IntKind.u64))]),(pK IntKind.u64)]
def F272_1.sh:List PA:=[(PA.mk (PV3.v (pK IntKind.u64)) [])]
def F272_1.O:Orc P:=⟨[F284.E],[L272_4_1.E,L272_15.E],[],40⟩
def F272_1:Option τ :=
 ck (((leI 0 (gI l 0))&&(leI (gI l 0) (gI l 0)))&&(leI ((gI l 0)*9) 1099511627776))
 (L272_4_1.b 0 [.I (gI l 2),.N (Int.toNat (gI l 0)),.N (List.length (gL l 1)),.L (gL l 1),.I (((List.length (gL l 1)):Nat):Int),.I 0,.L (List.replicate (Int.toNat (gI l 0)) (0:Int)),.I (gI l 2)]
 (fun j A=>(sw (ck ((eqM (gN A 1) (List.length (List.take ((gN A 1)*1) (List.drop 0 (gL A 2)))))&&true)
 (F284 [.L (List.take ((gN A 1)*1) (List.drop 0 (gL A 2)))]
 (fun j B=>(sw (L272_15.b 0 [.I (gI A 0),.I (gI B 0),.N (gN A 1),.I (gN A 1),.I 0,.L (gL A 2)]
 (fun j C=>(sw (k 0 [.I (gI C 0)])
 (fun _=>none)) j))
 (fun _=>none)) j)))
 (fun _=>none)) j))
theorem F272_1.eq:FEq F272_1.O 101 F272_1.ps F272_1.sh F272_1:=by intro τ l κ;kernel_rfl
def F272_1.E:Ent P:=mkF F272_1.eq
def L251_5_1.H:LHead:=⟨false,true,0,262149,262149,6980,4928,0,[(PS.mk (us 2 (pI::us 3 ((pp 0)::us 1 ((pp 1)::(pK IntKind.u64)::us 1 ((PV2.fn 1048677 [iI,(r1 2)])::pI::us 37 []))))) vbo1)],[((Out.exit 0),(PS.mk (us 6 ((pp 0)::us 1 ((pp 1)::(pK IntKind.u64)::us 2 (pI::us 37 [])))) vbo1))]⟩
def L251_5_1.O:Orc P:=⟨[F273_1.E,F272_1.E],[],[],40⟩
def L251_5_1.s0:Option τ :=
 br (gtI (gI l 0) 0)
 (br (ltI (gI l 4) 1000)
 (ck (((eqM (gN l 8) (List.length (List.take ((gN l 8)*1) (List.drop 0 (gL l 9)))))&&true)&&true)
 (F273_1 [.I (gI l 7),.L (List.take ((gN l 8)*1) (List.drop 0 (gL l 9))),.I (gI l 1)]
 (fun j A=>(sw (br (!(gB A 0))
 (ck (((eqM (gN l 3) (List.length (List.take ((gN l 3)*1) (List.drop 0 (gL l 9)))))&&true)&&true)
 (F272_1 [.I (gI l 2),.L (List.take ((gN l 3)*1) (List.drop 0 (gL l 9))),.I (gI l 1)]
 (fun j B=>(sw (nx 0 [.I (wr .i64 ((gI l 0)-1)),.I (gI B 0),.I (gI l 2),.N (gN l 3),.I (wr .i64 ((gI l 4)+1)),.I (gI l 5),.B (gB l 6),.I (gI l 7),.N (gN l 8),.L (gL l 9)])
 (fun _=>none)) j)))
 (ex 0 [.I (gI l 1),.I (gI l 4),.I (gI l 5),.B (gB l 6),.I (gI l 7),.N (gN l 8),.L (gL l 9)]))
 (fun _=>none)) j)))
 (ex 0 [.I (gI l 1),.I (gI l 4),.I (gI l 5),.B (gB l 6),.I (gI l 7),.N (gN l 8),.L (gL l 9)]))
 (ex 0 [.I (gI l 1),.I (gI l 4),.I (gI l 5),.B (gB l 6),.I (gI l 7),.N (gN l 8),.L (gL l 9)])
theorem L251_5_1.e0:LEq L251_5_1.O L251_5_1.H 0 L251_5_1.s0:=by intro τ next κ l;kernel_rfl
def L251_5_1:LStep P Cf:=LStep.mk1 (by decide) L251_5_1.e0
def L251_5_1.b:Option τ:=runE L251_5_1 fuel κ t l
def L251_5_1.E:LEnt P:=LStep.E L251_5_1
def F251.ps:List PV2:=[(PV2.agg [iI,iI,aM]),(PV2.agg [aI,iI,PV1.bool]),pI]
def F251.sh:List PA:=[(PA.mk (PV3.tup [(PV2.agg [PV1.nilS,(PV1.intC .i64 0),(PV1.boolC false)]),(pC 1)]) []),(PA.mk (PV3.tup [(PV2.agg [(r1 0),iI,PV1.bool]),(pC 0)]) [cI])]
def F251.O:Orc P:=⟨[F271.E,F268.E,F268_1.E],[L251_5.E,L251_5_1.E],[],40⟩
def F251:Option τ :=
 ck (((eqM (List.length (gLL l 2)) (List.length (gLL l 2)))&&true)&&(((eqM (List.length (gL l 3)) (List.length (gL l 3)))&&true)&&true))
 (F271 [.I (gI l 0),.I (gI l 1),.LL (gLL l 2),.L (gL l 3),.I (gI l 4),.B (gB l 5)]
 (fun j A=>(sw (k 0 [])
 (sw (br (!(gB A 2))
 (k 0 [])
 (L251_5.b 0 [.I (gI l 6),.I (gI A 1),.I (gI A 0),.I (gI l 4),.I 0,.B false,.I (gI A 0)]
 (fun j B=>(sw (F268 [.I (gI B 4),.I (gI B 0),.I (gI B 1)]
 (fun j C=>(sw (k 1 [.N (gN C 0),.I (gI C 1),.B (gB C 2),.L (gL C 3)])
 (fun _=>none)) j))
 (fun _=>none)) j)))
 (sw (br (!(gB A 3))
 (k 0 [])
 (L251_5_1.b 0 [.I (gI l 6),.I (gI A 2),.I (gI A 0),.N (gN A 1),.I (gI l 4),.I 0,.B false,.I (gI A 0),.N (gN A 1),.L (gL A 4)]
 (fun j B=>(sw (ck (((eqM (gN B 5) (List.length (List.take ((gN B 5)*1) (List.drop 0 (gL B 6)))))&&true)&&true)
 (F268_1 [.I (gI B 4),.L (List.take ((gN B 5)*1) (List.drop 0 (gL B 6))),.I (gI B 0),.I (gI B 1)]
 (fun j C=>(sw (k 1 [.N (gN C 0),.I (gI C 1),.B (gB C 2),.L (gL C 3)])
 (fun _=>none)) j)))
 (fun _=>none)) j)))
 (fun _=>none)))) j))
theorem F251.eq:FEq F251.O 64 F251.ps F251.sh F251:=by intro τ l κ;kernel_rfl
def F251.E:Ent P:=mkF F251.eq
def F248.ps:List PV2:=[(PV2.agg [iI,iI,aM]),(PV2.agg [aI,iI,PV1.bool])]
def F248.sh:List PA:=[(PA.mk (PV3.tup [(PV2.agg [PV1.nilS,(PV1.intC .i64 0),(PV1.boolC false)]),(pC 1)]) []),(PA.mk (PV3.tup [(PV2.agg [(r1 0),iI,PV1.bool]),(pC 0)]) [cI])]
def F248.O:Orc P:=⟨[F251.E],[],[],40⟩
def F248:Option τ :=
 br ((gI l 4)==1000)
 (br (!(gB l 5))
 (k 0 [])
 (ck (((eqM (List.length (gLL l 2)) (List.length (gLL l 2)))&&true)&&(((eqM (List.length (gL l 3)) (List.length (gL l 3)))&&true)&&true))
 (F251 [.I (gI l 0),.I (gI l 1),.LL (gLL l 2),.L (gL l 3),.I (gI l 4),.B (gB l 5),.I 1]
 (fun j A=>(sw (k 0 [])
 (sw (k 1 [.N (gN A 0),.I (gI A 1),.B (gB A 2),.L (gL A 3)])
 (fun _=>none))) j))))
 (ck (((eqM (List.length (gLL l 2)) (List.length (gLL l 2)))&&true)&&(((eqM (List.length (gL l 3)) (List.length (gL l 3)))&&true)&&true))
 (F251 [.I (gI l 0),.I (gI l 1),.LL (gLL l 2),.L (gL l 3),.I (gI l 4),.B (gB l 5),.I 1]
 (fun j A=>(sw (k 0 [])
 (sw (k 1 [.N (gN A 0),.I (gI A 1),.B (gB A 2),.L (gL A 3)])
 (fun _=>none))) j)))
theorem F248.eq:FEq F248.O 61 F248.ps F248.sh F248:=by intro τ l κ;kernel_rfl
def F248.E:Ent P:=mkF F248.eq
def F213.ps:List PV2:=[pCode,qFlip]
def F213.sh:List PA:=[(PA.mk (PV3.v (PV2.agg [PV1.nilS,iI,PV1.bool,iI])) []),(PA.mk (PV3.v (PV2.agg [(r1 0),iI,PV1.bool,iI])) [cI])]
def F213.O:Orc P:=⟨[F248.E],[],[],40⟩
def F213:Option τ :=
 ck (((eqM (List.length (gLL l 2)) (List.length (gLL l 2)))&&true)&&(((eqM (List.length (gL l 3)) (List.length (gL l 3)))&&true)&&true))
 (F248 [.I (gI l 0),.I (gI l 1),.LL (gLL l 2),.L (gL l 3),.I (gI l 4),.B (gB l 5)]
 (fun j A=>(sw (k 0 [.I 0,.B false,.I 1])
 (sw (k 1 [.N (gN A 0),.I (gI A 1),.B (gB A 2),.I 0,.L (gL A 3)])
 (fun _=>none))) j))
theorem F213.eq:FEq F213.O 17 F213.ps F213.sh F213:=by intro τ l κ;kernel_rfl
def F213.E:Ent P:=mkF F213.eq
def F215.ps:List PV2:=[pCode,qFlip,pI]
def F215.sh:List PA:=[(PA.mk (PV3.v (PV2.agg [PV1.nilS,iI,PV1.bool,iI])) []),(PA.mk (PV3.v (PV2.agg [(r1 0),iI,PV1.bool,iI])) [cI])]
def F215.O:Orc P:=⟨[F251.E],[],[],40⟩
def F215:Option τ :=
 ck (((eqM (List.length (gLL l 2)) (List.length (gLL l 2)))&&true)&&(((eqM (List.length (gL l 3)) (List.length (gL l 3)))&&true)&&true))
 (F251 [.I (gI l 0),.I (gI l 1),.LL (gLL l 2),.L (gL l 3),.I (gI l 4),.B (gB l 5),.I (gI l 6)]
 (fun j A=>(sw (k 0 [.I 0,.B false,.I 1])
 (sw (k 1 [.N (gN A 0),.I (gI A 1),.B (gB A 2),.I 0,.L (gL A 3)])
 (fun _=>none))) j))
theorem F215.eq:FEq F215.O 19 F215.ps F215.sh F215:=by intro τ l κ;kernel_rfl
def F215.E:Ent P:=mkF F215.eq
def L286_2.H:LHead:=⟨false,true,0,561154,561154,403,16,0,[(PS.mk (qR::pI::us 2 (pI::us 2 (pI::pI::us 10 []))) [])],[(Out.ret,(PS.mk (us 4 (pI::us 14 [])) [])),((Out.exit 0),(PS.mk (us 4 (pI::us 14 [])) []))]⟩
def L286_2.O:Orc P:=⟨[],[],[],40⟩
def L286_2.s0:Option τ :=
 br (ltI (gI l 5) (gI l 4))
 (ck (((leI 0 (gI l 5))&&(ltI (gI l 5) (gN l 0)))&&true)
 (ck (ltN ((Int.toNat (gI l 5))*1) (List.length (gL l 1)))
 (br ((gI l 2)==(List.getD (gL l 1) ((Int.toNat (gI l 5))*1) 0))
 (ex 0 [.I (gI l 5)])
 (nx 0 [.N (gN l 0),.L (gL l 1),.I (gI l 2),.I (gI l 3),.I (gI l 4),.I (wr .i64 ((gI l 5)+1))]))))
 (ex 1 [.I (gI l 3)])
theorem L286_2.e0:LEq L286_2.O L286_2.H 0 L286_2.s0:=by intro τ next κ l;kernel_rfl
def L286_2:LStep P Cf:=LStep.mk1 (by decide) L286_2.e0
def L286_2.b:Option τ:=runE L286_2 fuel κ t l
def L286_2.E:LEnt P:=LStep.E L286_2
def F286.ps:List PV2:=[pR,pI]
def F286.sh:List PA:=[(PA.mk (PV3.v pI) [])]
def F286.O:Orc P:=⟨[],[L286_2.E],[],40⟩
def F286:Option τ :=
 L286_2.b 0 [.N (List.length (gL l 0)),.L (gL l 0),.I (gI l 1),.I 0,.I (((List.length (gL l 0)):Nat):Int),.I 0]
 (fun j A=>(sw (k 0 [.I (gI A 0)])
 (sw (k 0 [.I (-1)])
 (fun _=>none))) j)
theorem F286.eq:FEq F286.O 137 F286.ps F286.sh F286:=by intro τ l κ;kernel_rfl
def F286.E:Ent P:=mkF F286.eq
def F275.ps:List PV2:=[pR,pI]
def F275.sh:List PA:=[(PA.mk (PV3.v pB) [])]
def F275.O:Orc P:=⟨[F286.E],[],[],40⟩
def F275:Option τ :=
 ck ((eqM (List.length (gL l 0)) (List.length (gL l 0)))&&true)
 (F286 [.L (gL l 0),.I (gI l 1)]
 (fun j A=>(sw (k 0 [.B (geI (gI A 0) 0)])
 (fun _=>none)) j))
theorem F275.eq:FEq F275.O 105 F275.ps F275.sh F275:=by intro τ l κ;kernel_rfl
def F275.E:Ent P:=mkF F275.eq
def L253_8.H:LHead:=⟨false,true,0,270344,270344,15393162790992,2112,0,[(PS.mk (us 4 ((pp 0)::us 1 ((pp 1)::us 4 ((pp 2)::us 29 (qR::pI::pI::us 24 []))))) [(oG [qR,qR]),(oG [pI,pI,nS,nS]),(oG [pI,pI,(rr 3),nS]),oI])],[((Out.exit 1),(PS.mk (us 6 ((pp 0)::us 4 ((pp 1)::us 56 []))) [(oG [pI,pI,nS,nS]),(oG [pI,pI,(rr 2),nS]),oI]))]⟩
def L253_8.O:Orc P:=⟨[F275.E],[],[],40⟩
def L253_8.s0:Option τ :=
 br (ltI (gI l 3) (gI l 2))
 (ck (((leI 0 (gI l 3))&&(ltI (gI l 3) (gN l 0)))&&true)
 (ck (ltN ((Int.toNat (gI l 3))*1) (List.length (gL l 1)))
 (ck (((leI 0 (gI l 3))&&(ltI (gI l 3) (gN l 4)))&&true)
 (ck (ltN ((Int.toNat (gI l 3))*1) (List.length (gL l 5)))
 (br ((List.getD (gL l 1) ((Int.toNat (gI l 3))*1) 0) != (List.getD (gL l 5) ((Int.toNat (gI l 3))*1) 0))
 (ck ((eqM (gN l 6) (List.length (gL l 7)))&&true)
 (F275 [.L (gL l 7),.I (gI l 3)]
 (fun j A=>(sw (br (!(gB A 0))
 (nx 0 [.N (gN l 0),.L (gL l 1),.I (gI l 2),.I (wr .i64 ((gI l 3)+1)),.N (gN l 4),.L (gL l 5),.N (gN l 6),.L (gL l 7),.I (gI l 8),.I (gI l 9),.I (gI l 10),.I (wr .i64 ((gI l 11)+1)),.N (gN l 12),.L (gL l 13)])
 (nx 0 [.N (gN l 0),.L (gL l 1),.I (gI l 2),.I (wr .i64 ((gI l 3)+1)),.N (gN l 4),.L (gL l 5),.N (gN l 6),.L (gL l 7),.I (gI l 8),.I (gI l 9),.I (gI l 10),.I (gI l 11),.N (gN l 12),.L (gL l 13)]))
 (fun _=>none)) j)))
 (nx 0 [.N (gN l 0),.L (gL l 1),.I (gI l 2),.I (wr .i64 ((gI l 3)+1)),.N (gN l 4),.L (gL l 5),.N (gN l 6),.L (gL l 7),.I (gI l 8),.I (gI l 9),.I (gI l 10),.I (gI l 11),.N (gN l 12),.L (gL l 13)]))))))
 (ex 0 [.I (gI l 8),.I (gI l 9),.I (gI l 10),.I (gI l 11),.N (gN l 12),.L (gL l 13)])
theorem L253_8.e0:LEq L253_8.O L253_8.H 0 L253_8.s0:=by intro τ next κ l;kernel_rfl
def L253_8:LStep P Cf:=LStep.mk1 (by decide) L253_8.e0
def L253_8.b:Option τ:=runE L253_8 fuel κ t l
def L253_8.E:LEnt P:=LStep.E L253_8
def F253.ps:List PV2:=[(PV2.agg [iI,iI,aM]),(PV2.agg [aI,aI]),(PV2.agg [aI,iI,PV1.bool])]
def F253.sh:List PA:=[(PA.mk (PV3.tup [(PV2.agg [(PV1.intC .i64 0),(PV1.intC .i64 0),PV1.nilS,PV1.nilS]),(pC 1)]) []),(PA.mk (PV3.tup [(PV2.agg [(PV1.intC .i64 4),(PV1.intC .i64 0),PV1.nilS,PV1.nilS]),(pC 0)]) []),(PA.mk (PV3.tup [(PV2.agg [iI,iI,(r1 0),PV1.nilS]),(pC 0)]) [cI])]
def F253.O:Orc P:=⟨[F271.E,F266.E,F71.E],[L253_8.E],[],40⟩
def F253:Option τ :=
 ck (((eqM (List.length (gLL l 2)) (List.length (gLL l 2)))&&true)&&(((eqM (List.length (gL l 5)) (List.length (gL l 5)))&&true)&&true))
 (F271 [.I (gI l 0),.I (gI l 1),.LL (gLL l 2),.L (gL l 5),.I (gI l 6),.B (gB l 7)]
 (fun j A=>(sw (k 0 [])
 (sw (br (!(gB A 2))
 (k 0 [])
 (ck (((eqM (List.length (gLL l 2)) (List.length (gLL l 2)))&&true)&&(((eqM (List.length (gL l 3)) (List.length (gL l 3)))&&((eqM (List.length (gL l 4)) (List.length (gL l 4)))&&true))&&true))
 (F266 [.I (gI l 0),.I (gI l 1),.LL (gLL l 2),.L (gL l 3),.L (gL l 4)]
 (fun j B=>(sw (br (!(gB B 0))
 (k 0 [])
 (br (!(gB l 7))
 (k 1 [])
 (ck ((eqM (List.length (gL l 5)) (List.length (gL l 5)))&&true)
 (F71 [.L (gL l 5)]
 (fun j C=>(sw (L253_8.b 0 [.N (List.length (gL l 5)),.L (gL l 5),.I (((List.length (gL l 5)):Nat):Int),.I 0,.N (List.length (gL l 3)),.L (gL l 3),.N (List.length (gL l 4)),.L (gL l 4),.I 0,.I 0,.I 3,.I 0,.N (gN C 0),.L (gL C 1)]
 (fun j D=>(sw (k 2 [.I (gI D 2),.I (gI D 3),.N (gN D 4),.L (gL D 5)])
 (fun _=>none)) j))
 (fun _=>none)) j)))))
 (fun _=>none)) j))))
 (sw (br (!(gB A 3))
 (k 0 [])
 (ck (((eqM (List.length (gLL l 2)) (List.length (gLL l 2)))&&true)&&(((eqM (List.length (gL l 3)) (List.length (gL l 3)))&&((eqM (List.length (gL l 4)) (List.length (gL l 4)))&&true))&&true))
 (F266 [.I (gI l 0),.I (gI l 1),.LL (gLL l 2),.L (gL l 3),.L (gL l 4)]
 (fun j B=>(sw (br (!(gB B 0))
 (k 0 [])
 (br (!(gB l 7))
 (k 1 [])
 (ck ((eqM (List.length (gL l 5)) (List.length (gL l 5)))&&true)
 (F71 [.L (gL l 5)]
 (fun j C=>(sw (L253_8.b 0 [.N (List.length (gL l 5)),.L (gL l 5),.I (((List.length (gL l 5)):Nat):Int),.I 0,.N (List.length (gL l 3)),.L (gL l 3),.N (List.length (gL l 4)),.L (gL l 4),.I 0,.I 0,.I 3,.I 0,.N (gN C 0),.L (gL C 1)]
 (fun j D=>(sw (k 2 [.I (gI D 2),.I (gI D 3),.N (gN D 4),.L (gL D 5)])
 (fun _=>none)) j))
 (fun _=>none)) j)))))
 (fun _=>none)) j))))
 (fun _=>none)))) j))
theorem F253.eq:FEq F253.O 66 F253.ps F253.sh F253:=by intro τ l κ;kernel_rfl
def F253.E:Ent P:=mkF F253.eq
def F219.ps:List PV2:=[pCode,pNoisy,qFlip]
def F219.sh:List PA:=[(PA.mk (PV3.v (PV2.agg [iI,iI,PV1.nilS,PV1.nilS,iI])) []),(PA.mk (PV3.v (PV2.agg [iI,iI,(r1 0),PV1.nilS,iI])) [cI])]
def F219.O:Orc P:=⟨[F253.E],[],[],40⟩
def F219:Option τ :=
 ck (((eqM (List.length (gLL l 2)) (List.length (gLL l 2)))&&true)&&(((eqM (List.length (gL l 3)) (List.length (gL l 3)))&&((eqM (List.length (gL l 4)) (List.length (gL l 4)))&&true))&&(((eqM (List.length (gL l 5)) (List.length (gL l 5)))&&true)&&true)))
 (F253 [.I (gI l 0),.I (gI l 1),.LL (gLL l 2),.L (gL l 3),.L (gL l 4),.L (gL l 5),.I (gI l 6),.B (gB l 7)]
 (fun j A=>(sw (k 0 [.I 0,.I 0,.I 1])
 (sw (k 0 [.I 4,.I 0,.I 0])
 (sw (k 1 [.I (gI A 0),.I (gI A 1),.N (gN A 2),.I 0,.L (gL A 3)])
 (fun _=>none)))) j))
theorem F219.eq:FEq F219.O 24 F219.ps F219.sh F219:=by intro τ l κ;kernel_rfl
def F219.E:Ent P:=mkF F219.eq
end
end Go.Proofs.YticbdgmcofjkeaaGreat.Ai
namespace Go.Proofs.YticbdgmcofjkeaaGreat.Ai
open Go Go.RowKit
noncomputable section
variable {τ:Type} (t:Nat) (nx ex:Nat→LS_→Option τ) (l:LS_) (k κ:Nat→LS_→Option τ)
def L242_2.H:LHead:=⟨false,true,0,221186,221186,54,16,0,[(PS.mk (us 1 (pI::(pp 0)::us 1 (pB::pI::us 14 []))) [(oG [qR,qR])])],[(Out.ret,(PS.mk (us 4 (pB::us 15 [])) [])),((Out.exit 0),(PS.mk (us 4 (pB::us 15 [])) []))]⟩
def L242_2.O:Orc P:=⟨[],[],[],40⟩
def L242_2.s0:Option τ :=
 br (ltI (gI l 2) (gN l 5))
 (ck (((leI 0 (gI l 2))&&(ltI (gI l 2) (gN l 5)))&&true)
 (ck (ltN ((Int.toNat (gI l 2))*1) (List.length (gL l 6)))
 (br ((List.getD (gL l 6) ((Int.toNat (gI l 2))*1) 0)==(gI l 0))
 (ex 0 [.B true])
 (nx 0 [.I (gI l 0),.B (gB l 1),.I (wr .i64 ((gI l 2)+1)),.N (gN l 3),.L (gL l 4),.N (gN l 5),.L (gL l 6)]))))
 (ex 1 [.B (gB l 1)])
theorem L242_2.e0:LEq L242_2.O L242_2.H 0 L242_2.s0:=by intro τ next κ l;kernel_rfl
def L242_2:LStep P Cf:=LStep.mk1 (by decide) L242_2.e0
def L242_2.b:Option τ:=runE L242_2 fuel κ t l
def L242_2.E:LEnt P:=LStep.E L242_2
def F242.ps:List PV2:=[(PV2.agg [aI,aI]),pI]
def F242.sh:List PA:=[(PA.mk (PV3.v pB) [])]
def F242.O:Orc P:=⟨[],[L242_2.E],[],40⟩
def F242:Option τ :=
 L242_2.b 0 [.I (gI l 2),.B false,.I 0,.N (List.length (gL l 0)),.L (gL l 0),.N (List.length (gL l 1)),.L (gL l 1)]
 (fun j A=>(sw (k 0 [.B (gB A 0)])
 (sw (k 0 [.B false])
 (fun _=>none))) j)
theorem F242.eq:FEq F242.O 54 F242.ps F242.sh F242:=by intro τ l κ;kernel_rfl
def F242.E:Ent P:=mkF F242.eq
def L225_3.H:LHead:=⟨false,true,0,135171,135171,102,32,0,[(PS.mk (us 1 (qR::(pp 0)::us 2 (pI::pI::us 25 []))) [(oG [qR,qR])])],[((Out.exit 0),(PS.mk (us 5 (pI::us 26 [])) []))]⟩
def L225_3.O:Orc P:=⟨[F242.E],[],[],40⟩
def L225_3.s0:Option τ :=
 br (ltI (gI l 3) (gN l 0))
 (ck (((eqM (gN l 4) (List.length (gL l 5)))&&((eqM (gN l 6) (List.length (gL l 7)))&&true))&&true)
 (F242 [.L (gL l 5),.L (gL l 7),.I (gI l 3)]
 (fun j A=>(sw (br (!(gB A 0))
 (ck (((leI 0 (gI l 3))&&(ltI (gI l 3) (gN l 0)))&&true)
 (ck (ltN ((Int.toNat (gI l 3))*1) (List.length (gL l 1)))
 (ck (((leI 0 (gI l 3))&&(ltI (gI l 3) (gN l 4)))&&true)
 (ck (ltN ((Int.toNat (gI l 3))*1) (List.length (gL l 5)))
 (br ((List.getD (gL l 1) ((Int.toNat (gI l 3))*1) 0) != (List.getD (gL l 5) ((Int.toNat (gI l 3))*1) 0))
 (nx 0 [.N (gN l 0),.L (gL l 1),.I (wr .i64 ((gI l 2)+1)),.I (wr .i64 ((gI l 3)+1)),.N (gN l 4),.L (gL l 5),.N (gN l 6),.L (gL l 7)])
 (nx 0 [.N (gN l 0),.L (gL l 1),.I (gI l 2),.I (wr .i64 ((gI l 3)+1)),.N (gN l 4),.L (gL l 5),.N (gN l 6),.L (gL l 7)]))))))
 (nx 0 [.N (gN l 0),.L (gL l 1),.I (gI l 2),.I (wr .i64 ((gI l 3)+1)),.N (gN l 4),.L (gL l 5),.N (gN l 6),.L (gL l 7)]))
 (fun _=>none)) j)))
 (ex 0 [.I (gI l 2)])
theorem L225_3.e0:LEq L225_3.O L225_3.H 0 L225_3.s0:=by intro τ next κ l;kernel_rfl
def L225_3:LStep P Cf:=LStep.mk1 (by decide) L225_3.e0
def L225_3.b:Option τ:=runE L225_3 fuel κ t l
def L225_3.E:LEnt P:=LStep.E L225_3
end
end Go.Proofs.YticbdgmcofjkeaaGreat.Ai
namespace Go.Proofs.YticbdgmcofjkeaaGreat.Ai
open Go Go.RowKit
noncomputable section
variable {τ:Type} (t:Nat) (nx ex:Nat→LS_→Option τ) (l:LS_) (k κ:Nat→LS_→Option τ)
def L222_4.H:LHead:=⟨false,true,0,114692,114692,51,16,0,[(PS.mk (qR::qR::us 2 (pB::pI::us 20 [])) [])],[(Out.ret,(PS.mk (us 4 (pB::us 21 [])) [])),((Out.exit 0),(PS.mk (us 4 (pB::us 21 [])) []))]⟩
def L222_4.O:Orc P:=⟨[],[],[],40⟩
def L222_4.s0:Option τ :=
 br (ltI (gI l 5) (gN l 0))
 (ck (((leI 0 (gI l 5))&&(ltI (gI l 5) (gN l 0)))&&true)
 (ck (ltN ((Int.toNat (gI l 5))*1) (List.length (gL l 1)))
 (ck (((leI 0 (gI l 5))&&(ltI (gI l 5) (gN l 2)))&&true)
 (ck (ltN ((Int.toNat (gI l 5))*1) (List.length (gL l 3)))
 (br ((List.getD (gL l 1) ((Int.toNat (gI l 5))*1) 0) != (List.getD (gL l 3) ((Int.toNat (gI l 5))*1) 0))
 (ex 0 [.B false])
 (nx 0 [.N (gN l 0),.L (gL l 1),.N (gN l 2),.L (gL l 3),.B (gB l 4),.I (wr .i64 ((gI l 5)+1))]))))))
 (ex 1 [.B (gB l 4)])
theorem L222_4.e0:LEq L222_4.O L222_4.H 0 L222_4.s0:=by intro τ next κ l;kernel_rfl
def L222_4:LStep P Cf:=LStep.mk1 (by decide) L222_4.e0
def L222_4.b:Option τ:=runE L222_4 fuel κ t l
def L222_4.E:LEnt P:=LStep.E L222_4
def F222.ps:List PV2:=[pR,pR]
def F222.sh:List PA:=[(PA.mk (PV3.v pB) [])]
def F222.O:Orc P:=⟨[],[L222_4.E],[],40⟩
def F222:Option τ :=
 br ((((List.length (gL l 0)):Nat):Int) != (((List.length (gL l 1)):Nat):Int))
 (k 0 [.B false])
 (L222_4.b 0 [.N (List.length (gL l 0)),.L (gL l 0),.N (List.length (gL l 1)),.L (gL l 1),.B false,.I 0]
 (fun j A=>(sw (k 0 [.B (gB A 0)])
 (sw (k 0 [.B true])
 (fun _=>none))) j))
theorem F222.eq:FEq F222.O 28 F222.ps F222.sh F222:=by intro τ l κ;kernel_rfl
def F222.E:Ent P:=mkF F222.eq
def F245.ps:List PV2:=[(PV2.agg [aI,iI,PV1.bool]),(PV2.agg [aI,iI,PV1.bool])]
def F245.sh:List PA:=[(PA.mk (PV3.v pB) [])]
def F245.O:Orc P:=⟨[F222.E],[],[],40⟩
def F245:Option τ :=
 br ((gI l 1)==(gI l 4))
 (br ((gB l 2)==(gB l 5))
 (ck ((eqM (List.length (gL l 0)) (List.length (gL l 0)))&&((eqM (List.length (gL l 3)) (List.length (gL l 3)))&&true))
 (F222 [.L (gL l 0),.L (gL l 3)]
 (fun j A=>(sw (k 0 [.B (gB A 0)])
 (fun _=>none)) j)))
 (k 0 [.B false]))
 (k 0 [.B false])
theorem F245.eq:FEq F245.O 58 F245.ps F245.sh F245:=by intro τ l κ;kernel_rfl
def F245.E:Ent P:=mkF F245.eq
def F211.ps:List PV2:=[qState,qState]
def F211.sh:List PA:=[(PA.mk (PV3.v pB) [])]
def F211.O:Orc P:=⟨[F245.E],[],[],40⟩
def F211:Option τ :=
 br ((gI l 3)==(gI l 7))
 (ck (((eqM (List.length (gL l 0)) (List.length (gL l 0)))&&true)&&(((eqM (List.length (gL l 4)) (List.length (gL l 4)))&&true)&&true))
 (F245 [.L (gL l 0),.I (gI l 1),.B (gB l 2),.L (gL l 4),.I (gI l 5),.B (gB l 6)]
 (fun j A=>(sw (k 0 [.B (gB A 0)])
 (fun _=>none)) j)))
 (k 0 [.B false])
theorem F211.eq:FEq F211.O 15 F211.ps F211.sh F211:=by intro τ l κ;kernel_rfl
def F211.E:Ent P:=mkF F211.eq
def L254_4.H:LHead:=⟨false,true,0,307204,307204,51,16,0,[(PS.mk (qM::qM::us 2 (pB::pI::us 21 [])) [])],[(Out.ret,(PS.mk (us 4 (pB::us 22 [])) [])),((Out.exit 0),(PS.mk (us 4 (pB::us 22 [])) []))]⟩
def L254_4.O:Orc P:=⟨[F222.E],[],[],40⟩
def L254_4.s0:Option τ :=
 br (ltI (gI l 5) (gN l 0))
 (ck (((leI 0 (gI l 5))&&(ltI (gI l 5) (gN l 0)))&&true)
 (ck (ltN ((Int.toNat (gI l 5))*1) (List.length (gLL l 1)))
 (ck (((leI 0 (gI l 5))&&(ltI (gI l 5) (gN l 2)))&&true)
 (ck (ltN ((Int.toNat (gI l 5))*1) (List.length (gLL l 3)))
 (ck ((eqM (List.length (List.getD (gLL l 1) ((Int.toNat (gI l 5))*1) [])) (List.length (List.getD (gLL l 1) ((Int.toNat (gI l 5))*1) [])))&&((eqM (List.length (List.getD (gLL l 3) ((Int.toNat (gI l 5))*1) [])) (List.length (List.getD (gLL l 3) ((Int.toNat (gI l 5))*1) [])))&&true))
 (F222 [.L (List.getD (gLL l 1) ((Int.toNat (gI l 5))*1) []),.L (List.getD (gLL l 3) ((Int.toNat (gI l 5))*1) [])]
 (fun j A=>(sw (br (!(gB A 0))
 (ex 0 [.B false])
 (nx 0 [.N (gN l 0),.LL (gLL l 1),.N (gN l 2),.LL (gLL l 3),.B (gB l 4),.I (wr .i64 ((gI l 5)+1))]))
 (fun _=>none)) j)))))))
 (ex 1 [.B (gB l 4)])
theorem L254_4.e0:LEq L254_4.O L254_4.H 0 L254_4.s0:=by intro τ next κ l;kernel_rfl
def L254_4:LStep P Cf:=LStep.mk1 (by decide) L254_4.e0
def L254_4.b:Option τ:=runE L254_4 fuel κ t l
def L254_4.E:LEnt P:=LStep.E L254_4
def F254.ps:List PV2:=[pM,pM]
def F254.sh:List PA:=[(PA.mk (PV3.v pB) [])]
def F254.O:Orc P:=⟨[],[L254_4.E],[],40⟩
def F254:Option τ :=
 br ((((List.length (gLL l 0)):Nat):Int) != (((List.length (gLL l 1)):Nat):Int))
 (k 0 [.B false])
 (L254_4.b 0 [.N (List.length (gLL l 0)),.LL (gLL l 0),.N (List.length (gLL l 1)),.LL (gLL l 1),.B false,.I 0]
 (fun j A=>(sw (k 0 [.B (gB A 0)])
 (sw (k 0 [.B true])
 (fun _=>none))) j))
theorem F254.eq:FEq F254.O 75 F254.ps F254.sh F254:=by intro τ l κ;kernel_rfl
def F254.E:Ent P:=mkF F254.eq
def F224.ps:List PV2:=[(PV2.agg [iI,iI,aI,aM]),(PV2.agg [iI,iI,aI,aM])]
def F224.sh:List PA:=[(PA.mk (PV3.v pB) [])]
def F224.O:Orc P:=⟨[F222.E,F254.E],[],[],40⟩
def F224:Option τ :=
 br ((gI l 0)==(gI l 4))
 (br ((gI l 1)==(gI l 5))
 (ck ((eqM (List.length (gL l 2)) (List.length (gL l 2)))&&((eqM (List.length (gL l 6)) (List.length (gL l 6)))&&true))
 (F222 [.L (gL l 2),.L (gL l 6)]
 (fun j A=>(sw (br (gB A 0)
 (ck ((eqM (List.length (gLL l 3)) (List.length (gLL l 3)))&&((eqM (List.length (gLL l 7)) (List.length (gLL l 7)))&&true))
 (F254 [.LL (gLL l 3),.LL (gLL l 7)]
 (fun j B=>(sw (k 0 [.B (gB B 0)])
 (fun _=>none)) j)))
 (k 0 [.B false]))
 (fun _=>none)) j)))
 (k 0 [.B false]))
 (k 0 [.B false])
theorem F224.eq:FEq F224.O 32 F224.ps F224.sh F224:=by intro τ l κ;kernel_rfl
def F224.E:Ent P:=mkF F224.eq
def F218.ps:List PV2:=[qTold,qTold]
def F218.sh:List PA:=[(PA.mk (PV3.v pB) [])]
def F218.O:Orc P:=⟨[F224.E],[],[],40⟩
def F218:Option τ :=
 br ((gI l 4)==(gI l 9))
 (ck (((eqM (List.length (gL l 2)) (List.length (gL l 2)))&&((eqM (List.length (gLL l 3)) (List.length (gLL l 3)))&&true))&&(((eqM (List.length (gL l 7)) (List.length (gL l 7)))&&((eqM (List.length (gLL l 8)) (List.length (gLL l 8)))&&true))&&true))
 (F224 [.I (gI l 0),.I (gI l 1),.L (gL l 2),.LL (gLL l 3),.I (gI l 5),.I (gI l 6),.L (gL l 7),.LL (gLL l 8)]
 (fun j A=>(sw (k 0 [.B (gB A 0)])
 (fun _=>none)) j)))
 (k 0 [.B false])
theorem F218.eq:FEq F218.O 23 F218.ps F218.sh F218:=by intro τ l κ;kernel_rfl
def F218.E:Ent P:=mkF F218.eq
def F224_1.ps:List PV2:=[qReply,qReply]
def F224_1.sh:List PA:=[(PA.mk (PV3.v pB) [])]
def F224_1.O:Orc P:=⟨[F222.E,F254.E],[],[],40⟩
def F224_1:Option τ :=
 br ((gI l 0)==(gI l 4))
 (br ((gI l 1)==(gI l 5))
 (ck ((eqM (List.length (gL l 2)) (List.length (gL l 2)))&&((eqM (List.length (gL l 6)) (List.length (gL l 6)))&&true))
 (F222 [.L (gL l 2),.L (gL l 6)]
 (fun j A=>(sw (br (gB A 0)
 (ck ((eqM (List.length (gLL l 3)) (List.length (gLL l 3)))&&((eqM (List.length (gLL l 7)) (List.length (gLL l 7)))&&true))
 (F254 [.LL (gLL l 3),.LL (gLL l 7)]
 (fun j B=>(sw (k 0 [.B (gB B 0)])
 (fun _=>none)) j)))
 (k 0 [.B false]))
 (fun _=>none)) j)))
 (k 0 [.B false]))
 (k 0 [.B false])
theorem F224_1.eq:FEq F224_1.O 32 F224_1.ps F224_1.sh F224_1:=by intro τ l κ;kernel_rfl
def F224_1.E:Ent P:=mkF F224_1.eq
def F225_1.ps:List PV2:=[pNoisy,pR]
def F225_1.sh:List PA:=[(PA.mk (PV3.v pI) [])]
def F225_1.O:Orc P:=⟨[],[L225_3.E],[],40⟩
def F225_1:Option τ :=
 L225_3.b 0 [.N (List.length (gL l 2)),.L (gL l 2),.I 0,.I 0,.N (List.length (gL l 0)),.L (gL l 0),.N (List.length (gL l 1)),.L (gL l 1)]
 (fun j A=>(sw (k 0 [.I (gI A 0)])
 (fun _=>none)) j)
theorem F225_1.eq:FEq F225_1.O 33 F225_1.ps F225_1.sh F225_1:=by intro τ l κ;kernel_rfl
def F225_1.E:Ent P:=mkF F225_1.eq
def F222_1.ps:List PV2:=[pR,pR]
def F222_1.sh:List PA:=[(PA.mk (PV3.v pB) [])]
def F222_1.O:Orc P:=⟨[],[L222_4.E],[],40⟩
def F222_1:Option τ :=
 br ((((List.length (gL l 0)):Nat):Int) != (((List.length (gL l 1)):Nat):Int))
 (k 0 [.B false])
 (L222_4.b 0 [.N (List.length (gL l 0)),.L (gL l 0),.N (List.length (gL l 1)),.L (gL l 1),.B false,.I 0]
 (fun j A=>(sw (k 0 [.B (gB A 0)])
 (sw (k 0 [.B true])
 (fun _=>none))) j))
theorem F222_1.eq:FEq F222_1.O 28 F222_1.ps F222_1.sh F222_1:=by intro τ l κ;kernel_rfl
def F222_1.E:Ent P:=mkF F222_1.eq
def L221_3.H:LHead:=⟨false,true,0,110595,110595,99,32,0,[(PS.mk (qR::qR::us 3 ((rr 0)::pI::us 20 [])) [oI])],[((Out.exit 0),(PS.mk (us 5 ((rr 0)::us 21 [])) [oI]))]⟩
def L221_3.O:Orc P:=⟨[],[],[],40⟩
def L221_3.s0:Option τ :=
 br (ltI (gI l 5) (gN l 0))
 (ck (((leI 0 (gI l 5))&&(ltI (gI l 5) (gN l 0)))&&true)
 (ck (ltN ((Int.toNat (gI l 5))*1) (List.length (gL l 1)))
 (ck (((leI 0 (gI l 5))&&(ltI (gI l 5) (gN l 2)))&&true)
 (ck (ltN ((Int.toNat (gI l 5))*1) (List.length (gL l 3)))
 (ck (((((eqM (List.length (gL l 6)) ((gN l 4)*1))&&true)&&(eqM 1 1))&&(leN (((gN l 4)+1)*9) 1099511627776))&&true)
 (nx 0 [.N (gN l 0),.L (gL l 1),.N (gN l 2),.L (gL l 3),.N ((gN l 4)+1),.I (wr .i64 ((gI l 5)+1)),.L ((gL l 6)++(List.take 1 (List.drop 0 [(wr .i64 (((@BitVec.toNat 64 (@HXor.hXor (BitVec (IntKind.bits .i64)) (BitVec (IntKind.bits .i64)) (BitVec (IntKind.bits .i64)) (@instHXorOfXorOp (BitVec (IntKind.bits .i64)) (@BitVec.instXorOp (IntKind.bits .i64))) (BitVec.ofInt 64 (List.getD (gL l 1) ((Int.toNat (gI l 5))*1) 0)) (BitVec.ofInt 64 (List.getD (gL l 3) ((Int.toNat (gI l 5))*1) 0)))):Nat):Int))])))]))))))
 (ex 0 [.N (gN l 4),.L (gL l 6)])
theorem L221_3.e0:LEq L221_3.O L221_3.H 0 L221_3.s0:=by intro τ next κ l;kernel_rfl
def L221_3:LStep P Cf:=LStep.mk1 (by decide) L221_3.e0
def L221_3.b:Option τ:=runE L221_3 fuel κ t l
def L221_3.E:LEnt P:=LStep.E L221_3
def F221.ps:List PV2:=[pR,pR]
def F221.sh:List PA:=[(PA.mk (PV3.v (rr 0)) [cI])]
def F221.O:Orc P:=⟨[],[L221_3.E],[],40⟩
def F221:Option τ :=
 L221_3.b 0 [.N (List.length (gL l 0)),.L (gL l 0),.N (List.length (gL l 1)),.L (gL l 1),.N 0,.I 0,.L []]
 (fun j A=>(sw (k 0 [.N (gN A 0),.L (gL A 1)])
 (fun _=>none)) j)
theorem F221.eq:FEq F221.O 27 F221.ps F221.sh F221:=by intro τ l κ;kernel_rfl
def F221.E:Ent P:=mkF F221.eq
def F223.ps:List PV2:=[pR,pI,pB]
def F223.sh:List PA:=[(PA.mk (PV3.v (PV2.agg [(PV1.sl (PC0.i .i64)),iI,PV1.bool,iI])) [])]
def F223.O:Orc P:=⟨[],[],[],40⟩
def F223:Option τ :=
 k 0 [.N (List.length (gL l 0)),.L (gL l 0),.I (gI l 1),.B (gB l 2),.I 0]
theorem F223.eq:FEq F223.O 29 F223.ps F223.sh F223:=by intro τ l κ;kernel_rfl
def F223.E:Ent P:=mkF F223.eq
end
end Go.Proofs.YticbdgmcofjkeaaGreat.Ai
