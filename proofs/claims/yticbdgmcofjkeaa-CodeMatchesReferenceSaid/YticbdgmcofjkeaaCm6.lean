/-
Part 6 of 7 of the texts for one claim: P23 Xf4 Wd Wf Wi Xk Xj P30 Ma5 Ma6 P31 P33 Wg Wj Wk Xn Ma7 Ma8 P36 P37 Xs Ma9 Wn Xt Xr.
-/
import Derived.Test.YticbdgmcofjkeaaCm5
set_option linter.unusedVariables false
set_option linter.unusedSimpArgs false
namespace Go.Proofs.Yticbdgmcofjkeaa.Ai
open Go Ma
noncomputable section
theorem okLs_cons {p:PV1} {ps:List PV1} {ls:LS_} (h:okLs (p::ps) ls):∃ x ls',ls=x::ls'∧okLeaf p x∧okLs ps ls':=by
 cases ls with
 | nil=>have:=h.1;simp at this
 | cons x ls' =>
  refine ⟨x,ls',rfl,h.2 0 (by simp),by have:=h.1;simpa using this,fun j hj=>?_⟩
  exact h.2 (j+1) (by simpa using hj)
theorem ok_int {k:IntKind} {x:Leaf} (h:okLeaf (.int k) x):∃ n,x=.I n∧wfI k n:=by
 unfold okLeaf at h
 split at h
 ·rename_i e;cases e
 ·rename_i k' n e;cases e;exact ⟨n,rfl,h⟩
 ·rename_i e;cases e
 ·rename_i e;cases e
 ·exact h.elim
theorem ok_arr {k:IntKind} {x:Leaf} (h:okLeaf (.arr (.i k)) x):∃ l,x=.L l∧l.length≤maxLen∧∀ n∈l,wfI k n:=by
 unfold okLeaf at h
 split at h
 ·rename_i e;cases e
 ·rename_i e;cases e
 ·rename_i k' l e;cases e;exact ⟨l,rfl,h.1,h.2⟩
 ·rename_i e;cases e
 ·exact h.elim
theorem wf_u8 {n:Int} (h:wfI .u8 n):0≤n∧n<256:=by
 unfold wfI at h
 simp [Lit.wf,IntKind.min,IntKind.max,IntKind.signed,IntKind.bits] at h
 omega
theorem ok_bytes {x:Leaf} (h:okLeaf (.arr (.i .u8)) x):∃ l,x=.L l∧Bytes l:=by
 obtain ⟨l,e,h1,h2⟩:=ok_arr h
 refine ⟨l,e,by unfold maxLen at h1;omega,fun j=>?_⟩
 by_cases hj:j<l.length
 ·rw [List.getD_eq_getElem?_getD,List.getElem?_eq_getElem hj]
  exact wf_u8 (h2 _ (List.getElem_mem hj))
 ·rw [List.getD_eq_getElem?_getD,List.getElem?_eq_none (by omega)]
  decide
structure Cs (q n:Nat) (G:List (List Int)) (s w g:List Int):Prop where
 cd:Cd q n G
 sent:s∈words q (fadd q) (fmul q) G (List.replicate n 0)
 wd:Wd q n w
 up:Up n g
theorem isRight_of {q n:Nat} {w g:List Int} (hw:Wd q n w) (hg:Up n g):isRight q n w g=true:=by
 unfold isRight
 rw [Bool.and_eq_true]
 exact ⟨isWord_iff.2 ⟨by rw [hw.1],fun i _ hi=>hw.2 i (by have:=hw.1;omega)⟩,hg.gone⟩
theorem Up.pos {n:Nat} {g:List Int} (h:Up n g):∀ k,k<g.length→0≤g.getD k 0:=fun k hk=>(h.2 k hk).1
section
variable {q n:Nat} {G:List (List Int)} {s w g:List Int}
theorem Cs.right (h:Cs q n G s w g):isRight q n w g=true:=isRight_of h.wd h.up
theorem Cs.gs (h:Cs q n G s w g):g.length<2^60:=by have:=h.up.1;have:=h.cd.n1;omega
theorem Cs.cnt (h:Cs q n G s w g):(words q (fadd q) (fmul q) G (List.replicate n 0)).length≤256:=by rw [words_len (n:=0) h.cd.fq];exact h.cd.count
end
theorem short2 {L:List (List Int)} (h:∀ r∈L,r.length<2^60):∀ i,(L.getD i []).length<2^60:=fun i=>by
 by_cases hi:i<L.length
 ·rw [List.getD_eq_getElem?_getD,List.getElem?_eq_getElem hi]
  exact h _ (List.getElem_mem hi)
 ·rw [List.getD_eq_getElem?_getD,List.getElem?_eq_none (by omega)]
  decide
end
end Go.Proofs.Yticbdgmcofjkeaa.Ai
namespace Go.Proofs.Yticbdgmcofjkeaa.Ai
open Go Go.RowKit
noncomputable section
variable {τ:Type} (t:Nat) (nx ex:Nat→LS_→Option τ) (l:LS_) (k κ:Nat→LS_→Option τ)
end
end Go.Proofs.Yticbdgmcofjkeaa.Ai
namespace Go.Proofs.Yticbdgmcofjkeaa.Ai
open Go Ma
noncomputable section
def T29 {τ:Type} (l:LS_) (k:Nat→LS_→Option τ):Option τ:=wrapB F29.E (.v pField) l k
def T29.E:Ent P:=F29.E.wrap (.v pField)
theorem T29_spec {q:Nat} (hq:q∈Qs) {τ:Type} (k:Nat→LS_→Option τ):T29 [.I q] k=k 0 [.I (fp q),.I (fe q),.L (fm q)]:=by
 have h:=fun {τ:Type} (κ:Nat→LS_→Option τ)=>F29_spec hq κ
 generalize fm q=M at h ⊢
 have:=wrap_of (e:=F29.E) (p:=.v pField) (j:=0) (l2:=[.I (fp q),.I (fe q),.N M.length,.L M]) (c:=true&&(true&&(true&&(true&&(true&&(decide (M.length=(List.take (M.length*1) (List.drop 0 M)).length)&&true)))))) (ls':=[.I (fp q),.I (fe q),.L (List.take (M.length*1) (List.drop 0 M))]) (by intro τ κ;kernel_rfl) (by simp) (k:=k) (fun κ=>h κ)
 rw [Nat.mul_one,List.drop_zero,List.take_length] at this
 exact this
def T37 {τ:Type} (l:LS_) (k:Nat→LS_→Option τ):Option τ:=F37 l k
def T37.E:Ent P:=F37.E
def T48 {τ:Type} (l:LS_) (k:Nat→LS_→Option τ):Option τ:=F48 l k
def T48.E:Ent P:=F48.E
def T81 {τ:Type} (l:LS_) (k:Nat→LS_→Option τ):Option τ:=wrapB F81.E (.tup [pField,pB]) l k
def T81.E:Ent P:=F81.E.wrap (.tup [pField,pB])
theorem T81_spec {q:Nat} (hq:q∈Qs) {τ:Type} (k:Nat→LS_→Option τ):T81 [.I q] k=k 0 [.I (fp q),.I (fe q),.L (fm q),.B true]:=by
 have h:=fun {τ:Type} (κ:Nat→LS_→Option τ)=>F81_spec hq κ
 generalize fm q=M at h ⊢
 have:=wrap_of (e:=F81.E) (p:=.tup [pField,pB]) (j:=0) (l2:=[.I (fp q),.I (fe q),.N M.length,.B true,.L M]) (c:=(true&&(true&&(true&&(true&&(true&&(decide (M.length=(List.take (M.length*1) (List.drop 0 M)).length)&&true))))))&&(true&&true)) (ls':=[.I (fp q),.I (fe q),.L (List.take (M.length*1) (List.drop 0 M)),.B true]) (by intro τ κ;kernel_rfl) (by simp) (k:=k) (fun κ=>h κ)
 rw [Nat.mul_one,List.drop_zero,List.take_length] at this
 exact this
end
end Go.Proofs.Yticbdgmcofjkeaa.Ai
namespace Go.Proofs.Yticbdgmcofjkeaa.Ai
open Go Go.RowKit
noncomputable section
variable {τ:Type} (t:Nat) (nx ex:Nat→LS_→Option τ) (l:LS_) (k κ:Nat→LS_→Option τ)
def oao0:List PO:=[oI,(oG [pI,pI,qM]),(oG [(PV2.v (PV1.yld 5))]),(oG [pI,pI,qR]),(oG [(PV2.fn 107 [(p1 1),(p1 2),(p1 3),(p1 4)])]),(PO.loop false [(PV2.agg [iI,iI,(PV1.sl (PC0.m .i64))]),(pp 6),pI,pI,pI,(pp 7),n_,n_,(PV2.agg [iI,iI,(PV1.sl (PC0.m .i64))]),pI,pI,pB,n_,(PV2.v (PV1.ptr 6 (some 0) (some 2))),qM,pI,pB,(PV2.v (PV1.ptr 6 (some 0) (some 1))),pI,(PV2.agg [iI,iI,(PV1.sl (PC0.m .i64))]),(PV2.fn 106 [(p1 1),(p1 3)]),n_,n_,n_,n_,n_,n_,n_,n_,n_] [21] (rfA 30 0) (rfB 30 0) 536870956 true Out.normal),(oG [pI,pI,qM]),(oG [pI])]
def oao1:List PO:=[oI,(oG [pI,pI,qM]),(oG [(PV2.v (PV1.yld 5))]),(oG [pI,pI,qR]),(oG [(PV2.fn 107 [(p1 1),(p1 2),(p1 3),(p1 4)])]),(PO.loop false [(PV2.agg [iI,iI,(PV1.sl (PC0.m .i64))]),(pp 6),pI,pI,pI,(pp 7),n_,n_,(PV2.agg [iI,iI,(PV1.sl (PC0.m .i64))]),pI,pI,pB,n_,(PV2.v (PV1.ptr 6 (some 0) (some 2))),qM,pI,pB,(PV2.v (PV1.ptr 6 (some 0) (some 1))),pI,(PV2.agg [iI,iI,(PV1.sl (PC0.m .i64))]),(PV2.fn 106 [(p1 1),(p1 3)]),n_,n_,n_,n_,n_,n_,n_,n_,n_] [21] (rfA 30 0) (rfB 30 0) 536870956 true Out.normal),(oG [pI,pI,qM]),(oG [pI]),oI]
def oao2:List PO:=[oI,(oG [pI,pI,qM]),(oG [(PV2.v (PV1.yld 5))]),(oG [pI,pI,qR]),(oG [(PV2.fn 107 [(p1 1),(p1 2),(p1 3),(p1 4)])]),(PO.loop false [(PV2.agg [iI,iI,(PV1.sl (PC0.m .i64))]),(pp 6),nS,pI,pI,(pp 7),n_,(PV2.agg [iI,iI,(PV1.sl (PC0.m .i64))]),pI,pI,pB,n_,(PV2.v (PV1.ptr 6 (some 0) (some 1))),pI,pI,(rr 8),(PV2.agg [iI,iI,(PV1.sl (PC0.m .i64))]),(PV2.fn 106 [(p1 1),(p1 3)]),n_,n_,n_,n_,n_,n_,n_,n_,n_] [18] (rfA 27 0) (rfB 27 0) 67108908 true Out.normal),(oG [pI,pI,qM]),(oG [(rr 8)]),oI]
def oao3:List PO:=[oI,(oG [pI,pI,qM]),(oG [(PV2.v (PV1.yld 5))]),(oG [pI,pI,qR]),(oG [(PV2.fn 107 [(p1 1),(p1 2),(p1 3),(p1 4)])]),(PO.loop false [(PV2.agg [iI,iI,(PV1.sl (PC0.m .i64))]),(pp 6),nS,pI,pI,(pp 7),n_,(PV2.agg [iI,iI,(PV1.sl (PC0.m .i64))]),pI,pI,pB,n_,(PV2.v (PV1.ptr 6 (some 0) (some 1))),pI,pI,(rr 8),(PV2.agg [iI,iI,(PV1.sl (PC0.m .i64))]),(PV2.fn 106 [(p1 1),(p1 3)]),n_,n_,n_,n_,n_,n_,n_,n_,n_] [18] (rfA 27 0) (rfB 27 0) 67108908 true Out.normal),(oG [pI,pI,qM]),(oG [(rr 8)]),oI,oI]
def oao4:List PO:=[oI,(oG [pI,pI,qM]),(oG [(PV2.v (PV1.yld 5))]),(oG [pI,pI,qR]),(oG [(PV2.fn 107 [(p1 1),(p1 2),(p1 3),(p1 4)])]),(PO.loop false [(PV2.agg [iI,iI,(PV1.sl (PC0.m .i64))]),(pp 6),nS,pI,pI,(pp 7),n_,(PV2.agg [iI,iI,(PV1.sl (PC0.m .i64))]),pI,pI,pB,n_,(PV2.agg [iI,iI,(PV1.sl (PC0.m .i64))]),(PV2.fn 106 [(p1 1),(p1 3)]),n_,n_,n_,n_,n_,n_,n_] [14] (rfA 51 0) (rfB 51 0) 1048620 true Out.normal),(oG [pI,pI,qM]),(oG [(rr 8)]),oM]
def oao5:List PO:=[oI,(oG [pI,pI,qM]),(oG [(PV2.v (PV1.yld 5))]),(oG [pI,pI,qR]),(oG [(PV2.fn 107 [(p1 1),(p1 2),(p1 3),(p1 4)])]),(PO.loop false [(PV2.agg [iI,iI,(PV1.sl (PC0.m .i64))]),(pp 6),nS,pI,pI,(pp 7),n_,(PV2.agg [iI,iI,(PV1.sl (PC0.m .i64))]),pI,pI,pB,n_,(PV2.agg [iI,iI,(PV1.sl (PC0.m .i64))]),(PV2.fn 106 [(p1 1),(p1 3)]),n_,n_,n_,n_,n_,n_,n_] [14] (rfA 51 0) (rfB 51 0) 1048620 true Out.normal),(oG [pI,pI,qM]),(oG [(rr 10)]),PO.dead,oI,oM]
def oao6:List PO:=[oI,(oG [pI,pI,qM]),(oG [(PV2.v (PV1.yld 5))]),(oG [pI,pI,qR]),(oG [(PV2.fn 107 [(p1 1),(p1 2),(p1 3),(p1 4)])]),(PO.loop false [(PV2.agg [iI,iI,(PV1.sl (PC0.m .i64))]),(pp 6),nS,pI,pI,(pp 7),n_,(PV2.agg [iI,iI,(PV1.sl (PC0.m .i64))]),pI,pI,pB,n_,(PV2.agg [iI,iI,(PV1.sl (PC0.m .i64))]),(PV2.fn 106 [(p1 1),(p1 3)]),n_,n_,n_,n_,n_,n_,n_] [14] (rfA 51 0) (rfB 51 0) 1048620 true Out.normal),(oG [pI,pI,qM]),(oG [(rr 8)]),oM,oI]
def oao7:List PO:=[oI,(oG [pI,pI,qM]),(oG [(PV2.v (PV1.yld 5))]),(oG [pI,pI,qR]),(oG [(PV2.fn 107 [(p1 1),(p1 2),(p1 3),(p1 4)])]),(PO.loop false [(PV2.agg [iI,iI,(PV1.sl (PC0.m .i64))]),(pp 6),nS,pI,pI,(pp 7),n_,(PV2.agg [iI,iI,(PV1.sl (PC0.m .i64))]),pI,pI,pB,n_,(PV2.agg [iI,iI,(PV1.sl (PC0.m .i64))]),(PV2.fn 106 [(p1 1),(p1 3)]),n_,n_,n_,n_,n_,n_,n_] [14] (rfA 51 0) (rfB 51 0) 1048620 true Out.normal),(oG [pI,pI,qM]),(oG [nS])]
def oao8:List PO:=[oI,(oG [pI,pI,qM]),(oG [(PV2.v (PV1.yld 5))]),(oG [pI,pI,qR]),(oG [(PV2.fn 107 [(p1 1),(p1 2),(p1 3),(p1 4)])]),(PO.loop false [(PV2.agg [iI,iI,(PV1.sl (PC0.m .i64))]),(pp 6),nS,pI,pI,(pp 7),n_,(PV2.agg [iI,iI,(PV1.sl (PC0.m .i64))]),pI,pI,pB,n_,(PV2.agg [iI,iI,(PV1.sl (PC0.m .i64))]),(PV2.fn 106 [(p1 1),(p1 3)]),n_,n_,n_,n_,n_,n_,n_] [14] (rfA 51 0) (rfB 51 0) 1048620 true Out.normal),(oG [pI,pI,qM]),(oG [(rr 9)]),oI,oM]
def oao9:List PO:=[oI,(oG [pI,pI,qM]),(oG [(PV2.v (PV1.yld 5))]),(oG [pI,pI,qR]),(oG [(PV2.fn 107 [(p1 1),(p1 2),(p1 3),(p1 4)])]),(PO.loop false [(PV2.agg [iI,iI,(PV1.sl (PC0.m .i64))]),(pp 6),nS,pI,pI,(pp 7),n_,(PV2.agg [iI,iI,(PV1.sl (PC0.m .i64))]),pI,pI,pB,n_,(PV2.agg [iI,iI,(PV1.sl (PC0.m .i64))]),(PV2.fn 106 [(p1 1),(p1 3)]),n_,n_,n_,n_,n_,n_,n_] [14] (rfA 51 0) (rfB 51 0) 1048620 true Out.normal),(oG [pI,pI,qM]),(oG [nS]),oI]
def F90.ps:List PV2:=[pCode]
def F90.sh:List PA:=[(PA.mk (PV3.v pI) [])]
def F90.O:Orc P:=⟨[T37.E,T48.E],[],[],40⟩
def F90:Option τ :=
 ck (((eqM (List.length (gLL l 2)) (List.length (gLL l 2)))&&true)&&true)
 (T37 [.I (gI l 0),.I (gI l 1),.LL (gLL l 2)]
 (fun j A=>(sw (br (!(gB A 0))
 (k 0 [.I 1])
 (ck (((eqM (List.length (gLL l 2)) (List.length (gLL l 2)))&&true)&&true)
 (T48 [.I (gI l 0),.I (gI l 1),.LL (gLL l 2)]
 (fun j B=>(sw (br (gtI (gI B 0) 4096)
 (k 0 [.I 2])
 (k 0 [.I 0]))
 (fun _=>none)) j))))
 (fun _=>none)) j))
theorem F90.eq:FEq F90.O 74 F90.ps F90.sh F90:=by intro τ l κ;kernel_rfl
def F90.E:Ent P:=mkF F90.eq
def L92_3.H:LHead:=⟨false,true,0,311299,311299,456,8,0,[(PS.mk (us 3 (pI::us 2 (qR::pI::pI::us 9 []))) [])],[((Out.exit 0),(PS.mk (us 3 (pI::us 14 [])) []))]⟩
def L92_3.O:Orc P:=⟨[],[],[],40⟩
def L92_3.s0:Option τ :=
 br (ltI (gI l 4) (gI l 3))
 (ck (((leI 0 (gI l 4))&&(ltI (gI l 4) (gN l 1)))&&true)
 (ck (ltN ((Int.toNat (gI l 4))*1) (List.length (gL l 2)))
 (br ((List.getD (gL l 2) ((Int.toNat (gI l 4))*1) 0) != 0)
 (nx 0 [.I (wr .i64 ((gI l 0)+1)),.N (gN l 1),.L (gL l 2),.I (gI l 3),.I (wr .i64 ((gI l 4)+1))])
 (nx 0 [.I (gI l 0),.N (gN l 1),.L (gL l 2),.I (gI l 3),.I (wr .i64 ((gI l 4)+1))]))))
 (ex 0 [.I (gI l 0)])
theorem L92_3.e0:LEq L92_3.O L92_3.H 0 L92_3.s0:=by intro τ next κ l;kernel_rfl
def L92_3:LStep P Cf:=LStep.mk1 (by decide) L92_3.e0
def L92_3.b:Option τ:=runE L92_3 fuel κ t l
def L92_3.E:LEnt P:=LStep.E L92_3
def F92.ps:List PV2:=[pR]
def F92.sh:List PA:=[(PA.mk (PV3.v pI) [])]
def F92.O:Orc P:=⟨[],[L92_3.E],[],40⟩
def F92:Option τ :=
 L92_3.b 0 [.I 0,.N (List.length (gL l 0)),.L (gL l 0),.I (((List.length (gL l 0)):Nat):Int),.I 0]
 (fun j A=>(sw (k 0 [.I (gI A 0)])
 (fun _=>none)) j)
theorem F92.eq:FEq F92.O 76 F92.ps F92.sh F92:=by intro τ l κ;kernel_rfl
def F92.E:Ent P:=mkF F92.eq
def L94_3_1.H:LHead:=⟨true,false,2,270339,270339,12318,0,0,[(PS.mk (us 1 ((rr 0)::pI::qR::(pp 1)::us 7 (pI::pI::us 21 []))) [oI,(oG [pI,pI,qR])])],[((Out.exit 0),(PS.mk (us 35 []) [oI,(oG [pI,pI,qR])]))]⟩
def L94_3_1.O:Orc P:=⟨[T104.E,T103.E],[],[],40⟩
def L94_3_1.s0:Option τ :=
 br (ltI (gI l 5) (gI l 4))
 (ck (((leI 0 (gI l 5))&&(ltI (gI l 5) (gN l 0)))&&true)
 (ck (ltN (0+((Int.toNat (gI l 5))*1)) (List.length (gL l 6)))
 (ck (((leI 0 (gI l 5))&&(ltI (gI l 5) (gN l 2)))&&true)
 (ck (ltN ((Int.toNat (gI l 5))*1) (List.length (gL l 3)))
 (ck (((eqM (gN l 9) (List.length (gL l 10)))&&true)&&true)
 (T104 [.I (gI l 7),.I (gI l 8),.L (gL l 10),.I (gI l 1),.I (List.getD (gL l 3) ((Int.toNat (gI l 5))*1) 0)]
 (fun j A=>(sw (ck (((eqM (gN l 9) (List.length (gL l 10)))&&true)&&true)
 (T103 [.I (gI l 7),.I (gI l 8),.L (gL l 10),.I (List.getD (gL l 6) (0+((Int.toNat (gI l 5))*1)) 0),.I (gI A 0)]
 (fun j B=>(sw (ck (((leI 0 (gI l 5))&&(ltI (gI l 5) (gN l 0)))&&true)
 (ck ((leN ((0+((Int.toNat (gI l 5))*1))+1) (List.length (gL l 6)))&&true)
 (nx 0 [.N (gN l 0),.I (gI l 1),.N (gN l 2),.L (gL l 3),.I (gI l 4),.I (wr .i64 ((gI l 5)+1)),.L (List.set (gL l 6) (0+((Int.toNat (gI l 5))*1)) (gI B 0)),.I (gI l 7),.I (gI l 8),.N (gN l 9),.L (gL l 10)])))
 (fun _=>none)) j)))
 (fun _=>none)) j)))))))
 (ex 0 [.L (gL l 6),.I (gI l 7),.I (gI l 8),.N (gN l 9),.L (gL l 10)])
theorem L94_3_1.e0:LEq L94_3_1.O L94_3_1.H 0 L94_3_1.s0:=by intro τ next κ l;kernel_rfl
def L94_3_1:LStep P Cf:=LStep.mk1 (by decide) L94_3_1.e0
def L94_3_1.b:Option τ:=runE L94_3_1 fuel κ t l
def L94_3_1.E:LEnt P:=LStep.E L94_3_1
def S94_1.H:SHead:=⟨66,[(PV2.agg [iI,iI,(PV1.sl (PC0.i .i64))]),(rr 0),pI,qR],[],[oI],[((PV2.tup []),[oI])]⟩
def S94_1.O:Orc P:=⟨[],[L94_3_1.E],[],40⟩
def S94_1:Option τ :=
 br ((gI l 5)==0)
 (k 0 [.L (gL l 8)])
 (L94_3_1.b 0 [.N (gN l 4),.I (gI l 5),.N (gN l 6),.L (gL l 7),.I (gN l 4),.I 0,.L (gL l 8),.I (gI l 0),.I (gI l 1),.N (gN l 2),.L (gL l 3)]
 (fun j A=>(sw (k 0 [.L (gL A 0)])
 (fun _=>none)) j))
theorem S94_1.eq:SEq S94_1.O S94_1.H S94_1:=by intro τ l κ;kernel_rfl
def S94_1.next:SDyn P S94_1.H:=mkS S94_1.eq
def S94_1.E:SEnt P:=⟨S94_1.H,S94_1.next⟩
def S121_0.H:SHead:=⟨107,[pI,(rr 0)],[(pp 1),(pp 2),(pp 3),(pp 4)],oao0,[(pB,oao0)]⟩
def L121_5.H:LHead:=⟨false,false,9,438277,438277,12583735,256,0,[(PS.mk (pI::(rr 0)::(pp 1)::us 1 ((pp 3)::(pp 4)::us 2 (pB::(rr 8)::us 12 (pI::pI::us 21 [])))) oao1)],[(Out.ret,(PS.mk (us 8 (pB::us 36 [])) oao1)),((Out.exit 0),(PS.mk (us 8 (pB::us 36 [])) oao1))]⟩
def L121_5.O (R:SDyn P S121_0.H):Orc P:=⟨[],[],[S94_1.E,⟨S121_0.H,R⟩],40⟩
def L121_5.s0 (R:SDyn P S121_0.H) {τ:Type} (next ex:Nat→LS_→Option τ) (l:LS_):Option τ :=
 br (ltI (gI l 5) (gI l 4))
 (ck (((((eqM (gN l 1) (gN l 3))&&(eqM (List.length (List.take ((gN l 1)*1) (List.drop 0 (gL l 6)))) (gN l 1)))&&true)&&(eqM (List.length (gL l 43)) (gN l 3)))&&true)
 (ck (((leI 0 (gI l 0))&&(ltI (gI l 0) (gN l 9)))&&true)
 (ck (ltN ((Int.toNat (gI l 0))*1) (List.length (gLL l 10)))
 (S94_1 [.I (gI l 11),.I (gI l 12),.N (gN l 13),.L (gL l 14),.N (gN l 3),.I (gI l 5),.N (List.length (List.getD (gLL l 10) ((Int.toNat (gI l 0))*1) [])),.L (List.getD (gLL l 10) ((Int.toNat (gI l 0))*1) []),.L (List.take ((gN l 1)*1) (List.drop 0 (gL l 6)))]
 (fun j A=>(sw (R.b [.I (wr .i64 ((gI l 0)+1)),.N (gN l 3),.L (gL A 0),.I (gI l 7),.I (gI l 8),.N (gN l 9),.LL (gLL l 10),.I (gI l 11),.I (gI l 12),.N (gN l 13),.L (gL l 14),.I (gI l 15),.I (gI l 16),.N (gN l 17),.LL (gLL l 18),.I (gI l 19),.I (gI l 20),.I (gI l 21),.I (gI l 22),.I (gI l 23),.N (gN l 24),.LL (gLL l 25),.I (gI l 26),.I (gI l 27),.B (gB l 28),.N (gN l 29),.LL (gLL l 30),.I (gI l 31),.B (gB l 32),.I (gI l 33),.I (gI l 34),.I (gI l 35),.N (gN l 36),.LL (gLL l 37),.I (gI l 38),.I (gI l 39),.N (gN l 40),.LL (gLL l 41),.I (gI l 42)]
 (fun j B=>(sw (br (!(gB B 0))
 (ex 0 [.B false,.L (gL l 6),.I (gI B 2),.I (gI B 3),.N (gN B 4),.LL (gLL B 5),.I (gI B 6),.I (gI B 7),.N (gN B 8),.L (gL B 9),.I (gI B 10),.I (gI B 11),.N (gN B 12),.LL (gLL B 13),.I (gI B 14),.I (gI B 15),.I (gI B 16),.I (gI B 17),.I (gI B 18),.N (gN B 19),.LL (gLL B 20),.I (gI B 21),.I (gI B 22),.B (gB B 23),.N (gN B 24),.LL (gLL B 25),.I (gI B 26),.B (gB B 27),.I (gI B 28),.I (gI B 29),.I (gI B 30),.N (gN B 31),.LL (gLL B 32),.I (gI B 33),.I (gI B 34),.N (gN B 35),.LL (gLL B 36),.I (gI B 37),.L (gL B 1)])
 (next 0 [.I (gI l 0),.N (gN l 1),.B (gB l 2),.N (gN l 3),.I (gI l 4),.I (wr .i64 ((gI l 5)+1)),.L (gL l 6),.I (gI B 2),.I (gI B 3),.N (gN B 4),.LL (gLL B 5),.I (gI B 6),.I (gI B 7),.N (gN B 8),.L (gL B 9),.I (gI B 10),.I (gI B 11),.N (gN B 12),.LL (gLL B 13),.I (gI B 14),.I (gI B 15),.I (gI B 16),.I (gI B 17),.I (gI B 18),.N (gN B 19),.LL (gLL B 20),.I (gI B 21),.I (gI B 22),.B (gB B 23),.N (gN B 24),.LL (gLL B 25),.I (gI B 26),.B (gB B 27),.I (gI B 28),.I (gI B 29),.I (gI B 30),.N (gN B 31),.LL (gLL B 32),.I (gI B 33),.I (gI B 34),.N (gN B 35),.LL (gLL B 36),.I (gI B 37),.L (gL B 1)]))
 (fun _=>none)) j))
 (fun _=>none)) j)))))
 (ex 1 [.B (gB l 2),.L (gL l 6),.I (gI l 7),.I (gI l 8),.N (gN l 9),.LL (gLL l 10),.I (gI l 11),.I (gI l 12),.N (gN l 13),.L (gL l 14),.I (gI l 15),.I (gI l 16),.N (gN l 17),.LL (gLL l 18),.I (gI l 19),.I (gI l 20),.I (gI l 21),.I (gI l 22),.I (gI l 23),.N (gN l 24),.LL (gLL l 25),.I (gI l 26),.I (gI l 27),.B (gB l 28),.N (gN l 29),.LL (gLL l 30),.I (gI l 31),.B (gB l 32),.I (gI l 33),.I (gI l 34),.I (gI l 35),.N (gN l 36),.LL (gLL l 37),.I (gI l 38),.I (gI l 39),.N (gN l 40),.LL (gLL l 41),.I (gI l 42),.L (gL l 43)])
theorem L121_5.e0 (R:SDyn P S121_0.H):LEq (L121_5.O R) L121_5.H 0 (L121_5.s0 R):=by intro τ next κ l;kernel_rfl
def L121_5 (R:SDyn P S121_0.H):LStep P Cf:=LStep.mk1 (by decide) (L121_5.e0 R)
def L121_5.b (R:SDyn P S121_0.H) {τ:Type} (t:Nat) (l:LS_) (κ:Nat→LS_→Option τ):Option τ:=runE (L121_5 R) fuel κ t l
def L121_5.E (R:SDyn P S121_0.H):LEnt P:=LStep.E (L121_5 R)
def S121_0.O (R:SDyn P S121_0.H):Orc P:=⟨[F92.E,F71.E],[L121_5.E R],[],40⟩
def S121_0.body (R:SDyn P S121_0.H) {τ:Type} (l:LS_) (k:Nat→LS_→Option τ):Option τ :=
 br ((gI l 0)==(((gN l 5):Nat):Int))
 (ck ((eqM (gN l 1) (List.length (List.take ((gN l 1)*1) (List.drop 0 (gL l 2)))))&&true)
 (F92 [.L (List.take ((gN l 1)*1) (List.drop 0 (gL l 2)))]
 (fun j A=>(sw (br (gtI (gI A 0) 0)
 (k 0 [.B true,.L (gL l 2),.I (gI l 3),.I (gI l 4),.N (gN l 5),.LL (gLL l 6),.I (gI l 7),.I (gI l 8),.N (gN l 9),.L (gL l 10),.I (gI l 11),.I (gI l 12),.N (gN l 13),.LL (gLL l 14),.I (gI l 15),.I (gI l 16),.I (gI l 17),.I (gI l 18),.I (gI l 19),.N (gN l 20),.LL (gLL l 21),.I (gI l 22),.I (gI l 23),.B (gB l 24),.N (gN l 25),.LL (gLL l 26),.I (gI l 27),.B (gB l 28),.I (gI l 29),.I (gI l 30),.I (gI l 31),.N (gN l 32),.LL (gLL l 33),.I (gI l 34),.I (gI l 35),.N (gN l 36),.LL (gLL l 37),.I (min (gI l 38) (gI A 0))])
 (k 0 [.B true,.L (gL l 2),.I (gI l 3),.I (gI l 4),.N (gN l 5),.LL (gLL l 6),.I (gI l 7),.I (gI l 8),.N (gN l 9),.L (gL l 10),.I (gI l 11),.I (gI l 12),.N (gN l 13),.LL (gLL l 14),.I (gI l 15),.I (gI l 16),.I (gI l 17),.I (gI l 18),.I (gI l 19),.N (gN l 20),.LL (gLL l 21),.I (gI l 22),.I (gI l 23),.B (gB l 24),.N (gN l 25),.LL (gLL l 26),.I (gI l 27),.B (gB l 28),.I (gI l 29),.I (gI l 30),.I (gI l 31),.N (gN l 32),.LL (gLL l 33),.I (gI l 34),.I (gI l 35),.N (gN l 36),.LL (gLL l 37),.I (gI l 38)]))
 (fun _=>none)) j)))
 (ck ((eqM (gN l 1) (List.length (List.take ((gN l 1)*1) (List.drop 0 (gL l 2)))))&&true)
 (F71 [.L (List.take ((gN l 1)*1) (List.drop 0 (gL l 2)))]
 (fun j A=>(sw (L121_5.b R 0 [.I (gI l 0),.N (gN l 1),.B false,.N (gN A 0),.I (gI l 3),.I 0,.L (gL l 2),.I (gI l 3),.I (gI l 4),.N (gN l 5),.LL (gLL l 6),.I (gI l 7),.I (gI l 8),.N (gN l 9),.L (gL l 10),.I (gI l 11),.I (gI l 12),.N (gN l 13),.LL (gLL l 14),.I (gI l 15),.I (gI l 16),.I (gI l 17),.I (gI l 18),.I (gI l 19),.N (gN l 20),.LL (gLL l 21),.I (gI l 22),.I (gI l 23),.B (gB l 24),.N (gN l 25),.LL (gLL l 26),.I (gI l 27),.B (gB l 28),.I (gI l 29),.I (gI l 30),.I (gI l 31),.N (gN l 32),.LL (gLL l 33),.I (gI l 34),.I (gI l 35),.N (gN l 36),.LL (gLL l 37),.I (gI l 38),.L (gL A 1)]
 (fun j B=>(sw (k 0 [.B (gB B 0),.L (gL B 1),.I (gI B 2),.I (gI B 3),.N (gN B 4),.LL (gLL B 5),.I (gI B 6),.I (gI B 7),.N (gN B 8),.L (gL B 9),.I (gI B 10),.I (gI B 11),.N (gN B 12),.LL (gLL B 13),.I (gI B 14),.I (gI B 15),.I (gI B 16),.I (gI B 17),.I (gI B 18),.N (gN B 19),.LL (gLL B 20),.I (gI B 21),.I (gI B 22),.B (gB B 23),.N (gN B 24),.LL (gLL B 25),.I (gI B 26),.B (gB B 27),.I (gI B 28),.I (gI B 29),.I (gI B 30),.N (gN B 31),.LL (gLL B 32),.I (gI B 33),.I (gI B 34),.N (gN B 35),.LL (gLL B 36),.I (gI B 37)])
 (sw (k 0 [.B true,.L (gL B 1),.I (gI B 2),.I (gI B 3),.N (gN B 4),.LL (gLL B 5),.I (gI B 6),.I (gI B 7),.N (gN B 8),.L (gL B 9),.I (gI B 10),.I (gI B 11),.N (gN B 12),.LL (gLL B 13),.I (gI B 14),.I (gI B 15),.I (gI B 16),.I (gI B 17),.I (gI B 18),.N (gN B 19),.LL (gLL B 20),.I (gI B 21),.I (gI B 22),.B (gB B 23),.N (gN B 24),.LL (gLL B 25),.I (gI B 26),.B (gB B 27),.I (gI B 28),.I (gI B 29),.I (gI B 30),.N (gN B 31),.LL (gLL B 32),.I (gI B 33),.I (gI B 34),.N (gN B 35),.LL (gLL B 36),.I (gI B 37)])
 (fun _=>none))) j))
 (fun _=>none)) j)))
theorem S121_0.eq (R:SDyn P S121_0.H):SEq (S121_0.O R) S121_0.H (S121_0.body R):=by intro τ l κ;kernel_rfl
def S121_0.next (R:SDyn P S121_0.H):SDyn P S121_0.H:=mkS (S121_0.eq R)
def S121_0.D (n:Nat):SDyn P S121_0.H:=Nat.rec ⟨fun _ _=>none,fun _ _ _ h=>nomatch h⟩ (fun _ R=>S121_0.next R) n
def S121_0:Option τ:=(S121_0.D fuel).b l k
def S121_0.E:SEnt P:=⟨S121_0.H,S121_0.D fuel⟩
def F50.ps:List PV2:=[pCode]
def F50.sh:List PA:=[(PA.mk (PV3.tup [(pC 0),pI]) []),(PA.mk (PV3.tup [(pC 0),(pC 4)]) []),(PA.mk (PV3.tup [pI,(pC 0)]) [])]
def F50.O:Orc P:=⟨[F90.E,T81.E],[],[S121_0.E],40⟩
def F50:Option τ :=
 ck (((eqM (List.length (gLL l 2)) (List.length (gLL l 2)))&&true)&&true)
 (F90 [.I (gI l 0),.I (gI l 1),.LL (gLL l 2)]
 (fun j A=>(sw (br ((gI A 0) != 0)
 (k 0 [.I (gI A 0)])
 (br ((((List.length (gLL l 2)):Nat):Int)==0)
 (k 1 [])
 (T81 [.I (gI l 0)]
 (fun j B=>(sw (ck (((leI 0 (gI l 1))&&(leI (gI l 1) (gI l 1)))&&(leI ((gI l 1)*9) 1099511627776))
 (S121_0 [.I 0,.N (Int.toNat (gI l 1)),.L (List.replicate (Int.toNat (gI l 1)) (0:Int)),.I (gI l 0),.I (gI l 1),.N (List.length (gLL l 2)),.LL (gLL l 2),.I (gI B 0),.I (gI B 1),.N (List.length (gL B 2)),.L (gL B 2),.I (gI l 0),.I (gI l 1),.N (List.length (gLL l 2)),.LL (gLL l 2),.I 0,.I 0,.I (gI A 0),.I (gI l 0),.I (gI l 1),.N (List.length (gLL l 2)),.LL (gLL l 2),.I (gI A 0),.I (gI A 0),.B false,.N (List.length (gLL l 2)),.LL (gLL l 2),.I (((List.length (gLL l 2)):Nat):Int),.B false,.I (gI l 1),.I (gI l 0),.I (gI l 1),.N (List.length (gLL l 2)),.LL (gLL l 2),.I (gI l 0),.I (gI l 1),.N (List.length (gLL l 2)),.LL (gLL l 2),.I (gI l 1)]
 (fun j C=>(sw (k 2 [.I (gI C 37)])
 (fun _=>none)) j)))
 (fun _=>none)) j))))
 (fun _=>none)) j))
theorem F50.eq:FEq F50.O 30 F50.ps F50.sh F50:=by intro τ l κ;kernel_rfl
def F50.E:Ent P:=mkF F50.eq
def S121_1.H:SHead:=⟨107,[pI,(rr 0)],[(pp 1),(pp 2),(pp 3),(pp 4)],oao2,[(pB,oao2)]⟩
def L121_5_1.H:LHead:=⟨false,false,10,438277,438277,12583735,256,0,[(PS.mk (pI::(rr 0)::(pp 1)::us 1 ((pp 3)::(pp 4)::us 2 (pB::(rr 9)::us 12 (pI::pI::us 21 [])))) oao3)],[(Out.ret,(PS.mk (us 8 (pB::us 36 [])) oao3)),((Out.exit 0),(PS.mk (us 8 (pB::us 36 [])) oao3))]⟩
def L121_5_1.O (R:SDyn P S121_1.H):Orc P:=⟨[],[],[S94_1.E,⟨S121_1.H,R⟩],40⟩
def L121_5_1.s0 (R:SDyn P S121_1.H) {τ:Type} (next ex:Nat→LS_→Option τ) (l:LS_):Option τ :=
 br (ltI (gI l 5) (gI l 4))
 (ck (((((eqM (gN l 1) (gN l 3))&&(eqM (List.length (List.take ((gN l 1)*1) (List.drop 0 (gL l 6)))) (gN l 1)))&&true)&&(eqM (List.length (gL l 41)) (gN l 3)))&&true)
 (ck (((leI 0 (gI l 0))&&(ltI (gI l 0) (gN l 9)))&&true)
 (ck (ltN ((Int.toNat (gI l 0))*1) (List.length (gLL l 10)))
 (S94_1 [.I (gI l 11),.I (gI l 12),.N (gN l 13),.L (gL l 14),.N (gN l 3),.I (gI l 5),.N (List.length (List.getD (gLL l 10) ((Int.toNat (gI l 0))*1) [])),.L (List.getD (gLL l 10) ((Int.toNat (gI l 0))*1) []),.L (List.take ((gN l 1)*1) (List.drop 0 (gL l 6)))]
 (fun j A=>(sw (R.b [.I (wr .i64 ((gI l 0)+1)),.N (gN l 3),.L (gL A 0),.I (gI l 7),.I (gI l 8),.N (gN l 9),.LL (gLL l 10),.I (gI l 11),.I (gI l 12),.N (gN l 13),.L (gL l 14),.I (gI l 15),.I (gI l 16),.N (gN l 17),.LL (gLL l 18),.I (gI l 19),.I (gI l 20),.I (gI l 21),.I (gI l 22),.N (gN l 23),.LL (gLL l 24),.I (gI l 25),.I (gI l 26),.B (gB l 27),.I (gI l 28),.I (gI l 29),.N (gN l 30),.I (gI l 31),.I (gI l 32),.N (gN l 33),.LL (gLL l 34),.I (gI l 35),.I (gI l 36),.N (gN l 37),.LL (gLL l 38),.N (gN l 39),.L (gL l 40)]
 (fun j B=>(sw (br (!(gB B 0))
 (ex 0 [.B false,.L (gL l 6),.I (gI B 2),.I (gI B 3),.N (gN B 4),.LL (gLL B 5),.I (gI B 6),.I (gI B 7),.N (gN B 8),.L (gL B 9),.I (gI B 10),.I (gI B 11),.N (gN B 12),.LL (gLL B 13),.I (gI B 14),.I (gI B 15),.I (gI B 16),.I (gI B 17),.N (gN B 18),.LL (gLL B 19),.I (gI B 20),.I (gI B 21),.B (gB B 22),.I (gI B 23),.I (gI B 24),.N (gN B 25),.I (gI B 26),.I (gI B 27),.N (gN B 28),.LL (gLL B 29),.I (gI B 30),.I (gI B 31),.N (gN B 32),.LL (gLL B 33),.N (gN B 34),.L (gL B 35),.L (gL B 1)])
 (next 0 [.I (gI l 0),.N (gN l 1),.B (gB l 2),.N (gN l 3),.I (gI l 4),.I (wr .i64 ((gI l 5)+1)),.L (gL l 6),.I (gI B 2),.I (gI B 3),.N (gN B 4),.LL (gLL B 5),.I (gI B 6),.I (gI B 7),.N (gN B 8),.L (gL B 9),.I (gI B 10),.I (gI B 11),.N (gN B 12),.LL (gLL B 13),.I (gI B 14),.I (gI B 15),.I (gI B 16),.I (gI B 17),.N (gN B 18),.LL (gLL B 19),.I (gI B 20),.I (gI B 21),.B (gB B 22),.I (gI B 23),.I (gI B 24),.N (gN B 25),.I (gI B 26),.I (gI B 27),.N (gN B 28),.LL (gLL B 29),.I (gI B 30),.I (gI B 31),.N (gN B 32),.LL (gLL B 33),.N (gN B 34),.L (gL B 35),.L (gL B 1)]))
 (fun _=>none)) j))
 (fun _=>none)) j)))))
 (ex 1 [.B (gB l 2),.L (gL l 6),.I (gI l 7),.I (gI l 8),.N (gN l 9),.LL (gLL l 10),.I (gI l 11),.I (gI l 12),.N (gN l 13),.L (gL l 14),.I (gI l 15),.I (gI l 16),.N (gN l 17),.LL (gLL l 18),.I (gI l 19),.I (gI l 20),.I (gI l 21),.I (gI l 22),.N (gN l 23),.LL (gLL l 24),.I (gI l 25),.I (gI l 26),.B (gB l 27),.I (gI l 28),.I (gI l 29),.N (gN l 30),.I (gI l 31),.I (gI l 32),.N (gN l 33),.LL (gLL l 34),.I (gI l 35),.I (gI l 36),.N (gN l 37),.LL (gLL l 38),.N (gN l 39),.L (gL l 40),.L (gL l 41)])
theorem L121_5_1.e0 (R:SDyn P S121_1.H):LEq (L121_5_1.O R) L121_5_1.H 0 (L121_5_1.s0 R):=by intro τ next κ l;kernel_rfl
def L121_5_1 (R:SDyn P S121_1.H):LStep P Cf:=LStep.mk1 (by decide) (L121_5_1.e0 R)
def L121_5_1.b (R:SDyn P S121_1.H) {τ:Type} (t:Nat) (l:LS_) (κ:Nat→LS_→Option τ):Option τ:=runE (L121_5_1 R) fuel κ t l
def L121_5_1.E (R:SDyn P S121_1.H):LEnt P:=LStep.E (L121_5_1 R)
def S121_1.O (R:SDyn P S121_1.H):Orc P:=⟨[F92.E,F71.E],[L121_5_1.E R],[],40⟩
def S121_1.body (R:SDyn P S121_1.H) {τ:Type} (l:LS_) (k:Nat→LS_→Option τ):Option τ :=
 br ((gI l 0)==(((gN l 5):Nat):Int))
 (ck ((eqM (gN l 1) (List.length (List.take ((gN l 1)*1) (List.drop 0 (gL l 2)))))&&true)
 (F92 [.L (List.take ((gN l 1)*1) (List.drop 0 (gL l 2)))]
 (fun j A=>(sw (ck (((leI 0 (gI A 0))&&(ltI (gI A 0) (gN l 35)))&&true)
 (ck (ltN (0+((Int.toNat (gI A 0))*1)) (List.length (gL l 36)))
 (ck (((leI 0 (gI A 0))&&(ltI (gI A 0) (gN l 35)))&&true)
 (ck ((leN ((0+((Int.toNat (gI A 0))*1))+1) (List.length (gL l 36)))&&true)
 (k 0 [.B true,.L (gL l 2),.I (gI l 3),.I (gI l 4),.N (gN l 5),.LL (gLL l 6),.I (gI l 7),.I (gI l 8),.N (gN l 9),.L (gL l 10),.I (gI l 11),.I (gI l 12),.N (gN l 13),.LL (gLL l 14),.I (gI l 15),.I (gI l 16),.I (gI l 17),.I (gI l 18),.N (gN l 19),.LL (gLL l 20),.I (gI l 21),.I (gI l 22),.B (gB l 23),.I (gI l 24),.I (gI l 25),.N (gN l 26),.I (gI l 27),.I (gI l 28),.N (gN l 29),.LL (gLL l 30),.I (gI l 31),.I (gI l 32),.N (gN l 33),.LL (gLL l 34),.N (gN l 35),.L (List.set (gL l 36) (0+((Int.toNat (gI A 0))*1)) (wr .i64 ((List.getD (gL l 36) (0+((Int.toNat (gI A 0))*1)) 0)+1)))])))))
 (fun _=>none)) j)))
 (ck ((eqM (gN l 1) (List.length (List.take ((gN l 1)*1) (List.drop 0 (gL l 2)))))&&true)
 (F71 [.L (List.take ((gN l 1)*1) (List.drop 0 (gL l 2)))]
 (fun j A=>(sw (L121_5_1.b R 0 [.I (gI l 0),.N (gN l 1),.B false,.N (gN A 0),.I (gI l 3),.I 0,.L (gL l 2),.I (gI l 3),.I (gI l 4),.N (gN l 5),.LL (gLL l 6),.I (gI l 7),.I (gI l 8),.N (gN l 9),.L (gL l 10),.I (gI l 11),.I (gI l 12),.N (gN l 13),.LL (gLL l 14),.I (gI l 15),.I (gI l 16),.I (gI l 17),.I (gI l 18),.N (gN l 19),.LL (gLL l 20),.I (gI l 21),.I (gI l 22),.B (gB l 23),.I (gI l 24),.I (gI l 25),.N (gN l 26),.I (gI l 27),.I (gI l 28),.N (gN l 29),.LL (gLL l 30),.I (gI l 31),.I (gI l 32),.N (gN l 33),.LL (gLL l 34),.N (gN l 35),.L (gL l 36),.L (gL A 1)]
 (fun j B=>(sw (k 0 [.B (gB B 0),.L (gL B 1),.I (gI B 2),.I (gI B 3),.N (gN B 4),.LL (gLL B 5),.I (gI B 6),.I (gI B 7),.N (gN B 8),.L (gL B 9),.I (gI B 10),.I (gI B 11),.N (gN B 12),.LL (gLL B 13),.I (gI B 14),.I (gI B 15),.I (gI B 16),.I (gI B 17),.N (gN B 18),.LL (gLL B 19),.I (gI B 20),.I (gI B 21),.B (gB B 22),.I (gI B 23),.I (gI B 24),.N (gN B 25),.I (gI B 26),.I (gI B 27),.N (gN B 28),.LL (gLL B 29),.I (gI B 30),.I (gI B 31),.N (gN B 32),.LL (gLL B 33),.N (gN B 34),.L (gL B 35)])
 (sw (k 0 [.B true,.L (gL B 1),.I (gI B 2),.I (gI B 3),.N (gN B 4),.LL (gLL B 5),.I (gI B 6),.I (gI B 7),.N (gN B 8),.L (gL B 9),.I (gI B 10),.I (gI B 11),.N (gN B 12),.LL (gLL B 13),.I (gI B 14),.I (gI B 15),.I (gI B 16),.I (gI B 17),.N (gN B 18),.LL (gLL B 19),.I (gI B 20),.I (gI B 21),.B (gB B 22),.I (gI B 23),.I (gI B 24),.N (gN B 25),.I (gI B 26),.I (gI B 27),.N (gN B 28),.LL (gLL B 29),.I (gI B 30),.I (gI B 31),.N (gN B 32),.LL (gLL B 33),.N (gN B 34),.L (gL B 35)])
 (fun _=>none))) j))
 (fun _=>none)) j)))
theorem S121_1.eq (R:SDyn P S121_1.H):SEq (S121_1.O R) S121_1.H (S121_1.body R):=by intro τ l κ;kernel_rfl
def S121_1.next (R:SDyn P S121_1.H):SDyn P S121_1.H:=mkS (S121_1.eq R)
def S121_1.D (n:Nat):SDyn P S121_1.H:=Nat.rec ⟨fun _ _=>none,fun _ _ _ h=>nomatch h⟩ (fun _ R=>S121_1.next R) n
def S121_1:Option τ:=(S121_1.D fuel).b l k
def S121_1.E:SEnt P:=⟨S121_1.H,S121_1.D fuel⟩
def F42.ps:List PV2:=[pCode]
def F42.sh:List PA:=[(PA.mk (PV3.tup [nS,pI]) []),(PA.mk (PV3.tup [(rr 0),(pC 0)]) [cI])]
def F42.O:Orc P:=⟨[F90.E,T81.E],[],[S121_1.E],40⟩
def F42:Option τ :=
 ck (((eqM (List.length (gLL l 2)) (List.length (gLL l 2)))&&true)&&true)
 (F90 [.I (gI l 0),.I (gI l 1),.LL (gLL l 2)]
 (fun j A=>(sw (br ((gI A 0) != 0)
 (k 0 [.I (gI A 0)])
 (ck (((leI 0 (wr .i64 ((gI l 1)+1)))&&(leI (wr .i64 ((gI l 1)+1)) (wr .i64 ((gI l 1)+1))))&&(leI ((wr .i64 ((gI l 1)+1))*9) 1099511627776))
 (T81 [.I (gI l 0)]
 (fun j B=>(sw (ck (((leI 0 (gI l 1))&&(leI (gI l 1) (gI l 1)))&&(leI ((gI l 1)*9) 1099511627776))
 (S121_1 [.I 0,.N (Int.toNat (gI l 1)),.L (List.replicate (Int.toNat (gI l 1)) (0:Int)),.I (gI l 0),.I (gI l 1),.N (List.length (gLL l 2)),.LL (gLL l 2),.I (gI B 0),.I (gI B 1),.N (List.length (gL B 2)),.L (gL B 2),.I (gI l 0),.I (gI l 1),.N (List.length (gLL l 2)),.LL (gLL l 2),.I 0,.I (gI A 0),.I (gI l 0),.I (gI l 1),.N (List.length (gLL l 2)),.LL (gLL l 2),.I (gI A 0),.I (gI A 0),.B false,.I (gI l 1),.I (wr .i64 ((gI l 1)+1)),.N (Int.toNat (wr .i64 ((gI l 1)+1))),.I (gI l 0),.I (gI l 1),.N (List.length (gLL l 2)),.LL (gLL l 2),.I (gI l 0),.I (gI l 1),.N (List.length (gLL l 2)),.LL (gLL l 2),.N (Int.toNat (wr .i64 ((gI l 1)+1))),.L (List.replicate (Int.toNat (wr .i64 ((gI l 1)+1))) (0:Int))]
 (fun j C=>(sw (k 1 [.N (gN C 34),.L (gL C 35)])
 (fun _=>none)) j)))
 (fun _=>none)) j))))
 (fun _=>none)) j))
theorem F42.eq:FEq F42.O 27 F42.ps F42.sh F42:=by intro τ l κ;kernel_rfl
def F42.E:Ent P:=mkF F42.eq
def S121_3.H:SHead:=⟨107,[pI,(rr 0)],[(pp 1),(pp 2),(pp 3),(pp 4)],oao4,[(pB,[oI,(oG [pI,pI,qM]),(oG [(PV2.v (PV1.yld 5))]),(oG [pI,pI,qR]),(oG [(PV2.fn 107 [(p1 1),(p1 2),(p1 3),(p1 4)])]),(PO.loop false [(PV2.agg [iI,iI,(PV1.sl (PC0.m .i64))]),(pp 6),nS,pI,pI,(pp 7),n_,(PV2.agg [iI,iI,(PV1.sl (PC0.m .i64))]),pI,pI,pB,n_,(PV2.agg [iI,iI,(PV1.sl (PC0.m .i64))]),(PV2.fn 106 [(p1 1),(p1 3)]),n_,n_,n_,n_,n_,n_,n_] [14] (rfA 51 0) (rfB 51 0) 1048620 true Out.normal),(oG [pI,pI,qM]),(oG [(rr 9)]),PO.dead,oM]),(pB,oao4)]⟩
def L121_5_3.H:LHead:=⟨false,false,10,438277,438277,12583735,256,0,[(PS.mk (pI::(rr 0)::(pp 1)::us 1 ((pp 3)::(pp 4)::us 2 (pB::(rr 9)::us 12 (pI::pI::us 21 [])))) oao6),(PS.mk (pI::(rr 0)::(pp 1)::us 1 ((pp 3)::(pp 4)::us 2 (pB::(rr 9)::us 12 (pI::pI::us 21 [])))) oao5)],[(Out.ret,(PS.mk (us 8 (pB::us 36 [])) oao5)),(Out.ret,(PS.mk (us 8 (pB::us 36 [])) oao6)),((Out.exit 0),(PS.mk (us 8 (pB::us 36 [])) oao6)),((Out.exit 0),(PS.mk (us 8 (pB::us 36 [])) oao5))]⟩
def L121_5_3.O (R:SDyn P S121_3.H):Orc P:=⟨[],[],[S94_1.E,⟨S121_3.H,R⟩],40⟩
def L121_5_3.s0 (R:SDyn P S121_3.H) {τ:Type} (next ex:Nat→LS_→Option τ) (l:LS_):Option τ :=
 br (ltI (gI l 5) (gI l 4))
 (ck (((((eqM (gN l 1) (gN l 3))&&(eqM (List.length (List.take ((gN l 1)*1) (List.drop 0 (gL l 6)))) (gN l 1)))&&true)&&(eqM (List.length (gL l 38)) (gN l 3)))&&true)
 (ck (((leI 0 (gI l 0))&&(ltI (gI l 0) (gN l 9)))&&true)
 (ck (ltN ((Int.toNat (gI l 0))*1) (List.length (gLL l 10)))
 (S94_1 [.I (gI l 11),.I (gI l 12),.N (gN l 13),.L (gL l 14),.N (gN l 3),.I (gI l 5),.N (List.length (List.getD (gLL l 10) ((Int.toNat (gI l 0))*1) [])),.L (List.getD (gLL l 10) ((Int.toNat (gI l 0))*1) []),.L (List.take ((gN l 1)*1) (List.drop 0 (gL l 6)))]
 (fun j A=>(sw (R.b [.I (wr .i64 ((gI l 0)+1)),.N (gN l 3),.L (gL A 0),.I (gI l 7),.I (gI l 8),.N (gN l 9),.LL (gLL l 10),.I (gI l 11),.I (gI l 12),.N (gN l 13),.L (gL l 14),.I (gI l 15),.I (gI l 16),.N (gN l 17),.LL (gLL l 18),.I (gI l 19),.I (gI l 20),.I (gI l 21),.I (gI l 22),.N (gN l 23),.LL (gLL l 24),.I (gI l 25),.I (gI l 26),.B (gB l 27),.I (gI l 28),.I (gI l 29),.N (gN l 30),.LL (gLL l 31),.I (gI l 32),.I (gI l 33),.N (gN l 34),.LL (gLL l 35),.N (gN l 36),.LL (gLL l 37)]
 (fun j B=>(sw (br (!(gB B 0))
 (ex 0 [.B false,.L (gL l 6),.I (gI B 2),.I (gI B 3),.N (gN B 4),.LL (gLL B 5),.I (gI B 6),.I (gI B 7),.N (gN B 8),.L (gL B 9),.I (gI B 10),.I (gI B 11),.N (gN B 12),.LL (gLL B 13),.I (gI B 14),.I (gI B 15),.I (gI B 16),.I (gI B 17),.N (gN B 18),.LL (gLL B 19),.I (gI B 20),.I (gI B 21),.B (gB B 22),.I (gI B 23),.I (gI B 24),.N (gN B 25),.LL (gLL B 26),.I (gI B 27),.I (gI B 28),.N (gN B 29),.LL (gLL B 30),.N (gN B 31),.L (gL B 1),.LL (gLL B 32)])
 (next 1 [.I (gI l 0),.N (gN l 1),.B (gB l 2),.N (gN l 3),.I (gI l 4),.I (wr .i64 ((gI l 5)+1)),.L (gL l 6),.I (gI B 2),.I (gI B 3),.N (gN B 4),.LL (gLL B 5),.I (gI B 6),.I (gI B 7),.N (gN B 8),.L (gL B 9),.I (gI B 10),.I (gI B 11),.N (gN B 12),.LL (gLL B 13),.I (gI B 14),.I (gI B 15),.I (gI B 16),.I (gI B 17),.N (gN B 18),.LL (gLL B 19),.I (gI B 20),.I (gI B 21),.B (gB B 22),.I (gI B 23),.I (gI B 24),.N (gN B 25),.LL (gLL B 26),.I (gI B 27),.I (gI B 28),.N (gN B 29),.LL (gLL B 30),.N (gN B 31),.L (gL B 1),.LL (gLL B 32)]))
 (sw (br (!(gB B 0))
 (ex 1 [.B false,.L (gL l 6),.I (gI B 2),.I (gI B 3),.N (gN B 4),.LL (gLL B 5),.I (gI B 6),.I (gI B 7),.N (gN B 8),.L (gL B 9),.I (gI B 10),.I (gI B 11),.N (gN B 12),.LL (gLL B 13),.I (gI B 14),.I (gI B 15),.I (gI B 16),.I (gI B 17),.N (gN B 18),.LL (gLL B 19),.I (gI B 20),.I (gI B 21),.B (gB B 22),.I (gI B 23),.I (gI B 24),.N (gN B 25),.LL (gLL B 26),.I (gI B 27),.I (gI B 28),.N (gN B 29),.LL (gLL B 30),.N (gN B 31),.LL (gLL B 32),.L (gL B 1)])
 (next 0 [.I (gI l 0),.N (gN l 1),.B (gB l 2),.N (gN l 3),.I (gI l 4),.I (wr .i64 ((gI l 5)+1)),.L (gL l 6),.I (gI B 2),.I (gI B 3),.N (gN B 4),.LL (gLL B 5),.I (gI B 6),.I (gI B 7),.N (gN B 8),.L (gL B 9),.I (gI B 10),.I (gI B 11),.N (gN B 12),.LL (gLL B 13),.I (gI B 14),.I (gI B 15),.I (gI B 16),.I (gI B 17),.N (gN B 18),.LL (gLL B 19),.I (gI B 20),.I (gI B 21),.B (gB B 22),.I (gI B 23),.I (gI B 24),.N (gN B 25),.LL (gLL B 26),.I (gI B 27),.I (gI B 28),.N (gN B 29),.LL (gLL B 30),.N (gN B 31),.LL (gLL B 32),.L (gL B 1)]))
 (fun _=>none))) j))
 (fun _=>none)) j)))))
 (ex 2 [.B (gB l 2),.L (gL l 6),.I (gI l 7),.I (gI l 8),.N (gN l 9),.LL (gLL l 10),.I (gI l 11),.I (gI l 12),.N (gN l 13),.L (gL l 14),.I (gI l 15),.I (gI l 16),.N (gN l 17),.LL (gLL l 18),.I (gI l 19),.I (gI l 20),.I (gI l 21),.I (gI l 22),.N (gN l 23),.LL (gLL l 24),.I (gI l 25),.I (gI l 26),.B (gB l 27),.I (gI l 28),.I (gI l 29),.N (gN l 30),.LL (gLL l 31),.I (gI l 32),.I (gI l 33),.N (gN l 34),.LL (gLL l 35),.N (gN l 36),.LL (gLL l 37),.L (gL l 38)])
theorem L121_5_3.e0 (R:SDyn P S121_3.H):LEq (L121_5_3.O R) L121_5_3.H 0 (L121_5_3.s0 R):=by intro τ next κ l;kernel_rfl
def L121_5_3.s1 (R:SDyn P S121_3.H) {τ:Type} (next ex:Nat→LS_→Option τ) (l:LS_):Option τ :=
 br (ltI (gI l 5) (gI l 4))
 (ck (((((eqM (gN l 1) (gN l 3))&&(eqM (List.length (List.take ((gN l 1)*1) (List.drop 0 (gL l 6)))) (gN l 1)))&&true)&&(eqM (List.length (gL l 37)) (gN l 3)))&&true)
 (ck (((leI 0 (gI l 0))&&(ltI (gI l 0) (gN l 9)))&&true)
 (ck (ltN ((Int.toNat (gI l 0))*1) (List.length (gLL l 10)))
 (S94_1 [.I (gI l 11),.I (gI l 12),.N (gN l 13),.L (gL l 14),.N (gN l 3),.I (gI l 5),.N (List.length (List.getD (gLL l 10) ((Int.toNat (gI l 0))*1) [])),.L (List.getD (gLL l 10) ((Int.toNat (gI l 0))*1) []),.L (List.take ((gN l 1)*1) (List.drop 0 (gL l 6)))]
 (fun j A=>(sw (R.b [.I (wr .i64 ((gI l 0)+1)),.N (gN l 3),.L (gL A 0),.I (gI l 7),.I (gI l 8),.N (gN l 9),.LL (gLL l 10),.I (gI l 11),.I (gI l 12),.N (gN l 13),.L (gL l 14),.I (gI l 15),.I (gI l 16),.N (gN l 17),.LL (gLL l 18),.I (gI l 19),.I (gI l 20),.I (gI l 21),.I (gI l 22),.N (gN l 23),.LL (gLL l 24),.I (gI l 25),.I (gI l 26),.B (gB l 27),.I (gI l 28),.I (gI l 29),.N (gN l 30),.LL (gLL l 31),.I (gI l 32),.I (gI l 33),.N (gN l 34),.LL (gLL l 35),.N (gN l 36),.LL (gLL l 38)]
 (fun j B=>(sw (br (!(gB B 0))
 (ex 0 [.B false,.L (gL l 6),.I (gI B 2),.I (gI B 3),.N (gN B 4),.LL (gLL B 5),.I (gI B 6),.I (gI B 7),.N (gN B 8),.L (gL B 9),.I (gI B 10),.I (gI B 11),.N (gN B 12),.LL (gLL B 13),.I (gI B 14),.I (gI B 15),.I (gI B 16),.I (gI B 17),.N (gN B 18),.LL (gLL B 19),.I (gI B 20),.I (gI B 21),.B (gB B 22),.I (gI B 23),.I (gI B 24),.N (gN B 25),.LL (gLL B 26),.I (gI B 27),.I (gI B 28),.N (gN B 29),.LL (gLL B 30),.N (gN B 31),.L (gL B 1),.LL (gLL B 32)])
 (next 1 [.I (gI l 0),.N (gN l 1),.B (gB l 2),.N (gN l 3),.I (gI l 4),.I (wr .i64 ((gI l 5)+1)),.L (gL l 6),.I (gI B 2),.I (gI B 3),.N (gN B 4),.LL (gLL B 5),.I (gI B 6),.I (gI B 7),.N (gN B 8),.L (gL B 9),.I (gI B 10),.I (gI B 11),.N (gN B 12),.LL (gLL B 13),.I (gI B 14),.I (gI B 15),.I (gI B 16),.I (gI B 17),.N (gN B 18),.LL (gLL B 19),.I (gI B 20),.I (gI B 21),.B (gB B 22),.I (gI B 23),.I (gI B 24),.N (gN B 25),.LL (gLL B 26),.I (gI B 27),.I (gI B 28),.N (gN B 29),.LL (gLL B 30),.N (gN B 31),.L (gL B 1),.LL (gLL B 32)]))
 (sw (br (!(gB B 0))
 (ex 0 [.B false,.L (gL l 6),.I (gI B 2),.I (gI B 3),.N (gN B 4),.LL (gLL B 5),.I (gI B 6),.I (gI B 7),.N (gN B 8),.L (gL B 9),.I (gI B 10),.I (gI B 11),.N (gN B 12),.LL (gLL B 13),.I (gI B 14),.I (gI B 15),.I (gI B 16),.I (gI B 17),.N (gN B 18),.LL (gLL B 19),.I (gI B 20),.I (gI B 21),.B (gB B 22),.I (gI B 23),.I (gI B 24),.N (gN B 25),.LL (gLL B 26),.I (gI B 27),.I (gI B 28),.N (gN B 29),.LL (gLL B 30),.N (gN B 31),.L (gL B 1),.LL (gLL B 32)])
 (next 1 [.I (gI l 0),.N (gN l 1),.B (gB l 2),.N (gN l 3),.I (gI l 4),.I (wr .i64 ((gI l 5)+1)),.L (gL l 6),.I (gI B 2),.I (gI B 3),.N (gN B 4),.LL (gLL B 5),.I (gI B 6),.I (gI B 7),.N (gN B 8),.L (gL B 9),.I (gI B 10),.I (gI B 11),.N (gN B 12),.LL (gLL B 13),.I (gI B 14),.I (gI B 15),.I (gI B 16),.I (gI B 17),.N (gN B 18),.LL (gLL B 19),.I (gI B 20),.I (gI B 21),.B (gB B 22),.I (gI B 23),.I (gI B 24),.N (gN B 25),.LL (gLL B 26),.I (gI B 27),.I (gI B 28),.N (gN B 29),.LL (gLL B 30),.N (gN B 31),.L (gL B 1),.LL (gLL B 32)]))
 (fun _=>none))) j))
 (fun _=>none)) j)))))
 (ex 3 [.B (gB l 2),.L (gL l 6),.I (gI l 7),.I (gI l 8),.N (gN l 9),.LL (gLL l 10),.I (gI l 11),.I (gI l 12),.N (gN l 13),.L (gL l 14),.I (gI l 15),.I (gI l 16),.N (gN l 17),.LL (gLL l 18),.I (gI l 19),.I (gI l 20),.I (gI l 21),.I (gI l 22),.N (gN l 23),.LL (gLL l 24),.I (gI l 25),.I (gI l 26),.B (gB l 27),.I (gI l 28),.I (gI l 29),.N (gN l 30),.LL (gLL l 31),.I (gI l 32),.I (gI l 33),.N (gN l 34),.LL (gLL l 35),.N (gN l 36),.L (gL l 37),.LL (gLL l 38)])
theorem L121_5_3.e1 (R:SDyn P S121_3.H):LEq (L121_5_3.O R) L121_5_3.H 1 (L121_5_3.s1 R):=by intro τ next κ l;kernel_rfl
def L121_5_3 (R:SDyn P S121_3.H):LStep P Cf:=LStep.mk2 (by decide) (L121_5_3.e0 R) (L121_5_3.e1 R)
def L121_5_3.b (R:SDyn P S121_3.H) {τ:Type} (t:Nat) (l:LS_) (κ:Nat→LS_→Option τ):Option τ:=runE (L121_5_3 R) fuel κ t l
def L121_5_3.E (R:SDyn P S121_3.H):LEnt P:=LStep.E (L121_5_3 R)
def S121_3.O (R:SDyn P S121_3.H):Orc P:=⟨[F71.E],[L121_5_3.E R],[],40⟩
def S121_3.body (R:SDyn P S121_3.H) {τ:Type} (l:LS_) (k:Nat→LS_→Option τ):Option τ :=
 br ((gI l 0)==(((gN l 5):Nat):Int))
 (ck ((eqM (gN l 1) (List.length (List.take ((gN l 1)*1) (List.drop 0 (gL l 2)))))&&true)
 (F71 [.L (List.take ((gN l 1)*1) (List.drop 0 (gL l 2)))]
 (fun j A=>(sw (ck ((eqM (gN A 0) (List.length (List.take ((gN A 0)*1) (List.drop 0 (gL A 1)))))&&true)
 (ck (((((eqM (List.length (gLL l 33)) ((gN l 32)*1))&&true)&&(eqM 1 1))&&(leN (((gN l 32)+1)*25) 1099511627776))&&true)
 (k 0 [.B true,.L (gL l 2),.I (gI l 3),.I (gI l 4),.N (gN l 5),.LL (gLL l 6),.I (gI l 7),.I (gI l 8),.N (gN l 9),.L (gL l 10),.I (gI l 11),.I (gI l 12),.N (gN l 13),.LL (gLL l 14),.I (gI l 15),.I (gI l 16),.I (gI l 17),.I (gI l 18),.N (gN l 19),.LL (gLL l 20),.I (gI l 21),.I (gI l 22),.B (gB l 23),.I (gI l 24),.I (gI l 25),.N (gN l 26),.LL (gLL l 27),.I (gI l 28),.I (gI l 29),.N (gN l 30),.LL (gLL l 31),.N ((gN l 32)+1),.LL ((gLL l 33)++(List.take 1 (List.drop 0 [(List.take ((gN A 0)*1) (List.drop 0 (gL A 1)))])))])))
 (fun _=>none)) j)))
 (ck ((eqM (gN l 1) (List.length (List.take ((gN l 1)*1) (List.drop 0 (gL l 2)))))&&true)
 (F71 [.L (List.take ((gN l 1)*1) (List.drop 0 (gL l 2)))]
 (fun j A=>(sw (L121_5_3.b R 0 [.I (gI l 0),.N (gN l 1),.B false,.N (gN A 0),.I (gI l 3),.I 0,.L (gL l 2),.I (gI l 3),.I (gI l 4),.N (gN l 5),.LL (gLL l 6),.I (gI l 7),.I (gI l 8),.N (gN l 9),.L (gL l 10),.I (gI l 11),.I (gI l 12),.N (gN l 13),.LL (gLL l 14),.I (gI l 15),.I (gI l 16),.I (gI l 17),.I (gI l 18),.N (gN l 19),.LL (gLL l 20),.I (gI l 21),.I (gI l 22),.B (gB l 23),.I (gI l 24),.I (gI l 25),.N (gN l 26),.LL (gLL l 27),.I (gI l 28),.I (gI l 29),.N (gN l 30),.LL (gLL l 31),.N (gN l 32),.LL (gLL l 33),.L (gL A 1)]
 (fun j B=>(sw (k 0 [.B (gB B 0),.L (gL B 1),.I (gI B 2),.I (gI B 3),.N (gN B 4),.LL (gLL B 5),.I (gI B 6),.I (gI B 7),.N (gN B 8),.L (gL B 9),.I (gI B 10),.I (gI B 11),.N (gN B 12),.LL (gLL B 13),.I (gI B 14),.I (gI B 15),.I (gI B 16),.I (gI B 17),.N (gN B 18),.LL (gLL B 19),.I (gI B 20),.I (gI B 21),.B (gB B 22),.I (gI B 23),.I (gI B 24),.N (gN B 25),.LL (gLL B 26),.I (gI B 27),.I (gI B 28),.N (gN B 29),.LL (gLL B 30),.N (gN B 31),.LL (gLL B 33)])
 (sw (k 1 [.B (gB B 0),.L (gL B 1),.I (gI B 2),.I (gI B 3),.N (gN B 4),.LL (gLL B 5),.I (gI B 6),.I (gI B 7),.N (gN B 8),.L (gL B 9),.I (gI B 10),.I (gI B 11),.N (gN B 12),.LL (gLL B 13),.I (gI B 14),.I (gI B 15),.I (gI B 16),.I (gI B 17),.N (gN B 18),.LL (gLL B 19),.I (gI B 20),.I (gI B 21),.B (gB B 22),.I (gI B 23),.I (gI B 24),.N (gN B 25),.LL (gLL B 26),.I (gI B 27),.I (gI B 28),.N (gN B 29),.LL (gLL B 30),.N (gN B 31),.LL (gLL B 32)])
 (sw (k 1 [.B true,.L (gL B 1),.I (gI B 2),.I (gI B 3),.N (gN B 4),.LL (gLL B 5),.I (gI B 6),.I (gI B 7),.N (gN B 8),.L (gL B 9),.I (gI B 10),.I (gI B 11),.N (gN B 12),.LL (gLL B 13),.I (gI B 14),.I (gI B 15),.I (gI B 16),.I (gI B 17),.N (gN B 18),.LL (gLL B 19),.I (gI B 20),.I (gI B 21),.B (gB B 22),.I (gI B 23),.I (gI B 24),.N (gN B 25),.LL (gLL B 26),.I (gI B 27),.I (gI B 28),.N (gN B 29),.LL (gLL B 30),.N (gN B 31),.LL (gLL B 32)])
 (sw (k 0 [.B true,.L (gL B 1),.I (gI B 2),.I (gI B 3),.N (gN B 4),.LL (gLL B 5),.I (gI B 6),.I (gI B 7),.N (gN B 8),.L (gL B 9),.I (gI B 10),.I (gI B 11),.N (gN B 12),.LL (gLL B 13),.I (gI B 14),.I (gI B 15),.I (gI B 16),.I (gI B 17),.N (gN B 18),.LL (gLL B 19),.I (gI B 20),.I (gI B 21),.B (gB B 22),.I (gI B 23),.I (gI B 24),.N (gN B 25),.LL (gLL B 26),.I (gI B 27),.I (gI B 28),.N (gN B 29),.LL (gLL B 30),.N (gN B 31),.LL (gLL B 33)])
 (fun _=>none))))) j))
 (fun _=>none)) j)))
theorem S121_3.eq (R:SDyn P S121_3.H):SEq (S121_3.O R) S121_3.H (S121_3.body R):=by intro τ l κ;kernel_rfl
def S121_3.next (R:SDyn P S121_3.H):SDyn P S121_3.H:=mkS (S121_3.eq R)
def S121_3.D (n:Nat):SDyn P S121_3.H:=Nat.rec ⟨fun _ _=>none,fun _ _ _ h=>nomatch h⟩ (fun _ R=>S121_3.next R) n
def S121_3:Option τ:=(S121_3.D fuel).b l k
def S121_3.E:SEnt P:=⟨S121_3.H,S121_3.D fuel⟩
def S121_2.H:SHead:=⟨107,[pI,(rr 0)],[(pp 1),(pp 2),(pp 3),(pp 4)],oao7,[(pB,oao4),(pB,oao7)]⟩
def L121_5_2.H:LHead:=⟨false,false,9,438277,438277,12583735,256,0,[(PS.mk (pI::(rr 0)::(pp 1)::us 1 ((pp 3)::(pp 4)::us 2 (pB::(rr 8)::us 12 (pI::pI::us 21 [])))) oao9),(PS.mk (pI::(rr 0)::(pp 1)::us 1 ((pp 3)::(pp 4)::us 2 (pB::(rr 8)::us 12 (pI::pI::us 21 [])))) oao8)],[(Out.ret,(PS.mk (us 8 (pB::us 36 [])) oao8)),(Out.ret,(PS.mk (us 8 (pB::us 36 [])) oao9)),((Out.exit 0),(PS.mk (us 8 (pB::us 36 [])) oao9)),((Out.exit 0),(PS.mk (us 8 (pB::us 36 [])) oao8))]⟩
def L121_5_2.O (R:SDyn P S121_2.H):Orc P:=⟨[],[],[S94_1.E,⟨S121_2.H,R⟩,S121_3.E],40⟩
def L121_5_2.s0 (R:SDyn P S121_2.H) {τ:Type} (next ex:Nat→LS_→Option τ) (l:LS_):Option τ :=
 br (ltI (gI l 5) (gI l 4))
 (ck (((((eqM (gN l 1) (gN l 3))&&(eqM (List.length (List.take ((gN l 1)*1) (List.drop 0 (gL l 6)))) (gN l 1)))&&true)&&(eqM (List.length (gL l 36)) (gN l 3)))&&true)
 (ck (((leI 0 (gI l 0))&&(ltI (gI l 0) (gN l 9)))&&true)
 (ck (ltN ((Int.toNat (gI l 0))*1) (List.length (gLL l 10)))
 (S94_1 [.I (gI l 11),.I (gI l 12),.N (gN l 13),.L (gL l 14),.N (gN l 3),.I (gI l 5),.N (List.length (List.getD (gLL l 10) ((Int.toNat (gI l 0))*1) [])),.L (List.getD (gLL l 10) ((Int.toNat (gI l 0))*1) []),.L (List.take ((gN l 1)*1) (List.drop 0 (gL l 6)))]
 (fun j A=>(sw (R.b [.I (wr .i64 ((gI l 0)+1)),.N (gN l 3),.L (gL A 0),.I (gI l 7),.I (gI l 8),.N (gN l 9),.LL (gLL l 10),.I (gI l 11),.I (gI l 12),.N (gN l 13),.L (gL l 14),.I (gI l 15),.I (gI l 16),.N (gN l 17),.LL (gLL l 18),.I (gI l 19),.I (gI l 20),.I (gI l 21),.I (gI l 22),.N (gN l 23),.LL (gLL l 24),.I (gI l 25),.I (gI l 26),.B (gB l 27),.I (gI l 28),.I (gI l 29),.N (gN l 30),.LL (gLL l 31),.I (gI l 32),.I (gI l 33),.N (gN l 34),.LL (gLL l 35)]
 (fun j B=>(sw (br (!(gB B 0))
 (ex 0 [.B false,.L (gL l 6),.I (gI B 2),.I (gI B 3),.N (gN B 4),.LL (gLL B 5),.I (gI B 6),.I (gI B 7),.N (gN B 8),.L (gL B 9),.I (gI B 10),.I (gI B 11),.N (gN B 12),.LL (gLL B 13),.I (gI B 14),.I (gI B 15),.I (gI B 16),.I (gI B 17),.N (gN B 18),.LL (gLL B 19),.I (gI B 20),.I (gI B 21),.B (gB B 22),.I (gI B 23),.I (gI B 24),.N (gN B 25),.LL (gLL B 26),.I (gI B 27),.I (gI B 28),.N (gN B 29),.LL (gLL B 30),.N (gN B 31),.L (gL B 1),.LL (gLL B 32)])
 (next 1 [.I (gI l 0),.N (gN l 1),.B (gB l 2),.N (gN l 3),.I (gI l 4),.I (wr .i64 ((gI l 5)+1)),.L (gL l 6),.I (gI B 2),.I (gI B 3),.N (gN B 4),.LL (gLL B 5),.I (gI B 6),.I (gI B 7),.N (gN B 8),.L (gL B 9),.I (gI B 10),.I (gI B 11),.N (gN B 12),.LL (gLL B 13),.I (gI B 14),.I (gI B 15),.I (gI B 16),.I (gI B 17),.N (gN B 18),.LL (gLL B 19),.I (gI B 20),.I (gI B 21),.B (gB B 22),.I (gI B 23),.I (gI B 24),.N (gN B 25),.LL (gLL B 26),.I (gI B 27),.I (gI B 28),.N (gN B 29),.LL (gLL B 30),.N (gN B 31),.L (gL B 1),.LL (gLL B 32)]))
 (sw (br (!(gB B 0))
 (ex 1 [.B false,.L (gL l 6),.I (gI B 2),.I (gI B 3),.N (gN B 4),.LL (gLL B 5),.I (gI B 6),.I (gI B 7),.N (gN B 8),.L (gL B 9),.I (gI B 10),.I (gI B 11),.N (gN B 12),.LL (gLL B 13),.I (gI B 14),.I (gI B 15),.I (gI B 16),.I (gI B 17),.N (gN B 18),.LL (gLL B 19),.I (gI B 20),.I (gI B 21),.B (gB B 22),.I (gI B 23),.I (gI B 24),.N (gN B 25),.LL (gLL B 26),.I (gI B 27),.I (gI B 28),.N (gN B 29),.LL (gLL B 30),.L (gL B 1)])
 (next 0 [.I (gI l 0),.N (gN l 1),.B (gB l 2),.N (gN l 3),.I (gI l 4),.I (wr .i64 ((gI l 5)+1)),.L (gL l 6),.I (gI B 2),.I (gI B 3),.N (gN B 4),.LL (gLL B 5),.I (gI B 6),.I (gI B 7),.N (gN B 8),.L (gL B 9),.I (gI B 10),.I (gI B 11),.N (gN B 12),.LL (gLL B 13),.I (gI B 14),.I (gI B 15),.I (gI B 16),.I (gI B 17),.N (gN B 18),.LL (gLL B 19),.I (gI B 20),.I (gI B 21),.B (gB B 22),.I (gI B 23),.I (gI B 24),.N (gN B 25),.LL (gLL B 26),.I (gI B 27),.I (gI B 28),.N (gN B 29),.LL (gLL B 30),.L (gL B 1)]))
 (fun _=>none))) j))
 (fun _=>none)) j)))))
 (ex 2 [.B (gB l 2),.L (gL l 6),.I (gI l 7),.I (gI l 8),.N (gN l 9),.LL (gLL l 10),.I (gI l 11),.I (gI l 12),.N (gN l 13),.L (gL l 14),.I (gI l 15),.I (gI l 16),.N (gN l 17),.LL (gLL l 18),.I (gI l 19),.I (gI l 20),.I (gI l 21),.I (gI l 22),.N (gN l 23),.LL (gLL l 24),.I (gI l 25),.I (gI l 26),.B (gB l 27),.I (gI l 28),.I (gI l 29),.N (gN l 30),.LL (gLL l 31),.I (gI l 32),.I (gI l 33),.N (gN l 34),.LL (gLL l 35),.L (gL l 36)])
theorem L121_5_2.e0 (R:SDyn P S121_2.H):LEq (L121_5_2.O R) L121_5_2.H 0 (L121_5_2.s0 R):=by intro τ next κ l;kernel_rfl
def L121_5_2.s1 (R:SDyn P S121_2.H) {τ:Type} (next ex:Nat→LS_→Option τ) (l:LS_):Option τ :=
 br (ltI (gI l 5) (gI l 4))
 (ck (((((eqM (gN l 1) (gN l 3))&&(eqM (List.length (List.take ((gN l 1)*1) (List.drop 0 (gL l 6)))) (gN l 1)))&&true)&&(eqM (List.length (gL l 37)) (gN l 3)))&&true)
 (ck (((leI 0 (gI l 0))&&(ltI (gI l 0) (gN l 9)))&&true)
 (ck (ltN ((Int.toNat (gI l 0))*1) (List.length (gLL l 10)))
 (S94_1 [.I (gI l 11),.I (gI l 12),.N (gN l 13),.L (gL l 14),.N (gN l 3),.I (gI l 5),.N (List.length (List.getD (gLL l 10) ((Int.toNat (gI l 0))*1) [])),.L (List.getD (gLL l 10) ((Int.toNat (gI l 0))*1) []),.L (List.take ((gN l 1)*1) (List.drop 0 (gL l 6)))]
 (fun j A=>(sw (S121_3 [.I (wr .i64 ((gI l 0)+1)),.N (gN l 3),.L (gL A 0),.I (gI l 7),.I (gI l 8),.N (gN l 9),.LL (gLL l 10),.I (gI l 11),.I (gI l 12),.N (gN l 13),.L (gL l 14),.I (gI l 15),.I (gI l 16),.N (gN l 17),.LL (gLL l 18),.I (gI l 19),.I (gI l 20),.I (gI l 21),.I (gI l 22),.N (gN l 23),.LL (gLL l 24),.I (gI l 25),.I (gI l 26),.B (gB l 27),.I (gI l 28),.I (gI l 29),.N (gN l 30),.LL (gLL l 31),.I (gI l 32),.I (gI l 33),.N (gN l 34),.LL (gLL l 35),.N (gN l 36),.LL (gLL l 38)]
 (fun j B=>(sw (br (!(gB B 0))
 (ex 0 [.B false,.L (gL l 6),.I (gI B 2),.I (gI B 3),.N (gN B 4),.LL (gLL B 5),.I (gI B 6),.I (gI B 7),.N (gN B 8),.L (gL B 9),.I (gI B 10),.I (gI B 11),.N (gN B 12),.LL (gLL B 13),.I (gI B 14),.I (gI B 15),.I (gI B 16),.I (gI B 17),.N (gN B 18),.LL (gLL B 19),.I (gI B 20),.I (gI B 21),.B (gB B 22),.I (gI B 23),.I (gI B 24),.N (gN B 25),.LL (gLL B 26),.I (gI B 27),.I (gI B 28),.N (gN B 29),.LL (gLL B 30),.N (gN B 31),.L (gL B 1),.LL (gLL B 32)])
 (next 1 [.I (gI l 0),.N (gN l 1),.B (gB l 2),.N (gN l 3),.I (gI l 4),.I (wr .i64 ((gI l 5)+1)),.L (gL l 6),.I (gI B 2),.I (gI B 3),.N (gN B 4),.LL (gLL B 5),.I (gI B 6),.I (gI B 7),.N (gN B 8),.L (gL B 9),.I (gI B 10),.I (gI B 11),.N (gN B 12),.LL (gLL B 13),.I (gI B 14),.I (gI B 15),.I (gI B 16),.I (gI B 17),.N (gN B 18),.LL (gLL B 19),.I (gI B 20),.I (gI B 21),.B (gB B 22),.I (gI B 23),.I (gI B 24),.N (gN B 25),.LL (gLL B 26),.I (gI B 27),.I (gI B 28),.N (gN B 29),.LL (gLL B 30),.N (gN B 31),.L (gL B 1),.LL (gLL B 32)]))
 (sw (br (!(gB B 0))
 (ex 0 [.B false,.L (gL l 6),.I (gI B 2),.I (gI B 3),.N (gN B 4),.LL (gLL B 5),.I (gI B 6),.I (gI B 7),.N (gN B 8),.L (gL B 9),.I (gI B 10),.I (gI B 11),.N (gN B 12),.LL (gLL B 13),.I (gI B 14),.I (gI B 15),.I (gI B 16),.I (gI B 17),.N (gN B 18),.LL (gLL B 19),.I (gI B 20),.I (gI B 21),.B (gB B 22),.I (gI B 23),.I (gI B 24),.N (gN B 25),.LL (gLL B 26),.I (gI B 27),.I (gI B 28),.N (gN B 29),.LL (gLL B 30),.N (gN B 31),.L (gL B 1),.LL (gLL B 32)])
 (next 1 [.I (gI l 0),.N (gN l 1),.B (gB l 2),.N (gN l 3),.I (gI l 4),.I (wr .i64 ((gI l 5)+1)),.L (gL l 6),.I (gI B 2),.I (gI B 3),.N (gN B 4),.LL (gLL B 5),.I (gI B 6),.I (gI B 7),.N (gN B 8),.L (gL B 9),.I (gI B 10),.I (gI B 11),.N (gN B 12),.LL (gLL B 13),.I (gI B 14),.I (gI B 15),.I (gI B 16),.I (gI B 17),.N (gN B 18),.LL (gLL B 19),.I (gI B 20),.I (gI B 21),.B (gB B 22),.I (gI B 23),.I (gI B 24),.N (gN B 25),.LL (gLL B 26),.I (gI B 27),.I (gI B 28),.N (gN B 29),.LL (gLL B 30),.N (gN B 31),.L (gL B 1),.LL (gLL B 32)]))
 (fun _=>none))) j))
 (fun _=>none)) j)))))
 (ex 3 [.B (gB l 2),.L (gL l 6),.I (gI l 7),.I (gI l 8),.N (gN l 9),.LL (gLL l 10),.I (gI l 11),.I (gI l 12),.N (gN l 13),.L (gL l 14),.I (gI l 15),.I (gI l 16),.N (gN l 17),.LL (gLL l 18),.I (gI l 19),.I (gI l 20),.I (gI l 21),.I (gI l 22),.N (gN l 23),.LL (gLL l 24),.I (gI l 25),.I (gI l 26),.B (gB l 27),.I (gI l 28),.I (gI l 29),.N (gN l 30),.LL (gLL l 31),.I (gI l 32),.I (gI l 33),.N (gN l 34),.LL (gLL l 35),.N (gN l 36),.L (gL l 37),.LL (gLL l 38)])
theorem L121_5_2.e1 (R:SDyn P S121_2.H):LEq (L121_5_2.O R) L121_5_2.H 1 (L121_5_2.s1 R):=by intro τ next κ l;kernel_rfl
def L121_5_2 (R:SDyn P S121_2.H):LStep P Cf:=LStep.mk2 (by decide) (L121_5_2.e0 R) (L121_5_2.e1 R)
def L121_5_2.b (R:SDyn P S121_2.H) {τ:Type} (t:Nat) (l:LS_) (κ:Nat→LS_→Option τ):Option τ:=runE (L121_5_2 R) fuel κ t l
def L121_5_2.E (R:SDyn P S121_2.H):LEnt P:=LStep.E (L121_5_2 R)
def S121_2.O (R:SDyn P S121_2.H):Orc P:=⟨[F71.E],[L121_5_2.E R],[],40⟩
def S121_2.body (R:SDyn P S121_2.H) {τ:Type} (l:LS_) (k:Nat→LS_→Option τ):Option τ :=
 br ((gI l 0)==(((gN l 5):Nat):Int))
 (ck ((eqM (gN l 1) (List.length (List.take ((gN l 1)*1) (List.drop 0 (gL l 2)))))&&true)
 (F71 [.L (List.take ((gN l 1)*1) (List.drop 0 (gL l 2)))]
 (fun j A=>(sw (ck ((eqM (gN A 0) (List.length (List.take ((gN A 0)*1) (List.drop 0 (gL A 1)))))&&true)
 (k 0 [.B true,.L (gL l 2),.I (gI l 3),.I (gI l 4),.N (gN l 5),.LL (gLL l 6),.I (gI l 7),.I (gI l 8),.N (gN l 9),.L (gL l 10),.I (gI l 11),.I (gI l 12),.N (gN l 13),.LL (gLL l 14),.I (gI l 15),.I (gI l 16),.I (gI l 17),.I (gI l 18),.N (gN l 19),.LL (gLL l 20),.I (gI l 21),.I (gI l 22),.B (gB l 23),.I (gI l 24),.I (gI l 25),.N (gN l 26),.LL (gLL l 27),.I (gI l 28),.I (gI l 29),.N (gN l 30),.LL (gLL l 31),.N 1,.LL (List.take 1 (List.drop 0 [(List.take ((gN A 0)*1) (List.drop 0 (gL A 1)))]))]))
 (fun _=>none)) j)))
 (ck ((eqM (gN l 1) (List.length (List.take ((gN l 1)*1) (List.drop 0 (gL l 2)))))&&true)
 (F71 [.L (List.take ((gN l 1)*1) (List.drop 0 (gL l 2)))]
 (fun j A=>(sw (L121_5_2.b R 0 [.I (gI l 0),.N (gN l 1),.B false,.N (gN A 0),.I (gI l 3),.I 0,.L (gL l 2),.I (gI l 3),.I (gI l 4),.N (gN l 5),.LL (gLL l 6),.I (gI l 7),.I (gI l 8),.N (gN l 9),.L (gL l 10),.I (gI l 11),.I (gI l 12),.N (gN l 13),.LL (gLL l 14),.I (gI l 15),.I (gI l 16),.I (gI l 17),.I (gI l 18),.N (gN l 19),.LL (gLL l 20),.I (gI l 21),.I (gI l 22),.B (gB l 23),.I (gI l 24),.I (gI l 25),.N (gN l 26),.LL (gLL l 27),.I (gI l 28),.I (gI l 29),.N (gN l 30),.LL (gLL l 31),.L (gL A 1)]
 (fun j B=>(sw (k 0 [.B (gB B 0),.L (gL B 1),.I (gI B 2),.I (gI B 3),.N (gN B 4),.LL (gLL B 5),.I (gI B 6),.I (gI B 7),.N (gN B 8),.L (gL B 9),.I (gI B 10),.I (gI B 11),.N (gN B 12),.LL (gLL B 13),.I (gI B 14),.I (gI B 15),.I (gI B 16),.I (gI B 17),.N (gN B 18),.LL (gLL B 19),.I (gI B 20),.I (gI B 21),.B (gB B 22),.I (gI B 23),.I (gI B 24),.N (gN B 25),.LL (gLL B 26),.I (gI B 27),.I (gI B 28),.N (gN B 29),.LL (gLL B 30),.N (gN B 31),.LL (gLL B 33)])
 (sw (k 1 [.B (gB B 0),.L (gL B 1),.I (gI B 2),.I (gI B 3),.N (gN B 4),.LL (gLL B 5),.I (gI B 6),.I (gI B 7),.N (gN B 8),.L (gL B 9),.I (gI B 10),.I (gI B 11),.N (gN B 12),.LL (gLL B 13),.I (gI B 14),.I (gI B 15),.I (gI B 16),.I (gI B 17),.N (gN B 18),.LL (gLL B 19),.I (gI B 20),.I (gI B 21),.B (gB B 22),.I (gI B 23),.I (gI B 24),.N (gN B 25),.LL (gLL B 26),.I (gI B 27),.I (gI B 28),.N (gN B 29),.LL (gLL B 30)])
 (sw (k 1 [.B true,.L (gL B 1),.I (gI B 2),.I (gI B 3),.N (gN B 4),.LL (gLL B 5),.I (gI B 6),.I (gI B 7),.N (gN B 8),.L (gL B 9),.I (gI B 10),.I (gI B 11),.N (gN B 12),.LL (gLL B 13),.I (gI B 14),.I (gI B 15),.I (gI B 16),.I (gI B 17),.N (gN B 18),.LL (gLL B 19),.I (gI B 20),.I (gI B 21),.B (gB B 22),.I (gI B 23),.I (gI B 24),.N (gN B 25),.LL (gLL B 26),.I (gI B 27),.I (gI B 28),.N (gN B 29),.LL (gLL B 30)])
 (sw (k 0 [.B true,.L (gL B 1),.I (gI B 2),.I (gI B 3),.N (gN B 4),.LL (gLL B 5),.I (gI B 6),.I (gI B 7),.N (gN B 8),.L (gL B 9),.I (gI B 10),.I (gI B 11),.N (gN B 12),.LL (gLL B 13),.I (gI B 14),.I (gI B 15),.I (gI B 16),.I (gI B 17),.N (gN B 18),.LL (gLL B 19),.I (gI B 20),.I (gI B 21),.B (gB B 22),.I (gI B 23),.I (gI B 24),.N (gN B 25),.LL (gLL B 26),.I (gI B 27),.I (gI B 28),.N (gN B 29),.LL (gLL B 30),.N (gN B 31),.LL (gLL B 33)])
 (fun _=>none))))) j))
 (fun _=>none)) j)))
theorem S121_2.eq (R:SDyn P S121_2.H):SEq (S121_2.O R) S121_2.H (S121_2.body R):=by intro τ l κ;kernel_rfl
def S121_2.next (R:SDyn P S121_2.H):SDyn P S121_2.H:=mkS (S121_2.eq R)
def S121_2.D (n:Nat):SDyn P S121_2.H:=Nat.rec ⟨fun _ _=>none,fun _ _ _ h=>nomatch h⟩ (fun _ R=>S121_2.next R) n
def S121_2:Option τ:=(S121_2.D fuel).b l k
def S121_2.E:SEnt P:=⟨S121_2.H,S121_2.D fuel⟩
def F64.ps:List PV2:=[pCode]
def F64.sh:List PA:=[(PA.mk (PV3.tup [nS,pI]) []),(PA.mk (PV3.tup [(rr 0),(pC 0)]) [cM]),(PA.mk (PV3.tup [nS,(pC 0)]) [])]
def F64.O:Orc P:=⟨[F90.E,T81.E],[],[S121_2.E],40⟩
def F64:Option τ :=
 ck (((eqM (List.length (gLL l 2)) (List.length (gLL l 2)))&&true)&&true)
 (F90 [.I (gI l 0),.I (gI l 1),.LL (gLL l 2)]
 (fun j A=>(sw (br ((gI A 0) != 0)
 (k 0 [.I (gI A 0)])
 (T81 [.I (gI l 0)]
 (fun j B=>(sw (ck (((leI 0 (gI l 1))&&(leI (gI l 1) (gI l 1)))&&(leI ((gI l 1)*9) 1099511627776))
 (S121_2 [.I 0,.N (Int.toNat (gI l 1)),.L (List.replicate (Int.toNat (gI l 1)) (0:Int)),.I (gI l 0),.I (gI l 1),.N (List.length (gLL l 2)),.LL (gLL l 2),.I (gI B 0),.I (gI B 1),.N (List.length (gL B 2)),.L (gL B 2),.I (gI l 0),.I (gI l 1),.N (List.length (gLL l 2)),.LL (gLL l 2),.I 0,.I (gI A 0),.I (gI l 0),.I (gI l 1),.N (List.length (gLL l 2)),.LL (gLL l 2),.I (gI A 0),.I (gI A 0),.B false,.I (gI l 0),.I (gI l 1),.N (List.length (gLL l 2)),.LL (gLL l 2),.I (gI l 0),.I (gI l 1),.N (List.length (gLL l 2)),.LL (gLL l 2)]
 (fun j C=>(sw (k 1 [.N (gN C 31),.LL (gLL C 32)])
 (sw (k 2 [])
 (fun _=>none))) j)))
 (fun _=>none)) j)))
 (fun _=>none)) j))
theorem F64.eq:FEq F64.O 51 F64.ps F64.sh F64:=by intro τ l κ;kernel_rfl
def F64.E:Ent P:=mkF F64.eq
end
end Go.Proofs.Yticbdgmcofjkeaa.Ai
namespace Go.Proofs.Yticbdgmcofjkeaa.Ai
open Go Go.RowKit
noncomputable section
variable {τ:Type} (t:Nat) (nx ex:Nat→LS_→Option τ) (l:LS_) (k κ:Nat→LS_→Option τ)
def jao0:List PO:=[(oG [pI,pI,qM]),(oG [pI,pI,nS]),(oG [pI,pI,qR]),oI]
def jao1:List PO:=[(oG [pI,pI,qM]),(oG [pI,pI,nS]),(oG [pI,pI,qR]),oI,oM,oI]
def L78_2.H:LHead:=⟨false,true,0,282626,282626,9,8,0,[(PS.mk (qR::us 2 (pI::us 8 [])) [])],[((Out.exit 0),(PS.mk (us 3 (pI::us 8 [])) []))]⟩
def L78_2.O:Orc P:=⟨[],[],[],40⟩
def L78_2.s0:Option τ :=
 ck (((leI 0 (gI l 2))&&(ltI (gI l 2) (gN l 0)))&&true)
 (ck (ltN ((Int.toNat (gI l 2))*1) (List.length (gL l 1)))
 (br ((List.getD (gL l 1) ((Int.toNat (gI l 2))*1) 0)==0)
 (nx 0 [.N (gN l 0),.L (gL l 1),.I (wr .i64 ((gI l 2)+1))])
 (ex 0 [.I (gI l 2)])))
theorem L78_2.e0:LEq L78_2.O L78_2.H 0 L78_2.s0:=by intro τ next κ l;kernel_rfl
def L78_2:LStep P Cf:=LStep.mk1 (by decide) L78_2.e0
def L78_2.b:Option τ:=runE L78_2 fuel κ t l
def L78_2.E:LEnt P:=LStep.E L78_2
def F78.ps:List PV2:=[pR]
def F78.sh:List PA:=[(PA.mk (PV3.v pI) [])]
def F78.O:Orc P:=⟨[],[L78_2.E],[],40⟩
def F78:Option τ :=
 L78_2.b 0 [.N (List.length (gL l 0)),.L (gL l 0),.I 0]
 (fun j A=>(sw (k 0 [.I (gI A 0)])
 (fun _=>none)) j)
theorem F78.eq:FEq F78.O 69 F78.ps F78.sh F78:=by intro τ l κ;kernel_rfl
def F78.E:Ent P:=mkF F78.eq
def L33_4.H:LHead:=⟨false,true,0,106500,106500,62,30,0,[(PS.mk (us 1 ((pp 0)::(pp 1)::(pp 2)::(rr 3)::pI::us 87 [])) jao0)],[((Out.exit 0),(PS.mk (us 1 ((pp 0)::(pp 1)::(pp 2)::(rr 3)::us 88 [])) jao0))]⟩
def L33_4.O:Orc P:=⟨[F78.E],[],[],40⟩
def L33_4.s0:Option τ :=
 br (ltI (gI l 1) (gN l 4))
 (ck (((leI 0 (gI l 1))&&(ltI (gI l 1) (gN l 4)))&&true)
 (ck (ltN ((Int.toNat (gI l 1))*1) (List.length (gLL l 5)))
 (ck ((eqM (List.length (List.getD (gLL l 5) ((Int.toNat (gI l 1))*1) [])) (List.length (List.getD (gLL l 5) ((Int.toNat (gI l 1))*1) [])))&&true)
 (F78 [.L (List.getD (gLL l 5) ((Int.toNat (gI l 1))*1) [])]
 (fun j A=>(sw (ck (((leI 0 (gI A 0))&&(ltI (gI A 0) (gN l 0)))&&true)
 (ck ((leN ((0+((Int.toNat (gI A 0))*1))+1) (List.length (gL l 12)))&&true)
 (nx 0 [.N (gN l 0),.I (wr .i64 ((gI l 1)+1)),.I (gI l 2),.I (gI l 3),.N (gN l 4),.LL (gLL l 5),.I (gI l 6),.I (gI l 7),.I (gI l 8),.I (gI l 9),.N (gN l 10),.L (gL l 11),.L (List.set (gL l 12) (0+((Int.toNat (gI A 0))*1)) (wr .i64 ((gI l 1)+1)))])))
 (fun _=>none)) j)))))
 (ex 0 [.N (gN l 0),.I (gI l 2),.I (gI l 3),.N (gN l 4),.LL (gLL l 5),.I (gI l 6),.I (gI l 7),.I (gI l 8),.I (gI l 9),.N (gN l 10),.L (gL l 11),.L (gL l 12)])
theorem L33_4.e0:LEq L33_4.O L33_4.H 0 L33_4.s0:=by intro τ next κ l;kernel_rfl
def L33_4:LStep P Cf:=LStep.mk1 (by decide) L33_4.e0
def L33_4.b:Option τ:=runE L33_4 fuel κ t l
def L33_4.E:LEnt P:=LStep.E L33_4
def L33_15.H:LHead:=⟨false,true,0,106511,106511,990,478,0,[(PS.mk (us 1 ((pp 0)::(pp 1)::(pp 2)::(rr 3)::us 1 ((rr 4)::pI::(rr 5)::pI::us 83 []))) jao1)],[((Out.exit 4),(PS.mk (us 1 ((pp 0)::(pp 1)::(pp 2)::(rr 3)::us 1 ((rr 4)::pI::(rr 5)::us 84 []))) jao1))]⟩
def L33_15.O:Orc P:=⟨[T79.E],[],[],40⟩
def L33_15.s0:Option τ :=
 br (ltI (gI l 4) (gI l 6))
 (ck (((leI 0 (gI l 4))&&(ltI (gI l 4) (gN l 0)))&&true)
 (ck (ltN (0+((Int.toNat (gI l 4))*1)) (List.length (gL l 15)))
 (br (gtI (List.getD (gL l 15) (0+((Int.toNat (gI l 4))*1)) 0) 0)
 (ck (((leI 0 (gI l 4))&&(ltI (gI l 4) (gN l 0)))&&true)
 (ck (ltN (0+((Int.toNat (gI l 4))*1)) (List.length (gL l 15)))
 (ck (((leI 0 (wr .i64 ((List.getD (gL l 15) (0+((Int.toNat (gI l 4))*1)) 0)-1)))&&(ltI (wr .i64 ((List.getD (gL l 15) (0+((Int.toNat (gI l 4))*1)) 0)-1)) (((gN l 7):Nat):Int)))&&true)
 (ck (ltN ((Int.toNat (wr .i64 ((List.getD (gL l 15) (0+((Int.toNat (gI l 4))*1)) 0)-1)))*1) (List.length (gLL l 8)))
 (ck (((leI 0 (gI l 2))&&(ltI (gI l 2) (((List.length (List.getD (gLL l 8) ((Int.toNat (wr .i64 ((List.getD (gL l 15) (0+((Int.toNat (gI l 4))*1)) 0)-1)))*1) [])):Nat):Int)))&&true)
 (ck (ltN ((Int.toNat (gI l 2))*1) (List.length (List.getD (gLL l 8) ((Int.toNat (wr .i64 ((List.getD (gL l 15) (0+((Int.toNat (gI l 4))*1)) 0)-1)))*1) [])))
 (ck (((eqM (gN l 13) (List.length (gL l 14)))&&true)&&true)
 (T79 [.I (gI l 11),.I (gI l 12),.L (gL l 14),.I (List.getD (List.getD (gLL l 8) ((Int.toNat (wr .i64 ((List.getD (gL l 15) (0+((Int.toNat (gI l 4))*1)) 0)-1)))*1) []) ((Int.toNat (gI l 2))*1) 0)]
 (fun j A=>(sw (ck (((leI 0 (gI l 4))&&(ltI (gI l 4) (gN l 3)))&&true)
 (ck ((leN ((0+((Int.toNat (gI l 4))*1))+1) (List.length (gL l 17)))&&true)
 (nx 0 [.N (gN l 0),.N (gN l 1),.I (gI l 2),.N (gN l 3),.I (wr .i64 ((gI l 4)+1)),.I (gI l 5),.I (gI l 6),.N (gN l 7),.LL (gLL l 8),.I (gI l 9),.I (gI l 10),.I (gI l 11),.I (gI l 12),.N (gN l 13),.L (gL l 14),.L (gL l 15),.LL (gLL l 16),.L (List.set (gL l 17) (0+((Int.toNat (gI l 4))*1)) (gI A 0))])))
 (fun _=>none)) j)))))))))
 (nx 0 [.N (gN l 0),.N (gN l 1),.I (gI l 2),.N (gN l 3),.I (wr .i64 ((gI l 4)+1)),.I (gI l 5),.I (gI l 6),.N (gN l 7),.LL (gLL l 8),.I (gI l 9),.I (gI l 10),.I (gI l 11),.I (gI l 12),.N (gN l 13),.L (gL l 14),.L (gL l 15),.LL (gLL l 16),.L (gL l 17)]))))
 (ex 0 [.N (gN l 0),.N (gN l 1),.I (gI l 2),.N (gN l 3),.I (gI l 5),.I (gI l 6),.N (gN l 7),.LL (gLL l 8),.I (gI l 9),.I (gI l 10),.I (gI l 11),.I (gI l 12),.N (gN l 13),.L (gL l 14),.L (gL l 15),.LL (gLL l 16),.L (gL l 17)])
theorem L33_15.e0:LEq L33_15.O L33_15.H 0 L33_15.s0:=by intro τ next κ l;kernel_rfl
def L33_15:LStep P Cf:=LStep.mk1 (by decide) L33_15.e0
def L33_15.b:Option τ:=runE L33_15 fuel κ t l
def L33_15.E:LEnt P:=LStep.E L33_15
def L33_9.H:LHead:=⟨false,true,0,106505,106505,222,78,0,[(PS.mk (us 1 ((pp 0)::(pp 1)::(pp 2)::(rr 3)::us 1 ((rr 4)::pI::us 85 []))) [(oG [pI,pI,qM]),(oG [pI,pI,nS]),(oG [pI,pI,qR]),oI,oM])],[((Out.exit 2),(PS.mk (us 1 ((pp 0)::(pp 1)::(pp 2)::us 2 ((rr 3)::us 86 []))) [(oG [pI,pI,qM]),(oG [pI,pI,nS]),(oG [pI,pI,qR]),oM]))]⟩
def L33_9.O:Orc P:=⟨[F32.E],[L33_15.E],[],40⟩
def L33_9.s0:Option τ :=
 br (ltI (gI l 2) (gI l 4))
 (ck (((leI 0 (gI l 2))&&(ltI (gI l 2) (gN l 0)))&&true)
 (ck (ltN (0+((Int.toNat (gI l 2))*1)) (List.length (gL l 13)))
 (br (gtI (List.getD (gL l 13) (0+((Int.toNat (gI l 2))*1)) 0) 0)
 (nx 0 [.N (gN l 0),.N (gN l 1),.I (wr .i64 ((gI l 2)+1)),.I (gI l 3),.I (gI l 4),.N (gN l 5),.LL (gLL l 6),.I (gI l 7),.I (gI l 8),.I (gI l 9),.I (gI l 10),.N (gN l 11),.L (gL l 12),.L (gL l 13),.LL (gLL l 14)])
 (F32 [.I (gI l 4)]
 (fun j A=>(sw (ck (((leI 0 (gI l 2))&&(ltI (gI l 2) (gN A 0)))&&true)
 (ck ((leN ((0+((Int.toNat (gI l 2))*1))+1) (List.length (gL A 1)))&&true)
 (L33_15.b 0 [.N (gN l 0),.N (gN l 1),.I (gI l 2),.N (gN A 0),.I 0,.I (gI l 3),.I (gI l 4),.N (gN l 5),.LL (gLL l 6),.I (gI l 7),.I (gI l 8),.I (gI l 9),.I (gI l 10),.N (gN l 11),.L (gL l 12),.L (gL l 13),.LL (gLL l 14),.L (List.set (gL A 1) (0+((Int.toNat (gI l 2))*1)) 1)]
 (fun j B=>(sw (ck ((eqM (gN B 3) (List.length (List.take ((gN B 3)*1) (List.drop 0 (gL B 16)))))&&true)
 (ck (((((eqM (List.length (gLL B 15)) ((gN B 1)*1))&&true)&&(eqM 1 1))&&(leN (((gN B 1)+1)*25) 1099511627776))&&true)
 (nx 0 [.N (gN B 0),.N ((gN B 1)+1),.I (wr .i64 ((gI B 2)+1)),.I (gI B 4),.I (gI B 5),.N (gN B 6),.LL (gLL B 7),.I (gI B 8),.I (gI B 9),.I (gI B 10),.I (gI B 11),.N (gN B 12),.L (gL B 13),.L (gL B 14),.LL ((gLL B 15)++(List.take 1 (List.drop 0 [(List.take ((gN B 3)*1) (List.drop 0 (gL B 16)))])))])))
 (fun _=>none)) j))))
 (fun _=>none)) j)))))
 (ex 0 [.N (gN l 1),.I (gI l 3),.I (gI l 4),.N (gN l 5),.LL (gLL l 6),.I (gI l 7),.I (gI l 8),.I (gI l 9),.I (gI l 10),.N (gN l 11),.L (gL l 12),.LL (gLL l 14)])
theorem L33_9.e0:LEq L33_9.O L33_9.H 0 L33_9.s0:=by intro τ next κ l;kernel_rfl
def L33_9:LStep P Cf:=LStep.mk1 (by decide) L33_9.e0
def L33_9.b:Option τ:=runE L33_9 fuel κ t l
def L33_9.E:LEnt P:=LStep.E L33_9
def F33.ps:List PV2:=[pCode]
def F33.sh:List PA:=[(PA.mk (PV3.v (PV2.agg [iI,iI,(r1 0)])) [cM]),(PA.mk (PV3.v (PV2.agg [iI,iI,(PV1.sl PC0.e)])) [])]
def F33.O:Orc P:=⟨[T29.E,F80.E],[L33_4.E,L33_9.E],[],40⟩
def F33:Option τ :=
 T29 [.I (gI l 0)]
 (fun j A=>(sw (ck (((leI 0 (gI l 1))&&(leI (gI l 1) (gI l 1)))&&(leI ((gI l 1)*9) 1099511627776))
 (L33_4.b 0 [.N (Int.toNat (gI l 1)),.I 0,.I (gI l 0),.I (gI l 1),.N (List.length (gLL l 2)),.LL (gLL l 2),.I 0,.I 0,.I (gI A 0),.I (gI A 1),.N (List.length (gL A 2)),.L (gL A 2),.L (List.replicate (Int.toNat (gI l 1)) (0:Int))]
 (fun j B=>(sw (L33_9.b 0 [.N (gN B 0),.N 0,.I 0,.I (gI B 1),.I (gI B 2),.N (gN B 3),.LL (gLL B 4),.I (gI B 5),.I (gI B 6),.I (gI B 7),.I (gI B 8),.N (gN B 9),.L (gL B 10),.L (gL B 11),.LL []]
 (fun j C=>(sw (ck (((eqM (gN C 9) (List.length (gL C 10)))&&true)&&((eqM (gN C 0) (List.length (List.take ((gN C 0)*1) (List.drop 0 (gLL C 11)))))&&true))
 (F80 [.I (gI C 7),.I (gI C 8),.L (gL C 10),.I (gI C 2),.LL (List.take ((gN C 0)*1) (List.drop 0 (gLL C 11)))]
 (fun j D=>(sw (k 0 [.I (gI C 1),.I (gI C 2),.N (gN D 0),.LL (gLL D 1)])
 (sw (k 1 [.I (gI C 1),.I (gI C 2),.N (gN D 0)])
 (fun _=>none))) j)))
 (fun _=>none)) j))
 (fun _=>none)) j)))
 (fun _=>none)) j)
theorem F33.eq:FEq F33.O 26 F33.ps F33.sh F33:=by intro τ l κ;kernel_rfl
def F33.E:Ent P:=mkF F33.eq
def L56_5.H:LHead:=⟨false,true,0,86021,86021,198,70,0,[(PS.mk (us 1 (qR::(pp 0)::us 3 ((rr 1)::pI::us 34 []))) [(oG [pI,pI,qM]),oI])],[((Out.exit 0),(PS.mk (us 1 (qR::(pp 0)::us 3 ((rr 1)::us 35 []))) [(oG [pI,pI,qM]),oI]))]⟩
def L56_5.O:Orc P:=⟨[F78.E],[],[],40⟩
def L56_5.s0:Option τ :=
 br (ltI (gI l 3) (gN l 6))
 (ck (((leI 0 (gI l 3))&&(ltI (gI l 3) (gN l 6)))&&true)
 (ck (ltN ((Int.toNat (gI l 3))*1) (List.length (gLL l 7)))
 (ck ((eqM (List.length (List.getD (gLL l 7) ((Int.toNat (gI l 3))*1) [])) (List.length (List.getD (gLL l 7) ((Int.toNat (gI l 3))*1) [])))&&true)
 (F78 [.L (List.getD (gLL l 7) ((Int.toNat (gI l 3))*1) [])]
 (fun j A=>(sw (ck (((leI 0 (gI A 0))&&(ltI (gI A 0) (gN l 0)))&&true)
 (ck (ltN ((Int.toNat (gI A 0))*1) (List.length (gL l 1)))
 (ck (((((eqM (List.length (gL l 8)) ((gN l 2)*1))&&true)&&(eqM 1 1))&&(leN (((gN l 2)+1)*9) 1099511627776))&&true)
 (nx 0 [.N (gN l 0),.L (gL l 1),.N ((gN l 2)+1),.I (wr .i64 ((gI l 3)+1)),.I (gI l 4),.I (gI l 5),.N (gN l 6),.LL (gLL l 7),.L ((gL l 8)++(List.take 1 (List.drop 0 [(List.getD (gL l 1) ((Int.toNat (gI A 0))*1) 0)])))]))))
 (fun _=>none)) j)))))
 (ex 0 [.N (gN l 0),.L (gL l 1),.N (gN l 2),.I (gI l 4),.I (gI l 5),.N (gN l 6),.LL (gLL l 7),.L (gL l 8)])
theorem L56_5.e0:LEq L56_5.O L56_5.H 0 L56_5.s0:=by intro τ next κ l;kernel_rfl
def L56_5:LStep P Cf:=LStep.mk1 (by decide) L56_5.e0
def L56_5.b:Option τ:=runE L56_5 fuel κ t l
def L56_5.E:LEnt P:=LStep.E L56_5
def F56.ps:List PV2:=[pCode,pR]
def F56.sh:List PA:=[(PA.mk (PV3.tup [nS,(pC 1)]) []),(PA.mk (PV3.tup [nS,(pC 6)]) []),(PA.mk (PV3.tup [(rr 0),(pC 0)]) [cI])]
def F56.O:Orc P:=⟨[F31.E,F96.E,F27.E],[L56_5.E],[],40⟩
def F56:Option τ :=
 ck ((eqM (List.length (gL l 3)) (List.length (gL l 3)))&&true)
 (F31 [.I (gI l 0),.I (gI l 1),.L (gL l 3)]
 (fun j A=>(sw (br (!(gB A 0))
 (k 0 [])
 (L56_5.b 0 [.N (List.length (gL l 3)),.L (gL l 3),.N 0,.I 0,.I (gI l 0),.I (gI l 1),.N (List.length (gLL l 2)),.LL (gLL l 2),.L []]
 (fun j B=>(sw (ck (((eqM (gN B 5) (List.length (gLL B 6)))&&true)&&((eqM (gN B 2) (List.length (List.take ((gN B 2)*1) (List.drop 0 (gL B 7)))))&&true))
 (F96 [.I (gI B 3),.I (gI B 4),.LL (gLL B 6),.L (List.take ((gN B 2)*1) (List.drop 0 (gL B 7)))]
 (fun j C=>(sw (ck ((eqM (gN C 0) (List.length (List.take ((gN C 0)*1) (List.drop 0 (gL C 1)))))&&((eqM (gN B 0) (List.length (gL B 1)))&&true))
 (F27 [.L (List.take ((gN C 0)*1) (List.drop 0 (gL C 1))),.L (gL B 1)]
 (fun j D=>(sw (br (!(gB D 0))
 (k 1 [])
 (k 2 [.N (gN B 2),.L (gL B 7)]))
 (fun _=>none)) j)))
 (fun _=>none)) j)))
 (fun _=>none)) j)))
 (fun _=>none)) j))
theorem F56.eq:FEq F56.O 21 F56.ps F56.sh F56:=by intro τ l κ;kernel_rfl
def F56.E:Ent P:=mkF F56.eq
def F55.ps:List PV2:=[pCode,pR]
def F55.sh:List PA:=[(PA.mk (PV3.tup [nS,(pC 1)]) []),(PA.mk (PV3.tup [(rr 0),(pC 0)]) [cI])]
def F55.O:Orc P:=⟨[F31.E,F96.E],[],[],40⟩
def F55:Option τ :=
 ck ((eqM (List.length (gL l 3)) (List.length (gL l 3)))&&true)
 (F31 [.I (gI l 0),.I (((List.length (gLL l 2)):Nat):Int),.L (gL l 3)]
 (fun j A=>(sw (br (!(gB A 0))
 (k 0 [])
 (ck (((eqM (List.length (gLL l 2)) (List.length (gLL l 2)))&&true)&&((eqM (List.length (gL l 3)) (List.length (gL l 3)))&&true))
 (F96 [.I (gI l 0),.I (gI l 1),.LL (gLL l 2),.L (gL l 3)]
 (fun j B=>(sw (k 1 [.N (gN B 0),.L (gL B 1)])
 (fun _=>none)) j))))
 (fun _=>none)) j))
theorem F55.eq:FEq F55.O 19 F55.ps F55.sh F55:=by intro τ l κ;kernel_rfl
def F55.E:Ent P:=mkF F55.eq
def L40_3.H:LHead:=⟨false,true,0,290819,290819,398,128,0,[(PS.mk (us 1 (qR::qR::(pp 0)::us 3 (pI::pI::us 20 []))) [(oG [pI,pI,qR])])],[((Out.exit 0),(PS.mk (us 7 (pI::us 21 [])) []))]⟩
def L40_3.O:Orc P:=⟨[T89.E,T77.E],[],[],40⟩
def L40_3.s0:Option τ :=
 br (ltI (gI l 5) (gN l 0))
 (ck (((leI 0 (gI l 5))&&(ltI (gI l 5) (gN l 0)))&&true)
 (ck (ltN ((Int.toNat (gI l 5))*1) (List.length (gL l 1)))
 (ck (((leI 0 (gI l 5))&&(ltI (gI l 5) (gN l 2)))&&true)
 (ck (ltN ((Int.toNat (gI l 5))*1) (List.length (gL l 3)))
 (ck (((eqM (gN l 8) (List.length (gL l 9)))&&true)&&true)
 (T89 [.I (gI l 6),.I (gI l 7),.L (gL l 9),.I (List.getD (gL l 1) ((Int.toNat (gI l 5))*1) 0),.I (List.getD (gL l 3) ((Int.toNat (gI l 5))*1) 0)]
 (fun j A=>(sw (ck (((eqM (gN l 8) (List.length (gL l 9)))&&true)&&true)
 (T77 [.I (gI l 6),.I (gI l 7),.L (gL l 9),.I (gI l 4),.I (gI A 0)]
 (fun j B=>(sw (nx 0 [.N (gN l 0),.L (gL l 1),.N (gN l 2),.L (gL l 3),.I (gI B 0),.I (wr .i64 ((gI l 5)+1)),.I (gI l 6),.I (gI l 7),.N (gN l 8),.L (gL l 9)])
 (fun _=>none)) j)))
 (fun _=>none)) j)))))))
 (ex 0 [.I (gI l 4)])
theorem L40_3.e0:LEq L40_3.O L40_3.H 0 L40_3.s0:=by intro τ next κ l;kernel_rfl
def L40_3:LStep P Cf:=LStep.mk1 (by decide) L40_3.e0
def L40_3.b:Option τ:=runE L40_3 fuel κ t l
def L40_3.E:LEnt P:=LStep.E L40_3
def F40.ps:List PV2:=[(PV2.agg [iI,iI,aI]),pR,pR]
def F40.sh:List PA:=[(PA.mk (PV3.v pI) [])]
def F40.O:Orc P:=⟨[],[L40_3.E],[],40⟩
def F40:Option τ :=
 L40_3.b 0 [.N (List.length (gL l 3)),.L (gL l 3),.N (List.length (gL l 4)),.L (gL l 4),.I 0,.I 0,.I (gI l 0),.I (gI l 1),.N (List.length (gL l 2)),.L (gL l 2)]
 (fun j A=>(sw (k 0 [.I (gI A 0)])
 (fun _=>none)) j)
theorem F40.eq:FEq F40.O 71 F40.ps F40.sh F40:=by intro τ l κ;kernel_rfl
def F40.E:Ent P:=mkF F40.eq
def L58_6.H:LHead:=⟨false,true,0,94214,94214,962,256,0,[(PS.mk (us 1 (qR::us 4 ((pp 0)::(rr 1)::(rr 2)::pI::us 31 []))) [(oG [pI,pI,qR]),oM,oI])],[((Out.exit 0),(PS.mk (us 8 ((rr 0)::us 32 [])) [oI]))]⟩
def L58_6.O:Orc P:=⟨[F40.E],[],[],40⟩
def L58_6.s0:Option τ :=
 br (ltI (gI l 4) (gN l 2))
 (ck (((leI 0 (gI l 4))&&(ltI (gI l 4) (gN l 2)))&&true)
 (ck (ltN (0+((Int.toNat (gI l 4))*1)) (List.length (gLL l 9)))
 (ck (((eqM (gN l 7) (List.length (gL l 8)))&&true)&&((eqM (List.length (List.getD (gLL l 9) (0+((Int.toNat (gI l 4))*1)) [])) (List.length (List.getD (gLL l 9) (0+((Int.toNat (gI l 4))*1)) [])))&&((eqM (gN l 0) (List.length (gL l 1)))&&true)))
 (F40 [.I (gI l 5),.I (gI l 6),.L (gL l 8),.L (List.getD (gLL l 9) (0+((Int.toNat (gI l 4))*1)) []),.L (gL l 1)]
 (fun j A=>(sw (ck (((((eqM (List.length (gL l 10)) ((gN l 3)*1))&&true)&&(eqM 1 1))&&(leN (((gN l 3)+1)*9) 1099511627776))&&true)
 (nx 0 [.N (gN l 0),.L (gL l 1),.N (gN l 2),.N ((gN l 3)+1),.I (wr .i64 ((gI l 4)+1)),.I (gI l 5),.I (gI l 6),.N (gN l 7),.L (gL l 8),.LL (gLL l 9),.L ((gL l 10)++(List.take 1 (List.drop 0 [(gI A 0)])))]))
 (fun _=>none)) j)))))
 (ex 0 [.N (gN l 3),.L (gL l 10)])
theorem L58_6.e0:LEq L58_6.O L58_6.H 0 L58_6.s0:=by intro τ next κ l;kernel_rfl
def L58_6:LStep P Cf:=LStep.mk1 (by decide) L58_6.e0
def L58_6.b:Option τ:=runE L58_6 fuel κ t l
def L58_6.E:LEnt P:=LStep.E L58_6
def L58_6_1.H:LHead:=⟨false,true,0,94214,94214,962,256,0,[(PS.mk (us 1 (qR::us 4 ((pp 0)::(PV2.v (PV1.sl PC0.e))::(rr 1)::pI::us 31 []))) [(oG [pI,pI,qR]),oI])],[((Out.exit 0),(PS.mk (us 8 ((rr 0)::us 32 [])) [oI]))]⟩
def L58_6_1.O:Orc P:=⟨[],[],[],40⟩
def L58_6_1.s0 {τ:Type} (next ex:Nat→LS_→Option τ) (l:LS_):Option τ :=
 br (ltI (gI l 4) (gN l 2))
 (ck (((leI 0 (gI l 4))&&(ltI (gI l 4) (gN l 2)))&&true)
 (none))
 (ex 0 [.N (gN l 3),.L (gL l 9)])
theorem L58_6_1.e0:LEq L58_6_1.O L58_6_1.H 0 L58_6_1.s0:=by intro τ next κ l;kernel_rfl
def L58_6_1:LStep P Cf:=LStep.mk1 (by decide) L58_6_1.e0
def L58_6_1.b:Option τ:=runE L58_6_1 fuel κ t l
def L58_6_1.E:LEnt P:=LStep.E L58_6_1
def F58.ps:List PV2:=[pCode,pR]
def F58.sh:List PA:=[(PA.mk (PV3.tup [nS,(pC 1)]) []),(PA.mk (PV3.tup [(rr 0),(pC 0)]) [cI])]
def F58.O:Orc P:=⟨[F31.E,T29.E,F33.E],[L58_6.E,L58_6_1.E],[],40⟩
def F58:Option τ :=
 ck ((eqM (List.length (gL l 3)) (List.length (gL l 3)))&&true)
 (F31 [.I (gI l 0),.I (gI l 1),.L (gL l 3)]
 (fun j A=>(sw (br (!(gB A 0))
 (k 0 [])
 (T29 [.I (gI l 0)]
 (fun j B=>(sw (ck (((eqM (List.length (gLL l 2)) (List.length (gLL l 2)))&&true)&&true)
 (F33 [.I (gI l 0),.I (gI l 1),.LL (gLL l 2)]
 (fun j C=>(sw (L58_6.b 0 [.N (List.length (gL l 3)),.L (gL l 3),.N (gN C 2),.N 0,.I 0,.I (gI B 0),.I (gI B 1),.N (List.length (gL B 2)),.L (gL B 2),.LL (gLL C 3),.L []]
 (fun j D=>(sw (k 1 [.N (gN D 0),.L (gL D 1)])
 (fun _=>none)) j))
 (sw (L58_6_1.b 0 [.N (List.length (gL l 3)),.L (gL l 3),.N (gN C 2),.N 0,.I 0,.I (gI B 0),.I (gI B 1),.N (List.length (gL B 2)),.L (gL B 2),.L []]
 (fun j D=>(sw (k 1 [.N (gN D 0),.L (gL D 1)])
 (fun _=>none)) j))
 (fun _=>none))) j)))
 (fun _=>none)) j)))
 (fun _=>none)) j))
theorem F58.eq:FEq F58.O 23 F58.ps F58.sh F58:=by intro τ l κ;kernel_rfl
def F58.E:Ent P:=mkF F58.eq
def L63_3.H:LHead:=⟨false,true,0,319491,319491,25,8,0,[(PS.mk (qR::us 2 (pI::pI::us 14 [])) [])],[((Out.exit 0),(PS.mk (us 3 (pI::us 15 [])) []))]⟩
def L63_3.O:Orc P:=⟨[],[],[],40⟩
def L63_3.s0:Option τ :=
 br (ltI (gI l 3) (gN l 0))
 (ck (((leI 0 (gI l 3))&&(ltI (gI l 3) (gN l 0)))&&true)
 (ck (ltN ((Int.toNat (gI l 3))*1) (List.length (gL l 1)))
 (br ((List.getD (gL l 1) ((Int.toNat (gI l 3))*1) 0) != 0)
 (nx 0 [.N (gN l 0),.L (gL l 1),.I (wr .i64 ((gI l 2)+1)),.I (wr .i64 ((gI l 3)+1))])
 (nx 0 [.N (gN l 0),.L (gL l 1),.I (gI l 2),.I (wr .i64 ((gI l 3)+1))]))))
 (ex 0 [.I (gI l 2)])
theorem L63_3.e0:LEq L63_3.O L63_3.H 0 L63_3.s0:=by intro τ next κ l;kernel_rfl
def L63_3:LStep P Cf:=LStep.mk1 (by decide) L63_3.e0
def L63_3.b:Option τ:=runE L63_3 fuel κ t l
def L63_3.E:LEnt P:=LStep.E L63_3
def F63.ps:List PV2:=[pR]
def F63.sh:List PA:=[(PA.mk (PV3.v pI) [])]
def F63.O:Orc P:=⟨[],[L63_3.E],[],40⟩
def F63:Option τ :=
 L63_3.b 0 [.N (List.length (gL l 0)),.L (gL l 0),.I 0,.I 0]
 (fun j A=>(sw (k 0 [.I (gI A 0)])
 (fun _=>none)) j)
theorem F63.eq:FEq F63.O 78 F63.ps F63.sh F63:=by intro τ l κ;kernel_rfl
def F63.E:Ent P:=mkF F63.eq
def L59_6.H:LHead:=⟨false,true,0,114694,114694,208,64,0,[(PS.mk (us 4 ((rr 0)::us 1 ((rr 1)::pI::us 29 []))) [oM,oI])],[((Out.exit 0),(PS.mk (us 6 ((rr 0)::us 30 [])) [oI]))]⟩
def L59_6.O:Orc P:=⟨[F63.E],[],[],40⟩
def L59_6.s0:Option τ :=
 br (ltI (gI l 2) (gN l 0))
 (ck (((leI 0 (gI l 2))&&(ltI (gI l 2) (gN l 0)))&&true)
 (ck (ltN (0+((Int.toNat (gI l 2))*1)) (List.length (gLL l 3)))
 (ck ((eqM (List.length (List.getD (gLL l 3) (0+((Int.toNat (gI l 2))*1)) [])) (List.length (List.getD (gLL l 3) (0+((Int.toNat (gI l 2))*1)) [])))&&true)
 (F63 [.L (List.getD (gLL l 3) (0+((Int.toNat (gI l 2))*1)) [])]
 (fun j A=>(sw (ck (((leI 0 (gI A 0))&&(ltI (gI A 0) (gN l 1)))&&true)
 (ck (ltN (0+((Int.toNat (gI A 0))*1)) (List.length (gL l 4)))
 (ck (((leI 0 (gI A 0))&&(ltI (gI A 0) (gN l 1)))&&true)
 (ck ((leN ((0+((Int.toNat (gI A 0))*1))+1) (List.length (gL l 4)))&&true)
 (nx 0 [.N (gN l 0),.N (gN l 1),.I (wr .i64 ((gI l 2)+1)),.LL (gLL l 3),.L (List.set (gL l 4) (0+((Int.toNat (gI A 0))*1)) (wr .i64 ((List.getD (gL l 4) (0+((Int.toNat (gI A 0))*1)) 0)+1)))])))))
 (fun _=>none)) j)))))
 (ex 0 [.N (gN l 1),.L (gL l 4)])
theorem L59_6.e0:LEq L59_6.O L59_6.H 0 L59_6.s0:=by intro τ next κ l;kernel_rfl
def L59_6:LStep P Cf:=LStep.mk1 (by decide) L59_6.e0
def L59_6.b:Option τ:=runE L59_6 fuel κ t l
def L59_6.E:LEnt P:=LStep.E L59_6
def F59.ps:List PV2:=[pCode]
def F59.sh:List PA:=[(PA.mk (PV3.tup [nS,(pC 2)]) []),(PA.mk (PV3.tup [(rr 0),(pC 0)]) [cI])]
def F59.O:Orc P:=⟨[F74.E],[L59_6.E],[],40⟩
def F59:Option τ :=
 ck (((eqM (List.length (gLL l 2)) (List.length (gLL l 2)))&&true)&&true)
 (F74 [.I (gI l 0),.I (gI l 1),.LL (gLL l 2)]
 (fun j A=>(sw (k 0 [])
 (sw (ck (((leI 0 (wr .i64 ((gI l 1)+1)))&&(leI (wr .i64 ((gI l 1)+1)) (wr .i64 ((gI l 1)+1))))&&(leI ((wr .i64 ((gI l 1)+1))*9) 1099511627776))
 (L59_6.b 0 [.N (gN A 0),.N (Int.toNat (wr .i64 ((gI l 1)+1))),.I 0,.LL (gLL A 1),.L (List.replicate (Int.toNat (wr .i64 ((gI l 1)+1))) (0:Int))]
 (fun j B=>(sw (k 1 [.N (gN B 0),.L (gL B 1)])
 (fun _=>none)) j)))
 (fun _=>none))) j))
theorem F59.eq:FEq F59.O 28 F59.ps F59.sh F59:=by intro τ l κ;kernel_rfl
def F59.E:Ent P:=mkF F59.eq
def L60_5.H:LHead:=⟨false,true,0,118789,118789,94,12,0,[(PS.mk (us 1 ((pp 0)::pI::pI::(rr 1)::us 1 (pI::us 20 []))) [(oG [pI,pI,qM]),oI])],[(Out.ret,(PS.mk (us 2 (pI::pI::us 23 [])) [])),((Out.exit 0),(PS.mk (us 2 (pI::pI::us 23 [])) []))]⟩
def L60_5.O:Orc P:=⟨[],[],[],40⟩
def L60_5.s0:Option τ :=
 br (leI (gI l 3) (gI l 5))
 (ck (((leI 0 (gI l 3))&&(ltI (gI l 3) (gN l 2)))&&true)
 (ck (ltN (0+((Int.toNat (gI l 3))*1)) (List.length (gL l 8)))
 (br (gtI (List.getD (gL l 8) (0+((Int.toNat (gI l 3))*1)) 0) 0)
 (ex 0 [.I (gI l 3),.I 0])
 (nx 0 [.I (gI l 0),.I (gI l 1),.N (gN l 2),.I (wr .i64 ((gI l 3)+1)),.I (gI l 4),.I (gI l 5),.N (gN l 6),.LL (gLL l 7),.L (gL l 8)]))))
 (ex 1 [.I (gI l 0),.I (gI l 1)])
theorem L60_5.e0:LEq L60_5.O L60_5.H 0 L60_5.s0:=by intro τ next κ l;kernel_rfl
def L60_5:LStep P Cf:=LStep.mk1 (by decide) L60_5.e0
def L60_5.b:Option τ:=runE L60_5 fuel κ t l
def L60_5.E:LEnt P:=LStep.E L60_5
def F60.ps:List PV2:=[pCode]
def F60.sh:List PA:=[(PA.mk (PV3.tup [(pC 0),(pC 2)]) []),(PA.mk (PV3.tup [pI,pI]) []),(PA.mk (PV3.tup [(pC 0),(pC 4)]) [])]
def F60.O:Orc P:=⟨[F59.E],[L60_5.E],[],40⟩
def F60:Option τ :=
 ck (((eqM (List.length (gLL l 2)) (List.length (gLL l 2)))&&true)&&true)
 (F59 [.I (gI l 0),.I (gI l 1),.LL (gLL l 2)]
 (fun j A=>(sw (k 0 [])
 (sw (L60_5.b 0 [.I 0,.I 0,.N (gN A 0),.I 1,.I (gI l 0),.I (gI l 1),.N (List.length (gLL l 2)),.LL (gLL l 2),.L (gL A 1)]
 (fun j B=>(sw (k 1 [.I (gI B 0),.I (gI B 1)])
 (sw (k 2 [])
 (fun _=>none))) j))
 (fun _=>none))) j))
theorem F60.eq:FEq F60.O 29 F60.ps F60.sh F60:=by intro τ l κ;kernel_rfl
def F60.E:Ent P:=mkF F60.eq
def L54_3.H:LHead:=⟨false,true,0,69635,69635,391,128,0,[(PS.mk (pI::pI::(PV2.v (PV1.sl (PC0.i IntKind.u8)))::us 4 ((rr 0)::pI::us 24 [])) [oI])],[((Out.exit 0),(PS.mk (us 7 ((rr 0)::us 25 [])) [oI]))]⟩
def L54_3.O:Orc P:=⟨[],[],[],40⟩
def L54_3.s0:Option τ :=
 br (ltI (gI l 5) (gI l 1))
 (br (ltI (gI l 5) (gN l 2))
 (ck (((leI 0 (gI l 5))&&(ltI (gI l 5) (gN l 2)))&&true)
 (ck (ltN ((Int.toNat (gI l 5))*1) (List.length (gL l 3)))
 (ck (!((gI l 0)==0))
 (ck (((leI 0 (gI l 5))&&(ltI (gI l 5) (gN l 4)))&&true)
 (ck ((leN ((0+((Int.toNat (gI l 5))*1))+1) (List.length (gL l 6)))&&true)
 (nx 0 [.I (gI l 0),.I (gI l 1),.N (gN l 2),.L (gL l 3),.N (gN l 4),.I (wr .i64 ((gI l 5)+1)),.L (List.set (gL l 6) (0+((Int.toNat (gI l 5))*1)) (Int.tmod (wr .i64 (List.getD (gL l 3) ((Int.toNat (gI l 5))*1) 0)) (gI l 0)))]))))))
 (ex 0 [.N (gN l 4),.L (gL l 6)]))
 (ex 0 [.N (gN l 4),.L (gL l 6)])
theorem L54_3.e0:LEq L54_3.O L54_3.H 0 L54_3.s0:=by intro τ next κ l;kernel_rfl
def L54_3:LStep P Cf:=LStep.mk1 (by decide) L54_3.e0
def L54_3.b:Option τ:=runE L54_3 fuel κ t l
def L54_3.E:LEnt P:=LStep.E L54_3
def F54.ps:List PV2:=[pI,pI,(PV2.v (PV1.arr (PC0.i IntKind.u8)))]
def F54.sh:List PA:=[(PA.mk (PV3.v (rr 0)) [cI])]
def F54.O:Orc P:=⟨[F32.E],[L54_3.E],[],40⟩
def F54:Option τ :=
 F32 [.I (gI l 1)]
 (fun j A=>(sw (L54_3.b 0 [.I (gI l 0),.I (gI l 1),.N (List.length (gL l 2)),.L (gL l 2),.N (gN A 0),.I 0,.L (gL A 1)]
 (fun j B=>(sw (k 0 [.N (gN B 0),.L (gL B 1)])
 (fun _=>none)) j))
 (fun _=>none)) j)
theorem F54.eq:FEq F54.O 17 F54.ps F54.sh F54:=by intro τ l κ;kernel_rfl
def F54.E:Ent P:=mkF F54.eq
def F39.ps:List PV2:=[pCode,pCode]
def F39.sh:List PA:=[(PA.mk (PV3.v pB) [])]
def F39.O:Orc P:=⟨[F22.E],[],[],40⟩
def F39:Option τ :=
 br ((gI l 0)==(gI l 3))
 (br ((gI l 1)==(gI l 4))
 (ck ((eqM (List.length (gLL l 2)) (List.length (gLL l 2)))&&((eqM (List.length (gLL l 5)) (List.length (gLL l 5)))&&true))
 (F22 [.LL (gLL l 2),.LL (gLL l 5)]
 (fun j A=>(sw (k 0 [.B (gB A 0)])
 (fun _=>none)) j)))
 (k 0 [.B false]))
 (k 0 [.B false])
theorem F39.eq:FEq F39.O 13 F39.ps F39.sh F39:=by intro τ l κ;kernel_rfl
def F39.E:Ent P:=mkF F39.eq
end
end Go.Proofs.Yticbdgmcofjkeaa.Ai
namespace Go.Proofs.Yticbdgmcofjkeaa.Ai
open Go Ma
noncomputable section
def fnz (r:List Int):Nat:=r.findIdx fun a=>a != 0
theorem fz_ne {r:List Int} (h:fnz r<r.length):r.getD (fnz r) 0≠0:=by
 unfold fnz at h ⊢
 have:=List.findIdx_getElem (p:=fun a:Int=>a != 0) (xs:=r) (w:=h)
 rw [List.getD_eq_getElem?_getD,List.getElem?_eq_getElem h]
 simpa using this
theorem fz_lt {r:List Int} {j:Nat} (h:j<fnz r):r.getD j 0=0:=by
 have hl:j<r.length:=Nat.lt_of_lt_of_le h List.findIdx_le_length
 have:=List.not_of_lt_findIdx (p:=fun a:Int=>a != 0) (xs:=r) h
 rw [List.getD_eq_getElem?_getD,List.getElem?_eq_getElem hl]
 simpa using this
theorem fz_eq {r:List Int} {k:Nat} (h0:∀ j,j<k→r.getD j 0=0) (h1:r.getD k 0≠0):fnz r=k:=by
 have hk:k<r.length:=by
  rcases Nat.lt_or_ge k r.length with h | h
  ·exact h
  ·exact absurd (by rw [List.getD_eq_getElem?_getD,List.getElem?_eq_none h];rfl) h1
 rcases Nat.lt_trichotomy (fnz r) k with h | h | h
 ·exact absurd (h0 _ h) (fz_ne (by omega))
 ·exact h
 ·exact absurd (fz_lt h) h1
structure Lc (q n:Nat) (G:List (List Int)):Prop where
 fq:q∈Qs
 n0:1≤n
 n1:n≤24
 form:∃ piv,Rref q n G piv
theorem Cd.lc {q n:Nat} {G:List (List Int)} (h:Cd q n G):Lc q n G:=⟨h.fq,h.n0,by have:=h.n1;omega,h.form⟩
theorem rref_fz {q n:Nat} {G:List (List Int)} {piv:Nat→Nat} (h:Rref q n G piv) {i:Nat} (hi:i<G.length):fnz (G.getD i [])=piv i :=
 fz_eq (fun j hj=>h.lead i j hi hj) (by have:=h.one i hi;unfold ent at this;rw [this];omega)
theorem rref_len {q n:Nat} {G:List (List Int)} {piv:Nat→Nat} (h:Rref q n G piv):G.length≤n:=by
 have:∀ k,k≤G.length→∀ i,i<k→i≤piv i:=by
  intro k
  induction k with
  | zero=>intro _ i hi;omega
  | succ k ih =>
   intro hk i hi
   rcases Nat.lt_or_ge i k with h1 | h1
   ·exact ih (by omega) i h1
   ·have e:i=k:=by omega
    subst e
    cases i with
    | zero=>omega
    | succ i =>
     have:=ih (by omega) i (by omega)
     have:=h.mono i (i+1) (by omega) (by omega)
     omega
 rcases Nat.eq_zero_or_pos G.length with e | e
 ·omega
 ·have h1:=this G.length (Nat.le_refl _) (G.length-1) (by omega)
  have h2:=h.lt (G.length-1) (by omega)
  omega
theorem Lc.rows {q n:Nat} {G:List (List Int)} (h:Lc q n G):Rows q n G:=by
 obtain ⟨piv,R⟩:=h.form
 have:=rref_len R
 have:=h.n1
 exact ⟨R.wd,by omega,by omega⟩
theorem Lc.len {q n:Nat} {G:List (List Int)} (h:Lc q n G):G.length≤n:=by
 obtain ⟨piv,R⟩:=h.form
 exact rref_len R
theorem Lc.fnzs {q n:Nat} {G:List (List Int)} (h:Lc q n G) {i:Nat} (hi:i<G.length):fnz (G.getD i [])<n∧(G.getD i []).length=n:=by
 obtain ⟨piv,R⟩:=h.form
 exact ⟨by rw [rref_fz R hi];exact R.lt i hi,(R.wd i hi).1⟩
theorem L78_2_spec {r:List Int} (hs:r.length<2^60) (hp:fnz r<r.length) {τ:Type} (κ:Nat→LS_→Option τ):∀ (f j:Nat),j≤fnz r→r.length<f+j →
  runE L78_2 f κ 0 [.N r.length,.L r,.I j]=κ 0 [.I (fnz r)]
 | 0,j,h1,h2=>by omega
 | f+1,j,h1,h2=>by
  rw [runE_succ]
  show L78_2.s0 _ _ _=_
  unfold L78_2.s0
  simp only [g_,Int.toNat_natCast,Nat.mul_one]
  rw [ck_of (by simp;omega),ck_of (by simp;omega)]
  rcases Nat.lt_or_ge j (fnz r) with h | h
  ·rw [br_of (by rw [fz_lt h];rfl),wsucc (j:=j) (by omega)]
   exact L78_2_spec hs hp κ f (j+1) (by omega) (by omega)
  ·have e:j=fnz r:=by omega
   subst e
   rw [br_no (by simpa using fz_ne hp)]
theorem F78_spec {r:List Int} (hs:r.length<2^60) (hp:fnz r<r.length) {τ:Type} (k:Nat→LS_→Option τ):F78 [.L r] k=k 0 [.I (fnz r)]:=by
 have hfu:=fuel_le
 unfold F78 L78_2.b
 simp only [gL_zero]
 refine (L78_2_spec hs hp _ fuel 0 (by omega) (by omega)).trans ?_
 simp only [sw_zero,gI_zero]
def pA (n:Nat) (G:List (List Int)):Nat→List Int
 | 0=>List.replicate n 0
 | i+1=>(pA n G i).set (fnz (G.getD i [])) (((i+1:Nat):Nat):Int)
theorem pA_len (n:Nat) (G:List (List Int)):∀ i,(pA n G i).length=n
 | 0=>by simp [pA]
 | i+1=>by simp [pA,pA_len n G i]
theorem L33_4_spec {n:Nat} (hn:n<2^20) {G:List (List Int)} (hG:G.length<2^20) (hp:∀ i,i<G.length→fnz (G.getD i [])<n∧(G.getD i []).length=n) (q a b p e:Int) (c:Nat) (M:List Int) {τ:Type} (κ:Nat→LS_→Option τ):∀ (f i:Nat),i≤G.length→G.length<f+i →
  runE L33_4 f κ 0 [.N n,.I i,.I q,.I n,.N G.length,.LL G,.I a,.I b,.I p,.I e,.N c,.L M,.L (pA n G i)]
   = κ 0 [.N n,.I q,.I n,.N G.length,.LL G,.I a,.I b,.I p,.I e,.N c,.L M,.L (pA n G G.length)]
 | 0,i,h1,h2=>by omega
 | f+1,i,h1,h2=>by
  rw [runE_succ]
  show L33_4.s0 _ _ _=_
  unfold L33_4.s0
  simp only [g_,Int.toNat_natCast,Nat.mul_one,Nat.zero_add]
  by_cases hi:i<G.length
  ·obtain ⟨p1,p2⟩:=hp i hi
   have pl:=pA_len n G i
   have ih:=L33_4_spec hn hG hp q a b p e c M κ f (i+1) (by omega) (by omega)
   rw [show pA n G (i+1)=(pA n G i).set (fnz (G.getD i [])) ((i+1:Nat):Int) from rfl] at ih
   rw [br_of (by simp;omega),ck_of (by simp;omega),ck_of (by simp;omega),ck_of (by simp),F78_spec (by omega) (by omega)]
   simp only [sw_zero,gI_zero,Int.toNat_natCast]
   generalize fnz (G.getD i [])=z at p1 p2 ih ⊢
   rw [ck_of (by simp;omega),ck_of (by simp;omega),wsucc (j:=i) (by omega)]
   exact ih
  ·have:i=G.length:=by omega
   subst this
   rw [br_no (by simp)]
def drow (q n:Nat) (A:List Int) (G:List (List Int)) (j k:Nat):List Int :=
 (List.range n).map fun t=>if t<k∧0<A.getD t 0 then fneg q ((G.getD ((A.getD t 0).toNat-1) []).getD j 0) else if t=j then 1 else 0
theorem drow_len {q n:Nat} {A:List Int} {G:List (List Int)} {j k:Nat}:(drow q n A G j k).length=n:=by simp [drow]
theorem drow_get {q n:Nat} {A:List Int} {G:List (List Int)} {j k t:Nat} (ht:t<n):(drow q n A G j k).getD t 0=if t<k∧0<A.getD t 0 then fneg q ((G.getD ((A.getD t 0).toNat-1) []).getD j 0) else if t=j then 1 else 0:=by
 simp [drow,List.getD_eq_getElem?_getD,ht]
theorem drow_zero {q n:Nat} {A:List Int} {G:List (List Int)} {j:Nat} (hj:j<n):(List.replicate n (0:Int)).set j 1=drow q n A G j 0 :=
 ext_getD (by rw [drow_len];simp) fun t ht=>by
  simp only [List.length_set,List.length_replicate] at ht
  rw [drow_get ht,if_neg (by omega),List.getD_eq_getElem?_getD,List.getElem?_set]
  by_cases e:j=t
  ·subst e;simp [hj]
  ·rw [if_neg e,if_neg (fun x=>e x.symm)];simp [ht]
theorem drow_skip {q n:Nat} {A:List Int} {G:List (List Int)} {j k:Nat} (h:¬ 0<A.getD k 0):drow q n A G j (k+1)=drow q n A G j k :=
 ext_getD (by rw [drow_len,drow_len]) fun t ht=>by
  rw [drow_len] at ht
  rw [drow_get ht,drow_get ht]
  by_cases e:t=k
  ·subst e;rw [if_neg (c:=t<t+1∧0<A.getD t 0) (fun x=>h x.2),if_neg (c:=t<t∧0<A.getD t 0) (fun x=>h x.2)]
  ·by_cases c:t<k∧0<A.getD t 0
   ·rw [if_pos c,if_pos (c:=t<k+1∧0<A.getD t 0) ⟨by omega,c.2⟩]
   ·rw [if_neg c,if_neg (c:=t<k+1∧0<A.getD t 0) (fun x=>c ⟨by omega,x.2⟩)]
theorem drow_step {q n:Nat} {A:List Int} {G:List (List Int)} {j k:Nat} (hk:k<n) (h:0<A.getD k 0):(drow q n A G j k).set k (fneg q ((G.getD ((A.getD k 0).toNat-1) []).getD j 0))=drow q n A G j (k+1) :=
 ext_getD (by rw [List.length_set,drow_len,drow_len]) fun t ht=>by
  rw [List.length_set,drow_len] at ht
  rw [drow_get ht,List.getD_eq_getElem?_getD,List.getElem?_set]
  by_cases e:k=t
  ·subst e;rw [if_pos rfl,if_pos (by rw [drow_len];exact hk),if_pos (c:=k<k+1∧0<A.getD k 0) ⟨by omega,h⟩];rfl
  ·rw [if_neg e,←List.getD_eq_getElem?_getD,drow_get ht]
   by_cases c:t<k∧0<A.getD t 0
   ·rw [if_pos c,if_pos (c:=t<k+1∧0<A.getD t 0) ⟨by omega,c.2⟩]
   ·rw [if_neg c,if_neg (c:=t<k+1∧0<A.getD t 0) (fun x=>c ⟨by omega,x.2⟩)]
structure Cols (q n:Nat) (A:List Int) (G:List (List Int)):Prop where
 len:A.length=n
 at_:∀ t,t<n→0≤A.getD t 0∧A.getD t 0≤G.length
theorem L33_15_spec {q n:Nat} (hq:q∈Qs) {A:List Int} {G:List (List Int)} (hR:Rows q n G) (hA:Cols q n A G) (cnt:Nat) {j:Nat} (hj:j<n) (a b Q:Int) (rows:List (List Int)) {τ:Type} (κ:Nat→LS_→Option τ):∀ (f k:Nat),k≤n→n<f+k →
  runE L33_15 f κ 0 [.N n,.N cnt,.I j,.N n,.I k,.I Q,.I n,.N G.length,.LL G,.I a,.I b,.I (fp q),.I (fe q),.N (fm q).length,.L (fm q),.L A,.LL rows,.L (drow q n A G j k)]
   = κ 0 [.N n,.N cnt,.I j,.N n,.I Q,.I n,.N G.length,.LL G,.I a,.I b,.I (fp q),.I (fe q),.N (fm q).length,.L (fm q),.L A,.LL rows,.L (drow q n A G j n)]
 | 0,k,h1,h2=>by omega
 | f+1,k,h1,h2=>by
  have hn:=hR.short
  have hg:=hR.few
  have hAl:=hA.len
  rw [runE_succ]
  show L33_15.s0 _ _ _=_
  unfold L33_15.s0
  simp only [g_,Int.toNat_natCast,Nat.mul_one,Nat.zero_add]
  by_cases hk:k<n
  ·rw [br_of (by simp;omega),ck_of (by simp;omega),ck_of (by simp;omega)]
   obtain ⟨a0,a1⟩:=hA.at_ k hk
   by_cases h:0<A.getD k 0
   ·obtain ⟨x,hx,hxl⟩:∃ x:Nat,A.getD k 0-1=(x:Int)∧x<G.length:=⟨(A.getD k 0-1).toNat,by omega,by omega⟩
    have hx2:(A.getD k 0).toNat-1=x:=by omega
    have wx:=hR.wd x hxl
    have wxl:=wx.1
    have wj:=wx.2 j hj
    have st:=drow_step (q:=q) (G:=G) (j:=j) hk h
    rw [hx2] at st
    have dl:=drow_len (q:=q) (n:=n) (A:=A) (G:=G) (j:=j) (k:=k)
    rw [br_of (by simpa using h),ck_of (by simp;omega),ck_of (by simp;omega),wr64 (n:=A.getD k 0-1) (by omega) (by omega),hx,Int.toNat_natCast]
    generalize G.getD x []=X at wx wxl wj st ⊢
    rw [ck_of (by simp;omega),ck_of (by simp;omega),ck_of (by simp;omega),ck_of (by simp;omega),ck_of (by simp)]
    unfold T79
    rw [tab1_of hq wj.1 wj.2]
    simp only [sw_zero,gI_zero]
    rw [ck_of (by simp;omega),ck_of (by simp;omega),wsucc (j:=k) (by omega),st]
    exact L33_15_spec hq hR hA cnt hj a b Q rows κ f (k+1) (by omega) (by omega)
   ·rw [br_no (by simp only [gtI_no];exact h),wsucc (j:=k) (by omega),←drow_skip (q:=q) (n:=n) (G:=G) (j:=j) h]
    exact L33_15_spec hq hR hA cnt hj a b Q rows κ f (k+1) (by omega) (by omega)
  ·have:k=n:=by omega
   subst this
   rw [br_no (by simp)]
def frees (A:List Int) (j:Nat):List Nat:=(List.range j).filter fun t=>decide (A.getD t 0=0)
def drows (q n:Nat) (A:List Int) (G:List (List Int)) (j:Nat):List (List Int):=(frees A j).map fun t=>drow q n A G t n
theorem frees_succ (A:List Int) (j:Nat):frees A (j+1)=if A.getD j 0=0 then frees A j++[j] else frees A j:=by
 unfold frees
 rw [List.range_succ,List.filter_append]
 split
 ·rename_i h;rw [List.filter_cons,if_pos (by simpa using h)];rfl
 ·rename_i h;rw [List.filter_cons,if_neg (by simpa using h)];simp
theorem frees_len (A:List Int) (j:Nat):(frees A j).length≤j:=Nat.le_trans (List.length_filter_le _ _) (by simp)
theorem drows_len {q n:Nat} {A:List Int} {G:List (List Int)} {j:Nat}:(drows q n A G j).length=(frees A j).length:=by simp [drows]
theorem L33_9_spec {q n:Nat} (hq:q∈Qs) {A:List Int} {G:List (List Int)} (hR:Rows q n G) (hA:Cols q n A G) (a b Q:Int) {τ:Type} (κ:Nat→LS_→Option τ):∀ (f j:Nat),j≤n→n<f+j →
  runE L33_9 f κ 0 [.N n,.N (drows q n A G j).length,.I j,.I Q,.I n,.N G.length,.LL G,.I a,.I b,.I (fp q),.I (fe q),.N (fm q).length,.L (fm q),.L A,.LL (drows q n A G j)]
   = κ 0 [.N (drows q n A G n).length,.I Q,.I n,.N G.length,.LL G,.I a,.I b,.I (fp q),.I (fe q),.N (fm q).length,.L (fm q),.LL (drows q n A G n)]
 | 0,j,h1,h2=>by omega
 | f+1,j,h1,h2=>by
  have hn:=hR.short
  have hg:=hR.few
  have hAl:=hA.len
  have hfu:=fuel_le
  have hl:=frees_len A j
  rw [runE_succ]
  show L33_9.s0 _ _ _=_
  unfold L33_9.s0
  simp only [g_,Int.toNat_natCast,Nat.mul_one,Nat.zero_add]
  by_cases hj:j<n
  ·rw [br_of (by simp;omega),ck_of (by simp;omega),ck_of (by simp;omega)]
   obtain ⟨a0,a1⟩:=hA.at_ j hj
   by_cases h:0<A.getD j 0
   ·rw [br_of (by simpa using h),wsucc (j:=j) (by omega)]
    have e:drows q n A G (j+1)=drows q n A G j:=by unfold drows;rw [frees_succ,if_neg (by omega)]
    have ih:=L33_9_spec hq hR hA a b Q κ f (j+1) (by omega) (by omega)
    rw [e] at ih
    exact ih
   ·have hz:A.getD j 0=0:=by omega
    have e:drows q n A G (j+1)=drows q n A G j++[drow q n A G j n]:=by unfold drows;rw [frees_succ,if_pos hz,List.map_append];rfl
    have dl:=drows_len (q:=q) (n:=n) (A:=A) (G:=G) (j:=j)
    have ih:=L33_9_spec hq hR hA a b Q κ f (j+1) (by omega) (by omega)
    rw [br_no (by simp only [gtI_no];exact h),F32_spec (by omega)]
    simp only [sw_zero,gN_zero,gL_succ,gL_zero]
    rw [ck_of (by simp;omega),ck_of (by simp;omega),drow_zero (q:=q) (A:=A) (G:=G) hj]
    unfold L33_15.b
    refine (L33_15_spec hq hR hA _ hj a b Q _ _ fuel 0 (by omega) (by omega)).trans ?_
    simp only [g_,sw_zero,Nat.mul_one,List.drop_zero]
    have ft:List.take n (drow q n A G j n)=drow q n A G j n:=List.take_of_length_le (by rw [drow_len];exact Nat.le_refl _)
    rw [ft,ck_of (by simp [drow_len]),ck_of (by simp;omega),wsucc (j:=j) (by omega)]
    rw [e,List.length_append] at ih
    exact ih
  ·have:j=n:=by omega
   subst this
   rw [br_no (by simp)]
theorem pA_cols {q n:Nat} {G:List (List Int)} (hp:∀ i,i<G.length→fnz (G.getD i [])<n):∀ i,i≤G.length→∀ t,t<n→0≤(pA n G i).getD t 0∧(pA n G i).getD t 0≤i
 | 0,_,t,ht=>by simp [pA,List.getD_eq_getElem?_getD,ht]
 | i+1,h,t,ht=>by
  have ih:=pA_cols (q:=q) hp i (by omega) t ht
  have pl:=pA_len n G i
  unfold pA
  rw [List.getD_eq_getElem?_getD,List.getElem?_set]
  by_cases e:fnz (G.getD i [])=t
  ·rw [if_pos e,if_pos (by rw [pl,e];exact ht)]
   simp
   omega
  ·rw [if_neg e,←List.getD_eq_getElem?_getD]
   omega
theorem Lc.cols {q n:Nat} {G:List (List Int)} (h:Lc q n G):Cols q n (pA n G G.length) G :=
 ⟨pA_len _ _ _,fun t ht=>pA_cols (q:=q) (fun i hi=>(h.fnzs hi).1) G.length (Nat.le_refl _) t ht⟩
theorem drow_wd {q n:Nat} (hq:q∈Qs) {A:List Int} {G:List (List Int)} (hR:Rows q n G) (hA:Cols q n A G) {j:Nat} (hj:j<n) (k:Nat):Wd q n (drow q n A G j k):=by
 have F:=fld q hq
 have q1:=qs_lt hq
 refine ⟨drow_len,fun t ht=>?_⟩
 rw [drow_get ht]
 split
 ·rename_i h
  obtain ⟨a0,a1⟩:=hA.at_ t ht
  have w:=(hR.wd ((A.getD t 0).toNat-1) (by omega)).2 j hj
  exact F.neg_in _ w.1 w.2
 ·split <;> omega
theorem drows_rows {q n:Nat} (hq:q∈Qs) {A:List Int} {G:List (List Int)} (hR:Rows q n G) (hA:Cols q n A G):Rows q n (drows q n A G n):=by
 have hn:=hR.short
 have hl:=frees_len A n
 refine ⟨fun i hi=>?_,by rw [drows_len];omega,hn⟩
 rw [drows_len] at hi
 have:(drows q n A G n).getD i []=drow q n A G ((frees A n).getD i 0) n:=by
  unfold drows
  simp [List.getD_eq_getElem?_getD,hi]
 rw [this]
 refine drow_wd hq hR hA ?_ n
 have hm:(frees A n).getD i 0∈frees A n:=by
  rw [List.getD_eq_getElem?_getD,List.getElem?_eq_getElem hi]
  exact List.getElem_mem _
 simpa using (List.mem_filter.1 hm).1
def dualR (q n:Nat) (G:List (List Int)):List (List Int):=reduce (fadd q) (fmul q) (fneg q) (finv q) n (drows q n (pA n G G.length) G n)
theorem F33_spec {q n:Nat} {G:List (List Int)} (h:Lc q n G):∃ m:List (List Int),m.take (dualR q n G).length=dualR q n G∧∀ {τ:Type} (k:Nat→LS_→Option τ),
  F33 [.I q,.I n,.LL G] k=if (dualR q n G).length=0 then k 1 [.I q,.I n,.N 0] else k 0 [.I q,.I n,.N (dualR q n G).length,.LL m]:=by
 have hfu:=fuel_le
 have hq:=h.fq
 have hR:=h.rows
 have hn:=hR.short
 have hg:=hR.few
 have hA:=h.cols
 have hD:=drows_rows hq hR hA
 have hr:=red_len (add:=fadd q) (mul:=fmul q) (neg:=fneg q) (inv:=finv q) n 0 0 (drows q n (pA n G G.length) G n)
 have hl:(dualR q n G).length=(red (fadd q) (fmul q) (fneg q) (finv q) n 0 0 (drows q n (pA n G G.length) G n)).2:=by
  unfold dualR reduce
  rw [List.length_take,hr.1]
  have:=hr.2.2 (Nat.zero_le _)
  omega
 refine ⟨(red (fadd q) (fmul q) (fneg q) (finv q) n 0 0 (drows q n (pA n G G.length) G n)).1,by rw [hl];rfl,fun {τ} k=>?_⟩
 unfold F33
 simp only [g_]
 rw [T29_spec hq]
 simp only [g_,sw_zero,Int.toNat_natCast]
 rw [ck_of (by simp;omega)]
 unfold L33_4.b
 refine (L33_4_spec (by omega) (by omega) (fun i hi=>h.fnzs hi) q 0 0 (fp q) (fe q) (fm q).length (fm q) _ fuel 0 (by omega) (by omega)).trans ?_
 simp only [g_,sw_zero]
 unfold L33_9.b
 refine (L33_9_spec hq hR hA 0 0 q _ fuel 0 (by omega) (by omega)).trans ?_
 simp only [g_,sw_zero,Nat.mul_one,List.drop_zero,List.take_length]
 rw [ck_of (by simp),F80_spec hq hD,hl]
 split
 ·simp only [sw_succ,sw_zero,gN_zero]
 ·simp only [sw_zero,gN_zero,gLL_succ,gLL_zero]
end
end Go.Proofs.Yticbdgmcofjkeaa.Ai
namespace Go.Proofs.Yticbdgmcofjkeaa.Ma
section
variable {q n:Nat} {add mul:Int→Int→Int} {neg inv:Int→Int}
theorem vadd_comm (F:Fld q add mul neg inv) {a b:List Int} (ha:Wd q n a) (hb:Wd q n b):vadd add a b=vadd add b a:=by
 have e:=ha.1.trans hb.1.symm
 refine ext_getD (by rw [vadd_len e,vadd_len e.symm,e]) fun j hj=>?_
 rw [vadd_len e,ha.1] at hj
 have x:=ha.2 j hj
 have y:=hb.2 j hj
 rw [vadd_get e (by rw [ha.1];exact hj),vadd_get e.symm (by rw [hb.1];exact hj),F.add_comm _ _ x.1 x.2 y.1 y.2]
theorem vadd_assoc (F:Fld q add mul neg inv) {a b c:List Int} (ha:Wd q n a) (hb:Wd q n b) (hc:Wd q n c):vadd add (vadd add a b) c=vadd add a (vadd add b c):=by
 have ab:=ha.vadd F hb
 have bc:=hb.vadd F hc
 have l1:=ab.vadd F hc
 have l2:=ha.vadd F bc
 refine ext_getD (by rw [l1.1,l2.1]) fun j hj=>?_
 rw [l1.1] at hj
 have x:=ha.2 j hj
 have y:=hb.2 j hj
 have z:=hc.2 j hj
 rw [vadd_get (by rw [ab.1,hc.1]) (by rw [ab.1];exact hj),vadd_get (by rw [ha.1,hb.1]) (by rw [ha.1];exact hj),vadd_get (by rw [ha.1,bc.1]) (by rw [ha.1];exact hj),vadd_get (by rw [hb.1,hc.1]) (by rw [hb.1];exact hj),F.add_assoc _ _ _ x.1 x.2 y.1 y.2 z.1 z.2]
theorem zero_vadd (F:Fld q add mul neg inv) {a:List Int} (ha:Wd q n a):vadd add (List.replicate n 0) a=a:=by
 have e:(List.replicate n (0:Int)).length=a.length:=by rw [List.length_replicate,ha.1]
 refine ext_getD (by rw [vadd_len e,e]) fun j hj=>?_
 rw [vadd_len e,e,ha.1] at hj
 have x:=ha.2 j hj
 rw [vadd_get e (by rw [e,ha.1];exact hj),show (List.replicate n (0:Int)).getD j 0=0 by simp [List.getD_eq_getElem?_getD,hj],F.zero_add _ x.1 x.2]
theorem zeros_wd (F:Fld q add mul neg inv):Wd q n (List.replicate n 0):=⟨by simp,fun j hj=>by
 have:=F.one_lt
 rw [show (List.replicate n (0:Int)).getD j 0=0 by simp [List.getD_eq_getElem?_getD,hj]]
 omega⟩
theorem vmul_add (F:Fld q add mul neg inv) {g:List Int} (hg:Wd q n g) {a b:Int} (a0:0≤a) (a1:a<q) (b0:0≤b) (b1:b<q):vadd add (vmul mul a g) (vmul mul b g)=vmul mul (add a b) g:=by
 have ha:=Wd.vmul F a0 a1 hg
 have hb:=Wd.vmul F b0 b1 hg
 have ab:=F.add_in a b a0 a1 b0 b1
 have hab:=Wd.vmul F ab.1 ab.2 hg
 refine ext_getD (by rw [(ha.vadd F hb).1,hab.1]) fun j hj=>?_
 rw [(ha.vadd F hb).1] at hj
 have x:=hg.2 j hj
 rw [vadd_get (by rw [ha.1,hb.1]) (by rw [ha.1];exact hj),vmul_get (by rw [hg.1];exact hj),vmul_get (by rw [hg.1];exact hj),vmul_get (by rw [hg.1];exact hj),
  F.mul_comm a _ a0 a1 x.1 x.2,F.mul_comm b _ b0 b1 x.1 x.2,F.mul_comm (add a b) _ ab.1 ab.2 x.1 x.2,F.distrib _ _ _ x.1 x.2 a0 a1 b0 b1]
theorem add_cancel (F:Fld q add mul neg inv) {a b c:Int} (ha:0≤a∧a<q) (hb:0≤b∧b<q) (hc:0≤c∧c<q) (h:add a c=add b c):a=b:=by
 have hn:=F.neg_in c hc.1 hc.2
 have e:∀ x:Int,0≤x∧x<q→add (add x c) (neg c)=x:=fun x hx=>by
  rw [F.add_assoc _ _ _ hx.1 hx.2 hc.1 hc.2 hn.1 hn.2,F.add_neg c hc.1 hc.2,F.add_comm x 0 hx.1 hx.2 (by omega) (by have:=F.one_lt;omega),F.zero_add x hx.1 hx.2]
 rw [←e a ha,←e b hb,h]
theorem words_shift (F:Fld q add mul neg inv):∀ (G:List (List Int)) (z v:List Int),(∀ i,i<G.length→Wd q n (G.getD i []))→Wd q n z→Wd q n v→words q add mul G (vadd add z v)=(words q add mul G z).map fun y=>vadd add y v
 | [],z,v,_,_,_=>rfl
 | g::gs,z,v,hG,hz,hv=>by
  have hg:Wd q n g:=by simpa using hG 0 (by simp)
  unfold words
  rw [List.map_flatMap]
  unfold List.flatMap
  refine congrArg List.flatten (List.map_congr_left fun a ha=>?_)
  have ha':a<q:=by simpa using ha
  have hag:=Wd.vmul F (c:=((a:Nat):Int)) (by omega) (by exact_mod_cast ha') hg
  rw [vadd_assoc F hz hv hag,vadd_comm F hv hag,←vadd_assoc F hz hag hv]
  exact words_shift F gs _ v (fun i hi=>by simpa using hG (i+1) (by simpa using hi)) (hz.vadd F hag) hv
theorem sum_perm {l m:List Nat} (h:l.Perm m):l.sum=m.sum:=by
 induction h with
 | nil=>rfl
 | cons x _ ih=>rw [List.sum_cons,List.sum_cons,ih]
 | swap x y l=>simp only [List.sum_cons];omega
 | trans _ _ h1 h2=>rw [h1,h2]
theorem count_shift (F:Fld q add mul neg inv) (P:∀ c:Nat,c<q→((List.range q).map fun (a:Nat)=>add (a:Int) (c:Int)).Perm ((List.range q).map fun (a:Nat)=>(a:Int))):∀ (G:List (List Int)) (z v:List Int) (p:List Int→Bool),(∀ i,i<G.length→Wd q n (G.getD i []))→Wd q n z→v∈words q add mul G (List.replicate n 0) →
  ((words q add mul G z).countP fun y=>p (vadd add y v))=(words q add mul G z).countP p
 | [],z,v,p,_,hz,hv=>by
  unfold words at hv
  rw [List.mem_singleton] at hv
  subst hv
  unfold words
  rw [List.countP_singleton,List.countP_singleton,vadd_comm F hz (zeros_wd F),zero_vadd F hz]
 | g::gs,z,v,p,hG,hz,hv=>by
  have hg:Wd q n g:=by simpa using hG 0 (by simp)
  have hG':∀ i,i<gs.length→Wd q n (gs.getD i []):=fun i hi=>by simpa using hG (i+1) (by simpa using hi)
  unfold words at hv
  obtain ⟨c,hc,hv⟩:=List.mem_flatMap.1 hv
  have hc':c<q:=by simpa using hc
  have c1:((c:Nat):Int)<q:=by exact_mod_cast hc'
  have hu:=Wd.vmul F (c:=((c:Nat):Int)) (by omega) c1 hg
  have hz0:=zeros_wd F (n:=n)
  rw [words_shift F gs _ _ hG' hz0 hu] at hv
  obtain ⟨v',hv',rfl⟩:=List.mem_map.1 hv
  have wv':=words_wd F gs _ hG' hz0 v' hv'
  have key:∀ a:Nat,a<q→((words q add mul gs (vadd add z (vmul mul (a:Int) g))).countP fun y=>p (vadd add y (vadd add v' (vmul mul (c:Int) g))))=(words q add mul gs (vadd add z (vmul mul (add (a:Int) (c:Int)) g))).countP p:=by
   intro a ha
   have a1:((a:Nat):Int)<q:=by exact_mod_cast ha
   have hag:=Wd.vmul F (c:=((a:Nat):Int)) (by omega) a1 hg
   have hza:=hz.vadd F hag
   have e1:((words q add mul gs (vadd add z (vmul mul (a:Int) g))).countP fun y=>p (vadd add y (vadd add v' (vmul mul (c:Int) g))))=(words q add mul gs (vadd add z (vmul mul (a:Int) g))).countP fun y=>(fun x=>p (vadd add x (vmul mul (c:Int) g))) (vadd add y v'):=by
    refine List.countP_congr fun y hy=>?_
    have wy:=words_wd F gs _ hG' hza y hy
    show p (vadd add y (vadd add v' (vmul mul (c:Int) g)))=true↔p (vadd add (vadd add y v') (vmul mul (c:Int) g))=true
    rw [vadd_assoc F wy wv' hu]
   rw [e1,count_shift F P gs _ v' (fun x=>p (vadd add x (vmul mul (c:Int) g))) hG' hza hv',←vmul_add F hg (by omega) a1 (by omega) c1,←vadd_assoc F hz hag hu,words_shift F gs _ _ hG' hza hu,List.countP_map]
   rfl
  unfold words
  rw [List.countP_flatMap,List.countP_flatMap]
  have l1:((List.range q).map (List.countP (fun y=>p (vadd add y (vadd add v' (vmul mul (c:Int) g)))) ∘ fun (a:Nat)=>words q add mul gs (vadd add z (vmul mul (a:Int) g))))=((List.range q).map fun (a:Nat)=>add (a:Int) (c:Int)).map fun x=>(words q add mul gs (vadd add z (vmul mul x g))).countP p:=by
   rw [List.map_map]
   exact List.map_congr_left fun a ha=>key a (by simpa using ha)
  have l2:((List.range q).map (List.countP p ∘ fun (a:Nat)=>words q add mul gs (vadd add z (vmul mul (a:Int) g))))=((List.range q).map fun (a:Nat)=>(a:Int)).map fun x=>(words q add mul gs (vadd add z (vmul mul x g))).countP p:=by
   rw [List.map_map]
   rfl
  rw [l1,l2]
  exact sum_perm ((P c hc').map _)
theorem words_closed (F:Fld q add mul neg inv) (P:∀ c:Nat,c<q→((List.range q).map fun (a:Nat)=>add (a:Int) (c:Int)).Perm ((List.range q).map fun (a:Nat)=>(a:Int))) {G:List (List Int)} (hG:∀ i,i<G.length→Wd q n (G.getD i [])) {x v:List Int} (hx:x∈words q add mul G (List.replicate n 0)) (hv:v∈words q add mul G (List.replicate n 0)):vadd add x v∈words q add mul G (List.replicate n 0):=by
 have h:=count_shift F P G (List.replicate n 0) v (fun y=>decide (y=vadd add x v)) hG (zeros_wd F) hv
 have h1:0<(words q add mul G (List.replicate n 0)).countP fun y=>decide (vadd add y v=vadd add x v):=List.countP_pos_iff.2 ⟨x,hx,by simp⟩
 rw [h] at h1
 obtain ⟨y,hy,e⟩:=List.countP_pos_iff.1 h1
 have e:=of_decide_eq_true e
 rw [←e];exact hy
end
theorem turn {q:Nat} (hq:q∈Qs):∀ c:Nat,c<q→((List.range q).map fun (a:Nat)=>fadd q (a:Int) (c:Int)).Perm ((List.range q).map fun (a:Nat)=>(a:Int)):=by
 have:(Qs.all fun q=>(List.range q).all fun (c:Nat)=>((List.range q).map fun (a:Nat)=>fadd q (a:Int) (c:Int)).isPerm ((List.range q).map fun (a:Nat)=>(a:Int)))=true:=by decide +kernel
 intro c hc
 have h:=List.all_eq_true.1 (List.all_eq_true.1 this q hq) c (by simpa using hc)
 exact List.isPerm_iff.1 h
end Go.Proofs.Yticbdgmcofjkeaa.Ma
namespace Go.Proofs.Yticbdgmcofjkeaa.Ma
def lx (n:Nat) (a b:List Int):Prop:=∃ p,p<n∧(∀ j,j<p→a.getD j 0=b.getD j 0)∧a.getD p 0<b.getD p 0
section
variable {q:Nat} {add mul:Int→Int→Int} {neg inv:Int→Int} {n:Nat}
theorem Rref.tail {g:List Int} {gs:List (List Int)} {piv:Nat→Nat} (R:Rref q n (g::gs) piv):Rref q n gs (fun i=>piv (i+1)) where
 wd:=fun i hi=>by simpa using R.wd (i+1) (by simpa using hi)
 lt:=fun i hi=>R.lt (i+1) (by simpa using hi)
 mono:=fun i j hij hj=>R.mono (i+1) (j+1) (by omega) (by simpa using hj)
 one:=fun i hi=>by simpa [ent] using R.one (i+1) (by simpa using hi)
 zero:=fun i k hi hk hne=>by simpa [ent] using R.zero (i+1) (k+1) (by simpa using hi) (by simpa using hk) (by omega)
 lead:=fun i j hi hj=>by simpa [ent] using R.lead (i+1) j (by simpa using hi) hj
theorem mul_zero (F:Fld q add mul neg inv) {a:Int} (h0:0≤a) (h1:a<q):mul a 0=0:=by
 have:=F.one_lt
 rw [F.mul_comm _ _ h0 h1 (by omega) (by omega),F.zero_mul _ h0 h1]
theorem add_zero (F:Fld q add mul neg inv) {a:Int} (h0:0≤a) (h1:a<q):add a 0=a:=by
 have:=F.one_lt
 rw [F.add_comm _ _ h0 h1 (by omega) (by omega),F.zero_add _ h0 h1]
theorem mul_one (F:Fld q add mul neg inv) {a:Int} (h0:0≤a) (h1:a<q):mul a 1=a:=by
 have:=F.one_lt
 rw [F.mul_comm _ _ h0 h1 (by omega) (by omega),F.one_mul _ h0 h1]
theorem words_sorted (F:Fld q add mul neg inv):∀ (G:List (List Int)) (piv:Nat→Nat) (z:List Int),Rref q n G piv→Wd q n z→(∀ i,i<G.length→z.getD (piv i) 0=0)→(words q add mul G z).Pairwise (lx n)
 | [],piv,z,R,hz,h0=>by unfold words;exact List.pairwise_singleton _ _
 | g::gs,piv,z,R,hz,h0=>by
  have hg:Wd q n g:=by simpa using R.wd 0 (by simp)
  have p0:=R.lt 0 (by simp)
  have q1:=F.one_lt
  have in_:∀ a,a<q→0≤((a:Nat):Int)∧((a:Nat):Int)<q:=fun a ha=>⟨by omega,by omega⟩
  have hv:∀ a,a<q→Wd q n (vmul mul (a:Int) g):=fun a ha=>Wd.vmul F (in_ a ha).1 (in_ a ha).2 hg
  have at_:∀ a j,a<q→j<n→(vadd add z (vmul mul (a:Int) g)).getD j 0=add (z.getD j 0) (mul a (g.getD j 0)):=fun a j ha hj=>by
   rw [vadd_get (by rw [hz.1,(hv a ha).1]) (by rw [hz.1];exact hj),vmul_get (by rw [hg.1];exact hj)]
  unfold words
  rw [List.pairwise_flatMap]
  refine ⟨fun a ha=>?_,?_⟩
  ·have ha':a<q:=by simpa using ha
   refine words_sorted F gs _ _ R.tail (hz.vadd F (hv a ha')) fun i hi=>?_
   have hl:=R.lt (i+1) (by simpa using hi)
   have z0:=h0 (i+1) (by simpa using hi)
   have g0:g.getD (piv (i+1)) 0=0:=by simpa [ent] using R.zero (i+1) 0 (by simpa using hi) (by simp) (by omega)
   rw [at_ a _ ha' hl,z0,g0,mul_zero F (in_ a ha').1 (in_ a ha').2,F.zero_add 0 (by omega) (by omega)]
  ·refine (List.pairwise_lt_range (n:=q)).imp_of_mem fun {a b} ha hb hab x hx y hy=>?_
   have ha':a<q:=by simpa using ha
   have hb':b<q:=by simpa using hb
   have low:∀ i j,i<gs.length→j<piv 0+1→ent gs i j=0:=fun i j hi hj=>by
    have:=R.mono 0 (i+1) (by omega) (by simpa using hi)
    simpa [ent] using R.lead (i+1) j (by simpa using hi) (by omega)
   have ex:∀ c,c<q→∀ w∈words q add mul gs (vadd add z (vmul mul (c:Int) g)),∀ j,j<piv 0+1→w.getD j 0=add (z.getD j 0) (mul c (g.getD j 0)):=fun c hc w hw j hj=>by
    rw [words_same F (by omega) gs _ R.tail.wd low (hz.vadd F (hv c hc)) w hw j hj,at_ c j hc (by omega)]
   refine ⟨piv 0,p0,fun j hj=>?_,?_⟩
   ·have g0:g.getD j 0=0:=by simpa [ent] using R.lead 0 j (by simp) hj
    rw [ex a ha' x hx j (by omega),ex b hb' y hy j (by omega),g0,mul_zero F (in_ a ha').1 (in_ a ha').2,mul_zero F (in_ b hb').1 (in_ b hb').2]
   ·have g1:g.getD (piv 0) 0=1:=by simpa [ent] using R.one 0 (by simp)
    rw [ex a ha' x hx _ (by omega),ex b hb' y hy _ (by omega),g1,h0 0 (by simp),mul_one F (in_ a ha').1 (in_ a ha').2,mul_one F (in_ b hb').1 (in_ b hb').2,F.zero_add _ (in_ a ha').1 (in_ a ha').2,F.zero_add _ (in_ b hb').1 (in_ b hb').2]
    omega
theorem words_nodup (F:Fld q add mul neg inv) {G:List (List Int)} {piv:Nat→Nat} (R:Rref q n G piv):(words q add mul G (List.replicate n 0)).Nodup:=by
 refine (words_sorted F G piv _ R (zeros_wd F) fun i hi=>?_).imp fun {a b} h e=>?_
 ·have:=R.lt i hi
  simp [List.getD_eq_getElem?_getD,this]
 ·obtain ⟨p,_,_,h⟩:=h
  rw [e] at h
  omega
theorem filter_one {L:List (List Int)} (h:L.Nodup) {s:List Int} (hs:s∈L) {p:List Int→Bool} (hp:∀ y∈L,p y=true↔y=s):L.filter p=[s]:=by
 have e:L.filter p=L.filter (·==s):=List.filter_congr fun y hy=>by
  rcases hb:p y with _ | _
  ·have:y≠s:=fun e=>by have:=(hp y hy).2 e;rw [hb] at this;cases this
   simpa using this
  ·have:=(hp y hy).1 hb
   simpa using this
 rw [e]
 clear e hp
 induction L with
 | nil=>simp at hs
 | cons x L ih =>
  obtain ⟨h1,h2⟩:=List.nodup_cons.1 h
  by_cases c:x=s
  ·subst c
   rw [List.filter_cons,if_pos (by simp),List.filter_eq_nil_iff.2 fun y hy=>by simpa using fun e:y=x=>h1 (e▸hy)]
  ·rw [List.filter_cons,if_neg (by simpa using c)]
   exact ih h2 ((List.mem_cons.1 hs).resolve_left fun e=>c e.symm)
end
def ham (n:Nat) (a b:List Int):Nat:=far (fun _=>false) a b 0 n
def wt (n:Nat) (y:List Int):Nat:=ham n (List.replicate n 0) y
theorem ham_pos {n:Nat} {a b:List Int} (ha:a.length=n) (hb:b.length=n) (h:a≠b):0<ham n a b:=by
 rcases Nat.eq_zero_or_pos (ham n a b) with e | e
 ·exfalso
  have:∀ k,k≤n→ham k a b=0→∀ j,j<k→b.getD j 0=a.getD j 0:=by
   intro k
   induction k with
   | zero=>intro _ _ j hj;omega
   | succ k ih =>
    intro hk h0 j hj
    unfold ham at h0
    rw [far_succ] at h0
    simp only [Nat.zero_add] at h0
    have h1:=ih (by omega) (by unfold ham;omega)
    rcases Nat.lt_or_ge j k with c | c
    ·exact h1 j c
    ·have:j=k:=by omega
     subst this
     by_cases e:b.getD j 0=a.getD j 0
     ·exact e
     ·have:(b.getD j 0 != a.getD j 0)=true:=by simpa using e
      rw [this] at h0
      simp at h0
  exact h (ext_getD (by rw [ha,hb]) fun j hj=>(this n (Nat.le_refl _) e j (by omega)).symm)
 ·exact e
def minw (n:Nat) (L:List (List Int)) (m:Nat):Nat:=L.foldl (fun m y=>if 0<wt n y then min m (wt n y) else m) m
theorem minw_le (n:Nat):∀ (L:List (List Int)) (m:Nat),minw n L m≤m
 | [],m=>Nat.le_refl _
 | y::L,m=>by
  unfold minw
  rw [List.foldl_cons]
  refine Nat.le_trans (minw_le n L _) ?_
  split <;> omega
theorem minw_all (n:Nat):∀ (L:List (List Int)) (m:Nat),∀ y∈L,0<wt n y→minw n L m≤wt n y
 | [],m,y,h,_=>by simp at h
 | x::L,m,y,h,hp=>by
  unfold minw
  rw [List.foldl_cons]
  rcases List.mem_cons.1 h with rfl | h
  ·refine Nat.le_trans (minw_le n L _) ?_
   rw [if_pos hp]
   omega
  ·exact minw_all n L _ y h hp
section
variable {q:Nat} {add mul:Int→Int→Int} {neg inv:Int→Int} {n:Nat}
end
end Go.Proofs.Yticbdgmcofjkeaa.Ma
namespace Go.Proofs.Yticbdgmcofjkeaa.Ai
open Go Ma
noncomputable section
theorem L92_3_spec {w:List Int} (hs:w.length<2^60) {τ:Type} (κ:Nat→LS_→Option τ):∀ (f j:Nat),j≤w.length→w.length<f+j →
  runE L92_3 f κ 0 [.I (wt j w:Nat),.N w.length,.L w,.I w.length,.I j]=κ 0 [.I (wt w.length w:Nat)]
 | 0,j,h1,h2=>by omega
 | f+1,j,h1,h2=>by
  rw [runE_succ]
  show L92_3.s0 _ _ _=_
  unfold L92_3.s0
  simp only [g_,Int.toNat_natCast,Nat.mul_one,Nat.zero_add,List.drop_zero]
  have hw:wt (j+1) w=wt j w+(if w.getD j 0=0 then 0 else 1):=by
   unfold wt ham
   rw [far_succ,Nat.zero_add]
   have e:∀ k,far (fun _=>false) (List.replicate (j+1) (0:Int)) w 0 k=far (fun _=>false) (List.replicate j (0:Int)) w 0 k:=fun k=>by
    induction k with
    | zero=>rfl
    | succ k ih =>
     have z:∀ m:Nat,(List.replicate m (0:Int)).getD k 0=0:=fun m=>by
      rw [List.getD_eq_getElem?_getD,List.getElem?_replicate];split <;> rfl
     rw [far_succ,far_succ,ih,Nat.zero_add,z,z]
   have z:(List.replicate (j+1) (0:Int)).getD j 0=0:=by rw [List.getD_eq_getElem?_getD,List.getElem?_replicate];split <;> rfl
   rw [e,z]
   by_cases h:w.getD j 0=0
   ·rw [h];rfl
   ·rw [if_neg h]
    have:(w.getD j 0 != 0)=true:=by simpa using h
    rw [this];rfl
  have hb:wt j w≤j:=far_le _ _ _ _ _
  by_cases hj:j<w.length
  ·have ih:=L92_3_spec hs κ f (j+1) (by omega) (by omega)
   rw [br_of (by simp;omega),ck_of (by simp;omega),ck_of (by simp;omega),wsucc (j:=j) (by omega)]
   by_cases h:w.getD j 0=0
   ·rw [hw,if_pos h,Nat.add_zero] at ih
    rw [br_no (by rw [h];rfl)]
    exact ih
   ·rw [hw,if_neg h] at ih
    rw [br_of (by simpa using h),wsucc (j:=wt j w) (by omega)]
    exact ih
  ·have:j=w.length:=by omega
   subst this
   rw [br_no (by simp)]
theorem F92_spec {w:List Int} (hs:w.length<2^60) {τ:Type} (k:Nat→LS_→Option τ):F92 [.L w] k=k 0 [.I (wt w.length w:Nat)]:=by
 have hfu:=fuel_le
 unfold F92 L92_3.b
 simp only [gL_zero]
 refine (L92_3_spec hs _ fuel 0 (by omega) (by omega)).trans ?_
 simp only [sw_zero,gI_zero]
theorem L94_3_1_spec {q:Nat} (hq:q∈Qs) {x y:List Int} (hx:In q x) (hy:In q y) (hl:y.length=x.length) (hs:x.length<2^30) {a:Int} (a0:0≤a) (a1:a<q) {τ:Type} (κ:Nat→LS_→Option τ):∀ (f j:Nat) (w:List Int),j≤x.length→x.length<f+j→w=(vadd (fadd q) y (vmul (fmul q) a x)).take j++y.drop j →
  runE L94_3_1 f κ 0 [.N y.length,.I a,.N x.length,.L x,.I y.length,.I j,.L w,.I (fp q),.I (fe q),.N (fm q).length,.L (fm q)]=κ 0 [.L (vadd (fadd q) y (vmul (fmul q) a x)),.I (fp q),.I (fe q),.N (fm q).length,.L (fm q)]
 | 0,j,w,h2,h3,h5=>by omega
 | f+1,j,w,h2,h3,h5=>by
  have F:=fld q hq
  have ml:(vmul (fmul q) a x).length=x.length:=vmul_len
  have hlv:(vadd (fadd q) y (vmul (fmul q) a x)).length=y.length:=vadd_len (by rw [ml,hl])
  have hw:=half_len hlv (j:=j) (by omega)
  rw [runE_succ]
  show L94_3_1.s0 _ _ _=_
  unfold L94_3_1.s0
  simp only [g_,Int.toNat_natCast,Nat.mul_one,Nat.zero_add,List.drop_zero]
  by_cases hj:j<y.length
  ·have ax:=hx j (by omega)
   have ay:=hy j hj
   have am:=F.mul_in _ _ a0 a1 ax.1 ax.2
   have hg:w.getD j 0=y.getD j 0:=by rw [h5,half_get hlv hj]
   have hg2:w.length=y.length:=by rw [h5,hw]
   have key:=L94_3_1_spec hq hx hy hl hs a0 a1 κ f (j+1) (w.set j (fadd q (y.getD j 0) (fmul q a (x.getD j 0)))) (by omega) (by omega)
    (by rw [h5,←vmul_get (mul:=fmul q) (show j<x.length by omega),←vadd_get (add:=fadd q) (by rw [ml,hl]) hj,half_set hlv hj])
   rw [br_of (by simp;omega),ck_of (by simp;omega),ck_of (by simp;omega),ck_of (by simp;omega),ck_of (by simp;omega),ck_of (by simp),hg]
   unfold T104 T103
   rw [tab2_of hq a0 a1 ax.1 ax.2]
   simp only [sw_zero,gI_zero]
   rw [ck_of (by simp),tab2_of hq ay.1 ay.2 am.1 am.2]
   simp only [sw_zero,gI_zero]
   rw [ck_of (by simp;omega),ck_of (by simp;omega),wsucc (by omega)]
   exact key
  ·have:j=y.length:=by omega
   subst this
   rw [half_all hlv] at h5
   rw [br_no (by simp),h5]
theorem S94_1_spec {q n:Nat} (hq:q∈Qs) (hn:n<2^30) {x y:List Int} (hx:Wd q n x) (hy:Wd q n y) {a:Int} (a0:0≤a) (a1:a<q) {τ:Type} (k:Nat→LS_→Option τ) :
  S94_1 [.I (fp q),.I (fe q),.N (fm q).length,.L (fm q),.N n,.I a,.N x.length,.L x,.L y] k=k 0 [.L (vadd (fadd q) y (vmul (fmul q) a x))]:=by
 have hfu:=fuel_le
 unfold S94_1 L94_3_1.b
 simp only [g_,Int.toNat_natCast,Nat.mul_one,Nat.zero_add,List.drop_zero]
 by_cases hz:a=0
 ·subst hz
  rw [br_of (b:=((0:Int)==0)) rfl,vadd_zero (fld q hq) hx hy]
 ·have yl:=hy.1
  rw [br_no (by simpa using hz)]
  have:=L94_3_1_spec hq (In.of hx) (In.of hy) (by rw [hx.1,hy.1]) (by rw [hx.1];exact hn) a0 a1 (fun j l=>(sw (k 0 [.L (gL l 0)]) (fun _=>none)) j) fuel 0 y (by omega) (by rw [hx.1];omega) (by simp)
  rw [yl] at this
  exact this
section
variable {q n:Nat} {G:List (List Int)}
def tailw (q:Nat) (G:List (List Int)) (i:Nat) (x:List Int) (a:Nat):List (List Int):=((List.range q).drop a).flatMap fun (b:Nat)=>words q (fadd q) (fmul q) (G.drop (i+1)) (vadd (fadd q) x (vmul (fmul q) (b:Int) (G.getD i [])))
theorem tailw_step {i a:Nat} {x:List Int} (ha:a<q):tailw q G i x a=words q (fadd q) (fmul q) (G.drop (i+1)) (vadd (fadd q) x (vmul (fmul q) (a:Int) (G.getD i [])))++tailw q G i x (a+1):=by
 unfold tailw
 rw [drop_cons 0 (show a<(List.range q).length by simpa using ha),List.flatMap_cons]
 congr 4
 simp [List.getD_eq_getElem?_getD,ha]
theorem tailw_end {i:Nat} {x:List Int}:tailw q G i x q=[]:=by
 unfold tailw
 rw [List.drop_eq_nil_of_le (show (List.range q).length≤q by simp)]
 rfl
theorem tailw_zero {i:Nat} {x:List Int} (hi:i<G.length):words q (fadd q) (fmul q) (G.drop i) x=tailw q G i x 0:=by
 rw [drop_cons [] hi]
 rfl
end
def least1 (n:Nat) (m:Nat) (y:List Int):Nat:=if 0<wt n y then min m (wt n y) else m
theorem L121_5_spec {q n:Nat} {G:List (List Int)} (C:Lc q n G) {i:Nat} (hi:i<G.length) (R:SDyn P S121_0.H)
    (hR:∀ (x:List Int) (s:Nat),Wd q n x→∀ {τ:Type} (k:Nat→LS_→Option τ),R.b [.I ((i+1:Nat):Int),.N n,.L x,.I q,.I n,.N G.length,.LL G,.I (fp q),.I (fe q),.N (fm q).length,.L (fm q),.I q,.I n,.N G.length,.LL G,.I 0,.I 0,.I 0,.I q,.I n,.N G.length,.LL G,.I 0,.I 0,.B false,.N G.length,.LL G,.I G.length,.B false,.I n,.I q,.I n,.N G.length,.LL G,.I q,.I n,.N G.length,.LL G,.I ((s:Nat):Int)] k=k 0 [.B true,.L x,.I q,.I n,.N G.length,.LL G,.I (fp q),.I (fe q),.N (fm q).length,.L (fm q),.I q,.I n,.N G.length,.LL G,.I 0,.I 0,.I 0,.I q,.I n,.N G.length,.LL G,.I 0,.I 0,.B false,.N G.length,.LL G,.I G.length,.B false,.I n,.I q,.I n,.N G.length,.LL G,.I q,.I n,.N G.length,.LL G,.I ((((words q (fadd q) (fmul q) (G.drop (i+1)) x).foldl (least1 n) s):Nat):Int)])
    {x:List Int} (hx:Wd q n x):∀ (f a:Nat) (y:List Int) (s:Nat),a≤q→q<f+a→y.length=n →
    ∃ y':List Int,∀ {τ:Type} (κ:Nat→LS_→Option τ),runE (L121_5 R) f κ 0 [.I i,.N n,.B false,.N n,.I q,.I a,.L x,.I q,.I n,.N G.length,.LL G,.I (fp q),.I (fe q),.N (fm q).length,.L (fm q),.I q,.I n,.N G.length,.LL G,.I 0,.I 0,.I 0,.I q,.I n,.N G.length,.LL G,.I 0,.I 0,.B false,.N G.length,.LL G,.I G.length,.B false,.I n,.I q,.I n,.N G.length,.LL G,.I q,.I n,.N G.length,.LL G,.I ((s:Nat):Int),.L y]=κ 1 [.B false,.L x,.I q,.I n,.N G.length,.LL G,.I (fp q),.I (fe q),.N (fm q).length,.L (fm q),.I q,.I n,.N G.length,.LL G,.I 0,.I 0,.I 0,.I q,.I n,.N G.length,.LL G,.I 0,.I 0,.B false,.N G.length,.LL G,.I G.length,.B false,.I n,.I q,.I n,.N G.length,.LL G,.I q,.I n,.N G.length,.LL G,.I ((((tailw q G i x a).foldl (least1 n) s):Nat):Int),.L y']
  | 0,a,y,s,h1,h2,h3=>by omega
  | f+1,a,y,s,h1,h2,h3=>by
    have F:=fld q C.fq
    have hR0:=C.rows
    have hf:=hR0.few
    have n1:=C.n1
    have hqq:=qs_lt C.fq
    have xl:=hx.1
    by_cases ha:a<q
    · have wg:=hR0.wd i hi
      have wv:=hx.vadd F (Wd.vmul F (c:=(a:Int)) (by omega) (by omega) wg)
      obtain ⟨y',ih⟩:=L121_5_spec C hi R hR hx f (a+1) (vadd (fadd q) x (vmul (fmul q) (a:Int) (G.getD i []))) ((words q (fadd q) (fmul q) (G.drop (i+1)) (vadd (fadd q) x (vmul (fmul q) (a:Int) (G.getD i [])))).foldl (least1 n) s) (by omega) (by omega) wv.1
      refine ⟨y',fun {τ} κ=>?_⟩
      rw [tailw_step ha,List.foldl_append]
      rw [runE_succ]
      show L121_5.s0 R _ _ _=_
      unfold L121_5.s0
      simp only [g_,Int.toNat_natCast,Nat.mul_one,Nat.zero_add,List.drop_zero]
      have ft:List.take n x=x:=List.take_of_length_le (by omega)
      rw [br_of (by simp;omega),ft,ck_of (by simp;omega),ck_of (by simp;omega),ck_of (by simp;omega),S94_1_spec C.fq (by omega) wg hx (by omega) (by omega)]
      simp only [sw_zero,gL_zero]
      rw [wsucc (j:=i) (by omega),hR _ _ wv]
      simp only [g_,sw_zero]
      rw [br_no (b:=!true) rfl,wsucc (j:=a) (by omega)]
      exact ih κ
    · have:a=q:=by omega
      subst this
      refine ⟨y,fun {τ} κ=>?_⟩
      rw [tailw_end]
      rw [runE_succ]
      show L121_5.s0 R _ _ _=_
      unfold L121_5.s0
      simp only [g_,Int.toNat_natCast,Nat.mul_one,Nat.zero_add,List.drop_zero]
      rw [br_no (by simp)]
      rfl
theorem S121_0_D {q n:Nat} {G:List (List Int)} (C:Lc q n G):∀ (d i m:Nat) (x:List Int) (s:Nat),i+d=G.length→d<m→Wd q n x →
  ∀ {τ:Type} (k:Nat→LS_→Option τ),(S121_0.D m).b [.I i,.N n,.L x,.I q,.I n,.N G.length,.LL G,.I (fp q),.I (fe q),.N (fm q).length,.L (fm q),.I q,.I n,.N G.length,.LL G,.I 0,.I 0,.I 0,.I q,.I n,.N G.length,.LL G,.I 0,.I 0,.B false,.N G.length,.LL G,.I G.length,.B false,.I n,.I q,.I n,.N G.length,.LL G,.I q,.I n,.N G.length,.LL G,.I ((s:Nat):Int)] k=k 0 [.B true,.L x,.I q,.I n,.N G.length,.LL G,.I (fp q),.I (fe q),.N (fm q).length,.L (fm q),.I q,.I n,.N G.length,.LL G,.I 0,.I 0,.I 0,.I q,.I n,.N G.length,.LL G,.I 0,.I 0,.B false,.N G.length,.LL G,.I G.length,.B false,.I n,.I q,.I n,.N G.length,.LL G,.I q,.I n,.N G.length,.LL G,.I ((((words q (fadd q) (fmul q) (G.drop i) x).foldl (least1 n) s):Nat):Int)]
 | d,i,0,x,s,h1,h2,hx,τ,k=>by omega
 | 0,i,m+1,x,s,h1,h2,hx,τ,k=>by
  have n0:=C.n0
  have n1:=C.n1
  have xl:=hx.1
  have hi:i=G.length:=by omega
  subst hi
  rw [List.drop_length]
  show S121_0.body (S121_0.D m) _ _=_
  unfold S121_0.body
  simp only [g_,Int.toNat_natCast,Nat.mul_one,Nat.zero_add,List.drop_zero]
  have ft:List.take n x=x:=List.take_of_length_le (by omega)
  rw [br_of (by simp),ft,ck_of (by simp;omega),F92_spec (by omega),xl]
  simp only [sw_zero,gI_zero]
  have hm:(words q (fadd q) (fmul q) [] x).foldl (least1 n) s=least1 n s x:=rfl
  rw [hm]
  unfold least1
  by_cases h0:0<wt n x
  ·rw [br_of (by simpa using h0),if_pos h0,show min ((s:Nat):Int) ((wt n x:Nat):Int)=((min s (wt n x):Nat):Int) by omega]
  ·rw [br_no (by simp only [gtI_no];omega),if_neg h0]
 | d+1,i,m+1,x,s,h1,h2,hx,τ,k=>by
  have hfu:=fuel_le
  have n0:=C.n0
  have n1:=C.n1
  have xl:=hx.1
  have hi:i<G.length:=by omega
  have hqq:=qs_lt C.fq
  show S121_0.body (S121_0.D m) _ _=_
  unfold S121_0.body
  simp only [g_,Int.toNat_natCast,Nat.mul_one,Nat.zero_add,List.drop_zero]
  have ft:List.take n x=x:=List.take_of_length_le (by omega)
  rw [br_no (by simp;omega),ft,ck_of (by simp;omega),F71_spec (by omega) (by omega),xl]
  simp only [sw_zero,gN_zero,gL_succ,gL_zero]
  obtain ⟨y',h⟩:=L121_5_spec C hi (S121_0.D m) (fun x s hx=>fun {τ} k=>S121_0_D C d (i+1) m x s (by omega) (by omega) hx k) hx fuel 0 x s (by omega) (by omega) xl
  unfold L121_5.b
  refine (h _).trans ?_
  rw [tailw_zero hi]
  simp only [g_,sw_zero,sw_one]
theorem F90_spec {q n:Nat} {G:List (List Int)} (h:Cd q n G) {τ:Type} (k:Nat→LS_→Option τ):F90 [.I q,.I n,.LL G] k=k 0 [.I 0]:=by
 have hc:=h.count
 have hqq:=qs_lt h.fq
 have hf:=h.rows.few
 unfold F90 T37 T48
 simp only [g_]
 rw [ck_of (by simp),F37_spec h.fq n (by omega) (short2 fun r hr=>by
  obtain ⟨i,hi,rfl⟩:=List.getElem_of_mem hr
  have:=(h.rows.wd i hi).1
  have:=h.n1
  rw [List.getD_eq_getElem?_getD,List.getElem?_eq_getElem hi] at *
  simp at *
  omega),validB_cd h]
 simp only [sw_zero,gB_zero]
 rw [br_no (b:=!true) rfl,ck_of (by simp),F48_spec (by omega) (by omega) n G (by omega)]
 simp only [sw_zero,gI_zero]
 unfold cnt
 rw [if_pos (by omega),br_no (by simp only [gtI_no];omega)]
theorem F50_spec {q n:Nat} {G:List (List Int)} (h:Cd q n G) {τ:Type} (k:Nat→LS_→Option τ):F50 [.I q,.I n,.LL G] k =
  if G.length=0 then k 1 [] else k 2 [.I ((minw n (words q (fadd q) (fmul q) G (List.replicate n 0)) n:Nat):Int)]:=by
 have hfu:=fuel_le
 have hqq:=qs_lt h.fq
 have n0:=h.n0
 have n1:=h.n1
 have hl:=h.lc.len
 unfold F50
 simp only [g_]
 rw [ck_of (by simp),F90_spec h]
 simp only [sw_zero,gI_zero]
 rw [br_no (by rfl)]
 by_cases hg:G.length=0
 ·rw [br_of (by rw [hg];rfl),if_pos hg]
 ·rw [br_no (by simp;exact fun e=>hg (by rw [e];rfl)),if_neg hg,T81_spec h.fq]
  simp only [g_,sw_zero,Int.toNat_natCast]
  rw [ck_of (by simp;omega)]
  unfold S121_0
  refine (S121_0_D h.lc G.length 0 fuel (List.replicate n 0) n (by omega) (by omega) (Wd.zeros (by omega)) _).trans ?_
  simp only [g_,sw_zero,List.drop_zero]
  rfl
def T50 {τ:Type} (l:LS_) (k:Nat→LS_→Option τ):Option τ:=wrapB F50.E (.tup [pI,pI]) l k
def T50.E:Ent P:=F50.E.wrap (.tup [pI,pI])
theorem T50_spec {q n:Nat} {G:List (List Int)} (h:Cd q n G) {τ:Type} (k:Nat→LS_→Option τ):T50 [.I q,.I n,.LL G] k =
  if G.length=0 then k 0 [.I 0,.I 4] else k 0 [.I ((minw n (words q (fadd q) (fmul q) G (List.replicate n 0)) n:Nat):Int),.I 0]:=by
 by_cases hg:G.length=0
 ·rw [if_pos hg]
  exact wrap_of (e:=F50.E) (p:=.tup [pI,pI]) (j:=1) (l2:=[]) (c:=true) (ls':=[.I 0,.I 4]) (by intro τ κ;kernel_rfl) rfl (fun κ=>(F50_spec h κ).trans (if_pos hg))
 ·rw [if_neg hg]
  have h2:=fun {τ:Type} (κ:Nat→LS_→Option τ)=>(F50_spec h κ).trans (if_neg hg)
  generalize ((minw n (words q (fadd q) (fmul q) G (List.replicate n 0)) n:Nat):Int)=z at h2 ⊢
  exact wrap_of (e:=F50.E) (p:=.tup [pI,pI]) (j:=2) (l2:=[.I z]) (c:=true) (ls':=[.I z,.I 0]) (by intro τ κ;kernel_rfl) rfl (fun κ=>h2 κ)
end
end Go.Proofs.Yticbdgmcofjkeaa.Ai
namespace Go.Proofs.Yticbdgmcofjkeaa.Ai
open Go Ma
noncomputable section
def cnt1 (n:Nat) (s:List Int) (y:List Int):List Int:=s.set (wt n y) (s.getD (wt n y) 0+1)
def Hb (n:Nat) (s:List Int) (m:Nat):Prop:=s.length=n+1∧∀ j,0≤s.getD j 0∧s.getD j 0+m≤2^60
theorem Hb.mono {n:Nat} {s:List Int} {m k:Nat} (h:Hb n s m) (hk:k≤m):Hb n s k:=⟨h.1,fun j=>⟨(h.2 j).1,by have:=(h.2 j).2;omega⟩⟩
theorem wt_le (n:Nat) (y:List Int):wt n y≤n:=far_le _ _ _ _ _
theorem Hb.step {n:Nat} {s:List Int} {m:Nat} (h:Hb n s (m+1)) (y:List Int):Hb n (cnt1 n s y) m:=by
 have hw:=wt_le n y
 refine ⟨by unfold cnt1;rw [List.length_set];exact h.1,fun j=>?_⟩
 have a:=h.2 j
 have b:=h.2 (wt n y)
 unfold cnt1
 rw [List.getD_eq_getElem?_getD,List.getElem?_set]
 by_cases e:wt n y=j
 ·rw [if_pos e,if_pos (by rw [h.1];omega)]
  simp only [Option.getD_some]
  omega
 ·rw [if_neg e,←List.getD_eq_getElem?_getD]
  omega
theorem Hb.fold {n:Nat}:∀ {L:List (List Int)} {s:List Int} {m:Nat},Hb n s (L.length+m)→Hb n (L.foldl (cnt1 n) s) m
 | [],s,m,h=>by simpa using h
 | y::L,s,m,h=>by
  rw [List.foldl_cons]
  exact Hb.fold (Hb.step (h.mono (by rw [List.length_cons];omega)) y)
theorem hist_get {n k:Nat} (hk:k≤n):∀ (L:List (List Int)) (s:List Int),s.length=n+1→(L.foldl (cnt1 n) s).getD k 0=s.getD k 0+(L.countP fun y=>wt n y==k:Nat)
 | [],s,h=>by simp
 | y::L,s,h=>by
  have hw:=wt_le n y
  rw [List.foldl_cons,hist_get hk L _ (by unfold cnt1;rw [List.length_set];exact h),List.countP_cons]
  unfold cnt1
  rw [List.getD_eq_getElem?_getD,List.getElem?_set]
  by_cases e:wt n y=k
  ·rw [if_pos e,if_pos (by omega),e]
   simp only [Option.getD_some,beq_self_eq_true,if_true]
   omega
  ·rw [if_neg e,←List.getD_eq_getElem?_getD]
   have:(wt n y==k)=false:=by simpa using e
   rw [this]
   simp
theorem drop_pow {q i:Nat} {G:List (List Int)} (hi:i<G.length):q^(G.drop i).length=q*q^(G.drop (i+1)).length:=by
 rw [drop_cons [] hi,List.length_cons,Nat.pow_succ,Nat.mul_comm]
theorem tail_pow {q a D:Nat} (ha:a<q):(q-a)*D=D+(q-(a+1))*D:=by
 rw [show q-a=(q-(a+1))+1 by omega,Nat.add_mul,Nat.one_mul,Nat.add_comm]
theorem L121_5_1_spec {q n:Nat} {G:List (List Int)} (C:Lc q n G) {i:Nat} (hi:i<G.length) (R:SDyn P S121_1.H)
    (hR:∀ (x:List Int) (s:List Int),Wd q n x→Hb n s (q^(G.drop (i+1)).length)→∀ {τ:Type} (k:Nat→LS_→Option τ),R.b [.I ((i+1:Nat):Int),.N n,.L x,.I q,.I n,.N G.length,.LL G,.I (fp q),.I (fe q),.N (fm q).length,.L (fm q),.I q,.I n,.N G.length,.LL G,.I 0,.I 0,.I q,.I n,.N G.length,.LL G,.I 0,.I 0,.B false,.I n,.I ((n+1:Nat):Int),.N (n+1),.I q,.I n,.N G.length,.LL G,.I q,.I n,.N G.length,.LL G,.N (n+1),.L s] k=k 0 [.B true,.L x,.I q,.I n,.N G.length,.LL G,.I (fp q),.I (fe q),.N (fm q).length,.L (fm q),.I q,.I n,.N G.length,.LL G,.I 0,.I 0,.I q,.I n,.N G.length,.LL G,.I 0,.I 0,.B false,.I n,.I ((n+1:Nat):Int),.N (n+1),.I q,.I n,.N G.length,.LL G,.I q,.I n,.N G.length,.LL G,.N (n+1),.L ((words q (fadd q) (fmul q) (G.drop (i+1)) x).foldl (cnt1 n) s)])
    {x:List Int} (hx:Wd q n x):∀ (f a:Nat) (y:List Int) (s:List Int),a≤q→q<f+a→y.length=n→Hb n s ((q-a)*q^(G.drop (i+1)).length) →
    ∃ y':List Int,∀ {τ:Type} (κ:Nat→LS_→Option τ),runE (L121_5_1 R) f κ 0 [.I i,.N n,.B false,.N n,.I q,.I a,.L x,.I q,.I n,.N G.length,.LL G,.I (fp q),.I (fe q),.N (fm q).length,.L (fm q),.I q,.I n,.N G.length,.LL G,.I 0,.I 0,.I q,.I n,.N G.length,.LL G,.I 0,.I 0,.B false,.I n,.I ((n+1:Nat):Int),.N (n+1),.I q,.I n,.N G.length,.LL G,.I q,.I n,.N G.length,.LL G,.N (n+1),.L s,.L y]=κ 1 [.B false,.L x,.I q,.I n,.N G.length,.LL G,.I (fp q),.I (fe q),.N (fm q).length,.L (fm q),.I q,.I n,.N G.length,.LL G,.I 0,.I 0,.I q,.I n,.N G.length,.LL G,.I 0,.I 0,.B false,.I n,.I ((n+1:Nat):Int),.N (n+1),.I q,.I n,.N G.length,.LL G,.I q,.I n,.N G.length,.LL G,.N (n+1),.L ((tailw q G i x a).foldl (cnt1 n) s),.L y']
  | 0,a,y,s,h1,h2,h3,h4=>by omega
  | f+1,a,y,s,h1,h2,h3,h4=>by
    have F:=fld q C.fq
    have hR0:=C.rows
    have hf:=hR0.few
    have n1:=C.n1
    have hqq:=qs_lt C.fq
    have xl:=hx.1
    by_cases ha:a<q
    · have wg:=hR0.wd i hi
      have wv:=hx.vadd F (Wd.vmul F (c:=(a:Int)) (by omega) (by omega) wg)
      obtain ⟨y',ih⟩:=L121_5_1_spec C hi R hR hx f (a+1) (vadd (fadd q) x (vmul (fmul q) (a:Int) (G.getD i []))) ((words q (fadd q) (fmul q) (G.drop (i+1)) (vadd (fadd q) x (vmul (fmul q) (a:Int) (G.getD i [])))).foldl (cnt1 n) s) (by omega) (by omega) wv.1 (Hb.fold (by rw [words_len (n:=n) C.fq,←tail_pow ha];exact h4))
      refine ⟨y',fun {τ} κ=>?_⟩
      rw [tailw_step ha,List.foldl_append]
      rw [runE_succ]
      show L121_5_1.s0 R _ _ _=_
      unfold L121_5_1.s0
      simp only [g_,Int.toNat_natCast,Nat.mul_one,Nat.zero_add,List.drop_zero]
      have ft:List.take n x=x:=List.take_of_length_le (by omega)
      rw [br_of (by simp;omega),ft,ck_of (by simp;omega),ck_of (by simp;omega),ck_of (by simp;omega),S94_1_spec C.fq (by omega) wg hx (by omega) (by omega)]
      simp only [sw_zero,gL_zero]
      rw [wsucc (j:=i) (by omega),hR _ _ wv (h4.mono (by rw [tail_pow ha];omega))]
      simp only [g_,sw_zero]
      rw [br_no (b:=!true) rfl,wsucc (j:=a) (by omega)]
      exact ih κ
    · have:a=q:=by omega
      subst this
      refine ⟨y,fun {τ} κ=>?_⟩
      rw [tailw_end]
      rw [runE_succ]
      show L121_5_1.s0 R _ _ _=_
      unfold L121_5_1.s0
      simp only [g_,Int.toNat_natCast,Nat.mul_one,Nat.zero_add,List.drop_zero]
      rw [br_no (by simp)]
      rfl
theorem S121_1_D {q n:Nat} {G:List (List Int)} (C:Lc q n G):∀ (d i m:Nat) (x:List Int) (s:List Int),i+d=G.length→d<m→Wd q n x→Hb n s (q^(G.drop i).length) →
  ∀ {τ:Type} (k:Nat→LS_→Option τ),(S121_1.D m).b [.I i,.N n,.L x,.I q,.I n,.N G.length,.LL G,.I (fp q),.I (fe q),.N (fm q).length,.L (fm q),.I q,.I n,.N G.length,.LL G,.I 0,.I 0,.I q,.I n,.N G.length,.LL G,.I 0,.I 0,.B false,.I n,.I ((n+1:Nat):Int),.N (n+1),.I q,.I n,.N G.length,.LL G,.I q,.I n,.N G.length,.LL G,.N (n+1),.L s] k=k 0 [.B true,.L x,.I q,.I n,.N G.length,.LL G,.I (fp q),.I (fe q),.N (fm q).length,.L (fm q),.I q,.I n,.N G.length,.LL G,.I 0,.I 0,.I q,.I n,.N G.length,.LL G,.I 0,.I 0,.B false,.I n,.I ((n+1:Nat):Int),.N (n+1),.I q,.I n,.N G.length,.LL G,.I q,.I n,.N G.length,.LL G,.N (n+1),.L ((words q (fadd q) (fmul q) (G.drop i) x).foldl (cnt1 n) s)]
 | d,i,0,x,s,h1,h2,hx,h3,τ,k=>by omega
 | 0,i,m+1,x,s,h1,h2,hx,h3,τ,k=>by
  have n0:=C.n0
  have n1:=C.n1
  have xl:=hx.1
  have hi:i=G.length:=by omega
  subst hi
  rw [List.drop_length]
  show S121_1.body (S121_1.D m) _ _=_
  unfold S121_1.body
  simp only [g_,Int.toNat_natCast,Nat.mul_one,Nat.zero_add,List.drop_zero]
  have ft:List.take n x=x:=List.take_of_length_le (by omega)
  rw [br_of (by simp),ft,ck_of (by simp;omega),F92_spec (by omega),xl]
  simp only [sw_zero,gI_zero]
  have hw:=wt_le n x
  have hb:=h3
  rw [List.drop_length] at hb
  have hs:=hb.1
  have hb2:=hb.2 (wt n x)
  have hm:(words q (fadd q) (fmul q) [] x).foldl (cnt1 n) s=s.set (wt n x) (s.getD (wt n x) 0+1):=rfl
  simp only [List.length_nil,Nat.pow_zero] at hb2
  rw [hm]
  simp only [Int.toNat_natCast]
  rw [ck_of (by simp;omega),ck_of (by simp;omega),ck_of (by simp;omega),ck_of (by simp;omega),wr64 (n:=s.getD (wt n x) 0+1) (by omega) (by omega)]
 | d+1,i,m+1,x,s,h1,h2,hx,h3,τ,k=>by
  have hfu:=fuel_le
  have n0:=C.n0
  have n1:=C.n1
  have xl:=hx.1
  have hi:i<G.length:=by omega
  have hqq:=qs_lt C.fq
  show S121_1.body (S121_1.D m) _ _=_
  unfold S121_1.body
  simp only [g_,Int.toNat_natCast,Nat.mul_one,Nat.zero_add,List.drop_zero]
  have ft:List.take n x=x:=List.take_of_length_le (by omega)
  rw [br_no (by simp;omega),ft,ck_of (by simp;omega),F71_spec (by omega) (by omega),xl]
  simp only [sw_zero,gN_zero,gL_succ,gL_zero]
  obtain ⟨y',h⟩:=L121_5_1_spec C hi (S121_1.D m) (fun x s hx hb=>fun {τ} k=>S121_1_D C d (i+1) m x s (by omega) (by omega) hx hb k) hx fuel 0 x s (by omega) (by omega) xl (by rw [Nat.sub_zero,←drop_pow hi];exact h3)
  unfold L121_5_1.b
  refine (h _).trans ?_
  rw [tailw_zero hi]
  simp only [g_,sw_zero,sw_one]
theorem F42_spec {q n:Nat} {G:List (List Int)} (h:Cd q n G) {τ:Type} (k:Nat→LS_→Option τ):F42 [.I q,.I n,.LL G] k =
  k 1 [.N (n+1),.L ((words q (fadd q) (fmul q) G (List.replicate n 0)).foldl (cnt1 n) (List.replicate (n+1) 0))]:=by
 have hfu:=fuel_le
 have hqq:=qs_lt h.fq
 have n0:=h.n0
 have n1:=h.n1
 have hl:=h.lc.len
 have hc:=h.count
 have e1:wr .i64 ((n:Int)+1)=((n+1:Nat):Int):=wsucc (by omega)
 unfold F42
 simp only [g_]
 rw [ck_of (by simp),F90_spec h]
 simp only [sw_zero,gI_zero]
 rw [br_no (by rfl),e1,ck_of (by simp;omega),T81_spec h.fq]
 simp only [g_,sw_zero,Int.toNat_natCast]
 rw [ck_of (by simp;omega)]
 unfold S121_1
 refine (S121_1_D h.lc G.length 0 fuel (List.replicate n 0) (List.replicate (n+1) 0) (by omega) (by omega) (Wd.zeros (by omega)) ⟨by simp,fun j=>?_⟩ _).trans ?_
 ·have:(List.replicate (n+1) (0:Int)).getD j 0=0:=by rw [List.getD_eq_getElem?_getD,List.getElem?_replicate];split <;> rfl
  rw [this,List.drop_zero]
  omega
 ·simp only [g_,sw_zero,List.drop_zero]
def lsO (t:Nat) (o:List (List Int)) (y:List Int):LS_:=if t=0 then [.N o.length,.LL o,.L y] else [.N o.length,.L y,.LL o]
theorem L121_5_3_spec {q n:Nat} {G:List (List Int)} (C:Lc q n G) {i:Nat} (hi:i<G.length) (R:SDyn P S121_3.H)
    (hR:∀ (x:List Int) (o:List (List Int)),Wd q n x→o.length+q^(G.drop (i+1)).length≤2^30→∃ j,(j=0∨j=1)∧∀ {τ:Type} (k:Nat→LS_→Option τ),R.b [.I ((i+1:Nat):Int),.N n,.L x,.I q,.I n,.N G.length,.LL G,.I (fp q),.I (fe q),.N (fm q).length,.L (fm q),.I q,.I n,.N G.length,.LL G,.I 0,.I 0,.I q,.I n,.N G.length,.LL G,.I 0,.I 0,.B false,.I q,.I n,.N G.length,.LL G,.I q,.I n,.N G.length,.LL G,.N o.length,.LL o] k=k j [.B true,.L x,.I q,.I n,.N G.length,.LL G,.I (fp q),.I (fe q),.N (fm q).length,.L (fm q),.I q,.I n,.N G.length,.LL G,.I 0,.I 0,.I q,.I n,.N G.length,.LL G,.I 0,.I 0,.B false,.I q,.I n,.N G.length,.LL G,.I q,.I n,.N G.length,.LL G,.N (o++(words q (fadd q) (fmul q) (G.drop (i+1)) x)).length,.LL (o++(words q (fadd q) (fmul q) (G.drop (i+1)) x))])
    {x:List Int} (hx:Wd q n x):∀ (f a t:Nat) (y:List Int) (o:List (List Int)),a≤q→q<f+a→y.length=n→o.length+(q-a)*q^(G.drop (i+1)).length≤2^30→(t=0∨t=1) →
    ∃ (t':Nat) (y':List Int),(t'=0∨t'=1)∧(t=1→t'=1)∧∀ {τ:Type} (κ:Nat→LS_→Option τ),runE (L121_5_3 R) f κ t (.I i::.N n::.B false::.N n::.I q::.I a::.L x::.I q::.I n::.N G.length::.LL G::.I (fp q)::.I (fe q)::.N (fm q).length::.L (fm q)::.I q::.I n::.N G.length::.LL G::.I 0::.I 0::.I q::.I n::.N G.length::.LL G::.I 0::.I 0::.B false::.I q::.I n::.N G.length::.LL G::.I q::.I n::.N G.length::.LL G::lsO t o y)=κ (2+t') (.B false::.L x::.I q::.I n::.N G.length::.LL G::.I (fp q)::.I (fe q)::.N (fm q).length::.L (fm q)::.I q::.I n::.N G.length::.LL G::.I 0::.I 0::.I q::.I n::.N G.length::.LL G::.I 0::.I 0::.B false::.I q::.I n::.N G.length::.LL G::.I q::.I n::.N G.length::.LL G::lsO t' (o++tailw q G i x a) y')
  | 0,a,t,y,o,h1,h2,h3,h4,ht=>by omega
  | f+1,a,t,y,o,h1,h2,h3,h4,ht=>by
    have F:=fld q C.fq
    have hR0:=C.rows
    have hf:=hR0.few
    have n1:=C.n1
    have hqq:=qs_lt C.fq
    have xl:=hx.1
    by_cases ha:a<q
    · have wg:=hR0.wd i hi
      have wv:=hx.vadd F (Wd.vmul F (c:=(a:Int)) (by omega) (by omega) wg)
      have ft:List.take n x=x:=List.take_of_length_le (by omega)
      rw [tail_pow ha] at h4
      have wl:=words_len (n:=n) C.fq (G.drop (i+1)) (vadd (fadd q) x (vmul (fmul q) (a:Int) (G.getD i [])))
      obtain ⟨j,hj,hb⟩:=hR _ o wv (by omega)
      have ih:∀ t2,(t2=0∨t2=1)→_:=fun t2 h=>L121_5_3_spec C hi R hR hx f (a+1) t2 (vadd (fadd q) x (vmul (fmul q) (a:Int) (G.getD i []))) (o++words q (fadd q) (fmul q) (G.drop (i+1)) (vadd (fadd q) x (vmul (fmul q) (a:Int) (G.getD i [])))) (by omega) (by omega) wv.1 (by rw [List.length_append,wl];omega) h
      rw [tailw_step ha,←List.append_assoc]
      rcases ht with rfl | rfl
      · rcases hj with rfl | rfl
        · obtain ⟨t',y',e1,e2,e3⟩:=ih 1 (.inr rfl)
          refine ⟨t',y',e1,fun e=>by omega,fun {τ} κ=>?_⟩
          rw [runE_succ]
          show L121_5_3.s0 R _ _ _=_
          unfold L121_5_3.s0 lsO
          rw [if_pos rfl]
          simp only [g_,Int.toNat_natCast,Nat.mul_one,Nat.zero_add,List.drop_zero]
          rw [br_of (by simp;omega),ft,ck_of (by simp;omega),ck_of (by simp;omega),ck_of (by simp;omega),S94_1_spec C.fq (by omega) wg hx (by omega) (by omega)]
          simp only [sw_zero,gL_zero]
          rw [wsucc (j:=i) (by omega),hb]
          simp only [g_,sw_zero,sw_one]
          rw [br_no (b:=!true) rfl,wsucc (j:=a) (by omega)]
          exact e3 κ
        · obtain ⟨t',y',e1,e2,e3⟩:=ih 0 (.inl rfl)
          refine ⟨t',y',e1,fun e=>by omega,fun {τ} κ=>?_⟩
          rw [runE_succ]
          show L121_5_3.s0 R _ _ _=_
          unfold L121_5_3.s0 lsO
          rw [if_pos rfl]
          simp only [g_,Int.toNat_natCast,Nat.mul_one,Nat.zero_add,List.drop_zero]
          rw [br_of (by simp;omega),ft,ck_of (by simp;omega),ck_of (by simp;omega),ck_of (by simp;omega),S94_1_spec C.fq (by omega) wg hx (by omega) (by omega)]
          simp only [sw_zero,gL_zero]
          rw [wsucc (j:=i) (by omega),hb]
          simp only [g_,sw_zero,sw_one]
          rw [br_no (b:=!true) rfl,wsucc (j:=a) (by omega)]
          exact e3 κ
      · obtain ⟨t',y',e1,e2,e3⟩:=ih 1 (.inr rfl)
        refine ⟨t',y',e1,fun _=>e2 rfl,fun {τ} κ=>?_⟩
        rw [runE_succ]
        show L121_5_3.s1 R _ _ _=_
        unfold L121_5_3.s1 lsO
        rw [if_neg (by omega)]
        simp only [g_,Int.toNat_natCast,Nat.mul_one,Nat.zero_add,List.drop_zero]
        rw [br_of (by simp;omega),ft,ck_of (by simp;omega),ck_of (by simp;omega),ck_of (by simp;omega),S94_1_spec C.fq (by omega) wg hx (by omega) (by omega)]
        simp only [sw_zero,gL_zero]
        rw [wsucc (j:=i) (by omega),hb]
        rcases hj with rfl | rfl
        · simp only [g_,sw_zero,sw_one]
          rw [br_no (b:=!true) rfl,wsucc (j:=a) (by omega)]
          exact e3 κ
        · simp only [g_,sw_zero,sw_one]
          rw [br_no (b:=!true) rfl,wsucc (j:=a) (by omega)]
          exact e3 κ
    · have:a=q:=by omega
      subst this
      refine ⟨t,y,ht,id,fun {τ} κ=>?_⟩
      rw [tailw_end,List.append_nil,runE_succ]
      rcases ht with rfl | rfl
      · show L121_5_3.s0 R _ _ _=_
        unfold L121_5_3.s0 lsO
        rw [if_pos rfl]
        simp only [g_,Int.toNat_natCast,Nat.mul_one,Nat.zero_add,List.drop_zero]
        rw [br_no (by simp)]
      · show L121_5_3.s1 R _ _ _=_
        unfold L121_5_3.s1 lsO
        rw [if_neg (by omega)]
        simp only [g_,Int.toNat_natCast,Nat.mul_one,Nat.zero_add,List.drop_zero]
        rw [br_no (by simp)]
theorem S121_3_D {q n:Nat} {G:List (List Int)} (C:Lc q n G):∀ (d i m:Nat) (x:List Int) (o:List (List Int)),i+d=G.length→d<m→Wd q n x→o.length+q^(G.drop i).length≤2^30→∃ j,(j=0∨j=1) ∧
  ∀ {τ:Type} (k:Nat→LS_→Option τ),(S121_3.D m).b [.I i,.N n,.L x,.I q,.I n,.N G.length,.LL G,.I (fp q),.I (fe q),.N (fm q).length,.L (fm q),.I q,.I n,.N G.length,.LL G,.I 0,.I 0,.I q,.I n,.N G.length,.LL G,.I 0,.I 0,.B false,.I q,.I n,.N G.length,.LL G,.I q,.I n,.N G.length,.LL G,.N o.length,.LL o] k=k j [.B true,.L x,.I q,.I n,.N G.length,.LL G,.I (fp q),.I (fe q),.N (fm q).length,.L (fm q),.I q,.I n,.N G.length,.LL G,.I 0,.I 0,.I q,.I n,.N G.length,.LL G,.I 0,.I 0,.B false,.I q,.I n,.N G.length,.LL G,.I q,.I n,.N G.length,.LL G,.N (o++(words q (fadd q) (fmul q) (G.drop i) x)).length,.LL (o++(words q (fadd q) (fmul q) (G.drop i) x))]
 | d,i,0,x,o,h1,h2,hx,ho=>by omega
 | 0,i,m+1,x,o,h1,h2,hx,ho=>by
  have n0:=C.n0
  have n1:=C.n1
  have xl:=hx.1
  have hi:i=G.length:=by omega
  subst hi
  rw [List.drop_length] at ho ⊢
  refine ⟨0,.inl rfl,fun {τ} k=>?_⟩
  show S121_3.body (S121_3.D m) _ _=_
  unfold S121_3.body
  simp only [g_,Int.toNat_natCast,Nat.mul_one,Nat.zero_add,List.drop_zero]
  have ft:List.take n x=x:=List.take_of_length_le (by omega)
  rw [br_of (by simp),ft,ck_of (by simp;omega),F71_spec (by omega) (by omega),xl]
  simp only [sw_zero,gN_zero,gL_succ,gL_zero,List.length_nil,Nat.pow_zero] at ho ⊢
  rw [ft,ck_of (by simp;omega),ck_of (by simp;omega)]
  have e:o++words q (fadd q) (fmul q) [] x=o++[x]:=rfl
  rw [e,List.length_append]
  rfl
 | d+1,i,m+1,x,o,h1,h2,hx,ho=>by
  have hfu:=fuel_le
  have n0:=C.n0
  have n1:=C.n1
  have xl:=hx.1
  have hi:i<G.length:=by omega
  have hqq:=qs_lt C.fq
  have ft:List.take n x=x:=List.take_of_length_le (by omega)
  obtain ⟨t',y',e1,_,h⟩:=L121_5_3_spec C hi (S121_3.D m) (fun x o hx ho=>S121_3_D C d (i+1) m x o (by omega) (by omega) hx ho) hx fuel 0 0 x o (by omega) (by omega) xl (by rw [Nat.sub_zero,←drop_pow hi];exact ho) (.inl rfl)
  rw [tailw_zero hi]
  rcases e1 with rfl | rfl
  ·refine ⟨1,.inr rfl,fun {τ} k=>?_⟩
   show S121_3.body (S121_3.D m) _ _=_
   unfold S121_3.body
   simp only [g_,Int.toNat_natCast,Nat.mul_one,Nat.zero_add,List.drop_zero]
   rw [br_no (by simp;omega),ft,ck_of (by simp;omega),F71_spec (by omega) (by omega),xl]
   simp only [sw_zero,gN_zero,gL_succ,gL_zero]
   unfold L121_5_3.b
   refine (h _).trans ?_
   unfold lsO
   rw [if_pos rfl]
   simp only [g_,Nat.add_zero,sw_two,sw_one,sw_zero]
  ·refine ⟨0,.inl rfl,fun {τ} k=>?_⟩
   show S121_3.body (S121_3.D m) _ _=_
   unfold S121_3.body
   simp only [g_,Int.toNat_natCast,Nat.mul_one,Nat.zero_add,List.drop_zero]
   rw [br_no (by simp;omega),ft,ck_of (by simp;omega),F71_spec (by omega) (by omega),xl]
   simp only [sw_zero,gN_zero,gL_succ,gL_zero]
   unfold L121_5_3.b
   refine (h _).trans ?_
   unfold lsO
   rw [if_neg (by omega)]
   simp only [g_,show 2+1=3 from rfl,sw_three,sw_two,sw_one,sw_zero]
theorem S121_3_all {q n:Nat} {G:List (List Int)} (C:Lc q n G) {i:Nat} (hi:i≤G.length) {x:List Int} (hx:Wd q n x) {o:List (List Int)} (ho:o.length+q^(G.drop i).length≤2^30):∃ j,(j=0∨j=1) ∧
  ∀ {τ:Type} (k:Nat→LS_→Option τ),S121_3 [.I i,.N n,.L x,.I q,.I n,.N G.length,.LL G,.I (fp q),.I (fe q),.N (fm q).length,.L (fm q),.I q,.I n,.N G.length,.LL G,.I 0,.I 0,.I q,.I n,.N G.length,.LL G,.I 0,.I 0,.B false,.I q,.I n,.N G.length,.LL G,.I q,.I n,.N G.length,.LL G,.N o.length,.LL o] k=k j [.B true,.L x,.I q,.I n,.N G.length,.LL G,.I (fp q),.I (fe q),.N (fm q).length,.L (fm q),.I q,.I n,.N G.length,.LL G,.I 0,.I 0,.I q,.I n,.N G.length,.LL G,.I 0,.I 0,.B false,.I q,.I n,.N G.length,.LL G,.I q,.I n,.N G.length,.LL G,.N (o++(words q (fadd q) (fmul q) (G.drop i) x)).length,.LL (o++(words q (fadd q) (fmul q) (G.drop i) x))]:=by
 have hfu:=fuel_le
 have:=C.len
 have:=C.n1
 exact S121_3_D C (G.length-i) i fuel x o (by omega) (by omega) hx ho
theorem L121_5_2_spec1 {q n:Nat} {G:List (List Int)} (C:Lc q n G) {i:Nat} (hi:i<G.length) (R:SDyn P S121_2.H)
    {x:List Int} (hx:Wd q n x):∀ (f a:Nat) (y:List Int) (o:List (List Int)),a≤q→q<f+a→y.length=n→o.length+(q-a)*q^(G.drop (i+1)).length≤2^30 →
    ∃ (y':List Int),∀ {τ:Type} (κ:Nat→LS_→Option τ),runE (L121_5_2 R) f κ 1 [.I i,.N n,.B false,.N n,.I q,.I a,.L x,.I q,.I n,.N G.length,.LL G,.I (fp q),.I (fe q),.N (fm q).length,.L (fm q),.I q,.I n,.N G.length,.LL G,.I 0,.I 0,.I q,.I n,.N G.length,.LL G,.I 0,.I 0,.B false,.I q,.I n,.N G.length,.LL G,.I q,.I n,.N G.length,.LL G,.N o.length,.L y,.LL o]=κ 3 [.B false,.L x,.I q,.I n,.N G.length,.LL G,.I (fp q),.I (fe q),.N (fm q).length,.L (fm q),.I q,.I n,.N G.length,.LL G,.I 0,.I 0,.I q,.I n,.N G.length,.LL G,.I 0,.I 0,.B false,.I q,.I n,.N G.length,.LL G,.I q,.I n,.N G.length,.LL G,.N (o++tailw q G i x a).length,.L y',.LL (o++tailw q G i x a)]
  | 0,a,y,o,h1,h2,h3,h4=>by omega
  | f+1,a,y,o,h1,h2,h3,h4=>by
    have F:=fld q C.fq
    have hR0:=C.rows
    have hf:=hR0.few
    have n1:=C.n1
    have hqq:=qs_lt C.fq
    have xl:=hx.1
    by_cases ha:a<q
    · have wg:=hR0.wd i hi
      have wv:=hx.vadd F (Wd.vmul F (c:=(a:Int)) (by omega) (by omega) wg)
      have ft:List.take n x=x:=List.take_of_length_le (by omega)
      rw [tail_pow ha] at h4
      have wl:=words_len (n:=n) C.fq (G.drop (i+1)) (vadd (fadd q) x (vmul (fmul q) (a:Int) (G.getD i [])))
      obtain ⟨j,hj,hb⟩:=S121_3_all C (i:=i+1) (by omega) wv (o:=o) (by omega)
      obtain ⟨y',e3⟩:=L121_5_2_spec1 C hi R hx f (a+1) (vadd (fadd q) x (vmul (fmul q) (a:Int) (G.getD i []))) (o++words q (fadd q) (fmul q) (G.drop (i+1)) (vadd (fadd q) x (vmul (fmul q) (a:Int) (G.getD i [])))) (by omega) (by omega) wv.1 (by rw [List.length_append,wl];omega)
      rw [tailw_step ha,←List.append_assoc]
      refine ⟨y',fun {τ} κ=>?_⟩
      rw [runE_succ]
      show L121_5_2.s1 R _ _ _=_
      unfold L121_5_2.s1
      simp only [g_,Int.toNat_natCast,Nat.mul_one,Nat.zero_add,List.drop_zero]
      rw [br_of (by simp;omega),ft,ck_of (by simp;omega),ck_of (by simp;omega),ck_of (by simp;omega),S94_1_spec C.fq (by omega) wg hx (by omega) (by omega)]
      simp only [sw_zero,gL_zero]
      rw [wsucc (j:=i) (by omega),hb]
      rcases hj with rfl | rfl
      · simp only [g_,sw_zero,sw_one]
        rw [br_no (b:=!true) rfl,wsucc (j:=a) (by omega)]
        exact e3 κ
      · simp only [g_,sw_zero,sw_one]
        rw [br_no (b:=!true) rfl,wsucc (j:=a) (by omega)]
        exact e3 κ
    · have:a=q:=by omega
      subst this
      refine ⟨y,fun {τ} κ=>?_⟩
      rw [tailw_end,List.append_nil,runE_succ]
      show L121_5_2.s1 R _ _ _=_
      unfold L121_5_2.s1
      simp only [g_,Int.toNat_natCast,Nat.mul_one,Nat.zero_add,List.drop_zero]
      rw [br_no (by simp)]
theorem L121_5_2_spec {q n:Nat} {G:List (List Int)} (C:Lc q n G) {i:Nat} (hi:i<G.length) (R:SDyn P S121_2.H)
    (hR:∀ (x:List Int),Wd q n x→∀ {τ:Type} (k:Nat→LS_→Option τ),R.b [.I ((i+1:Nat):Int),.N n,.L x,.I q,.I n,.N G.length,.LL G,.I (fp q),.I (fe q),.N (fm q).length,.L (fm q),.I q,.I n,.N G.length,.LL G,.I 0,.I 0,.I q,.I n,.N G.length,.LL G,.I 0,.I 0,.B false,.I q,.I n,.N G.length,.LL G,.I q,.I n,.N G.length,.LL G] k=k 0 [.B true,.L x,.I q,.I n,.N G.length,.LL G,.I (fp q),.I (fe q),.N (fm q).length,.L (fm q),.I q,.I n,.N G.length,.LL G,.I 0,.I 0,.I q,.I n,.N G.length,.LL G,.I 0,.I 0,.B false,.I q,.I n,.N G.length,.LL G,.I q,.I n,.N G.length,.LL G,.N (words q (fadd q) (fmul q) (G.drop (i+1)) x).length,.LL (words q (fadd q) (fmul q) (G.drop (i+1)) x)])
    {x:List Int} (hx:Wd q n x) (ho:q^(G.drop i).length≤2^30) (f:Nat) (hf2:q<f) :
    ∃ (y':List Int),∀ {τ:Type} (κ:Nat→LS_→Option τ),runE (L121_5_2 R) (f+1) κ 0 [.I i,.N n,.B false,.N n,.I q,.I 0,.L x,.I q,.I n,.N G.length,.LL G,.I (fp q),.I (fe q),.N (fm q).length,.L (fm q),.I q,.I n,.N G.length,.LL G,.I 0,.I 0,.I q,.I n,.N G.length,.LL G,.I 0,.I 0,.B false,.I q,.I n,.N G.length,.LL G,.I q,.I n,.N G.length,.LL G,.L x]=κ 3 [.B false,.L x,.I q,.I n,.N G.length,.LL G,.I (fp q),.I (fe q),.N (fm q).length,.L (fm q),.I q,.I n,.N G.length,.LL G,.I 0,.I 0,.I q,.I n,.N G.length,.LL G,.I 0,.I 0,.B false,.I q,.I n,.N G.length,.LL G,.I q,.I n,.N G.length,.LL G,.N (tailw q G i x 0).length,.L y',.LL (tailw q G i x 0)]:=by
  have F:=fld q C.fq
  have hR0:=C.rows
  have hf:=hR0.few
  have n0:=C.n0
  have n1:=C.n1
  have xl:=hx.1
  have hqq:=qs_lt C.fq
  have wg:=hR0.wd i hi
  have wv:=hx.vadd F (Wd.vmul F (c:=((0:Nat):Int)) (by omega) (by omega) wg)
  have ft:List.take n x=x:=List.take_of_length_le (by omega)
  have wl:=words_len (n:=n) C.fq (G.drop (i+1)) (vadd (fadd q) x (vmul (fmul q) ((0:Nat):Int) (G.getD i [])))
  rw [drop_pow hi] at ho
  have tp:=tail_pow (a:=0) (D:=q^(G.drop (i+1)).length) (show 0<q by omega)
  rw [Nat.sub_zero] at tp
  obtain ⟨y',e3⟩:=L121_5_2_spec1 C hi R hx f (0+1) (vadd (fadd q) x (vmul (fmul q) ((0:Nat):Int) (G.getD i []))) (words q (fadd q) (fmul q) (G.drop (i+1)) (vadd (fadd q) x (vmul (fmul q) ((0:Nat):Int) (G.getD i [])))) (by omega) (by omega) wv.1 (by rw [wl];omega)
  refine ⟨y',fun {τ} κ=>?_⟩
  rw [runE_succ]
  show L121_5_2.s0 R _ _ _=_
  unfold L121_5_2.s0
  simp only [g_,Int.toNat_natCast,Nat.mul_one,Nat.zero_add,List.drop_zero]
  rw [br_of (by simp;omega),ft,ck_of (by simp;omega),ck_of (by simp;omega),ck_of (by simp;omega)]
  have sp:=S94_1_spec C.fq (by omega) wg hx (a:=((0:Nat):Int)) (by omega) (by omega) (τ:=τ)
  rw [show S94_1 [.I (fp q),.I (fe q),.N (fm q).length,.L (fm q),.N n,.I 0,.N (G.getD i []).length,.L (G.getD i []),.L x]=fun (k:Nat→LS_→Option τ)=>k 0 [.L (vadd (fadd q) x (vmul (fmul q) ((0:Nat):Int) (G.getD i [])))] from funext sp]
  simp only [sw_zero,gL_zero]
  rw [wsucc (j:=i) (by omega),hR _ wv]
  simp only [g_,sw_zero]
  rw [br_no (b:=!true) rfl,show wr .i64 ((0:Int)+1)=((0+1:Nat):Int) from wsucc (j:=0) (by omega),tailw_step (show 0<q by omega)]
  exact e3 κ
theorem S121_2_D {q n:Nat} {G:List (List Int)} (C:Lc q n G):∀ (d i m:Nat) (x:List Int),i+d=G.length→d<m→Wd q n x→q^(G.drop i).length≤2^30 →
  ∀ {τ:Type} (k:Nat→LS_→Option τ),(S121_2.D m).b [.I i,.N n,.L x,.I q,.I n,.N G.length,.LL G,.I (fp q),.I (fe q),.N (fm q).length,.L (fm q),.I q,.I n,.N G.length,.LL G,.I 0,.I 0,.I q,.I n,.N G.length,.LL G,.I 0,.I 0,.B false,.I q,.I n,.N G.length,.LL G,.I q,.I n,.N G.length,.LL G] k=k 0 [.B true,.L x,.I q,.I n,.N G.length,.LL G,.I (fp q),.I (fe q),.N (fm q).length,.L (fm q),.I q,.I n,.N G.length,.LL G,.I 0,.I 0,.I q,.I n,.N G.length,.LL G,.I 0,.I 0,.B false,.I q,.I n,.N G.length,.LL G,.I q,.I n,.N G.length,.LL G,.N (words q (fadd q) (fmul q) (G.drop i) x).length,.LL (words q (fadd q) (fmul q) (G.drop i) x)]
 | d,i,0,x,h1,h2,hx,ho,τ,k=>by omega
 | 0,i,m+1,x,h1,h2,hx,ho,τ,k=>by
  have n0:=C.n0
  have n1:=C.n1
  have xl:=hx.1
  have hi:i=G.length:=by omega
  subst hi
  rw [List.drop_length] at ho ⊢
  show S121_2.body (S121_2.D m) _ _=_
  unfold S121_2.body
  simp only [g_,Int.toNat_natCast,Nat.mul_one,Nat.zero_add,List.drop_zero]
  have ft:List.take n x=x:=List.take_of_length_le (by omega)
  rw [br_of (by simp),ft,ck_of (by simp;omega),F71_spec (by omega) (by omega),xl]
  simp only [sw_zero,gN_zero,gL_succ,gL_zero,List.length_nil,Nat.pow_zero] at ho ⊢
  rw [ft,ck_of (by simp;omega)]
  rfl
 | d+1,i,m+1,x,h1,h2,hx,ho,τ,k=>by
  have hfu:=fuel_le
  have n0:=C.n0
  have n1:=C.n1
  have xl:=hx.1
  have hi:i<G.length:=by omega
  have hqq:=qs_lt C.fq
  have ft:List.take n x=x:=List.take_of_length_le (by omega)
  obtain ⟨f,hfe⟩:∃ f,fuel=f+1:=⟨fuel-1,by omega⟩
  have hp:q^(G.drop (i+1)).length≤q^(G.drop i).length:=by rw [drop_pow hi];exact Nat.le_mul_of_pos_left _ (by omega)
  obtain ⟨y',h⟩:=L121_5_2_spec C hi (S121_2.D m) (fun x hx=>fun {τ} k=>S121_2_D C d (i+1) m x (by omega) (by omega) hx (by omega) k) hx ho f (by omega)
  rw [tailw_zero hi]
  show S121_2.body (S121_2.D m) _ _=_
  unfold S121_2.body
  simp only [g_,Int.toNat_natCast,Nat.mul_one,Nat.zero_add,List.drop_zero]
  rw [br_no (by simp;omega),ft,ck_of (by simp;omega),F71_spec (by omega) (by omega),xl]
  simp only [sw_zero,gN_zero,gL_succ,gL_zero]
  unfold L121_5_2.b
  rw [hfe]
  refine (h _).trans ?_
  simp only [g_,sw_three,sw_two,sw_one,sw_zero]
theorem F64_spec {q n:Nat} {G:List (List Int)} (h:Cd q n G) {τ:Type} (k:Nat→LS_→Option τ):F64 [.I q,.I n,.LL G] k =
  k 1 [.N (words q (fadd q) (fmul q) G (List.replicate n 0)).length,.LL (words q (fadd q) (fmul q) G (List.replicate n 0))]:=by
 have hfu:=fuel_le
 have hqq:=qs_lt h.fq
 have n0:=h.n0
 have n1:=h.n1
 have hl:=h.lc.len
 have hc:=h.count
 unfold F64
 simp only [g_]
 rw [ck_of (by simp),F90_spec h]
 simp only [sw_zero,gI_zero]
 rw [br_no (by rfl),T81_spec h.fq]
 simp only [g_,sw_zero,Int.toNat_natCast]
 rw [ck_of (by simp;omega)]
 unfold S121_2
 refine (S121_2_D h.lc G.length 0 fuel (List.replicate n 0) (by omega) (by omega) (Wd.zeros (by omega)) (by rw [List.drop_zero];omega) _).trans ?_
 simp only [g_,sw_zero,List.drop_zero]
def T33 {τ:Type} (l:LS_) (k:Nat→LS_→Option τ):Option τ:=wrapB F33.E (.v pCode) l k
def T33.E:Ent P:=F33.E.wrap (.v pCode)
theorem T33_spec {q n:Nat} {G:List (List Int)} (h:Lc q n G) {τ:Type} (k:Nat→LS_→Option τ):T33 [.I q,.I n,.LL G] k=k 0 [.I q,.I n,.LL (dualR q n G)]:=by
 obtain ⟨m,h1,h2⟩:=F33_spec h
 generalize dualR q n G=D at h1 h2 ⊢
 by_cases hr:D.length=0
 ·obtain rfl:=List.length_eq_zero_iff.1 hr
  exact wrap_of (e:=F33.E) (p:=.v pCode) (j:=1) (l2:=[.I q,.I n,.N 0]) (c:=true) (ls':=[.I q,.I n,.LL []]) (by intro τ κ;kernel_rfl) rfl (fun κ=>(h2 κ).trans (if_pos rfl))
 ·have h2:=fun {τ:Type} (κ:Nat→LS_→Option τ)=>(h2 κ).trans (if_neg hr)
  generalize hD:D.length=r at h1 h2
  have:=wrap_of (e:=F33.E) (p:=.v pCode) (j:=0) (l2:=[.I q,.I n,.N r,.LL m]) (c:=true&&(true&&(true&&(true&&(true&&(decide (r=(List.take (r*1) (List.drop 0 m)).length)&&true)))))) (ls':=[.I q,.I n,.LL (List.take (r*1) (List.drop 0 m))]) (by intro τ κ;kernel_rfl)
   (by rw [Nat.mul_one,List.drop_zero,h1];simp [hD]) (k:=k) (fun κ=>h2 κ)
  rw [Nat.mul_one,List.drop_zero,h1] at this
  exact this
end
end Go.Proofs.Yticbdgmcofjkeaa.Ai
namespace Go.Proofs.Yticbdgmcofjkeaa.Ai
open Go Ma Go.RowKit
noncomputable section
def chkT:Option Ans→Bool
 | some ⟨.bool b,[]⟩=>b
 | _=>false
theorem chkT_ok {o:Option Ans} (h:chkT o=true):o=some ⟨.bool true,[]⟩:=by
 unfold chkT at h
 split at h
 ·subst h;rfl
 ·cases h
theorem t34:chkT (runC P Cf [F127.E 64,T103.E,T104.E,T83.E,T116.E] 60 9 [])=true:=by kernel_rfl
def T34 {τ:Type} (l:LS_) (k:Nat→LS_→Option τ):Option τ:=k 0 [.B true]
def T34.E:Ent P:=⟨9,[],[PA.mk (PV3.v pB) []],fun l k=>T34 l k,fun ls κ r h=>⟨_,runC_ok cfgOk (chkT_ok t34),h⟩⟩
end
end Go.Proofs.Yticbdgmcofjkeaa.Ai
namespace Go.Proofs.Yticbdgmcofjkeaa.Ai
open Go Ma
noncomputable section
def isRefA:Ans→Bool
 | ⟨.tup [.agg [_,_,.ref _ _ _ _ _],_],_⟩=>true
 | _=>false
def sh81:List PA:=[⟨.tup [.agg [.int .i64,.int .i64,.ref 0 (some 0) (some 0) none 1],.v .bool],[.c (.i .i64)]⟩]
def V81 {τ:Type} (l:LS_) (k:Nat→LS_→Option τ):Option τ:=F81 l fun j m=>sw (k 0 m) (fun _=>none) j
def V81.E:Ent P:=⟨65,[pI],sh81,fun l k=>V81 l k,fun ls κ r h=>by
 have e:(fun (j:Nat) (l:LS_)=>sel F81.E.sh (fun s=>Bool.rec (motive:=fun _=>Option _) none (κ (fA s l)) (isRefA (fA s l))) j)=fun (j:Nat) (m:LS_)=>sw (sel sh81 (fun s=>κ (fA s m)) 0) (fun _=>none) j:=by
  funext j l
  match j with
  | 0=>rfl
  | 1=>rfl
  | j+2=>rfl
 have h2:F81.E.b ls (fun j l=>sel F81.E.sh (fun s=>Bool.rec (motive:=fun _=>Option _) none (κ (fA s l)) (isRefA (fA s l))) j)=some r:=by
  rw [e]
  exact h
 obtain ⟨x,h3,h4⟩:=F81.E.ok ls (fun x=>Bool.rec (motive:=fun _=>Option _) none (κ x) (isRefA x)) r h2
 cases hb:isRefA x with
 | false=>simp only [hb] at h4;cases h4
 | true=>simp only [hb] at h4;exact ⟨x,h3,h4⟩⟩
theorem V81_spec {q:Nat} (hq:q∈Qs) {τ:Type} (k:Nat→LS_→Option τ):V81 [.I q] k=k 0 [.I (fp q),.I (fe q),.N (fm q).length,.B true,.L (fm q)]:=by
 show F81 [.I q] (fun j m=>sw (k 0 m) (fun _=>none) j)=_
 rw [F81_spec hq]
 rfl
def T31 {τ:Type} (l:LS_) (k:Nat→LS_→Option τ):Option τ:=F31 l k
def T31.E:Ent P:=F31.E
def T42 {τ:Type} (l:LS_) (k:Nat→LS_→Option τ):Option τ:=wrapB F42.E (.tup [pR,pI]) l k
def T42.E:Ent P:=F42.E.wrap (.tup [pR,pI])
def T64 {τ:Type} (l:LS_) (k:Nat→LS_→Option τ):Option τ:=wrapB F64.E (.tup [pM,pI]) l k
def T64.E:Ent P:=F64.E.wrap (.tup [pM,pI])
theorem hist_len {n:Nat}:∀ (L:List (List Int)) (s:List Int),(L.foldl (cnt1 n) s).length=s.length
 | [],s=>rfl
 | y::L,s=>by rw [List.foldl_cons,hist_len L];unfold cnt1;rw [List.length_set]
def hist (q n:Nat) (G:List (List Int)):List Int:=(words q (fadd q) (fmul q) G (List.replicate n 0)).foldl (cnt1 n) (List.replicate (n+1) 0)
theorem T42_spec {q n:Nat} {G:List (List Int)} (h:Cd q n G) {τ:Type} (k:Nat→LS_→Option τ):T42 [.I q,.I n,.LL G] k=k 0 [.L (hist q n G),.I 0]:=by
 have h2:=fun {τ:Type} (κ:Nat→LS_→Option τ)=>F42_spec h κ
 have hl:(hist q n G).length=n+1:=by unfold hist;rw [hist_len];simp
 change ∀ {τ:Type} (κ:Nat→LS_→Option τ),F42 [.I q,.I n,.LL G] κ=κ 1 [.N (n+1),.L (hist q n G)] at h2
 generalize hist q n G=M at h2 hl ⊢
 rw [←hl] at h2
 have:=wrap_of (e:=F42.E) (p:=.tup [pR,pI]) (j:=1) (l2:=[.N M.length,.L M]) (c:=(true&&(true&&true))&&(true&&(true&&(decide (M.length=(List.take (M.length*1) (List.drop 0 M)).length)&&(true&&true))))) (ls':=[.L (List.take (M.length*1) (List.drop 0 M)),.I 0]) (by intro τ κ;kernel_rfl) (by simp) (k:=k) (fun κ=>h2 κ)
 rw [Nat.mul_one,List.drop_zero,List.take_length] at this
 exact this
theorem T64_spec {q n:Nat} {G:List (List Int)} (h:Cd q n G) {τ:Type} (k:Nat→LS_→Option τ):T64 [.I q,.I n,.LL G] k=k 0 [.LL (words q (fadd q) (fmul q) G (List.replicate n 0)),.I 0]:=by
 have h2:=fun {τ:Type} (κ:Nat→LS_→Option τ)=>F64_spec h κ
 generalize words q (fadd q) (fmul q) G (List.replicate n 0)=M at h2 ⊢
 have:=wrap_of (e:=F64.E) (p:=.tup [pM,pI]) (j:=1) (l2:=[.N M.length,.LL M]) (c:=(true&&(true&&true))&&(true&&(true&&(decide (M.length=(List.take (M.length*1) (List.drop 0 M)).length)&&(true&&true))))) (ls':=[.LL (List.take (M.length*1) (List.drop 0 M)),.I 0]) (by intro τ κ;kernel_rfl) (by simp) (k:=k) (fun κ=>h2 κ)
 rw [Nat.mul_one,List.drop_zero,List.take_length] at this
 exact this
end
end Go.Proofs.Yticbdgmcofjkeaa.Ai
namespace Go.Proofs.Yticbdgmcofjkeaa.Ai
open Go Go.RowKit
noncomputable section
variable {τ:Type} (t:Nat) (nx ex:Nat→LS_→Option τ) (l:LS_) (k κ:Nat→LS_→Option τ)
def rao0:List PO:=[(oG [pI,pI,qM]),(oG [pI,pI,nS]),(oG [pI,pI,(rr 4)]),oB,oI]
def rao1:List PO:=[(oG [pI,pI,qM]),(oG [pI,pI,nS]),(oG [pI,pI,(rr 5)]),oB,oI,oI]
def rao2:List PO:=[(oG [pI,pI,qM]),(oG [pI,pI,nS]),(oG [pI,pI,(rr 6)]),oB,(PO.cells true true (PC.r 7)),oI,oI,(PO.fam true .i64)]
def F112.ps:List PV2:=[pI]
def F112.sh:List PA:=[(PA.mk (PV3.v pB) [])]
def F112.O:Orc P:=⟨[],[],[],40⟩
def F112:Option τ :=
 k 0 [.B ((gI l 0) != 0)]
theorem F112.eq:FEq F112.O 101 F112.ps F112.sh F112:=by intro τ l κ;kernel_rfl
def F112.E:Ent P:=mkF F112.eq
def L100_2_3.H:LHead:=⟨false,false,0,409602,409602,403,16,0,[(PS.mk (qR::(PV2.fn 101 [])::us 2 (pI::us 2 (pI::pI::us 10 []))) [])],[(Out.ret,(PS.mk (us 4 (pI::us 14 [])) [])),((Out.exit 0),(PS.mk (us 4 (pI::us 14 [])) []))]⟩
def L100_2_3.O:Orc P:=⟨[F112.E],[],[],40⟩
def L100_2_3.s0:Option τ :=
 br (ltI (gI l 4) (gI l 3))
 (ck (((leI 0 (gI l 4))&&(ltI (gI l 4) (gN l 0)))&&true)
 (ck (ltN ((Int.toNat (gI l 4))*1) (List.length (gL l 1)))
 (F112 [.I (List.getD (gL l 1) ((Int.toNat (gI l 4))*1) 0)]
 (fun j A=>(sw (br (gB A 0)
 (ex 0 [.I (gI l 4)])
 (nx 0 [.N (gN l 0),.L (gL l 1),.I (gI l 2),.I (gI l 3),.I (wr .i64 ((gI l 4)+1))]))
 (fun _=>none)) j))))
 (ex 1 [.I (gI l 2)])
theorem L100_2_3.e0:LEq L100_2_3.O L100_2_3.H 0 L100_2_3.s0:=by intro τ next κ l;kernel_rfl
def L100_2_3:LStep P Cf:=LStep.mk1 (by decide) L100_2_3.e0
def L100_2_3.b:Option τ:=runE L100_2_3 fuel κ t l
def L100_2_3.E:LEnt P:=LStep.E L100_2_3
def S100_3.H:SHead:=⟨100,[qR,(PV2.fn 101 [])],[],[],[(pI,[])]⟩
def S100_3.O:Orc P:=⟨[],[L100_2_3.E],[],40⟩
def S100_3:Option τ :=
 L100_2_3.b 0 [.N (gN l 0),.L (gL l 1),.I 0,.I (gN l 0),.I 0]
 (fun j A=>(sw (k 0 [.I (gI A 0)])
 (sw (k 0 [.I (-1)])
 (fun _=>none))) j)
theorem S100_3.eq:SEq S100_3.O S100_3.H S100_3:=by intro τ l κ;kernel_rfl
def S100_3.next:SDyn P S100_3.H:=mkS S100_3.eq
def S100_3.E:SEnt P:=⟨S100_3.H,S100_3.next⟩
def F82.ps:List PV2:=[pR]
def F82.sh:List PA:=[(PA.mk (PV3.v pI) [])]
def F82.O:Orc P:=⟨[],[],[S100_3.E],40⟩
def F82:Option τ :=
 S100_3 [.N (List.length (gL l 0)),.L (gL l 0)]
 (fun j A=>(sw (k 0 [.I (gI A 0)])
 (fun _=>none)) j)
theorem F82.eq:FEq F82.O 68 F82.ps F82.sh F82:=by intro τ l κ;kernel_rfl
def F82.E:Ent P:=mkF F82.eq
def L36_6.H:LHead:=⟨true,true,0,102406,102406,805306414,46,0,[(PS.mk (us 1 ((pp 0)::(pp 1)::(pp 2)::us 1 ((rr 3)::us 22 (pI::pI::us 68 [])))) rao0)],[((Out.exit 0),(PS.mk (us 1 ((pp 0)::(pp 1)::(pp 2)::us 1 ((rr 3)::us 92 []))) rao0))]⟩
def L36_6.O:Orc P:=⟨[],[],[],40⟩
def L36_6.s0:Option τ :=
 br (ltI (gI l 2) (gI l 1))
 (ck (((leI 0 (gI l 2))&&(ltI (gI l 2) (gN l 0)))&&true)
 (ck ((leN ((0+((Int.toNat (gI l 2))*1))+1) (List.length (gLB l 12)))&&true)
 (nx 0 [.N (gN l 0),.I (gI l 1),.I (wr .i64 ((gI l 2)+1)),.I (gI l 3),.I (gI l 4),.N (gN l 5),.LL (gLL l 6),.I (gI l 7),.I (gI l 8),.I (gI l 9),.I (gI l 10),.N (gN l 11),.LB (List.set (gLB l 12) (0+((Int.toNat (gI l 2))*1)) true),.L (gL l 13)])))
 (ex 0 [.N (gN l 0),.I (gI l 3),.I (gI l 4),.N (gN l 5),.LL (gLL l 6),.I (gI l 7),.I (gI l 8),.I (gI l 9),.I (gI l 10),.N (gN l 11),.LB (gLB l 12),.L (gL l 13)])
theorem L36_6.e0:LEq L36_6.O L36_6.H 0 L36_6.s0:=by intro τ next κ l;kernel_rfl
def L36_6:LStep P Cf:=LStep.mk1 (by decide) L36_6.e0
def L36_6.b:Option τ:=runE L36_6 fuel κ t l
def L36_6.E:LEnt P:=LStep.E L36_6
def L36_11.H:LHead:=⟨true,true,0,102411,102411,962072674350,46,0,[(PS.mk (us 1 ((pp 0)::(pp 1)::(pp 2)::us 1 ((rr 3)::us 31 (qM::pI::pI::us 58 [])))) rao0)],[((Out.exit 2),(PS.mk (us 1 ((pp 0)::(pp 1)::(pp 2)::us 1 ((rr 3)::us 92 []))) rao0))]⟩
def L36_11.O:Orc P:=⟨[F82.E],[],[],40⟩
def L36_11.s0:Option τ :=
 br (ltI (gI l 4) (gI l 3))
 (ck (((leI 0 (gI l 4))&&(ltI (gI l 4) (gN l 1)))&&true)
 (ck (ltN ((Int.toNat (gI l 4))*1) (List.length (gLL l 2)))
 (ck ((eqM (List.length (List.getD (gLL l 2) ((Int.toNat (gI l 4))*1) [])) (List.length (List.getD (gLL l 2) ((Int.toNat (gI l 4))*1) [])))&&true)
 (F82 [.L (List.getD (gLL l 2) ((Int.toNat (gI l 4))*1) [])]
 (fun j A=>(sw (ck (((leI 0 (gI A 0))&&(ltI (gI A 0) (gN l 0)))&&true)
 (ck ((leN ((0+((Int.toNat (gI A 0))*1))+1) (List.length (gLB l 14)))&&true)
 (nx 0 [.N (gN l 0),.N (gN l 1),.LL (gLL l 2),.I (gI l 3),.I (wr .i64 ((gI l 4)+1)),.I (gI l 5),.I (gI l 6),.N (gN l 7),.LL (gLL l 8),.I (gI l 9),.I (gI l 10),.I (gI l 11),.I (gI l 12),.N (gN l 13),.LB (List.set (gLB l 14) (0+((Int.toNat (gI A 0))*1)) false),.L (gL l 15)])))
 (fun _=>none)) j)))))
 (ex 0 [.N (gN l 0),.I (gI l 5),.I (gI l 6),.N (gN l 7),.LL (gLL l 8),.I (gI l 9),.I (gI l 10),.I (gI l 11),.I (gI l 12),.N (gN l 13),.LB (gLB l 14),.L (gL l 15)])
theorem L36_11.e0:LEq L36_11.O L36_11.H 0 L36_11.s0:=by intro τ next κ l;kernel_rfl
def L36_11:LStep P Cf:=LStep.mk1 (by decide) L36_11.e0
def L36_11.b:Option τ:=runE L36_11 fuel κ t l
def L36_11.E:LEnt P:=LStep.E L36_11
def L36_23.H:LHead:=⟨true,true,0,102423,102423,258256105881793990190,1688849860266542,0,[(PS.mk (us 1 ((pp 0)::(pp 1)::(pp 2)::us 1 ((rr 3)::us 3 (nS::pI::(rr 4)::us 37 (pI::pI::us 14 (qM::pI::pI::us 30 [])))))) rao1)],[((Out.exit 6),(PS.mk (us 1 ((pp 0)::(pp 1)::(pp 2)::us 1 ((rr 3)::us 3 (nS::us 1 ((rr 4)::us 37 (pI::pI::us 47 [])))))) rao1))]⟩
def L36_23.O:Orc P:=⟨[F82.E,T83.E],[],[],40⟩
def L36_23.s0:Option τ :=
 br (ltI (gI l 8) (gI l 7))
 (ck (((leI 0 (gI l 8))&&(ltI (gI l 8) (gN l 5)))&&true)
 (ck (ltN ((Int.toNat (gI l 8))*1) (List.length (gLL l 6)))
 (ck ((eqM (List.length (List.getD (gLL l 6) ((Int.toNat (gI l 8))*1) [])) (List.length (List.getD (gLL l 6) ((Int.toNat (gI l 8))*1) [])))&&true)
 (F82 [.L (List.getD (gLL l 6) ((Int.toNat (gI l 8))*1) [])]
 (fun j A=>(sw (ck (((leI 0 (gI l 1))&&(ltI (gI l 1) (((List.length (List.getD (gLL l 6) ((Int.toNat (gI l 8))*1) [])):Nat):Int)))&&true)
 (ck (ltN ((Int.toNat (gI l 1))*1) (List.length (List.getD (gLL l 6) ((Int.toNat (gI l 8))*1) [])))
 (ck (((eqM (gN l 17) (List.length (List.take ((gN l 17)*1) (List.drop 0 (gL l 20)))))&&true)&&true)
 (T83 [.I (gI l 15),.I (gI l 16),.L (List.take ((gN l 17)*1) (List.drop 0 (gL l 20))),.I (List.getD (List.getD (gLL l 6) ((Int.toNat (gI l 8))*1) []) ((Int.toNat (gI l 1))*1) 0)]
 (fun j B=>(sw (ck (((leI 0 (gI A 0))&&(ltI (gI A 0) (gN l 2)))&&true)
 (ck ((leN ((0+((Int.toNat (gI A 0))*1))+1) (List.length (gL l 19)))&&true)
 (nx 0 [.N (gN l 0),.I (gI l 1),.N (gN l 2),.I (gI l 3),.I (gI l 4),.N (gN l 5),.LL (gLL l 6),.I (gI l 7),.I (wr .i64 ((gI l 8)+1)),.I (gI l 9),.I (gI l 10),.N (gN l 11),.LL (gLL l 12),.I (gI l 13),.I (gI l 14),.I (gI l 15),.I (gI l 16),.N (gN l 17),.LB (gLB l 18),.L (List.set (gL l 19) (0+((Int.toNat (gI A 0))*1)) (gI B 0)),.L (gL l 20)])))
 (fun _=>none)) j)))))
 (fun _=>none)) j)))))
 (ex 0 [.N (gN l 0),.N (gN l 2),.I (gI l 3),.I (gI l 4),.I (gI l 9),.I (gI l 10),.N (gN l 11),.LL (gLL l 12),.I (gI l 13),.I (gI l 14),.I (gI l 15),.I (gI l 16),.N (gN l 17),.LB (gLB l 18),.L (gL l 19),.L (gL l 20)])
theorem L36_23.e0:LEq L36_23.O L36_23.H 0 L36_23.s0:=by intro τ next κ l;kernel_rfl
def L36_23:LStep P Cf:=LStep.mk1 (by decide) L36_23.e0
def L36_23.b:Option τ:=runE L36_23 fuel κ t l
def L36_23.E:LEnt P:=LStep.E L36_23
def L36_23_1.H:LHead:=⟨true,true,0,102423,102423,258256105881793990190,1688849860266542,0,[(PS.mk (us 1 ((pp 0)::(pp 1)::(pp 2)::us 1 ((rr 3)::us 3 ((rr 4)::pI::(rr 5)::us 37 (pI::pI::us 14 (qM::pI::pI::us 30 [])))))) rao2)],[((Out.exit 6),(PS.mk (us 1 ((pp 0)::(pp 1)::(pp 2)::us 1 ((rr 3)::us 3 ((rr 4)::us 1 ((rr 5)::us 37 (pI::pI::us 47 [])))))) rao2))]⟩
def L36_23_1.O:Orc P:=⟨[F82.E,T83.E],[],[],40⟩
def L36_23_1.s0:Option τ :=
 br (ltI (gI l 9) (gI l 8))
 (ck (((leI 0 (gI l 9))&&(ltI (gI l 9) (gN l 6)))&&true)
 (ck (ltN ((Int.toNat (gI l 9))*1) (List.length (gLL l 7)))
 (ck ((eqM (List.length (List.getD (gLL l 7) ((Int.toNat (gI l 9))*1) [])) (List.length (List.getD (gLL l 7) ((Int.toNat (gI l 9))*1) [])))&&true)
 (F82 [.L (List.getD (gLL l 7) ((Int.toNat (gI l 9))*1) [])]
 (fun j A=>(sw (ck (((leI 0 (gI l 2))&&(ltI (gI l 2) (((List.length (List.getD (gLL l 7) ((Int.toNat (gI l 9))*1) [])):Nat):Int)))&&true)
 (ck (ltN ((Int.toNat (gI l 2))*1) (List.length (List.getD (gLL l 7) ((Int.toNat (gI l 9))*1) [])))
 (ck (((eqM (gN l 18) (List.length (List.take ((gN l 18)*1) (List.drop 0 (gL l 22)))))&&true)&&true)
 (T83 [.I (gI l 16),.I (gI l 17),.L (List.take ((gN l 18)*1) (List.drop 0 (gL l 22))),.I (List.getD (List.getD (gLL l 7) ((Int.toNat (gI l 9))*1) []) ((Int.toNat (gI l 2))*1) 0)]
 (fun j B=>(sw (ck (((leI 0 (gI A 0))&&(ltI (gI A 0) (gN l 3)))&&true)
 (ck ((leN ((0+((Int.toNat (gI A 0))*1))+1) (List.length (gL l 21)))&&true)
 (nx 0 [.N (gN l 0),.N (gN l 1),.I (gI l 2),.N (gN l 3),.I (gI l 4),.I (gI l 5),.N (gN l 6),.LL (gLL l 7),.I (gI l 8),.I (wr .i64 ((gI l 9)+1)),.I (gI l 10),.I (gI l 11),.N (gN l 12),.LL (gLL l 13),.I (gI l 14),.I (gI l 15),.I (gI l 16),.I (gI l 17),.N (gN l 18),.LB (gLB l 19),.LN (gLN l 20),.L (List.set (gL l 21) (0+((Int.toNat (gI A 0))*1)) (gI B 0)),.L (gL l 22),.LL (gLL l 23)])))
 (fun _=>none)) j)))))
 (fun _=>none)) j)))))
 (ex 0 [.N (gN l 0),.N (gN l 1),.N (gN l 3),.I (gI l 4),.I (gI l 5),.I (gI l 10),.I (gI l 11),.N (gN l 12),.LL (gLL l 13),.I (gI l 14),.I (gI l 15),.I (gI l 16),.I (gI l 17),.N (gN l 18),.LB (gLB l 19),.LN (gLN l 20),.L (gL l 21),.L (gL l 22),.LL (gLL l 23)])
theorem L36_23_1.e0:LEq L36_23_1.O L36_23_1.H 0 L36_23_1.s0:=by intro τ next κ l;kernel_rfl
def L36_23_1:LStep P Cf:=LStep.mk1 (by decide) L36_23_1.e0
def L36_23_1.b:Option τ:=runE L36_23_1 fuel κ t l
def L36_23_1.E:LEnt P:=LStep.E L36_23_1
def L36_17.H:LHead:=⟨true,true,0,102417,102417,1688849860264494,526,0,[(PS.mk (us 1 ((pp 0)::(pp 1)::(pp 2)::us 1 ((rr 3)::us 3 (nS::us 39 (pI::pI::us 47 []))))) rao0),(PS.mk (us 1 ((pp 0)::(pp 1)::(pp 2)::us 1 ((rr 3)::us 3 ((rr 4)::us 39 (pI::pI::us 47 []))))) [(oG [pI,pI,qM]),(oG [pI,pI,nS]),(oG [pI,pI,(rr 5)]),oB,(PO.cells true true (PC.r 6)),oI,(PO.fam true .i64)])],[((Out.exit 4),(PS.mk (us 1 ((pp 0)::(pp 1)::(pp 2)::us 5 (nS::us 88 []))) [(oG [pI,pI,qM]),(oG [pI,pI,nS]),(oG [pI,pI,(rr 3)]),oI])),((Out.exit 4),(PS.mk (us 1 ((pp 0)::(pp 1)::(pp 2)::us 5 ((rr 3)::us 88 []))) [(oG [pI,pI,qM]),(oG [pI,pI,nS]),(oG [pI,pI,(rr 4)]),(PO.cells true true (PC.r 5)),oI,(PO.fam true .i64)]))]⟩
def L36_17.O:Orc P:=⟨[],[L36_23.E,L36_23_1.E],[],40⟩
def L36_17.s0:Option τ :=
 br (ltI (gI l 2) (gI l 1))
 (ck (((leI 0 (gI l 2))&&(ltI (gI l 2) (gN l 0)))&&true)
 (ck (ltN (0+((Int.toNat (gI l 2))*1)) (List.length (gLB l 12)))
 (br (!(List.getD (gLB l 12) (0+((Int.toNat (gI l 2))*1)) false))
 (nx 0 [.N (gN l 0),.I (gI l 1),.I (wr .i64 ((gI l 2)+1)),.I (gI l 3),.I (gI l 4),.N (gN l 5),.LL (gLL l 6),.I (gI l 7),.I (gI l 8),.I (gI l 9),.I (gI l 10),.N (gN l 11),.LB (gLB l 12),.L (gL l 13)])
 (ck (((leI 0 (gI l 4))&&(leI (gI l 4) (gI l 4)))&&(leI ((gI l 4)*9) 1099511627776))
 (ck (((leI 0 (gI l 2))&&(ltI (gI l 2) (((Int.toNat (gI l 4)):Nat):Int)))&&true)
 (ck ((leN ((0+((Int.toNat (gI l 2))*1))+1) (List.length (List.replicate (Int.toNat (gI l 4)) (0:Int))))&&true)
 (L36_23.b 0 [.N (gN l 0),.I (gI l 2),.N (Int.toNat (gI l 4)),.I (gI l 1),.I (gI l 2),.N (gN l 5),.LL (gLL l 6),.I (gN l 5),.I 0,.I (gI l 3),.I (gI l 4),.N (gN l 5),.LL (gLL l 6),.I (gI l 7),.I (gI l 8),.I (gI l 9),.I (gI l 10),.N (gN l 11),.LB (gLB l 12),.L (List.set (List.replicate (Int.toNat (gI l 4)) (0:Int)) (0+((Int.toNat (gI l 2))*1)) 1),.L (gL l 13)]
 (fun j A=>(sw (ck ((((eqM (gN A 1) (List.length (gL A 14)))&&true)&&true)&&true)
 (nx 1 [.N (gN A 0),.N 1,.I (gI A 2),.I (wr .i64 ((gI A 3)+1)),.I (gI A 4),.I (gI A 5),.N (gN A 6),.LL (gLL A 7),.I (gI A 8),.I (gI A 9),.I (gI A 10),.I (gI A 11),.N (gN A 12),.LB (gLB A 13),.LN [0],.L (gL A 15),.LL [(gL A 14)]]))
 (fun _=>none)) j))))))))
 (ex 0 [.I (gI l 3),.I (gI l 4),.N (gN l 5),.LL (gLL l 6),.I (gI l 7),.I (gI l 8),.I (gI l 9),.I (gI l 10),.N (gN l 11),.L (gL l 13)])
theorem L36_17.e0:LEq L36_17.O L36_17.H 0 L36_17.s0:=by intro τ next κ l;kernel_rfl
def L36_17.s1:Option τ :=
 br (ltI (gI l 3) (gI l 2))
 (ck (((leI 0 (gI l 3))&&(ltI (gI l 3) (gN l 0)))&&true)
 (ck (ltN (0+((Int.toNat (gI l 3))*1)) (List.length (gLB l 13)))
 (br (!(List.getD (gLB l 13) (0+((Int.toNat (gI l 3))*1)) false))
 (nx 1 [.N (gN l 0),.N (gN l 1),.I (gI l 2),.I (wr .i64 ((gI l 3)+1)),.I (gI l 4),.I (gI l 5),.N (gN l 6),.LL (gLL l 7),.I (gI l 8),.I (gI l 9),.I (gI l 10),.I (gI l 11),.N (gN l 12),.LB (gLB l 13),.LN (gLN l 14),.L (gL l 15),.LL (gLL l 16)])
 (ck (((leI 0 (gI l 5))&&(leI (gI l 5) (gI l 5)))&&(leI ((gI l 5)*9) 1099511627776))
 (ck (((leI 0 (gI l 3))&&(ltI (gI l 3) (((Int.toNat (gI l 5)):Nat):Int)))&&true)
 (ck ((leN ((0+((Int.toNat (gI l 3))*1))+1) (List.length (List.replicate (Int.toNat (gI l 5)) (0:Int))))&&true)
 (L36_23_1.b 0 [.N (gN l 0),.N (gN l 1),.I (gI l 3),.N (Int.toNat (gI l 5)),.I (gI l 2),.I (gI l 3),.N (gN l 6),.LL (gLL l 7),.I (gN l 6),.I 0,.I (gI l 4),.I (gI l 5),.N (gN l 6),.LL (gLL l 7),.I (gI l 8),.I (gI l 9),.I (gI l 10),.I (gI l 11),.N (gN l 12),.LB (gLB l 13),.LN (gLN l 14),.L (List.set (List.replicate (Int.toNat (gI l 5)) (0:Int)) (0+((Int.toNat (gI l 3))*1)) 1),.L (gL l 15),.LL (gLL l 16)]
 (fun j A=>(sw (ck (((((((eqM (gN A 2) (List.length (gL A 16)))&&true)&&(eqM (gN A 1) (List.length (gLN A 15))))&&true)&&true)&&(ltN (List.length (gLL A 18)) 1048576))&&(leN (((gN A 1)+1)*25) 1099511627776))
 (nx 1 [.N (gN A 0),.N ((gN A 1)+1),.I (gI A 3),.I (wr .i64 ((gI A 4)+1)),.I (gI A 5),.I (gI A 6),.N (gN A 7),.LL (gLL A 8),.I (gI A 9),.I (gI A 10),.I (gI A 11),.I (gI A 12),.N (gN A 13),.LB (gLB A 14),.LN ((gLN A 15)++[(List.length (gLL A 18))]),.L (gL A 17),.LL ((gLL A 18)++[(gL A 16)])]))
 (fun _=>none)) j))))))))
 (ex 1 [.N (gN l 1),.I (gI l 4),.I (gI l 5),.N (gN l 6),.LL (gLL l 7),.I (gI l 8),.I (gI l 9),.I (gI l 10),.I (gI l 11),.N (gN l 12),.LN (gLN l 14),.L (gL l 15),.LL (gLL l 16)])
theorem L36_17.e1:LEq L36_17.O L36_17.H 1 L36_17.s1:=by intro τ next κ l;kernel_rfl
def L36_17:LStep P Cf:=LStep.mk2 (by decide) L36_17.e0 L36_17.e1
def L36_17.b:Option τ:=runE L36_17 fuel κ t l
def L36_17.E:LEnt P:=LStep.E L36_17
def L114_2_3.H:LHead:=⟨false,false,1,368642,368642,403,16,0,[(PS.mk (nS::(PV2.fn 91 [(p1 0)])::us 2 (pI::us 2 (pI::pI::us 10 []))) [(oG [pI])])],[((Out.exit 0),(PS.mk (us 4 (pI::us 14 [])) [(oG [pI])]))]⟩
def L114_2_3.O:Orc P:=⟨[],[],[],40⟩
def L114_2_3.s0 {τ:Type} (next ex:Nat→LS_→Option τ) (l:LS_):Option τ :=
 br (ltI (gI l 2) (gI l 1))
 (none)
 (ex 0 [.I (gI l 0),.I (gI l 3)])
theorem L114_2_3.e0:LEq L114_2_3.O L114_2_3.H 0 L114_2_3.s0:=by intro τ next κ l;kernel_rfl
def L114_2_3:LStep P Cf:=LStep.mk1 (by decide) L114_2_3.e0
def L114_2_3.b:Option τ:=runE L114_2_3 fuel κ t l
def L114_2_3.E:LEnt P:=LStep.E L114_2_3
def S114_3.H:SHead:=⟨90,[nS,(PV2.fn 91 [(p1 0)])],[],[(oG [pI])],[(pI,[(oG [pI])])]⟩
def S114_3.O:Orc P:=⟨[],[L114_2_3.E],[],40⟩
def S114_3:Option τ :=
 L114_2_3.b 0 [.I 0,.I 0,.I 0,.I (gI l 0)]
 (fun j A=>(sw (k 0 [.I (-1),.I (gI A 1)])
 (fun _=>none)) j)
theorem S114_3.eq:SEq S114_3.O S114_3.H S114_3:=by intro τ l κ;kernel_rfl
def S114_3.next:SDyn P S114_3.H:=mkS S114_3.eq
def S114_3.E:SEnt P:=⟨S114_3.H,S114_3.next⟩
def L84_3_2.H:LHead:=⟨true,false,3,225283,225283,398,132,0,[(PS.mk (us 1 (pI::nS::(pp 1)::us 3 (pI::(pp 2)::us 112 []))) [oI,(oG [pI,pI,(rr 0)]),(oG [pI])]),(PS.mk (us 1 (pI::nS::(pp 1)::us 3 (pI::(pp 3)::us 112 []))) [oI,(oG [pI,pI,(rr 0)]),(oG [pI]),(oG [pI])])],[((Out.exit 0),(PS.mk (us 2 (nS::us 4 (pI::us 113 []))) [oI,(oG [pI,pI,(rr 0)]),(oG [pI])]))]⟩
def L84_3_2.O:Orc P:=⟨[],[],[S114_3.E],40⟩
def L84_3_2.s0:Option τ :=
 br (ltI (gI l 6) (gI l 0))
 (br (ltI (gI l 1) 0)
 (ck ((((eqI (gI l 1) 0)&&true)&&true)&&true)
 (S114_3 [.I (gI l 6)]
 (fun j A=>(sw (br (ltI (gI A 0) 0)
 (nx 1 [.I (gI l 0),.I (gI l 1),.L (gL l 2),.I (gI l 3),.I (gI l 4),.N (gN l 5),.I (gI A 1),.I (wr .i64 ((gI A 1)+1))])
 (none))
 (fun _=>none)) j)))
 (ex 0 [.I (gI l 1),.L (gL l 2),.I (gI l 3),.I (gI l 4),.N (gN l 5),.I (gI l 6)]))
 (ex 0 [.I (gI l 1),.L (gL l 2),.I (gI l 3),.I (gI l 4),.N (gN l 5),.I (gI l 6)])
theorem L84_3_2.e0:LEq L84_3_2.O L84_3_2.H 0 L84_3_2.s0:=by intro τ next κ l;kernel_rfl
def L84_3_2.s1:Option τ :=
 br (ltI (gI l 7) (gI l 0))
 (br (ltI (gI l 1) 0)
 (ck ((((eqI (gI l 1) 0)&&true)&&true)&&true)
 (S114_3 [.I (gI l 7)]
 (fun j A=>(sw (br (ltI (gI A 0) 0)
 (nx 1 [.I (gI l 0),.I (gI l 1),.L (gL l 2),.I (gI l 3),.I (gI l 4),.N (gN l 5),.I (gI l 6),.I (wr .i64 ((gI A 1)+1))])
 (none))
 (fun _=>none)) j)))
 (ex 0 [.I (gI l 1),.L (gL l 2),.I (gI l 3),.I (gI l 4),.N (gN l 5),.I (gI l 6)]))
 (ex 0 [.I (gI l 1),.L (gL l 2),.I (gI l 3),.I (gI l 4),.N (gN l 5),.I (gI l 6)])
theorem L84_3_2.e1:LEq L84_3_2.O L84_3_2.H 1 L84_3_2.s1:=by intro τ next κ l;kernel_rfl
def L84_3_2:LStep P Cf:=LStep.mk2 (by decide) L84_3_2.e0 L84_3_2.e1
def L84_3_2.b:Option τ:=runE L84_3_2 fuel κ t l
def L84_3_2.E:LEnt P:=LStep.E L84_3_2
def S84_2.H:SHead:=⟨55,[(PV2.agg [iI,iI,(r1 0)]),pI,nS],[],[oI],[(nS,[oI])]⟩
def S84_2.O:Orc P:=⟨[],[L84_3_2.E],[],40⟩
def S84_2:Option τ :=
 L84_3_2.b 0 [.I (gI l 3),.I 0,.L (gL l 4),.I (gI l 0),.I (gI l 1),.N (gN l 2),.I 0]
 (fun j A=>(sw (ck (((eqI (gI A 0) 0)&&(eqI (gI A 0) 0))&&true)
 (k 0 [.L (gL A 1)]))
 (fun _=>none)) j)
theorem S84_2.eq:SEq S84_2.O S84_2.H S84_2:=by intro τ l κ;kernel_rfl
def S84_2.next:SDyn P S84_2.H:=mkS S84_2.eq
def S84_2.E:SEnt P:=⟨S84_2.H,S84_2.next⟩
def F36.ps:List PV2:=[pCode]
def F36.sh:List PA:=[(PA.mk (PV3.v (PV2.agg [iI,iI,PV1.nilS])) []),(PA.mk (PV3.v (PV2.agg [iI,iI,(PV1.sl (PC0.m .i64))])) []),(PA.mk (PV3.v (PV2.agg [iI,iI,(PV1.sl PC0.e)])) [])]
def F36.O:Orc P:=⟨[T37.E,V81.E],[L36_6.E,L36_11.E,L36_17.E],[S84_2.E,S84_0.E],40⟩
def F36:Option τ :=
 ck (((eqM (List.length (gLL l 2)) (List.length (gLL l 2)))&&true)&&true)
 (T37 [.I (gI l 0),.I (gI l 1),.LL (gLL l 2)]
 (fun j A=>(sw (br (!(gB A 0))
 (k 0 [.I 0,.I 0])
 (V81 [.I (gI l 0)]
 (fun j B=>(sw (ck (((leI 0 (gI l 1))&&(leI (gI l 1) (gI l 1)))&&(leI ((gI l 1)*2) 1099511627776))
 (L36_6.b 0 [.N (Int.toNat (gI l 1)),.I (((Int.toNat (gI l 1)):Nat):Int),.I 0,.I (gI l 0),.I (gI l 1),.N (List.length (gLL l 2)),.LL (gLL l 2),.I 0,.I 0,.I (gI B 0),.I (gI B 1),.N (gN B 2),.LB (List.replicate (Int.toNat (gI l 1)) false),.L (gL B 4)]
 (fun j C=>(sw (L36_11.b 0 [.N (gN C 0),.N (gN C 3),.LL (gLL C 4),.I (gN C 3),.I 0,.I (gI C 1),.I (gI C 2),.N (gN C 3),.LL (gLL C 4),.I (gI C 5),.I (gI C 6),.I (gI C 7),.I (gI C 8),.N (gN C 9),.LB (gLB C 10),.L (gL C 11)]
 (fun j D=>(sw (L36_17.b 0 [.N (gN D 0),.I (gI D 2),.I 0,.I (gI D 1),.I (gI D 2),.N (gN D 3),.LL (gLL D 4),.I (gI D 5),.I (gI D 6),.I (gI D 7),.I (gI D 8),.N (gN D 9),.LB (gLB D 10),.L (gL D 11)]
 (fun j E=>(sw (S84_2 [.I (gI E 6),.I (gI E 7),.N (gN E 8),.I (gI E 1),.L (gL E 9)]
 (fun j F=>(sw (k 0 [.I (gI E 0),.I (gI E 1)])
 (fun _=>none)) j))
 (sw (S84_0 [.I (gI E 7),.I (gI E 8),.N (gN E 9),.I (gI E 2),.N (gN E 0),.L (gL E 11),.LN (gLN E 10),.LL (gLL E 12)]
 (fun j F=>(sw (ck ((@List.all Nat (List.take ((gN F 0)*1) (List.drop 0 (gLN F 2))) (fun y50=>(ltN y50 (List.length (gLL F 3)))))&&true)
 (k 1 [.I (gI E 1),.I (gI E 2),.N (gN F 0),.LL (List.map (fun y49=>(List.getD (gLL F 3) y49 [])) (List.take ((gN F 0)*1) (List.drop 0 (gLN F 2))))]))
 (sw (k 2 [.I (gI E 1),.I (gI E 2),.N (gN F 0)])
 (fun _=>none))) j))
 (fun _=>none))) j))
 (fun _=>none)) j))
 (fun _=>none)) j)))
 (fun _=>none)) j)))
 (fun _=>none)) j))
theorem F36.eq:FEq F36.O 25 F36.ps F36.sh F36:=by intro τ l κ;kernel_rfl
def F36.E:Ent P:=mkF F36.eq
end
end Go.Proofs.Yticbdgmcofjkeaa.Ai
namespace Go.Proofs.Yticbdgmcofjkeaa.Ma
abbrev Trn (q:Nat) (add:Int→Int→Int):Prop:=∀ c:Nat,c<q→((List.range q).map fun (a:Nat)=>add (a:Int) (c:Int)).Perm ((List.range q).map fun (a:Nat)=>(a:Int))
abbrev Rw (q n:Nat) (m:List (List Int)):Prop:=∀ i,i<m.length→Wd q n (m.getD i [])
def Sp (q n:Nat) (add mul:Int→Int→Int) (m:List (List Int)) (x:List Int):Prop:=x∈words q add mul m (List.replicate n 0)
section
variable {q:Nat} {add mul:Int→Int→Int} {neg inv:Int→Int} {n:Nat}
theorem Rw.head {g:List Int} {gs:List (List Int)} (h:Rw q n (g::gs)):Wd q n g:=by simpa using h 0 (by simp)
theorem Rw.tail {g:List Int} {gs:List (List Int)} (h:Rw q n (g::gs)):Rw q n gs:=fun i hi=>by simpa using h (i+1) (by simpa using hi)
theorem in_ {a:Nat} (h:a<q):0≤((a:Nat):Int)∧((a:Nat):Int)<q:=⟨by omega,by omega⟩
theorem vmul_zero (F:Fld q add mul neg inv) {x:List Int} (hx:Wd q n x):vmul mul 0 x=List.replicate n 0 :=
 ext_getD (by rw [vmul_len,hx.1];simp) fun j hj=>by
  rw [vmul_len,hx.1] at hj
  have a:=hx.2 j hj
  rw [vmul_get (by rw [hx.1];exact hj),F.zero_mul _ a.1 a.2]
  simp [List.getD_eq_getElem?_getD,hj]
theorem vadd_zeros (F:Fld q add mul neg inv) {x:List Int} (hx:Wd q n x):vadd add x (List.replicate n 0)=x:=by
 rw [vadd_comm F hx (zeros_wd F),zero_vadd F hx]
theorem vmul_zeros (F:Fld q add mul neg inv) {c:Int} (h0:0≤c) (h1:c<q):vmul mul c (List.replicate n 0)=List.replicate n 0:=by
 unfold vmul
 rw [List.map_replicate,mul_zero F h0 h1]
theorem vmul_one (F:Fld q add mul neg inv) {x:List Int} (hx:Wd q n x):vmul mul 1 x=x :=
 ext_getD vmul_len fun j hj=>by
  rw [vmul_len] at hj
  have a:=hx.2 j (by rw [←hx.1];exact hj)
  rw [vmul_get hj,F.one_mul _ a.1 a.2]
theorem vmul_vmul (F:Fld q add mul neg inv) {a b:Int} (a0:0≤a) (a1:a<q) (b0:0≤b) (b1:b<q) {x:List Int} (hx:Wd q n x):vmul mul a (vmul mul b x)=vmul mul (mul a b) x :=
 ext_getD (by rw [vmul_len,vmul_len,vmul_len]) fun j hj=>by
  rw [vmul_len,vmul_len] at hj
  have c:=hx.2 j (by rw [←hx.1];exact hj)
  rw [vmul_get (by rw [vmul_len];exact hj),vmul_get hj,vmul_get hj,F.mul_assoc _ _ _ a0 a1 b0 b1 c.1 c.2]
theorem vmul_vadd (F:Fld q add mul neg inv) {c:Int} (h0:0≤c) (h1:c<q) {x y:List Int} (hx:Wd q n x) (hy:Wd q n y):vmul mul c (vadd add x y)=vadd add (vmul mul c x) (vmul mul c y):=by
 have lx:=hx.1
 have ly:=hy.1
 have l1:(vadd add x y).length=n:=by rw [vadd_len (by omega)];exact lx
 refine ext_getD (by rw [vmul_len,l1,vadd_len (by rw [vmul_len,vmul_len];omega),vmul_len,lx]) fun j hj=>?_
 rw [vmul_len,l1] at hj
 have a:=hx.2 j hj
 have b:=hy.2 j hj
 rw [vmul_get (by omega),vadd_get (by omega) (by omega),vadd_get (by rw [vmul_len,vmul_len];omega) (by rw [vmul_len];omega),vmul_get (by omega),vmul_get (by omega),F.distrib _ _ _ h0 h1 a.1 a.2 b.1 b.2]
theorem words_base (F:Fld q add mul neg inv):∀ (m:List (List Int)) (z:List Int),Rw q n m→Wd q n z→z∈words q add mul m z
 | [],z,_,_=>by unfold words;simp
 | g::gs,z,hm,hz=>by
  have q1:=F.one_lt
  unfold words
  refine List.mem_flatMap.2 ⟨0,by simp;omega,?_⟩
  rw [show (((0:Nat):Int))=(0:Int) from rfl,vmul_zero F hm.head,vadd_zeros F hz]
  exact words_base F gs z hm.tail hz
theorem Sp.wd (F:Fld q add mul neg inv) {m:List (List Int)} (hm:Rw q n m) {x:List Int} (h:Sp q n add mul m x):Wd q n x:=words_wd F m _ hm (zeros_wd F) x h
theorem Sp.zero (F:Fld q add mul neg inv) {m:List (List Int)} (hm:Rw q n m):Sp q n add mul m (List.replicate n 0):=words_base F m _ hm (zeros_wd F)
theorem Sp.plus (F:Fld q add mul neg inv) (P:Trn q add) {m:List (List Int)} (hm:Rw q n m) {x y:List Int} (hx:Sp q n add mul m x) (hy:Sp q n add mul m y):Sp q n add mul m (vadd add x y):=words_closed F P hm hx hy
theorem smul_words (F:Fld q add mul neg inv) {c:Int} (h0:0≤c) (h1:c<q):∀ (m:List (List Int)) (z:List Int),Rw q n m→Wd q n z→∀ x∈words q add mul m z,vmul mul c x∈words q add mul m (vmul mul c z)
 | [],z,_,_,x,hx=>by
  unfold words at hx ⊢
  rw [List.mem_singleton.1 hx]
  simp
 | g::gs,z,hm,hz,x,hx=>by
  unfold words at hx ⊢
  obtain ⟨a,ha,hx⟩:=List.mem_flatMap.1 hx
  have a1:a<q:=by simpa using ha
  have hv:=Wd.vmul F (in_ a1).1 (in_ a1).2 hm.head
  have ih:=smul_words F h0 h1 gs _ hm.tail (hz.vadd F hv) x hx
  have hc:=F.mul_in c a h0 h1 (in_ a1).1 (in_ a1).2
  obtain ⟨b,hb⟩:∃ b:Nat,mul c (a:Int)=b:=⟨(mul c (a:Int)).toNat,by omega⟩
  refine List.mem_flatMap.2 ⟨b,by simp;omega,?_⟩
  rw [vmul_vadd F h0 h1 hz hv,vmul_vmul F h0 h1 (in_ a1).1 (in_ a1).2 hm.head,hb] at ih
  exact ih
theorem Sp.smul (F:Fld q add mul neg inv) {m:List (List Int)} (hm:Rw q n m) {c:Int} (h0:0≤c) (h1:c<q) {x:List Int} (hx:Sp q n add mul m x):Sp q n add mul m (vmul mul c x):=by
 have:=smul_words F h0 h1 m _ hm (zeros_wd F) x hx
 rw [vmul_zeros F h0 h1] at this
 exact this
theorem Sp.row (F:Fld q add mul neg inv):∀ {m:List (List Int)},Rw q n m→∀ {i:Nat},i<m.length→Sp q n add mul m (m.getD i [])
 | g::gs,hm,0,_=>by
  have q1:=F.one_lt
  unfold Sp words
  refine List.mem_flatMap.2 ⟨1,by simp;omega,?_⟩
  rw [show (((1:Nat):Int))=(1:Int) from rfl,vmul_one F hm.head,zero_vadd F hm.head,List.getD_cons_zero]
  exact words_base F gs g hm.tail hm.head
 | g::gs,hm,i+1,hi=>by
  have q1:=F.one_lt
  unfold Sp words
  refine List.mem_flatMap.2 ⟨0,by simp;omega,?_⟩
  rw [show (((0:Nat):Int))=(0:Int) from rfl,vmul_zero F hm.head,vadd_zeros F (zeros_wd F),List.getD_cons_succ]
  exact Sp.row F hm.tail (by simpa using hi)
theorem sp_words (F:Fld q add mul neg inv) (P:Trn q add) {m':List (List Int)} (hm':Rw q n m'):∀ (m:List (List Int)) (z:List Int),Rw q n m→(∀ i,i<m.length→Sp q n add mul m' (m.getD i []))→Sp q n add mul m' z→∀ x∈words q add mul m z,Sp q n add mul m' x
 | [],z,_,_,hz,x,hx=>by
  unfold words at hx
  rw [List.mem_singleton.1 hx]
  exact hz
 | g::gs,z,hm,hs,hz,x,hx=>by
  unfold words at hx
  obtain ⟨a,ha,hx⟩:=List.mem_flatMap.1 hx
  have a1:a<q:=by simpa using ha
  have hg:Sp q n add mul m' g:=by simpa using hs 0 (by simp)
  exact sp_words F P hm' gs _ hm.tail (fun i hi=>by simpa using hs (i+1) (by simpa using hi)) (hz.plus F P hm' (hg.smul F hm' (in_ a1).1 (in_ a1).2)) x hx
theorem Sp.sub (F:Fld q add mul neg inv) (P:Trn q add) {m m':List (List Int)} (hm:Rw q n m) (hm':Rw q n m') (hs:∀ i,i<m.length→Sp q n add mul m' (m.getD i [])) {x:List Int} (hx:Sp q n add mul m x):Sp q n add mul m' x :=
 sp_words F P hm' m _ hm hs (Sp.zero F hm') x hx
theorem neg_neg_row (F:Fld q add mul neg inv) {a r:List Int} (ha:Wd q n a) (hr:Wd q n r) {e:Int} (e0:0≤e) (e1:e<q):vadd add (vadd add a (vmul mul (neg e) r)) (vmul mul (neg (neg e)) r)=a:=by
 have n1:=F.neg_in e e0 e1
 have n2:=F.neg_in _ n1.1 n1.2
 rw [vadd_assoc F ha (Wd.vmul F n1.1 n1.2 hr) (Wd.vmul F n2.1 n2.2 hr),vmul_add F hr n1.1 n1.2 n2.1 n2.2,F.add_neg _ n1.1 n1.2,vmul_zero F hr,vadd_zeros F ha]
theorem elim_rw (F:Fld q add mul neg inv) {m:List (List Int)} (hm:Rw q n m) {r c:Nat} (hr:r<m.length) (hc:c<n):Rw q n (elim add mul neg m r c):=fun i hi=>by
 rw [elim_len] at hi
 rw [elim_get hi]
 have e:=(hm i hi).2 c hc
 have ni:=F.neg_in (ent m i c) e.1 e.2
 split
 ·exact hm i hi
 ·exact (hm i hi).vadd F (Wd.vmul F ni.1 ni.2 (hm r hr))
theorem elim_span (F:Fld q add mul neg inv) (P:Trn q add) {m:List (List Int)} (hm:Rw q n m) {r c:Nat} (hr:r<m.length) (hc:c<n) (x:List Int):Sp q n add mul (elim add mul neg m r c) x↔Sp q n add mul m x:=by
 have h2:=elim_rw F hm hr hc
 constructor
 ·refine Sp.sub F P h2 hm fun i hi=>?_
  rw [elim_len] at hi
  rw [elim_get hi]
  have e:=(hm i hi).2 c hc
  have ni:=F.neg_in (ent m i c) e.1 e.2
  split
  ·exact Sp.row F hm hi
  ·exact (Sp.row F hm hi).plus F P hm ((Sp.row F hm hr).smul F hm ni.1 ni.2)
 ·refine Sp.sub F P hm h2 fun i hi=>?_
  have e:=(hm i hi).2 c hc
  have ni:=F.neg_in (ent m i c) e.1 e.2
  have n2:=F.neg_in _ ni.1 ni.2
  have hi':i<(elim add mul neg m r c).length:=by rw [elim_len];exact hi
  have hr':r<(elim add mul neg m r c).length:=by rw [elim_len];exact hr
  have g1:=Sp.row F h2 hi'
  have g2:=Sp.row F h2 hr'
  rw [elim_get hi] at g1
  rw [elim_get hr,if_pos rfl] at g2
  by_cases h:i=r
  ·rw [if_pos h] at g1;exact g1
  ·rw [if_neg h] at g1
   have:=g1.plus F P h2 (g2.smul F h2 n2.1 n2.2)
   rw [neg_neg_row F (hm i hi) (hm r hr) (e:=ent m i c) e.1 e.2] at this
   exact this
theorem lift_rw (F:Fld q add mul neg inv) {m:List (List Int)} (hm:Rw q n m) {r p c:Nat} (hr:r<m.length) (hp:p<m.length) (hc:c<n):Rw q n (lift mul inv m r p c):=fun i hi=>by
 rw [lift_len] at hi
 rw [lift_get hr hp]
 have e:=(hm p hp).2 c hc
 have ni:=F.inv_in (ent m p c) e.1 e.2
 split
 ·exact Wd.vmul F ni.1 ni.2 (hm p hp)
 ·split
  ·exact hm r hr
  ·exact hm i hi
theorem lift_span (F:Fld q add mul neg inv) (P:Trn q add) {m:List (List Int)} (hm:Rw q n m) {r p c:Nat} (hr:r<m.length) (hp:p<m.length) (hc:c<n) (he:ent m p c≠0) (x:List Int):Sp q n add mul (lift mul inv m r p c) x↔Sp q n add mul m x:=by
 have h2:=lift_rw F hm hr hp hc
 have e:=(hm p hp).2 c hc
 have ni:=F.inv_in (ent m p c) e.1 e.2
 constructor
 ·refine Sp.sub F P h2 hm fun i hi=>?_
  rw [lift_len] at hi
  rw [lift_get hr hp]
  split
  ·exact (Sp.row F hm hp).smul F hm ni.1 ni.2
  ·split
   ·exact Sp.row F hm hr
   ·exact Sp.row F hm hi
 ·refine Sp.sub F P hm h2 fun i hi=>?_
  have row:∀ k,k<m.length→Sp q n add mul (lift mul inv m r p c) (if k=r then vmul mul (inv (ent m p c)) (m.getD p []) else if k=p then m.getD r [] else m.getD k []):=fun k hk=>by
   have:=Sp.row F h2 (i:=k) (by rw [lift_len];exact hk)
   rw [lift_get hr hp] at this
   exact this
  have hpp:Sp q n add mul (lift mul inv m r p c) (m.getD p []):=by
   have h3:=row r hr
   rw [if_pos rfl] at h3
   have:=h3.smul F h2 e.1 e.2
   rw [vmul_vmul F e.1 e.2 ni.1 ni.2 (hm p hp),F.mul_comm _ _ e.1 e.2 ni.1 ni.2] at this
   have e2:mul (inv (ent m p c)) ((m.getD p []).getD c 0)=1:=F.mul_inv _ e.1 e.2 he
   rw [e2,vmul_one F (hm p hp)] at this
   exact this
  by_cases h1:i=p
  ·rw [h1];exact hpp
  ·by_cases h3:i=r
   ·have h4:=row p hp
    rw [h3]
    rw [h3] at h1
    rw [if_neg (fun e=>h1 e.symm),if_pos rfl] at h4
    exact h4
   ·have h4:=row i hi
    rw [if_neg h3,if_neg h1] at h4
    exact h4
theorem red_span (F:Fld q add mul neg inv) (P:Trn q add):∀ (f c r:Nat) (m:List (List Int)),f+c=n→Rw q n m→Rw q n (red add mul neg inv f c r m).1∧∀ x,Sp q n add mul (red add mul neg inv f c r m).1 x↔Sp q n add mul m x
 | 0,c,r,m,_,hm=>⟨hm,fun x=>Iff.rfl⟩
 | f+1,c,r,m,hf,hm=>by
  unfold red
  by_cases hr:r<m.length
  ·rw [if_pos hr]
   obtain ⟨a1,a2,a3,a4⟩:=findp_spec m c (m.length-r) r (by omega) (by omega)
   by_cases hp:findp m c (m.length-r) r=m.length
   ·rw [if_pos hp]
    exact red_span F P f (c+1) r m (by omega) hm
   ·rw [if_neg hp]
    have hp2:findp m c (m.length-r) r<m.length:=by omega
    have l1:=lift_rw F hm hr hp2 (c:=c) (by omega)
    have l2:=elim_rw F l1 (r:=r) (c:=c) (by rw [lift_len];exact hr) (by omega)
    obtain ⟨h1,h2⟩:=red_span F P f (c+1) (r+1) _ (by omega) l2
    exact ⟨h1,fun x=>(h2 x).trans ((elim_span F P l1 (by rw [lift_len];exact hr) (by omega) x).trans (lift_span F P hm hr hp2 (by omega) (a4 hp2) x))⟩
  ·rw [if_neg hr]
   exact ⟨hm,fun x=>Iff.rfl⟩
theorem reduce_span (F:Fld q add mul neg inv) (P:Trn q add) {m:List (List Int)} (hm:Rw q n m) (x:List Int):Sp q n add mul (reduce add mul neg inv n m) x↔Sp q n add mul m x:=by
 obtain ⟨h1,h2⟩:=red_span F P n 0 0 m (by omega) hm
 obtain ⟨piv,c,hc,W,hw,hl⟩:=red_way F n 0 0 m (fun _=>0) (by omega) ⟨hm,Nat.zero_le _,fun i hi=>by omega,fun i j _ hj=>by omega,fun i hi=>by omega,fun i k hi=>by omega,fun i j hi=>by omega,fun k j _ _ hj=>by omega⟩
 obtain ⟨piv2,R,_⟩:=reduce_rref F hm
 rw [←h2 x]
 have h3:Rw q n (reduce add mul neg inv n m):=R.wd
 unfold reduce at h3 ⊢
 generalize red add mul neg inv n 0 0 m=S at *
 have hlen:(S.1.take S.2).length=S.2:=by rw [List.length_take];exact Nat.min_eq_left W.rl
 constructor
 ·refine Sp.sub F P h3 h1 fun i hi=>?_
  rw [hlen] at hi
  rw [take_get hi]
  exact Sp.row F h1 (by have:=W.rl;omega)
 ·refine Sp.sub F P h1 h3 fun i hi=>?_
  by_cases hr:i<S.2
  ·have:=Sp.row F h3 (i:=i) (by rw [hlen];exact hr)
   rw [take_get hr] at this
   exact this
  ·have hz:S.1.getD i []=List.replicate n 0:=ext_getD (by rw [(h1 i hi).1];simp) fun j hj=>by
    rw [(h1 i hi).1] at hj
    rcases hw with e | e
    ·have:=W.rest i j (by omega) hi (by omega)
     unfold ent at this
     rw [this]
     simp [List.getD_eq_getElem?_getD,hj]
    ·omega
   rw [hz]
   exact Sp.zero F h3
theorem words_at (F:Fld q add mul neg inv):∀ (G:List (List Int)) (z:List Int),Rw q n G→Wd q n z→∀ i,i<G.length→(words q add mul G z).getD (q^(G.length-1-i)) []=vadd add z (G.getD i []):=by
 intro G
 have q1:=F.one_lt
 induction G with
 | nil=>intro z _ _ i hi;simp at hi
 | cons g gs ih =>
  intro z hG hz i hi
  have hl:∀ w,(words q add mul gs w).length=q^gs.length:=fun w=>by
   have:=words_digs q (by omega) add mul gs w
   rw [←this,List.length_map,List.length_range]
  have h0:∀ w,Wd q n w→(words q add mul gs w).getD 0 []=w:=by
   clear ih
   have:∀ (gs:List (List Int)),Rw q n gs→∀ w,Wd q n w→(words q add mul gs w).getD 0 []=w:=by
    intro gs
    induction gs with
    | nil=>intro _ w _;rfl
    | cons g gs ih =>
     intro hm w hw
     unfold words
     obtain ⟨q',hq'⟩:∃ q',q=q'+1:=⟨q-1,by omega⟩
     have e:List.range q=0::(List.range q').map (·+1):=by rw [hq',List.range_succ_eq_map]
     rw [e,List.flatMap_cons,show (((0:Nat):Int))=(0:Int) from rfl,vmul_zero F hm.head,vadd_zeros F hw]
     have h1:=ih hm.tail w hw
     have h2:0<(words q add mul gs w).length:=by
      have:=words_digs q (by omega) add mul gs w
      rw [←this,List.length_map,List.length_range]
      exact Nat.pow_pos (by omega)
     rw [List.getD_eq_getElem?_getD,List.getElem?_append_left h2,←List.getD_eq_getElem?_getD,h1]
   exact this gs hG.tail
  unfold words
  obtain ⟨q',hq'⟩:∃ q',q=q'+2:=⟨q-2,by omega⟩
  have e:List.range q=0::1::(List.range q').map (·+2):=by
   rw [hq',List.range_succ_eq_map,List.range_succ_eq_map,List.map_cons,List.map_map]
   rfl
  rw [e,List.flatMap_cons,List.flatMap_cons,show (((0:Nat):Int))=(0:Int) from rfl,show (((1:Nat):Int))=(1:Int) from rfl,vmul_zero F hG.head,vadd_zeros F hz,vmul_one F hG.head]
  have hzg:=hz.vadd F hG.head
  have hp:=Nat.pow_pos (n:=gs.length) (show 0<q by omega)
  cases i with
  | zero =>
   rw [List.length_cons,Nat.add_sub_cancel,Nat.sub_zero,List.getD_cons_zero,List.getD_eq_getElem?_getD,List.getElem?_append_right (by rw [hl];exact Nat.le_refl _),hl,Nat.sub_self,List.getElem?_append_left (by rw [hl];exact hp),←List.getD_eq_getElem?_getD,h0 _ hzg]
  | succ i =>
   have hi':i<gs.length:=by simpa using hi
   rw [List.length_cons,show gs.length+1-1-(i+1)=gs.length-1-i by omega,List.getD_cons_succ,List.getD_eq_getElem?_getD,List.getElem?_append_left (by rw [hl];exact Nat.pow_lt_pow_right q1 (by omega)),←List.getD_eq_getElem?_getD]
   exact ih z hG.tail hz i hi'
theorem rref_unique (F:Fld q add mul neg inv) {G H:List (List Int)} {pg ph:Nat→Nat} (hG:Rref q n G pg) (hH:Rref q n H ph) (h:∀ x,Sp q n add mul G x↔Sp q n add mul H x):G=H:=by
 have q1:=F.one_lt
 have sz:∀ {K:List (List Int)} {p:Nat→Nat},Rref q n K p→(words q add mul K (List.replicate n 0)).Pairwise (lx n):=fun R=>words_sorted F _ _ _ R (zeros_wd F) fun i hi=>by
  have:=R.lt i hi
  simp [List.getD_eq_getElem?_getD,this]
 have asym:∀ a b,lx n a b→lx n b a→a=b:=fun a b ⟨p,hp,e1,e2⟩ ⟨r,hr,e3,e4⟩=>by
  exfalso
  rcases Nat.lt_trichotomy p r with c | c | c
  ·have:=e3 p c;omega
  ·subst c;omega
  ·have:=e1 r c;omega
 have hw:words q add mul G (List.replicate n 0)=words q add mul H (List.replicate n 0) :=
  List.Perm.eq_of_pairwise (fun a b _ _ h1 h2=>asym a b h1 h2) (sz hG) (sz hH) ((List.perm_ext_iff_of_nodup (words_nodup F hG) (words_nodup F hH)).2 h)
 have hl:∀ K:List (List Int),(words q add mul K (List.replicate n 0)).length=q^K.length:=fun K=>by
  have:=words_digs q (by omega) add mul K (List.replicate n 0)
  rw [←this,List.length_map,List.length_range]
 have hlen:G.length=H.length:=by
  have:=congrArg List.length hw
  rw [hl,hl] at this
  exact (Nat.pow_right_inj q1).1 this
 refine ext_rows hlen fun i hi=>?_
 have a:=words_at F G _ hG.wd (zeros_wd F) i hi
 have b:=words_at F H _ hH.wd (zeros_wd F) i (by omega)
 rw [zero_vadd F (hG.wd i hi)] at a
 rw [zero_vadd F (hH.wd i (by omega))] at b
 rw [←a,←b,hw,hlen]
end
end Go.Proofs.Yticbdgmcofjkeaa.Ma
namespace Go.Proofs.Yticbdgmcofjkeaa.Ma
def dot (add mul:Int→Int→Int) (a b:List Int):Nat→Int
 | 0=>0
 | k+1=>add (dot add mul a b k) (mul (a.getD k 0) (b.getD k 0))
section
variable {q:Nat} {add mul:Int→Int→Int} {neg inv:Int→Int} {n:Nat}
theorem dot_in (F:Fld q add mul neg inv) {a b:List Int} (ha:Wd q n a) (hb:Wd q n b):∀ k,k≤n→0≤dot add mul a b k∧dot add mul a b k<q
 | 0,_=>by have:=F.one_lt;exact ⟨by unfold dot;omega,by unfold dot;omega⟩
 | k+1,hk=>by
  have ih:=dot_in F ha hb k (by omega)
  have x:=ha.2 k (by omega)
  have y:=hb.2 k (by omega)
  have m:=F.mul_in _ _ x.1 x.2 y.1 y.2
  exact F.add_in _ _ ih.1 ih.2 m.1 m.2
theorem dot_comm (F:Fld q add mul neg inv) {a b:List Int} (ha:Wd q n a) (hb:Wd q n b):∀ k,k≤n→dot add mul a b k=dot add mul b a k
 | 0,_=>rfl
 | k+1,hk=>by
  have x:=ha.2 k (by omega)
  have y:=hb.2 k (by omega)
  unfold dot
  rw [dot_comm F ha hb k (by omega),F.mul_comm _ _ x.1 x.2 y.1 y.2]
theorem add4 (F:Fld q add mul neg inv) {a b c d:Int} (ha:0≤a∧a<q) (hb:0≤b∧b<q) (hc:0≤c∧c<q) (hd:0≤d∧d<q):add (add a b) (add c d)=add (add a c) (add b d):=by
 have bc:=F.add_in b c hb.1 hb.2 hc.1 hc.2
 have cd:=F.add_in c d hc.1 hc.2 hd.1 hd.2
 have bd:=F.add_in b d hb.1 hb.2 hd.1 hd.2
 rw [F.add_assoc _ _ _ ha.1 ha.2 hb.1 hb.2 cd.1 cd.2,F.add_assoc _ _ _ ha.1 ha.2 hc.1 hc.2 bd.1 bd.2,←F.add_assoc b c d hb.1 hb.2 hc.1 hc.2 hd.1 hd.2,F.add_comm b c hb.1 hb.2 hc.1 hc.2,F.add_assoc c b d hc.1 hc.2 hb.1 hb.2 hd.1 hd.2]
theorem dot_vadd (F:Fld q add mul neg inv) {a x y:List Int} (ha:Wd q n a) (hx:Wd q n x) (hy:Wd q n y):∀ k,k≤n→dot add mul a (vadd add x y) k=add (dot add mul a x k) (dot add mul a y k)
 | 0,_=>by have:=F.one_lt;unfold dot;rw [F.zero_add 0 (by omega) (by omega)]
 | k+1,hk=>by
  have a0:=ha.2 k (by omega)
  have x0:=hx.2 k (by omega)
  have y0:=hy.2 k (by omega)
  have d1:=dot_in F ha hx k (by omega)
  have d2:=dot_in F ha hy k (by omega)
  have m1:=F.mul_in _ _ a0.1 a0.2 x0.1 x0.2
  have m2:=F.mul_in _ _ a0.1 a0.2 y0.1 y0.2
  unfold dot
  rw [dot_vadd F ha hx hy k (by omega),vadd_get (by rw [hx.1,hy.1]) (by rw [hx.1];omega),F.distrib _ _ _ a0.1 a0.2 x0.1 x0.2 y0.1 y0.2,add4 F d1 d2 m1 m2]
theorem dot_vmul (F:Fld q add mul neg inv) {a x:List Int} (ha:Wd q n a) (hx:Wd q n x) {c:Int} (c0:0≤c) (c1:c<q):∀ k,k≤n→dot add mul a (vmul mul c x) k=mul c (dot add mul a x k)
 | 0,_=>by unfold dot;rw [mul_zero F c0 c1]
 | k+1,hk=>by
  have a0:=ha.2 k (by omega)
  have x0:=hx.2 k (by omega)
  have d1:=dot_in F ha hx k (by omega)
  have m1:=F.mul_in _ _ a0.1 a0.2 x0.1 x0.2
  have m2:=F.mul_in _ _ c0 c1 x0.1 x0.2
  unfold dot
  rw [dot_vmul F ha hx c0 c1 k (by omega),vmul_get (by rw [hx.1];omega),F.distrib _ _ _ c0 c1 d1.1 d1.2 m1.1 m1.2,←F.mul_assoc _ _ _ a0.1 a0.2 c0 c1 x0.1 x0.2,F.mul_comm _ _ a0.1 a0.2 c0 c1,F.mul_assoc _ _ _ c0 c1 a0.1 a0.2 x0.1 x0.2]
theorem dot_zeros (F:Fld q add mul neg inv) {a:List Int} (ha:Wd q n a):∀ k,k≤n→dot add mul a (List.replicate n 0) k=0
 | 0,_=>rfl
 | k+1,hk=>by
  have q1:=F.one_lt
  have a0:=ha.2 k (by omega)
  have z:(List.replicate n (0:Int)).getD k 0=0:=by simp [List.getD_eq_getElem?_getD,show k<n by omega]
  unfold dot
  rw [dot_zeros F ha k (by omega),z,mul_zero F a0.1 a0.2,F.zero_add 0 (by omega) (by omega)]
def Orth (n:Nat) (add mul:Int→Int→Int) (G:List (List Int)) (x:List Int):Prop:=∀ i,i<G.length→dot add mul (G.getD i []) x n=0
theorem words_dot (F:Fld q add mul neg inv) {a:List Int} (ha:Wd q n a):∀ (m:List (List Int)) (z:List Int),Rw q n m→Wd q n z→(∀ i,i<m.length→dot add mul a (m.getD i []) n=0)→dot add mul a z n=0→∀ x∈words q add mul m z,dot add mul a x n=0
 | [],z,_,_,_,h,x,hx=>by
  unfold words at hx
  rw [List.mem_singleton.1 hx]
  exact h
 | g::gs,z,hm,hz,hd,h,x,hx=>by
  have q1:=F.one_lt
  unfold words at hx
  obtain ⟨b,hb,hx⟩:=List.mem_flatMap.1 hx
  have b1:b<q:=by simpa using hb
  have hv:=Wd.vmul F (in_ b1).1 (in_ b1).2 hm.head
  refine words_dot F ha gs _ hm.tail (hz.vadd F hv) (fun i hi=>by simpa using hd (i+1) (by simpa using hi)) ?_ x hx
  have hg:dot add mul a g n=0:=by simpa using hd 0 (by simp)
  rw [dot_vadd F ha hz hv n (Nat.le_refl _),dot_vmul F ha hm.head (in_ b1).1 (in_ b1).2 n (Nat.le_refl _),h,hg,mul_zero F (in_ b1).1 (in_ b1).2,F.zero_add 0 (by omega) (by omega)]
theorem sp_dot (F:Fld q add mul neg inv) {a:List Int} (ha:Wd q n a) {m:List (List Int)} (hm:Rw q n m) (hd:∀ i,i<m.length→dot add mul a (m.getD i []) n=0) {x:List Int} (hx:Sp q n add mul m x):dot add mul a x n=0 :=
 words_dot F ha m _ hm (zeros_wd F) hd (dot_zeros F ha n (Nat.le_refl _)) x hx
structure DualOf (q n:Nat) (neg:Int→Int) (G:List (List Int)) (piv:Nat→Nat) (fr:List Nat) (D:Nat→List Int):Prop where
 rref:Rref q n G piv
 mem:∀ t,t∈fr↔t<n∧∀ i,i<G.length→piv i≠t
 nd:fr.Nodup
 len:fr.length+G.length=n
 wd:∀ j∈fr,Wd q n (D j)
 free:∀ j∈fr,∀ t∈fr,(D j).getD t 0=if t=j then 1 else 0
 at_:∀ j∈fr,∀ i,i<G.length→(D j).getD (piv i) 0=neg (ent G i j)
theorem DualOf.row {G:List (List Int)} {piv:Nat→Nat} {fr:List Nat} {D:Nat→List Int} (h:DualOf q n neg G piv fr D) (F:Fld q add mul neg inv) {i j:Nat} (hi:i<G.length) (hj:j∈fr):dot add mul (G.getD i []) (D j) n=0:=by
 have q1:=F.one_lt
 have wg:=h.rref.wd i hi
 obtain ⟨jn,jp⟩:=(h.mem j).1 hj
 have e:=wg.2 j jn
 have ne:=F.neg_in _ e.1 e.2
 have hpi:=h.rref.lt i hi
 have key:∀ k,k≤n→dot add mul (G.getD i []) (D j) k=add (if j<k then (G.getD i []).getD j 0 else 0) (if piv i<k then neg ((G.getD i []).getD j 0) else 0):=by
  intro k
  induction k with
  | zero=>intro _;rw [if_neg (by omega),if_neg (by omega),F.zero_add 0 (by omega) (by omega)];rfl
  | succ k ih =>
   intro hk
   have x0:=wg.2 k (by omega)
   have i1:0≤(if j<k then (G.getD i []).getD j 0 else 0)∧(if j<k then (G.getD i []).getD j 0 else 0)<(q:Int):=by split <;> omega
   have i2:0≤(if piv i<k then neg ((G.getD i []).getD j 0) else 0)∧(if piv i<k then neg ((G.getD i []).getD j 0) else 0)<(q:Int):=by split <;> omega
   unfold dot
   rw [ih (by omega)]
   by_cases c1:k=j
   ·subst c1
    rw [h.free k hj k hj,if_pos rfl,mul_one F x0.1 x0.2,if_neg (c:=k<k) (by omega),if_pos (c:=k<k+1) (by omega)]
    have e3:(piv i<k+1)=(piv i<k):=by have:=jp i hi;simp;omega
    simp only [e3]
    rw [F.zero_add _ i2.1 i2.2,F.add_comm _ _ i2.1 i2.2 x0.1 x0.2]
   ·by_cases c2:k=piv i
    ·have one:(G.getD i []).getD k 0=1:=by rw [c2];exact h.rref.one i hi
     have e4:(D j).getD k 0=neg ((G.getD i []).getD j 0):=by rw [c2];exact h.at_ j hj i hi
     have e3:(j<k+1)=(j<k):=by simp;omega
     rw [one,e4,F.one_mul _ ne.1 ne.2,if_neg (c:=piv i<k) (by omega),if_pos (c:=piv i<k+1) (by omega)]
     simp only [e3]
     rw [add_zero F i1.1 i1.2]
    ·have e3:(j<k+1)=(j<k):=by simp;omega
     have e5:(piv i<k+1)=(piv i<k):=by simp;omega
     have hz:mul ((G.getD i []).getD k 0) ((D j).getD k 0)=0:=by
      by_cases c3:∃ l,l<G.length∧piv l=k
      ·obtain ⟨l,hl,el⟩:=c3
       have z:(G.getD i []).getD k 0=0:=by
        rw [←el];exact h.rref.zero l i hl hi (fun e=>c2 (by rw [e,el]))
       have d0:=(h.wd j hj).2 k (by omega)
       rw [z,F.zero_mul _ d0.1 d0.2]
      ·have hf:k∈fr:=(h.mem k).2 ⟨by omega,fun l hl e=>c3 ⟨l,hl,e⟩⟩
       rw [h.free j hj k hf,if_neg c1,mul_zero F x0.1 x0.2]
     simp only [e3,e5]
     have ai:=F.add_in _ _ i1.1 i1.2 i2.1 i2.2
     rw [hz,add_zero F ai.1 ai.2]
 rw [key n (Nat.le_refl _),if_pos jn,if_pos hpi,F.add_neg _ e.1 e.2]
theorem map_getD {fr:List Nat} {D:Nat→List Int} {i:Nat} (hi:i<fr.length):∃ j∈fr,(fr.map D).getD i []=D j:=⟨fr[i],List.getElem_mem _,by simp [List.getD_eq_getElem?_getD,hi]⟩
theorem DualOf.rw {G:List (List Int)} {piv:Nat→Nat} {fr:List Nat} {D:Nat→List Int} (h:DualOf q n neg G piv fr D):Rw q n (fr.map D):=fun i hi=>by
 obtain ⟨j,hj,e⟩:=map_getD (D:=D) (show i<fr.length by simpa using hi)
 rw [e]
 exact h.wd j hj
theorem DualOf.orth {G:List (List Int)} {piv:Nat→Nat} {fr:List Nat} {D:Nat→List Int} (h:DualOf q n neg G piv fr D) (F:Fld q add mul neg inv) {x:List Int} (hx:Sp q n add mul (fr.map D) x):Orth n add mul G x:=fun i hi =>
 sp_dot F (h.rref.wd i hi) h.rw (fun k hk=>by
  obtain ⟨j,hj,e⟩:=map_getD (D:=D) (show k<fr.length by simpa using hk)
  rw [e]
  exact h.row F hi hj) hx
theorem DualOf.pick {G:List (List Int)} {piv:Nat→Nat} {fr:List Nat} {D:Nat→List Int} (h:DualOf q n neg G piv fr D) (F:Fld q add mul neg inv) {x:List Int} (hx:Wd q n x):∀ (L:List Nat) (z:List Int),L.Nodup→(∀ t∈L,t∈fr)→Wd q n z →
  ∃ y∈words q add mul (L.map D) z,(∀ t∈L,y.getD t 0=add (z.getD t 0) (x.getD t 0))∧∀ t∈fr,t∉L→y.getD t 0=z.getD t 0
 | [],z,_,_,hz=>⟨z,by unfold words;simp,fun t ht=>by simp at ht,fun t _ _=>rfl⟩
 | j::L,z,hn,hs,hz=>by
  have hj:j∈fr:=hs j (by simp)
  have jn:=((h.mem j).1 hj).1
  have xj:=hx.2 j jn
  have wj:=h.wd j hj
  obtain ⟨c,hc,hcq⟩:∃ c:Nat,x.getD j 0=c∧c<q:=⟨(x.getD j 0).toNat,by omega,by omega⟩
  have hv:=Wd.vmul F (in_ hcq).1 (in_ hcq).2 wj
  obtain ⟨n1,n2⟩:=List.nodup_cons.1 hn
  obtain ⟨y,hy,y1,y2⟩:=DualOf.pick h F hx L (vadd add z (vmul mul (c:Int) (D j))) n2 (fun t ht=>hs t (by simp [ht])) (hz.vadd F hv)
  have at_:∀ t∈fr,(vadd add z (vmul mul (c:Int) (D j))).getD t 0=if t=j then add (z.getD t 0) (x.getD t 0) else z.getD t 0:=fun t ht=>by
   have tn:=((h.mem t).1 ht).1
   have zt:=hz.2 t tn
   rw [vadd_get (by rw [hz.1,hv.1]) (by rw [hz.1];exact tn),vmul_get (by rw [wj.1];exact tn),h.free j hj t ht]
   by_cases e:t=j
   ·subst e
    rw [if_pos rfl,if_pos rfl,mul_one F (in_ hcq).1 (in_ hcq).2,hc]
   ·rw [if_neg e,if_neg e,mul_zero F (in_ hcq).1 (in_ hcq).2,add_zero F zt.1 zt.2]
  refine ⟨y,?_,fun t ht=>?_,fun t ht hnt=>?_⟩
  ·rw [List.map_cons]
   unfold words
   exact List.mem_flatMap.2 ⟨c,by simpa using hcq,hy⟩
  ·rcases List.mem_cons.1 ht with e | e
   ·subst e
    rw [y2 t hj n1,at_ t hj,if_pos rfl]
   ·rw [y1 t e,at_ t (hs t ht),if_neg (fun e2:t=j=>n1 (by rw [←e2];exact e))]
  ·rw [y2 t ht (fun e=>hnt (by simp [e])),at_ t ht,if_neg (fun e=>hnt (by simp [e]))]
theorem DualOf.known {G:List (List Int)} {piv:Nat→Nat} {fr:List Nat} {D:Nat→List Int} (h:DualOf q n neg G piv fr D) (F:Fld q add mul neg inv) {x y:List Int} (hx:Wd q n x) (hy:Wd q n y) (ox:Orth n add mul G x) (oy:Orth n add mul G y) (he:∀ t∈fr,x.getD t 0=y.getD t 0):x=y:=by
 have q1:=F.one_lt
 refine ext_getD (by rw [hx.1,hy.1]) fun t ht=>?_
 rw [hx.1] at ht
 by_cases hp:∃ i,i<G.length∧piv i=t
 ·obtain ⟨i,hi,hit⟩:=hp
  have wg:=h.rref.wd i hi
  have same:∀ k,k<n→k≠t→mul ((G.getD i []).getD k 0) (x.getD k 0)=mul ((G.getD i []).getD k 0) (y.getD k 0):=fun k hk hkt=>by
   by_cases c:∃ l,l<G.length∧piv l=k
   ·obtain ⟨l,hl,el⟩:=c
    have z:(G.getD i []).getD k 0=0:=by
     rw [←el];exact h.rref.zero l i hl hi (fun e=>hkt (by rw [←el,←e,hit]))
    have x0:=hx.2 k hk
    have y0:=hy.2 k hk
    rw [z,F.zero_mul _ x0.1 x0.2,F.zero_mul _ y0.1 y0.2]
   ·rw [he k ((h.mem k).2 ⟨hk,fun l hl e=>c ⟨l,hl,e⟩⟩)]
  have low:∀ k,k≤t→dot add mul (G.getD i []) x k=dot add mul (G.getD i []) y k:=by
   intro k
   induction k with
   | zero=>intro _;rfl
   | succ k ih =>
    intro hk
    unfold dot
    rw [ih (by omega),same k (by omega) (by omega)]
  have one:(G.getD i []).getD t 0=1:=by rw [←hit];exact h.rref.one i hi
  have xt:=hx.2 t ht
  have yt:=hy.2 t ht
  have high:∀ k,t+1+k≤n→∃ c:Int,(0≤c∧c<q)∧dot add mul (G.getD i []) x (t+1+k)=add (x.getD t 0) c∧dot add mul (G.getD i []) y (t+1+k)=add (y.getD t 0) c:=by
   intro k
   induction k with
   | zero =>
    intro _
    have d:=dot_in F wg hy t (by omega)
    refine ⟨dot add mul (G.getD i []) y t,d,?_,?_⟩
    ·show add (dot add mul (G.getD i []) x t) (mul _ _)=_
     rw [low t (Nat.le_refl _),one,F.one_mul _ xt.1 xt.2,F.add_comm _ _ d.1 d.2 xt.1 xt.2]
    ·show add (dot add mul (G.getD i []) y t) (mul _ _)=_
     rw [one,F.one_mul _ yt.1 yt.2,F.add_comm _ _ d.1 d.2 yt.1 yt.2]
   | succ k ih =>
    intro hk
    obtain ⟨c,hc,e1,e2⟩:=ih (by omega)
    have g0:=wg.2 (t+1+k) (by omega)
    have y0:=hy.2 (t+1+k) (by omega)
    have m:=F.mul_in _ _ g0.1 g0.2 y0.1 y0.2
    have cm:=F.add_in _ _ hc.1 hc.2 m.1 m.2
    refine ⟨add c (mul ((G.getD i []).getD (t+1+k) 0) (y.getD (t+1+k) 0)),cm,?_,?_⟩
    ·show add (dot add mul (G.getD i []) x (t+1+k)) (mul ((G.getD i []).getD (t+1+k) 0) (x.getD (t+1+k) 0))=_
     rw [e1,same (t+1+k) (by omega) (by omega),F.add_assoc _ _ _ xt.1 xt.2 hc.1 hc.2 m.1 m.2]
    ·show add (dot add mul (G.getD i []) y (t+1+k)) (mul ((G.getD i []).getD (t+1+k) 0) (y.getD (t+1+k) 0))=_
     rw [e2,F.add_assoc _ _ _ yt.1 yt.2 hc.1 hc.2 m.1 m.2]
  obtain ⟨c,hc,e1,e2⟩:=high (n-(t+1)) (by omega)
  rw [show t+1+(n-(t+1))=n by omega] at e1 e2
  rw [ox i hi] at e1
  rw [oy i hi] at e2
  exact add_cancel F xt yt hc (e1.symm.trans e2)
 ·exact he t ((h.mem t).2 ⟨ht,fun i hi e=>hp ⟨i,hi,e⟩⟩)
theorem DualOf.span {G:List (List Int)} {piv:Nat→Nat} {fr:List Nat} {D:Nat→List Int} (h:DualOf q n neg G piv fr D) (F:Fld q add mul neg inv) {x:List Int} (hx:Wd q n x):Sp q n add mul (fr.map D) x↔Orth n add mul G x:=by
 refine ⟨h.orth F,fun ox=>?_⟩
 obtain ⟨y,hy,y1,_⟩:=h.pick F hx fr (List.replicate n 0) h.nd (fun t ht=>ht) (zeros_wd F)
 have sy:Sp q n add mul (fr.map D) y:=hy
 have wy:=sy.wd F h.rw
 have:x=y:=h.known F hx wy ox (h.orth F sy) fun t ht=>by
  have tn:=((h.mem t).1 ht).1
  have x0:=hx.2 t tn
  rw [y1 t ht]
  have z:(List.replicate n (0:Int)).getD t 0=0:=by simp [List.getD_eq_getElem?_getD,tn]
  rw [z,F.zero_add _ x0.1 x0.2]
 rw [this]
 exact sy
theorem words_col (F:Fld q add mul neg inv) {c:Nat} (hc:c<n):∀ (G:List (List Int)) (z:List Int),Rw q n G→(∀ i,i<G.length→ent G i c=0)→Wd q n z→∀ y∈words q add mul G z,y.getD c 0=z.getD c 0
 | [],z,_,_,_,y,hy=>by
  unfold words at hy
  rw [List.mem_singleton.1 hy]
 | g::gs,z,hG,h0,hz,y,hy=>by
  unfold words at hy
  obtain ⟨b,hb,hy⟩:=List.mem_flatMap.1 hy
  have b1:b<q:=by simpa using hb
  have hv:=Wd.vmul F (in_ b1).1 (in_ b1).2 hG.head
  have g0:g.getD c 0=0:=by simpa [ent] using h0 0 (by simp)
  have zc:=hz.2 c hc
  rw [words_col F hc gs _ hG.tail (fun i hi=>by simpa [ent] using h0 (i+1) (by simpa using hi)) (hz.vadd F hv) y hy,vadd_get (by rw [hz.1,hv.1]) (by rw [hz.1];exact hc),vmul_get (by rw [hG.head.1];exact hc),g0,mul_zero F (in_ b1).1 (in_ b1).2,add_zero F zc.1 zc.2]
theorem words_nodup_u (F:Fld q add mul neg inv):∀ (m:List (List Int)) (e:Nat→Nat) (z:List Int),Rw q n m→(∀ i,i<m.length→e i<n)→(∀ i k,i<m.length→k<m.length→ent m k (e i)=if k=i then 1 else 0)→Wd q n z→(words q add mul m z).Nodup
 | [],e,z,_,_,_,_=>by unfold words;simp
 | g::gs,e,z,hm,he,hu,hz=>by
  have g1:g.getD (e 0) 0=1:=by simpa [ent] using hu 0 0 (by simp) (by simp)
  have e0:=he 0 (by simp)
  have z0:=hz.2 (e 0) e0
  unfold words
  unfold List.Nodup
  rw [List.pairwise_flatMap]
  have hv:∀ a,a<q→Wd q n (vmul mul (a:Int) g):=fun a ha=>Wd.vmul F (in_ ha).1 (in_ ha).2 hm.head
  have col:∀ a,a<q→∀ y∈words q add mul gs (vadd add z (vmul mul (a:Int) g)),y.getD (e 0) 0=add (z.getD (e 0) 0) a:=fun a ha y hy=>by
   rw [words_col F e0 gs _ hm.tail (fun i hi=>by
    have:=hu 0 (i+1) (by simp) (by simpa using hi)
    rw [if_neg (by omega)] at this
    simpa [ent] using this) (hz.vadd F (hv a ha)) y hy,vadd_get (by rw [hz.1,(hv a ha).1]) (by rw [hz.1];exact e0),vmul_get (by rw [hm.head.1];exact e0),g1,mul_one F (in_ ha).1 (in_ ha).2]
  refine ⟨fun a ha=>?_,?_⟩
  ·have ha':a<q:=by simpa using ha
   exact words_nodup_u F gs (fun i=>e (i+1)) _ hm.tail (fun i hi=>he (i+1) (by simpa using hi)) (fun i k hi hk=>by
    have:=hu (i+1) (k+1) (by simpa using hi) (by simpa using hk)
    simpa [ent] using this) (hz.vadd F (hv a ha'))
  ·refine (List.pairwise_lt_range (n:=q)).imp_of_mem fun {a b} ha hb hab x hx y hy exy=>?_
   have ha':a<q:=by simpa using ha
   have hb':b<q:=by simpa using hb
   have h1:=col a ha' x hx
   have h2:=col b hb' y hy
   rw [exy,h2,F.add_comm _ _ z0.1 z0.2 (in_ hb').1 (in_ hb').2,F.add_comm _ _ z0.1 z0.2 (in_ ha').1 (in_ ha').2] at h1
   have:=add_cancel F (in_ hb') (in_ ha') z0 h1
   omega
theorem DualOf.nodup {G:List (List Int)} {piv:Nat→Nat} {fr:List Nat} {D:Nat→List Int} (h:DualOf q n neg G piv fr D) (F:Fld q add mul neg inv):(words q add mul (fr.map D) (List.replicate n 0)).Nodup:=by
 have hg:∀ i,i<fr.length→fr.getD i 0∈fr:=fun i hi=>by
  rw [List.getD_eq_getElem?_getD,List.getElem?_eq_getElem hi]
  exact List.getElem_mem _
 refine words_nodup_u F _ (fun i=>fr.getD i 0) _ h.rw (fun i hi=>((h.mem _).1 (hg i (by simpa using hi))).1) (fun i k hi hk=>?_) (zeros_wd F)
 rw [List.length_map] at hi hk
 have e:(fr.map D).getD k []=D (fr.getD k 0):=by simp [List.getD_eq_getElem?_getD,hk]
 unfold ent
 rw [e,h.free _ (hg k hk) _ (hg i hi)]
 by_cases c:k=i
 ·rw [c,if_pos rfl,if_pos rfl]
 ·rw [if_neg c,if_neg]
  intro e2
  rw [List.getD_eq_getElem?_getD,List.getD_eq_getElem?_getD,List.getElem?_eq_getElem hi,List.getElem?_eq_getElem hk] at e2
  exact c (((List.getElem_inj h.nd).1 e2).symm)
theorem words_cnt (F:Fld q add mul neg inv) (K:List (List Int)) (z:List Int):(words q add mul K z).length=q^K.length:=by
 have:=words_digs q (by have:=F.one_lt;omega) add mul K z
 rw [←this,List.length_map,List.length_range]
theorem DualOf.dual {G:List (List Int)} {piv:Nat→Nat} {fr:List Nat} {D:Nat→List Int} (h:DualOf q n neg G piv fr D) (F:Fld q add mul neg inv) (P:Trn q add):(∃ p,Rref q n (reduce add mul neg inv n (fr.map D)) p)∧(reduce add mul neg inv n (fr.map D)).length+G.length=n∧∀ x,Wd q n x→(Sp q n add mul (reduce add mul neg inv n (fr.map D)) x↔Orth n add mul G x):=by
 obtain ⟨p,R,_⟩:=reduce_rref F h.rw
 have hs:=reduce_span F P h.rw
 have hl:(reduce add mul neg inv n (fr.map D)).length=fr.length:=by
  have pm:=(List.perm_ext_iff_of_nodup (words_nodup F R) (h.nodup F)).2 hs
  have e:=pm.length_eq
  rw [words_cnt F,words_cnt F,List.length_map] at e
  exact (Nat.pow_right_inj F.one_lt).1 e
 exact ⟨⟨p,R⟩,by rw [hl];exact h.len,fun x hx=>(hs x).trans (h.span F hx)⟩
theorem same_of_len {L M:List (List Int)} (hL:L.Nodup) (hs:∀ x∈L,x∈M) (hl:M.length≤L.length):∀ x∈M,x∈L:=fun x hx=>by
 by_cases h:x∈L
 ·exact h
 ·have:(x::L).Nodup:=List.nodup_cons.2 ⟨h,hL⟩
  have:=this.length_le_of_subset (l₂:=M) fun y hy=>by
   rcases List.mem_cons.1 hy with e | e
   ·rw [e];exact hx
   ·exact hs y e
  rw [List.length_cons] at this
  omega
theorem dual_dual (F:Fld q add mul neg inv) (P:Trn q add) {G D E:List (List Int)} {pg pe:Nat→Nat} (hG:Rref q n G pg) (hE:Rref q n E pe) (hD:Rw q n D) (h1:D.length+G.length=n) (h2:∀ x,Wd q n x→(Sp q n add mul D x↔Orth n add mul G x)) (h3:E.length+D.length=n) (h4:∀ x,Wd q n x→(Sp q n add mul E x↔Orth n add mul D x)):E=G:=by
 have row:∀ i,i<G.length→Sp q n add mul E (G.getD i []):=fun i hi=>(h4 _ (hG.wd i hi)).2 fun k hk=>by
  have hk':=hD k hk
  rw [dot_comm F hk' (hG.wd i hi) n (Nat.le_refl _)]
  exact (h2 _ hk').1 (Sp.row F hD hk) i hi
 have sub:∀ x,Sp q n add mul G x→Sp q n add mul E x:=fun x hx=>Sp.sub F P hG.wd hE.wd row hx
 refine (rref_unique F hG hE fun x=>⟨sub x,fun hx=>?_⟩).symm
 exact same_of_len (words_nodup F hG) sub (by rw [words_cnt F,words_cnt F,show E.length=G.length by omega];exact Nat.le_refl _) x hx
end
end Go.Proofs.Yticbdgmcofjkeaa.Ma
namespace Go.Proofs.Yticbdgmcofjkeaa.Ai
open Go Ma
noncomputable section
section
variable {q n:Nat} {G:List (List Int)}
theorem pA_zero (hp:∀ i,i<G.length→fnz (G.getD i [])<n) {t:Nat} (ht:t<n):∀ i,i≤G.length→(∀ l,l<i→fnz (G.getD l [])≠t)→(pA n G i).getD t 0=0
 | 0,_,_=>by simp [pA,List.getD_eq_getElem?_getD,ht]
 | i+1,h,hl=>by
  unfold pA
  rw [List.getD_eq_getElem?_getD,List.getElem?_set,if_neg (hl i (by omega)),←List.getD_eq_getElem?_getD]
  exact pA_zero hp ht i (by omega) fun l h=>hl l (by omega)
theorem pA_at (hp:∀ i,i<G.length→fnz (G.getD i [])<n) (hd:∀ i j,i<j→j<G.length→fnz (G.getD i [])≠fnz (G.getD j [])):∀ i,i≤G.length→∀ l,l<i→(pA n G i).getD (fnz (G.getD l [])) 0=((l+1:Nat):Int)
 | 0,_,l,hl=>by omega
 | i+1,h,l,hl=>by
  have pl:=pA_len n G i
  unfold pA
  rw [List.getD_eq_getElem?_getD,List.getElem?_set]
  by_cases e:l=i
  ·subst e
   rw [if_pos rfl,if_pos (by rw [pl];exact hp l (by omega))]
   rfl
  ·rw [if_neg (fun e2=>hd l i (by omega) (by omega) e2.symm),←List.getD_eq_getElem?_getD]
   exact pA_at hp hd i (by omega) l (by omega)
theorem count_less {P Q:Nat→Bool} {p:Nat}:∀ m,p<m→P p=true→Q p=false→(∀ t,t<m→t≠p→Q t=P t)→(List.range m).countP Q+1=(List.range m).countP P
 | 0,h,_,_,_=>by omega
 | m+1,h,hP,hQ,he=>by
  rw [List.range_succ,List.countP_append,List.countP_append]
  by_cases e:p=m
  ·subst e
   have:(List.range p).countP Q=(List.range p).countP P:=List.countP_congr fun t ht=>by
    have ht':t<p:=by simpa using ht
    rw [he t (by omega) (by omega)]
   rw [this]
   simp [hP,hQ]
  ·have ih:=count_less m (by omega) hP hQ fun t ht hne=>he t (by omega) hne
   have h2:[m].countP Q=[m].countP P:=List.countP_congr fun t ht=>by
    have:t=m:=by simpa using ht
    subst this
    rw [he t (by omega) (fun e2=>e e2.symm)]
   rw [h2]
   omega
theorem frees_count (hp:∀ i,i<G.length→fnz (G.getD i [])<n) (hd:∀ i j,i<j→j<G.length→fnz (G.getD i [])≠fnz (G.getD j [])):∀ i,i≤G.length→(frees (pA n G i) n).length+i=n
 | 0,_=>by
  have:frees (pA n G 0) n=List.range n:=List.filter_eq_self.2 fun t ht=>by
   have ht':t<n:=by simpa using ht
   simp [pA,List.getD_eq_getElem?_getD,ht']
  rw [this]
  simp
 | i+1,h=>by
  have ih:=frees_count hp hd i (by omega)
  have pl:=pA_len n G i
  have hpi:=hp i (by omega)
  have h1:=count_less (P:=fun t=>decide ((pA n G i).getD t 0=0)) (Q:=fun t=>decide ((pA n G (i+1)).getD t 0=0)) (p:=fnz (G.getD i [])) n hpi
   (by simpa using pA_zero hp hpi i (by omega) fun l hl=>hd l i hl (by omega))
   (by
    have:(pA n G (i+1)).getD (fnz (G.getD i [])) 0=((i+1:Nat):Int):=pA_at hp hd (i+1) h i (by omega)
    rw [this]
    simp
    omega)
   (fun t ht hne=>by
    have e0:pA n G (i+1)=(pA n G i).set (fnz (G.getD i [])) ((i+1:Nat):Int):=rfl
    rw [e0,List.getD_eq_getElem?_getD,List.getElem?_set,if_neg (fun e=>hne e.symm),←List.getD_eq_getElem?_getD])
  unfold frees at ih ⊢
  rw [←List.countP_eq_length_filter] at ih ⊢
  omega
theorem Lc.pdist (h:Lc q n G):∀ i j,i<j→j<G.length→fnz (G.getD i [])≠fnz (G.getD j []):=fun i j hij hj=>by
 obtain ⟨piv,R⟩:=h.form
 rw [rref_fz R (by omega),rref_fz R hj]
 have:=R.mono i j hij hj
 omega
theorem Lc.dualOf (h:Lc q n G):∃ piv,DualOf q n (fneg q) G piv (frees (pA n G G.length) n) (fun j=>drow q n (pA n G G.length) G j n):=by
 obtain ⟨piv,R⟩:=h.form
 have hp:=fun i hi=>(h.fnzs (i:=i) hi).1
 have hd:=h.pdist
 have hA:=h.cols
 have hR:=h.rows
 have mem:∀ t,t∈frees (pA n G G.length) n↔t<n∧∀ i,i<G.length→piv i≠t:=fun t=>by
  unfold frees
  rw [List.mem_filter,decide_eq_true_eq,List.mem_range]
  refine and_congr_right fun ht=>⟨fun h0 i hi e=>?_,fun h0=>pA_zero hp ht _ (Nat.le_refl _) fun l hl e=>h0 l hl (by rw [←rref_fz R hl];exact e)⟩
  have:=pA_at hp hd G.length (Nat.le_refl _) i hi
  rw [rref_fz R hi,e,h0] at this
  omega
 have z:∀ t∈frees (pA n G G.length) n,(pA n G G.length).getD t 0=0:=fun t ht=>by
  unfold frees at ht
  simpa using (List.mem_filter.1 ht).2
 refine ⟨piv,R,mem,?_,frees_count hp hd G.length (Nat.le_refl _),fun j hj=>drow_wd h.fq hR hA ((mem j).1 hj).1 n,fun j hj t ht=>?_,fun j hj i hi=>?_⟩
 ·unfold frees
  exact List.nodup_range.filter _
 ·rw [drow_get ((mem t).1 ht).1,if_neg (by rw [z t ht];omega)]
 ·have e:=pA_at hp hd G.length (Nat.le_refl _) i hi
  rw [rref_fz R hi] at e
  rw [drow_get (R.lt i hi),if_pos ⟨R.lt i hi,by rw [e];omega⟩,e]
  rfl
theorem Lc.dual (h:Lc q n G):Lc q n (dualR q n G)∧(dualR q n G).length+G.length=n∧∀ x,Wd q n x→(Sp q n (fadd q) (fmul q) (dualR q n G) x↔Orth n (fadd q) (fmul q) G x):=by
 obtain ⟨piv,D⟩:=h.dualOf
 obtain ⟨⟨p,R⟩,h2,h3⟩:=D.dual (fld q h.fq) (turn h.fq)
 exact ⟨⟨h.fq,h.n0,h.n1,⟨p,R⟩⟩,h2,h3⟩
theorem Lc.dual_dual (h:Lc q n G):dualR q n (dualR q n G)=G:=by
 obtain ⟨h1,h2,h3⟩:=h.dual
 obtain ⟨k1,k2,k3⟩:=h1.dual
 obtain ⟨p,R⟩:=h.form
 obtain ⟨p2,R2⟩:=k1.form
 exact Ma.dual_dual (fld q h.fq) (turn h.fq) R R2 h1.rows.wd h2 h3 k2 k3
theorem Lc.valid (h:Lc q n G):validB q n G=true:=by
 have hG:=h.rows
 have h1:=h.n0
 have h2:=h.n1
 have h3:=h.len
 obtain ⟨piv,R⟩:=h.form
 have e:=red_fix (fld q h.fq) R n 0 0 (by omega) (by omega) (fun i hi=>by omega) (fun i _ _=>by omega)
 unfold validB
 rw [decide_eq_true (show (1:Int)≤n by omega),decide_eq_true (show (n:Int)≤24 by omega),decide_eq_true (show (G.length:Int)≤n by omega),allWord_iff.2 fun i _ hi=>isWord_wd (hG.wd i hi)]
 simp only [Bool.true_and,decide_eq_true_eq,Int.toNat_natCast]
 rw [e]
 exact List.take_length.symm
end
theorem L100_2_3_spec {r:List Int} (hs:r.length<2^60) (hp:fnz r<r.length) {τ:Type} (κ:Nat→LS_→Option τ):∀ (f j:Nat),j≤fnz r→r.length<f+j →
  runE L100_2_3 f κ 0 [.N r.length,.L r,.I 0,.I r.length,.I j]=κ 0 [.I (fnz r)]
 | 0,j,h1,h2=>by omega
 | f+1,j,h1,h2=>by
  rw [runE_succ]
  show L100_2_3.s0 _ _ _=_
  unfold L100_2_3.s0 F112
  simp only [g_,Int.toNat_natCast,Nat.mul_one]
  rw [br_of (by simp;omega),ck_of (by simp;omega),ck_of (by simp;omega)]
  simp only [sw_zero,gB_zero]
  rcases Nat.lt_or_ge j (fnz r) with h | h
  ·rw [br_no (by rw [fz_lt h];rfl),wsucc (j:=j) (by omega)]
   exact L100_2_3_spec hs hp κ f (j+1) (by omega) (by omega)
  ·have e:j=fnz r:=by omega
   subst e
   rw [br_of (by simpa using fz_ne hp)]
theorem F82_spec {r:List Int} (hs:r.length<2^60) (hp:fnz r<r.length) {τ:Type} (k:Nat→LS_→Option τ):F82 [.L r] k=k 0 [.I (fnz r)]:=by
 have hfu:=fuel_le
 unfold F82 S100_3 L100_2_3.b
 simp only [gL_zero,gN_zero,gL_succ]
 refine (L100_2_3_spec hs hp _ fuel 0 (by omega) (by omega)).trans ?_
 simp only [sw_zero,gI_zero]
def marks (n j:Nat):List Bool:=(List.range n).map fun t=>decide (t<j)
theorem marks_len (n j:Nat):(marks n j).length=n:=by simp [marks]
theorem marks_set {n j:Nat} (hj:j<n):(marks n j).set j true=marks n (j+1):=by
 refine List.ext_getElem (by rw [List.length_set,marks_len,marks_len]) fun t h1 h2=>?_
 rw [List.length_set,marks_len] at h1
 rw [List.getElem_set]
 simp only [marks,List.getElem_map,List.getElem_range]
 by_cases e:j=t
 ·rw [if_pos e];symm;simp;omega
 ·rw [if_neg e,decide_eq_decide];omega
theorem L36_6_spec {n:Nat} (hn:n<2^20) (q a b p e:Int) (G:List (List Int)) (M:List Int) (c:Nat) {τ:Type} (κ:Nat→LS_→Option τ):∀ (f j:Nat),j≤n→n<f+j →
  runE L36_6 f κ 0 [.N n,.I n,.I j,.I q,.I n,.N G.length,.LL G,.I a,.I b,.I p,.I e,.N c,.LB (marks n j),.L M]
   = κ 0 [.N n,.I q,.I n,.N G.length,.LL G,.I a,.I b,.I p,.I e,.N c,.LB (marks n n),.L M]
 | 0,j,h1,h2=>by omega
 | f+1,j,h1,h2=>by
  have ml:=marks_len n j
  rw [runE_succ]
  show L36_6.s0 _ _ _=_
  unfold L36_6.s0
  simp only [g_,Int.toNat_natCast,Nat.mul_one,Nat.zero_add]
  by_cases hj:j<n
  ·rw [br_of (by simp;omega),ck_of (by simp;omega),ck_of (by simp;omega),wsucc (j:=j) (by omega),marks_set hj]
   exact L36_6_spec hn q a b p e G M c κ f (j+1) (by omega) (by omega)
  ·have:j=n:=by omega
   subst this
   rw [br_no (by simp)]
def fB (n:Nat) (G:List (List Int)) (k:Nat):List Bool:=(pA n G k).map fun x=>decide (x=0)
theorem fB_len (n:Nat) (G:List (List Int)) (k:Nat):(fB n G k).length=n:=by simp [fB,pA_len]
theorem fB_zero (n:Nat) (G:List (List Int)):marks n n=fB n G 0:=by
 unfold marks fB pA
 rw [List.map_replicate]
 refine List.ext_getElem (by simp) fun t h1 h2=>?_
 simp only [List.length_map,List.length_range] at h1
 simp [h1]
theorem fB_succ (n:Nat) (G:List (List Int)) (k:Nat):(fB n G k).set (fnz (G.getD k [])) false=fB n G (k+1):=by
 unfold fB
 rw [show pA n G (k+1)=(pA n G k).set (fnz (G.getD k [])) ((k+1:Nat):Int) from rfl,List.map_set]
 congr 1
theorem fB_get {n:Nat} {G:List (List Int)} {k t:Nat} (ht:t<n):(fB n G k).getD t false=decide ((pA n G k).getD t 0=0):=by
 have pl:=pA_len n G k
 unfold fB
 simp [List.getD_eq_getElem?_getD,pl,ht]
theorem L36_11_spec {n:Nat} (hn:n<2^20) {G:List (List Int)} (hG:G.length<2^20) (hp:∀ i,i<G.length→fnz (G.getD i [])<n∧(G.getD i []).length=n) (q a b p e:Int) (c:Nat) (M:List Int) {τ:Type} (κ:Nat→LS_→Option τ):∀ (f i:Nat),i≤G.length→G.length<f+i →
  runE L36_11 f κ 0 [.N n,.N G.length,.LL G,.I G.length,.I i,.I q,.I n,.N G.length,.LL G,.I a,.I b,.I p,.I e,.N c,.LB (fB n G i),.L M]
   = κ 0 [.N n,.I q,.I n,.N G.length,.LL G,.I a,.I b,.I p,.I e,.N c,.LB (fB n G G.length),.L M]
 | 0,i,h1,h2=>by omega
 | f+1,i,h1,h2=>by
  have fl:=fB_len n G i
  rw [runE_succ]
  show L36_11.s0 _ _ _=_
  unfold L36_11.s0
  simp only [g_,Int.toNat_natCast,Nat.mul_one,Nat.zero_add]
  by_cases hi:i<G.length
  ·obtain ⟨p1,p2⟩:=hp i hi
   have ih:=L36_11_spec hn hG hp q a b p e c M κ f (i+1) (by omega) (by omega)
   rw [←fB_succ] at ih
   rw [br_of (by simp;omega),ck_of (by simp;omega),ck_of (by simp;omega),ck_of (by simp),F82_spec (by omega) (by omega)]
   simp only [sw_zero,gI_zero,Int.toNat_natCast]
   generalize fnz (G.getD i [])=z at p1 p2 ih ⊢
   rw [ck_of (by simp;omega),ck_of (by simp;omega),wsucc (j:=i) (by omega)]
   exact ih
  ·have:i=G.length:=by omega
   subst this
   rw [br_no (by simp)]
theorem drow_next {q n:Nat} {G:List (List Int)} {i j:Nat} (hp:fnz (G.getD i [])<n):(drow q n (pA n G i) G j n).set (fnz (G.getD i [])) (fneg q ((G.getD i []).getD j 0))=drow q n (pA n G (i+1)) G j n :=
 ext_getD (by rw [List.length_set,drow_len,drow_len]) fun t ht=>by
  rw [List.length_set,drow_len] at ht
  have pl:=pA_len n G i
  have hA:(pA n G (i+1)).getD t 0=if fnz (G.getD i [])=t then ((i+1:Nat):Int) else (pA n G i).getD t 0:=by
   have e0:pA n G (i+1)=(pA n G i).set (fnz (G.getD i [])) ((i+1:Nat):Int):=rfl
   rw [e0,List.getD_eq_getElem?_getD,List.getElem?_set]
   by_cases e:fnz (G.getD i [])=t
   ·rw [if_pos e,if_pos e,if_pos (by rw [pl,e];exact ht)]
    rfl
   ·rw [if_neg e,if_neg e,←List.getD_eq_getElem?_getD]
  rw [drow_get ht,List.getD_eq_getElem?_getD,List.getElem?_set]
  by_cases e:fnz (G.getD i [])=t
  ·rw [if_pos e] at hA
   rw [if_pos e,if_pos (by rw [drow_len,e];exact ht),hA,if_pos ⟨ht,by omega⟩]
   rfl
  ·rw [if_neg e] at hA
   rw [if_neg e,hA,←List.getD_eq_getElem?_getD,drow_get ht]
theorem drow_first {q n:Nat} {G:List (List Int)} {j:Nat} (hj:j<n):(List.replicate n (0:Int)).set j 1=drow q n (pA n G 0) G j n:=by
 rw [drow_zero (q:=q) (A:=pA n G 0) (G:=G) hj]
 refine ext_getD (by rw [drow_len,drow_len]) fun t ht=>?_
 rw [drow_len] at ht
 have:(pA n G 0).getD t 0=0:=by simp [pA,List.getD_eq_getElem?_getD,ht]
 rw [drow_get ht,drow_get ht,this,if_neg (c:=t<0∧(0:Int)<0) (by omega),if_neg (c:=t<n∧(0:Int)<0) (by omega)]
theorem L36_23_spec {q n:Nat} {G:List (List Int)} (h:Lc q n G) (cnt:Nat) {j:Nat} (hj:j<n) (B:Int) (a b Q:Int) (LBs:List Bool) {τ:Type} (κ:Nat→LS_→Option τ):∀ (f i:Nat),i≤G.length→G.length<f+i →
  runE L36_23 f κ 0 [.N cnt,.I j,.N n,.I B,.I j,.N G.length,.LL G,.I G.length,.I i,.I Q,.I n,.N G.length,.LL G,.I a,.I b,.I (fp q),.I (fe q),.N (fm q).length,.LB LBs,.L (drow q n (pA n G i) G j n),.L (fm q)]
   = κ 0 [.N cnt,.N n,.I B,.I j,.I Q,.I n,.N G.length,.LL G,.I a,.I b,.I (fp q),.I (fe q),.N (fm q).length,.LB LBs,.L (drow q n (pA n G G.length) G j n),.L (fm q)]
 | 0,i,h1,h2=>by omega
 | f+1,i,h1,h2=>by
  have hR:=h.rows
  have hf:=hR.few
  have n1:=h.n1
  rw [runE_succ]
  show L36_23.s0 _ _ _=_
  unfold L36_23.s0
  simp only [g_,Int.toNat_natCast,Nat.mul_one,Nat.zero_add,List.drop_zero,List.take_length]
  by_cases hi:i<G.length
  ·obtain ⟨p1,p2⟩:=h.fnzs hi
   have wx:=hR.wd i hi
   have wj:=wx.2 j hj
   have ih:=L36_23_spec h cnt hj B a b Q LBs κ f (i+1) (by omega) (by omega)
   rw [←drow_next p1] at ih
   have dl:=drow_len (q:=q) (n:=n) (A:=pA n G i) (G:=G) (j:=j) (k:=n)
   rw [br_of (by simp;omega),ck_of (by simp;omega),ck_of (by simp;omega),ck_of (by simp),F82_spec (by omega) (by omega)]
   simp only [sw_zero,gI_zero,Int.toNat_natCast]
   generalize fnz (G.getD i [])=z at p1 p2 ih ⊢
   generalize G.getD i []=X at p2 wx wj ih ⊢
   rw [ck_of (by simp;omega),ck_of (by simp;omega),ck_of (by simp)]
   unfold T83
   rw [tab1_of h.fq wj.1 wj.2]
   simp only [sw_zero,gI_zero]
   rw [ck_of (by simp;omega),ck_of (by simp;omega),wsucc (j:=i) (by omega)]
   exact ih
  ·have:i=G.length:=by omega
   subst this
   rw [br_no (by simp)]
theorem L36_23_1_spec {q n:Nat} {G:List (List Int)} (h:Lc q n G) (cnt c2:Nat) {j:Nat} (hj:j<n) (B:Int) (a b Q:Int) (LBs:List Bool) (ln:List Nat) (fam:List (List Int)) {τ:Type} (κ:Nat→LS_→Option τ):∀ (f i:Nat),i≤G.length→G.length<f+i →
  runE L36_23_1 f κ 0 [.N cnt,.N c2,.I j,.N n,.I B,.I j,.N G.length,.LL G,.I G.length,.I i,.I Q,.I n,.N G.length,.LL G,.I a,.I b,.I (fp q),.I (fe q),.N (fm q).length,.LB LBs,.LN ln,.L (drow q n (pA n G i) G j n),.L (fm q),.LL fam]
   = κ 0 [.N cnt,.N c2,.N n,.I B,.I j,.I Q,.I n,.N G.length,.LL G,.I a,.I b,.I (fp q),.I (fe q),.N (fm q).length,.LB LBs,.LN ln,.L (drow q n (pA n G G.length) G j n),.L (fm q),.LL fam]
 | 0,i,h1,h2=>by omega
 | f+1,i,h1,h2=>by
  have hR:=h.rows
  have hf:=hR.few
  have n1:=h.n1
  rw [runE_succ]
  show L36_23_1.s0 _ _ _=_
  unfold L36_23_1.s0
  simp only [g_,gLN_zero,gLN_succ,Int.toNat_natCast,Nat.mul_one,Nat.zero_add,List.drop_zero,List.take_length]
  by_cases hi:i<G.length
  ·obtain ⟨p1,p2⟩:=h.fnzs hi
   have wx:=hR.wd i hi
   have wj:=wx.2 j hj
   have ih:=L36_23_1_spec h cnt c2 hj B a b Q LBs ln fam κ f (i+1) (by omega) (by omega)
   rw [←drow_next p1] at ih
   have dl:=drow_len (q:=q) (n:=n) (A:=pA n G i) (G:=G) (j:=j) (k:=n)
   rw [br_of (by simp;omega),ck_of (by simp;omega),ck_of (by simp;omega),ck_of (by simp),F82_spec (by omega) (by omega)]
   simp only [sw_zero,gI_zero,Int.toNat_natCast]
   generalize fnz (G.getD i [])=z at p1 p2 ih ⊢
   generalize G.getD i []=X at p2 wx wj ih ⊢
   rw [ck_of (by simp;omega),ck_of (by simp;omega),ck_of (by simp)]
   unfold T83
   rw [tab1_of h.fq wj.1 wj.2]
   simp only [sw_zero,gI_zero]
   rw [ck_of (by simp;omega),ck_of (by simp;omega),wsucc (j:=i) (by omega)]
   exact ih
  ·have:i=G.length:=by omega
   subst this
   rw [br_no (by simp)]
end
end Go.Proofs.Yticbdgmcofjkeaa.Ai
namespace Go.Proofs.Yticbdgmcofjkeaa.Ai
open Go Ma
noncomputable section
section
variable {q n:Nat} {G:List (List Int)}
theorem drows_succ (A:List Int) (j:Nat):drows q n A G (j+1)=if A.getD j 0=0 then drows q n A G j++[drow q n A G j n] else drows q n A G j:=by
 unfold drows
 rw [frees_succ]
 split
 ·rw [List.map_append];rfl
 ·rfl
theorem L36_17_spec1 (h:Lc q n G) (a b Q:Int) {τ:Type} (κ:Nat→LS_→Option τ):∀ (f j:Nat),j≤n→n<f+j →
  runE L36_17 f κ 1 [.N n,.N (drows q n (pA n G G.length) G j).length,.I n,.I j,.I Q,.I n,.N G.length,.LL G,.I a,.I b,.I (fp q),.I (fe q),.N (fm q).length,.LB (fB n G G.length),.LN (List.range (drows q n (pA n G G.length) G j).length),.L (fm q),.LL (drows q n (pA n G G.length) G j)]
   = κ 1 [.N (drows q n (pA n G G.length) G n).length,.I Q,.I n,.N G.length,.LL G,.I a,.I b,.I (fp q),.I (fe q),.N (fm q).length,.LN (List.range (drows q n (pA n G G.length) G n).length),.L (fm q),.LL (drows q n (pA n G G.length) G n)]
 | 0,j,h1,h2=>by omega
 | f+1,j,h1,h2=>by
  have hfu:=fuel_le
  have hR:=h.rows
  have hf:=hR.few
  have n1:=h.n1
  have hA:=h.cols
  have fl:=fB_len n G G.length
  have dl:=drows_len (q:=q) (n:=n) (A:=pA n G G.length) (G:=G) (j:=j)
  have hl:=frees_len (pA n G G.length) j
  have ds:=drows_succ (q:=q) (n:=n) (G:=G) (pA n G G.length) j
  rw [runE_succ]
  show L36_17.s1 _ _ _=_
  unfold L36_17.s1
  simp only [g_,gLN_zero,gLN_succ,Int.toNat_natCast,Nat.mul_one,Nat.zero_add]
  by_cases hj:j<n
  ·have ih:=L36_17_spec1 h a b Q κ f (j+1) (by omega) (by omega)
   have fg:=fB_get (n:=n) (G:=G) (k:=G.length) hj
   rw [br_of (by simp;omega),ck_of (by simp;omega),ck_of (by simp;omega),fg]
   by_cases c:(pA n G G.length).getD j 0=0
   ·rw [if_pos c] at ds
    rw [ds,List.length_append] at ih
    rw [decide_eq_true c,br_no (b:=!true) rfl,ck_of (by simp;omega),ck_of (by simp;omega),ck_of (by simp;omega),drow_first (q:=q) (G:=G) hj]
    unfold L36_23_1.b
    refine (L36_23_1_spec h _ _ hj n a b Q _ _ _ _ fuel 0 (by omega) (by omega)).trans ?_
    simp only [g_,sw_zero,gLN_zero,gLN_succ]
    rw [ck_of (by simp [drow_len];omega),wsucc (j:=j) (by omega),show List.range (drows q n (pA n G G.length) G j).length++[(drows q n (pA n G G.length) G j).length]=List.range ((drows q n (pA n G G.length) G j).length+1) from List.range_succ.symm]
    exact ih
   ·rw [if_neg c] at ds
    rw [ds] at ih
    rw [decide_eq_false c,br_of (b:=!false) rfl,wsucc (j:=j) (by omega)]
    exact ih
  ·have:j=n:=by omega
   subst this
   rw [br_no (by simp)]
theorem L36_17_spec0 (h:Lc q n G) (a b Q:Int) {τ:Type} (κ:Nat→LS_→Option τ):∀ (f j:Nat),j≤n→n<f+j→drows q n (pA n G G.length) G j=[] →
  runE L36_17 f κ 0 [.N n,.I n,.I j,.I Q,.I n,.N G.length,.LL G,.I a,.I b,.I (fp q),.I (fe q),.N (fm q).length,.LB (fB n G G.length),.L (fm q)]
   = if drows q n (pA n G G.length) G n=[] then κ 0 [.I Q,.I n,.N G.length,.LL G,.I a,.I b,.I (fp q),.I (fe q),.N (fm q).length,.L (fm q)]
    else κ 1 [.N (drows q n (pA n G G.length) G n).length,.I Q,.I n,.N G.length,.LL G,.I a,.I b,.I (fp q),.I (fe q),.N (fm q).length,.LN (List.range (drows q n (pA n G G.length) G n).length),.L (fm q),.LL (drows q n (pA n G G.length) G n)]
 | 0,j,h1,h2,h3=>by omega
 | f+1,j,h1,h2,h3=>by
  have hfu:=fuel_le
  have hR:=h.rows
  have hf:=hR.few
  have n1:=h.n1
  have hA:=h.cols
  have fl:=fB_len n G G.length
  have ds:=drows_succ (q:=q) (n:=n) (G:=G) (pA n G G.length) j
  rw [runE_succ]
  show L36_17.s0 _ _ _=_
  unfold L36_17.s0
  simp only [g_,gLN_zero,gLN_succ,Int.toNat_natCast,Nat.mul_one,Nat.zero_add]
  by_cases hj:j<n
  ·have fg:=fB_get (n:=n) (G:=G) (k:=G.length) hj
   rw [br_of (by simp;omega),ck_of (by simp;omega),ck_of (by simp;omega),fg]
   by_cases c:(pA n G G.length).getD j 0=0
   ·rw [if_pos c,h3,List.nil_append] at ds
    have ih:=L36_17_spec1 h a b Q κ f (j+1) (by omega) (by omega)
    rw [ds] at ih
    have hne:drows q n (pA n G G.length) G n≠[]:=fun e=>by
     have e1:(drows q n (pA n G G.length) G (j+1)).length≤(drows q n (pA n G G.length) G n).length:=by
      rw [drows_len,drows_len]
      have:∀ d,(frees (pA n G G.length) (j+1)).length≤(frees (pA n G G.length) (j+1+d)).length:=fun d=>by
       induction d with
       | zero=>exact Nat.le_refl _
       | succ d ihd =>
        rw [←Nat.add_assoc,frees_succ _ (j+1+d)]
        split
        ·rw [List.length_append];omega
        ·exact ihd
      have:=this (n-(j+1))
      rw [show j+1+(n-(j+1))=n by omega] at this
      exact this
     rw [ds,e] at e1
     simp at e1
    rw [if_neg hne,decide_eq_true c,br_no (b:=!true) rfl,ck_of (by simp;omega),ck_of (by simp;omega),ck_of (by simp;omega),drow_first (q:=q) (G:=G) hj]
    unfold L36_23.b
    refine (L36_23_spec h _ hj n a b Q _ _ fuel 0 (by omega) (by omega)).trans ?_
    simp only [g_,sw_zero,gLN_zero,gLN_succ]
    rw [ck_of (by simp [drow_len]),wsucc (j:=j) (by omega)]
    exact ih
   ·rw [if_neg c,h3] at ds
    rw [decide_eq_false c,br_of (b:=!false) rfl,wsucc (j:=j) (by omega)]
    exact L36_17_spec0 h a b Q κ f (j+1) (by omega) (by omega) ds
  ·have:j=n:=by omega
   subst this
   rw [br_no (by simp),if_pos h3]
theorem S84_2_spec (hn:1≤n) {τ:Type} (k:Nat→LS_→Option τ):S84_2 [.I (fp q),.I (fe q),.N (fm q).length,.I n,.L (fm q)] k=k 0 [.L (fm q)]:=by
 have hfu:=fuel_le
 obtain ⟨f,hf⟩:∃ f,fuel=f+1:=⟨fuel-1,by omega⟩
 have key:∀ (κ:Nat→LS_→Option τ),runE L84_3_2 fuel κ 0 [.I n,.I 0,.L (fm q),.I (fp q),.I (fe q),.N (fm q).length,.I 0]=κ 0 [.I 0,.L (fm q),.I (fp q),.I (fe q),.N (fm q).length,.I 0]:=fun κ=>by
  rw [hf,runE_succ]
  show L84_3_2.s0 _ _ _=_
  unfold L84_3_2.s0
  simp only [g_]
  rw [br_of (by simp;omega),br_no (by simp)]
 unfold S84_2 L84_3_2.b
 simp only [g_]
 refine (key _).trans ?_
 simp only [g_,sw_zero]
 rw [ck_of (by simp)]
theorem Mx_take {perm:List Nat} {fam m:List (List Int)} (h:Mx perm fam m) {r:Nat} (hr:r≤m.length):(perm.take r).map (fun y=>fam.getD y [])=m.take r:=by
 have hl:=h.len
 refine ext_rows (by simp;omega) fun i hi=>?_
 simp only [List.length_map,List.length_take] at hi
 have hi2:i<r:=by omega
 rw [take_get hi2,←h.eq i (by omega)]
 simp [List.getD_eq_getElem?_getD,List.getElem?_take,hi2,show i<perm.length by omega]
theorem Mx_lt {perm:List Nat} {fam m:List (List Int)} (h:Mx perm fam m) {r:Nat} (hr:r≤m.length):((perm.take r).all fun y=>ltN y fam.length)=true:=by
 rw [List.all_eq_true]
 intro y hy
 obtain ⟨i,hi,rfl⟩:=List.getElem_of_mem hy
 have hl:=h.len
 rw [List.length_take] at hi
 have:=h.lt i (by omega)
 rw [List.getD_eq_getElem?_getD,List.getElem?_eq_getElem (by omega)] at this
 simpa using this
theorem dualR_eq (h:Lc q n G):(red (fadd q) (fmul q) (fneg q) (finv q) n 0 0 (drows q n (pA n G G.length) G n)).1.take (red (fadd q) (fmul q) (fneg q) (finv q) n 0 0 (drows q n (pA n G G.length) G n)).2=dualR q n G:=rfl
theorem F36_spec (h:Lc q n G):(dualR q n G=[]∧∀ {τ:Type} (k:Nat→LS_→Option τ),F36 [.I q,.I n,.LL G] k=k 0 [.I q,.I n])∨(∀ {τ:Type} (k:Nat→LS_→Option τ),F36 [.I q,.I n,.LL G] k=k 1 [.I q,.I n,.N (dualR q n G).length,.LL (dualR q n G)])∨(dualR q n G=[]∧∀ {τ:Type} (k:Nat→LS_→Option τ),F36 [.I q,.I n,.LL G] k=k 2 [.I q,.I n,.N 0]):=by
 have hfu:=fuel_le
 have hq:=h.fq
 have hR:=h.rows
 have n0:=h.n0
 have n1:=h.n1
 have hf:=h.len
 have hA:=h.cols
 have hD:=drows_rows hq hR hA
 have hs:∀ i,(G.getD i []).length<2^60:=short2 fun r hr=>by
  obtain ⟨i,hi,rfl⟩:=List.getElem_of_mem hr
  have:=(hR.wd i hi).1
  rw [List.getD_eq_getElem?_getD,List.getElem?_eq_getElem hi] at this
  simp at this
  omega
 have start:∀ {τ:Type} (k:Nat→LS_→Option τ),F36 [.I q,.I n,.LL G] k=(if drows q n (pA n G G.length) G n=[] then k 0 [.I q,.I n] else
   S84_0 [.I (fp q),.I (fe q),.N (fm q).length,.I n,.N (drows q n (pA n G G.length) G n).length,.L (fm q),.LN (List.range (drows q n (pA n G G.length) G n).length),.LL (drows q n (pA n G G.length) G n)]
    (fun j l=>(sw (ck (true&&(true&&((true&&(List.all (List.take ((gN l 0)*1) (List.drop 0 (gLN l 2))) (fun y=>(ltN y (List.length (gLL l 3))))))&&true)))
     (k 1 [.I q,.I n,.N (gN l 0),.LL (List.map (fun y=>(List.getD (gLL l 3) y [])) (List.take ((gN l 0)*1) (List.drop 0 (gLN l 2))))]))
     (sw (k 2 [.I q,.I n,.N (gN l 0)]) (fun _=>none))) j)):=fun {τ} k=>by
  unfold F36 T37
  simp only [g_]
  rw [ck_of (by simp),F37_spec hq n (by omega) hs,h.valid]
  simp only [sw_zero,gB_zero]
  rw [br_no (b:=!true) rfl,V81_spec hq]
  simp only [g_,sw_zero,Int.toNat_natCast]
  rw [ck_of (by simp;omega)]
  unfold L36_6.b
  rw [show List.replicate n false=marks n 0 by
   refine List.ext_getElem (by rw [marks_len];simp) fun t h1 h2=>?_
   simp [marks]]
  refine (L36_6_spec (by omega) q 0 0 (fp q) (fe q) G (fm q) _ _ fuel 0 (by omega) (by omega)).trans ?_
  rw [fB_zero n G]
  simp only [g_,sw_zero]
  unfold L36_11.b
  refine (L36_11_spec (by omega) (by omega) (fun i hi=>h.fnzs hi) q 0 0 (fp q) (fe q) _ (fm q) _ fuel 0 (by omega) (by omega)).trans ?_
  simp only [g_,sw_zero]
  unfold L36_17.b
  refine (L36_17_spec0 h 0 0 q _ fuel 0 (by omega) (by omega) rfl).trans ?_
  by_cases he:drows q n (pA n G G.length) G n=[]
  ·rw [if_pos he,if_pos he]
   simp only [g_,sw_zero]
   rw [S84_2_spec n0]
   simp only [sw_zero]
  ·rw [if_neg he,if_neg he]
   simp only [g_,sw_one,sw_zero,gLN_succ,gLN_zero] <;> rfl
 by_cases he:drows q n (pA n G G.length) G n=[]
 ·refine .inl ⟨?_,fun {τ} k=>by rw [start,if_pos he]⟩
  rw [←dualR_eq h,he]
  exact List.length_eq_zero_iff.1 (by rw [List.length_take,(red_len (add:=fadd q) (mul:=fmul q) (neg:=fneg q) (inv:=finv q) n 0 0 []).1];simp)
 ·obtain ⟨perm',fam',d1,d2⟩:=S84_0_spec hq hD (Mx_copy (drows q n (pA n G G.length) G n))
  obtain ⟨a,b,d⟩:=red_len (add:=fadd q) (mul:=fmul q) (neg:=fneg q) (inv:=finv q) n 0 0 (drows q n (pA n G G.length) G n)
  have d:=d (Nat.zero_le _)
  have hl:(dualR q n G).length=(red (fadd q) (fmul q) (fneg q) (finv q) n 0 0 (drows q n (pA n G G.length) G n)).2:=by
   rw [←dualR_eq h,List.length_take]
   omega
  by_cases hz:(red (fadd q) (fmul q) (fneg q) (finv q) n 0 0 (drows q n (pA n G G.length) G n)).2=0
  ·refine .inr (.inr ⟨List.length_eq_zero_iff.1 (by rw [hl,hz]),fun {τ} k=>?_⟩)
   rw [start,if_neg he,d2,if_pos hz]
   rfl
  ·refine .inr (.inl fun {τ} k=>?_)
   rw [start,if_neg he,d2,if_neg hz]
   simp only [sw_zero,gN_zero,gLN_succ,gLN_zero,gLL_succ,gLL_zero,Nat.mul_one,List.drop_zero]
   rw [ck_of (by rw [Mx_lt d1 (by omega)];rfl),Mx_take d1 (by omega),hl,←dualR_eq h]
def T36 {τ:Type} (l:LS_) (k:Nat→LS_→Option τ):Option τ:=wrapB F36.E (.v pCode) l k
def T36.E:Ent P:=F36.E.wrap (.v pCode)
theorem T36_spec (h:Lc q n G) {τ:Type} (k:Nat→LS_→Option τ):T36 [.I q,.I n,.LL G] k=k 0 [.I q,.I n,.LL (dualR q n G)]:=by
 rcases F36_spec h with ⟨e,h1⟩ | h1 | ⟨e,h1⟩
 ·rw [e]
  exact wrap_of (e:=F36.E) (p:=.v pCode) (j:=0) (l2:=[.I q,.I n]) (c:=true) (ls':=[.I q,.I n,.LL []]) (by intro τ κ;kernel_rfl) rfl (fun κ=>h1 κ)
 ·generalize dualR q n G=D at h1 ⊢
  exact wrap_of (e:=F36.E) (p:=.v pCode) (j:=1) (l2:=[.I q,.I n,.N D.length,.LL D]) (c:=(true&&(true&&(true&&(true&&(true&&(decide (D.length=D.length)&&true))))))) (ls':=[.I q,.I n,.LL D]) (by intro τ κ;kernel_rfl) (by simp) (fun κ=>h1 κ)
 ·rw [e]
  exact wrap_of (e:=F36.E) (p:=.v pCode) (j:=2) (l2:=[.I q,.I n,.N 0]) (c:=true) (ls':=[.I q,.I n,.LL []]) (by intro τ κ;kernel_rfl) rfl (fun κ=>h1 κ)
end
end
end Go.Proofs.Yticbdgmcofjkeaa.Ai
namespace Go.Proofs.Yticbdgmcofjkeaa.Ai
open Go Go.RowKit
noncomputable section
variable {τ:Type} (t:Nat) (nx ex:Nat→LS_→Option τ) (l:LS_) (k κ:Nat→LS_→Option τ)
def L49_6.H:LHead:=⟨false,true,0,73734,73734,60129542468,256,0,[(PS.mk (us 2 ((pp 0)::us 3 ((pp 1)::us 1 ((rr 2)::us 24 (qR::pI::pI::us 15 []))))) [(oG [pI,pI,qM]),(oG [pI,pI,qR]),oI])],[((Out.exit 0),(PS.mk (us 8 ((rr 0)::us 42 [])) [oI]))]⟩
def L49_6.O:Orc P:=⟨[],[],[S94_1.E],40⟩
def L49_6.s0:Option τ :=
 br (ltI (gI l 4) (gI l 3))
 (ck (((leI 0 (gI l 4))&&(ltI (gI l 4) (gN l 1)))&&true)
 (ck (ltN ((Int.toNat (gI l 4))*1) (List.length (gL l 2)))
 (ck (((leI 0 (gI l 4))&&(ltI (gI l 4) (gN l 7)))&&true)
 (ck (ltN ((Int.toNat (gI l 4))*1) (List.length (gLL l 8)))
 (S94_1 [.I (gI l 9),.I (gI l 10),.N (gN l 11),.L (gL l 12),.N (gN l 0),.I (List.getD (gL l 2) ((Int.toNat (gI l 4))*1) 0),.N (List.length (List.getD (gLL l 8) ((Int.toNat (gI l 4))*1) [])),.L (List.getD (gLL l 8) ((Int.toNat (gI l 4))*1) []),.L (gL l 13)]
 (fun j A=>(sw (nx 0 [.N (gN l 0),.N (gN l 1),.L (gL l 2),.I (gI l 3),.I (wr .i64 ((gI l 4)+1)),.I (gI l 5),.I (gI l 6),.N (gN l 7),.LL (gLL l 8),.I (gI l 9),.I (gI l 10),.N (gN l 11),.L (gL l 12),.L (gL A 0)])
 (fun _=>none)) j))))))
 (ex 0 [.N (gN l 0),.L (gL l 13)])
theorem L49_6.e0:LEq L49_6.O L49_6.H 0 L49_6.s0:=by intro τ next κ l;kernel_rfl
def L49_6:LStep P Cf:=LStep.mk1 (by decide) L49_6.e0
def L49_6.b:Option τ:=runE L49_6 fuel κ t l
def L49_6.E:LEnt P:=LStep.E L49_6
def F49.ps:List PV2:=[pCode,pR]
def F49.sh:List PA:=[(PA.mk (PV3.tup [nS,(pC 1)]) []),(PA.mk (PV3.tup [(rr 0),(pC 0)]) [cI])]
def F49.O:Orc P:=⟨[T37.E,F93.E,T81.E],[L49_6.E],[],40⟩
def F49:Option τ :=
 ck (((eqM (List.length (gLL l 2)) (List.length (gLL l 2)))&&true)&&true)
 (T37 [.I (gI l 0),.I (gI l 1),.LL (gLL l 2)]
 (fun j A=>(sw (br (!(gB A 0))
 (k 0 [])
 (ck ((eqM (List.length (gL l 3)) (List.length (gL l 3)))&&true)
 (F93 [.I (gI l 0),.I (((List.length (gLL l 2)):Nat):Int),.L (gL l 3)]
 (fun j B=>(sw (br (!(gB B 0))
 (k 0 [])
 (T81 [.I (gI l 0)]
 (fun j C=>(sw (ck (((leI 0 (gI l 1))&&(leI (gI l 1) (gI l 1)))&&(leI ((gI l 1)*9) 1099511627776))
 (L49_6.b 0 [.N (Int.toNat (gI l 1)),.N (List.length (gL l 3)),.L (gL l 3),.I (((List.length (gL l 3)):Nat):Int),.I 0,.I (gI l 0),.I (gI l 1),.N (List.length (gLL l 2)),.LL (gLL l 2),.I (gI C 0),.I (gI C 1),.N (List.length (gL C 2)),.L (gL C 2),.L (List.replicate (Int.toNat (gI l 1)) (0:Int))]
 (fun j D=>(sw (k 1 [.N (gN D 0),.L (gL D 1)])
 (fun _=>none)) j)))
 (fun _=>none)) j)))
 (fun _=>none)) j))))
 (fun _=>none)) j))
theorem F49.eq:FEq F49.O 18 F49.ps F49.sh F49:=by intro τ l κ;kernel_rfl
def F49.E:Ent P:=mkF F49.eq
end
end Go.Proofs.Yticbdgmcofjkeaa.Ai
namespace Go.Proofs.Yticbdgmcofjkeaa.Ma
def InQ (q:Nat) (l:List Int):Prop:=∀ j,j<l.length→0≤l.getD j 0∧l.getD j 0<q
section
variable {q:Nat} {add mul:Int→Int→Int} {neg inv:Int→Int} {n:Nat}
theorem comb_mem (F:Fld q add mul neg inv):∀ (G:List (List Int)) (cs z:List Int),cs.length=G.length→InQ q cs→comb add mul G cs z∈words q add mul G z
 | [],cs,z,hl,_=>by
  have:cs=[]:=List.length_eq_zero_iff.1 hl
  subst this
  unfold words comb
  simp
 | g::gs,[],z,hl,_=>by simp at hl
 | g::gs,c::cs,z,hl,hc=>by
  have c0:=hc 0 (by simp)
  rw [List.getD_cons_zero] at c0
  obtain ⟨a,ha⟩:∃ a:Nat,c=a:=⟨c.toNat,by omega⟩
  subst ha
  unfold words comb
  exact List.mem_flatMap.2 ⟨a,by simp;omega,comb_mem F gs cs _ (by simpa using hl) fun j hj=>by simpa using hc (j+1) (by simpa using hj)⟩
theorem mem_comb (F:Fld q add mul neg inv):∀ (G:List (List Int)) (z x:List Int),x∈words q add mul G z→∃ cs,cs.length=G.length∧InQ q cs∧x=comb add mul G cs z
 | [],z,x,h=>⟨[],rfl,fun j hj=>by simp at hj,by unfold words at h;rw [List.mem_singleton.1 h];rfl⟩
 | g::gs,z,x,h=>by
  unfold words at h
  obtain ⟨a,ha,h⟩:=List.mem_flatMap.1 h
  have a1:a<q:=by simpa using ha
  obtain ⟨cs,h1,h2,h3⟩:=mem_comb F gs _ x h
  refine ⟨(a:Int)::cs,by simp [h1],fun j hj=>?_,?_⟩
  ·cases j with
   | zero=>rw [List.getD_cons_zero];omega
   | succ j=>rw [List.getD_cons_succ];exact h2 j (by simpa using hj)
  ·rw [h3]
   rfl
theorem comb_at (F:Fld q add mul neg inv):∀ (G:List (List Int)) (piv:Nat→Nat) (cs z:List Int),Rref q n G piv→cs.length=G.length→InQ q cs→Wd q n z→∀ i,i<G.length→(comb add mul G cs z).getD (piv i) 0=add (z.getD (piv i) 0) (cs.getD i 0)
 | [],piv,cs,z,R,hl,hc,hz,i,hi=>by simp at hi
 | g::gs,piv,[],z,R,hl,hc,hz,i,hi=>by simp at hl
 | g::gs,piv,c::cs,z,R,hl,hc,hz,i,hi=>by
  have q1:=F.one_lt
  have c0:=hc 0 (by simp)
  rw [List.getD_cons_zero] at c0
  have hg:Wd q n g:=by simpa using R.wd 0 (by simp)
  have hv:=Wd.vmul F c0.1 c0.2 hg
  have wz:=hz.vadd F hv
  have hl':cs.length=gs.length:=by simpa using hl
  have hc':InQ q cs:=fun j hj=>by simpa using hc (j+1) (by simpa using hj)
  have at_:∀ j,j<n→(vadd add z (vmul mul c g)).getD j 0=add (z.getD j 0) (mul c (g.getD j 0)):=fun j hj=>by
   rw [vadd_get (by rw [hz.1,hv.1]) (by rw [hz.1];exact hj),vmul_get (by rw [hg.1];exact hj)]
  unfold comb
  cases i with
  | zero =>
   have p0:=R.lt 0 (by simp)
   have g1:g.getD (piv 0) 0=1:=by simpa [ent] using R.one 0 (by simp)
   rw [words_col F p0 gs _ R.tail.wd (fun i hi=>by simpa [ent] using R.zero 0 (i+1) (by simp) (by simpa using hi) (by omega)) wz _ (comb_mem F gs cs _ hl' hc'),at_ _ p0,g1,mul_one F c0.1 c0.2,List.getD_cons_zero]
  | succ i =>
   have hi':i<gs.length:=by simpa using hi
   have pi:=R.lt (i+1) (by simpa using hi)
   have g0:g.getD (piv (i+1)) 0=0:=by simpa [ent] using R.zero (i+1) 0 (by simpa using hi) (by simp) (by omega)
   have zp:=hz.2 (piv (i+1)) pi
   rw [comb_at F gs _ cs _ R.tail hl' hc' wz i hi',at_ _ pi,g0,mul_zero F c0.1 c0.2,add_zero F zp.1 zp.2,List.getD_cons_succ]
end
end Go.Proofs.Yticbdgmcofjkeaa.Ma
namespace Go.Proofs.Yticbdgmcofjkeaa.Ai
open Go Ma
noncomputable section
section
variable {q n:Nat} {G:List (List Int)}
theorem Lc.short {q n:Nat} {G:List (List Int)} (h:Lc q n G):∀ i,(G.getD i []).length<2^60:=short2 fun r hr=>by
 obtain ⟨i,hi,rfl⟩:=List.getElem_of_mem hr
 have:=(h.rows.wd i hi).1
 have:=h.n1
 rw [List.getD_eq_getElem?_getD,List.getElem?_eq_getElem hi] at *
 simp at *
 omega
theorem isWord_to {l:List Int} (h:isWord q n l=true):Wd q n l:=by
 have:=isWord_iff.1 h
 exact ⟨by omega,fun j hj=>this.2 j (by omega) (by omega)⟩
theorem L49_6_spec (h:Lc q n G) {l:List Int} (hl:l.length=G.length) (hi:InQ q l) (a b:Int) {τ:Type} (κ:Nat→LS_→Option τ):∀ (f i:Nat) (w:List Int),Wd q n w→i≤G.length→G.length<f+i →
  runE L49_6 f κ 0 [.N n,.N l.length,.L l,.I l.length,.I i,.I a,.I b,.N G.length,.LL G,.I (fp q),.I (fe q),.N (fm q).length,.L (fm q),.L w]
   = κ 0 [.N n,.L (comb (fadd q) (fmul q) (G.drop i) (l.drop i) w)]
 | 0,i,w,hw,h1,h2=>by omega
 | f+1,i,w,hw,h1,h2=>by
  have F:=fld q h.fq
  have hR:=h.rows
  have gf:=hR.few
  have n1:=h.n1
  rw [runE_succ]
  show L49_6.s0 _ _ _=_
  unfold L49_6.s0
  simp only [g_,Int.toNat_natCast,Nat.mul_one]
  by_cases hj:i<G.length
  ·have wg:=hR.wd i hj
   have li:=hi i (by omega)
   have hv:=Wd.vmul F li.1 li.2 wg
   rw [br_of (by simp;omega),ck_of (by simp;omega),ck_of (by simp;omega),ck_of (by simp;omega),ck_of (by simp;omega),S94_1_spec h.fq (by omega) wg hw li.1 li.2]
   simp only [sw_zero,gL_zero]
   rw [wsucc (j:=i) (by omega),drop_cons [] hj,drop_cons 0 (show i<l.length by omega)]
   exact L49_6_spec h hl hi a b κ f (i+1) _ (hw.vadd F hv) (by omega) (by omega)
  ·have:i=G.length:=by omega
   subst this
   rw [br_no (by simp;omega),List.drop_length]
   rfl
theorem F49_ok (h:Lc q n G) {l:List Int} (hw:isWord q G.length l=true) {τ:Type} (k:Nat→LS_→Option τ):F49 [.I q,.I n,.LL G,.L l] k=k 1 [.N n,.L (comb (fadd q) (fmul q) G l (List.replicate n 0))]:=by
 have hfu:=fuel_le
 have n0:=h.n0
 have n1:=h.n1
 have gl:=h.len
 have qq:=qs_lt h.fq
 have wl:=isWord_to hw
 have ll:=wl.1
 unfold F49 T37
 simp only [g_]
 rw [ck_of (by simp),F37_spec h.fq n (by omega) h.short,h.valid]
 simp only [sw_zero,gB_zero]
 rw [br_no (b:=!true) rfl,ck_of (by simp),F93_spec _ _ (by omega),hw]
 simp only [sw_zero,gB_zero]
 rw [br_no (b:=!true) rfl,T81_spec h.fq]
 simp only [g_,sw_zero,Int.toNat_natCast]
 rw [ck_of (by simp;omega)]
 unfold L49_6.b
 refine (L49_6_spec h ll (fun j hj=>wl.2 j (by omega)) q n _ fuel 0 _ (Wd.zeros (by omega)) (by omega) (by omega)).trans ?_
 simp only [sw_zero,gN_zero,gL_succ,gL_zero,List.drop_zero]
def T49 {τ:Type} (l:LS_) (k:Nat→LS_→Option τ):Option τ:=wrapB F49.E (.tup [pR,pI]) l k
def T49.E:Ent P:=F49.E.wrap (.tup [pR,pI])
theorem T49_ok (h:Lc q n G) {l:List Int} (hw:isWord q G.length l=true) {τ:Type} (k:Nat→LS_→Option τ):T49 [.I q,.I n,.LL G,.L l] k=k 0 [.L (comb (fadd q) (fmul q) G l (List.replicate n 0)),.I 0]:=by
 have h2:=fun {τ:Type} (κ:Nat→LS_→Option τ)=>F49_ok h hw κ
 have hl:=isWord_to hw
 have wx:=words_wd (fld q h.fq) G _ h.rows.wd (Wd.zeros (q:=q) (n:=n) (by have:=qs_lt h.fq;omega)) _ (comb_mem (fld q h.fq) G l (List.replicate n 0) hl.1 fun j hj=>hl.2 j (by rw [←hl.1];exact hj))
 have xl:=wx.1
 generalize comb (fadd q) (fmul q) G l (List.replicate n 0)=M at h2 xl ⊢
 rw [←xl] at h2
 have:=wrap_of (e:=F49.E) (p:=.tup [pR,pI]) (j:=1) (l2:=[.N M.length,.L M]) (c:=(true&&(true&&true))&&(true&&(true&&(decide (M.length=(List.take (M.length*1) (List.drop 0 M)).length)&&(true&&true))))) (ls':=[.L (List.take (M.length*1) (List.drop 0 M)),.I 0]) (by intro τ κ;kernel_rfl) (by simp) (k:=k) (fun κ=>by rw [xl] at h2 ⊢;exact h2 κ)
 rw [Nat.mul_one,List.drop_zero,List.take_length] at this
 exact this
end
end
end Go.Proofs.Yticbdgmcofjkeaa.Ai
namespace Go.Proofs.Yticbdgmcofjkeaa.Ai
open Go Go.RowKit
noncomputable section
variable {τ:Type} (t:Nat) (nx ex:Nat→LS_→Option τ) (l:LS_) (k κ:Nat→LS_→Option τ)
def L47_5.H:LHead:=⟨false,true,0,81925,81925,1879048262,70,0,[(PS.mk (us 1 (qR::(pp 0)::us 3 ((rr 1)::us 21 (qM::pI::pI::us 28 [])))) [(oG [pI,pI,qM]),oI])],[((Out.exit 0),(PS.mk (us 1 (qR::(pp 0)::us 3 ((rr 1)::us 52 []))) [(oG [pI,pI,qM]),oI]))]⟩
def L47_5.O:Orc P:=⟨[F82.E],[],[],40⟩
def L47_5.s0:Option τ :=
 br (ltI (gI l 6) (gI l 5))
 (ck (((leI 0 (gI l 6))&&(ltI (gI l 6) (gN l 3)))&&true)
 (ck (ltN ((Int.toNat (gI l 6))*1) (List.length (gLL l 4)))
 (ck ((eqM (List.length (List.getD (gLL l 4) ((Int.toNat (gI l 6))*1) [])) (List.length (List.getD (gLL l 4) ((Int.toNat (gI l 6))*1) [])))&&true)
 (F82 [.L (List.getD (gLL l 4) ((Int.toNat (gI l 6))*1) [])]
 (fun j A=>(sw (ck (((leI 0 (gI A 0))&&(ltI (gI A 0) (gN l 0)))&&true)
 (ck (ltN ((Int.toNat (gI A 0))*1) (List.length (gL l 1)))
 (ck (((leI 0 (gI l 6))&&(ltI (gI l 6) (gN l 2)))&&true)
 (ck ((leN ((0+((Int.toNat (gI l 6))*1))+1) (List.length (gL l 11)))&&true)
 (nx 0 [.N (gN l 0),.L (gL l 1),.N (gN l 2),.N (gN l 3),.LL (gLL l 4),.I (gI l 5),.I (wr .i64 ((gI l 6)+1)),.I (gI l 7),.I (gI l 8),.N (gN l 9),.LL (gLL l 10),.L (List.set (gL l 11) (0+((Int.toNat (gI l 6))*1)) (List.getD (gL l 1) ((Int.toNat (gI A 0))*1) 0))])))))
 (fun _=>none)) j)))))
 (ex 0 [.N (gN l 0),.L (gL l 1),.N (gN l 2),.I (gI l 7),.I (gI l 8),.N (gN l 9),.LL (gLL l 10),.L (gL l 11)])
theorem L47_5.e0:LEq L47_5.O L47_5.H 0 L47_5.s0:=by intro τ next κ l;kernel_rfl
def L47_5:LStep P Cf:=LStep.mk1 (by decide) L47_5.e0
def L47_5.b:Option τ:=runE L47_5 fuel κ t l
def L47_5.E:LEnt P:=LStep.E L47_5
def F47.ps:List PV2:=[pCode,pR]
def F47.sh:List PA:=[(PA.mk (PV3.tup [nS,(pC 1)]) []),(PA.mk (PV3.tup [nS,(pC 6)]) []),(PA.mk (PV3.tup [qR,(pC 0)]) [])]
def F47.O:Orc P:=⟨[T37.E,F93.E,T49.E,F88.E],[L47_5.E],[],40⟩
def F47:Option τ :=
 ck (((eqM (List.length (gLL l 2)) (List.length (gLL l 2)))&&true)&&true)
 (T37 [.I (gI l 0),.I (gI l 1),.LL (gLL l 2)]
 (fun j A=>(sw (br (!(gB A 0))
 (k 0 [])
 (ck ((eqM (List.length (gL l 3)) (List.length (gL l 3)))&&true)
 (F93 [.I (gI l 0),.I (gI l 1),.L (gL l 3)]
 (fun j B=>(sw (br (!(gB B 0))
 (k 0 [])
 (ck (((leI 0 (List.length (gLL l 2)))&&(leI (((List.length (gLL l 2)):Nat):Int) (((List.length (gLL l 2)):Nat):Int)))&&(leI ((((List.length (gLL l 2)):Nat):Int)*9) 1099511627776))
 (L47_5.b 0 [.N (List.length (gL l 3)),.L (gL l 3),.N (Int.toNat (((List.length (gLL l 2)):Nat):Int)),.N (List.length (gLL l 2)),.LL (gLL l 2),.I (((List.length (gLL l 2)):Nat):Int),.I 0,.I (gI l 0),.I (gI l 1),.N (List.length (gLL l 2)),.LL (gLL l 2),.L (List.replicate (Int.toNat (((List.length (gLL l 2)):Nat):Int)) (0:Int))]
 (fun j C=>(sw (ck (((eqM (gN C 5) (List.length (gLL C 6)))&&true)&&((eqM (gN C 2) (List.length (List.take ((gN C 2)*1) (List.drop 0 (gL C 7)))))&&true))
 (T49 [.I (gI C 3),.I (gI C 4),.LL (gLL C 6),.L (List.take ((gN C 2)*1) (List.drop 0 (gL C 7)))]
 (fun j D=>(sw (br ((gI D 1) != 0)
 (k 1 [])
 (ck ((eqM (List.length (gL D 0)) (List.length (gL D 0)))&&((eqM (gN C 0) (List.length (gL C 1)))&&true))
 (F88 [.L (gL D 0),.L (gL C 1)]
 (fun j E=>(sw (br (!(gB E 0))
 (k 1 [])
 (k 2 [.N (gN C 2),.L (List.take ((gN C 2)*1) (List.drop 0 (gL C 7)))]))
 (fun _=>none)) j))))
 (fun _=>none)) j)))
 (fun _=>none)) j))))
 (fun _=>none)) j))))
 (fun _=>none)) j))
theorem F47.eq:FEq F47.O 20 F47.ps F47.sh F47:=by intro τ l κ;kernel_rfl
def F47.E:Ent P:=mkF F47.eq
end
end Go.Proofs.Yticbdgmcofjkeaa.Ai
namespace Go.Proofs.Yticbdgmcofjkeaa.Ai
open Go Go.RowKit
noncomputable section
variable {τ:Type} (t:Nat) (nx ex:Nat→LS_→Option τ) (l:LS_) (k κ:Nat→LS_→Option τ)
def L97_3.H:LHead:=⟨false,true,0,286723,286723,3214,128,0,[(PS.mk (us 1 (qR::qR::(pp 0)::us 3 (pI::us 2 (pI::pI::us 19 [])))) [(oG [pI,pI,qR])])],[((Out.exit 0),(PS.mk (us 7 (pI::us 23 [])) []))]⟩
def L97_3.O:Orc P:=⟨[T104.E,T103.E],[],[],40⟩
def L97_3.s0:Option τ :=
 br (ltI (gI l 6) (gI l 5))
 (ck (((leI 0 (gI l 6))&&(ltI (gI l 6) (gN l 0)))&&true)
 (ck (ltN ((Int.toNat (gI l 6))*1) (List.length (gL l 1)))
 (ck (((leI 0 (gI l 6))&&(ltI (gI l 6) (gN l 2)))&&true)
 (ck (ltN ((Int.toNat (gI l 6))*1) (List.length (gL l 3)))
 (ck (((eqM (gN l 9) (List.length (gL l 10)))&&true)&&true)
 (T104 [.I (gI l 7),.I (gI l 8),.L (gL l 10),.I (List.getD (gL l 1) ((Int.toNat (gI l 6))*1) 0),.I (List.getD (gL l 3) ((Int.toNat (gI l 6))*1) 0)]
 (fun j A=>(sw (ck (((eqM (gN l 9) (List.length (gL l 10)))&&true)&&true)
 (T103 [.I (gI l 7),.I (gI l 8),.L (gL l 10),.I (gI l 4),.I (gI A 0)]
 (fun j B=>(sw (nx 0 [.N (gN l 0),.L (gL l 1),.N (gN l 2),.L (gL l 3),.I (gI B 0),.I (gI l 5),.I (wr .i64 ((gI l 6)+1)),.I (gI l 7),.I (gI l 8),.N (gN l 9),.L (gL l 10)])
 (fun _=>none)) j)))
 (fun _=>none)) j)))))))
 (ex 0 [.I (gI l 4)])
theorem L97_3.e0:LEq L97_3.O L97_3.H 0 L97_3.s0:=by intro τ next κ l;kernel_rfl
def L97_3:LStep P Cf:=LStep.mk1 (by decide) L97_3.e0
def L97_3.b:Option τ:=runE L97_3 fuel κ t l
def L97_3.E:LEnt P:=LStep.E L97_3
def F97.ps:List PV2:=[(PV2.agg [iI,iI,aI]),pR,pR]
def F97.sh:List PA:=[(PA.mk (PV3.v pI) [])]
def F97.O:Orc P:=⟨[],[L97_3.E],[],40⟩
def F97:Option τ :=
 L97_3.b 0 [.N (List.length (gL l 3)),.L (gL l 3),.N (List.length (gL l 4)),.L (gL l 4),.I 0,.I (((List.length (gL l 3)):Nat):Int),.I 0,.I (gI l 0),.I (gI l 1),.N (List.length (gL l 2)),.L (gL l 2)]
 (fun j A=>(sw (k 0 [.I (gI A 0)])
 (fun _=>none)) j)
theorem F97.eq:FEq F97.O 70 F97.ps F97.sh F97:=by intro τ l κ;kernel_rfl
def F97.E:Ent P:=mkF F97.eq
def L57_7.H:LHead:=⟨false,true,0,90119,90119,481036337730,512,0,[(PS.mk (us 1 (qR::us 4 ((pp 0)::us 2 ((rr 1)::us 26 (qM::pI::pI::us 13 []))))) [(oG [pI,pI,qR]),oI])],[((Out.exit 0),(PS.mk (us 9 ((rr 0)::us 42 [])) [oI]))]⟩
def L57_7.O:Orc P:=⟨[F97.E],[],[],40⟩
def L57_7.s0:Option τ :=
 br (ltI (gI l 6) (gI l 5))
 (ck (((leI 0 (gI l 6))&&(ltI (gI l 6) (gN l 3)))&&true)
 (ck (ltN ((Int.toNat (gI l 6))*1) (List.length (gLL l 4)))
 (ck (((eqM (gN l 9) (List.length (gL l 10)))&&true)&&((eqM (List.length (List.getD (gLL l 4) ((Int.toNat (gI l 6))*1) [])) (List.length (List.getD (gLL l 4) ((Int.toNat (gI l 6))*1) [])))&&((eqM (gN l 0) (List.length (gL l 1)))&&true)))
 (F97 [.I (gI l 7),.I (gI l 8),.L (gL l 10),.L (List.getD (gLL l 4) ((Int.toNat (gI l 6))*1) []),.L (gL l 1)]
 (fun j A=>(sw (ck (((leI 0 (gI l 6))&&(ltI (gI l 6) (gN l 2)))&&true)
 (ck ((leN ((0+((Int.toNat (gI l 6))*1))+1) (List.length (gL l 11)))&&true)
 (nx 0 [.N (gN l 0),.L (gL l 1),.N (gN l 2),.N (gN l 3),.LL (gLL l 4),.I (gI l 5),.I (wr .i64 ((gI l 6)+1)),.I (gI l 7),.I (gI l 8),.N (gN l 9),.L (gL l 10),.L (List.set (gL l 11) (0+((Int.toNat (gI l 6))*1)) (gI A 0))])))
 (fun _=>none)) j)))))
 (ex 0 [.N (gN l 2),.L (gL l 11)])
theorem L57_7.e0:LEq L57_7.O L57_7.H 0 L57_7.s0:=by intro τ next κ l;kernel_rfl
def L57_7:LStep P Cf:=LStep.mk1 (by decide) L57_7.e0
def L57_7.b:Option τ:=runE L57_7 fuel κ t l
def L57_7.E:LEnt P:=LStep.E L57_7
def F57.ps:List PV2:=[pCode,pR]
def F57.sh:List PA:=[(PA.mk (PV3.tup [nS,(pC 1)]) []),(PA.mk (PV3.tup [(rr 0),(pC 0)]) [cI])]
def F57.O:Orc P:=⟨[T37.E,F93.E,T81.E,T36.E],[L57_7.E],[],40⟩
def F57:Option τ :=
 ck (((eqM (List.length (gLL l 2)) (List.length (gLL l 2)))&&true)&&true)
 (T37 [.I (gI l 0),.I (gI l 1),.LL (gLL l 2)]
 (fun j A=>(sw (br (!(gB A 0))
 (k 0 [])
 (ck ((eqM (List.length (gL l 3)) (List.length (gL l 3)))&&true)
 (F93 [.I (gI l 0),.I (gI l 1),.L (gL l 3)]
 (fun j B=>(sw (br (!(gB B 0))
 (k 0 [])
 (T81 [.I (gI l 0)]
 (fun j C=>(sw (ck (((eqM (List.length (gLL l 2)) (List.length (gLL l 2)))&&true)&&true)
 (T36 [.I (gI l 0),.I (gI l 1),.LL (gLL l 2)]
 (fun j D=>(sw (ck (((leI 0 (List.length (gLL D 2)))&&(leI (((List.length (gLL D 2)):Nat):Int) (((List.length (gLL D 2)):Nat):Int)))&&(leI ((((List.length (gLL D 2)):Nat):Int)*9) 1099511627776))
 (L57_7.b 0 [.N (List.length (gL l 3)),.L (gL l 3),.N (Int.toNat (((List.length (gLL D 2)):Nat):Int)),.N (List.length (gLL D 2)),.LL (gLL D 2),.I (((List.length (gLL D 2)):Nat):Int),.I 0,.I (gI C 0),.I (gI C 1),.N (List.length (gL C 2)),.L (gL C 2),.L (List.replicate (Int.toNat (((List.length (gLL D 2)):Nat):Int)) (0:Int))]
 (fun j E=>(sw (k 1 [.N (gN E 0),.L (gL E 1)])
 (fun _=>none)) j)))
 (fun _=>none)) j)))
 (fun _=>none)) j)))
 (fun _=>none)) j))))
 (fun _=>none)) j))
theorem F57.eq:FEq F57.O 22 F57.ps F57.sh F57:=by intro τ l κ;kernel_rfl
def F57.E:Ent P:=mkF F57.eq
end
end Go.Proofs.Yticbdgmcofjkeaa.Ai
