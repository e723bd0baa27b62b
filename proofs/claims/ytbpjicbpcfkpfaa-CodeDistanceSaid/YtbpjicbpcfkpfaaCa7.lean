/-
Part 7 of 7 of the texts for one claim: P23 Xf4 Wd Wf Wi Xk Xj P30 Ma5 Ma6 P31 P33 Wg Wj Wk Xm Wl Xl9 P35.
-/
import Derived.Test.YtbpjicbpcfkpfaaCa6
set_option linter.unusedVariables false
set_option linter.unusedSimpArgs false
namespace Go.Proofs.Ytbpjicbpcfkpfaa.Ai
open Go Ma
noncomputable section
theorem okLs_cons {p:PV1} {ps:List PV1} {ls:LS_} (h:okLs (p::ps) ls):∃ x ls',ls=x::ls'∧okLeaf p x∧okLs ps ls':=by
 cases ls with
 | nil=>have:=h.1;simp at this
 | cons x ls' =>
  refine ⟨x,ls',rfl,h.2 0 (by simp),by have:=h.1;simpa using this,fun j hj=>?_⟩
  exact h.2 (j+1) (by simpa using hj)
theorem okLs_nil {ls:LS_} (h:okLs [] ls):ls=[]:=List.length_eq_zero_iff.1 h.1
theorem ok_int {k:IntKind} {x:Leaf} (h:okLeaf (.int k) x):∃ n,x=.I n∧wfI k n:=by
 unfold okLeaf at h
 split at h
 ·rename_i e;cases e
 ·rename_i k' n e;cases e;exact ⟨n,rfl,h⟩
 ·rename_i e;cases e
 ·rename_i e;cases e
 ·exact h.elim
theorem ok_arr {k:IntKind} {x:Leaf} (h:okLeaf (.arr (.i k)) x):∃ l,x=.L l∧l.length≤maxLen∧∀ n∈l,wfI k n:=by
 unfold okLeaf at h
 split at h
 ·rename_i e;cases e
 ·rename_i e;cases e
 ·rename_i k' l e;cases e;exact ⟨l,rfl,h.1,h.2⟩
 ·rename_i e;cases e
 ·exact h.elim
theorem wf_u8 {n:Int} (h:wfI .u8 n):0≤n∧n<256:=by
 unfold wfI at h
 simp [Lit.wf,IntKind.min,IntKind.max,IntKind.signed,IntKind.bits] at h
 omega
theorem ok_bytes {x:Leaf} (h:okLeaf (.arr (.i .u8)) x):∃ l,x=.L l∧Bytes l:=by
 obtain ⟨l,e,h1,h2⟩:=ok_arr h
 refine ⟨l,e,by unfold maxLen at h1;omega,fun j=>?_⟩
 by_cases hj:j<l.length
 ·rw [List.getD_eq_getElem?_getD,List.getElem?_eq_getElem hj]
  exact wf_u8 (h2 _ (List.getElem_mem hj))
 ·rw [List.getD_eq_getElem?_getD,List.getElem?_eq_none (by omega)]
  decide
structure Cs (q n:Nat) (G:List (List Int)) (s w g:List Int):Prop where
 cd:Cd q n G
 sent:s∈words q (fadd q) (fmul q) G (List.replicate n 0)
 wd:Wd q n w
 up:Up n g
theorem isRight_of {q n:Nat} {w g:List Int} (hw:Wd q n w) (hg:Up n g):isRight q n w g=true:=by
 unfold isRight
 rw [Bool.and_eq_true]
 exact ⟨isWord_iff.2 ⟨by rw [hw.1],fun i _ hi=>hw.2 i (by have:=hw.1;omega)⟩,hg.gone⟩
theorem Up.pos {n:Nat} {g:List Int} (h:Up n g):∀ k,k<g.length→0≤g.getD k 0:=fun k hk=>(h.2 k hk).1
section
variable {q n:Nat} {G:List (List Int)} {s w g:List Int}
theorem Cs.right (h:Cs q n G s w g):isRight q n w g=true:=isRight_of h.wd h.up
theorem Cs.gs (h:Cs q n G s w g):g.length<2^60:=by have:=h.up.1;have:=h.cd.n1;omega
theorem Cs.ws (h:Cs q n G s w g):∀ y∈words q (fadd q) (fmul q) G (List.replicate n 0),Wd q n y:=words_wd (fld q h.cd.fq) G _ h.cd.rows.wd (Wd.zeros (q:=q) (n:=n) (by have:=qs_lt h.cd.fq;omega))
theorem Cs.cnt (h:Cs q n G s w g):(words q (fadd q) (fmul q) G (List.replicate n 0)).length≤256:=by rw [words_len (n:=0) h.cd.fq];exact h.cd.count
end
theorem short2 {L:List (List Int)} (h:∀ r∈L,r.length<2^60):∀ i,(L.getD i []).length<2^60:=fun i=>by
 by_cases hi:i<L.length
 ·rw [List.getD_eq_getElem?_getD,List.getElem?_eq_getElem hi]
  exact h _ (List.getElem_mem hi)
 ·rw [List.getD_eq_getElem?_getD,List.getElem?_eq_none (by omega)]
  decide
def T16 {τ:Type} (l:LS_) (k:Nat→LS_→Option τ):Option τ:=F16 l k
def T16.E:Ent P:=F16.E
end
end Go.Proofs.Ytbpjicbpcfkpfaa.Ai
namespace Go.Proofs.Ytbpjicbpcfkpfaa.Ai
open Go Go.RowKit
noncomputable section
variable {τ:Type} (t:Nat) (nx ex:Nat→LS_→Option τ) (l:LS_) (k κ:Nat→LS_→Option τ)
end
end Go.Proofs.Ytbpjicbpcfkpfaa.Ai
namespace Go.Proofs.Ytbpjicbpcfkpfaa.Ai
open Go Ma
noncomputable section
def U28 {τ:Type} (l:LS_) (k:Nat→LS_→Option τ):Option τ:=wrapB F28.E (.v pReply) l k
def U28.E:Ent P:=F28.E.wrap (.v pReply)
def T29 {τ:Type} (l:LS_) (k:Nat→LS_→Option τ):Option τ:=wrapB F29.E (.v pField) l k
def T29.E:Ent P:=F29.E.wrap (.v pField)
def T37 {τ:Type} (l:LS_) (k:Nat→LS_→Option τ):Option τ:=F37 l k
def T37.E:Ent P:=F37.E
def T48 {τ:Type} (l:LS_) (k:Nat→LS_→Option τ):Option τ:=F48 l k
def T48.E:Ent P:=F48.E
def T81 {τ:Type} (l:LS_) (k:Nat→LS_→Option τ):Option τ:=wrapB F81.E (.tup [pField,pB]) l k
def T81.E:Ent P:=F81.E.wrap (.tup [pField,pB])
theorem T81_spec {q:Nat} (hq:q∈Qs) {τ:Type} (k:Nat→LS_→Option τ):T81 [.I q] k=k 0 [.I (fp q),.I (fe q),.L (fm q),.B true]:=by
 have h:=fun {τ:Type} (κ:Nat→LS_→Option τ)=>F81_spec hq κ
 generalize fm q=M at h ⊢
 have:=wrap_of (e:=F81.E) (p:=.tup [pField,pB]) (j:=0) (l2:=[.I (fp q),.I (fe q),.N M.length,.B true,.L M]) (c:=(true&&(true&&(true&&(true&&(true&&(decide (M.length=(List.take (M.length*1) (List.drop 0 M)).length)&&true))))))&&(true&&true)) (ls':=[.I (fp q),.I (fe q),.L (List.take (M.length*1) (List.drop 0 M)),.B true]) (by intro τ κ;kernel_rfl) (by simp) (k:=k) (fun κ=>h κ)
 rw [Nat.mul_one,List.drop_zero,List.take_length] at this
 exact this
end
end Go.Proofs.Ytbpjicbpcfkpfaa.Ai
namespace Go.Proofs.Ytbpjicbpcfkpfaa.Ai
open Go Go.RowKit
noncomputable section
variable {τ:Type} (t:Nat) (nx ex:Nat→LS_→Option τ) (l:LS_) (k κ:Nat→LS_→Option τ)
def oao0:List PO:=[oI,(oG [pI,pI,qM]),(oG [(PV2.v (PV1.yld 5))]),(oG [pI,pI,qR]),(oG [(PV2.fn 121 [(p1 1),(p1 2),(p1 3),(p1 4)])]),(PO.loop false [(PV2.agg [iI,iI,(PV1.sl (PC0.m .i64))]),(pp 6),pI,pI,pI,(pp 7),n_,n_,(PV2.agg [iI,iI,(PV1.sl (PC0.m .i64))]),pI,pI,pB,n_,(PV2.v (PV1.ptr 6 (some 0) (some 2))),qM,pI,pB,(PV2.v (PV1.ptr 6 (some 0) (some 1))),pI,(PV2.agg [iI,iI,(PV1.sl (PC0.m .i64))]),(PV2.fn 120 [(p1 1),(p1 3)]),n_,n_,n_,n_,n_,n_,n_,n_,n_] [21] (rfA 50 0) (rfB 50 0) 536870956 true Out.normal),(oG [pI,pI,qM]),(oG [pI])]
def oao1:List PO:=[oI,(oG [pI,pI,qM]),(oG [(PV2.v (PV1.yld 5))]),(oG [pI,pI,qR]),(oG [(PV2.fn 121 [(p1 1),(p1 2),(p1 3),(p1 4)])]),(PO.loop false [(PV2.agg [iI,iI,(PV1.sl (PC0.m .i64))]),(pp 6),pI,pI,pI,(pp 7),n_,n_,(PV2.agg [iI,iI,(PV1.sl (PC0.m .i64))]),pI,pI,pB,n_,(PV2.v (PV1.ptr 6 (some 0) (some 2))),qM,pI,pB,(PV2.v (PV1.ptr 6 (some 0) (some 1))),pI,(PV2.agg [iI,iI,(PV1.sl (PC0.m .i64))]),(PV2.fn 120 [(p1 1),(p1 3)]),n_,n_,n_,n_,n_,n_,n_,n_,n_] [21] (rfA 50 0) (rfB 50 0) 536870956 true Out.normal),(oG [pI,pI,qM]),(oG [pI]),oI]
def oao2:List PO:=[oI,(oG [pI,pI,qM]),(oG [(PV2.v (PV1.yld 5))]),(oG [pI,pI,qR]),(oG [(PV2.fn 121 [(p1 1),(p1 2),(p1 3),(p1 4)])]),(PO.loop false [(PV2.agg [iI,iI,(PV1.sl (PC0.m .i64))]),(pp 6),nS,pI,pI,(pp 7),n_,(PV2.agg [iI,iI,(PV1.sl (PC0.m .i64))]),pI,pI,pB,n_,(PV2.v (PV1.ptr 6 (some 0) (some 1))),pI,pI,(rr 8),(PV2.agg [iI,iI,(PV1.sl (PC0.m .i64))]),(PV2.fn 120 [(p1 1),(p1 3)]),n_,n_,n_,n_,n_,n_,n_,n_,n_] [18] (rfA 42 0) (rfB 42 0) 67108908 true Out.normal),(oG [pI,pI,qM]),(oG [(rr 8)]),oI]
def oao3:List PO:=[oI,(oG [pI,pI,qM]),(oG [(PV2.v (PV1.yld 5))]),(oG [pI,pI,qR]),(oG [(PV2.fn 121 [(p1 1),(p1 2),(p1 3),(p1 4)])]),(PO.loop false [(PV2.agg [iI,iI,(PV1.sl (PC0.m .i64))]),(pp 6),nS,pI,pI,(pp 7),n_,(PV2.agg [iI,iI,(PV1.sl (PC0.m .i64))]),pI,pI,pB,n_,(PV2.v (PV1.ptr 6 (some 0) (some 1))),pI,pI,(rr 8),(PV2.agg [iI,iI,(PV1.sl (PC0.m .i64))]),(PV2.fn 120 [(p1 1),(p1 3)]),n_,n_,n_,n_,n_,n_,n_,n_,n_] [18] (rfA 42 0) (rfB 42 0) 67108908 true Out.normal),(oG [pI,pI,qM]),(oG [(rr 8)]),oI,oI]
def oao4:List PO:=[oI,(oG [pI,pI,qM]),(oG [(PV2.v (PV1.yld 5))]),(oG [pI,pI,qR]),(oG [(PV2.fn 121 [(p1 1),(p1 2),(p1 3),(p1 4)])]),(PO.loop false [(PV2.agg [iI,iI,(PV1.sl (PC0.m .i64))]),(pp 6),nS,pI,pI,(pp 7),n_,(PV2.agg [iI,iI,(PV1.sl (PC0.m .i64))]),pI,pI,pB,n_,(PV2.agg [iI,iI,(PV1.sl (PC0.m .i64))]),(PV2.fn 120 [(p1 1),(p1 3)]),n_,n_,n_,n_,n_,n_,n_] [14] (rfA 64 0) (rfB 64 0) 1048620 true Out.normal),(oG [pI,pI,qM]),(oG [(rr 8)]),oM]
def oao5:List PO:=[oI,(oG [pI,pI,qM]),(oG [(PV2.v (PV1.yld 5))]),(oG [pI,pI,qR]),(oG [(PV2.fn 121 [(p1 1),(p1 2),(p1 3),(p1 4)])]),(PO.loop false [(PV2.agg [iI,iI,(PV1.sl (PC0.m .i64))]),(pp 6),nS,pI,pI,(pp 7),n_,(PV2.agg [iI,iI,(PV1.sl (PC0.m .i64))]),pI,pI,pB,n_,(PV2.agg [iI,iI,(PV1.sl (PC0.m .i64))]),(PV2.fn 120 [(p1 1),(p1 3)]),n_,n_,n_,n_,n_,n_,n_] [14] (rfA 64 0) (rfB 64 0) 1048620 true Out.normal),(oG [pI,pI,qM]),(oG [(rr 10)]),PO.dead,oI,oM]
def oao6:List PO:=[oI,(oG [pI,pI,qM]),(oG [(PV2.v (PV1.yld 5))]),(oG [pI,pI,qR]),(oG [(PV2.fn 121 [(p1 1),(p1 2),(p1 3),(p1 4)])]),(PO.loop false [(PV2.agg [iI,iI,(PV1.sl (PC0.m .i64))]),(pp 6),nS,pI,pI,(pp 7),n_,(PV2.agg [iI,iI,(PV1.sl (PC0.m .i64))]),pI,pI,pB,n_,(PV2.agg [iI,iI,(PV1.sl (PC0.m .i64))]),(PV2.fn 120 [(p1 1),(p1 3)]),n_,n_,n_,n_,n_,n_,n_] [14] (rfA 64 0) (rfB 64 0) 1048620 true Out.normal),(oG [pI,pI,qM]),(oG [(rr 8)]),oM,oI]
def oao7:List PO:=[oI,(oG [pI,pI,qM]),(oG [(PV2.v (PV1.yld 5))]),(oG [pI,pI,qR]),(oG [(PV2.fn 121 [(p1 1),(p1 2),(p1 3),(p1 4)])]),(PO.loop false [(PV2.agg [iI,iI,(PV1.sl (PC0.m .i64))]),(pp 6),nS,pI,pI,(pp 7),n_,(PV2.agg [iI,iI,(PV1.sl (PC0.m .i64))]),pI,pI,pB,n_,(PV2.agg [iI,iI,(PV1.sl (PC0.m .i64))]),(PV2.fn 120 [(p1 1),(p1 3)]),n_,n_,n_,n_,n_,n_,n_] [14] (rfA 64 0) (rfB 64 0) 1048620 true Out.normal),(oG [pI,pI,qM]),(oG [nS])]
def oao8:List PO:=[oI,(oG [pI,pI,qM]),(oG [(PV2.v (PV1.yld 5))]),(oG [pI,pI,qR]),(oG [(PV2.fn 121 [(p1 1),(p1 2),(p1 3),(p1 4)])]),(PO.loop false [(PV2.agg [iI,iI,(PV1.sl (PC0.m .i64))]),(pp 6),nS,pI,pI,(pp 7),n_,(PV2.agg [iI,iI,(PV1.sl (PC0.m .i64))]),pI,pI,pB,n_,(PV2.agg [iI,iI,(PV1.sl (PC0.m .i64))]),(PV2.fn 120 [(p1 1),(p1 3)]),n_,n_,n_,n_,n_,n_,n_] [14] (rfA 64 0) (rfB 64 0) 1048620 true Out.normal),(oG [pI,pI,qM]),(oG [(rr 9)]),oI,oM]
def oao9:List PO:=[oI,(oG [pI,pI,qM]),(oG [(PV2.v (PV1.yld 5))]),(oG [pI,pI,qR]),(oG [(PV2.fn 121 [(p1 1),(p1 2),(p1 3),(p1 4)])]),(PO.loop false [(PV2.agg [iI,iI,(PV1.sl (PC0.m .i64))]),(pp 6),nS,pI,pI,(pp 7),n_,(PV2.agg [iI,iI,(PV1.sl (PC0.m .i64))]),pI,pI,pB,n_,(PV2.agg [iI,iI,(PV1.sl (PC0.m .i64))]),(PV2.fn 120 [(p1 1),(p1 3)]),n_,n_,n_,n_,n_,n_,n_] [14] (rfA 64 0) (rfB 64 0) 1048620 true Out.normal),(oG [pI,pI,qM]),(oG [nS]),oI]
def F90.ps:List PV2:=[pCode]
def F90.sh:List PA:=[(PA.mk (PV3.v pI) [])]
def F90.O:Orc P:=⟨[T37.E,T48.E],[],[],40⟩
def F90:Option τ :=
 ck (((eqM (List.length (gLL l 2)) (List.length (gLL l 2)))&&true)&&true)
 (T37 [.I (gI l 0),.I (gI l 1),.LL (gLL l 2)]
 (fun j A=>(sw (br (!(gB A 0))
 (k 0 [.I 1])
 (ck (((eqM (List.length (gLL l 2)) (List.length (gLL l 2)))&&true)&&true)
 (T48 [.I (gI l 0),.I (gI l 1),.LL (gLL l 2)]
 (fun j B=>(sw (br (gtI (gI B 0) 4096)
 (k 0 [.I 2])
 (k 0 [.I 0]))
 (fun _=>none)) j))))
 (fun _=>none)) j))
theorem F90.eq:FEq F90.O 90 F90.ps F90.sh F90:=by intro τ l κ;kernel_rfl
def F90.E:Ent P:=mkF F90.eq
def L92_3.H:LHead:=⟨false,true,0,376835,376835,456,8,0,[(PS.mk (us 3 (pI::us 2 (qR::pI::pI::us 9 []))) [])],[((Out.exit 0),(PS.mk (us 3 (pI::us 14 [])) []))]⟩
def L92_3.O:Orc P:=⟨[],[],[],40⟩
def L92_3.s0:Option τ :=
 br (ltI (gI l 4) (gI l 3))
 (ck (((leI 0 (gI l 4))&&(ltI (gI l 4) (gN l 1)))&&true)
 (ck (ltN ((Int.toNat (gI l 4))*1) (List.length (gL l 2)))
 (br ((List.getD (gL l 2) ((Int.toNat (gI l 4))*1) 0) != 0)
 (nx 0 [.I (wr .i64 ((gI l 0)+1)),.N (gN l 1),.L (gL l 2),.I (gI l 3),.I (wr .i64 ((gI l 4)+1))])
 (nx 0 [.I (gI l 0),.N (gN l 1),.L (gL l 2),.I (gI l 3),.I (wr .i64 ((gI l 4)+1))]))))
 (ex 0 [.I (gI l 0)])
theorem L92_3.e0:LEq L92_3.O L92_3.H 0 L92_3.s0:=by intro τ next κ l;kernel_rfl
def L92_3:LStep P Cf:=LStep.mk1 (by decide) L92_3.e0
def L92_3.b:Option τ:=runE L92_3 fuel κ t l
def L92_3.E:LEnt P:=LStep.E L92_3
def F92.ps:List PV2:=[pR]
def F92.sh:List PA:=[(PA.mk (PV3.v pI) [])]
def F92.O:Orc P:=⟨[],[L92_3.E],[],40⟩
def F92:Option τ :=
 L92_3.b 0 [.I 0,.N (List.length (gL l 0)),.L (gL l 0),.I (((List.length (gL l 0)):Nat):Int),.I 0]
 (fun j A=>(sw (k 0 [.I (gI A 0)])
 (fun _=>none)) j)
theorem F92.eq:FEq F92.O 92 F92.ps F92.sh F92:=by intro τ l κ;kernel_rfl
def F92.E:Ent P:=mkF F92.eq
def L94_3_1.H:LHead:=⟨true,false,2,385027,385027,12318,0,0,[(PS.mk (us 1 ((rr 0)::pI::qR::(pp 1)::us 7 (pI::pI::us 21 []))) [oI,(oG [pI,pI,qR])])],[((Out.exit 0),(PS.mk (us 35 []) [oI,(oG [pI,pI,qR])]))]⟩
def L94_3_1.O:Orc P:=⟨[T104.E,T103.E],[],[],40⟩
def L94_3_1.s0:Option τ :=
 br (ltI (gI l 5) (gI l 4))
 (ck (((leI 0 (gI l 5))&&(ltI (gI l 5) (gN l 0)))&&true)
 (ck (ltN (0+((Int.toNat (gI l 5))*1)) (List.length (gL l 6)))
 (ck (((leI 0 (gI l 5))&&(ltI (gI l 5) (gN l 2)))&&true)
 (ck (ltN ((Int.toNat (gI l 5))*1) (List.length (gL l 3)))
 (ck (((eqM (gN l 9) (List.length (gL l 10)))&&true)&&true)
 (T104 [.I (gI l 7),.I (gI l 8),.L (gL l 10),.I (gI l 1),.I (List.getD (gL l 3) ((Int.toNat (gI l 5))*1) 0)]
 (fun j A=>(sw (ck (((eqM (gN l 9) (List.length (gL l 10)))&&true)&&true)
 (T103 [.I (gI l 7),.I (gI l 8),.L (gL l 10),.I (List.getD (gL l 6) (0+((Int.toNat (gI l 5))*1)) 0),.I (gI A 0)]
 (fun j B=>(sw (ck (((leI 0 (gI l 5))&&(ltI (gI l 5) (gN l 0)))&&true)
 (ck ((leN ((0+((Int.toNat (gI l 5))*1))+1) (List.length (gL l 6)))&&true)
 (nx 0 [.N (gN l 0),.I (gI l 1),.N (gN l 2),.L (gL l 3),.I (gI l 4),.I (wr .i64 ((gI l 5)+1)),.L (List.set (gL l 6) (0+((Int.toNat (gI l 5))*1)) (gI B 0)),.I (gI l 7),.I (gI l 8),.N (gN l 9),.L (gL l 10)])))
 (fun _=>none)) j)))
 (fun _=>none)) j)))))))
 (ex 0 [.L (gL l 6),.I (gI l 7),.I (gI l 8),.N (gN l 9),.L (gL l 10)])
theorem L94_3_1.e0:LEq L94_3_1.O L94_3_1.H 0 L94_3_1.s0:=by intro τ next κ l;kernel_rfl
def L94_3_1:LStep P Cf:=LStep.mk1 (by decide) L94_3_1.e0
def L94_3_1.b:Option τ:=runE L94_3_1 fuel κ t l
def L94_3_1.E:LEnt P:=LStep.E L94_3_1
def S94_1.H:SHead:=⟨94,[(PV2.agg [iI,iI,(PV1.sl (PC0.i .i64))]),(rr 0),pI,qR],[],[oI],[((PV2.tup []),[oI])]⟩
def S94_1.O:Orc P:=⟨[],[L94_3_1.E],[],40⟩
def S94_1:Option τ :=
 br ((gI l 5)==0)
 (k 0 [.L (gL l 8)])
 (L94_3_1.b 0 [.N (gN l 4),.I (gI l 5),.N (gN l 6),.L (gL l 7),.I (gN l 4),.I 0,.L (gL l 8),.I (gI l 0),.I (gI l 1),.N (gN l 2),.L (gL l 3)]
 (fun j A=>(sw (k 0 [.L (gL A 0)])
 (fun _=>none)) j))
theorem S94_1.eq:SEq S94_1.O S94_1.H S94_1:=by intro τ l κ;kernel_rfl
def S94_1.next:SDyn P S94_1.H:=mkS S94_1.eq
def S94_1.E:SEnt P:=⟨S94_1.H,S94_1.next⟩
def S121_0.H:SHead:=⟨121,[pI,(rr 0)],[(pp 1),(pp 2),(pp 3),(pp 4)],oao0,[(pB,oao0)]⟩
def L121_5.H:LHead:=⟨false,false,9,495621,495621,12583735,256,0,[(PS.mk (pI::(rr 0)::(pp 1)::us 1 ((pp 3)::(pp 4)::us 2 (pB::(rr 8)::us 12 (pI::pI::us 21 [])))) oao1)],[(Out.ret,(PS.mk (us 8 (pB::us 36 [])) oao1)),((Out.exit 0),(PS.mk (us 8 (pB::us 36 [])) oao1))]⟩
def L121_5.O (R:SDyn P S121_0.H):Orc P:=⟨[],[],[S94_1.E,⟨S121_0.H,R⟩],40⟩
def L121_5.s0 (R:SDyn P S121_0.H) {τ:Type} (next ex:Nat→LS_→Option τ) (l:LS_):Option τ :=
 br (ltI (gI l 5) (gI l 4))
 (ck (((((eqM (gN l 1) (gN l 3))&&(eqM (List.length (List.take ((gN l 1)*1) (List.drop 0 (gL l 6)))) (gN l 1)))&&true)&&(eqM (List.length (gL l 43)) (gN l 3)))&&true)
 (ck (((leI 0 (gI l 0))&&(ltI (gI l 0) (gN l 9)))&&true)
 (ck (ltN ((Int.toNat (gI l 0))*1) (List.length (gLL l 10)))
 (S94_1 [.I (gI l 11),.I (gI l 12),.N (gN l 13),.L (gL l 14),.N (gN l 3),.I (gI l 5),.N (List.length (List.getD (gLL l 10) ((Int.toNat (gI l 0))*1) [])),.L (List.getD (gLL l 10) ((Int.toNat (gI l 0))*1) []),.L (List.take ((gN l 1)*1) (List.drop 0 (gL l 6)))]
 (fun j A=>(sw (R.b [.I (wr .i64 ((gI l 0)+1)),.N (gN l 3),.L (gL A 0),.I (gI l 7),.I (gI l 8),.N (gN l 9),.LL (gLL l 10),.I (gI l 11),.I (gI l 12),.N (gN l 13),.L (gL l 14),.I (gI l 15),.I (gI l 16),.N (gN l 17),.LL (gLL l 18),.I (gI l 19),.I (gI l 20),.I (gI l 21),.I (gI l 22),.I (gI l 23),.N (gN l 24),.LL (gLL l 25),.I (gI l 26),.I (gI l 27),.B (gB l 28),.N (gN l 29),.LL (gLL l 30),.I (gI l 31),.B (gB l 32),.I (gI l 33),.I (gI l 34),.I (gI l 35),.N (gN l 36),.LL (gLL l 37),.I (gI l 38),.I (gI l 39),.N (gN l 40),.LL (gLL l 41),.I (gI l 42)]
 (fun j B=>(sw (br (!(gB B 0))
 (ex 0 [.B false,.L (gL l 6),.I (gI B 2),.I (gI B 3),.N (gN B 4),.LL (gLL B 5),.I (gI B 6),.I (gI B 7),.N (gN B 8),.L (gL B 9),.I (gI B 10),.I (gI B 11),.N (gN B 12),.LL (gLL B 13),.I (gI B 14),.I (gI B 15),.I (gI B 16),.I (gI B 17),.I (gI B 18),.N (gN B 19),.LL (gLL B 20),.I (gI B 21),.I (gI B 22),.B (gB B 23),.N (gN B 24),.LL (gLL B 25),.I (gI B 26),.B (gB B 27),.I (gI B 28),.I (gI B 29),.I (gI B 30),.N (gN B 31),.LL (gLL B 32),.I (gI B 33),.I (gI B 34),.N (gN B 35),.LL (gLL B 36),.I (gI B 37),.L (gL B 1)])
 (next 0 [.I (gI l 0),.N (gN l 1),.B (gB l 2),.N (gN l 3),.I (gI l 4),.I (wr .i64 ((gI l 5)+1)),.L (gL l 6),.I (gI B 2),.I (gI B 3),.N (gN B 4),.LL (gLL B 5),.I (gI B 6),.I (gI B 7),.N (gN B 8),.L (gL B 9),.I (gI B 10),.I (gI B 11),.N (gN B 12),.LL (gLL B 13),.I (gI B 14),.I (gI B 15),.I (gI B 16),.I (gI B 17),.I (gI B 18),.N (gN B 19),.LL (gLL B 20),.I (gI B 21),.I (gI B 22),.B (gB B 23),.N (gN B 24),.LL (gLL B 25),.I (gI B 26),.B (gB B 27),.I (gI B 28),.I (gI B 29),.I (gI B 30),.N (gN B 31),.LL (gLL B 32),.I (gI B 33),.I (gI B 34),.N (gN B 35),.LL (gLL B 36),.I (gI B 37),.L (gL B 1)]))
 (fun _=>none)) j))
 (fun _=>none)) j)))))
 (ex 1 [.B (gB l 2),.L (gL l 6),.I (gI l 7),.I (gI l 8),.N (gN l 9),.LL (gLL l 10),.I (gI l 11),.I (gI l 12),.N (gN l 13),.L (gL l 14),.I (gI l 15),.I (gI l 16),.N (gN l 17),.LL (gLL l 18),.I (gI l 19),.I (gI l 20),.I (gI l 21),.I (gI l 22),.I (gI l 23),.N (gN l 24),.LL (gLL l 25),.I (gI l 26),.I (gI l 27),.B (gB l 28),.N (gN l 29),.LL (gLL l 30),.I (gI l 31),.B (gB l 32),.I (gI l 33),.I (gI l 34),.I (gI l 35),.N (gN l 36),.LL (gLL l 37),.I (gI l 38),.I (gI l 39),.N (gN l 40),.LL (gLL l 41),.I (gI l 42),.L (gL l 43)])
theorem L121_5.e0 (R:SDyn P S121_0.H):LEq (L121_5.O R) L121_5.H 0 (L121_5.s0 R):=by intro τ next κ l;kernel_rfl
def L121_5 (R:SDyn P S121_0.H):LStep P Cf:=LStep.mk1 (by decide) (L121_5.e0 R)
def L121_5.b (R:SDyn P S121_0.H) {τ:Type} (t:Nat) (l:LS_) (κ:Nat→LS_→Option τ):Option τ:=runE (L121_5 R) fuel κ t l
def L121_5.E (R:SDyn P S121_0.H):LEnt P:=LStep.E (L121_5 R)
def S121_0.O (R:SDyn P S121_0.H):Orc P:=⟨[F92.E,F71.E],[L121_5.E R],[],40⟩
def S121_0.body (R:SDyn P S121_0.H) {τ:Type} (l:LS_) (k:Nat→LS_→Option τ):Option τ :=
 br ((gI l 0)==(((gN l 5):Nat):Int))
 (ck ((eqM (gN l 1) (List.length (List.take ((gN l 1)*1) (List.drop 0 (gL l 2)))))&&true)
 (F92 [.L (List.take ((gN l 1)*1) (List.drop 0 (gL l 2)))]
 (fun j A=>(sw (br (gtI (gI A 0) 0)
 (k 0 [.B true,.L (gL l 2),.I (gI l 3),.I (gI l 4),.N (gN l 5),.LL (gLL l 6),.I (gI l 7),.I (gI l 8),.N (gN l 9),.L (gL l 10),.I (gI l 11),.I (gI l 12),.N (gN l 13),.LL (gLL l 14),.I (gI l 15),.I (gI l 16),.I (gI l 17),.I (gI l 18),.I (gI l 19),.N (gN l 20),.LL (gLL l 21),.I (gI l 22),.I (gI l 23),.B (gB l 24),.N (gN l 25),.LL (gLL l 26),.I (gI l 27),.B (gB l 28),.I (gI l 29),.I (gI l 30),.I (gI l 31),.N (gN l 32),.LL (gLL l 33),.I (gI l 34),.I (gI l 35),.N (gN l 36),.LL (gLL l 37),.I (min (gI l 38) (gI A 0))])
 (k 0 [.B true,.L (gL l 2),.I (gI l 3),.I (gI l 4),.N (gN l 5),.LL (gLL l 6),.I (gI l 7),.I (gI l 8),.N (gN l 9),.L (gL l 10),.I (gI l 11),.I (gI l 12),.N (gN l 13),.LL (gLL l 14),.I (gI l 15),.I (gI l 16),.I (gI l 17),.I (gI l 18),.I (gI l 19),.N (gN l 20),.LL (gLL l 21),.I (gI l 22),.I (gI l 23),.B (gB l 24),.N (gN l 25),.LL (gLL l 26),.I (gI l 27),.B (gB l 28),.I (gI l 29),.I (gI l 30),.I (gI l 31),.N (gN l 32),.LL (gLL l 33),.I (gI l 34),.I (gI l 35),.N (gN l 36),.LL (gLL l 37),.I (gI l 38)]))
 (fun _=>none)) j)))
 (ck ((eqM (gN l 1) (List.length (List.take ((gN l 1)*1) (List.drop 0 (gL l 2)))))&&true)
 (F71 [.L (List.take ((gN l 1)*1) (List.drop 0 (gL l 2)))]
 (fun j A=>(sw (L121_5.b R 0 [.I (gI l 0),.N (gN l 1),.B false,.N (gN A 0),.I (gI l 3),.I 0,.L (gL l 2),.I (gI l 3),.I (gI l 4),.N (gN l 5),.LL (gLL l 6),.I (gI l 7),.I (gI l 8),.N (gN l 9),.L (gL l 10),.I (gI l 11),.I (gI l 12),.N (gN l 13),.LL (gLL l 14),.I (gI l 15),.I (gI l 16),.I (gI l 17),.I (gI l 18),.I (gI l 19),.N (gN l 20),.LL (gLL l 21),.I (gI l 22),.I (gI l 23),.B (gB l 24),.N (gN l 25),.LL (gLL l 26),.I (gI l 27),.B (gB l 28),.I (gI l 29),.I (gI l 30),.I (gI l 31),.N (gN l 32),.LL (gLL l 33),.I (gI l 34),.I (gI l 35),.N (gN l 36),.LL (gLL l 37),.I (gI l 38),.L (gL A 1)]
 (fun j B=>(sw (k 0 [.B (gB B 0),.L (gL B 1),.I (gI B 2),.I (gI B 3),.N (gN B 4),.LL (gLL B 5),.I (gI B 6),.I (gI B 7),.N (gN B 8),.L (gL B 9),.I (gI B 10),.I (gI B 11),.N (gN B 12),.LL (gLL B 13),.I (gI B 14),.I (gI B 15),.I (gI B 16),.I (gI B 17),.I (gI B 18),.N (gN B 19),.LL (gLL B 20),.I (gI B 21),.I (gI B 22),.B (gB B 23),.N (gN B 24),.LL (gLL B 25),.I (gI B 26),.B (gB B 27),.I (gI B 28),.I (gI B 29),.I (gI B 30),.N (gN B 31),.LL (gLL B 32),.I (gI B 33),.I (gI B 34),.N (gN B 35),.LL (gLL B 36),.I (gI B 37)])
 (sw (k 0 [.B true,.L (gL B 1),.I (gI B 2),.I (gI B 3),.N (gN B 4),.LL (gLL B 5),.I (gI B 6),.I (gI B 7),.N (gN B 8),.L (gL B 9),.I (gI B 10),.I (gI B 11),.N (gN B 12),.LL (gLL B 13),.I (gI B 14),.I (gI B 15),.I (gI B 16),.I (gI B 17),.I (gI B 18),.N (gN B 19),.LL (gLL B 20),.I (gI B 21),.I (gI B 22),.B (gB B 23),.N (gN B 24),.LL (gLL B 25),.I (gI B 26),.B (gB B 27),.I (gI B 28),.I (gI B 29),.I (gI B 30),.N (gN B 31),.LL (gLL B 32),.I (gI B 33),.I (gI B 34),.N (gN B 35),.LL (gLL B 36),.I (gI B 37)])
 (fun _=>none))) j))
 (fun _=>none)) j)))
theorem S121_0.eq (R:SDyn P S121_0.H):SEq (S121_0.O R) S121_0.H (S121_0.body R):=by intro τ l κ;kernel_rfl
def S121_0.next (R:SDyn P S121_0.H):SDyn P S121_0.H:=mkS (S121_0.eq R)
def S121_0.D (n:Nat):SDyn P S121_0.H:=Nat.rec ⟨fun _ _=>none,fun _ _ _ h=>nomatch h⟩ (fun _ R=>S121_0.next R) n
def S121_0:Option τ:=(S121_0.D fuel).b l k
def S121_0.E:SEnt P:=⟨S121_0.H,S121_0.D fuel⟩
def F50.ps:List PV2:=[pCode]
def F50.sh:List PA:=[(PA.mk (PV3.tup [(pC 0),pI]) []),(PA.mk (PV3.tup [(pC 0),(pC 4)]) []),(PA.mk (PV3.tup [pI,(pC 0)]) [])]
def F50.O:Orc P:=⟨[F90.E,T81.E],[],[S121_0.E],40⟩
def F50:Option τ :=
 ck (((eqM (List.length (gLL l 2)) (List.length (gLL l 2)))&&true)&&true)
 (F90 [.I (gI l 0),.I (gI l 1),.LL (gLL l 2)]
 (fun j A=>(sw (br ((gI A 0) != 0)
 (k 0 [.I (gI A 0)])
 (br ((((List.length (gLL l 2)):Nat):Int)==0)
 (k 1 [])
 (T81 [.I (gI l 0)]
 (fun j B=>(sw (ck (((leI 0 (gI l 1))&&(leI (gI l 1) (gI l 1)))&&(leI ((gI l 1)*9) 1099511627776))
 (S121_0 [.I 0,.N (Int.toNat (gI l 1)),.L (List.replicate (Int.toNat (gI l 1)) (0:Int)),.I (gI l 0),.I (gI l 1),.N (List.length (gLL l 2)),.LL (gLL l 2),.I (gI B 0),.I (gI B 1),.N (List.length (gL B 2)),.L (gL B 2),.I (gI l 0),.I (gI l 1),.N (List.length (gLL l 2)),.LL (gLL l 2),.I 0,.I 0,.I (gI A 0),.I (gI l 0),.I (gI l 1),.N (List.length (gLL l 2)),.LL (gLL l 2),.I (gI A 0),.I (gI A 0),.B false,.N (List.length (gLL l 2)),.LL (gLL l 2),.I (((List.length (gLL l 2)):Nat):Int),.B false,.I (gI l 1),.I (gI l 0),.I (gI l 1),.N (List.length (gLL l 2)),.LL (gLL l 2),.I (gI l 0),.I (gI l 1),.N (List.length (gLL l 2)),.LL (gLL l 2),.I (gI l 1)]
 (fun j C=>(sw (k 2 [.I (gI C 37)])
 (fun _=>none)) j)))
 (fun _=>none)) j))))
 (fun _=>none)) j))
theorem F50.eq:FEq F50.O 50 F50.ps F50.sh F50:=by intro τ l κ;kernel_rfl
def F50.E:Ent P:=mkF F50.eq
def S121_1.H:SHead:=⟨121,[pI,(rr 0)],[(pp 1),(pp 2),(pp 3),(pp 4)],oao2,[(pB,oao2)]⟩
def L121_5_1.H:LHead:=⟨false,false,10,495621,495621,12583735,256,0,[(PS.mk (pI::(rr 0)::(pp 1)::us 1 ((pp 3)::(pp 4)::us 2 (pB::(rr 9)::us 12 (pI::pI::us 21 [])))) oao3)],[(Out.ret,(PS.mk (us 8 (pB::us 36 [])) oao3)),((Out.exit 0),(PS.mk (us 8 (pB::us 36 [])) oao3))]⟩
def L121_5_1.O (R:SDyn P S121_1.H):Orc P:=⟨[],[],[S94_1.E,⟨S121_1.H,R⟩],40⟩
def L121_5_1.s0 (R:SDyn P S121_1.H) {τ:Type} (next ex:Nat→LS_→Option τ) (l:LS_):Option τ :=
 br (ltI (gI l 5) (gI l 4))
 (ck (((((eqM (gN l 1) (gN l 3))&&(eqM (List.length (List.take ((gN l 1)*1) (List.drop 0 (gL l 6)))) (gN l 1)))&&true)&&(eqM (List.length (gL l 41)) (gN l 3)))&&true)
 (ck (((leI 0 (gI l 0))&&(ltI (gI l 0) (gN l 9)))&&true)
 (ck (ltN ((Int.toNat (gI l 0))*1) (List.length (gLL l 10)))
 (S94_1 [.I (gI l 11),.I (gI l 12),.N (gN l 13),.L (gL l 14),.N (gN l 3),.I (gI l 5),.N (List.length (List.getD (gLL l 10) ((Int.toNat (gI l 0))*1) [])),.L (List.getD (gLL l 10) ((Int.toNat (gI l 0))*1) []),.L (List.take ((gN l 1)*1) (List.drop 0 (gL l 6)))]
 (fun j A=>(sw (R.b [.I (wr .i64 ((gI l 0)+1)),.N (gN l 3),.L (gL A 0),.I (gI l 7),.I (gI l 8),.N (gN l 9),.LL (gLL l 10),.I (gI l 11),.I (gI l 12),.N (gN l 13),.L (gL l 14),.I (gI l 15),.I (gI l 16),.N (gN l 17),.LL (gLL l 18),.I (gI l 19),.I (gI l 20),.I (gI l 21),.I (gI l 22),.N (gN l 23),.LL (gLL l 24),.I (gI l 25),.I (gI l 26),.B (gB l 27),.I (gI l 28),.I (gI l 29),.N (gN l 30),.I (gI l 31),.I (gI l 32),.N (gN l 33),.LL (gLL l 34),.I (gI l 35),.I (gI l 36),.N (gN l 37),.LL (gLL l 38),.N (gN l 39),.L (gL l 40)]
 (fun j B=>(sw (br (!(gB B 0))
 (ex 0 [.B false,.L (gL l 6),.I (gI B 2),.I (gI B 3),.N (gN B 4),.LL (gLL B 5),.I (gI B 6),.I (gI B 7),.N (gN B 8),.L (gL B 9),.I (gI B 10),.I (gI B 11),.N (gN B 12),.LL (gLL B 13),.I (gI B 14),.I (gI B 15),.I (gI B 16),.I (gI B 17),.N (gN B 18),.LL (gLL B 19),.I (gI B 20),.I (gI B 21),.B (gB B 22),.I (gI B 23),.I (gI B 24),.N (gN B 25),.I (gI B 26),.I (gI B 27),.N (gN B 28),.LL (gLL B 29),.I (gI B 30),.I (gI B 31),.N (gN B 32),.LL (gLL B 33),.N (gN B 34),.L (gL B 35),.L (gL B 1)])
 (next 0 [.I (gI l 0),.N (gN l 1),.B (gB l 2),.N (gN l 3),.I (gI l 4),.I (wr .i64 ((gI l 5)+1)),.L (gL l 6),.I (gI B 2),.I (gI B 3),.N (gN B 4),.LL (gLL B 5),.I (gI B 6),.I (gI B 7),.N (gN B 8),.L (gL B 9),.I (gI B 10),.I (gI B 11),.N (gN B 12),.LL (gLL B 13),.I (gI B 14),.I (gI B 15),.I (gI B 16),.I (gI B 17),.N (gN B 18),.LL (gLL B 19),.I (gI B 20),.I (gI B 21),.B (gB B 22),.I (gI B 23),.I (gI B 24),.N (gN B 25),.I (gI B 26),.I (gI B 27),.N (gN B 28),.LL (gLL B 29),.I (gI B 30),.I (gI B 31),.N (gN B 32),.LL (gLL B 33),.N (gN B 34),.L (gL B 35),.L (gL B 1)]))
 (fun _=>none)) j))
 (fun _=>none)) j)))))
 (ex 1 [.B (gB l 2),.L (gL l 6),.I (gI l 7),.I (gI l 8),.N (gN l 9),.LL (gLL l 10),.I (gI l 11),.I (gI l 12),.N (gN l 13),.L (gL l 14),.I (gI l 15),.I (gI l 16),.N (gN l 17),.LL (gLL l 18),.I (gI l 19),.I (gI l 20),.I (gI l 21),.I (gI l 22),.N (gN l 23),.LL (gLL l 24),.I (gI l 25),.I (gI l 26),.B (gB l 27),.I (gI l 28),.I (gI l 29),.N (gN l 30),.I (gI l 31),.I (gI l 32),.N (gN l 33),.LL (gLL l 34),.I (gI l 35),.I (gI l 36),.N (gN l 37),.LL (gLL l 38),.N (gN l 39),.L (gL l 40),.L (gL l 41)])
theorem L121_5_1.e0 (R:SDyn P S121_1.H):LEq (L121_5_1.O R) L121_5_1.H 0 (L121_5_1.s0 R):=by intro τ next κ l;kernel_rfl
def L121_5_1 (R:SDyn P S121_1.H):LStep P Cf:=LStep.mk1 (by decide) (L121_5_1.e0 R)
def L121_5_1.b (R:SDyn P S121_1.H) {τ:Type} (t:Nat) (l:LS_) (κ:Nat→LS_→Option τ):Option τ:=runE (L121_5_1 R) fuel κ t l
def L121_5_1.E (R:SDyn P S121_1.H):LEnt P:=LStep.E (L121_5_1 R)
def S121_1.O (R:SDyn P S121_1.H):Orc P:=⟨[F92.E,F71.E],[L121_5_1.E R],[],40⟩
def S121_1.body (R:SDyn P S121_1.H) {τ:Type} (l:LS_) (k:Nat→LS_→Option τ):Option τ :=
 br ((gI l 0)==(((gN l 5):Nat):Int))
 (ck ((eqM (gN l 1) (List.length (List.take ((gN l 1)*1) (List.drop 0 (gL l 2)))))&&true)
 (F92 [.L (List.take ((gN l 1)*1) (List.drop 0 (gL l 2)))]
 (fun j A=>(sw (ck (((leI 0 (gI A 0))&&(ltI (gI A 0) (gN l 35)))&&true)
 (ck (ltN (0+((Int.toNat (gI A 0))*1)) (List.length (gL l 36)))
 (ck (((leI 0 (gI A 0))&&(ltI (gI A 0) (gN l 35)))&&true)
 (ck ((leN ((0+((Int.toNat (gI A 0))*1))+1) (List.length (gL l 36)))&&true)
 (k 0 [.B true,.L (gL l 2),.I (gI l 3),.I (gI l 4),.N (gN l 5),.LL (gLL l 6),.I (gI l 7),.I (gI l 8),.N (gN l 9),.L (gL l 10),.I (gI l 11),.I (gI l 12),.N (gN l 13),.LL (gLL l 14),.I (gI l 15),.I (gI l 16),.I (gI l 17),.I (gI l 18),.N (gN l 19),.LL (gLL l 20),.I (gI l 21),.I (gI l 22),.B (gB l 23),.I (gI l 24),.I (gI l 25),.N (gN l 26),.I (gI l 27),.I (gI l 28),.N (gN l 29),.LL (gLL l 30),.I (gI l 31),.I (gI l 32),.N (gN l 33),.LL (gLL l 34),.N (gN l 35),.L (List.set (gL l 36) (0+((Int.toNat (gI A 0))*1)) (wr .i64 ((List.getD (gL l 36) (0+((Int.toNat (gI A 0))*1)) 0)+1)))])))))
 (fun _=>none)) j)))
 (ck ((eqM (gN l 1) (List.length (List.take ((gN l 1)*1) (List.drop 0 (gL l 2)))))&&true)
 (F71 [.L (List.take ((gN l 1)*1) (List.drop 0 (gL l 2)))]
 (fun j A=>(sw (L121_5_1.b R 0 [.I (gI l 0),.N (gN l 1),.B false,.N (gN A 0),.I (gI l 3),.I 0,.L (gL l 2),.I (gI l 3),.I (gI l 4),.N (gN l 5),.LL (gLL l 6),.I (gI l 7),.I (gI l 8),.N (gN l 9),.L (gL l 10),.I (gI l 11),.I (gI l 12),.N (gN l 13),.LL (gLL l 14),.I (gI l 15),.I (gI l 16),.I (gI l 17),.I (gI l 18),.N (gN l 19),.LL (gLL l 20),.I (gI l 21),.I (gI l 22),.B (gB l 23),.I (gI l 24),.I (gI l 25),.N (gN l 26),.I (gI l 27),.I (gI l 28),.N (gN l 29),.LL (gLL l 30),.I (gI l 31),.I (gI l 32),.N (gN l 33),.LL (gLL l 34),.N (gN l 35),.L (gL l 36),.L (gL A 1)]
 (fun j B=>(sw (k 0 [.B (gB B 0),.L (gL B 1),.I (gI B 2),.I (gI B 3),.N (gN B 4),.LL (gLL B 5),.I (gI B 6),.I (gI B 7),.N (gN B 8),.L (gL B 9),.I (gI B 10),.I (gI B 11),.N (gN B 12),.LL (gLL B 13),.I (gI B 14),.I (gI B 15),.I (gI B 16),.I (gI B 17),.N (gN B 18),.LL (gLL B 19),.I (gI B 20),.I (gI B 21),.B (gB B 22),.I (gI B 23),.I (gI B 24),.N (gN B 25),.I (gI B 26),.I (gI B 27),.N (gN B 28),.LL (gLL B 29),.I (gI B 30),.I (gI B 31),.N (gN B 32),.LL (gLL B 33),.N (gN B 34),.L (gL B 35)])
 (sw (k 0 [.B true,.L (gL B 1),.I (gI B 2),.I (gI B 3),.N (gN B 4),.LL (gLL B 5),.I (gI B 6),.I (gI B 7),.N (gN B 8),.L (gL B 9),.I (gI B 10),.I (gI B 11),.N (gN B 12),.LL (gLL B 13),.I (gI B 14),.I (gI B 15),.I (gI B 16),.I (gI B 17),.N (gN B 18),.LL (gLL B 19),.I (gI B 20),.I (gI B 21),.B (gB B 22),.I (gI B 23),.I (gI B 24),.N (gN B 25),.I (gI B 26),.I (gI B 27),.N (gN B 28),.LL (gLL B 29),.I (gI B 30),.I (gI B 31),.N (gN B 32),.LL (gLL B 33),.N (gN B 34),.L (gL B 35)])
 (fun _=>none))) j))
 (fun _=>none)) j)))
theorem S121_1.eq (R:SDyn P S121_1.H):SEq (S121_1.O R) S121_1.H (S121_1.body R):=by intro τ l κ;kernel_rfl
def S121_1.next (R:SDyn P S121_1.H):SDyn P S121_1.H:=mkS (S121_1.eq R)
def S121_1.D (n:Nat):SDyn P S121_1.H:=Nat.rec ⟨fun _ _=>none,fun _ _ _ h=>nomatch h⟩ (fun _ R=>S121_1.next R) n
def S121_1:Option τ:=(S121_1.D fuel).b l k
def S121_1.E:SEnt P:=⟨S121_1.H,S121_1.D fuel⟩
def F42.ps:List PV2:=[pCode]
def F42.sh:List PA:=[(PA.mk (PV3.tup [nS,pI]) []),(PA.mk (PV3.tup [(rr 0),(pC 0)]) [cI])]
def F42.O:Orc P:=⟨[F90.E,T81.E],[],[S121_1.E],40⟩
def F42:Option τ :=
 ck (((eqM (List.length (gLL l 2)) (List.length (gLL l 2)))&&true)&&true)
 (F90 [.I (gI l 0),.I (gI l 1),.LL (gLL l 2)]
 (fun j A=>(sw (br ((gI A 0) != 0)
 (k 0 [.I (gI A 0)])
 (ck (((leI 0 (wr .i64 ((gI l 1)+1)))&&(leI (wr .i64 ((gI l 1)+1)) (wr .i64 ((gI l 1)+1))))&&(leI ((wr .i64 ((gI l 1)+1))*9) 1099511627776))
 (T81 [.I (gI l 0)]
 (fun j B=>(sw (ck (((leI 0 (gI l 1))&&(leI (gI l 1) (gI l 1)))&&(leI ((gI l 1)*9) 1099511627776))
 (S121_1 [.I 0,.N (Int.toNat (gI l 1)),.L (List.replicate (Int.toNat (gI l 1)) (0:Int)),.I (gI l 0),.I (gI l 1),.N (List.length (gLL l 2)),.LL (gLL l 2),.I (gI B 0),.I (gI B 1),.N (List.length (gL B 2)),.L (gL B 2),.I (gI l 0),.I (gI l 1),.N (List.length (gLL l 2)),.LL (gLL l 2),.I 0,.I (gI A 0),.I (gI l 0),.I (gI l 1),.N (List.length (gLL l 2)),.LL (gLL l 2),.I (gI A 0),.I (gI A 0),.B false,.I (gI l 1),.I (wr .i64 ((gI l 1)+1)),.N (Int.toNat (wr .i64 ((gI l 1)+1))),.I (gI l 0),.I (gI l 1),.N (List.length (gLL l 2)),.LL (gLL l 2),.I (gI l 0),.I (gI l 1),.N (List.length (gLL l 2)),.LL (gLL l 2),.N (Int.toNat (wr .i64 ((gI l 1)+1))),.L (List.replicate (Int.toNat (wr .i64 ((gI l 1)+1))) (0:Int))]
 (fun j C=>(sw (k 1 [.N (gN C 34),.L (gL C 35)])
 (fun _=>none)) j)))
 (fun _=>none)) j))))
 (fun _=>none)) j))
theorem F42.eq:FEq F42.O 42 F42.ps F42.sh F42:=by intro τ l κ;kernel_rfl
def F42.E:Ent P:=mkF F42.eq
def S121_3.H:SHead:=⟨121,[pI,(rr 0)],[(pp 1),(pp 2),(pp 3),(pp 4)],oao4,[(pB,[oI,(oG [pI,pI,qM]),(oG [(PV2.v (PV1.yld 5))]),(oG [pI,pI,qR]),(oG [(PV2.fn 121 [(p1 1),(p1 2),(p1 3),(p1 4)])]),(PO.loop false [(PV2.agg [iI,iI,(PV1.sl (PC0.m .i64))]),(pp 6),nS,pI,pI,(pp 7),n_,(PV2.agg [iI,iI,(PV1.sl (PC0.m .i64))]),pI,pI,pB,n_,(PV2.agg [iI,iI,(PV1.sl (PC0.m .i64))]),(PV2.fn 120 [(p1 1),(p1 3)]),n_,n_,n_,n_,n_,n_,n_] [14] (rfA 64 0) (rfB 64 0) 1048620 true Out.normal),(oG [pI,pI,qM]),(oG [(rr 9)]),PO.dead,oM]),(pB,oao4)]⟩
def L121_5_3.H:LHead:=⟨false,false,10,495621,495621,12583735,256,0,[(PS.mk (pI::(rr 0)::(pp 1)::us 1 ((pp 3)::(pp 4)::us 2 (pB::(rr 9)::us 12 (pI::pI::us 21 [])))) oao6),(PS.mk (pI::(rr 0)::(pp 1)::us 1 ((pp 3)::(pp 4)::us 2 (pB::(rr 9)::us 12 (pI::pI::us 21 [])))) oao5)],[(Out.ret,(PS.mk (us 8 (pB::us 36 [])) oao5)),(Out.ret,(PS.mk (us 8 (pB::us 36 [])) oao6)),((Out.exit 0),(PS.mk (us 8 (pB::us 36 [])) oao6)),((Out.exit 0),(PS.mk (us 8 (pB::us 36 [])) oao5))]⟩
def L121_5_3.O (R:SDyn P S121_3.H):Orc P:=⟨[],[],[S94_1.E,⟨S121_3.H,R⟩],40⟩
def L121_5_3.s0 (R:SDyn P S121_3.H) {τ:Type} (next ex:Nat→LS_→Option τ) (l:LS_):Option τ :=
 br (ltI (gI l 5) (gI l 4))
 (ck (((((eqM (gN l 1) (gN l 3))&&(eqM (List.length (List.take ((gN l 1)*1) (List.drop 0 (gL l 6)))) (gN l 1)))&&true)&&(eqM (List.length (gL l 38)) (gN l 3)))&&true)
 (ck (((leI 0 (gI l 0))&&(ltI (gI l 0) (gN l 9)))&&true)
 (ck (ltN ((Int.toNat (gI l 0))*1) (List.length (gLL l 10)))
 (S94_1 [.I (gI l 11),.I (gI l 12),.N (gN l 13),.L (gL l 14),.N (gN l 3),.I (gI l 5),.N (List.length (List.getD (gLL l 10) ((Int.toNat (gI l 0))*1) [])),.L (List.getD (gLL l 10) ((Int.toNat (gI l 0))*1) []),.L (List.take ((gN l 1)*1) (List.drop 0 (gL l 6)))]
 (fun j A=>(sw (R.b [.I (wr .i64 ((gI l 0)+1)),.N (gN l 3),.L (gL A 0),.I (gI l 7),.I (gI l 8),.N (gN l 9),.LL (gLL l 10),.I (gI l 11),.I (gI l 12),.N (gN l 13),.L (gL l 14),.I (gI l 15),.I (gI l 16),.N (gN l 17),.LL (gLL l 18),.I (gI l 19),.I (gI l 20),.I (gI l 21),.I (gI l 22),.N (gN l 23),.LL (gLL l 24),.I (gI l 25),.I (gI l 26),.B (gB l 27),.I (gI l 28),.I (gI l 29),.N (gN l 30),.LL (gLL l 31),.I (gI l 32),.I (gI l 33),.N (gN l 34),.LL (gLL l 35),.N (gN l 36),.LL (gLL l 37)]
 (fun j B=>(sw (br (!(gB B 0))
 (ex 0 [.B false,.L (gL l 6),.I (gI B 2),.I (gI B 3),.N (gN B 4),.LL (gLL B 5),.I (gI B 6),.I (gI B 7),.N (gN B 8),.L (gL B 9),.I (gI B 10),.I (gI B 11),.N (gN B 12),.LL (gLL B 13),.I (gI B 14),.I (gI B 15),.I (gI B 16),.I (gI B 17),.N (gN B 18),.LL (gLL B 19),.I (gI B 20),.I (gI B 21),.B (gB B 22),.I (gI B 23),.I (gI B 24),.N (gN B 25),.LL (gLL B 26),.I (gI B 27),.I (gI B 28),.N (gN B 29),.LL (gLL B 30),.N (gN B 31),.L (gL B 1),.LL (gLL B 32)])
 (next 1 [.I (gI l 0),.N (gN l 1),.B (gB l 2),.N (gN l 3),.I (gI l 4),.I (wr .i64 ((gI l 5)+1)),.L (gL l 6),.I (gI B 2),.I (gI B 3),.N (gN B 4),.LL (gLL B 5),.I (gI B 6),.I (gI B 7),.N (gN B 8),.L (gL B 9),.I (gI B 10),.I (gI B 11),.N (gN B 12),.LL (gLL B 13),.I (gI B 14),.I (gI B 15),.I (gI B 16),.I (gI B 17),.N (gN B 18),.LL (gLL B 19),.I (gI B 20),.I (gI B 21),.B (gB B 22),.I (gI B 23),.I (gI B 24),.N (gN B 25),.LL (gLL B 26),.I (gI B 27),.I (gI B 28),.N (gN B 29),.LL (gLL B 30),.N (gN B 31),.L (gL B 1),.LL (gLL B 32)]))
 (sw (br (!(gB B 0))
 (ex 1 [.B false,.L (gL l 6),.I (gI B 2),.I (gI B 3),.N (gN B 4),.LL (gLL B 5),.I (gI B 6),.I (gI B 7),.N (gN B 8),.L (gL B 9),.I (gI B 10),.I (gI B 11),.N (gN B 12),.LL (gLL B 13),.I (gI B 14),.I (gI B 15),.I (gI B 16),.I (gI B 17),.N (gN B 18),.LL (gLL B 19),.I (gI B 20),.I (gI B 21),.B (gB B 22),.I (gI B 23),.I (gI B 24),.N (gN B 25),.LL (gLL B 26),.I (gI B 27),.I (gI B 28),.N (gN B 29),.LL (gLL B 30),.N (gN B 31),.LL (gLL B 32),.L (gL B 1)])
 (next 0 [.I (gI l 0),.N (gN l 1),.B (gB l 2),.N (gN l 3),.I (gI l 4),.I (wr .i64 ((gI l 5)+1)),.L (gL l 6),.I (gI B 2),.I (gI B 3),.N (gN B 4),.LL (gLL B 5),.I (gI B 6),.I (gI B 7),.N (gN B 8),.L (gL B 9),.I (gI B 10),.I (gI B 11),.N (gN B 12),.LL (gLL B 13),.I (gI B 14),.I (gI B 15),.I (gI B 16),.I (gI B 17),.N (gN B 18),.LL (gLL B 19),.I (gI B 20),.I (gI B 21),.B (gB B 22),.I (gI B 23),.I (gI B 24),.N (gN B 25),.LL (gLL B 26),.I (gI B 27),.I (gI B 28),.N (gN B 29),.LL (gLL B 30),.N (gN B 31),.LL (gLL B 32),.L (gL B 1)]))
 (fun _=>none))) j))
 (fun _=>none)) j)))))
 (ex 2 [.B (gB l 2),.L (gL l 6),.I (gI l 7),.I (gI l 8),.N (gN l 9),.LL (gLL l 10),.I (gI l 11),.I (gI l 12),.N (gN l 13),.L (gL l 14),.I (gI l 15),.I (gI l 16),.N (gN l 17),.LL (gLL l 18),.I (gI l 19),.I (gI l 20),.I (gI l 21),.I (gI l 22),.N (gN l 23),.LL (gLL l 24),.I (gI l 25),.I (gI l 26),.B (gB l 27),.I (gI l 28),.I (gI l 29),.N (gN l 30),.LL (gLL l 31),.I (gI l 32),.I (gI l 33),.N (gN l 34),.LL (gLL l 35),.N (gN l 36),.LL (gLL l 37),.L (gL l 38)])
theorem L121_5_3.e0 (R:SDyn P S121_3.H):LEq (L121_5_3.O R) L121_5_3.H 0 (L121_5_3.s0 R):=by intro τ next κ l;kernel_rfl
def L121_5_3.s1 (R:SDyn P S121_3.H) {τ:Type} (next ex:Nat→LS_→Option τ) (l:LS_):Option τ :=
 br (ltI (gI l 5) (gI l 4))
 (ck (((((eqM (gN l 1) (gN l 3))&&(eqM (List.length (List.take ((gN l 1)*1) (List.drop 0 (gL l 6)))) (gN l 1)))&&true)&&(eqM (List.length (gL l 37)) (gN l 3)))&&true)
 (ck (((leI 0 (gI l 0))&&(ltI (gI l 0) (gN l 9)))&&true)
 (ck (ltN ((Int.toNat (gI l 0))*1) (List.length (gLL l 10)))
 (S94_1 [.I (gI l 11),.I (gI l 12),.N (gN l 13),.L (gL l 14),.N (gN l 3),.I (gI l 5),.N (List.length (List.getD (gLL l 10) ((Int.toNat (gI l 0))*1) [])),.L (List.getD (gLL l 10) ((Int.toNat (gI l 0))*1) []),.L (List.take ((gN l 1)*1) (List.drop 0 (gL l 6)))]
 (fun j A=>(sw (R.b [.I (wr .i64 ((gI l 0)+1)),.N (gN l 3),.L (gL A 0),.I (gI l 7),.I (gI l 8),.N (gN l 9),.LL (gLL l 10),.I (gI l 11),.I (gI l 12),.N (gN l 13),.L (gL l 14),.I (gI l 15),.I (gI l 16),.N (gN l 17),.LL (gLL l 18),.I (gI l 19),.I (gI l 20),.I (gI l 21),.I (gI l 22),.N (gN l 23),.LL (gLL l 24),.I (gI l 25),.I (gI l 26),.B (gB l 27),.I (gI l 28),.I (gI l 29),.N (gN l 30),.LL (gLL l 31),.I (gI l 32),.I (gI l 33),.N (gN l 34),.LL (gLL l 35),.N (gN l 36),.LL (gLL l 38)]
 (fun j B=>(sw (br (!(gB B 0))
 (ex 0 [.B false,.L (gL l 6),.I (gI B 2),.I (gI B 3),.N (gN B 4),.LL (gLL B 5),.I (gI B 6),.I (gI B 7),.N (gN B 8),.L (gL B 9),.I (gI B 10),.I (gI B 11),.N (gN B 12),.LL (gLL B 13),.I (gI B 14),.I (gI B 15),.I (gI B 16),.I (gI B 17),.N (gN B 18),.LL (gLL B 19),.I (gI B 20),.I (gI B 21),.B (gB B 22),.I (gI B 23),.I (gI B 24),.N (gN B 25),.LL (gLL B 26),.I (gI B 27),.I (gI B 28),.N (gN B 29),.LL (gLL B 30),.N (gN B 31),.L (gL B 1),.LL (gLL B 32)])
 (next 1 [.I (gI l 0),.N (gN l 1),.B (gB l 2),.N (gN l 3),.I (gI l 4),.I (wr .i64 ((gI l 5)+1)),.L (gL l 6),.I (gI B 2),.I (gI B 3),.N (gN B 4),.LL (gLL B 5),.I (gI B 6),.I (gI B 7),.N (gN B 8),.L (gL B 9),.I (gI B 10),.I (gI B 11),.N (gN B 12),.LL (gLL B 13),.I (gI B 14),.I (gI B 15),.I (gI B 16),.I (gI B 17),.N (gN B 18),.LL (gLL B 19),.I (gI B 20),.I (gI B 21),.B (gB B 22),.I (gI B 23),.I (gI B 24),.N (gN B 25),.LL (gLL B 26),.I (gI B 27),.I (gI B 28),.N (gN B 29),.LL (gLL B 30),.N (gN B 31),.L (gL B 1),.LL (gLL B 32)]))
 (sw (br (!(gB B 0))
 (ex 0 [.B false,.L (gL l 6),.I (gI B 2),.I (gI B 3),.N (gN B 4),.LL (gLL B 5),.I (gI B 6),.I (gI B 7),.N (gN B 8),.L (gL B 9),.I (gI B 10),.I (gI B 11),.N (gN B 12),.LL (gLL B 13),.I (gI B 14),.I (gI B 15),.I (gI B 16),.I (gI B 17),.N (gN B 18),.LL (gLL B 19),.I (gI B 20),.I (gI B 21),.B (gB B 22),.I (gI B 23),.I (gI B 24),.N (gN B 25),.LL (gLL B 26),.I (gI B 27),.I (gI B 28),.N (gN B 29),.LL (gLL B 30),.N (gN B 31),.L (gL B 1),.LL (gLL B 32)])
 (next 1 [.I (gI l 0),.N (gN l 1),.B (gB l 2),.N (gN l 3),.I (gI l 4),.I (wr .i64 ((gI l 5)+1)),.L (gL l 6),.I (gI B 2),.I (gI B 3),.N (gN B 4),.LL (gLL B 5),.I (gI B 6),.I (gI B 7),.N (gN B 8),.L (gL B 9),.I (gI B 10),.I (gI B 11),.N (gN B 12),.LL (gLL B 13),.I (gI B 14),.I (gI B 15),.I (gI B 16),.I (gI B 17),.N (gN B 18),.LL (gLL B 19),.I (gI B 20),.I (gI B 21),.B (gB B 22),.I (gI B 23),.I (gI B 24),.N (gN B 25),.LL (gLL B 26),.I (gI B 27),.I (gI B 28),.N (gN B 29),.LL (gLL B 30),.N (gN B 31),.L (gL B 1),.LL (gLL B 32)]))
 (fun _=>none))) j))
 (fun _=>none)) j)))))
 (ex 3 [.B (gB l 2),.L (gL l 6),.I (gI l 7),.I (gI l 8),.N (gN l 9),.LL (gLL l 10),.I (gI l 11),.I (gI l 12),.N (gN l 13),.L (gL l 14),.I (gI l 15),.I (gI l 16),.N (gN l 17),.LL (gLL l 18),.I (gI l 19),.I (gI l 20),.I (gI l 21),.I (gI l 22),.N (gN l 23),.LL (gLL l 24),.I (gI l 25),.I (gI l 26),.B (gB l 27),.I (gI l 28),.I (gI l 29),.N (gN l 30),.LL (gLL l 31),.I (gI l 32),.I (gI l 33),.N (gN l 34),.LL (gLL l 35),.N (gN l 36),.L (gL l 37),.LL (gLL l 38)])
theorem L121_5_3.e1 (R:SDyn P S121_3.H):LEq (L121_5_3.O R) L121_5_3.H 1 (L121_5_3.s1 R):=by intro τ next κ l;kernel_rfl
def L121_5_3 (R:SDyn P S121_3.H):LStep P Cf:=LStep.mk2 (by decide) (L121_5_3.e0 R) (L121_5_3.e1 R)
def L121_5_3.b (R:SDyn P S121_3.H) {τ:Type} (t:Nat) (l:LS_) (κ:Nat→LS_→Option τ):Option τ:=runE (L121_5_3 R) fuel κ t l
def L121_5_3.E (R:SDyn P S121_3.H):LEnt P:=LStep.E (L121_5_3 R)
def S121_3.O (R:SDyn P S121_3.H):Orc P:=⟨[F71.E],[L121_5_3.E R],[],40⟩
def S121_3.body (R:SDyn P S121_3.H) {τ:Type} (l:LS_) (k:Nat→LS_→Option τ):Option τ :=
 br ((gI l 0)==(((gN l 5):Nat):Int))
 (ck ((eqM (gN l 1) (List.length (List.take ((gN l 1)*1) (List.drop 0 (gL l 2)))))&&true)
 (F71 [.L (List.take ((gN l 1)*1) (List.drop 0 (gL l 2)))]
 (fun j A=>(sw (ck ((eqM (gN A 0) (List.length (List.take ((gN A 0)*1) (List.drop 0 (gL A 1)))))&&true)
 (ck (((((eqM (List.length (gLL l 33)) ((gN l 32)*1))&&true)&&(eqM 1 1))&&(leN (((gN l 32)+1)*25) 1099511627776))&&true)
 (k 0 [.B true,.L (gL l 2),.I (gI l 3),.I (gI l 4),.N (gN l 5),.LL (gLL l 6),.I (gI l 7),.I (gI l 8),.N (gN l 9),.L (gL l 10),.I (gI l 11),.I (gI l 12),.N (gN l 13),.LL (gLL l 14),.I (gI l 15),.I (gI l 16),.I (gI l 17),.I (gI l 18),.N (gN l 19),.LL (gLL l 20),.I (gI l 21),.I (gI l 22),.B (gB l 23),.I (gI l 24),.I (gI l 25),.N (gN l 26),.LL (gLL l 27),.I (gI l 28),.I (gI l 29),.N (gN l 30),.LL (gLL l 31),.N ((gN l 32)+1),.LL ((gLL l 33)++(List.take 1 (List.drop 0 [(List.take ((gN A 0)*1) (List.drop 0 (gL A 1)))])))])))
 (fun _=>none)) j)))
 (ck ((eqM (gN l 1) (List.length (List.take ((gN l 1)*1) (List.drop 0 (gL l 2)))))&&true)
 (F71 [.L (List.take ((gN l 1)*1) (List.drop 0 (gL l 2)))]
 (fun j A=>(sw (L121_5_3.b R 0 [.I (gI l 0),.N (gN l 1),.B false,.N (gN A 0),.I (gI l 3),.I 0,.L (gL l 2),.I (gI l 3),.I (gI l 4),.N (gN l 5),.LL (gLL l 6),.I (gI l 7),.I (gI l 8),.N (gN l 9),.L (gL l 10),.I (gI l 11),.I (gI l 12),.N (gN l 13),.LL (gLL l 14),.I (gI l 15),.I (gI l 16),.I (gI l 17),.I (gI l 18),.N (gN l 19),.LL (gLL l 20),.I (gI l 21),.I (gI l 22),.B (gB l 23),.I (gI l 24),.I (gI l 25),.N (gN l 26),.LL (gLL l 27),.I (gI l 28),.I (gI l 29),.N (gN l 30),.LL (gLL l 31),.N (gN l 32),.LL (gLL l 33),.L (gL A 1)]
 (fun j B=>(sw (k 0 [.B (gB B 0),.L (gL B 1),.I (gI B 2),.I (gI B 3),.N (gN B 4),.LL (gLL B 5),.I (gI B 6),.I (gI B 7),.N (gN B 8),.L (gL B 9),.I (gI B 10),.I (gI B 11),.N (gN B 12),.LL (gLL B 13),.I (gI B 14),.I (gI B 15),.I (gI B 16),.I (gI B 17),.N (gN B 18),.LL (gLL B 19),.I (gI B 20),.I (gI B 21),.B (gB B 22),.I (gI B 23),.I (gI B 24),.N (gN B 25),.LL (gLL B 26),.I (gI B 27),.I (gI B 28),.N (gN B 29),.LL (gLL B 30),.N (gN B 31),.LL (gLL B 33)])
 (sw (k 1 [.B (gB B 0),.L (gL B 1),.I (gI B 2),.I (gI B 3),.N (gN B 4),.LL (gLL B 5),.I (gI B 6),.I (gI B 7),.N (gN B 8),.L (gL B 9),.I (gI B 10),.I (gI B 11),.N (gN B 12),.LL (gLL B 13),.I (gI B 14),.I (gI B 15),.I (gI B 16),.I (gI B 17),.N (gN B 18),.LL (gLL B 19),.I (gI B 20),.I (gI B 21),.B (gB B 22),.I (gI B 23),.I (gI B 24),.N (gN B 25),.LL (gLL B 26),.I (gI B 27),.I (gI B 28),.N (gN B 29),.LL (gLL B 30),.N (gN B 31),.LL (gLL B 32)])
 (sw (k 1 [.B true,.L (gL B 1),.I (gI B 2),.I (gI B 3),.N (gN B 4),.LL (gLL B 5),.I (gI B 6),.I (gI B 7),.N (gN B 8),.L (gL B 9),.I (gI B 10),.I (gI B 11),.N (gN B 12),.LL (gLL B 13),.I (gI B 14),.I (gI B 15),.I (gI B 16),.I (gI B 17),.N (gN B 18),.LL (gLL B 19),.I (gI B 20),.I (gI B 21),.B (gB B 22),.I (gI B 23),.I (gI B 24),.N (gN B 25),.LL (gLL B 26),.I (gI B 27),.I (gI B 28),.N (gN B 29),.LL (gLL B 30),.N (gN B 31),.LL (gLL B 32)])
 (sw (k 0 [.B true,.L (gL B 1),.I (gI B 2),.I (gI B 3),.N (gN B 4),.LL (gLL B 5),.I (gI B 6),.I (gI B 7),.N (gN B 8),.L (gL B 9),.I (gI B 10),.I (gI B 11),.N (gN B 12),.LL (gLL B 13),.I (gI B 14),.I (gI B 15),.I (gI B 16),.I (gI B 17),.N (gN B 18),.LL (gLL B 19),.I (gI B 20),.I (gI B 21),.B (gB B 22),.I (gI B 23),.I (gI B 24),.N (gN B 25),.LL (gLL B 26),.I (gI B 27),.I (gI B 28),.N (gN B 29),.LL (gLL B 30),.N (gN B 31),.LL (gLL B 33)])
 (fun _=>none))))) j))
 (fun _=>none)) j)))
theorem S121_3.eq (R:SDyn P S121_3.H):SEq (S121_3.O R) S121_3.H (S121_3.body R):=by intro τ l κ;kernel_rfl
def S121_3.next (R:SDyn P S121_3.H):SDyn P S121_3.H:=mkS (S121_3.eq R)
def S121_3.D (n:Nat):SDyn P S121_3.H:=Nat.rec ⟨fun _ _=>none,fun _ _ _ h=>nomatch h⟩ (fun _ R=>S121_3.next R) n
def S121_3:Option τ:=(S121_3.D fuel).b l k
def S121_3.E:SEnt P:=⟨S121_3.H,S121_3.D fuel⟩
def S121_2.H:SHead:=⟨121,[pI,(rr 0)],[(pp 1),(pp 2),(pp 3),(pp 4)],oao7,[(pB,oao4),(pB,oao7)]⟩
def L121_5_2.H:LHead:=⟨false,false,9,495621,495621,12583735,256,0,[(PS.mk (pI::(rr 0)::(pp 1)::us 1 ((pp 3)::(pp 4)::us 2 (pB::(rr 8)::us 12 (pI::pI::us 21 [])))) oao9),(PS.mk (pI::(rr 0)::(pp 1)::us 1 ((pp 3)::(pp 4)::us 2 (pB::(rr 8)::us 12 (pI::pI::us 21 [])))) oao8)],[(Out.ret,(PS.mk (us 8 (pB::us 36 [])) oao8)),(Out.ret,(PS.mk (us 8 (pB::us 36 [])) oao9)),((Out.exit 0),(PS.mk (us 8 (pB::us 36 [])) oao9)),((Out.exit 0),(PS.mk (us 8 (pB::us 36 [])) oao8))]⟩
def L121_5_2.O (R:SDyn P S121_2.H):Orc P:=⟨[],[],[S94_1.E,⟨S121_2.H,R⟩,S121_3.E],40⟩
def L121_5_2.s0 (R:SDyn P S121_2.H) {τ:Type} (next ex:Nat→LS_→Option τ) (l:LS_):Option τ :=
 br (ltI (gI l 5) (gI l 4))
 (ck (((((eqM (gN l 1) (gN l 3))&&(eqM (List.length (List.take ((gN l 1)*1) (List.drop 0 (gL l 6)))) (gN l 1)))&&true)&&(eqM (List.length (gL l 36)) (gN l 3)))&&true)
 (ck (((leI 0 (gI l 0))&&(ltI (gI l 0) (gN l 9)))&&true)
 (ck (ltN ((Int.toNat (gI l 0))*1) (List.length (gLL l 10)))
 (S94_1 [.I (gI l 11),.I (gI l 12),.N (gN l 13),.L (gL l 14),.N (gN l 3),.I (gI l 5),.N (List.length (List.getD (gLL l 10) ((Int.toNat (gI l 0))*1) [])),.L (List.getD (gLL l 10) ((Int.toNat (gI l 0))*1) []),.L (List.take ((gN l 1)*1) (List.drop 0 (gL l 6)))]
 (fun j A=>(sw (R.b [.I (wr .i64 ((gI l 0)+1)),.N (gN l 3),.L (gL A 0),.I (gI l 7),.I (gI l 8),.N (gN l 9),.LL (gLL l 10),.I (gI l 11),.I (gI l 12),.N (gN l 13),.L (gL l 14),.I (gI l 15),.I (gI l 16),.N (gN l 17),.LL (gLL l 18),.I (gI l 19),.I (gI l 20),.I (gI l 21),.I (gI l 22),.N (gN l 23),.LL (gLL l 24),.I (gI l 25),.I (gI l 26),.B (gB l 27),.I (gI l 28),.I (gI l 29),.N (gN l 30),.LL (gLL l 31),.I (gI l 32),.I (gI l 33),.N (gN l 34),.LL (gLL l 35)]
 (fun j B=>(sw (br (!(gB B 0))
 (ex 0 [.B false,.L (gL l 6),.I (gI B 2),.I (gI B 3),.N (gN B 4),.LL (gLL B 5),.I (gI B 6),.I (gI B 7),.N (gN B 8),.L (gL B 9),.I (gI B 10),.I (gI B 11),.N (gN B 12),.LL (gLL B 13),.I (gI B 14),.I (gI B 15),.I (gI B 16),.I (gI B 17),.N (gN B 18),.LL (gLL B 19),.I (gI B 20),.I (gI B 21),.B (gB B 22),.I (gI B 23),.I (gI B 24),.N (gN B 25),.LL (gLL B 26),.I (gI B 27),.I (gI B 28),.N (gN B 29),.LL (gLL B 30),.N (gN B 31),.L (gL B 1),.LL (gLL B 32)])
 (next 1 [.I (gI l 0),.N (gN l 1),.B (gB l 2),.N (gN l 3),.I (gI l 4),.I (wr .i64 ((gI l 5)+1)),.L (gL l 6),.I (gI B 2),.I (gI B 3),.N (gN B 4),.LL (gLL B 5),.I (gI B 6),.I (gI B 7),.N (gN B 8),.L (gL B 9),.I (gI B 10),.I (gI B 11),.N (gN B 12),.LL (gLL B 13),.I (gI B 14),.I (gI B 15),.I (gI B 16),.I (gI B 17),.N (gN B 18),.LL (gLL B 19),.I (gI B 20),.I (gI B 21),.B (gB B 22),.I (gI B 23),.I (gI B 24),.N (gN B 25),.LL (gLL B 26),.I (gI B 27),.I (gI B 28),.N (gN B 29),.LL (gLL B 30),.N (gN B 31),.L (gL B 1),.LL (gLL B 32)]))
 (sw (br (!(gB B 0))
 (ex 1 [.B false,.L (gL l 6),.I (gI B 2),.I (gI B 3),.N (gN B 4),.LL (gLL B 5),.I (gI B 6),.I (gI B 7),.N (gN B 8),.L (gL B 9),.I (gI B 10),.I (gI B 11),.N (gN B 12),.LL (gLL B 13),.I (gI B 14),.I (gI B 15),.I (gI B 16),.I (gI B 17),.N (gN B 18),.LL (gLL B 19),.I (gI B 20),.I (gI B 21),.B (gB B 22),.I (gI B 23),.I (gI B 24),.N (gN B 25),.LL (gLL B 26),.I (gI B 27),.I (gI B 28),.N (gN B 29),.LL (gLL B 30),.L (gL B 1)])
 (next 0 [.I (gI l 0),.N (gN l 1),.B (gB l 2),.N (gN l 3),.I (gI l 4),.I (wr .i64 ((gI l 5)+1)),.L (gL l 6),.I (gI B 2),.I (gI B 3),.N (gN B 4),.LL (gLL B 5),.I (gI B 6),.I (gI B 7),.N (gN B 8),.L (gL B 9),.I (gI B 10),.I (gI B 11),.N (gN B 12),.LL (gLL B 13),.I (gI B 14),.I (gI B 15),.I (gI B 16),.I (gI B 17),.N (gN B 18),.LL (gLL B 19),.I (gI B 20),.I (gI B 21),.B (gB B 22),.I (gI B 23),.I (gI B 24),.N (gN B 25),.LL (gLL B 26),.I (gI B 27),.I (gI B 28),.N (gN B 29),.LL (gLL B 30),.L (gL B 1)]))
 (fun _=>none))) j))
 (fun _=>none)) j)))))
 (ex 2 [.B (gB l 2),.L (gL l 6),.I (gI l 7),.I (gI l 8),.N (gN l 9),.LL (gLL l 10),.I (gI l 11),.I (gI l 12),.N (gN l 13),.L (gL l 14),.I (gI l 15),.I (gI l 16),.N (gN l 17),.LL (gLL l 18),.I (gI l 19),.I (gI l 20),.I (gI l 21),.I (gI l 22),.N (gN l 23),.LL (gLL l 24),.I (gI l 25),.I (gI l 26),.B (gB l 27),.I (gI l 28),.I (gI l 29),.N (gN l 30),.LL (gLL l 31),.I (gI l 32),.I (gI l 33),.N (gN l 34),.LL (gLL l 35),.L (gL l 36)])
theorem L121_5_2.e0 (R:SDyn P S121_2.H):LEq (L121_5_2.O R) L121_5_2.H 0 (L121_5_2.s0 R):=by intro τ next κ l;kernel_rfl
def L121_5_2.s1 (R:SDyn P S121_2.H) {τ:Type} (next ex:Nat→LS_→Option τ) (l:LS_):Option τ :=
 br (ltI (gI l 5) (gI l 4))
 (ck (((((eqM (gN l 1) (gN l 3))&&(eqM (List.length (List.take ((gN l 1)*1) (List.drop 0 (gL l 6)))) (gN l 1)))&&true)&&(eqM (List.length (gL l 37)) (gN l 3)))&&true)
 (ck (((leI 0 (gI l 0))&&(ltI (gI l 0) (gN l 9)))&&true)
 (ck (ltN ((Int.toNat (gI l 0))*1) (List.length (gLL l 10)))
 (S94_1 [.I (gI l 11),.I (gI l 12),.N (gN l 13),.L (gL l 14),.N (gN l 3),.I (gI l 5),.N (List.length (List.getD (gLL l 10) ((Int.toNat (gI l 0))*1) [])),.L (List.getD (gLL l 10) ((Int.toNat (gI l 0))*1) []),.L (List.take ((gN l 1)*1) (List.drop 0 (gL l 6)))]
 (fun j A=>(sw (S121_3 [.I (wr .i64 ((gI l 0)+1)),.N (gN l 3),.L (gL A 0),.I (gI l 7),.I (gI l 8),.N (gN l 9),.LL (gLL l 10),.I (gI l 11),.I (gI l 12),.N (gN l 13),.L (gL l 14),.I (gI l 15),.I (gI l 16),.N (gN l 17),.LL (gLL l 18),.I (gI l 19),.I (gI l 20),.I (gI l 21),.I (gI l 22),.N (gN l 23),.LL (gLL l 24),.I (gI l 25),.I (gI l 26),.B (gB l 27),.I (gI l 28),.I (gI l 29),.N (gN l 30),.LL (gLL l 31),.I (gI l 32),.I (gI l 33),.N (gN l 34),.LL (gLL l 35),.N (gN l 36),.LL (gLL l 38)]
 (fun j B=>(sw (br (!(gB B 0))
 (ex 0 [.B false,.L (gL l 6),.I (gI B 2),.I (gI B 3),.N (gN B 4),.LL (gLL B 5),.I (gI B 6),.I (gI B 7),.N (gN B 8),.L (gL B 9),.I (gI B 10),.I (gI B 11),.N (gN B 12),.LL (gLL B 13),.I (gI B 14),.I (gI B 15),.I (gI B 16),.I (gI B 17),.N (gN B 18),.LL (gLL B 19),.I (gI B 20),.I (gI B 21),.B (gB B 22),.I (gI B 23),.I (gI B 24),.N (gN B 25),.LL (gLL B 26),.I (gI B 27),.I (gI B 28),.N (gN B 29),.LL (gLL B 30),.N (gN B 31),.L (gL B 1),.LL (gLL B 32)])
 (next 1 [.I (gI l 0),.N (gN l 1),.B (gB l 2),.N (gN l 3),.I (gI l 4),.I (wr .i64 ((gI l 5)+1)),.L (gL l 6),.I (gI B 2),.I (gI B 3),.N (gN B 4),.LL (gLL B 5),.I (gI B 6),.I (gI B 7),.N (gN B 8),.L (gL B 9),.I (gI B 10),.I (gI B 11),.N (gN B 12),.LL (gLL B 13),.I (gI B 14),.I (gI B 15),.I (gI B 16),.I (gI B 17),.N (gN B 18),.LL (gLL B 19),.I (gI B 20),.I (gI B 21),.B (gB B 22),.I (gI B 23),.I (gI B 24),.N (gN B 25),.LL (gLL B 26),.I (gI B 27),.I (gI B 28),.N (gN B 29),.LL (gLL B 30),.N (gN B 31),.L (gL B 1),.LL (gLL B 32)]))
 (sw (br (!(gB B 0))
 (ex 0 [.B false,.L (gL l 6),.I (gI B 2),.I (gI B 3),.N (gN B 4),.LL (gLL B 5),.I (gI B 6),.I (gI B 7),.N (gN B 8),.L (gL B 9),.I (gI B 10),.I (gI B 11),.N (gN B 12),.LL (gLL B 13),.I (gI B 14),.I (gI B 15),.I (gI B 16),.I (gI B 17),.N (gN B 18),.LL (gLL B 19),.I (gI B 20),.I (gI B 21),.B (gB B 22),.I (gI B 23),.I (gI B 24),.N (gN B 25),.LL (gLL B 26),.I (gI B 27),.I (gI B 28),.N (gN B 29),.LL (gLL B 30),.N (gN B 31),.L (gL B 1),.LL (gLL B 32)])
 (next 1 [.I (gI l 0),.N (gN l 1),.B (gB l 2),.N (gN l 3),.I (gI l 4),.I (wr .i64 ((gI l 5)+1)),.L (gL l 6),.I (gI B 2),.I (gI B 3),.N (gN B 4),.LL (gLL B 5),.I (gI B 6),.I (gI B 7),.N (gN B 8),.L (gL B 9),.I (gI B 10),.I (gI B 11),.N (gN B 12),.LL (gLL B 13),.I (gI B 14),.I (gI B 15),.I (gI B 16),.I (gI B 17),.N (gN B 18),.LL (gLL B 19),.I (gI B 20),.I (gI B 21),.B (gB B 22),.I (gI B 23),.I (gI B 24),.N (gN B 25),.LL (gLL B 26),.I (gI B 27),.I (gI B 28),.N (gN B 29),.LL (gLL B 30),.N (gN B 31),.L (gL B 1),.LL (gLL B 32)]))
 (fun _=>none))) j))
 (fun _=>none)) j)))))
 (ex 3 [.B (gB l 2),.L (gL l 6),.I (gI l 7),.I (gI l 8),.N (gN l 9),.LL (gLL l 10),.I (gI l 11),.I (gI l 12),.N (gN l 13),.L (gL l 14),.I (gI l 15),.I (gI l 16),.N (gN l 17),.LL (gLL l 18),.I (gI l 19),.I (gI l 20),.I (gI l 21),.I (gI l 22),.N (gN l 23),.LL (gLL l 24),.I (gI l 25),.I (gI l 26),.B (gB l 27),.I (gI l 28),.I (gI l 29),.N (gN l 30),.LL (gLL l 31),.I (gI l 32),.I (gI l 33),.N (gN l 34),.LL (gLL l 35),.N (gN l 36),.L (gL l 37),.LL (gLL l 38)])
theorem L121_5_2.e1 (R:SDyn P S121_2.H):LEq (L121_5_2.O R) L121_5_2.H 1 (L121_5_2.s1 R):=by intro τ next κ l;kernel_rfl
def L121_5_2 (R:SDyn P S121_2.H):LStep P Cf:=LStep.mk2 (by decide) (L121_5_2.e0 R) (L121_5_2.e1 R)
def L121_5_2.b (R:SDyn P S121_2.H) {τ:Type} (t:Nat) (l:LS_) (κ:Nat→LS_→Option τ):Option τ:=runE (L121_5_2 R) fuel κ t l
def L121_5_2.E (R:SDyn P S121_2.H):LEnt P:=LStep.E (L121_5_2 R)
def S121_2.O (R:SDyn P S121_2.H):Orc P:=⟨[F71.E],[L121_5_2.E R],[],40⟩
def S121_2.body (R:SDyn P S121_2.H) {τ:Type} (l:LS_) (k:Nat→LS_→Option τ):Option τ :=
 br ((gI l 0)==(((gN l 5):Nat):Int))
 (ck ((eqM (gN l 1) (List.length (List.take ((gN l 1)*1) (List.drop 0 (gL l 2)))))&&true)
 (F71 [.L (List.take ((gN l 1)*1) (List.drop 0 (gL l 2)))]
 (fun j A=>(sw (ck ((eqM (gN A 0) (List.length (List.take ((gN A 0)*1) (List.drop 0 (gL A 1)))))&&true)
 (k 0 [.B true,.L (gL l 2),.I (gI l 3),.I (gI l 4),.N (gN l 5),.LL (gLL l 6),.I (gI l 7),.I (gI l 8),.N (gN l 9),.L (gL l 10),.I (gI l 11),.I (gI l 12),.N (gN l 13),.LL (gLL l 14),.I (gI l 15),.I (gI l 16),.I (gI l 17),.I (gI l 18),.N (gN l 19),.LL (gLL l 20),.I (gI l 21),.I (gI l 22),.B (gB l 23),.I (gI l 24),.I (gI l 25),.N (gN l 26),.LL (gLL l 27),.I (gI l 28),.I (gI l 29),.N (gN l 30),.LL (gLL l 31),.N 1,.LL (List.take 1 (List.drop 0 [(List.take ((gN A 0)*1) (List.drop 0 (gL A 1)))]))]))
 (fun _=>none)) j)))
 (ck ((eqM (gN l 1) (List.length (List.take ((gN l 1)*1) (List.drop 0 (gL l 2)))))&&true)
 (F71 [.L (List.take ((gN l 1)*1) (List.drop 0 (gL l 2)))]
 (fun j A=>(sw (L121_5_2.b R 0 [.I (gI l 0),.N (gN l 1),.B false,.N (gN A 0),.I (gI l 3),.I 0,.L (gL l 2),.I (gI l 3),.I (gI l 4),.N (gN l 5),.LL (gLL l 6),.I (gI l 7),.I (gI l 8),.N (gN l 9),.L (gL l 10),.I (gI l 11),.I (gI l 12),.N (gN l 13),.LL (gLL l 14),.I (gI l 15),.I (gI l 16),.I (gI l 17),.I (gI l 18),.N (gN l 19),.LL (gLL l 20),.I (gI l 21),.I (gI l 22),.B (gB l 23),.I (gI l 24),.I (gI l 25),.N (gN l 26),.LL (gLL l 27),.I (gI l 28),.I (gI l 29),.N (gN l 30),.LL (gLL l 31),.L (gL A 1)]
 (fun j B=>(sw (k 0 [.B (gB B 0),.L (gL B 1),.I (gI B 2),.I (gI B 3),.N (gN B 4),.LL (gLL B 5),.I (gI B 6),.I (gI B 7),.N (gN B 8),.L (gL B 9),.I (gI B 10),.I (gI B 11),.N (gN B 12),.LL (gLL B 13),.I (gI B 14),.I (gI B 15),.I (gI B 16),.I (gI B 17),.N (gN B 18),.LL (gLL B 19),.I (gI B 20),.I (gI B 21),.B (gB B 22),.I (gI B 23),.I (gI B 24),.N (gN B 25),.LL (gLL B 26),.I (gI B 27),.I (gI B 28),.N (gN B 29),.LL (gLL B 30),.N (gN B 31),.LL (gLL B 33)])
 (sw (k 1 [.B (gB B 0),.L (gL B 1),.I (gI B 2),.I (gI B 3),.N (gN B 4),.LL (gLL B 5),.I (gI B 6),.I (gI B 7),.N (gN B 8),.L (gL B 9),.I (gI B 10),.I (gI B 11),.N (gN B 12),.LL (gLL B 13),.I (gI B 14),.I (gI B 15),.I (gI B 16),.I (gI B 17),.N (gN B 18),.LL (gLL B 19),.I (gI B 20),.I (gI B 21),.B (gB B 22),.I (gI B 23),.I (gI B 24),.N (gN B 25),.LL (gLL B 26),.I (gI B 27),.I (gI B 28),.N (gN B 29),.LL (gLL B 30)])
 (sw (k 1 [.B true,.L (gL B 1),.I (gI B 2),.I (gI B 3),.N (gN B 4),.LL (gLL B 5),.I (gI B 6),.I (gI B 7),.N (gN B 8),.L (gL B 9),.I (gI B 10),.I (gI B 11),.N (gN B 12),.LL (gLL B 13),.I (gI B 14),.I (gI B 15),.I (gI B 16),.I (gI B 17),.N (gN B 18),.LL (gLL B 19),.I (gI B 20),.I (gI B 21),.B (gB B 22),.I (gI B 23),.I (gI B 24),.N (gN B 25),.LL (gLL B 26),.I (gI B 27),.I (gI B 28),.N (gN B 29),.LL (gLL B 30)])
 (sw (k 0 [.B true,.L (gL B 1),.I (gI B 2),.I (gI B 3),.N (gN B 4),.LL (gLL B 5),.I (gI B 6),.I (gI B 7),.N (gN B 8),.L (gL B 9),.I (gI B 10),.I (gI B 11),.N (gN B 12),.LL (gLL B 13),.I (gI B 14),.I (gI B 15),.I (gI B 16),.I (gI B 17),.N (gN B 18),.LL (gLL B 19),.I (gI B 20),.I (gI B 21),.B (gB B 22),.I (gI B 23),.I (gI B 24),.N (gN B 25),.LL (gLL B 26),.I (gI B 27),.I (gI B 28),.N (gN B 29),.LL (gLL B 30),.N (gN B 31),.LL (gLL B 33)])
 (fun _=>none))))) j))
 (fun _=>none)) j)))
theorem S121_2.eq (R:SDyn P S121_2.H):SEq (S121_2.O R) S121_2.H (S121_2.body R):=by intro τ l κ;kernel_rfl
def S121_2.next (R:SDyn P S121_2.H):SDyn P S121_2.H:=mkS (S121_2.eq R)
def S121_2.D (n:Nat):SDyn P S121_2.H:=Nat.rec ⟨fun _ _=>none,fun _ _ _ h=>nomatch h⟩ (fun _ R=>S121_2.next R) n
def S121_2:Option τ:=(S121_2.D fuel).b l k
def S121_2.E:SEnt P:=⟨S121_2.H,S121_2.D fuel⟩
def F64.ps:List PV2:=[pCode]
def F64.sh:List PA:=[(PA.mk (PV3.tup [nS,pI]) []),(PA.mk (PV3.tup [(rr 0),(pC 0)]) [cM]),(PA.mk (PV3.tup [nS,(pC 0)]) [])]
def F64.O:Orc P:=⟨[F90.E,T81.E],[],[S121_2.E],40⟩
def F64:Option τ :=
 ck (((eqM (List.length (gLL l 2)) (List.length (gLL l 2)))&&true)&&true)
 (F90 [.I (gI l 0),.I (gI l 1),.LL (gLL l 2)]
 (fun j A=>(sw (br ((gI A 0) != 0)
 (k 0 [.I (gI A 0)])
 (T81 [.I (gI l 0)]
 (fun j B=>(sw (ck (((leI 0 (gI l 1))&&(leI (gI l 1) (gI l 1)))&&(leI ((gI l 1)*9) 1099511627776))
 (S121_2 [.I 0,.N (Int.toNat (gI l 1)),.L (List.replicate (Int.toNat (gI l 1)) (0:Int)),.I (gI l 0),.I (gI l 1),.N (List.length (gLL l 2)),.LL (gLL l 2),.I (gI B 0),.I (gI B 1),.N (List.length (gL B 2)),.L (gL B 2),.I (gI l 0),.I (gI l 1),.N (List.length (gLL l 2)),.LL (gLL l 2),.I 0,.I (gI A 0),.I (gI l 0),.I (gI l 1),.N (List.length (gLL l 2)),.LL (gLL l 2),.I (gI A 0),.I (gI A 0),.B false,.I (gI l 0),.I (gI l 1),.N (List.length (gLL l 2)),.LL (gLL l 2),.I (gI l 0),.I (gI l 1),.N (List.length (gLL l 2)),.LL (gLL l 2)]
 (fun j C=>(sw (k 1 [.N (gN C 31),.LL (gLL C 32)])
 (sw (k 2 [])
 (fun _=>none))) j)))
 (fun _=>none)) j)))
 (fun _=>none)) j))
theorem F64.eq:FEq F64.O 64 F64.ps F64.sh F64:=by intro τ l κ;kernel_rfl
def F64.E:Ent P:=mkF F64.eq
end
end Go.Proofs.Ytbpjicbpcfkpfaa.Ai
namespace Go.Proofs.Ytbpjicbpcfkpfaa.Ai
open Go Go.RowKit
noncomputable section
variable {τ:Type} (t:Nat) (nx ex:Nat→LS_→Option τ) (l:LS_) (k κ:Nat→LS_→Option τ)
def jao0:List PO:=[(oG [pI,pI,qM]),(oG [pI,pI,nS]),(oG [pI,pI,qR]),oI]
def jao1:List PO:=[(oG [pI,pI,qM]),(oG [pI,pI,nS]),(oG [pI,pI,qR]),oI,oM,oI]
def L78_2.H:LHead:=⟨false,true,0,319490,319490,9,8,0,[(PS.mk (qR::us 2 (pI::us 8 [])) [])],[((Out.exit 0),(PS.mk (us 3 (pI::us 8 [])) []))]⟩
def L78_2.O:Orc P:=⟨[],[],[],40⟩
def L78_2.s0:Option τ :=
 ck (((leI 0 (gI l 2))&&(ltI (gI l 2) (gN l 0)))&&true)
 (ck (ltN ((Int.toNat (gI l 2))*1) (List.length (gL l 1)))
 (br ((List.getD (gL l 1) ((Int.toNat (gI l 2))*1) 0)==0)
 (nx 0 [.N (gN l 0),.L (gL l 1),.I (wr .i64 ((gI l 2)+1))])
 (ex 0 [.I (gI l 2)])))
theorem L78_2.e0:LEq L78_2.O L78_2.H 0 L78_2.s0:=by intro τ next κ l;kernel_rfl
def L78_2:LStep P Cf:=LStep.mk1 (by decide) L78_2.e0
def L78_2.b:Option τ:=runE L78_2 fuel κ t l
def L78_2.E:LEnt P:=LStep.E L78_2
def F78.ps:List PV2:=[pR]
def F78.sh:List PA:=[(PA.mk (PV3.v pI) [])]
def F78.O:Orc P:=⟨[],[L78_2.E],[],40⟩
def F78:Option τ :=
 L78_2.b 0 [.N (List.length (gL l 0)),.L (gL l 0),.I 0]
 (fun j A=>(sw (k 0 [.I (gI A 0)])
 (fun _=>none)) j)
theorem F78.eq:FEq F78.O 78 F78.ps F78.sh F78:=by intro τ l κ;kernel_rfl
def F78.E:Ent P:=mkF F78.eq
def L33_4.H:LHead:=⟨false,true,0,135172,135172,62,30,0,[(PS.mk (us 1 ((pp 0)::(pp 1)::(pp 2)::(rr 3)::pI::us 87 [])) jao0)],[((Out.exit 0),(PS.mk (us 1 ((pp 0)::(pp 1)::(pp 2)::(rr 3)::us 88 [])) jao0))]⟩
def L33_4.O:Orc P:=⟨[F78.E],[],[],40⟩
def L33_4.s0:Option τ :=
 br (ltI (gI l 1) (gN l 4))
 (ck (((leI 0 (gI l 1))&&(ltI (gI l 1) (gN l 4)))&&true)
 (ck (ltN ((Int.toNat (gI l 1))*1) (List.length (gLL l 5)))
 (ck ((eqM (List.length (List.getD (gLL l 5) ((Int.toNat (gI l 1))*1) [])) (List.length (List.getD (gLL l 5) ((Int.toNat (gI l 1))*1) [])))&&true)
 (F78 [.L (List.getD (gLL l 5) ((Int.toNat (gI l 1))*1) [])]
 (fun j A=>(sw (ck (((leI 0 (gI A 0))&&(ltI (gI A 0) (gN l 0)))&&true)
 (ck ((leN ((0+((Int.toNat (gI A 0))*1))+1) (List.length (gL l 12)))&&true)
 (nx 0 [.N (gN l 0),.I (wr .i64 ((gI l 1)+1)),.I (gI l 2),.I (gI l 3),.N (gN l 4),.LL (gLL l 5),.I (gI l 6),.I (gI l 7),.I (gI l 8),.I (gI l 9),.N (gN l 10),.L (gL l 11),.L (List.set (gL l 12) (0+((Int.toNat (gI A 0))*1)) (wr .i64 ((gI l 1)+1)))])))
 (fun _=>none)) j)))))
 (ex 0 [.N (gN l 0),.I (gI l 2),.I (gI l 3),.N (gN l 4),.LL (gLL l 5),.I (gI l 6),.I (gI l 7),.I (gI l 8),.I (gI l 9),.N (gN l 10),.L (gL l 11),.L (gL l 12)])
theorem L33_4.e0:LEq L33_4.O L33_4.H 0 L33_4.s0:=by intro τ next κ l;kernel_rfl
def L33_4:LStep P Cf:=LStep.mk1 (by decide) L33_4.e0
def L33_4.b:Option τ:=runE L33_4 fuel κ t l
def L33_4.E:LEnt P:=LStep.E L33_4
def L33_15.H:LHead:=⟨false,true,0,135183,135183,990,478,0,[(PS.mk (us 1 ((pp 0)::(pp 1)::(pp 2)::(rr 3)::us 1 ((rr 4)::pI::(rr 5)::pI::us 83 []))) jao1)],[((Out.exit 4),(PS.mk (us 1 ((pp 0)::(pp 1)::(pp 2)::(rr 3)::us 1 ((rr 4)::pI::(rr 5)::us 84 []))) jao1))]⟩
def L33_15.O:Orc P:=⟨[T79.E],[],[],40⟩
def L33_15.s0:Option τ :=
 br (ltI (gI l 4) (gI l 6))
 (ck (((leI 0 (gI l 4))&&(ltI (gI l 4) (gN l 0)))&&true)
 (ck (ltN (0+((Int.toNat (gI l 4))*1)) (List.length (gL l 15)))
 (br (gtI (List.getD (gL l 15) (0+((Int.toNat (gI l 4))*1)) 0) 0)
 (ck (((leI 0 (gI l 4))&&(ltI (gI l 4) (gN l 0)))&&true)
 (ck (ltN (0+((Int.toNat (gI l 4))*1)) (List.length (gL l 15)))
 (ck (((leI 0 (wr .i64 ((List.getD (gL l 15) (0+((Int.toNat (gI l 4))*1)) 0)-1)))&&(ltI (wr .i64 ((List.getD (gL l 15) (0+((Int.toNat (gI l 4))*1)) 0)-1)) (((gN l 7):Nat):Int)))&&true)
 (ck (ltN ((Int.toNat (wr .i64 ((List.getD (gL l 15) (0+((Int.toNat (gI l 4))*1)) 0)-1)))*1) (List.length (gLL l 8)))
 (ck (((leI 0 (gI l 2))&&(ltI (gI l 2) (((List.length (List.getD (gLL l 8) ((Int.toNat (wr .i64 ((List.getD (gL l 15) (0+((Int.toNat (gI l 4))*1)) 0)-1)))*1) [])):Nat):Int)))&&true)
 (ck (ltN ((Int.toNat (gI l 2))*1) (List.length (List.getD (gLL l 8) ((Int.toNat (wr .i64 ((List.getD (gL l 15) (0+((Int.toNat (gI l 4))*1)) 0)-1)))*1) [])))
 (ck (((eqM (gN l 13) (List.length (gL l 14)))&&true)&&true)
 (T79 [.I (gI l 11),.I (gI l 12),.L (gL l 14),.I (List.getD (List.getD (gLL l 8) ((Int.toNat (wr .i64 ((List.getD (gL l 15) (0+((Int.toNat (gI l 4))*1)) 0)-1)))*1) []) ((Int.toNat (gI l 2))*1) 0)]
 (fun j A=>(sw (ck (((leI 0 (gI l 4))&&(ltI (gI l 4) (gN l 3)))&&true)
 (ck ((leN ((0+((Int.toNat (gI l 4))*1))+1) (List.length (gL l 17)))&&true)
 (nx 0 [.N (gN l 0),.N (gN l 1),.I (gI l 2),.N (gN l 3),.I (wr .i64 ((gI l 4)+1)),.I (gI l 5),.I (gI l 6),.N (gN l 7),.LL (gLL l 8),.I (gI l 9),.I (gI l 10),.I (gI l 11),.I (gI l 12),.N (gN l 13),.L (gL l 14),.L (gL l 15),.LL (gLL l 16),.L (List.set (gL l 17) (0+((Int.toNat (gI l 4))*1)) (gI A 0))])))
 (fun _=>none)) j)))))))))
 (nx 0 [.N (gN l 0),.N (gN l 1),.I (gI l 2),.N (gN l 3),.I (wr .i64 ((gI l 4)+1)),.I (gI l 5),.I (gI l 6),.N (gN l 7),.LL (gLL l 8),.I (gI l 9),.I (gI l 10),.I (gI l 11),.I (gI l 12),.N (gN l 13),.L (gL l 14),.L (gL l 15),.LL (gLL l 16),.L (gL l 17)]))))
 (ex 0 [.N (gN l 0),.N (gN l 1),.I (gI l 2),.N (gN l 3),.I (gI l 5),.I (gI l 6),.N (gN l 7),.LL (gLL l 8),.I (gI l 9),.I (gI l 10),.I (gI l 11),.I (gI l 12),.N (gN l 13),.L (gL l 14),.L (gL l 15),.LL (gLL l 16),.L (gL l 17)])
theorem L33_15.e0:LEq L33_15.O L33_15.H 0 L33_15.s0:=by intro τ next κ l;kernel_rfl
def L33_15:LStep P Cf:=LStep.mk1 (by decide) L33_15.e0
def L33_15.b:Option τ:=runE L33_15 fuel κ t l
def L33_15.E:LEnt P:=LStep.E L33_15
def L33_9.H:LHead:=⟨false,true,0,135177,135177,222,78,0,[(PS.mk (us 1 ((pp 0)::(pp 1)::(pp 2)::(rr 3)::us 1 ((rr 4)::pI::us 85 []))) [(oG [pI,pI,qM]),(oG [pI,pI,nS]),(oG [pI,pI,qR]),oI,oM])],[((Out.exit 2),(PS.mk (us 1 ((pp 0)::(pp 1)::(pp 2)::us 2 ((rr 3)::us 86 []))) [(oG [pI,pI,qM]),(oG [pI,pI,nS]),(oG [pI,pI,qR]),oM]))]⟩
def L33_9.O:Orc P:=⟨[F32.E],[L33_15.E],[],40⟩
def L33_9.s0:Option τ :=
 br (ltI (gI l 2) (gI l 4))
 (ck (((leI 0 (gI l 2))&&(ltI (gI l 2) (gN l 0)))&&true)
 (ck (ltN (0+((Int.toNat (gI l 2))*1)) (List.length (gL l 13)))
 (br (gtI (List.getD (gL l 13) (0+((Int.toNat (gI l 2))*1)) 0) 0)
 (nx 0 [.N (gN l 0),.N (gN l 1),.I (wr .i64 ((gI l 2)+1)),.I (gI l 3),.I (gI l 4),.N (gN l 5),.LL (gLL l 6),.I (gI l 7),.I (gI l 8),.I (gI l 9),.I (gI l 10),.N (gN l 11),.L (gL l 12),.L (gL l 13),.LL (gLL l 14)])
 (F32 [.I (gI l 4)]
 (fun j A=>(sw (ck (((leI 0 (gI l 2))&&(ltI (gI l 2) (gN A 0)))&&true)
 (ck ((leN ((0+((Int.toNat (gI l 2))*1))+1) (List.length (gL A 1)))&&true)
 (L33_15.b 0 [.N (gN l 0),.N (gN l 1),.I (gI l 2),.N (gN A 0),.I 0,.I (gI l 3),.I (gI l 4),.N (gN l 5),.LL (gLL l 6),.I (gI l 7),.I (gI l 8),.I (gI l 9),.I (gI l 10),.N (gN l 11),.L (gL l 12),.L (gL l 13),.LL (gLL l 14),.L (List.set (gL A 1) (0+((Int.toNat (gI l 2))*1)) 1)]
 (fun j B=>(sw (ck ((eqM (gN B 3) (List.length (List.take ((gN B 3)*1) (List.drop 0 (gL B 16)))))&&true)
 (ck (((((eqM (List.length (gLL B 15)) ((gN B 1)*1))&&true)&&(eqM 1 1))&&(leN (((gN B 1)+1)*25) 1099511627776))&&true)
 (nx 0 [.N (gN B 0),.N ((gN B 1)+1),.I (wr .i64 ((gI B 2)+1)),.I (gI B 4),.I (gI B 5),.N (gN B 6),.LL (gLL B 7),.I (gI B 8),.I (gI B 9),.I (gI B 10),.I (gI B 11),.N (gN B 12),.L (gL B 13),.L (gL B 14),.LL ((gLL B 15)++(List.take 1 (List.drop 0 [(List.take ((gN B 3)*1) (List.drop 0 (gL B 16)))])))])))
 (fun _=>none)) j))))
 (fun _=>none)) j)))))
 (ex 0 [.N (gN l 1),.I (gI l 3),.I (gI l 4),.N (gN l 5),.LL (gLL l 6),.I (gI l 7),.I (gI l 8),.I (gI l 9),.I (gI l 10),.N (gN l 11),.L (gL l 12),.LL (gLL l 14)])
theorem L33_9.e0:LEq L33_9.O L33_9.H 0 L33_9.s0:=by intro τ next κ l;kernel_rfl
def L33_9:LStep P Cf:=LStep.mk1 (by decide) L33_9.e0
def L33_9.b:Option τ:=runE L33_9 fuel κ t l
def L33_9.E:LEnt P:=LStep.E L33_9
def F33.ps:List PV2:=[pCode]
def F33.sh:List PA:=[(PA.mk (PV3.v (PV2.agg [iI,iI,(r1 0)])) [cM]),(PA.mk (PV3.v (PV2.agg [iI,iI,(PV1.sl PC0.e)])) [])]
def F33.O:Orc P:=⟨[T29.E,F80.E],[L33_4.E,L33_9.E],[],40⟩
def F33:Option τ :=
 T29 [.I (gI l 0)]
 (fun j A=>(sw (ck (((leI 0 (gI l 1))&&(leI (gI l 1) (gI l 1)))&&(leI ((gI l 1)*9) 1099511627776))
 (L33_4.b 0 [.N (Int.toNat (gI l 1)),.I 0,.I (gI l 0),.I (gI l 1),.N (List.length (gLL l 2)),.LL (gLL l 2),.I 0,.I 0,.I (gI A 0),.I (gI A 1),.N (List.length (gL A 2)),.L (gL A 2),.L (List.replicate (Int.toNat (gI l 1)) (0:Int))]
 (fun j B=>(sw (L33_9.b 0 [.N (gN B 0),.N 0,.I 0,.I (gI B 1),.I (gI B 2),.N (gN B 3),.LL (gLL B 4),.I (gI B 5),.I (gI B 6),.I (gI B 7),.I (gI B 8),.N (gN B 9),.L (gL B 10),.L (gL B 11),.LL []]
 (fun j C=>(sw (ck (((eqM (gN C 9) (List.length (gL C 10)))&&true)&&((eqM (gN C 0) (List.length (List.take ((gN C 0)*1) (List.drop 0 (gLL C 11)))))&&true))
 (F80 [.I (gI C 7),.I (gI C 8),.L (gL C 10),.I (gI C 2),.LL (List.take ((gN C 0)*1) (List.drop 0 (gLL C 11)))]
 (fun j D=>(sw (k 0 [.I (gI C 1),.I (gI C 2),.N (gN D 0),.LL (gLL D 1)])
 (sw (k 1 [.I (gI C 1),.I (gI C 2),.N (gN D 0)])
 (fun _=>none))) j)))
 (fun _=>none)) j))
 (fun _=>none)) j)))
 (fun _=>none)) j)
theorem F33.eq:FEq F33.O 33 F33.ps F33.sh F33:=by intro τ l κ;kernel_rfl
def F33.E:Ent P:=mkF F33.eq
def L44_3.H:LHead:=⟨false,true,0,180227,180227,99,32,0,[(PS.mk (qR::qR::us 3 (pI::pI::us 18 [])) [])],[((Out.exit 0),(PS.mk (us 5 (pI::us 19 [])) []))]⟩
def L44_3.O:Orc P:=⟨[],[],[],40⟩
def L44_3.s0:Option τ :=
 br (ltI (gI l 5) (gN l 0))
 (ck (((leI 0 (gI l 5))&&(ltI (gI l 5) (gN l 0)))&&true)
 (ck (ltN ((Int.toNat (gI l 5))*1) (List.length (gL l 1)))
 (ck (((leI 0 (gI l 5))&&(ltI (gI l 5) (gN l 2)))&&true)
 (ck (ltN ((Int.toNat (gI l 5))*1) (List.length (gL l 3)))
 (br ((List.getD (gL l 1) ((Int.toNat (gI l 5))*1) 0) != (List.getD (gL l 3) ((Int.toNat (gI l 5))*1) 0))
 (nx 0 [.N (gN l 0),.L (gL l 1),.N (gN l 2),.L (gL l 3),.I (wr .i64 ((gI l 4)+1)),.I (wr .i64 ((gI l 5)+1))])
 (nx 0 [.N (gN l 0),.L (gL l 1),.N (gN l 2),.L (gL l 3),.I (gI l 4),.I (wr .i64 ((gI l 5)+1))]))))))
 (ex 0 [.I (gI l 4)])
theorem L44_3.e0:LEq L44_3.O L44_3.H 0 L44_3.s0:=by intro τ next κ l;kernel_rfl
def L44_3:LStep P Cf:=LStep.mk1 (by decide) L44_3.e0
def L44_3.b:Option τ:=runE L44_3 fuel κ t l
def L44_3.E:LEnt P:=LStep.E L44_3
def F44.ps:List PV2:=[pR,pR]
def F44.sh:List PA:=[(PA.mk (PV3.v pI) [])]
def F44.O:Orc P:=⟨[],[L44_3.E],[],40⟩
def F44:Option τ :=
 L44_3.b 0 [.N (List.length (gL l 0)),.L (gL l 0),.N (List.length (gL l 1)),.L (gL l 1),.I 0,.I 0]
 (fun j A=>(sw (k 0 [.I (gI A 0)])
 (fun _=>none)) j)
theorem F44.eq:FEq F44.O 44 F44.ps F44.sh F44:=by intro τ l κ;kernel_rfl
def F44.E:Ent P:=mkF F44.eq
end
end Go.Proofs.Ytbpjicbpcfkpfaa.Ai
namespace Go.Proofs.Ytbpjicbpcfkpfaa.Ai
open Go Ma
noncomputable section
structure Lc (q n:Nat) (G:List (List Int)):Prop where
 fq:q∈Qs
 n0:1≤n
 n1:n≤24
 form:∃ piv,Rref q n G piv
theorem Cd.lc {q n:Nat} {G:List (List Int)} (h:Cd q n G):Lc q n G:=⟨h.fq,h.n0,by have:=h.n1;omega,h.form⟩
theorem rref_len {q n:Nat} {G:List (List Int)} {piv:Nat→Nat} (h:Rref q n G piv):G.length≤n:=by
 have:∀ k,k≤G.length→∀ i,i<k→i≤piv i:=by
  intro k
  induction k with
  | zero=>intro _ i hi;omega
  | succ k ih =>
   intro hk i hi
   rcases Nat.lt_or_ge i k with h1 | h1
   ·exact ih (by omega) i h1
   ·have e:i=k:=by omega
    subst e
    cases i with
    | zero=>omega
    | succ i =>
     have:=ih (by omega) i (by omega)
     have:=h.mono i (i+1) (by omega) (by omega)
     omega
 rcases Nat.eq_zero_or_pos G.length with e | e
 ·omega
 ·have h1:=this G.length (Nat.le_refl _) (G.length-1) (by omega)
  have h2:=h.lt (G.length-1) (by omega)
  omega
theorem Lc.rows {q n:Nat} {G:List (List Int)} (h:Lc q n G):Rows q n G:=by
 obtain ⟨piv,R⟩:=h.form
 have:=rref_len R
 have:=h.n1
 exact ⟨R.wd,by omega,by omega⟩
theorem Lc.len {q n:Nat} {G:List (List Int)} (h:Lc q n G):G.length≤n:=by
 obtain ⟨piv,R⟩:=h.form
 exact rref_len R
structure Cols (q n:Nat) (A:List Int) (G:List (List Int)):Prop where
 len:A.length=n
 at_:∀ t,t<n→0≤A.getD t 0∧A.getD t 0≤G.length
end
end Go.Proofs.Ytbpjicbpcfkpfaa.Ai
namespace Go.Proofs.Ytbpjicbpcfkpfaa.Ma
section
variable {q n:Nat} {add mul:Int→Int→Int} {neg inv:Int→Int}
theorem vadd_comm (F:Fld q add mul neg inv) {a b:List Int} (ha:Wd q n a) (hb:Wd q n b):vadd add a b=vadd add b a:=by
 have e:=ha.1.trans hb.1.symm
 refine ext_getD (by rw [vadd_len e,vadd_len e.symm,e]) fun j hj=>?_
 rw [vadd_len e,ha.1] at hj
 have x:=ha.2 j hj
 have y:=hb.2 j hj
 rw [vadd_get e (by rw [ha.1];exact hj),vadd_get e.symm (by rw [hb.1];exact hj),F.add_comm _ _ x.1 x.2 y.1 y.2]
theorem vadd_assoc (F:Fld q add mul neg inv) {a b c:List Int} (ha:Wd q n a) (hb:Wd q n b) (hc:Wd q n c):vadd add (vadd add a b) c=vadd add a (vadd add b c):=by
 have ab:=ha.vadd F hb
 have bc:=hb.vadd F hc
 have l1:=ab.vadd F hc
 have l2:=ha.vadd F bc
 refine ext_getD (by rw [l1.1,l2.1]) fun j hj=>?_
 rw [l1.1] at hj
 have x:=ha.2 j hj
 have y:=hb.2 j hj
 have z:=hc.2 j hj
 rw [vadd_get (by rw [ab.1,hc.1]) (by rw [ab.1];exact hj),vadd_get (by rw [ha.1,hb.1]) (by rw [ha.1];exact hj),vadd_get (by rw [ha.1,bc.1]) (by rw [ha.1];exact hj),vadd_get (by rw [hb.1,hc.1]) (by rw [hb.1];exact hj),F.add_assoc _ _ _ x.1 x.2 y.1 y.2 z.1 z.2]
theorem zero_vadd (F:Fld q add mul neg inv) {a:List Int} (ha:Wd q n a):vadd add (List.replicate n 0) a=a:=by
 have e:(List.replicate n (0:Int)).length=a.length:=by rw [List.length_replicate,ha.1]
 refine ext_getD (by rw [vadd_len e,e]) fun j hj=>?_
 rw [vadd_len e,e,ha.1] at hj
 have x:=ha.2 j hj
 rw [vadd_get e (by rw [e,ha.1];exact hj),show (List.replicate n (0:Int)).getD j 0=0 by simp [List.getD_eq_getElem?_getD,hj],F.zero_add _ x.1 x.2]
theorem zeros_wd (F:Fld q add mul neg inv):Wd q n (List.replicate n 0):=⟨by simp,fun j hj=>by
 have:=F.one_lt
 rw [show (List.replicate n (0:Int)).getD j 0=0 by simp [List.getD_eq_getElem?_getD,hj]]
 omega⟩
theorem vmul_add (F:Fld q add mul neg inv) {g:List Int} (hg:Wd q n g) {a b:Int} (a0:0≤a) (a1:a<q) (b0:0≤b) (b1:b<q):vadd add (vmul mul a g) (vmul mul b g)=vmul mul (add a b) g:=by
 have ha:=Wd.vmul F a0 a1 hg
 have hb:=Wd.vmul F b0 b1 hg
 have ab:=F.add_in a b a0 a1 b0 b1
 have hab:=Wd.vmul F ab.1 ab.2 hg
 refine ext_getD (by rw [(ha.vadd F hb).1,hab.1]) fun j hj=>?_
 rw [(ha.vadd F hb).1] at hj
 have x:=hg.2 j hj
 rw [vadd_get (by rw [ha.1,hb.1]) (by rw [ha.1];exact hj),vmul_get (by rw [hg.1];exact hj),vmul_get (by rw [hg.1];exact hj),vmul_get (by rw [hg.1];exact hj),
  F.mul_comm a _ a0 a1 x.1 x.2,F.mul_comm b _ b0 b1 x.1 x.2,F.mul_comm (add a b) _ ab.1 ab.2 x.1 x.2,F.distrib _ _ _ x.1 x.2 a0 a1 b0 b1]
theorem add_cancel (F:Fld q add mul neg inv) {a b c:Int} (ha:0≤a∧a<q) (hb:0≤b∧b<q) (hc:0≤c∧c<q) (h:add a c=add b c):a=b:=by
 have hn:=F.neg_in c hc.1 hc.2
 have e:∀ x:Int,0≤x∧x<q→add (add x c) (neg c)=x:=fun x hx=>by
  rw [F.add_assoc _ _ _ hx.1 hx.2 hc.1 hc.2 hn.1 hn.2,F.add_neg c hc.1 hc.2,F.add_comm x 0 hx.1 hx.2 (by omega) (by have:=F.one_lt;omega),F.zero_add x hx.1 hx.2]
 rw [←e a ha,←e b hb,h]
theorem far_vadd (F:Fld q add mul neg inv) (lost:Nat→Bool) {w y v:List Int} (hw:Wd q n w) (hy:Wd q n y) (hv:Wd q n v):∀ k,k≤n→far lost (vadd add w v) (vadd add y v) 0 k=far lost w y 0 k
 | 0,_=>rfl
 | k+1,hk=>by
  rw [far_succ,far_succ,far_vadd F lost hw hy hv k (by omega),Nat.zero_add]
  have a:=hw.2 k (by omega)
  have b:=hy.2 k (by omega)
  have c:=hv.2 k (by omega)
  rw [vadd_get (by rw [hy.1,hv.1]) (by rw [hy.1];omega),vadd_get (by rw [hw.1,hv.1]) (by rw [hw.1];omega)]
  by_cases h:y.getD k 0=w.getD k 0
  ·rw [h]
   simp
  ·have:add (y.getD k 0) (v.getD k 0)≠add (w.getD k 0) (v.getD k 0):=fun e=>h (add_cancel F b a c e)
   have e1:(add (y.getD k 0) (v.getD k 0) != add (w.getD k 0) (v.getD k 0))=true:=by simpa using this
   have e2:(y.getD k 0 != w.getD k 0)=true:=by simpa using h
   rw [e1,e2]
theorem words_shift (F:Fld q add mul neg inv):∀ (G:List (List Int)) (z v:List Int),(∀ i,i<G.length→Wd q n (G.getD i []))→Wd q n z→Wd q n v→words q add mul G (vadd add z v)=(words q add mul G z).map fun y=>vadd add y v
 | [],z,v,_,_,_=>rfl
 | g::gs,z,v,hG,hz,hv=>by
  have hg:Wd q n g:=by simpa using hG 0 (by simp)
  unfold words
  rw [List.map_flatMap]
  unfold List.flatMap
  refine congrArg List.flatten (List.map_congr_left fun a ha=>?_)
  have ha':a<q:=by simpa using ha
  have hag:=Wd.vmul F (c:=((a:Nat):Int)) (by omega) (by exact_mod_cast ha') hg
  rw [vadd_assoc F hz hv hag,vadd_comm F hv hag,←vadd_assoc F hz hag hv]
  exact words_shift F gs _ v (fun i hi=>by simpa using hG (i+1) (by simpa using hi)) (hz.vadd F hag) hv
theorem sum_perm {l m:List Nat} (h:l.Perm m):l.sum=m.sum:=by
 induction h with
 | nil=>rfl
 | cons x _ ih=>rw [List.sum_cons,List.sum_cons,ih]
 | swap x y l=>simp only [List.sum_cons];omega
 | trans _ _ h1 h2=>rw [h1,h2]
theorem count_shift (F:Fld q add mul neg inv) (P:∀ c:Nat,c<q→((List.range q).map fun (a:Nat)=>add (a:Int) (c:Int)).Perm ((List.range q).map fun (a:Nat)=>(a:Int))):∀ (G:List (List Int)) (z v:List Int) (p:List Int→Bool),(∀ i,i<G.length→Wd q n (G.getD i []))→Wd q n z→v∈words q add mul G (List.replicate n 0) →
  ((words q add mul G z).countP fun y=>p (vadd add y v))=(words q add mul G z).countP p
 | [],z,v,p,_,hz,hv=>by
  unfold words at hv
  rw [List.mem_singleton] at hv
  subst hv
  unfold words
  rw [List.countP_singleton,List.countP_singleton,vadd_comm F hz (zeros_wd F),zero_vadd F hz]
 | g::gs,z,v,p,hG,hz,hv=>by
  have hg:Wd q n g:=by simpa using hG 0 (by simp)
  have hG':∀ i,i<gs.length→Wd q n (gs.getD i []):=fun i hi=>by simpa using hG (i+1) (by simpa using hi)
  unfold words at hv
  obtain ⟨c,hc,hv⟩:=List.mem_flatMap.1 hv
  have hc':c<q:=by simpa using hc
  have c1:((c:Nat):Int)<q:=by exact_mod_cast hc'
  have hu:=Wd.vmul F (c:=((c:Nat):Int)) (by omega) c1 hg
  have hz0:=zeros_wd F (n:=n)
  rw [words_shift F gs _ _ hG' hz0 hu] at hv
  obtain ⟨v',hv',rfl⟩:=List.mem_map.1 hv
  have wv':=words_wd F gs _ hG' hz0 v' hv'
  have key:∀ a:Nat,a<q→((words q add mul gs (vadd add z (vmul mul (a:Int) g))).countP fun y=>p (vadd add y (vadd add v' (vmul mul (c:Int) g))))=(words q add mul gs (vadd add z (vmul mul (add (a:Int) (c:Int)) g))).countP p:=by
   intro a ha
   have a1:((a:Nat):Int)<q:=by exact_mod_cast ha
   have hag:=Wd.vmul F (c:=((a:Nat):Int)) (by omega) a1 hg
   have hza:=hz.vadd F hag
   have e1:((words q add mul gs (vadd add z (vmul mul (a:Int) g))).countP fun y=>p (vadd add y (vadd add v' (vmul mul (c:Int) g))))=(words q add mul gs (vadd add z (vmul mul (a:Int) g))).countP fun y=>(fun x=>p (vadd add x (vmul mul (c:Int) g))) (vadd add y v'):=by
    refine List.countP_congr fun y hy=>?_
    have wy:=words_wd F gs _ hG' hza y hy
    show p (vadd add y (vadd add v' (vmul mul (c:Int) g)))=true↔p (vadd add (vadd add y v') (vmul mul (c:Int) g))=true
    rw [vadd_assoc F wy wv' hu]
   rw [e1,count_shift F P gs _ v' (fun x=>p (vadd add x (vmul mul (c:Int) g))) hG' hza hv',←vmul_add F hg (by omega) a1 (by omega) c1,←vadd_assoc F hz hag hu,words_shift F gs _ _ hG' hza hu,List.countP_map]
   rfl
  unfold words
  rw [List.countP_flatMap,List.countP_flatMap]
  have l1:((List.range q).map (List.countP (fun y=>p (vadd add y (vadd add v' (vmul mul (c:Int) g)))) ∘ fun (a:Nat)=>words q add mul gs (vadd add z (vmul mul (a:Int) g))))=((List.range q).map fun (a:Nat)=>add (a:Int) (c:Int)).map fun x=>(words q add mul gs (vadd add z (vmul mul x g))).countP p:=by
   rw [List.map_map]
   exact List.map_congr_left fun a ha=>key a (by simpa using ha)
  have l2:((List.range q).map (List.countP p ∘ fun (a:Nat)=>words q add mul gs (vadd add z (vmul mul (a:Int) g))))=((List.range q).map fun (a:Nat)=>(a:Int)).map fun x=>(words q add mul gs (vadd add z (vmul mul x g))).countP p:=by
   rw [List.map_map]
   rfl
  rw [l1,l2]
  exact sum_perm ((P c hc').map _)
end
theorem turn {q:Nat} (hq:q∈Qs):∀ c:Nat,c<q→((List.range q).map fun (a:Nat)=>fadd q (a:Int) (c:Int)).Perm ((List.range q).map fun (a:Nat)=>(a:Int)):=by
 have:(Qs.all fun q=>(List.range q).all fun (c:Nat)=>((List.range q).map fun (a:Nat)=>fadd q (a:Int) (c:Int)).isPerm ((List.range q).map fun (a:Nat)=>(a:Int)))=true:=by decide +kernel
 intro c hc
 have h:=List.all_eq_true.1 (List.all_eq_true.1 this q hq) c (by simpa using hc)
 exact List.isPerm_iff.1 h
end Go.Proofs.Ytbpjicbpcfkpfaa.Ma
namespace Go.Proofs.Ytbpjicbpcfkpfaa.Ma
def lx (n:Nat) (a b:List Int):Prop:=∃ p,p<n∧(∀ j,j<p→a.getD j 0=b.getD j 0)∧a.getD p 0<b.getD p 0
section
variable {q:Nat} {add mul:Int→Int→Int} {neg inv:Int→Int} {n:Nat}
theorem Rref.tail {g:List Int} {gs:List (List Int)} {piv:Nat→Nat} (R:Rref q n (g::gs) piv):Rref q n gs (fun i=>piv (i+1)) where
 wd:=fun i hi=>by simpa using R.wd (i+1) (by simpa using hi)
 lt:=fun i hi=>R.lt (i+1) (by simpa using hi)
 mono:=fun i j hij hj=>R.mono (i+1) (j+1) (by omega) (by simpa using hj)
 one:=fun i hi=>by simpa [ent] using R.one (i+1) (by simpa using hi)
 zero:=fun i k hi hk hne=>by simpa [ent] using R.zero (i+1) (k+1) (by simpa using hi) (by simpa using hk) (by omega)
 lead:=fun i j hi hj=>by simpa [ent] using R.lead (i+1) j (by simpa using hi) hj
theorem mul_zero (F:Fld q add mul neg inv) {a:Int} (h0:0≤a) (h1:a<q):mul a 0=0:=by
 have:=F.one_lt
 rw [F.mul_comm _ _ h0 h1 (by omega) (by omega),F.zero_mul _ h0 h1]
theorem add_zero (F:Fld q add mul neg inv) {a:Int} (h0:0≤a) (h1:a<q):add a 0=a:=by
 have:=F.one_lt
 rw [F.add_comm _ _ h0 h1 (by omega) (by omega),F.zero_add _ h0 h1]
theorem mul_one (F:Fld q add mul neg inv) {a:Int} (h0:0≤a) (h1:a<q):mul a 1=a:=by
 have:=F.one_lt
 rw [F.mul_comm _ _ h0 h1 (by omega) (by omega),F.one_mul _ h0 h1]
theorem words_sorted (F:Fld q add mul neg inv):∀ (G:List (List Int)) (piv:Nat→Nat) (z:List Int),Rref q n G piv→Wd q n z→(∀ i,i<G.length→z.getD (piv i) 0=0)→(words q add mul G z).Pairwise (lx n)
 | [],piv,z,R,hz,h0=>by unfold words;exact List.pairwise_singleton _ _
 | g::gs,piv,z,R,hz,h0=>by
  have hg:Wd q n g:=by simpa using R.wd 0 (by simp)
  have p0:=R.lt 0 (by simp)
  have q1:=F.one_lt
  have in_:∀ a,a<q→0≤((a:Nat):Int)∧((a:Nat):Int)<q:=fun a ha=>⟨by omega,by omega⟩
  have hv:∀ a,a<q→Wd q n (vmul mul (a:Int) g):=fun a ha=>Wd.vmul F (in_ a ha).1 (in_ a ha).2 hg
  have at_:∀ a j,a<q→j<n→(vadd add z (vmul mul (a:Int) g)).getD j 0=add (z.getD j 0) (mul a (g.getD j 0)):=fun a j ha hj=>by
   rw [vadd_get (by rw [hz.1,(hv a ha).1]) (by rw [hz.1];exact hj),vmul_get (by rw [hg.1];exact hj)]
  unfold words
  rw [List.pairwise_flatMap]
  refine ⟨fun a ha=>?_,?_⟩
  ·have ha':a<q:=by simpa using ha
   refine words_sorted F gs _ _ R.tail (hz.vadd F (hv a ha')) fun i hi=>?_
   have hl:=R.lt (i+1) (by simpa using hi)
   have z0:=h0 (i+1) (by simpa using hi)
   have g0:g.getD (piv (i+1)) 0=0:=by simpa [ent] using R.zero (i+1) 0 (by simpa using hi) (by simp) (by omega)
   rw [at_ a _ ha' hl,z0,g0,mul_zero F (in_ a ha').1 (in_ a ha').2,F.zero_add 0 (by omega) (by omega)]
  ·refine (List.pairwise_lt_range (n:=q)).imp_of_mem fun {a b} ha hb hab x hx y hy=>?_
   have ha':a<q:=by simpa using ha
   have hb':b<q:=by simpa using hb
   have low:∀ i j,i<gs.length→j<piv 0+1→ent gs i j=0:=fun i j hi hj=>by
    have:=R.mono 0 (i+1) (by omega) (by simpa using hi)
    simpa [ent] using R.lead (i+1) j (by simpa using hi) (by omega)
   have ex:∀ c,c<q→∀ w∈words q add mul gs (vadd add z (vmul mul (c:Int) g)),∀ j,j<piv 0+1→w.getD j 0=add (z.getD j 0) (mul c (g.getD j 0)):=fun c hc w hw j hj=>by
    rw [words_same F (by omega) gs _ R.tail.wd low (hz.vadd F (hv c hc)) w hw j hj,at_ c j hc (by omega)]
   refine ⟨piv 0,p0,fun j hj=>?_,?_⟩
   ·have g0:g.getD j 0=0:=by simpa [ent] using R.lead 0 j (by simp) hj
    rw [ex a ha' x hx j (by omega),ex b hb' y hy j (by omega),g0,mul_zero F (in_ a ha').1 (in_ a ha').2,mul_zero F (in_ b hb').1 (in_ b hb').2]
   ·have g1:g.getD (piv 0) 0=1:=by simpa [ent] using R.one 0 (by simp)
    rw [ex a ha' x hx _ (by omega),ex b hb' y hy _ (by omega),g1,h0 0 (by simp),mul_one F (in_ a ha').1 (in_ a ha').2,mul_one F (in_ b hb').1 (in_ b hb').2,F.zero_add _ (in_ a ha').1 (in_ a ha').2,F.zero_add _ (in_ b hb').1 (in_ b hb').2]
    omega
theorem words_nodup (F:Fld q add mul neg inv) {G:List (List Int)} {piv:Nat→Nat} (R:Rref q n G piv):(words q add mul G (List.replicate n 0)).Nodup:=by
 refine (words_sorted F G piv _ R (zeros_wd F) fun i hi=>?_).imp fun {a b} h e=>?_
 ·have:=R.lt i hi
  simp [List.getD_eq_getElem?_getD,this]
 ·obtain ⟨p,_,_,h⟩:=h
  rw [e] at h
  omega
theorem filter_one {L:List (List Int)} (h:L.Nodup) {s:List Int} (hs:s∈L) {p:List Int→Bool} (hp:∀ y∈L,p y=true↔y=s):L.filter p=[s]:=by
 have e:L.filter p=L.filter (·==s):=List.filter_congr fun y hy=>by
  rcases hb:p y with _ | _
  ·have:y≠s:=fun e=>by have:=(hp y hy).2 e;rw [hb] at this;cases this
   simpa using this
  ·have:=(hp y hy).1 hb
   simpa using this
 rw [e]
 clear e hp
 induction L with
 | nil=>simp at hs
 | cons x L ih =>
  obtain ⟨h1,h2⟩:=List.nodup_cons.1 h
  by_cases c:x=s
  ·subst c
   rw [List.filter_cons,if_pos (by simp),List.filter_eq_nil_iff.2 fun y hy=>by simpa using fun e:y=x=>h1 (e▸hy)]
  ·rw [List.filter_cons,if_neg (by simpa using c)]
   exact ih h2 ((List.mem_cons.1 hs).resolve_left fun e=>c e.symm)
theorem words_sub (F:Fld q add mul neg inv) (P:∀ c:Nat,c<q→((List.range q).map fun (a:Nat)=>add (a:Int) (c:Int)).Perm ((List.range q).map fun (a:Nat)=>(a:Int))) {G:List (List Int)} (hG:∀ i,i<G.length→Wd q n (G.getD i [])) {s y:List Int} (hs:s∈words q add mul G (List.replicate n 0)) (hy:y∈words q add mul G (List.replicate n 0)):∃ v∈words q add mul G (List.replicate n 0),vadd add v s=y:=by
 have h:=count_shift F P G (List.replicate n 0) s (fun z=>decide (z=y)) hG (zeros_wd F) hs
 have h1:0<(words q add mul G (List.replicate n 0)).countP fun z=>decide (z=y):=List.countP_pos_iff.2 ⟨y,hy,by simp⟩
 rw [←h] at h1
 obtain ⟨v,hv,e⟩:=List.countP_pos_iff.1 h1
 exact ⟨v,hv,by simpa using e⟩
end
def ham (n:Nat) (a b:List Int):Nat:=far (fun _=>false) a b 0 n
def wt (n:Nat) (y:List Int):Nat:=ham n (List.replicate n 0) y
theorem ham_pos {n:Nat} {a b:List Int} (ha:a.length=n) (hb:b.length=n) (h:a≠b):0<ham n a b:=by
 rcases Nat.eq_zero_or_pos (ham n a b) with e | e
 ·exfalso
  have:∀ k,k≤n→ham k a b=0→∀ j,j<k→b.getD j 0=a.getD j 0:=by
   intro k
   induction k with
   | zero=>intro _ _ j hj;omega
   | succ k ih =>
    intro hk h0 j hj
    unfold ham at h0
    rw [far_succ] at h0
    simp only [Nat.zero_add] at h0
    have h1:=ih (by omega) (by unfold ham;omega)
    rcases Nat.lt_or_ge j k with c | c
    ·exact h1 j c
    ·have:j=k:=by omega
     subst this
     by_cases e:b.getD j 0=a.getD j 0
     ·exact e
     ·have:(b.getD j 0 != a.getD j 0)=true:=by simpa using e
      rw [this] at h0
      simp at h0
  exact h (ext_getD (by rw [ha,hb]) fun j hj=>(this n (Nat.le_refl _) e j (by omega)).symm)
 ·exact e
def minw (n:Nat) (L:List (List Int)) (m:Nat):Nat:=L.foldl (fun m y=>if 0<wt n y then min m (wt n y) else m) m
theorem minw_le (n:Nat):∀ (L:List (List Int)) (m:Nat),minw n L m≤m
 | [],m=>Nat.le_refl _
 | y::L,m=>by
  unfold minw
  rw [List.foldl_cons]
  refine Nat.le_trans (minw_le n L _) ?_
  split <;> omega
theorem minw_all (n:Nat):∀ (L:List (List Int)) (m:Nat),∀ y∈L,0<wt n y→minw n L m≤wt n y
 | [],m,y,h,_=>by simp at h
 | x::L,m,y,h,hp=>by
  unfold minw
  rw [List.foldl_cons]
  rcases List.mem_cons.1 h with rfl | h
  ·refine Nat.le_trans (minw_le n L _) ?_
   rw [if_pos hp]
   omega
  ·exact minw_all n L _ y h hp
section
variable {q:Nat} {add mul:Int→Int→Int} {neg inv:Int→Int} {n:Nat}
theorem minw_ham (F:Fld q add mul neg inv) (P:∀ c:Nat,c<q→((List.range q).map fun (a:Nat)=>add (a:Int) (c:Int)).Perm ((List.range q).map fun (a:Nat)=>(a:Int))) {G:List (List Int)} (hG:∀ i,i<G.length→Wd q n (G.getD i [])) {s y:List Int} (hs:s∈words q add mul G (List.replicate n 0)) (hy:y∈words q add mul G (List.replicate n 0)) (hne:s≠y) (m:Nat):minw n (words q add mul G (List.replicate n 0)) m≤ham n s y:=by
 obtain ⟨v,hv,e⟩:=words_sub F P hG hs hy
 have ws:=words_wd F G _ hG (zeros_wd F) s hs
 have wy:=words_wd F G _ hG (zeros_wd F) y hy
 have wv:=words_wd F G _ hG (zeros_wd F) v hv
 have h1:ham n s y=wt n v:=by
  have:=far_vadd F (fun _=>false) (zeros_wd (n:=n) F) wv ws n (Nat.le_refl _)
  rw [zero_vadd F ws,e] at this
  exact this
 have h2:=ham_pos ws.1 wy.1 hne
 rw [h1]
 exact minw_all n _ m v hv (by omega)
end
end Go.Proofs.Ytbpjicbpcfkpfaa.Ma
namespace Go.Proofs.Ytbpjicbpcfkpfaa.Ai
open Go Ma
noncomputable section
theorem L92_3_spec {w:List Int} (hs:w.length<2^60) {τ:Type} (κ:Nat→LS_→Option τ):∀ (f j:Nat),j≤w.length→w.length<f+j →
  runE L92_3 f κ 0 [.I (wt j w:Nat),.N w.length,.L w,.I w.length,.I j]=κ 0 [.I (wt w.length w:Nat)]
 | 0,j,h1,h2=>by omega
 | f+1,j,h1,h2=>by
  rw [runE_succ]
  show L92_3.s0 _ _ _=_
  unfold L92_3.s0
  simp only [g_,Int.toNat_natCast,Nat.mul_one,Nat.zero_add,List.drop_zero]
  have hw:wt (j+1) w=wt j w+(if w.getD j 0=0 then 0 else 1):=by
   unfold wt ham
   rw [far_succ,Nat.zero_add]
   have e:∀ k,far (fun _=>false) (List.replicate (j+1) (0:Int)) w 0 k=far (fun _=>false) (List.replicate j (0:Int)) w 0 k:=fun k=>by
    induction k with
    | zero=>rfl
    | succ k ih =>
     have z:∀ m:Nat,(List.replicate m (0:Int)).getD k 0=0:=fun m=>by
      rw [List.getD_eq_getElem?_getD,List.getElem?_replicate];split <;> rfl
     rw [far_succ,far_succ,ih,Nat.zero_add,z,z]
   have z:(List.replicate (j+1) (0:Int)).getD j 0=0:=by rw [List.getD_eq_getElem?_getD,List.getElem?_replicate];split <;> rfl
   rw [e,z]
   by_cases h:w.getD j 0=0
   ·rw [h];rfl
   ·rw [if_neg h]
    have:(w.getD j 0 != 0)=true:=by simpa using h
    rw [this];rfl
  have hb:wt j w≤j:=far_le _ _ _ _ _
  by_cases hj:j<w.length
  ·have ih:=L92_3_spec hs κ f (j+1) (by omega) (by omega)
   rw [br_of (by simp;omega),ck_of (by simp;omega),ck_of (by simp;omega),wsucc (j:=j) (by omega)]
   by_cases h:w.getD j 0=0
   ·rw [hw,if_pos h,Nat.add_zero] at ih
    rw [br_no (by rw [h];rfl)]
    exact ih
   ·rw [hw,if_neg h] at ih
    rw [br_of (by simpa using h),wsucc (j:=wt j w) (by omega)]
    exact ih
  ·have:j=w.length:=by omega
   subst this
   rw [br_no (by simp)]
theorem F92_spec {w:List Int} (hs:w.length<2^60) {τ:Type} (k:Nat→LS_→Option τ):F92 [.L w] k=k 0 [.I (wt w.length w:Nat)]:=by
 have hfu:=fuel_le
 unfold F92 L92_3.b
 simp only [gL_zero]
 refine (L92_3_spec hs _ fuel 0 (by omega) (by omega)).trans ?_
 simp only [sw_zero,gI_zero]
theorem L94_3_1_spec {q:Nat} (hq:q∈Qs) {x y:List Int} (hx:In q x) (hy:In q y) (hl:y.length=x.length) (hs:x.length<2^30) {a:Int} (a0:0≤a) (a1:a<q) {τ:Type} (κ:Nat→LS_→Option τ):∀ (f j:Nat) (w:List Int),j≤x.length→x.length<f+j→w=(vadd (fadd q) y (vmul (fmul q) a x)).take j++y.drop j →
  runE L94_3_1 f κ 0 [.N y.length,.I a,.N x.length,.L x,.I y.length,.I j,.L w,.I (fp q),.I (fe q),.N (fm q).length,.L (fm q)]=κ 0 [.L (vadd (fadd q) y (vmul (fmul q) a x)),.I (fp q),.I (fe q),.N (fm q).length,.L (fm q)]
 | 0,j,w,h2,h3,h5=>by omega
 | f+1,j,w,h2,h3,h5=>by
  have F:=fld q hq
  have ml:(vmul (fmul q) a x).length=x.length:=vmul_len
  have hlv:(vadd (fadd q) y (vmul (fmul q) a x)).length=y.length:=vadd_len (by rw [ml,hl])
  have hw:=half_len hlv (j:=j) (by omega)
  rw [runE_succ]
  show L94_3_1.s0 _ _ _=_
  unfold L94_3_1.s0
  simp only [g_,Int.toNat_natCast,Nat.mul_one,Nat.zero_add,List.drop_zero]
  by_cases hj:j<y.length
  ·have ax:=hx j (by omega)
   have ay:=hy j hj
   have am:=F.mul_in _ _ a0 a1 ax.1 ax.2
   have hg:w.getD j 0=y.getD j 0:=by rw [h5,half_get hlv hj]
   have hg2:w.length=y.length:=by rw [h5,hw]
   have key:=L94_3_1_spec hq hx hy hl hs a0 a1 κ f (j+1) (w.set j (fadd q (y.getD j 0) (fmul q a (x.getD j 0)))) (by omega) (by omega)
    (by rw [h5,←vmul_get (mul:=fmul q) (show j<x.length by omega),←vadd_get (add:=fadd q) (by rw [ml,hl]) hj,half_set hlv hj])
   rw [br_of (by simp;omega),ck_of (by simp;omega),ck_of (by simp;omega),ck_of (by simp;omega),ck_of (by simp;omega),ck_of (by simp),hg]
   unfold T104 T103
   rw [tab2_of hq a0 a1 ax.1 ax.2]
   simp only [sw_zero,gI_zero]
   rw [ck_of (by simp),tab2_of hq ay.1 ay.2 am.1 am.2]
   simp only [sw_zero,gI_zero]
   rw [ck_of (by simp;omega),ck_of (by simp;omega),wsucc (by omega)]
   exact key
  ·have:j=y.length:=by omega
   subst this
   rw [half_all hlv] at h5
   rw [br_no (by simp),h5]
theorem S94_1_spec {q n:Nat} (hq:q∈Qs) (hn:n<2^30) {x y:List Int} (hx:Wd q n x) (hy:Wd q n y) {a:Int} (a0:0≤a) (a1:a<q) {τ:Type} (k:Nat→LS_→Option τ) :
  S94_1 [.I (fp q),.I (fe q),.N (fm q).length,.L (fm q),.N n,.I a,.N x.length,.L x,.L y] k=k 0 [.L (vadd (fadd q) y (vmul (fmul q) a x))]:=by
 have hfu:=fuel_le
 unfold S94_1 L94_3_1.b
 simp only [g_,Int.toNat_natCast,Nat.mul_one,Nat.zero_add,List.drop_zero]
 by_cases hz:a=0
 ·subst hz
  rw [br_of (b:=((0:Int)==0)) rfl,vadd_zero (fld q hq) hx hy]
 ·have yl:=hy.1
  rw [br_no (by simpa using hz)]
  have:=L94_3_1_spec hq (In.of hx) (In.of hy) (by rw [hx.1,hy.1]) (by rw [hx.1];exact hn) a0 a1 (fun j l=>(sw (k 0 [.L (gL l 0)]) (fun _=>none)) j) fuel 0 y (by omega) (by rw [hx.1];omega) (by simp)
  rw [yl] at this
  exact this
section
variable {q n:Nat} {G:List (List Int)}
def tailw (q:Nat) (G:List (List Int)) (i:Nat) (x:List Int) (a:Nat):List (List Int):=((List.range q).drop a).flatMap fun (b:Nat)=>words q (fadd q) (fmul q) (G.drop (i+1)) (vadd (fadd q) x (vmul (fmul q) (b:Int) (G.getD i [])))
theorem tailw_step {i a:Nat} {x:List Int} (ha:a<q):tailw q G i x a=words q (fadd q) (fmul q) (G.drop (i+1)) (vadd (fadd q) x (vmul (fmul q) (a:Int) (G.getD i [])))++tailw q G i x (a+1):=by
 unfold tailw
 rw [drop_cons 0 (show a<(List.range q).length by simpa using ha),List.flatMap_cons]
 congr 4
 simp [List.getD_eq_getElem?_getD,ha]
theorem tailw_end {i:Nat} {x:List Int}:tailw q G i x q=[]:=by
 unfold tailw
 rw [List.drop_eq_nil_of_le (show (List.range q).length≤q by simp)]
 rfl
theorem tailw_zero {i:Nat} {x:List Int} (hi:i<G.length):words q (fadd q) (fmul q) (G.drop i) x=tailw q G i x 0:=by
 rw [drop_cons [] hi]
 rfl
end
def least1 (n:Nat) (m:Nat) (y:List Int):Nat:=if 0<wt n y then min m (wt n y) else m
theorem L121_5_spec {q n:Nat} {G:List (List Int)} (C:Lc q n G) {i:Nat} (hi:i<G.length) (R:SDyn P S121_0.H)
    (hR:∀ (x:List Int) (s:Nat),Wd q n x→∀ {τ:Type} (k:Nat→LS_→Option τ),R.b [.I ((i+1:Nat):Int),.N n,.L x,.I q,.I n,.N G.length,.LL G,.I (fp q),.I (fe q),.N (fm q).length,.L (fm q),.I q,.I n,.N G.length,.LL G,.I 0,.I 0,.I 0,.I q,.I n,.N G.length,.LL G,.I 0,.I 0,.B false,.N G.length,.LL G,.I G.length,.B false,.I n,.I q,.I n,.N G.length,.LL G,.I q,.I n,.N G.length,.LL G,.I ((s:Nat):Int)] k=k 0 [.B true,.L x,.I q,.I n,.N G.length,.LL G,.I (fp q),.I (fe q),.N (fm q).length,.L (fm q),.I q,.I n,.N G.length,.LL G,.I 0,.I 0,.I 0,.I q,.I n,.N G.length,.LL G,.I 0,.I 0,.B false,.N G.length,.LL G,.I G.length,.B false,.I n,.I q,.I n,.N G.length,.LL G,.I q,.I n,.N G.length,.LL G,.I ((((words q (fadd q) (fmul q) (G.drop (i+1)) x).foldl (least1 n) s):Nat):Int)])
    {x:List Int} (hx:Wd q n x):∀ (f a:Nat) (y:List Int) (s:Nat),a≤q→q<f+a→y.length=n →
    ∃ y':List Int,∀ {τ:Type} (κ:Nat→LS_→Option τ),runE (L121_5 R) f κ 0 [.I i,.N n,.B false,.N n,.I q,.I a,.L x,.I q,.I n,.N G.length,.LL G,.I (fp q),.I (fe q),.N (fm q).length,.L (fm q),.I q,.I n,.N G.length,.LL G,.I 0,.I 0,.I 0,.I q,.I n,.N G.length,.LL G,.I 0,.I 0,.B false,.N G.length,.LL G,.I G.length,.B false,.I n,.I q,.I n,.N G.length,.LL G,.I q,.I n,.N G.length,.LL G,.I ((s:Nat):Int),.L y]=κ 1 [.B false,.L x,.I q,.I n,.N G.length,.LL G,.I (fp q),.I (fe q),.N (fm q).length,.L (fm q),.I q,.I n,.N G.length,.LL G,.I 0,.I 0,.I 0,.I q,.I n,.N G.length,.LL G,.I 0,.I 0,.B false,.N G.length,.LL G,.I G.length,.B false,.I n,.I q,.I n,.N G.length,.LL G,.I q,.I n,.N G.length,.LL G,.I ((((tailw q G i x a).foldl (least1 n) s):Nat):Int),.L y']
  | 0,a,y,s,h1,h2,h3=>by omega
  | f+1,a,y,s,h1,h2,h3=>by
    have F:=fld q C.fq
    have hR0:=C.rows
    have hf:=hR0.few
    have n1:=C.n1
    have hqq:=qs_lt C.fq
    have xl:=hx.1
    by_cases ha:a<q
    · have wg:=hR0.wd i hi
      have wv:=hx.vadd F (Wd.vmul F (c:=(a:Int)) (by omega) (by omega) wg)
      obtain ⟨y',ih⟩:=L121_5_spec C hi R hR hx f (a+1) (vadd (fadd q) x (vmul (fmul q) (a:Int) (G.getD i []))) ((words q (fadd q) (fmul q) (G.drop (i+1)) (vadd (fadd q) x (vmul (fmul q) (a:Int) (G.getD i [])))).foldl (least1 n) s) (by omega) (by omega) wv.1
      refine ⟨y',fun {τ} κ=>?_⟩
      rw [tailw_step ha,List.foldl_append]
      rw [runE_succ]
      show L121_5.s0 R _ _ _=_
      unfold L121_5.s0
      simp only [g_,Int.toNat_natCast,Nat.mul_one,Nat.zero_add,List.drop_zero]
      have ft:List.take n x=x:=List.take_of_length_le (by omega)
      rw [br_of (by simp;omega),ft,ck_of (by simp;omega),ck_of (by simp;omega),ck_of (by simp;omega),S94_1_spec C.fq (by omega) wg hx (by omega) (by omega)]
      simp only [sw_zero,gL_zero]
      rw [wsucc (j:=i) (by omega),hR _ _ wv]
      simp only [g_,sw_zero]
      rw [br_no (b:=!true) rfl,wsucc (j:=a) (by omega)]
      exact ih κ
    · have:a=q:=by omega
      subst this
      refine ⟨y,fun {τ} κ=>?_⟩
      rw [tailw_end]
      rw [runE_succ]
      show L121_5.s0 R _ _ _=_
      unfold L121_5.s0
      simp only [g_,Int.toNat_natCast,Nat.mul_one,Nat.zero_add,List.drop_zero]
      rw [br_no (by simp)]
      rfl
theorem S121_0_D {q n:Nat} {G:List (List Int)} (C:Lc q n G):∀ (d i m:Nat) (x:List Int) (s:Nat),i+d=G.length→d<m→Wd q n x →
  ∀ {τ:Type} (k:Nat→LS_→Option τ),(S121_0.D m).b [.I i,.N n,.L x,.I q,.I n,.N G.length,.LL G,.I (fp q),.I (fe q),.N (fm q).length,.L (fm q),.I q,.I n,.N G.length,.LL G,.I 0,.I 0,.I 0,.I q,.I n,.N G.length,.LL G,.I 0,.I 0,.B false,.N G.length,.LL G,.I G.length,.B false,.I n,.I q,.I n,.N G.length,.LL G,.I q,.I n,.N G.length,.LL G,.I ((s:Nat):Int)] k=k 0 [.B true,.L x,.I q,.I n,.N G.length,.LL G,.I (fp q),.I (fe q),.N (fm q).length,.L (fm q),.I q,.I n,.N G.length,.LL G,.I 0,.I 0,.I 0,.I q,.I n,.N G.length,.LL G,.I 0,.I 0,.B false,.N G.length,.LL G,.I G.length,.B false,.I n,.I q,.I n,.N G.length,.LL G,.I q,.I n,.N G.length,.LL G,.I ((((words q (fadd q) (fmul q) (G.drop i) x).foldl (least1 n) s):Nat):Int)]
 | d,i,0,x,s,h1,h2,hx,τ,k=>by omega
 | 0,i,m+1,x,s,h1,h2,hx,τ,k=>by
  have n0:=C.n0
  have n1:=C.n1
  have xl:=hx.1
  have hi:i=G.length:=by omega
  subst hi
  rw [List.drop_length]
  show S121_0.body (S121_0.D m) _ _=_
  unfold S121_0.body
  simp only [g_,Int.toNat_natCast,Nat.mul_one,Nat.zero_add,List.drop_zero]
  have ft:List.take n x=x:=List.take_of_length_le (by omega)
  rw [br_of (by simp),ft,ck_of (by simp;omega),F92_spec (by omega),xl]
  simp only [sw_zero,gI_zero]
  have hm:(words q (fadd q) (fmul q) [] x).foldl (least1 n) s=least1 n s x:=rfl
  rw [hm]
  unfold least1
  by_cases h0:0<wt n x
  ·rw [br_of (by simpa using h0),if_pos h0,show min ((s:Nat):Int) ((wt n x:Nat):Int)=((min s (wt n x):Nat):Int) by omega]
  ·rw [br_no (by simp only [gtI_no];omega),if_neg h0]
 | d+1,i,m+1,x,s,h1,h2,hx,τ,k=>by
  have hfu:=fuel_le
  have n0:=C.n0
  have n1:=C.n1
  have xl:=hx.1
  have hi:i<G.length:=by omega
  have hqq:=qs_lt C.fq
  show S121_0.body (S121_0.D m) _ _=_
  unfold S121_0.body
  simp only [g_,Int.toNat_natCast,Nat.mul_one,Nat.zero_add,List.drop_zero]
  have ft:List.take n x=x:=List.take_of_length_le (by omega)
  rw [br_no (by simp;omega),ft,ck_of (by simp;omega),F71_spec (by omega) (by omega),xl]
  simp only [sw_zero,gN_zero,gL_succ,gL_zero]
  obtain ⟨y',h⟩:=L121_5_spec C hi (S121_0.D m) (fun x s hx=>fun {τ} k=>S121_0_D C d (i+1) m x s (by omega) (by omega) hx k) hx fuel 0 x s (by omega) (by omega) xl
  unfold L121_5.b
  refine (h _).trans ?_
  rw [tailw_zero hi]
  simp only [g_,sw_zero,sw_one]
theorem F90_spec {q n:Nat} {G:List (List Int)} (h:Cd q n G) {τ:Type} (k:Nat→LS_→Option τ):F90 [.I q,.I n,.LL G] k=k 0 [.I 0]:=by
 have hc:=h.count
 have hqq:=qs_lt h.fq
 have hf:=h.rows.few
 unfold F90 T37 T48
 simp only [g_]
 rw [ck_of (by simp),F37_spec h.fq n (by omega) (short2 fun r hr=>by
  obtain ⟨i,hi,rfl⟩:=List.getElem_of_mem hr
  have:=(h.rows.wd i hi).1
  have:=h.n1
  rw [List.getD_eq_getElem?_getD,List.getElem?_eq_getElem hi] at *
  simp at *
  omega),validB_cd h]
 simp only [sw_zero,gB_zero]
 rw [br_no (b:=!true) rfl,ck_of (by simp),F48_spec (by omega) (by omega) n G (by omega)]
 simp only [sw_zero,gI_zero]
 unfold cnt
 rw [if_pos (by omega),br_no (by simp only [gtI_no];omega)]
theorem F50_spec {q n:Nat} {G:List (List Int)} (h:Cd q n G) {τ:Type} (k:Nat→LS_→Option τ):F50 [.I q,.I n,.LL G] k =
  if G.length=0 then k 1 [] else k 2 [.I ((minw n (words q (fadd q) (fmul q) G (List.replicate n 0)) n:Nat):Int)]:=by
 have hfu:=fuel_le
 have hqq:=qs_lt h.fq
 have n0:=h.n0
 have n1:=h.n1
 have hl:=h.lc.len
 unfold F50
 simp only [g_]
 rw [ck_of (by simp),F90_spec h]
 simp only [sw_zero,gI_zero]
 rw [br_no (by rfl)]
 by_cases hg:G.length=0
 ·rw [br_of (by rw [hg];rfl),if_pos hg]
 ·rw [br_no (by simp;exact fun e=>hg (by rw [e];rfl)),if_neg hg,T81_spec h.fq]
  simp only [g_,sw_zero,Int.toNat_natCast]
  rw [ck_of (by simp;omega)]
  unfold S121_0
  refine (S121_0_D h.lc G.length 0 fuel (List.replicate n 0) n (by omega) (by omega) (Wd.zeros (by omega)) _).trans ?_
  simp only [g_,sw_zero,List.drop_zero]
  rfl
def T50 {τ:Type} (l:LS_) (k:Nat→LS_→Option τ):Option τ:=wrapB F50.E (.tup [pI,pI]) l k
def T50.E:Ent P:=F50.E.wrap (.tup [pI,pI])
theorem T50_spec {q n:Nat} {G:List (List Int)} (h:Cd q n G) {τ:Type} (k:Nat→LS_→Option τ):T50 [.I q,.I n,.LL G] k =
  if G.length=0 then k 0 [.I 0,.I 4] else k 0 [.I ((minw n (words q (fadd q) (fmul q) G (List.replicate n 0)) n:Nat):Int),.I 0]:=by
 by_cases hg:G.length=0
 ·rw [if_pos hg]
  exact wrap_of (e:=F50.E) (p:=.tup [pI,pI]) (j:=1) (l2:=[]) (c:=true) (ls':=[.I 0,.I 4]) (by intro τ κ;kernel_rfl) rfl (fun κ=>(F50_spec h κ).trans (if_pos hg))
 ·rw [if_neg hg]
  have h2:=fun {τ:Type} (κ:Nat→LS_→Option τ)=>(F50_spec h κ).trans (if_neg hg)
  generalize ((minw n (words q (fadd q) (fmul q) G (List.replicate n 0)) n:Nat):Int)=z at h2 ⊢
  exact wrap_of (e:=F50.E) (p:=.tup [pI,pI]) (j:=2) (l2:=[.I z]) (c:=true) (ls':=[.I z,.I 0]) (by intro τ κ;kernel_rfl) rfl (fun κ=>h2 κ)
end
end Go.Proofs.Ytbpjicbpcfkpfaa.Ai
namespace Go.Proofs.Ytbpjicbpcfkpfaa.Ai
open Go Ma
noncomputable section
def cnt1 (n:Nat) (s:List Int) (y:List Int):List Int:=s.set (wt n y) (s.getD (wt n y) 0+1)
def Hb (n:Nat) (s:List Int) (m:Nat):Prop:=s.length=n+1∧∀ j,0≤s.getD j 0∧s.getD j 0+m≤2^60
theorem Hb.mono {n:Nat} {s:List Int} {m k:Nat} (h:Hb n s m) (hk:k≤m):Hb n s k:=⟨h.1,fun j=>⟨(h.2 j).1,by have:=(h.2 j).2;omega⟩⟩
theorem wt_le (n:Nat) (y:List Int):wt n y≤n:=far_le _ _ _ _ _
theorem Hb.step {n:Nat} {s:List Int} {m:Nat} (h:Hb n s (m+1)) (y:List Int):Hb n (cnt1 n s y) m:=by
 have hw:=wt_le n y
 refine ⟨by unfold cnt1;rw [List.length_set];exact h.1,fun j=>?_⟩
 have a:=h.2 j
 have b:=h.2 (wt n y)
 unfold cnt1
 rw [List.getD_eq_getElem?_getD,List.getElem?_set]
 by_cases e:wt n y=j
 ·rw [if_pos e,if_pos (by rw [h.1];omega)]
  simp only [Option.getD_some]
  omega
 ·rw [if_neg e,←List.getD_eq_getElem?_getD]
  omega
theorem Hb.fold {n:Nat}:∀ {L:List (List Int)} {s:List Int} {m:Nat},Hb n s (L.length+m)→Hb n (L.foldl (cnt1 n) s) m
 | [],s,m,h=>by simpa using h
 | y::L,s,m,h=>by
  rw [List.foldl_cons]
  exact Hb.fold (Hb.step (h.mono (by rw [List.length_cons];omega)) y)
theorem hist_get {n k:Nat} (hk:k≤n):∀ (L:List (List Int)) (s:List Int),s.length=n+1→(L.foldl (cnt1 n) s).getD k 0=s.getD k 0+(L.countP fun y=>wt n y==k:Nat)
 | [],s,h=>by simp
 | y::L,s,h=>by
  have hw:=wt_le n y
  rw [List.foldl_cons,hist_get hk L _ (by unfold cnt1;rw [List.length_set];exact h),List.countP_cons]
  unfold cnt1
  rw [List.getD_eq_getElem?_getD,List.getElem?_set]
  by_cases e:wt n y=k
  ·rw [if_pos e,if_pos (by omega),e]
   simp only [Option.getD_some,beq_self_eq_true,if_true]
   omega
  ·rw [if_neg e,←List.getD_eq_getElem?_getD]
   have:(wt n y==k)=false:=by simpa using e
   rw [this]
   simp
theorem drop_pow {q i:Nat} {G:List (List Int)} (hi:i<G.length):q^(G.drop i).length=q*q^(G.drop (i+1)).length:=by
 rw [drop_cons [] hi,List.length_cons,Nat.pow_succ,Nat.mul_comm]
theorem tail_pow {q a D:Nat} (ha:a<q):(q-a)*D=D+(q-(a+1))*D:=by
 rw [show q-a=(q-(a+1))+1 by omega,Nat.add_mul,Nat.one_mul,Nat.add_comm]
theorem L121_5_1_spec {q n:Nat} {G:List (List Int)} (C:Lc q n G) {i:Nat} (hi:i<G.length) (R:SDyn P S121_1.H)
    (hR:∀ (x:List Int) (s:List Int),Wd q n x→Hb n s (q^(G.drop (i+1)).length)→∀ {τ:Type} (k:Nat→LS_→Option τ),R.b [.I ((i+1:Nat):Int),.N n,.L x,.I q,.I n,.N G.length,.LL G,.I (fp q),.I (fe q),.N (fm q).length,.L (fm q),.I q,.I n,.N G.length,.LL G,.I 0,.I 0,.I q,.I n,.N G.length,.LL G,.I 0,.I 0,.B false,.I n,.I ((n+1:Nat):Int),.N (n+1),.I q,.I n,.N G.length,.LL G,.I q,.I n,.N G.length,.LL G,.N (n+1),.L s] k=k 0 [.B true,.L x,.I q,.I n,.N G.length,.LL G,.I (fp q),.I (fe q),.N (fm q).length,.L (fm q),.I q,.I n,.N G.length,.LL G,.I 0,.I 0,.I q,.I n,.N G.length,.LL G,.I 0,.I 0,.B false,.I n,.I ((n+1:Nat):Int),.N (n+1),.I q,.I n,.N G.length,.LL G,.I q,.I n,.N G.length,.LL G,.N (n+1),.L ((words q (fadd q) (fmul q) (G.drop (i+1)) x).foldl (cnt1 n) s)])
    {x:List Int} (hx:Wd q n x):∀ (f a:Nat) (y:List Int) (s:List Int),a≤q→q<f+a→y.length=n→Hb n s ((q-a)*q^(G.drop (i+1)).length) →
    ∃ y':List Int,∀ {τ:Type} (κ:Nat→LS_→Option τ),runE (L121_5_1 R) f κ 0 [.I i,.N n,.B false,.N n,.I q,.I a,.L x,.I q,.I n,.N G.length,.LL G,.I (fp q),.I (fe q),.N (fm q).length,.L (fm q),.I q,.I n,.N G.length,.LL G,.I 0,.I 0,.I q,.I n,.N G.length,.LL G,.I 0,.I 0,.B false,.I n,.I ((n+1:Nat):Int),.N (n+1),.I q,.I n,.N G.length,.LL G,.I q,.I n,.N G.length,.LL G,.N (n+1),.L s,.L y]=κ 1 [.B false,.L x,.I q,.I n,.N G.length,.LL G,.I (fp q),.I (fe q),.N (fm q).length,.L (fm q),.I q,.I n,.N G.length,.LL G,.I 0,.I 0,.I q,.I n,.N G.length,.LL G,.I 0,.I 0,.B false,.I n,.I ((n+1:Nat):Int),.N (n+1),.I q,.I n,.N G.length,.LL G,.I q,.I n,.N G.length,.LL G,.N (n+1),.L ((tailw q G i x a).foldl (cnt1 n) s),.L y']
  | 0,a,y,s,h1,h2,h3,h4=>by omega
  | f+1,a,y,s,h1,h2,h3,h4=>by
    have F:=fld q C.fq
    have hR0:=C.rows
    have hf:=hR0.few
    have n1:=C.n1
    have hqq:=qs_lt C.fq
    have xl:=hx.1
    by_cases ha:a<q
    · have wg:=hR0.wd i hi
      have wv:=hx.vadd F (Wd.vmul F (c:=(a:Int)) (by omega) (by omega) wg)
      obtain ⟨y',ih⟩:=L121_5_1_spec C hi R hR hx f (a+1) (vadd (fadd q) x (vmul (fmul q) (a:Int) (G.getD i []))) ((words q (fadd q) (fmul q) (G.drop (i+1)) (vadd (fadd q) x (vmul (fmul q) (a:Int) (G.getD i [])))).foldl (cnt1 n) s) (by omega) (by omega) wv.1 (Hb.fold (by rw [words_len (n:=n) C.fq,←tail_pow ha];exact h4))
      refine ⟨y',fun {τ} κ=>?_⟩
      rw [tailw_step ha,List.foldl_append]
      rw [runE_succ]
      show L121_5_1.s0 R _ _ _=_
      unfold L121_5_1.s0
      simp only [g_,Int.toNat_natCast,Nat.mul_one,Nat.zero_add,List.drop_zero]
      have ft:List.take n x=x:=List.take_of_length_le (by omega)
      rw [br_of (by simp;omega),ft,ck_of (by simp;omega),ck_of (by simp;omega),ck_of (by simp;omega),S94_1_spec C.fq (by omega) wg hx (by omega) (by omega)]
      simp only [sw_zero,gL_zero]
      rw [wsucc (j:=i) (by omega),hR _ _ wv (h4.mono (by rw [tail_pow ha];omega))]
      simp only [g_,sw_zero]
      rw [br_no (b:=!true) rfl,wsucc (j:=a) (by omega)]
      exact ih κ
    · have:a=q:=by omega
      subst this
      refine ⟨y,fun {τ} κ=>?_⟩
      rw [tailw_end]
      rw [runE_succ]
      show L121_5_1.s0 R _ _ _=_
      unfold L121_5_1.s0
      simp only [g_,Int.toNat_natCast,Nat.mul_one,Nat.zero_add,List.drop_zero]
      rw [br_no (by simp)]
      rfl
theorem S121_1_D {q n:Nat} {G:List (List Int)} (C:Lc q n G):∀ (d i m:Nat) (x:List Int) (s:List Int),i+d=G.length→d<m→Wd q n x→Hb n s (q^(G.drop i).length) →
  ∀ {τ:Type} (k:Nat→LS_→Option τ),(S121_1.D m).b [.I i,.N n,.L x,.I q,.I n,.N G.length,.LL G,.I (fp q),.I (fe q),.N (fm q).length,.L (fm q),.I q,.I n,.N G.length,.LL G,.I 0,.I 0,.I q,.I n,.N G.length,.LL G,.I 0,.I 0,.B false,.I n,.I ((n+1:Nat):Int),.N (n+1),.I q,.I n,.N G.length,.LL G,.I q,.I n,.N G.length,.LL G,.N (n+1),.L s] k=k 0 [.B true,.L x,.I q,.I n,.N G.length,.LL G,.I (fp q),.I (fe q),.N (fm q).length,.L (fm q),.I q,.I n,.N G.length,.LL G,.I 0,.I 0,.I q,.I n,.N G.length,.LL G,.I 0,.I 0,.B false,.I n,.I ((n+1:Nat):Int),.N (n+1),.I q,.I n,.N G.length,.LL G,.I q,.I n,.N G.length,.LL G,.N (n+1),.L ((words q (fadd q) (fmul q) (G.drop i) x).foldl (cnt1 n) s)]
 | d,i,0,x,s,h1,h2,hx,h3,τ,k=>by omega
 | 0,i,m+1,x,s,h1,h2,hx,h3,τ,k=>by
  have n0:=C.n0
  have n1:=C.n1
  have xl:=hx.1
  have hi:i=G.length:=by omega
  subst hi
  rw [List.drop_length]
  show S121_1.body (S121_1.D m) _ _=_
  unfold S121_1.body
  simp only [g_,Int.toNat_natCast,Nat.mul_one,Nat.zero_add,List.drop_zero]
  have ft:List.take n x=x:=List.take_of_length_le (by omega)
  rw [br_of (by simp),ft,ck_of (by simp;omega),F92_spec (by omega),xl]
  simp only [sw_zero,gI_zero]
  have hw:=wt_le n x
  have hb:=h3
  rw [List.drop_length] at hb
  have hs:=hb.1
  have hb2:=hb.2 (wt n x)
  have hm:(words q (fadd q) (fmul q) [] x).foldl (cnt1 n) s=s.set (wt n x) (s.getD (wt n x) 0+1):=rfl
  simp only [List.length_nil,Nat.pow_zero] at hb2
  rw [hm]
  simp only [Int.toNat_natCast]
  rw [ck_of (by simp;omega),ck_of (by simp;omega),ck_of (by simp;omega),ck_of (by simp;omega),wr64 (n:=s.getD (wt n x) 0+1) (by omega) (by omega)]
 | d+1,i,m+1,x,s,h1,h2,hx,h3,τ,k=>by
  have hfu:=fuel_le
  have n0:=C.n0
  have n1:=C.n1
  have xl:=hx.1
  have hi:i<G.length:=by omega
  have hqq:=qs_lt C.fq
  show S121_1.body (S121_1.D m) _ _=_
  unfold S121_1.body
  simp only [g_,Int.toNat_natCast,Nat.mul_one,Nat.zero_add,List.drop_zero]
  have ft:List.take n x=x:=List.take_of_length_le (by omega)
  rw [br_no (by simp;omega),ft,ck_of (by simp;omega),F71_spec (by omega) (by omega),xl]
  simp only [sw_zero,gN_zero,gL_succ,gL_zero]
  obtain ⟨y',h⟩:=L121_5_1_spec C hi (S121_1.D m) (fun x s hx hb=>fun {τ} k=>S121_1_D C d (i+1) m x s (by omega) (by omega) hx hb k) hx fuel 0 x s (by omega) (by omega) xl (by rw [Nat.sub_zero,←drop_pow hi];exact h3)
  unfold L121_5_1.b
  refine (h _).trans ?_
  rw [tailw_zero hi]
  simp only [g_,sw_zero,sw_one]
theorem F42_spec {q n:Nat} {G:List (List Int)} (h:Cd q n G) {τ:Type} (k:Nat→LS_→Option τ):F42 [.I q,.I n,.LL G] k =
  k 1 [.N (n+1),.L ((words q (fadd q) (fmul q) G (List.replicate n 0)).foldl (cnt1 n) (List.replicate (n+1) 0))]:=by
 have hfu:=fuel_le
 have hqq:=qs_lt h.fq
 have n0:=h.n0
 have n1:=h.n1
 have hl:=h.lc.len
 have hc:=h.count
 have e1:wr .i64 ((n:Int)+1)=((n+1:Nat):Int):=wsucc (by omega)
 unfold F42
 simp only [g_]
 rw [ck_of (by simp),F90_spec h]
 simp only [sw_zero,gI_zero]
 rw [br_no (by rfl),e1,ck_of (by simp;omega),T81_spec h.fq]
 simp only [g_,sw_zero,Int.toNat_natCast]
 rw [ck_of (by simp;omega)]
 unfold S121_1
 refine (S121_1_D h.lc G.length 0 fuel (List.replicate n 0) (List.replicate (n+1) 0) (by omega) (by omega) (Wd.zeros (by omega)) ⟨by simp,fun j=>?_⟩ _).trans ?_
 ·have:(List.replicate (n+1) (0:Int)).getD j 0=0:=by rw [List.getD_eq_getElem?_getD,List.getElem?_replicate];split <;> rfl
  rw [this,List.drop_zero]
  omega
 ·simp only [g_,sw_zero,List.drop_zero]
def lsO (t:Nat) (o:List (List Int)) (y:List Int):LS_:=if t=0 then [.N o.length,.LL o,.L y] else [.N o.length,.L y,.LL o]
theorem L121_5_3_spec {q n:Nat} {G:List (List Int)} (C:Lc q n G) {i:Nat} (hi:i<G.length) (R:SDyn P S121_3.H)
    (hR:∀ (x:List Int) (o:List (List Int)),Wd q n x→o.length+q^(G.drop (i+1)).length≤2^30→∃ j,(j=0∨j=1)∧∀ {τ:Type} (k:Nat→LS_→Option τ),R.b [.I ((i+1:Nat):Int),.N n,.L x,.I q,.I n,.N G.length,.LL G,.I (fp q),.I (fe q),.N (fm q).length,.L (fm q),.I q,.I n,.N G.length,.LL G,.I 0,.I 0,.I q,.I n,.N G.length,.LL G,.I 0,.I 0,.B false,.I q,.I n,.N G.length,.LL G,.I q,.I n,.N G.length,.LL G,.N o.length,.LL o] k=k j [.B true,.L x,.I q,.I n,.N G.length,.LL G,.I (fp q),.I (fe q),.N (fm q).length,.L (fm q),.I q,.I n,.N G.length,.LL G,.I 0,.I 0,.I q,.I n,.N G.length,.LL G,.I 0,.I 0,.B false,.I q,.I n,.N G.length,.LL G,.I q,.I n,.N G.length,.LL G,.N (o++(words q (fadd q) (fmul q) (G.drop (i+1)) x)).length,.LL (o++(words q (fadd q) (fmul q) (G.drop (i+1)) x))])
    {x:List Int} (hx:Wd q n x):∀ (f a t:Nat) (y:List Int) (o:List (List Int)),a≤q→q<f+a→y.length=n→o.length+(q-a)*q^(G.drop (i+1)).length≤2^30→(t=0∨t=1) →
    ∃ (t':Nat) (y':List Int),(t'=0∨t'=1)∧(t=1→t'=1)∧∀ {τ:Type} (κ:Nat→LS_→Option τ),runE (L121_5_3 R) f κ t (.I i::.N n::.B false::.N n::.I q::.I a::.L x::.I q::.I n::.N G.length::.LL G::.I (fp q)::.I (fe q)::.N (fm q).length::.L (fm q)::.I q::.I n::.N G.length::.LL G::.I 0::.I 0::.I q::.I n::.N G.length::.LL G::.I 0::.I 0::.B false::.I q::.I n::.N G.length::.LL G::.I q::.I n::.N G.length::.LL G::lsO t o y)=κ (2+t') (.B false::.L x::.I q::.I n::.N G.length::.LL G::.I (fp q)::.I (fe q)::.N (fm q).length::.L (fm q)::.I q::.I n::.N G.length::.LL G::.I 0::.I 0::.I q::.I n::.N G.length::.LL G::.I 0::.I 0::.B false::.I q::.I n::.N G.length::.LL G::.I q::.I n::.N G.length::.LL G::lsO t' (o++tailw q G i x a) y')
  | 0,a,t,y,o,h1,h2,h3,h4,ht=>by omega
  | f+1,a,t,y,o,h1,h2,h3,h4,ht=>by
    have F:=fld q C.fq
    have hR0:=C.rows
    have hf:=hR0.few
    have n1:=C.n1
    have hqq:=qs_lt C.fq
    have xl:=hx.1
    by_cases ha:a<q
    · have wg:=hR0.wd i hi
      have wv:=hx.vadd F (Wd.vmul F (c:=(a:Int)) (by omega) (by omega) wg)
      have ft:List.take n x=x:=List.take_of_length_le (by omega)
      rw [tail_pow ha] at h4
      have wl:=words_len (n:=n) C.fq (G.drop (i+1)) (vadd (fadd q) x (vmul (fmul q) (a:Int) (G.getD i [])))
      obtain ⟨j,hj,hb⟩:=hR _ o wv (by omega)
      have ih:∀ t2,(t2=0∨t2=1)→_:=fun t2 h=>L121_5_3_spec C hi R hR hx f (a+1) t2 (vadd (fadd q) x (vmul (fmul q) (a:Int) (G.getD i []))) (o++words q (fadd q) (fmul q) (G.drop (i+1)) (vadd (fadd q) x (vmul (fmul q) (a:Int) (G.getD i [])))) (by omega) (by omega) wv.1 (by rw [List.length_append,wl];omega) h
      rw [tailw_step ha,←List.append_assoc]
      rcases ht with rfl | rfl
      · rcases hj with rfl | rfl
        · obtain ⟨t',y',e1,e2,e3⟩:=ih 1 (.inr rfl)
          refine ⟨t',y',e1,fun e=>by omega,fun {τ} κ=>?_⟩
          rw [runE_succ]
          show L121_5_3.s0 R _ _ _=_
          unfold L121_5_3.s0 lsO
          rw [if_pos rfl]
          simp only [g_,Int.toNat_natCast,Nat.mul_one,Nat.zero_add,List.drop_zero]
          rw [br_of (by simp;omega),ft,ck_of (by simp;omega),ck_of (by simp;omega),ck_of (by simp;omega),S94_1_spec C.fq (by omega) wg hx (by omega) (by omega)]
          simp only [sw_zero,gL_zero]
          rw [wsucc (j:=i) (by omega),hb]
          simp only [g_,sw_zero,sw_one]
          rw [br_no (b:=!true) rfl,wsucc (j:=a) (by omega)]
          exact e3 κ
        · obtain ⟨t',y',e1,e2,e3⟩:=ih 0 (.inl rfl)
          refine ⟨t',y',e1,fun e=>by omega,fun {τ} κ=>?_⟩
          rw [runE_succ]
          show L121_5_3.s0 R _ _ _=_
          unfold L121_5_3.s0 lsO
          rw [if_pos rfl]
          simp only [g_,Int.toNat_natCast,Nat.mul_one,Nat.zero_add,List.drop_zero]
          rw [br_of (by simp;omega),ft,ck_of (by simp;omega),ck_of (by simp;omega),ck_of (by simp;omega),S94_1_spec C.fq (by omega) wg hx (by omega) (by omega)]
          simp only [sw_zero,gL_zero]
          rw [wsucc (j:=i) (by omega),hb]
          simp only [g_,sw_zero,sw_one]
          rw [br_no (b:=!true) rfl,wsucc (j:=a) (by omega)]
          exact e3 κ
      · obtain ⟨t',y',e1,e2,e3⟩:=ih 1 (.inr rfl)
        refine ⟨t',y',e1,fun _=>e2 rfl,fun {τ} κ=>?_⟩
        rw [runE_succ]
        show L121_5_3.s1 R _ _ _=_
        unfold L121_5_3.s1 lsO
        rw [if_neg (by omega)]
        simp only [g_,Int.toNat_natCast,Nat.mul_one,Nat.zero_add,List.drop_zero]
        rw [br_of (by simp;omega),ft,ck_of (by simp;omega),ck_of (by simp;omega),ck_of (by simp;omega),S94_1_spec C.fq (by omega) wg hx (by omega) (by omega)]
        simp only [sw_zero,gL_zero]
        rw [wsucc (j:=i) (by omega),hb]
        rcases hj with rfl | rfl
        · simp only [g_,sw_zero,sw_one]
          rw [br_no (b:=!true) rfl,wsucc (j:=a) (by omega)]
          exact e3 κ
        · simp only [g_,sw_zero,sw_one]
          rw [br_no (b:=!true) rfl,wsucc (j:=a) (by omega)]
          exact e3 κ
    · have:a=q:=by omega
      subst this
      refine ⟨t,y,ht,id,fun {τ} κ=>?_⟩
      rw [tailw_end,List.append_nil,runE_succ]
      rcases ht with rfl | rfl
      · show L121_5_3.s0 R _ _ _=_
        unfold L121_5_3.s0 lsO
        rw [if_pos rfl]
        simp only [g_,Int.toNat_natCast,Nat.mul_one,Nat.zero_add,List.drop_zero]
        rw [br_no (by simp)]
      · show L121_5_3.s1 R _ _ _=_
        unfold L121_5_3.s1 lsO
        rw [if_neg (by omega)]
        simp only [g_,Int.toNat_natCast,Nat.mul_one,Nat.zero_add,List.drop_zero]
        rw [br_no (by simp)]
theorem S121_3_D {q n:Nat} {G:List (List Int)} (C:Lc q n G):∀ (d i m:Nat) (x:List Int) (o:List (List Int)),i+d=G.length→d<m→Wd q n x→o.length+q^(G.drop i).length≤2^30→∃ j,(j=0∨j=1) ∧
  ∀ {τ:Type} (k:Nat→LS_→Option τ),(S121_3.D m).b [.I i,.N n,.L x,.I q,.I n,.N G.length,.LL G,.I (fp q),.I (fe q),.N (fm q).length,.L (fm q),.I q,.I n,.N G.length,.LL G,.I 0,.I 0,.I q,.I n,.N G.length,.LL G,.I 0,.I 0,.B false,.I q,.I n,.N G.length,.LL G,.I q,.I n,.N G.length,.LL G,.N o.length,.LL o] k=k j [.B true,.L x,.I q,.I n,.N G.length,.LL G,.I (fp q),.I (fe q),.N (fm q).length,.L (fm q),.I q,.I n,.N G.length,.LL G,.I 0,.I 0,.I q,.I n,.N G.length,.LL G,.I 0,.I 0,.B false,.I q,.I n,.N G.length,.LL G,.I q,.I n,.N G.length,.LL G,.N (o++(words q (fadd q) (fmul q) (G.drop i) x)).length,.LL (o++(words q (fadd q) (fmul q) (G.drop i) x))]
 | d,i,0,x,o,h1,h2,hx,ho=>by omega
 | 0,i,m+1,x,o,h1,h2,hx,ho=>by
  have n0:=C.n0
  have n1:=C.n1
  have xl:=hx.1
  have hi:i=G.length:=by omega
  subst hi
  rw [List.drop_length] at ho ⊢
  refine ⟨0,.inl rfl,fun {τ} k=>?_⟩
  show S121_3.body (S121_3.D m) _ _=_
  unfold S121_3.body
  simp only [g_,Int.toNat_natCast,Nat.mul_one,Nat.zero_add,List.drop_zero]
  have ft:List.take n x=x:=List.take_of_length_le (by omega)
  rw [br_of (by simp),ft,ck_of (by simp;omega),F71_spec (by omega) (by omega),xl]
  simp only [sw_zero,gN_zero,gL_succ,gL_zero,List.length_nil,Nat.pow_zero] at ho ⊢
  rw [ft,ck_of (by simp;omega),ck_of (by simp;omega)]
  have e:o++words q (fadd q) (fmul q) [] x=o++[x]:=rfl
  rw [e,List.length_append]
  rfl
 | d+1,i,m+1,x,o,h1,h2,hx,ho=>by
  have hfu:=fuel_le
  have n0:=C.n0
  have n1:=C.n1
  have xl:=hx.1
  have hi:i<G.length:=by omega
  have hqq:=qs_lt C.fq
  have ft:List.take n x=x:=List.take_of_length_le (by omega)
  obtain ⟨t',y',e1,_,h⟩:=L121_5_3_spec C hi (S121_3.D m) (fun x o hx ho=>S121_3_D C d (i+1) m x o (by omega) (by omega) hx ho) hx fuel 0 0 x o (by omega) (by omega) xl (by rw [Nat.sub_zero,←drop_pow hi];exact ho) (.inl rfl)
  rw [tailw_zero hi]
  rcases e1 with rfl | rfl
  ·refine ⟨1,.inr rfl,fun {τ} k=>?_⟩
   show S121_3.body (S121_3.D m) _ _=_
   unfold S121_3.body
   simp only [g_,Int.toNat_natCast,Nat.mul_one,Nat.zero_add,List.drop_zero]
   rw [br_no (by simp;omega),ft,ck_of (by simp;omega),F71_spec (by omega) (by omega),xl]
   simp only [sw_zero,gN_zero,gL_succ,gL_zero]
   unfold L121_5_3.b
   refine (h _).trans ?_
   unfold lsO
   rw [if_pos rfl]
   simp only [g_,Nat.add_zero,sw_two,sw_one,sw_zero]
  ·refine ⟨0,.inl rfl,fun {τ} k=>?_⟩
   show S121_3.body (S121_3.D m) _ _=_
   unfold S121_3.body
   simp only [g_,Int.toNat_natCast,Nat.mul_one,Nat.zero_add,List.drop_zero]
   rw [br_no (by simp;omega),ft,ck_of (by simp;omega),F71_spec (by omega) (by omega),xl]
   simp only [sw_zero,gN_zero,gL_succ,gL_zero]
   unfold L121_5_3.b
   refine (h _).trans ?_
   unfold lsO
   rw [if_neg (by omega)]
   simp only [g_,show 2+1=3 from rfl,sw_three,sw_two,sw_one,sw_zero]
theorem S121_3_all {q n:Nat} {G:List (List Int)} (C:Lc q n G) {i:Nat} (hi:i≤G.length) {x:List Int} (hx:Wd q n x) {o:List (List Int)} (ho:o.length+q^(G.drop i).length≤2^30):∃ j,(j=0∨j=1) ∧
  ∀ {τ:Type} (k:Nat→LS_→Option τ),S121_3 [.I i,.N n,.L x,.I q,.I n,.N G.length,.LL G,.I (fp q),.I (fe q),.N (fm q).length,.L (fm q),.I q,.I n,.N G.length,.LL G,.I 0,.I 0,.I q,.I n,.N G.length,.LL G,.I 0,.I 0,.B false,.I q,.I n,.N G.length,.LL G,.I q,.I n,.N G.length,.LL G,.N o.length,.LL o] k=k j [.B true,.L x,.I q,.I n,.N G.length,.LL G,.I (fp q),.I (fe q),.N (fm q).length,.L (fm q),.I q,.I n,.N G.length,.LL G,.I 0,.I 0,.I q,.I n,.N G.length,.LL G,.I 0,.I 0,.B false,.I q,.I n,.N G.length,.LL G,.I q,.I n,.N G.length,.LL G,.N (o++(words q (fadd q) (fmul q) (G.drop i) x)).length,.LL (o++(words q (fadd q) (fmul q) (G.drop i) x))]:=by
 have hfu:=fuel_le
 have:=C.len
 have:=C.n1
 exact S121_3_D C (G.length-i) i fuel x o (by omega) (by omega) hx ho
theorem L121_5_2_spec1 {q n:Nat} {G:List (List Int)} (C:Lc q n G) {i:Nat} (hi:i<G.length) (R:SDyn P S121_2.H)
    {x:List Int} (hx:Wd q n x):∀ (f a:Nat) (y:List Int) (o:List (List Int)),a≤q→q<f+a→y.length=n→o.length+(q-a)*q^(G.drop (i+1)).length≤2^30 →
    ∃ (y':List Int),∀ {τ:Type} (κ:Nat→LS_→Option τ),runE (L121_5_2 R) f κ 1 [.I i,.N n,.B false,.N n,.I q,.I a,.L x,.I q,.I n,.N G.length,.LL G,.I (fp q),.I (fe q),.N (fm q).length,.L (fm q),.I q,.I n,.N G.length,.LL G,.I 0,.I 0,.I q,.I n,.N G.length,.LL G,.I 0,.I 0,.B false,.I q,.I n,.N G.length,.LL G,.I q,.I n,.N G.length,.LL G,.N o.length,.L y,.LL o]=κ 3 [.B false,.L x,.I q,.I n,.N G.length,.LL G,.I (fp q),.I (fe q),.N (fm q).length,.L (fm q),.I q,.I n,.N G.length,.LL G,.I 0,.I 0,.I q,.I n,.N G.length,.LL G,.I 0,.I 0,.B false,.I q,.I n,.N G.length,.LL G,.I q,.I n,.N G.length,.LL G,.N (o++tailw q G i x a).length,.L y',.LL (o++tailw q G i x a)]
  | 0,a,y,o,h1,h2,h3,h4=>by omega
  | f+1,a,y,o,h1,h2,h3,h4=>by
    have F:=fld q C.fq
    have hR0:=C.rows
    have hf:=hR0.few
    have n1:=C.n1
    have hqq:=qs_lt C.fq
    have xl:=hx.1
    by_cases ha:a<q
    · have wg:=hR0.wd i hi
      have wv:=hx.vadd F (Wd.vmul F (c:=(a:Int)) (by omega) (by omega) wg)
      have ft:List.take n x=x:=List.take_of_length_le (by omega)
      rw [tail_pow ha] at h4
      have wl:=words_len (n:=n) C.fq (G.drop (i+1)) (vadd (fadd q) x (vmul (fmul q) (a:Int) (G.getD i [])))
      obtain ⟨j,hj,hb⟩:=S121_3_all C (i:=i+1) (by omega) wv (o:=o) (by omega)
      obtain ⟨y',e3⟩:=L121_5_2_spec1 C hi R hx f (a+1) (vadd (fadd q) x (vmul (fmul q) (a:Int) (G.getD i []))) (o++words q (fadd q) (fmul q) (G.drop (i+1)) (vadd (fadd q) x (vmul (fmul q) (a:Int) (G.getD i [])))) (by omega) (by omega) wv.1 (by rw [List.length_append,wl];omega)
      rw [tailw_step ha,←List.append_assoc]
      refine ⟨y',fun {τ} κ=>?_⟩
      rw [runE_succ]
      show L121_5_2.s1 R _ _ _=_
      unfold L121_5_2.s1
      simp only [g_,Int.toNat_natCast,Nat.mul_one,Nat.zero_add,List.drop_zero]
      rw [br_of (by simp;omega),ft,ck_of (by simp;omega),ck_of (by simp;omega),ck_of (by simp;omega),S94_1_spec C.fq (by omega) wg hx (by omega) (by omega)]
      simp only [sw_zero,gL_zero]
      rw [wsucc (j:=i) (by omega),hb]
      rcases hj with rfl | rfl
      · simp only [g_,sw_zero,sw_one]
        rw [br_no (b:=!true) rfl,wsucc (j:=a) (by omega)]
        exact e3 κ
      · simp only [g_,sw_zero,sw_one]
        rw [br_no (b:=!true) rfl,wsucc (j:=a) (by omega)]
        exact e3 κ
    · have:a=q:=by omega
      subst this
      refine ⟨y,fun {τ} κ=>?_⟩
      rw [tailw_end,List.append_nil,runE_succ]
      show L121_5_2.s1 R _ _ _=_
      unfold L121_5_2.s1
      simp only [g_,Int.toNat_natCast,Nat.mul_one,Nat.zero_add,List.drop_zero]
      rw [br_no (by simp)]
theorem L121_5_2_spec {q n:Nat} {G:List (List Int)} (C:Lc q n G) {i:Nat} (hi:i<G.length) (R:SDyn P S121_2.H)
    (hR:∀ (x:List Int),Wd q n x→∀ {τ:Type} (k:Nat→LS_→Option τ),R.b [.I ((i+1:Nat):Int),.N n,.L x,.I q,.I n,.N G.length,.LL G,.I (fp q),.I (fe q),.N (fm q).length,.L (fm q),.I q,.I n,.N G.length,.LL G,.I 0,.I 0,.I q,.I n,.N G.length,.LL G,.I 0,.I 0,.B false,.I q,.I n,.N G.length,.LL G,.I q,.I n,.N G.length,.LL G] k=k 0 [.B true,.L x,.I q,.I n,.N G.length,.LL G,.I (fp q),.I (fe q),.N (fm q).length,.L (fm q),.I q,.I n,.N G.length,.LL G,.I 0,.I 0,.I q,.I n,.N G.length,.LL G,.I 0,.I 0,.B false,.I q,.I n,.N G.length,.LL G,.I q,.I n,.N G.length,.LL G,.N (words q (fadd q) (fmul q) (G.drop (i+1)) x).length,.LL (words q (fadd q) (fmul q) (G.drop (i+1)) x)])
    {x:List Int} (hx:Wd q n x) (ho:q^(G.drop i).length≤2^30) (f:Nat) (hf2:q<f) :
    ∃ (y':List Int),∀ {τ:Type} (κ:Nat→LS_→Option τ),runE (L121_5_2 R) (f+1) κ 0 [.I i,.N n,.B false,.N n,.I q,.I 0,.L x,.I q,.I n,.N G.length,.LL G,.I (fp q),.I (fe q),.N (fm q).length,.L (fm q),.I q,.I n,.N G.length,.LL G,.I 0,.I 0,.I q,.I n,.N G.length,.LL G,.I 0,.I 0,.B false,.I q,.I n,.N G.length,.LL G,.I q,.I n,.N G.length,.LL G,.L x]=κ 3 [.B false,.L x,.I q,.I n,.N G.length,.LL G,.I (fp q),.I (fe q),.N (fm q).length,.L (fm q),.I q,.I n,.N G.length,.LL G,.I 0,.I 0,.I q,.I n,.N G.length,.LL G,.I 0,.I 0,.B false,.I q,.I n,.N G.length,.LL G,.I q,.I n,.N G.length,.LL G,.N (tailw q G i x 0).length,.L y',.LL (tailw q G i x 0)]:=by
  have F:=fld q C.fq
  have hR0:=C.rows
  have hf:=hR0.few
  have n0:=C.n0
  have n1:=C.n1
  have xl:=hx.1
  have hqq:=qs_lt C.fq
  have wg:=hR0.wd i hi
  have wv:=hx.vadd F (Wd.vmul F (c:=((0:Nat):Int)) (by omega) (by omega) wg)
  have ft:List.take n x=x:=List.take_of_length_le (by omega)
  have wl:=words_len (n:=n) C.fq (G.drop (i+1)) (vadd (fadd q) x (vmul (fmul q) ((0:Nat):Int) (G.getD i [])))
  rw [drop_pow hi] at ho
  have tp:=tail_pow (a:=0) (D:=q^(G.drop (i+1)).length) (show 0<q by omega)
  rw [Nat.sub_zero] at tp
  obtain ⟨y',e3⟩:=L121_5_2_spec1 C hi R hx f (0+1) (vadd (fadd q) x (vmul (fmul q) ((0:Nat):Int) (G.getD i []))) (words q (fadd q) (fmul q) (G.drop (i+1)) (vadd (fadd q) x (vmul (fmul q) ((0:Nat):Int) (G.getD i [])))) (by omega) (by omega) wv.1 (by rw [wl];omega)
  refine ⟨y',fun {τ} κ=>?_⟩
  rw [runE_succ]
  show L121_5_2.s0 R _ _ _=_
  unfold L121_5_2.s0
  simp only [g_,Int.toNat_natCast,Nat.mul_one,Nat.zero_add,List.drop_zero]
  rw [br_of (by simp;omega),ft,ck_of (by simp;omega),ck_of (by simp;omega),ck_of (by simp;omega)]
  have sp:=S94_1_spec C.fq (by omega) wg hx (a:=((0:Nat):Int)) (by omega) (by omega) (τ:=τ)
  rw [show S94_1 [.I (fp q),.I (fe q),.N (fm q).length,.L (fm q),.N n,.I 0,.N (G.getD i []).length,.L (G.getD i []),.L x]=fun (k:Nat→LS_→Option τ)=>k 0 [.L (vadd (fadd q) x (vmul (fmul q) ((0:Nat):Int) (G.getD i [])))] from funext sp]
  simp only [sw_zero,gL_zero]
  rw [wsucc (j:=i) (by omega),hR _ wv]
  simp only [g_,sw_zero]
  rw [br_no (b:=!true) rfl,show wr .i64 ((0:Int)+1)=((0+1:Nat):Int) from wsucc (j:=0) (by omega),tailw_step (show 0<q by omega)]
  exact e3 κ
theorem S121_2_D {q n:Nat} {G:List (List Int)} (C:Lc q n G):∀ (d i m:Nat) (x:List Int),i+d=G.length→d<m→Wd q n x→q^(G.drop i).length≤2^30 →
  ∀ {τ:Type} (k:Nat→LS_→Option τ),(S121_2.D m).b [.I i,.N n,.L x,.I q,.I n,.N G.length,.LL G,.I (fp q),.I (fe q),.N (fm q).length,.L (fm q),.I q,.I n,.N G.length,.LL G,.I 0,.I 0,.I q,.I n,.N G.length,.LL G,.I 0,.I 0,.B false,.I q,.I n,.N G.length,.LL G,.I q,.I n,.N G.length,.LL G] k=k 0 [.B true,.L x,.I q,.I n,.N G.length,.LL G,.I (fp q),.I (fe q),.N (fm q).length,.L (fm q),.I q,.I n,.N G.length,.LL G,.I 0,.I 0,.I q,.I n,.N G.length,.LL G,.I 0,.I 0,.B false,.I q,.I n,.N G.length,.LL G,.I q,.I n,.N G.length,.LL G,.N (words q (fadd q) (fmul q) (G.drop i) x).length,.LL (words q (fadd q) (fmul q) (G.drop i) x)]
 | d,i,0,x,h1,h2,hx,ho,τ,k=>by omega
 | 0,i,m+1,x,h1,h2,hx,ho,τ,k=>by
  have n0:=C.n0
  have n1:=C.n1
  have xl:=hx.1
  have hi:i=G.length:=by omega
  subst hi
  rw [List.drop_length] at ho ⊢
  show S121_2.body (S121_2.D m) _ _=_
  unfold S121_2.body
  simp only [g_,Int.toNat_natCast,Nat.mul_one,Nat.zero_add,List.drop_zero]
  have ft:List.take n x=x:=List.take_of_length_le (by omega)
  rw [br_of (by simp),ft,ck_of (by simp;omega),F71_spec (by omega) (by omega),xl]
  simp only [sw_zero,gN_zero,gL_succ,gL_zero,List.length_nil,Nat.pow_zero] at ho ⊢
  rw [ft,ck_of (by simp;omega)]
  rfl
 | d+1,i,m+1,x,h1,h2,hx,ho,τ,k=>by
  have hfu:=fuel_le
  have n0:=C.n0
  have n1:=C.n1
  have xl:=hx.1
  have hi:i<G.length:=by omega
  have hqq:=qs_lt C.fq
  have ft:List.take n x=x:=List.take_of_length_le (by omega)
  obtain ⟨f,hfe⟩:∃ f,fuel=f+1:=⟨fuel-1,by omega⟩
  have hp:q^(G.drop (i+1)).length≤q^(G.drop i).length:=by rw [drop_pow hi];exact Nat.le_mul_of_pos_left _ (by omega)
  obtain ⟨y',h⟩:=L121_5_2_spec C hi (S121_2.D m) (fun x hx=>fun {τ} k=>S121_2_D C d (i+1) m x (by omega) (by omega) hx (by omega) k) hx ho f (by omega)
  rw [tailw_zero hi]
  show S121_2.body (S121_2.D m) _ _=_
  unfold S121_2.body
  simp only [g_,Int.toNat_natCast,Nat.mul_one,Nat.zero_add,List.drop_zero]
  rw [br_no (by simp;omega),ft,ck_of (by simp;omega),F71_spec (by omega) (by omega),xl]
  simp only [sw_zero,gN_zero,gL_succ,gL_zero]
  unfold L121_5_2.b
  rw [hfe]
  refine (h _).trans ?_
  simp only [g_,sw_three,sw_two,sw_one,sw_zero]
theorem F64_spec {q n:Nat} {G:List (List Int)} (h:Cd q n G) {τ:Type} (k:Nat→LS_→Option τ):F64 [.I q,.I n,.LL G] k =
  k 1 [.N (words q (fadd q) (fmul q) G (List.replicate n 0)).length,.LL (words q (fadd q) (fmul q) G (List.replicate n 0))]:=by
 have hfu:=fuel_le
 have hqq:=qs_lt h.fq
 have n0:=h.n0
 have n1:=h.n1
 have hl:=h.lc.len
 have hc:=h.count
 unfold F64
 simp only [g_]
 rw [ck_of (by simp),F90_spec h]
 simp only [sw_zero,gI_zero]
 rw [br_no (by rfl),T81_spec h.fq]
 simp only [g_,sw_zero,Int.toNat_natCast]
 rw [ck_of (by simp;omega)]
 unfold S121_2
 refine (S121_2_D h.lc G.length 0 fuel (List.replicate n 0) (by omega) (by omega) (Wd.zeros (by omega)) (by rw [List.drop_zero];omega) _).trans ?_
 simp only [g_,sw_zero,List.drop_zero]
def T33 {τ:Type} (l:LS_) (k:Nat→LS_→Option τ):Option τ:=wrapB F33.E (.v pCode) l k
def T33.E:Ent P:=F33.E.wrap (.v pCode)
end
end Go.Proofs.Ytbpjicbpcfkpfaa.Ai
namespace Go.Proofs.Ytbpjicbpcfkpfaa.Ai
open Go Ma Go.RowKit
noncomputable section
def chkT:Option Ans→Bool
 | some ⟨.bool b,[]⟩=>b
 | _=>false
theorem chkT_ok {o:Option Ans} (h:chkT o=true):o=some ⟨.bool true,[]⟩:=by
 unfold chkT at h
 split at h
 ·subst h;rfl
 ·cases h
theorem t34:chkT (runC P Cf [F127.E 64,T103.E,T104.E,T83.E,T116.E] 60 34 [])=true:=by kernel_rfl
def T34 {τ:Type} (l:LS_) (k:Nat→LS_→Option τ):Option τ:=k 0 [.B true]
def T34.E:Ent P:=⟨34,[],[PA.mk (PV3.v pB) []],fun l k=>T34 l k,fun ls κ r h=>⟨_,runC_ok cfgOk (chkT_ok t34),h⟩⟩
end
end Go.Proofs.Ytbpjicbpcfkpfaa.Ai
namespace Go.Proofs.Ytbpjicbpcfkpfaa.Ai
open Go Ma
noncomputable section
def isRefA:Ans→Bool
 | ⟨.tup [.agg [_,_,.ref _ _ _ _ _],_],_⟩=>true
 | _=>false
def sh81:List PA:=[⟨.tup [.agg [.int .i64,.int .i64,.ref 0 (some 0) (some 0) none 1],.v .bool],[.c (.i .i64)]⟩]
def V81 {τ:Type} (l:LS_) (k:Nat→LS_→Option τ):Option τ:=F81 l fun j m=>sw (k 0 m) (fun _=>none) j
def V81.E:Ent P:=⟨81,[pI],sh81,fun l k=>V81 l k,fun ls κ r h=>by
 have e:(fun (j:Nat) (l:LS_)=>sel F81.E.sh (fun s=>Bool.rec (motive:=fun _=>Option _) none (κ (fA s l)) (isRefA (fA s l))) j)=fun (j:Nat) (m:LS_)=>sw (sel sh81 (fun s=>κ (fA s m)) 0) (fun _=>none) j:=by
  funext j l
  match j with
  | 0=>rfl
  | 1=>rfl
  | j+2=>rfl
 have h2:F81.E.b ls (fun j l=>sel F81.E.sh (fun s=>Bool.rec (motive:=fun _=>Option _) none (κ (fA s l)) (isRefA (fA s l))) j)=some r:=by
  rw [e]
  exact h
 obtain ⟨x,h3,h4⟩:=F81.E.ok ls (fun x=>Bool.rec (motive:=fun _=>Option _) none (κ x) (isRefA x)) r h2
 cases hb:isRefA x with
 | false=>simp only [hb] at h4;cases h4
 | true=>simp only [hb] at h4;exact ⟨x,h3,h4⟩⟩
def T31 {τ:Type} (l:LS_) (k:Nat→LS_→Option τ):Option τ:=F31 l k
def T31.E:Ent P:=F31.E
def T42 {τ:Type} (l:LS_) (k:Nat→LS_→Option τ):Option τ:=wrapB F42.E (.tup [pR,pI]) l k
def T42.E:Ent P:=F42.E.wrap (.tup [pR,pI])
def T64 {τ:Type} (l:LS_) (k:Nat→LS_→Option τ):Option τ:=wrapB F64.E (.tup [pM,pI]) l k
def T64.E:Ent P:=F64.E.wrap (.tup [pM,pI])
theorem hist_len {n:Nat}:∀ (L:List (List Int)) (s:List Int),(L.foldl (cnt1 n) s).length=s.length
 | [],s=>rfl
 | y::L,s=>by rw [List.foldl_cons,hist_len L];unfold cnt1;rw [List.length_set]
def hist (q n:Nat) (G:List (List Int)):List Int:=(words q (fadd q) (fmul q) G (List.replicate n 0)).foldl (cnt1 n) (List.replicate (n+1) 0)
theorem T42_spec {q n:Nat} {G:List (List Int)} (h:Cd q n G) {τ:Type} (k:Nat→LS_→Option τ):T42 [.I q,.I n,.LL G] k=k 0 [.L (hist q n G),.I 0]:=by
 have h2:=fun {τ:Type} (κ:Nat→LS_→Option τ)=>F42_spec h κ
 have hl:(hist q n G).length=n+1:=by unfold hist;rw [hist_len];simp
 change ∀ {τ:Type} (κ:Nat→LS_→Option τ),F42 [.I q,.I n,.LL G] κ=κ 1 [.N (n+1),.L (hist q n G)] at h2
 generalize hist q n G=M at h2 hl ⊢
 rw [←hl] at h2
 have:=wrap_of (e:=F42.E) (p:=.tup [pR,pI]) (j:=1) (l2:=[.N M.length,.L M]) (c:=(true&&(true&&true))&&(true&&(true&&(decide (M.length=(List.take (M.length*1) (List.drop 0 M)).length)&&(true&&true))))) (ls':=[.L (List.take (M.length*1) (List.drop 0 M)),.I 0]) (by intro τ κ;kernel_rfl) (by simp) (k:=k) (fun κ=>h2 κ)
 rw [Nat.mul_one,List.drop_zero,List.take_length] at this
 exact this
theorem T64_spec {q n:Nat} {G:List (List Int)} (h:Cd q n G) {τ:Type} (k:Nat→LS_→Option τ):T64 [.I q,.I n,.LL G] k=k 0 [.LL (words q (fadd q) (fmul q) G (List.replicate n 0)),.I 0]:=by
 have h2:=fun {τ:Type} (κ:Nat→LS_→Option τ)=>F64_spec h κ
 generalize words q (fadd q) (fmul q) G (List.replicate n 0)=M at h2 ⊢
 have:=wrap_of (e:=F64.E) (p:=.tup [pM,pI]) (j:=1) (l2:=[.N M.length,.LL M]) (c:=(true&&(true&&true))&&(true&&(true&&(decide (M.length=(List.take (M.length*1) (List.drop 0 M)).length)&&(true&&true))))) (ls':=[.LL (List.take (M.length*1) (List.drop 0 M)),.I 0]) (by intro τ κ;kernel_rfl) (by simp) (k:=k) (fun κ=>h2 κ)
 rw [Nat.mul_one,List.drop_zero,List.take_length] at this
 exact this
end
end Go.Proofs.Ytbpjicbpcfkpfaa.Ai
namespace Go.Proofs.Ytbpjicbpcfkpfaa.Ai
open Go Go.RowKit
noncomputable section
variable {τ:Type} (t:Nat) (nx ex:Nat→LS_→Option τ) (l:LS_) (k κ:Nat→LS_→Option τ)
def L41_5.H:LHead:=⟨false,true,0,167941,167941,46,12,0,[(PS.mk (us 1 ((pp 0)::nS::qM::us 1 (pI::us 24 []))) [(oG [pI,pI,qM])])],[(Out.ret,(PS.mk (us 2 (nS::qM::us 26 [])) [])),((Out.exit 0),(PS.mk (us 2 (nS::qM::us 26 [])) []))]⟩
def L41_5.O:Orc P:=⟨[T31.E],[],[],40⟩
def L41_5.s0:Option τ :=
 br (ltI (gI l 2) (gN l 0))
 (ck (((leI 0 (gI l 2))&&(ltI (gI l 2) (gN l 0)))&&true)
 (ck (ltN ((Int.toNat (gI l 2))*1) (List.length (gLL l 1)))
 (ck ((eqM (List.length (List.getD (gLL l 1) ((Int.toNat (gI l 2))*1) [])) (List.length (List.getD (gLL l 1) ((Int.toNat (gI l 2))*1) [])))&&true)
 (T31 [.I (gI l 3),.I (gI l 4),.L (List.getD (gLL l 1) ((Int.toNat (gI l 2))*1) [])]
 (fun j A=>(sw (br (!(gB A 0))
 (ex 0 [.N (gN l 0),.LL (gLL l 1)])
 (nx 0 [.N (gN l 0),.LL (gLL l 1),.I (wr .i64 ((gI l 2)+1)),.I (gI l 3),.I (gI l 4),.N (gN l 5),.LL (gLL l 6)]))
 (fun _=>none)) j)))))
 (ex 1 [.N (gN l 0),.LL (gLL l 1)])
theorem L41_5.e0:LEq L41_5.O L41_5.H 0 L41_5.s0:=by intro τ next κ l;kernel_rfl
def L41_5:LStep P Cf:=LStep.mk1 (by decide) L41_5.e0
def L41_5.b:Option τ:=runE L41_5 fuel κ t l
def L41_5.E:LEnt P:=LStep.E L41_5
def F41.ps:List PV2:=[pCode]
def F41.sh:List PA:=[(PA.mk (PV3.v nS) []),(PA.mk (PV3.v qM) [])]
def F41.O:Orc P:=⟨[T64.E],[L41_5.E],[],40⟩
def F41:Option τ :=
 ck (((eqM (List.length (gLL l 2)) (List.length (gLL l 2)))&&true)&&true)
 (T64 [.I (gI l 0),.I (gI l 1),.LL (gLL l 2)]
 (fun j A=>(sw (br ((gI A 1) != 0)
 (k 0 [])
 (L41_5.b 0 [.N (List.length (gLL A 0)),.LL (gLL A 0),.I 0,.I (gI l 0),.I (gI l 1),.N (List.length (gLL l 2)),.LL (gLL l 2)]
 (fun j B=>(sw (k 0 [])
 (sw (k 1 [.N (gN B 0),.LL (gLL B 1)])
 (fun _=>none))) j)))
 (fun _=>none)) j))
theorem F41.eq:FEq F41.O 41 F41.ps F41.sh F41:=by intro τ l κ;kernel_rfl
def F41.E:Ent P:=mkF F41.eq
def F43.ps:List PV2:=[pCode]
def F43.sh:List PA:=[(PA.mk (PV3.v pI) [])]
def F43.O:Orc P:=⟨[T50.E],[],[],40⟩
def F43:Option τ :=
 ck (((eqM (List.length (gLL l 2)) (List.length (gLL l 2)))&&true)&&true)
 (T50 [.I (gI l 0),.I (gI l 1),.LL (gLL l 2)]
 (fun j A=>(sw (br ((gI A 1) != 0)
 (k 0 [.I (-1)])
 (k 0 [.I (gI A 0)]))
 (fun _=>none)) j))
theorem F43.eq:FEq F43.O 43 F43.ps F43.sh F43:=by intro τ l κ;kernel_rfl
def F43.E:Ent P:=mkF F43.eq
end
end Go.Proofs.Ytbpjicbpcfkpfaa.Ai
namespace Go.Proofs.Ytbpjicbpcfkpfaa.Ai
open Go Ma
noncomputable section
theorem raw13 {ps:List PV1} {ls:LS_} (h:okLs (.int .u8::.int .u8::.int .u8::.arr (.i .u8)::ps) ls) :
  ∃ Q N K L ls',ls=.I Q::.I N::.I K::.L L::ls'∧(0≤Q∧Q<256)∧(0≤N∧N<256)∧(0≤K∧K<256)∧Bytes L∧okLs ps ls':=by
 obtain ⟨x0,l0,rfl,a0,g0⟩:=okLs_cons h
 obtain ⟨Q,rfl,h1⟩:=ok_int a0
 obtain ⟨x1,l1,rfl,a1,g1⟩:=okLs_cons g0
 obtain ⟨N,rfl,h2⟩:=ok_int a1
 obtain ⟨x2,l2,rfl,a2,g2⟩:=okLs_cons g1
 obtain ⟨K,rfl,h3⟩:=ok_int a2
 obtain ⟨x3,l3,rfl,a3,g3⟩:=okLs_cons g2
 obtain ⟨L,rfl,h4⟩:=ok_bytes a3
 exact ⟨Q,N,K,L,l3,rfl,wf_u8 h1,wf_u8 h2,wf_u8 h3,h4,g3⟩
theorem ham_succ (a b:List Int) (k:Nat):ham (k+1) a b=ham k a b+(if b.getD k 0=a.getD k 0 then 0 else 1):=by
 unfold ham
 rw [far_succ,Nat.zero_add]
 by_cases h:b.getD k 0=a.getD k 0
 ·rw [h];simp
 ·have:(b.getD k 0 != a.getD k 0)=true:=by simpa using h
  rw [this,if_neg h];rfl
theorem L44_3_spec {a b:List Int} (hl:b.length=a.length) (hs:a.length<2^60) {τ:Type} (κ:Nat→LS_→Option τ):∀ (f j:Nat),j≤a.length→a.length<f+j →
  runE L44_3 f κ 0 [.N a.length,.L a,.N b.length,.L b,.I (ham j a b:Nat),.I j]=κ 0 [.I (ham a.length a b:Nat)]
 | 0,j,h1,h2=>by omega
 | f+1,j,h1,h2=>by
  have hb:ham j a b≤j:=far_le _ _ _ _ _
  rw [runE_succ]
  show L44_3.s0 _ _ _=_
  unfold L44_3.s0
  simp only [g_,Int.toNat_natCast,Nat.mul_one]
  by_cases hj:j<a.length
  ·have ih:=L44_3_spec hl hs κ f (j+1) (by omega) (by omega)
   rw [ham_succ] at ih
   rw [br_of (by simp;omega),ck_of (by simp;omega),ck_of (by simp;omega),ck_of (by simp;omega),ck_of (by simp;omega),wsucc (j:=j) (by omega)]
   by_cases h:b.getD j 0=a.getD j 0
   ·rw [if_pos h,Nat.add_zero] at ih
    rw [br_no (by rw [h];simp)]
    exact ih
   ·rw [if_neg h] at ih
    rw [br_of (b:=a.getD j 0 != b.getD j 0) (by rw [bne_iff_ne];exact fun e=>h e.symm),wsucc (j:=ham j a b) (by omega)]
    exact ih
  ·have:j=a.length:=by omega
   subst this
   rw [br_no (by simp)]
theorem F44_spec {a b:List Int} (hl:b.length=a.length) (hs:a.length<2^60) {τ:Type} (k:Nat→LS_→Option τ):F44 [.L a,.L b] k=k 0 [.I (ham a.length a b:Nat)]:=by
 have hfu:=fuel_le
 unfold F44 L44_3.b
 simp only [gL_zero,gL_succ]
 refine (L44_3_spec hl hs _ fuel 0 (by omega) (by omega)).trans ?_
 simp only [sw_zero,gI_zero]
def T44 {τ:Type} (l:LS_) (k:Nat→LS_→Option τ):Option τ:=F44 l k
def T44.E:Ent P:=F44.E
def T43 {τ:Type} (l:LS_) (k:Nat→LS_→Option τ):Option τ:=F43 l k
def T43.E:Ent P:=F43.E
def T41 {τ:Type} (l:LS_) (k:Nat→LS_→Option τ):Option τ:=wrapB F41.E (.v pM) l k
def T41.E:Ent P:=F41.E.wrap (.v pM)
theorem T43_spec {q n:Nat} {G:List (List Int)} (h:Cd q n G) {τ:Type} (k:Nat→LS_→Option τ):T43 [.I q,.I n,.LL G] k=k 0 [.I (if G.length=0 then -1 else ((minw n (words q (fadd q) (fmul q) G (List.replicate n 0)) n:Nat):Int))]:=by
 unfold T43 F43
 simp only [g_]
 rw [ck_of (by simp),T50_spec h]
 by_cases hg:G.length=0
 ·rw [if_pos hg,if_pos hg]
  simp only [sw_zero,gI_zero,gI_succ]
  rw [br_of (by rfl)]
 ·rw [if_neg hg,if_neg hg]
  simp only [sw_zero,gI_zero,gI_succ]
  rw [br_no (by rfl)]
theorem L41_5_spec {q n:Nat} (G:List (List Int)) {W:List (List Int)} (hW:∀ y∈W,Wd q n y) (hn:n<2^60) (hs:W.length<2^60) {τ:Type} (κ:Nat→LS_→Option τ):∀ (f j:Nat),j≤W.length→W.length<f+j →
  runE L41_5 f κ 0 [.N W.length,.LL W,.I j,.I q,.I n,.N G.length,.LL G]=κ 1 [.N W.length,.LL W]
 | 0,j,h1,h2=>by omega
 | f+1,j,h1,h2=>by
  rw [runE_succ]
  show L41_5.s0 _ _ _=_
  unfold L41_5.s0
  simp only [g_,Int.toNat_natCast,Nat.mul_one]
  by_cases hj:j<W.length
  ·have hy:W.getD j []∈W:=by
    rw [List.getD_eq_getElem?_getD,List.getElem?_eq_getElem hj]
    exact List.getElem_mem hj
   have wy:=hW _ hy
   have wl:=wy.1
   rw [br_of (by simp;omega),ck_of (by simp;omega),ck_of (by simp;omega)]
   generalize W.getD j []=y at wy wl ⊢
   unfold T31
   rw [ck_of (by simp),F31_spec _ _ (by omega),isWord_wd wy]
   simp only [sw_zero,gB_zero]
   rw [br_no (b:=!true) rfl,wsucc (j:=j) (by omega)]
   exact L41_5_spec G hW hn hs κ f (j+1) (by omega) (by omega)
  ·rw [br_no (by simp;omega)]
theorem T41_spec {q n:Nat} {G:List (List Int)} (h:Cd q n G) {τ:Type} (k:Nat→LS_→Option τ):T41 [.I q,.I n,.LL G] k=k 0 [.LL (words q (fadd q) (fmul q) G (List.replicate n 0))]:=by
 have hfu:=fuel_le
 have hc:=h.count
 have n1:=h.n1
 have hqq:=qs_lt h.fq
 have hW:=words_wd (fld q h.fq) G _ h.rows.wd (Wd.zeros (q:=q) (n:=n) (by omega))
 have hl:=words_len (n:=n) h.fq G (List.replicate n 0)
 have h2:∀ {τ:Type} (κ:Nat→LS_→Option τ),F41 [.I q,.I n,.LL G] κ=κ 1 [.N (words q (fadd q) (fmul q) G (List.replicate n 0)).length,.LL (words q (fadd q) (fmul q) G (List.replicate n 0))]:=fun {τ} κ=>by
  unfold F41
  simp only [g_]
  rw [ck_of (by simp),T64_spec h]
  simp only [sw_zero,gI_succ,gI_zero,gLL_zero]
  rw [br_no (by rfl)]
  unfold L41_5.b
  refine (L41_5_spec G hW (by omega) (by omega) _ fuel 0 (by omega) (by omega)).trans ?_
  simp only [sw_one,sw_zero,gN_zero,gLL_succ,gLL_zero]
 generalize words q (fadd q) (fmul q) G (List.replicate n 0)=M at h2 ⊢
 exact wrap_of (e:=F41.E) (p:=.v pM) (j:=1) (l2:=[.N M.length,.LL M]) (c:=(true&&(true&&(true&&decide (M.length=M.length))))) (ls':=[.LL M]) (by intro τ κ;kernel_rfl) (by simp) (k:=k) (fun κ=>h2 κ)
end
end Go.Proofs.Ytbpjicbpcfkpfaa.Ai
namespace Go.Proofs.Ytbpjicbpcfkpfaa.Ai
open Go Go.RowKit
noncomputable section
variable {τ:Type} (t:Nat) (nx ex:Nat→LS_→Option τ) (l:LS_) (k κ:Nat→LS_→Option τ)
def L9_11.H:LHead:=⟨false,true,0,36875,36875,3554,1506,0,[(PS.mk (us 1 ((pK IntKind.u8)::us 3 (pB::(pp 0)::qM::qR::us 1 (pI::pI::us 113 [])))) [(oG [pI,pI,qM])])],[((Out.exit 0),(PS.mk (us 1 ((pK IntKind.u8)::us 3 (pB::(pp 0)::qM::qR::us 1 (pI::us 114 [])))) [(oG [pI,pI,qM])]))]⟩
def L9_11.O:Orc P:=⟨[],[],[],40⟩
def L9_11.s0:Option τ :=
 br (leI (gI l 7) (gI l 9))
 (ck (((leI 0 (gI l 7))&&(ltI (gI l 7) (gN l 4)))&&true)
 (ck (ltN ((Int.toNat (gI l 7))*1) (List.length (gL l 5)))
 (nx 0 [.I (gI l 0),.B (gB l 1),.N (gN l 2),.LL (gLL l 3),.N (gN l 4),.L (gL l 5),.I (wr .i64 ((gI l 6)+(List.getD (gL l 5) ((Int.toNat (gI l 7))*1) 0))),.I (wr .i64 ((gI l 7)+1)),.I (gI l 8),.I (gI l 9),.N (gN l 10),.LL (gLL l 11)])))
 (ex 0 [.I (gI l 0),.B (gB l 1),.N (gN l 2),.LL (gLL l 3),.N (gN l 4),.L (gL l 5),.I (gI l 6),.I (gI l 8),.I (gI l 9),.N (gN l 10),.LL (gLL l 11)])
theorem L9_11.e0:LEq L9_11.O L9_11.H 0 L9_11.s0:=by intro τ next κ l;kernel_rfl
def L9_11:LStep P Cf:=LStep.mk1 (by decide) L9_11.e0
def L9_11.b:Option τ:=runE L9_11 fuel κ t l
def L9_11.E:LEnt P:=LStep.E L9_11
def L9_19.H:LHead:=⟨false,true,0,36883,36883,61872,20784,0,[(PS.mk (us 5 (pB::us 1 (qM::qR::us 3 (pI::qR::pI::pI::us 109 [])))) [])],[(Out.ret,(PS.mk (us 4 (pB::pB::us 2 (qR::us 3 (pI::us 1 (pI::us 110 []))))) [])),((Out.exit 2),(PS.mk (us 5 (pB::us 2 (qR::us 3 (pI::us 1 (pI::us 110 []))))) []))]⟩
def L9_19.O:Orc P:=⟨[T44.E],[],[],40⟩
def L9_19.s0:Option τ :=
 br (ltI (gI l 9) (gN l 1))
 (ck (((leI 0 (gI l 9))&&(ltI (gI l 9) (gN l 1)))&&true)
 (ck (ltN ((Int.toNat (gI l 9))*1) (List.length (gLL l 2)))
 (ck ((eqM (gN l 6) (List.length (gL l 7)))&&((eqM (List.length (List.getD (gLL l 2) ((Int.toNat (gI l 9))*1) [])) (List.length (List.getD (gLL l 2) ((Int.toNat (gI l 9))*1) [])))&&true))
 (T44 [.L (gL l 7),.L (List.getD (gLL l 2) ((Int.toNat (gI l 9))*1) [])]
 (fun j A=>(sw (br (gtI (gI A 0) 0)
 (br (ltI (gI A 0) (gI l 5))
 (ex 0 [.B false,.B (gB l 0),.N (gN l 3),.L (gL l 4),.I (gI l 5),.I (gI l 8)])
 (br ((gI A 0)==(gI l 5))
 (nx 0 [.B (gB l 0),.N (gN l 1),.LL (gLL l 2),.N (gN l 3),.L (gL l 4),.I (gI l 5),.N (gN l 6),.L (gL l 7),.I (wr .i64 ((gI l 8)+1)),.I (wr .i64 ((gI l 9)+1))])
 (nx 0 [.B (gB l 0),.N (gN l 1),.LL (gLL l 2),.N (gN l 3),.L (gL l 4),.I (gI l 5),.N (gN l 6),.L (gL l 7),.I (gI l 8),.I (wr .i64 ((gI l 9)+1))])))
 (br ((gI A 0)==(gI l 5))
 (nx 0 [.B (gB l 0),.N (gN l 1),.LL (gLL l 2),.N (gN l 3),.L (gL l 4),.I (gI l 5),.N (gN l 6),.L (gL l 7),.I (wr .i64 ((gI l 8)+1)),.I (wr .i64 ((gI l 9)+1))])
 (nx 0 [.B (gB l 0),.N (gN l 1),.LL (gLL l 2),.N (gN l 3),.L (gL l 4),.I (gI l 5),.N (gN l 6),.L (gL l 7),.I (gI l 8),.I (wr .i64 ((gI l 9)+1))])))
 (fun _=>none)) j)))))
 (ex 1 [.B (gB l 0),.N (gN l 3),.L (gL l 4),.I (gI l 5),.I (gI l 8)])
theorem L9_19.e0:LEq L9_19.O L9_19.H 0 L9_19.s0:=by intro τ next κ l;kernel_rfl
def L9_19:LStep P Cf:=LStep.mk1 (by decide) L9_19.e0
def L9_19.b:Option τ:=runE L9_19 fuel κ t l
def L9_19.E:LEnt P:=LStep.E L9_19
def F9.ps:List PV2:=[pRaw13,(pK IntKind.u8)]
def F9.sh:List PA:=[(PA.mk (PV3.v pB) [])]
def F9.O:Orc P:=⟨[T34.E,T35.E,T41.E,T42.E,T43.E],[L9_11.E,L9_19.E],[],40⟩
def F9:Option τ :=
 T34 []
 (fun j A=>(sw (br (!(gB A 0))
 (k 0 [.B false])
 (ck (((eqM (List.length (gL l 3)) (List.length (gL l 3)))&&true)&&true)
 (T35 [.I (gI l 0),.I (gI l 1),.I (gI l 2),.L (gL l 3)]
 (fun j B=>(sw (ck (((eqM (List.length (gLL B 2)) (List.length (gLL B 2)))&&true)&&true)
 (T41 [.I (gI B 0),.I (gI B 1),.LL (gLL B 2)]
 (fun j C=>(sw (ck (((eqM (List.length (gLL B 2)) (List.length (gLL B 2)))&&true)&&true)
 (T42 [.I (gI B 0),.I (gI B 1),.LL (gLL B 2)]
 (fun j D=>(sw (br ((gI D 1) != 0)
 (k 0 [.B false])
 (br ((((List.length (gLL C 0)):Nat):Int)==0)
 (k 0 [.B false])
 (br ((((List.length (gL D 0)):Nat):Int) != (wr .i64 ((gI B 1)+1)))
 (k 0 [.B false])
 (ck ((ltI 0 (List.length (gL D 0)))&&true)
 (ck (ltN 0 (List.length (gL D 0)))
 (br ((List.getD (gL D 0) 0 0) != 1)
 (k 0 [.B false])
 (L9_11.b 0 [.I (gI l 4),.B (gB A 0),.N (List.length (gLL C 0)),.LL (gLL C 0),.N (List.length (gL D 0)),.L (gL D 0),.I 0,.I 0,.I (gI B 0),.I (gI B 1),.N (List.length (gLL B 2)),.LL (gLL B 2)]
 (fun j E=>(sw (ck (((eqM (gN E 9) (List.length (gLL E 10)))&&true)&&true)
 (T43 [.I (gI E 7),.I (gI E 8),.LL (gLL E 10)]
 (fun j F=>(sw (br ((gI E 6) != (((gN E 2):Nat):Int))
 (k 0 [.B false])
 (br (!(((gI F 0)==(-1))==((((gN E 2):Nat):Int)==1)))
 (k 0 [.B false])
 (ck (!((((gN E 2):Nat):Int)==0))
 (ck (((leI 0 (Int.tmod (wr .i64 (gI E 0)) (((gN E 2):Nat):Int)))&&(ltI (Int.tmod (wr .i64 (gI E 0)) (((gN E 2):Nat):Int)) (((gN E 2):Nat):Int)))&&true)
 (ck (ltN ((Int.toNat (Int.tmod (wr .i64 (gI E 0)) (((gN E 2):Nat):Int)))*1) (List.length (gLL E 3)))
 (L9_19.b 0 [.B (gB E 1),.N (gN E 2),.LL (gLL E 3),.N (gN E 4),.L (gL E 5),.I (gI F 0),.N (List.length (List.getD (gLL E 3) ((Int.toNat (Int.tmod (wr .i64 (gI E 0)) (((gN E 2):Nat):Int)))*1) [])),.L (List.getD (gLL E 3) ((Int.toNat (Int.tmod (wr .i64 (gI E 0)) (((gN E 2):Nat):Int)))*1) []),.I 0,.I 0]
 (fun j G=>(sw (k 0 [.B (gB G 0)])
 (sw (br ((gI G 3)==(-1))
 (k 0 [.B (gB G 0)])
 (br (gtI (gI G 4) 0)
 (ck (((leI 0 (gI G 3))&&(ltI (gI G 3) (gN G 1)))&&true)
 (ck (ltN ((Int.toNat (gI G 3))*1) (List.length (gL G 2)))
 (br ((gI G 4)==(List.getD (gL G 2) ((Int.toNat (gI G 3))*1) 0))
 (k 0 [.B (gB G 0)])
 (k 0 [.B false]))))
 (k 0 [.B false])))
 (fun _=>none))) j)))))))
 (fun _=>none)) j)))
 (fun _=>none)) j))))))))
 (fun _=>none)) j)))
 (fun _=>none)) j)))
 (fun _=>none)) j))))
 (fun _=>none)) j)
theorem F9.eq:FEq F9.O 9 F9.ps F9.sh F9:=by intro τ l κ;kernel_rfl
def F9.E:Ent P:=mkF F9.eq
end
end Go.Proofs.Ytbpjicbpcfkpfaa.Ai
namespace Go.Proofs.Ytbpjicbpcfkpfaa.Ai
open Go Ma
noncomputable section
theorem hist_at {q n k:Nat} {G:List (List Int)} (hk:k≤n):(hist q n G).getD k 0=((words q (fadd q) (fmul q) G (List.replicate n 0)).countP fun y=>wt n y==k:Nat):=by
 unfold hist
 rw [hist_get hk _ _ (by simp),List.getD_eq_getElem?_getD,List.getElem?_replicate,if_pos (by omega)]
 simp
theorem count_lt (n k:Nat):∀ W:List (List Int),(W.countP fun y=>decide (wt n y<k+1))=(W.countP fun y=>decide (wt n y<k))+W.countP fun y=>wt n y==k
 | []=>rfl
 | y::W=>by
  rw [List.countP_cons,List.countP_cons,List.countP_cons,count_lt n k W]
  by_cases h1:wt n y<k
  ·have h2:wt n y<k+1:=by omega
   have h3:(wt n y==k)=false:=by simp;omega
   rw [decide_eq_true h1,decide_eq_true h2,h3]
   simp
   omega
  ·by_cases h2:wt n y=k
   ·have h3:wt n y<k+1:=by omega
    have h4:(wt n y==k)=true:=by simpa using h2
    rw [decide_eq_false h1,decide_eq_true h3,h4]
    simp
    omega
   ·have h3:¬ wt n y<k+1:=by omega
    have h4:(wt n y==k)=false:=by simpa using h2
    rw [decide_eq_false h1,decide_eq_false h3,h4]
    simp
theorem L9_11_spec {q n:Nat} {G:List (List Int)} (hn:n≤24) {W:List (List Int)} (hW:W.length<2^30) {H:List Int} (hl:H.length=n+1) (hg:∀ k,k≤n→H.getD k 0=(W.countP fun y=>wt n y==k:Nat)) (I:Int) {τ:Type} (κ:Nat→LS_→Option τ):∀ (f k:Nat),k≤n+1→n+1<f+k →
  runE L9_11 f κ 0 [.I I,.B true,.N W.length,.LL W,.N H.length,.L H,.I (W.countP fun y=>decide (wt n y<k):Nat),.I k,.I q,.I n,.N G.length,.LL G]
   = κ 0 [.I I,.B true,.N W.length,.LL W,.N H.length,.L H,.I W.length,.I q,.I n,.N G.length,.LL G]
 | 0,k,h1,h2=>by omega
 | f+1,k,h1,h2=>by
  rw [runE_succ]
  show L9_11.s0 _ _ _=_
  unfold L9_11.s0
  simp only [g_,Int.toNat_natCast,Nat.mul_one]
  by_cases hk:k≤n
  ·have c1:=List.countP_le_length (p:=fun y=>decide (wt n y<k)) (l:=W)
   have c2:=List.countP_le_length (p:=fun y=>decide (wt n y<k+1)) (l:=W)
   have c3:=count_lt n k W
   have ih:=L9_11_spec (q:=q) (G:=G) hn hW hl hg I κ f (k+1) (by omega) (by omega)
   rw [br_of (by simp;omega),ck_of (by simp;omega),ck_of (by simp;omega),hg k hk,wsucc (j:=k) (by omega),wr64 (by omega) (by omega),show (((W.countP fun y=>decide (wt n y<k):Nat):Int)+((W.countP fun y=>wt n y==k:Nat):Int))=((W.countP fun y=>decide (wt n y<k+1):Nat):Int) by omega]
   exact ih
  ·have:k=n+1:=by omega
   subst this
   have e:(W.countP fun y=>decide (wt n y<n+1))=W.length:=List.countP_eq_length.2 fun y _=>by have:=wt_le n y;simp;omega
   rw [br_no (by simp;omega),e]
theorem L9_19_spec {n:Nat} (hn:n≤24) {W:List (List Int)} (hWl:W.length<2^30) (hW:∀ y∈W,y.length=n) {a:List Int} (ha:a.length=n) {d:Int} (hd:∀ y∈W,0<ham n a y→d≤(ham n a y:Nat)) (H:List Int) {τ:Type} (κ:Nat→LS_→Option τ):∀ (f j c:Nat),j≤W.length→W.length<f+j→c≤j →
  runE L9_19 f κ 0 [.B true,.N W.length,.LL W,.N H.length,.L H,.I d,.N n,.L a,.I c,.I j]
   = κ 1 [.B true,.N H.length,.L H,.I d,.I (c+((W.drop j).countP fun y=>decide (((ham n a y:Nat):Int)=d)):Nat)]
 | 0,j,c,h1,h2,h3=>by omega
 | f+1,j,c,h1,h2,h3=>by
  rw [runE_succ]
  show L9_19.s0 _ _ _=_
  unfold L9_19.s0
  simp only [g_,Int.toNat_natCast,Nat.mul_one]
  by_cases hj:j<W.length
  ·have hy:W.getD j []∈W:=by
    rw [List.getD_eq_getElem?_getD,List.getElem?_eq_getElem hj]
    exact List.getElem_mem hj
   have yl:=hW _ hy
   have yd:=hd _ hy
   rw [br_of (by simp;omega),ck_of (by simp;omega),ck_of (by simp;omega),drop_cons [] hj,List.countP_cons]
   generalize W.getD j []=y at yl yd ⊢
   unfold T44
   rw [ck_of (by simp;omega),F44_spec (by omega) (by omega),ha]
   simp only [sw_zero,gI_zero]
   rw [wsucc (j:=j) (by omega),wsucc (j:=c) (by omega)]
   have go:(br (((ham n a y:Nat):Int)==d)
     (runE L9_19 f κ 0 [.B true,.N W.length,.LL W,.N H.length,.L H,.I d,.N n,.L a,.I ((c+1:Nat):Int),.I ((j+1:Nat):Int)])
     (runE L9_19 f κ 0 [.B true,.N W.length,.LL W,.N H.length,.L H,.I d,.N n,.L a,.I c,.I ((j+1:Nat):Int)]))
     = κ 1 [.B true,.N H.length,.L H,.I d,.I (c+(((W.drop (j+1)).countP fun y=>decide (((ham n a y:Nat):Int)=d))+if decide (((ham n a y:Nat):Int)=d)=true then 1 else 0):Nat)]:=by
    by_cases e:((ham n a y:Nat):Int)=d
    ·rw [br_of (by simpa using e),L9_19_spec hn hWl hW ha hd H κ f (j+1) (c+1) (by omega) (by omega) (by omega),if_pos (by simpa using e)]
     generalize (W.drop (j+1)).countP (fun y=>decide (((ham n a y:Nat):Int)=d))=z
     rw [show c+1+z=c+(z+1) by omega]
    ·rw [br_no (by simpa using e),L9_19_spec hn hWl hW ha hd H κ f (j+1) c (by omega) (by omega) (by omega),if_neg (by simpa using e)]
     rfl
   by_cases h0:0<ham n a y
   ·rw [br_of (by simp;omega),br_no (by simp only [ltI_no];have:=yd h0;omega)]
    exact go
   ·rw [br_no (by simp only [gtI_no];omega)]
    exact go
  ·rw [br_no (by simp;omega),List.drop_eq_nil_of_le (show W.length≤j by omega)]
   rfl
theorem minw_some (n:Nat):∀ (L:List (List Int)) (m:Nat),minw n L m=m∨∃ y∈L,0<wt n y∧minw n L m=wt n y
 | [],m=>.inl rfl
 | y::L,m=>by
  have e:minw n (y::L) m=minw n L (if 0<wt n y then min m (wt n y) else m):=rfl
  rw [e]
  by_cases h:0<wt n y
  ·rw [if_pos h]
   rcases minw_some n L (min m (wt n y)) with h1 | ⟨z,hz,h2,h3⟩
   ·rcases Nat.le_total m (wt n y) with h4 | h4
    ·left;rw [h1];omega
    ·right;exact ⟨y,by simp,h,by rw [h1];omega⟩
   ·right;exact ⟨z,by simp [hz],h2,h3⟩
  ·rw [if_neg h]
   rcases minw_some n L m with h1 | ⟨z,hz,h2,h3⟩
   ·left;exact h1
   ·right;exact ⟨z,by simp [hz],h2,h3⟩
theorem ham_self (a:List Int):∀ k,ham k a a=0
 | 0=>rfl
 | k+1=>by rw [ham_succ,ham_self a k,if_pos rfl]
section
variable {q n:Nat} {G:List (List Int)}
theorem zero_word (h:Cd q n G):List.replicate n 0∈words q (fadd q) (fmul q) G (List.replicate n 0):=by
 have F:=fld q h.fq
 have q1:=qs_lt h.fq
 have go:∀ (G:List (List Int)),(∀ i,i<G.length→Wd q n (G.getD i []))→List.replicate n (0:Int)∈words q (fadd q) (fmul q) G (List.replicate n 0):=by
  intro G
  induction G with
  | nil=>intro _;unfold words;simp
  | cons g gs ih =>
   intro hG
   have wg:Wd q n g:=by simpa using hG 0 (by simp)
   unfold words
   refine List.mem_flatMap.2 ⟨0,by simp;omega,?_⟩
   rw [show (((0:Nat):Int))=(0:Int) from rfl,vadd_zero F wg (Wd.zeros (by omega))]
   exact ih fun i hi=>by simpa using hG (i+1) (by simpa using hi)
 exact go G h.rows.wd
theorem wt_zero (h:Cd q n G) {y:List Int} (hy:y∈words q (fadd q) (fmul q) G (List.replicate n 0)):wt n y=0↔y=List.replicate n 0:=by
 have wy:=words_wd (fld q h.fq) G _ h.rows.wd (Wd.zeros (q:=q) (n:=n) (by have:=qs_lt h.fq;omega)) y hy
 constructor
 ·intro e
  by_cases hne:y=List.replicate n 0
  ·exact hne
  ·have:=ham_pos (n:=n) (a:=List.replicate n 0) (by simp) wy.1 (fun e=>hne e.symm)
   unfold wt at e
   omega
 ·intro e
  rw [e]
  exact ham_self _ n
theorem hist_zero (h:Cd q n G):(hist q n G).getD 0 0=1:=by
 obtain ⟨piv,R⟩:=h.form
 rw [hist_at (Nat.zero_le n),List.countP_eq_length_filter,filter_one (words_nodup (fld q h.fq) R) (zero_word h) fun y hy=>by
  rw [beq_iff_eq];exact wt_zero h hy]
 rfl
theorem count_ham (h:Cd q n G) {a:List Int} (ha:a∈words q (fadd q) (fmul q) G (List.replicate n 0)) (d:Nat):((words q (fadd q) (fmul q) G (List.replicate n 0)).countP fun y=>decide (((ham n a y:Nat):Int)=(d:Int)))=(words q (fadd q) (fmul q) G (List.replicate n 0)).countP fun y=>wt n y==d:=by
 have F:=fld q h.fq
 have q1:=qs_lt h.fq
 have hz:=Wd.zeros (q:=q) (n:=n) (by omega)
 have hW:=words_wd F G _ h.rows.wd hz
 have wa:=hW a ha
 rw [←count_shift F (turn h.fq) G _ a _ h.rows.wd hz ha]
 refine List.countP_congr fun y hy=>?_
 have wy:=hW y hy
 have e:ham n a (vadd (fadd q) y a)=wt n y:=by
  have:=far_vadd F (fun _=>false) hz wy wa n (Nat.le_refl _)
  rw [zero_vadd F wa] at this
  exact this
 rw [e]
 simp
 omega
theorem dist_hit (h:Cd q n G) (hg:G.length≠0):0<((words q (fadd q) (fmul q) G (List.replicate n 0)).countP fun y=>wt n y==minw n (words q (fadd q) (fmul q) G (List.replicate n 0)) n):=by
 have q1:=qs_lt h.fq
 have hz:=zero_word h
 have hl:=words_len (n:=n) h.fq G (List.replicate n 0)
 obtain ⟨piv,R⟩:=h.form
 have nd:=words_nodup (fld q h.fq) R
 have hbig:1<(words q (fadd q) (fmul q) G (List.replicate n 0)).length:=by
  rw [hl]
  exact Nat.one_lt_pow hg q1.1
 rcases minw_some n (words q (fadd q) (fmul q) G (List.replicate n 0)) n with h1 | ⟨y,hy,h2,h3⟩
 ·obtain ⟨y,hy,hne⟩:∃ y∈words q (fadd q) (fmul q) G (List.replicate n 0),y≠List.replicate n 0:=by
   by_cases hex:∃ y∈words q (fadd q) (fmul q) G (List.replicate n 0),y≠List.replicate n 0
   ·exact hex
   ·exfalso
    have hall:∀ y∈words q (fadd q) (fmul q) G (List.replicate n 0),y=List.replicate n 0:=fun y hy=>by
     by_cases e:y=List.replicate n 0
     ·exact e
     ·exact absurd ⟨y,hy,e⟩ hex
    have:=filter_one (p:=fun _=>true) nd hz fun y hy=>⟨fun _=>hall y hy,fun _=>rfl⟩
    rw [List.filter_eq_self.2 (fun _ _=>rfl)] at this
    rw [this] at hbig
    simp at hbig
  refine List.countP_pos_iff.2 ⟨y,hy,?_⟩
  have hp:0<wt n y:=by
   rcases Nat.eq_zero_or_pos (wt n y) with e | e
   ·exact absurd ((wt_zero h hy).1 e) hne
   ·exact e
  have h4:=minw_all n _ n y hy hp
  have h5:=wt_le n y
  rw [beq_iff_eq]
  omega
 ·exact List.countP_pos_iff.2 ⟨y,hy,by rw [beq_iff_eq];exact h3.symm⟩
end
theorem F9_true {ls:LS_} (h:okLs [.int .u8,.int .u8,.int .u8,.arr (.i .u8),.int .u8] ls) {τ:Type} (k:Nat→LS_→Option τ):F9 ls k=k 0 [.B true]:=by
 have hfu:=fuel_le
 obtain ⟨Q,N,K,L,l1,rfl,hQ,hN,hK,hL,h1⟩:=raw13 h
 obtain ⟨x,l2,rfl,a1,h2⟩:=okLs_cons h1
 obtain ⟨I,rfl,b1⟩:=ok_int a1
 have hI:=wf_u8 b1
 obtain rfl:=okLs_nil h2
 obtain ⟨q,n,G,hc,hT⟩:=T35_spec hQ hN hK hL
 have n0:=hc.n0
 have n1:=hc.n1
 have hqq:=qs_lt hc.fq
 have F:=fld q hc.fq
 have hcnt:=hc.count
 have hl:=words_len (n:=n) hc.fq G (List.replicate n 0)
 have hW:=words_wd F G _ hc.rows.wd (Wd.zeros (q:=q) (n:=n) (by omega))
 have hpos:0<(words q (fadd q) (fmul q) G (List.replicate n 0)).length:=by rw [hl];exact Nat.pow_pos (by omega)
 have hhl:(hist q n G).length=n+1:=by unfold hist;rw [hist_len];simp
 have hh0:=hist_zero hc
 have hdm:=fun (a:List Int) (ha:a∈words q (fadd q) (fmul q) G (List.replicate n 0)) (y:List Int) (hy:y∈words q (fadd q) (fmul q) G (List.replicate n 0)) (hne:a≠y)=>minw_ham F (turn hc.fq) hc.rows.wd ha hy hne n
 have hcnt2:=fun (a:List Int) (ha:a∈words q (fadd q) (fmul q) G (List.replicate n 0)) (d:Nat)=>count_ham hc ha d
 have hhit:=fun hg=>dist_hit hc hg
 have hml:=minw_le n (words q (fadd q) (fmul q) G (List.replicate n 0)) n
 have hat:=hist_at (q:=q) (G:=G) hml
 have hga:=fun k (hk:k≤n)=>hist_at (q:=q) (G:=G) hk
 have ix:=tmod_in (a:=I) (b:=((words q (fadd q) (fmul q) G (List.replicate n 0)).length:Int)) hI.1 (by omega)
 unfold F9 T34
 simp only [g_,sw_zero]
 rw [br_no (b:=!true) rfl,ck_of (by simp),hT]
 simp only [g_,sw_zero]
 rw [ck_of (by simp),T41_spec hc]
 simp only [sw_zero,gLL_zero]
 rw [ck_of (by simp),T42_spec hc]
 simp only [sw_zero,gI_zero,gI_succ,gL_zero]
 generalize hWe:words q (fadd q) (fmul q) G (List.replicate n 0)=W at *
 generalize hist q n G=H at *
 rw [br_no (by rfl),br_no (by simp;intro e;rw [e] at hpos;simp at hpos),br_no (by rw [wsucc (j:=n) (by omega),hhl];simp),ck_of (by simp;omega),ck_of (by simp;omega),br_no (by rw [hh0];rfl)]
 unfold L9_11.b
 have e0:(W.countP fun y=>decide (wt n y<0))=0:=by simp
 have h11:=L9_11_spec (q:=q) (G:=G) (n:=n) (by omega) (W:=W) (by omega) hhl hga I (τ:=τ)
 refine (Eq.trans (by rw [e0];rfl) (h11 _ fuel 0 (by omega) (by omega))).trans ?_
 simp only [g_,sw_zero]
 rw [ck_of (by simp),T43_spec hc,hWe]
 simp only [sw_zero,gI_zero]
 obtain ⟨i,hi,hil⟩:∃ i:Nat,Int.tmod I (W.length:Int)=i∧i<W.length:=⟨(Int.tmod I (W.length:Int)).toNat,by omega,by omega⟩
 have ha:W.getD i []∈W:=by
  rw [List.getD_eq_getElem?_getD,List.getElem?_eq_getElem hil]
  exact List.getElem_mem _
 have wa:=(hW _ ha).1
 rw [br_no (by simp)]
 by_cases hg:G.length=0
 ·have hW1:W.length=1:=by rw [hl,hg];rfl
  rw [if_pos hg,br_no (by rw [hW1];rfl),ck_of (by simp;intro e;rw [e] at hpos;simp at hpos),wr64 (n:=I) (by omega) (by omega),hi,Int.toNat_natCast,Nat.mul_one,ck_of (by simp;omega),ck_of (by simp;omega)]
  unfold L9_19.b
  rw [wa]
  refine (L9_19_spec (by omega) (by omega) (fun y hy=>(hW y hy).1) wa (d:=-1) (fun y hy _=>by omega) H _ fuel 0 0 (by omega) (by omega) (by omega)).trans ?_
  simp only [g_,sw_one,sw_zero]
  rw [br_of (by rfl)]
 ·have hW2:1<W.length:=by rw [hl];exact Nat.one_lt_pow hg hqq.1
  have hit:=hhit hg
  rw [if_neg hg,br_no (by
   have e1:(((minw n W n:Nat):Int)==-1)=false:=by simp
   have e2:(((W.length:Nat):Int)==1)=false:=by simp;omega
   rw [e1,e2];rfl),ck_of (by simp;intro e;rw [e] at hpos;simp at hpos),wr64 (n:=I) (by omega) (by omega),hi,Int.toNat_natCast,Nat.mul_one,ck_of (by simp;omega),ck_of (by simp;omega)]
  unfold L9_19.b
  rw [wa]
  refine (L9_19_spec (by omega) (by omega) (fun y hy=>(hW y hy).1) wa (d:=((minw n W n:Nat):Int)) (fun y hy h0=>by
   have:=hdm _ ha y hy (fun e=>by rw [e,ham_self] at h0;omega)
   omega) H _ fuel 0 0 (by omega) (by omega) (by omega)).trans ?_
  rw [List.drop_zero,Nat.zero_add,hcnt2 _ ha]
  simp only [g_,sw_one,sw_zero,Int.toNat_natCast,Nat.mul_one]
  rw [br_no (by simp),br_of (by simp only [gtI_iff];omega),ck_of (by simp;omega),ck_of (by simp;omega),hat,br_of (by simp)]
theorem law9 (ls:LS_) (h:okLs ([PV2.agg [.int .u8,.int .u8,.int .u8,.arr (.i .u8)],PV2.v (.int .u8)].flatMap cells2) ls):CS P 9 (fL2 ls [PV2.agg [.int .u8,.int .u8,.int .u8,.arr (.i .u8)],PV2.v (.int .u8)] 0) ⟨.bool true,[]⟩ :=
 F_ok F9.eq ((F9_true h _).trans (by kernel_rfl))
end
end Go.Proofs.Ytbpjicbpcfkpfaa.Ai
