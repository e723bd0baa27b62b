/-
Part 8 of 8 of the texts for one claim: P23 Xf4 Wd Wf Xj P30 Wg P25 Wc Xf3 P26 Xi7 P29.
-/
import Derived.Test.YtbpjicbpcfkpfaaU7
set_option linter.unusedVariables false
set_option linter.unusedSimpArgs false
namespace Go.Proofs.Ytbpjicbpcfkpfaa.Ai
open Go Ma
noncomputable section
theorem okLs_cons {p:PV1} {ps:List PV1} {ls:LS_} (h:okLs (p::ps) ls):∃ x ls',ls=x::ls'∧okLeaf p x∧okLs ps ls':=by
 cases ls with
 | nil=>have:=h.1;simp at this
 | cons x ls' =>
  refine ⟨x,ls',rfl,h.2 0 (by simp),by have:=h.1;simpa using this,fun j hj=>?_⟩
  exact h.2 (j+1) (by simpa using hj)
theorem okLs_nil {ls:LS_} (h:okLs [] ls):ls=[]:=List.length_eq_zero_iff.1 h.1
theorem ok_int {k:IntKind} {x:Leaf} (h:okLeaf (.int k) x):∃ n,x=.I n∧wfI k n:=by
 unfold okLeaf at h
 split at h
 ·rename_i e;cases e
 ·rename_i k' n e;cases e;exact ⟨n,rfl,h⟩
 ·rename_i e;cases e
 ·rename_i e;cases e
 ·exact h.elim
theorem ok_arr {k:IntKind} {x:Leaf} (h:okLeaf (.arr (.i k)) x):∃ l,x=.L l∧l.length≤maxLen∧∀ n∈l,wfI k n:=by
 unfold okLeaf at h
 split at h
 ·rename_i e;cases e
 ·rename_i e;cases e
 ·rename_i k' l e;cases e;exact ⟨l,rfl,h.1,h.2⟩
 ·rename_i e;cases e
 ·exact h.elim
theorem wf_u8 {n:Int} (h:wfI .u8 n):0≤n∧n<256:=by
 unfold wfI at h
 simp [Lit.wf,IntKind.min,IntKind.max,IntKind.signed,IntKind.bits] at h
 omega
theorem wf_u16 {n:Int} (h:wfI .u16 n):0≤n∧n<65536:=by
 unfold wfI at h
 simp [Lit.wf,IntKind.min,IntKind.max,IntKind.signed,IntKind.bits] at h
 omega
theorem ok_bytes {x:Leaf} (h:okLeaf (.arr (.i .u8)) x):∃ l,x=.L l∧Bytes l:=by
 obtain ⟨l,e,h1,h2⟩:=ok_arr h
 refine ⟨l,e,by unfold maxLen at h1;omega,fun j=>?_⟩
 by_cases hj:j<l.length
 ·rw [List.getD_eq_getElem?_getD,List.getElem?_eq_getElem hj]
  exact wf_u8 (h2 _ (List.getElem_mem hj))
 ·rw [List.getD_eq_getElem?_getD,List.getElem?_eq_none (by omega)]
  decide
theorem raw34 {ps:List PV1} {ls:LS_} (h:okLs (.int .u8::.int .u8::.int .u8::.arr (.i .u8)::.int .u16::.arr (.i .u8)::.int .u16::ps) ls) :
  ∃ Q N K L num H gone ls',ls=.I Q::.I N::.I K::.L L::.I num::.L H::.I gone::ls'∧(0≤Q∧Q<256)∧(0≤N∧N<256)∧(0≤K∧K<256)∧Bytes L∧(0≤num∧num<65536)∧Bytes H∧okLs ps ls':=by
 obtain ⟨x0,l0,rfl,a0,g0⟩:=okLs_cons h
 obtain ⟨Q,rfl,h1⟩:=ok_int a0
 obtain ⟨x1,l1,rfl,a1,g1⟩:=okLs_cons g0
 obtain ⟨N,rfl,h2⟩:=ok_int a1
 obtain ⟨x2,l2,rfl,a2,g2⟩:=okLs_cons g1
 obtain ⟨K,rfl,h3⟩:=ok_int a2
 obtain ⟨x3,l3,rfl,a3,g3⟩:=okLs_cons g2
 obtain ⟨L,rfl,h4⟩:=ok_bytes a3
 obtain ⟨x4,l4,rfl,a4,g4⟩:=okLs_cons g3
 obtain ⟨num,rfl,h5⟩:=ok_int a4
 obtain ⟨x5,l5,rfl,a5,g5⟩:=okLs_cons g4
 obtain ⟨H,rfl,h6⟩:=ok_bytes a5
 obtain ⟨x6,l6,rfl,a6,g6⟩:=okLs_cons g5
 obtain ⟨gone,rfl,_⟩:=ok_int a6
 exact ⟨Q,N,K,L,num,H,gone,l6,rfl,wf_u8 h1,wf_u8 h2,wf_u8 h3,h4,wf_u16 h5,h6,g6⟩
structure Cs (q n:Nat) (G:List (List Int)) (s w g:List Int):Prop where
 cd:Cd q n G
 sent:s∈words q (fadd q) (fmul q) G (List.replicate n 0)
 wd:Wd q n w
 up:Up n g
theorem isRight_of {q n:Nat} {w g:List Int} (hw:Wd q n w) (hg:Up n g):isRight q n w g=true:=by
 unfold isRight
 rw [Bool.and_eq_true]
 exact ⟨isWord_iff.2 ⟨by rw [hw.1],fun i _ hi=>hw.2 i (by have:=hw.1;omega)⟩,hg.gone⟩
theorem Up.pos {n:Nat} {g:List Int} (h:Up n g):∀ k,k<g.length→0≤g.getD k 0:=fun k hk=>(h.2 k hk).1
section
variable {q n:Nat} {G:List (List Int)} {s w g:List Int}
theorem Cs.right (h:Cs q n G s w g):isRight q n w g=true:=isRight_of h.wd h.up
theorem Cs.gs (h:Cs q n G s w g):g.length<2^60:=by have:=h.up.1;have:=h.cd.n1;omega
theorem Cs.cnt (h:Cs q n G s w g):(words q (fadd q) (fmul q) G (List.replicate n 0)).length≤256:=by rw [words_len (n:=0) h.cd.fq];exact h.cd.count
end
theorem cd_c:Cd 2 3 [[1,1,1]] where
  fq:=by decide
  n0:=by decide
  n1:=by decide
  count:=by decide
  form:=⟨fun _=>0,
    { wd:=fun i hi=>by
        have:i=0:=by simpa using hi
        subst this
        refine ⟨rfl,fun j hj=>?_⟩
        rcases (show j=0∨j=1∨j=2 by omega) with rfl | rfl | rfl <;> decide
      lt:=fun i hi=>by decide
      mono:=fun i j hi hj=>by simp at hj;omega
      one:=fun i hi=>by
        have:i=0:=by simpa using hi
        subst this;rfl
      zero:=fun i k hi hk hne=>by
        simp at hi hk;omega
      lead:=fun i j hi hj=>by omega }⟩
theorem cd_two:Cd 2 2 [[1,1]] where
  fq:=by decide
  n0:=by decide
  n1:=by decide
  count:=by decide
  form:=⟨fun _=>0,
    { wd:=fun i hi=>by
        have:i=0:=by simpa using hi
        subst this
        refine ⟨rfl,fun j hj=>?_⟩
        rcases (show j=0∨j=1 by omega) with rfl | rfl <;> decide
      lt:=fun i hi=>by decide
      mono:=fun i j hi hj=>by simp at hj;omega
      one:=fun i hi=>by
        have:i=0:=by simpa using hi
        subst this;rfl
      zero:=fun i k hi hk hne=>by
        simp at hi hk;omega
      lead:=fun i j hi hj=>by omega }⟩
theorem ex1 {τ:Type} (k:Nat→LS_→Option τ):F28 [.I 2,.I 3,.LL [[1,1,1]],.L [0,1,1],.L [],.I 1] k=k 1 [.I 1,.I 1,.N 3,.L [1,1,1],.N 0,.LL []] :=
 (F28_of (fun {τ} κ=>T20_ok (q:=2) (n:=3) cd_c (w:=[0,1,1]) (g:=[]) (by kernel_rfl) (by decide) 1 κ) k).trans (by kernel_rfl)
theorem ex2 {τ:Type} (k:Nat→LS_→Option τ):F28 [.I 2,.I 3,.LL [[1,1,1]],.L [0,1,1],.L [0,1],.I 0] k=k 1 [.I 1,.I 0,.N 3,.L [1,1,1],.N 0,.LL []] :=
 (F28_of (fun {τ} κ=>T20_ok (q:=2) (n:=3) cd_c (w:=[0,1,1]) (g:=[0,1]) (by kernel_rfl) (by decide) 0 κ) k).trans (by kernel_rfl)
theorem ex3 {τ:Type} (k:Nat→LS_→Option τ):F28 [.I 2,.I 2,.LL [[1,1]],.L [0,1],.L [],.I 9] k=k 1 [.I 2,.I 1,.N 2,.L [0,0],.N 2,.LL [[0,0],[1,1]]] :=
 (F28_of (fun {τ} κ=>T20_ok (q:=2) (n:=2) cd_two (w:=[0,1]) (g:=[]) (by kernel_rfl) (by decide) 9 κ) k).trans (by kernel_rfl)
theorem ex4 {τ:Type} (k:Nat→LS_→Option τ):F28 [.I 2,.I 3,.LL [[1,1,1]],.L [0,1,1],.L [],.I 0] k=k 1 [.I 4,.I 0,.N 0,.L [],.N 0,.LL []] :=
 (F28_of (fun {τ} κ=>T20_ok (q:=2) (n:=3) cd_c (w:=[0,1,1]) (g:=[]) (by kernel_rfl) (by decide) 0 κ) k).trans (by kernel_rfl)
theorem ex5 {τ:Type} (k:Nat→LS_→Option τ):T18 [.I 2,.I 3,.LL [[1,1,1]],.L [0,1],.L [],.I 1] k=k 0 [.LL [],.I 1] :=
 T18_err0 (fun {τ} κ=>F18_wrong (q:=2) (by decide) 3 (by decide) (fun i=>by
  rcases i with _ | i
  ·decide
  ·simp) (by decide) (by decide) (by kernel_rfl) 1 κ) k
theorem short2 {L:List (List Int)} (h:∀ r∈L,r.length<2^60):∀ i,(L.getD i []).length<2^60:=fun i=>by
 by_cases hi:i<L.length
 ·rw [List.getD_eq_getElem?_getD,List.getElem?_eq_getElem hi]
  exact h _ (List.getElem_mem hi)
 ·rw [List.getD_eq_getElem?_getD,List.getElem?_eq_none (by omega)]
  decide
def T16 {τ:Type} (l:LS_) (k:Nat→LS_→Option τ):Option τ:=F16 l k
def T16.E:Ent P:=F16.E
theorem T16_spec {τ:Type} (k:Nat→LS_→Option τ):T16 [] k=k 0 [.B true]:=by
 unfold T16 F16 T28 T23
 rw [ex1]
 simp only [sw_succ,sw_zero]
 rw [ex2]
 simp only [sw_succ,sw_zero]
 rw [ex3]
 simp only [sw_succ,sw_zero]
 rw [ex5]
 simp only [g_,sw_succ,sw_zero]
 rw [ck_of (by simp),F23_spec (by decide) (by decide) (short2 (by simp)),decide_eq_true (by decide)]
 simp only [sw_succ,sw_zero,gB_zero]
 rw [br_of rfl,ck_of (by simp),F23_spec (by decide) (by decide) (short2 (by simp)),decide_eq_true (by decide)]
 simp only [sw_succ,sw_zero,gB_zero]
 rw [br_of rfl,ck_of (by simp),F23_spec (by decide) (by decide) (short2 (by simp)),decide_eq_true (by decide)]
 simp only [sw_succ,sw_zero,gB_zero]
 rw [br_of rfl,ex4]
 simp only [sw_succ,sw_zero,gI_zero]
 rw [br_of (show ((4:Int)==4)=true from rfl)]
 rfl
end
end Go.Proofs.Ytbpjicbpcfkpfaa.Ai
namespace Go.Proofs.Ytbpjicbpcfkpfaa.Ai
open Go Go.RowKit
noncomputable section
variable {τ:Type} (t:Nat) (nx ex:Nat→LS_→Option τ) (l:LS_) (k κ:Nat→LS_→Option τ)
end
end Go.Proofs.Ytbpjicbpcfkpfaa.Ai
namespace Go.Proofs.Ytbpjicbpcfkpfaa.Ai
open Go Ma
noncomputable section
def U28 {τ:Type} (l:LS_) (k:Nat→LS_→Option τ):Option τ:=wrapB F28.E (.v pReply) l k
def U28.E:Ent P:=F28.E.wrap (.v pReply)
def mn (d:List Int→Nat) (L:List (List Int)) (m:Nat):Nat:=L.foldl (fun m y=>min m (d y)) m
def T29 {τ:Type} (l:LS_) (k:Nat→LS_→Option τ):Option τ:=wrapB F29.E (.v pField) l k
def T29.E:Ent P:=F29.E.wrap (.v pField)
theorem T29_spec {q:Nat} (hq:q∈Qs) {τ:Type} (k:Nat→LS_→Option τ):T29 [.I q] k=k 0 [.I (fp q),.I (fe q),.L (fm q)]:=by
 have h:=fun {τ:Type} (κ:Nat→LS_→Option τ)=>F29_spec hq κ
 generalize fm q=M at h ⊢
 have:=wrap_of (e:=F29.E) (p:=.v pField) (j:=0) (l2:=[.I (fp q),.I (fe q),.N M.length,.L M]) (c:=true&&(true&&(true&&(true&&(true&&(decide (M.length=(List.take (M.length*1) (List.drop 0 M)).length)&&true)))))) (ls':=[.I (fp q),.I (fe q),.L (List.take (M.length*1) (List.drop 0 M))]) (by intro τ κ;kernel_rfl) (by simp) (k:=k) (fun κ=>h κ)
 rw [Nat.mul_one,List.drop_zero,List.take_length] at this
 exact this
end
end Go.Proofs.Ytbpjicbpcfkpfaa.Ai
namespace Go.Proofs.Ytbpjicbpcfkpfaa.Ai
open Go Go.RowKit
noncomputable section
variable {τ:Type} (t:Nat) (nx ex:Nat→LS_→Option τ) (l:LS_) (k κ:Nat→LS_→Option τ)
def jao0:List PO:=[(oG [pI,pI,qM]),(oG [pI,pI,nS]),(oG [pI,pI,qR]),oI]
def jao1:List PO:=[(oG [pI,pI,qM]),(oG [pI,pI,nS]),(oG [pI,pI,qR]),oI,oM,oI]
def L78_2.H:LHead:=⟨false,true,0,319490,319490,9,8,0,[(PS.mk (qR::us 2 (pI::us 8 [])) [])],[((Out.exit 0),(PS.mk (us 3 (pI::us 8 [])) []))]⟩
def L78_2.O:Orc P:=⟨[],[],[],40⟩
def L78_2.s0:Option τ :=
 ck (((leI 0 (gI l 2))&&(ltI (gI l 2) (gN l 0)))&&true)
 (ck (ltN ((Int.toNat (gI l 2))*1) (List.length (gL l 1)))
 (br ((List.getD (gL l 1) ((Int.toNat (gI l 2))*1) 0)==0)
 (nx 0 [.N (gN l 0),.L (gL l 1),.I (wr .i64 ((gI l 2)+1))])
 (ex 0 [.I (gI l 2)])))
theorem L78_2.e0:LEq L78_2.O L78_2.H 0 L78_2.s0:=by intro τ next κ l;kernel_rfl
def L78_2:LStep P Cf:=LStep.mk1 (by decide) L78_2.e0
def L78_2.b:Option τ:=runE L78_2 fuel κ t l
def L78_2.E:LEnt P:=LStep.E L78_2
def F78.ps:List PV2:=[pR]
def F78.sh:List PA:=[(PA.mk (PV3.v pI) [])]
def F78.O:Orc P:=⟨[],[L78_2.E],[],40⟩
def F78:Option τ :=
 L78_2.b 0 [.N (List.length (gL l 0)),.L (gL l 0),.I 0]
 (fun j A=>(sw (k 0 [.I (gI A 0)])
 (fun _=>none)) j)
theorem F78.eq:FEq F78.O 78 F78.ps F78.sh F78:=by intro τ l κ;kernel_rfl
def F78.E:Ent P:=mkF F78.eq
def L33_4.H:LHead:=⟨false,true,0,135172,135172,62,30,0,[(PS.mk (us 1 ((pp 0)::(pp 1)::(pp 2)::(rr 3)::pI::us 87 [])) jao0)],[((Out.exit 0),(PS.mk (us 1 ((pp 0)::(pp 1)::(pp 2)::(rr 3)::us 88 [])) jao0))]⟩
def L33_4.O:Orc P:=⟨[F78.E],[],[],40⟩
def L33_4.s0:Option τ :=
 br (ltI (gI l 1) (gN l 4))
 (ck (((leI 0 (gI l 1))&&(ltI (gI l 1) (gN l 4)))&&true)
 (ck (ltN ((Int.toNat (gI l 1))*1) (List.length (gLL l 5)))
 (ck ((eqM (List.length (List.getD (gLL l 5) ((Int.toNat (gI l 1))*1) [])) (List.length (List.getD (gLL l 5) ((Int.toNat (gI l 1))*1) [])))&&true)
 (F78 [.L (List.getD (gLL l 5) ((Int.toNat (gI l 1))*1) [])]
 (fun j A=>(sw (ck (((leI 0 (gI A 0))&&(ltI (gI A 0) (gN l 0)))&&true)
 (ck ((leN ((0+((Int.toNat (gI A 0))*1))+1) (List.length (gL l 12)))&&true)
 (nx 0 [.N (gN l 0),.I (wr .i64 ((gI l 1)+1)),.I (gI l 2),.I (gI l 3),.N (gN l 4),.LL (gLL l 5),.I (gI l 6),.I (gI l 7),.I (gI l 8),.I (gI l 9),.N (gN l 10),.L (gL l 11),.L (List.set (gL l 12) (0+((Int.toNat (gI A 0))*1)) (wr .i64 ((gI l 1)+1)))])))
 (fun _=>none)) j)))))
 (ex 0 [.N (gN l 0),.I (gI l 2),.I (gI l 3),.N (gN l 4),.LL (gLL l 5),.I (gI l 6),.I (gI l 7),.I (gI l 8),.I (gI l 9),.N (gN l 10),.L (gL l 11),.L (gL l 12)])
theorem L33_4.e0:LEq L33_4.O L33_4.H 0 L33_4.s0:=by intro τ next κ l;kernel_rfl
def L33_4:LStep P Cf:=LStep.mk1 (by decide) L33_4.e0
def L33_4.b:Option τ:=runE L33_4 fuel κ t l
def L33_4.E:LEnt P:=LStep.E L33_4
def L33_15.H:LHead:=⟨false,true,0,135183,135183,990,478,0,[(PS.mk (us 1 ((pp 0)::(pp 1)::(pp 2)::(rr 3)::us 1 ((rr 4)::pI::(rr 5)::pI::us 83 []))) jao1)],[((Out.exit 4),(PS.mk (us 1 ((pp 0)::(pp 1)::(pp 2)::(rr 3)::us 1 ((rr 4)::pI::(rr 5)::us 84 []))) jao1))]⟩
def L33_15.O:Orc P:=⟨[T79.E],[],[],40⟩
def L33_15.s0:Option τ :=
 br (ltI (gI l 4) (gI l 6))
 (ck (((leI 0 (gI l 4))&&(ltI (gI l 4) (gN l 0)))&&true)
 (ck (ltN (0+((Int.toNat (gI l 4))*1)) (List.length (gL l 15)))
 (br (gtI (List.getD (gL l 15) (0+((Int.toNat (gI l 4))*1)) 0) 0)
 (ck (((leI 0 (gI l 4))&&(ltI (gI l 4) (gN l 0)))&&true)
 (ck (ltN (0+((Int.toNat (gI l 4))*1)) (List.length (gL l 15)))
 (ck (((leI 0 (wr .i64 ((List.getD (gL l 15) (0+((Int.toNat (gI l 4))*1)) 0)-1)))&&(ltI (wr .i64 ((List.getD (gL l 15) (0+((Int.toNat (gI l 4))*1)) 0)-1)) (((gN l 7):Nat):Int)))&&true)
 (ck (ltN ((Int.toNat (wr .i64 ((List.getD (gL l 15) (0+((Int.toNat (gI l 4))*1)) 0)-1)))*1) (List.length (gLL l 8)))
 (ck (((leI 0 (gI l 2))&&(ltI (gI l 2) (((List.length (List.getD (gLL l 8) ((Int.toNat (wr .i64 ((List.getD (gL l 15) (0+((Int.toNat (gI l 4))*1)) 0)-1)))*1) [])):Nat):Int)))&&true)
 (ck (ltN ((Int.toNat (gI l 2))*1) (List.length (List.getD (gLL l 8) ((Int.toNat (wr .i64 ((List.getD (gL l 15) (0+((Int.toNat (gI l 4))*1)) 0)-1)))*1) [])))
 (ck (((eqM (gN l 13) (List.length (gL l 14)))&&true)&&true)
 (T79 [.I (gI l 11),.I (gI l 12),.L (gL l 14),.I (List.getD (List.getD (gLL l 8) ((Int.toNat (wr .i64 ((List.getD (gL l 15) (0+((Int.toNat (gI l 4))*1)) 0)-1)))*1) []) ((Int.toNat (gI l 2))*1) 0)]
 (fun j A=>(sw (ck (((leI 0 (gI l 4))&&(ltI (gI l 4) (gN l 3)))&&true)
 (ck ((leN ((0+((Int.toNat (gI l 4))*1))+1) (List.length (gL l 17)))&&true)
 (nx 0 [.N (gN l 0),.N (gN l 1),.I (gI l 2),.N (gN l 3),.I (wr .i64 ((gI l 4)+1)),.I (gI l 5),.I (gI l 6),.N (gN l 7),.LL (gLL l 8),.I (gI l 9),.I (gI l 10),.I (gI l 11),.I (gI l 12),.N (gN l 13),.L (gL l 14),.L (gL l 15),.LL (gLL l 16),.L (List.set (gL l 17) (0+((Int.toNat (gI l 4))*1)) (gI A 0))])))
 (fun _=>none)) j)))))))))
 (nx 0 [.N (gN l 0),.N (gN l 1),.I (gI l 2),.N (gN l 3),.I (wr .i64 ((gI l 4)+1)),.I (gI l 5),.I (gI l 6),.N (gN l 7),.LL (gLL l 8),.I (gI l 9),.I (gI l 10),.I (gI l 11),.I (gI l 12),.N (gN l 13),.L (gL l 14),.L (gL l 15),.LL (gLL l 16),.L (gL l 17)]))))
 (ex 0 [.N (gN l 0),.N (gN l 1),.I (gI l 2),.N (gN l 3),.I (gI l 5),.I (gI l 6),.N (gN l 7),.LL (gLL l 8),.I (gI l 9),.I (gI l 10),.I (gI l 11),.I (gI l 12),.N (gN l 13),.L (gL l 14),.L (gL l 15),.LL (gLL l 16),.L (gL l 17)])
theorem L33_15.e0:LEq L33_15.O L33_15.H 0 L33_15.s0:=by intro τ next κ l;kernel_rfl
def L33_15:LStep P Cf:=LStep.mk1 (by decide) L33_15.e0
def L33_15.b:Option τ:=runE L33_15 fuel κ t l
def L33_15.E:LEnt P:=LStep.E L33_15
def L33_9.H:LHead:=⟨false,true,0,135177,135177,222,78,0,[(PS.mk (us 1 ((pp 0)::(pp 1)::(pp 2)::(rr 3)::us 1 ((rr 4)::pI::us 85 []))) [(oG [pI,pI,qM]),(oG [pI,pI,nS]),(oG [pI,pI,qR]),oI,oM])],[((Out.exit 2),(PS.mk (us 1 ((pp 0)::(pp 1)::(pp 2)::us 2 ((rr 3)::us 86 []))) [(oG [pI,pI,qM]),(oG [pI,pI,nS]),(oG [pI,pI,qR]),oM]))]⟩
def L33_9.O:Orc P:=⟨[F32.E],[L33_15.E],[],40⟩
def L33_9.s0:Option τ :=
 br (ltI (gI l 2) (gI l 4))
 (ck (((leI 0 (gI l 2))&&(ltI (gI l 2) (gN l 0)))&&true)
 (ck (ltN (0+((Int.toNat (gI l 2))*1)) (List.length (gL l 13)))
 (br (gtI (List.getD (gL l 13) (0+((Int.toNat (gI l 2))*1)) 0) 0)
 (nx 0 [.N (gN l 0),.N (gN l 1),.I (wr .i64 ((gI l 2)+1)),.I (gI l 3),.I (gI l 4),.N (gN l 5),.LL (gLL l 6),.I (gI l 7),.I (gI l 8),.I (gI l 9),.I (gI l 10),.N (gN l 11),.L (gL l 12),.L (gL l 13),.LL (gLL l 14)])
 (F32 [.I (gI l 4)]
 (fun j A=>(sw (ck (((leI 0 (gI l 2))&&(ltI (gI l 2) (gN A 0)))&&true)
 (ck ((leN ((0+((Int.toNat (gI l 2))*1))+1) (List.length (gL A 1)))&&true)
 (L33_15.b 0 [.N (gN l 0),.N (gN l 1),.I (gI l 2),.N (gN A 0),.I 0,.I (gI l 3),.I (gI l 4),.N (gN l 5),.LL (gLL l 6),.I (gI l 7),.I (gI l 8),.I (gI l 9),.I (gI l 10),.N (gN l 11),.L (gL l 12),.L (gL l 13),.LL (gLL l 14),.L (List.set (gL A 1) (0+((Int.toNat (gI l 2))*1)) 1)]
 (fun j B=>(sw (ck ((eqM (gN B 3) (List.length (List.take ((gN B 3)*1) (List.drop 0 (gL B 16)))))&&true)
 (ck (((((eqM (List.length (gLL B 15)) ((gN B 1)*1))&&true)&&(eqM 1 1))&&(leN (((gN B 1)+1)*25) 1099511627776))&&true)
 (nx 0 [.N (gN B 0),.N ((gN B 1)+1),.I (wr .i64 ((gI B 2)+1)),.I (gI B 4),.I (gI B 5),.N (gN B 6),.LL (gLL B 7),.I (gI B 8),.I (gI B 9),.I (gI B 10),.I (gI B 11),.N (gN B 12),.L (gL B 13),.L (gL B 14),.LL ((gLL B 15)++(List.take 1 (List.drop 0 [(List.take ((gN B 3)*1) (List.drop 0 (gL B 16)))])))])))
 (fun _=>none)) j))))
 (fun _=>none)) j)))))
 (ex 0 [.N (gN l 1),.I (gI l 3),.I (gI l 4),.N (gN l 5),.LL (gLL l 6),.I (gI l 7),.I (gI l 8),.I (gI l 9),.I (gI l 10),.N (gN l 11),.L (gL l 12),.LL (gLL l 14)])
theorem L33_9.e0:LEq L33_9.O L33_9.H 0 L33_9.s0:=by intro τ next κ l;kernel_rfl
def L33_9:LStep P Cf:=LStep.mk1 (by decide) L33_9.e0
def L33_9.b:Option τ:=runE L33_9 fuel κ t l
def L33_9.E:LEnt P:=LStep.E L33_9
def F33.ps:List PV2:=[pCode]
def F33.sh:List PA:=[(PA.mk (PV3.v (PV2.agg [iI,iI,(r1 0)])) [cM]),(PA.mk (PV3.v (PV2.agg [iI,iI,(PV1.sl PC0.e)])) [])]
def F33.O:Orc P:=⟨[T29.E,F80.E],[L33_4.E,L33_9.E],[],40⟩
def F33:Option τ :=
 T29 [.I (gI l 0)]
 (fun j A=>(sw (ck (((leI 0 (gI l 1))&&(leI (gI l 1) (gI l 1)))&&(leI ((gI l 1)*9) 1099511627776))
 (L33_4.b 0 [.N (Int.toNat (gI l 1)),.I 0,.I (gI l 0),.I (gI l 1),.N (List.length (gLL l 2)),.LL (gLL l 2),.I 0,.I 0,.I (gI A 0),.I (gI A 1),.N (List.length (gL A 2)),.L (gL A 2),.L (List.replicate (Int.toNat (gI l 1)) (0:Int))]
 (fun j B=>(sw (L33_9.b 0 [.N (gN B 0),.N 0,.I 0,.I (gI B 1),.I (gI B 2),.N (gN B 3),.LL (gLL B 4),.I (gI B 5),.I (gI B 6),.I (gI B 7),.I (gI B 8),.N (gN B 9),.L (gL B 10),.L (gL B 11),.LL []]
 (fun j C=>(sw (ck (((eqM (gN C 9) (List.length (gL C 10)))&&true)&&((eqM (gN C 0) (List.length (List.take ((gN C 0)*1) (List.drop 0 (gLL C 11)))))&&true))
 (F80 [.I (gI C 7),.I (gI C 8),.L (gL C 10),.I (gI C 2),.LL (List.take ((gN C 0)*1) (List.drop 0 (gLL C 11)))]
 (fun j D=>(sw (k 0 [.I (gI C 1),.I (gI C 2),.N (gN D 0),.LL (gLL D 1)])
 (sw (k 1 [.I (gI C 1),.I (gI C 2),.N (gN D 0)])
 (fun _=>none))) j)))
 (fun _=>none)) j))
 (fun _=>none)) j)))
 (fun _=>none)) j)
theorem F33.eq:FEq F33.O 33 F33.ps F33.sh F33:=by intro τ l κ;kernel_rfl
def F33.E:Ent P:=mkF F33.eq
end
end Go.Proofs.Ytbpjicbpcfkpfaa.Ai
namespace Go.Proofs.Ytbpjicbpcfkpfaa.Ai
open Go Ma
noncomputable section
def fnz (r:List Int):Nat:=r.findIdx fun a=>a != 0
theorem fz_ne {r:List Int} (h:fnz r<r.length):r.getD (fnz r) 0≠0:=by
 unfold fnz at h ⊢
 have:=List.findIdx_getElem (p:=fun a:Int=>a != 0) (xs:=r) (w:=h)
 rw [List.getD_eq_getElem?_getD,List.getElem?_eq_getElem h]
 simpa using this
theorem fz_lt {r:List Int} {j:Nat} (h:j<fnz r):r.getD j 0=0:=by
 have hl:j<r.length:=Nat.lt_of_lt_of_le h List.findIdx_le_length
 have:=List.not_of_lt_findIdx (p:=fun a:Int=>a != 0) (xs:=r) h
 rw [List.getD_eq_getElem?_getD,List.getElem?_eq_getElem hl]
 simpa using this
theorem fz_eq {r:List Int} {k:Nat} (h0:∀ j,j<k→r.getD j 0=0) (h1:r.getD k 0≠0):fnz r=k:=by
 have hk:k<r.length:=by
  rcases Nat.lt_or_ge k r.length with h | h
  ·exact h
  ·exact absurd (by rw [List.getD_eq_getElem?_getD,List.getElem?_eq_none h];rfl) h1
 rcases Nat.lt_trichotomy (fnz r) k with h | h | h
 ·exact absurd (h0 _ h) (fz_ne (by omega))
 ·exact h
 ·exact absurd (fz_lt h) h1
structure Lc (q n:Nat) (G:List (List Int)):Prop where
 fq:q∈Qs
 n0:1≤n
 n1:n≤24
 form:∃ piv,Rref q n G piv
theorem rref_fz {q n:Nat} {G:List (List Int)} {piv:Nat→Nat} (h:Rref q n G piv) {i:Nat} (hi:i<G.length):fnz (G.getD i [])=piv i :=
 fz_eq (fun j hj=>h.lead i j hi hj) (by have:=h.one i hi;unfold ent at this;rw [this];omega)
theorem rref_len {q n:Nat} {G:List (List Int)} {piv:Nat→Nat} (h:Rref q n G piv):G.length≤n:=by
 have:∀ k,k≤G.length→∀ i,i<k→i≤piv i:=by
  intro k
  induction k with
  | zero=>intro _ i hi;omega
  | succ k ih =>
   intro hk i hi
   rcases Nat.lt_or_ge i k with h1 | h1
   ·exact ih (by omega) i h1
   ·have e:i=k:=by omega
    subst e
    cases i with
    | zero=>omega
    | succ i =>
     have:=ih (by omega) i (by omega)
     have:=h.mono i (i+1) (by omega) (by omega)
     omega
 rcases Nat.eq_zero_or_pos G.length with e | e
 ·omega
 ·have h1:=this G.length (Nat.le_refl _) (G.length-1) (by omega)
  have h2:=h.lt (G.length-1) (by omega)
  omega
theorem Lc.rows {q n:Nat} {G:List (List Int)} (h:Lc q n G):Rows q n G:=by
 obtain ⟨piv,R⟩:=h.form
 have:=rref_len R
 have:=h.n1
 exact ⟨R.wd,by omega,by omega⟩
theorem Lc.len {q n:Nat} {G:List (List Int)} (h:Lc q n G):G.length≤n:=by
 obtain ⟨piv,R⟩:=h.form
 exact rref_len R
theorem Lc.fnzs {q n:Nat} {G:List (List Int)} (h:Lc q n G) {i:Nat} (hi:i<G.length):fnz (G.getD i [])<n∧(G.getD i []).length=n:=by
 obtain ⟨piv,R⟩:=h.form
 exact ⟨by rw [rref_fz R hi];exact R.lt i hi,(R.wd i hi).1⟩
theorem L78_2_spec {r:List Int} (hs:r.length<2^60) (hp:fnz r<r.length) {τ:Type} (κ:Nat→LS_→Option τ):∀ (f j:Nat),j≤fnz r→r.length<f+j →
  runE L78_2 f κ 0 [.N r.length,.L r,.I j]=κ 0 [.I (fnz r)]
 | 0,j,h1,h2=>by omega
 | f+1,j,h1,h2=>by
  rw [runE_succ]
  show L78_2.s0 _ _ _=_
  unfold L78_2.s0
  simp only [g_,Int.toNat_natCast,Nat.mul_one]
  rw [ck_of (by simp;omega),ck_of (by simp;omega)]
  rcases Nat.lt_or_ge j (fnz r) with h | h
  ·rw [br_of (by rw [fz_lt h];rfl),wsucc (j:=j) (by omega)]
   exact L78_2_spec hs hp κ f (j+1) (by omega) (by omega)
  ·have e:j=fnz r:=by omega
   subst e
   rw [br_no (by simpa using fz_ne hp)]
theorem F78_spec {r:List Int} (hs:r.length<2^60) (hp:fnz r<r.length) {τ:Type} (k:Nat→LS_→Option τ):F78 [.L r] k=k 0 [.I (fnz r)]:=by
 have hfu:=fuel_le
 unfold F78 L78_2.b
 simp only [gL_zero]
 refine (L78_2_spec hs hp _ fuel 0 (by omega) (by omega)).trans ?_
 simp only [sw_zero,gI_zero]
def pA (n:Nat) (G:List (List Int)):Nat→List Int
 | 0=>List.replicate n 0
 | i+1=>(pA n G i).set (fnz (G.getD i [])) (((i+1:Nat):Nat):Int)
theorem pA_len (n:Nat) (G:List (List Int)):∀ i,(pA n G i).length=n
 | 0=>by simp [pA]
 | i+1=>by simp [pA,pA_len n G i]
theorem L33_4_spec {n:Nat} (hn:n<2^20) {G:List (List Int)} (hG:G.length<2^20) (hp:∀ i,i<G.length→fnz (G.getD i [])<n∧(G.getD i []).length=n) (q a b p e:Int) (c:Nat) (M:List Int) {τ:Type} (κ:Nat→LS_→Option τ):∀ (f i:Nat),i≤G.length→G.length<f+i →
  runE L33_4 f κ 0 [.N n,.I i,.I q,.I n,.N G.length,.LL G,.I a,.I b,.I p,.I e,.N c,.L M,.L (pA n G i)]
   = κ 0 [.N n,.I q,.I n,.N G.length,.LL G,.I a,.I b,.I p,.I e,.N c,.L M,.L (pA n G G.length)]
 | 0,i,h1,h2=>by omega
 | f+1,i,h1,h2=>by
  rw [runE_succ]
  show L33_4.s0 _ _ _=_
  unfold L33_4.s0
  simp only [g_,Int.toNat_natCast,Nat.mul_one,Nat.zero_add]
  by_cases hi:i<G.length
  ·obtain ⟨p1,p2⟩:=hp i hi
   have pl:=pA_len n G i
   have ih:=L33_4_spec hn hG hp q a b p e c M κ f (i+1) (by omega) (by omega)
   rw [show pA n G (i+1)=(pA n G i).set (fnz (G.getD i [])) ((i+1:Nat):Int) from rfl] at ih
   rw [br_of (by simp;omega),ck_of (by simp;omega),ck_of (by simp;omega),ck_of (by simp),F78_spec (by omega) (by omega)]
   simp only [sw_zero,gI_zero,Int.toNat_natCast]
   generalize fnz (G.getD i [])=z at p1 p2 ih ⊢
   rw [ck_of (by simp;omega),ck_of (by simp;omega),wsucc (j:=i) (by omega)]
   exact ih
  ·have:i=G.length:=by omega
   subst this
   rw [br_no (by simp)]
def drow (q n:Nat) (A:List Int) (G:List (List Int)) (j k:Nat):List Int :=
 (List.range n).map fun t=>if t<k∧0<A.getD t 0 then fneg q ((G.getD ((A.getD t 0).toNat-1) []).getD j 0) else if t=j then 1 else 0
theorem drow_len {q n:Nat} {A:List Int} {G:List (List Int)} {j k:Nat}:(drow q n A G j k).length=n:=by simp [drow]
theorem drow_get {q n:Nat} {A:List Int} {G:List (List Int)} {j k t:Nat} (ht:t<n):(drow q n A G j k).getD t 0=if t<k∧0<A.getD t 0 then fneg q ((G.getD ((A.getD t 0).toNat-1) []).getD j 0) else if t=j then 1 else 0:=by
 simp [drow,List.getD_eq_getElem?_getD,ht]
theorem drow_zero {q n:Nat} {A:List Int} {G:List (List Int)} {j:Nat} (hj:j<n):(List.replicate n (0:Int)).set j 1=drow q n A G j 0 :=
 ext_getD (by rw [drow_len];simp) fun t ht=>by
  simp only [List.length_set,List.length_replicate] at ht
  rw [drow_get ht,if_neg (by omega),List.getD_eq_getElem?_getD,List.getElem?_set]
  by_cases e:j=t
  ·subst e;simp [hj]
  ·rw [if_neg e,if_neg (fun x=>e x.symm)];simp [ht]
theorem drow_skip {q n:Nat} {A:List Int} {G:List (List Int)} {j k:Nat} (h:¬ 0<A.getD k 0):drow q n A G j (k+1)=drow q n A G j k :=
 ext_getD (by rw [drow_len,drow_len]) fun t ht=>by
  rw [drow_len] at ht
  rw [drow_get ht,drow_get ht]
  by_cases e:t=k
  ·subst e;rw [if_neg (c:=t<t+1∧0<A.getD t 0) (fun x=>h x.2),if_neg (c:=t<t∧0<A.getD t 0) (fun x=>h x.2)]
  ·by_cases c:t<k∧0<A.getD t 0
   ·rw [if_pos c,if_pos (c:=t<k+1∧0<A.getD t 0) ⟨by omega,c.2⟩]
   ·rw [if_neg c,if_neg (c:=t<k+1∧0<A.getD t 0) (fun x=>c ⟨by omega,x.2⟩)]
theorem drow_step {q n:Nat} {A:List Int} {G:List (List Int)} {j k:Nat} (hk:k<n) (h:0<A.getD k 0):(drow q n A G j k).set k (fneg q ((G.getD ((A.getD k 0).toNat-1) []).getD j 0))=drow q n A G j (k+1) :=
 ext_getD (by rw [List.length_set,drow_len,drow_len]) fun t ht=>by
  rw [List.length_set,drow_len] at ht
  rw [drow_get ht,List.getD_eq_getElem?_getD,List.getElem?_set]
  by_cases e:k=t
  ·subst e;rw [if_pos rfl,if_pos (by rw [drow_len];exact hk),if_pos (c:=k<k+1∧0<A.getD k 0) ⟨by omega,h⟩];rfl
  ·rw [if_neg e,←List.getD_eq_getElem?_getD,drow_get ht]
   by_cases c:t<k∧0<A.getD t 0
   ·rw [if_pos c,if_pos (c:=t<k+1∧0<A.getD t 0) ⟨by omega,c.2⟩]
   ·rw [if_neg c,if_neg (c:=t<k+1∧0<A.getD t 0) (fun x=>c ⟨by omega,x.2⟩)]
structure Cols (q n:Nat) (A:List Int) (G:List (List Int)):Prop where
 len:A.length=n
 at_:∀ t,t<n→0≤A.getD t 0∧A.getD t 0≤G.length
theorem L33_15_spec {q n:Nat} (hq:q∈Qs) {A:List Int} {G:List (List Int)} (hR:Rows q n G) (hA:Cols q n A G) (cnt:Nat) {j:Nat} (hj:j<n) (a b Q:Int) (rows:List (List Int)) {τ:Type} (κ:Nat→LS_→Option τ):∀ (f k:Nat),k≤n→n<f+k →
  runE L33_15 f κ 0 [.N n,.N cnt,.I j,.N n,.I k,.I Q,.I n,.N G.length,.LL G,.I a,.I b,.I (fp q),.I (fe q),.N (fm q).length,.L (fm q),.L A,.LL rows,.L (drow q n A G j k)]
   = κ 0 [.N n,.N cnt,.I j,.N n,.I Q,.I n,.N G.length,.LL G,.I a,.I b,.I (fp q),.I (fe q),.N (fm q).length,.L (fm q),.L A,.LL rows,.L (drow q n A G j n)]
 | 0,k,h1,h2=>by omega
 | f+1,k,h1,h2=>by
  have hn:=hR.short
  have hg:=hR.few
  have hAl:=hA.len
  rw [runE_succ]
  show L33_15.s0 _ _ _=_
  unfold L33_15.s0
  simp only [g_,Int.toNat_natCast,Nat.mul_one,Nat.zero_add]
  by_cases hk:k<n
  ·rw [br_of (by simp;omega),ck_of (by simp;omega),ck_of (by simp;omega)]
   obtain ⟨a0,a1⟩:=hA.at_ k hk
   by_cases h:0<A.getD k 0
   ·obtain ⟨x,hx,hxl⟩:∃ x:Nat,A.getD k 0-1=(x:Int)∧x<G.length:=⟨(A.getD k 0-1).toNat,by omega,by omega⟩
    have hx2:(A.getD k 0).toNat-1=x:=by omega
    have wx:=hR.wd x hxl
    have wxl:=wx.1
    have wj:=wx.2 j hj
    have st:=drow_step (q:=q) (G:=G) (j:=j) hk h
    rw [hx2] at st
    have dl:=drow_len (q:=q) (n:=n) (A:=A) (G:=G) (j:=j) (k:=k)
    rw [br_of (by simpa using h),ck_of (by simp;omega),ck_of (by simp;omega),wr64 (n:=A.getD k 0-1) (by omega) (by omega),hx,Int.toNat_natCast]
    generalize G.getD x []=X at wx wxl wj st ⊢
    rw [ck_of (by simp;omega),ck_of (by simp;omega),ck_of (by simp;omega),ck_of (by simp;omega),ck_of (by simp)]
    unfold T79
    rw [tab1_of hq wj.1 wj.2]
    simp only [sw_zero,gI_zero]
    rw [ck_of (by simp;omega),ck_of (by simp;omega),wsucc (j:=k) (by omega),st]
    exact L33_15_spec hq hR hA cnt hj a b Q rows κ f (k+1) (by omega) (by omega)
   ·rw [br_no (by simp only [gtI_no];exact h),wsucc (j:=k) (by omega),←drow_skip (q:=q) (n:=n) (G:=G) (j:=j) h]
    exact L33_15_spec hq hR hA cnt hj a b Q rows κ f (k+1) (by omega) (by omega)
  ·have:k=n:=by omega
   subst this
   rw [br_no (by simp)]
def frees (A:List Int) (j:Nat):List Nat:=(List.range j).filter fun t=>decide (A.getD t 0=0)
def drows (q n:Nat) (A:List Int) (G:List (List Int)) (j:Nat):List (List Int):=(frees A j).map fun t=>drow q n A G t n
theorem frees_succ (A:List Int) (j:Nat):frees A (j+1)=if A.getD j 0=0 then frees A j++[j] else frees A j:=by
 unfold frees
 rw [List.range_succ,List.filter_append]
 split
 ·rename_i h;rw [List.filter_cons,if_pos (by simpa using h)];rfl
 ·rename_i h;rw [List.filter_cons,if_neg (by simpa using h)];simp
theorem frees_len (A:List Int) (j:Nat):(frees A j).length≤j:=Nat.le_trans (List.length_filter_le _ _) (by simp)
theorem drows_len {q n:Nat} {A:List Int} {G:List (List Int)} {j:Nat}:(drows q n A G j).length=(frees A j).length:=by simp [drows]
theorem L33_9_spec {q n:Nat} (hq:q∈Qs) {A:List Int} {G:List (List Int)} (hR:Rows q n G) (hA:Cols q n A G) (a b Q:Int) {τ:Type} (κ:Nat→LS_→Option τ):∀ (f j:Nat),j≤n→n<f+j →
  runE L33_9 f κ 0 [.N n,.N (drows q n A G j).length,.I j,.I Q,.I n,.N G.length,.LL G,.I a,.I b,.I (fp q),.I (fe q),.N (fm q).length,.L (fm q),.L A,.LL (drows q n A G j)]
   = κ 0 [.N (drows q n A G n).length,.I Q,.I n,.N G.length,.LL G,.I a,.I b,.I (fp q),.I (fe q),.N (fm q).length,.L (fm q),.LL (drows q n A G n)]
 | 0,j,h1,h2=>by omega
 | f+1,j,h1,h2=>by
  have hn:=hR.short
  have hg:=hR.few
  have hAl:=hA.len
  have hfu:=fuel_le
  have hl:=frees_len A j
  rw [runE_succ]
  show L33_9.s0 _ _ _=_
  unfold L33_9.s0
  simp only [g_,Int.toNat_natCast,Nat.mul_one,Nat.zero_add]
  by_cases hj:j<n
  ·rw [br_of (by simp;omega),ck_of (by simp;omega),ck_of (by simp;omega)]
   obtain ⟨a0,a1⟩:=hA.at_ j hj
   by_cases h:0<A.getD j 0
   ·rw [br_of (by simpa using h),wsucc (j:=j) (by omega)]
    have e:drows q n A G (j+1)=drows q n A G j:=by unfold drows;rw [frees_succ,if_neg (by omega)]
    have ih:=L33_9_spec hq hR hA a b Q κ f (j+1) (by omega) (by omega)
    rw [e] at ih
    exact ih
   ·have hz:A.getD j 0=0:=by omega
    have e:drows q n A G (j+1)=drows q n A G j++[drow q n A G j n]:=by unfold drows;rw [frees_succ,if_pos hz,List.map_append];rfl
    have dl:=drows_len (q:=q) (n:=n) (A:=A) (G:=G) (j:=j)
    have ih:=L33_9_spec hq hR hA a b Q κ f (j+1) (by omega) (by omega)
    rw [br_no (by simp only [gtI_no];exact h),F32_spec (by omega)]
    simp only [sw_zero,gN_zero,gL_succ,gL_zero]
    rw [ck_of (by simp;omega),ck_of (by simp;omega),drow_zero (q:=q) (A:=A) (G:=G) hj]
    unfold L33_15.b
    refine (L33_15_spec hq hR hA _ hj a b Q _ _ fuel 0 (by omega) (by omega)).trans ?_
    simp only [g_,sw_zero,Nat.mul_one,List.drop_zero]
    have ft:List.take n (drow q n A G j n)=drow q n A G j n:=List.take_of_length_le (by rw [drow_len];exact Nat.le_refl _)
    rw [ft,ck_of (by simp [drow_len]),ck_of (by simp;omega),wsucc (j:=j) (by omega)]
    rw [e,List.length_append] at ih
    exact ih
  ·have:j=n:=by omega
   subst this
   rw [br_no (by simp)]
theorem pA_cols {q n:Nat} {G:List (List Int)} (hp:∀ i,i<G.length→fnz (G.getD i [])<n):∀ i,i≤G.length→∀ t,t<n→0≤(pA n G i).getD t 0∧(pA n G i).getD t 0≤i
 | 0,_,t,ht=>by simp [pA,List.getD_eq_getElem?_getD,ht]
 | i+1,h,t,ht=>by
  have ih:=pA_cols (q:=q) hp i (by omega) t ht
  have pl:=pA_len n G i
  unfold pA
  rw [List.getD_eq_getElem?_getD,List.getElem?_set]
  by_cases e:fnz (G.getD i [])=t
  ·rw [if_pos e,if_pos (by rw [pl,e];exact ht)]
   simp
   omega
  ·rw [if_neg e,←List.getD_eq_getElem?_getD]
   omega
theorem Lc.cols {q n:Nat} {G:List (List Int)} (h:Lc q n G):Cols q n (pA n G G.length) G :=
 ⟨pA_len _ _ _,fun t ht=>pA_cols (q:=q) (fun i hi=>(h.fnzs hi).1) G.length (Nat.le_refl _) t ht⟩
theorem drow_wd {q n:Nat} (hq:q∈Qs) {A:List Int} {G:List (List Int)} (hR:Rows q n G) (hA:Cols q n A G) {j:Nat} (hj:j<n) (k:Nat):Wd q n (drow q n A G j k):=by
 have F:=fld q hq
 have q1:=qs_lt hq
 refine ⟨drow_len,fun t ht=>?_⟩
 rw [drow_get ht]
 split
 ·rename_i h
  obtain ⟨a0,a1⟩:=hA.at_ t ht
  have w:=(hR.wd ((A.getD t 0).toNat-1) (by omega)).2 j hj
  exact F.neg_in _ w.1 w.2
 ·split <;> omega
theorem drows_rows {q n:Nat} (hq:q∈Qs) {A:List Int} {G:List (List Int)} (hR:Rows q n G) (hA:Cols q n A G):Rows q n (drows q n A G n):=by
 have hn:=hR.short
 have hl:=frees_len A n
 refine ⟨fun i hi=>?_,by rw [drows_len];omega,hn⟩
 rw [drows_len] at hi
 have:(drows q n A G n).getD i []=drow q n A G ((frees A n).getD i 0) n:=by
  unfold drows
  simp [List.getD_eq_getElem?_getD,hi]
 rw [this]
 refine drow_wd hq hR hA ?_ n
 have hm:(frees A n).getD i 0∈frees A n:=by
  rw [List.getD_eq_getElem?_getD,List.getElem?_eq_getElem hi]
  exact List.getElem_mem _
 simpa using (List.mem_filter.1 hm).1
def dualR (q n:Nat) (G:List (List Int)):List (List Int):=reduce (fadd q) (fmul q) (fneg q) (finv q) n (drows q n (pA n G G.length) G n)
theorem F33_spec {q n:Nat} {G:List (List Int)} (h:Lc q n G):∃ m:List (List Int),m.take (dualR q n G).length=dualR q n G∧∀ {τ:Type} (k:Nat→LS_→Option τ),
  F33 [.I q,.I n,.LL G] k=if (dualR q n G).length=0 then k 1 [.I q,.I n,.N 0] else k 0 [.I q,.I n,.N (dualR q n G).length,.LL m]:=by
 have hfu:=fuel_le
 have hq:=h.fq
 have hR:=h.rows
 have hn:=hR.short
 have hg:=hR.few
 have hA:=h.cols
 have hD:=drows_rows hq hR hA
 have hr:=red_len (add:=fadd q) (mul:=fmul q) (neg:=fneg q) (inv:=finv q) n 0 0 (drows q n (pA n G G.length) G n)
 have hl:(dualR q n G).length=(red (fadd q) (fmul q) (fneg q) (finv q) n 0 0 (drows q n (pA n G G.length) G n)).2:=by
  unfold dualR reduce
  rw [List.length_take,hr.1]
  have:=hr.2.2 (Nat.zero_le _)
  omega
 refine ⟨(red (fadd q) (fmul q) (fneg q) (finv q) n 0 0 (drows q n (pA n G G.length) G n)).1,by rw [hl];rfl,fun {τ} k=>?_⟩
 unfold F33
 simp only [g_]
 rw [T29_spec hq]
 simp only [g_,sw_zero,Int.toNat_natCast]
 rw [ck_of (by simp;omega)]
 unfold L33_4.b
 refine (L33_4_spec (by omega) (by omega) (fun i hi=>h.fnzs hi) q 0 0 (fp q) (fe q) (fm q).length (fm q) _ fuel 0 (by omega) (by omega)).trans ?_
 simp only [g_,sw_zero]
 unfold L33_9.b
 refine (L33_9_spec hq hR hA 0 0 q _ fuel 0 (by omega) (by omega)).trans ?_
 simp only [g_,sw_zero,Nat.mul_one,List.drop_zero,List.take_length]
 rw [ck_of (by simp),F80_spec hq hD,hl]
 split
 ·simp only [sw_succ,sw_zero,gN_zero]
 ·simp only [sw_zero,gN_zero,gLL_succ,gLL_zero]
def T33 {τ:Type} (l:LS_) (k:Nat→LS_→Option τ):Option τ:=wrapB F33.E (.v pCode) l k
def T33.E:Ent P:=F33.E.wrap (.v pCode)
theorem T33_spec {q n:Nat} {G:List (List Int)} (h:Lc q n G) {τ:Type} (k:Nat→LS_→Option τ):T33 [.I q,.I n,.LL G] k=k 0 [.I q,.I n,.LL (dualR q n G)]:=by
 obtain ⟨m,h1,h2⟩:=F33_spec h
 generalize dualR q n G=D at h1 h2 ⊢
 by_cases hr:D.length=0
 ·obtain rfl:=List.length_eq_zero_iff.1 hr
  exact wrap_of (e:=F33.E) (p:=.v pCode) (j:=1) (l2:=[.I q,.I n,.N 0]) (c:=true) (ls':=[.I q,.I n,.LL []]) (by intro τ κ;kernel_rfl) rfl (fun κ=>(h2 κ).trans (if_pos rfl))
 ·have h2:=fun {τ:Type} (κ:Nat→LS_→Option τ)=>(h2 κ).trans (if_neg hr)
  generalize hD:D.length=r at h1 h2
  have:=wrap_of (e:=F33.E) (p:=.v pCode) (j:=0) (l2:=[.I q,.I n,.N r,.LL m]) (c:=true&&(true&&(true&&(true&&(true&&(decide (r=(List.take (r*1) (List.drop 0 m)).length)&&true)))))) (ls':=[.I q,.I n,.LL (List.take (r*1) (List.drop 0 m))]) (by intro τ κ;kernel_rfl)
   (by rw [Nat.mul_one,List.drop_zero,h1];simp [hD]) (k:=k) (fun κ=>h2 κ)
  rw [Nat.mul_one,List.drop_zero,h1] at this
  exact this
def T19 {τ:Type} (l:LS_) (k:Nat→LS_→Option τ):Option τ:=wrapB F19.E (.tup [pM,pI]) l k
def T19.E:Ent P:=F19.E.wrap (.tup [pM,pI])
def T21 {τ:Type} (l:LS_) (k:Nat→LS_→Option τ):Option τ:=wrapB F21.E (.tup [pReply,pI]) l k
def T21.E:Ent P:=F21.E.wrap (.tup [pReply,pI])
theorem T18_wrong {q n:Nat} {G:List (List Int)} (hc:Cd q n G) {w g:List Int} (hr:isRight q n w g=false) (hw:w.length<2^60) (hg:g.length<2^60) (r:Int) {τ:Type} (k:Nat→LS_→Option τ):T18 [.I q,.I n,.LL G,.L w,.L g,.I r] k=k 0 [.LL [],.I 1] :=
 T18_err0 (fun {τ} κ=>F18_wrong hc.fq n (by have:=hc.rows.few;omega) (short2 fun y hy=>by
  obtain ⟨i,hi,e⟩:=List.mem_iff_getElem.1 hy
  have:=(hc.rows.wd i hi).1
  rw [List.getD_eq_getElem?_getD,List.getElem?_eq_getElem hi] at this
  have n1:=hc.n1
  rw [←e]
  simp at this
  omega) hw hg hr r κ) k
theorem T20_wrong {q n:Nat} {G:List (List Int)} (hc:Cd q n G) {w g:List Int} (hr:isRight q n w g=false) (hw:w.length<2^60) (hg:g.length<2^60) (r:Int) {τ:Type} (k:Nat→LS_→Option τ):T20 [.I q,.I n,.LL G,.L w,.L g,.I r] k=k 0 [.I 0,.I 0,.L [],.LL [],.I 1] :=
 T20_err0 (fun {τ} κ=>F20_wrong hc.fq n (by have:=hc.rows.few;omega) (short2 fun y hy=>by
  obtain ⟨i,hi,e⟩:=List.mem_iff_getElem.1 hy
  have:=(hc.rows.wd i hi).1
  rw [List.getD_eq_getElem?_getD,List.getElem?_eq_getElem hi] at this
  have n1:=hc.n1
  rw [←e]
  simp at this
  omega) hw hg hr r κ) k
end
end Go.Proofs.Ytbpjicbpcfkpfaa.Ai
namespace Go.Proofs.Ytbpjicbpcfkpfaa.Ai
open Go Go.RowKit
noncomputable section
variable {τ:Type} (t:Nat) (nx ex:Nat→LS_→Option τ) (l:LS_) (k κ:Nat→LS_→Option τ)
def F3.ps:List PV2:=[pRaw34,pI,pNoisy]
def F3.sh:List PA:=[(PA.mk (PV3.v pB) [])]
def F3.O:Orc P:=⟨[T16.E,T17.E,T18.E,T19.E,T20.E,T21.E,F22.E,F23.E],[],[],40⟩
def F3:Option τ :=
 T16 []
 (fun j A=>(sw (br (!(gB A 0))
 (k 0 [.B false])
 (br (gtI (((List.length (gL l 8)):Nat):Int) 40)
 (k 0 [.B (gB A 0)])
 (br (gtI (((List.length (gL l 9)):Nat):Int) 40)
 (k 0 [.B (gB A 0)])
 (ck (((eqM (List.length (gL l 3)) (List.length (gL l 3)))&&((eqM (List.length (gL l 5)) (List.length (gL l 5)))&&true))&&true)
 (T17 [.I (gI l 0),.I (gI l 1),.I (gI l 2),.L (gL l 3),.I (gI l 4),.L (gL l 5),.I (gI l 6)]
 (fun j B=>(sw (ck (((eqM (List.length (gLL B 2)) (List.length (gLL B 2)))&&true)&&(((eqM (List.length (gL B 4)) (List.length (gL B 4)))&&((eqM (List.length (gL B 5)) (List.length (gL B 5)))&&true))&&true))
 (T18 [.I (gI B 0),.I (gI B 1),.LL (gLL B 2),.L (gL B 4),.L (gL B 5),.I (gI l 7)]
 (fun j C=>(sw (ck (((eqM (List.length (gLL B 2)) (List.length (gLL B 2)))&&true)&&(((eqM (List.length (gL B 4)) (List.length (gL B 4)))&&((eqM (List.length (gL B 5)) (List.length (gL B 5)))&&true))&&true))
 (T19 [.I (gI B 0),.I (gI B 1),.LL (gLL B 2),.L (gL B 4),.L (gL B 5),.I (gI l 7)]
 (fun j D=>(sw (ck (((eqM (List.length (gLL B 2)) (List.length (gLL B 2)))&&true)&&(((eqM (List.length (gL B 4)) (List.length (gL B 4)))&&((eqM (List.length (gL B 5)) (List.length (gL B 5)))&&true))&&true))
 (T20 [.I (gI B 0),.I (gI B 1),.LL (gLL B 2),.L (gL B 4),.L (gL B 5),.I (gI l 7)]
 (fun j E=>(sw (ck (((eqM (List.length (gLL B 2)) (List.length (gLL B 2)))&&true)&&(((eqM (List.length (gL B 4)) (List.length (gL B 4)))&&((eqM (List.length (gL B 5)) (List.length (gL B 5)))&&true))&&true))
 (T21 [.I (gI B 0),.I (gI B 1),.LL (gLL B 2),.L (gL B 4),.L (gL B 5),.I (gI l 7)]
 (fun j F=>(sw (br ((gI C 1) != (gI D 1))
 (k 0 [.B false])
 (br ((gI E 4) != (gI F 4))
 (k 0 [.B false])
 (ck ((eqM (List.length (gLL C 0)) (List.length (gLL C 0)))&&((eqM (List.length (gLL D 0)) (List.length (gLL D 0)))&&true))
 (F22 [.LL (gLL C 0),.LL (gLL D 0)]
 (fun j G=>(sw (br (!(gB G 0))
 (k 0 [.B false])
 (ck (((eqM (List.length (gL E 2)) (List.length (gL E 2)))&&((eqM (List.length (gLL E 3)) (List.length (gLL E 3)))&&true))&&(((eqM (List.length (gL F 2)) (List.length (gL F 2)))&&((eqM (List.length (gLL F 3)) (List.length (gLL F 3)))&&true))&&true))
 (F23 [.I (gI E 0),.I (gI E 1),.L (gL E 2),.LL (gLL E 3),.I (gI F 0),.I (gI F 1),.L (gL F 2),.LL (gLL F 3)]
 (fun j H=>(sw (br (!(gB H 0))
 (k 0 [.B false])
 (ck (((eqM (List.length (gLL B 2)) (List.length (gLL B 2)))&&true)&&(((eqM (List.length (gL l 8)) (List.length (gL l 8)))&&((eqM (List.length (gL l 9)) (List.length (gL l 9)))&&true))&&true))
 (T20 [.I (gI B 0),.I (gI B 1),.LL (gLL B 2),.L (gL l 8),.L (gL l 9),.I (gI l 7)]
 (fun j M=>(sw (ck (((eqM (List.length (gLL B 2)) (List.length (gLL B 2)))&&true)&&(((eqM (List.length (gL l 8)) (List.length (gL l 8)))&&((eqM (List.length (gL l 9)) (List.length (gL l 9)))&&true))&&true))
 (T21 [.I (gI B 0),.I (gI B 1),.LL (gLL B 2),.L (gL l 8),.L (gL l 9),.I (gI l 7)]
 (fun j N=>(sw (ck (((eqM (List.length (gLL B 2)) (List.length (gLL B 2)))&&true)&&(((eqM (List.length (gL l 8)) (List.length (gL l 8)))&&((eqM (List.length (gL l 9)) (List.length (gL l 9)))&&true))&&true))
 (T18 [.I (gI B 0),.I (gI B 1),.LL (gLL B 2),.L (gL l 8),.L (gL l 9),.I (gI l 7)]
 (fun j Q=>(sw (br ((gI M 4)==(gI N 4))
 (br ((gI Q 1)==(gI N 4))
 (ck (((eqM (List.length (gL M 2)) (List.length (gL M 2)))&&((eqM (List.length (gLL M 3)) (List.length (gLL M 3)))&&true))&&(((eqM (List.length (gL N 2)) (List.length (gL N 2)))&&((eqM (List.length (gLL N 3)) (List.length (gLL N 3)))&&true))&&true))
 (F23 [.I (gI M 0),.I (gI M 1),.L (gL M 2),.LL (gLL M 3),.I (gI N 0),.I (gI N 1),.L (gL N 2),.LL (gLL N 3)]
 (fun j S=>(sw (br (gB S 0)
 (k 0 [.B (gB A 0)])
 (k 0 [.B false]))
 (fun _=>none)) j)))
 (k 0 [.B false]))
 (k 0 [.B false]))
 (fun _=>none)) j)))
 (fun _=>none)) j)))
 (fun _=>none)) j))))
 (fun _=>none)) j))))
 (fun _=>none)) j)))))
 (fun _=>none)) j)))
 (fun _=>none)) j)))
 (fun _=>none)) j)))
 (fun _=>none)) j)))
 (fun _=>none)) j))))))
 (fun _=>none)) j)
theorem F3.eq:FEq F3.O 3 F3.ps F3.sh F3:=by intro τ l κ;kernel_rfl
def F3.E:Ent P:=mkF F3.eq
end
end Go.Proofs.Ytbpjicbpcfkpfaa.Ai
namespace Go.Proofs.Ytbpjicbpcfkpfaa.Ai
open Go Ma
noncomputable section
theorem ok_i64 {x:Leaf} (h:okLeaf (.arr (.i .i64)) x):∃ l,x=.L l:=by
 obtain ⟨l,e,_⟩:=ok_arr h
 exact ⟨l,e⟩
end
end Go.Proofs.Ytbpjicbpcfkpfaa.Ai
namespace Go.Proofs.Ytbpjicbpcfkpfaa.Ai
open Go Go.RowKit
noncomputable section
variable {τ:Type} (t:Nat) (nx ex:Nat→LS_→Option τ) (l:LS_) (k κ:Nat→LS_→Option τ)
def L7_9.H:LHead:=⟨false,true,0,28681,28681,1940,916,0,[(PS.mk (us 2 (pI::us 1 ((pp 0)::us 2 (pB::(pp 1)::pB::pI::us 186 [])))) [(oG [qR,qR]),(oG [pI,pI,qM,qR,qR,qR,pI])])],[((Out.exit 0),(PS.mk (us 2 (pI::us 1 ((pp 0)::us 2 (pB::(pp 1)::pB::us 187 [])))) [(oG [qR,qR]),(oG [pI,pI,qM,qR,qR,qR,pI])]))]⟩
def L7_9.O:Orc P:=⟨[],[],[],40⟩
def L7_9.s0:Option τ :=
 br (ltI (gI l 3) (gN l 6))
 (br (gB l 2)
 (ck (((leI 0 (gI l 3))&&(ltI (gI l 3) (gN l 6)))&&true)
 (ck (ltN ((Int.toNat (gI l 3))*1) (List.length (gL l 7)))
 (br (geI (List.getD (gL l 7) ((Int.toNat (gI l 3))*1) 0) 0)
 (ck (((leI 0 (gI l 3))&&(ltI (gI l 3) (gN l 6)))&&true)
 (ck (ltN ((Int.toNat (gI l 3))*1) (List.length (gL l 7)))
 (br (ltI (List.getD (gL l 7) ((Int.toNat (gI l 3))*1) 0) (gI l 9))
 (br ((gI l 3)==0)
 (nx 0 [.I (gI l 0),.B (gB l 1),.B true,.I (wr .i64 ((gI l 3)+1)),.N (gN l 4),.L (gL l 5),.N (gN l 6),.L (gL l 7),.I (gI l 8),.I (gI l 9),.N (gN l 10),.LL (gLL l 11),.N (gN l 12),.L (gL l 13),.N (gN l 14),.L (gL l 15),.N (gN l 16),.L (gL l 17),.I (gI l 18)])
 (ck (((leI 0 (wr .i64 ((gI l 3)-1)))&&(ltI (wr .i64 ((gI l 3)-1)) (((gN l 6):Nat):Int)))&&true)
 (ck (ltN ((Int.toNat (wr .i64 ((gI l 3)-1)))*1) (List.length (gL l 7)))
 (ck (((leI 0 (gI l 3))&&(ltI (gI l 3) (gN l 6)))&&true)
 (ck (ltN ((Int.toNat (gI l 3))*1) (List.length (gL l 7)))
 (nx 0 [.I (gI l 0),.B (gB l 1),.B (ltI (List.getD (gL l 7) ((Int.toNat (wr .i64 ((gI l 3)-1)))*1) 0) (List.getD (gL l 7) ((Int.toNat (gI l 3))*1) 0)),.I (wr .i64 ((gI l 3)+1)),.N (gN l 4),.L (gL l 5),.N (gN l 6),.L (gL l 7),.I (gI l 8),.I (gI l 9),.N (gN l 10),.LL (gLL l 11),.N (gN l 12),.L (gL l 13),.N (gN l 14),.L (gL l 15),.N (gN l 16),.L (gL l 17),.I (gI l 18)]))))))
 (nx 0 [.I (gI l 0),.B (gB l 1),.B false,.I (wr .i64 ((gI l 3)+1)),.N (gN l 4),.L (gL l 5),.N (gN l 6),.L (gL l 7),.I (gI l 8),.I (gI l 9),.N (gN l 10),.LL (gLL l 11),.N (gN l 12),.L (gL l 13),.N (gN l 14),.L (gL l 15),.N (gN l 16),.L (gL l 17),.I (gI l 18)]))))
 (nx 0 [.I (gI l 0),.B (gB l 1),.B false,.I (wr .i64 ((gI l 3)+1)),.N (gN l 4),.L (gL l 5),.N (gN l 6),.L (gL l 7),.I (gI l 8),.I (gI l 9),.N (gN l 10),.LL (gLL l 11),.N (gN l 12),.L (gL l 13),.N (gN l 14),.L (gL l 15),.N (gN l 16),.L (gL l 17),.I (gI l 18)]))))
 (nx 0 [.I (gI l 0),.B (gB l 1),.B false,.I (wr .i64 ((gI l 3)+1)),.N (gN l 4),.L (gL l 5),.N (gN l 6),.L (gL l 7),.I (gI l 8),.I (gI l 9),.N (gN l 10),.LL (gLL l 11),.N (gN l 12),.L (gL l 13),.N (gN l 14),.L (gL l 15),.N (gN l 16),.L (gL l 17),.I (gI l 18)]))
 (ex 0 [.I (gI l 0),.B (gB l 1),.B (gB l 2),.N (gN l 4),.L (gL l 5),.N (gN l 6),.L (gL l 7),.I (gI l 8),.I (gI l 9),.N (gN l 10),.LL (gLL l 11),.N (gN l 12),.L (gL l 13),.N (gN l 14),.L (gL l 15),.N (gN l 16),.L (gL l 17),.I (gI l 18)])
theorem L7_9.e0:LEq L7_9.O L7_9.H 0 L7_9.s0:=by intro τ next κ l;kernel_rfl
def L7_9:LStep P Cf:=LStep.mk1 (by decide) L7_9.e0
def L7_9.b:Option τ:=runE L7_9 fuel κ t l
def L7_9.E:LEnt P:=LStep.E L7_9
def F7.ps:List PV2:=[pRaw34,pNoisy,pI]
def F7.sh:List PA:=[(PA.mk (PV3.v pB) [])]
def F7.O:Orc P:=⟨[T16.E,T17.E,F31.E,T18.E,T20.E,F32.E,T33.E],[L7_9.E],[],40⟩
def F7:Option τ :=
 T16 []
 (fun j A=>(sw (br (!(gB A 0))
 (k 0 [.B false])
 (br (gtI (((List.length (gL l 7)):Nat):Int) 40)
 (k 0 [.B (gB A 0)])
 (br (gtI (((List.length (gL l 8)):Nat):Int) 40)
 (k 0 [.B (gB A 0)])
 (ck (((eqM (List.length (gL l 3)) (List.length (gL l 3)))&&((eqM (List.length (gL l 5)) (List.length (gL l 5)))&&true))&&true)
 (T17 [.I (gI l 0),.I (gI l 1),.I (gI l 2),.L (gL l 3),.I (gI l 4),.L (gL l 5),.I (gI l 6)]
 (fun j B=>(sw (ck ((eqM (List.length (gL l 7)) (List.length (gL l 7)))&&true)
 (F31 [.I (gI B 0),.I (gI B 1),.L (gL l 7)]
 (fun j C=>(sw (L7_9.b 0 [.I (gI l 9),.B (gB A 0),.B (gB C 0),.I 0,.N (List.length (gL l 7)),.L (gL l 7),.N (List.length (gL l 8)),.L (gL l 8),.I (gI B 0),.I (gI B 1),.N (List.length (gLL B 2)),.LL (gLL B 2),.N (List.length (gL B 3)),.L (gL B 3),.N (List.length (gL B 4)),.L (gL B 4),.N (List.length (gL B 5)),.L (gL B 5),.I (gI B 6)]
 (fun j D=>(sw (ck (((eqM (gN D 9) (List.length (gLL D 10)))&&true)&&(((eqM (gN D 3) (List.length (gL D 4)))&&((eqM (gN D 5) (List.length (gL D 6)))&&true))&&true))
 (T18 [.I (gI D 7),.I (gI D 8),.LL (gLL D 10),.L (gL D 4),.L (gL D 6),.I (gI D 0)]
 (fun j E=>(sw (ck (((eqM (gN D 9) (List.length (gLL D 10)))&&true)&&(((eqM (gN D 3) (List.length (gL D 4)))&&((eqM (gN D 5) (List.length (gL D 6)))&&true))&&true))
 (T20 [.I (gI D 7),.I (gI D 8),.LL (gLL D 10),.L (gL D 4),.L (gL D 6),.I (gI D 0)]
 (fun j F=>(sw (br (!(((gI E 1)==0)==(gB D 2)))
 (k 0 [.B false])
 (br ((gI F 4) != (gI E 1))
 (k 0 [.B false])
 (br ((gI E 1) != 0)
 (br ((gI E 1) != 1)
 (k 0 [.B false])
 (br (gtI (((List.length (gLL E 0)):Nat):Int) 0)
 (k 0 [.B false])
 (br ((gI F 0) != 0)
 (k 0 [.B false])
 (br (ltI (gI D 0) 0)
 (br (gtI (((List.length (gLL E 0)):Nat):Int) 0)
 (k 0 [.B false])
 (F32 [.I (gI D 8)]
 (fun j G=>(sw (ck ((eqM (gN G 0) (List.length (List.take ((gN G 0)*1) (List.drop 0 (gL G 1)))))&&true)
 (ck (((((eqM 1 1)&&true)&&(eqM (List.length (gLL D 10)) ((gN D 9)*1)))&&(leN ((1+(gN D 9))*25) 1099511627776))&&true)
 (ck (((eqM (1+(gN D 9)) (List.length (List.take ((1+(gN D 9))*1) (List.drop 0 ((List.take ((gN G 0)*1) (List.drop 0 (gL G 1)))::(gLL D 10))))))&&true)&&(((eqM (gN D 13) (List.length (gL D 14)))&&((eqM (gN D 15) (List.length (gL D 16)))&&true))&&true))
 (T20 [.I (gI D 7),.I (gI D 8),.LL (List.take ((1+(gN D 9))*1) (List.drop 0 ((List.take ((gN G 0)*1) (List.drop 0 (gL G 1)))::(gLL D 10)))),.L (gL D 14),.L (gL D 16),.I 1]
 (fun j H=>(sw (T33 [.I 2,.I 13,.LL []]
 (fun j M=>(sw (F32 [.I 13]
 (fun j N=>(sw (ck (((eqM (List.length (gLL M 2)) (List.length (gLL M 2)))&&true)&&(((eqM (gN N 0) (List.length (List.take ((gN N 0)*1) (List.drop 0 (gL N 1)))))&&true)&&true))
 (T20 [.I (gI M 0),.I (gI M 1),.LL (gLL M 2),.L (List.take ((gN N 0)*1) (List.drop 0 (gL N 1))),.L [],.I 0]
 (fun j Q=>(sw (F32 [.I 13]
 (fun j S=>(sw (ck (((eqM (List.length (gLL M 2)) (List.length (gLL M 2)))&&true)&&(((eqM (gN S 0) (List.length (List.take ((gN S 0)*1) (List.drop 0 (gL S 1)))))&&true)&&true))
 (T18 [.I (gI M 0),.I (gI M 1),.LL (gLL M 2),.L (List.take ((gN S 0)*1) (List.drop 0 (gL S 1))),.L [],.I 0]
 (fun j T=>(sw (br ((gI H 4)==1)
 (br ((gI Q 4)==2)
 (br ((gI T 1)==2)
 (k 0 [.B (gB D 1)])
 (k 0 [.B false]))
 (k 0 [.B false]))
 (k 0 [.B false]))
 (fun _=>none)) j)))
 (fun _=>none)) j))
 (fun _=>none)) j)))
 (fun _=>none)) j))
 (fun _=>none)) j))
 (fun _=>none)) j)))))
 (fun _=>none)) j)))
 (F32 [.I (gI D 8)]
 (fun j G=>(sw (ck ((eqM (gN G 0) (List.length (List.take ((gN G 0)*1) (List.drop 0 (gL G 1)))))&&true)
 (ck (((((eqM 1 1)&&true)&&(eqM (List.length (gLL D 10)) ((gN D 9)*1)))&&(leN ((1+(gN D 9))*25) 1099511627776))&&true)
 (ck (((eqM (1+(gN D 9)) (List.length (List.take ((1+(gN D 9))*1) (List.drop 0 ((List.take ((gN G 0)*1) (List.drop 0 (gL G 1)))::(gLL D 10))))))&&true)&&(((eqM (gN D 13) (List.length (gL D 14)))&&((eqM (gN D 15) (List.length (gL D 16)))&&true))&&true))
 (T20 [.I (gI D 7),.I (gI D 8),.LL (List.take ((1+(gN D 9))*1) (List.drop 0 ((List.take ((gN G 0)*1) (List.drop 0 (gL G 1)))::(gLL D 10)))),.L (gL D 14),.L (gL D 16),.I 1]
 (fun j H=>(sw (T33 [.I 2,.I 13,.LL []]
 (fun j M=>(sw (F32 [.I 13]
 (fun j N=>(sw (ck (((eqM (List.length (gLL M 2)) (List.length (gLL M 2)))&&true)&&(((eqM (gN N 0) (List.length (List.take ((gN N 0)*1) (List.drop 0 (gL N 1)))))&&true)&&true))
 (T20 [.I (gI M 0),.I (gI M 1),.LL (gLL M 2),.L (List.take ((gN N 0)*1) (List.drop 0 (gL N 1))),.L [],.I 0]
 (fun j Q=>(sw (F32 [.I 13]
 (fun j S=>(sw (ck (((eqM (List.length (gLL M 2)) (List.length (gLL M 2)))&&true)&&(((eqM (gN S 0) (List.length (List.take ((gN S 0)*1) (List.drop 0 (gL S 1)))))&&true)&&true))
 (T18 [.I (gI M 0),.I (gI M 1),.LL (gLL M 2),.L (List.take ((gN S 0)*1) (List.drop 0 (gL S 1))),.L [],.I 0]
 (fun j T=>(sw (br ((gI H 4)==1)
 (br ((gI Q 4)==2)
 (br ((gI T 1)==2)
 (k 0 [.B (gB D 1)])
 (k 0 [.B false]))
 (k 0 [.B false]))
 (k 0 [.B false]))
 (fun _=>none)) j)))
 (fun _=>none)) j))
 (fun _=>none)) j)))
 (fun _=>none)) j))
 (fun _=>none)) j))
 (fun _=>none)) j)))))
 (fun _=>none)) j))))))
 (br (ltI (gI D 0) 0)
 (br (gtI (((List.length (gLL E 0)):Nat):Int) 0)
 (k 0 [.B false])
 (F32 [.I (gI D 8)]
 (fun j G=>(sw (ck ((eqM (gN G 0) (List.length (List.take ((gN G 0)*1) (List.drop 0 (gL G 1)))))&&true)
 (ck (((((eqM 1 1)&&true)&&(eqM (List.length (gLL D 10)) ((gN D 9)*1)))&&(leN ((1+(gN D 9))*25) 1099511627776))&&true)
 (ck (((eqM (1+(gN D 9)) (List.length (List.take ((1+(gN D 9))*1) (List.drop 0 ((List.take ((gN G 0)*1) (List.drop 0 (gL G 1)))::(gLL D 10))))))&&true)&&(((eqM (gN D 13) (List.length (gL D 14)))&&((eqM (gN D 15) (List.length (gL D 16)))&&true))&&true))
 (T20 [.I (gI D 7),.I (gI D 8),.LL (List.take ((1+(gN D 9))*1) (List.drop 0 ((List.take ((gN G 0)*1) (List.drop 0 (gL G 1)))::(gLL D 10)))),.L (gL D 14),.L (gL D 16),.I 1]
 (fun j H=>(sw (T33 [.I 2,.I 13,.LL []]
 (fun j M=>(sw (F32 [.I 13]
 (fun j N=>(sw (ck (((eqM (List.length (gLL M 2)) (List.length (gLL M 2)))&&true)&&(((eqM (gN N 0) (List.length (List.take ((gN N 0)*1) (List.drop 0 (gL N 1)))))&&true)&&true))
 (T20 [.I (gI M 0),.I (gI M 1),.LL (gLL M 2),.L (List.take ((gN N 0)*1) (List.drop 0 (gL N 1))),.L [],.I 0]
 (fun j Q=>(sw (F32 [.I 13]
 (fun j S=>(sw (ck (((eqM (List.length (gLL M 2)) (List.length (gLL M 2)))&&true)&&(((eqM (gN S 0) (List.length (List.take ((gN S 0)*1) (List.drop 0 (gL S 1)))))&&true)&&true))
 (T18 [.I (gI M 0),.I (gI M 1),.LL (gLL M 2),.L (List.take ((gN S 0)*1) (List.drop 0 (gL S 1))),.L [],.I 0]
 (fun j T=>(sw (br ((gI H 4)==1)
 (br ((gI Q 4)==2)
 (br ((gI T 1)==2)
 (k 0 [.B (gB D 1)])
 (k 0 [.B false]))
 (k 0 [.B false]))
 (k 0 [.B false]))
 (fun _=>none)) j)))
 (fun _=>none)) j))
 (fun _=>none)) j)))
 (fun _=>none)) j))
 (fun _=>none)) j))
 (fun _=>none)) j)))))
 (fun _=>none)) j)))
 (F32 [.I (gI D 8)]
 (fun j G=>(sw (ck ((eqM (gN G 0) (List.length (List.take ((gN G 0)*1) (List.drop 0 (gL G 1)))))&&true)
 (ck (((((eqM 1 1)&&true)&&(eqM (List.length (gLL D 10)) ((gN D 9)*1)))&&(leN ((1+(gN D 9))*25) 1099511627776))&&true)
 (ck (((eqM (1+(gN D 9)) (List.length (List.take ((1+(gN D 9))*1) (List.drop 0 ((List.take ((gN G 0)*1) (List.drop 0 (gL G 1)))::(gLL D 10))))))&&true)&&(((eqM (gN D 13) (List.length (gL D 14)))&&((eqM (gN D 15) (List.length (gL D 16)))&&true))&&true))
 (T20 [.I (gI D 7),.I (gI D 8),.LL (List.take ((1+(gN D 9))*1) (List.drop 0 ((List.take ((gN G 0)*1) (List.drop 0 (gL G 1)))::(gLL D 10)))),.L (gL D 14),.L (gL D 16),.I 1]
 (fun j H=>(sw (T33 [.I 2,.I 13,.LL []]
 (fun j M=>(sw (F32 [.I 13]
 (fun j N=>(sw (ck (((eqM (List.length (gLL M 2)) (List.length (gLL M 2)))&&true)&&(((eqM (gN N 0) (List.length (List.take ((gN N 0)*1) (List.drop 0 (gL N 1)))))&&true)&&true))
 (T20 [.I (gI M 0),.I (gI M 1),.LL (gLL M 2),.L (List.take ((gN N 0)*1) (List.drop 0 (gL N 1))),.L [],.I 0]
 (fun j Q=>(sw (F32 [.I 13]
 (fun j S=>(sw (ck (((eqM (List.length (gLL M 2)) (List.length (gLL M 2)))&&true)&&(((eqM (gN S 0) (List.length (List.take ((gN S 0)*1) (List.drop 0 (gL S 1)))))&&true)&&true))
 (T18 [.I (gI M 0),.I (gI M 1),.LL (gLL M 2),.L (List.take ((gN S 0)*1) (List.drop 0 (gL S 1))),.L [],.I 0]
 (fun j T=>(sw (br ((gI H 4)==1)
 (br ((gI Q 4)==2)
 (br ((gI T 1)==2)
 (k 0 [.B (gB D 1)])
 (k 0 [.B false]))
 (k 0 [.B false]))
 (k 0 [.B false]))
 (fun _=>none)) j)))
 (fun _=>none)) j))
 (fun _=>none)) j)))
 (fun _=>none)) j))
 (fun _=>none)) j))
 (fun _=>none)) j)))))
 (fun _=>none)) j))))))
 (fun _=>none)) j)))
 (fun _=>none)) j)))
 (fun _=>none)) j))
 (fun _=>none)) j)))
 (fun _=>none)) j))))))
 (fun _=>none)) j)
theorem F7.eq:FEq F7.O 7 F7.ps F7.sh F7:=by intro τ l κ;kernel_rfl
def F7.E:Ent P:=mkF F7.eq
end
end Go.Proofs.Ytbpjicbpcfkpfaa.Ai
namespace Go.Proofs.Ytbpjicbpcfkpfaa.Ai
open Go Ma
noncomputable section
theorem L7_9_spec {n:Nat} (q:Int) (R E:Int) (zw s w:List Int) (G:List (List Int)) (g0:List Int) {g:List Int} (hs:g.length<2^60) {τ:Type} (κ:Nat→LS_→Option τ):∀ (f i:Nat) (b b':Bool),i≤g.length→g.length<f+i→(b'=true↔b=true∧∀ k,i≤k→k<g.length→Gn n g k) →
  runE L7_9 f κ 0 [.I R,.B true,.B b,.I i,.N zw.length,.L zw,.N g.length,.L g,.I q,.I n,.N G.length,.LL G,.N s.length,.L s,.N w.length,.L w,.N g0.length,.L g0,.I E]
   = κ 0 [.I R,.B true,.B b',.N zw.length,.L zw,.N g.length,.L g,.I q,.I n,.N G.length,.LL G,.N s.length,.L s,.N w.length,.L w,.N g0.length,.L g0,.I E]
 | 0,i,b,b',h1,h2,h3=>by omega
 | f+1,i,b,b',h1,h2,h3=>by
  rw [runE_succ]
  show L7_9.s0 _ _ _=_
  unfold L7_9.s0
  simp only [g_,Int.toNat_natCast,Nat.mul_one]
  by_cases hi:i<g.length
  ·rw [br_of (by simp;omega)]
   have go:∀ b1:Bool,(b1=true↔b=true∧Gn n g i)→runE L7_9 f κ 0 [.I R,.B true,.B b1,.I (wr .i64 ((i:Int)+1)),.N zw.length,.L zw,.N g.length,.L g,.I q,.I n,.N G.length,.LL G,.N s.length,.L s,.N w.length,.L w,.N g0.length,.L g0,.I E]
     = κ 0 [.I R,.B true,.B b',.N zw.length,.L zw,.N g.length,.L g,.I q,.I n,.N G.length,.LL G,.N s.length,.L s,.N w.length,.L w,.N g0.length,.L g0,.I E]:=fun b1 hb=>by
    rw [wsucc (j:=i) (by omega)]
    refine L7_9_spec q R E zw s w G g0 hs κ f (i+1) b1 b' (by omega) (by omega) (h3.trans ?_)
    rw [hb]
    refine ⟨fun h=>⟨⟨h.1,h.2 i (Nat.le_refl _) hi⟩,fun k hk hl=>h.2 k (by omega) hl⟩,fun h=>⟨h.1.1,fun k hk hl=>?_⟩⟩
    rcases Nat.eq_or_lt_of_le hk with e | e
    ·subst e;exact h.1.2
    ·exact h.2 k e hl
   cases b with
   | false=>rw [br_no rfl];exact go false (by simp)
   | true =>
    rw [br_of rfl,ck_of (by simp;omega),ck_of (by simp;omega)]
    by_cases c1:g.getD i 0≥0
    ·rw [br_of (by simpa using c1),ck_of (by simp;omega),ck_of (by simp;omega)]
     by_cases c2:g.getD i 0<n
     ·rw [br_of (by simpa using c2)]
      by_cases c3:i=0
      ·rw [br_of (by simpa using c3)]
       exact go true (by simp only [true_and,true_iff];exact ⟨c1,c2,fun h=>by omega⟩)
      ·have e:wr .i64 ((i:Int)-1)=((i-1:Nat):Int):=by rw [wr64 (by omega) (by omega)];omega
       rw [br_no (by simpa using c3),e,Int.toNat_natCast,ck_of (by simp;omega),ck_of (by simp;omega),ck_of (by simp;omega),ck_of (by simp;omega)]
       refine go _ ?_
       simp only [ltI_iff,true_and]
       exact ⟨fun h=>⟨c1,c2,fun _=>h⟩,fun h=>h.2.2 (by omega)⟩
     ·rw [br_no (by simp only [ltI_no];exact c2)]
      exact go false (by simp only [Bool.false_eq_true,true_and,false_iff];exact fun h=>c2 h.2.1)
    ·rw [br_no (by simp only [geI_no];exact c1)]
     exact go false (by simp only [Bool.false_eq_true,true_and,false_iff];exact fun h=>c1 h.1)
  ·have e:i=g.length:=by omega
   subst e
   have:b'=b:=by
    cases b with
    | false=>exact Bool.eq_false_iff.2 fun e=>by simpa using (h3.1 e).1
    | true=>exact h3.2 ⟨rfl,fun k hk hl=>by omega⟩
   rw [br_no (by simp),this]
theorem odd_valid {q n:Nat} (hq:q∈Qs) (G:List (List Int)):validB q n (List.replicate n 0::G)=false:=by
 rcases hv:validB q n (List.replicate n 0::G) with _ | _
 ·rfl
 ·exfalso
  unfold validB at hv
  simp only [Bool.and_eq_true,decide_eq_true_eq,Int.toNat_natCast] at hv
  obtain ⟨_,_,_,h4,h5⟩:=hv
  have F:=fld q hq
  obtain ⟨piv,R,_⟩:=reduce_rref (n:=n) F (m:=List.replicate n 0::G) fun i hi=>by
   have:=isWord_iff.1 (allWord_iff.1 h4 i (by omega) hi)
   exact ⟨by omega,fun j hj=>this.2 j (by omega) (by omega)⟩
  unfold reduce at R
  rw [←h5] at R
  have:=R.one 0 (by simp)
  unfold ent at this
  rw [List.getD_cons_zero,List.getD_eq_getElem?_getD,List.getElem?_replicate] at this
  split at this <;> simp at this
theorem lc13:Lc 2 13 [] where
 fq:=by decide
 n0:=by omega
 n1:=by omega
 form:=⟨fun _=>0,⟨fun i hi=>by simp at hi,fun i hi=>by simp at hi,fun i j _ hj=>by simp at hj,fun i hi=>by simp at hi,fun i k hi=>by simp at hi,fun i j hi=>by simp at hi⟩⟩
theorem valid13:validB 2 13 (dualR 2 13 [])=true:=by kernel_rfl
theorem len13:(dualR 2 13 []).length=13:=by kernel_rfl
theorem wds13:(dualR 2 13 []).all (fun r=>decide (r.length=13))=true:=by kernel_rfl
theorem right13:isRight 2 13 (List.replicate 13 0) []=true:=by kernel_rfl
theorem F7_tail {q n:Nat} {G:List (List Int)} {s w g:List Int} (h:Cs q n G s w g) {τ:Type} (k:Nat→LS_→Option τ) :
    (F32 [.I (n:Int)]
     (fun j l7=>(sw (ck ((eqM (gN l7 0) (List.length (List.take ((gN l7 0)*1) (List.drop 0 (gL l7 1)))))&&true)
     (ck (((((eqM 1 1)&&true)&&(eqM (List.length G) (G.length*1)))&&(leN ((1+G.length)*25) 1099511627776))&&true)
     (ck ((true&&(true&&((eqM (1+G.length) (List.length (List.take ((1+G.length)*1) (List.drop 0 ((List.take ((gN l7 0)*1) (List.drop 0 (gL l7 1)))::G)))))&&true)))&&(((eqM w.length (List.length w))&&((eqM g.length (List.length g))&&true))&&true))
     (T20 [.I (q:Int),.I (n:Int),.LL (List.take ((1+G.length)*1) (List.drop 0 ((List.take ((gN l7 0)*1) (List.drop 0 (gL l7 1)))::G))),.L w,.L g,.I (1:Int)]
     (fun j l8=>(sw (T33 [.I (2:Int),.I (13:Int),.LL []]
     (fun j l9=>(sw (F32 [.I (13:Int)]
     (fun j l10=>(sw (ck ((true&&(true&&((eqM (List.length (gLL l9 2)) (List.length (gLL l9 2)))&&true)))&&(((eqM (gN l10 0) (List.length (List.take ((gN l10 0)*1) (List.drop 0 (gL l10 1)))))&&true)&&true))
     (T20 [.I (gI l9 0),.I (gI l9 1),.LL (gLL l9 2),.L (List.take ((gN l10 0)*1) (List.drop 0 (gL l10 1))),.L [],.I (0:Int)]
     (fun j l11=>(sw (F32 [.I (13:Int)]
     (fun j l12=>(sw (ck ((true&&(true&&((eqM (List.length (gLL l9 2)) (List.length (gLL l9 2)))&&true)))&&(((eqM (gN l12 0) (List.length (List.take ((gN l12 0)*1) (List.drop 0 (gL l12 1)))))&&true)&&true))
     (T18 [.I (gI l9 0),.I (gI l9 1),.LL (gLL l9 2),.L (List.take ((gN l12 0)*1) (List.drop 0 (gL l12 1))),.L [],.I (0:Int)]
     (fun j l13=>(sw (br ((gI l8 4)==(1:Int))
     (br ((gI l11 4)==(2:Int))
     (br ((gI l13 1)==(2:Int))
     (k 0 [.B true])
     (k 0 [.B false]))
     (k 0 [.B false]))
     (k 0 [.B false]))
     (fun _=>none)) j)))
     (fun _=>none)) j))
     (fun _=>none)) j)))
     (fun _=>none)) j))
     (fun _=>none)) j))
     (fun _=>none)) j)))))
     (fun _=>none)) j))=k 0 [.B true]:=by
  have n1:=h.cd.n1
  have hG:=h.cd.len_le
  have hl:∀ i,((dualR 2 13 []).getD i []).length<2^60:=short2 fun r hr=>by
    have:=of_decide_eq_true (List.all_eq_true.1 wds13 r hr)
    omega
  rw [F32_spec (by omega)]
  simp only [sw_zero,gN_zero,gL_succ,gL_zero,Nat.mul_one,List.drop_zero]
  have e1:List.take n (List.replicate n (0:Int))=List.replicate n 0:=List.take_of_length_le (by simp)
  have e2:List.take (1+G.length) (List.replicate n (0:Int)::G)=List.replicate n 0::G:=List.take_of_length_le (by simp;omega)
  have e3:List.take 13 (List.replicate 13 (0:Int))=List.replicate 13 0:=List.take_of_length_le (by simp)
  rw [e1,e2,ck_of (by simp),ck_of (by simp;omega),ck_of (by simp;omega)]
  rw [T20_err0 (fun {τ} κ=>F20_invalid h.cd.fq n (by simp;omega) (fun i=>by
    cases i with
    | zero=>simp;omega
    | succ i =>
      rw [List.getD_cons_succ]
      exact short2 (fun r hr=>by
        obtain ⟨i,hi,rfl⟩:=List.getElem_of_mem hr
        have:=(h.cd.rows.wd i hi).1
        rw [List.getD_eq_getElem?_getD,List.getElem?_eq_getElem hi] at this
        simp at this
        omega) i) (odd_valid h.cd.fq G) w g 1 κ)]
  simp only [sw_zero,gI_succ,gI_zero]
  rw [show T33 [.I 2,.I 13,.LL []]=fun (k:Nat→LS_→Option τ)=>k 0 [.I 2,.I 13,.LL (dualR 2 13 [])] from funext fun k=>T33_spec lc13 k]
  simp only [g_,sw_zero]
  rw [show F32 [.I 13]=fun (k:Nat→LS_→Option τ)=>k 0 [.N 13,.L (List.replicate 13 0)] from funext fun k=>F32_spec (n:=13) (by omega) k]
  simp only [sw_zero,gN_zero,gL_succ,gL_zero,Nat.mul_one,List.drop_zero]
  rw [e3,ck_of (by simp),T20_err1 (ls:=[.I 2,.I 13,.LL (dualR 2 13 []),.L (List.replicate 13 0),.L [],.I 0]) (fun {τ} κ=>F20_big (q:=2) (by decide) 13 (by rw [len13];omega) hl valid13 (by simp) (by simp) right13 (by rw [len13];omega) 0 κ)]
  simp only [sw_zero,gI_succ,gI_zero]
  rw [ck_of (by simp),T18_err1 (ls:=[.I 2,.I 13,.LL (dualR 2 13 []),.L (List.replicate 13 0),.L [],.I 0]) (fun {τ} κ=>F18_big (q:=2) (by decide) 13 (by rw [len13];omega) hl valid13 (by simp) (by simp) right13 (by rw [len13];omega) 0 κ)]
  simp only [sw_zero,gI_succ,gI_zero]
  rfl
theorem winR_neg {q n:Nat} {G:List (List Int)} {w g:List Int} {r:Int} (hr:r<0):winR q n G w g r=[]:=by
 unfold winR
 refine List.filter_eq_nil_iff.2 fun y _=>?_
 simp
 omega
theorem F7_true {ls:LS_} (h:okLs [.int .u8,.int .u8,.int .u8,.arr (.i .u8),.int .u16,.arr (.i .u8),.int .u16,.arr (.i .i64),.arr (.i .i64),.int .i64] ls) {τ:Type} (k:Nat→LS_→Option τ):F7 ls k=k 0 [.B true]:=by
 have hfu:=fuel_le
 obtain ⟨Q,N,K,L,num,H,gone,l1,rfl,hQ,hN,hK,hL,hu,hH,h1⟩:=raw34 h
 obtain ⟨x,l3,rfl,a2,h3⟩:=okLs_cons h1
 obtain ⟨zw,rfl⟩:=ok_i64 a2
 obtain ⟨x,l4,rfl,a3,h4⟩:=okLs_cons h3
 obtain ⟨zg,rfl⟩:=ok_i64 a3
 obtain ⟨x,l2,rfl,a1,h2⟩:=okLs_cons h4
 obtain ⟨r,rfl,_⟩:=ok_int a1
 obtain rfl:=okLs_nil h2
 obtain ⟨q,n,G,s,w,g,hc,hs,hw,hg,hT⟩:=T17_spec gone hQ hN hK hL hu hH
 have C:Cs q n G s w g:=⟨hc,hs,hw,hg⟩
 have n1:=hc.n1
 have tail:=F7_tail C k
 unfold F7
 rw [T16_spec]
 simp only [g_,sw_zero]
 rw [br_no (b:=!true) rfl]
 by_cases b1:(zw.length:Int)>40
 ·rw [br_of (by simpa using b1)]
 rw [br_no (by simpa using b1)]
 by_cases b2:(zg.length:Int)>40
 ·rw [br_of (by simpa using b2)]
 rw [br_no (by simpa using b2),ck_of (by simp),hT]
 simp only [g_,sw_zero]
 rw [ck_of (by simp),F31_spec _ _ (by omega)]
 simp only [sw_zero,gB_zero]
 unfold L7_9.b
 refine (L7_9_spec q r _ zw s w G g (g:=zg) (by omega) _ fuel 0 (isWord q n zw) (isRight q n zw zg) (by omega) (by omega) (by unfold isRight;rw [Bool.and_eq_true,isGone_iff])).trans ?_
 simp only [g_,sw_zero]
 by_cases hr:isRight q n zw zg=true
 ·rw [ck_of (by simp),T18_ok hc hr (by omega)]
  simp only [sw_zero]
  rw [ck_of (by simp),T20_ok hc hr (by omega)]
  simp only [g_,sw_zero]
  rw [hr,br_no (by rfl),br_no (by rfl),br_no (by rfl)]
  by_cases h0:r<0
  ·rw [br_of (by simpa using h0),winR_neg h0,br_no (by rfl)]
   exact tail
  ·rw [br_no (by simp only [ltI_no];exact h0)]
   exact tail
 ·have hr:=Bool.eq_false_iff.2 hr
  rw [ck_of (by simp),T18_wrong hc hr (by omega) (by omega)]
  simp only [sw_zero]
  rw [ck_of (by simp),T20_wrong hc hr (by omega) (by omega)]
  simp only [g_,sw_zero]
  rw [hr,br_no (by rfl),br_no (by rfl),br_of (by rfl),br_no (by rfl),br_no (by rfl),br_no (by rfl)]
  by_cases h0:r<0
  ·rw [br_of (by simpa using h0),br_no (by rfl)]
   exact tail
  ·rw [br_no (by simp only [ltI_no];exact h0)]
   exact tail
theorem law7 (ls:LS_) (h:okLs ([PV2.agg [.int .u8,.int .u8,.int .u8,.arr (.i .u8),.int .u16,.arr (.i .u8),.int .u16],PV2.agg [.arr (.i .i64),.arr (.i .i64)],PV2.v (.int .i64)].flatMap cells2) ls):CS P 7 (fL2 ls [PV2.agg [.int .u8,.int .u8,.int .u8,.arr (.i .u8),.int .u16,.arr (.i .u8),.int .u16],PV2.agg [.arr (.i .i64),.arr (.i .i64)],PV2.v (.int .i64)] 0) ⟨.bool true,[]⟩ :=
 F_ok F7.eq ((F7_true h _).trans (by kernel_rfl))
end
end Go.Proofs.Ytbpjicbpcfkpfaa.Ai
