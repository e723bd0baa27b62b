/-
Part 7 of 7 of the texts for one claim: P23 Xf4 Wd Wf Wi Xk Xj P30 Ma5 Ma6 P31 Xi5 P25 Wc Xf3 P26 P27 Xi12 P32.
-/
import Derived.Test.YtbpjicbpcfkpfaaV6
set_option linter.unusedVariables false
set_option linter.unusedSimpArgs false
namespace Go.Proofs.Ytbpjicbpcfkpfaa.Ai
open Go Ma
noncomputable section
theorem okLs_cons {p:PV1} {ps:List PV1} {ls:LS_} (h:okLs (p::ps) ls):∃ x ls',ls=x::ls'∧okLeaf p x∧okLs ps ls':=by
 cases ls with
 | nil=>have:=h.1;simp at this
 | cons x ls' =>
  refine ⟨x,ls',rfl,h.2 0 (by simp),by have:=h.1;simpa using this,fun j hj=>?_⟩
  exact h.2 (j+1) (by simpa using hj)
theorem okLs_nil {ls:LS_} (h:okLs [] ls):ls=[]:=List.length_eq_zero_iff.1 h.1
theorem ok_int {k:IntKind} {x:Leaf} (h:okLeaf (.int k) x):∃ n,x=.I n∧wfI k n:=by
 unfold okLeaf at h
 split at h
 ·rename_i e;cases e
 ·rename_i k' n e;cases e;exact ⟨n,rfl,h⟩
 ·rename_i e;cases e
 ·rename_i e;cases e
 ·exact h.elim
theorem ok_arr {k:IntKind} {x:Leaf} (h:okLeaf (.arr (.i k)) x):∃ l,x=.L l∧l.length≤maxLen∧∀ n∈l,wfI k n:=by
 unfold okLeaf at h
 split at h
 ·rename_i e;cases e
 ·rename_i e;cases e
 ·rename_i k' l e;cases e;exact ⟨l,rfl,h.1,h.2⟩
 ·rename_i e;cases e
 ·exact h.elim
theorem wf_u8 {n:Int} (h:wfI .u8 n):0≤n∧n<256:=by
 unfold wfI at h
 simp [Lit.wf,IntKind.min,IntKind.max,IntKind.signed,IntKind.bits] at h
 omega
theorem wf_u16 {n:Int} (h:wfI .u16 n):0≤n∧n<65536:=by
 unfold wfI at h
 simp [Lit.wf,IntKind.min,IntKind.max,IntKind.signed,IntKind.bits] at h
 omega
theorem ok_bytes {x:Leaf} (h:okLeaf (.arr (.i .u8)) x):∃ l,x=.L l∧Bytes l:=by
 obtain ⟨l,e,h1,h2⟩:=ok_arr h
 refine ⟨l,e,by unfold maxLen at h1;omega,fun j=>?_⟩
 by_cases hj:j<l.length
 ·rw [List.getD_eq_getElem?_getD,List.getElem?_eq_getElem hj]
  exact wf_u8 (h2 _ (List.getElem_mem hj))
 ·rw [List.getD_eq_getElem?_getD,List.getElem?_eq_none (by omega)]
  decide
theorem raw34 {ps:List PV1} {ls:LS_} (h:okLs (.int .u8::.int .u8::.int .u8::.arr (.i .u8)::.int .u16::.arr (.i .u8)::.int .u16::ps) ls) :
  ∃ Q N K L num H gone ls',ls=.I Q::.I N::.I K::.L L::.I num::.L H::.I gone::ls'∧(0≤Q∧Q<256)∧(0≤N∧N<256)∧(0≤K∧K<256)∧Bytes L∧(0≤num∧num<65536)∧Bytes H∧okLs ps ls':=by
 obtain ⟨x0,l0,rfl,a0,g0⟩:=okLs_cons h
 obtain ⟨Q,rfl,h1⟩:=ok_int a0
 obtain ⟨x1,l1,rfl,a1,g1⟩:=okLs_cons g0
 obtain ⟨N,rfl,h2⟩:=ok_int a1
 obtain ⟨x2,l2,rfl,a2,g2⟩:=okLs_cons g1
 obtain ⟨K,rfl,h3⟩:=ok_int a2
 obtain ⟨x3,l3,rfl,a3,g3⟩:=okLs_cons g2
 obtain ⟨L,rfl,h4⟩:=ok_bytes a3
 obtain ⟨x4,l4,rfl,a4,g4⟩:=okLs_cons g3
 obtain ⟨num,rfl,h5⟩:=ok_int a4
 obtain ⟨x5,l5,rfl,a5,g5⟩:=okLs_cons g4
 obtain ⟨H,rfl,h6⟩:=ok_bytes a5
 obtain ⟨x6,l6,rfl,a6,g6⟩:=okLs_cons g5
 obtain ⟨gone,rfl,_⟩:=ok_int a6
 exact ⟨Q,N,K,L,num,H,gone,l6,rfl,wf_u8 h1,wf_u8 h2,wf_u8 h3,h4,wf_u16 h5,h6,g6⟩
structure Cs (q n:Nat) (G:List (List Int)) (s w g:List Int):Prop where
 cd:Cd q n G
 sent:s∈words q (fadd q) (fmul q) G (List.replicate n 0)
 wd:Wd q n w
 up:Up n g
theorem isRight_of {q n:Nat} {w g:List Int} (hw:Wd q n w) (hg:Up n g):isRight q n w g=true:=by
 unfold isRight
 rw [Bool.and_eq_true]
 exact ⟨isWord_iff.2 ⟨by rw [hw.1],fun i _ hi=>hw.2 i (by have:=hw.1;omega)⟩,hg.gone⟩
theorem Up.pos {n:Nat} {g:List Int} (h:Up n g):∀ k,k<g.length→0≤g.getD k 0:=fun k hk=>(h.2 k hk).1
theorem winR_eq {q n:Nat} {G:List (List Int)} {w g:List Int} (hg:∀ k,k<g.length→0≤g.getD k 0) (r:Int) :
  winR q n G w g r=(words q (fadd q) (fmul q) G (List.replicate n 0)).filter fun y=>decide (((far (lostI g) w y 0 n:Nat):Int)≤r):=by
 unfold winR
 congr 1
 funext y
 rw [far_eq hg]
section
variable {q n:Nat} {G:List (List Int)} {s w g:List Int}
theorem Cs.right (h:Cs q n G s w g):isRight q n w g=true:=isRight_of h.wd h.up
theorem Cs.gs (h:Cs q n G s w g):g.length<2^60:=by have:=h.up.1;have:=h.cd.n1;omega
theorem Cs.ws (h:Cs q n G s w g):∀ y∈words q (fadd q) (fmul q) G (List.replicate n 0),Wd q n y:=words_wd (fld q h.cd.fq) G _ h.cd.rows.wd (Wd.zeros (q:=q) (n:=n) (by have:=qs_lt h.cd.fq;omega))
theorem Cs.cnt (h:Cs q n G s w g):(words q (fadd q) (fmul q) G (List.replicate n 0)).length≤256:=by rw [words_len (n:=0) h.cd.fq];exact h.cd.count
end
theorem cd_c:Cd 2 3 [[1,1,1]] where
  fq:=by decide
  n0:=by decide
  n1:=by decide
  count:=by decide
  form:=⟨fun _=>0,
    { wd:=fun i hi=>by
        have:i=0:=by simpa using hi
        subst this
        refine ⟨rfl,fun j hj=>?_⟩
        rcases (show j=0∨j=1∨j=2 by omega) with rfl | rfl | rfl <;> decide
      lt:=fun i hi=>by decide
      mono:=fun i j hi hj=>by simp at hj;omega
      one:=fun i hi=>by
        have:i=0:=by simpa using hi
        subst this;rfl
      zero:=fun i k hi hk hne=>by
        simp at hi hk;omega
      lead:=fun i j hi hj=>by omega }⟩
theorem cd_two:Cd 2 2 [[1,1]] where
  fq:=by decide
  n0:=by decide
  n1:=by decide
  count:=by decide
  form:=⟨fun _=>0,
    { wd:=fun i hi=>by
        have:i=0:=by simpa using hi
        subst this
        refine ⟨rfl,fun j hj=>?_⟩
        rcases (show j=0∨j=1 by omega) with rfl | rfl <;> decide
      lt:=fun i hi=>by decide
      mono:=fun i j hi hj=>by simp at hj;omega
      one:=fun i hi=>by
        have:i=0:=by simpa using hi
        subst this;rfl
      zero:=fun i k hi hk hne=>by
        simp at hi hk;omega
      lead:=fun i j hi hj=>by omega }⟩
theorem ex1 {τ:Type} (k:Nat→LS_→Option τ):F28 [.I 2,.I 3,.LL [[1,1,1]],.L [0,1,1],.L [],.I 1] k=k 1 [.I 1,.I 1,.N 3,.L [1,1,1],.N 0,.LL []] :=
 (F28_of (fun {τ} κ=>T20_ok (q:=2) (n:=3) cd_c (w:=[0,1,1]) (g:=[]) (by kernel_rfl) (by decide) 1 κ) k).trans (by kernel_rfl)
theorem ex2 {τ:Type} (k:Nat→LS_→Option τ):F28 [.I 2,.I 3,.LL [[1,1,1]],.L [0,1,1],.L [0,1],.I 0] k=k 1 [.I 1,.I 0,.N 3,.L [1,1,1],.N 0,.LL []] :=
 (F28_of (fun {τ} κ=>T20_ok (q:=2) (n:=3) cd_c (w:=[0,1,1]) (g:=[0,1]) (by kernel_rfl) (by decide) 0 κ) k).trans (by kernel_rfl)
theorem ex3 {τ:Type} (k:Nat→LS_→Option τ):F28 [.I 2,.I 2,.LL [[1,1]],.L [0,1],.L [],.I 9] k=k 1 [.I 2,.I 1,.N 2,.L [0,0],.N 2,.LL [[0,0],[1,1]]] :=
 (F28_of (fun {τ} κ=>T20_ok (q:=2) (n:=2) cd_two (w:=[0,1]) (g:=[]) (by kernel_rfl) (by decide) 9 κ) k).trans (by kernel_rfl)
theorem ex4 {τ:Type} (k:Nat→LS_→Option τ):F28 [.I 2,.I 3,.LL [[1,1,1]],.L [0,1,1],.L [],.I 0] k=k 1 [.I 4,.I 0,.N 0,.L [],.N 0,.LL []] :=
 (F28_of (fun {τ} κ=>T20_ok (q:=2) (n:=3) cd_c (w:=[0,1,1]) (g:=[]) (by kernel_rfl) (by decide) 0 κ) k).trans (by kernel_rfl)
theorem ex5 {τ:Type} (k:Nat→LS_→Option τ):T18 [.I 2,.I 3,.LL [[1,1,1]],.L [0,1],.L [],.I 1] k=k 0 [.LL [],.I 1] :=
 T18_err0 (fun {τ} κ=>F18_wrong (q:=2) (by decide) 3 (by decide) (fun i=>by
  rcases i with _ | i
  ·decide
  ·simp) (by decide) (by decide) (by kernel_rfl) 1 κ) k
theorem short2 {L:List (List Int)} (h:∀ r∈L,r.length<2^60):∀ i,(L.getD i []).length<2^60:=fun i=>by
 by_cases hi:i<L.length
 ·rw [List.getD_eq_getElem?_getD,List.getElem?_eq_getElem hi]
  exact h _ (List.getElem_mem hi)
 ·rw [List.getD_eq_getElem?_getD,List.getElem?_eq_none (by omega)]
  decide
def T16 {τ:Type} (l:LS_) (k:Nat→LS_→Option τ):Option τ:=F16 l k
def T16.E:Ent P:=F16.E
theorem T16_spec {τ:Type} (k:Nat→LS_→Option τ):T16 [] k=k 0 [.B true]:=by
 unfold T16 F16 T28 T23
 rw [ex1]
 simp only [sw_succ,sw_zero]
 rw [ex2]
 simp only [sw_succ,sw_zero]
 rw [ex3]
 simp only [sw_succ,sw_zero]
 rw [ex5]
 simp only [g_,sw_succ,sw_zero]
 rw [ck_of (by simp),F23_spec (by decide) (by decide) (short2 (by simp)),decide_eq_true (by decide)]
 simp only [sw_succ,sw_zero,gB_zero]
 rw [br_of rfl,ck_of (by simp),F23_spec (by decide) (by decide) (short2 (by simp)),decide_eq_true (by decide)]
 simp only [sw_succ,sw_zero,gB_zero]
 rw [br_of rfl,ck_of (by simp),F23_spec (by decide) (by decide) (short2 (by simp)),decide_eq_true (by decide)]
 simp only [sw_succ,sw_zero,gB_zero]
 rw [br_of rfl,ex4]
 simp only [sw_succ,sw_zero,gI_zero]
 rw [br_of (show ((4:Int)==4)=true from rfl)]
 rfl
end
end Go.Proofs.Ytbpjicbpcfkpfaa.Ai
namespace Go.Proofs.Ytbpjicbpcfkpfaa.Ai
open Go Go.RowKit
noncomputable section
variable {τ:Type} (t:Nat) (nx ex:Nat→LS_→Option τ) (l:LS_) (k κ:Nat→LS_→Option τ)
end
end Go.Proofs.Ytbpjicbpcfkpfaa.Ai
namespace Go.Proofs.Ytbpjicbpcfkpfaa.Ai
open Go Ma
noncomputable section
def U28 {τ:Type} (l:LS_) (k:Nat→LS_→Option τ):Option τ:=wrapB F28.E (.v pReply) l k
def U28.E:Ent P:=F28.E.wrap (.v pReply)
theorem U28_of {q n:Int} {G:List (List Int)} {w g:List Int} {r a b:Int} {C:List Int} {L:List (List Int)} (h:∀ {τ:Type} (k:Nat→LS_→Option τ),T20 [.I q,.I n,.LL G,.L w,.L g,.I r] k=k 0 [.I a,.I b,.L C,.LL L,.I 0]) {τ:Type} (k:Nat→LS_→Option τ) :
  U28 [.I q,.I n,.LL G,.L w,.L g,.I r] k=k 0 [.I a,.I b,.L C,.LL L] :=
 wrap_of (e:=F28.E) (p:=.v pReply) (j:=1) (l2:=[.I a,.I b,.N C.length,.L C,.N L.length,.LL L]) (c:=true&&(true&&(true&&(true&&(true&&(decide (C.length=C.length)&&(decide (L.length=L.length)&&true))))))) (ls':=[.I a,.I b,.L C,.LL L]) (by intro τ κ;kernel_rfl) (by simp) (fun κ=>(F28_of h κ).trans (if_pos rfl))
theorem U28_ok {q n:Nat} {G:List (List Int)} {s w g:List Int} (C:Cs q n G s w g) (r:Int) {τ:Type} (k:Nat→LS_→Option τ):U28 [.I q,.I n,.LL G,.L w,.L g,.I r] k =
  k 0 [.I (howL (nearR q n G w g r)),.I (rad (fun y=>far (lostG n g) w y 0 n) (nearR q n G w g r)),.L ((nearR q n G w g r).getD 0 []),.LL (tied (nearR q n G w g r))] :=
 U28_of (fun {τ} κ=>T20_ok C.cd C.right C.gs r κ) k
def mn (d:List Int→Nat) (L:List (List Int)) (m:Nat):Nat:=L.foldl (fun m y=>min m (d y)) m
theorem mn_le (d:List Int→Nat):∀ (L:List (List Int)) (m:Nat),mn d L m≤m
 | [],m=>Nat.le_refl _
 | a::L,m=>Nat.le_trans (mn_le d L (min m (d a))) (Nat.min_le_left _ _)
theorem mn_all (d:List Int→Nat):∀ (L:List (List Int)) (m:Nat),∀ y∈L,mn d L m≤d y
 | [],m,y,h=>by simp at h
 | a::L,m,y,h=>by
  rcases List.mem_cons.1 h with rfl | h
  ·exact Nat.le_trans (mn_le d L _) (Nat.min_le_right _ _)
  ·exact mn_all d L _ y h
theorem mn_some (d:List Int→Nat):∀ (L:List (List Int)) (m:Nat),mn d L m=m∨∃ y∈L,d y=mn d L m
 | [],m=>.inl rfl
 | a::L,m=>by
  rcases mn_some d L (min m (d a)) with h | ⟨y,hy,h⟩
  ·have e:mn d (a::L) m=mn d L (min m (d a)):=rfl
   rcases Nat.le_total m (d a) with q | q
   ·exact .inl (by rw [e,h,Nat.min_eq_left q])
   ·exact .inr ⟨a,by simp,by rw [e,h,Nat.min_eq_right q]⟩
  ·exact .inr ⟨y,by simp [hy],h⟩
theorem near_out (d:List Int→Nat):∀ (L out:List (List Int)) (m:Nat),out≠[]→(∀ y∈out,d y=m)→L.foldl (nearStep d) out=(if mn d L m=m then out else [])++L.filter fun y=>d y==mn d L m
 | [],out,m,_,_=>by simp [mn]
 | a::L,out,m,ho,hm=>by
  have e:mn d (a::L) m=mn d L (min m (d a)):=rfl
  rw [List.foldl_cons,e,List.filter_cons]
  cases out with
  | nil=>exact absurd rfl ho
  | cons o os =>
   have hom:=hm o (by simp)
   have st:nearStep d (o::os) a=if d a>d o then o::os else if d a<d o then [a] else (o::os)++[a]:=rfl
   rw [st,hom]
   by_cases h1:d a>m
   ·rw [if_pos h1,near_out d L (o::os) m (by simp) hm,Nat.min_eq_left (by omega)]
    have:=mn_le d L m
    rw [if_neg (show ¬ (d a==mn d L m)=true by simp;omega)]
   ·rw [if_neg h1]
    by_cases h2:d a<m
    ·rw [if_pos h2,near_out d L [a] (d a) (by simp) (by simp),Nat.min_eq_right (by omega)]
     have:=mn_le d L (d a)
     rw [if_neg (show ¬ mn d L (d a)=m by omega)]
     by_cases h3:mn d L (d a)=d a
     ·rw [if_pos h3,if_pos (by simp [h3])];rfl
     ·rw [if_neg h3,if_neg (by simp;omega)]
    ·have hda:d a=m:=by omega
     rw [if_neg h2,near_out d L ((o::os)++[a]) m (by simp) (fun y hy=>by
      rcases List.mem_append.1 hy with q | q
      ·exact hm y q
      ·rw [List.mem_singleton.1 q];exact hda),hda,Nat.min_self]
     by_cases h3:mn d L m=m
     ·rw [if_pos h3,if_pos h3,if_pos (by simp [h3]),List.append_assoc];rfl
     ·rw [if_neg h3,if_neg h3,if_neg (by simp;omega)]
theorem near_min {d:List Int→Nat} {L:List (List Int)} {m:Nat} (h1:∃ y∈L,d y=m) (h2:∀ y∈L,m≤d y):near d L=L.filter fun y=>d y==m:=by
 cases L with
 | nil=>obtain ⟨y,hy,_⟩:=h1;simp at hy
 | cons a L =>
  have e:mn d L (d a)=m:=by
   obtain ⟨y,hy,e⟩:=h1
   have l1:=mn_le d L (d a)
   rcases mn_some d L (d a) with q | ⟨z,hz,q⟩
   ·have:=h2 a (by simp)
    rcases List.mem_cons.1 hy with rfl | hy
    ·omega
    ·have:=mn_all d L (d a) y hy;omega
   ·have:=h2 z (by simp [hz])
    rcases List.mem_cons.1 hy with rfl | hy
    ·omega
    ·have:=mn_all d L (d a) y hy;omega
  unfold near
  rw [List.foldl_cons,show nearStep d [] a=[a] from rfl,near_out d L [a] (d a) (by simp) (by simp),e,List.filter_cons]
  by_cases h3:m=d a
  ·rw [if_pos h3,if_pos (by simp [h3])];rfl
  ·rw [if_neg h3,if_neg (by simp;omega)];rfl
theorem filter_filter_le (d:List Int→Nat) (m:Nat) (k:Int) (hk:(m:Int)≤k) (L:List (List Int)):((L.filter fun y=>decide ((d y:Int)≤k)).filter fun y=>d y==m)=L.filter fun y=>d y==m:=by
 rw [List.filter_filter]
 congr 1
 funext y
 by_cases h:d y=m
 ·rw [h];simp [hk]
 ·simp [h]
def T29 {τ:Type} (l:LS_) (k:Nat→LS_→Option τ):Option τ:=wrapB F29.E (.v pField) l k
def T29.E:Ent P:=F29.E.wrap (.v pField)
def T37 {τ:Type} (l:LS_) (k:Nat→LS_→Option τ):Option τ:=F37 l k
def T37.E:Ent P:=F37.E
def T48 {τ:Type} (l:LS_) (k:Nat→LS_→Option τ):Option τ:=F48 l k
def T48.E:Ent P:=F48.E
def T81 {τ:Type} (l:LS_) (k:Nat→LS_→Option τ):Option τ:=wrapB F81.E (.tup [pField,pB]) l k
def T81.E:Ent P:=F81.E.wrap (.tup [pField,pB])
theorem T81_spec {q:Nat} (hq:q∈Qs) {τ:Type} (k:Nat→LS_→Option τ):T81 [.I q] k=k 0 [.I (fp q),.I (fe q),.L (fm q),.B true]:=by
 have h:=fun {τ:Type} (κ:Nat→LS_→Option τ)=>F81_spec hq κ
 generalize fm q=M at h ⊢
 have:=wrap_of (e:=F81.E) (p:=.tup [pField,pB]) (j:=0) (l2:=[.I (fp q),.I (fe q),.N M.length,.B true,.L M]) (c:=(true&&(true&&(true&&(true&&(true&&(decide (M.length=(List.take (M.length*1) (List.drop 0 M)).length)&&true))))))&&(true&&true)) (ls':=[.I (fp q),.I (fe q),.L (List.take (M.length*1) (List.drop 0 M)),.B true]) (by intro τ κ;kernel_rfl) (by simp) (k:=k) (fun κ=>h κ)
 rw [Nat.mul_one,List.drop_zero,List.take_length] at this
 exact this
end
end Go.Proofs.Ytbpjicbpcfkpfaa.Ai
namespace Go.Proofs.Ytbpjicbpcfkpfaa.Ai
open Go Go.RowKit
noncomputable section
variable {τ:Type} (t:Nat) (nx ex:Nat→LS_→Option τ) (l:LS_) (k κ:Nat→LS_→Option τ)
def oao0:List PO:=[oI,(oG [pI,pI,qM]),(oG [(PV2.v (PV1.yld 5))]),(oG [pI,pI,qR]),(oG [(PV2.fn 121 [(p1 1),(p1 2),(p1 3),(p1 4)])]),(PO.loop false [(PV2.agg [iI,iI,(PV1.sl (PC0.m .i64))]),(pp 6),pI,pI,pI,(pp 7),n_,n_,(PV2.agg [iI,iI,(PV1.sl (PC0.m .i64))]),pI,pI,pB,n_,(PV2.v (PV1.ptr 6 (some 0) (some 2))),qM,pI,pB,(PV2.v (PV1.ptr 6 (some 0) (some 1))),pI,(PV2.agg [iI,iI,(PV1.sl (PC0.m .i64))]),(PV2.fn 120 [(p1 1),(p1 3)]),n_,n_,n_,n_,n_,n_,n_,n_,n_] [21] (rfA 50 0) (rfB 50 0) 536870956 true Out.normal),(oG [pI,pI,qM]),(oG [pI])]
def oao1:List PO:=[oI,(oG [pI,pI,qM]),(oG [(PV2.v (PV1.yld 5))]),(oG [pI,pI,qR]),(oG [(PV2.fn 121 [(p1 1),(p1 2),(p1 3),(p1 4)])]),(PO.loop false [(PV2.agg [iI,iI,(PV1.sl (PC0.m .i64))]),(pp 6),pI,pI,pI,(pp 7),n_,n_,(PV2.agg [iI,iI,(PV1.sl (PC0.m .i64))]),pI,pI,pB,n_,(PV2.v (PV1.ptr 6 (some 0) (some 2))),qM,pI,pB,(PV2.v (PV1.ptr 6 (some 0) (some 1))),pI,(PV2.agg [iI,iI,(PV1.sl (PC0.m .i64))]),(PV2.fn 120 [(p1 1),(p1 3)]),n_,n_,n_,n_,n_,n_,n_,n_,n_] [21] (rfA 50 0) (rfB 50 0) 536870956 true Out.normal),(oG [pI,pI,qM]),(oG [pI]),oI]
def oao2:List PO:=[oI,(oG [pI,pI,qM]),(oG [(PV2.v (PV1.yld 5))]),(oG [pI,pI,qR]),(oG [(PV2.fn 121 [(p1 1),(p1 2),(p1 3),(p1 4)])]),(PO.loop false [(PV2.agg [iI,iI,(PV1.sl (PC0.m .i64))]),(pp 6),nS,pI,pI,(pp 7),n_,(PV2.agg [iI,iI,(PV1.sl (PC0.m .i64))]),pI,pI,pB,n_,(PV2.v (PV1.ptr 6 (some 0) (some 1))),pI,pI,(rr 8),(PV2.agg [iI,iI,(PV1.sl (PC0.m .i64))]),(PV2.fn 120 [(p1 1),(p1 3)]),n_,n_,n_,n_,n_,n_,n_,n_,n_] [18] (rfA 42 0) (rfB 42 0) 67108908 true Out.normal),(oG [pI,pI,qM]),(oG [(rr 8)]),oI]
def oao3:List PO:=[oI,(oG [pI,pI,qM]),(oG [(PV2.v (PV1.yld 5))]),(oG [pI,pI,qR]),(oG [(PV2.fn 121 [(p1 1),(p1 2),(p1 3),(p1 4)])]),(PO.loop false [(PV2.agg [iI,iI,(PV1.sl (PC0.m .i64))]),(pp 6),nS,pI,pI,(pp 7),n_,(PV2.agg [iI,iI,(PV1.sl (PC0.m .i64))]),pI,pI,pB,n_,(PV2.v (PV1.ptr 6 (some 0) (some 1))),pI,pI,(rr 8),(PV2.agg [iI,iI,(PV1.sl (PC0.m .i64))]),(PV2.fn 120 [(p1 1),(p1 3)]),n_,n_,n_,n_,n_,n_,n_,n_,n_] [18] (rfA 42 0) (rfB 42 0) 67108908 true Out.normal),(oG [pI,pI,qM]),(oG [(rr 8)]),oI,oI]
def oao4:List PO:=[oI,(oG [pI,pI,qM]),(oG [(PV2.v (PV1.yld 5))]),(oG [pI,pI,qR]),(oG [(PV2.fn 121 [(p1 1),(p1 2),(p1 3),(p1 4)])]),(PO.loop false [(PV2.agg [iI,iI,(PV1.sl (PC0.m .i64))]),(pp 6),nS,pI,pI,(pp 7),n_,(PV2.agg [iI,iI,(PV1.sl (PC0.m .i64))]),pI,pI,pB,n_,(PV2.agg [iI,iI,(PV1.sl (PC0.m .i64))]),(PV2.fn 120 [(p1 1),(p1 3)]),n_,n_,n_,n_,n_,n_,n_] [14] (rfA 64 0) (rfB 64 0) 1048620 true Out.normal),(oG [pI,pI,qM]),(oG [(rr 8)]),oM]
def oao5:List PO:=[oI,(oG [pI,pI,qM]),(oG [(PV2.v (PV1.yld 5))]),(oG [pI,pI,qR]),(oG [(PV2.fn 121 [(p1 1),(p1 2),(p1 3),(p1 4)])]),(PO.loop false [(PV2.agg [iI,iI,(PV1.sl (PC0.m .i64))]),(pp 6),nS,pI,pI,(pp 7),n_,(PV2.agg [iI,iI,(PV1.sl (PC0.m .i64))]),pI,pI,pB,n_,(PV2.agg [iI,iI,(PV1.sl (PC0.m .i64))]),(PV2.fn 120 [(p1 1),(p1 3)]),n_,n_,n_,n_,n_,n_,n_] [14] (rfA 64 0) (rfB 64 0) 1048620 true Out.normal),(oG [pI,pI,qM]),(oG [(rr 10)]),PO.dead,oI,oM]
def oao6:List PO:=[oI,(oG [pI,pI,qM]),(oG [(PV2.v (PV1.yld 5))]),(oG [pI,pI,qR]),(oG [(PV2.fn 121 [(p1 1),(p1 2),(p1 3),(p1 4)])]),(PO.loop false [(PV2.agg [iI,iI,(PV1.sl (PC0.m .i64))]),(pp 6),nS,pI,pI,(pp 7),n_,(PV2.agg [iI,iI,(PV1.sl (PC0.m .i64))]),pI,pI,pB,n_,(PV2.agg [iI,iI,(PV1.sl (PC0.m .i64))]),(PV2.fn 120 [(p1 1),(p1 3)]),n_,n_,n_,n_,n_,n_,n_] [14] (rfA 64 0) (rfB 64 0) 1048620 true Out.normal),(oG [pI,pI,qM]),(oG [(rr 8)]),oM,oI]
def oao7:List PO:=[oI,(oG [pI,pI,qM]),(oG [(PV2.v (PV1.yld 5))]),(oG [pI,pI,qR]),(oG [(PV2.fn 121 [(p1 1),(p1 2),(p1 3),(p1 4)])]),(PO.loop false [(PV2.agg [iI,iI,(PV1.sl (PC0.m .i64))]),(pp 6),nS,pI,pI,(pp 7),n_,(PV2.agg [iI,iI,(PV1.sl (PC0.m .i64))]),pI,pI,pB,n_,(PV2.agg [iI,iI,(PV1.sl (PC0.m .i64))]),(PV2.fn 120 [(p1 1),(p1 3)]),n_,n_,n_,n_,n_,n_,n_] [14] (rfA 64 0) (rfB 64 0) 1048620 true Out.normal),(oG [pI,pI,qM]),(oG [nS])]
def oao8:List PO:=[oI,(oG [pI,pI,qM]),(oG [(PV2.v (PV1.yld 5))]),(oG [pI,pI,qR]),(oG [(PV2.fn 121 [(p1 1),(p1 2),(p1 3),(p1 4)])]),(PO.loop false [(PV2.agg [iI,iI,(PV1.sl (PC0.m .i64))]),(pp 6),nS,pI,pI,(pp 7),n_,(PV2.agg [iI,iI,(PV1.sl (PC0.m .i64))]),pI,pI,pB,n_,(PV2.agg [iI,iI,(PV1.sl (PC0.m .i64))]),(PV2.fn 120 [(p1 1),(p1 3)]),n_,n_,n_,n_,n_,n_,n_] [14] (rfA 64 0) (rfB 64 0) 1048620 true Out.normal),(oG [pI,pI,qM]),(oG [(rr 9)]),oI,oM]
def oao9:List PO:=[oI,(oG [pI,pI,qM]),(oG [(PV2.v (PV1.yld 5))]),(oG [pI,pI,qR]),(oG [(PV2.fn 121 [(p1 1),(p1 2),(p1 3),(p1 4)])]),(PO.loop false [(PV2.agg [iI,iI,(PV1.sl (PC0.m .i64))]),(pp 6),nS,pI,pI,(pp 7),n_,(PV2.agg [iI,iI,(PV1.sl (PC0.m .i64))]),pI,pI,pB,n_,(PV2.agg [iI,iI,(PV1.sl (PC0.m .i64))]),(PV2.fn 120 [(p1 1),(p1 3)]),n_,n_,n_,n_,n_,n_,n_] [14] (rfA 64 0) (rfB 64 0) 1048620 true Out.normal),(oG [pI,pI,qM]),(oG [nS]),oI]
def F90.ps:List PV2:=[pCode]
def F90.sh:List PA:=[(PA.mk (PV3.v pI) [])]
def F90.O:Orc P:=⟨[T37.E,T48.E],[],[],40⟩
def F90:Option τ :=
 ck (((eqM (List.length (gLL l 2)) (List.length (gLL l 2)))&&true)&&true)
 (T37 [.I (gI l 0),.I (gI l 1),.LL (gLL l 2)]
 (fun j A=>(sw (br (!(gB A 0))
 (k 0 [.I 1])
 (ck (((eqM (List.length (gLL l 2)) (List.length (gLL l 2)))&&true)&&true)
 (T48 [.I (gI l 0),.I (gI l 1),.LL (gLL l 2)]
 (fun j B=>(sw (br (gtI (gI B 0) 4096)
 (k 0 [.I 2])
 (k 0 [.I 0]))
 (fun _=>none)) j))))
 (fun _=>none)) j))
theorem F90.eq:FEq F90.O 90 F90.ps F90.sh F90:=by intro τ l κ;kernel_rfl
def F90.E:Ent P:=mkF F90.eq
def L92_3.H:LHead:=⟨false,true,0,376835,376835,456,8,0,[(PS.mk (us 3 (pI::us 2 (qR::pI::pI::us 9 []))) [])],[((Out.exit 0),(PS.mk (us 3 (pI::us 14 [])) []))]⟩
def L92_3.O:Orc P:=⟨[],[],[],40⟩
def L92_3.s0:Option τ :=
 br (ltI (gI l 4) (gI l 3))
 (ck (((leI 0 (gI l 4))&&(ltI (gI l 4) (gN l 1)))&&true)
 (ck (ltN ((Int.toNat (gI l 4))*1) (List.length (gL l 2)))
 (br ((List.getD (gL l 2) ((Int.toNat (gI l 4))*1) 0) != 0)
 (nx 0 [.I (wr .i64 ((gI l 0)+1)),.N (gN l 1),.L (gL l 2),.I (gI l 3),.I (wr .i64 ((gI l 4)+1))])
 (nx 0 [.I (gI l 0),.N (gN l 1),.L (gL l 2),.I (gI l 3),.I (wr .i64 ((gI l 4)+1))]))))
 (ex 0 [.I (gI l 0)])
theorem L92_3.e0:LEq L92_3.O L92_3.H 0 L92_3.s0:=by intro τ next κ l;kernel_rfl
def L92_3:LStep P Cf:=LStep.mk1 (by decide) L92_3.e0
def L92_3.b:Option τ:=runE L92_3 fuel κ t l
def L92_3.E:LEnt P:=LStep.E L92_3
def F92.ps:List PV2:=[pR]
def F92.sh:List PA:=[(PA.mk (PV3.v pI) [])]
def F92.O:Orc P:=⟨[],[L92_3.E],[],40⟩
def F92:Option τ :=
 L92_3.b 0 [.I 0,.N (List.length (gL l 0)),.L (gL l 0),.I (((List.length (gL l 0)):Nat):Int),.I 0]
 (fun j A=>(sw (k 0 [.I (gI A 0)])
 (fun _=>none)) j)
theorem F92.eq:FEq F92.O 92 F92.ps F92.sh F92:=by intro τ l κ;kernel_rfl
def F92.E:Ent P:=mkF F92.eq
def L94_3_1.H:LHead:=⟨true,false,2,385027,385027,12318,0,0,[(PS.mk (us 1 ((rr 0)::pI::qR::(pp 1)::us 7 (pI::pI::us 21 []))) [oI,(oG [pI,pI,qR])])],[((Out.exit 0),(PS.mk (us 35 []) [oI,(oG [pI,pI,qR])]))]⟩
def L94_3_1.O:Orc P:=⟨[T104.E,T103.E],[],[],40⟩
def L94_3_1.s0:Option τ :=
 br (ltI (gI l 5) (gI l 4))
 (ck (((leI 0 (gI l 5))&&(ltI (gI l 5) (gN l 0)))&&true)
 (ck (ltN (0+((Int.toNat (gI l 5))*1)) (List.length (gL l 6)))
 (ck (((leI 0 (gI l 5))&&(ltI (gI l 5) (gN l 2)))&&true)
 (ck (ltN ((Int.toNat (gI l 5))*1) (List.length (gL l 3)))
 (ck (((eqM (gN l 9) (List.length (gL l 10)))&&true)&&true)
 (T104 [.I (gI l 7),.I (gI l 8),.L (gL l 10),.I (gI l 1),.I (List.getD (gL l 3) ((Int.toNat (gI l 5))*1) 0)]
 (fun j A=>(sw (ck (((eqM (gN l 9) (List.length (gL l 10)))&&true)&&true)
 (T103 [.I (gI l 7),.I (gI l 8),.L (gL l 10),.I (List.getD (gL l 6) (0+((Int.toNat (gI l 5))*1)) 0),.I (gI A 0)]
 (fun j B=>(sw (ck (((leI 0 (gI l 5))&&(ltI (gI l 5) (gN l 0)))&&true)
 (ck ((leN ((0+((Int.toNat (gI l 5))*1))+1) (List.length (gL l 6)))&&true)
 (nx 0 [.N (gN l 0),.I (gI l 1),.N (gN l 2),.L (gL l 3),.I (gI l 4),.I (wr .i64 ((gI l 5)+1)),.L (List.set (gL l 6) (0+((Int.toNat (gI l 5))*1)) (gI B 0)),.I (gI l 7),.I (gI l 8),.N (gN l 9),.L (gL l 10)])))
 (fun _=>none)) j)))
 (fun _=>none)) j)))))))
 (ex 0 [.L (gL l 6),.I (gI l 7),.I (gI l 8),.N (gN l 9),.L (gL l 10)])
theorem L94_3_1.e0:LEq L94_3_1.O L94_3_1.H 0 L94_3_1.s0:=by intro τ next κ l;kernel_rfl
def L94_3_1:LStep P Cf:=LStep.mk1 (by decide) L94_3_1.e0
def L94_3_1.b:Option τ:=runE L94_3_1 fuel κ t l
def L94_3_1.E:LEnt P:=LStep.E L94_3_1
def S94_1.H:SHead:=⟨94,[(PV2.agg [iI,iI,(PV1.sl (PC0.i .i64))]),(rr 0),pI,qR],[],[oI],[((PV2.tup []),[oI])]⟩
def S94_1.O:Orc P:=⟨[],[L94_3_1.E],[],40⟩
def S94_1:Option τ :=
 br ((gI l 5)==0)
 (k 0 [.L (gL l 8)])
 (L94_3_1.b 0 [.N (gN l 4),.I (gI l 5),.N (gN l 6),.L (gL l 7),.I (gN l 4),.I 0,.L (gL l 8),.I (gI l 0),.I (gI l 1),.N (gN l 2),.L (gL l 3)]
 (fun j A=>(sw (k 0 [.L (gL A 0)])
 (fun _=>none)) j))
theorem S94_1.eq:SEq S94_1.O S94_1.H S94_1:=by intro τ l κ;kernel_rfl
def S94_1.next:SDyn P S94_1.H:=mkS S94_1.eq
def S94_1.E:SEnt P:=⟨S94_1.H,S94_1.next⟩
def S121_0.H:SHead:=⟨121,[pI,(rr 0)],[(pp 1),(pp 2),(pp 3),(pp 4)],oao0,[(pB,oao0)]⟩
def L121_5.H:LHead:=⟨false,false,9,495621,495621,12583735,256,0,[(PS.mk (pI::(rr 0)::(pp 1)::us 1 ((pp 3)::(pp 4)::us 2 (pB::(rr 8)::us 12 (pI::pI::us 21 [])))) oao1)],[(Out.ret,(PS.mk (us 8 (pB::us 36 [])) oao1)),((Out.exit 0),(PS.mk (us 8 (pB::us 36 [])) oao1))]⟩
def L121_5.O (R:SDyn P S121_0.H):Orc P:=⟨[],[],[S94_1.E,⟨S121_0.H,R⟩],40⟩
def L121_5.s0 (R:SDyn P S121_0.H) {τ:Type} (next ex:Nat→LS_→Option τ) (l:LS_):Option τ :=
 br (ltI (gI l 5) (gI l 4))
 (ck (((((eqM (gN l 1) (gN l 3))&&(eqM (List.length (List.take ((gN l 1)*1) (List.drop 0 (gL l 6)))) (gN l 1)))&&true)&&(eqM (List.length (gL l 43)) (gN l 3)))&&true)
 (ck (((leI 0 (gI l 0))&&(ltI (gI l 0) (gN l 9)))&&true)
 (ck (ltN ((Int.toNat (gI l 0))*1) (List.length (gLL l 10)))
 (S94_1 [.I (gI l 11),.I (gI l 12),.N (gN l 13),.L (gL l 14),.N (gN l 3),.I (gI l 5),.N (List.length (List.getD (gLL l 10) ((Int.toNat (gI l 0))*1) [])),.L (List.getD (gLL l 10) ((Int.toNat (gI l 0))*1) []),.L (List.take ((gN l 1)*1) (List.drop 0 (gL l 6)))]
 (fun j A=>(sw (R.b [.I (wr .i64 ((gI l 0)+1)),.N (gN l 3),.L (gL A 0),.I (gI l 7),.I (gI l 8),.N (gN l 9),.LL (gLL l 10),.I (gI l 11),.I (gI l 12),.N (gN l 13),.L (gL l 14),.I (gI l 15),.I (gI l 16),.N (gN l 17),.LL (gLL l 18),.I (gI l 19),.I (gI l 20),.I (gI l 21),.I (gI l 22),.I (gI l 23),.N (gN l 24),.LL (gLL l 25),.I (gI l 26),.I (gI l 27),.B (gB l 28),.N (gN l 29),.LL (gLL l 30),.I (gI l 31),.B (gB l 32),.I (gI l 33),.I (gI l 34),.I (gI l 35),.N (gN l 36),.LL (gLL l 37),.I (gI l 38),.I (gI l 39),.N (gN l 40),.LL (gLL l 41),.I (gI l 42)]
 (fun j B=>(sw (br (!(gB B 0))
 (ex 0 [.B false,.L (gL l 6),.I (gI B 2),.I (gI B 3),.N (gN B 4),.LL (gLL B 5),.I (gI B 6),.I (gI B 7),.N (gN B 8),.L (gL B 9),.I (gI B 10),.I (gI B 11),.N (gN B 12),.LL (gLL B 13),.I (gI B 14),.I (gI B 15),.I (gI B 16),.I (gI B 17),.I (gI B 18),.N (gN B 19),.LL (gLL B 20),.I (gI B 21),.I (gI B 22),.B (gB B 23),.N (gN B 24),.LL (gLL B 25),.I (gI B 26),.B (gB B 27),.I (gI B 28),.I (gI B 29),.I (gI B 30),.N (gN B 31),.LL (gLL B 32),.I (gI B 33),.I (gI B 34),.N (gN B 35),.LL (gLL B 36),.I (gI B 37),.L (gL B 1)])
 (next 0 [.I (gI l 0),.N (gN l 1),.B (gB l 2),.N (gN l 3),.I (gI l 4),.I (wr .i64 ((gI l 5)+1)),.L (gL l 6),.I (gI B 2),.I (gI B 3),.N (gN B 4),.LL (gLL B 5),.I (gI B 6),.I (gI B 7),.N (gN B 8),.L (gL B 9),.I (gI B 10),.I (gI B 11),.N (gN B 12),.LL (gLL B 13),.I (gI B 14),.I (gI B 15),.I (gI B 16),.I (gI B 17),.I (gI B 18),.N (gN B 19),.LL (gLL B 20),.I (gI B 21),.I (gI B 22),.B (gB B 23),.N (gN B 24),.LL (gLL B 25),.I (gI B 26),.B (gB B 27),.I (gI B 28),.I (gI B 29),.I (gI B 30),.N (gN B 31),.LL (gLL B 32),.I (gI B 33),.I (gI B 34),.N (gN B 35),.LL (gLL B 36),.I (gI B 37),.L (gL B 1)]))
 (fun _=>none)) j))
 (fun _=>none)) j)))))
 (ex 1 [.B (gB l 2),.L (gL l 6),.I (gI l 7),.I (gI l 8),.N (gN l 9),.LL (gLL l 10),.I (gI l 11),.I (gI l 12),.N (gN l 13),.L (gL l 14),.I (gI l 15),.I (gI l 16),.N (gN l 17),.LL (gLL l 18),.I (gI l 19),.I (gI l 20),.I (gI l 21),.I (gI l 22),.I (gI l 23),.N (gN l 24),.LL (gLL l 25),.I (gI l 26),.I (gI l 27),.B (gB l 28),.N (gN l 29),.LL (gLL l 30),.I (gI l 31),.B (gB l 32),.I (gI l 33),.I (gI l 34),.I (gI l 35),.N (gN l 36),.LL (gLL l 37),.I (gI l 38),.I (gI l 39),.N (gN l 40),.LL (gLL l 41),.I (gI l 42),.L (gL l 43)])
theorem L121_5.e0 (R:SDyn P S121_0.H):LEq (L121_5.O R) L121_5.H 0 (L121_5.s0 R):=by intro τ next κ l;kernel_rfl
def L121_5 (R:SDyn P S121_0.H):LStep P Cf:=LStep.mk1 (by decide) (L121_5.e0 R)
def L121_5.b (R:SDyn P S121_0.H) {τ:Type} (t:Nat) (l:LS_) (κ:Nat→LS_→Option τ):Option τ:=runE (L121_5 R) fuel κ t l
def L121_5.E (R:SDyn P S121_0.H):LEnt P:=LStep.E (L121_5 R)
def S121_0.O (R:SDyn P S121_0.H):Orc P:=⟨[F92.E,F71.E],[L121_5.E R],[],40⟩
def S121_0.body (R:SDyn P S121_0.H) {τ:Type} (l:LS_) (k:Nat→LS_→Option τ):Option τ :=
 br ((gI l 0)==(((gN l 5):Nat):Int))
 (ck ((eqM (gN l 1) (List.length (List.take ((gN l 1)*1) (List.drop 0 (gL l 2)))))&&true)
 (F92 [.L (List.take ((gN l 1)*1) (List.drop 0 (gL l 2)))]
 (fun j A=>(sw (br (gtI (gI A 0) 0)
 (k 0 [.B true,.L (gL l 2),.I (gI l 3),.I (gI l 4),.N (gN l 5),.LL (gLL l 6),.I (gI l 7),.I (gI l 8),.N (gN l 9),.L (gL l 10),.I (gI l 11),.I (gI l 12),.N (gN l 13),.LL (gLL l 14),.I (gI l 15),.I (gI l 16),.I (gI l 17),.I (gI l 18),.I (gI l 19),.N (gN l 20),.LL (gLL l 21),.I (gI l 22),.I (gI l 23),.B (gB l 24),.N (gN l 25),.LL (gLL l 26),.I (gI l 27),.B (gB l 28),.I (gI l 29),.I (gI l 30),.I (gI l 31),.N (gN l 32),.LL (gLL l 33),.I (gI l 34),.I (gI l 35),.N (gN l 36),.LL (gLL l 37),.I (min (gI l 38) (gI A 0))])
 (k 0 [.B true,.L (gL l 2),.I (gI l 3),.I (gI l 4),.N (gN l 5),.LL (gLL l 6),.I (gI l 7),.I (gI l 8),.N (gN l 9),.L (gL l 10),.I (gI l 11),.I (gI l 12),.N (gN l 13),.LL (gLL l 14),.I (gI l 15),.I (gI l 16),.I (gI l 17),.I (gI l 18),.I (gI l 19),.N (gN l 20),.LL (gLL l 21),.I (gI l 22),.I (gI l 23),.B (gB l 24),.N (gN l 25),.LL (gLL l 26),.I (gI l 27),.B (gB l 28),.I (gI l 29),.I (gI l 30),.I (gI l 31),.N (gN l 32),.LL (gLL l 33),.I (gI l 34),.I (gI l 35),.N (gN l 36),.LL (gLL l 37),.I (gI l 38)]))
 (fun _=>none)) j)))
 (ck ((eqM (gN l 1) (List.length (List.take ((gN l 1)*1) (List.drop 0 (gL l 2)))))&&true)
 (F71 [.L (List.take ((gN l 1)*1) (List.drop 0 (gL l 2)))]
 (fun j A=>(sw (L121_5.b R 0 [.I (gI l 0),.N (gN l 1),.B false,.N (gN A 0),.I (gI l 3),.I 0,.L (gL l 2),.I (gI l 3),.I (gI l 4),.N (gN l 5),.LL (gLL l 6),.I (gI l 7),.I (gI l 8),.N (gN l 9),.L (gL l 10),.I (gI l 11),.I (gI l 12),.N (gN l 13),.LL (gLL l 14),.I (gI l 15),.I (gI l 16),.I (gI l 17),.I (gI l 18),.I (gI l 19),.N (gN l 20),.LL (gLL l 21),.I (gI l 22),.I (gI l 23),.B (gB l 24),.N (gN l 25),.LL (gLL l 26),.I (gI l 27),.B (gB l 28),.I (gI l 29),.I (gI l 30),.I (gI l 31),.N (gN l 32),.LL (gLL l 33),.I (gI l 34),.I (gI l 35),.N (gN l 36),.LL (gLL l 37),.I (gI l 38),.L (gL A 1)]
 (fun j B=>(sw (k 0 [.B (gB B 0),.L (gL B 1),.I (gI B 2),.I (gI B 3),.N (gN B 4),.LL (gLL B 5),.I (gI B 6),.I (gI B 7),.N (gN B 8),.L (gL B 9),.I (gI B 10),.I (gI B 11),.N (gN B 12),.LL (gLL B 13),.I (gI B 14),.I (gI B 15),.I (gI B 16),.I (gI B 17),.I (gI B 18),.N (gN B 19),.LL (gLL B 20),.I (gI B 21),.I (gI B 22),.B (gB B 23),.N (gN B 24),.LL (gLL B 25),.I (gI B 26),.B (gB B 27),.I (gI B 28),.I (gI B 29),.I (gI B 30),.N (gN B 31),.LL (gLL B 32),.I (gI B 33),.I (gI B 34),.N (gN B 35),.LL (gLL B 36),.I (gI B 37)])
 (sw (k 0 [.B true,.L (gL B 1),.I (gI B 2),.I (gI B 3),.N (gN B 4),.LL (gLL B 5),.I (gI B 6),.I (gI B 7),.N (gN B 8),.L (gL B 9),.I (gI B 10),.I (gI B 11),.N (gN B 12),.LL (gLL B 13),.I (gI B 14),.I (gI B 15),.I (gI B 16),.I (gI B 17),.I (gI B 18),.N (gN B 19),.LL (gLL B 20),.I (gI B 21),.I (gI B 22),.B (gB B 23),.N (gN B 24),.LL (gLL B 25),.I (gI B 26),.B (gB B 27),.I (gI B 28),.I (gI B 29),.I (gI B 30),.N (gN B 31),.LL (gLL B 32),.I (gI B 33),.I (gI B 34),.N (gN B 35),.LL (gLL B 36),.I (gI B 37)])
 (fun _=>none))) j))
 (fun _=>none)) j)))
theorem S121_0.eq (R:SDyn P S121_0.H):SEq (S121_0.O R) S121_0.H (S121_0.body R):=by intro τ l κ;kernel_rfl
def S121_0.next (R:SDyn P S121_0.H):SDyn P S121_0.H:=mkS (S121_0.eq R)
def S121_0.D (n:Nat):SDyn P S121_0.H:=Nat.rec ⟨fun _ _=>none,fun _ _ _ h=>nomatch h⟩ (fun _ R=>S121_0.next R) n
def S121_0:Option τ:=(S121_0.D fuel).b l k
def S121_0.E:SEnt P:=⟨S121_0.H,S121_0.D fuel⟩
def F50.ps:List PV2:=[pCode]
def F50.sh:List PA:=[(PA.mk (PV3.tup [(pC 0),pI]) []),(PA.mk (PV3.tup [(pC 0),(pC 4)]) []),(PA.mk (PV3.tup [pI,(pC 0)]) [])]
def F50.O:Orc P:=⟨[F90.E,T81.E],[],[S121_0.E],40⟩
def F50:Option τ :=
 ck (((eqM (List.length (gLL l 2)) (List.length (gLL l 2)))&&true)&&true)
 (F90 [.I (gI l 0),.I (gI l 1),.LL (gLL l 2)]
 (fun j A=>(sw (br ((gI A 0) != 0)
 (k 0 [.I (gI A 0)])
 (br ((((List.length (gLL l 2)):Nat):Int)==0)
 (k 1 [])
 (T81 [.I (gI l 0)]
 (fun j B=>(sw (ck (((leI 0 (gI l 1))&&(leI (gI l 1) (gI l 1)))&&(leI ((gI l 1)*9) 1099511627776))
 (S121_0 [.I 0,.N (Int.toNat (gI l 1)),.L (List.replicate (Int.toNat (gI l 1)) (0:Int)),.I (gI l 0),.I (gI l 1),.N (List.length (gLL l 2)),.LL (gLL l 2),.I (gI B 0),.I (gI B 1),.N (List.length (gL B 2)),.L (gL B 2),.I (gI l 0),.I (gI l 1),.N (List.length (gLL l 2)),.LL (gLL l 2),.I 0,.I 0,.I (gI A 0),.I (gI l 0),.I (gI l 1),.N (List.length (gLL l 2)),.LL (gLL l 2),.I (gI A 0),.I (gI A 0),.B false,.N (List.length (gLL l 2)),.LL (gLL l 2),.I (((List.length (gLL l 2)):Nat):Int),.B false,.I (gI l 1),.I (gI l 0),.I (gI l 1),.N (List.length (gLL l 2)),.LL (gLL l 2),.I (gI l 0),.I (gI l 1),.N (List.length (gLL l 2)),.LL (gLL l 2),.I (gI l 1)]
 (fun j C=>(sw (k 2 [.I (gI C 37)])
 (fun _=>none)) j)))
 (fun _=>none)) j))))
 (fun _=>none)) j))
theorem F50.eq:FEq F50.O 50 F50.ps F50.sh F50:=by intro τ l κ;kernel_rfl
def F50.E:Ent P:=mkF F50.eq
def S121_1.H:SHead:=⟨121,[pI,(rr 0)],[(pp 1),(pp 2),(pp 3),(pp 4)],oao2,[(pB,oao2)]⟩
def L121_5_1.H:LHead:=⟨false,false,10,495621,495621,12583735,256,0,[(PS.mk (pI::(rr 0)::(pp 1)::us 1 ((pp 3)::(pp 4)::us 2 (pB::(rr 9)::us 12 (pI::pI::us 21 [])))) oao3)],[(Out.ret,(PS.mk (us 8 (pB::us 36 [])) oao3)),((Out.exit 0),(PS.mk (us 8 (pB::us 36 [])) oao3))]⟩
def L121_5_1.O (R:SDyn P S121_1.H):Orc P:=⟨[],[],[S94_1.E,⟨S121_1.H,R⟩],40⟩
def L121_5_1.s0 (R:SDyn P S121_1.H) {τ:Type} (next ex:Nat→LS_→Option τ) (l:LS_):Option τ :=
 br (ltI (gI l 5) (gI l 4))
 (ck (((((eqM (gN l 1) (gN l 3))&&(eqM (List.length (List.take ((gN l 1)*1) (List.drop 0 (gL l 6)))) (gN l 1)))&&true)&&(eqM (List.length (gL l 41)) (gN l 3)))&&true)
 (ck (((leI 0 (gI l 0))&&(ltI (gI l 0) (gN l 9)))&&true)
 (ck (ltN ((Int.toNat (gI l 0))*1) (List.length (gLL l 10)))
 (S94_1 [.I (gI l 11),.I (gI l 12),.N (gN l 13),.L (gL l 14),.N (gN l 3),.I (gI l 5),.N (List.length (List.getD (gLL l 10) ((Int.toNat (gI l 0))*1) [])),.L (List.getD (gLL l 10) ((Int.toNat (gI l 0))*1) []),.L (List.take ((gN l 1)*1) (List.drop 0 (gL l 6)))]
 (fun j A=>(sw (R.b [.I (wr .i64 ((gI l 0)+1)),.N (gN l 3),.L (gL A 0),.I (gI l 7),.I (gI l 8),.N (gN l 9),.LL (gLL l 10),.I (gI l 11),.I (gI l 12),.N (gN l 13),.L (gL l 14),.I (gI l 15),.I (gI l 16),.N (gN l 17),.LL (gLL l 18),.I (gI l 19),.I (gI l 20),.I (gI l 21),.I (gI l 22),.N (gN l 23),.LL (gLL l 24),.I (gI l 25),.I (gI l 26),.B (gB l 27),.I (gI l 28),.I (gI l 29),.N (gN l 30),.I (gI l 31),.I (gI l 32),.N (gN l 33),.LL (gLL l 34),.I (gI l 35),.I (gI l 36),.N (gN l 37),.LL (gLL l 38),.N (gN l 39),.L (gL l 40)]
 (fun j B=>(sw (br (!(gB B 0))
 (ex 0 [.B false,.L (gL l 6),.I (gI B 2),.I (gI B 3),.N (gN B 4),.LL (gLL B 5),.I (gI B 6),.I (gI B 7),.N (gN B 8),.L (gL B 9),.I (gI B 10),.I (gI B 11),.N (gN B 12),.LL (gLL B 13),.I (gI B 14),.I (gI B 15),.I (gI B 16),.I (gI B 17),.N (gN B 18),.LL (gLL B 19),.I (gI B 20),.I (gI B 21),.B (gB B 22),.I (gI B 23),.I (gI B 24),.N (gN B 25),.I (gI B 26),.I (gI B 27),.N (gN B 28),.LL (gLL B 29),.I (gI B 30),.I (gI B 31),.N (gN B 32),.LL (gLL B 33),.N (gN B 34),.L (gL B 35),.L (gL B 1)])
 (next 0 [.I (gI l 0),.N (gN l 1),.B (gB l 2),.N (gN l 3),.I (gI l 4),.I (wr .i64 ((gI l 5)+1)),.L (gL l 6),.I (gI B 2),.I (gI B 3),.N (gN B 4),.LL (gLL B 5),.I (gI B 6),.I (gI B 7),.N (gN B 8),.L (gL B 9),.I (gI B 10),.I (gI B 11),.N (gN B 12),.LL (gLL B 13),.I (gI B 14),.I (gI B 15),.I (gI B 16),.I (gI B 17),.N (gN B 18),.LL (gLL B 19),.I (gI B 20),.I (gI B 21),.B (gB B 22),.I (gI B 23),.I (gI B 24),.N (gN B 25),.I (gI B 26),.I (gI B 27),.N (gN B 28),.LL (gLL B 29),.I (gI B 30),.I (gI B 31),.N (gN B 32),.LL (gLL B 33),.N (gN B 34),.L (gL B 35),.L (gL B 1)]))
 (fun _=>none)) j))
 (fun _=>none)) j)))))
 (ex 1 [.B (gB l 2),.L (gL l 6),.I (gI l 7),.I (gI l 8),.N (gN l 9),.LL (gLL l 10),.I (gI l 11),.I (gI l 12),.N (gN l 13),.L (gL l 14),.I (gI l 15),.I (gI l 16),.N (gN l 17),.LL (gLL l 18),.I (gI l 19),.I (gI l 20),.I (gI l 21),.I (gI l 22),.N (gN l 23),.LL (gLL l 24),.I (gI l 25),.I (gI l 26),.B (gB l 27),.I (gI l 28),.I (gI l 29),.N (gN l 30),.I (gI l 31),.I (gI l 32),.N (gN l 33),.LL (gLL l 34),.I (gI l 35),.I (gI l 36),.N (gN l 37),.LL (gLL l 38),.N (gN l 39),.L (gL l 40),.L (gL l 41)])
theorem L121_5_1.e0 (R:SDyn P S121_1.H):LEq (L121_5_1.O R) L121_5_1.H 0 (L121_5_1.s0 R):=by intro τ next κ l;kernel_rfl
def L121_5_1 (R:SDyn P S121_1.H):LStep P Cf:=LStep.mk1 (by decide) (L121_5_1.e0 R)
def L121_5_1.b (R:SDyn P S121_1.H) {τ:Type} (t:Nat) (l:LS_) (κ:Nat→LS_→Option τ):Option τ:=runE (L121_5_1 R) fuel κ t l
def L121_5_1.E (R:SDyn P S121_1.H):LEnt P:=LStep.E (L121_5_1 R)
def S121_1.O (R:SDyn P S121_1.H):Orc P:=⟨[F92.E,F71.E],[L121_5_1.E R],[],40⟩
def S121_1.body (R:SDyn P S121_1.H) {τ:Type} (l:LS_) (k:Nat→LS_→Option τ):Option τ :=
 br ((gI l 0)==(((gN l 5):Nat):Int))
 (ck ((eqM (gN l 1) (List.length (List.take ((gN l 1)*1) (List.drop 0 (gL l 2)))))&&true)
 (F92 [.L (List.take ((gN l 1)*1) (List.drop 0 (gL l 2)))]
 (fun j A=>(sw (ck (((leI 0 (gI A 0))&&(ltI (gI A 0) (gN l 35)))&&true)
 (ck (ltN (0+((Int.toNat (gI A 0))*1)) (List.length (gL l 36)))
 (ck (((leI 0 (gI A 0))&&(ltI (gI A 0) (gN l 35)))&&true)
 (ck ((leN ((0+((Int.toNat (gI A 0))*1))+1) (List.length (gL l 36)))&&true)
 (k 0 [.B true,.L (gL l 2),.I (gI l 3),.I (gI l 4),.N (gN l 5),.LL (gLL l 6),.I (gI l 7),.I (gI l 8),.N (gN l 9),.L (gL l 10),.I (gI l 11),.I (gI l 12),.N (gN l 13),.LL (gLL l 14),.I (gI l 15),.I (gI l 16),.I (gI l 17),.I (gI l 18),.N (gN l 19),.LL (gLL l 20),.I (gI l 21),.I (gI l 22),.B (gB l 23),.I (gI l 24),.I (gI l 25),.N (gN l 26),.I (gI l 27),.I (gI l 28),.N (gN l 29),.LL (gLL l 30),.I (gI l 31),.I (gI l 32),.N (gN l 33),.LL (gLL l 34),.N (gN l 35),.L (List.set (gL l 36) (0+((Int.toNat (gI A 0))*1)) (wr .i64 ((List.getD (gL l 36) (0+((Int.toNat (gI A 0))*1)) 0)+1)))])))))
 (fun _=>none)) j)))
 (ck ((eqM (gN l 1) (List.length (List.take ((gN l 1)*1) (List.drop 0 (gL l 2)))))&&true)
 (F71 [.L (List.take ((gN l 1)*1) (List.drop 0 (gL l 2)))]
 (fun j A=>(sw (L121_5_1.b R 0 [.I (gI l 0),.N (gN l 1),.B false,.N (gN A 0),.I (gI l 3),.I 0,.L (gL l 2),.I (gI l 3),.I (gI l 4),.N (gN l 5),.LL (gLL l 6),.I (gI l 7),.I (gI l 8),.N (gN l 9),.L (gL l 10),.I (gI l 11),.I (gI l 12),.N (gN l 13),.LL (gLL l 14),.I (gI l 15),.I (gI l 16),.I (gI l 17),.I (gI l 18),.N (gN l 19),.LL (gLL l 20),.I (gI l 21),.I (gI l 22),.B (gB l 23),.I (gI l 24),.I (gI l 25),.N (gN l 26),.I (gI l 27),.I (gI l 28),.N (gN l 29),.LL (gLL l 30),.I (gI l 31),.I (gI l 32),.N (gN l 33),.LL (gLL l 34),.N (gN l 35),.L (gL l 36),.L (gL A 1)]
 (fun j B=>(sw (k 0 [.B (gB B 0),.L (gL B 1),.I (gI B 2),.I (gI B 3),.N (gN B 4),.LL (gLL B 5),.I (gI B 6),.I (gI B 7),.N (gN B 8),.L (gL B 9),.I (gI B 10),.I (gI B 11),.N (gN B 12),.LL (gLL B 13),.I (gI B 14),.I (gI B 15),.I (gI B 16),.I (gI B 17),.N (gN B 18),.LL (gLL B 19),.I (gI B 20),.I (gI B 21),.B (gB B 22),.I (gI B 23),.I (gI B 24),.N (gN B 25),.I (gI B 26),.I (gI B 27),.N (gN B 28),.LL (gLL B 29),.I (gI B 30),.I (gI B 31),.N (gN B 32),.LL (gLL B 33),.N (gN B 34),.L (gL B 35)])
 (sw (k 0 [.B true,.L (gL B 1),.I (gI B 2),.I (gI B 3),.N (gN B 4),.LL (gLL B 5),.I (gI B 6),.I (gI B 7),.N (gN B 8),.L (gL B 9),.I (gI B 10),.I (gI B 11),.N (gN B 12),.LL (gLL B 13),.I (gI B 14),.I (gI B 15),.I (gI B 16),.I (gI B 17),.N (gN B 18),.LL (gLL B 19),.I (gI B 20),.I (gI B 21),.B (gB B 22),.I (gI B 23),.I (gI B 24),.N (gN B 25),.I (gI B 26),.I (gI B 27),.N (gN B 28),.LL (gLL B 29),.I (gI B 30),.I (gI B 31),.N (gN B 32),.LL (gLL B 33),.N (gN B 34),.L (gL B 35)])
 (fun _=>none))) j))
 (fun _=>none)) j)))
theorem S121_1.eq (R:SDyn P S121_1.H):SEq (S121_1.O R) S121_1.H (S121_1.body R):=by intro τ l κ;kernel_rfl
def S121_1.next (R:SDyn P S121_1.H):SDyn P S121_1.H:=mkS (S121_1.eq R)
def S121_1.D (n:Nat):SDyn P S121_1.H:=Nat.rec ⟨fun _ _=>none,fun _ _ _ h=>nomatch h⟩ (fun _ R=>S121_1.next R) n
def S121_1:Option τ:=(S121_1.D fuel).b l k
def S121_1.E:SEnt P:=⟨S121_1.H,S121_1.D fuel⟩
def S121_3.H:SHead:=⟨121,[pI,(rr 0)],[(pp 1),(pp 2),(pp 3),(pp 4)],oao4,[(pB,[oI,(oG [pI,pI,qM]),(oG [(PV2.v (PV1.yld 5))]),(oG [pI,pI,qR]),(oG [(PV2.fn 121 [(p1 1),(p1 2),(p1 3),(p1 4)])]),(PO.loop false [(PV2.agg [iI,iI,(PV1.sl (PC0.m .i64))]),(pp 6),nS,pI,pI,(pp 7),n_,(PV2.agg [iI,iI,(PV1.sl (PC0.m .i64))]),pI,pI,pB,n_,(PV2.agg [iI,iI,(PV1.sl (PC0.m .i64))]),(PV2.fn 120 [(p1 1),(p1 3)]),n_,n_,n_,n_,n_,n_,n_] [14] (rfA 64 0) (rfB 64 0) 1048620 true Out.normal),(oG [pI,pI,qM]),(oG [(rr 9)]),PO.dead,oM]),(pB,oao4)]⟩
def L121_5_3.H:LHead:=⟨false,false,10,495621,495621,12583735,256,0,[(PS.mk (pI::(rr 0)::(pp 1)::us 1 ((pp 3)::(pp 4)::us 2 (pB::(rr 9)::us 12 (pI::pI::us 21 [])))) oao6),(PS.mk (pI::(rr 0)::(pp 1)::us 1 ((pp 3)::(pp 4)::us 2 (pB::(rr 9)::us 12 (pI::pI::us 21 [])))) oao5)],[(Out.ret,(PS.mk (us 8 (pB::us 36 [])) oao5)),(Out.ret,(PS.mk (us 8 (pB::us 36 [])) oao6)),((Out.exit 0),(PS.mk (us 8 (pB::us 36 [])) oao6)),((Out.exit 0),(PS.mk (us 8 (pB::us 36 [])) oao5))]⟩
def L121_5_3.O (R:SDyn P S121_3.H):Orc P:=⟨[],[],[S94_1.E,⟨S121_3.H,R⟩],40⟩
def L121_5_3.s0 (R:SDyn P S121_3.H) {τ:Type} (next ex:Nat→LS_→Option τ) (l:LS_):Option τ :=
 br (ltI (gI l 5) (gI l 4))
 (ck (((((eqM (gN l 1) (gN l 3))&&(eqM (List.length (List.take ((gN l 1)*1) (List.drop 0 (gL l 6)))) (gN l 1)))&&true)&&(eqM (List.length (gL l 38)) (gN l 3)))&&true)
 (ck (((leI 0 (gI l 0))&&(ltI (gI l 0) (gN l 9)))&&true)
 (ck (ltN ((Int.toNat (gI l 0))*1) (List.length (gLL l 10)))
 (S94_1 [.I (gI l 11),.I (gI l 12),.N (gN l 13),.L (gL l 14),.N (gN l 3),.I (gI l 5),.N (List.length (List.getD (gLL l 10) ((Int.toNat (gI l 0))*1) [])),.L (List.getD (gLL l 10) ((Int.toNat (gI l 0))*1) []),.L (List.take ((gN l 1)*1) (List.drop 0 (gL l 6)))]
 (fun j A=>(sw (R.b [.I (wr .i64 ((gI l 0)+1)),.N (gN l 3),.L (gL A 0),.I (gI l 7),.I (gI l 8),.N (gN l 9),.LL (gLL l 10),.I (gI l 11),.I (gI l 12),.N (gN l 13),.L (gL l 14),.I (gI l 15),.I (gI l 16),.N (gN l 17),.LL (gLL l 18),.I (gI l 19),.I (gI l 20),.I (gI l 21),.I (gI l 22),.N (gN l 23),.LL (gLL l 24),.I (gI l 25),.I (gI l 26),.B (gB l 27),.I (gI l 28),.I (gI l 29),.N (gN l 30),.LL (gLL l 31),.I (gI l 32),.I (gI l 33),.N (gN l 34),.LL (gLL l 35),.N (gN l 36),.LL (gLL l 37)]
 (fun j B=>(sw (br (!(gB B 0))
 (ex 0 [.B false,.L (gL l 6),.I (gI B 2),.I (gI B 3),.N (gN B 4),.LL (gLL B 5),.I (gI B 6),.I (gI B 7),.N (gN B 8),.L (gL B 9),.I (gI B 10),.I (gI B 11),.N (gN B 12),.LL (gLL B 13),.I (gI B 14),.I (gI B 15),.I (gI B 16),.I (gI B 17),.N (gN B 18),.LL (gLL B 19),.I (gI B 20),.I (gI B 21),.B (gB B 22),.I (gI B 23),.I (gI B 24),.N (gN B 25),.LL (gLL B 26),.I (gI B 27),.I (gI B 28),.N (gN B 29),.LL (gLL B 30),.N (gN B 31),.L (gL B 1),.LL (gLL B 32)])
 (next 1 [.I (gI l 0),.N (gN l 1),.B (gB l 2),.N (gN l 3),.I (gI l 4),.I (wr .i64 ((gI l 5)+1)),.L (gL l 6),.I (gI B 2),.I (gI B 3),.N (gN B 4),.LL (gLL B 5),.I (gI B 6),.I (gI B 7),.N (gN B 8),.L (gL B 9),.I (gI B 10),.I (gI B 11),.N (gN B 12),.LL (gLL B 13),.I (gI B 14),.I (gI B 15),.I (gI B 16),.I (gI B 17),.N (gN B 18),.LL (gLL B 19),.I (gI B 20),.I (gI B 21),.B (gB B 22),.I (gI B 23),.I (gI B 24),.N (gN B 25),.LL (gLL B 26),.I (gI B 27),.I (gI B 28),.N (gN B 29),.LL (gLL B 30),.N (gN B 31),.L (gL B 1),.LL (gLL B 32)]))
 (sw (br (!(gB B 0))
 (ex 1 [.B false,.L (gL l 6),.I (gI B 2),.I (gI B 3),.N (gN B 4),.LL (gLL B 5),.I (gI B 6),.I (gI B 7),.N (gN B 8),.L (gL B 9),.I (gI B 10),.I (gI B 11),.N (gN B 12),.LL (gLL B 13),.I (gI B 14),.I (gI B 15),.I (gI B 16),.I (gI B 17),.N (gN B 18),.LL (gLL B 19),.I (gI B 20),.I (gI B 21),.B (gB B 22),.I (gI B 23),.I (gI B 24),.N (gN B 25),.LL (gLL B 26),.I (gI B 27),.I (gI B 28),.N (gN B 29),.LL (gLL B 30),.N (gN B 31),.LL (gLL B 32),.L (gL B 1)])
 (next 0 [.I (gI l 0),.N (gN l 1),.B (gB l 2),.N (gN l 3),.I (gI l 4),.I (wr .i64 ((gI l 5)+1)),.L (gL l 6),.I (gI B 2),.I (gI B 3),.N (gN B 4),.LL (gLL B 5),.I (gI B 6),.I (gI B 7),.N (gN B 8),.L (gL B 9),.I (gI B 10),.I (gI B 11),.N (gN B 12),.LL (gLL B 13),.I (gI B 14),.I (gI B 15),.I (gI B 16),.I (gI B 17),.N (gN B 18),.LL (gLL B 19),.I (gI B 20),.I (gI B 21),.B (gB B 22),.I (gI B 23),.I (gI B 24),.N (gN B 25),.LL (gLL B 26),.I (gI B 27),.I (gI B 28),.N (gN B 29),.LL (gLL B 30),.N (gN B 31),.LL (gLL B 32),.L (gL B 1)]))
 (fun _=>none))) j))
 (fun _=>none)) j)))))
 (ex 2 [.B (gB l 2),.L (gL l 6),.I (gI l 7),.I (gI l 8),.N (gN l 9),.LL (gLL l 10),.I (gI l 11),.I (gI l 12),.N (gN l 13),.L (gL l 14),.I (gI l 15),.I (gI l 16),.N (gN l 17),.LL (gLL l 18),.I (gI l 19),.I (gI l 20),.I (gI l 21),.I (gI l 22),.N (gN l 23),.LL (gLL l 24),.I (gI l 25),.I (gI l 26),.B (gB l 27),.I (gI l 28),.I (gI l 29),.N (gN l 30),.LL (gLL l 31),.I (gI l 32),.I (gI l 33),.N (gN l 34),.LL (gLL l 35),.N (gN l 36),.LL (gLL l 37),.L (gL l 38)])
theorem L121_5_3.e0 (R:SDyn P S121_3.H):LEq (L121_5_3.O R) L121_5_3.H 0 (L121_5_3.s0 R):=by intro τ next κ l;kernel_rfl
def L121_5_3.s1 (R:SDyn P S121_3.H) {τ:Type} (next ex:Nat→LS_→Option τ) (l:LS_):Option τ :=
 br (ltI (gI l 5) (gI l 4))
 (ck (((((eqM (gN l 1) (gN l 3))&&(eqM (List.length (List.take ((gN l 1)*1) (List.drop 0 (gL l 6)))) (gN l 1)))&&true)&&(eqM (List.length (gL l 37)) (gN l 3)))&&true)
 (ck (((leI 0 (gI l 0))&&(ltI (gI l 0) (gN l 9)))&&true)
 (ck (ltN ((Int.toNat (gI l 0))*1) (List.length (gLL l 10)))
 (S94_1 [.I (gI l 11),.I (gI l 12),.N (gN l 13),.L (gL l 14),.N (gN l 3),.I (gI l 5),.N (List.length (List.getD (gLL l 10) ((Int.toNat (gI l 0))*1) [])),.L (List.getD (gLL l 10) ((Int.toNat (gI l 0))*1) []),.L (List.take ((gN l 1)*1) (List.drop 0 (gL l 6)))]
 (fun j A=>(sw (R.b [.I (wr .i64 ((gI l 0)+1)),.N (gN l 3),.L (gL A 0),.I (gI l 7),.I (gI l 8),.N (gN l 9),.LL (gLL l 10),.I (gI l 11),.I (gI l 12),.N (gN l 13),.L (gL l 14),.I (gI l 15),.I (gI l 16),.N (gN l 17),.LL (gLL l 18),.I (gI l 19),.I (gI l 20),.I (gI l 21),.I (gI l 22),.N (gN l 23),.LL (gLL l 24),.I (gI l 25),.I (gI l 26),.B (gB l 27),.I (gI l 28),.I (gI l 29),.N (gN l 30),.LL (gLL l 31),.I (gI l 32),.I (gI l 33),.N (gN l 34),.LL (gLL l 35),.N (gN l 36),.LL (gLL l 38)]
 (fun j B=>(sw (br (!(gB B 0))
 (ex 0 [.B false,.L (gL l 6),.I (gI B 2),.I (gI B 3),.N (gN B 4),.LL (gLL B 5),.I (gI B 6),.I (gI B 7),.N (gN B 8),.L (gL B 9),.I (gI B 10),.I (gI B 11),.N (gN B 12),.LL (gLL B 13),.I (gI B 14),.I (gI B 15),.I (gI B 16),.I (gI B 17),.N (gN B 18),.LL (gLL B 19),.I (gI B 20),.I (gI B 21),.B (gB B 22),.I (gI B 23),.I (gI B 24),.N (gN B 25),.LL (gLL B 26),.I (gI B 27),.I (gI B 28),.N (gN B 29),.LL (gLL B 30),.N (gN B 31),.L (gL B 1),.LL (gLL B 32)])
 (next 1 [.I (gI l 0),.N (gN l 1),.B (gB l 2),.N (gN l 3),.I (gI l 4),.I (wr .i64 ((gI l 5)+1)),.L (gL l 6),.I (gI B 2),.I (gI B 3),.N (gN B 4),.LL (gLL B 5),.I (gI B 6),.I (gI B 7),.N (gN B 8),.L (gL B 9),.I (gI B 10),.I (gI B 11),.N (gN B 12),.LL (gLL B 13),.I (gI B 14),.I (gI B 15),.I (gI B 16),.I (gI B 17),.N (gN B 18),.LL (gLL B 19),.I (gI B 20),.I (gI B 21),.B (gB B 22),.I (gI B 23),.I (gI B 24),.N (gN B 25),.LL (gLL B 26),.I (gI B 27),.I (gI B 28),.N (gN B 29),.LL (gLL B 30),.N (gN B 31),.L (gL B 1),.LL (gLL B 32)]))
 (sw (br (!(gB B 0))
 (ex 0 [.B false,.L (gL l 6),.I (gI B 2),.I (gI B 3),.N (gN B 4),.LL (gLL B 5),.I (gI B 6),.I (gI B 7),.N (gN B 8),.L (gL B 9),.I (gI B 10),.I (gI B 11),.N (gN B 12),.LL (gLL B 13),.I (gI B 14),.I (gI B 15),.I (gI B 16),.I (gI B 17),.N (gN B 18),.LL (gLL B 19),.I (gI B 20),.I (gI B 21),.B (gB B 22),.I (gI B 23),.I (gI B 24),.N (gN B 25),.LL (gLL B 26),.I (gI B 27),.I (gI B 28),.N (gN B 29),.LL (gLL B 30),.N (gN B 31),.L (gL B 1),.LL (gLL B 32)])
 (next 1 [.I (gI l 0),.N (gN l 1),.B (gB l 2),.N (gN l 3),.I (gI l 4),.I (wr .i64 ((gI l 5)+1)),.L (gL l 6),.I (gI B 2),.I (gI B 3),.N (gN B 4),.LL (gLL B 5),.I (gI B 6),.I (gI B 7),.N (gN B 8),.L (gL B 9),.I (gI B 10),.I (gI B 11),.N (gN B 12),.LL (gLL B 13),.I (gI B 14),.I (gI B 15),.I (gI B 16),.I (gI B 17),.N (gN B 18),.LL (gLL B 19),.I (gI B 20),.I (gI B 21),.B (gB B 22),.I (gI B 23),.I (gI B 24),.N (gN B 25),.LL (gLL B 26),.I (gI B 27),.I (gI B 28),.N (gN B 29),.LL (gLL B 30),.N (gN B 31),.L (gL B 1),.LL (gLL B 32)]))
 (fun _=>none))) j))
 (fun _=>none)) j)))))
 (ex 3 [.B (gB l 2),.L (gL l 6),.I (gI l 7),.I (gI l 8),.N (gN l 9),.LL (gLL l 10),.I (gI l 11),.I (gI l 12),.N (gN l 13),.L (gL l 14),.I (gI l 15),.I (gI l 16),.N (gN l 17),.LL (gLL l 18),.I (gI l 19),.I (gI l 20),.I (gI l 21),.I (gI l 22),.N (gN l 23),.LL (gLL l 24),.I (gI l 25),.I (gI l 26),.B (gB l 27),.I (gI l 28),.I (gI l 29),.N (gN l 30),.LL (gLL l 31),.I (gI l 32),.I (gI l 33),.N (gN l 34),.LL (gLL l 35),.N (gN l 36),.L (gL l 37),.LL (gLL l 38)])
theorem L121_5_3.e1 (R:SDyn P S121_3.H):LEq (L121_5_3.O R) L121_5_3.H 1 (L121_5_3.s1 R):=by intro τ next κ l;kernel_rfl
def L121_5_3 (R:SDyn P S121_3.H):LStep P Cf:=LStep.mk2 (by decide) (L121_5_3.e0 R) (L121_5_3.e1 R)
def L121_5_3.b (R:SDyn P S121_3.H) {τ:Type} (t:Nat) (l:LS_) (κ:Nat→LS_→Option τ):Option τ:=runE (L121_5_3 R) fuel κ t l
def L121_5_3.E (R:SDyn P S121_3.H):LEnt P:=LStep.E (L121_5_3 R)
def S121_3.O (R:SDyn P S121_3.H):Orc P:=⟨[F71.E],[L121_5_3.E R],[],40⟩
def S121_3.body (R:SDyn P S121_3.H) {τ:Type} (l:LS_) (k:Nat→LS_→Option τ):Option τ :=
 br ((gI l 0)==(((gN l 5):Nat):Int))
 (ck ((eqM (gN l 1) (List.length (List.take ((gN l 1)*1) (List.drop 0 (gL l 2)))))&&true)
 (F71 [.L (List.take ((gN l 1)*1) (List.drop 0 (gL l 2)))]
 (fun j A=>(sw (ck ((eqM (gN A 0) (List.length (List.take ((gN A 0)*1) (List.drop 0 (gL A 1)))))&&true)
 (ck (((((eqM (List.length (gLL l 33)) ((gN l 32)*1))&&true)&&(eqM 1 1))&&(leN (((gN l 32)+1)*25) 1099511627776))&&true)
 (k 0 [.B true,.L (gL l 2),.I (gI l 3),.I (gI l 4),.N (gN l 5),.LL (gLL l 6),.I (gI l 7),.I (gI l 8),.N (gN l 9),.L (gL l 10),.I (gI l 11),.I (gI l 12),.N (gN l 13),.LL (gLL l 14),.I (gI l 15),.I (gI l 16),.I (gI l 17),.I (gI l 18),.N (gN l 19),.LL (gLL l 20),.I (gI l 21),.I (gI l 22),.B (gB l 23),.I (gI l 24),.I (gI l 25),.N (gN l 26),.LL (gLL l 27),.I (gI l 28),.I (gI l 29),.N (gN l 30),.LL (gLL l 31),.N ((gN l 32)+1),.LL ((gLL l 33)++(List.take 1 (List.drop 0 [(List.take ((gN A 0)*1) (List.drop 0 (gL A 1)))])))])))
 (fun _=>none)) j)))
 (ck ((eqM (gN l 1) (List.length (List.take ((gN l 1)*1) (List.drop 0 (gL l 2)))))&&true)
 (F71 [.L (List.take ((gN l 1)*1) (List.drop 0 (gL l 2)))]
 (fun j A=>(sw (L121_5_3.b R 0 [.I (gI l 0),.N (gN l 1),.B false,.N (gN A 0),.I (gI l 3),.I 0,.L (gL l 2),.I (gI l 3),.I (gI l 4),.N (gN l 5),.LL (gLL l 6),.I (gI l 7),.I (gI l 8),.N (gN l 9),.L (gL l 10),.I (gI l 11),.I (gI l 12),.N (gN l 13),.LL (gLL l 14),.I (gI l 15),.I (gI l 16),.I (gI l 17),.I (gI l 18),.N (gN l 19),.LL (gLL l 20),.I (gI l 21),.I (gI l 22),.B (gB l 23),.I (gI l 24),.I (gI l 25),.N (gN l 26),.LL (gLL l 27),.I (gI l 28),.I (gI l 29),.N (gN l 30),.LL (gLL l 31),.N (gN l 32),.LL (gLL l 33),.L (gL A 1)]
 (fun j B=>(sw (k 0 [.B (gB B 0),.L (gL B 1),.I (gI B 2),.I (gI B 3),.N (gN B 4),.LL (gLL B 5),.I (gI B 6),.I (gI B 7),.N (gN B 8),.L (gL B 9),.I (gI B 10),.I (gI B 11),.N (gN B 12),.LL (gLL B 13),.I (gI B 14),.I (gI B 15),.I (gI B 16),.I (gI B 17),.N (gN B 18),.LL (gLL B 19),.I (gI B 20),.I (gI B 21),.B (gB B 22),.I (gI B 23),.I (gI B 24),.N (gN B 25),.LL (gLL B 26),.I (gI B 27),.I (gI B 28),.N (gN B 29),.LL (gLL B 30),.N (gN B 31),.LL (gLL B 33)])
 (sw (k 1 [.B (gB B 0),.L (gL B 1),.I (gI B 2),.I (gI B 3),.N (gN B 4),.LL (gLL B 5),.I (gI B 6),.I (gI B 7),.N (gN B 8),.L (gL B 9),.I (gI B 10),.I (gI B 11),.N (gN B 12),.LL (gLL B 13),.I (gI B 14),.I (gI B 15),.I (gI B 16),.I (gI B 17),.N (gN B 18),.LL (gLL B 19),.I (gI B 20),.I (gI B 21),.B (gB B 22),.I (gI B 23),.I (gI B 24),.N (gN B 25),.LL (gLL B 26),.I (gI B 27),.I (gI B 28),.N (gN B 29),.LL (gLL B 30),.N (gN B 31),.LL (gLL B 32)])
 (sw (k 1 [.B true,.L (gL B 1),.I (gI B 2),.I (gI B 3),.N (gN B 4),.LL (gLL B 5),.I (gI B 6),.I (gI B 7),.N (gN B 8),.L (gL B 9),.I (gI B 10),.I (gI B 11),.N (gN B 12),.LL (gLL B 13),.I (gI B 14),.I (gI B 15),.I (gI B 16),.I (gI B 17),.N (gN B 18),.LL (gLL B 19),.I (gI B 20),.I (gI B 21),.B (gB B 22),.I (gI B 23),.I (gI B 24),.N (gN B 25),.LL (gLL B 26),.I (gI B 27),.I (gI B 28),.N (gN B 29),.LL (gLL B 30),.N (gN B 31),.LL (gLL B 32)])
 (sw (k 0 [.B true,.L (gL B 1),.I (gI B 2),.I (gI B 3),.N (gN B 4),.LL (gLL B 5),.I (gI B 6),.I (gI B 7),.N (gN B 8),.L (gL B 9),.I (gI B 10),.I (gI B 11),.N (gN B 12),.LL (gLL B 13),.I (gI B 14),.I (gI B 15),.I (gI B 16),.I (gI B 17),.N (gN B 18),.LL (gLL B 19),.I (gI B 20),.I (gI B 21),.B (gB B 22),.I (gI B 23),.I (gI B 24),.N (gN B 25),.LL (gLL B 26),.I (gI B 27),.I (gI B 28),.N (gN B 29),.LL (gLL B 30),.N (gN B 31),.LL (gLL B 33)])
 (fun _=>none))))) j))
 (fun _=>none)) j)))
theorem S121_3.eq (R:SDyn P S121_3.H):SEq (S121_3.O R) S121_3.H (S121_3.body R):=by intro τ l κ;kernel_rfl
def S121_3.next (R:SDyn P S121_3.H):SDyn P S121_3.H:=mkS (S121_3.eq R)
def S121_3.D (n:Nat):SDyn P S121_3.H:=Nat.rec ⟨fun _ _=>none,fun _ _ _ h=>nomatch h⟩ (fun _ R=>S121_3.next R) n
def S121_3:Option τ:=(S121_3.D fuel).b l k
def S121_3.E:SEnt P:=⟨S121_3.H,S121_3.D fuel⟩
def S121_2.H:SHead:=⟨121,[pI,(rr 0)],[(pp 1),(pp 2),(pp 3),(pp 4)],oao7,[(pB,oao4),(pB,oao7)]⟩
def L121_5_2.H:LHead:=⟨false,false,9,495621,495621,12583735,256,0,[(PS.mk (pI::(rr 0)::(pp 1)::us 1 ((pp 3)::(pp 4)::us 2 (pB::(rr 8)::us 12 (pI::pI::us 21 [])))) oao9),(PS.mk (pI::(rr 0)::(pp 1)::us 1 ((pp 3)::(pp 4)::us 2 (pB::(rr 8)::us 12 (pI::pI::us 21 [])))) oao8)],[(Out.ret,(PS.mk (us 8 (pB::us 36 [])) oao8)),(Out.ret,(PS.mk (us 8 (pB::us 36 [])) oao9)),((Out.exit 0),(PS.mk (us 8 (pB::us 36 [])) oao9)),((Out.exit 0),(PS.mk (us 8 (pB::us 36 [])) oao8))]⟩
def L121_5_2.O (R:SDyn P S121_2.H):Orc P:=⟨[],[],[S94_1.E,⟨S121_2.H,R⟩,S121_3.E],40⟩
def L121_5_2.s0 (R:SDyn P S121_2.H) {τ:Type} (next ex:Nat→LS_→Option τ) (l:LS_):Option τ :=
 br (ltI (gI l 5) (gI l 4))
 (ck (((((eqM (gN l 1) (gN l 3))&&(eqM (List.length (List.take ((gN l 1)*1) (List.drop 0 (gL l 6)))) (gN l 1)))&&true)&&(eqM (List.length (gL l 36)) (gN l 3)))&&true)
 (ck (((leI 0 (gI l 0))&&(ltI (gI l 0) (gN l 9)))&&true)
 (ck (ltN ((Int.toNat (gI l 0))*1) (List.length (gLL l 10)))
 (S94_1 [.I (gI l 11),.I (gI l 12),.N (gN l 13),.L (gL l 14),.N (gN l 3),.I (gI l 5),.N (List.length (List.getD (gLL l 10) ((Int.toNat (gI l 0))*1) [])),.L (List.getD (gLL l 10) ((Int.toNat (gI l 0))*1) []),.L (List.take ((gN l 1)*1) (List.drop 0 (gL l 6)))]
 (fun j A=>(sw (R.b [.I (wr .i64 ((gI l 0)+1)),.N (gN l 3),.L (gL A 0),.I (gI l 7),.I (gI l 8),.N (gN l 9),.LL (gLL l 10),.I (gI l 11),.I (gI l 12),.N (gN l 13),.L (gL l 14),.I (gI l 15),.I (gI l 16),.N (gN l 17),.LL (gLL l 18),.I (gI l 19),.I (gI l 20),.I (gI l 21),.I (gI l 22),.N (gN l 23),.LL (gLL l 24),.I (gI l 25),.I (gI l 26),.B (gB l 27),.I (gI l 28),.I (gI l 29),.N (gN l 30),.LL (gLL l 31),.I (gI l 32),.I (gI l 33),.N (gN l 34),.LL (gLL l 35)]
 (fun j B=>(sw (br (!(gB B 0))
 (ex 0 [.B false,.L (gL l 6),.I (gI B 2),.I (gI B 3),.N (gN B 4),.LL (gLL B 5),.I (gI B 6),.I (gI B 7),.N (gN B 8),.L (gL B 9),.I (gI B 10),.I (gI B 11),.N (gN B 12),.LL (gLL B 13),.I (gI B 14),.I (gI B 15),.I (gI B 16),.I (gI B 17),.N (gN B 18),.LL (gLL B 19),.I (gI B 20),.I (gI B 21),.B (gB B 22),.I (gI B 23),.I (gI B 24),.N (gN B 25),.LL (gLL B 26),.I (gI B 27),.I (gI B 28),.N (gN B 29),.LL (gLL B 30),.N (gN B 31),.L (gL B 1),.LL (gLL B 32)])
 (next 1 [.I (gI l 0),.N (gN l 1),.B (gB l 2),.N (gN l 3),.I (gI l 4),.I (wr .i64 ((gI l 5)+1)),.L (gL l 6),.I (gI B 2),.I (gI B 3),.N (gN B 4),.LL (gLL B 5),.I (gI B 6),.I (gI B 7),.N (gN B 8),.L (gL B 9),.I (gI B 10),.I (gI B 11),.N (gN B 12),.LL (gLL B 13),.I (gI B 14),.I (gI B 15),.I (gI B 16),.I (gI B 17),.N (gN B 18),.LL (gLL B 19),.I (gI B 20),.I (gI B 21),.B (gB B 22),.I (gI B 23),.I (gI B 24),.N (gN B 25),.LL (gLL B 26),.I (gI B 27),.I (gI B 28),.N (gN B 29),.LL (gLL B 30),.N (gN B 31),.L (gL B 1),.LL (gLL B 32)]))
 (sw (br (!(gB B 0))
 (ex 1 [.B false,.L (gL l 6),.I (gI B 2),.I (gI B 3),.N (gN B 4),.LL (gLL B 5),.I (gI B 6),.I (gI B 7),.N (gN B 8),.L (gL B 9),.I (gI B 10),.I (gI B 11),.N (gN B 12),.LL (gLL B 13),.I (gI B 14),.I (gI B 15),.I (gI B 16),.I (gI B 17),.N (gN B 18),.LL (gLL B 19),.I (gI B 20),.I (gI B 21),.B (gB B 22),.I (gI B 23),.I (gI B 24),.N (gN B 25),.LL (gLL B 26),.I (gI B 27),.I (gI B 28),.N (gN B 29),.LL (gLL B 30),.L (gL B 1)])
 (next 0 [.I (gI l 0),.N (gN l 1),.B (gB l 2),.N (gN l 3),.I (gI l 4),.I (wr .i64 ((gI l 5)+1)),.L (gL l 6),.I (gI B 2),.I (gI B 3),.N (gN B 4),.LL (gLL B 5),.I (gI B 6),.I (gI B 7),.N (gN B 8),.L (gL B 9),.I (gI B 10),.I (gI B 11),.N (gN B 12),.LL (gLL B 13),.I (gI B 14),.I (gI B 15),.I (gI B 16),.I (gI B 17),.N (gN B 18),.LL (gLL B 19),.I (gI B 20),.I (gI B 21),.B (gB B 22),.I (gI B 23),.I (gI B 24),.N (gN B 25),.LL (gLL B 26),.I (gI B 27),.I (gI B 28),.N (gN B 29),.LL (gLL B 30),.L (gL B 1)]))
 (fun _=>none))) j))
 (fun _=>none)) j)))))
 (ex 2 [.B (gB l 2),.L (gL l 6),.I (gI l 7),.I (gI l 8),.N (gN l 9),.LL (gLL l 10),.I (gI l 11),.I (gI l 12),.N (gN l 13),.L (gL l 14),.I (gI l 15),.I (gI l 16),.N (gN l 17),.LL (gLL l 18),.I (gI l 19),.I (gI l 20),.I (gI l 21),.I (gI l 22),.N (gN l 23),.LL (gLL l 24),.I (gI l 25),.I (gI l 26),.B (gB l 27),.I (gI l 28),.I (gI l 29),.N (gN l 30),.LL (gLL l 31),.I (gI l 32),.I (gI l 33),.N (gN l 34),.LL (gLL l 35),.L (gL l 36)])
theorem L121_5_2.e0 (R:SDyn P S121_2.H):LEq (L121_5_2.O R) L121_5_2.H 0 (L121_5_2.s0 R):=by intro τ next κ l;kernel_rfl
def L121_5_2.s1 (R:SDyn P S121_2.H) {τ:Type} (next ex:Nat→LS_→Option τ) (l:LS_):Option τ :=
 br (ltI (gI l 5) (gI l 4))
 (ck (((((eqM (gN l 1) (gN l 3))&&(eqM (List.length (List.take ((gN l 1)*1) (List.drop 0 (gL l 6)))) (gN l 1)))&&true)&&(eqM (List.length (gL l 37)) (gN l 3)))&&true)
 (ck (((leI 0 (gI l 0))&&(ltI (gI l 0) (gN l 9)))&&true)
 (ck (ltN ((Int.toNat (gI l 0))*1) (List.length (gLL l 10)))
 (S94_1 [.I (gI l 11),.I (gI l 12),.N (gN l 13),.L (gL l 14),.N (gN l 3),.I (gI l 5),.N (List.length (List.getD (gLL l 10) ((Int.toNat (gI l 0))*1) [])),.L (List.getD (gLL l 10) ((Int.toNat (gI l 0))*1) []),.L (List.take ((gN l 1)*1) (List.drop 0 (gL l 6)))]
 (fun j A=>(sw (S121_3 [.I (wr .i64 ((gI l 0)+1)),.N (gN l 3),.L (gL A 0),.I (gI l 7),.I (gI l 8),.N (gN l 9),.LL (gLL l 10),.I (gI l 11),.I (gI l 12),.N (gN l 13),.L (gL l 14),.I (gI l 15),.I (gI l 16),.N (gN l 17),.LL (gLL l 18),.I (gI l 19),.I (gI l 20),.I (gI l 21),.I (gI l 22),.N (gN l 23),.LL (gLL l 24),.I (gI l 25),.I (gI l 26),.B (gB l 27),.I (gI l 28),.I (gI l 29),.N (gN l 30),.LL (gLL l 31),.I (gI l 32),.I (gI l 33),.N (gN l 34),.LL (gLL l 35),.N (gN l 36),.LL (gLL l 38)]
 (fun j B=>(sw (br (!(gB B 0))
 (ex 0 [.B false,.L (gL l 6),.I (gI B 2),.I (gI B 3),.N (gN B 4),.LL (gLL B 5),.I (gI B 6),.I (gI B 7),.N (gN B 8),.L (gL B 9),.I (gI B 10),.I (gI B 11),.N (gN B 12),.LL (gLL B 13),.I (gI B 14),.I (gI B 15),.I (gI B 16),.I (gI B 17),.N (gN B 18),.LL (gLL B 19),.I (gI B 20),.I (gI B 21),.B (gB B 22),.I (gI B 23),.I (gI B 24),.N (gN B 25),.LL (gLL B 26),.I (gI B 27),.I (gI B 28),.N (gN B 29),.LL (gLL B 30),.N (gN B 31),.L (gL B 1),.LL (gLL B 32)])
 (next 1 [.I (gI l 0),.N (gN l 1),.B (gB l 2),.N (gN l 3),.I (gI l 4),.I (wr .i64 ((gI l 5)+1)),.L (gL l 6),.I (gI B 2),.I (gI B 3),.N (gN B 4),.LL (gLL B 5),.I (gI B 6),.I (gI B 7),.N (gN B 8),.L (gL B 9),.I (gI B 10),.I (gI B 11),.N (gN B 12),.LL (gLL B 13),.I (gI B 14),.I (gI B 15),.I (gI B 16),.I (gI B 17),.N (gN B 18),.LL (gLL B 19),.I (gI B 20),.I (gI B 21),.B (gB B 22),.I (gI B 23),.I (gI B 24),.N (gN B 25),.LL (gLL B 26),.I (gI B 27),.I (gI B 28),.N (gN B 29),.LL (gLL B 30),.N (gN B 31),.L (gL B 1),.LL (gLL B 32)]))
 (sw (br (!(gB B 0))
 (ex 0 [.B false,.L (gL l 6),.I (gI B 2),.I (gI B 3),.N (gN B 4),.LL (gLL B 5),.I (gI B 6),.I (gI B 7),.N (gN B 8),.L (gL B 9),.I (gI B 10),.I (gI B 11),.N (gN B 12),.LL (gLL B 13),.I (gI B 14),.I (gI B 15),.I (gI B 16),.I (gI B 17),.N (gN B 18),.LL (gLL B 19),.I (gI B 20),.I (gI B 21),.B (gB B 22),.I (gI B 23),.I (gI B 24),.N (gN B 25),.LL (gLL B 26),.I (gI B 27),.I (gI B 28),.N (gN B 29),.LL (gLL B 30),.N (gN B 31),.L (gL B 1),.LL (gLL B 32)])
 (next 1 [.I (gI l 0),.N (gN l 1),.B (gB l 2),.N (gN l 3),.I (gI l 4),.I (wr .i64 ((gI l 5)+1)),.L (gL l 6),.I (gI B 2),.I (gI B 3),.N (gN B 4),.LL (gLL B 5),.I (gI B 6),.I (gI B 7),.N (gN B 8),.L (gL B 9),.I (gI B 10),.I (gI B 11),.N (gN B 12),.LL (gLL B 13),.I (gI B 14),.I (gI B 15),.I (gI B 16),.I (gI B 17),.N (gN B 18),.LL (gLL B 19),.I (gI B 20),.I (gI B 21),.B (gB B 22),.I (gI B 23),.I (gI B 24),.N (gN B 25),.LL (gLL B 26),.I (gI B 27),.I (gI B 28),.N (gN B 29),.LL (gLL B 30),.N (gN B 31),.L (gL B 1),.LL (gLL B 32)]))
 (fun _=>none))) j))
 (fun _=>none)) j)))))
 (ex 3 [.B (gB l 2),.L (gL l 6),.I (gI l 7),.I (gI l 8),.N (gN l 9),.LL (gLL l 10),.I (gI l 11),.I (gI l 12),.N (gN l 13),.L (gL l 14),.I (gI l 15),.I (gI l 16),.N (gN l 17),.LL (gLL l 18),.I (gI l 19),.I (gI l 20),.I (gI l 21),.I (gI l 22),.N (gN l 23),.LL (gLL l 24),.I (gI l 25),.I (gI l 26),.B (gB l 27),.I (gI l 28),.I (gI l 29),.N (gN l 30),.LL (gLL l 31),.I (gI l 32),.I (gI l 33),.N (gN l 34),.LL (gLL l 35),.N (gN l 36),.L (gL l 37),.LL (gLL l 38)])
theorem L121_5_2.e1 (R:SDyn P S121_2.H):LEq (L121_5_2.O R) L121_5_2.H 1 (L121_5_2.s1 R):=by intro τ next κ l;kernel_rfl
def L121_5_2 (R:SDyn P S121_2.H):LStep P Cf:=LStep.mk2 (by decide) (L121_5_2.e0 R) (L121_5_2.e1 R)
def L121_5_2.b (R:SDyn P S121_2.H) {τ:Type} (t:Nat) (l:LS_) (κ:Nat→LS_→Option τ):Option τ:=runE (L121_5_2 R) fuel κ t l
def L121_5_2.E (R:SDyn P S121_2.H):LEnt P:=LStep.E (L121_5_2 R)
def S121_2.O (R:SDyn P S121_2.H):Orc P:=⟨[F71.E],[L121_5_2.E R],[],40⟩
def S121_2.body (R:SDyn P S121_2.H) {τ:Type} (l:LS_) (k:Nat→LS_→Option τ):Option τ :=
 br ((gI l 0)==(((gN l 5):Nat):Int))
 (ck ((eqM (gN l 1) (List.length (List.take ((gN l 1)*1) (List.drop 0 (gL l 2)))))&&true)
 (F71 [.L (List.take ((gN l 1)*1) (List.drop 0 (gL l 2)))]
 (fun j A=>(sw (ck ((eqM (gN A 0) (List.length (List.take ((gN A 0)*1) (List.drop 0 (gL A 1)))))&&true)
 (k 0 [.B true,.L (gL l 2),.I (gI l 3),.I (gI l 4),.N (gN l 5),.LL (gLL l 6),.I (gI l 7),.I (gI l 8),.N (gN l 9),.L (gL l 10),.I (gI l 11),.I (gI l 12),.N (gN l 13),.LL (gLL l 14),.I (gI l 15),.I (gI l 16),.I (gI l 17),.I (gI l 18),.N (gN l 19),.LL (gLL l 20),.I (gI l 21),.I (gI l 22),.B (gB l 23),.I (gI l 24),.I (gI l 25),.N (gN l 26),.LL (gLL l 27),.I (gI l 28),.I (gI l 29),.N (gN l 30),.LL (gLL l 31),.N 1,.LL (List.take 1 (List.drop 0 [(List.take ((gN A 0)*1) (List.drop 0 (gL A 1)))]))]))
 (fun _=>none)) j)))
 (ck ((eqM (gN l 1) (List.length (List.take ((gN l 1)*1) (List.drop 0 (gL l 2)))))&&true)
 (F71 [.L (List.take ((gN l 1)*1) (List.drop 0 (gL l 2)))]
 (fun j A=>(sw (L121_5_2.b R 0 [.I (gI l 0),.N (gN l 1),.B false,.N (gN A 0),.I (gI l 3),.I 0,.L (gL l 2),.I (gI l 3),.I (gI l 4),.N (gN l 5),.LL (gLL l 6),.I (gI l 7),.I (gI l 8),.N (gN l 9),.L (gL l 10),.I (gI l 11),.I (gI l 12),.N (gN l 13),.LL (gLL l 14),.I (gI l 15),.I (gI l 16),.I (gI l 17),.I (gI l 18),.N (gN l 19),.LL (gLL l 20),.I (gI l 21),.I (gI l 22),.B (gB l 23),.I (gI l 24),.I (gI l 25),.N (gN l 26),.LL (gLL l 27),.I (gI l 28),.I (gI l 29),.N (gN l 30),.LL (gLL l 31),.L (gL A 1)]
 (fun j B=>(sw (k 0 [.B (gB B 0),.L (gL B 1),.I (gI B 2),.I (gI B 3),.N (gN B 4),.LL (gLL B 5),.I (gI B 6),.I (gI B 7),.N (gN B 8),.L (gL B 9),.I (gI B 10),.I (gI B 11),.N (gN B 12),.LL (gLL B 13),.I (gI B 14),.I (gI B 15),.I (gI B 16),.I (gI B 17),.N (gN B 18),.LL (gLL B 19),.I (gI B 20),.I (gI B 21),.B (gB B 22),.I (gI B 23),.I (gI B 24),.N (gN B 25),.LL (gLL B 26),.I (gI B 27),.I (gI B 28),.N (gN B 29),.LL (gLL B 30),.N (gN B 31),.LL (gLL B 33)])
 (sw (k 1 [.B (gB B 0),.L (gL B 1),.I (gI B 2),.I (gI B 3),.N (gN B 4),.LL (gLL B 5),.I (gI B 6),.I (gI B 7),.N (gN B 8),.L (gL B 9),.I (gI B 10),.I (gI B 11),.N (gN B 12),.LL (gLL B 13),.I (gI B 14),.I (gI B 15),.I (gI B 16),.I (gI B 17),.N (gN B 18),.LL (gLL B 19),.I (gI B 20),.I (gI B 21),.B (gB B 22),.I (gI B 23),.I (gI B 24),.N (gN B 25),.LL (gLL B 26),.I (gI B 27),.I (gI B 28),.N (gN B 29),.LL (gLL B 30)])
 (sw (k 1 [.B true,.L (gL B 1),.I (gI B 2),.I (gI B 3),.N (gN B 4),.LL (gLL B 5),.I (gI B 6),.I (gI B 7),.N (gN B 8),.L (gL B 9),.I (gI B 10),.I (gI B 11),.N (gN B 12),.LL (gLL B 13),.I (gI B 14),.I (gI B 15),.I (gI B 16),.I (gI B 17),.N (gN B 18),.LL (gLL B 19),.I (gI B 20),.I (gI B 21),.B (gB B 22),.I (gI B 23),.I (gI B 24),.N (gN B 25),.LL (gLL B 26),.I (gI B 27),.I (gI B 28),.N (gN B 29),.LL (gLL B 30)])
 (sw (k 0 [.B true,.L (gL B 1),.I (gI B 2),.I (gI B 3),.N (gN B 4),.LL (gLL B 5),.I (gI B 6),.I (gI B 7),.N (gN B 8),.L (gL B 9),.I (gI B 10),.I (gI B 11),.N (gN B 12),.LL (gLL B 13),.I (gI B 14),.I (gI B 15),.I (gI B 16),.I (gI B 17),.N (gN B 18),.LL (gLL B 19),.I (gI B 20),.I (gI B 21),.B (gB B 22),.I (gI B 23),.I (gI B 24),.N (gN B 25),.LL (gLL B 26),.I (gI B 27),.I (gI B 28),.N (gN B 29),.LL (gLL B 30),.N (gN B 31),.LL (gLL B 33)])
 (fun _=>none))))) j))
 (fun _=>none)) j)))
theorem S121_2.eq (R:SDyn P S121_2.H):SEq (S121_2.O R) S121_2.H (S121_2.body R):=by intro τ l κ;kernel_rfl
def S121_2.next (R:SDyn P S121_2.H):SDyn P S121_2.H:=mkS (S121_2.eq R)
def S121_2.D (n:Nat):SDyn P S121_2.H:=Nat.rec ⟨fun _ _=>none,fun _ _ _ h=>nomatch h⟩ (fun _ R=>S121_2.next R) n
def S121_2:Option τ:=(S121_2.D fuel).b l k
def S121_2.E:SEnt P:=⟨S121_2.H,S121_2.D fuel⟩
end
end Go.Proofs.Ytbpjicbpcfkpfaa.Ai
namespace Go.Proofs.Ytbpjicbpcfkpfaa.Ai
open Go Go.RowKit
noncomputable section
variable {τ:Type} (t:Nat) (nx ex:Nat→LS_→Option τ) (l:LS_) (k κ:Nat→LS_→Option τ)
end
end Go.Proofs.Ytbpjicbpcfkpfaa.Ai
namespace Go.Proofs.Ytbpjicbpcfkpfaa.Ai
open Go Ma
noncomputable section
structure Lc (q n:Nat) (G:List (List Int)):Prop where
 fq:q∈Qs
 n0:1≤n
 n1:n≤24
 form:∃ piv,Rref q n G piv
theorem Cd.lc {q n:Nat} {G:List (List Int)} (h:Cd q n G):Lc q n G:=⟨h.fq,h.n0,by have:=h.n1;omega,h.form⟩
theorem rref_len {q n:Nat} {G:List (List Int)} {piv:Nat→Nat} (h:Rref q n G piv):G.length≤n:=by
 have:∀ k,k≤G.length→∀ i,i<k→i≤piv i:=by
  intro k
  induction k with
  | zero=>intro _ i hi;omega
  | succ k ih =>
   intro hk i hi
   rcases Nat.lt_or_ge i k with h1 | h1
   ·exact ih (by omega) i h1
   ·have e:i=k:=by omega
    subst e
    cases i with
    | zero=>omega
    | succ i =>
     have:=ih (by omega) i (by omega)
     have:=h.mono i (i+1) (by omega) (by omega)
     omega
 rcases Nat.eq_zero_or_pos G.length with e | e
 ·omega
 ·have h1:=this G.length (Nat.le_refl _) (G.length-1) (by omega)
  have h2:=h.lt (G.length-1) (by omega)
  omega
theorem Lc.rows {q n:Nat} {G:List (List Int)} (h:Lc q n G):Rows q n G:=by
 obtain ⟨piv,R⟩:=h.form
 have:=rref_len R
 have:=h.n1
 exact ⟨R.wd,by omega,by omega⟩
theorem Lc.len {q n:Nat} {G:List (List Int)} (h:Lc q n G):G.length≤n:=by
 obtain ⟨piv,R⟩:=h.form
 exact rref_len R
structure Cols (q n:Nat) (A:List Int) (G:List (List Int)):Prop where
 len:A.length=n
 at_:∀ t,t<n→0≤A.getD t 0∧A.getD t 0≤G.length
end
end Go.Proofs.Ytbpjicbpcfkpfaa.Ai
namespace Go.Proofs.Ytbpjicbpcfkpfaa.Ma
section
variable {q n:Nat} {add mul:Int→Int→Int} {neg inv:Int→Int}
theorem vadd_comm (F:Fld q add mul neg inv) {a b:List Int} (ha:Wd q n a) (hb:Wd q n b):vadd add a b=vadd add b a:=by
 have e:=ha.1.trans hb.1.symm
 refine ext_getD (by rw [vadd_len e,vadd_len e.symm,e]) fun j hj=>?_
 rw [vadd_len e,ha.1] at hj
 have x:=ha.2 j hj
 have y:=hb.2 j hj
 rw [vadd_get e (by rw [ha.1];exact hj),vadd_get e.symm (by rw [hb.1];exact hj),F.add_comm _ _ x.1 x.2 y.1 y.2]
theorem vadd_assoc (F:Fld q add mul neg inv) {a b c:List Int} (ha:Wd q n a) (hb:Wd q n b) (hc:Wd q n c):vadd add (vadd add a b) c=vadd add a (vadd add b c):=by
 have ab:=ha.vadd F hb
 have bc:=hb.vadd F hc
 have l1:=ab.vadd F hc
 have l2:=ha.vadd F bc
 refine ext_getD (by rw [l1.1,l2.1]) fun j hj=>?_
 rw [l1.1] at hj
 have x:=ha.2 j hj
 have y:=hb.2 j hj
 have z:=hc.2 j hj
 rw [vadd_get (by rw [ab.1,hc.1]) (by rw [ab.1];exact hj),vadd_get (by rw [ha.1,hb.1]) (by rw [ha.1];exact hj),vadd_get (by rw [ha.1,bc.1]) (by rw [ha.1];exact hj),vadd_get (by rw [hb.1,hc.1]) (by rw [hb.1];exact hj),F.add_assoc _ _ _ x.1 x.2 y.1 y.2 z.1 z.2]
theorem zero_vadd (F:Fld q add mul neg inv) {a:List Int} (ha:Wd q n a):vadd add (List.replicate n 0) a=a:=by
 have e:(List.replicate n (0:Int)).length=a.length:=by rw [List.length_replicate,ha.1]
 refine ext_getD (by rw [vadd_len e,e]) fun j hj=>?_
 rw [vadd_len e,e,ha.1] at hj
 have x:=ha.2 j hj
 rw [vadd_get e (by rw [e,ha.1];exact hj),show (List.replicate n (0:Int)).getD j 0=0 by simp [List.getD_eq_getElem?_getD,hj],F.zero_add _ x.1 x.2]
theorem zeros_wd (F:Fld q add mul neg inv):Wd q n (List.replicate n 0):=⟨by simp,fun j hj=>by
 have:=F.one_lt
 rw [show (List.replicate n (0:Int)).getD j 0=0 by simp [List.getD_eq_getElem?_getD,hj]]
 omega⟩
theorem vmul_add (F:Fld q add mul neg inv) {g:List Int} (hg:Wd q n g) {a b:Int} (a0:0≤a) (a1:a<q) (b0:0≤b) (b1:b<q):vadd add (vmul mul a g) (vmul mul b g)=vmul mul (add a b) g:=by
 have ha:=Wd.vmul F a0 a1 hg
 have hb:=Wd.vmul F b0 b1 hg
 have ab:=F.add_in a b a0 a1 b0 b1
 have hab:=Wd.vmul F ab.1 ab.2 hg
 refine ext_getD (by rw [(ha.vadd F hb).1,hab.1]) fun j hj=>?_
 rw [(ha.vadd F hb).1] at hj
 have x:=hg.2 j hj
 rw [vadd_get (by rw [ha.1,hb.1]) (by rw [ha.1];exact hj),vmul_get (by rw [hg.1];exact hj),vmul_get (by rw [hg.1];exact hj),vmul_get (by rw [hg.1];exact hj),
  F.mul_comm a _ a0 a1 x.1 x.2,F.mul_comm b _ b0 b1 x.1 x.2,F.mul_comm (add a b) _ ab.1 ab.2 x.1 x.2,F.distrib _ _ _ x.1 x.2 a0 a1 b0 b1]
theorem add_cancel (F:Fld q add mul neg inv) {a b c:Int} (ha:0≤a∧a<q) (hb:0≤b∧b<q) (hc:0≤c∧c<q) (h:add a c=add b c):a=b:=by
 have hn:=F.neg_in c hc.1 hc.2
 have e:∀ x:Int,0≤x∧x<q→add (add x c) (neg c)=x:=fun x hx=>by
  rw [F.add_assoc _ _ _ hx.1 hx.2 hc.1 hc.2 hn.1 hn.2,F.add_neg c hc.1 hc.2,F.add_comm x 0 hx.1 hx.2 (by omega) (by have:=F.one_lt;omega),F.zero_add x hx.1 hx.2]
 rw [←e a ha,←e b hb,h]
theorem far_vadd (F:Fld q add mul neg inv) (lost:Nat→Bool) {w y v:List Int} (hw:Wd q n w) (hy:Wd q n y) (hv:Wd q n v):∀ k,k≤n→far lost (vadd add w v) (vadd add y v) 0 k=far lost w y 0 k
 | 0,_=>rfl
 | k+1,hk=>by
  rw [far_succ,far_succ,far_vadd F lost hw hy hv k (by omega),Nat.zero_add]
  have a:=hw.2 k (by omega)
  have b:=hy.2 k (by omega)
  have c:=hv.2 k (by omega)
  rw [vadd_get (by rw [hy.1,hv.1]) (by rw [hy.1];omega),vadd_get (by rw [hw.1,hv.1]) (by rw [hw.1];omega)]
  by_cases h:y.getD k 0=w.getD k 0
  ·rw [h]
   simp
  ·have:add (y.getD k 0) (v.getD k 0)≠add (w.getD k 0) (v.getD k 0):=fun e=>h (add_cancel F b a c e)
   have e1:(add (y.getD k 0) (v.getD k 0) != add (w.getD k 0) (v.getD k 0))=true:=by simpa using this
   have e2:(y.getD k 0 != w.getD k 0)=true:=by simpa using h
   rw [e1,e2]
theorem words_shift (F:Fld q add mul neg inv):∀ (G:List (List Int)) (z v:List Int),(∀ i,i<G.length→Wd q n (G.getD i []))→Wd q n z→Wd q n v→words q add mul G (vadd add z v)=(words q add mul G z).map fun y=>vadd add y v
 | [],z,v,_,_,_=>rfl
 | g::gs,z,v,hG,hz,hv=>by
  have hg:Wd q n g:=by simpa using hG 0 (by simp)
  unfold words
  rw [List.map_flatMap]
  unfold List.flatMap
  refine congrArg List.flatten (List.map_congr_left fun a ha=>?_)
  have ha':a<q:=by simpa using ha
  have hag:=Wd.vmul F (c:=((a:Nat):Int)) (by omega) (by exact_mod_cast ha') hg
  rw [vadd_assoc F hz hv hag,vadd_comm F hv hag,←vadd_assoc F hz hag hv]
  exact words_shift F gs _ v (fun i hi=>by simpa using hG (i+1) (by simpa using hi)) (hz.vadd F hag) hv
theorem sum_perm {l m:List Nat} (h:l.Perm m):l.sum=m.sum:=by
 induction h with
 | nil=>rfl
 | cons x _ ih=>rw [List.sum_cons,List.sum_cons,ih]
 | swap x y l=>simp only [List.sum_cons];omega
 | trans _ _ h1 h2=>rw [h1,h2]
theorem count_shift (F:Fld q add mul neg inv) (P:∀ c:Nat,c<q→((List.range q).map fun (a:Nat)=>add (a:Int) (c:Int)).Perm ((List.range q).map fun (a:Nat)=>(a:Int))):∀ (G:List (List Int)) (z v:List Int) (p:List Int→Bool),(∀ i,i<G.length→Wd q n (G.getD i []))→Wd q n z→v∈words q add mul G (List.replicate n 0) →
  ((words q add mul G z).countP fun y=>p (vadd add y v))=(words q add mul G z).countP p
 | [],z,v,p,_,hz,hv=>by
  unfold words at hv
  rw [List.mem_singleton] at hv
  subst hv
  unfold words
  rw [List.countP_singleton,List.countP_singleton,vadd_comm F hz (zeros_wd F),zero_vadd F hz]
 | g::gs,z,v,p,hG,hz,hv=>by
  have hg:Wd q n g:=by simpa using hG 0 (by simp)
  have hG':∀ i,i<gs.length→Wd q n (gs.getD i []):=fun i hi=>by simpa using hG (i+1) (by simpa using hi)
  unfold words at hv
  obtain ⟨c,hc,hv⟩:=List.mem_flatMap.1 hv
  have hc':c<q:=by simpa using hc
  have c1:((c:Nat):Int)<q:=by exact_mod_cast hc'
  have hu:=Wd.vmul F (c:=((c:Nat):Int)) (by omega) c1 hg
  have hz0:=zeros_wd F (n:=n)
  rw [words_shift F gs _ _ hG' hz0 hu] at hv
  obtain ⟨v',hv',rfl⟩:=List.mem_map.1 hv
  have wv':=words_wd F gs _ hG' hz0 v' hv'
  have key:∀ a:Nat,a<q→((words q add mul gs (vadd add z (vmul mul (a:Int) g))).countP fun y=>p (vadd add y (vadd add v' (vmul mul (c:Int) g))))=(words q add mul gs (vadd add z (vmul mul (add (a:Int) (c:Int)) g))).countP p:=by
   intro a ha
   have a1:((a:Nat):Int)<q:=by exact_mod_cast ha
   have hag:=Wd.vmul F (c:=((a:Nat):Int)) (by omega) a1 hg
   have hza:=hz.vadd F hag
   have e1:((words q add mul gs (vadd add z (vmul mul (a:Int) g))).countP fun y=>p (vadd add y (vadd add v' (vmul mul (c:Int) g))))=(words q add mul gs (vadd add z (vmul mul (a:Int) g))).countP fun y=>(fun x=>p (vadd add x (vmul mul (c:Int) g))) (vadd add y v'):=by
    refine List.countP_congr fun y hy=>?_
    have wy:=words_wd F gs _ hG' hza y hy
    show p (vadd add y (vadd add v' (vmul mul (c:Int) g)))=true↔p (vadd add (vadd add y v') (vmul mul (c:Int) g))=true
    rw [vadd_assoc F wy wv' hu]
   rw [e1,count_shift F P gs _ v' (fun x=>p (vadd add x (vmul mul (c:Int) g))) hG' hza hv',←vmul_add F hg (by omega) a1 (by omega) c1,←vadd_assoc F hz hag hu,words_shift F gs _ _ hG' hza hu,List.countP_map]
   rfl
  unfold words
  rw [List.countP_flatMap,List.countP_flatMap]
  have l1:((List.range q).map (List.countP (fun y=>p (vadd add y (vadd add v' (vmul mul (c:Int) g)))) ∘ fun (a:Nat)=>words q add mul gs (vadd add z (vmul mul (a:Int) g))))=((List.range q).map fun (a:Nat)=>add (a:Int) (c:Int)).map fun x=>(words q add mul gs (vadd add z (vmul mul x g))).countP p:=by
   rw [List.map_map]
   exact List.map_congr_left fun a ha=>key a (by simpa using ha)
  have l2:((List.range q).map (List.countP p ∘ fun (a:Nat)=>words q add mul gs (vadd add z (vmul mul (a:Int) g))))=((List.range q).map fun (a:Nat)=>(a:Int)).map fun x=>(words q add mul gs (vadd add z (vmul mul x g))).countP p:=by
   rw [List.map_map]
   rfl
  rw [l1,l2]
  exact sum_perm ((P c hc').map _)
end
theorem turn {q:Nat} (hq:q∈Qs):∀ c:Nat,c<q→((List.range q).map fun (a:Nat)=>fadd q (a:Int) (c:Int)).Perm ((List.range q).map fun (a:Nat)=>(a:Int)):=by
 have:(Qs.all fun q=>(List.range q).all fun (c:Nat)=>((List.range q).map fun (a:Nat)=>fadd q (a:Int) (c:Int)).isPerm ((List.range q).map fun (a:Nat)=>(a:Int)))=true:=by decide +kernel
 intro c hc
 have h:=List.all_eq_true.1 (List.all_eq_true.1 this q hq) c (by simpa using hc)
 exact List.isPerm_iff.1 h
end Go.Proofs.Ytbpjicbpcfkpfaa.Ma
namespace Go.Proofs.Ytbpjicbpcfkpfaa.Ma
def lx (n:Nat) (a b:List Int):Prop:=∃ p,p<n∧(∀ j,j<p→a.getD j 0=b.getD j 0)∧a.getD p 0<b.getD p 0
section
variable {q:Nat} {add mul:Int→Int→Int} {neg inv:Int→Int} {n:Nat}
theorem Rref.tail {g:List Int} {gs:List (List Int)} {piv:Nat→Nat} (R:Rref q n (g::gs) piv):Rref q n gs (fun i=>piv (i+1)) where
 wd:=fun i hi=>by simpa using R.wd (i+1) (by simpa using hi)
 lt:=fun i hi=>R.lt (i+1) (by simpa using hi)
 mono:=fun i j hij hj=>R.mono (i+1) (j+1) (by omega) (by simpa using hj)
 one:=fun i hi=>by simpa [ent] using R.one (i+1) (by simpa using hi)
 zero:=fun i k hi hk hne=>by simpa [ent] using R.zero (i+1) (k+1) (by simpa using hi) (by simpa using hk) (by omega)
 lead:=fun i j hi hj=>by simpa [ent] using R.lead (i+1) j (by simpa using hi) hj
theorem mul_zero (F:Fld q add mul neg inv) {a:Int} (h0:0≤a) (h1:a<q):mul a 0=0:=by
 have:=F.one_lt
 rw [F.mul_comm _ _ h0 h1 (by omega) (by omega),F.zero_mul _ h0 h1]
theorem add_zero (F:Fld q add mul neg inv) {a:Int} (h0:0≤a) (h1:a<q):add a 0=a:=by
 have:=F.one_lt
 rw [F.add_comm _ _ h0 h1 (by omega) (by omega),F.zero_add _ h0 h1]
theorem mul_one (F:Fld q add mul neg inv) {a:Int} (h0:0≤a) (h1:a<q):mul a 1=a:=by
 have:=F.one_lt
 rw [F.mul_comm _ _ h0 h1 (by omega) (by omega),F.one_mul _ h0 h1]
theorem words_sorted (F:Fld q add mul neg inv):∀ (G:List (List Int)) (piv:Nat→Nat) (z:List Int),Rref q n G piv→Wd q n z→(∀ i,i<G.length→z.getD (piv i) 0=0)→(words q add mul G z).Pairwise (lx n)
 | [],piv,z,R,hz,h0=>by unfold words;exact List.pairwise_singleton _ _
 | g::gs,piv,z,R,hz,h0=>by
  have hg:Wd q n g:=by simpa using R.wd 0 (by simp)
  have p0:=R.lt 0 (by simp)
  have q1:=F.one_lt
  have in_:∀ a,a<q→0≤((a:Nat):Int)∧((a:Nat):Int)<q:=fun a ha=>⟨by omega,by omega⟩
  have hv:∀ a,a<q→Wd q n (vmul mul (a:Int) g):=fun a ha=>Wd.vmul F (in_ a ha).1 (in_ a ha).2 hg
  have at_:∀ a j,a<q→j<n→(vadd add z (vmul mul (a:Int) g)).getD j 0=add (z.getD j 0) (mul a (g.getD j 0)):=fun a j ha hj=>by
   rw [vadd_get (by rw [hz.1,(hv a ha).1]) (by rw [hz.1];exact hj),vmul_get (by rw [hg.1];exact hj)]
  unfold words
  rw [List.pairwise_flatMap]
  refine ⟨fun a ha=>?_,?_⟩
  ·have ha':a<q:=by simpa using ha
   refine words_sorted F gs _ _ R.tail (hz.vadd F (hv a ha')) fun i hi=>?_
   have hl:=R.lt (i+1) (by simpa using hi)
   have z0:=h0 (i+1) (by simpa using hi)
   have g0:g.getD (piv (i+1)) 0=0:=by simpa [ent] using R.zero (i+1) 0 (by simpa using hi) (by simp) (by omega)
   rw [at_ a _ ha' hl,z0,g0,mul_zero F (in_ a ha').1 (in_ a ha').2,F.zero_add 0 (by omega) (by omega)]
  ·refine (List.pairwise_lt_range (n:=q)).imp_of_mem fun {a b} ha hb hab x hx y hy=>?_
   have ha':a<q:=by simpa using ha
   have hb':b<q:=by simpa using hb
   have low:∀ i j,i<gs.length→j<piv 0+1→ent gs i j=0:=fun i j hi hj=>by
    have:=R.mono 0 (i+1) (by omega) (by simpa using hi)
    simpa [ent] using R.lead (i+1) j (by simpa using hi) (by omega)
   have ex:∀ c,c<q→∀ w∈words q add mul gs (vadd add z (vmul mul (c:Int) g)),∀ j,j<piv 0+1→w.getD j 0=add (z.getD j 0) (mul c (g.getD j 0)):=fun c hc w hw j hj=>by
    rw [words_same F (by omega) gs _ R.tail.wd low (hz.vadd F (hv c hc)) w hw j hj,at_ c j hc (by omega)]
   refine ⟨piv 0,p0,fun j hj=>?_,?_⟩
   ·have g0:g.getD j 0=0:=by simpa [ent] using R.lead 0 j (by simp) hj
    rw [ex a ha' x hx j (by omega),ex b hb' y hy j (by omega),g0,mul_zero F (in_ a ha').1 (in_ a ha').2,mul_zero F (in_ b hb').1 (in_ b hb').2]
   ·have g1:g.getD (piv 0) 0=1:=by simpa [ent] using R.one 0 (by simp)
    rw [ex a ha' x hx _ (by omega),ex b hb' y hy _ (by omega),g1,h0 0 (by simp),mul_one F (in_ a ha').1 (in_ a ha').2,mul_one F (in_ b hb').1 (in_ b hb').2,F.zero_add _ (in_ a ha').1 (in_ a ha').2,F.zero_add _ (in_ b hb').1 (in_ b hb').2]
    omega
theorem words_nodup (F:Fld q add mul neg inv) {G:List (List Int)} {piv:Nat→Nat} (R:Rref q n G piv):(words q add mul G (List.replicate n 0)).Nodup:=by
 refine (words_sorted F G piv _ R (zeros_wd F) fun i hi=>?_).imp fun {a b} h e=>?_
 ·have:=R.lt i hi
  simp [List.getD_eq_getElem?_getD,this]
 ·obtain ⟨p,_,_,h⟩:=h
  rw [e] at h
  omega
theorem filter_one {L:List (List Int)} (h:L.Nodup) {s:List Int} (hs:s∈L) {p:List Int→Bool} (hp:∀ y∈L,p y=true↔y=s):L.filter p=[s]:=by
 have e:L.filter p=L.filter (·==s):=List.filter_congr fun y hy=>by
  rcases hb:p y with _ | _
  ·have:y≠s:=fun e=>by have:=(hp y hy).2 e;rw [hb] at this;cases this
   simpa using this
  ·have:=(hp y hy).1 hb
   simpa using this
 rw [e]
 clear e hp
 induction L with
 | nil=>simp at hs
 | cons x L ih =>
  obtain ⟨h1,h2⟩:=List.nodup_cons.1 h
  by_cases c:x=s
  ·subst c
   rw [List.filter_cons,if_pos (by simp),List.filter_eq_nil_iff.2 fun y hy=>by simpa using fun e:y=x=>h1 (e▸hy)]
  ·rw [List.filter_cons,if_neg (by simpa using c)]
   exact ih h2 ((List.mem_cons.1 hs).resolve_left fun e=>c e.symm)
theorem words_sub (F:Fld q add mul neg inv) (P:∀ c:Nat,c<q→((List.range q).map fun (a:Nat)=>add (a:Int) (c:Int)).Perm ((List.range q).map fun (a:Nat)=>(a:Int))) {G:List (List Int)} (hG:∀ i,i<G.length→Wd q n (G.getD i [])) {s y:List Int} (hs:s∈words q add mul G (List.replicate n 0)) (hy:y∈words q add mul G (List.replicate n 0)):∃ v∈words q add mul G (List.replicate n 0),vadd add v s=y:=by
 have h:=count_shift F P G (List.replicate n 0) s (fun z=>decide (z=y)) hG (zeros_wd F) hs
 have h1:0<(words q add mul G (List.replicate n 0)).countP fun z=>decide (z=y):=List.countP_pos_iff.2 ⟨y,hy,by simp⟩
 rw [←h] at h1
 obtain ⟨v,hv,e⟩:=List.countP_pos_iff.1 h1
 exact ⟨v,hv,by simpa using e⟩
end
def ham (n:Nat) (a b:List Int):Nat:=far (fun _=>false) a b 0 n
def wt (n:Nat) (y:List Int):Nat:=ham n (List.replicate n 0) y
def nlost (lost:Nat→Bool):Nat→Nat
 | 0=>0
 | k+1=>nlost lost k+(if lost k then 1 else 0)
theorem ham_tri (lost:Nat→Bool) (w a b:List Int):∀ k,ham k a b≤far lost w a 0 k+far lost w b 0 k+nlost lost k
 | 0=>Nat.zero_le _
 | k+1=>by
  have ih:=ham_tri lost w a b k
  unfold ham at ih ⊢
  rw [far_succ,far_succ,far_succ]
  unfold nlost
  simp only [Nat.zero_add]
  cases hl:lost k with
  | true=>simp;split <;> omega
  | false =>
   by_cases e1:a.getD k 0=w.getD k 0
   ·by_cases e2:b.getD k 0=w.getD k 0
    ·rw [e1,e2];simp;omega
    ·have:(b.getD k 0 != w.getD k 0)=true:=by simpa using e2
     rw [this];simp;split <;> omega
   ·have:(a.getD k 0 != w.getD k 0)=true:=by simpa using e1
    rw [this];simp;split <;> split <;> omega
theorem count_below (k:Nat):∀ g:List Int,g.countP (fun x=>decide (x<(k:Int)))+(if g.contains ((k:Nat):Int) then 1 else 0)≤g.countP (fun x=>decide (x<((k+1:Nat):Int)))
 | []=>by simp
 | x::g=>by
  have ih:=count_below k g
  rw [List.countP_cons,List.countP_cons,List.contains_cons]
  by_cases h1:x<(k:Int)
  ·have h2:x<((k+1:Nat):Int):=by omega
   have h3:(((k:Nat):Int)==x)=false:=by simp;omega
   rw [decide_eq_true h1,decide_eq_true h2,h3,Bool.false_or]
   simp only [if_true]
   omega
  ·by_cases h2:x=(k:Int)
   ·have h3:x<((k+1:Nat):Int):=by omega
    rw [decide_eq_false h1,decide_eq_true h3]
    simp only [Bool.false_eq_true,if_false,if_true]
    split <;> split at ih <;> omega
   ·have h3:¬ x<((k+1:Nat):Int):=by omega
    have h4:(((k:Nat):Int)==x)=false:=by simp;omega
    rw [decide_eq_false h1,decide_eq_false h3,h4,Bool.false_or]
    simp only [Bool.false_eq_true,if_false]
    omega
theorem nlost_le (g:List Int):∀ k,nlost (fun i=>g.contains ((i:Nat):Int)) k≤g.countP (fun x=>decide (x<(k:Int)))
 | 0=>Nat.zero_le _
 | k+1=>by
  have ih:=nlost_le g k
  have:=count_below k g
  unfold nlost
  omega
theorem ham_pos {n:Nat} {a b:List Int} (ha:a.length=n) (hb:b.length=n) (h:a≠b):0<ham n a b:=by
 rcases Nat.eq_zero_or_pos (ham n a b) with e | e
 ·exfalso
  have:∀ k,k≤n→ham k a b=0→∀ j,j<k→b.getD j 0=a.getD j 0:=by
   intro k
   induction k with
   | zero=>intro _ _ j hj;omega
   | succ k ih =>
    intro hk h0 j hj
    unfold ham at h0
    rw [far_succ] at h0
    simp only [Nat.zero_add] at h0
    have h1:=ih (by omega) (by unfold ham;omega)
    rcases Nat.lt_or_ge j k with c | c
    ·exact h1 j c
    ·have:j=k:=by omega
     subst this
     by_cases e:b.getD j 0=a.getD j 0
     ·exact e
     ·have:(b.getD j 0 != a.getD j 0)=true:=by simpa using e
      rw [this] at h0
      simp at h0
  exact h (ext_getD (by rw [ha,hb]) fun j hj=>(this n (Nat.le_refl _) e j (by omega)).symm)
 ·exact e
def minw (n:Nat) (L:List (List Int)) (m:Nat):Nat:=L.foldl (fun m y=>if 0<wt n y then min m (wt n y) else m) m
theorem minw_le (n:Nat):∀ (L:List (List Int)) (m:Nat),minw n L m≤m
 | [],m=>Nat.le_refl _
 | y::L,m=>by
  unfold minw
  rw [List.foldl_cons]
  refine Nat.le_trans (minw_le n L _) ?_
  split <;> omega
theorem minw_all (n:Nat):∀ (L:List (List Int)) (m:Nat),∀ y∈L,0<wt n y→minw n L m≤wt n y
 | [],m,y,h,_=>by simp at h
 | x::L,m,y,h,hp=>by
  unfold minw
  rw [List.foldl_cons]
  rcases List.mem_cons.1 h with rfl | h
  ·refine Nat.le_trans (minw_le n L _) ?_
   rw [if_pos hp]
   omega
  ·exact minw_all n L _ y h hp
section
variable {q:Nat} {add mul:Int→Int→Int} {neg inv:Int→Int} {n:Nat}
theorem minw_ham (F:Fld q add mul neg inv) (P:∀ c:Nat,c<q→((List.range q).map fun (a:Nat)=>add (a:Int) (c:Int)).Perm ((List.range q).map fun (a:Nat)=>(a:Int))) {G:List (List Int)} (hG:∀ i,i<G.length→Wd q n (G.getD i [])) {s y:List Int} (hs:s∈words q add mul G (List.replicate n 0)) (hy:y∈words q add mul G (List.replicate n 0)) (hne:s≠y) (m:Nat):minw n (words q add mul G (List.replicate n 0)) m≤ham n s y:=by
 obtain ⟨v,hv,e⟩:=words_sub F P hG hs hy
 have ws:=words_wd F G _ hG (zeros_wd F) s hs
 have wy:=words_wd F G _ hG (zeros_wd F) y hy
 have wv:=words_wd F G _ hG (zeros_wd F) v hv
 have h1:ham n s y=wt n v:=by
  have:=far_vadd F (fun _=>false) (zeros_wd (n:=n) F) wv ws n (Nat.le_refl _)
  rw [zero_vadd F ws,e] at this
  exact this
 have h2:=ham_pos ws.1 wy.1 hne
 rw [h1]
 exact minw_all n _ m v hv (by omega)
end
end Go.Proofs.Ytbpjicbpcfkpfaa.Ma
namespace Go.Proofs.Ytbpjicbpcfkpfaa.Ai
open Go Ma
noncomputable section
theorem L92_3_spec {w:List Int} (hs:w.length<2^60) {τ:Type} (κ:Nat→LS_→Option τ):∀ (f j:Nat),j≤w.length→w.length<f+j →
  runE L92_3 f κ 0 [.I (wt j w:Nat),.N w.length,.L w,.I w.length,.I j]=κ 0 [.I (wt w.length w:Nat)]
 | 0,j,h1,h2=>by omega
 | f+1,j,h1,h2=>by
  rw [runE_succ]
  show L92_3.s0 _ _ _=_
  unfold L92_3.s0
  simp only [g_,Int.toNat_natCast,Nat.mul_one,Nat.zero_add,List.drop_zero]
  have hw:wt (j+1) w=wt j w+(if w.getD j 0=0 then 0 else 1):=by
   unfold wt ham
   rw [far_succ,Nat.zero_add]
   have e:∀ k,far (fun _=>false) (List.replicate (j+1) (0:Int)) w 0 k=far (fun _=>false) (List.replicate j (0:Int)) w 0 k:=fun k=>by
    induction k with
    | zero=>rfl
    | succ k ih =>
     have z:∀ m:Nat,(List.replicate m (0:Int)).getD k 0=0:=fun m=>by
      rw [List.getD_eq_getElem?_getD,List.getElem?_replicate];split <;> rfl
     rw [far_succ,far_succ,ih,Nat.zero_add,z,z]
   have z:(List.replicate (j+1) (0:Int)).getD j 0=0:=by rw [List.getD_eq_getElem?_getD,List.getElem?_replicate];split <;> rfl
   rw [e,z]
   by_cases h:w.getD j 0=0
   ·rw [h];rfl
   ·rw [if_neg h]
    have:(w.getD j 0 != 0)=true:=by simpa using h
    rw [this];rfl
  have hb:wt j w≤j:=far_le _ _ _ _ _
  by_cases hj:j<w.length
  ·have ih:=L92_3_spec hs κ f (j+1) (by omega) (by omega)
   rw [br_of (by simp;omega),ck_of (by simp;omega),ck_of (by simp;omega),wsucc (j:=j) (by omega)]
   by_cases h:w.getD j 0=0
   ·rw [hw,if_pos h,Nat.add_zero] at ih
    rw [br_no (by rw [h];rfl)]
    exact ih
   ·rw [hw,if_neg h] at ih
    rw [br_of (by simpa using h),wsucc (j:=wt j w) (by omega)]
    exact ih
  ·have:j=w.length:=by omega
   subst this
   rw [br_no (by simp)]
theorem F92_spec {w:List Int} (hs:w.length<2^60) {τ:Type} (k:Nat→LS_→Option τ):F92 [.L w] k=k 0 [.I (wt w.length w:Nat)]:=by
 have hfu:=fuel_le
 unfold F92 L92_3.b
 simp only [gL_zero]
 refine (L92_3_spec hs _ fuel 0 (by omega) (by omega)).trans ?_
 simp only [sw_zero,gI_zero]
theorem L94_3_1_spec {q:Nat} (hq:q∈Qs) {x y:List Int} (hx:In q x) (hy:In q y) (hl:y.length=x.length) (hs:x.length<2^30) {a:Int} (a0:0≤a) (a1:a<q) {τ:Type} (κ:Nat→LS_→Option τ):∀ (f j:Nat) (w:List Int),j≤x.length→x.length<f+j→w=(vadd (fadd q) y (vmul (fmul q) a x)).take j++y.drop j →
  runE L94_3_1 f κ 0 [.N y.length,.I a,.N x.length,.L x,.I y.length,.I j,.L w,.I (fp q),.I (fe q),.N (fm q).length,.L (fm q)]=κ 0 [.L (vadd (fadd q) y (vmul (fmul q) a x)),.I (fp q),.I (fe q),.N (fm q).length,.L (fm q)]
 | 0,j,w,h2,h3,h5=>by omega
 | f+1,j,w,h2,h3,h5=>by
  have F:=fld q hq
  have ml:(vmul (fmul q) a x).length=x.length:=vmul_len
  have hlv:(vadd (fadd q) y (vmul (fmul q) a x)).length=y.length:=vadd_len (by rw [ml,hl])
  have hw:=half_len hlv (j:=j) (by omega)
  rw [runE_succ]
  show L94_3_1.s0 _ _ _=_
  unfold L94_3_1.s0
  simp only [g_,Int.toNat_natCast,Nat.mul_one,Nat.zero_add,List.drop_zero]
  by_cases hj:j<y.length
  ·have ax:=hx j (by omega)
   have ay:=hy j hj
   have am:=F.mul_in _ _ a0 a1 ax.1 ax.2
   have hg:w.getD j 0=y.getD j 0:=by rw [h5,half_get hlv hj]
   have hg2:w.length=y.length:=by rw [h5,hw]
   have key:=L94_3_1_spec hq hx hy hl hs a0 a1 κ f (j+1) (w.set j (fadd q (y.getD j 0) (fmul q a (x.getD j 0)))) (by omega) (by omega)
    (by rw [h5,←vmul_get (mul:=fmul q) (show j<x.length by omega),←vadd_get (add:=fadd q) (by rw [ml,hl]) hj,half_set hlv hj])
   rw [br_of (by simp;omega),ck_of (by simp;omega),ck_of (by simp;omega),ck_of (by simp;omega),ck_of (by simp;omega),ck_of (by simp),hg]
   unfold T104 T103
   rw [tab2_of hq a0 a1 ax.1 ax.2]
   simp only [sw_zero,gI_zero]
   rw [ck_of (by simp),tab2_of hq ay.1 ay.2 am.1 am.2]
   simp only [sw_zero,gI_zero]
   rw [ck_of (by simp;omega),ck_of (by simp;omega),wsucc (by omega)]
   exact key
  ·have:j=y.length:=by omega
   subst this
   rw [half_all hlv] at h5
   rw [br_no (by simp),h5]
theorem S94_1_spec {q n:Nat} (hq:q∈Qs) (hn:n<2^30) {x y:List Int} (hx:Wd q n x) (hy:Wd q n y) {a:Int} (a0:0≤a) (a1:a<q) {τ:Type} (k:Nat→LS_→Option τ) :
  S94_1 [.I (fp q),.I (fe q),.N (fm q).length,.L (fm q),.N n,.I a,.N x.length,.L x,.L y] k=k 0 [.L (vadd (fadd q) y (vmul (fmul q) a x))]:=by
 have hfu:=fuel_le
 unfold S94_1 L94_3_1.b
 simp only [g_,Int.toNat_natCast,Nat.mul_one,Nat.zero_add,List.drop_zero]
 by_cases hz:a=0
 ·subst hz
  rw [br_of (b:=((0:Int)==0)) rfl,vadd_zero (fld q hq) hx hy]
 ·have yl:=hy.1
  rw [br_no (by simpa using hz)]
  have:=L94_3_1_spec hq (In.of hx) (In.of hy) (by rw [hx.1,hy.1]) (by rw [hx.1];exact hn) a0 a1 (fun j l=>(sw (k 0 [.L (gL l 0)]) (fun _=>none)) j) fuel 0 y (by omega) (by rw [hx.1];omega) (by simp)
  rw [yl] at this
  exact this
section
variable {q n:Nat} {G:List (List Int)}
def tailw (q:Nat) (G:List (List Int)) (i:Nat) (x:List Int) (a:Nat):List (List Int):=((List.range q).drop a).flatMap fun (b:Nat)=>words q (fadd q) (fmul q) (G.drop (i+1)) (vadd (fadd q) x (vmul (fmul q) (b:Int) (G.getD i [])))
theorem tailw_step {i a:Nat} {x:List Int} (ha:a<q):tailw q G i x a=words q (fadd q) (fmul q) (G.drop (i+1)) (vadd (fadd q) x (vmul (fmul q) (a:Int) (G.getD i [])))++tailw q G i x (a+1):=by
 unfold tailw
 rw [drop_cons 0 (show a<(List.range q).length by simpa using ha),List.flatMap_cons]
 congr 4
 simp [List.getD_eq_getElem?_getD,ha]
theorem tailw_end {i:Nat} {x:List Int}:tailw q G i x q=[]:=by
 unfold tailw
 rw [List.drop_eq_nil_of_le (show (List.range q).length≤q by simp)]
 rfl
theorem tailw_zero {i:Nat} {x:List Int} (hi:i<G.length):words q (fadd q) (fmul q) (G.drop i) x=tailw q G i x 0:=by
 rw [drop_cons [] hi]
 rfl
end
def least1 (n:Nat) (m:Nat) (y:List Int):Nat:=if 0<wt n y then min m (wt n y) else m
theorem L121_5_spec {q n:Nat} {G:List (List Int)} (C:Lc q n G) {i:Nat} (hi:i<G.length) (R:SDyn P S121_0.H)
    (hR:∀ (x:List Int) (s:Nat),Wd q n x→∀ {τ:Type} (k:Nat→LS_→Option τ),R.b [.I ((i+1:Nat):Int),.N n,.L x,.I q,.I n,.N G.length,.LL G,.I (fp q),.I (fe q),.N (fm q).length,.L (fm q),.I q,.I n,.N G.length,.LL G,.I 0,.I 0,.I 0,.I q,.I n,.N G.length,.LL G,.I 0,.I 0,.B false,.N G.length,.LL G,.I G.length,.B false,.I n,.I q,.I n,.N G.length,.LL G,.I q,.I n,.N G.length,.LL G,.I ((s:Nat):Int)] k=k 0 [.B true,.L x,.I q,.I n,.N G.length,.LL G,.I (fp q),.I (fe q),.N (fm q).length,.L (fm q),.I q,.I n,.N G.length,.LL G,.I 0,.I 0,.I 0,.I q,.I n,.N G.length,.LL G,.I 0,.I 0,.B false,.N G.length,.LL G,.I G.length,.B false,.I n,.I q,.I n,.N G.length,.LL G,.I q,.I n,.N G.length,.LL G,.I ((((words q (fadd q) (fmul q) (G.drop (i+1)) x).foldl (least1 n) s):Nat):Int)])
    {x:List Int} (hx:Wd q n x):∀ (f a:Nat) (y:List Int) (s:Nat),a≤q→q<f+a→y.length=n →
    ∃ y':List Int,∀ {τ:Type} (κ:Nat→LS_→Option τ),runE (L121_5 R) f κ 0 [.I i,.N n,.B false,.N n,.I q,.I a,.L x,.I q,.I n,.N G.length,.LL G,.I (fp q),.I (fe q),.N (fm q).length,.L (fm q),.I q,.I n,.N G.length,.LL G,.I 0,.I 0,.I 0,.I q,.I n,.N G.length,.LL G,.I 0,.I 0,.B false,.N G.length,.LL G,.I G.length,.B false,.I n,.I q,.I n,.N G.length,.LL G,.I q,.I n,.N G.length,.LL G,.I ((s:Nat):Int),.L y]=κ 1 [.B false,.L x,.I q,.I n,.N G.length,.LL G,.I (fp q),.I (fe q),.N (fm q).length,.L (fm q),.I q,.I n,.N G.length,.LL G,.I 0,.I 0,.I 0,.I q,.I n,.N G.length,.LL G,.I 0,.I 0,.B false,.N G.length,.LL G,.I G.length,.B false,.I n,.I q,.I n,.N G.length,.LL G,.I q,.I n,.N G.length,.LL G,.I ((((tailw q G i x a).foldl (least1 n) s):Nat):Int),.L y']
  | 0,a,y,s,h1,h2,h3=>by omega
  | f+1,a,y,s,h1,h2,h3=>by
    have F:=fld q C.fq
    have hR0:=C.rows
    have hf:=hR0.few
    have n1:=C.n1
    have hqq:=qs_lt C.fq
    have xl:=hx.1
    by_cases ha:a<q
    · have wg:=hR0.wd i hi
      have wv:=hx.vadd F (Wd.vmul F (c:=(a:Int)) (by omega) (by omega) wg)
      obtain ⟨y',ih⟩:=L121_5_spec C hi R hR hx f (a+1) (vadd (fadd q) x (vmul (fmul q) (a:Int) (G.getD i []))) ((words q (fadd q) (fmul q) (G.drop (i+1)) (vadd (fadd q) x (vmul (fmul q) (a:Int) (G.getD i [])))).foldl (least1 n) s) (by omega) (by omega) wv.1
      refine ⟨y',fun {τ} κ=>?_⟩
      rw [tailw_step ha,List.foldl_append]
      rw [runE_succ]
      show L121_5.s0 R _ _ _=_
      unfold L121_5.s0
      simp only [g_,Int.toNat_natCast,Nat.mul_one,Nat.zero_add,List.drop_zero]
      have ft:List.take n x=x:=List.take_of_length_le (by omega)
      rw [br_of (by simp;omega),ft,ck_of (by simp;omega),ck_of (by simp;omega),ck_of (by simp;omega),S94_1_spec C.fq (by omega) wg hx (by omega) (by omega)]
      simp only [sw_zero,gL_zero]
      rw [wsucc (j:=i) (by omega),hR _ _ wv]
      simp only [g_,sw_zero]
      rw [br_no (b:=!true) rfl,wsucc (j:=a) (by omega)]
      exact ih κ
    · have:a=q:=by omega
      subst this
      refine ⟨y,fun {τ} κ=>?_⟩
      rw [tailw_end]
      rw [runE_succ]
      show L121_5.s0 R _ _ _=_
      unfold L121_5.s0
      simp only [g_,Int.toNat_natCast,Nat.mul_one,Nat.zero_add,List.drop_zero]
      rw [br_no (by simp)]
      rfl
theorem S121_0_D {q n:Nat} {G:List (List Int)} (C:Lc q n G):∀ (d i m:Nat) (x:List Int) (s:Nat),i+d=G.length→d<m→Wd q n x →
  ∀ {τ:Type} (k:Nat→LS_→Option τ),(S121_0.D m).b [.I i,.N n,.L x,.I q,.I n,.N G.length,.LL G,.I (fp q),.I (fe q),.N (fm q).length,.L (fm q),.I q,.I n,.N G.length,.LL G,.I 0,.I 0,.I 0,.I q,.I n,.N G.length,.LL G,.I 0,.I 0,.B false,.N G.length,.LL G,.I G.length,.B false,.I n,.I q,.I n,.N G.length,.LL G,.I q,.I n,.N G.length,.LL G,.I ((s:Nat):Int)] k=k 0 [.B true,.L x,.I q,.I n,.N G.length,.LL G,.I (fp q),.I (fe q),.N (fm q).length,.L (fm q),.I q,.I n,.N G.length,.LL G,.I 0,.I 0,.I 0,.I q,.I n,.N G.length,.LL G,.I 0,.I 0,.B false,.N G.length,.LL G,.I G.length,.B false,.I n,.I q,.I n,.N G.length,.LL G,.I q,.I n,.N G.length,.LL G,.I ((((words q (fadd q) (fmul q) (G.drop i) x).foldl (least1 n) s):Nat):Int)]
 | d,i,0,x,s,h1,h2,hx,τ,k=>by omega
 | 0,i,m+1,x,s,h1,h2,hx,τ,k=>by
  have n0:=C.n0
  have n1:=C.n1
  have xl:=hx.1
  have hi:i=G.length:=by omega
  subst hi
  rw [List.drop_length]
  show S121_0.body (S121_0.D m) _ _=_
  unfold S121_0.body
  simp only [g_,Int.toNat_natCast,Nat.mul_one,Nat.zero_add,List.drop_zero]
  have ft:List.take n x=x:=List.take_of_length_le (by omega)
  rw [br_of (by simp),ft,ck_of (by simp;omega),F92_spec (by omega),xl]
  simp only [sw_zero,gI_zero]
  have hm:(words q (fadd q) (fmul q) [] x).foldl (least1 n) s=least1 n s x:=rfl
  rw [hm]
  unfold least1
  by_cases h0:0<wt n x
  ·rw [br_of (by simpa using h0),if_pos h0,show min ((s:Nat):Int) ((wt n x:Nat):Int)=((min s (wt n x):Nat):Int) by omega]
  ·rw [br_no (by simp only [gtI_no];omega),if_neg h0]
 | d+1,i,m+1,x,s,h1,h2,hx,τ,k=>by
  have hfu:=fuel_le
  have n0:=C.n0
  have n1:=C.n1
  have xl:=hx.1
  have hi:i<G.length:=by omega
  have hqq:=qs_lt C.fq
  show S121_0.body (S121_0.D m) _ _=_
  unfold S121_0.body
  simp only [g_,Int.toNat_natCast,Nat.mul_one,Nat.zero_add,List.drop_zero]
  have ft:List.take n x=x:=List.take_of_length_le (by omega)
  rw [br_no (by simp;omega),ft,ck_of (by simp;omega),F71_spec (by omega) (by omega),xl]
  simp only [sw_zero,gN_zero,gL_succ,gL_zero]
  obtain ⟨y',h⟩:=L121_5_spec C hi (S121_0.D m) (fun x s hx=>fun {τ} k=>S121_0_D C d (i+1) m x s (by omega) (by omega) hx k) hx fuel 0 x s (by omega) (by omega) xl
  unfold L121_5.b
  refine (h _).trans ?_
  rw [tailw_zero hi]
  simp only [g_,sw_zero,sw_one]
theorem F90_spec {q n:Nat} {G:List (List Int)} (h:Cd q n G) {τ:Type} (k:Nat→LS_→Option τ):F90 [.I q,.I n,.LL G] k=k 0 [.I 0]:=by
 have hc:=h.count
 have hqq:=qs_lt h.fq
 have hf:=h.rows.few
 unfold F90 T37 T48
 simp only [g_]
 rw [ck_of (by simp),F37_spec h.fq n (by omega) (short2 fun r hr=>by
  obtain ⟨i,hi,rfl⟩:=List.getElem_of_mem hr
  have:=(h.rows.wd i hi).1
  have:=h.n1
  rw [List.getD_eq_getElem?_getD,List.getElem?_eq_getElem hi] at *
  simp at *
  omega),validB_cd h]
 simp only [sw_zero,gB_zero]
 rw [br_no (b:=!true) rfl,ck_of (by simp),F48_spec (by omega) (by omega) n G (by omega)]
 simp only [sw_zero,gI_zero]
 unfold cnt
 rw [if_pos (by omega),br_no (by simp only [gtI_no];omega)]
theorem F50_spec {q n:Nat} {G:List (List Int)} (h:Cd q n G) {τ:Type} (k:Nat→LS_→Option τ):F50 [.I q,.I n,.LL G] k =
  if G.length=0 then k 1 [] else k 2 [.I ((minw n (words q (fadd q) (fmul q) G (List.replicate n 0)) n:Nat):Int)]:=by
 have hfu:=fuel_le
 have hqq:=qs_lt h.fq
 have n0:=h.n0
 have n1:=h.n1
 have hl:=h.lc.len
 unfold F50
 simp only [g_]
 rw [ck_of (by simp),F90_spec h]
 simp only [sw_zero,gI_zero]
 rw [br_no (by rfl)]
 by_cases hg:G.length=0
 ·rw [br_of (by rw [hg];rfl),if_pos hg]
 ·rw [br_no (by simp;exact fun e=>hg (by rw [e];rfl)),if_neg hg,T81_spec h.fq]
  simp only [g_,sw_zero,Int.toNat_natCast]
  rw [ck_of (by simp;omega)]
  unfold S121_0
  refine (S121_0_D h.lc G.length 0 fuel (List.replicate n 0) n (by omega) (by omega) (Wd.zeros (by omega)) _).trans ?_
  simp only [g_,sw_zero,List.drop_zero]
  rfl
def T50 {τ:Type} (l:LS_) (k:Nat→LS_→Option τ):Option τ:=wrapB F50.E (.tup [pI,pI]) l k
def T50.E:Ent P:=F50.E.wrap (.tup [pI,pI])
theorem T50_spec {q n:Nat} {G:List (List Int)} (h:Cd q n G) {τ:Type} (k:Nat→LS_→Option τ):T50 [.I q,.I n,.LL G] k =
  if G.length=0 then k 0 [.I 0,.I 4] else k 0 [.I ((minw n (words q (fadd q) (fmul q) G (List.replicate n 0)) n:Nat):Int),.I 0]:=by
 by_cases hg:G.length=0
 ·rw [if_pos hg]
  exact wrap_of (e:=F50.E) (p:=.tup [pI,pI]) (j:=1) (l2:=[]) (c:=true) (ls':=[.I 0,.I 4]) (by intro τ κ;kernel_rfl) rfl (fun κ=>(F50_spec h κ).trans (if_pos hg))
 ·rw [if_neg hg]
  have h2:=fun {τ:Type} (κ:Nat→LS_→Option τ)=>(F50_spec h κ).trans (if_neg hg)
  generalize ((minw n (words q (fadd q) (fmul q) G (List.replicate n 0)) n:Nat):Int)=z at h2 ⊢
  exact wrap_of (e:=F50.E) (p:=.tup [pI,pI]) (j:=2) (l2:=[.I z]) (c:=true) (ls':=[.I z,.I 0]) (by intro τ κ;kernel_rfl) rfl (fun κ=>h2 κ)
end
end Go.Proofs.Ytbpjicbpcfkpfaa.Ai
namespace Go.Proofs.Ytbpjicbpcfkpfaa.Ai
open Go Go.RowKit
noncomputable section
variable {τ:Type} (t:Nat) (nx ex:Nat→LS_→Option τ) (l:LS_) (k κ:Nat→LS_→Option τ)
end
end Go.Proofs.Ytbpjicbpcfkpfaa.Ai
namespace Go.Proofs.Ytbpjicbpcfkpfaa.Ai
open Go Ma
noncomputable section
theorem nearR_eq {q n:Nat} {G:List (List Int)} {w g:List Int} (hg:∀ k,k<g.length→0≤g.getD k 0) (r:Int) :
  nearR q n G w g r=near (fun y=>far (lostI g) w y 0 n) (winR q n G w g r):=by
 unfold nearR
 congr 1
 funext y
 rw [far_eq hg]
def T19 {τ:Type} (l:LS_) (k:Nat→LS_→Option τ):Option τ:=wrapB F19.E (.tup [pM,pI]) l k
def T19.E:Ent P:=F19.E.wrap (.tup [pM,pI])
def T21 {τ:Type} (l:LS_) (k:Nat→LS_→Option τ):Option τ:=wrapB F21.E (.tup [pReply,pI]) l k
def T21.E:Ent P:=F21.E.wrap (.tup [pReply,pI])
end
end Go.Proofs.Ytbpjicbpcfkpfaa.Ai
namespace Go.Proofs.Ytbpjicbpcfkpfaa.Ai
open Go Go.RowKit
noncomputable section
variable {τ:Type} (t:Nat) (nx ex:Nat→LS_→Option τ) (l:LS_) (k κ:Nat→LS_→Option τ)
def F3.ps:List PV2:=[pRaw34,pI,pNoisy]
def F3.sh:List PA:=[(PA.mk (PV3.v pB) [])]
def F3.O:Orc P:=⟨[T16.E,T17.E,T18.E,T19.E,T20.E,T21.E,F22.E,F23.E],[],[],40⟩
def F3:Option τ :=
 T16 []
 (fun j A=>(sw (br (!(gB A 0))
 (k 0 [.B false])
 (br (gtI (((List.length (gL l 8)):Nat):Int) 40)
 (k 0 [.B (gB A 0)])
 (br (gtI (((List.length (gL l 9)):Nat):Int) 40)
 (k 0 [.B (gB A 0)])
 (ck (((eqM (List.length (gL l 3)) (List.length (gL l 3)))&&((eqM (List.length (gL l 5)) (List.length (gL l 5)))&&true))&&true)
 (T17 [.I (gI l 0),.I (gI l 1),.I (gI l 2),.L (gL l 3),.I (gI l 4),.L (gL l 5),.I (gI l 6)]
 (fun j B=>(sw (ck (((eqM (List.length (gLL B 2)) (List.length (gLL B 2)))&&true)&&(((eqM (List.length (gL B 4)) (List.length (gL B 4)))&&((eqM (List.length (gL B 5)) (List.length (gL B 5)))&&true))&&true))
 (T18 [.I (gI B 0),.I (gI B 1),.LL (gLL B 2),.L (gL B 4),.L (gL B 5),.I (gI l 7)]
 (fun j C=>(sw (ck (((eqM (List.length (gLL B 2)) (List.length (gLL B 2)))&&true)&&(((eqM (List.length (gL B 4)) (List.length (gL B 4)))&&((eqM (List.length (gL B 5)) (List.length (gL B 5)))&&true))&&true))
 (T19 [.I (gI B 0),.I (gI B 1),.LL (gLL B 2),.L (gL B 4),.L (gL B 5),.I (gI l 7)]
 (fun j D=>(sw (ck (((eqM (List.length (gLL B 2)) (List.length (gLL B 2)))&&true)&&(((eqM (List.length (gL B 4)) (List.length (gL B 4)))&&((eqM (List.length (gL B 5)) (List.length (gL B 5)))&&true))&&true))
 (T20 [.I (gI B 0),.I (gI B 1),.LL (gLL B 2),.L (gL B 4),.L (gL B 5),.I (gI l 7)]
 (fun j E=>(sw (ck (((eqM (List.length (gLL B 2)) (List.length (gLL B 2)))&&true)&&(((eqM (List.length (gL B 4)) (List.length (gL B 4)))&&((eqM (List.length (gL B 5)) (List.length (gL B 5)))&&true))&&true))
 (T21 [.I (gI B 0),.I (gI B 1),.LL (gLL B 2),.L (gL B 4),.L (gL B 5),.I (gI l 7)]
 (fun j F=>(sw (br ((gI C 1) != (gI D 1))
 (k 0 [.B false])
 (br ((gI E 4) != (gI F 4))
 (k 0 [.B false])
 (ck ((eqM (List.length (gLL C 0)) (List.length (gLL C 0)))&&((eqM (List.length (gLL D 0)) (List.length (gLL D 0)))&&true))
 (F22 [.LL (gLL C 0),.LL (gLL D 0)]
 (fun j G=>(sw (br (!(gB G 0))
 (k 0 [.B false])
 (ck (((eqM (List.length (gL E 2)) (List.length (gL E 2)))&&((eqM (List.length (gLL E 3)) (List.length (gLL E 3)))&&true))&&(((eqM (List.length (gL F 2)) (List.length (gL F 2)))&&((eqM (List.length (gLL F 3)) (List.length (gLL F 3)))&&true))&&true))
 (F23 [.I (gI E 0),.I (gI E 1),.L (gL E 2),.LL (gLL E 3),.I (gI F 0),.I (gI F 1),.L (gL F 2),.LL (gLL F 3)]
 (fun j H=>(sw (br (!(gB H 0))
 (k 0 [.B false])
 (ck (((eqM (List.length (gLL B 2)) (List.length (gLL B 2)))&&true)&&(((eqM (List.length (gL l 8)) (List.length (gL l 8)))&&((eqM (List.length (gL l 9)) (List.length (gL l 9)))&&true))&&true))
 (T20 [.I (gI B 0),.I (gI B 1),.LL (gLL B 2),.L (gL l 8),.L (gL l 9),.I (gI l 7)]
 (fun j M=>(sw (ck (((eqM (List.length (gLL B 2)) (List.length (gLL B 2)))&&true)&&(((eqM (List.length (gL l 8)) (List.length (gL l 8)))&&((eqM (List.length (gL l 9)) (List.length (gL l 9)))&&true))&&true))
 (T21 [.I (gI B 0),.I (gI B 1),.LL (gLL B 2),.L (gL l 8),.L (gL l 9),.I (gI l 7)]
 (fun j N=>(sw (ck (((eqM (List.length (gLL B 2)) (List.length (gLL B 2)))&&true)&&(((eqM (List.length (gL l 8)) (List.length (gL l 8)))&&((eqM (List.length (gL l 9)) (List.length (gL l 9)))&&true))&&true))
 (T18 [.I (gI B 0),.I (gI B 1),.LL (gLL B 2),.L (gL l 8),.L (gL l 9),.I (gI l 7)]
 (fun j Q=>(sw (br ((gI M 4)==(gI N 4))
 (br ((gI Q 1)==(gI N 4))
 (ck (((eqM (List.length (gL M 2)) (List.length (gL M 2)))&&((eqM (List.length (gLL M 3)) (List.length (gLL M 3)))&&true))&&(((eqM (List.length (gL N 2)) (List.length (gL N 2)))&&((eqM (List.length (gLL N 3)) (List.length (gLL N 3)))&&true))&&true))
 (F23 [.I (gI M 0),.I (gI M 1),.L (gL M 2),.LL (gLL M 3),.I (gI N 0),.I (gI N 1),.L (gL N 2),.LL (gLL N 3)]
 (fun j S=>(sw (br (gB S 0)
 (k 0 [.B (gB A 0)])
 (k 0 [.B false]))
 (fun _=>none)) j)))
 (k 0 [.B false]))
 (k 0 [.B false]))
 (fun _=>none)) j)))
 (fun _=>none)) j)))
 (fun _=>none)) j))))
 (fun _=>none)) j))))
 (fun _=>none)) j)))))
 (fun _=>none)) j)))
 (fun _=>none)) j)))
 (fun _=>none)) j)))
 (fun _=>none)) j)))
 (fun _=>none)) j))))))
 (fun _=>none)) j)
theorem F3.eq:FEq F3.O 3 F3.ps F3.sh F3:=by intro τ l κ;kernel_rfl
def F3.E:Ent P:=mkF F3.eq
end
end Go.Proofs.Ytbpjicbpcfkpfaa.Ai
namespace Go.Proofs.Ytbpjicbpcfkpfaa.Ai
open Go Ma
noncomputable section
section
variable {q n:Nat} {G:List (List Int)} {s w g:List Int}
def lea (q n:Nat) (G:List (List Int)) (w g:List Int):Nat:=mn (fun y=>far (lostI g) w y 0 n) (words q (fadd q) (fmul q) G (List.replicate n 0)) n
theorem lea_all:∀ y∈words q (fadd q) (fmul q) G (List.replicate n 0),lea q n G w g≤far (lostI g) w y 0 n:=mn_all _ _ _
theorem lea_some (h:Cs q n G s w g):∃ y∈words q (fadd q) (fmul q) G (List.replicate n 0),far (lostI g) w y 0 n=lea q n G w g:=by
 rcases mn_some (fun y=>far (lostI g) w y 0 n) (words q (fadd q) (fmul q) G (List.replicate n 0)) n with e | e
 ·refine ⟨s,h.sent,?_⟩
  have h1:=far_le (lostI g) w s 0 n
  have h2:=lea_all (q:=q) (n:=n) (G:=G) (w:=w) (g:=g) s h.sent
  unfold lea at h2 ⊢
  omega
 ·exact e
theorem nearR_ge (h:Cs q n G s w g) {k:Int} (hk:((lea q n G w g:Nat):Int)≤k):nearR q n G w g k=(words q (fadd q) (fmul q) G (List.replicate n 0)).filter fun y=>far (lostI g) w y 0 n==lea q n G w g:=by
 rw [nearR_eq h.up.pos,winR_eq h.up.pos,near_min (m:=lea q n G w g),filter_filter_le (fun y=>far (lostI g) w y 0 n) _ k hk]
 ·obtain ⟨y,hy,e⟩:=lea_some h
  exact ⟨y,List.mem_filter.2 ⟨hy,by rw [e];simpa using hk⟩,e⟩
 ·exact fun y hy=>lea_all y (List.mem_filter.1 hy).1
theorem nearR_pos (h:Cs q n G s w g) {k:Int} (hk:((lea q n G w g:Nat):Int)≤k):nearR q n G w g k≠[]∧∀ y∈nearR q n G w g k,far (lostG n g) w y 0 n=lea q n G w g:=by
 rw [nearR_ge h hk]
 refine ⟨fun e=>?_,fun y hy=>?_⟩
 ·obtain ⟨y,hy,e2⟩:=lea_some h
  have:y∈(words q (fadd q) (fmul q) G (List.replicate n 0)).filter fun y=>far (lostI g) w y 0 n==lea q n G w g:=List.mem_filter.2 ⟨hy,by simpa using e2⟩
  rw [e] at this
  simp at this
 ·rw [far_eq h.up.pos]
  simpa using (List.mem_filter.1 hy).2
end
end
end Go.Proofs.Ytbpjicbpcfkpfaa.Ai
namespace Go.Proofs.Ytbpjicbpcfkpfaa.Ai
open Go Go.RowKit
noncomputable section
variable {τ:Type} (t:Nat) (nx ex:Nat→LS_→Option τ) (l:LS_) (k κ:Nat→LS_→Option τ)
def F12.ps:List PV2:=[pRaw34,(pK IntKind.u8)]
def F12.sh:List PA:=[(PA.mk (PV3.v pB) [])]
def F12.O:Orc P:=⟨[T16.E,T17.E,T50.E,U28.E,T23.E],[],[],40⟩
def F12:Option τ :=
 T16 []
 (fun j A=>(sw (br (!(gB A 0))
 (k 0 [.B false])
 (ck (((eqM (List.length (gL l 3)) (List.length (gL l 3)))&&((eqM (List.length (gL l 5)) (List.length (gL l 5)))&&true))&&true)
 (T17 [.I (gI l 0),.I (gI l 1),.I (gI l 2),.L (gL l 3),.I (gI l 4),.L (gL l 5),.I (gI l 6)]
 (fun j B=>(sw (ck (((eqM (List.length (gLL B 2)) (List.length (gLL B 2)))&&true)&&true)
 (T50 [.I (gI B 0),.I (gI B 1),.LL (gLL B 2)]
 (fun j C=>(sw (br ((gI C 1)==4)
 (ck (((eqM (List.length (gLL B 2)) (List.length (gLL B 2)))&&true)&&(((eqM (List.length (gL B 4)) (List.length (gL B 4)))&&((eqM (List.length (gL B 5)) (List.length (gL B 5)))&&true))&&true))
 (U28 [.I (gI B 0),.I (gI B 1),.LL (gLL B 2),.L (gL B 4),.L (gL B 5),.I (wr .i64 ((gI B 6)+(wr .i64 (Int.tmod (gI l 7) 8))))]
 (fun j D=>(sw (br (geI (wr .i64 ((wr .i64 (2*(gI B 6)))+(((List.length (gL B 5)):Nat):Int))) (wr .i64 ((gI B 1)+1)))
 (br ((gI D 0)==1)
 (br (leI (gI D 1) (gI B 6))
 (k 0 [.B (gB A 0)])
 (k 0 [.B false]))
 (br ((gI D 0)==2)
 (br (leI (gI D 1) (gI B 6))
 (k 0 [.B (gB A 0)])
 (k 0 [.B false]))
 (k 0 [.B false])))
 (ck (((eqM (List.length (gL D 2)) (List.length (gL D 2)))&&((eqM (List.length (gLL D 3)) (List.length (gLL D 3)))&&true))&&(((eqM (List.length (gL B 3)) (List.length (gL B 3)))&&true)&&true))
 (T23 [.I (gI D 0),.I (gI D 1),.L (gL D 2),.LL (gLL D 3),.I 1,.I (gI B 6),.L (gL B 3),.LL []]
 (fun j E=>(sw (br (gB E 0)
 (k 0 [.B (gB A 0)])
 (k 0 [.B false]))
 (fun _=>none)) j))))
 (fun _=>none)) j)))
 (br ((gI C 1) != 0)
 (k 0 [.B false])
 (ck (((eqM (List.length (gLL B 2)) (List.length (gLL B 2)))&&true)&&(((eqM (List.length (gL B 4)) (List.length (gL B 4)))&&((eqM (List.length (gL B 5)) (List.length (gL B 5)))&&true))&&true))
 (U28 [.I (gI B 0),.I (gI B 1),.LL (gLL B 2),.L (gL B 4),.L (gL B 5),.I (wr .i64 ((gI B 6)+(wr .i64 (Int.tmod (gI l 7) 8))))]
 (fun j D=>(sw (br (geI (wr .i64 ((wr .i64 (2*(gI B 6)))+(((List.length (gL B 5)):Nat):Int))) (gI C 0))
 (br ((gI D 0)==1)
 (br (leI (gI D 1) (gI B 6))
 (k 0 [.B (gB A 0)])
 (k 0 [.B false]))
 (br ((gI D 0)==2)
 (br (leI (gI D 1) (gI B 6))
 (k 0 [.B (gB A 0)])
 (k 0 [.B false]))
 (k 0 [.B false])))
 (ck (((eqM (List.length (gL D 2)) (List.length (gL D 2)))&&((eqM (List.length (gLL D 3)) (List.length (gLL D 3)))&&true))&&(((eqM (List.length (gL B 3)) (List.length (gL B 3)))&&true)&&true))
 (T23 [.I (gI D 0),.I (gI D 1),.L (gL D 2),.LL (gLL D 3),.I 1,.I (gI B 6),.L (gL B 3),.LL []]
 (fun j E=>(sw (br (gB E 0)
 (k 0 [.B (gB A 0)])
 (k 0 [.B false]))
 (fun _=>none)) j))))
 (fun _=>none)) j)))))
 (fun _=>none)) j)))
 (fun _=>none)) j))))
 (fun _=>none)) j)
theorem F12.eq:FEq F12.O 12 F12.ps F12.sh F12:=by intro τ l κ;kernel_rfl
def F12.E:Ent P:=mkF F12.eq
end
end Go.Proofs.Ytbpjicbpcfkpfaa.Ai
namespace Go.Proofs.Ytbpjicbpcfkpfaa.Ai
open Go Ma
noncomputable section
section
variable {q n:Nat} {G:List (List Int)} {s w g:List Int}
theorem lost_count (h:Cs q n G s w g):nlost (lostI g) n≤g.length:=Nat.le_trans (nlost_le g n) (List.countP_le_length)
theorem only_sent (h:Cs q n G s w g) {d:Nat} (hd:∀ y∈words q (fadd q) (fmul q) G (List.replicate n 0),y≠s→d≤ham n s y) (hE:2*far (lostI g) w s 0 n+g.length<d):lea q n G w g=far (lostI g) w s 0 n∧∀ y∈words q (fadd q) (fmul q) G (List.replicate n 0),far (lostI g) w y 0 n=far (lostI g) w s 0 n→y=s:=by
 have hl:=lost_count h
 have far_:∀ y∈words q (fadd q) (fmul q) G (List.replicate n 0),y≠s→far (lostI g) w s 0 n<far (lostI g) w y 0 n:=fun y hy hne=>by
  have h1:=hd y hy hne
  have h2:=ham_tri (lostI g) w s y n
  omega
 refine ⟨?_,fun y hy e=>?_⟩
 ·obtain ⟨y,hy,e⟩:=lea_some h
  have h1:=lea_all (q:=q) (n:=n) (G:=G) (w:=w) (g:=g) s h.sent
  by_cases hne:y=s
  ·rw [←e,hne]
  ·have:=far_ y hy hne
   omega
 ·by_cases hne:y=s
  ·exact hne
  ·have:=far_ y hy hne
   omega
theorem nearR_sent (h:Cs q n G s w g) {d:Nat} (hd:∀ y∈words q (fadd q) (fmul q) G (List.replicate n 0),y≠s→d≤ham n s y) (hE:2*far (lostI g) w s 0 n+g.length<d) {k:Int} (hk:((far (lostI g) w s 0 n:Nat):Int)≤k):nearR q n G w g k=[s]:=by
 obtain ⟨h1,h2⟩:=only_sent h hd hE
 obtain ⟨piv,R⟩:=h.cd.form
 rw [nearR_ge h (by rw [h1];exact hk),h1]
 refine filter_one (words_nodup (fld q h.cd.fq) R) h.sent fun y hy=>?_
 simp only [beq_iff_eq]
 exact ⟨h2 y hy,fun e=>by rw [e]⟩
theorem near_how (h:Cs q n G s w g) {k:Int} (hk:((far (lostI g) w s 0 n:Nat):Int)≤k):(howL (nearR q n G w g k)=1∨howL (nearR q n G w g k)=2)∧rad (fun y=>far (lostG n g) w y 0 n) (nearR q n G w g k)≤((far (lostI g) w s 0 n:Nat):Int):=by
 have h1:=lea_all (q:=q) (n:=n) (G:=G) (w:=w) (g:=g) s h.sent
 obtain ⟨hne,hfar⟩:=nearR_pos h (k:=k) (by omega)
 have h0:(nearR q n G w g k).length≠0:=fun e=>hne (List.length_eq_zero_iff.1 e)
 constructor
 ·unfold howL
  rw [if_neg h0]
  split <;> simp
 ·unfold rad
  rw [if_neg h0]
  have hm:(nearR q n G w g k).getD 0 []∈nearR q n G w g k:=by
   rw [List.getD_eq_getElem?_getD,List.getElem?_eq_getElem (by omega)]
   exact List.getElem_mem _
  have:=hfar _ hm
  show ((far (lostG n g) w ((nearR q n G w g k).getD 0 []) 0 n:Nat):Int)≤_
  omega
end
theorem F12_true {ls:LS_} (h:okLs [.int .u8,.int .u8,.int .u8,.arr (.i .u8),.int .u16,.arr (.i .u8),.int .u16,.int .u8] ls) {τ:Type} (k:Nat→LS_→Option τ):F12 ls k=k 0 [.B true]:=by
 obtain ⟨Q,N,K,L,num,H,gone,l1,rfl,hQ,hN,hK,hL,hu,hH,h1⟩:=raw34 h
 obtain ⟨x,l2,rfl,hr0,h2⟩:=okLs_cons h1
 obtain ⟨R,rfl,hr1⟩:=ok_int hr0
 have hr2:=wf_u8 hr1
 obtain rfl:=okLs_nil h2
 obtain ⟨q,n,G,s,w,g,hc,hs,hw,hg,hT⟩:=T17_spec gone hQ hN hK hL hu hH
 have C:Cs q n G s w g:=⟨hc,hs,hw,hg⟩
 have hr:=tmod_in (a:=R) (b:=8) hr2.1 (by omega)
 have n0:=hc.n0
 have n1:=hc.n1
 have F:=fld q hc.fq
 have hE:=far_le (lostI g) w s 0 n
 have hgl:=hg.1
 have sl:=(C.ws s hs).1
 unfold F12
 rw [T16_spec]
 simp only [g_,sw_zero]
 rw [br_no (b:=!true) rfl,ck_of (by simp),hT]
 simp only [g_,sw_zero]
 rw [ck_of (by simp),T50_spec hc]
 have e1:wr .i64 (R.tmod 8)=R.tmod 8:=wr64 (by omega) (by omega)
 have e2:wr .i64 (((far (lostI g) w s 0 n:Nat):Int)+R.tmod 8)=((far (lostI g) w s 0 n:Nat):Int)+R.tmod 8:=wr64 (by omega) (by omega)
 have e3:wr .i64 (2*((far (lostI g) w s 0 n:Nat):Int))=((2*far (lostI g) w s 0 n:Nat):Int):=by rw [wr64 (by omega) (by omega)];omega
 have e4:wr .i64 (((2*far (lostI g) w s 0 n:Nat):Int)+(g.length:Int))=((2*far (lostI g) w s 0 n+g.length:Nat):Int):=by rw [wr64 (by omega) (by omega)];omega
 have e5:wr .i64 ((n:Int)+1)=((n+1:Nat):Int):=wsucc (by omega)
 obtain ⟨hw1,hw2⟩:=near_how C (k:=((far (lostI g) w s 0 n:Nat):Int)+R.tmod 8) (by omega)
 have fin1:∀ (X:Option τ),br (howL (nearR q n G w g (((far (lostI g) w s 0 n:Nat):Int)+R.tmod 8))==1)
   (br (leI (rad (fun y=>far (lostG n g) w y 0 n) (nearR q n G w g (((far (lostI g) w s 0 n:Nat):Int)+R.tmod 8))) ((far (lostI g) w s 0 n:Nat):Int)) (k 0 [.B true]) (k 0 [.B false]))
   (br (howL (nearR q n G w g (((far (lostI g) w s 0 n:Nat):Int)+R.tmod 8))==2)
   (br (leI (rad (fun y=>far (lostG n g) w y 0 n) (nearR q n G w g (((far (lostI g) w s 0 n:Nat):Int)+R.tmod 8))) ((far (lostI g) w s 0 n:Nat):Int)) (k 0 [.B true]) (k 0 [.B false]))
   (k 0 [.B false]))=k 0 [.B true]:=fun X=>by
  rcases hw1 with e | e
  ·rw [br_of (by rw [e];rfl),br_of (by simpa using hw2)]
  ·rw [br_no (by rw [e];rfl),br_of (by rw [e];rfl),br_of (by simpa using hw2)]
 have fin2:∀ d:Nat,(∀ y∈words q (fadd q) (fmul q) G (List.replicate n 0),y≠s→d≤ham n s y)→2*far (lostI g) w s 0 n+g.length<d→T23 [.I (howL (nearR q n G w g (((far (lostI g) w s 0 n:Nat):Int)+R.tmod 8))),.I (rad (fun y=>far (lostG n g) w y 0 n) (nearR q n G w g (((far (lostI g) w s 0 n:Nat):Int)+R.tmod 8))),.L ((nearR q n G w g (((far (lostI g) w s 0 n:Nat):Int)+R.tmod 8)).getD 0 []),.LL (tied (nearR q n G w g (((far (lostI g) w s 0 n:Nat):Int)+R.tmod 8))),.I 1,.I ((far (lostI g) w s 0 n:Nat):Int),.L s,.LL []]
   = fun (k:Nat→LS_→Option τ)=>k 0 [.B true]:=fun d hd hlt=>funext fun k=>by
  unfold T23
  rw [nearR_sent C hd hlt (by omega),F23_spec (by simp;omega) (by simp [tied]) (by simp [tied]),decide_eq_true]
  refine ⟨rfl,?_,rfl,rfl⟩
  show ((far (lostG n g) w s 0 n:Nat):Int)=_
  rw [far_eq hg.pos]
 by_cases hG:G.length=0
 ·have hG0:=List.length_eq_zero_iff.1 hG
  rw [if_pos hG]
  simp only [sw_zero,gI_zero,gI_succ]
  rw [br_of (by rfl),ck_of (by simp),e1,e2,U28_ok C]
  simp only [g_,sw_zero]
  rw [e3,e4,e5]
  by_cases c:n+1≤2*far (lostI g) w s 0 n+g.length
  ·rw [br_of (by simp;omega)]
   exact fin1 none
  ·rw [br_no (by simp;omega),ck_of (by simp),fin2 (n+1) (fun y hy hne=>absurd (by
    have h1:=C.sent
    rw [hG0] at h1 hy
    unfold words at h1 hy
    rw [List.mem_singleton.1 h1,List.mem_singleton.1 hy]) hne) (by omega)]
   rfl
 ·rw [if_neg hG]
  simp only [sw_zero,gI_zero,gI_succ]
  rw [br_no (by rfl),br_no (by rfl),ck_of (by simp),e1,e2,U28_ok C]
  simp only [g_,sw_zero]
  rw [e3,e4]
  by_cases c:minw n (words q (fadd q) (fmul q) G (List.replicate n 0)) n≤2*far (lostI g) w s 0 n+g.length
  ·rw [br_of (by simp;omega)]
   exact fin1 none
  ·rw [br_no (by simp;omega),ck_of (by simp),fin2 _ (fun y hy hne=>minw_ham F (turn hc.fq) hc.rows.wd C.sent hy (fun e=>hne e.symm) n) (by omega)]
   rfl
theorem law12 (ls:LS_) (h:okLs ([PV2.agg [.int .u8,.int .u8,.int .u8,.arr (.i .u8),.int .u16,.arr (.i .u8),.int .u16],PV2.v (.int .u8)].flatMap cells2) ls):CS P 12 (fL2 ls [PV2.agg [.int .u8,.int .u8,.int .u8,.arr (.i .u8),.int .u16,.arr (.i .u8),.int .u16],PV2.v (.int .u8)] 0) ⟨.bool true,[]⟩ :=
 F_ok F12.eq ((F12_true h _).trans (by kernel_rfl))
end
end Go.Proofs.Ytbpjicbpcfkpfaa.Ai
