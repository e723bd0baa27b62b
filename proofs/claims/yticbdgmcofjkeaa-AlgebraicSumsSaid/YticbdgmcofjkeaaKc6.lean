/-
Part 6 of 7 of the texts for one claim: P23 Xf4 Wd Wf Wi Xk Xj P30 Ma5 Ma6 P31 P33 Wg Wj Wk Xn Ma7 Ma8 P36 P37 Xs Ma9 Wn Xt Xr Wo Ai25 Xva Xvb Xkb Po0 Po1 Po2 Po3 Po4 Fl0 Po5 Po7 Po8 Wt3 Po9 PoA PoB Xq Xm Wl Wm Xu Wp Xo Wq Wr P44 Xl9 P35 P45 Xmk P46.
-/
import Derived.Test.YticbdgmcofjkeaaKc5
set_option linter.unusedVariables false
set_option linter.unusedSimpArgs false
namespace Go.Proofs.Yticbdgmcofjkeaa.Ai
open Go Ma
noncomputable section
theorem okLs_cons {p:PV1} {ps:List PV1} {ls:LS_} (h:okLs (p::ps) ls):∃ x ls',ls=x::ls'∧okLeaf p x∧okLs ps ls':=by
 cases ls with
 | nil=>have:=h.1;simp at this
 | cons x ls' =>
  refine ⟨x,ls',rfl,h.2 0 (by simp),by have:=h.1;simpa using this,fun j hj=>?_⟩
  exact h.2 (j+1) (by simpa using hj)
theorem okLs_nil {ls:LS_} (h:okLs [] ls):ls=[]:=List.length_eq_zero_iff.1 h.1
theorem ok_int {k:IntKind} {x:Leaf} (h:okLeaf (.int k) x):∃ n,x=.I n∧wfI k n:=by
 unfold okLeaf at h
 split at h
 ·rename_i e;cases e
 ·rename_i k' n e;cases e;exact ⟨n,rfl,h⟩
 ·rename_i e;cases e
 ·rename_i e;cases e
 ·rename_i e;cases e
 ·exact h.elim
theorem ok_arr {k:IntKind} {x:Leaf} (h:okLeaf (.arr (.i k)) x):∃ l,x=.L l∧l.length≤maxLen∧∀ n∈l,wfI k n:=by
 unfold okLeaf at h
 split at h
 ·rename_i e;cases e
 ·rename_i e;cases e
 ·rename_i k' l e;cases e;exact ⟨l,rfl,h.1,h.2⟩
 ·rename_i e;cases e
 ·rename_i e;cases e
 ·exact h.elim
theorem ok_ar2 {k:IntKind} {x:Leaf} (h:okLeaf (.ar2 k) x):∃ l,x=.L l∧l.length≤2*maxLen∧l.length % 2=0∧∀ n∈l,wfI k n:=by
 unfold okLeaf at h
 split at h
 ·rename_i e;cases e
 ·rename_i e;cases e
 ·rename_i e;cases e
 ·rename_i e;cases e
 ·rename_i k' l e;cases e;exact ⟨l,rfl,h.1,h.2⟩
 ·exact h.elim
theorem wf_u8 {n:Int} (h:wfI .u8 n):0≤n∧n<256:=by
 unfold wfI at h
 simp [Lit.wf,IntKind.min,IntKind.max,IntKind.signed,IntKind.bits] at h
 omega
theorem ok_bytes {x:Leaf} (h:okLeaf (.arr (.i .u8)) x):∃ l,x=.L l∧Bytes l:=by
 obtain ⟨l,e,h1,h2⟩:=ok_arr h
 refine ⟨l,e,by unfold maxLen at h1;omega,fun j=>?_⟩
 by_cases hj:j<l.length
 ·rw [List.getD_eq_getElem?_getD,List.getElem?_eq_getElem hj]
  exact wf_u8 (h2 _ (List.getElem_mem hj))
 ·rw [List.getD_eq_getElem?_getD,List.getElem?_eq_none (by omega)]
  decide
structure Cs (q n:Nat) (G:List (List Int)) (s w g:List Int):Prop where
 cd:Cd q n G
 sent:s∈words q (fadd q) (fmul q) G (List.replicate n 0)
 wd:Wd q n w
 up:Up n g
theorem isRight_of {q n:Nat} {w g:List Int} (hw:Wd q n w) (hg:Up n g):isRight q n w g=true:=by
 unfold isRight
 rw [Bool.and_eq_true]
 exact ⟨isWord_iff.2 ⟨by rw [hw.1],fun i _ hi=>hw.2 i (by have:=hw.1;omega)⟩,hg.gone⟩
theorem Up.pos {n:Nat} {g:List Int} (h:Up n g):∀ k,k<g.length→0≤g.getD k 0:=fun k hk=>(h.2 k hk).1
section
variable {q n:Nat} {G:List (List Int)} {s w g:List Int}
theorem Cs.right (h:Cs q n G s w g):isRight q n w g=true:=isRight_of h.wd h.up
theorem Cs.gs (h:Cs q n G s w g):g.length<2^60:=by have:=h.up.1;have:=h.cd.n1;omega
theorem Cs.ws (h:Cs q n G s w g):∀ y∈words q (fadd q) (fmul q) G (List.replicate n 0),Wd q n y:=words_wd (fld q h.cd.fq) G _ h.cd.rows.wd (Wd.zeros (q:=q) (n:=n) (by have:=qs_lt h.cd.fq;omega))
theorem Cs.cnt (h:Cs q n G s w g):(words q (fadd q) (fmul q) G (List.replicate n 0)).length≤256:=by rw [words_len (n:=0) h.cd.fq];exact h.cd.count
end
theorem short2 {L:List (List Int)} (h:∀ r∈L,r.length<2^60):∀ i,(L.getD i []).length<2^60:=fun i=>by
 by_cases hi:i<L.length
 ·rw [List.getD_eq_getElem?_getD,List.getElem?_eq_getElem hi]
  exact h _ (List.getElem_mem hi)
 ·rw [List.getD_eq_getElem?_getD,List.getElem?_eq_none (by omega)]
  decide
end
end Go.Proofs.Yticbdgmcofjkeaa.Ai
namespace Go.Proofs.Yticbdgmcofjkeaa.Ai
open Go Go.RowKit
noncomputable section
variable {τ:Type} (t:Nat) (nx ex:Nat→LS_→Option τ) (l:LS_) (k κ:Nat→LS_→Option τ)
end
end Go.Proofs.Yticbdgmcofjkeaa.Ai
namespace Go.Proofs.Yticbdgmcofjkeaa.Ai
open Go Ma
noncomputable section
def T48 {τ:Type} (l:LS_) (k:Nat→LS_→Option τ):Option τ:=F48 l k
def T48.E:Ent P:=F48.E
end
end Go.Proofs.Yticbdgmcofjkeaa.Ai
namespace Go.Proofs.Yticbdgmcofjkeaa.Ai
open Go Go.RowKit
noncomputable section
variable {τ:Type} (t:Nat) (nx ex:Nat→LS_→Option τ) (l:LS_) (k κ:Nat→LS_→Option τ)
end
end Go.Proofs.Yticbdgmcofjkeaa.Ai
namespace Go.Proofs.Yticbdgmcofjkeaa.Ai
open Go Go.RowKit
noncomputable section
variable {τ:Type} (t:Nat) (nx ex:Nat→LS_→Option τ) (l:LS_) (k κ:Nat→LS_→Option τ)
end
end Go.Proofs.Yticbdgmcofjkeaa.Ai
namespace Go.Proofs.Yticbdgmcofjkeaa.Ai
open Go Ma
noncomputable section
def fnz (r:List Int):Nat:=r.findIdx fun a=>a != 0
theorem fz_ne {r:List Int} (h:fnz r<r.length):r.getD (fnz r) 0≠0:=by
 unfold fnz at h ⊢
 have:=List.findIdx_getElem (p:=fun a:Int=>a != 0) (xs:=r) (w:=h)
 rw [List.getD_eq_getElem?_getD,List.getElem?_eq_getElem h]
 simpa using this
theorem fz_lt {r:List Int} {j:Nat} (h:j<fnz r):r.getD j 0=0:=by
 have hl:j<r.length:=Nat.lt_of_lt_of_le h List.findIdx_le_length
 have:=List.not_of_lt_findIdx (p:=fun a:Int=>a != 0) (xs:=r) h
 rw [List.getD_eq_getElem?_getD,List.getElem?_eq_getElem hl]
 simpa using this
theorem fz_eq {r:List Int} {k:Nat} (h0:∀ j,j<k→r.getD j 0=0) (h1:r.getD k 0≠0):fnz r=k:=by
 have hk:k<r.length:=by
  rcases Nat.lt_or_ge k r.length with h | h
  ·exact h
  ·exact absurd (by rw [List.getD_eq_getElem?_getD,List.getElem?_eq_none h];rfl) h1
 rcases Nat.lt_trichotomy (fnz r) k with h | h | h
 ·exact absurd (h0 _ h) (fz_ne (by omega))
 ·exact h
 ·exact absurd (fz_lt h) h1
structure Lc (q n:Nat) (G:List (List Int)):Prop where
 fq:q∈Qs
 n0:1≤n
 n1:n≤24
 form:∃ piv,Rref q n G piv
theorem rref_fz {q n:Nat} {G:List (List Int)} {piv:Nat→Nat} (h:Rref q n G piv) {i:Nat} (hi:i<G.length):fnz (G.getD i [])=piv i :=
 fz_eq (fun j hj=>h.lead i j hi hj) (by have:=h.one i hi;unfold ent at this;rw [this];omega)
theorem rref_len {q n:Nat} {G:List (List Int)} {piv:Nat→Nat} (h:Rref q n G piv):G.length≤n:=by
 have:∀ k,k≤G.length→∀ i,i<k→i≤piv i:=by
  intro k
  induction k with
  | zero=>intro _ i hi;omega
  | succ k ih =>
   intro hk i hi
   rcases Nat.lt_or_ge i k with h1 | h1
   ·exact ih (by omega) i h1
   ·have e:i=k:=by omega
    subst e
    cases i with
    | zero=>omega
    | succ i =>
     have:=ih (by omega) i (by omega)
     have:=h.mono i (i+1) (by omega) (by omega)
     omega
 rcases Nat.eq_zero_or_pos G.length with e | e
 ·omega
 ·have h1:=this G.length (Nat.le_refl _) (G.length-1) (by omega)
  have h2:=h.lt (G.length-1) (by omega)
  omega
theorem Lc.rows {q n:Nat} {G:List (List Int)} (h:Lc q n G):Rows q n G:=by
 obtain ⟨piv,R⟩:=h.form
 have:=rref_len R
 have:=h.n1
 exact ⟨R.wd,by omega,by omega⟩
theorem Lc.len {q n:Nat} {G:List (List Int)} (h:Lc q n G):G.length≤n:=by
 obtain ⟨piv,R⟩:=h.form
 exact rref_len R
theorem Lc.fnzs {q n:Nat} {G:List (List Int)} (h:Lc q n G) {i:Nat} (hi:i<G.length):fnz (G.getD i [])<n∧(G.getD i []).length=n:=by
 obtain ⟨piv,R⟩:=h.form
 exact ⟨by rw [rref_fz R hi];exact R.lt i hi,(R.wd i hi).1⟩
def pA (n:Nat) (G:List (List Int)):Nat→List Int
 | 0=>List.replicate n 0
 | i+1=>(pA n G i).set (fnz (G.getD i [])) (((i+1:Nat):Nat):Int)
theorem pA_len (n:Nat) (G:List (List Int)):∀ i,(pA n G i).length=n
 | 0=>by simp [pA]
 | i+1=>by simp [pA,pA_len n G i]
def drow (q n:Nat) (A:List Int) (G:List (List Int)) (j k:Nat):List Int :=
 (List.range n).map fun t=>if t<k∧0<A.getD t 0 then fneg q ((G.getD ((A.getD t 0).toNat-1) []).getD j 0) else if t=j then 1 else 0
theorem drow_len {q n:Nat} {A:List Int} {G:List (List Int)} {j k:Nat}:(drow q n A G j k).length=n:=by simp [drow]
theorem drow_get {q n:Nat} {A:List Int} {G:List (List Int)} {j k t:Nat} (ht:t<n):(drow q n A G j k).getD t 0=if t<k∧0<A.getD t 0 then fneg q ((G.getD ((A.getD t 0).toNat-1) []).getD j 0) else if t=j then 1 else 0:=by
 simp [drow,List.getD_eq_getElem?_getD,ht]
structure Cols (q n:Nat) (A:List Int) (G:List (List Int)):Prop where
 len:A.length=n
 at_:∀ t,t<n→0≤A.getD t 0∧A.getD t 0≤G.length
def frees (A:List Int) (j:Nat):List Nat:=(List.range j).filter fun t=>decide (A.getD t 0=0)
def drows (q n:Nat) (A:List Int) (G:List (List Int)) (j:Nat):List (List Int):=(frees A j).map fun t=>drow q n A G t n
theorem pA_cols {q n:Nat} {G:List (List Int)} (hp:∀ i,i<G.length→fnz (G.getD i [])<n):∀ i,i≤G.length→∀ t,t<n→0≤(pA n G i).getD t 0∧(pA n G i).getD t 0≤i
 | 0,_,t,ht=>by simp [pA,List.getD_eq_getElem?_getD,ht]
 | i+1,h,t,ht=>by
  have ih:=pA_cols (q:=q) hp i (by omega) t ht
  have pl:=pA_len n G i
  unfold pA
  rw [List.getD_eq_getElem?_getD,List.getElem?_set]
  by_cases e:fnz (G.getD i [])=t
  ·rw [if_pos e,if_pos (by rw [pl,e];exact ht)]
   simp
   omega
  ·rw [if_neg e,←List.getD_eq_getElem?_getD]
   omega
theorem Lc.cols {q n:Nat} {G:List (List Int)} (h:Lc q n G):Cols q n (pA n G G.length) G :=
 ⟨pA_len _ _ _,fun t ht=>pA_cols (q:=q) (fun i hi=>(h.fnzs hi).1) G.length (Nat.le_refl _) t ht⟩
theorem drow_wd {q n:Nat} (hq:q∈Qs) {A:List Int} {G:List (List Int)} (hR:Rows q n G) (hA:Cols q n A G) {j:Nat} (hj:j<n) (k:Nat):Wd q n (drow q n A G j k):=by
 have F:=fld q hq
 have q1:=qs_lt hq
 refine ⟨drow_len,fun t ht=>?_⟩
 rw [drow_get ht]
 split
 ·rename_i h
  obtain ⟨a0,a1⟩:=hA.at_ t ht
  have w:=(hR.wd ((A.getD t 0).toNat-1) (by omega)).2 j hj
  exact F.neg_in _ w.1 w.2
 ·split <;> omega
def dualR (q n:Nat) (G:List (List Int)):List (List Int):=reduce (fadd q) (fmul q) (fneg q) (finv q) n (drows q n (pA n G G.length) G n)
end
end Go.Proofs.Yticbdgmcofjkeaa.Ai
namespace Go.Proofs.Yticbdgmcofjkeaa.Ma
section
variable {q n:Nat} {add mul:Int→Int→Int} {neg inv:Int→Int}
theorem vadd_comm (F:Fld q add mul neg inv) {a b:List Int} (ha:Wd q n a) (hb:Wd q n b):vadd add a b=vadd add b a:=by
 have e:=ha.1.trans hb.1.symm
 refine ext_getD (by rw [vadd_len e,vadd_len e.symm,e]) fun j hj=>?_
 rw [vadd_len e,ha.1] at hj
 have x:=ha.2 j hj
 have y:=hb.2 j hj
 rw [vadd_get e (by rw [ha.1];exact hj),vadd_get e.symm (by rw [hb.1];exact hj),F.add_comm _ _ x.1 x.2 y.1 y.2]
theorem vadd_assoc (F:Fld q add mul neg inv) {a b c:List Int} (ha:Wd q n a) (hb:Wd q n b) (hc:Wd q n c):vadd add (vadd add a b) c=vadd add a (vadd add b c):=by
 have ab:=ha.vadd F hb
 have bc:=hb.vadd F hc
 have l1:=ab.vadd F hc
 have l2:=ha.vadd F bc
 refine ext_getD (by rw [l1.1,l2.1]) fun j hj=>?_
 rw [l1.1] at hj
 have x:=ha.2 j hj
 have y:=hb.2 j hj
 have z:=hc.2 j hj
 rw [vadd_get (by rw [ab.1,hc.1]) (by rw [ab.1];exact hj),vadd_get (by rw [ha.1,hb.1]) (by rw [ha.1];exact hj),vadd_get (by rw [ha.1,bc.1]) (by rw [ha.1];exact hj),vadd_get (by rw [hb.1,hc.1]) (by rw [hb.1];exact hj),F.add_assoc _ _ _ x.1 x.2 y.1 y.2 z.1 z.2]
theorem zero_vadd (F:Fld q add mul neg inv) {a:List Int} (ha:Wd q n a):vadd add (List.replicate n 0) a=a:=by
 have e:(List.replicate n (0:Int)).length=a.length:=by rw [List.length_replicate,ha.1]
 refine ext_getD (by rw [vadd_len e,e]) fun j hj=>?_
 rw [vadd_len e,e,ha.1] at hj
 have x:=ha.2 j hj
 rw [vadd_get e (by rw [e,ha.1];exact hj),show (List.replicate n (0:Int)).getD j 0=0 by simp [List.getD_eq_getElem?_getD,hj],F.zero_add _ x.1 x.2]
theorem zeros_wd (F:Fld q add mul neg inv):Wd q n (List.replicate n 0):=⟨by simp,fun j hj=>by
 have:=F.one_lt
 rw [show (List.replicate n (0:Int)).getD j 0=0 by simp [List.getD_eq_getElem?_getD,hj]]
 omega⟩
theorem vmul_add (F:Fld q add mul neg inv) {g:List Int} (hg:Wd q n g) {a b:Int} (a0:0≤a) (a1:a<q) (b0:0≤b) (b1:b<q):vadd add (vmul mul a g) (vmul mul b g)=vmul mul (add a b) g:=by
 have ha:=Wd.vmul F a0 a1 hg
 have hb:=Wd.vmul F b0 b1 hg
 have ab:=F.add_in a b a0 a1 b0 b1
 have hab:=Wd.vmul F ab.1 ab.2 hg
 refine ext_getD (by rw [(ha.vadd F hb).1,hab.1]) fun j hj=>?_
 rw [(ha.vadd F hb).1] at hj
 have x:=hg.2 j hj
 rw [vadd_get (by rw [ha.1,hb.1]) (by rw [ha.1];exact hj),vmul_get (by rw [hg.1];exact hj),vmul_get (by rw [hg.1];exact hj),vmul_get (by rw [hg.1];exact hj),
  F.mul_comm a _ a0 a1 x.1 x.2,F.mul_comm b _ b0 b1 x.1 x.2,F.mul_comm (add a b) _ ab.1 ab.2 x.1 x.2,F.distrib _ _ _ x.1 x.2 a0 a1 b0 b1]
theorem add_cancel (F:Fld q add mul neg inv) {a b c:Int} (ha:0≤a∧a<q) (hb:0≤b∧b<q) (hc:0≤c∧c<q) (h:add a c=add b c):a=b:=by
 have hn:=F.neg_in c hc.1 hc.2
 have e:∀ x:Int,0≤x∧x<q→add (add x c) (neg c)=x:=fun x hx=>by
  rw [F.add_assoc _ _ _ hx.1 hx.2 hc.1 hc.2 hn.1 hn.2,F.add_neg c hc.1 hc.2,F.add_comm x 0 hx.1 hx.2 (by omega) (by have:=F.one_lt;omega),F.zero_add x hx.1 hx.2]
 rw [←e a ha,←e b hb,h]
theorem far_vadd (F:Fld q add mul neg inv) (lost:Nat→Bool) {w y v:List Int} (hw:Wd q n w) (hy:Wd q n y) (hv:Wd q n v):∀ k,k≤n→far lost (vadd add w v) (vadd add y v) 0 k=far lost w y 0 k
 | 0,_=>rfl
 | k+1,hk=>by
  rw [far_succ,far_succ,far_vadd F lost hw hy hv k (by omega),Nat.zero_add]
  have a:=hw.2 k (by omega)
  have b:=hy.2 k (by omega)
  have c:=hv.2 k (by omega)
  rw [vadd_get (by rw [hy.1,hv.1]) (by rw [hy.1];omega),vadd_get (by rw [hw.1,hv.1]) (by rw [hw.1];omega)]
  by_cases h:y.getD k 0=w.getD k 0
  ·rw [h]
   simp
  ·have:add (y.getD k 0) (v.getD k 0)≠add (w.getD k 0) (v.getD k 0):=fun e=>h (add_cancel F b a c e)
   have e1:(add (y.getD k 0) (v.getD k 0) != add (w.getD k 0) (v.getD k 0))=true:=by simpa using this
   have e2:(y.getD k 0 != w.getD k 0)=true:=by simpa using h
   rw [e1,e2]
theorem words_shift (F:Fld q add mul neg inv):∀ (G:List (List Int)) (z v:List Int),(∀ i,i<G.length→Wd q n (G.getD i []))→Wd q n z→Wd q n v→words q add mul G (vadd add z v)=(words q add mul G z).map fun y=>vadd add y v
 | [],z,v,_,_,_=>rfl
 | g::gs,z,v,hG,hz,hv=>by
  have hg:Wd q n g:=by simpa using hG 0 (by simp)
  unfold words
  rw [List.map_flatMap]
  unfold List.flatMap
  refine congrArg List.flatten (List.map_congr_left fun a ha=>?_)
  have ha':a<q:=by simpa using ha
  have hag:=Wd.vmul F (c:=((a:Nat):Int)) (by omega) (by exact_mod_cast ha') hg
  rw [vadd_assoc F hz hv hag,vadd_comm F hv hag,←vadd_assoc F hz hag hv]
  exact words_shift F gs _ v (fun i hi=>by simpa using hG (i+1) (by simpa using hi)) (hz.vadd F hag) hv
theorem sum_perm {l m:List Nat} (h:l.Perm m):l.sum=m.sum:=by
 induction h with
 | nil=>rfl
 | cons x _ ih=>rw [List.sum_cons,List.sum_cons,ih]
 | swap x y l=>simp only [List.sum_cons];omega
 | trans _ _ h1 h2=>rw [h1,h2]
theorem count_shift (F:Fld q add mul neg inv) (P:∀ c:Nat,c<q→((List.range q).map fun (a:Nat)=>add (a:Int) (c:Int)).Perm ((List.range q).map fun (a:Nat)=>(a:Int))):∀ (G:List (List Int)) (z v:List Int) (p:List Int→Bool),(∀ i,i<G.length→Wd q n (G.getD i []))→Wd q n z→v∈words q add mul G (List.replicate n 0) →
  ((words q add mul G z).countP fun y=>p (vadd add y v))=(words q add mul G z).countP p
 | [],z,v,p,_,hz,hv=>by
  unfold words at hv
  rw [List.mem_singleton] at hv
  subst hv
  unfold words
  rw [List.countP_singleton,List.countP_singleton,vadd_comm F hz (zeros_wd F),zero_vadd F hz]
 | g::gs,z,v,p,hG,hz,hv=>by
  have hg:Wd q n g:=by simpa using hG 0 (by simp)
  have hG':∀ i,i<gs.length→Wd q n (gs.getD i []):=fun i hi=>by simpa using hG (i+1) (by simpa using hi)
  unfold words at hv
  obtain ⟨c,hc,hv⟩:=List.mem_flatMap.1 hv
  have hc':c<q:=by simpa using hc
  have c1:((c:Nat):Int)<q:=by exact_mod_cast hc'
  have hu:=Wd.vmul F (c:=((c:Nat):Int)) (by omega) c1 hg
  have hz0:=zeros_wd F (n:=n)
  rw [words_shift F gs _ _ hG' hz0 hu] at hv
  obtain ⟨v',hv',rfl⟩:=List.mem_map.1 hv
  have wv':=words_wd F gs _ hG' hz0 v' hv'
  have key:∀ a:Nat,a<q→((words q add mul gs (vadd add z (vmul mul (a:Int) g))).countP fun y=>p (vadd add y (vadd add v' (vmul mul (c:Int) g))))=(words q add mul gs (vadd add z (vmul mul (add (a:Int) (c:Int)) g))).countP p:=by
   intro a ha
   have a1:((a:Nat):Int)<q:=by exact_mod_cast ha
   have hag:=Wd.vmul F (c:=((a:Nat):Int)) (by omega) a1 hg
   have hza:=hz.vadd F hag
   have e1:((words q add mul gs (vadd add z (vmul mul (a:Int) g))).countP fun y=>p (vadd add y (vadd add v' (vmul mul (c:Int) g))))=(words q add mul gs (vadd add z (vmul mul (a:Int) g))).countP fun y=>(fun x=>p (vadd add x (vmul mul (c:Int) g))) (vadd add y v'):=by
    refine List.countP_congr fun y hy=>?_
    have wy:=words_wd F gs _ hG' hza y hy
    show p (vadd add y (vadd add v' (vmul mul (c:Int) g)))=true↔p (vadd add (vadd add y v') (vmul mul (c:Int) g))=true
    rw [vadd_assoc F wy wv' hu]
   rw [e1,count_shift F P gs _ v' (fun x=>p (vadd add x (vmul mul (c:Int) g))) hG' hza hv',←vmul_add F hg (by omega) a1 (by omega) c1,←vadd_assoc F hz hag hu,words_shift F gs _ _ hG' hza hu,List.countP_map]
   rfl
  unfold words
  rw [List.countP_flatMap,List.countP_flatMap]
  have l1:((List.range q).map (List.countP (fun y=>p (vadd add y (vadd add v' (vmul mul (c:Int) g)))) ∘ fun (a:Nat)=>words q add mul gs (vadd add z (vmul mul (a:Int) g))))=((List.range q).map fun (a:Nat)=>add (a:Int) (c:Int)).map fun x=>(words q add mul gs (vadd add z (vmul mul x g))).countP p:=by
   rw [List.map_map]
   exact List.map_congr_left fun a ha=>key a (by simpa using ha)
  have l2:((List.range q).map (List.countP p ∘ fun (a:Nat)=>words q add mul gs (vadd add z (vmul mul (a:Int) g))))=((List.range q).map fun (a:Nat)=>(a:Int)).map fun x=>(words q add mul gs (vadd add z (vmul mul x g))).countP p:=by
   rw [List.map_map]
   rfl
  rw [l1,l2]
  exact sum_perm ((P c hc').map _)
theorem words_closed (F:Fld q add mul neg inv) (P:∀ c:Nat,c<q→((List.range q).map fun (a:Nat)=>add (a:Int) (c:Int)).Perm ((List.range q).map fun (a:Nat)=>(a:Int))) {G:List (List Int)} (hG:∀ i,i<G.length→Wd q n (G.getD i [])) {x v:List Int} (hx:x∈words q add mul G (List.replicate n 0)) (hv:v∈words q add mul G (List.replicate n 0)):vadd add x v∈words q add mul G (List.replicate n 0):=by
 have h:=count_shift F P G (List.replicate n 0) v (fun y=>decide (y=vadd add x v)) hG (zeros_wd F) hv
 have h1:0<(words q add mul G (List.replicate n 0)).countP fun y=>decide (vadd add y v=vadd add x v):=List.countP_pos_iff.2 ⟨x,hx,by simp⟩
 rw [h] at h1
 obtain ⟨y,hy,e⟩:=List.countP_pos_iff.1 h1
 have e:=of_decide_eq_true e
 rw [←e];exact hy
end
theorem turn {q:Nat} (hq:q∈Qs):∀ c:Nat,c<q→((List.range q).map fun (a:Nat)=>fadd q (a:Int) (c:Int)).Perm ((List.range q).map fun (a:Nat)=>(a:Int)):=by
 have:(Qs.all fun q=>(List.range q).all fun (c:Nat)=>((List.range q).map fun (a:Nat)=>fadd q (a:Int) (c:Int)).isPerm ((List.range q).map fun (a:Nat)=>(a:Int)))=true:=by decide +kernel
 intro c hc
 have h:=List.all_eq_true.1 (List.all_eq_true.1 this q hq) c (by simpa using hc)
 exact List.isPerm_iff.1 h
end Go.Proofs.Yticbdgmcofjkeaa.Ma
namespace Go.Proofs.Yticbdgmcofjkeaa.Ma
def lx (n:Nat) (a b:List Int):Prop:=∃ p,p<n∧(∀ j,j<p→a.getD j 0=b.getD j 0)∧a.getD p 0<b.getD p 0
section
variable {q:Nat} {add mul:Int→Int→Int} {neg inv:Int→Int} {n:Nat}
theorem Rref.tail {g:List Int} {gs:List (List Int)} {piv:Nat→Nat} (R:Rref q n (g::gs) piv):Rref q n gs (fun i=>piv (i+1)) where
 wd:=fun i hi=>by simpa using R.wd (i+1) (by simpa using hi)
 lt:=fun i hi=>R.lt (i+1) (by simpa using hi)
 mono:=fun i j hij hj=>R.mono (i+1) (j+1) (by omega) (by simpa using hj)
 one:=fun i hi=>by simpa [ent] using R.one (i+1) (by simpa using hi)
 zero:=fun i k hi hk hne=>by simpa [ent] using R.zero (i+1) (k+1) (by simpa using hi) (by simpa using hk) (by omega)
 lead:=fun i j hi hj=>by simpa [ent] using R.lead (i+1) j (by simpa using hi) hj
theorem mul_zero (F:Fld q add mul neg inv) {a:Int} (h0:0≤a) (h1:a<q):mul a 0=0:=by
 have:=F.one_lt
 rw [F.mul_comm _ _ h0 h1 (by omega) (by omega),F.zero_mul _ h0 h1]
theorem add_zero (F:Fld q add mul neg inv) {a:Int} (h0:0≤a) (h1:a<q):add a 0=a:=by
 have:=F.one_lt
 rw [F.add_comm _ _ h0 h1 (by omega) (by omega),F.zero_add _ h0 h1]
theorem mul_one (F:Fld q add mul neg inv) {a:Int} (h0:0≤a) (h1:a<q):mul a 1=a:=by
 have:=F.one_lt
 rw [F.mul_comm _ _ h0 h1 (by omega) (by omega),F.one_mul _ h0 h1]
theorem words_sorted (F:Fld q add mul neg inv):∀ (G:List (List Int)) (piv:Nat→Nat) (z:List Int),Rref q n G piv→Wd q n z→(∀ i,i<G.length→z.getD (piv i) 0=0)→(words q add mul G z).Pairwise (lx n)
 | [],piv,z,R,hz,h0=>by unfold words;exact List.pairwise_singleton _ _
 | g::gs,piv,z,R,hz,h0=>by
  have hg:Wd q n g:=by simpa using R.wd 0 (by simp)
  have p0:=R.lt 0 (by simp)
  have q1:=F.one_lt
  have in_:∀ a,a<q→0≤((a:Nat):Int)∧((a:Nat):Int)<q:=fun a ha=>⟨by omega,by omega⟩
  have hv:∀ a,a<q→Wd q n (vmul mul (a:Int) g):=fun a ha=>Wd.vmul F (in_ a ha).1 (in_ a ha).2 hg
  have at_:∀ a j,a<q→j<n→(vadd add z (vmul mul (a:Int) g)).getD j 0=add (z.getD j 0) (mul a (g.getD j 0)):=fun a j ha hj=>by
   rw [vadd_get (by rw [hz.1,(hv a ha).1]) (by rw [hz.1];exact hj),vmul_get (by rw [hg.1];exact hj)]
  unfold words
  rw [List.pairwise_flatMap]
  refine ⟨fun a ha=>?_,?_⟩
  ·have ha':a<q:=by simpa using ha
   refine words_sorted F gs _ _ R.tail (hz.vadd F (hv a ha')) fun i hi=>?_
   have hl:=R.lt (i+1) (by simpa using hi)
   have z0:=h0 (i+1) (by simpa using hi)
   have g0:g.getD (piv (i+1)) 0=0:=by simpa [ent] using R.zero (i+1) 0 (by simpa using hi) (by simp) (by omega)
   rw [at_ a _ ha' hl,z0,g0,mul_zero F (in_ a ha').1 (in_ a ha').2,F.zero_add 0 (by omega) (by omega)]
  ·refine (List.pairwise_lt_range (n:=q)).imp_of_mem fun {a b} ha hb hab x hx y hy=>?_
   have ha':a<q:=by simpa using ha
   have hb':b<q:=by simpa using hb
   have low:∀ i j,i<gs.length→j<piv 0+1→ent gs i j=0:=fun i j hi hj=>by
    have:=R.mono 0 (i+1) (by omega) (by simpa using hi)
    simpa [ent] using R.lead (i+1) j (by simpa using hi) (by omega)
   have ex:∀ c,c<q→∀ w∈words q add mul gs (vadd add z (vmul mul (c:Int) g)),∀ j,j<piv 0+1→w.getD j 0=add (z.getD j 0) (mul c (g.getD j 0)):=fun c hc w hw j hj=>by
    rw [words_same F (by omega) gs _ R.tail.wd low (hz.vadd F (hv c hc)) w hw j hj,at_ c j hc (by omega)]
   refine ⟨piv 0,p0,fun j hj=>?_,?_⟩
   ·have g0:g.getD j 0=0:=by simpa [ent] using R.lead 0 j (by simp) hj
    rw [ex a ha' x hx j (by omega),ex b hb' y hy j (by omega),g0,mul_zero F (in_ a ha').1 (in_ a ha').2,mul_zero F (in_ b hb').1 (in_ b hb').2]
   ·have g1:g.getD (piv 0) 0=1:=by simpa [ent] using R.one 0 (by simp)
    rw [ex a ha' x hx _ (by omega),ex b hb' y hy _ (by omega),g1,h0 0 (by simp),mul_one F (in_ a ha').1 (in_ a ha').2,mul_one F (in_ b hb').1 (in_ b hb').2,F.zero_add _ (in_ a ha').1 (in_ a ha').2,F.zero_add _ (in_ b hb').1 (in_ b hb').2]
    omega
theorem words_nodup (F:Fld q add mul neg inv) {G:List (List Int)} {piv:Nat→Nat} (R:Rref q n G piv):(words q add mul G (List.replicate n 0)).Nodup:=by
 refine (words_sorted F G piv _ R (zeros_wd F) fun i hi=>?_).imp fun {a b} h e=>?_
 ·have:=R.lt i hi
  simp [List.getD_eq_getElem?_getD,this]
 ·obtain ⟨p,_,_,h⟩:=h
  rw [e] at h
  omega
end
def ham (n:Nat) (a b:List Int):Nat:=far (fun _=>false) a b 0 n
def wt (n:Nat) (y:List Int):Nat:=ham n (List.replicate n 0) y
def nlost (lost:Nat→Bool):Nat→Nat
 | 0=>0
 | k+1=>nlost lost k+(if lost k then 1 else 0)
theorem ham_tri (lost:Nat→Bool) (w a b:List Int):∀ k,ham k a b≤far lost w a 0 k+far lost w b 0 k+nlost lost k
 | 0=>Nat.zero_le _
 | k+1=>by
  have ih:=ham_tri lost w a b k
  unfold ham at ih ⊢
  rw [far_succ,far_succ,far_succ]
  unfold nlost
  simp only [Nat.zero_add]
  cases hl:lost k with
  | true=>simp;split <;> omega
  | false =>
   by_cases e1:a.getD k 0=w.getD k 0
   ·by_cases e2:b.getD k 0=w.getD k 0
    ·rw [e1,e2];simp;omega
    ·have:(b.getD k 0 != w.getD k 0)=true:=by simpa using e2
     rw [this];simp;split <;> omega
   ·have:(a.getD k 0 != w.getD k 0)=true:=by simpa using e1
    rw [this];simp;split <;> split <;> omega
section
variable {q:Nat} {add mul:Int→Int→Int} {neg inv:Int→Int} {n:Nat}
end
end Go.Proofs.Yticbdgmcofjkeaa.Ma
namespace Go.Proofs.Yticbdgmcofjkeaa.Ai
open Go Ma
noncomputable section
section
variable {q n:Nat} {G:List (List Int)}
end
end
end Go.Proofs.Yticbdgmcofjkeaa.Ai
namespace Go.Proofs.Yticbdgmcofjkeaa.Ai
open Go Ma
noncomputable section
def cnt1 (n:Nat) (s:List Int) (y:List Int):List Int:=s.set (wt n y) (s.getD (wt n y) 0+1)
def Hb (n:Nat) (s:List Int) (m:Nat):Prop:=s.length=n+1∧∀ j,0≤s.getD j 0∧s.getD j 0+m≤2^60
theorem Hb.mono {n:Nat} {s:List Int} {m k:Nat} (h:Hb n s m) (hk:k≤m):Hb n s k:=⟨h.1,fun j=>⟨(h.2 j).1,by have:=(h.2 j).2;omega⟩⟩
theorem wt_le (n:Nat) (y:List Int):wt n y≤n:=far_le _ _ _ _ _
theorem Hb.step {n:Nat} {s:List Int} {m:Nat} (h:Hb n s (m+1)) (y:List Int):Hb n (cnt1 n s y) m:=by
 have hw:=wt_le n y
 refine ⟨by unfold cnt1;rw [List.length_set];exact h.1,fun j=>?_⟩
 have a:=h.2 j
 have b:=h.2 (wt n y)
 unfold cnt1
 rw [List.getD_eq_getElem?_getD,List.getElem?_set]
 by_cases e:wt n y=j
 ·rw [if_pos e,if_pos (by rw [h.1];omega)]
  simp only [Option.getD_some]
  omega
 ·rw [if_neg e,←List.getD_eq_getElem?_getD]
  omega
end
end Go.Proofs.Yticbdgmcofjkeaa.Ai
namespace Go.Proofs.Yticbdgmcofjkeaa.Ai
open Go Ma Go.RowKit
noncomputable section
end
end Go.Proofs.Yticbdgmcofjkeaa.Ai
namespace Go.Proofs.Yticbdgmcofjkeaa.Ai
open Go Ma
noncomputable section
end
end Go.Proofs.Yticbdgmcofjkeaa.Ai
namespace Go.Proofs.Yticbdgmcofjkeaa.Ai
open Go Go.RowKit
noncomputable section
variable {τ:Type} (t:Nat) (nx ex:Nat→LS_→Option τ) (l:LS_) (k κ:Nat→LS_→Option τ)
end
end Go.Proofs.Yticbdgmcofjkeaa.Ai
namespace Go.Proofs.Yticbdgmcofjkeaa.Ma
abbrev Trn (q:Nat) (add:Int→Int→Int):Prop:=∀ c:Nat,c<q→((List.range q).map fun (a:Nat)=>add (a:Int) (c:Int)).Perm ((List.range q).map fun (a:Nat)=>(a:Int))
abbrev Rw (q n:Nat) (m:List (List Int)):Prop:=∀ i,i<m.length→Wd q n (m.getD i [])
def Sp (q n:Nat) (add mul:Int→Int→Int) (m:List (List Int)) (x:List Int):Prop:=x∈words q add mul m (List.replicate n 0)
section
variable {q:Nat} {add mul:Int→Int→Int} {neg inv:Int→Int} {n:Nat}
theorem Rw.head {g:List Int} {gs:List (List Int)} (h:Rw q n (g::gs)):Wd q n g:=by simpa using h 0 (by simp)
theorem Rw.tail {g:List Int} {gs:List (List Int)} (h:Rw q n (g::gs)):Rw q n gs:=fun i hi=>by simpa using h (i+1) (by simpa using hi)
theorem in_ {a:Nat} (h:a<q):0≤((a:Nat):Int)∧((a:Nat):Int)<q:=⟨by omega,by omega⟩
theorem vmul_zero (F:Fld q add mul neg inv) {x:List Int} (hx:Wd q n x):vmul mul 0 x=List.replicate n 0 :=
 ext_getD (by rw [vmul_len,hx.1];simp) fun j hj=>by
  rw [vmul_len,hx.1] at hj
  have a:=hx.2 j hj
  rw [vmul_get (by rw [hx.1];exact hj),F.zero_mul _ a.1 a.2]
  simp [List.getD_eq_getElem?_getD,hj]
theorem vadd_zeros (F:Fld q add mul neg inv) {x:List Int} (hx:Wd q n x):vadd add x (List.replicate n 0)=x:=by
 rw [vadd_comm F hx (zeros_wd F),zero_vadd F hx]
theorem vmul_zeros (F:Fld q add mul neg inv) {c:Int} (h0:0≤c) (h1:c<q):vmul mul c (List.replicate n 0)=List.replicate n 0:=by
 unfold vmul
 rw [List.map_replicate,mul_zero F h0 h1]
theorem vmul_one (F:Fld q add mul neg inv) {x:List Int} (hx:Wd q n x):vmul mul 1 x=x :=
 ext_getD vmul_len fun j hj=>by
  rw [vmul_len] at hj
  have a:=hx.2 j (by rw [←hx.1];exact hj)
  rw [vmul_get hj,F.one_mul _ a.1 a.2]
theorem vmul_vmul (F:Fld q add mul neg inv) {a b:Int} (a0:0≤a) (a1:a<q) (b0:0≤b) (b1:b<q) {x:List Int} (hx:Wd q n x):vmul mul a (vmul mul b x)=vmul mul (mul a b) x :=
 ext_getD (by rw [vmul_len,vmul_len,vmul_len]) fun j hj=>by
  rw [vmul_len,vmul_len] at hj
  have c:=hx.2 j (by rw [←hx.1];exact hj)
  rw [vmul_get (by rw [vmul_len];exact hj),vmul_get hj,vmul_get hj,F.mul_assoc _ _ _ a0 a1 b0 b1 c.1 c.2]
theorem vmul_vadd (F:Fld q add mul neg inv) {c:Int} (h0:0≤c) (h1:c<q) {x y:List Int} (hx:Wd q n x) (hy:Wd q n y):vmul mul c (vadd add x y)=vadd add (vmul mul c x) (vmul mul c y):=by
 have lx:=hx.1
 have ly:=hy.1
 have l1:(vadd add x y).length=n:=by rw [vadd_len (by omega)];exact lx
 refine ext_getD (by rw [vmul_len,l1,vadd_len (by rw [vmul_len,vmul_len];omega),vmul_len,lx]) fun j hj=>?_
 rw [vmul_len,l1] at hj
 have a:=hx.2 j hj
 have b:=hy.2 j hj
 rw [vmul_get (by omega),vadd_get (by omega) (by omega),vadd_get (by rw [vmul_len,vmul_len];omega) (by rw [vmul_len];omega),vmul_get (by omega),vmul_get (by omega),F.distrib _ _ _ h0 h1 a.1 a.2 b.1 b.2]
theorem words_base (F:Fld q add mul neg inv):∀ (m:List (List Int)) (z:List Int),Rw q n m→Wd q n z→z∈words q add mul m z
 | [],z,_,_=>by unfold words;simp
 | g::gs,z,hm,hz=>by
  have q1:=F.one_lt
  unfold words
  refine List.mem_flatMap.2 ⟨0,by simp;omega,?_⟩
  rw [show (((0:Nat):Int))=(0:Int) from rfl,vmul_zero F hm.head,vadd_zeros F hz]
  exact words_base F gs z hm.tail hz
theorem Sp.wd (F:Fld q add mul neg inv) {m:List (List Int)} (hm:Rw q n m) {x:List Int} (h:Sp q n add mul m x):Wd q n x:=words_wd F m _ hm (zeros_wd F) x h
theorem Sp.zero (F:Fld q add mul neg inv) {m:List (List Int)} (hm:Rw q n m):Sp q n add mul m (List.replicate n 0):=words_base F m _ hm (zeros_wd F)
theorem Sp.plus (F:Fld q add mul neg inv) (P:Trn q add) {m:List (List Int)} (hm:Rw q n m) {x y:List Int} (hx:Sp q n add mul m x) (hy:Sp q n add mul m y):Sp q n add mul m (vadd add x y):=words_closed F P hm hx hy
theorem smul_words (F:Fld q add mul neg inv) {c:Int} (h0:0≤c) (h1:c<q):∀ (m:List (List Int)) (z:List Int),Rw q n m→Wd q n z→∀ x∈words q add mul m z,vmul mul c x∈words q add mul m (vmul mul c z)
 | [],z,_,_,x,hx=>by
  unfold words at hx ⊢
  rw [List.mem_singleton.1 hx]
  simp
 | g::gs,z,hm,hz,x,hx=>by
  unfold words at hx ⊢
  obtain ⟨a,ha,hx⟩:=List.mem_flatMap.1 hx
  have a1:a<q:=by simpa using ha
  have hv:=Wd.vmul F (in_ a1).1 (in_ a1).2 hm.head
  have ih:=smul_words F h0 h1 gs _ hm.tail (hz.vadd F hv) x hx
  have hc:=F.mul_in c a h0 h1 (in_ a1).1 (in_ a1).2
  obtain ⟨b,hb⟩:∃ b:Nat,mul c (a:Int)=b:=⟨(mul c (a:Int)).toNat,by omega⟩
  refine List.mem_flatMap.2 ⟨b,by simp;omega,?_⟩
  rw [vmul_vadd F h0 h1 hz hv,vmul_vmul F h0 h1 (in_ a1).1 (in_ a1).2 hm.head,hb] at ih
  exact ih
theorem Sp.smul (F:Fld q add mul neg inv) {m:List (List Int)} (hm:Rw q n m) {c:Int} (h0:0≤c) (h1:c<q) {x:List Int} (hx:Sp q n add mul m x):Sp q n add mul m (vmul mul c x):=by
 have:=smul_words F h0 h1 m _ hm (zeros_wd F) x hx
 rw [vmul_zeros F h0 h1] at this
 exact this
theorem Sp.row (F:Fld q add mul neg inv):∀ {m:List (List Int)},Rw q n m→∀ {i:Nat},i<m.length→Sp q n add mul m (m.getD i [])
 | g::gs,hm,0,_=>by
  have q1:=F.one_lt
  unfold Sp words
  refine List.mem_flatMap.2 ⟨1,by simp;omega,?_⟩
  rw [show (((1:Nat):Int))=(1:Int) from rfl,vmul_one F hm.head,zero_vadd F hm.head,List.getD_cons_zero]
  exact words_base F gs g hm.tail hm.head
 | g::gs,hm,i+1,hi=>by
  have q1:=F.one_lt
  unfold Sp words
  refine List.mem_flatMap.2 ⟨0,by simp;omega,?_⟩
  rw [show (((0:Nat):Int))=(0:Int) from rfl,vmul_zero F hm.head,vadd_zeros F (zeros_wd F),List.getD_cons_succ]
  exact Sp.row F hm.tail (by simpa using hi)
theorem sp_words (F:Fld q add mul neg inv) (P:Trn q add) {m':List (List Int)} (hm':Rw q n m'):∀ (m:List (List Int)) (z:List Int),Rw q n m→(∀ i,i<m.length→Sp q n add mul m' (m.getD i []))→Sp q n add mul m' z→∀ x∈words q add mul m z,Sp q n add mul m' x
 | [],z,_,_,hz,x,hx=>by
  unfold words at hx
  rw [List.mem_singleton.1 hx]
  exact hz
 | g::gs,z,hm,hs,hz,x,hx=>by
  unfold words at hx
  obtain ⟨a,ha,hx⟩:=List.mem_flatMap.1 hx
  have a1:a<q:=by simpa using ha
  have hg:Sp q n add mul m' g:=by simpa using hs 0 (by simp)
  exact sp_words F P hm' gs _ hm.tail (fun i hi=>by simpa using hs (i+1) (by simpa using hi)) (hz.plus F P hm' (hg.smul F hm' (in_ a1).1 (in_ a1).2)) x hx
theorem Sp.sub (F:Fld q add mul neg inv) (P:Trn q add) {m m':List (List Int)} (hm:Rw q n m) (hm':Rw q n m') (hs:∀ i,i<m.length→Sp q n add mul m' (m.getD i [])) {x:List Int} (hx:Sp q n add mul m x):Sp q n add mul m' x :=
 sp_words F P hm' m _ hm hs (Sp.zero F hm') x hx
theorem neg_neg_row (F:Fld q add mul neg inv) {a r:List Int} (ha:Wd q n a) (hr:Wd q n r) {e:Int} (e0:0≤e) (e1:e<q):vadd add (vadd add a (vmul mul (neg e) r)) (vmul mul (neg (neg e)) r)=a:=by
 have n1:=F.neg_in e e0 e1
 have n2:=F.neg_in _ n1.1 n1.2
 rw [vadd_assoc F ha (Wd.vmul F n1.1 n1.2 hr) (Wd.vmul F n2.1 n2.2 hr),vmul_add F hr n1.1 n1.2 n2.1 n2.2,F.add_neg _ n1.1 n1.2,vmul_zero F hr,vadd_zeros F ha]
theorem elim_rw (F:Fld q add mul neg inv) {m:List (List Int)} (hm:Rw q n m) {r c:Nat} (hr:r<m.length) (hc:c<n):Rw q n (elim add mul neg m r c):=fun i hi=>by
 rw [elim_len] at hi
 rw [elim_get hi]
 have e:=(hm i hi).2 c hc
 have ni:=F.neg_in (ent m i c) e.1 e.2
 split
 ·exact hm i hi
 ·exact (hm i hi).vadd F (Wd.vmul F ni.1 ni.2 (hm r hr))
theorem elim_span (F:Fld q add mul neg inv) (P:Trn q add) {m:List (List Int)} (hm:Rw q n m) {r c:Nat} (hr:r<m.length) (hc:c<n) (x:List Int):Sp q n add mul (elim add mul neg m r c) x↔Sp q n add mul m x:=by
 have h2:=elim_rw F hm hr hc
 constructor
 ·refine Sp.sub F P h2 hm fun i hi=>?_
  rw [elim_len] at hi
  rw [elim_get hi]
  have e:=(hm i hi).2 c hc
  have ni:=F.neg_in (ent m i c) e.1 e.2
  split
  ·exact Sp.row F hm hi
  ·exact (Sp.row F hm hi).plus F P hm ((Sp.row F hm hr).smul F hm ni.1 ni.2)
 ·refine Sp.sub F P hm h2 fun i hi=>?_
  have e:=(hm i hi).2 c hc
  have ni:=F.neg_in (ent m i c) e.1 e.2
  have n2:=F.neg_in _ ni.1 ni.2
  have hi':i<(elim add mul neg m r c).length:=by rw [elim_len];exact hi
  have hr':r<(elim add mul neg m r c).length:=by rw [elim_len];exact hr
  have g1:=Sp.row F h2 hi'
  have g2:=Sp.row F h2 hr'
  rw [elim_get hi] at g1
  rw [elim_get hr,if_pos rfl] at g2
  by_cases h:i=r
  ·rw [if_pos h] at g1;exact g1
  ·rw [if_neg h] at g1
   have:=g1.plus F P h2 (g2.smul F h2 n2.1 n2.2)
   rw [neg_neg_row F (hm i hi) (hm r hr) (e:=ent m i c) e.1 e.2] at this
   exact this
theorem lift_rw (F:Fld q add mul neg inv) {m:List (List Int)} (hm:Rw q n m) {r p c:Nat} (hr:r<m.length) (hp:p<m.length) (hc:c<n):Rw q n (lift mul inv m r p c):=fun i hi=>by
 rw [lift_len] at hi
 rw [lift_get hr hp]
 have e:=(hm p hp).2 c hc
 have ni:=F.inv_in (ent m p c) e.1 e.2
 split
 ·exact Wd.vmul F ni.1 ni.2 (hm p hp)
 ·split
  ·exact hm r hr
  ·exact hm i hi
theorem lift_span (F:Fld q add mul neg inv) (P:Trn q add) {m:List (List Int)} (hm:Rw q n m) {r p c:Nat} (hr:r<m.length) (hp:p<m.length) (hc:c<n) (he:ent m p c≠0) (x:List Int):Sp q n add mul (lift mul inv m r p c) x↔Sp q n add mul m x:=by
 have h2:=lift_rw F hm hr hp hc
 have e:=(hm p hp).2 c hc
 have ni:=F.inv_in (ent m p c) e.1 e.2
 constructor
 ·refine Sp.sub F P h2 hm fun i hi=>?_
  rw [lift_len] at hi
  rw [lift_get hr hp]
  split
  ·exact (Sp.row F hm hp).smul F hm ni.1 ni.2
  ·split
   ·exact Sp.row F hm hr
   ·exact Sp.row F hm hi
 ·refine Sp.sub F P hm h2 fun i hi=>?_
  have row:∀ k,k<m.length→Sp q n add mul (lift mul inv m r p c) (if k=r then vmul mul (inv (ent m p c)) (m.getD p []) else if k=p then m.getD r [] else m.getD k []):=fun k hk=>by
   have:=Sp.row F h2 (i:=k) (by rw [lift_len];exact hk)
   rw [lift_get hr hp] at this
   exact this
  have hpp:Sp q n add mul (lift mul inv m r p c) (m.getD p []):=by
   have h3:=row r hr
   rw [if_pos rfl] at h3
   have:=h3.smul F h2 e.1 e.2
   rw [vmul_vmul F e.1 e.2 ni.1 ni.2 (hm p hp),F.mul_comm _ _ e.1 e.2 ni.1 ni.2] at this
   have e2:mul (inv (ent m p c)) ((m.getD p []).getD c 0)=1:=F.mul_inv _ e.1 e.2 he
   rw [e2,vmul_one F (hm p hp)] at this
   exact this
  by_cases h1:i=p
  ·rw [h1];exact hpp
  ·by_cases h3:i=r
   ·have h4:=row p hp
    rw [h3]
    rw [h3] at h1
    rw [if_neg (fun e=>h1 e.symm),if_pos rfl] at h4
    exact h4
   ·have h4:=row i hi
    rw [if_neg h3,if_neg h1] at h4
    exact h4
theorem red_span (F:Fld q add mul neg inv) (P:Trn q add):∀ (f c r:Nat) (m:List (List Int)),f+c=n→Rw q n m→Rw q n (red add mul neg inv f c r m).1∧∀ x,Sp q n add mul (red add mul neg inv f c r m).1 x↔Sp q n add mul m x
 | 0,c,r,m,_,hm=>⟨hm,fun x=>Iff.rfl⟩
 | f+1,c,r,m,hf,hm=>by
  unfold red
  by_cases hr:r<m.length
  ·rw [if_pos hr]
   obtain ⟨a1,a2,a3,a4⟩:=findp_spec m c (m.length-r) r (by omega) (by omega)
   by_cases hp:findp m c (m.length-r) r=m.length
   ·rw [if_pos hp]
    exact red_span F P f (c+1) r m (by omega) hm
   ·rw [if_neg hp]
    have hp2:findp m c (m.length-r) r<m.length:=by omega
    have l1:=lift_rw F hm hr hp2 (c:=c) (by omega)
    have l2:=elim_rw F l1 (r:=r) (c:=c) (by rw [lift_len];exact hr) (by omega)
    obtain ⟨h1,h2⟩:=red_span F P f (c+1) (r+1) _ (by omega) l2
    exact ⟨h1,fun x=>(h2 x).trans ((elim_span F P l1 (by rw [lift_len];exact hr) (by omega) x).trans (lift_span F P hm hr hp2 (by omega) (a4 hp2) x))⟩
  ·rw [if_neg hr]
   exact ⟨hm,fun x=>Iff.rfl⟩
theorem reduce_span (F:Fld q add mul neg inv) (P:Trn q add) {m:List (List Int)} (hm:Rw q n m) (x:List Int):Sp q n add mul (reduce add mul neg inv n m) x↔Sp q n add mul m x:=by
 obtain ⟨h1,h2⟩:=red_span F P n 0 0 m (by omega) hm
 obtain ⟨piv,c,hc,W,hw,hl⟩:=red_way F n 0 0 m (fun _=>0) (by omega) ⟨hm,Nat.zero_le _,fun i hi=>by omega,fun i j _ hj=>by omega,fun i hi=>by omega,fun i k hi=>by omega,fun i j hi=>by omega,fun k j _ _ hj=>by omega⟩
 obtain ⟨piv2,R,_⟩:=reduce_rref F hm
 rw [←h2 x]
 have h3:Rw q n (reduce add mul neg inv n m):=R.wd
 unfold reduce at h3 ⊢
 generalize red add mul neg inv n 0 0 m=S at *
 have hlen:(S.1.take S.2).length=S.2:=by rw [List.length_take];exact Nat.min_eq_left W.rl
 constructor
 ·refine Sp.sub F P h3 h1 fun i hi=>?_
  rw [hlen] at hi
  rw [take_get hi]
  exact Sp.row F h1 (by have:=W.rl;omega)
 ·refine Sp.sub F P h1 h3 fun i hi=>?_
  by_cases hr:i<S.2
  ·have:=Sp.row F h3 (i:=i) (by rw [hlen];exact hr)
   rw [take_get hr] at this
   exact this
  ·have hz:S.1.getD i []=List.replicate n 0:=ext_getD (by rw [(h1 i hi).1];simp) fun j hj=>by
    rw [(h1 i hi).1] at hj
    rcases hw with e | e
    ·have:=W.rest i j (by omega) hi (by omega)
     unfold ent at this
     rw [this]
     simp [List.getD_eq_getElem?_getD,hj]
    ·omega
   rw [hz]
   exact Sp.zero F h3
end
end Go.Proofs.Yticbdgmcofjkeaa.Ma
namespace Go.Proofs.Yticbdgmcofjkeaa.Ma
def dot (add mul:Int→Int→Int) (a b:List Int):Nat→Int
 | 0=>0
 | k+1=>add (dot add mul a b k) (mul (a.getD k 0) (b.getD k 0))
section
variable {q:Nat} {add mul:Int→Int→Int} {neg inv:Int→Int} {n:Nat}
theorem dot_in (F:Fld q add mul neg inv) {a b:List Int} (ha:Wd q n a) (hb:Wd q n b):∀ k,k≤n→0≤dot add mul a b k∧dot add mul a b k<q
 | 0,_=>by have:=F.one_lt;exact ⟨by unfold dot;omega,by unfold dot;omega⟩
 | k+1,hk=>by
  have ih:=dot_in F ha hb k (by omega)
  have x:=ha.2 k (by omega)
  have y:=hb.2 k (by omega)
  have m:=F.mul_in _ _ x.1 x.2 y.1 y.2
  exact F.add_in _ _ ih.1 ih.2 m.1 m.2
theorem dot_comm (F:Fld q add mul neg inv) {a b:List Int} (ha:Wd q n a) (hb:Wd q n b):∀ k,k≤n→dot add mul a b k=dot add mul b a k
 | 0,_=>rfl
 | k+1,hk=>by
  have x:=ha.2 k (by omega)
  have y:=hb.2 k (by omega)
  unfold dot
  rw [dot_comm F ha hb k (by omega),F.mul_comm _ _ x.1 x.2 y.1 y.2]
theorem add4 (F:Fld q add mul neg inv) {a b c d:Int} (ha:0≤a∧a<q) (hb:0≤b∧b<q) (hc:0≤c∧c<q) (hd:0≤d∧d<q):add (add a b) (add c d)=add (add a c) (add b d):=by
 have bc:=F.add_in b c hb.1 hb.2 hc.1 hc.2
 have cd:=F.add_in c d hc.1 hc.2 hd.1 hd.2
 have bd:=F.add_in b d hb.1 hb.2 hd.1 hd.2
 rw [F.add_assoc _ _ _ ha.1 ha.2 hb.1 hb.2 cd.1 cd.2,F.add_assoc _ _ _ ha.1 ha.2 hc.1 hc.2 bd.1 bd.2,←F.add_assoc b c d hb.1 hb.2 hc.1 hc.2 hd.1 hd.2,F.add_comm b c hb.1 hb.2 hc.1 hc.2,F.add_assoc c b d hc.1 hc.2 hb.1 hb.2 hd.1 hd.2]
theorem dot_vadd (F:Fld q add mul neg inv) {a x y:List Int} (ha:Wd q n a) (hx:Wd q n x) (hy:Wd q n y):∀ k,k≤n→dot add mul a (vadd add x y) k=add (dot add mul a x k) (dot add mul a y k)
 | 0,_=>by have:=F.one_lt;unfold dot;rw [F.zero_add 0 (by omega) (by omega)]
 | k+1,hk=>by
  have a0:=ha.2 k (by omega)
  have x0:=hx.2 k (by omega)
  have y0:=hy.2 k (by omega)
  have d1:=dot_in F ha hx k (by omega)
  have d2:=dot_in F ha hy k (by omega)
  have m1:=F.mul_in _ _ a0.1 a0.2 x0.1 x0.2
  have m2:=F.mul_in _ _ a0.1 a0.2 y0.1 y0.2
  unfold dot
  rw [dot_vadd F ha hx hy k (by omega),vadd_get (by rw [hx.1,hy.1]) (by rw [hx.1];omega),F.distrib _ _ _ a0.1 a0.2 x0.1 x0.2 y0.1 y0.2,add4 F d1 d2 m1 m2]
theorem dot_vmul (F:Fld q add mul neg inv) {a x:List Int} (ha:Wd q n a) (hx:Wd q n x) {c:Int} (c0:0≤c) (c1:c<q):∀ k,k≤n→dot add mul a (vmul mul c x) k=mul c (dot add mul a x k)
 | 0,_=>by unfold dot;rw [mul_zero F c0 c1]
 | k+1,hk=>by
  have a0:=ha.2 k (by omega)
  have x0:=hx.2 k (by omega)
  have d1:=dot_in F ha hx k (by omega)
  have m1:=F.mul_in _ _ a0.1 a0.2 x0.1 x0.2
  have m2:=F.mul_in _ _ c0 c1 x0.1 x0.2
  unfold dot
  rw [dot_vmul F ha hx c0 c1 k (by omega),vmul_get (by rw [hx.1];omega),F.distrib _ _ _ c0 c1 d1.1 d1.2 m1.1 m1.2,←F.mul_assoc _ _ _ a0.1 a0.2 c0 c1 x0.1 x0.2,F.mul_comm _ _ a0.1 a0.2 c0 c1,F.mul_assoc _ _ _ c0 c1 a0.1 a0.2 x0.1 x0.2]
theorem dot_zeros (F:Fld q add mul neg inv) {a:List Int} (ha:Wd q n a):∀ k,k≤n→dot add mul a (List.replicate n 0) k=0
 | 0,_=>rfl
 | k+1,hk=>by
  have q1:=F.one_lt
  have a0:=ha.2 k (by omega)
  have z:(List.replicate n (0:Int)).getD k 0=0:=by simp [List.getD_eq_getElem?_getD,show k<n by omega]
  unfold dot
  rw [dot_zeros F ha k (by omega),z,mul_zero F a0.1 a0.2,F.zero_add 0 (by omega) (by omega)]
def Orth (n:Nat) (add mul:Int→Int→Int) (G:List (List Int)) (x:List Int):Prop:=∀ i,i<G.length→dot add mul (G.getD i []) x n=0
theorem words_dot (F:Fld q add mul neg inv) {a:List Int} (ha:Wd q n a):∀ (m:List (List Int)) (z:List Int),Rw q n m→Wd q n z→(∀ i,i<m.length→dot add mul a (m.getD i []) n=0)→dot add mul a z n=0→∀ x∈words q add mul m z,dot add mul a x n=0
 | [],z,_,_,_,h,x,hx=>by
  unfold words at hx
  rw [List.mem_singleton.1 hx]
  exact h
 | g::gs,z,hm,hz,hd,h,x,hx=>by
  have q1:=F.one_lt
  unfold words at hx
  obtain ⟨b,hb,hx⟩:=List.mem_flatMap.1 hx
  have b1:b<q:=by simpa using hb
  have hv:=Wd.vmul F (in_ b1).1 (in_ b1).2 hm.head
  refine words_dot F ha gs _ hm.tail (hz.vadd F hv) (fun i hi=>by simpa using hd (i+1) (by simpa using hi)) ?_ x hx
  have hg:dot add mul a g n=0:=by simpa using hd 0 (by simp)
  rw [dot_vadd F ha hz hv n (Nat.le_refl _),dot_vmul F ha hm.head (in_ b1).1 (in_ b1).2 n (Nat.le_refl _),h,hg,mul_zero F (in_ b1).1 (in_ b1).2,F.zero_add 0 (by omega) (by omega)]
theorem sp_dot (F:Fld q add mul neg inv) {a:List Int} (ha:Wd q n a) {m:List (List Int)} (hm:Rw q n m) (hd:∀ i,i<m.length→dot add mul a (m.getD i []) n=0) {x:List Int} (hx:Sp q n add mul m x):dot add mul a x n=0 :=
 words_dot F ha m _ hm (zeros_wd F) hd (dot_zeros F ha n (Nat.le_refl _)) x hx
structure DualOf (q n:Nat) (neg:Int→Int) (G:List (List Int)) (piv:Nat→Nat) (fr:List Nat) (D:Nat→List Int):Prop where
 rref:Rref q n G piv
 mem:∀ t,t∈fr↔t<n∧∀ i,i<G.length→piv i≠t
 nd:fr.Nodup
 len:fr.length+G.length=n
 wd:∀ j∈fr,Wd q n (D j)
 free:∀ j∈fr,∀ t∈fr,(D j).getD t 0=if t=j then 1 else 0
 at_:∀ j∈fr,∀ i,i<G.length→(D j).getD (piv i) 0=neg (ent G i j)
theorem DualOf.row {G:List (List Int)} {piv:Nat→Nat} {fr:List Nat} {D:Nat→List Int} (h:DualOf q n neg G piv fr D) (F:Fld q add mul neg inv) {i j:Nat} (hi:i<G.length) (hj:j∈fr):dot add mul (G.getD i []) (D j) n=0:=by
 have q1:=F.one_lt
 have wg:=h.rref.wd i hi
 obtain ⟨jn,jp⟩:=(h.mem j).1 hj
 have e:=wg.2 j jn
 have ne:=F.neg_in _ e.1 e.2
 have hpi:=h.rref.lt i hi
 have key:∀ k,k≤n→dot add mul (G.getD i []) (D j) k=add (if j<k then (G.getD i []).getD j 0 else 0) (if piv i<k then neg ((G.getD i []).getD j 0) else 0):=by
  intro k
  induction k with
  | zero=>intro _;rw [if_neg (by omega),if_neg (by omega),F.zero_add 0 (by omega) (by omega)];rfl
  | succ k ih =>
   intro hk
   have x0:=wg.2 k (by omega)
   have i1:0≤(if j<k then (G.getD i []).getD j 0 else 0)∧(if j<k then (G.getD i []).getD j 0 else 0)<(q:Int):=by split <;> omega
   have i2:0≤(if piv i<k then neg ((G.getD i []).getD j 0) else 0)∧(if piv i<k then neg ((G.getD i []).getD j 0) else 0)<(q:Int):=by split <;> omega
   unfold dot
   rw [ih (by omega)]
   by_cases c1:k=j
   ·subst c1
    rw [h.free k hj k hj,if_pos rfl,mul_one F x0.1 x0.2,if_neg (c:=k<k) (by omega),if_pos (c:=k<k+1) (by omega)]
    have e3:(piv i<k+1)=(piv i<k):=by have:=jp i hi;simp;omega
    simp only [e3]
    rw [F.zero_add _ i2.1 i2.2,F.add_comm _ _ i2.1 i2.2 x0.1 x0.2]
   ·by_cases c2:k=piv i
    ·have one:(G.getD i []).getD k 0=1:=by rw [c2];exact h.rref.one i hi
     have e4:(D j).getD k 0=neg ((G.getD i []).getD j 0):=by rw [c2];exact h.at_ j hj i hi
     have e3:(j<k+1)=(j<k):=by simp;omega
     rw [one,e4,F.one_mul _ ne.1 ne.2,if_neg (c:=piv i<k) (by omega),if_pos (c:=piv i<k+1) (by omega)]
     simp only [e3]
     rw [add_zero F i1.1 i1.2]
    ·have e3:(j<k+1)=(j<k):=by simp;omega
     have e5:(piv i<k+1)=(piv i<k):=by simp;omega
     have hz:mul ((G.getD i []).getD k 0) ((D j).getD k 0)=0:=by
      by_cases c3:∃ l,l<G.length∧piv l=k
      ·obtain ⟨l,hl,el⟩:=c3
       have z:(G.getD i []).getD k 0=0:=by
        rw [←el];exact h.rref.zero l i hl hi (fun e=>c2 (by rw [e,el]))
       have d0:=(h.wd j hj).2 k (by omega)
       rw [z,F.zero_mul _ d0.1 d0.2]
      ·have hf:k∈fr:=(h.mem k).2 ⟨by omega,fun l hl e=>c3 ⟨l,hl,e⟩⟩
       rw [h.free j hj k hf,if_neg c1,mul_zero F x0.1 x0.2]
     simp only [e3,e5]
     have ai:=F.add_in _ _ i1.1 i1.2 i2.1 i2.2
     rw [hz,add_zero F ai.1 ai.2]
 rw [key n (Nat.le_refl _),if_pos jn,if_pos hpi,F.add_neg _ e.1 e.2]
theorem map_getD {fr:List Nat} {D:Nat→List Int} {i:Nat} (hi:i<fr.length):∃ j∈fr,(fr.map D).getD i []=D j:=⟨fr[i],List.getElem_mem _,by simp [List.getD_eq_getElem?_getD,hi]⟩
theorem DualOf.rw {G:List (List Int)} {piv:Nat→Nat} {fr:List Nat} {D:Nat→List Int} (h:DualOf q n neg G piv fr D):Rw q n (fr.map D):=fun i hi=>by
 obtain ⟨j,hj,e⟩:=map_getD (D:=D) (show i<fr.length by simpa using hi)
 rw [e]
 exact h.wd j hj
theorem DualOf.orth {G:List (List Int)} {piv:Nat→Nat} {fr:List Nat} {D:Nat→List Int} (h:DualOf q n neg G piv fr D) (F:Fld q add mul neg inv) {x:List Int} (hx:Sp q n add mul (fr.map D) x):Orth n add mul G x:=fun i hi =>
 sp_dot F (h.rref.wd i hi) h.rw (fun k hk=>by
  obtain ⟨j,hj,e⟩:=map_getD (D:=D) (show k<fr.length by simpa using hk)
  rw [e]
  exact h.row F hi hj) hx
theorem DualOf.pick {G:List (List Int)} {piv:Nat→Nat} {fr:List Nat} {D:Nat→List Int} (h:DualOf q n neg G piv fr D) (F:Fld q add mul neg inv) {x:List Int} (hx:Wd q n x):∀ (L:List Nat) (z:List Int),L.Nodup→(∀ t∈L,t∈fr)→Wd q n z →
  ∃ y∈words q add mul (L.map D) z,(∀ t∈L,y.getD t 0=add (z.getD t 0) (x.getD t 0))∧∀ t∈fr,t∉L→y.getD t 0=z.getD t 0
 | [],z,_,_,hz=>⟨z,by unfold words;simp,fun t ht=>by simp at ht,fun t _ _=>rfl⟩
 | j::L,z,hn,hs,hz=>by
  have hj:j∈fr:=hs j (by simp)
  have jn:=((h.mem j).1 hj).1
  have xj:=hx.2 j jn
  have wj:=h.wd j hj
  obtain ⟨c,hc,hcq⟩:∃ c:Nat,x.getD j 0=c∧c<q:=⟨(x.getD j 0).toNat,by omega,by omega⟩
  have hv:=Wd.vmul F (in_ hcq).1 (in_ hcq).2 wj
  obtain ⟨n1,n2⟩:=List.nodup_cons.1 hn
  obtain ⟨y,hy,y1,y2⟩:=DualOf.pick h F hx L (vadd add z (vmul mul (c:Int) (D j))) n2 (fun t ht=>hs t (by simp [ht])) (hz.vadd F hv)
  have at_:∀ t∈fr,(vadd add z (vmul mul (c:Int) (D j))).getD t 0=if t=j then add (z.getD t 0) (x.getD t 0) else z.getD t 0:=fun t ht=>by
   have tn:=((h.mem t).1 ht).1
   have zt:=hz.2 t tn
   rw [vadd_get (by rw [hz.1,hv.1]) (by rw [hz.1];exact tn),vmul_get (by rw [wj.1];exact tn),h.free j hj t ht]
   by_cases e:t=j
   ·subst e
    rw [if_pos rfl,if_pos rfl,mul_one F (in_ hcq).1 (in_ hcq).2,hc]
   ·rw [if_neg e,if_neg e,mul_zero F (in_ hcq).1 (in_ hcq).2,add_zero F zt.1 zt.2]
  refine ⟨y,?_,fun t ht=>?_,fun t ht hnt=>?_⟩
  ·rw [List.map_cons]
   unfold words
   exact List.mem_flatMap.2 ⟨c,by simpa using hcq,hy⟩
  ·rcases List.mem_cons.1 ht with e | e
   ·subst e
    rw [y2 t hj n1,at_ t hj,if_pos rfl]
   ·rw [y1 t e,at_ t (hs t ht),if_neg (fun e2:t=j=>n1 (by rw [←e2];exact e))]
  ·rw [y2 t ht (fun e=>hnt (by simp [e])),at_ t ht,if_neg (fun e=>hnt (by simp [e]))]
theorem DualOf.known {G:List (List Int)} {piv:Nat→Nat} {fr:List Nat} {D:Nat→List Int} (h:DualOf q n neg G piv fr D) (F:Fld q add mul neg inv) {x y:List Int} (hx:Wd q n x) (hy:Wd q n y) (ox:Orth n add mul G x) (oy:Orth n add mul G y) (he:∀ t∈fr,x.getD t 0=y.getD t 0):x=y:=by
 have q1:=F.one_lt
 refine ext_getD (by rw [hx.1,hy.1]) fun t ht=>?_
 rw [hx.1] at ht
 by_cases hp:∃ i,i<G.length∧piv i=t
 ·obtain ⟨i,hi,hit⟩:=hp
  have wg:=h.rref.wd i hi
  have same:∀ k,k<n→k≠t→mul ((G.getD i []).getD k 0) (x.getD k 0)=mul ((G.getD i []).getD k 0) (y.getD k 0):=fun k hk hkt=>by
   by_cases c:∃ l,l<G.length∧piv l=k
   ·obtain ⟨l,hl,el⟩:=c
    have z:(G.getD i []).getD k 0=0:=by
     rw [←el];exact h.rref.zero l i hl hi (fun e=>hkt (by rw [←el,←e,hit]))
    have x0:=hx.2 k hk
    have y0:=hy.2 k hk
    rw [z,F.zero_mul _ x0.1 x0.2,F.zero_mul _ y0.1 y0.2]
   ·rw [he k ((h.mem k).2 ⟨hk,fun l hl e=>c ⟨l,hl,e⟩⟩)]
  have low:∀ k,k≤t→dot add mul (G.getD i []) x k=dot add mul (G.getD i []) y k:=by
   intro k
   induction k with
   | zero=>intro _;rfl
   | succ k ih =>
    intro hk
    unfold dot
    rw [ih (by omega),same k (by omega) (by omega)]
  have one:(G.getD i []).getD t 0=1:=by rw [←hit];exact h.rref.one i hi
  have xt:=hx.2 t ht
  have yt:=hy.2 t ht
  have high:∀ k,t+1+k≤n→∃ c:Int,(0≤c∧c<q)∧dot add mul (G.getD i []) x (t+1+k)=add (x.getD t 0) c∧dot add mul (G.getD i []) y (t+1+k)=add (y.getD t 0) c:=by
   intro k
   induction k with
   | zero =>
    intro _
    have d:=dot_in F wg hy t (by omega)
    refine ⟨dot add mul (G.getD i []) y t,d,?_,?_⟩
    ·show add (dot add mul (G.getD i []) x t) (mul _ _)=_
     rw [low t (Nat.le_refl _),one,F.one_mul _ xt.1 xt.2,F.add_comm _ _ d.1 d.2 xt.1 xt.2]
    ·show add (dot add mul (G.getD i []) y t) (mul _ _)=_
     rw [one,F.one_mul _ yt.1 yt.2,F.add_comm _ _ d.1 d.2 yt.1 yt.2]
   | succ k ih =>
    intro hk
    obtain ⟨c,hc,e1,e2⟩:=ih (by omega)
    have g0:=wg.2 (t+1+k) (by omega)
    have y0:=hy.2 (t+1+k) (by omega)
    have m:=F.mul_in _ _ g0.1 g0.2 y0.1 y0.2
    have cm:=F.add_in _ _ hc.1 hc.2 m.1 m.2
    refine ⟨add c (mul ((G.getD i []).getD (t+1+k) 0) (y.getD (t+1+k) 0)),cm,?_,?_⟩
    ·show add (dot add mul (G.getD i []) x (t+1+k)) (mul ((G.getD i []).getD (t+1+k) 0) (x.getD (t+1+k) 0))=_
     rw [e1,same (t+1+k) (by omega) (by omega),F.add_assoc _ _ _ xt.1 xt.2 hc.1 hc.2 m.1 m.2]
    ·show add (dot add mul (G.getD i []) y (t+1+k)) (mul ((G.getD i []).getD (t+1+k) 0) (y.getD (t+1+k) 0))=_
     rw [e2,F.add_assoc _ _ _ yt.1 yt.2 hc.1 hc.2 m.1 m.2]
  obtain ⟨c,hc,e1,e2⟩:=high (n-(t+1)) (by omega)
  rw [show t+1+(n-(t+1))=n by omega] at e1 e2
  rw [ox i hi] at e1
  rw [oy i hi] at e2
  exact add_cancel F xt yt hc (e1.symm.trans e2)
 ·exact he t ((h.mem t).2 ⟨ht,fun i hi e=>hp ⟨i,hi,e⟩⟩)
theorem DualOf.span {G:List (List Int)} {piv:Nat→Nat} {fr:List Nat} {D:Nat→List Int} (h:DualOf q n neg G piv fr D) (F:Fld q add mul neg inv) {x:List Int} (hx:Wd q n x):Sp q n add mul (fr.map D) x↔Orth n add mul G x:=by
 refine ⟨h.orth F,fun ox=>?_⟩
 obtain ⟨y,hy,y1,_⟩:=h.pick F hx fr (List.replicate n 0) h.nd (fun t ht=>ht) (zeros_wd F)
 have sy:Sp q n add mul (fr.map D) y:=hy
 have wy:=sy.wd F h.rw
 have:x=y:=h.known F hx wy ox (h.orth F sy) fun t ht=>by
  have tn:=((h.mem t).1 ht).1
  have x0:=hx.2 t tn
  rw [y1 t ht]
  have z:(List.replicate n (0:Int)).getD t 0=0:=by simp [List.getD_eq_getElem?_getD,tn]
  rw [z,F.zero_add _ x0.1 x0.2]
 rw [this]
 exact sy
theorem words_col (F:Fld q add mul neg inv) {c:Nat} (hc:c<n):∀ (G:List (List Int)) (z:List Int),Rw q n G→(∀ i,i<G.length→ent G i c=0)→Wd q n z→∀ y∈words q add mul G z,y.getD c 0=z.getD c 0
 | [],z,_,_,_,y,hy=>by
  unfold words at hy
  rw [List.mem_singleton.1 hy]
 | g::gs,z,hG,h0,hz,y,hy=>by
  unfold words at hy
  obtain ⟨b,hb,hy⟩:=List.mem_flatMap.1 hy
  have b1:b<q:=by simpa using hb
  have hv:=Wd.vmul F (in_ b1).1 (in_ b1).2 hG.head
  have g0:g.getD c 0=0:=by simpa [ent] using h0 0 (by simp)
  have zc:=hz.2 c hc
  rw [words_col F hc gs _ hG.tail (fun i hi=>by simpa [ent] using h0 (i+1) (by simpa using hi)) (hz.vadd F hv) y hy,vadd_get (by rw [hz.1,hv.1]) (by rw [hz.1];exact hc),vmul_get (by rw [hG.head.1];exact hc),g0,mul_zero F (in_ b1).1 (in_ b1).2,add_zero F zc.1 zc.2]
theorem words_nodup_u (F:Fld q add mul neg inv):∀ (m:List (List Int)) (e:Nat→Nat) (z:List Int),Rw q n m→(∀ i,i<m.length→e i<n)→(∀ i k,i<m.length→k<m.length→ent m k (e i)=if k=i then 1 else 0)→Wd q n z→(words q add mul m z).Nodup
 | [],e,z,_,_,_,_=>by unfold words;simp
 | g::gs,e,z,hm,he,hu,hz=>by
  have g1:g.getD (e 0) 0=1:=by simpa [ent] using hu 0 0 (by simp) (by simp)
  have e0:=he 0 (by simp)
  have z0:=hz.2 (e 0) e0
  unfold words
  unfold List.Nodup
  rw [List.pairwise_flatMap]
  have hv:∀ a,a<q→Wd q n (vmul mul (a:Int) g):=fun a ha=>Wd.vmul F (in_ ha).1 (in_ ha).2 hm.head
  have col:∀ a,a<q→∀ y∈words q add mul gs (vadd add z (vmul mul (a:Int) g)),y.getD (e 0) 0=add (z.getD (e 0) 0) a:=fun a ha y hy=>by
   rw [words_col F e0 gs _ hm.tail (fun i hi=>by
    have:=hu 0 (i+1) (by simp) (by simpa using hi)
    rw [if_neg (by omega)] at this
    simpa [ent] using this) (hz.vadd F (hv a ha)) y hy,vadd_get (by rw [hz.1,(hv a ha).1]) (by rw [hz.1];exact e0),vmul_get (by rw [hm.head.1];exact e0),g1,mul_one F (in_ ha).1 (in_ ha).2]
  refine ⟨fun a ha=>?_,?_⟩
  ·have ha':a<q:=by simpa using ha
   exact words_nodup_u F gs (fun i=>e (i+1)) _ hm.tail (fun i hi=>he (i+1) (by simpa using hi)) (fun i k hi hk=>by
    have:=hu (i+1) (k+1) (by simpa using hi) (by simpa using hk)
    simpa [ent] using this) (hz.vadd F (hv a ha'))
  ·refine (List.pairwise_lt_range (n:=q)).imp_of_mem fun {a b} ha hb hab x hx y hy exy=>?_
   have ha':a<q:=by simpa using ha
   have hb':b<q:=by simpa using hb
   have h1:=col a ha' x hx
   have h2:=col b hb' y hy
   rw [exy,h2,F.add_comm _ _ z0.1 z0.2 (in_ hb').1 (in_ hb').2,F.add_comm _ _ z0.1 z0.2 (in_ ha').1 (in_ ha').2] at h1
   have:=add_cancel F (in_ hb') (in_ ha') z0 h1
   omega
theorem DualOf.nodup {G:List (List Int)} {piv:Nat→Nat} {fr:List Nat} {D:Nat→List Int} (h:DualOf q n neg G piv fr D) (F:Fld q add mul neg inv):(words q add mul (fr.map D) (List.replicate n 0)).Nodup:=by
 have hg:∀ i,i<fr.length→fr.getD i 0∈fr:=fun i hi=>by
  rw [List.getD_eq_getElem?_getD,List.getElem?_eq_getElem hi]
  exact List.getElem_mem _
 refine words_nodup_u F _ (fun i=>fr.getD i 0) _ h.rw (fun i hi=>((h.mem _).1 (hg i (by simpa using hi))).1) (fun i k hi hk=>?_) (zeros_wd F)
 rw [List.length_map] at hi hk
 have e:(fr.map D).getD k []=D (fr.getD k 0):=by simp [List.getD_eq_getElem?_getD,hk]
 unfold ent
 rw [e,h.free _ (hg k hk) _ (hg i hi)]
 by_cases c:k=i
 ·rw [c,if_pos rfl,if_pos rfl]
 ·rw [if_neg c,if_neg]
  intro e2
  rw [List.getD_eq_getElem?_getD,List.getD_eq_getElem?_getD,List.getElem?_eq_getElem hi,List.getElem?_eq_getElem hk] at e2
  exact c (((List.getElem_inj h.nd).1 e2).symm)
theorem words_cnt (F:Fld q add mul neg inv) (K:List (List Int)) (z:List Int):(words q add mul K z).length=q^K.length:=by
 have:=words_digs q (by have:=F.one_lt;omega) add mul K z
 rw [←this,List.length_map,List.length_range]
theorem DualOf.dual {G:List (List Int)} {piv:Nat→Nat} {fr:List Nat} {D:Nat→List Int} (h:DualOf q n neg G piv fr D) (F:Fld q add mul neg inv) (P:Trn q add):(∃ p,Rref q n (reduce add mul neg inv n (fr.map D)) p)∧(reduce add mul neg inv n (fr.map D)).length+G.length=n∧∀ x,Wd q n x→(Sp q n add mul (reduce add mul neg inv n (fr.map D)) x↔Orth n add mul G x):=by
 obtain ⟨p,R,_⟩:=reduce_rref F h.rw
 have hs:=reduce_span F P h.rw
 have hl:(reduce add mul neg inv n (fr.map D)).length=fr.length:=by
  have pm:=(List.perm_ext_iff_of_nodup (words_nodup F R) (h.nodup F)).2 hs
  have e:=pm.length_eq
  rw [words_cnt F,words_cnt F,List.length_map] at e
  exact (Nat.pow_right_inj F.one_lt).1 e
 exact ⟨⟨p,R⟩,by rw [hl];exact h.len,fun x hx=>(hs x).trans (h.span F hx)⟩
end
end Go.Proofs.Yticbdgmcofjkeaa.Ma
namespace Go.Proofs.Yticbdgmcofjkeaa.Ai
open Go Ma
noncomputable section
section
variable {q n:Nat} {G:List (List Int)}
theorem pA_zero (hp:∀ i,i<G.length→fnz (G.getD i [])<n) {t:Nat} (ht:t<n):∀ i,i≤G.length→(∀ l,l<i→fnz (G.getD l [])≠t)→(pA n G i).getD t 0=0
 | 0,_,_=>by simp [pA,List.getD_eq_getElem?_getD,ht]
 | i+1,h,hl=>by
  unfold pA
  rw [List.getD_eq_getElem?_getD,List.getElem?_set,if_neg (hl i (by omega)),←List.getD_eq_getElem?_getD]
  exact pA_zero hp ht i (by omega) fun l h=>hl l (by omega)
theorem pA_at (hp:∀ i,i<G.length→fnz (G.getD i [])<n) (hd:∀ i j,i<j→j<G.length→fnz (G.getD i [])≠fnz (G.getD j [])):∀ i,i≤G.length→∀ l,l<i→(pA n G i).getD (fnz (G.getD l [])) 0=((l+1:Nat):Int)
 | 0,_,l,hl=>by omega
 | i+1,h,l,hl=>by
  have pl:=pA_len n G i
  unfold pA
  rw [List.getD_eq_getElem?_getD,List.getElem?_set]
  by_cases e:l=i
  ·subst e
   rw [if_pos rfl,if_pos (by rw [pl];exact hp l (by omega))]
   rfl
  ·rw [if_neg (fun e2=>hd l i (by omega) (by omega) e2.symm),←List.getD_eq_getElem?_getD]
   exact pA_at hp hd i (by omega) l (by omega)
theorem count_less {P Q:Nat→Bool} {p:Nat}:∀ m,p<m→P p=true→Q p=false→(∀ t,t<m→t≠p→Q t=P t)→(List.range m).countP Q+1=(List.range m).countP P
 | 0,h,_,_,_=>by omega
 | m+1,h,hP,hQ,he=>by
  rw [List.range_succ,List.countP_append,List.countP_append]
  by_cases e:p=m
  ·subst e
   have:(List.range p).countP Q=(List.range p).countP P:=List.countP_congr fun t ht=>by
    have ht':t<p:=by simpa using ht
    rw [he t (by omega) (by omega)]
   rw [this]
   simp [hP,hQ]
  ·have ih:=count_less m (by omega) hP hQ fun t ht hne=>he t (by omega) hne
   have h2:[m].countP Q=[m].countP P:=List.countP_congr fun t ht=>by
    have:t=m:=by simpa using ht
    subst this
    rw [he t (by omega) (fun e2=>e e2.symm)]
   rw [h2]
   omega
theorem frees_count (hp:∀ i,i<G.length→fnz (G.getD i [])<n) (hd:∀ i j,i<j→j<G.length→fnz (G.getD i [])≠fnz (G.getD j [])):∀ i,i≤G.length→(frees (pA n G i) n).length+i=n
 | 0,_=>by
  have:frees (pA n G 0) n=List.range n:=List.filter_eq_self.2 fun t ht=>by
   have ht':t<n:=by simpa using ht
   simp [pA,List.getD_eq_getElem?_getD,ht']
  rw [this]
  simp
 | i+1,h=>by
  have ih:=frees_count hp hd i (by omega)
  have pl:=pA_len n G i
  have hpi:=hp i (by omega)
  have h1:=count_less (P:=fun t=>decide ((pA n G i).getD t 0=0)) (Q:=fun t=>decide ((pA n G (i+1)).getD t 0=0)) (p:=fnz (G.getD i [])) n hpi
   (by simpa using pA_zero hp hpi i (by omega) fun l hl=>hd l i hl (by omega))
   (by
    have:(pA n G (i+1)).getD (fnz (G.getD i [])) 0=((i+1:Nat):Int):=pA_at hp hd (i+1) h i (by omega)
    rw [this]
    simp
    omega)
   (fun t ht hne=>by
    have e0:pA n G (i+1)=(pA n G i).set (fnz (G.getD i [])) ((i+1:Nat):Int):=rfl
    rw [e0,List.getD_eq_getElem?_getD,List.getElem?_set,if_neg (fun e=>hne e.symm),←List.getD_eq_getElem?_getD])
  unfold frees at ih ⊢
  rw [←List.countP_eq_length_filter] at ih ⊢
  omega
theorem Lc.pdist (h:Lc q n G):∀ i j,i<j→j<G.length→fnz (G.getD i [])≠fnz (G.getD j []):=fun i j hij hj=>by
 obtain ⟨piv,R⟩:=h.form
 rw [rref_fz R (by omega),rref_fz R hj]
 have:=R.mono i j hij hj
 omega
theorem Lc.dualOf (h:Lc q n G):∃ piv,DualOf q n (fneg q) G piv (frees (pA n G G.length) n) (fun j=>drow q n (pA n G G.length) G j n):=by
 obtain ⟨piv,R⟩:=h.form
 have hp:=fun i hi=>(h.fnzs (i:=i) hi).1
 have hd:=h.pdist
 have hA:=h.cols
 have hR:=h.rows
 have mem:∀ t,t∈frees (pA n G G.length) n↔t<n∧∀ i,i<G.length→piv i≠t:=fun t=>by
  unfold frees
  rw [List.mem_filter,decide_eq_true_eq,List.mem_range]
  refine and_congr_right fun ht=>⟨fun h0 i hi e=>?_,fun h0=>pA_zero hp ht _ (Nat.le_refl _) fun l hl e=>h0 l hl (by rw [←rref_fz R hl];exact e)⟩
  have:=pA_at hp hd G.length (Nat.le_refl _) i hi
  rw [rref_fz R hi,e,h0] at this
  omega
 have z:∀ t∈frees (pA n G G.length) n,(pA n G G.length).getD t 0=0:=fun t ht=>by
  unfold frees at ht
  simpa using (List.mem_filter.1 ht).2
 refine ⟨piv,R,mem,?_,frees_count hp hd G.length (Nat.le_refl _),fun j hj=>drow_wd h.fq hR hA ((mem j).1 hj).1 n,fun j hj t ht=>?_,fun j hj i hi=>?_⟩
 ·unfold frees
  exact List.nodup_range.filter _
 ·rw [drow_get ((mem t).1 ht).1,if_neg (by rw [z t ht];omega)]
 ·have e:=pA_at hp hd G.length (Nat.le_refl _) i hi
  rw [rref_fz R hi] at e
  rw [drow_get (R.lt i hi),if_pos ⟨R.lt i hi,by rw [e];omega⟩,e]
  rfl
theorem Lc.dual (h:Lc q n G):Lc q n (dualR q n G)∧(dualR q n G).length+G.length=n∧∀ x,Wd q n x→(Sp q n (fadd q) (fmul q) (dualR q n G) x↔Orth n (fadd q) (fmul q) G x):=by
 obtain ⟨piv,D⟩:=h.dualOf
 obtain ⟨⟨p,R⟩,h2,h3⟩:=D.dual (fld q h.fq) (turn h.fq)
 exact ⟨⟨h.fq,h.n0,h.n1,⟨p,R⟩⟩,h2,h3⟩
end
end
end Go.Proofs.Yticbdgmcofjkeaa.Ai
namespace Go.Proofs.Yticbdgmcofjkeaa.Ai
open Go Ma
noncomputable section
section
variable {q n:Nat} {G:List (List Int)}
theorem Mx_take {perm:List Nat} {fam m:List (List Int)} (h:Mx perm fam m) {r:Nat} (hr:r≤m.length):(perm.take r).map (fun y=>fam.getD y [])=m.take r:=by
 have hl:=h.len
 refine ext_rows (by simp;omega) fun i hi=>?_
 simp only [List.length_map,List.length_take] at hi
 have hi2:i<r:=by omega
 rw [take_get hi2,←h.eq i (by omega)]
 simp [List.getD_eq_getElem?_getD,List.getElem?_take,hi2,show i<perm.length by omega]
theorem Mx_lt {perm:List Nat} {fam m:List (List Int)} (h:Mx perm fam m) {r:Nat} (hr:r≤m.length):((perm.take r).all fun y=>ltN y fam.length)=true:=by
 rw [List.all_eq_true]
 intro y hy
 obtain ⟨i,hi,rfl⟩:=List.getElem_of_mem hy
 have hl:=h.len
 rw [List.length_take] at hi
 have:=h.lt i (by omega)
 rw [List.getD_eq_getElem?_getD,List.getElem?_eq_getElem (by omega)] at this
 simpa using this
end
end
end Go.Proofs.Yticbdgmcofjkeaa.Ai
namespace Go.Proofs.Yticbdgmcofjkeaa.Ai
open Go Go.RowKit
noncomputable section
variable {τ:Type} (t:Nat) (nx ex:Nat→LS_→Option τ) (l:LS_) (k κ:Nat→LS_→Option τ)
end
end Go.Proofs.Yticbdgmcofjkeaa.Ai
namespace Go.Proofs.Yticbdgmcofjkeaa.Ma
def InQ (q:Nat) (l:List Int):Prop:=∀ j,j<l.length→0≤l.getD j 0∧l.getD j 0<q
section
variable {q:Nat} {add mul:Int→Int→Int} {neg inv:Int→Int} {n:Nat}
end
end Go.Proofs.Yticbdgmcofjkeaa.Ma
namespace Go.Proofs.Yticbdgmcofjkeaa.Ai
open Go Ma
noncomputable section
section
variable {q n:Nat} {G:List (List Int)}
theorem Lc.short {q n:Nat} {G:List (List Int)} (h:Lc q n G):∀ i,(G.getD i []).length<2^60:=short2 fun r hr=>by
 obtain ⟨i,hi,rfl⟩:=List.getElem_of_mem hr
 have:=(h.rows.wd i hi).1
 have:=h.n1
 rw [List.getD_eq_getElem?_getD,List.getElem?_eq_getElem hi] at *
 simp at *
 omega
end
end
end Go.Proofs.Yticbdgmcofjkeaa.Ai
namespace Go.Proofs.Yticbdgmcofjkeaa.Ai
open Go Go.RowKit
noncomputable section
variable {τ:Type} (t:Nat) (nx ex:Nat→LS_→Option τ) (l:LS_) (k κ:Nat→LS_→Option τ)
end
end Go.Proofs.Yticbdgmcofjkeaa.Ai
namespace Go.Proofs.Yticbdgmcofjkeaa.Ai
open Go Go.RowKit
noncomputable section
variable {τ:Type} (t:Nat) (nx ex:Nat→LS_→Option τ) (l:LS_) (k κ:Nat→LS_→Option τ)
end
end Go.Proofs.Yticbdgmcofjkeaa.Ai
namespace Go.Proofs.Yticbdgmcofjkeaa.Ai
open Go Ma
noncomputable section
section
variable {q n:Nat} {G:List (List Int)}
end
end
end Go.Proofs.Yticbdgmcofjkeaa.Ai
namespace Go.Proofs.Yticbdgmcofjkeaa.Ai
open Go Go.RowKit
noncomputable section
section
variable (P:Program) {ρ:Type}
end
section
variable {O:Orc P} {f:FuncId} {ps:List PV2} {sh:List PA}
end
end
end Go.Proofs.Yticbdgmcofjkeaa.Ai
namespace Go.Proofs.Yticbdgmcofjkeaa.Ai
open Go Go.RowKit
noncomputable section
variable {τ:Type} (t:Nat) (nx ex:Nat→LS_→Option τ) (l:LS_) (k κ:Nat→LS_→Option τ)
end
end Go.Proofs.Yticbdgmcofjkeaa.Ai
namespace Go.Proofs.Yticbdgmcofjkeaa.Ai
open Go Go.RowKit
noncomputable section
variable {τ:Type} (t:Nat) (nx ex:Nat→LS_→Option τ) (l:LS_) (k κ:Nat→LS_→Option τ)
def L286_2.H:LHead:=⟨false,true,0,548866,548866,403,16,0,[(PS.mk (qR::pI::us 2 (pI::us 2 (pI::pI::us 10 []))) [])],[(Out.ret,(PS.mk (us 4 (pI::us 14 [])) [])),((Out.exit 0),(PS.mk (us 4 (pI::us 14 [])) []))]⟩
def L286_2.O:Orc P:=⟨[],[],[],40⟩
def L286_2.s0:Option τ :=
 br (ltI (gI l 5) (gI l 4))
 (ck (((leI 0 (gI l 5))&&(ltI (gI l 5) (gN l 0)))&&true)
 (ck (ltN ((Int.toNat (gI l 5))*1) (gL l 1).length)
 (br ((gI l 2)==(List.getD (gL l 1) ((Int.toNat (gI l 5))*1) 0))
 (ex 0 [iG l 5])
 (nx 0 [nG l 0,vG l 1,iG l 2,iG l 3,iG l 4,.I (wr .i64 ((gI l 5)+1))]))))
 (ex 1 [iG l 3])
theorem L286_2.e0:LEq L286_2.O L286_2.H 0 L286_2.s0:=by intro τ next κ l;kernel_rfl
def L286_2:LStep P Cf:=LStep.mk1 (by decide) L286_2.e0
def L286_2.b:Option τ:=runE L286_2 fuel κ t l
def L286_2.E:LEnt P:=LStep.E L286_2
def F286.ps:List PV2:=[pR,pI]
def F286.sh:List PA:=[(PA.mk (PV3.v pI) [])]
def F286.O:Orc P:=⟨[],[L286_2.E],[],40⟩
def F286:Option τ :=
 L286_2.b 0 [.N (gL l 0).length,vG l 0,iG l 1,.I 0,.I (((gL l 0).length:Nat):Int),.I 0]
 (fun j A=>(sw (k 0 [iG A 0])
 (sw (k 0 [.I (-1)])
 (fun _=>none))) j)
theorem F286.eq:FEq F286.O 134 F286.ps F286.sh F286:=by intro τ l κ;kernel_rfl
def F286.E:Ent P:=mkF F286.eq
def F275.ps:List PV2:=[pR,pI]
def F275.sh:List PA:=[(PA.mk (PV3.v pB) [])]
def F275.O:Orc P:=⟨[F286.E],[],[],40⟩
def F275:Option τ :=
 ck ((eqM (gL l 0).length (gL l 0).length)&&true)
 (F286 [vG l 0,iG l 1]
 (fun j A=>(sw (k 0 [.B (geI (gI A 0) 0)])
 (fun _=>none)) j))
theorem F275.eq:FEq F275.O 115 F275.ps F275.sh F275:=by intro τ l κ;kernel_rfl
def F275.E:Ent P:=mkF F275.eq
end
end Go.Proofs.Yticbdgmcofjkeaa.Ai
namespace Go.Proofs.Yticbdgmcofjkeaa.Ai
open Go Go.RowKit
noncomputable section
variable {τ:Type} (t:Nat) (nx ex:Nat→LS_→Option τ) (l:LS_) (k κ:Nat→LS_→Option τ)
def kbo0:List PO:=[(oG [pI,pI,qR]),(oG [pI,pI,qR,(rr 2)]),(PO.cells true true (PC.r 3)),(PO.fam true .i64)]
def kbo1:List PO:=[(oG [pI,pI,qR,(rr 1)]),(PO.cells true true (PC.r 2)),(PO.fam true .i64)]
def kbo2:List PO:=[(oG [pI,pI,qR,(rr 1)]),(PO.cells true true (PC.r 2)),(PO.fam true .i64),oI]
def kbo3:List PO:=[(oG [pI,pI,qR]),(oG [pI,pI,qR,nS]),(PO.cells true true (PC.r 4)),oI,(PO.fam true .i64)]
def kbo4:List PO:=[(oG [pI,pI,qR]),(PO.cells true true (PC.r 2)),(PO.fam true .i64)]
def kbo5:List PO:=[(oG [pI,pI,qR]),(oG [pI,pI,qR,(rr 3)]),oI,(PO.cells true true (PC.r 4)),(PO.fam true .i64)]
def kbo6:List PO:=[(oG [pI,pI,qR]),(oG [pI,pI,qR,(rr 4)]),(PO.cells true true (PC.r 5)),oI,(PO.cells true true (PC.r 6)),(PO.fam true .i64),(PO.fam true .i64)]
def kbo7:List PO:=[(oG [pI,pI,qR]),(oG [pI,pI,qR,(rr 4)]),oI,oI,(PO.cells true true (PC.r 5)),(PO.fam true .i64)]
def kbo8:List PO:=[(oG [pI,pI,qR]),(oG [pI,pI,qR,(rr 5)]),oI,(PO.cells true true (PC.r 6)),oI,(PO.cells true true (PC.r 7)),(PO.fam true .i64),(PO.fam true .i64)]
def L298_3.H:LHead:=⟨true,false,2,585731,585731,28704,32,0,[(PS.mk (us 5 ((pp 1)::us 6 (qM::pI::pI::us 21 []))) [(oG [pI,pI,qR]),(oG [pI,pI,qR,nS])]),(PS.mk (us 5 ((pp 1)::us 6 (qM::pI::pI::us 21 []))) kbo0)],[((Out.exit 0),(PS.mk (us 5 ((pp 1)::us 30 [])) [(oG [pI,pI,qR]),(oG [pI,pI,qR,nS])])),((Out.exit 0),(PS.mk (us 5 ((pp 1)::us 30 [])) kbo0))]⟩
def L298_3.O:Orc P:=⟨[],[],[],40⟩
def L298_3.s0:Option τ :=
 br (ltI (gI l 3) (gI l 2))
 (ck (((leI 0 (gI l 3))&&(ltI (gI l 3) (gN l 0)))&&true)
 (ck (ltN ((Int.toNat (gI l 3))*1) (gLL l 1).length)
 (ck (((leI 0 (((List.getD (gLL l 1) ((Int.toNat (gI l 3))*1) []).length:Nat):Int))&&(leI (((List.getD (gLL l 1) ((Int.toNat (gI l 3))*1) []).length:Nat):Int) (((List.getD (gLL l 1) ((Int.toNat (gI l 3))*1) []).length:Nat):Int)))&&(leI ((((List.getD (gLL l 1) ((Int.toNat (gI l 3))*1) []).length:Nat):Int)*9) 1099511627776))
 (ck (((((eqM (List.getD (gLL l 1) ((Int.toNat (gI l 3))*1) []).length (Int.toNat (((List.getD (gLL l 1) ((Int.toNat (gI l 3))*1) []).length:Nat):Int)))&&(eqM (List.getD (gLL l 1) ((Int.toNat (gI l 3))*1) []).length (List.getD (gLL l 1) ((Int.toNat (gI l 3))*1) []).length))&&true)&&(eqM (List.replicate (Int.toNat (((List.getD (gLL l 1) ((Int.toNat (gI l 3))*1) []).length:Nat):Int)) (0:Int)).length (Int.toNat (((List.getD (gLL l 1) ((Int.toNat (gI l 3))*1) []).length:Nat):Int))))&&true)
 (ck ((((eqM (Int.toNat (((List.getD (gLL l 1) ((Int.toNat (gI l 3))*1) []).length:Nat):Int)) (List.getD (gLL l 1) ((Int.toNat (gI l 3))*1) []).length)&&true)&&true)&&true)
 (nx 1 [nG l 0,wG l 1,iG l 2,.I (wr .i64 ((gI l 3)+1)),iG l 4,iG l 5,nG l 6,vG l 7,iG l 8,iG l 9,nG l 10,vG l 11,.N 1,.LN [0],.LL [(List.getD (gLL l 1) ((Int.toNat (gI l 3))*1) [])]]))))))
 (ex 0 [iG l 4,iG l 5,nG l 6,vG l 7,iG l 8,iG l 9,nG l 10,vG l 11])
theorem L298_3.e0:LEq L298_3.O L298_3.H 0 L298_3.s0:=by intro τ next κ l;kernel_rfl
def L298_3.s1:Option τ :=
 br (ltI (gI l 3) (gI l 2))
 (ck (((leI 0 (gI l 3))&&(ltI (gI l 3) (gN l 0)))&&true)
 (ck (ltN ((Int.toNat (gI l 3))*1) (gLL l 1).length)
 (ck (((leI 0 (((List.getD (gLL l 1) ((Int.toNat (gI l 3))*1) []).length:Nat):Int))&&(leI (((List.getD (gLL l 1) ((Int.toNat (gI l 3))*1) []).length:Nat):Int) (((List.getD (gLL l 1) ((Int.toNat (gI l 3))*1) []).length:Nat):Int)))&&(leI ((((List.getD (gLL l 1) ((Int.toNat (gI l 3))*1) []).length:Nat):Int)*9) 1099511627776))
 (ck (((((eqM (List.getD (gLL l 1) ((Int.toNat (gI l 3))*1) []).length (Int.toNat (((List.getD (gLL l 1) ((Int.toNat (gI l 3))*1) []).length:Nat):Int)))&&(eqM (List.getD (gLL l 1) ((Int.toNat (gI l 3))*1) []).length (List.getD (gLL l 1) ((Int.toNat (gI l 3))*1) []).length))&&true)&&(eqM (List.replicate (Int.toNat (((List.getD (gLL l 1) ((Int.toNat (gI l 3))*1) []).length:Nat):Int)) (0:Int)).length (Int.toNat (((List.getD (gLL l 1) ((Int.toNat (gI l 3))*1) []).length:Nat):Int))))&&true)
 (ck (((((((eqM (Int.toNat (((List.getD (gLL l 1) ((Int.toNat (gI l 3))*1) []).length:Nat):Int)) (List.getD (gLL l 1) ((Int.toNat (gI l 3))*1) []).length)&&true)&&(eqM (gN l 12) (gLN l 13).length))&&true)&&true)&&(ltN (gLL l 14).length 1048576))&&(leN (((gN l 12)+1)*25) 1099511627776))
 (nx 1 [nG l 0,wG l 1,iG l 2,.I (wr .i64 ((gI l 3)+1)),iG l 4,iG l 5,nG l 6,vG l 7,iG l 8,iG l 9,nG l 10,vG l 11,.N ((gN l 12)+1),.LN ((gLN l 13)++[(gLL l 14).length]),.LL ((gLL l 14)++[(List.getD (gLL l 1) ((Int.toNat (gI l 3))*1) [])])]))))))
 (ex 1 [iG l 4,iG l 5,nG l 6,vG l 7,iG l 8,iG l 9,nG l 10,vG l 11,nG l 12,uG l 13,wG l 14])
theorem L298_3.e1:LEq L298_3.O L298_3.H 1 L298_3.s1:=by intro τ next κ l;kernel_rfl
def L298_3:LStep P Cf:=LStep.mk2 (by decide) L298_3.e0 L298_3.e1
def L298_3.b:Option τ:=runE L298_3 fuel κ t l
def L298_3.E:LEnt P:=LStep.E L298_3
def S298_0.H:SHead:=⟨143,[(PV2.agg [iI,iI,(PV1.sl (PC0.i .i64))]),qM],[],[],[((pp 0),[(oG [pI,pI,qR,nS])]),((pp 0),kbo1)]⟩
def S298_0.O:Orc P:=⟨[],[L298_3.E],[],40⟩
def S298_0:Option τ :=
 L298_3.b 0 [nG l 4,wG l 5,.I (gN l 4),.I 0,iG l 0,iG l 1,nG l 2,vG l 3,iG l 0,iG l 1,nG l 2,vG l 3]
 (fun j A=>(sw (k 0 [iG A 4,iG A 5,nG A 6,vG A 7])
 (sw (k 1 [iG A 4,iG A 5,nG A 6,vG A 7,nG A 8,uG A 9,wG A 10])
 (fun _=>none))) j)
theorem S298_0.eq:SEq S298_0.O S298_0.H S298_0:=by intro τ l κ;kernel_rfl
def S298_0.next:SDyn P S298_0.H:=mkS S298_0.eq
def S298_0.E:SEnt P:=⟨S298_0.H,S298_0.next⟩
def F308.ps:List PV2:=[pM]
def F308.sh:List PA:=[(PA.mk (PV3.v pI) [])]
def F308.O:Orc P:=⟨[],[],[],40⟩
def F308:Option τ :=
 br ((((gLL l 0).length:Nat):Int)==0)
 (k 0 [.I 0])
 (ck ((ltI 0 (gLL l 0).length)&&true)
 (ck (ltN 0 (gLL l 0).length)
 (k 0 [.I (((List.getD (gLL l 0) 0 []).length:Nat):Int)])))
theorem F308.eq:FEq F308.O 152 F308.ps F308.sh F308:=by intro τ l κ;kernel_rfl
def F308.E:Ent P:=mkF F308.eq
def L299_7.H:LHead:=⟨true,false,1,589831,589831,12769,12769,0,[(PS.mk ((pp 0)::us 4 (nS::pI::pI::pI::us 3 (pI::pI::us 114 []))) [(oG [pI,pI,qR,nS])])],[((Out.exit 2),(PS.mk ((pp 0)::us 4 (nS::pI::pI::pI::us 3 (pI::pI::us 114 []))) [(oG [pI,pI,qR,nS])]))]⟩
def L299_7.O:Orc P:=⟨[],[],[],40⟩
def L299_7.s0 {τ:Type} (next ex:Nat→LS_→Option τ) (l:LS_):Option τ :=
 br (ltI (gI l 2) 0)
 (none)
 (ex 0 [iG l 0,iG l 1,iG l 2,iG l 3,iG l 4,iG l 5,iG l 6,nG l 7,vG l 8])
theorem L299_7.e0:LEq L299_7.O L299_7.H 0 L299_7.s0:=by intro τ next κ l;kernel_rfl
def L299_7:LStep P Cf:=LStep.mk1 (by decide) L299_7.e0
def L299_7.b:Option τ:=runE L299_7 fuel κ t l
def L299_7.E:LEnt P:=LStep.E L299_7
def L299_3.H:LHead:=⟨true,false,1,589827,589827,12321,32,0,[(PS.mk ((pp 0)::us 4 (nS::us 6 (pI::pI::us 114 []))) [(oG [pI,pI,qR,nS])])],[((Out.exit 0),(PS.mk (us 5 (nS::us 122 [])) [(oG [pI,pI,qR,nS])]))]⟩
def L299_3.O:Orc P:=⟨[],[L299_7.E],[],40⟩
def L299_3.s0:Option τ :=
 br (ltI (gI l 1) (gI l 0))
 (L299_7.b 0 [iG l 1,.I 0,.I 0,iG l 0,iG l 1,iG l 2,iG l 3,nG l 4,vG l 5]
 (fun j A=>(sw (br ((gI A 2)==0)
 (nx 0 [iG A 3,.I (wr .i64 ((gI A 4)+1)),iG A 5,iG A 6,nG A 7,vG A 8])
 (none))
 (fun _=>none)) j))
 (ex 0 [iG l 2,iG l 3,nG l 4,vG l 5])
theorem L299_3.e0:LEq L299_3.O L299_3.H 0 L299_3.s0:=by intro τ next κ l;kernel_rfl
def L299_3:LStep P Cf:=LStep.mk1 (by decide) L299_3.e0
def L299_3.b:Option τ:=runE L299_3 fuel κ t l
def L299_3.E:LEnt P:=LStep.E L299_3
def S299_0.H:SHead:=⟨144,[(pp 0),pI],[],[(oG [pI,pI,qR,nS])],[(nS,[(oG [pI,pI,qR,nS])])]⟩
def S299_0.O:Orc P:=⟨[],[L299_3.E],[],40⟩
def S299_0:Option τ :=
 L299_3.b 0 [iG l 0,.I 0,iG l 1,iG l 2,nG l 3,vG l 4]
 (fun j A=>(sw (k 0 [iG A 0,iG A 1,nG A 2,vG A 3])
 (fun _=>none)) j)
theorem S299_0.eq:SEq S299_0.O S299_0.H S299_0:=by intro τ l κ;kernel_rfl
def S299_0.next:SDyn P S299_0.H:=mkS S299_0.eq
def S299_0.E:SEnt P:=⟨S299_0.H,S299_0.next⟩
def L299_7_1.H:LHead:=⟨true,false,3,589831,589831,12769,12769,0,[(PS.mk ((pp 0)::us 4 (nS::pI::pI::pI::us 3 (pI::pI::us 114 []))) kbo1)],[((Out.exit 2),(PS.mk ((pp 0)::us 4 (nS::pI::pI::pI::us 3 (pI::pI::us 114 []))) kbo1))]⟩
def L299_7_1.O:Orc P:=⟨[],[],[],40⟩
def L299_7_1.s0:Option τ :=
 br (ltI (gI l 2) (gN l 9))
 (ck (((leI 0 (gI l 2))&&(ltI (gI l 2) (gN l 9)))&&true)
 (ck ((ltN (0+((Int.toNat (gI l 2))*1)) (gLN l 10).length)&&(ltN (List.getD (gLN l 10) (0+((Int.toNat (gI l 2))*1)) 0) (gLL l 11).length))
 (ck (((leI 0 (gI l 0))&&(ltI (gI l 0) (((List.getD (gLL l 11) (List.getD (gLN l 10) (0+((Int.toNat (gI l 2))*1)) 0) []).length:Nat):Int)))&&true)
 (ck ((ltN (List.getD (gLN l 10) (0+((Int.toNat (gI l 2))*1)) 0) (gLL l 11).length)&&(ltN (0+((Int.toNat (gI l 0))*1)) (List.getD (gLL l 11) (List.getD (gLN l 10) (0+((Int.toNat (gI l 2))*1)) 0) []).length))
 (br ((List.getD (List.getD (gLL l 11) (List.getD (gLN l 10) (0+((Int.toNat (gI l 2))*1)) 0) []) (0+((Int.toNat (gI l 0))*1)) 0)==0)
 (nx 0 [iG l 0,iG l 1,.I (wr .i64 ((gI l 2)+1)),iG l 3,iG l 4,iG l 5,iG l 6,nG l 7,vG l 8,nG l 9,uG l 10,wG l 11])
 (ex 0 [iG l 0,iG l 1,iG l 2,iG l 3,iG l 4,iG l 5,iG l 6,nG l 7,vG l 8,nG l 9,uG l 10,wG l 11]))))))
 (ex 0 [iG l 0,iG l 1,iG l 2,iG l 3,iG l 4,iG l 5,iG l 6,nG l 7,vG l 8,nG l 9,uG l 10,wG l 11])
theorem L299_7_1.e0:LEq L299_7_1.O L299_7_1.H 0 L299_7_1.s0:=by intro τ next κ l;kernel_rfl
def L299_7_1:LStep P Cf:=LStep.mk1 (by decide) L299_7_1.e0
def L299_7_1.b:Option τ:=runE L299_7_1 fuel κ t l
def L299_7_1.E:LEnt P:=LStep.E L299_7_1
def L306_1.H:LHead:=⟨true,false,3,614401,614401,114695,0,0,[(PS.mk ((pp 0)::pI::pI::us 11 ((PV2.v (PV1.ref 2 none (some 0) none 1))::pI::pI::us 21 [])) kbo1)],[((Out.exit 0),(PS.mk (us 38 []) kbo1))]⟩
def L306_1.O:Orc P:=⟨[T104.E],[],[],40⟩
def L306_1.s0:Option τ :=
 br (ltI (gI l 5) (gI l 4))
 (ck (((leI 0 (gI l 5))&&(ltI (gI l 5) (gN l 3)))&&true)
 (ck ((ltN (gN l 2) (gLL l 12).length)&&(ltN (0+((Int.toNat (gI l 5))*1)) (List.getD (gLL l 12) (gN l 2) []).length))
 (ck (((leI 0 (gI l 0))&&(ltI (gI l 0) (gN l 10)))&&true)
 (ck ((ltN (0+((Int.toNat (gI l 0))*1)) (gLN l 11).length)&&(ltN (List.getD (gLN l 11) (0+((Int.toNat (gI l 0))*1)) 0) (gLL l 12).length))
 (ck (((eqM (gN l 8) (gL l 9).length)&&true)&&true)
 (T104 [iG l 6,iG l 7,vG l 9,iG l 1,.I (List.getD (List.getD (gLL l 12) (gN l 2) []) (0+((Int.toNat (gI l 5))*1)) 0)]
 (fun j A=>(sw (ck (((leI 0 (gI l 5))&&(ltI (gI l 5) (((List.getD (gLL l 12) (List.getD (gLN l 11) (0+((Int.toNat (gI l 0))*1)) 0) []).length:Nat):Int)))&&true)
 (ck ((ltN (List.getD (gLN l 11) (0+((Int.toNat (gI l 0))*1)) 0) (gLL l 12).length)&&(ltN (0+((Int.toNat (gI l 5))*1)) (List.getD (gLL l 12) (List.getD (gLN l 11) (0+((Int.toNat (gI l 0))*1)) 0) []).length))
 (nx 0 [iG l 0,iG l 1,nG l 2,nG l 3,iG l 4,.I (wr .i64 ((gI l 5)+1)),iG l 6,iG l 7,nG l 8,vG l 9,nG l 10,uG l 11,.LL (List.set (gLL l 12) (List.getD (gLN l 11) (0+((Int.toNat (gI l 0))*1)) 0) (List.set (List.getD (gLL l 12) (List.getD (gLN l 11) (0+((Int.toNat (gI l 0))*1)) 0) []) (0+((Int.toNat (gI l 5))*1)) (gI A 0)))])))
 (fun _=>none)) j)))))))
 (ex 0 [iG l 6,iG l 7,nG l 8,vG l 9,nG l 10,uG l 11,wG l 12])
theorem L306_1.e0:LEq L306_1.O L306_1.H 0 L306_1.s0:=by intro τ next κ l;kernel_rfl
def L306_1:LStep P Cf:=LStep.mk1 (by decide) L306_1.e0
def L306_1.b:Option τ:=runE L306_1 fuel κ t l
def L306_1.E:LEnt P:=LStep.E L306_1
def S306_0.H:SHead:=⟨150,[(pp 0),pI,pI],[],kbo1,[((PV2.tup []),kbo1)]⟩
def S306_0.O:Orc P:=⟨[],[L306_1.E],[],40⟩
def S306_0:Option τ :=
 ck (((leI 0 (gI l 0))&&(ltI (gI l 0) (gN l 6)))&&true)
 (ck ((ltN (0+((Int.toNat (gI l 0))*1)) (gLN l 7).length)&&(ltN (List.getD (gLN l 7) (0+((Int.toNat (gI l 0))*1)) 0) (gLL l 8).length))
 (L306_1.b 0 [iG l 0,iG l 1,.N (List.getD (gLN l 7) (0+((Int.toNat (gI l 0))*1)) 0),.N (List.getD (gLL l 8) (List.getD (gLN l 7) (0+((Int.toNat (gI l 0))*1)) 0) []).length,.I (((List.getD (gLL l 8) (List.getD (gLN l 7) (0+((Int.toNat (gI l 0))*1)) 0) []).length:Nat):Int),.I 0,iG l 2,iG l 3,nG l 4,vG l 5,nG l 6,uG l 7,wG l 8]
 (fun j A=>(sw (k 0 [iG A 0,iG A 1,nG A 2,vG A 3,nG A 4,uG A 5,wG A 6])
 (fun _=>none)) j)))
theorem S306_0.eq:SEq S306_0.O S306_0.H S306_0:=by intro τ l κ;kernel_rfl
def S306_0.next:SDyn P S306_0.H:=mkS S306_0.eq
def S306_0.E:SEnt P:=⟨S306_0.H,S306_0.next⟩
def L307_2.H:LHead:=⟨true,false,3,618498,618498,1835015,0,0,[(PS.mk ((pp 0)::pI::pI::us 15 ((PV2.v (PV1.ref 2 none (some 0) none 1))::pI::pI::us 38 [])) kbo1)],[((Out.exit 0),(PS.mk (us 59 []) kbo1))]⟩
def L307_2.O:Orc P:=⟨[T104.E,T113.E],[],[],40⟩
def L307_2.s0:Option τ :=
 br (ltI (gI l 5) (gI l 4))
 (ck (((leI 0 (gI l 5))&&(ltI (gI l 5) (gN l 3)))&&true)
 (ck ((ltN (gN l 2) (gLL l 12).length)&&(ltN (0+((Int.toNat (gI l 5))*1)) (List.getD (gLL l 12) (gN l 2) []).length))
 (br ((List.getD (List.getD (gLL l 12) (gN l 2) []) (0+((Int.toNat (gI l 5))*1)) 0) != 0)
 (ck (((leI 0 (gI l 0))&&(ltI (gI l 0) (gN l 10)))&&true)
 (ck ((ltN (0+((Int.toNat (gI l 0))*1)) (gLN l 11).length)&&(ltN (List.getD (gLN l 11) (0+((Int.toNat (gI l 0))*1)) 0) (gLL l 12).length))
 (ck (((leI 0 (gI l 0))&&(ltI (gI l 0) (gN l 10)))&&true)
 (ck ((ltN (0+((Int.toNat (gI l 0))*1)) (gLN l 11).length)&&(ltN (List.getD (gLN l 11) (0+((Int.toNat (gI l 0))*1)) 0) (gLL l 12).length))
 (ck (((leI 0 (gI l 5))&&(ltI (gI l 5) (((List.getD (gLL l 12) (List.getD (gLN l 11) (0+((Int.toNat (gI l 0))*1)) 0) []).length:Nat):Int)))&&true)
 (ck ((ltN (List.getD (gLN l 11) (0+((Int.toNat (gI l 0))*1)) 0) (gLL l 12).length)&&(ltN (0+((Int.toNat (gI l 5))*1)) (List.getD (gLL l 12) (List.getD (gLN l 11) (0+((Int.toNat (gI l 0))*1)) 0) []).length))
 (ck (((eqM (gN l 8) (gL l 9).length)&&true)&&true)
 (T104 [iG l 6,iG l 7,vG l 9,iG l 1,.I (List.getD (List.getD (gLL l 12) (gN l 2) []) (0+((Int.toNat (gI l 5))*1)) 0)]
 (fun j A=>(sw (ck (((eqM (gN l 8) (gL l 9).length)&&true)&&true)
 (T113 [iG l 6,iG l 7,vG l 9,.I (List.getD (List.getD (gLL l 12) (List.getD (gLN l 11) (0+((Int.toNat (gI l 0))*1)) 0) []) (0+((Int.toNat (gI l 5))*1)) 0),iG A 0]
 (fun j B=>(sw (ck (((leI 0 (gI l 5))&&(ltI (gI l 5) (((List.getD (gLL l 12) (List.getD (gLN l 11) (0+((Int.toNat (gI l 0))*1)) 0) []).length:Nat):Int)))&&true)
 (ck ((ltN (List.getD (gLN l 11) (0+((Int.toNat (gI l 0))*1)) 0) (gLL l 12).length)&&(ltN (0+((Int.toNat (gI l 5))*1)) (List.getD (gLL l 12) (List.getD (gLN l 11) (0+((Int.toNat (gI l 0))*1)) 0) []).length))
 (nx 0 [iG l 0,iG l 1,nG l 2,nG l 3,iG l 4,.I (wr .i64 ((gI l 5)+1)),iG l 6,iG l 7,nG l 8,vG l 9,nG l 10,uG l 11,.LL (List.set (gLL l 12) (List.getD (gLN l 11) (0+((Int.toNat (gI l 0))*1)) 0) (List.set (List.getD (gLL l 12) (List.getD (gLN l 11) (0+((Int.toNat (gI l 0))*1)) 0) []) (0+((Int.toNat (gI l 5))*1)) (gI B 0)))])))
 (fun _=>none)) j)))
 (fun _=>none)) j)))))))))
 (nx 0 [iG l 0,iG l 1,nG l 2,nG l 3,iG l 4,.I (wr .i64 ((gI l 5)+1)),iG l 6,iG l 7,nG l 8,vG l 9,nG l 10,uG l 11,wG l 12]))))
 (ex 0 [iG l 6,iG l 7,nG l 8,vG l 9,nG l 10,uG l 11,wG l 12])
theorem L307_2.e0:LEq L307_2.O L307_2.H 0 L307_2.s0:=by intro τ next κ l;kernel_rfl
def L307_2:LStep P Cf:=LStep.mk1 (by decide) L307_2.e0
def L307_2.b:Option τ:=runE L307_2 fuel κ t l
def L307_2.E:LEnt P:=LStep.E L307_2
def S307_0.H:SHead:=⟨151,[(pp 0),pI,pI,pI],[],kbo1,[((PV2.tup []),kbo1)]⟩
def S307_0.O:Orc P:=⟨[],[L307_2.E],[],40⟩
def S307_0:Option τ :=
 br ((gI l 1)==0)
 (k 0 [iG l 3,iG l 4,nG l 5,vG l 6,nG l 7,uG l 8,wG l 9])
 (ck (((leI 0 (gI l 2))&&(ltI (gI l 2) (gN l 7)))&&true)
 (ck ((ltN (0+((Int.toNat (gI l 2))*1)) (gLN l 8).length)&&(ltN (List.getD (gLN l 8) (0+((Int.toNat (gI l 2))*1)) 0) (gLL l 9).length))
 (L307_2.b 0 [iG l 0,iG l 1,.N (List.getD (gLN l 8) (0+((Int.toNat (gI l 2))*1)) 0),.N (List.getD (gLL l 9) (List.getD (gLN l 8) (0+((Int.toNat (gI l 2))*1)) 0) []).length,.I (((List.getD (gLL l 9) (List.getD (gLN l 8) (0+((Int.toNat (gI l 2))*1)) 0) []).length:Nat):Int),.I 0,iG l 3,iG l 4,nG l 5,vG l 6,nG l 7,uG l 8,wG l 9]
 (fun j A=>(sw (k 0 [iG A 0,iG A 1,nG A 2,vG A 3,nG A 4,uG A 5,wG A 6])
 (fun _=>none)) j))))
theorem S307_0.eq:SEq S307_0.O S307_0.H S307_0:=by intro τ l κ;kernel_rfl
def S307_0.next:SDyn P S307_0.H:=mkS S307_0.eq
def S307_0.E:SEnt P:=⟨S307_0.H,S307_0.next⟩
def L299_14.H:LHead:=⟨true,false,3,589838,589838,3802951800684688204490109628641,12385,0,[(PS.mk ((pp 0)::us 4 (nS::pI::pI::us 4 (pI::pI::us 86 (pI::pI::us 26 [])))) kbo1)],[((Out.exit 4),(PS.mk ((pp 0)::us 4 (nS::pI::us 5 (pI::pI::us 114 []))) kbo1))]⟩
def L299_14.O:Orc P:=⟨[],[],[S307_0.E],40⟩
def L299_14.s0:Option τ :=
 br (ltI (gI l 5) (gI l 4))
 (br ((gI l 5) != (gI l 1))
 (ck (((leI 0 (gI l 5))&&(ltI (gI l 5) (gN l 10)))&&true)
 (ck ((ltN (0+((Int.toNat (gI l 5))*1)) (gLN l 11).length)&&(ltN (List.getD (gLN l 11) (0+((Int.toNat (gI l 5))*1)) 0) (gLL l 12).length))
 (ck (((leI 0 (gI l 0))&&(ltI (gI l 0) (((List.getD (gLL l 12) (List.getD (gLN l 11) (0+((Int.toNat (gI l 5))*1)) 0) []).length:Nat):Int)))&&true)
 (ck ((ltN (List.getD (gLN l 11) (0+((Int.toNat (gI l 5))*1)) 0) (gLL l 12).length)&&(ltN (0+((Int.toNat (gI l 0))*1)) (List.getD (gLL l 12) (List.getD (gLN l 11) (0+((Int.toNat (gI l 5))*1)) 0) []).length))
 (S307_0 [iG l 5,.I (List.getD (List.getD (gLL l 12) (List.getD (gLN l 11) (0+((Int.toNat (gI l 5))*1)) 0) []) (0+((Int.toNat (gI l 0))*1)) 0),iG l 1,iG l 6,iG l 7,nG l 8,vG l 9,nG l 10,uG l 11,wG l 12]
 (fun j A=>(sw (nx 0 [iG l 0,iG l 1,iG l 2,iG l 3,iG l 4,.I (wr .i64 ((gI l 5)+1)),iG A 0,iG A 1,nG A 2,vG A 3,nG A 4,uG A 5,wG A 6])
 (fun _=>none)) j))))))
 (nx 0 [iG l 0,iG l 1,iG l 2,iG l 3,iG l 4,.I (wr .i64 ((gI l 5)+1)),iG l 6,iG l 7,nG l 8,vG l 9,nG l 10,uG l 11,wG l 12]))
 (ex 0 [iG l 0,iG l 2,iG l 3,iG l 6,iG l 7,nG l 8,vG l 9,nG l 10,uG l 11,wG l 12])
theorem L299_14.e0:LEq L299_14.O L299_14.H 0 L299_14.s0:=by intro τ next κ l;kernel_rfl
def L299_14:LStep P Cf:=LStep.mk1 (by decide) L299_14.e0
def L299_14.b:Option τ:=runE L299_14 fuel κ t l
def L299_14.E:LEnt P:=LStep.E L299_14
def L299_7_2.H:LHead:=⟨true,false,4,589831,589831,12769,12769,0,[(PS.mk ((pp 0)::us 4 ((rr 3)::pI::pI::pI::us 3 (pI::pI::us 114 []))) kbo2)],[((Out.exit 2),(PS.mk ((pp 0)::us 4 ((rr 3)::pI::pI::pI::us 3 (pI::pI::us 114 []))) kbo2))]⟩
def L299_7_2.O:Orc P:=⟨[],[],[],40⟩
def L299_7_2.s0:Option τ :=
 br (ltI (gI l 3) (gN l 10))
 (ck (((leI 0 (gI l 3))&&(ltI (gI l 3) (gN l 10)))&&true)
 (ck ((ltN (0+((Int.toNat (gI l 3))*1)) (gLN l 11).length)&&(ltN (List.getD (gLN l 11) (0+((Int.toNat (gI l 3))*1)) 0) (gLL l 12).length))
 (ck (((leI 0 (gI l 1))&&(ltI (gI l 1) (((List.getD (gLL l 12) (List.getD (gLN l 11) (0+((Int.toNat (gI l 3))*1)) 0) []).length:Nat):Int)))&&true)
 (ck ((ltN (List.getD (gLN l 11) (0+((Int.toNat (gI l 3))*1)) 0) (gLL l 12).length)&&(ltN (0+((Int.toNat (gI l 1))*1)) (List.getD (gLL l 12) (List.getD (gLN l 11) (0+((Int.toNat (gI l 3))*1)) 0) []).length))
 (br ((List.getD (List.getD (gLL l 12) (List.getD (gLN l 11) (0+((Int.toNat (gI l 3))*1)) 0) []) (0+((Int.toNat (gI l 1))*1)) 0)==0)
 (nx 0 [nG l 0,iG l 1,iG l 2,.I (wr .i64 ((gI l 3)+1)),iG l 4,iG l 5,iG l 6,iG l 7,nG l 8,vG l 9,nG l 10,uG l 11,wG l 12,vG l 13])
 (ex 0 [nG l 0,iG l 1,iG l 2,iG l 3,iG l 4,iG l 5,iG l 6,iG l 7,nG l 8,vG l 9,nG l 10,uG l 11,wG l 12,vG l 13]))))))
 (ex 0 [nG l 0,iG l 1,iG l 2,iG l 3,iG l 4,iG l 5,iG l 6,iG l 7,nG l 8,vG l 9,nG l 10,uG l 11,wG l 12,vG l 13])
theorem L299_7_2.e0:LEq L299_7_2.O L299_7_2.H 0 L299_7_2.s0:=by intro τ next κ l;kernel_rfl
def L299_7_2:LStep P Cf:=LStep.mk1 (by decide) L299_7_2.e0
def L299_7_2.b:Option τ:=runE L299_7_2 fuel κ t l
def L299_7_2.E:LEnt P:=LStep.E L299_7_2
def L299_14_1.H:LHead:=⟨true,false,4,589838,589838,3802951800684688204490109628641,12385,0,[(PS.mk ((pp 0)::us 4 ((rr 3)::pI::pI::us 4 (pI::pI::us 86 (pI::pI::us 26 [])))) kbo2)],[((Out.exit 4),(PS.mk ((pp 0)::us 4 ((rr 3)::pI::us 5 (pI::pI::us 114 []))) kbo2))]⟩
def L299_14_1.O:Orc P:=⟨[],[],[S307_0.E],40⟩
def L299_14_1.s0:Option τ :=
 br (ltI (gI l 6) (gI l 5))
 (br ((gI l 6) != (gI l 2))
 (ck (((leI 0 (gI l 6))&&(ltI (gI l 6) (gN l 11)))&&true)
 (ck ((ltN (0+((Int.toNat (gI l 6))*1)) (gLN l 12).length)&&(ltN (List.getD (gLN l 12) (0+((Int.toNat (gI l 6))*1)) 0) (gLL l 13).length))
 (ck (((leI 0 (gI l 1))&&(ltI (gI l 1) (((List.getD (gLL l 13) (List.getD (gLN l 12) (0+((Int.toNat (gI l 6))*1)) 0) []).length:Nat):Int)))&&true)
 (ck ((ltN (List.getD (gLN l 12) (0+((Int.toNat (gI l 6))*1)) 0) (gLL l 13).length)&&(ltN (0+((Int.toNat (gI l 1))*1)) (List.getD (gLL l 13) (List.getD (gLN l 12) (0+((Int.toNat (gI l 6))*1)) 0) []).length))
 (S307_0 [iG l 6,.I (List.getD (List.getD (gLL l 13) (List.getD (gLN l 12) (0+((Int.toNat (gI l 6))*1)) 0) []) (0+((Int.toNat (gI l 1))*1)) 0),iG l 2,iG l 7,iG l 8,nG l 9,vG l 10,nG l 11,uG l 12,wG l 13]
 (fun j A=>(sw (nx 0 [nG l 0,iG l 1,iG l 2,iG l 3,iG l 4,iG l 5,.I (wr .i64 ((gI l 6)+1)),iG A 0,iG A 1,nG A 2,vG A 3,nG A 4,uG A 5,wG A 6,vG l 14])
 (fun _=>none)) j))))))
 (nx 0 [nG l 0,iG l 1,iG l 2,iG l 3,iG l 4,iG l 5,.I (wr .i64 ((gI l 6)+1)),iG l 7,iG l 8,nG l 9,vG l 10,nG l 11,uG l 12,wG l 13,vG l 14]))
 (ex 0 [nG l 0,iG l 1,iG l 3,iG l 4,iG l 7,iG l 8,nG l 9,vG l 10,nG l 11,uG l 12,wG l 13,vG l 14])
theorem L299_14_1.e0:LEq L299_14_1.O L299_14_1.H 0 L299_14_1.s0:=by intro τ next κ l;kernel_rfl
def L299_14_1:LStep P Cf:=LStep.mk1 (by decide) L299_14_1.e0
def L299_14_1.b:Option τ:=runE L299_14_1 fuel κ t l
def L299_14_1.E:LEnt P:=LStep.E L299_14_1
def L299_3_1.H:LHead:=⟨true,false,3,589827,589827,12321,32,0,[(PS.mk ((pp 0)::us 4 (nS::us 6 (pI::pI::us 114 []))) kbo1),(PS.mk ((pp 0)::us 4 ((rr 3)::us 6 (pI::pI::us 114 []))) kbo2)],[((Out.exit 0),(PS.mk (us 5 (nS::us 122 [])) kbo1)),((Out.exit 0),(PS.mk (us 5 ((rr 3)::us 122 [])) kbo2))]⟩
def L299_3_1.O:Orc P:=⟨[T116.E],[L299_7_1.E,L299_14.E,L299_7_2.E,L299_14_1.E],[S306_0.E],40⟩
def L299_3_1.s0:Option τ :=
 br (ltI (gI l 1) (gI l 0))
 (L299_7_1.b 0 [iG l 1,.I 0,.I 0,iG l 0,iG l 1,iG l 2,iG l 3,nG l 4,vG l 5,nG l 6,uG l 7,wG l 8]
 (fun j A=>(sw (br ((gI A 2)==(((gN A 9):Nat):Int))
 (nx 0 [iG A 3,.I (wr .i64 ((gI A 4)+1)),iG A 5,iG A 6,nG A 7,vG A 8,nG A 9,uG A 10,wG A 11])
 (ck (((leI 0 (gI A 1))&&(ltI (gI A 1) (gN A 9)))&&true)
 (ck ((ltN (0+((Int.toNat (gI A 1))*1)) (gLN A 10).length)&&(ltN (List.getD (gLN A 10) (0+((Int.toNat (gI A 1))*1)) 0) (gLL A 11).length))
 (ck (((leI 0 (gI A 2))&&(ltI (gI A 2) (gN A 9)))&&true)
 (ck ((ltN (0+((Int.toNat (gI A 2))*1)) (gLN A 10).length)&&(ltN (List.getD (gLN A 10) (0+((Int.toNat (gI A 2))*1)) 0) (gLL A 11).length))
 (ck (((leI 0 (gI A 2))&&(ltI (gI A 2) (gN A 9)))&&true)
 (ck ((((ltN (0+((Int.toNat (gI A 2))*1)) (gLN A 10).length)&&(ltN (List.getD (gLN A 10) (0+((Int.toNat (gI A 1))*1)) 0) (gLL A 11).length))&&(eqM (List.getD (gLL A 11) (List.getD (gLN A 10) (0+((Int.toNat (gI A 1))*1)) 0) []).length (List.getD (gLL A 11) (List.getD (gLN A 10) (0+((Int.toNat (gI A 1))*1)) 0) []).length))&&true)
 (ck (((leI 0 (gI A 1))&&(ltI (gI A 1) (gN A 9)))&&true)
 (ck ((((ltN (0+((Int.toNat (gI A 1))*1)) (List.set (gLN A 10) (0+((Int.toNat (gI A 2))*1)) (List.getD (gLN A 10) (0+((Int.toNat (gI A 1))*1)) 0)).length)&&(ltN (List.getD (gLN A 10) (0+((Int.toNat (gI A 2))*1)) 0) (gLL A 11).length))&&(eqM (List.getD (gLL A 11) (List.getD (gLN A 10) (0+((Int.toNat (gI A 2))*1)) 0) []).length (List.getD (gLL A 11) (List.getD (gLN A 10) (0+((Int.toNat (gI A 2))*1)) 0) []).length))&&true)
 (ck (((leI 0 (gI A 1))&&(ltI (gI A 1) (gN A 9)))&&true)
 (ck ((ltN (0+((Int.toNat (gI A 1))*1)) (List.set (List.set (gLN A 10) (0+((Int.toNat (gI A 2))*1)) (List.getD (gLN A 10) (0+((Int.toNat (gI A 1))*1)) 0)) (0+((Int.toNat (gI A 1))*1)) (List.getD (gLN A 10) (0+((Int.toNat (gI A 2))*1)) 0)).length)&&(ltN (List.getD (List.set (List.set (gLN A 10) (0+((Int.toNat (gI A 2))*1)) (List.getD (gLN A 10) (0+((Int.toNat (gI A 1))*1)) 0)) (0+((Int.toNat (gI A 1))*1)) (List.getD (gLN A 10) (0+((Int.toNat (gI A 2))*1)) 0)) (0+((Int.toNat (gI A 1))*1)) 0) (gLL A 11).length))
 (ck (((leI 0 (gI A 0))&&(ltI (gI A 0) (((List.getD (gLL A 11) (List.getD (List.set (List.set (gLN A 10) (0+((Int.toNat (gI A 2))*1)) (List.getD (gLN A 10) (0+((Int.toNat (gI A 1))*1)) 0)) (0+((Int.toNat (gI A 1))*1)) (List.getD (gLN A 10) (0+((Int.toNat (gI A 2))*1)) 0)) (0+((Int.toNat (gI A 1))*1)) 0) []).length:Nat):Int)))&&true)
 (ck ((ltN (List.getD (List.set (List.set (gLN A 10) (0+((Int.toNat (gI A 2))*1)) (List.getD (gLN A 10) (0+((Int.toNat (gI A 1))*1)) 0)) (0+((Int.toNat (gI A 1))*1)) (List.getD (gLN A 10) (0+((Int.toNat (gI A 2))*1)) 0)) (0+((Int.toNat (gI A 1))*1)) 0) (gLL A 11).length)&&(ltN (0+((Int.toNat (gI A 0))*1)) (List.getD (gLL A 11) (List.getD (List.set (List.set (gLN A 10) (0+((Int.toNat (gI A 2))*1)) (List.getD (gLN A 10) (0+((Int.toNat (gI A 1))*1)) 0)) (0+((Int.toNat (gI A 1))*1)) (List.getD (gLN A 10) (0+((Int.toNat (gI A 2))*1)) 0)) (0+((Int.toNat (gI A 1))*1)) 0) []).length))
 (ck (((eqM (gN A 7) (gL A 8).length)&&true)&&true)
 (T116 [iG A 5,iG A 6,vG A 8,.I (List.getD (List.getD (gLL A 11) (List.getD (List.set (List.set (gLN A 10) (0+((Int.toNat (gI A 2))*1)) (List.getD (gLN A 10) (0+((Int.toNat (gI A 1))*1)) 0)) (0+((Int.toNat (gI A 1))*1)) (List.getD (gLN A 10) (0+((Int.toNat (gI A 2))*1)) 0)) (0+((Int.toNat (gI A 1))*1)) 0) []) (0+((Int.toNat (gI A 0))*1)) 0)]
 (fun j B=>(sw (S306_0 [iG A 1,iG B 0,iG A 5,iG A 6,nG A 7,vG A 8,nG A 9,.LN (List.set (List.set (gLN A 10) (0+((Int.toNat (gI A 2))*1)) (List.getD (gLN A 10) (0+((Int.toNat (gI A 1))*1)) 0)) (0+((Int.toNat (gI A 1))*1)) (List.getD (gLN A 10) (0+((Int.toNat (gI A 2))*1)) 0)),wG A 11]
 (fun j C=>(sw (L299_14.b 0 [iG A 0,iG A 1,iG A 3,iG A 4,.I (gN C 4),.I 0,iG C 0,iG C 1,nG C 2,vG C 3,nG C 4,uG C 5,wG C 6]
 (fun j D=>(sw (nx 1 [.N 1,iG D 1,.I (wr .i64 ((gI D 2)+1)),iG D 3,iG D 4,nG D 5,vG D 6,nG D 7,uG D 8,wG D 9,.L (List.take 1 (List.drop 0 [(gI D 0)]))])
 (fun _=>none)) j))
 (fun _=>none)) j))
 (fun _=>none)) j))))))))))))))))
 (fun _=>none)) j))
 (ex 0 [iG l 2,iG l 3,nG l 4,vG l 5,nG l 6,uG l 7,wG l 8])
theorem L299_3_1.e0:LEq L299_3_1.O L299_3_1.H 0 L299_3_1.s0:=by intro τ next κ l;kernel_rfl
def L299_3_1.s1:Option τ :=
 br (ltI (gI l 2) (gI l 1))
 (L299_7_2.b 0 [nG l 0,iG l 2,.I (gN l 0),.I (gN l 0),iG l 1,iG l 2,iG l 3,iG l 4,nG l 5,vG l 6,nG l 7,uG l 8,wG l 9,vG l 10]
 (fun j A=>(sw (br ((gI A 3)==(((gN A 10):Nat):Int))
 (nx 1 [nG A 0,iG A 4,.I (wr .i64 ((gI A 5)+1)),iG A 6,iG A 7,nG A 8,vG A 9,nG A 10,uG A 11,wG A 12,vG A 13])
 (ck (((leI 0 (gI A 2))&&(ltI (gI A 2) (gN A 10)))&&true)
 (ck ((ltN (0+((Int.toNat (gI A 2))*1)) (gLN A 11).length)&&(ltN (List.getD (gLN A 11) (0+((Int.toNat (gI A 2))*1)) 0) (gLL A 12).length))
 (ck (((leI 0 (gI A 3))&&(ltI (gI A 3) (gN A 10)))&&true)
 (ck ((ltN (0+((Int.toNat (gI A 3))*1)) (gLN A 11).length)&&(ltN (List.getD (gLN A 11) (0+((Int.toNat (gI A 3))*1)) 0) (gLL A 12).length))
 (ck (((leI 0 (gI A 3))&&(ltI (gI A 3) (gN A 10)))&&true)
 (ck ((((ltN (0+((Int.toNat (gI A 3))*1)) (gLN A 11).length)&&(ltN (List.getD (gLN A 11) (0+((Int.toNat (gI A 2))*1)) 0) (gLL A 12).length))&&(eqM (List.getD (gLL A 12) (List.getD (gLN A 11) (0+((Int.toNat (gI A 2))*1)) 0) []).length (List.getD (gLL A 12) (List.getD (gLN A 11) (0+((Int.toNat (gI A 2))*1)) 0) []).length))&&true)
 (ck (((leI 0 (gI A 2))&&(ltI (gI A 2) (gN A 10)))&&true)
 (ck ((((ltN (0+((Int.toNat (gI A 2))*1)) (List.set (gLN A 11) (0+((Int.toNat (gI A 3))*1)) (List.getD (gLN A 11) (0+((Int.toNat (gI A 2))*1)) 0)).length)&&(ltN (List.getD (gLN A 11) (0+((Int.toNat (gI A 3))*1)) 0) (gLL A 12).length))&&(eqM (List.getD (gLL A 12) (List.getD (gLN A 11) (0+((Int.toNat (gI A 3))*1)) 0) []).length (List.getD (gLL A 12) (List.getD (gLN A 11) (0+((Int.toNat (gI A 3))*1)) 0) []).length))&&true)
 (ck (((leI 0 (gI A 2))&&(ltI (gI A 2) (gN A 10)))&&true)
 (ck ((ltN (0+((Int.toNat (gI A 2))*1)) (List.set (List.set (gLN A 11) (0+((Int.toNat (gI A 3))*1)) (List.getD (gLN A 11) (0+((Int.toNat (gI A 2))*1)) 0)) (0+((Int.toNat (gI A 2))*1)) (List.getD (gLN A 11) (0+((Int.toNat (gI A 3))*1)) 0)).length)&&(ltN (List.getD (List.set (List.set (gLN A 11) (0+((Int.toNat (gI A 3))*1)) (List.getD (gLN A 11) (0+((Int.toNat (gI A 2))*1)) 0)) (0+((Int.toNat (gI A 2))*1)) (List.getD (gLN A 11) (0+((Int.toNat (gI A 3))*1)) 0)) (0+((Int.toNat (gI A 2))*1)) 0) (gLL A 12).length))
 (ck (((leI 0 (gI A 1))&&(ltI (gI A 1) (((List.getD (gLL A 12) (List.getD (List.set (List.set (gLN A 11) (0+((Int.toNat (gI A 3))*1)) (List.getD (gLN A 11) (0+((Int.toNat (gI A 2))*1)) 0)) (0+((Int.toNat (gI A 2))*1)) (List.getD (gLN A 11) (0+((Int.toNat (gI A 3))*1)) 0)) (0+((Int.toNat (gI A 2))*1)) 0) []).length:Nat):Int)))&&true)
 (ck ((ltN (List.getD (List.set (List.set (gLN A 11) (0+((Int.toNat (gI A 3))*1)) (List.getD (gLN A 11) (0+((Int.toNat (gI A 2))*1)) 0)) (0+((Int.toNat (gI A 2))*1)) (List.getD (gLN A 11) (0+((Int.toNat (gI A 3))*1)) 0)) (0+((Int.toNat (gI A 2))*1)) 0) (gLL A 12).length)&&(ltN (0+((Int.toNat (gI A 1))*1)) (List.getD (gLL A 12) (List.getD (List.set (List.set (gLN A 11) (0+((Int.toNat (gI A 3))*1)) (List.getD (gLN A 11) (0+((Int.toNat (gI A 2))*1)) 0)) (0+((Int.toNat (gI A 2))*1)) (List.getD (gLN A 11) (0+((Int.toNat (gI A 3))*1)) 0)) (0+((Int.toNat (gI A 2))*1)) 0) []).length))
 (ck (((eqM (gN A 8) (gL A 9).length)&&true)&&true)
 (T116 [iG A 6,iG A 7,vG A 9,.I (List.getD (List.getD (gLL A 12) (List.getD (List.set (List.set (gLN A 11) (0+((Int.toNat (gI A 3))*1)) (List.getD (gLN A 11) (0+((Int.toNat (gI A 2))*1)) 0)) (0+((Int.toNat (gI A 2))*1)) (List.getD (gLN A 11) (0+((Int.toNat (gI A 3))*1)) 0)) (0+((Int.toNat (gI A 2))*1)) 0) []) (0+((Int.toNat (gI A 1))*1)) 0)]
 (fun j B=>(sw (S306_0 [iG A 2,iG B 0,iG A 6,iG A 7,nG A 8,vG A 9,nG A 10,.LN (List.set (List.set (gLN A 11) (0+((Int.toNat (gI A 3))*1)) (List.getD (gLN A 11) (0+((Int.toNat (gI A 2))*1)) 0)) (0+((Int.toNat (gI A 2))*1)) (List.getD (gLN A 11) (0+((Int.toNat (gI A 3))*1)) 0)),wG A 12]
 (fun j C=>(sw (L299_14_1.b 0 [nG A 0,iG A 1,iG A 2,iG A 4,iG A 5,.I (gN C 4),.I 0,iG C 0,iG C 1,nG C 2,vG C 3,nG C 4,uG C 5,wG C 6,vG A 13]
 (fun j D=>(sw (ck (((((eqM (gL D 11).length ((gN D 0)*1))&&true)&&(eqM 1 1))&&(leN (((gN D 0)+1)*9) 1099511627776))&&true)
 (nx 1 [.N ((gN D 0)+1),iG D 2,.I (wr .i64 ((gI D 3)+1)),iG D 4,iG D 5,nG D 6,vG D 7,nG D 8,uG D 9,wG D 10,.L ((gL D 11)++(List.take 1 (List.drop 0 [(gI D 1)])))]))
 (fun _=>none)) j))
 (fun _=>none)) j))
 (fun _=>none)) j))))))))))))))))
 (fun _=>none)) j))
 (ex 1 [nG l 0,iG l 3,iG l 4,nG l 5,vG l 6,nG l 7,uG l 8,wG l 9,vG l 10])
theorem L299_3_1.e1:LEq L299_3_1.O L299_3_1.H 1 L299_3_1.s1:=by intro τ next κ l;kernel_rfl
def L299_3_1:LStep P Cf:=LStep.mk2 (by decide) L299_3_1.e0 L299_3_1.e1
def L299_3_1.b:Option τ:=runE L299_3_1 fuel κ t l
def L299_3_1.E:LEnt P:=LStep.E L299_3_1
def S299_1.H:SHead:=⟨144,[(pp 0),pI],[],kbo1,[(nS,kbo1),((rr 3),kbo2)]⟩
def S299_1.O:Orc P:=⟨[],[L299_3_1.E],[],40⟩
def S299_1:Option τ :=
 L299_3_1.b 0 [iG l 0,.I 0,iG l 1,iG l 2,nG l 3,vG l 4,nG l 5,uG l 6,wG l 7]
 (fun j A=>(sw (k 0 [iG A 0,iG A 1,nG A 2,vG A 3,nG A 4,uG A 5,wG A 6])
 (sw (k 1 [nG A 0,iG A 1,iG A 2,nG A 3,vG A 4,nG A 5,uG A 6,wG A 7,vG A 8])
 (fun _=>none))) j)
theorem S299_1.eq:SEq S299_1.O S299_1.H S299_1:=by intro τ l κ;kernel_rfl
def S299_1.next:SDyn P S299_1.H:=mkS S299_1.eq
def S299_1.E:SEnt P:=⟨S299_1.H,S299_1.next⟩
def F300.ps:List PV2:=[pField,pM]
def F300.sh:List PA:=[(PA.mk (PV3.v nS) []),(PA.mk (PV3.v (PV2.v (PV1.sl PC0.e))) []),(PA.mk (PV3.v qM) [])]
def F300.O:Orc P:=⟨[F308.E],[],[S298_0.E,S299_0.E,S299_1.E],40⟩
def F300:Option τ :=
 S298_0 [iG l 0,iG l 1,.N (gL l 2).length,vG l 2,.N (gLL l 3).length,wG l 3]
 (fun j A=>(sw (ck ((eqM (gLL l 3).length (gLL l 3).length)&&true)
 (F308 [wG l 3]
 (fun j B=>(sw (S299_0 [iG B 0,iG A 0,iG A 1,nG A 2,vG A 3]
 (fun j C=>(sw (ck (((eqI (gI A 0) (gI C 0))&&((eqI (gI A 1) (gI C 1))&&(((eqM (gN A 2) (gN C 2))&&(decide ((gL A 3)=(gL C 3))))&&true)))&&true)
 (k 0 []))
 (fun _=>none)) j))
 (fun _=>none)) j)))
 (sw (ck ((eqM (gLL l 3).length (gLL l 3).length)&&true)
 (F308 [wG l 3]
 (fun j B=>(sw (S299_1 [iG B 0,iG A 0,iG A 1,nG A 2,vG A 3,nG A 4,uG A 5,wG A 6]
 (fun j C=>(sw (ck (((eqI (gI A 0) (gI C 0))&&((eqI (gI A 1) (gI C 1))&&(((eqM (gN A 2) (gN C 2))&&(decide ((gL A 3)=(gL C 3))))&&(((eqM (gN A 4) (gN C 4))&&true)&&true))))&&true)
 (k 1 [.N 0]))
 (sw (ck (((eqI (gI A 0) (gI C 1))&&((eqI (gI A 1) (gI C 2))&&(((eqM (gN A 2) (gN C 3))&&(decide ((gL A 3)=(gL C 4))))&&(((eqM (gN A 4) (gN C 5))&&true)&&true))))&&true)
 (ck (((((leI 0 (gN C 0))&&(leI (((gN C 0):Nat):Int) (((gN C 0):Nat):Int)))&&(leI (((gN C 0):Nat):Int) (((gN A 4):Nat):Int)))&&true)&&true)
 (br (ltI 0 (gN C 0))
 (ck (@List.all Nat (List.take (((Int.toNat (((gN C 0):Nat):Int))-0)*1) (List.drop 0 (gLN C 6))) (fun y25=>(ltN y25 (gLL C 7).length)))
 (k 2 [.N ((Int.toNat (((gN C 0):Nat):Int))-0),.LL (List.map (fun y24=>(List.getD (gLL C 7) y24 [])) (List.take (((Int.toNat (((gN C 0):Nat):Int))-0)*1) (List.drop 0 (gLN C 6))))]))
 (k 1 [.N 0]))))
 (fun _=>none))) j))
 (fun _=>none)) j)))
 (fun _=>none))) j)
theorem F300.eq:FEq F300.O 145 F300.ps F300.sh F300:=by intro τ l κ;kernel_rfl
def F300.E:Ent P:=mkF F300.eq
def L286_2_2.H:LHead:=⟨false,true,0,548866,548866,403,16,0,[(PS.mk (nS::pI::us 2 (pI::us 2 (pI::pI::us 10 []))) [])],[((Out.exit 0),(PS.mk (us 4 (pI::us 14 [])) []))]⟩
def L286_2_2.O:Orc P:=⟨[],[],[],40⟩
def L286_2_2.s0 {τ:Type} (next ex:Nat→LS_→Option τ) (l:LS_):Option τ :=
 br (ltI (gI l 3) (gI l 2))
 (none)
 (ex 0 [iG l 1])
theorem L286_2_2.e0:LEq L286_2_2.O L286_2_2.H 0 L286_2_2.s0:=by intro τ next κ l;kernel_rfl
def L286_2_2:LStep P Cf:=LStep.mk1 (by decide) L286_2_2.e0
def L286_2_2.b:Option τ:=runE L286_2_2 fuel κ t l
def L286_2_2.E:LEnt P:=LStep.E L286_2_2
def F286_2.ps:List PV2:=[nS,pI]
def F286_2.sh:List PA:=[(PA.mk (PV3.v pI) [])]
def F286_2.O:Orc P:=⟨[],[L286_2_2.E],[],40⟩
def F286_2:Option τ :=
 L286_2_2.b 0 [iG l 0,.I 0,.I 0,.I 0]
 (fun j A=>(sw (k 0 [.I (-1)])
 (fun _=>none)) j)
theorem F286_2.eq:FEq F286_2.O 134 F286_2.ps F286_2.sh F286_2:=by intro τ l κ;kernel_rfl
def F286_2.E:Ent P:=mkF F286_2.eq
def F275_2.ps:List PV2:=[nS,pI]
def F275_2.sh:List PA:=[(PA.mk (PV3.v pB) [])]
def F275_2.O:Orc P:=⟨[F286_2.E],[],[],40⟩
def F275_2:Option τ :=
 F286_2 [iG l 0]
 (fun j A=>(sw (k 0 [.B (geI (gI A 0) 0)])
 (fun _=>none)) j)
theorem F275_2.eq:FEq F275_2.O 115 F275_2.ps F275_2.sh F275_2:=by intro τ l κ;kernel_rfl
def F275_2.E:Ent P:=mkF F275_2.eq
def L291_13.H:LHead:=⟨true,true,0,540685,540685,240543338378,25168778,0,[(PS.mk (us 1 (pI::us 1 ((pp 0)::us 3 ((pp 1)::nS::nS::pI::(rr 2)::us 11 (pI::pI::us 10 (nS::pI::pI::us 28 [])))))) [(oG [pI,pI,qR]),(oG [pI,pI,qR,nS]),oI])],[((Out.exit 2),(PS.mk (us 1 (pI::us 1 ((pp 0)::us 3 ((pp 1)::nS::nS::us 1 ((rr 2)::us 11 (pI::pI::us 41 [])))))) [(oG [pI,pI,qR]),(oG [pI,pI,qR,nS]),oI]))]⟩
def L291_13.O:Orc P:=⟨[],[],[],40⟩
def L291_13.s0 {τ:Type} (next ex:Nat→LS_→Option τ) (l:LS_):Option τ :=
 br (ltI (gI l 6) (gI l 5))
 (none)
 (ex 0 [iG l 0,nG l 2,iG l 3,iG l 4,iG l 7,iG l 8,nG l 9,vG l 10,iG l 11,iG l 12,nG l 13,vG l 14,vG l 15])
theorem L291_13.e0:LEq L291_13.O L291_13.H 0 L291_13.s0:=by intro τ next κ l;kernel_rfl
def L291_13:LStep P Cf:=LStep.mk1 (by decide) L291_13.e0
def L291_13.b:Option τ:=runE L291_13 fuel κ t l
def L291_13.E:LEnt P:=LStep.E L291_13
def L291_13_1.H:LHead:=⟨true,true,0,540685,540685,240543338378,25168778,0,[(PS.mk (us 1 (pI::us 1 ((pp 0)::us 3 ((pp 1)::nS::(rr 2)::pI::(rr 3)::us 11 (pI::pI::us 10 (nS::pI::pI::us 28 [])))))) kbo3)],[((Out.exit 2),(PS.mk (us 1 (pI::us 1 ((pp 0)::us 3 ((pp 1)::nS::(rr 2)::us 1 ((rr 3)::us 11 (pI::pI::us 41 [])))))) kbo3))]⟩
def L291_13_1.O:Orc P:=⟨[],[],[],40⟩
def L291_13_1.s0 {τ:Type} (next ex:Nat→LS_→Option τ) (l:LS_):Option τ :=
 br (ltI (gI l 7) (gI l 6))
 (none)
 (ex 0 [iG l 0,nG l 1,nG l 3,iG l 4,iG l 5,iG l 8,iG l 9,nG l 10,vG l 11,iG l 12,iG l 13,nG l 14,vG l 15,uG l 16,vG l 17,wG l 18])
theorem L291_13_1.e0:LEq L291_13_1.O L291_13_1.H 0 L291_13_1.s0:=by intro τ next κ l;kernel_rfl
def L291_13_1:LStep P Cf:=LStep.mk1 (by decide) L291_13_1.e0
def L291_13_1.b:Option τ:=runE L291_13_1 fuel κ t l
def L291_13_1.E:LEnt P:=LStep.E L291_13_1
def L291_7.H:LHead:=⟨true,true,0,540679,540679,25166730,520,0,[(PS.mk (us 1 (pI::us 1 ((pp 0)::us 3 ((pp 1)::nS::nS::us 13 (pI::pI::us 41 []))))) [(oG [pI,pI,qR]),(oG [pI,pI,qR,nS])]),(PS.mk (us 1 (pI::us 1 ((pp 0)::us 3 ((pp 1)::nS::(rr 2)::us 13 (pI::pI::us 41 []))))) [(oG [pI,pI,qR]),(oG [pI,pI,qR,nS]),(PO.cells true true (PC.r 3)),(PO.fam true .i64)])],[((Out.exit 0),(PS.mk (us 3 ((pp 0)::us 5 (nS::us 56 []))) [(oG [pI,pI,qR])])),((Out.exit 0),(PS.mk (us 3 ((pp 0)::us 5 ((rr 1)::us 56 []))) kbo4))]⟩
def L291_7.O:Orc P:=⟨[F275_2.E],[L291_13.E,L291_13_1.E],[],40⟩
def L291_7.s0:Option τ :=
 br (ltI (gI l 2) (gI l 1))
 (F275_2 [iG l 2]
 (fun j A=>(sw (br (gB A 0)
 (nx 0 [iG l 0,iG l 1,.I (wr .i64 ((gI l 2)+1)),iG l 3,iG l 4,nG l 5,vG l 6,iG l 7,iG l 8,nG l 9,vG l 10])
 (ck (((leI 0 (gI l 0))&&(leI (gI l 0) (gI l 0)))&&(leI ((gI l 0)*9) 1099511627776))
 (ck (((leI 0 (gI l 2))&&(ltI (gI l 2) (((Int.toNat (gI l 0)):Nat):Int)))&&true)
 (ck ((leN ((0+((Int.toNat (gI l 2))*1))+1) (List.replicate (Int.toNat (gI l 0)) (0:Int)).length)&&true)
 (L291_13.b 0 [iG l 0,iG l 2,.N (Int.toNat (gI l 0)),iG l 1,iG l 2,.I 0,.I 0,iG l 3,iG l 4,nG l 5,vG l 6,iG l 7,iG l 8,nG l 9,vG l 10,.L (List.set (List.replicate (Int.toNat (gI l 0)) (0:Int)) (0+((Int.toNat (gI l 2))*1)) 1)]
 (fun j B=>(sw (ck ((((eqM (gN B 1) (gL B 12).length)&&true)&&true)&&true)
 (nx 1 [iG B 0,.N 1,iG B 2,.I (wr .i64 ((gI B 3)+1)),iG B 4,iG B 5,nG B 6,vG B 7,iG B 8,iG B 9,nG B 10,vG B 11,.LN [0],.LL [(gL B 12)]]))
 (fun _=>none)) j))))))
 (fun _=>none)) j))
 (ex 0 [iG l 3,iG l 4,nG l 5,vG l 6])
theorem L291_7.e0:LEq L291_7.O L291_7.H 0 L291_7.s0:=by intro τ next κ l;kernel_rfl
def L291_7.s1:Option τ :=
 br (ltI (gI l 3) (gI l 2))
 (F275_2 [iG l 3]
 (fun j A=>(sw (br (gB A 0)
 (nx 1 [iG l 0,nG l 1,iG l 2,.I (wr .i64 ((gI l 3)+1)),iG l 4,iG l 5,nG l 6,vG l 7,iG l 8,iG l 9,nG l 10,vG l 11,uG l 12,wG l 13])
 (ck (((leI 0 (gI l 0))&&(leI (gI l 0) (gI l 0)))&&(leI ((gI l 0)*9) 1099511627776))
 (ck (((leI 0 (gI l 3))&&(ltI (gI l 3) (((Int.toNat (gI l 0)):Nat):Int)))&&true)
 (ck ((leN ((0+((Int.toNat (gI l 3))*1))+1) (List.replicate (Int.toNat (gI l 0)) (0:Int)).length)&&true)
 (L291_13_1.b 0 [iG l 0,nG l 1,iG l 3,.N (Int.toNat (gI l 0)),iG l 2,iG l 3,.I 0,.I 0,iG l 4,iG l 5,nG l 6,vG l 7,iG l 8,iG l 9,nG l 10,vG l 11,uG l 12,.L (List.set (List.replicate (Int.toNat (gI l 0)) (0:Int)) (0+((Int.toNat (gI l 3))*1)) 1),wG l 13]
 (fun j B=>(sw (ck (((((((eqM (gN B 2) (gL B 14).length)&&true)&&(eqM (gN B 1) (gLN B 13).length))&&true)&&true)&&(ltN (gLL B 15).length 1048576))&&(leN (((gN B 1)+1)*25) 1099511627776))
 (nx 1 [iG B 0,.N ((gN B 1)+1),iG B 3,.I (wr .i64 ((gI B 4)+1)),iG B 5,iG B 6,nG B 7,vG B 8,iG B 9,iG B 10,nG B 11,vG B 12,.LN ((gLN B 13)++[(gLL B 15).length]),.LL ((gLL B 15)++[(gL B 14)])]))
 (fun _=>none)) j))))))
 (fun _=>none)) j))
 (ex 1 [nG l 1,iG l 4,iG l 5,nG l 6,vG l 7,uG l 12,wG l 13])
theorem L291_7.e1:LEq L291_7.O L291_7.H 1 L291_7.s1:=by intro τ next κ l;kernel_rfl
def L291_7:LStep P Cf:=LStep.mk2 (by decide) L291_7.e0 L291_7.e1
def L291_7.b:Option τ:=runE L291_7 fuel κ t l
def L291_7.E:LEnt P:=LStep.E L291_7
def L291_13_2.H:LHead:=⟨true,true,0,540685,540685,240543338378,25168778,0,[(PS.mk (us 1 (pI::us 1 ((pp 0)::us 3 ((pp 1)::nS::nS::pI::(rr 2)::us 11 (pI::pI::us 10 (nS::pI::pI::us 28 [])))))) kbo5)],[((Out.exit 2),(PS.mk (us 1 (pI::us 1 ((pp 0)::us 3 ((pp 1)::nS::nS::us 1 ((rr 2)::us 11 (pI::pI::us 41 [])))))) kbo5))]⟩
def L291_13_2.O:Orc P:=⟨[],[],[],40⟩
def L291_13_2.s0 {τ:Type} (next ex:Nat→LS_→Option τ) (l:LS_):Option τ :=
 br (ltI (gI l 6) (gI l 5))
 (none)
 (ex 0 [iG l 0,nG l 2,iG l 3,iG l 4,iG l 7,iG l 8,nG l 9,vG l 10,iG l 11,iG l 12,nG l 13,vG l 14,nG l 15,vG l 16,uG l 17,wG l 18])
theorem L291_13_2.e0:LEq L291_13_2.O L291_13_2.H 0 L291_13_2.s0:=by intro τ next κ l;kernel_rfl
def L291_13_2:LStep P Cf:=LStep.mk1 (by decide) L291_13_2.e0
def L291_13_2.b:Option τ:=runE L291_13_2 fuel κ t l
def L291_13_2.E:LEnt P:=LStep.E L291_13_2
def L291_13_3.H:LHead:=⟨true,true,0,540685,540685,240543338378,25168778,0,[(PS.mk (us 1 (pI::us 1 ((pp 0)::us 3 ((pp 1)::nS::(rr 2)::pI::(rr 3)::us 11 (pI::pI::us 10 (nS::pI::pI::us 28 [])))))) kbo6)],[((Out.exit 2),(PS.mk (us 1 (pI::us 1 ((pp 0)::us 3 ((pp 1)::nS::(rr 2)::us 1 ((rr 3)::us 11 (pI::pI::us 41 [])))))) kbo6))]⟩
def L291_13_3.O:Orc P:=⟨[],[],[],40⟩
def L291_13_3.s0 {τ:Type} (next ex:Nat→LS_→Option τ) (l:LS_):Option τ :=
 br (ltI (gI l 7) (gI l 6))
 (none)
 (ex 0 [iG l 0,nG l 1,nG l 3,iG l 4,iG l 5,iG l 8,iG l 9,nG l 10,vG l 11,iG l 12,iG l 13,nG l 14,vG l 15,nG l 16,uG l 17,vG l 18,uG l 19,wG l 20,wG l 21])
theorem L291_13_3.e0:LEq L291_13_3.O L291_13_3.H 0 L291_13_3.s0:=by intro τ next κ l;kernel_rfl
def L291_13_3:LStep P Cf:=LStep.mk1 (by decide) L291_13_3.e0
def L291_13_3.b:Option τ:=runE L291_13_3 fuel κ t l
def L291_13_3.E:LEnt P:=LStep.E L291_13_3
def L291_7_1.H:LHead:=⟨true,true,0,540679,540679,25166730,520,0,[(PS.mk (us 1 (pI::us 1 ((pp 0)::us 3 ((pp 1)::nS::nS::us 13 (pI::pI::us 41 []))))) kbo0),(PS.mk (us 1 (pI::us 1 ((pp 0)::us 3 ((pp 1)::nS::(rr 2)::us 13 (pI::pI::us 41 []))))) [(oG [pI,pI,qR]),(oG [pI,pI,qR,(rr 3)]),(PO.cells true true (PC.r 4)),(PO.cells true true (PC.r 5)),(PO.fam true .i64),(PO.fam true .i64)])],[((Out.exit 0),(PS.mk (us 3 ((pp 0)::us 5 (nS::us 56 []))) [(oG [pI,pI,qR])])),((Out.exit 0),(PS.mk (us 3 ((pp 0)::us 5 ((rr 1)::us 56 []))) kbo4))]⟩
def L291_7_1.O:Orc P:=⟨[F275_2.E],[L291_13_2.E,L291_13_3.E],[],40⟩
def L291_7_1.s0:Option τ :=
 br (ltI (gI l 2) (gI l 1))
 (F275_2 [iG l 2]
 (fun j A=>(sw (br (gB A 0)
 (nx 0 [iG l 0,iG l 1,.I (wr .i64 ((gI l 2)+1)),iG l 3,iG l 4,nG l 5,vG l 6,iG l 7,iG l 8,nG l 9,vG l 10,nG l 11,uG l 12,wG l 13])
 (ck (((leI 0 (gI l 0))&&(leI (gI l 0) (gI l 0)))&&(leI ((gI l 0)*9) 1099511627776))
 (ck (((leI 0 (gI l 2))&&(ltI (gI l 2) (((Int.toNat (gI l 0)):Nat):Int)))&&true)
 (ck ((leN ((0+((Int.toNat (gI l 2))*1))+1) (List.replicate (Int.toNat (gI l 0)) (0:Int)).length)&&true)
 (L291_13_2.b 0 [iG l 0,iG l 2,.N (Int.toNat (gI l 0)),iG l 1,iG l 2,.I 0,.I 0,iG l 3,iG l 4,nG l 5,vG l 6,iG l 7,iG l 8,nG l 9,vG l 10,nG l 11,.L (List.set (List.replicate (Int.toNat (gI l 0)) (0:Int)) (0+((Int.toNat (gI l 2))*1)) 1),uG l 12,wG l 13]
 (fun j B=>(sw (ck ((((eqM (gN B 1) (gL B 13).length)&&true)&&true)&&true)
 (nx 1 [iG B 0,.N 1,iG B 2,.I (wr .i64 ((gI B 3)+1)),iG B 4,iG B 5,nG B 6,vG B 7,iG B 8,iG B 9,nG B 10,vG B 11,nG B 12,.LN [0],uG B 14,.LL [(gL B 13)],wG B 15]))
 (fun _=>none)) j))))))
 (fun _=>none)) j))
 (ex 0 [iG l 3,iG l 4,nG l 5,vG l 6])
theorem L291_7_1.e0:LEq L291_7_1.O L291_7_1.H 0 L291_7_1.s0:=by intro τ next κ l;kernel_rfl
def L291_7_1.s1:Option τ :=
 br (ltI (gI l 3) (gI l 2))
 (F275_2 [iG l 3]
 (fun j A=>(sw (br (gB A 0)
 (nx 1 [iG l 0,nG l 1,iG l 2,.I (wr .i64 ((gI l 3)+1)),iG l 4,iG l 5,nG l 6,vG l 7,iG l 8,iG l 9,nG l 10,vG l 11,nG l 12,uG l 13,uG l 14,wG l 15,wG l 16])
 (ck (((leI 0 (gI l 0))&&(leI (gI l 0) (gI l 0)))&&(leI ((gI l 0)*9) 1099511627776))
 (ck (((leI 0 (gI l 3))&&(ltI (gI l 3) (((Int.toNat (gI l 0)):Nat):Int)))&&true)
 (ck ((leN ((0+((Int.toNat (gI l 3))*1))+1) (List.replicate (Int.toNat (gI l 0)) (0:Int)).length)&&true)
 (L291_13_3.b 0 [iG l 0,nG l 1,iG l 3,.N (Int.toNat (gI l 0)),iG l 2,iG l 3,.I 0,.I 0,iG l 4,iG l 5,nG l 6,vG l 7,iG l 8,iG l 9,nG l 10,vG l 11,nG l 12,uG l 13,.L (List.set (List.replicate (Int.toNat (gI l 0)) (0:Int)) (0+((Int.toNat (gI l 3))*1)) 1),uG l 14,wG l 15,wG l 16]
 (fun j B=>(sw (ck (((((((eqM (gN B 2) (gL B 15).length)&&true)&&(eqM (gN B 1) (gLN B 14).length))&&true)&&true)&&(ltN (gLL B 17).length 1048576))&&(leN (((gN B 1)+1)*25) 1099511627776))
 (nx 1 [iG B 0,.N ((gN B 1)+1),iG B 3,.I (wr .i64 ((gI B 4)+1)),iG B 5,iG B 6,nG B 7,vG B 8,iG B 9,iG B 10,nG B 11,vG B 12,nG B 13,.LN ((gLN B 14)++[(gLL B 17).length]),uG B 16,.LL ((gLL B 17)++[(gL B 15)]),wG B 18]))
 (fun _=>none)) j))))))
 (fun _=>none)) j))
 (ex 1 [nG l 1,iG l 4,iG l 5,nG l 6,vG l 7,uG l 13,wG l 15])
theorem L291_7_1.e1:LEq L291_7_1.O L291_7_1.H 1 L291_7_1.s1:=by intro τ next κ l;kernel_rfl
def L291_7_1:LStep P Cf:=LStep.mk2 (by decide) L291_7_1.e0 L291_7_1.e1
def L291_7_1.b:Option τ:=runE L291_7_1 fuel κ t l
def L291_7_1.E:LEnt P:=LStep.E L291_7_1
def L291_13_4.H:LHead:=⟨true,true,0,540685,540685,240543338378,25168778,0,[(PS.mk (us 1 (pI::us 1 ((pp 0)::us 3 ((pp 1)::(rr 2)::nS::pI::(rr 3)::us 11 (pI::pI::us 10 ((rr 2)::pI::pI::us 28 [])))))) kbo7)],[((Out.exit 2),(PS.mk (us 1 (pI::us 1 ((pp 0)::us 3 ((pp 1)::(rr 2)::nS::us 1 ((rr 3)::us 11 (pI::pI::us 41 [])))))) kbo7))]⟩
def L291_13_4.O:Orc P:=⟨[T83.E],[],[],40⟩
def L291_13_4.s0:Option τ :=
 br (ltI (gI l 8) (gI l 7))
 (ck (((leI 0 (gI l 8))&&(ltI (gI l 8) (gN l 6)))&&true)
 (ck (ltN (0+((Int.toNat (gI l 8))*1)) (gL l 18).length)
 (ck (((leI 0 (gI l 8))&&(ltI (gI l 8) (gN l 17)))&&true)
 (ck ((ltN (0+((Int.toNat (gI l 8))*1)) (gLN l 20).length)&&(ltN (List.getD (gLN l 20) (0+((Int.toNat (gI l 8))*1)) 0) (gLL l 21).length))
 (ck (((leI 0 (gI l 2))&&(ltI (gI l 2) (((List.getD (gLL l 21) (List.getD (gLN l 20) (0+((Int.toNat (gI l 8))*1)) 0) []).length:Nat):Int)))&&true)
 (ck ((ltN (List.getD (gLN l 20) (0+((Int.toNat (gI l 8))*1)) 0) (gLL l 21).length)&&(ltN (0+((Int.toNat (gI l 2))*1)) (List.getD (gLL l 21) (List.getD (gLN l 20) (0+((Int.toNat (gI l 8))*1)) 0) []).length))
 (ck (((eqM (gN l 11) (gL l 12).length)&&true)&&true)
 (T83 [iG l 9,iG l 10,vG l 12,.I (List.getD (List.getD (gLL l 21) (List.getD (gLN l 20) (0+((Int.toNat (gI l 8))*1)) 0) []) (0+((Int.toNat (gI l 2))*1)) 0)]
 (fun j A=>(sw (ck (((leI 0 (List.getD (gL l 18) (0+((Int.toNat (gI l 8))*1)) 0))&&(ltI (List.getD (gL l 18) (0+((Int.toNat (gI l 8))*1)) 0) (((gN l 3):Nat):Int)))&&true)
 (ck ((leN ((0+((Int.toNat (List.getD (gL l 18) (0+((Int.toNat (gI l 8))*1)) 0))*1))+1) (gL l 19).length)&&true)
 (nx 0 [iG l 0,nG l 1,iG l 2,nG l 3,iG l 4,iG l 5,nG l 6,iG l 7,.I (wr .i64 ((gI l 8)+1)),iG l 9,iG l 10,nG l 11,vG l 12,iG l 13,iG l 14,nG l 15,vG l 16,nG l 17,vG l 18,.L (List.set (gL l 19) (0+((Int.toNat (List.getD (gL l 18) (0+((Int.toNat (gI l 8))*1)) 0))*1)) (gI A 0)),uG l 20,wG l 21])))
 (fun _=>none)) j)))))))))
 (ex 0 [iG l 0,nG l 1,nG l 3,iG l 4,iG l 5,iG l 9,iG l 10,nG l 11,vG l 12,iG l 13,iG l 14,nG l 15,vG l 16,nG l 17,vG l 18,vG l 19,uG l 20,wG l 21])
theorem L291_13_4.e0:LEq L291_13_4.O L291_13_4.H 0 L291_13_4.s0:=by intro τ next κ l;kernel_rfl
def L291_13_4:LStep P Cf:=LStep.mk1 (by decide) L291_13_4.e0
def L291_13_4.b:Option τ:=runE L291_13_4 fuel κ t l
def L291_13_4.E:LEnt P:=LStep.E L291_13_4
def L291_13_5.H:LHead:=⟨true,true,0,540685,540685,240543338378,25168778,0,[(PS.mk (us 1 (pI::us 1 ((pp 0)::us 3 ((pp 1)::(rr 2)::(rr 3)::pI::(rr 4)::us 11 (pI::pI::us 10 ((rr 2)::pI::pI::us 28 [])))))) kbo8)],[((Out.exit 2),(PS.mk (us 1 (pI::us 1 ((pp 0)::us 3 ((pp 1)::(rr 2)::(rr 3)::us 1 ((rr 4)::us 11 (pI::pI::us 41 [])))))) kbo8))]⟩
def L291_13_5.O:Orc P:=⟨[T83.E],[],[],40⟩
def L291_13_5.s0:Option τ :=
 br (ltI (gI l 9) (gI l 8))
 (ck (((leI 0 (gI l 9))&&(ltI (gI l 9) (gN l 7)))&&true)
 (ck (ltN (0+((Int.toNat (gI l 9))*1)) (gL l 19).length)
 (ck (((leI 0 (gI l 9))&&(ltI (gI l 9) (gN l 18)))&&true)
 (ck ((ltN (0+((Int.toNat (gI l 9))*1)) (gLN l 22).length)&&(ltN (List.getD (gLN l 22) (0+((Int.toNat (gI l 9))*1)) 0) (gLL l 24).length))
 (ck (((leI 0 (gI l 3))&&(ltI (gI l 3) (((List.getD (gLL l 24) (List.getD (gLN l 22) (0+((Int.toNat (gI l 9))*1)) 0) []).length:Nat):Int)))&&true)
 (ck ((ltN (List.getD (gLN l 22) (0+((Int.toNat (gI l 9))*1)) 0) (gLL l 24).length)&&(ltN (0+((Int.toNat (gI l 3))*1)) (List.getD (gLL l 24) (List.getD (gLN l 22) (0+((Int.toNat (gI l 9))*1)) 0) []).length))
 (ck (((eqM (gN l 12) (gL l 13).length)&&true)&&true)
 (T83 [iG l 10,iG l 11,vG l 13,.I (List.getD (List.getD (gLL l 24) (List.getD (gLN l 22) (0+((Int.toNat (gI l 9))*1)) 0) []) (0+((Int.toNat (gI l 3))*1)) 0)]
 (fun j A=>(sw (ck (((leI 0 (List.getD (gL l 19) (0+((Int.toNat (gI l 9))*1)) 0))&&(ltI (List.getD (gL l 19) (0+((Int.toNat (gI l 9))*1)) 0) (((gN l 4):Nat):Int)))&&true)
 (ck ((leN ((0+((Int.toNat (List.getD (gL l 19) (0+((Int.toNat (gI l 9))*1)) 0))*1))+1) (gL l 21).length)&&true)
 (nx 0 [iG l 0,nG l 1,nG l 2,iG l 3,nG l 4,iG l 5,iG l 6,nG l 7,iG l 8,.I (wr .i64 ((gI l 9)+1)),iG l 10,iG l 11,nG l 12,vG l 13,iG l 14,iG l 15,nG l 16,vG l 17,nG l 18,vG l 19,uG l 20,.L (List.set (gL l 21) (0+((Int.toNat (List.getD (gL l 19) (0+((Int.toNat (gI l 9))*1)) 0))*1)) (gI A 0)),uG l 22,wG l 23,wG l 24])))
 (fun _=>none)) j)))))))))
 (ex 0 [iG l 0,nG l 1,nG l 2,nG l 4,iG l 5,iG l 6,iG l 10,iG l 11,nG l 12,vG l 13,iG l 14,iG l 15,nG l 16,vG l 17,nG l 18,vG l 19,uG l 20,vG l 21,uG l 22,wG l 23,wG l 24])
theorem L291_13_5.e0:LEq L291_13_5.O L291_13_5.H 0 L291_13_5.s0:=by intro τ next κ l;kernel_rfl
def L291_13_5:LStep P Cf:=LStep.mk1 (by decide) L291_13_5.e0
def L291_13_5.b:Option τ:=runE L291_13_5 fuel κ t l
def L291_13_5.E:LEnt P:=LStep.E L291_13_5
def L291_7_2.H:LHead:=⟨true,true,0,540679,540679,25166730,520,0,[(PS.mk (us 1 (pI::us 1 ((pp 0)::us 3 ((pp 1)::(rr 2)::nS::us 13 (pI::pI::us 41 []))))) kbo5),(PS.mk (us 1 (pI::us 1 ((pp 0)::us 3 ((pp 1)::(rr 2)::(rr 3)::us 13 (pI::pI::us 41 []))))) [(oG [pI,pI,qR]),(oG [pI,pI,qR,(rr 4)]),oI,(PO.cells true true (PC.r 5)),(PO.cells true true (PC.r 6)),(PO.fam true .i64),(PO.fam true .i64)])],[((Out.exit 0),(PS.mk (us 3 ((pp 0)::us 5 (nS::us 56 []))) [(oG [pI,pI,qR])])),((Out.exit 0),(PS.mk (us 3 ((pp 0)::us 5 ((rr 1)::us 56 []))) kbo4))]⟩
def L291_7_2.O:Orc P:=⟨[F275.E],[L291_13_4.E,L291_13_5.E],[],40⟩
def L291_7_2.s0:Option τ :=
 br (ltI (gI l 3) (gI l 2))
 (ck ((eqM (gN l 1) (List.take ((gN l 1)*1) (List.drop 0 (gL l 13))).length)&&true)
 (F275 [.L (List.take ((gN l 1)*1) (List.drop 0 (gL l 13))),iG l 3]
 (fun j A=>(sw (br (gB A 0)
 (nx 0 [iG l 0,nG l 1,iG l 2,.I (wr .i64 ((gI l 3)+1)),iG l 4,iG l 5,nG l 6,vG l 7,iG l 8,iG l 9,nG l 10,vG l 11,nG l 12,vG l 13,uG l 14,wG l 15])
 (ck (((leI 0 (gI l 0))&&(leI (gI l 0) (gI l 0)))&&(leI ((gI l 0)*9) 1099511627776))
 (ck (((leI 0 (gI l 3))&&(ltI (gI l 3) (((Int.toNat (gI l 0)):Nat):Int)))&&true)
 (ck ((leN ((0+((Int.toNat (gI l 3))*1))+1) (List.replicate (Int.toNat (gI l 0)) (0:Int)).length)&&true)
 (L291_13_4.b 0 [iG l 0,nG l 1,iG l 3,.N (Int.toNat (gI l 0)),iG l 2,iG l 3,nG l 1,.I (gN l 1),.I 0,iG l 4,iG l 5,nG l 6,vG l 7,iG l 8,iG l 9,nG l 10,vG l 11,nG l 12,vG l 13,.L (List.set (List.replicate (Int.toNat (gI l 0)) (0:Int)) (0+((Int.toNat (gI l 3))*1)) 1),uG l 14,wG l 15]
 (fun j B=>(sw (ck ((((eqM (gN B 2) (gL B 15).length)&&true)&&true)&&true)
 (nx 1 [iG B 0,nG B 1,.N 1,iG B 3,.I (wr .i64 ((gI B 4)+1)),iG B 5,iG B 6,nG B 7,vG B 8,iG B 9,iG B 10,nG B 11,vG B 12,nG B 13,vG B 14,.LN [0],uG B 16,.LL [(gL B 15)],wG B 17]))
 (fun _=>none)) j))))))
 (fun _=>none)) j)))
 (ex 0 [iG l 4,iG l 5,nG l 6,vG l 7])
theorem L291_7_2.e0:LEq L291_7_2.O L291_7_2.H 0 L291_7_2.s0:=by intro τ next κ l;kernel_rfl
def L291_7_2.s1:Option τ :=
 br (ltI (gI l 4) (gI l 3))
 (ck ((eqM (gN l 1) (List.take ((gN l 1)*1) (List.drop 0 (gL l 14))).length)&&true)
 (F275 [.L (List.take ((gN l 1)*1) (List.drop 0 (gL l 14))),iG l 4]
 (fun j A=>(sw (br (gB A 0)
 (nx 1 [iG l 0,nG l 1,nG l 2,iG l 3,.I (wr .i64 ((gI l 4)+1)),iG l 5,iG l 6,nG l 7,vG l 8,iG l 9,iG l 10,nG l 11,vG l 12,nG l 13,vG l 14,uG l 15,uG l 16,wG l 17,wG l 18])
 (ck (((leI 0 (gI l 0))&&(leI (gI l 0) (gI l 0)))&&(leI ((gI l 0)*9) 1099511627776))
 (ck (((leI 0 (gI l 4))&&(ltI (gI l 4) (((Int.toNat (gI l 0)):Nat):Int)))&&true)
 (ck ((leN ((0+((Int.toNat (gI l 4))*1))+1) (List.replicate (Int.toNat (gI l 0)) (0:Int)).length)&&true)
 (L291_13_5.b 0 [iG l 0,nG l 1,nG l 2,iG l 4,.N (Int.toNat (gI l 0)),iG l 3,iG l 4,nG l 1,.I (gN l 1),.I 0,iG l 5,iG l 6,nG l 7,vG l 8,iG l 9,iG l 10,nG l 11,vG l 12,nG l 13,vG l 14,uG l 15,.L (List.set (List.replicate (Int.toNat (gI l 0)) (0:Int)) (0+((Int.toNat (gI l 4))*1)) 1),uG l 16,wG l 17,wG l 18]
 (fun j B=>(sw (ck (((((((eqM (gN B 3) (gL B 17).length)&&true)&&(eqM (gN B 2) (gLN B 16).length))&&true)&&true)&&(ltN (gLL B 19).length 1048576))&&(leN (((gN B 2)+1)*25) 1099511627776))
 (nx 1 [iG B 0,nG B 1,.N ((gN B 2)+1),iG B 4,.I (wr .i64 ((gI B 5)+1)),iG B 6,iG B 7,nG B 8,vG B 9,iG B 10,iG B 11,nG B 12,vG B 13,nG B 14,vG B 15,.LN ((gLN B 16)++[(gLL B 19).length]),uG B 18,.LL ((gLL B 19)++[(gL B 17)]),wG B 20]))
 (fun _=>none)) j))))))
 (fun _=>none)) j)))
 (ex 1 [nG l 2,iG l 5,iG l 6,nG l 7,vG l 8,uG l 15,wG l 17])
theorem L291_7_2.e1:LEq L291_7_2.O L291_7_2.H 1 L291_7_2.s1:=by intro τ next κ l;kernel_rfl
def L291_7_2:LStep P Cf:=LStep.mk2 (by decide) L291_7_2.e0 L291_7_2.e1
def L291_7_2.b:Option τ:=runE L291_7_2 fuel κ t l
def L291_7_2.E:LEnt P:=LStep.E L291_7_2
def F291.ps:List PV2:=[pField,pI,pM]
def F291.sh:List PA:=[(PA.mk (PV3.v nS) []),(PA.mk (PV3.v (PV2.v (PV1.sl PC0.e))) []),(PA.mk (PV3.v qM) [])]
def F291.O:Orc P:=⟨[F300.E],[L291_7.E,L291_7_1.E,L291_7_2.E],[S298_0.E,S299_0.E,S299_1.E],40⟩
def F291:Option τ :=
 S298_0 [iG l 0,iG l 1,.N (gL l 2).length,vG l 2,.N (gLL l 4).length,wG l 4]
 (fun j A=>(sw (br (gtI (((gLL l 4).length:Nat):Int) 0)
 (S299_0 [iG l 3,iG A 0,iG A 1,nG A 2,vG A 3]
 (fun j B=>(sw (L291_7.b 0 [iG l 3,iG l 3,.I 0,iG l 0,iG l 1,.N (gL l 2).length,vG l 2,iG B 0,iG B 1,nG B 2,vG B 3]
 (fun j C=>(sw (ck (((eqM (gN C 2) (gL C 3).length)&&true)&&true)
 (F300 [iG C 0,iG C 1,vG C 3,.LL []]
 (fun j D=>(sw (k 0 [])
 (sw (k 1 [nG D 0])
 (sw (k 2 [nG D 0,wG D 1])
 (fun _=>none)))) j)))
 (sw (ck ((@List.all Nat (List.take ((gN C 0)*1) (List.drop 0 (gLN C 5))) (fun y39=>(ltN y39 (gLL C 6).length)))&&true)
 (ck (((eqM (gN C 3) (gL C 4).length)&&true)&&((eqM (gN C 0) (List.map (fun y38=>(List.getD (gLL C 6) y38 [])) (List.take ((gN C 0)*1) (List.drop 0 (gLN C 5)))).length)&&true))
 (F300 [iG C 1,iG C 2,vG C 4,.LL (List.map (fun y37=>(List.getD (gLL C 6) y37 [])) (List.take ((gN C 0)*1) (List.drop 0 (gLN C 5))))]
 (fun j D=>(sw (k 0 [])
 (sw (k 1 [nG D 0])
 (sw (k 2 [nG D 0,wG D 1])
 (fun _=>none)))) j))))
 (fun _=>none))) j))
 (fun _=>none)) j))
 (L291_7.b 0 [iG l 3,iG l 3,.I 0,iG l 0,iG l 1,.N (gL l 2).length,vG l 2,iG A 0,iG A 1,nG A 2,vG A 3]
 (fun j B=>(sw (ck (((eqM (gN B 2) (gL B 3).length)&&true)&&true)
 (F300 [iG B 0,iG B 1,vG B 3,.LL []]
 (fun j C=>(sw (k 0 [])
 (sw (k 1 [nG C 0])
 (sw (k 2 [nG C 0,wG C 1])
 (fun _=>none)))) j)))
 (sw (ck ((@List.all Nat (List.take ((gN B 0)*1) (List.drop 0 (gLN B 5))) (fun y45=>(ltN y45 (gLL B 6).length)))&&true)
 (ck (((eqM (gN B 3) (gL B 4).length)&&true)&&((eqM (gN B 0) (List.map (fun y44=>(List.getD (gLL B 6) y44 [])) (List.take ((gN B 0)*1) (List.drop 0 (gLN B 5)))).length)&&true))
 (F300 [iG B 1,iG B 2,vG B 4,.LL (List.map (fun y43=>(List.getD (gLL B 6) y43 [])) (List.take ((gN B 0)*1) (List.drop 0 (gLN B 5))))]
 (fun j C=>(sw (k 0 [])
 (sw (k 1 [nG C 0])
 (sw (k 2 [nG C 0,wG C 1])
 (fun _=>none)))) j))))
 (fun _=>none))) j)))
 (sw (br (gtI (((gLL l 4).length:Nat):Int) 0)
 (S299_1 [iG l 3,iG A 0,iG A 1,nG A 2,vG A 3,nG A 4,uG A 5,wG A 6]
 (fun j B=>(sw (L291_7_1.b 0 [iG l 3,iG l 3,.I 0,iG l 0,iG l 1,.N (gL l 2).length,vG l 2,iG B 0,iG B 1,nG B 2,vG B 3,nG B 4,uG B 5,wG B 6]
 (fun j C=>(sw (ck (((eqM (gN C 2) (gL C 3).length)&&true)&&true)
 (F300 [iG C 0,iG C 1,vG C 3,.LL []]
 (fun j D=>(sw (k 0 [])
 (sw (k 1 [nG D 0])
 (sw (k 2 [nG D 0,wG D 1])
 (fun _=>none)))) j)))
 (sw (ck ((@List.all Nat (List.take ((gN C 0)*1) (List.drop 0 (gLN C 5))) (fun y56=>(ltN y56 (gLL C 6).length)))&&true)
 (ck (((eqM (gN C 3) (gL C 4).length)&&true)&&((eqM (gN C 0) (List.map (fun y55=>(List.getD (gLL C 6) y55 [])) (List.take ((gN C 0)*1) (List.drop 0 (gLN C 5)))).length)&&true))
 (F300 [iG C 1,iG C 2,vG C 4,.LL (List.map (fun y54=>(List.getD (gLL C 6) y54 [])) (List.take ((gN C 0)*1) (List.drop 0 (gLN C 5))))]
 (fun j D=>(sw (k 0 [])
 (sw (k 1 [nG D 0])
 (sw (k 2 [nG D 0,wG D 1])
 (fun _=>none)))) j))))
 (fun _=>none))) j))
 (sw (L291_7_2.b 0 [iG l 3,nG B 0,iG l 3,.I 0,iG l 0,iG l 1,.N (gL l 2).length,vG l 2,iG B 1,iG B 2,nG B 3,vG B 4,nG B 5,vG B 8,uG B 6,wG B 7]
 (fun j C=>(sw (ck (((eqM (gN C 2) (gL C 3).length)&&true)&&true)
 (F300 [iG C 0,iG C 1,vG C 3,.LL []]
 (fun j D=>(sw (k 0 [])
 (sw (k 1 [nG D 0])
 (sw (k 2 [nG D 0,wG D 1])
 (fun _=>none)))) j)))
 (sw (ck ((@List.all Nat (List.take ((gN C 0)*1) (List.drop 0 (gLN C 5))) (fun y70=>(ltN y70 (gLL C 6).length)))&&true)
 (ck (((eqM (gN C 3) (gL C 4).length)&&true)&&((eqM (gN C 0) (List.map (fun y69=>(List.getD (gLL C 6) y69 [])) (List.take ((gN C 0)*1) (List.drop 0 (gLN C 5)))).length)&&true))
 (F300 [iG C 1,iG C 2,vG C 4,.LL (List.map (fun y68=>(List.getD (gLL C 6) y68 [])) (List.take ((gN C 0)*1) (List.drop 0 (gLN C 5))))]
 (fun j D=>(sw (k 0 [])
 (sw (k 1 [nG D 0])
 (sw (k 2 [nG D 0,wG D 1])
 (fun _=>none)))) j))))
 (fun _=>none))) j))
 (fun _=>none))) j))
 (L291_7_1.b 0 [iG l 3,iG l 3,.I 0,iG l 0,iG l 1,.N (gL l 2).length,vG l 2,iG A 0,iG A 1,nG A 2,vG A 3,nG A 4,uG A 5,wG A 6]
 (fun j B=>(sw (ck (((eqM (gN B 2) (gL B 3).length)&&true)&&true)
 (F300 [iG B 0,iG B 1,vG B 3,.LL []]
 (fun j C=>(sw (k 0 [])
 (sw (k 1 [nG C 0])
 (sw (k 2 [nG C 0,wG C 1])
 (fun _=>none)))) j)))
 (sw (ck ((@List.all Nat (List.take ((gN B 0)*1) (List.drop 0 (gLN B 5))) (fun y76=>(ltN y76 (gLL B 6).length)))&&true)
 (ck (((eqM (gN B 3) (gL B 4).length)&&true)&&((eqM (gN B 0) (List.map (fun y75=>(List.getD (gLL B 6) y75 [])) (List.take ((gN B 0)*1) (List.drop 0 (gLN B 5)))).length)&&true))
 (F300 [iG B 1,iG B 2,vG B 4,.LL (List.map (fun y74=>(List.getD (gLL B 6) y74 [])) (List.take ((gN B 0)*1) (List.drop 0 (gLN B 5))))]
 (fun j C=>(sw (k 0 [])
 (sw (k 1 [nG C 0])
 (sw (k 2 [nG C 0,wG C 1])
 (fun _=>none)))) j))))
 (fun _=>none))) j)))
 (fun _=>none))) j)
theorem F291.eq:FEq F291.O 132 F291.ps F291.sh F291:=by intro τ l κ;kernel_rfl
def F291.E:Ent P:=mkF F291.eq
end
end Go.Proofs.Yticbdgmcofjkeaa.Ai
namespace Go.Proofs.Yticbdgmcofjkeaa.Ma
section
variable {q:Nat} {add mul:Int→Int→Int} {neg inv:Int→Int}
def El (F:Fld q add mul neg inv):Type:={ a:Int // 0≤a∧a<(q:Int) }
variable {F:Fld q add mul neg inv}
theorem El.ext {a b:El F} (h:a.1=b.1):a=b:=Subtype.ext h
instance:Add (El F):=⟨fun a b=>⟨add a.1 b.1,F.add_in _ _ a.2.1 a.2.2 b.2.1 b.2.2⟩⟩
instance:Mul (El F):=⟨fun a b=>⟨mul a.1 b.1,F.mul_in _ _ a.2.1 a.2.2 b.2.1 b.2.2⟩⟩
instance:Neg (El F):=⟨fun a=>⟨neg a.1,F.neg_in _ a.2.1 a.2.2⟩⟩
instance:OfNat (El F) 0:=⟨⟨0,by have:=F.one_lt;omega⟩⟩
instance:OfNat (El F) 1:=⟨⟨1,by have:=F.one_lt;omega⟩⟩
noncomputable instance:DecidableEq (El F):=fun a b=>Classical.propDecidable _
theorem El.in_ (a:El F):0≤a.1∧a.1<(q:Int):=a.2
def eiv (a:El F):El F:=⟨inv a.1,F.inv_in _ a.2.1 a.2.2⟩
theorem e_neg (a:El F):(-a).1=neg a.1:=rfl
theorem e_zero:(0:El F).1=0:=rfl
theorem e_one:(1:El F).1=1:=rfl
theorem eac (a b:El F):a+b=b+a:=El.ext (F.add_comm _ _ a.2.1 a.2.2 b.2.1 b.2.2)
theorem eaa (a b c:El F):a+b+c=a+(b+c):=El.ext (F.add_assoc _ _ _ a.2.1 a.2.2 b.2.1 b.2.2 c.2.1 c.2.2)
theorem eal (a b c:El F):a+(b+c)=b+(a+c):=by rw [←eaa,eac a b,eaa]
theorem emc (a b:El F):a*b=b*a:=El.ext (F.mul_comm _ _ a.2.1 a.2.2 b.2.1 b.2.2)
theorem ema (a b c:El F):a*b*c=a*(b*c):=El.ext (F.mul_assoc _ _ _ a.2.1 a.2.2 b.2.1 b.2.2 c.2.1 c.2.2)
theorem eml (a b c:El F):a*(b*c)=b*(a*c):=by rw [←ema,emc a b,ema]
theorem ez_a (a:El F):0+a=a:=El.ext (F.zero_add _ a.2.1 a.2.2)
theorem ea_z (a:El F):a+0=a:=by rw [eac,ez_a]
theorem eo_m (a:El F):1*a=a:=El.ext (F.one_mul _ a.2.1 a.2.2)
theorem em_o (a:El F):a*1=a:=by rw [emc,eo_m]
theorem ez_m (a:El F):0*a=0:=El.ext (F.zero_mul _ a.2.1 a.2.2)
theorem em_z (a:El F):a*0=0:=by rw [emc,ez_m]
theorem ed (a b c:El F):a*(b+c)=a*b+a*c:=El.ext (F.distrib _ _ _ a.2.1 a.2.2 b.2.1 b.2.2 c.2.1 c.2.2)
theorem edr (a b c:El F):(a+b)*c=a*c+b*c:=by rw [emc,ed,emc c a,emc c b]
theorem ean (a:El F):a+-a=0:=El.ext (F.add_neg _ a.2.1 a.2.2)
theorem ena (a:El F):-a+a=0:=by rw [eac,ean]
theorem ei {a:El F} (h:a≠0):eiv a*a=1:=El.ext (F.mul_inv _ a.2.1 a.2.2 fun e=>h (El.ext e))
theorem e_one_ne:(1:El F)≠0:=fun h=>by
 have:=congrArg (fun x:El F=>x.1) h
 simp [e_one,e_zero] at this
theorem e_canc {a b c:El F} (h:a+b=a+c):b=c:=by
 rw [←ez_a b,←ez_a c,←ena a,eaa,eaa,h]
theorem e_mz {a b:El F} (h:a*b=0) (ha:a≠0):b=0:=by
 rw [←eo_m b,←ei ha,ema,h,em_z]
theorem e_sub {a b:El F} (h:a+-b=0):a=b:=by
 have:a+-b+b=b:=by rw [h,ez_a]
 rw [eaa,ena,ea_z] at this;exact this
theorem e_nn {a b:El F} (h:a+b=0):b=-a:=e_canc (a:=a) (by rw [h,ean])
theorem e_nm (a b:El F):-a*b=-(a*b):=e_nn (by rw [←edr,ean,ez_m])
theorem e_neg0:-(0:El F)=0:=(e_nn (by rw [ea_z])).symm
def pv:List (El F)→El F→El F
 | [],_=>0
 | c::a,x=>c+x*pv a x
def pa:List (El F)→List (El F)→List (El F)
 | [],b=>b
 | a,[]=>a
 | c::a,d::b=>(c+d)::pa a b
def ps (c:El F) (a:List (El F)):List (El F):=a.map (c*·)
def pm:List (El F)→List (El F)→List (El F)
 | [],_=>[]
 | c::a,b=>pa (ps c b) (0::pm a b)
theorem pa_nil (a:List (El F)):pa a []=a:=by cases a <;> rfl
theorem pa_len:∀ a b:List (El F),(pa a b).length=max a.length b.length
 | [],b=>by simp [pa]
 | c::a,[]=>by simp [pa]
 | c::a,d::b=>by simp [pa,pa_len a b]
theorem ps_len (c:El F) (a:List (El F)):(ps c a).length=a.length:=by simp [ps]
theorem pv_pa:∀ (a b:List (El F)) (x:El F),pv (pa a b) x=pv a x+pv b x
 | [],b,x=>by rw [pa,pv,ez_a]
 | c::a,[],x=>by rw [pa_nil,pv,pv,ea_z]
 | c::a,d::b,x=>by
  rw [pa,pv,pv,pv,pv_pa a b x,ed]
  simp only [eaa,eac,eal]
theorem pv_ps (c:El F):∀ (a:List (El F)) (x:El F),pv (ps c a) x=c*pv a x
 | [],x=>by rw [ps,List.map_nil,pv,em_z]
 | d::a,x=>by
  have:=pv_ps c a x
  rw [ps] at this
  rw [ps,List.map_cons,pv,pv,this,ed,eml]
theorem pv_zc (a:List (El F)) (x:El F):pv (0::a) x=x*pv a x:=by rw [pv,ez_a]
theorem pv_pm:∀ (a b:List (El F)) (x:El F),pv (pm a b) x=pv a x*pv b x
 | [],b,x=>by rw [pm,pv,ez_m]
 | c::a,b,x=>by rw [pm,pv_pa,pv_ps,pv_zc,pv_pm a b x,pv,edr,ema]
theorem pm_len:∀ (a b:List (El F)),b≠[]→(pm a b).length=if a=[] then 0 else a.length+b.length-1
 | [],b,h=>by simp [pm]
 | [c],b,h=>by
  have:0<b.length:=List.length_pos_iff.2 h
  simp [pm,pa_len,ps_len];omega
 | c::d::a,b,h=>by
  have h1:=pm_len (d::a) b h
  have:0<b.length:=List.length_pos_iff.2 h
  rw [pm,pa_len,ps_len,List.length_cons,h1]
  simp;omega
def sd (r:El F):List (El F)→List (El F)
 | []=>[]
 | [_]=>[]
 | _::d::a=>pv (d::a) r::sd r (d::a)
theorem sd_len (r:El F):∀ a:List (El F),(sd r a).length=a.length-1
 | []=>rfl
 | [_]=>rfl
 | c::d::a=>by rw [sd,List.length_cons,sd_len r (d::a)];simp
theorem sd_alg (c x r A B:El F):c+x*(A+(x+-r)*B)=c+r*A+(x+-r)*(A+x*B):=by
 have e2:(x+-r)*(A+x*B)=(x*A+-r*A)+x*((x+-r)*B):=by rw [ed,edr x (-r) A,eml]
 have e3:c+r*A+(x*A+-r*A+x*((x+-r)*B))=c+((r*A+-r*A)+(x*A+x*((x+-r)*B))):=by simp only [eaa,eac,eal]
 rw [e2,e3,←edr,ean,ez_m,ez_a,ed x A]
theorem sd_pv (r x:El F):∀ a:List (El F),pv a x=pv a r+(x+-r)*pv (sd r a) x
 | []=>by simp only [sd,pv,em_z,ea_z]
 | [c]=>by simp only [sd,pv,em_z,ea_z]
 | c::d::a=>by
  have h:=sd_pv r x (d::a)
  show c+x*pv (d::a) x=c+r*pv (d::a) r+(x+-r)*(pv (d::a) r+x*pv (sd r (d::a)) x)
  rw [h]
  exact sd_alg _ _ _ _ _
theorem sd_zero (r:El F):∀ a:List (El F),pv a r=0→(∀ c∈sd r a,c=0)→∀ c∈a,c=0
 | [],_,_=>by simp
 | [c],h,_=>by
  simp only [pv,em_z,ea_z] at h
  simpa using h
 | c::d::a,h,hs=>by
  rw [sd] at hs
  have h1:pv (d::a) r=0:=hs _ (by simp)
  have h2:=sd_zero r (d::a) h1 fun c hc=>hs c (by simp [hc])
  rw [pv,h1,em_z,ea_z] at h
  intro x hx
  rcases List.mem_cons.1 hx with e | hx
  ·rw [e,h]
  ·exact h2 x hx
theorem pv_zeros:∀ (a:List (El F)) (x:El F),(∀ c∈a,c=0)→pv a x=0
 | [],_,_=>rfl
 | c::a,x,h=>by rw [pv,h c (by simp),pv_zeros a x fun c hc=>h c (by simp [hc]),em_z,ea_z]
theorem vanish:∀ (xs:List (El F)) (a:List (El F)),xs.Nodup→a.length≤xs.length→(∀ x∈xs,pv a x=0)→∀ c∈a,c=0
 | [],a,_,hl,_=>by
  have:a=[]:=List.length_eq_zero_iff.1 (by simpa using hl)
  rw [this];simp
 | r::xs,a,hn,hl,h=>by
  refine sd_zero r a (h r (by simp)) (vanish xs (sd r a) (List.nodup_cons.1 hn).2 (by rw [sd_len];simp at hl;omega) fun x hx=>?_)
  have hx0:=h x (by simp [hx])
  rw [sd_pv r x a,h r (by simp),ez_a] at hx0
  refine e_mz hx0 fun e=>?_
  have:=e_sub e
  exact (List.nodup_cons.1 hn).1 (this▸hx)
def loc:List (El F)→List (El F)
 | []=>[1]
 | r::rs=>pm [-r,1] (loc rs)
theorem loc_len:∀ rs:List (El F),(loc rs).length=rs.length+1
 | []=>rfl
 | r::rs=>by
  have h:=loc_len rs
  have hn:loc rs≠[]:=fun e=>by rw [e] at h;simp at h
  rw [loc,pm_len _ _ hn,h];simp;omega
theorem loc_cons (r:El F) (rs:List (El F)) (x:El F):pv (loc (r::rs)) x=(x+-r)*pv (loc rs) x:=by
 rw [loc,pv_pm];simp only [pv,em_z,ea_z,em_o];rw [eac]
theorem loc_zero:∀ (rs:List (El F)) (x:El F),pv (loc rs) x=0↔x∈rs
 | [],x=>by simp only [loc,pv,em_z,ea_z,List.not_mem_nil,iff_false];exact e_one_ne
 | r::rs,x=>by
  rw [loc_cons,List.mem_cons,←loc_zero rs x]
  constructor
  ·intro h
   by_cases hx:x=r
   ·exact .inl hx
   ·exact .inr (e_mz h fun e=>hx (e_sub e))
  ·rintro (h | h)
   ·rw [h,ean,ez_m]
   ·rw [h,em_z]
def cf (a:List (El F)) (j:Nat):El F:=a.getD j 0
theorem cf_nil (j:Nat):cf ([]:List (El F)) j=0:=by simp [cf]
theorem cf_cons0 (c:El F) (a:List (El F)):cf (c::a) 0=c:=by simp [cf]
theorem cf_consS (c:El F) (a:List (El F)) (j:Nat):cf (c::a) (j+1)=cf a j:=by simp [cf]
theorem cf_far {a:List (El F)} {j:Nat} (h:a.length≤j):cf a j=0:=by simp [cf,List.getD_eq_getElem?_getD,List.getElem?_eq_none h]
theorem cf_pa:∀ (a b:List (El F)) (j:Nat),cf (pa a b) j=cf a j+cf b j
 | [],b,j=>by rw [pa,cf_nil,ez_a]
 | c::a,[],j=>by rw [pa_nil,cf_nil,ea_z]
 | c::a,d::b,0=>by rw [pa,cf_cons0,cf_cons0,cf_cons0]
 | c::a,d::b,j+1=>by rw [pa,cf_consS,cf_consS,cf_consS,cf_pa a b j]
theorem cf_ps (c:El F) (a:List (El F)) (j:Nat):cf (ps c a) j=c*cf a j:=by
 by_cases h:j<a.length
 ·simp [cf,ps,List.getD_eq_getElem?_getD,h]
 ·rw [cf_far (by rw [ps_len];omega),cf_far (by omega),em_z]
theorem cf_mem {a:List (El F)} {j:Nat} (h:j<a.length):cf a j∈a:=by
 simp [cf,List.getD_eq_getElem?_getD,h]
theorem cf_zero {a:List (El F)} (h:∀ c∈a,c=0) (j:Nat):cf a j=0:=by
 by_cases hj:j<a.length
 ·exact h _ (cf_mem hj)
 ·exact cf_far (by omega)
theorem cf_ext {a b:List (El F)} (hl:a.length=b.length) (h:∀ j,j<a.length→cf a j=cf b j):a=b:=by
 apply List.ext_getElem hl
 intro j h1 h2
 have:=h j h1
 simpa [cf,List.getD_eq_getElem?_getD,h1,h2] using this
theorem pv_cf:∀ (a b:List (El F)) (x:El F),(∀ j,cf a j=cf b j)→pv a x=pv b x
 | [],b,x,h=>by
  rw [pv,pv_zeros b x]
  intro c hc
  obtain ⟨j,hj,rfl⟩:=List.getElem_of_mem hc
  have:=h j
  rw [cf_nil] at this
  simpa [cf,List.getD_eq_getElem?_getD,hj] using this.symm
 | a,[],x,h=>by
  rw [pv_zeros a x];rfl
  intro c hc
  obtain ⟨j,hj,rfl⟩:=List.getElem_of_mem hc
  have:=h j
  rw [cf_nil] at this
  simpa [cf,List.getD_eq_getElem?_getD,hj] using this
 | c::a,d::b,x,h=>by
  have h0:=h 0
  rw [cf_cons0,cf_cons0] at h0
  rw [pv,pv,h0,pv_cf a b x fun j=>by have:=h (j+1);rwa [cf_consS,cf_consS] at this]
theorem pm_take:∀ (a b:List (El F)) (n j:Nat),cf (pm (a.take (n+1)) b) j=cf (pm (a.take n) b) j+(if n≤j then cf a n*cf b (j-n) else 0)
 | [],b,n,j=>by simp only [List.take_nil,cf_nil,pm,ez_m,ite_self,ea_z]
 | c::a,b,0,j=>by
  rw [List.take_succ_cons,List.take_zero,List.take_zero,pm,pm,pm,cf_pa,cf_ps,cf_nil,ez_a,if_pos (Nat.zero_le _),cf_cons0,Nat.sub_zero]
  cases j with
  | zero=>rw [cf_cons0,ea_z]
  | succ j=>rw [cf_consS,cf_nil,ea_z]
 | c::a,b,n+1,j=>by
  rw [List.take_succ_cons,List.take_succ_cons,pm,pm,cf_pa,cf_pa,eaa]
  congr 1
  cases j with
  | zero=>rw [cf_cons0,cf_cons0,if_neg (by omega),ea_z]
  | succ j =>
   rw [cf_consS,cf_consS,cf_consS,pm_take a b n j,Nat.add_sub_add_right]
   simp only [Nat.add_le_add_iff_right]
theorem pm_far (a b:List (El F)) (hb:b≠[]) (n j:Nat) (h:n+b.length≤j+1):cf (pm (a.take n) b) j=0:=by
 refine cf_far ?_
 rw [pm_len _ _ hb]
 split
 ·omega
 ·rename_i h1
  have:0<(a.take n).length:=List.length_pos_iff.2 h1
  have h2:(a.take n).length≤n:=by simp;omega
  omega
end
end Go.Proofs.Yticbdgmcofjkeaa.Ma
namespace Go.Proofs.Yticbdgmcofjkeaa.Ma
def evI (add mul:Int→Int→Int):List Int→Int→Int
 | [],_=>0
 | c::a,x=>add (mul (evI add mul a x) x) c
def wordI (q:Nat) (add mul:Int→Int→Int) (m:List Int):List Int:=(List.range (q-1)).map fun i=>evI add mul m ((i+1:Nat):Int)
theorem wordI_len {q:Nat} {add mul:Int→Int→Int} {m:List Int}:(wordI q add mul m).length=q-1:=by simp [wordI]
theorem wordI_get {q:Nat} {add mul:Int→Int→Int} {m:List Int} {i:Nat} (hi:i<q-1):(wordI q add mul m).getD i 0=evI add mul m ((i+1:Nat):Int):=by
 simp [wordI,List.getD_eq_getElem?_getD,hi]
section
variable {q:Nat} {add mul:Int→Int→Int} {neg inv:Int→Int} {F:Fld q add mul neg inv}
def lv (a:List (El F)):List Int:=a.map fun x=>x.1
theorem lv_len (a:List (El F)):(lv a).length=a.length:=by simp [lv]
theorem lv_get (a:List (El F)) (j:Nat):(lv a).getD j 0=(cf a j).1:=by
 by_cases h:j<a.length
 ·simp [lv,cf,List.getD_eq_getElem?_getD,h]
 ·rw [cf_far (by omega),List.getD_eq_getElem?_getD,List.getElem?_eq_none (by rw [lv_len];omega)];rfl
theorem lv_in (a:List (El F)):InQ q (lv a):=fun j hj=>by rw [lv_get];exact (cf a j).2
theorem in_mem {l:List Int} (h:InQ q l):∀ c∈l,0≤c∧c<q:=fun c hc=>by
 obtain ⟨j,hj,rfl⟩:=List.getElem_of_mem hc
 have:=h j hj
 simpa [List.getD_eq_getElem?_getD,hj] using this
theorem mem_in {l:List Int} (h:∀ c∈l,0≤c∧c<(q:Int)):InQ q l:=fun j hj=>by
 have:=h (l.getD j 0) (by simp [List.getD_eq_getElem?_getD,hj])
 exact this
theorem in_get {l:List Int} (F:Fld q add mul neg inv) (h:InQ q l) (j:Nat):0≤l.getD j 0∧l.getD j 0<q:=by
 by_cases hj:j<l.length
 ·exact h j hj
 ·rw [List.getD_eq_getElem?_getD,List.getElem?_eq_none (by omega)]
  have:=F.one_lt
  constructor <;> simp;omega
def tE (F:Fld q add mul neg inv) (a:Int):El F:=⟨if 0≤a∧a<(q:Int) then a else 0,by have:=F.one_lt;split <;> omega⟩
theorem tE_val {a:Int} (h:0≤a∧a<(q:Int)):(tE F a).1=a:=if_pos h
theorem tE_lv {l:List Int} (h:InQ q l):lv (l.map (tE F))=l:=by
 have:=in_mem h
 clear h
 induction l with
 | nil=>rfl
 | cons c l ih =>
  have h1:=this c (by simp)
  have h2:=ih fun c hc=>this c (by simp [hc])
  rw [lv] at h2
  rw [lv,List.map_cons,List.map_cons,h2,tE_val h1]
theorem ev_lv:∀ (a:List (El F)) (x:El F),evI add mul (lv a) x.1=(pv a x).1
 | [],x=>rfl
 | c::a,x=>by
  have h:=ev_lv a x
  rw [lv] at h
  rw [lv,List.map_cons,evI,h,pv,eac,emc];rfl
def px (F:Fld q add mul neg inv) (i:Nat):El F:=tE F ((i+1:Nat):Int)
theorem px_val {i:Nat} (h:i<q-1):(px F i).1=((i+1:Nat):Int):=tE_val (by omega)
theorem px_inj {i j:Nat} (hi:i<q-1) (hj:j<q-1) (h:px F i=px F j):i=j:=by
 have:=congrArg (fun x:El F=>x.1) h
 simp only [px_val hi,px_val hj] at this
 omega
theorem px_nodup:∀ {l:List Nat},l.Nodup→(∀ i∈l,i<q-1)→(l.map (px F)).Nodup
 | [],_,_=>by simp
 | i::l,hn,hl=>by
  rw [List.map_cons,List.nodup_cons]
  refine ⟨fun h=>?_,px_nodup (List.nodup_cons.1 hn).2 fun j hj=>hl j (by simp [hj])⟩
  obtain ⟨j,hj,e⟩:=List.mem_map.1 h
  have:=px_inj (hl j (by simp [hj])) (hl i (by simp)) e
  exact (List.nodup_cons.1 hn).1 (this▸hj)
theorem wordI_lv (a:List (El F)) {i:Nat} (hi:i<q-1):(wordI q add mul (lv a)).getD i 0=(pv a (px F i)).1:=by
 rw [wordI_get hi,←px_val (F:=F) hi,ev_lv]
theorem vanishN {l:List Nat} (hn:l.Nodup) (hl:∀ i∈l,i<q-1) {a:List (El F)} (ha:a.length≤l.length) (h:∀ i∈l,pv a (px F i)=0):∀ c∈a,c=0 :=
 vanish (l.map (px F)) a (px_nodup hn hl) (by simpa using ha) fun x hx=>by
  obtain ⟨i,hi,rfl⟩:=List.mem_map.1 hx
  exact h i hi
theorem pv_sub (a b:List (El F)) (x:El F):pv (pa a (ps (-1) b)) x=pv a x+-pv b x:=by rw [pv_pa,pv_ps,e_nm,eo_m]
theorem agree {l:List Nat} (hn:l.Nodup) (hl:∀ i∈l,i<q-1) {a b:List (El F)} (ha:a.length≤l.length) (hb:b.length≤l.length) (h:∀ i∈l,pv a (px F i)=pv b (px F i)) (j:Nat):cf a j=cf b j:=by
 have:=vanishN hn hl (a:=pa a (ps (-1) b)) (by rw [pa_len,ps_len];omega) fun i hi=>by rw [pv_sub,h i hi,ean]
 have h1:=cf_zero this j
 rw [cf_pa,cf_ps,e_nm,eo_m] at h1
 exact e_sub h1
theorem key {k e:Nat} (hk:0<k) {m N E:List (El F)} (hm:m.length=k) (hN:N.length=k+e) (hE:E.length=e+1) {l:List Nat} (hn:l.Nodup) (hl:∀ i∈l,i<q-1) (hc:k+e≤l.length) (h:∀ i∈l,pv N (px F i)=pv m (px F i)*pv E (px F i)) (j:Nat):cf N j=cf (pm m E) j:=by
 refine agree hn hl (by omega) ?_ (fun i hi=>by rw [h i hi,pv_pm]) j
 rw [pm_len _ _ (fun e0=>by rw [e0] at hE;simp at hE)]
 split
 ·omega
 ·omega
def agr (lost:Nat→Bool) (w x:List Int) (n:Nat):List Nat:=(List.range n).filter fun j=>!lost j&&x.getD j 0==w.getD j 0
theorem agr_nd (lost:Nat→Bool) (w x:List Int) (n:Nat):(agr lost w x n).Nodup:=List.nodup_range.sublist (List.filter_sublist ..)
theorem agr_mem {lost:Nat→Bool} {w x:List Int} {n j:Nat}:j∈agr lost w x n↔j<n∧lost j=false∧x.getD j 0=w.getD j 0:=by
 simp [agr,List.mem_filter]
theorem agr_len (lost:Nat→Bool) (w x:List Int):∀ n,(agr lost w x n).length+far lost w x 0 n+nlost lost n=n
 | 0=>rfl
 | n+1=>by
  have ih:=agr_len lost w x n
  rw [far_succ,nlost,Nat.zero_add]
  unfold agr at ih ⊢
  rw [List.range_succ,List.filter_append,List.length_append]
  generalize (List.filter (fun j=>!lost j&&x.getD j 0==w.getD j 0) (List.range n)).length=A at ih ⊢
  have e1:∀ b:Bool,(x.getD n 0==w.getD n 0)=b→(x.getD n 0 != w.getD n 0)=!b:=fun b h=>by rw [bne,h]
  cases hlo:lost n <;> cases he:(x.getD n 0==w.getD n 0) <;> simp only [hlo,he,e1 _ he,List.filter_cons,List.filter_nil] <;> simp <;> omega
theorem agr_diff {lost:Nat→Bool} {w x:List Int} {n:Nat}:((List.range n).filter fun j=>!lost j&&x.getD j 0 != w.getD j 0).length=far lost w x 0 n:=by
 induction n with
 | zero=>rfl
 | succ n ih =>
  rw [far_succ,Nat.zero_add,List.range_succ,List.filter_append,List.length_append,ih]
  congr 1
  cases hb:(!lost n&&x.getD n 0 != w.getD n 0) <;> simp only [List.filter_cons,hb,List.filter_nil] <;> simp
end
end Go.Proofs.Yticbdgmcofjkeaa.Ma
namespace Go.Proofs.Yticbdgmcofjkeaa.Ma
def tlen (a:List Int):Nat→Nat
 | 0=>0
 | n+1=>if a.getD n 0=0 then tlen a n else n+1
def trimI (a:List Int):List Int:=a.take (tlen a a.length)
theorem tlen_le (a:List Int):∀ n,tlen a n≤n
 | 0=>Nat.le_refl _
 | n+1=>by
  have:=tlen_le a n
  unfold tlen;split <;> omega
theorem tlen_zero (a:List Int):∀ n j,tlen a n≤j→j<n→a.getD j 0=0
 | 0,j,_,h=>by omega
 | n+1,j,h1,h2=>by
  unfold tlen at h1
  split at h1
  ·rename_i h0
   by_cases hj:j=n
   ·rw [hj];exact h0
   ·exact tlen_zero a n j h1 (by omega)
  ·omega
theorem tlen_last (a:List Int):∀ n,0<tlen a n→a.getD (tlen a n-1) 0≠0
 | 0,h=>by unfold tlen at h;omega
 | n+1,h=>by
  by_cases h0:a.getD n 0=0
  ·have e:tlen a (n+1)=tlen a n:=by rw [tlen,if_pos h0]
   rw [e] at h ⊢
   exact tlen_last a n h
  ·have e:tlen a (n+1)=n+1:=by rw [tlen,if_neg h0]
   rw [e];exact h0
theorem getD_far {a:List Int} {j:Nat} (h:a.length≤j):a.getD j 0=0:=by
 rw [List.getD_eq_getElem?_getD,List.getElem?_eq_none h];rfl
theorem trimI_len (a:List Int):(trimI a).length=tlen a a.length:=by
 have:=tlen_le a a.length
 simp [trimI];omega
theorem trimI_le (a:List Int):(trimI a).length≤a.length:=by rw [trimI_len];exact tlen_le _ _
theorem take_getD (a:List Int) (n j:Nat):(a.take n).getD j 0=if j<n then a.getD j 0 else 0:=by
 by_cases h:j<n
 ·rw [if_pos h,List.getD_eq_getElem?_getD,List.getD_eq_getElem?_getD,List.getElem?_take_of_lt h]
 ·rw [if_neg h];exact getD_far (by simp;omega)
theorem trimI_get (a:List Int) (j:Nat):(trimI a).getD j 0=a.getD j 0:=by
 rw [trimI,take_getD]
 split
 ·rfl
 ·by_cases hj:j<a.length
  ·exact (tlen_zero a _ j (by omega) hj).symm
  ·exact (getD_far (by omega)).symm
theorem trimI_last {a:List Int} (h:trimI a≠[]):a.getD ((trimI a).length-1) 0≠0:=by
 have:0<(trimI a).length:=List.length_pos_iff.2 h
 rw [trimI_len] at this ⊢
 exact tlen_last a _ this
theorem trimI_nil {a:List Int} (h:∀ j,a.getD j 0=0):trimI a=[]:=by
 cases h0:trimI a with
 | nil=>rfl
 | cons c l=>exact absurd (h _) (trimI_last (a:=a) (by rw [h0];simp))
theorem trimI_bound {a:List Int} {n:Nat} (h:∀ j,n≤j→a.getD j 0=0):(trimI a).length≤n:=by
 by_cases h0:trimI a=[]
 ·rw [h0];exact Nat.zero_le _
 ·have h1:=trimI_last h0
  have h2:0<(trimI a).length:=List.length_pos_iff.2 h0
  refine Nat.le_of_not_lt fun h3=>h1 (h _ (by omega))
theorem trimI_in {q:Nat} {a:List Int} (h:InQ q a):InQ q (trimI a):=fun j hj=>by
 rw [trimI_get];exact h j (Nat.lt_of_lt_of_le hj (trimI_le a))
def padI (a:List Int) (i:Nat):List Int:=a++List.replicate (i+1-a.length) 0
def withI (add:Int→Int→Int) (a:List Int) (i:Nat) (c:Int):List Int:=(padI a i).set i (add (a.getD i 0) c)
theorem padI_len (a:List Int) (i:Nat):(padI a i).length=max a.length (i+1):=by simp [padI];omega
theorem padI_get (a:List Int) (i j:Nat):(padI a i).getD j 0=a.getD j 0:=by
 unfold padI
 by_cases h:j<a.length
 ·simp [List.getD_eq_getElem?_getD,List.getElem?_append_left h]
 ·rw [getD_far (a:=a) (by omega),List.getD_eq_getElem?_getD,List.getElem?_append_right (by omega)]
  by_cases h2:j-a.length<i+1-a.length
  ·rw [List.getElem?_replicate,if_pos h2];rfl
  ·rw [List.getElem?_replicate,if_neg h2];rfl
theorem withI_len (add:Int→Int→Int) (a:List Int) (i:Nat) (c:Int):(withI add a i c).length=max a.length (i+1):=by rw [withI,List.length_set,padI_len]
theorem withI_get (add:Int→Int→Int) (a:List Int) (i:Nat) (c:Int) (j:Nat):(withI add a i c).getD j 0=if j=i then add (a.getD i 0) c else a.getD j 0:=by
 unfold withI
 by_cases h:j=i
 ·subst h
  have:j<(padI a j).length:=by rw [padI_len];omega
  rw [if_pos rfl]
  simp [List.getD_eq_getElem?_getD,List.getElem?_set,this]
 ·rw [if_neg h]
  rw [←padI_get a i j]
  rw [List.getD_eq_getElem?_getD,List.getD_eq_getElem?_getD,List.getElem?_set_ne fun e=>h e.symm,←List.getD_eq_getElem?_getD]
def scT (add mul:Int→Int→Int) (c:Int) (n:Nat) (a to:List Int):Nat→List Int
 | 0=>to
 | i+1=>withI add (scT add mul c n a to i) (i+n) (mul c (a.getD i 0))
theorem scT_len (add mul:Int→Int→Int) (c:Int) (n:Nat) (a to:List Int):∀ i,i+n≤to.length→(scT add mul c n a to i).length=to.length
 | 0,_=>rfl
 | i+1,h=>by rw [scT,withI_len,scT_len add mul c n a to i (by omega)];omega
theorem scT_get (add mul:Int→Int→Int) (c:Int) (n:Nat) (a to:List Int) (j:Nat):∀ i,(scT add mul c n a to i).getD j 0=if n≤j∧j<n+i then add (to.getD j 0) (mul c (a.getD (j-n) 0)) else to.getD j 0
 | 0=>by rw [if_neg (by omega)];rfl
 | i+1=>by
  rw [scT,withI_get,scT_get add mul c n a to j i]
  by_cases h:j=i+n
  ·subst h
   have:=scT_get add mul c n a to (i+n) i
   rw [if_neg (by omega)] at this
   rw [if_pos rfl,this,if_pos (by omega),Nat.add_sub_cancel]
  ·rw [if_neg h]
   by_cases h2:n≤j∧j<n+i
   ·rw [if_pos h2,if_pos (by omega)]
   ·rw [if_neg h2,if_neg (by omega)]
def dvT (add mul:Int→Int→Int) (neg:Int→Int) (b:List Int) (i0:Int) (r0:List Int) (t0:Nat):Nat→List Int×List Int
  | 0=>([],r0)
  | s+1 =>
    (withI add (dvT add mul neg b i0 r0 t0 s).1 (t0-1-s) (mul ((dvT add mul neg b i0 r0 t0 s).2.getD (t0-1-s+b.length-1) 0) i0),
     scT add mul (neg (mul ((dvT add mul neg b i0 r0 t0 s).2.getD (t0-1-s+b.length-1) 0) i0)) (t0-1-s) b (dvT add mul neg b i0 r0 t0 s).2 b.length)
section
variable {q:Nat} {add mul:Int→Int→Int} {neg inv:Int→Int}
theorem withI_in (F:Fld q add mul neg inv) {a:List Int} {i:Nat} {c:Int} (ha:InQ q a) (hc:0≤c∧c<q):InQ q (withI add a i c):=fun j hj=>by
 rw [withI_get]
 have h1:=in_get F ha i
 have h2:=in_get F ha j
 split
 ·exact F.add_in _ _ h1.1 h1.2 hc.1 hc.2
 ·exact h2
theorem scT_in (F:Fld q add mul neg inv) {c:Int} {n:Nat} {a to:List Int} (ha:InQ q a) (ht:InQ q to) (hc:0≤c∧c<q):∀ i,InQ q (scT add mul c n a to i)
 | 0=>ht
 | i+1=>by
  have h:=in_get F ha i
  exact withI_in F (scT_in F ha ht hc i) (F.mul_in _ _ hc.1 hc.2 h.1 h.2)
theorem dvT_in (F:Fld q add mul neg inv) {b:List Int} {i0:Int} {r0:List Int} {t0:Nat} (hb:InQ q b) (hr:InQ q r0) (hi:0≤i0∧i0<q):∀ s,InQ q (dvT add mul neg b i0 r0 t0 s).1∧InQ q (dvT add mul neg b i0 r0 t0 s).2
 | 0=>⟨fun j hj=>by simp [dvT] at hj,hr⟩
 | s+1=>by
  have ih:=dvT_in F (t0:=t0) hb hr hi s
  have h:=in_get F ih.2 (t0-1-s+b.length-1)
  have hm:=F.mul_in _ _ h.1 h.2 hi.1 hi.2
  exact ⟨withI_in F ih.1 hm,scT_in F hb ih.2 (F.neg_in _ hm.1 hm.2) _⟩
theorem dvT_len {b:List Int} {i0:Int} {r0:List Int} {t0:Nat} (ht:t0+b.length≤r0.length+1) (hb:0<b.length):∀ s,s≤t0→(dvT add mul neg b i0 r0 t0 s).2.length=r0.length
 | 0,_=>rfl
 | s+1,h=>by
  have ih:=dvT_len (i0:=i0) ht hb s (by omega)
  rw [dvT,scT_len _ _ _ _ _ _ _ (by rw [ih];omega),ih]
theorem dvT_qlen {b:List Int} {i0:Int} {r0:List Int} {t0:Nat}:∀ s,s≤t0→(dvT add mul neg b i0 r0 t0 s).1.length=if s=0 then 0 else t0
 | 0,_=>rfl
 | 1,h=>by rw [dvT,withI_len];simp [dvT];omega
 | s+2,h=>by
  have ih:=dvT_qlen (b:=b) (i0:=i0) (r0:=r0) (t0:=t0) (s+1) (by omega)
  rw [dvT,withI_len,ih];simp;omega
variable {F:Fld q add mul neg inv}
theorem dvT_exact {m B:List (El F)} {b:List Int} (hb:lv B=b) (hb0:0<b.length) (hl:cf B (b.length-1)≠0) {r0:List Int} {t0:Nat}
  (hr:∀ j,r0.getD j 0=(cf (pm (m.take t0) B) j).1) :
  ∀ s,s≤t0→(∀ j,(dvT add mul neg b (inv (b.getD (b.length-1) 0)) r0 t0 s).2.getD j 0=(cf (pm (m.take (t0-s)) B) j).1) ∧
   (∀ j,(dvT add mul neg b (inv (b.getD (b.length-1) 0)) r0 t0 s).1.getD j 0=if t0-s≤j∧j<t0 then (cf m j).1 else 0)
 | 0,_=>⟨hr,fun j=>by rw [if_neg (by omega)];simp [dvT]⟩
 | s+1,h=>by
  obtain ⟨ih1,ih2⟩:=dvT_exact hb hb0 hl hr s (by omega)
  have hB:B.length=b.length:=by rw [←hb,lv_len]
  have hBn:B≠[]:=fun e=>by rw [e] at hB;simp at hB;omega
  obtain ⟨t,htt⟩:∃ t,t0-s=t+1:=⟨t0-s-1,by omega⟩
  have e1:t0-1-s=t:=by omega
  have e2:t0-(s+1)=t:=by omega
  have hc:mul ((dvT add mul neg b (inv (b.getD (b.length-1) 0)) r0 t0 s).2.getD (t+b.length-1) 0) (inv (b.getD (b.length-1) 0))=(cf m t).1:=by
   rw [ih1,htt,pm_take,pm_far m B hBn t _ (by omega),ez_a,if_pos (by omega)]
   have:t+b.length-1-t=b.length-1:=by omega
   rw [this]
   have hg:b.getD (b.length-1) 0=(cf B (b.length-1)).1:=by rw [←hb,lv_get,lv_len]
   rw [hg]
   have:mul (cf m t*cf B (b.length-1)).1 (inv (cf B (b.length-1)).1)=((cf m t*cf B (b.length-1))*eiv (cf B (b.length-1))).1:=rfl
   rw [this,ema,emc (cf B _),ei hl,em_o]
  rw [dvT,e1,hc,e2]
  constructor
  ·intro j
   show (scT add mul (neg (cf m t).1) t b (dvT add mul neg b (inv (b.getD (b.length-1) 0)) r0 t0 s).2 b.length).getD j 0=_
   rw [scT_get,ih1,htt,pm_take]
   have hbj:∀ i,b.getD i 0=(cf B i).1:=fun i=>by rw [←hb,lv_get]
   by_cases hj:t≤j
   ·rw [if_pos hj]
    by_cases h2:t≤j∧j<t+b.length
    ·rw [if_pos h2,hbj]
     show ((cf (pm (List.take t m) B) j+cf m t*cf B (j-t))+-(cf m t)*cf B (j-t)).1=_
     rw [eaa,←edr,ean,ez_m,ea_z]
    ·rw [if_neg h2,cf_far (a:=B) (by omega),em_z,ea_z]
   ·rw [if_neg hj,if_neg (by omega),ea_z]
  ·intro j
   show (withI add (dvT add mul neg b (inv (b.getD (b.length-1) 0)) r0 t0 s).1 t (cf m t).1).getD j 0=_
   rw [withI_get,ih2,ih2]
   by_cases hj:j=t
   ·subst hj
    rw [if_pos rfl,if_neg (by omega),if_pos (by omega)]
    show (0+cf m j).1=_
    rw [ez_a]
   ·rw [if_neg hj]
    by_cases h2:t0-s≤j∧j<t0
    ·rw [if_pos h2,if_pos (by omega)]
    ·rw [if_neg h2,if_neg (by omega)]
theorem pm_short {m B:List (El F)} {L t0:Nat} (hB:B≠[]) (hl:cf B (B.length-1)≠0) (ht:L+1≤t0+B.length) (hz:∀ j,L≤j→cf (pm m B) j=0) :
  ∀ d,(∀ j,cf (pm (m.take (t0+d)) B) j=cf (pm m B) j)→(∀ j,cf (pm (m.take t0) B) j=cf (pm m B) j)∧∀ j,t0≤j→j<t0+d→cf m j=0
 | 0,h=>⟨h,fun j a b=>by omega⟩
 | d+1,h=>by
  have hb:0<B.length:=List.length_pos_iff.2 hB
  have h0:cf m (t0+d)=0:=by
   have h1:=h (t0+d+B.length-1)
   rw [←Nat.add_assoc,pm_take,pm_far m B hB _ _ (by omega),ez_a,if_pos (by omega),hz _ (by omega)] at h1
   have:t0+d+B.length-1-(t0+d)=B.length-1:=by omega
   rw [this] at h1
   rw [emc] at h1
   exact e_mz h1 hl
  obtain ⟨h2,h3⟩:=pm_short hB hl ht hz d fun j=>by
   have h1:=h j
   rw [←Nat.add_assoc,pm_take,h0,ez_m,ite_self,ea_z] at h1
   exact h1
  exact ⟨h2,fun j a b=>by
   by_cases hj:j=t0+d
   ·rw [hj];exact h0
   ·exact h3 j a (by omega)⟩
theorem pm_cong (m:List (El F)) {B C:List (El F)} (h:∀ j,cf B j=cf C j):∀ n j,cf (pm (m.take n) B) j=cf (pm (m.take n) C) j
 | 0,j=>by rw [List.take_zero,pm,pm]
 | n+1,j=>by rw [pm_take,pm_take,pm_cong m h n j,h]
end
end Go.Proofs.Yticbdgmcofjkeaa.Ma
namespace Go.Proofs.Yticbdgmcofjkeaa.Ma
def pcI (mul:Int→Int→Int) (x c:Int):Nat→Int
 | 0=>c
 | i+1=>mul (pcI mul x c i) x
def pwI (mul:Int→Int→Int) (x c:Int) (n:Nat):List Int:=(List.range n).map (pcI mul x c)
theorem pwI_len {mul:Int→Int→Int} {x c:Int} {n:Nat}:(pwI mul x c n).length=n:=by simp [pwI]
theorem pwI_get {mul:Int→Int→Int} {x c:Int} {n i:Nat} (h:i<n):(pwI mul x c n).getD i 0=pcI mul x c i:=by
 simp [pwI,List.getD_eq_getElem?_getD,h]
def eqR (mul:Int→Int→Int) (neg:Int→Int) (k e:Nat) (w:List Int) (i:Nat):List Int :=
 pwI mul ((i+1:Nat):Int) 1 (k+e)++pwI mul ((i+1:Nat):Int) (neg (w.getD i 0)) (e+1)
def kept (lost:Nat→Bool) (n:Nat):List Nat:=(List.range n).filter fun i=>!lost i
def eqs (mul:Int→Int→Int) (neg:Int→Int) (k e:Nat) (w:List Int) (lost:Nat→Bool) (n:Nat):List (List Int):=(kept lost n).map (eqR mul neg k e w)
section
variable {q:Nat} {add mul:Int→Int→Int} {neg inv:Int→Int} {F:Fld q add mul neg inv}
def sm (f:Nat→El F):Nat→El F
 | 0=>0
 | n+1=>sm f n+f n
theorem sm_shift (f:Nat→El F):∀ n,sm f (n+1)=f 0+sm (fun i=>f (i+1)) n
 | 0=>by rw [sm,sm,sm,eac]
 | n+1=>by rw [sm,sm_shift f n,sm,eaa]
theorem sm_add (f:Nat→El F) (a:Nat):∀ b,sm f (a+b)=sm f a+sm (fun i=>f (a+i)) b
 | 0=>by rw [Nat.add_zero,sm,ea_z]
 | b+1=>by rw [←Nat.add_assoc,sm,sm_add f a b,sm,eaa]
theorem sm_mul (c:El F) (f:Nat→El F):∀ n,c*sm f n=sm (fun i=>c*f i) n
 | 0=>by rw [sm,sm,em_z]
 | n+1=>by rw [sm,sm,ed,sm_mul c f n]
theorem sm_cong {f g:Nat→El F}:∀ n,(∀ i,i<n→f i=g i)→sm f n=sm g n
 | 0,_=>rfl
 | n+1,h=>by rw [sm,sm,sm_cong n fun i hi=>h i (by omega),h n (by omega)]
def xp (x:El F):Nat→El F
 | 0=>1
 | i+1=>xp x i*x
theorem xp_succ (x:El F):∀ i,xp x (i+1)=x*xp x i
 | 0=>emc _ _
 | i+1=>by rw [xp,xp_succ x i,ema,←xp,xp_succ]
theorem pv_sm:∀ (a:List (El F)) (x:El F) (n:Nat),a.length≤n→pv a x=sm (fun i=>xp x i*cf a i) n
 | [],x,n,_=>by
  have:∀ n,sm (fun i=>xp x i*cf ([]:List (El F)) i) n=0:=fun n=>by
   induction n with
   | zero=>rfl
   | succ n ih=>rw [sm,ih,cf_nil,em_z,ea_z]
  rw [this,pv]
 | c::a,x,0,h=>by simp at h
 | c::a,x,n+1,h=>by
  rw [sm_shift,pv,pv_sm a x n (by simpa using h),sm_mul]
  congr 1
  ·rw [cf_cons0,xp,eo_m]
  ·exact sm_cong n fun i _=>by rw [cf_consS,xp_succ,ema]
theorem pcI_e (x c:El F):∀ i,pcI mul x.1 c.1 i=(c*xp x i).1
 | 0=>by rw [pcI,xp,em_o]
 | i+1=>by rw [pcI,pcI_e x c i,xp,←ema];rfl
theorem dot_sm {u v:List Int} {f:Nat→El F}:∀ n,(∀ i,i<n→mul (u.getD i 0) (v.getD i 0)=(f i).1)→dot add mul u v n=(sm f n).1
 | 0,_=>rfl
 | n+1,h=>by rw [dot,dot_sm n fun i hi=>h i (by omega),h n (by omega)];rfl
theorem app_getD {a b:List Int} {i:Nat}:(a++b).getD i 0=if i<a.length then a.getD i 0 else b.getD (i-a.length) 0:=by
 by_cases h:i<a.length
 ·rw [if_pos h,List.getD_eq_getElem?_getD,List.getD_eq_getElem?_getD,List.getElem?_append_left h]
 ·rw [if_neg h,List.getD_eq_getElem?_getD,List.getD_eq_getElem?_getD,List.getElem?_append_right (by omega)]
theorem cf_app {a b:List (El F)} {i:Nat}:cf (a++b) i=if i<a.length then cf a i else cf b (i-a.length):=by
 unfold cf
 by_cases h:i<a.length
 ·rw [if_pos h,List.getD_eq_getElem?_getD,List.getD_eq_getElem?_getD,List.getElem?_append_left h]
 ·rw [if_neg h,List.getD_eq_getElem?_getD,List.getD_eq_getElem?_getD,List.getElem?_append_right (by omega)]
theorem eqR_dot {k e:Nat} {w:List Int} (hw:InQ q w) {i:Nat} (hi:i<q-1) {N E:List (El F)} (hN:N.length=k+e) (hE:E.length=e+1) :
  dot add mul (eqR mul neg k e w i) (lv (N++E)) (k+e+(e+1))=(pv N (px F i)+-(tE F (w.getD i 0)*pv E (px F i))).1:=by
 have hy:=in_get F hw i
 rw [dot_sm (F:=F) (f:=fun j=>(if j<k+e then xp (px F i) j else -(tE F (w.getD i 0))*xp (px F i) (j-(k+e)))*cf (N++E) j)]
 ·rw [sm_add]
  have e1:sm (fun j=>(if j<k+e then xp (px F i) j else -(tE F (w.getD i 0))*xp (px F i) (j-(k+e)))*cf (N++E) j) (k+e)=pv N (px F i):=by
   rw [pv_sm N (px F i) (k+e) (by omega)]
   exact sm_cong _ fun j hj=>by rw [if_pos hj,cf_app,if_pos (by omega)]
  have e2:sm (fun j=>(if k+e+j<k+e then xp (px F i) (k+e+j) else -(tE F (w.getD i 0))*xp (px F i) (k+e+j-(k+e)))*cf (N++E) (k+e+j)) (e+1)=-(tE F (w.getD i 0)*pv E (px F i)):=by
   rw [←e_nm,pv_sm E (px F i) (e+1) (by omega),sm_mul]
   exact sm_cong _ fun j hj=>by
    rw [if_neg (by omega),cf_app,if_neg (by omega),hN,Nat.add_sub_cancel_left,ema]
  rw [e1,e2]
 ·intro j hj
  rw [lv_get,eqR,app_getD,pwI_len]
  have hx:((i+1:Nat):Int)=(px F i).1:=(px_val hi).symm
  by_cases h:j<k+e
  ·rw [if_pos h,if_pos h,pwI_get h,hx]
   have:=pcI_e (px F i) 1 j
   rw [eo_m] at this
   rw [show pcI mul (px F i).1 1 j=(xp (px F i) j).1 from this];rfl
  ·rw [if_neg h,if_neg h,pwI_get (by omega),hx]
   have:=pcI_e (px F i) (-(tE F (w.getD i 0))) (j-(k+e))
   rw [e_neg,tE_val hy] at this
   rw [this];rfl
theorem kept_mem {lost:Nat→Bool} {n i:Nat}:i∈kept lost n↔i<n∧lost i=false:=by simp [kept,List.mem_filter]
theorem eqs_mem {k e:Nat} {w:List Int} {lost:Nat→Bool} {n i:Nat} (h:i<n) (hl:lost i=false):∃ r,r<(eqs mul neg k e w lost n).length∧(eqs mul neg k e w lost n).getD r []=eqR mul neg k e w i:=by
 obtain ⟨r,hr,e0⟩:=List.getElem_of_mem (kept_mem.2 ⟨h,hl⟩)
 refine ⟨r,by simpa [eqs] using hr,?_⟩
 simp [eqs,List.getD_eq_getElem?_getD,hr,e0]
theorem eqs_at {k e:Nat} {w:List Int} {lost:Nat→Bool} {n r:Nat} (hr:r<(eqs mul neg k e w lost n).length):∃ i,i<n∧lost i=false∧(eqs mul neg k e w lost n).getD r []=eqR mul neg k e w i:=by
 have hr':r<(kept lost n).length:=by simpa [eqs] using hr
 have:=kept_mem.1 (List.getElem_mem hr')
 exact ⟨(kept lost n)[r],this.1,this.2,by simp [eqs,List.getD_eq_getElem?_getD,hr']⟩
theorem eqR_wd {k e:Nat} {w:List Int} (hw:InQ q w) {i:Nat} (hi:i<q-1) (F:Fld q add mul neg inv):Wd q (k+e+(e+1)) (eqR mul neg k e w i):=by
 have hy:=in_get F hw i
 have hx:((i+1:Nat):Int)=(px F i).1:=(px_val hi).symm
 refine ⟨by simp [eqR,pwI_len],fun j hj=>?_⟩
 rw [eqR,app_getD,pwI_len,hx]
 split
 ·rename_i h
  rw [pwI_get h,show pcI mul (px F i).1 1 j=_ from pcI_e (px F i) 1 j]
  exact El.in_ _
 ·rename_i h
  have:=pcI_e (px F i) (-(tE F (w.getD i 0))) (j-(k+e))
  rw [e_neg,tE_val hy] at this
  rw [pwI_get (by omega),this]
  exact El.in_ _
theorem pv_pad (a:List (El F)) (n:Nat) (x:El F):pv (a++List.replicate n 0) x=pv a x:=pv_cf _ _ _ fun j=>by
 rw [cf_app]
 split
 ·rfl
 ·rename_i h
  rw [cf_far (a:=a) (by omega)]
  exact cf_zero (fun c hc=>(List.mem_replicate.1 hc).2) _
theorem sol_is {k e n:Nat} (hn:n=q-1) (hk:0<k) {w:List Int} (hw:InQ q w) {lost:Nat→Bool} {m:List (El F)} (hm:m.length=k)
  (hT:far lost w (wordI q add mul (lv m)) 0 n≤e) (he:k+2*e+nlost lost n≤n) :
  ∃ v,Wd q (k+e+(e+1)) v∧Orth (k+e+(e+1)) add mul (eqs mul neg k e w lost n) v∧v≠List.replicate (k+e+(e+1)) 0:=by
 subst hn
 let er:=(List.range (q-1)).filter fun j=>!lost j&&(wordI q add mul (lv m)).getD j 0 != w.getD j 0
 have hel:er.length=far lost w (wordI q add mul (lv m)) 0 (q-1):=agr_diff
 let E:=loc (er.map (px F))++List.replicate (e-er.length) 0
 have hE:E.length=e+1:=by simp only [E,List.length_append,loc_len,List.length_map,List.length_replicate];omega
 have hE0:E≠[]:=fun h=>by rw [h] at hE;simp at hE
 have hN:(pm m E).length=k+e:=by
  rw [pm_len _ _ hE0,if_neg (fun h=>by rw [h] at hm;simp at hm;omega)];omega
 have hEv:∀ x,pv E x=pv (loc (er.map (px F))) x:=fun x=>pv_pad _ _ _
 refine ⟨lv (pm m E++E),⟨by simp [lv_len,hN,hE],fun j hj=>by rw [lv_get];exact (cf _ j).2⟩,fun r hr=>?_,fun h0=>?_⟩
 ·obtain ⟨i,hi,hlo,e1⟩:=eqs_at hr
  rw [e1,eqR_dot hw hi hN hE,pv_pm]
  by_cases hd:(wordI q add mul (lv m)).getD i 0=w.getD i 0
  ·rw [wordI_lv m hi] at hd
   have:tE F (w.getD i 0)=pv m (px F i):=El.ext (by rw [tE_val (in_get F hw i),hd])
   rw [this,ean];rfl
  ·have:px F i∈er.map (px F):=List.mem_map.2 ⟨i,List.mem_filter.2 ⟨List.mem_range.2 hi,by simp only [hlo,bne,beq_eq_false_iff_ne.2 hd];rfl⟩,rfl⟩
   rw [hEv,(loc_zero _ _).2 this,em_z,em_z,e_neg0,ea_z];rfl
 ·have hl:=agr_len lost w (wordI q add mul (lv m)) (q-1)
  obtain ⟨i,hi⟩:∃ i,i∈agr lost w (wordI q add mul (lv m)) (q-1):=by
   cases h:agr lost w (wordI q add mul (lv m)) (q-1) with
   | nil=>rw [h] at hl;simp at hl;omega
   | cons i l=>exact ⟨i,by simp⟩
  have hi':=agr_mem.1 hi
  have hz:pv E (px F i)=0:=pv_zeros _ _ fun c hc=>by
   have:c.1∈lv (pm m E++E):=List.mem_map.2 ⟨c,by simp [hc],rfl⟩
   rw [h0] at this
   exact El.ext (List.mem_replicate.1 this).2
  rw [hEv,loc_zero] at hz
  obtain ⟨j,hj,ej⟩:=List.mem_map.1 hz
  have hj':j<q-1∧lost j=false∧¬ (wordI q add mul (lv m)).getD j 0=w.getD j 0:=by
   have h1:=List.mem_filter.1 hj
   simp only [List.mem_range,Bool.and_eq_true,Bool.not_eq_true',bne,beq_eq_false_iff_ne] at h1
   exact h1
  have:=px_inj hj'.1 hi'.1 ej
  exact hj'.2.2 (this▸hi'.2.2)
theorem sol_div {k e n:Nat} (hn:n=q-1) (hk:0<k) {w:List Int} (hw:InQ q w) {lost:Nat→Bool} {m:List (El F)} (hm:m.length=k)
    (hT:far lost w (wordI q add mul (lv m)) 0 n≤e) (he:k+2*e+nlost lost n≤n)
    {v:List Int} (hv:Wd q (k+e+(e+1)) v) (ho:Orth (k+e+(e+1)) add mul (eqs mul neg k e w lost n) v) (hv0:v≠List.replicate (k+e+(e+1)) 0)
    {b r0:List Int} {t0:Nat} (hb:b=trimI (v.drop (k+e))) (hr:r0=trimI (v.take (k+e))) (ht:t0=r0.length+1-b.length) :
    b≠[]∧trimI (dvT add mul neg b (inv (b.getD (b.length-1) 0)) r0 t0 t0).2=[]∧(trimI (dvT add mul neg b (inv (b.getD (b.length-1) 0)) r0 t0 t0).1).length≤k ∧
      ∀ j,(dvT add mul neg b (inv (b.getD (b.length-1) 0)) r0 t0 t0).1.getD j 0=(cf m j).1:=by
  subst hn
  have hvi:InQ q v:=fun j hj=>hv.2 j (by have:=hv.1;omega)
  obtain ⟨V,hV⟩:∃ V:List (El F),lv V=v:=⟨_,tE_lv hvi⟩
  have hVl:V.length=k+e+(e+1):=by rw [←lv_len,hV,hv.1]
  let N:=V.take (k+e)
  let E:=V.drop (k+e)
  have hN:N.length=k+e:=by simp [N,hVl]
  have hE:E.length=e+1:=by simp [E,hVl]
  have hNE:lv (N++E)=v:=by rw [show N++E=V from List.take_append_drop _ _,hV]
  have hNv:lv N=v.take (k+e):=by simp [N,lv,←hV,List.map_take]
  have hEv:lv E=v.drop (k+e):=by simp [E,lv,←hV,List.map_drop]
  have hag:=agr_len lost w (wordI q add mul (lv m)) (q-1)
  have hk1:∀ j,cf N j=cf (pm m E) j:=key hk hm hN hE (agr_nd lost w (wordI q add mul (lv m)) (q-1)) (fun i hi=>(agr_mem.1 hi).1) (by omega) fun i hi=>by
    obtain ⟨h1,h2,h3⟩:=agr_mem.1 hi
    obtain ⟨r,hr,e1⟩:=eqs_mem (mul:=mul) (neg:=neg) (k:=k) (e:=e) (w:=w) h1 h2
    have h4:=ho r hr
    rw [e1,←hNE,eqR_dot hw h1 hN hE] at h4
    have h5:=e_sub (El.ext (h4.trans (e_zero (F:=F)).symm))
    rw [wordI_lv m h1] at h3
    have:tE F (w.getD i 0)=pv m (px F i):=El.ext (by rw [tE_val (in_get F hw i),h3])
    rw [h5,this]
  have hEj:∀ j,b.getD j 0=(cf E j).1:=fun j=>by rw [hb,trimI_get,←hEv,lv_get]
  have hNj:∀ j,r0.getD j 0=(cf N j).1:=fun j=>by rw [hr,trimI_get,←hNv,lv_get]
  have hb0:b≠[]:=fun h0=>by
    have hz:∀ j,cf E j=0:=fun j=>El.ext (by rw [←hEj,h0] <;> rfl)
    have hz2:∀ j,cf N j=0:=fun j=>by
      rw [hk1]
      have h1:=pm_cong m (B:=E) (C:=[]) (fun j=>by rw [hz,cf_nil]) m.length j
      rw [List.take_length] at h1
      rw [h1]
      have:∀ (a:List (El F)) j,cf (pm a []) j=0:=fun a=>by
        induction a with
        | nil=>exact fun j=>cf_nil j
        | cons c a ih =>
          intro j
          rw [pm,cf_pa,cf_ps,cf_nil,em_z,ez_a]
          cases j with
          | zero=>exact cf_cons0 _ _
          | succ j=>rw [cf_consS,ih]
      exact this m j
    refine hv0 (ext_getD (by rw [hv.1,List.length_replicate]) fun j hj=>?_)
    rw [←hNE,lv_get,cf_app]
    have hrep:(List.replicate (k+e+(e+1)) (0:Int)).getD j 0=0:=by rw [List.getD_eq_getElem?_getD,List.getElem?_replicate];split <;> rfl
    rw [hrep]
    split
    · rw [hz2];rfl
    · rw [hz];rfl
  have hbi:InQ q b:=by rw [hb,←hEv];exact trimI_in (lv_in E)
  obtain ⟨B,hB⟩:∃ B:List (El F),lv B=b:=⟨_,tE_lv hbi⟩
  have hBl:B.length=b.length:=by rw [←hB,lv_len]
  have hbp:0<b.length:=List.length_pos_iff.2 hb0
  have hB0:B≠[]:=fun h=>by rw [h] at hBl;simp at hBl;omega
  have hBj:∀ j,cf E j=cf B j:=fun j=>El.ext (by rw [←hEj,←hB,lv_get])
  have hlast:cf B (b.length-1)≠0:=fun h=>by
    have h1:=trimI_last (a:=v.drop (k+e)) (hb▸hb0)
    rw [←hb] at h1
    refine h1 ?_
    rw [←trimI_get,←hb,hEj,hBj,h];rfl
  have hmB:∀ j,cf (pm m E) j=cf (pm m B) j:=fun j=>by
    have h1:=pm_cong m hBj m.length j
    rwa [List.take_length] at h1
  obtain ⟨s1,s2⟩:=pm_short (F:=F) (m:=m) (L:=r0.length) (t0:=t0) hB0 (by rw [hBl];exact hlast) (by rw [hBl];omega) (fun j hj=>El.ext (by rw [←hmB,←hk1,←hNj,getD_far hj] <;> rfl)) m.length
    fun j=>by rw [List.take_of_length_le (by omega)]
  obtain ⟨d1,d2⟩:=dvT_exact (F:=F) (m:=m) hB hbp hlast (r0:=r0) (t0:=t0) (fun j=>by rw [s1,←hmB,←hk1,hNj]) t0 (Nat.le_refl _)
  have hq:∀ j,(dvT add mul neg b (inv (b.getD (b.length-1) 0)) r0 t0 t0).1.getD j 0=(cf m j).1:=fun j=>by
    rw [d2]
    split
    · rfl
    · rename_i h
      by_cases h3:j<t0+m.length
      · rw [s2 j (by omega) h3];rfl
      · rw [cf_far (by omega)];rfl
  refine ⟨hb0,trimI_nil fun j=>?_,trimI_bound fun j hj=>?_,hq⟩
  · rw [d1,Nat.sub_self,List.take_zero,pm,cf_nil];rfl
  · rw [hq,cf_far (by omega)];rfl
end
end Go.Proofs.Yticbdgmcofjkeaa.Ma
namespace Go.Proofs.Yticbdgmcofjkeaa.Ma
section
variable {q:Nat} {add mul:Int→Int→Int} {neg inv:Int→Int}
theorem nlost_none:∀ n,nlost (fun _=>false) n=0
 | 0=>rfl
 | n+1=>by rw [nlost,nlost_none n];rfl
def Cl (q:Nat) (add mul:Int→Int→Int) (k:Nat) (lost:Nat→Bool) (w m:List Int):Prop :=
 m.length=k∧InQ q m∧2*far lost w (wordI q add mul m) 0 (q-1)+nlost lost (q-1)+k≤q-1
theorem ham_msg (F:Fld q add mul neg inv) {k:Nat} {a b:List Int} (ha:a.length=k) (hb:b.length=k) (ia:InQ q a) (ib:InQ q b) (h:ham (q-1) (wordI q add mul a) (wordI q add mul b)+k≤q-1):a=b:=by
 have hl:=agr_len (fun _=>false) (wordI q add mul a) (wordI q add mul b) (q-1)
 rw [nlost_none] at hl
 unfold ham at h
 rw [←tE_lv (F:=F) ia,←tE_lv (F:=F) ib]
 have:=agree (F:=F) (a:=a.map (tE F)) (b:=b.map (tE F)) (agr_nd (fun _=>false) (wordI q add mul a) (wordI q add mul b) (q-1)) (fun i hi=>(agr_mem.1 hi).1) (by simp;omega) (by simp;omega) fun i hi=>by
  obtain ⟨h1,_,h3⟩:=agr_mem.1 hi
  rw [←tE_lv (F:=F) ia,←tE_lv (F:=F) ib,wordI_lv _ h1,wordI_lv _ h1] at h3
  exact El.ext h3.symm
 rw [cf_ext (by simp;omega) fun j _=>this j]
theorem near_one (F:Fld q add mul neg inv) {k:Nat} {lost:Nat→Bool} {w a b:List Int} (ha:Cl q add mul k lost w a) (hb:Cl q add mul k lost w b):a=b:=by
 refine ham_msg F ha.1 hb.1 ha.2.1 hb.2.1 ?_
 have:=ham_tri lost w (wordI q add mul a) (wordI q add mul b) (q-1)
 have h1:=ha.2.2
 have h2:=hb.2.2
 omega
open Classical in
noncomputable def dec (q:Nat) (add mul:Int→Int→Int) (k:Nat) (lost:Nat→Bool) (w:List Int):Option (List Int) :=
 if h:∃ m,Cl q add mul k lost w m then some (Classical.choose h) else none
theorem dec_some (F:Fld q add mul neg inv) {k:Nat} {lost:Nat→Bool} {w m:List Int} (h:Cl q add mul k lost w m):dec q add mul k lost w=some m:=by
 have he:∃ m,Cl q add mul k lost w m:=⟨m,h⟩
 rw [dec,dif_pos he]
 exact congrArg some (near_one F (Classical.choose_spec he) h)
theorem dec_none {k:Nat} {lost:Nat→Bool} {w:List Int} (h:∀ m,¬ Cl q add mul k lost w m):dec q add mul k lost w=none:=by
 rw [dec,dif_neg fun ⟨m,hm⟩=>h m hm]
theorem dec_spec (F:Fld q add mul neg inv) {k:Nat} {lost:Nat→Bool} {w m:List Int}:dec q add mul k lost w=some m↔Cl q add mul k lost w m:=by
 constructor
 ·intro h
  unfold dec at h
  split at h
  ·rename_i he
   rw [←Option.some.inj h]
   exact Classical.choose_spec he
  ·simp at h
 ·exact dec_some F
theorem evI_in (F:Fld q add mul neg inv) {x:Int} (hx:0≤x∧x<q):∀ {m:List Int},InQ q m→0≤evI add mul m x∧evI add mul m x<q:=fun {m} hm=>by
 rw [←tE_lv (F:=F) hm,←tE_val (F:=F) hx,ev_lv]
 exact El.in_ _
theorem wordI_wd (F:Fld q add mul neg inv) {m:List Int} (hm:InQ q m):Wd q (q-1) (wordI q add mul m):=⟨wordI_len,fun j hj=>by
 rw [wordI_get hj]
 exact evI_in F (by omega) hm⟩
theorem word_cong (F:Fld q add mul neg inv) {a b:List Int} (ha:InQ q a) (hb:InQ q b) (h:∀ j,a.getD j 0=b.getD j 0):wordI q add mul a=wordI q add mul b:=by
 refine ext_getD (by rw [wordI_len,wordI_len]) fun j hj=>?_
 rw [wordI_len] at hj
 rw [←tE_lv (F:=F) ha,←tE_lv (F:=F) hb,wordI_lv _ hj,wordI_lv _ hj]
 congr 1
 refine pv_cf _ _ _ fun i=>El.ext ?_
 rw [←lv_get,←lv_get,tE_lv ha,tE_lv hb,h]
theorem padI_in (F:Fld q add mul neg inv) {a:List Int} (ha:InQ q a) (i:Nat):InQ q (padI a i):=fun j _=>by
 rw [padI_get];exact in_get F ha j
theorem word_fill (F:Fld q add mul neg inv) {k:Nat} {a:List Int} (ha:InQ q a) (hl:a.length≤k) (hk:0<k):∃ m,m.length=k∧InQ q m∧wordI q add mul m=wordI q add mul a:=by
 refine ⟨padI a (k-1),?_,padI_in F ha _,word_cong F (padI_in F ha _) ha fun j=>padI_get a _ j⟩
 rw [padI_len];omega
end
end Go.Proofs.Yticbdgmcofjkeaa.Ma
namespace Go.Proofs.Yticbdgmcofjkeaa.Ai
open Go Ma Go.RowKit
noncomputable section
theorem run_for (e:LStep P Cf) {τ:Type} (s:(Nat→LS_→Option τ)→(Nat→LS_→Option τ)→LS_→Option τ) (t:Nat) (h0:∀ next κ l,e.step next κ t l=s next κ l) (κ:Nat→LS_→Option τ) (S:Nat→LS_) (n:Nat) (r:Option τ) (hn:n<2^62)
  (hs:∀ j,j<n→∀ next:Nat→LS_→Option τ,s next κ (S j)=next t (S (j+1)))
  (hx:∀ next:Nat→LS_→Option τ,s next κ (S n)=r):runE e fuel κ t (S 0)=r:=by
 have key:∀ f j,j≤n→n<f+j→runE e f κ t (S j)=r:=by
  intro f
  induction f with
  | zero=>intro j h1 h2;omega
  | succ f ih =>
   intro j h1 h2
   rw [runE_succ,h0]
   by_cases hj:j<n
   ·rw [hs j hj];exact ih (j+1) hj (by omega)
   ·have:j=n:=by omega
    subst this
    exact hx _
 have:=fuel_le
 exact key fuel 0 (by omega) (by omega)
theorem fuel_pred:∃ f,fuel=f+1∧2^63≤f:=by
 have:=fuel_le
 exact ⟨fuel-1,by omega,by omega⟩
theorem run_any (e:LStep P Cf) {τ:Type} (s:(Nat→LS_→Option τ)→(Nat→LS_→Option τ)→LS_→Option τ) (t:Nat) (h0:∀ next κ l,e.step next κ t l=s next κ l) (κ:Nat→LS_→Option τ) (S:Nat→LS_) (n:Nat) (p:Nat→Bool) (r rx:Option τ) (hn:n<2^62)
  (hs:∀ j,j<n→∀ next:Nat→LS_→Option τ,s next κ (S j)=if p j=true then r else next t (S (j+1)))
  (hx:∀ next:Nat→LS_→Option τ,s next κ (S n)=rx):runE e fuel κ t (S 0)=if (List.range n).any p=true then r else rx:=by
 have key:∀ f j,j≤n→n<f+j→runE e f κ t (S j)=if (List.range n).any (fun i=>decide (j≤i)&&p i)=true then r else rx:=by
  intro f
  induction f with
  | zero=>intro j h1 h2;omega
  | succ f ih =>
   intro j h1 h2
   rw [runE_succ,h0]
   by_cases hj:j<n
   ·rw [hs j hj]
    by_cases hp:p j=true
    ·rw [if_pos hp,if_pos]
     simp only [List.any_eq_true,List.mem_range,Bool.and_eq_true,decide_eq_true_eq]
     exact ⟨j,hj,Nat.le_refl _,hp⟩
    ·rw [if_neg hp,ih (j+1) hj (by omega)]
     congr 1
     apply propext
     simp only [List.any_eq_true,List.mem_range,Bool.and_eq_true,decide_eq_true_eq]
     constructor
     ·rintro ⟨i,a,b,c⟩;exact ⟨i,a,by omega,c⟩
     ·rintro ⟨i,a,b,c⟩
      refine ⟨i,a,?_,c⟩
      by_cases hi:i=j
      ·subst hi;exact absurd c hp
      ·omega
   ·have:j=n:=by omega
    subst this
    rw [hx,if_neg]
    simp only [List.any_eq_true,List.mem_range,Bool.and_eq_true,decide_eq_true_eq]
    rintro ⟨i,a,b,c⟩;omega
 have:=fuel_le
 refine (key fuel 0 (by omega) (by omega)).trans ?_
 simp
def fil (n:Nat) (f g:Nat→Int) (j:Nat):List Int:=(List.range n).map fun i=>if i<j then f i else g i
theorem fil_len {n:Nat} {f g:Nat→Int} {j:Nat}:(fil n f g j).length=n:=by simp [fil]
theorem fil_set {n:Nat} {f g:Nat→Int} {j:Nat}:(fil n f g j).set j (f j)=fil n f g (j+1):=by
 apply List.ext_getElem
 ·simp [fil]
 ·intro i h1 h2
  simp only [fil,List.length_set,List.length_map,List.length_range] at h1
  simp only [fil,List.getElem_set,List.getElem_map,List.getElem_range]
  by_cases he:j=i
  ·subst he;simp
  ·rw [if_neg he]
   by_cases h3:i<j
   ·rw [if_pos h3,if_pos (by omega)]
   ·rw [if_neg h3,if_neg (by omega)]
theorem fil_zero {n:Nat} {f g:Nat→Int}:fil n f g 0=(List.range n).map g:=by simp [fil]
theorem fil_full {n:Nat} {f g:Nat→Int}:fil n f g n=(List.range n).map f:=by
 simp only [fil]
 apply List.map_congr_left
 intro i hi
 rw [if_pos (List.mem_range.1 hi)]
theorem map_get {n:Nat} {f:Nat→Int} {i:Nat} (h:i<n):((List.range n).map f).getD i 0=f i:=by
 simp [List.getD_eq_getElem?_getD,h]
theorem map_zero {n:Nat}:(List.range n).map (fun _=>(0:Int))=List.replicate n 0:=by
 apply List.ext_getElem <;> simp
def Bn (w:List Int):Prop:=∀ i,i<w.length→w.getD i 0=0∨w.getD i 0=1
theorem Bn.of {n:Nat} {w:List Int} (h:Wd 2 n w):Bn w:=fun i hi=>by
 have:=h.2 i (by rw [←h.1];exact hi)
 omega
theorem Bn.wd {w:List Int} (h:Bn w):Wd 2 w.length w:=⟨rfl,fun i hi=>by rcases h i hi with e | e <;> rw [e] <;> decide⟩
theorem Bn.bit {w:List Int} (h:Bn w) (i:Nat):w.getD i 0=0∨w.getD i 0=1:=by
 by_cases hi:i<w.length
 ·exact h i hi
 ·left;simp [List.getD_eq_getElem?_getD,List.getElem?_eq_none (Nat.le_of_not_lt hi)]
section
variable {q:Nat}
theorem T103_of (hq:q∈Qs) {a b:Int} (ha:0≤a∧a<q) (hb:0≤b∧b<q) {τ:Type} (k:Nat→LS_→Option τ):T103 [.I (fp q),.I (fe q),.L (fm q),.I a,.I b] k=k 0 [.I (fadd q a b)]:=tab2_of hq ha.1 ha.2 hb.1 hb.2 k
theorem T104_of (hq:q∈Qs) {a b:Int} (ha:0≤a∧a<q) (hb:0≤b∧b<q) {τ:Type} (k:Nat→LS_→Option τ):T104 [.I (fp q),.I (fe q),.L (fm q),.I a,.I b] k=k 0 [.I (fmul q a b)]:=tab2_of hq ha.1 ha.2 hb.1 hb.2 k
theorem T83_of (hq:q∈Qs) {a:Int} (ha:0≤a∧a<q) {τ:Type} (k:Nat→LS_→Option τ):T83 [.I (fp q),.I (fe q),.L (fm q),.I a] k=k 0 [.I (fneg q a)]:=tab1_of hq ha.1 ha.2 k
theorem T116_of (hq:q∈Qs) {a:Int} (ha:0≤a∧a<q) (hz:a≠0) {τ:Type} (k:Nat→LS_→Option τ):T116 [.I (fp q),.I (fe q),.L (fm q),.I a] k=k 0 [.I (finv q a)]:=tabI_of hq ha.1 ha.2 hz k
theorem wpred {m:Nat} (h:m<2^62):wr .i64 (((m+1:Nat):Int)-1)=(m:Nat):=by rw [wr64 (by omega) (by omega)];omega
theorem L288_2_spec {a:List Int} (hs:a.length<2^60) {τ:Type} (κ:Nat→LS_→Option τ):∀ (f m:Nat),m≤a.length→m<f→runE L288_2 f κ 0 [.N a.length,.L a,.I m]=κ 0 [.N a.length,.L a,.I (tlen a m)]
 | 0,m,_,h=>by omega
 | f+1,m,h1,h2=>by
  rw [runE_succ]
  show L288_2.s0 _ _ _=_
  unfold L288_2.s0
  simp only [g_,h_]
  cases m with
  | zero=>rw [br_no (by simp)];rfl
  | succ m =>
   rw [br_of (by simp),wpred (by omega)]
   simp only [Int.toNat_natCast,Nat.mul_one]
   rw [ck_of (by simp;omega),ck_of (by simp;omega)]
   by_cases h0:a.getD m 0=0
   ·rw [br_of (by rw [h0] <;> rfl),L288_2_spec hs κ f m (by omega) (by omega),tlen,if_pos h0]
   ·rw [br_no (by simpa [-List.getD_eq_getElem?_getD] using h0),tlen,if_neg h0]
theorem F288_spec {a:List Int} (hs:a.length<2^30) {τ:Type} (k:Nat→LS_→Option τ):F288 [.L a] k=if trimI a=[] then k 1 [.N 0] else k 0 [.N (trimI a).length,.L (trimI a)]:=by
 have hf:=fuel_le
 have ht:=tlen_le a a.length
 have hl:=trimI_le a
 unfold F288 L288_2.b
 simp only [gL_zero,h_]
 refine (L288_2_spec (by omega) _ fuel a.length (Nat.le_refl _) (by omega)).trans ?_
 simp only [g_,sw_zero,Int.toNat_natCast,Nat.mul_one,Nat.sub_zero,List.drop_zero,h_]
 rw [ck_of (by simp;omega),ck_of (by simp;omega)]
 rw [show List.take (tlen a a.length) a=trimI a from rfl,T71_spec (by omega)]
 by_cases h:trimI a=[]
 ·rw [if_pos h,if_pos h];rfl
 ·rw [if_neg h,if_neg h];rfl
theorem T288_spec {a:List Int} (hs:a.length<2^30) {τ:Type} (k:Nat→LS_→Option τ):T288 [.L a] k=k 0 [.L (trimI a)]:=by
 by_cases h:trimI a=[]
 ·rw [h]
  exact wrap_of (e:=F288.E) (p:=.v pR) (j:=1) (l2:=[.N 0]) (c:=true) (ls':=[.L []]) (by intro τ κ;kernel_rfl) rfl (fun κ=>(F288_spec hs κ).trans (if_pos h))
 ·generalize ht:trimI a=t at h
  have:=wrap_of (e:=F288.E) (p:=.v pR) (ls:=[.L a]) (j:=0) (l2:=[.N t.length,.L t]) (c:=decide (t.length=(List.take (t.length*1) (List.drop 0 t)).length)) (ls':=[.L (List.take (t.length*1) (List.drop 0 t))]) (by intro τ κ;kernel_rfl) (by simp) (k:=k) (fun κ=>by
   have:=F288_spec hs κ
   rw [ht,if_neg h] at this
   exact this)
  rw [Nat.mul_one,List.drop_zero,List.take_length] at this
  exact this
theorem L305_1_spec (hq:q∈Qs) {a:List Int} (ha:InQ q a) (hs:a.length<2^30) {x:Int} (hx:0≤x∧x<q) (u1 u2:Int) (u3:Nat) (u4:List Int) (u5:Nat) (u6:List Int) (u7 u8:Int) (u9:Nat) (u10:List Int) {τ:Type} (κ:Nat→LS_→Option τ) :
  ∀ (f m:Nat),m≤a.length→m<f →
  runE L305_1 f κ 0 [.I ((m:Int)-1),.I (fp q),.I (fe q),.N (fm q).length,.L (fm q),.I x,.I (evI (fadd q) (fmul q) (a.drop m) x),.N a.length,.L a,.I u1,.I u2,.N u3,.L u4,.N u5,.L u6,.I u7,.I u8,.N u9,.L u10] =
   κ 0 [.I (fp q),.I (fe q),.N (fm q).length,.L (fm q),.I x,.I (evI (fadd q) (fmul q) a x),.N a.length,.L a,.I u1,.I u2,.N u3,.L u4,.N u5,.L u6,.I u7,.I u8,.N u9,.L u10]
 | 0,m,_,h=>by omega
 | f+1,m,h1,h2=>by
  have F:=fld q hq
  rw [runE_succ]
  show L305_1.s0 _ _ _=_
  unfold L305_1.s0
  simp only [g_,h_]
  cases m with
  | zero=>rw [br_no (by simp),List.drop_zero]
  | succ m =>
   have hd:InQ q (a.drop (m+1)):=fun j hj=>by
    rw [List.length_drop] at hj
    have:=ha (m+1+j) (by omega)
    simpa [List.getD_eq_getElem?_getD] using this
   have hv:=evI_in F hx hd
   have hm:=ha m (by omega)
   have hmu:=F.mul_in _ _ hv.1 hv.2 hx.1 hx.2
   have e1:((m+1:Nat):Int)-1=(m:Nat):=by omega
   rw [e1]
   simp only [Int.toNat_natCast,Nat.mul_one]
   rw [br_of (by simp),ck_of (by simp;omega),ck_of (by simp;omega),ck_of (by simp),T104_of hq hv hx]
   simp only [sw_zero,gI_zero,h_]
   rw [ck_of (by simp),T103_of hq hmu hm]
   simp only [sw_zero,gI_zero,h_]
   rw [wr64 (by omega) (by omega)]
   have e2:fadd q (fmul q (evI (fadd q) (fmul q) (a.drop (m+1)) x) x) (a.getD m 0)=evI (fadd q) (fmul q) (a.drop m) x:=by
    rw [drop_cons 0 (show m<a.length by omega)];rfl
   rw [e2]
   exact L305_1_spec hq ha hs hx u1 u2 u3 u4 u5 u6 u7 u8 u9 u10 κ f m (by omega) (by omega)
theorem T287_spec (hq:q∈Qs) {a:List Int} (ha:InQ q a) (hs:a.length<2^30) {x:Int} (hx:0≤x∧x<q) {τ:Type} (k:Nat→LS_→Option τ) :
  T287 [.I (fp q),.I (fe q),.L (fm q),.L a,.I x] k=k 0 [.I (evI (fadd q) (fmul q) a x)]:=by
 have hf:=fuel_le
 unfold T287 F287 L305_1.b
 simp only [g_,h_]
 rw [wr64 (by omega) (by omega)]
 have h:=L305_1_spec hq ha hs hx (fp q) (fe q) (fm q).length (fm q) a.length a x 0 a.length a (fun j l4=>(sw (k 0 [.I (gI l4 5)]) (fun _=>none)) j) fuel a.length (Nat.le_refl _) (by omega)
 rw [List.drop_length] at h
 exact h
end
end
end Go.Proofs.Yticbdgmcofjkeaa.Ai
namespace Go.Proofs.Yticbdgmcofjkeaa.Ai
open Go Ma Go.RowKit
noncomputable section
theorem getD_set_int {l:List Int} {i j:Nat} {x:Int} (hi:i<l.length):(l.set i x).getD j 0=if i=j then x else l.getD j 0:=by
 simp only [List.getD_eq_getElem?_getD,List.getElem?_set]
 by_cases h:i=j
 ·subst h;simp [hi]
 ·simp [h]
section
variable {q n:Nat}
theorem T113_of (hq:q∈Qs) {a b:Int} (ha:0≤a∧a<q) (hb:0≤b∧b<q) {τ:Type} (k:Nat→LS_→Option τ):T113 [.I (fp q),.I (fe q),.L (fm q),.I a,.I b] k=k 0 [.I (fadd q a (fneg q b))]:=tab2_of hq ha.1 ha.2 hb.1 hb.2 k
theorem L306_1_spec (hq:q∈Qs) {perm:List Nat} {r Pr:Nat} (hr:r<perm.length) (hP:perm.getD r 0=Pr) {v:List Int} (hv:In q v) (hvl:v.length<2^30) {c:Int} (hc:0≤c∧c<q) {τ:Type} (κ:Nat→LS_→Option τ):∀ (f j:Nat) (fam:List (List Int)),Pr<fam.length→j≤v.length→v.length-j<f→fam.getD Pr []=(vmul (fmul q) c v).take j++v.drop j →
  runE L306_1 f κ 0 [.I r,.I c,.N Pr,.N v.length,.I v.length,.I j,.I (fp q),.I (fe q),.N (fm q).length,.L (fm q),.N perm.length,.LN perm,.LL fam]=κ 0 [.I (fp q),.I (fe q),.N (fm q).length,.L (fm q),.N perm.length,.LN perm,.LL (fam.set Pr (vmul (fmul q) c v))]
 | 0,j,fam,h1,h2,h3,h4=>by omega
 | f+1,j,fam,h1,h2,h3,h4=>by
  have hl:(vmul (fmul q) c v).length=v.length:=vmul_len
  have hw:=half_len hl h2
  rw [runE_succ]
  show L306_1.s0 _ _ _=_
  unfold L306_1.s0
  simp only [g_,gLN_zero,gLN_succ,Int.toNat_natCast,Nat.mul_one,Nat.zero_add,List.drop_zero,List.take_length,hP,h_]
  by_cases hj:j<v.length
  ·have hx:=hv j hj
   have hg:(fam.getD Pr []).getD j 0=v.getD j 0:=by rw [h4,half_get hl hj]
   have hg2:(fam.getD Pr []).length=v.length:=by rw [h4,hw]
   have key:=L306_1_spec hq hr hP hv hvl hc κ f (j+1) (fam.set Pr ((fam.getD Pr []).set j (fmul q c (v.getD j 0)))) (by simpa using h1) (by omega) (by omega) (by
    rw [getD_set_row h1,if_pos rfl,h4,←vmul_get (mul:=fmul q) hj,half_set hl hj])
   rw [set_set_row] at key
   generalize fam.getD Pr []=w at h4 hg hg2 key ⊢
   rw [br_of (by simp;omega),ck_of (by simp;omega),ck_of (by simp;omega),ck_of (by simp;omega),ck_of (by simp;omega),ck_of (by simp),hg,T104_of hq hc hx]
   simp only [sw_zero,gI_zero,h_]
   rw [ck_of (by simp;omega),ck_of (by simp;omega),wsucc (by omega)]
   exact key
  ·have:j=v.length:=by omega
   subst this
   rw [half_all hl] at h4
   rw [br_no (by simp),←h4,set_get_row h1]
theorem S306_0_spec (hq:q∈Qs) {perm:List Nat} {r Pr pl:Nat} (hpl:pl=perm.length) (hr:r<perm.length) (hP:perm.getD r 0=Pr) {v:List Int} (hv:In q v) (hvl:v.length<2^30) {c:Int} (hc:0≤c∧c<q) {fam:List (List Int)} (h1:Pr<fam.length) (h4:fam.getD Pr []=v) {τ:Type} (k:Nat→LS_→Option τ) :
  S306_0 [.I r,.I c,.I (fp q),.I (fe q),.N (fm q).length,.L (fm q),.N pl,.LN perm,.LL fam] k=k 0 [.I (fp q),.I (fe q),.N (fm q).length,.L (fm q),.N pl,.LN perm,.LL (fam.set Pr (vmul (fmul q) c v))]:=by
 subst hpl
 have hfu:=fuel_le
 unfold S306_0 L306_1.b
 simp only [g_,gLN_zero,gLN_succ,Int.toNat_natCast,Nat.mul_one,Nat.zero_add,hP,h4,h_]
 rw [ck_of (by simp;omega),ck_of (by simp;omega)]
 exact L306_1_spec hq hr hP hv hvl hc (fun j l10=>(sw (k 0 [.I (gI l10 0),.I (gI l10 1),.N (gN l10 2),.L (gL l10 3),.N (gN l10 4),.LN (gLN l10 5),.LL (gLL l10 6)]) (fun _=>none)) j) fuel 0 fam h1 (by omega) (by omega) (by simpa using h4)
theorem neg_mulI (F:Fld q (fadd q) (fmul q) (fneg q) (finv q)) {a b:Int} (ha:0≤a∧a<q) (hb:0≤b∧b<q):fneg q (fmul q a b)=fmul q (fneg q a) b:=by
 have:=e_nm (F:=F) ⟨a,ha⟩ ⟨b,hb⟩
 exact (congrArg (fun x:El F=>x.1) this).symm
theorem L307_2_spec (hq:q∈Qs) {perm:List Nat} {i Pi Pj:Nat} (hi:i<perm.length) (hP:perm.getD i 0=Pi) (hne:Pi≠Pj) {x y:List Int} (hx:In q x) (hy:In q y) (hl:y.length=x.length) (hs:x.length<2^30) {a:Int} (ha:0≤a∧a<q) {τ:Type} (κ:Nat→LS_→Option τ):∀ (f j:Nat) (fam:List (List Int)),Pi<fam.length→Pj<fam.length→j≤x.length→x.length-j<f→fam.getD Pj []=x→fam.getD Pi []=(vadd (fadd q) y (vmul (fmul q) (fneg q a) x)).take j++y.drop j →
  runE L307_2 f κ 0 [.I i,.I a,.N Pj,.N x.length,.I x.length,.I j,.I (fp q),.I (fe q),.N (fm q).length,.L (fm q),.N perm.length,.LN perm,.LL fam]=κ 0 [.I (fp q),.I (fe q),.N (fm q).length,.L (fm q),.N perm.length,.LN perm,.LL (fam.set Pi (vadd (fadd q) y (vmul (fmul q) (fneg q a) x)))]
 | 0,j,fam,h1,h1',h2,h3,h4,h5=>by omega
 | f+1,j,fam,h1,h1',h2,h3,h4,h5=>by
  have F:=fld q hq
  have ml:(vmul (fmul q) (fneg q a) x).length=x.length:=vmul_len
  have hlv:(vadd (fadd q) y (vmul (fmul q) (fneg q a) x)).length=y.length:=vadd_len (by rw [ml,hl])
  have hw:=half_len hlv (j:=j) (by omega)
  rw [runE_succ]
  show L307_2.s0 _ _ _=_
  unfold L307_2.s0
  simp only [g_,gLN_zero,gLN_succ,Int.toNat_natCast,Nat.mul_one,Nat.zero_add,List.drop_zero,List.take_length,hP,h4,h_]
  by_cases hj:j<x.length
  ·have ax:=hx j hj
   have ay:=hy j (by omega)
   have am:=F.mul_in _ _ ha.1 ha.2 ax.1 ax.2
   have hg:(fam.getD Pi []).getD j 0=y.getD j 0:=by rw [h5,half_get hlv (by omega)]
   have hg2:(fam.getD Pi []).length=y.length:=by rw [h5,hw]
   have hvj:(vadd (fadd q) y (vmul (fmul q) (fneg q a) x)).getD j 0=fadd q (y.getD j 0) (fneg q (fmul q a (x.getD j 0))):=by
    rw [vadd_get (by rw [ml,hl]) (by omega),vmul_get hj,neg_mulI F ha ax]
   have key:=L307_2_spec hq hi hP hne hx hy hl hs ha κ f (j+1) (fam.set Pi ((fam.getD Pi []).set j (fadd q (y.getD j 0) (fneg q (fmul q a (x.getD j 0)))))) (by simpa using h1) (by simpa using h1') (by omega) (by omega)
    (by rw [getD_set_row h1,if_neg hne,h4]) (by
    rw [getD_set_row h1,if_pos rfl,h5,←hvj,half_set hlv (by omega)])
   rw [set_set_row] at key
   by_cases hz:x.getD j 0=0
   ·have e0:(fam.getD Pi []).set j (fadd q (y.getD j 0) (fneg q (fmul q a (x.getD j 0))))=fam.getD Pi []:=by
     have:fadd q (y.getD j 0) (fneg q (fmul q a (x.getD j 0)))=(fam.getD Pi []).getD j 0:=by
      rw [hg,hz,F.mul_comm _ _ ha.1 ha.2 (by omega) (by have:=F.one_lt;omega),F.zero_mul _ ha.1 ha.2,F.neg_zero,F.add_comm _ _ ay.1 ay.2 (by omega) (by have:=F.one_lt;omega),F.zero_add _ ay.1 ay.2]
     rw [this]
     exact ext_getD (by simp) fun k hk=>by
      rw [getD_set_int (by rw [hg2];omega)]
      split
      ·rename_i e;rw [e]
      ·rfl
    rw [e0,set_get_row h1] at key
    rw [br_of (by simp;omega),ck_of (by simp;omega),ck_of (by simp;omega),br_no (by simpa [-List.getD_eq_getElem?_getD] using hz),wsucc (by omega)]
    exact key
   ·generalize fam.getD Pi []=w at h5 hg hg2 key ⊢
    rw [br_of (by simp;omega),ck_of (by simp;omega),ck_of (by simp;omega),br_of (by simpa [-List.getD_eq_getElem?_getD] using hz),ck_of (by simp;omega),ck_of (by simp;omega),ck_of (by simp;omega),ck_of (by simp;omega),ck_of (by simp;omega),ck_of (by simp;omega),ck_of (by simp),T104_of hq ha ax]
    simp only [sw_zero,gI_zero,h_]
    rw [ck_of (by simp),hg,T113_of hq ay am]
    simp only [sw_zero,gI_zero,h_]
    rw [ck_of (by simp;omega),ck_of (by simp;omega),wsucc (by omega)]
    exact key
  ·have:j=x.length:=by omega
   subst this
   rw [←hl,half_all hlv] at h5
   rw [br_no (by simp),←h5,set_get_row h1]
theorem S307_0_spec (hq:q∈Qs) (hn:n<2^30) {perm:List Nat} {i j Pi Pj pl:Nat} (hpl:pl=perm.length) (hi:i<perm.length) (hj:j<perm.length) (hP:perm.getD i 0=Pi) (hQ:perm.getD j 0=Pj) (hne:Pi≠Pj) {x y:List Int} (hx:Wd q n x) (hy:Wd q n y) {a:Int} (ha:0≤a∧a<q) {fam:List (List Int)} (h1:Pi<fam.length) (h2:Pj<fam.length) (h3:fam.getD Pj []=x) (h4:fam.getD Pi []=y) {τ:Type} (k:Nat→LS_→Option τ) :
  S307_0 [.I i,.I a,.I j,.I (fp q),.I (fe q),.N (fm q).length,.L (fm q),.N pl,.LN perm,.LL fam] k=k 0 [.I (fp q),.I (fe q),.N (fm q).length,.L (fm q),.N pl,.LN perm,.LL (fam.set Pi (vadd (fadd q) y (vmul (fmul q) (fneg q a) x)))]:=by
 subst hpl
 have hfu:=fuel_le
 have F:=fld q hq
 have lx:=hx.1
 have ly:=hy.1
 unfold S307_0 L307_2.b
 simp only [g_,gLN_zero,gLN_succ,Int.toNat_natCast,Nat.mul_one,Nat.zero_add,hQ,h3,h_]
 by_cases hz:a=0
 ·subst hz
  rw [br_of (b:=((0:Int)==0)) rfl,F.neg_zero,vadd_zero F hx hy,←h4,set_get_row h1]
 ·rw [br_no (by simpa using hz),ck_of (by simp;omega),ck_of (by simp;omega)]
  exact L307_2_spec hq hi hP hne (In.of hx) (In.of hy) (by omega) (by omega) ha (fun j l14=>(sw (k 0 [.I (gI l14 0),.I (gI l14 1),.N (gN l14 2),.L (gL l14 3),.N (gN l14 4),.LN (gLN l14 5),.LL (gLL l14 6)]) (fun _=>none)) j) fuel 0 fam h1 h2 (by omega) (by omega) h3 (by simpa using h4)
end
end
end Go.Proofs.Yticbdgmcofjkeaa.Ai
namespace Go.Proofs.Yticbdgmcofjkeaa.Ai
open Go Ma Go.RowKit
noncomputable section
section
variable {q n:Nat}
theorem L299_7_1_spec {perm:List Nat} {fam m:List (List Int)} (hM:Mx perm fam m) (hs:m.length<2^30) (hw:∀ i,i<m.length→(m.getD i []).length=n) (c:Nat) (hc:c<n) (u1 u2 u3 u4 u5:Int) (u6:Nat) (u7:List Int) {τ:Type} (κ:Nat→LS_→Option τ):∀ (f i g:Nat),i≤m.length→m.length-i<f→m.length≤g+i →
  runE L299_7_1 f κ 0 [.I c,.I u1,.I i,.I u2,.I u3,.I u4,.I u5,.N u6,.L u7,.N m.length,.LN perm,.LL fam]=κ 0 [.I c,.I u1,.I (findp m c g i),.I u2,.I u3,.I u4,.I u5,.N u6,.L u7,.N m.length,.LN perm,.LL fam]
 | 0,i,g,h1,h2,h3=>by omega
 | f+1,i,g,h1,h2,h3=>by
  have hl:=hM.len
  rw [runE_succ]
  show L299_7_1.s0 _ _ _=_
  unfold L299_7_1.s0
  simp only [g_,gLN_zero,gLN_succ,Int.toNat_natCast,Nat.mul_one,Nat.zero_add,List.drop_zero,List.take_length,h_]
  by_cases hj:i<m.length
  ·have a1:=hM.lt _ hj
   have a2:=hM.eq _ hj
   have a3:=hw _ hj
   cases g with
   | zero=>omega
   | succ g =>
   unfold findp
   rw [if_pos hj]
   generalize perm.getD i 0=Pr at a1 a2 ⊢
   rw [a2,br_of (by simp;omega),ck_of (by simp;omega),ck_of (by simp;omega),ck_of (by simp only [a3];simp;omega),ck_of (by simp only [a3];simp;omega)]
   by_cases hz:ent m i c=0
   ·rw [if_pos hz,br_of (by unfold ent at hz;rw [hz];rfl),wsucc (by omega)]
    exact L299_7_1_spec hM hs hw c hc u1 u2 u3 u4 u5 u6 u7 κ f (i+1) g (by omega) (by omega) (by omega)
   ·rw [if_neg hz,br_no (by unfold ent at hz;simpa [-List.getD_eq_getElem?_getD] using hz)]
  ·have e:i=m.length:=by omega
   have:findp m c g i=m.length:=by
    rw [e]
    cases g with
    | zero=>rfl
    | succ g=>unfold findp;rw [if_neg (by omega)]
   rw [this,br_no (by simp;omega),e]
theorem L299_7_2_spec {perm:List Nat} {fam m:List (List Int)} (hM:Mx perm fam m) (hs:m.length<2^30) (hw:∀ i,i<m.length→(m.getD i []).length=n) (c:Nat) (hc:c<n) (u1 u2 u3 u4 u5:Int) (u6:Nat) (u7:List Int) (np:Nat) (pv:List Int) {τ:Type} (κ:Nat→LS_→Option τ):∀ (f i g:Nat),i≤m.length→m.length-i<f→m.length≤g+i →
  runE L299_7_2 f κ 0 [.N np,.I c,.I u1,.I i,.I u2,.I u3,.I u4,.I u5,.N u6,.L u7,.N m.length,.LN perm,.LL fam,.L pv]=κ 0 [.N np,.I c,.I u1,.I (findp m c g i),.I u2,.I u3,.I u4,.I u5,.N u6,.L u7,.N m.length,.LN perm,.LL fam,.L pv]
 | 0,i,g,h1,h2,h3=>by omega
 | f+1,i,g,h1,h2,h3=>by
  have hl:=hM.len
  rw [runE_succ]
  show L299_7_2.s0 _ _ _=_
  unfold L299_7_2.s0
  simp only [g_,gLN_zero,gLN_succ,Int.toNat_natCast,Nat.mul_one,Nat.zero_add,List.drop_zero,List.take_length,h_]
  by_cases hj:i<m.length
  ·have a1:=hM.lt _ hj
   have a2:=hM.eq _ hj
   have a3:=hw _ hj
   cases g with
   | zero=>omega
   | succ g =>
   unfold findp
   rw [if_pos hj]
   generalize perm.getD i 0=Pr at a1 a2 ⊢
   rw [a2,br_of (by simp;omega),ck_of (by simp;omega),ck_of (by simp;omega),ck_of (by simp only [a3];simp;omega),ck_of (by simp only [a3];simp;omega)]
   by_cases hz:ent m i c=0
   ·rw [if_pos hz,br_of (by unfold ent at hz;rw [hz];rfl),wsucc (by omega)]
    exact L299_7_2_spec hM hs hw c hc u1 u2 u3 u4 u5 u6 u7 np pv κ f (i+1) g (by omega) (by omega) (by omega)
   ·rw [if_neg hz,br_no (by unfold ent at hz;simpa [-List.getD_eq_getElem?_getD] using hz)]
  ·have e:i=m.length:=by omega
   have:findp m c g i=m.length:=by
    rw [e]
    cases g with
    | zero=>rfl
    | succ g=>unfold findp;rw [if_neg (by omega)]
   rw [this,br_no (by simp;omega),e]
theorem L299_14_spec (hq:q∈Qs) {m:List (List Int)} (hm:Rows q n m) (u1 u2:Int) (r c:Nat) (hc:c<n) (hr:r<m.length) {perm:List Nat}:∀ (f k:Nat) (fam:List (List Int)),k≤m.length→m.length-k<f→Mx perm fam (elimTo (fadd q) (fmul q) (fneg q) m r c k) →
  ∃ fam',Mx perm fam' (elim (fadd q) (fmul q) (fneg q) m r c)∧∀ {τ:Type} (κ:Nat→LS_→Option τ),runE L299_14 f κ 0 [.I c,.I r,.I u1,.I u2,.I m.length,.I k,.I (fp q),.I (fe q),.N (fm q).length,.L (fm q),.N m.length,.LN perm,.LL fam]=κ 0 [.I c,.I u1,.I u2,.I (fp q),.I (fe q),.N (fm q).length,.L (fm q),.N m.length,.LN perm,.LL fam']
 | 0,k,fam,h1,h2,h3=>by omega
 | f+1,k,fam,h1,h2,hM=>by
  have hf:=hm.few
  have hs:=hm.short
  have F:=fld q hq
  have ll:(elimTo (fadd q) (fmul q) (fneg q) m r c k).length=m.length:=elimTo_len
  have hpl:perm.length=m.length:=by rw [hM.len,ll]
  by_cases hj:k<m.length
  ·have wk:=hm.wd k hj
   have wr:=hm.wd r hr
   have gk:(elimTo (fadd q) (fmul q) (fneg q) m r c k).getD k []=m.getD k []:=by rw [elimTo_get hj,if_pos (.inr (Nat.le_refl _))]
   have gr:(elimTo (fadd q) (fmul q) (fneg q) m r c k).getD r []=m.getD r []:=by rw [elimTo_get hr,if_pos (.inl rfl)]
   have b1:=hM.lt k (by rw [ll];exact hj)
   have b2:=hM.lt r (by rw [ll];exact hr)
   have b3:=hM.eq k (by rw [ll];exact hj)
   have b4:=hM.eq r (by rw [ll];exact hr)
   rw [gk] at b3
   rw [gr] at b4
   by_cases hkr:k=r
   ·subst hkr
    obtain ⟨fam',c1,c2⟩:=L299_14_spec hq hm u1 u2 k c hc hr f (k+1) fam (by omega) (by omega) (by rw [elimTo_skip];exact hM)
    refine ⟨fam',c1,fun {τ} κ=>?_⟩
    rw [runE_succ]
    show L299_14.s0 _ _ _=_
    unfold L299_14.s0
    simp only [g_,gLN_zero,gLN_succ,Int.toNat_natCast,Nat.mul_one,Nat.zero_add,List.drop_zero,List.take_length,h_]
    rw [br_of (by simp;omega),br_no (by simp),wsucc (by omega)]
    exact c2 κ
   ·have x0:=wk.2 c hc
    have hne:perm.getD k 0≠perm.getD r 0:=fun e=>hkr (hM.inj k r (by rw [ll];exact hj) (by rw [ll];exact hr) e)
    have hM2:=hM.set (i:=k) (by rw [ll];exact hj) (vadd (fadd q) (m.getD k []) (vmul (fmul q) (fneg q (ent m k c)) (m.getD r [])))
    rw [←elimTo_step hj hkr] at hM2
    obtain ⟨fam',c1,c2⟩:=L299_14_spec hq hm u1 u2 r c hc hr f (k+1) _ (by omega) (by omega) hM2
    refine ⟨fam',c1,fun {τ} κ=>?_⟩
    have c2:=c2 κ
    rw [runE_succ]
    show L299_14.s0 _ _ _=_
    unfold L299_14.s0
    simp only [g_,gLN_zero,gLN_succ,Int.toNat_natCast,Nat.mul_one,Nat.zero_add,List.drop_zero,List.take_length,h_]
    have hneg:(k:Int)≠r:=by omega
    generalize hPk:perm.getD k 0=Pk at b1 b3 hne c2 ⊢
    generalize hPr:perm.getD r 0=Pr at b2 b4 hne c2 ⊢
    rw [b3,br_of (by simp;omega),br_of (by simpa using hneg),ck_of (by simp;omega),ck_of (by simp;omega),ck_of (by simp only [wk.1];simp;omega),ck_of (by simp only [wk.1];simp;omega),S307_0_spec hq (by omega) hpl.symm (by omega) (by omega) hPk hPr hne wr wk x0 b1 b2 b4 b3]
    simp only [g_,sw_zero,gLN_zero,gLN_succ,h_]
    rw [wsucc (by omega)]
    exact c2
  ·have:k=m.length:=by omega
   subst this
   rw [elimTo_all] at hM
   refine ⟨fam,hM,fun {τ} κ=>?_⟩
   rw [runE_succ]
   show L299_14.s0 _ _ _=_
   unfold L299_14.s0
   simp only [g_,gLN_zero,gLN_succ,Int.toNat_natCast,Nat.mul_one,Nat.zero_add,List.drop_zero,List.take_length,h_]
   rw [br_no (by simp)]
theorem L299_14_1_spec (hq:q∈Qs) {m:List (List Int)} (hm:Rows q n m) (u1 u2:Int) (r c:Nat) (hc:c<n) (hr:r<m.length) (np:Nat) (pv:List Int) {perm:List Nat}:∀ (f k:Nat) (fam:List (List Int)),k≤m.length→m.length-k<f→Mx perm fam (elimTo (fadd q) (fmul q) (fneg q) m r c k) →
  ∃ fam',Mx perm fam' (elim (fadd q) (fmul q) (fneg q) m r c)∧∀ {τ:Type} (κ:Nat→LS_→Option τ),runE L299_14_1 f κ 0 [.N np,.I c,.I r,.I u1,.I u2,.I m.length,.I k,.I (fp q),.I (fe q),.N (fm q).length,.L (fm q),.N m.length,.LN perm,.LL fam,.L pv]=κ 0 [.N np,.I c,.I u1,.I u2,.I (fp q),.I (fe q),.N (fm q).length,.L (fm q),.N m.length,.LN perm,.LL fam',.L pv]
 | 0,k,fam,h1,h2,h3=>by omega
 | f+1,k,fam,h1,h2,hM=>by
  have hf:=hm.few
  have hs:=hm.short
  have F:=fld q hq
  have ll:(elimTo (fadd q) (fmul q) (fneg q) m r c k).length=m.length:=elimTo_len
  have hpl:perm.length=m.length:=by rw [hM.len,ll]
  by_cases hj:k<m.length
  ·have wk:=hm.wd k hj
   have wr:=hm.wd r hr
   have gk:(elimTo (fadd q) (fmul q) (fneg q) m r c k).getD k []=m.getD k []:=by rw [elimTo_get hj,if_pos (.inr (Nat.le_refl _))]
   have gr:(elimTo (fadd q) (fmul q) (fneg q) m r c k).getD r []=m.getD r []:=by rw [elimTo_get hr,if_pos (.inl rfl)]
   have b1:=hM.lt k (by rw [ll];exact hj)
   have b2:=hM.lt r (by rw [ll];exact hr)
   have b3:=hM.eq k (by rw [ll];exact hj)
   have b4:=hM.eq r (by rw [ll];exact hr)
   rw [gk] at b3
   rw [gr] at b4
   by_cases hkr:k=r
   ·subst hkr
    obtain ⟨fam',c1,c2⟩:=L299_14_1_spec hq hm u1 u2 k c hc hr np pv f (k+1) fam (by omega) (by omega) (by rw [elimTo_skip];exact hM)
    refine ⟨fam',c1,fun {τ} κ=>?_⟩
    rw [runE_succ]
    show L299_14_1.s0 _ _ _=_
    unfold L299_14_1.s0
    simp only [g_,gLN_zero,gLN_succ,Int.toNat_natCast,Nat.mul_one,Nat.zero_add,List.drop_zero,List.take_length,h_]
    rw [br_of (by simp;omega),br_no (by simp),wsucc (by omega)]
    exact c2 κ
   ·have x0:=wk.2 c hc
    have hne:perm.getD k 0≠perm.getD r 0:=fun e=>hkr (hM.inj k r (by rw [ll];exact hj) (by rw [ll];exact hr) e)
    have hM2:=hM.set (i:=k) (by rw [ll];exact hj) (vadd (fadd q) (m.getD k []) (vmul (fmul q) (fneg q (ent m k c)) (m.getD r [])))
    rw [←elimTo_step hj hkr] at hM2
    obtain ⟨fam',c1,c2⟩:=L299_14_1_spec hq hm u1 u2 r c hc hr np pv f (k+1) _ (by omega) (by omega) hM2
    refine ⟨fam',c1,fun {τ} κ=>?_⟩
    have c2:=c2 κ
    rw [runE_succ]
    show L299_14_1.s0 _ _ _=_
    unfold L299_14_1.s0
    simp only [g_,gLN_zero,gLN_succ,Int.toNat_natCast,Nat.mul_one,Nat.zero_add,List.drop_zero,List.take_length,h_]
    have hneg:(k:Int)≠r:=by omega
    generalize hPk:perm.getD k 0=Pk at b1 b3 hne c2 ⊢
    generalize hPr:perm.getD r 0=Pr at b2 b4 hne c2 ⊢
    rw [b3,br_of (by simp;omega),br_of (by simpa using hneg),ck_of (by simp;omega),ck_of (by simp;omega),ck_of (by simp only [wk.1];simp;omega),ck_of (by simp only [wk.1];simp;omega),S307_0_spec hq (by omega) hpl.symm (by omega) (by omega) hPk hPr hne wr wk x0 b1 b2 b4 b3]
    simp only [g_,sw_zero,gLN_zero,gLN_succ,h_]
    rw [wsucc (by omega)]
    exact c2
  ·have:k=m.length:=by omega
   subst this
   rw [elimTo_all] at hM
   refine ⟨fam,hM,fun {τ} κ=>?_⟩
   rw [runE_succ]
   show L299_14_1.s0 _ _ _=_
   unfold L299_14_1.s0
   simp only [g_,gLN_zero,gLN_succ,Int.toNat_natCast,Nat.mul_one,Nat.zero_add,List.drop_zero,List.take_length,h_]
   rw [br_no (by simp)]
def redp (add mul:Int→Int→Int) (neg inv:Int→Int):Nat→Nat→Nat→List (List Int)→List Int
 | 0,c,r,m=>[]
 | f+1,c,r,m=>if r<m.length then (if findp m c (m.length-r) r=m.length then redp add mul neg inv f (c+1) r m
   else (c:Int)::redp add mul neg inv f (c+1) (r+1) (elim add mul neg (lift mul inv m r (findp m c (m.length-r) r) c) r c)) else []
theorem redp_succ {add mul:Int→Int→Int} {neg inv:Int→Int} {g c r:Nat} {m:List (List Int)}:redp add mul neg inv (g+1) c r m=(if r<m.length then (if findp m c (m.length-r) r=m.length then redp add mul neg inv g (c+1) r m
   else (c:Int)::redp add mul neg inv g (c+1) (r+1) (elim add mul neg (lift mul inv m r (findp m c (m.length-r) r) c) r c)) else []):=rfl
theorem red_all {add mul:Int→Int→Int} {neg inv:Int→Int} {c r:Nat} {m:List (List Int)} (h:¬ r<m.length):∀ g,red add mul neg inv g c r m=(m,r)∧redp add mul neg inv g c r m=[]
 | 0=>⟨rfl,rfl⟩
 | g+1=>⟨by rw [red_succ,if_neg h],by rw [redp_succ,if_neg h]⟩
theorem swap_lift {mul:Int→Int→Int} {inv:Int→Int} {m:List (List Int)} {r p c:Nat}:((m.set p (m.getD r [])).set r (m.getD p [])).set r (vmul mul (inv (ent m p c)) (m.getD p []))=lift mul inv m r p c:=by
 unfold lift;simp
theorem L299_3_1_spec1 (hq:q∈Qs):∀ (f g:Nat) (c r:Nat) (m:List (List Int)) (perm:List Nat) (fam:List (List Int)) (pv:List Int),Rows q n m→Mx perm fam m→g+c=n→r≤m.length→pv.length=r→g<f →
  ∃ perm' fam',Mx perm' fam' (red (fadd q) (fmul q) (fneg q) (finv q) g c r m).1∧∀ {τ:Type} (κ:Nat→LS_→Option τ),runE L299_3_1 f κ 1 [.N r,.I n,.I c,.I (fp q),.I (fe q),.N (fm q).length,.L (fm q),.N m.length,.LN perm,.LL fam,.L pv] =
   κ 1 [.N (red (fadd q) (fmul q) (fneg q) (finv q) g c r m).2,.I (fp q),.I (fe q),.N (fm q).length,.L (fm q),.N m.length,.LN perm',.LL fam',.L (pv++redp (fadd q) (fmul q) (fneg q) (finv q) g c r m)]
 | 0,g,c,r,m,perm,fam,pv,hm,hM,hg,hr,hpv,hf=>by omega
 | f+1,0,c,r,m,perm,fam,pv,hm,hM,hg,hr,hpv,hf=>by
  refine ⟨perm,fam,hM,fun {τ} κ=>?_⟩
  rw [runE_succ]
  show L299_3_1.s1 _ _ _=_
  unfold L299_3_1.s1
  simp only [g_,gLN_zero,gLN_succ,Int.toNat_natCast,Nat.mul_one,Nat.zero_add,List.drop_zero,List.take_length,h_]
  rw [br_no (by simp;omega)]
  simp [red,redp]
 | f+1,g+1,c,r,m,perm,fam,pv,hm,hM,hg,hr,hpv,hf=>by
  have h1:=hm.few
  have h2:=hm.short
  have F:=fld q hq
  have hfu:=fuel_le
  have hpl:=hM.len
  have hc:c<n:=by omega
  have hfind:=fun {τ:Type} (κ:Nat→LS_→Option τ)=>L299_7_2_spec hM (by omega) (fun i hi=>(hm.wd i hi).1) c hc r n c (fp q) (fe q) (fm q).length (fm q) r pv κ fuel r (m.length-r) hr (by omega) (by omega)
  by_cases hlt:r<m.length
  ·rw [red_succ,redp_succ,if_pos hlt,if_pos hlt]
   obtain ⟨a1,a2,a3,a4⟩:=findp_spec m c (m.length-r) r (by omega) (by omega)
   generalize hp:findp m c (m.length-r) r=p at *
   by_cases hpz:p=m.length
   ·rw [if_pos hpz,if_pos hpz]
    obtain ⟨perm',fam',c1,c2⟩:=L299_3_1_spec1 hq f g (c+1) r m perm fam pv hm hM (by omega) hr hpv (by omega)
    refine ⟨perm',fam',c1,fun {τ} κ=>?_⟩
    have c2:=c2 κ
    rw [runE_succ]
    show L299_3_1.s1 _ _ _=_
    unfold L299_3_1.s1 L299_7_2.b
    simp only [g_,gLN_zero,gLN_succ,Int.toNat_natCast,Nat.mul_one,Nat.zero_add,List.drop_zero,List.take_length,h_]
    rw [br_of (by simp;omega),hfind]
    simp only [g_,sw_zero,gLN_zero,gLN_succ,h_]
    rw [br_of (by simp;omega),wsucc (by omega)]
    exact c2
   ·have hp':p<m.length:=by omega
    rw [if_neg hpz,if_neg hpz]
    have wp:=hm.wd p hp'
    have x0:=wp.2 c hc
    have xz:(m.getD p []).getD c 0≠0:=a4 hp'
    have hi:=F.inv_in _ x0.1 x0.2
    have hml:=hm.lift hq hlt hp' hc
    have ll:(lift (fmul q) (finv q) m r p c).length=m.length:=lift_len
    have hM2:=hM.swap hp' hlt
    have e2:((m.set p (m.getD r [])).set r (m.getD p [])).getD r []=m.getD p []:=by
     rw [getD_set_row (by simpa using hlt),if_pos rfl]
    have b1:=hM.lt r hlt
    have b2:=hM.lt p hp'
    have b3:=hM2.lt r (by simpa using hlt)
    have b4:=hM2.eq r (by simpa using hlt)
    rw [e2] at b4
    have hM3:=hM2.set (i:=r) (by simpa using hlt) (vmul (fmul q) (finv q (ent m p c)) (m.getD p []))
    rw [swap_lift] at hM3
    have hpl2:((perm.set p (perm.getD r 0)).set r (perm.getD p 0)).length=m.length:=by simp [hpl]
    have hr1:r<perm.length:=by omega
    have hp1:p<perm.length:=by omega
    have wx:(fam.getD (perm.getD r 0) []).length=n:=by rw [hM.eq r hlt];exact (hm.wd r hlt).1
    have wy:(fam.getD (perm.getD p 0) []).length=n:=by rw [hM.eq p hp'];exact wp.1
    generalize hpm:(perm.set p (perm.getD r 0)).set r (perm.getD p 0)=pm at hM2 hM3 b3 b4 hpl2
    obtain ⟨fam2,d1,d2⟩:=L299_14_1_spec hq hml n c r c hc (by rw [ll];exact hlt) r pv fuel 0 _ (by omega) (by omega) (by rw [elimTo_zero];exact hM3)
    obtain ⟨perm',fam',c1,c2⟩:=L299_3_1_spec1 hq f g (c+1) (r+1) (elim (fadd q) (fmul q) (fneg q) (lift (fmul q) (finv q) m r p c) r c) pm fam2 (pv++[(c:Int)]) (hml.elim hq (by rw [ll];exact hlt) hc) d1 (by omega) (by rw [elim_len,ll];omega) (by simp;omega) (by omega)
    refine ⟨perm',fam',c1,fun {τ} κ=>?_⟩
    have c2:=c2 κ
    rw [elim_len,ll,List.append_assoc] at c2
    rw [runE_succ]
    show L299_3_1.s1 _ _ _=_
    unfold L299_3_1.s1 L299_7_2.b
    simp only [g_,gLN_zero,gLN_succ,Int.toNat_natCast,Nat.mul_one,Nat.zero_add,List.drop_zero,List.take_length,h_]
    rw [br_of (by simp;omega),hfind]
    simp only [g_,sw_zero,gLN_zero,gLN_succ,Int.toNat_natCast,Nat.mul_one,Nat.zero_add,h_]
    rw [br_no (by simp;omega)]
    simp only [hpm]
    generalize perm.getD r 0=Pr at b1 wx ⊢
    generalize perm.getD p 0=Pp at b2 wy ⊢
    generalize hPq:pm.getD r 0=Pq at b3 b4 d2 hM3 ⊢
    rw [ck_of (by simp;omega),ck_of (by simp;omega),ck_of (by simp;omega),ck_of (by simp;omega),ck_of (by simp;omega),ck_of (by simp;omega),ck_of (by simp;omega),ck_of (by simp;omega),ck_of (by simp;omega),ck_of (by simp;omega),b4,ck_of (by simp only [wp.1];simp;omega),ck_of (by simp only [wp.1];simp;omega),ck_of (by simp),T116_of hq x0 xz]
    simp only [sw_zero,gI_zero,h_]
    rw [S306_0_spec hq hpl2.symm (by omega) hPq (In.of wp) (by rw [wp.1];omega) hi b3 b4]
    simp only [g_,sw_zero,gLN_zero,gLN_succ,h_]
    unfold L299_14_1.b
    rw [ll] at d2
    refine Eq.trans (d2 _) ?_
    simp only [g_,sw_zero,gLN_zero,gLN_succ,h_]
    rw [ck_of (by simp;omega),wsucc (by omega)]
    exact c2
  ·obtain ⟨e1,e2⟩:=red_all (add:=fadd q) (mul:=fmul q) (neg:=fneg q) (inv:=finv q) (c:=c) hlt (g+1)
   obtain ⟨e3,e4⟩:=red_all (add:=fadd q) (mul:=fmul q) (neg:=fneg q) (inv:=finv q) (c:=c+1) hlt g
   obtain ⟨perm',fam',c1,c2⟩:=L299_3_1_spec1 hq f g (c+1) r m perm fam pv hm hM (by omega) hr hpv (by omega)
   rw [e3] at c1
   rw [e1,e2]
   refine ⟨perm',fam',c1,fun {τ} κ=>?_⟩
   have c2:=c2 κ
   rw [e3,e4] at c2
   have hrm:r=m.length:=by omega
   have hfz:findp m c (m.length-r) r=m.length:=by rw [hrm,Nat.sub_self];rfl
   rw [hfz] at hfind
   rw [runE_succ]
   show L299_3_1.s1 _ _ _=_
   unfold L299_3_1.s1 L299_7_2.b
   simp only [g_,gLN_zero,gLN_succ,Int.toNat_natCast,Nat.mul_one,Nat.zero_add,List.drop_zero,List.take_length,h_]
   rw [br_of (by simp;omega),hfind]
   simp only [g_,sw_zero,gLN_zero,gLN_succ,h_]
   rw [br_of (by simp),wsucc (by omega)]
   exact c2
theorem red_pos {add mul:Int→Int→Int} {neg inv:Int→Int}:∀ (g c r:Nat) (m:List (List Int)),r≤(red add mul neg inv g c r m).2
 | 0,c,r,m=>Nat.le_refl _
 | g+1,c,r,m=>by
  rw [red_succ]
  split
  ·split
   ·exact red_pos g (c+1) r m
   ·exact Nat.le_trans (Nat.le_succ r) (red_pos g (c+1) (r+1) _)
  ·exact Nat.le_refl _
theorem L299_3_1_spec0 (hq:q∈Qs):∀ (f g:Nat) (c:Nat) (m:List (List Int)) (perm:List Nat) (fam:List (List Int)),Rows q n m→Mx perm fam m→0<m.length→g+c=n→g<f →
  ∃ perm' fam',Mx perm' fam' (red (fadd q) (fmul q) (fneg q) (finv q) g c 0 m).1∧∀ {τ:Type} (κ:Nat→LS_→Option τ),runE L299_3_1 f κ 0 [.I n,.I c,.I (fp q),.I (fe q),.N (fm q).length,.L (fm q),.N m.length,.LN perm,.LL fam] =
   if (red (fadd q) (fmul q) (fneg q) (finv q) g c 0 m).2=0 then κ 0 [.I (fp q),.I (fe q),.N (fm q).length,.L (fm q),.N m.length,.LN perm',.LL fam'] else
   κ 1 [.N (red (fadd q) (fmul q) (fneg q) (finv q) g c 0 m).2,.I (fp q),.I (fe q),.N (fm q).length,.L (fm q),.N m.length,.LN perm',.LL fam',.L (redp (fadd q) (fmul q) (fneg q) (finv q) g c 0 m)]
 | 0,g,c,m,perm,fam,hm,hM,hlt,hg,hf=>by omega
 | f+1,0,c,m,perm,fam,hm,hM,hlt,hg,hf=>by
  refine ⟨perm,fam,hM,fun {τ} κ=>?_⟩
  rw [runE_succ]
  show L299_3_1.s0 _ _ _=_
  unfold L299_3_1.s0
  simp only [g_,gLN_zero,gLN_succ,Int.toNat_natCast,Nat.mul_one,Nat.zero_add,List.drop_zero,List.take_length,h_]
  rw [br_no (by simp;omega)]
  rfl
 | f+1,g+1,c,m,perm,fam,hm,hM,hlt,hg,hf=>by
  have h1:=hm.few
  have h2:=hm.short
  have F:=fld q hq
  have hfu:=fuel_le
  have hpl:=hM.len
  have hc:c<n:=by omega
  have hfind:=fun {τ:Type} (κ:Nat→LS_→Option τ)=>L299_7_1_spec hM (by omega) (fun i hi=>(hm.wd i hi).1) c hc 0 n c (fp q) (fe q) (fm q).length (fm q) κ fuel 0 (m.length-0) (by omega) (by omega) (by omega)
  rw [red_succ,redp_succ,if_pos hlt,if_pos hlt]
  obtain ⟨a1,a2,a3,a4⟩:=findp_spec m c (m.length-0) 0 (by omega) (by omega)
  generalize hp:findp m c (m.length-0) 0=p at *
  by_cases hpz:p=m.length
  ·rw [if_pos hpz,if_pos hpz]
   obtain ⟨perm',fam',c1,c2⟩:=L299_3_1_spec0 hq f g (c+1) m perm fam hm hM hlt (by omega) (by omega)
   refine ⟨perm',fam',c1,fun {τ} κ=>?_⟩
   have c2:=c2 κ
   rw [runE_succ]
   show L299_3_1.s0 _ _ _=_
   unfold L299_3_1.s0 L299_7_1.b
   simp only [g_,gLN_zero,gLN_succ,Int.toNat_natCast,Nat.mul_one,Nat.zero_add,List.drop_zero,List.take_length,h_]
   rw [br_of (by simp;omega)]
   refine Eq.trans (hfind _) ?_
   simp only [g_,sw_zero,gLN_zero,gLN_succ,h_]
   rw [br_of (by simp;omega),wsucc (by omega)]
   exact c2
  ·have hp':p<m.length:=by omega
   rw [if_neg hpz,if_neg hpz]
   have wp:=hm.wd p hp'
   have x0:=wp.2 c hc
   have xz:(m.getD p []).getD c 0≠0:=a4 hp'
   have hi:=F.inv_in _ x0.1 x0.2
   have hml:=hm.lift hq hlt hp' hc
   have ll:(lift (fmul q) (finv q) m 0 p c).length=m.length:=lift_len
   have hM2:=hM.swap hp' hlt
   have e2:((m.set p (m.getD 0 [])).set 0 (m.getD p [])).getD 0 []=m.getD p []:=by
    rw [getD_set_row (by simpa using hlt),if_pos rfl]
   have b1:=hM.lt 0 hlt
   have b2:=hM.lt p hp'
   have b3:=hM2.lt 0 (by simpa using hlt)
   have b4:=hM2.eq 0 (by simpa using hlt)
   rw [e2] at b4
   have hM3:=hM2.set (i:=0) (by simpa using hlt) (vmul (fmul q) (finv q (ent m p c)) (m.getD p []))
   rw [swap_lift] at hM3
   have hpl2:((perm.set p (perm.getD 0 0)).set 0 (perm.getD p 0)).length=m.length:=by simp [hpl]
   have hr1:0<perm.length:=by omega
   have hp1:p<perm.length:=by omega
   have wx:(fam.getD (perm.getD 0 0) []).length=n:=by rw [hM.eq 0 hlt];exact (hm.wd 0 hlt).1
   have wy:(fam.getD (perm.getD p 0) []).length=n:=by rw [hM.eq p hp'];exact wp.1
   generalize hpm:(perm.set p (perm.getD 0 0)).set 0 (perm.getD p 0)=pm at hM2 hM3 b3 b4 hpl2
   obtain ⟨fam2,d1,d2⟩:=L299_14_spec hq hml n c 0 c hc (by rw [ll];exact hlt) fuel 0 _ (by omega) (by omega) (by rw [elimTo_zero];exact hM3)
   obtain ⟨perm',fam',c1,c2⟩:=L299_3_1_spec1 hq f g (c+1) 1 (elim (fadd q) (fmul q) (fneg q) (lift (fmul q) (finv q) m 0 p c) 0 c) pm fam2 [(c:Int)] (hml.elim hq (by rw [ll];exact hlt) hc) d1 (by omega) (by rw [elim_len,ll];omega) rfl (by omega)
   refine ⟨perm',fam',c1,fun {τ} κ=>?_⟩
   have c2:=c2 κ
   have hpos:=red_pos (add:=fadd q) (mul:=fmul q) (neg:=fneg q) (inv:=finv q) g (c+1) 1 (elim (fadd q) (fmul q) (fneg q) (lift (fmul q) (finv q) m 0 p c) 0 c)
   rw [if_neg (Nat.ne_of_gt hpos)]
   rw [elim_len,ll] at c2
   rw [runE_succ]
   show L299_3_1.s0 _ _ _=_
   unfold L299_3_1.s0 L299_7_1.b
   simp only [g_,gLN_zero,gLN_succ,Int.toNat_natCast,Nat.mul_one,Nat.zero_add,List.drop_zero,List.take_length,h_]
   rw [br_of (by simp;omega)]
   refine Eq.trans (hfind _) ?_
   simp only [g_,sw_zero,gLN_zero,gLN_succ,Int.toNat_natCast,Nat.mul_one,Nat.zero_add,Int.toNat_zero,h_]
   rw [br_no (by simp;omega)]
   simp only [hpm]
   generalize perm.getD 0 0=Pr at b1 wx ⊢
   generalize perm.getD p 0=Pp at b2 wy ⊢
   generalize hPq:pm.getD 0 0=Pq at b3 b4 d2 hM3 ⊢
   rw [ck_of (by simp;omega),ck_of (by simp;omega),ck_of (by simp;omega),ck_of (by simp;omega),ck_of (by simp;omega),ck_of (by simp;omega),ck_of (by simp;omega),ck_of (by simp;omega),ck_of (by simp;omega),ck_of (by simp;omega),b4,ck_of (by simp only [wp.1];simp;omega),ck_of (by simp only [wp.1];simp;omega),ck_of (by simp),T116_of hq x0 xz]
   simp only [sw_zero,gI_zero,h_]
   refine Eq.trans (S306_0_spec (r:=0) hq hpl2.symm (by omega) hPq (In.of wp) (by rw [wp.1];omega) hi b3 b4 _) ?_
   simp only [g_,sw_zero,gLN_zero,gLN_succ,h_]
   unfold L299_14.b
   rw [ll] at d2
   refine Eq.trans (d2 _) ?_
   simp only [g_,sw_zero,gLN_zero,gLN_succ,h_]
   rw [wsucc (by omega)]
   exact c2
end
end
end Go.Proofs.Yticbdgmcofjkeaa.Ai
namespace Go.Proofs.Yticbdgmcofjkeaa.Ai
open Go Go.RowKit
noncomputable section
def T291 {τ:Type} (l:LS_) (k:Nat→LS_→Option τ):Option τ:=wrapB F291.E (.v pM) l k
def T291.E:Ent P:=F291.E.wrap (.v pM)
end
end Go.Proofs.Yticbdgmcofjkeaa.Ai
namespace Go.Proofs.Yticbdgmcofjkeaa.Ai
open Go Ma Go.RowKit
noncomputable section
section
variable {q n:Nat}
theorem L298_3_spec1 {m:List (List Int)} (hs:m.length<2^20) (hw:∀ i,i<m.length→(m.getD i []).length<2^20) (p e:Int) (N:Nat) (M:List Int) (p' e':Int) (N':Nat) (M':List Int) {τ:Type} (κ:Nat→LS_→Option τ):∀ (f j:Nat),j≤m.length→m.length-j<f →
  runE L298_3 f κ 1 [.N m.length,.LL m,.I m.length,.I j,.I p,.I e,.N N,.L M,.I p',.I e',.N N',.L M',.N j,.LN (List.range j),.LL (m.take j)]=κ 1 [.I p,.I e,.N N,.L M,.I p',.I e',.N N',.L M',.N m.length,.LN (List.range m.length),.LL m]
 | 0,j,h1,h2=>by omega
 | f+1,j,h1,h2=>by
  rw [runE_succ]
  show L298_3.s1 _ _ _=_
  unfold L298_3.s1
  simp only [g_,gLN_zero,gLN_succ,Int.toNat_natCast,Nat.mul_one,Nat.zero_add,List.drop_zero,List.take_length,h_]
  by_cases hj:j<m.length
  ·have hl:=hw j hj
   have tl:(m.take j).length=j:=by simp;omega
   rw [br_of (by simp;omega),ck_of (by simp;omega),ck_of (by simp;omega),ck_of (by simp [-List.getD_eq_getElem?_getD];omega),ck_of (by simp),ck_of (by simp;omega),wsucc (by omega),tl,←List.range_succ,←take_succ_getD [] hj]
   exact L298_3_spec1 hs hw p e N M p' e' N' M' κ f (j+1) (by omega) (by omega)
  ·have:j=m.length:=by omega
   subst this
   rw [br_no (by simp),List.take_length]
theorem S298_0_spec {m:List (List Int)} (hs:m.length<2^20) (hw:∀ i,i<m.length→(m.getD i []).length<2^20) (p e:Int) (N:Nat) (M:List Int) {τ:Type} (k:Nat→LS_→Option τ) :
    S298_0 [.I p,.I e,.N N,.L M,.N m.length,.LL m] k=if m=[] then k 0 [.I p,.I e,.N N,.L M] else k 1 [.I p,.I e,.N N,.L M,.N m.length,.LN (List.range m.length),.LL m]:=by
  obtain ⟨f,hf,hf2⟩:=fuel_pred
  unfold S298_0 L298_3.b
  simp only [g_,gLN_zero,gLN_succ,h_]
  rw [hf,runE_succ,show ∀ (a b:Nat→LS_→Option τ) (l:LS_),L298_3.step a b 0 l=L298_3.s0 a b l from fun _ _ _=>rfl]
  unfold L298_3.s0
  simp only [g_,gLN_zero,gLN_succ,Int.toNat_zero,Nat.zero_mul,h_]
  by_cases h:m=[]
  · subst h
    rw [if_pos rfl,br_no (by simp)]
    rfl
  · have h0:0<m.length:=List.length_pos_iff.2 h
    have hl:=hw 0 h0
    have key:=L298_3_spec1 hs hw p e N M p e N M (fun j l0=>(sw (k 0 [.I (gI l0 4),.I (gI l0 5),.N (gN l0 6),.L (gL l0 7)])
 (sw (k 1 [.I (gI l0 4),.I (gI l0 5),.N (gN l0 6),.L (gL l0 7),.N (gN l0 8),.LN (gLN l0 9),.LL (gLL l0 10)])
 (fun _=>none))) j) f 1 (by omega) (by omega)
    have e1:m.take 1=[m.getD 0 []]:=by
      have:=take_succ_getD [] h0
      simpa using this
    rw [e1] at key
    rw [if_neg h,br_of (by simp;omega),ck_of (by simp;omega),ck_of (by simp;omega),ck_of (by simp [-List.getD_eq_getElem?_getD];omega),ck_of (by simp),ck_of (by simp)]
    exact key
theorem S299_1_spec (hq:q∈Qs) {m:List (List Int)} (hm:Rows q n m) (h0:0<m.length) {ml:Nat} (hml:ml=m.length):∃ perm' fam',Mx perm' fam' (red (fadd q) (fmul q) (fneg q) (finv q) n 0 0 m).1∧∀ {τ:Type} (k:Nat→LS_→Option τ),
  S299_1 [.I n,.I (fp q),.I (fe q),.N (fm q).length,.L (fm q),.N ml,.LN (List.range ml),.LL m] k=if (red (fadd q) (fmul q) (fneg q) (finv q) n 0 0 m).2=0 then k 0 [.I (fp q),.I (fe q),.N (fm q).length,.L (fm q),.N ml,.LN perm',.LL fam'] else
   k 1 [.N (red (fadd q) (fmul q) (fneg q) (finv q) n 0 0 m).2,.I (fp q),.I (fe q),.N (fm q).length,.L (fm q),.N ml,.LN perm',.LL fam',.L (redp (fadd q) (fmul q) (fneg q) (finv q) n 0 0 m)]:=by
 subst hml
 have hfu:=fuel_le
 have:=hm.short
 obtain ⟨perm',fam',c1,c2⟩:=L299_3_1_spec0 hq fuel n 0 m (List.range m.length) m hm (Mx_copy m) h0 (by omega) (by omega)
 refine ⟨perm',fam',c1,fun {τ} k=>?_⟩
 unfold S299_1 L299_3_1.b
 simp only [g_,gLN_zero,gLN_succ,h_]
 refine Eq.trans (c2 _) ?_
 by_cases h:(red (fadd q) (fmul q) (fneg q) (finv q) n 0 0 m).2=0
 ·rw [if_pos h,if_pos h];rfl
 ·rw [if_neg h,if_neg h];rfl
theorem red_le (F:Fld q (fadd q) (fmul q) (fneg q) (finv q)) {m:List (List Int)} (hm:Rows q n m):(red (fadd q) (fmul q) (fneg q) (finv q) n 0 0 m).2≤m.length∧(red (fadd q) (fmul q) (fneg q) (finv q) n 0 0 m).1.length=m.length:=by
 obtain ⟨piv,c,h1,h2,h3,h4⟩:=red_way F n 0 0 m (fun _=>0) (by omega) ⟨hm.wd,Nat.zero_le _,fun i hi=>by omega,fun i j _ hj=>by omega,fun i hi=>by omega,fun i k hi=>by omega,fun i j hi=>by omega,fun k j _ _ hj=>by omega⟩
 exact ⟨by rw [←h4];exact h2.rl,h4⟩
theorem F300_spec (hq:q∈Qs) {m:List (List Int)} (hm:Rows q n m) {R:List (List Int)} (hR:reduce (fadd q) (fmul q) (fneg q) (finv q) n m=R) {τ:Type} (k:Nat→LS_→Option τ) :
  F300 [.I (fp q),.I (fe q),.L (fm q),.LL m] k=if m=[] then k 0 [] else if R.length=0 then k 1 [.N 0] else k 2 [.N R.length,.LL R]:=by
 obtain ⟨f,hf,hf2⟩:=fuel_pred
 have F:=fld q hq
 have h1:=hm.few
 have h2:=hm.short
 unfold F300
 simp only [g_,h_]
 rw [S298_0_spec h1 (fun i hi=>by rw [(hm.wd i hi).1];exact h2)]
 by_cases h:m=[]
 ·subst h
  rw [if_pos rfl,if_pos rfl]
  simp only [g_,sw_zero,h_]
  rw [ck_of (by simp)]
  unfold F308
  simp only [gLL_zero,h_]
  rw [br_of (by simp)]
  simp only [sw_zero,gI_zero,gI_succ,h_]
  unfold S299_0 L299_3.b
  simp only [g_,h_]
  rw [hf,runE_succ,show ∀ (a b:Nat→LS_→Option τ) (l:LS_),L299_3.step a b 0 l=L299_3.s0 a b l from fun _ _ _=>rfl]
  unfold L299_3.s0
  simp only [g_,h_]
  rw [br_no (by simp)]
  simp only [g_,sw_zero,h_]
  rw [ck_of (by simp)]
 ·have h0:0<m.length:=List.length_pos_iff.2 h
  obtain ⟨perm',fam',c1,c2⟩:=S299_1_spec (n:=n) hq hm h0 (ml:=m.length) rfl
  obtain ⟨l1,l2⟩:=red_le F hm
  have hw:=(hm.wd 0 h0).1
  have hRl:R.length=(red (fadd q) (fmul q) (fneg q) (finv q) n 0 0 m).2:=by rw [←hR];unfold reduce;simp;omega
  rw [if_neg h,if_neg h]
  simp only [g_,sw_one,sw_zero,gLN_zero,gLN_succ,h_]
  rw [ck_of (by simp)]
  unfold F308
  simp only [gLL_zero,h_]
  rw [br_no (by simp;omega),ck_of (by simp;omega),ck_of (by simp;omega)]
  simp only [sw_zero,gI_zero,gI_succ,hw,h_]
  rw [c2]
  by_cases hz:(red (fadd q) (fmul q) (fneg q) (finv q) n 0 0 m).2=0
  ·rw [if_pos hz,if_pos (by omega)]
   simp only [g_,sw_zero,h_]
   rw [ck_of (by simp)]
  ·rw [if_neg hz,if_neg (by omega)]
   simp only [g_,sw_one,sw_zero,gLN_zero,gLN_succ,Int.toNat_natCast,Nat.sub_zero,Nat.mul_one,List.drop_zero,h_]
   have e1:=Mx_take c1 (r:=(red (fadd q) (fmul q) (fneg q) (finv q) n 0 0 m).2) (by omega)
   have e2:=Mx_lt c1 (r:=(red (fadd q) (fmul q) (fneg q) (finv q) n 0 0 m).2) (by omega)
   rw [ck_of (by simp),ck_of (by simp;omega),br_of (by simp;omega),ck_of (by rw [e2] <;> rfl),e1,hRl,←hR]
   rfl
end
end
end Go.Proofs.Yticbdgmcofjkeaa.Ai
namespace Go.Proofs.Yticbdgmcofjkeaa.Ai
open Go Ma Go.RowKit
noncomputable section
section
variable {q n:Nat}
theorem redp_piv {add mul:Int→Int→Int} {neg inv:Int→Int} (F:Fld q add mul neg inv):∀ (g c r:Nat) (m:List (List Int)) (piv:Nat→Nat),g+c=n→Ma.Way q n c r m piv →
  ∃ piv' c',c'≤n∧Ma.Way q n c' (red add mul neg inv g c r m).2 (red add mul neg inv g c r m).1 piv'∧(∀ i,i<r→piv' i=piv i)∧(redp add mul neg inv g c r m).length+r=(red add mul neg inv g c r m).2 ∧
   ∀ i,i<(redp add mul neg inv g c r m).length→(redp add mul neg inv g c r m).getD i 0=((piv' (r+i):Nat):Int)
 | 0,c,r,m,piv,hf,W=>⟨piv,c,by omega,W,fun _ _=>rfl,by simp [redp,red],fun i hi=>by simp [redp] at hi⟩
 | g+1,c,r,m,piv,hf,W=>by
  by_cases hr:r<m.length
  ·obtain ⟨a1,a2,a3,a4⟩:=findp_spec m c (m.length-r) r (by omega) (by omega)
   rw [red_succ,redp_succ,if_pos hr,if_pos hr]
   by_cases hp:findp m c (m.length-r) r=m.length
   ·rw [if_pos hp,if_pos hp]
    exact redp_piv F g (c+1) r m piv (by omega) (W.pass fun k hk hl=>a3 k hk (by omega))
   ·rw [if_neg hp,if_neg hp]
    obtain ⟨p1,c1,h1,h2,h3,h4,h5⟩:=redp_piv F g (c+1) (r+1) (elim add mul neg (lift mul inv m r (findp m c (m.length-r) r) c) r c) (fun i=>if i=r then c else piv i) (by omega) (W.step F (by omega) hr a1 (by omega) (a4 (by omega)))
    refine ⟨p1,c1,h1,h2,fun i hi=>?_,by rw [List.length_cons];omega,fun i hi=>?_⟩
    ·rw [h3 i (by omega),if_neg (by omega)]
    ·cases i with
     | zero =>
      have:=h3 r (by omega)
      rw [if_pos rfl] at this
      show (c:Int)=((p1 r:Nat):Int)
      rw [this]
     | succ i =>
      have:=h5 i (by simpa using hi)
      rw [show r+(i+1)=r+1+i by omega,←this];rfl
  ·obtain ⟨e1,e2⟩:=red_all (add:=add) (mul:=mul) (neg:=neg) (inv:=inv) (c:=c) hr (g+1)
   rw [e1,e2]
   exact ⟨piv,c,by omega,W,fun _ _=>rfl,by simp,fun i hi=>by simp at hi⟩
def kvT (q n:Nat) (pv:List Int) (M:List (List Int)) (j:Nat):Nat→List Int
 | 0=>(List.replicate n 0).set j 1
 | i+1=>(kvT q n pv M j i).set (pv.getD i 0).toNat (fneg q (ent M i j))
theorem kvT_len (pv:List Int) (M:List (List Int)) (j:Nat):∀ i,(kvT q n pv M j i).length=n
 | 0=>by simp [kvT]
 | i+1=>by rw [kvT,List.length_set,kvT_len pv M j i]
structure Pvs (q n:Nat) (pv:List Int) (M:List (List Int)) (piv:Nat→Nat):Prop where
 at_:∀ i,i<pv.length→pv.getD i 0=((piv i:Nat):Int)
 le:pv.length≤M.length
 wd:∀ i,i<M.length→Wd q n (M.getD i [])
 ref:Rref q n (M.take pv.length) piv
theorem Pvs.lt {pv:List Int} {M:List (List Int)} {piv:Nat→Nat} (h:Pvs q n pv M piv) {i:Nat} (hi:i<pv.length):piv i<n:=h.ref.lt i (by rw [List.length_take];have:=h.le;omega)
theorem Pvs.inj {pv:List Int} {M:List (List Int)} {piv:Nat→Nat} (h:Pvs q n pv M piv) {i j:Nat} (hi:i<pv.length) (hj:j<pv.length) (e:piv i=piv j):i=j:=by
 have hl:(M.take pv.length).length=pv.length:=by rw [List.length_take];have:=h.le;omega
 rcases Nat.lt_trichotomy i j with x | x | x
 ·have:=h.ref.mono i j x (by omega);omega
 ·exact x
 ·have:=h.ref.mono j i x (by omega);omega
theorem kvT_free {pv:List Int} {M:List (List Int)} {piv:Nat→Nat} (h:Pvs q n pv M piv) {j t:Nat} (hj:j<n):∀ i,i≤pv.length→(∀ k,k<i→piv k≠t)→(kvT q n pv M j i).getD t 0=if t=j then 1 else 0
 | 0,_,_=>by
  rw [kvT,getD_set_int (by simpa using hj)]
  by_cases e:j=t
  ·rw [if_pos e,if_pos e.symm]
  ·rw [if_neg e,if_neg (fun x=>e x.symm),List.getD_eq_getElem?_getD,List.getElem?_replicate];split <;> rfl
 | i+1,hi,hk=>by
  have e:=h.at_ i (by omega)
  have:=hk i (by omega)
  rw [kvT,e,Int.toNat_natCast,getD_set_int (by rw [kvT_len];exact h.lt (by omega)),if_neg this]
  exact kvT_free h hj i (by omega) fun k hk'=>hk k (by omega)
theorem kvT_at {pv:List Int} {M:List (List Int)} {piv:Nat→Nat} (h:Pvs q n pv M piv) {j:Nat} {k:Nat}:∀ i,i≤pv.length→k<i→(kvT q n pv M j i).getD (piv k) 0=fneg q (ent M k j)
 | 0,_,hk=>by omega
 | i+1,hi,hk=>by
  have e:=h.at_ i (by omega)
  rw [kvT,e,Int.toNat_natCast,getD_set_int (by rw [kvT_len];exact h.lt (by omega))]
  by_cases hki:k=i
  ·subst hki;rw [if_pos rfl]
  ·rw [if_neg (fun x=>hki (h.inj (by omega) (by omega) x.symm))]
   exact kvT_at h i (by omega) (by omega)
theorem kvT_in (F:Fld q (fadd q) (fmul q) (fneg q) (finv q)) {pv:List Int} {M:List (List Int)} {piv:Nat→Nat} (h:Pvs q n pv M piv) {j:Nat} (hj:j<n):∀ i,i≤pv.length→Wd q n (kvT q n pv M j i)
 | 0,_=>⟨kvT_len _ _ _ 0,fun t ht=>by
  have:=F.one_lt
  rw [kvT,getD_set_int (by simpa using hj)]
  split
  ·omega
  ·rw [List.getD_eq_getElem?_getD,List.getElem?_replicate];split <;> simp <;> omega⟩
 | i+1,hi=>⟨kvT_len _ _ _ _,fun t ht=>by
  have e:=h.at_ i (by omega)
  have ih:=(kvT_in F h hj i (by omega)).2 t ht
  have hx:=(h.wd i (by have:=h.le;omega)).2 j hj
  rw [kvT,e,Int.toNat_natCast,getD_set_int (by rw [kvT_len];exact h.lt (by omega))]
  split
  ·exact F.neg_in _ hx.1 hx.2
  ·exact ih⟩
def frs (pv:List Int) (j:Nat):List Nat:=(List.range j).filter fun t=>!lostI pv t
theorem frs_succ (pv:List Int) (j:Nat):frs pv (j+1)=if lostI pv j=true then frs pv j else frs pv j++[j]:=by
 unfold frs
 rw [List.range_succ,List.filter_append]
 cases h:lostI pv j <;> simp [h]
theorem lostI_pv {pv:List Int} {piv:Nat→Nat} (h:∀ i,i<pv.length→pv.getD i 0=((piv i:Nat):Int)) (t:Nat):lostI pv t=true↔∃ i,i<pv.length∧piv i=t:=by
 unfold lostI
 constructor
 ·intro hc
  obtain ⟨i,hi,e⟩:=List.mem_iff_getElem.1 (by simpa using hc:((t:Nat):Int)∈pv)
  have:=h i hi
  rw [List.getD_eq_getElem?_getD,List.getElem?_eq_getElem hi] at this
  exact ⟨i,hi,by simp only [Option.getD_some] at this;omega⟩
 ·rintro ⟨i,hi,e⟩
  have:=h i hi
  rw [List.getD_eq_getElem?_getD,List.getElem?_eq_getElem hi] at this
  have hm:((t:Nat):Int)∈pv:=by
   have e2:pv[i]=((t:Nat):Int):=by simp only [Option.getD_some] at this;omega
   rw [←e2];exact List.getElem_mem _
  simpa using hm
theorem frs_count {pv:List Int} {M:List (List Int)} {piv:Nat→Nat} (h:Pvs q n pv M piv):(frs pv n).length+pv.length=n:=by
 have key:∀ i,i≤pv.length→(List.range n).countP (fun t=>decide (∀ k,k<i→piv k≠t))+i=n:=fun i=>by
  induction i with
  | zero=>intro _;simp
  | succ i ih =>
   intro hi
   have ih:=ih (by omega)
   have:=count_less (P:=fun t=>decide (∀ k,k<i→piv k≠t)) (Q:=fun t=>decide (∀ k,k<i+1→piv k≠t)) (p:=piv i) n (h.lt (by omega)) (by simpa using fun k hk e=>by have:=h.inj (i:=k) (j:=i) (by omega) (by omega) e;omega) (by simpa using ⟨i,by omega,rfl⟩) fun t _ ht=>by
    simp only [decide_eq_decide]
    constructor
    ·exact fun hk k hk'=>hk k (by omega)
    ·intro hk k hk'
     by_cases e:k=i
     ·rw [e];exact fun x=>ht x.symm
     ·exact hk k (by omega)
   omega
 have e:frs pv n=(List.range n).filter fun t=>decide (∀ k,k<pv.length→piv k≠t):=by
  unfold frs
  congr 1
  funext t
  rw [Bool.eq_iff_iff]
  simp only [Bool.not_eq_true',decide_eq_true_eq]
  rw [Bool.eq_false_iff,ne_eq,lostI_pv h.at_]
  constructor
  ·exact fun hn k hk e=>hn ⟨k,hk,e⟩
  ·rintro hk ⟨i,hi,e⟩;exact hk i hi e
 rw [e,←List.countP_eq_length_filter]
 exact key _ (Nat.le_refl _)
theorem Pvs.dualOf (F:Fld q (fadd q) (fmul q) (fneg q) (finv q)) {pv:List Int} {M:List (List Int)} {piv:Nat→Nat} (h:Pvs q n pv M piv):DualOf q n (fneg q) (M.take pv.length) piv (frs pv n) (fun j=>kvT q n pv M j pv.length):=by
 have hl:(M.take pv.length).length=pv.length:=by rw [List.length_take];have:=h.le;omega
 have mem:∀ t,t∈frs pv n↔t<n∧∀ i,i<pv.length→piv i≠t:=fun t=>by
  unfold frs
  rw [List.mem_filter,List.mem_range,Bool.not_eq_true',Bool.eq_false_iff,ne_eq,lostI_pv h.at_]
  constructor
  ·rintro ⟨a,b⟩;exact ⟨a,fun i hi e=>b ⟨i,hi,e⟩⟩
  ·rintro ⟨a,b⟩;exact ⟨a,fun ⟨i,hi,e⟩=>b i hi e⟩
 exact {
  rref:=h.ref
  mem:=fun t=>by rw [hl];exact mem t
  nd:=List.nodup_range.sublist (List.filter_sublist ..)
  len:=by rw [hl];exact frs_count h
  wd:=fun j hj=>kvT_in F h ((mem j).1 hj).1 _ (Nat.le_refl _)
  free:=fun j hj t ht=>kvT_free h ((mem j).1 hj).1 _ (Nat.le_refl _) ((mem t).1 ht).2
  at_:=fun j hj i hi=>by
   rw [hl] at hi
   rw [kvT_at h _ (Nat.le_refl _) hi]
   unfold ent
   rw [take_get hi] }
end
end
end Go.Proofs.Yticbdgmcofjkeaa.Ai
namespace Go.Proofs.Yticbdgmcofjkeaa.Ai
open Go Ma Go.RowKit
noncomputable section
theorem any_memb {g:List Int} {i:Nat}:(List.range g.length).any (fun j=>g.getD j 0==(i:Int))=lostI g i:=by
 unfold lostI
 cases h:g.contains (i:Int) with
 | true =>
  obtain ⟨j,hj,e⟩:=List.mem_iff_getElem.1 (by simpa using h:(i:Int)∈g)
  rw [List.any_eq_true]
  exact ⟨j,List.mem_range.2 hj,by rw [List.getD_eq_getElem?_getD,List.getElem?_eq_getElem hj];simpa using e⟩
 | false =>
  rw [List.any_eq_false]
  intro j hj e
  have hj:=List.mem_range.1 hj
  rw [List.getD_eq_getElem?_getD,List.getElem?_eq_getElem hj] at e
  have:(i:Int)∈g:=by
   have e:g[j]=(i:Int):=by simpa using e
   rw [←e];exact List.getElem_mem _
  rw [show g.contains (i:Int)=true by simpa using this] at h
  cases h
theorem F275_in {g:List Int} (hs:g.length<2^60) (i:Nat) {τ:Type} (k:Nat→LS_→Option τ):F275 [.L g,.I (i:Nat)] k=k 0 [.B (lostI g i)]:=by
 unfold F275 F286 L286_2.b
 simp only [gL_zero,gI_succ,gI_zero,h_]
 rw [ck_of (by simp)]
 refine (run_any L286_2 L286_2.s0 0 (fun _ _ _=>rfl) _ (fun j=>[.N g.length,.L g,.I (i:Nat),.I 0,.I (g.length:Nat),.I (j:Nat)]) g.length (fun j=>g.getD j 0==(i:Int)) (k 0 [.B true]) (k 0 [.B false]) (by omega) (fun j hj next=>?_) (fun next=>?_)).trans ?_
 ·unfold L286_2.s0
  simp only [g_,Int.toNat_natCast,Nat.mul_one,h_]
  rw [br_of (by simp;omega),ck_of (by simp <;> omega),ck_of (by simp <;> omega),wsucc (by omega)]
  by_cases e:g.getD j 0=(i:Int)
  ·rw [br_of (by rw [e];simp),if_pos (by rw [e];simp)];simp [geI]
  ·rw [br_no (by simpa using fun h=>e h.symm),if_neg (by simpa using e)]
 ·unfold L286_2.s0
  simp only [g_,h_]
  rw [br_no (by simp)]
  simp [geI]
 ·rw [any_memb]
  cases lostI g i <;> rfl
section
variable {q n:Nat}
theorem L291_13_4_spec (hq:q∈Qs) {pv:List Int} {perm:List Nat} {fam M:List (List Int)} {piv:Nat→Nat} (hM:Mx perm fam M) (h:Pvs q n pv M piv) (hs:M.length<2^20) (hn:n<2^20) {j:Nat} (hj:j<n) (u0 u4 u5:Int) (u1:Nat) {τ:Type} (κ:Nat→LS_→Option τ):∀ (f i:Nat),i≤pv.length→pv.length-i<f →
  runE L291_13_4 f κ 0 [.I u0,.N u1,.I j,.N n,.I u4,.I u5,.N pv.length,.I pv.length,.I i,.I (fp q),.I (fe q),.N (fm q).length,.L (fm q),.I (fp q),.I (fe q),.N (fm q).length,.L (fm q),.N M.length,.L pv,.L (kvT q n pv M j i),.LN perm,.LL fam] =
   κ 0 [.I u0,.N u1,.N n,.I u4,.I u5,.I (fp q),.I (fe q),.N (fm q).length,.L (fm q),.I (fp q),.I (fe q),.N (fm q).length,.L (fm q),.N M.length,.L pv,.L (kvT q n pv M j pv.length),.LN perm,.LL fam]
 | 0,i,h1,h2=>by omega
 | f+1,i,h1,h2=>by
  have hl:=hM.len
  have hle:=h.le
  rw [runE_succ]
  show L291_13_4.s0 _ _ _=_
  unfold L291_13_4.s0
  simp only [g_,gLN_zero,gLN_succ,Int.toNat_natCast,Nat.mul_one,Nat.zero_add,List.drop_zero,List.take_length,h_]
  by_cases hi:i<pv.length
  ·have a1:=hM.lt i (by omega)
   have a2:=hM.eq i (by omega)
   have wi:=h.wd i (by omega)
   have x0:=wi.2 j hj
   have ea:=h.at_ i hi
   have el:=h.lt hi
   have key:=L291_13_4_spec hq hM h hs hn hj u0 u4 u5 u1 κ f (i+1) (by omega) (by omega)
   have vl:=kvT_len (q:=q) (n:=n) pv M j i
   rw [kvT,ea,Int.toNat_natCast] at key
   rw [ea]
   simp only [Int.toNat_natCast]
   generalize perm.getD i 0=Pi at a1 a2 ⊢
   rw [a2,br_of (by simp;omega),ck_of (by simp;omega),ck_of (by simp;omega),ck_of (by simp;omega),ck_of (by simp;omega),ck_of (by simp only [wi.1];simp;omega),ck_of (by simp only [wi.1];simp;omega),ck_of (by simp),T83_of hq x0]
   simp only [sw_zero,gI_zero,h_]
   rw [ck_of (by simp;omega),ck_of (by simp;omega),wsucc (by omega)]
   exact key
  ·have:i=pv.length:=by omega
   subst this
   rw [br_no (by simp)]
theorem L291_13_5_spec (hq:q∈Qs) {pv:List Int} {perm:List Nat} {fam M:List (List Int)} {piv:Nat→Nat} (hM:Mx perm fam M) (h:Pvs q n pv M piv) (hs:M.length<2^20) (hn:n<2^20) {j:Nat} (hj:j<n) (u0 u4 u5:Int) (u1 u2:Nat) (lp:List Nat) (lf:List (List Int)) {τ:Type} (κ:Nat→LS_→Option τ):∀ (f i:Nat),i≤pv.length→pv.length-i<f →
  runE L291_13_5 f κ 0 [.I u0,.N u1,.N u2,.I j,.N n,.I u4,.I u5,.N pv.length,.I pv.length,.I i,.I (fp q),.I (fe q),.N (fm q).length,.L (fm q),.I (fp q),.I (fe q),.N (fm q).length,.L (fm q),.N M.length,.L pv,.LN lp,.L (kvT q n pv M j i),.LN perm,.LL lf,.LL fam] =
   κ 0 [.I u0,.N u1,.N u2,.N n,.I u4,.I u5,.I (fp q),.I (fe q),.N (fm q).length,.L (fm q),.I (fp q),.I (fe q),.N (fm q).length,.L (fm q),.N M.length,.L pv,.LN lp,.L (kvT q n pv M j pv.length),.LN perm,.LL lf,.LL fam]
 | 0,i,h1,h2=>by omega
 | f+1,i,h1,h2=>by
  have hl:=hM.len
  have hle:=h.le
  rw [runE_succ]
  show L291_13_5.s0 _ _ _=_
  unfold L291_13_5.s0
  simp only [g_,gLN_zero,gLN_succ,Int.toNat_natCast,Nat.mul_one,Nat.zero_add,List.drop_zero,List.take_length,h_]
  by_cases hi:i<pv.length
  ·have a1:=hM.lt i (by omega)
   have a2:=hM.eq i (by omega)
   have wi:=h.wd i (by omega)
   have x0:=wi.2 j hj
   have ea:=h.at_ i hi
   have el:=h.lt hi
   have key:=L291_13_5_spec hq hM h hs hn hj u0 u4 u5 u1 u2 lp lf κ f (i+1) (by omega) (by omega)
   have vl:=kvT_len (q:=q) (n:=n) pv M j i
   rw [kvT,ea,Int.toNat_natCast] at key
   rw [ea]
   simp only [Int.toNat_natCast]
   generalize perm.getD i 0=Pi at a1 a2 ⊢
   rw [a2,br_of (by simp;omega),ck_of (by simp;omega),ck_of (by simp;omega),ck_of (by simp;omega),ck_of (by simp;omega),ck_of (by simp only [wi.1];simp;omega),ck_of (by simp only [wi.1];simp;omega),ck_of (by simp),T83_of hq x0]
   simp only [sw_zero,gI_zero,h_]
   rw [ck_of (by simp;omega),ck_of (by simp;omega),wsucc (by omega)]
   exact key
  ·have:i=pv.length:=by omega
   subst this
   rw [br_no (by simp)]
def lrs (q n:Nat) (pv:List Int) (M:List (List Int)) (j:Nat):List (List Int):=(frs pv j).map fun t=>kvT q n pv M t pv.length
theorem lrs_len {pv:List Int} {M:List (List Int)} {j:Nat}:(lrs q n pv M j).length≤j:=by
 unfold lrs frs
 rw [List.length_map]
 exact Nat.le_trans (List.length_filter_le _ _) (by simp)
theorem lrs_succ {pv:List Int} {M:List (List Int)} {j:Nat}:lrs q n pv M (j+1)=if lostI pv j=true then lrs q n pv M j else lrs q n pv M j++[kvT q n pv M j pv.length]:=by
 unfold lrs
 rw [frs_succ]
 split <;> simp
theorem L291_7_2_spec1 (hq:q∈Qs) {pv:List Int} {perm:List Nat} {fam M:List (List Int)} {piv:Nat→Nat} (hM:Mx perm fam M) (h:Pvs q n pv M piv) (hs:M.length<2^20) (hn:n<2^20) {τ:Type} (κ:Nat→LS_→Option τ):∀ (f j:Nat),j≤n→n-j<f →
  runE L291_7_2 f κ 1 [.I n,.N pv.length,.N (lrs q n pv M j).length,.I n,.I j,.I (fp q),.I (fe q),.N (fm q).length,.L (fm q),.I (fp q),.I (fe q),.N (fm q).length,.L (fm q),.N M.length,.L pv,.LN (List.range (lrs q n pv M j).length),.LN perm,.LL (lrs q n pv M j),.LL fam] =
   κ 1 [.N (lrs q n pv M n).length,.I (fp q),.I (fe q),.N (fm q).length,.L (fm q),.LN (List.range (lrs q n pv M n).length),.LL (lrs q n pv M n)]
 | 0,j,h1,h2=>by omega
 | f+1,j,h1,h2=>by
  have hle:=h.le
  have hfu:=fuel_le
  have ll:=lrs_len (q:=q) (n:=n) (pv:=pv) (M:=M) (j:=j)
  rw [runE_succ]
  show L291_7_2.s1 _ _ _=_
  unfold L291_7_2.s1
  simp only [g_,gLN_zero,gLN_succ,Int.toNat_natCast,Nat.mul_one,Nat.zero_add,List.drop_zero,List.take_length,h_]
  by_cases hj:j<n
  ·have key:=L291_7_2_spec1 hq hM h hs hn κ f (j+1) (by omega) (by omega)
   rw [lrs_succ] at key
   rw [br_of (by simp;omega),ck_of (by simp),F275_in (by omega)]
   simp only [sw_zero,gB_zero,h_]
   by_cases hc:lostI pv j=true
   ·rw [if_pos hc] at key
    rw [br_of hc,wsucc (by omega)]
    exact key
   ·rw [if_neg hc,List.length_append,List.length_singleton,List.range_succ] at key
    have hz:(List.replicate n (0:Int)).set j 1=kvT q n pv M j 0:=rfl
    have vl:=kvT_len (q:=q) (n:=n) pv M j pv.length
    rw [br_no (by simpa using hc),ck_of (by simp;omega),ck_of (by simp;omega),ck_of (by simp;omega),hz]
    unfold L291_13_5.b
    refine Eq.trans (L291_13_5_spec hq hM h hs hn hj n n j pv.length (lrs q n pv M j).length (List.range (lrs q n pv M j).length) (lrs q n pv M j) _ fuel 0 (by omega) (by omega)) ?_
    simp only [g_,sw_zero,gLN_zero,gLN_succ,h_]
    rw [ck_of (by simp;omega),wsucc (by omega)]
    exact key
  ·have:j=n:=by omega
   subst this
   rw [br_no (by simp)]
theorem L291_7_2_spec0 (hq:q∈Qs) {pv:List Int} {perm:List Nat} {fam M:List (List Int)} {piv:Nat→Nat} (hM:Mx perm fam M) (h:Pvs q n pv M piv) (hs:M.length<2^20) (hn:n<2^20) {τ:Type} (κ:Nat→LS_→Option τ):∀ (f j:Nat),j≤n→n-j<f→lrs q n pv M j=[] →
  runE L291_7_2 f κ 0 [.I n,.N pv.length,.I n,.I j,.I (fp q),.I (fe q),.N (fm q).length,.L (fm q),.I (fp q),.I (fe q),.N (fm q).length,.L (fm q),.N M.length,.L pv,.LN perm,.LL fam] =
   if lrs q n pv M n=[] then κ 0 [.I (fp q),.I (fe q),.N (fm q).length,.L (fm q)] else κ 1 [.N (lrs q n pv M n).length,.I (fp q),.I (fe q),.N (fm q).length,.L (fm q),.LN (List.range (lrs q n pv M n).length),.LL (lrs q n pv M n)]
 | 0,j,h1,h2,h3=>by omega
 | f+1,j,h1,h2,h3=>by
  have hle:=h.le
  have hfu:=fuel_le
  rw [runE_succ]
  show L291_7_2.s0 _ _ _=_
  unfold L291_7_2.s0
  simp only [g_,gLN_zero,gLN_succ,Int.toNat_natCast,Nat.mul_one,Nat.zero_add,List.drop_zero,List.take_length,h_]
  by_cases hj:j<n
  ·rw [br_of (by simp;omega),ck_of (by simp),F275_in (by omega)]
   simp only [sw_zero,gB_zero,h_]
   by_cases hc:lostI pv j=true
   ·have key:=L291_7_2_spec0 hq hM h hs hn κ f (j+1) (by omega) (by omega) (by rw [lrs_succ,if_pos hc,h3])
    rw [br_of hc,wsucc (by omega)]
    exact key
   ·have e1:lrs q n pv M (j+1)=[kvT q n pv M j pv.length]:=by rw [lrs_succ,if_neg hc,h3];rfl
    have key:=L291_7_2_spec1 hq hM h hs hn κ f (j+1) (by omega) (by omega)
    rw [e1] at key
    have hne:lrs q n pv M n≠[]:=fun e=>by
     have:∀ k,k+(j+1)≤n→lrs q n pv M (k+(j+1))≠[]:=fun k=>by
      induction k with
      | zero=>intro _;rw [Nat.zero_add,e1];simp
      | succ k ih =>
       intro hk
       have ih:=ih (by omega)
       rw [show k+1+(j+1)=k+(j+1)+1 by omega,lrs_succ]
       split
       ·exact ih
       ·simp
     exact this (n-(j+1)) (by omega) (by rw [show n-(j+1)+(j+1)=n by omega];exact e)
    have hz:(List.replicate n (0:Int)).set j 1=kvT q n pv M j 0:=rfl
    have vl:=kvT_len (q:=q) (n:=n) pv M j pv.length
    rw [if_neg hne,br_no (by simpa using hc),ck_of (by simp;omega),ck_of (by simp;omega),ck_of (by simp;omega),hz]
    unfold L291_13_4.b
    refine Eq.trans (L291_13_4_spec hq hM h hs hn hj n n j pv.length _ fuel 0 (by omega) (by omega)) ?_
    simp only [g_,sw_zero,gLN_zero,gLN_succ,h_]
    rw [ck_of (by simp;omega),wsucc (by omega)]
    exact key
  ·have:j=n:=by omega
   subst this
   rw [br_no (by simp),if_pos h3]
theorem pvs_of (F:Fld q (fadd q) (fmul q) (fneg q) (finv q)) {m:List (List Int)} (hm:Rows q n m):∃ piv,Pvs q n (redp (fadd q) (fmul q) (fneg q) (finv q) n 0 0 m) (red (fadd q) (fmul q) (fneg q) (finv q) n 0 0 m).1 piv∧(redp (fadd q) (fmul q) (fneg q) (finv q) n 0 0 m).length=(red (fadd q) (fmul q) (fneg q) (finv q) n 0 0 m).2:=by
 obtain ⟨piv,c,h1,h2,_,h4,h5⟩:=redp_piv F n 0 0 m (fun _=>0) (by omega) ⟨hm.wd,Nat.zero_le _,fun i hi=>by omega,fun i j _ hj=>by omega,fun i hi=>by omega,fun i k hi=>by omega,fun i j hi=>by omega,fun k j _ _ hj=>by omega⟩
 rw [Nat.add_zero] at h4
 refine ⟨piv,⟨fun i hi=>by have:=h5 i hi;rwa [Nat.zero_add] at this,by rw [h4];exact h2.rl,h2.wd,?_⟩,h4⟩
 rw [h4]
 exact h2.rref h1
def kern (q n:Nat) (m:List (List Int)):List (List Int):=reduce (fadd q) (fmul q) (fneg q) (finv q) n (lrs q n (redp (fadd q) (fmul q) (fneg q) (finv q) n 0 0 m) (red (fadd q) (fmul q) (fneg q) (finv q) n 0 0 m).1 n)
theorem lrs_rows (hq:q∈Qs) {m:List (List Int)} (hm:Rows q n m):Rows q n (lrs q n (redp (fadd q) (fmul q) (fneg q) (finv q) n 0 0 m) (red (fadd q) (fmul q) (fneg q) (finv q) n 0 0 m).1 n):=by
 obtain ⟨piv,hp,_⟩:=pvs_of (fld q hq) hm
 exact ⟨(hp.dualOf (fld q hq)).rw,Nat.lt_of_le_of_lt lrs_len hm.short,hm.short⟩
theorem kern_spec (hq:q∈Qs) {m:List (List Int)} (hm:Rows q n m):(∃ p,Rref q n (kern q n m) p)∧∀ x,Wd q n x→(Sp q n (fadd q) (fmul q) (kern q n m) x↔Orth n (fadd q) (fmul q) m x):=by
 have F:=fld q hq
 have T:=turn hq
 have hl:=lrs_rows hq hm
 obtain ⟨piv,hp,hlen⟩:=pvs_of F hm
 have hD:=hp.dualOf F
 obtain ⟨p,hr,_⟩:=reduce_rref F hl.wd
 refine ⟨⟨p,hr⟩,fun x hx=>?_⟩
 unfold kern
 rw [reduce_span F T hl.wd x]
 unfold lrs
 rw [hD.span F hx]
 have hG:(red (fadd q) (fmul q) (fneg q) (finv q) n 0 0 m).1.take (redp (fadd q) (fmul q) (fneg q) (finv q) n 0 0 m).length=reduce (fadd q) (fmul q) (fneg q) (finv q) n m:=by rw [hlen];rfl
 rw [hG]
 obtain ⟨p2,hr2,_⟩:=reduce_rref F hm.wd
 have hGw:Rw q n (reduce (fadd q) (fmul q) (fneg q) (finv q) n m):=hr2.wd
 have hmw:Rw q n m:=hm.wd
 constructor
 ·intro ho i hi
  rw [dot_comm F (hmw i hi) hx n (Nat.le_refl _)]
  refine sp_dot F hx hGw (fun k hk=>?_) ((reduce_span F T hmw _).2 (Sp.row F hmw hi))
  rw [dot_comm F hx (hGw k hk) n (Nat.le_refl _)]
  exact ho k hk
 ·intro ho i hi
  rw [dot_comm F (hGw i hi) hx n (Nat.le_refl _)]
  refine sp_dot F hx hmw (fun k hk=>?_) ((reduce_span F T hmw _).1 (Sp.row F hGw hi))
  rw [dot_comm F hx (hmw k hk) n (Nat.le_refl _)]
  exact ho k hk
theorem F291_spec (hq:q∈Qs) {m:List (List Int)} (hm:Rows q n m) (hm0:m≠[]) (hr:(red (fadd q) (fmul q) (fneg q) (finv q) n 0 0 m).2≠0) {D:List (List Int)} (hD:lrs q n (redp (fadd q) (fmul q) (fneg q) (finv q) n 0 0 m) (red (fadd q) (fmul q) (fneg q) (finv q) n 0 0 m).1 n=D) {τ:Type} (k:Nat→LS_→Option τ) :
  F291 [.I (fp q),.I (fe q),.L (fm q),.I n,.LL m] k=if D=[] then k 0 [] else if (kern q n m).length=0 then k 1 [.N 0] else k 2 [.N (kern q n m).length,.LL (kern q n m)]:=by
 have F:=fld q hq
 have hfu:=fuel_le
 have h1:=hm.few
 have h2:=hm.short
 have h0:0<m.length:=List.length_pos_iff.2 hm0
 have hl:=lrs_rows hq hm
 obtain ⟨piv,hp,hlen⟩:=pvs_of F hm
 obtain ⟨perm',fam',c1,c2⟩:=S299_1_spec (n:=n) hq hm h0 (ml:=m.length) rfl
 obtain ⟨l1,l2⟩:=red_le F hm
 have hk:kern q n m=reduce (fadd q) (fmul q) (fneg q) (finv q) n D:=by unfold kern;rw [hD]
 unfold F291
 simp only [g_,h_]
 rw [S298_0_spec h1 (fun i hi=>by rw [(hm.wd i hi).1];exact h2),if_neg hm0]
 simp only [g_,sw_one,sw_zero,gLN_zero,gLN_succ,h_]
 rw [br_of (by simp;omega),c2,if_neg hr]
 simp only [g_,sw_one,sw_zero,gLN_zero,gLN_succ,h_]
 unfold L291_7_2.b
 have key:=fun (κ:Nat→LS_→Option τ)=>L291_7_2_spec0 hq c1 hp (by omega) h2 κ fuel 0 (Nat.zero_le _) (by omega) (by unfold lrs frs;simp)
 rw [hD] at key hl
 rw [hlen,l2] at key
 refine Eq.trans (key _) ?_
 have t0:∀ τ (K:Nat→LS_→Option τ),F300 [.I (fp q),.I (fe q),.L (fm q),.LL D] K=if D=[] then K 0 [] else if (kern q n m).length=0 then K 1 [.N 0] else K 2 [.N (kern q n m).length,.LL (kern q n m)]:=fun τ K=>F300_spec hq hl hk.symm K
 by_cases hD0:D=[]
 ·rw [if_pos hD0,if_pos hD0]
  simp only [g_,sw_zero,h_]
  have:=t0
  rw [hD0] at this
  rw [ck_of (by simp),this,if_pos rfl]
  rfl
 ·rw [if_neg hD0,if_neg hD0]
  simp only [g_,sw_one,sw_zero,gLN_zero,gLN_succ,Nat.mul_one,List.drop_zero,h_]
  have hc:=Mx_copy D
  have e1:=Mx_take hc (r:=D.length) (by omega)
  have e2:=Mx_lt hc (r:=D.length) (by omega)
  rw [List.take_length] at e1
  rw [ck_of (by rw [e2] <;> rfl),e1,ck_of (by simp),t0,if_neg hD0]
  by_cases hz:(kern q n m).length=0
  ·rw [if_pos hz,if_pos hz];rfl
  ·rw [if_neg hz,if_neg hz];rfl
theorem T291_spec (hq:q∈Qs) {m:List (List Int)} (hm:Rows q n m) (hm0:m≠[]) (hr:(red (fadd q) (fmul q) (fneg q) (finv q) n 0 0 m).2≠0) {τ:Type} (k:Nat→LS_→Option τ) :
  T291 [.I (fp q),.I (fe q),.L (fm q),.I n,.LL m] k=k 0 [.LL (kern q n m)]:=by
 generalize hD:lrs q n (redp (fadd q) (fmul q) (fneg q) (finv q) n 0 0 m) (red (fadd q) (fmul q) (fneg q) (finv q) n 0 0 m).1 n=D
 have h:=fun {σ:Type} (κ:Nat→LS_→Option σ)=>F291_spec hq hm hm0 hr hD κ
 have hk:D=[]→kern q n m=[]:=fun e=>by
  unfold kern;rw [hD,e];cases n <;> rfl
 generalize kern q n m=R at h hk ⊢
 by_cases h0:D=[]
 ·rw [hk h0]
  simp only [if_pos h0] at h
  exact wrap_of (e:=F291.E) (p:=.v pM) (j:=0) (l2:=[]) (c:=true) (ls':=[.LL []]) (by intro τ κ;kernel_rfl) rfl (fun κ=>h κ)
 ·simp only [if_neg h0] at h
  by_cases hz:R.length=0
  ·have hRn:=List.length_eq_zero_iff.1 hz
   subst hRn
   simp only [List.length_nil,if_true] at h
   exact wrap_of (e:=F291.E) (p:=.v pM) (j:=1) (l2:=[.N 0]) (c:=true) (ls':=[.LL []]) (by intro τ κ;kernel_rfl) rfl (fun κ=>h κ)
  ·simp only [if_neg hz] at h
   exact wrap_of (e:=F291.E) (p:=.v pM) (j:=2) (l2:=[.N R.length,.LL R]) (c:=decide (R.length=R.length)) (ls':=[.LL R]) (by intro τ κ;kernel_rfl) (by simp) (fun κ=>h κ)
end
end
end Go.Proofs.Yticbdgmcofjkeaa.Ai
namespace Go.Proofs.Yticbdgmcofjkeaa.Ai
open Go Go.RowKit
noncomputable section
variable {τ:Type} (t:Nat) (nx ex:Nat→LS_→Option τ) (l:LS_) (k κ:Nat→LS_→Option τ)
end
end Go.Proofs.Yticbdgmcofjkeaa.Ai
namespace Go.Proofs.Yticbdgmcofjkeaa.Ai
open Go Go.RowKit
noncomputable section
variable {τ:Type} (t:Nat) (nx ex:Nat→LS_→Option τ) (l:LS_) (k κ:Nat→LS_→Option τ)
end
end Go.Proofs.Yticbdgmcofjkeaa.Ai
namespace Go.Proofs.Yticbdgmcofjkeaa.Ai
open Go Ma
noncomputable section
end
end Go.Proofs.Yticbdgmcofjkeaa.Ai
namespace Go.Proofs.Yticbdgmcofjkeaa.Ai
open Go Go.RowKit
noncomputable section
variable {τ:Type} (t:Nat) (nx ex:Nat→LS_→Option τ) (l:LS_) (k κ:Nat→LS_→Option τ)
end
end Go.Proofs.Yticbdgmcofjkeaa.Ai
namespace Go.Proofs.Yticbdgmcofjkeaa.Ai
open Go Ma
noncomputable section
section
variable {q n:Nat} {G:List (List Int)}
def T30 {τ:Type} (l:LS_) (k:Nat→LS_→Option τ):Option τ:=wrapB F30.E (.v pR) l k
def T30.E:Ent P:=F30.E.wrap (.v pR)
theorem T30_spec (hq:q∈Qs) {a b:List Int} (ha:Wd q n a) (hb:Wd q n b) (hs:n<2^30) {τ:Type} (k:Nat→LS_→Option τ):T30 [.I (fp q),.I (fe q),.L (fm q),.L a,.L b] k=k 0 [.L (vadd (fadd q) a b)]:=by
 have al:=ha.1
 have bl:=hb.1
 have h:=fun {τ:Type} (κ:Nat→LS_→Option τ)=>F30_spec hq (In.of ha) (In.of hb) (by omega) (by omega) κ
 have wl:=(ha.vadd (fld q hq) hb).1
 generalize vadd (fadd q) a b=M at h wl ⊢
 rw [show a.length=M.length by omega] at h
 have:=wrap_of (e:=F30.E) (p:=.v pR) (j:=0) (l2:=[.N M.length,.L M]) (c:=true&&(true&&(true&&decide (M.length=(List.take (M.length*1) (List.drop 0 M)).length)))) (ls':=[.L (List.take (M.length*1) (List.drop 0 M))]) (by intro τ κ;kernel_rfl) (by simp) (k:=k) (fun κ=>h κ)
 rw [Nat.mul_one,List.drop_zero,List.take_length] at this
 exact this
end
end
end Go.Proofs.Yticbdgmcofjkeaa.Ai
namespace Go.Proofs.Yticbdgmcofjkeaa.Ai
open Go Go.RowKit
noncomputable section
variable {τ:Type} (t:Nat) (nx ex:Nat→LS_→Option τ) (l:LS_) (k κ:Nat→LS_→Option τ)
def F46.ps:List PV2:=[pI,pI,pM]
def F46.sh:List PA:=[(PA.mk (PV3.tup [(PV2.agg [(PV1.intC .i64 0),(PV1.intC .i64 0),PV1.nilS]),(pC 1)]) []),(PA.mk (PV3.tup [(PV2.agg [(PV1.intC .i64 0),(PV1.intC .i64 0),PV1.nilS]),(pC 2)]) []),(PA.mk (PV3.tup [(PV2.agg [iI,iI,(PV1.sl (PC0.m .i64))]),(pC 0)]) []),(PA.mk (PV3.tup [(PV2.agg [iI,iI,(PV1.sl PC0.e)]),(pC 0)]) [])]
def F46.O:Orc P:=⟨[F85.E,T48.E],[],[S87_0.E,S84_0.E],40⟩
def F46:Option τ :=
 ck ((eqM (gLL l 2).length (gLL l 2).length)&&true)
 (F85 [iG l 0,iG l 1,.I 64,wG l 2]
 (fun j A=>(sw (br (!(gB A 3))
 (k 0 [])
 (S87_0 [.N (gLL l 2).length,wG l 2]
 (fun j B=>(sw (S84_0 [iG A 0,iG A 1,nG A 2,iG l 1,nG B 0,vG A 4,uG B 1,wG B 2]
 (fun j C=>(sw (ck (((@List.all Nat (List.take ((gN C 0)*1) (List.drop 0 (gLN C 2))) (fun y46=>(ltN y46 (gLL C 3).length)))&&true)&&true)
 (ck (((eqM (gN C 0) (List.map (fun y45=>(List.getD (gLL C 3) y45 [])) (List.take ((gN C 0)*1) (List.drop 0 (gLN C 2)))).length)&&true)&&true)
 (T48 [iG l 0,iG l 1,.LL (List.map (fun y44=>(List.getD (gLL C 3) y44 [])) (List.take ((gN C 0)*1) (List.drop 0 (gLN C 2))))]
 (fun j D=>(sw (br (gtI (gI D 0) 4096)
 (k 1 [])
 (ck (((@List.all Nat (List.take ((gN C 0)*1) (List.drop 0 (gLN C 2))) (fun y43=>(ltN y43 (gLL C 3).length)))&&true)&&true)
 (k 2 [iG l 0,iG l 1,nG C 0,.LL (List.map (fun y42=>(List.getD (gLL C 3) y42 [])) (List.take ((gN C 0)*1) (List.drop 0 (gLN C 2))))])))
 (fun _=>none)) j))))
 (sw (ck (((eqM (gN C 0) 0)&&true)&&true)
 (T48 [iG l 0,iG l 1,.LL []]
 (fun j D=>(sw (br (gtI (gI D 0) 4096)
 (k 1 [])
 (k 3 [iG l 0,iG l 1,nG C 0]))
 (fun _=>none)) j)))
 (fun _=>none))) j))
 (fun _=>none)) j)))
 (sw (k 0 [])
 (sw (k 0 [])
 (fun _=>none)))) j))
theorem F46.eq:FEq F46.O 11 F46.ps F46.sh F46:=by intro τ l κ;kernel_rfl
def F46.E:Ent P:=mkF F46.eq
end
end Go.Proofs.Yticbdgmcofjkeaa.Ai
namespace Go.Proofs.Yticbdgmcofjkeaa.Ai
open Go Ma
noncomputable section
section
variable {q:Nat}
def redR (q n:Nat) (G:List (List Int)):List (List Int):=reduce (fadd q) (fmul q) (fneg q) (finv q) n G
theorem F46_ok (hq:q∈Qs) {n:Nat} {G:List (List Int)} (n0:1≤n) (n1:n≤24) (hl:G.length≤64) (hR:Rw q n G):∀ {τ:Type} (k:Nat→LS_→Option τ),F46 [.I q,.I n,.LL G] k =
  if 4096<q^(redR q n G).length then k 1 [] else if (redR q n G).length=0 then k 3 [.I q,.I n,.N 0] else k 2 [.I q,.I n,.N (redR q n G).length,.LL (redR q n G)]:=by
 have R:Rows q n G:=⟨hR,by omega,by omega⟩
 have hqq:=qs_lt hq
 have hs:∀ i,(G.getD i []).length<2^60:=short2 fun r hr=>by
  obtain ⟨i,hi,rfl⟩:=List.getElem_of_mem hr
  have:=(hR i hi).1
  rw [List.getD_eq_getElem?_getD,List.getElem?_eq_getElem hi] at this
  simp at this
  omega
 obtain ⟨perm',fam',d1,d2⟩:=S84_0_spec hq R (Mx_copy G)
 obtain ⟨a,b,d⟩:=red_len (add:=fadd q) (mul:=fmul q) (neg:=fneg q) (inv:=finv q) n 0 0 G
 have d:=d (Nat.zero_le _)
 have e0:redR q n G=(red (fadd q) (fmul q) (fneg q) (finv q) n 0 0 G).1.take (red (fadd q) (fmul q) (fneg q) (finv q) n 0 0 G).2:=rfl
 have el:(redR q n G).length=(red (fadd q) (fmul q) (fneg q) (finv q) n 0 0 G).2:=by rw [e0,List.length_take];omega
 intro τ k
 unfold F46 T48
 simp only [g_,h_]
 rw [ck_of (by simp),F85_spec hq n 64 (by omega) hs,if_pos ⟨by omega,by omega,by omega⟩]
 simp only [g_,sw_zero,h_]
 rw [allWord_iff.2 fun i _ hi=>isWord_wd (hR i hi),br_no (b:=!true) rfl,S87_0_spec R]
 simp only [g_,sw_zero,gLN_zero,gLN_succ,h_]
 rw [d2,el]
 by_cases hz:(red (fadd q) (fmul q) (fneg q) (finv q) n 0 0 G).2=0
 ·rw [if_pos hz,hz,Nat.pow_zero,if_neg (by omega),if_pos rfl]
  simp only [sw_one,sw_zero,gN_zero,h_]
  rw [ck_of (by simp),F48_spec (by omega) (by omega) n [] (by simp)]
  simp only [sw_zero,gI_zero,h_]
  rw [br_no (by simp [cnt])]
 ·rw [if_neg hz,if_neg hz]
  simp only [sw_zero,gN_zero,gLN_zero,gLN_succ,gLL_zero,gLL_succ,Nat.mul_one,List.drop_zero,h_]
  have tl:=Mx_take d1 (r:=(red (fadd q) (fmul q) (fneg q) (finv q) n 0 0 G).2) (by omega)
  rw [ck_of (by rw [Mx_lt d1 (by omega)];rfl),tl,←e0,ck_of (by rw [el];simp),F48_spec (by omega) (by omega) n _ (by omega)]
  simp only [sw_zero,gI_zero,h_]
  rw [el]
  unfold cnt
  by_cases c:q^(red (fadd q) (fmul q) (fneg q) (finv q) n 0 0 G).2≤4096
  ·rw [if_pos c,if_neg (by omega),br_no (by simp only [gtI_no];omega),ck_of (by rw [Mx_lt d1 (by omega)];rfl)]
  ·rw [if_neg c,if_pos (by omega),br_of (by simp)]
def T46 {τ:Type} (l:LS_) (k:Nat→LS_→Option τ):Option τ:=wrapB F46.E (.tup [pCode,pI]) l k
def T46.E:Ent P:=F46.E.wrap (.tup [pCode,pI])
theorem T46_ok (hq:q∈Qs) {n:Nat} {G:List (List Int)} (n0:1≤n) (n1:n≤24) (hl:G.length≤64) (hR:Rw q n G) (hc:q^(redR q n G).length≤4096) {τ:Type} (k:Nat→LS_→Option τ):T46 [.I q,.I n,.LL G] k=k 0 [.I q,.I n,.LL (redR q n G),.I 0]:=by
 have h:=fun {τ:Type} (κ:Nat→LS_→Option τ)=>(F46_ok hq n0 n1 hl hR κ).trans (if_neg (by omega))
 generalize redR q n G=M at h ⊢
 by_cases hz:M.length=0
 ·obtain rfl:=List.length_eq_zero_iff.1 hz
  exact wrap_of (e:=F46.E) (p:=.tup [pCode,pI]) (j:=3) (l2:=[.I q,.I n,.N 0]) (c:=true) (ls':=[.I q,.I n,.LL [],.I 0]) (by intro τ κ;kernel_rfl) rfl (fun κ=>(h κ).trans (if_pos rfl))
 ·exact wrap_of (e:=F46.E) (p:=.tup [pCode,pI]) (j:=2) (l2:=[.I q,.I n,.N M.length,.LL M]) (c:=(true&&(true&&(true&&(true&&(true&&(decide (M.length=M.length)&&true))))))&&(true&&true)) (ls':=[.I q,.I n,.LL M,.I 0]) (by intro τ κ;kernel_rfl) (by simp) (k:=k) (fun κ=>(h κ).trans (if_neg hz))
theorem T46_big (hq:q∈Qs) {n:Nat} {G:List (List Int)} (n0:1≤n) (n1:n≤24) (hl:G.length≤64) (hR:Rw q n G) (hc:4096<q^(redR q n G).length) {τ:Type} (k:Nat→LS_→Option τ):T46 [.I q,.I n,.LL G] k=k 0 [.I 0,.I 0,.LL [],.I 2]:=by
 have h:=fun {τ:Type} (κ:Nat→LS_→Option τ)=>(F46_ok hq n0 n1 hl hR κ).trans (if_pos hc)
 exact wrap_of (e:=F46.E) (p:=.tup [pCode,pI]) (j:=1) (l2:=[]) (c:=true) (ls':=[.I 0,.I 0,.LL [],.I 2]) (by intro τ κ;kernel_rfl) rfl (fun κ=>h κ)
end
end
end Go.Proofs.Yticbdgmcofjkeaa.Ai
namespace Go.Proofs.Yticbdgmcofjkeaa.Ai
open Go Ma
noncomputable section
section
variable {q n:Nat} {G:List (List Int)}
end
end
end Go.Proofs.Yticbdgmcofjkeaa.Ai
namespace Go.Proofs.Yticbdgmcofjkeaa.Ai
open Go Go.RowKit
noncomputable section
variable {τ:Type} (t:Nat) (nx ex:Nat→LS_→Option τ) (l:LS_) (k κ:Nat→LS_→Option τ)
end
end Go.Proofs.Yticbdgmcofjkeaa.Ai
namespace Go.Proofs.Yticbdgmcofjkeaa.Ai
open Go Ma
noncomputable section
section
variable {q n:Nat} {G:List (List Int)}
end
end
end Go.Proofs.Yticbdgmcofjkeaa.Ai
namespace Go.Proofs.Yticbdgmcofjkeaa.Ai
open Go Ma
noncomputable section
section
variable {q n:Nat} {G:List (List Int)}
end
end
end Go.Proofs.Yticbdgmcofjkeaa.Ai
namespace Go.Proofs.Yticbdgmcofjkeaa.Ai
open Go Go.RowKit
noncomputable section
variable {τ:Type} (t:Nat) (nx ex:Nat→LS_→Option τ) (l:LS_) (k κ:Nat→LS_→Option τ)
end
end Go.Proofs.Yticbdgmcofjkeaa.Ai
namespace Go.Proofs.Yticbdgmcofjkeaa.Ai
open Go Ma
noncomputable section
def okq (q:Int):Bool:=decide (0≤q)&&Qs.contains q.toNat
theorem okq_of {q:Int} (h:okq q=true):∃ p:Nat,p∈Qs∧q=p:=by
 unfold okq at h
 simp only [Bool.and_eq_true,decide_eq_true_eq,List.contains_iff_mem] at h
 exact ⟨q.toNat,h.2,by omega⟩
theorem okq_no {q:Int} (h:okq q=false):(∃ p:Nat,p∈Qb∧q=p)∨isq q=false:=by
 cases e:isq q with
 | false=>exact .inr rfl
 | true =>
  unfold isq at e
  simp only [Bool.and_eq_true,decide_eq_true_eq,List.contains_iff_mem,List.mem_append] at e
  obtain ⟨e0,e1 | e1⟩:=e
  ·rw [show okq q=true from by unfold okq;simp only [Bool.and_eq_true,decide_eq_true_eq,List.contains_iff_mem];exact ⟨e0,e1⟩] at h
   cases h
  ·exact .inl ⟨q.toNat,e1,by omega⟩
theorem qb_gt {q:Nat} (h:q∈Qb):16<q:=by
 have:Qb.all (fun q=>decide (16<q))=true:=by decide
 simpa using List.all_eq_true.1 this q h
theorem rows_of {q n:Nat} {G:List (List Int)} (hn:n≤24) (hl:G.length≤64) (ha:allWord q n G=true):Rows q n G :=
 ⟨fun i hi=>by
  have:=isWord_iff.1 (allWord_iff.1 ha i (Nat.zero_le _) hi)
  exact ⟨by omega,fun j hj=>this.2 j (Nat.zero_le _) (by omega)⟩,by omega,by omega⟩
section
variable {q:Nat}
theorem T46_all (hq:q∈Qs) {n:Nat} {G:List (List Int)} (n0:1≤n) (n1:n≤24) (hl:G.length≤64) (ha:allWord q n G=true) {τ:Type} (k:Nat→LS_→Option τ):T46 [.I q,.I n,.LL G] k=if 4096<q^(redR q n G).length then k 0 [.I 0,.I 0,.LL [],.I 2] else k 0 [.I q,.I n,.LL (redR q n G),.I 0]:=by
 have R:=rows_of (q:=q) n1 hl ha
 by_cases c:4096<q^(redR q n G).length
 ·rw [if_pos c,T46_big hq n0 n1 hl R.wd c]
 ·rw [if_neg c,T46_ok hq n0 n1 hl R.wd (by omega)]
end
end
end Go.Proofs.Yticbdgmcofjkeaa.Ai
