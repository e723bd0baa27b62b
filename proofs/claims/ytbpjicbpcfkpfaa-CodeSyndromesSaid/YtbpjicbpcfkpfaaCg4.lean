/-
Part 4 of 8 of the texts for one claim: P4 P5 P6 P7 Xd P8 P9 Xb Xc P10 P11 P12.
-/
import Derived.Test.YtbpjicbpcfkpfaaCg3
set_option linter.unusedVariables false
set_option linter.unusedSimpArgs false
namespace Go.Proofs.Ytbpjicbpcfkpfaa.Ai
open Go Ma
noncomputable section
theorem Rows.set {q n:Nat} {m:List (List Int)} (hm:Rows q n m) {i:Nat} {v:List Int} (hi:i<m.length) (hv:Wd q n v):Rows q n (m.set i v) :=
 ⟨fun j hj=>by
  rw [getD_set_row hi]
  split
  ·exact hv
  ·exact hm.wd j (by simpa using hj),by simpa using hm.few,hm.short⟩
theorem Rows.lift {q n:Nat} (hq:q∈Qs) {m:List (List Int)} (hm:Rows q n m) {r p c:Nat} (hr:r<m.length) (hp:p<m.length) (hc:c<n):Rows q n (lift (fmul q) (finv q) m r p c):=by
 have F:=fld q hq
 have x0:=(hm.wd p hp).2 c hc
 have hi:=F.inv_in _ x0.1 x0.2
 exact (hm.set hp (hm.wd r hr)).set (by simpa using hr) (Wd.vmul F hi.1 hi.2 (hm.wd p hp))
theorem Rows.elim {q n:Nat} (hq:q∈Qs) {m:List (List Int)} (hm:Rows q n m) {r c:Nat} (hr:r<m.length) (hc:c<n):Rows q n (elim (fadd q) (fmul q) (fneg q) m r c):=by
 have F:=fld q hq
 refine ⟨fun k hk=>?_,by rw [elim_len];exact hm.few,hm.short⟩
 rw [elim_len] at hk
 rw [elim_get hk]
 split
 ·exact hm.wd k hk
 ·have x0:=(hm.wd k hk).2 c hc
  have hi:=F.neg_in _ x0.1 x0.2
  exact Wd.vadd F (hm.wd k hk) (Wd.vmul F hi.1 hi.2 (hm.wd r hr))
theorem L80_8_spec {q n:Nat} (hq:q∈Qs) {τ:Type} (κ:Nat→LS_→Option τ):∀ (g f c r:Nat) (m:List (List Int)),Rows q n m→g+c=n→r≤m.length→n<f+c →
  runE L80_8 f κ 0 [.I n,.N m.length,.I r,.I c,.I (fp q),.I (fe q),.N (fm q).length,.L (fm q),.LL m]=κ 0 [.N m.length,.I (red (fadd q) (fmul q) (fneg q) (finv q) g c r m).2,.LL (red (fadd q) (fmul q) (fneg q) (finv q) g c r m).1]
 | _,0,c,r,m,hm,hg,hr,hf=>by omega
 | 0,f+1,c,r,m,hm,hg,hr,hf=>by
  rw [runE_succ]
  show L80_8.s0 _ _ _=_
  unfold L80_8.s0
  simp only [g_]
  rw [br_no (by simp;omega)]
  rfl
 | g+1,f+1,c,r,m,hm,hg,hr,hf=>by
  have h1:=hm.few
  have h2:=hm.short
  have F:=fld q hq
  have hfu:=fuel_le
  rw [runE_succ]
  show L80_8.s0 _ _ _=_
  unfold L80_8.s0
  simp only [g_]
  have hc:c<n:=by omega
  unfold red
  rw [br_of (by simp;omega)]
  by_cases hlt:r<m.length
  ·rw [br_of (by simp;omega),if_pos hlt]
   unfold L80_11.b
   rw [L80_11_spec hm n r c hc _ fuel r (m.length-r) (by omega) (by omega) (by omega)]
   simp only [g_,sw_zero]
   obtain ⟨a1,a2,a3,a4⟩:=findp_spec m c (m.length-r) r (by omega) (by omega)
   generalize hp:findp m c (m.length-r) r=p at *
   by_cases hpl:p=m.length
   ·rw [br_of (by simp [hpl]),if_pos hpl,wsucc (by omega)]
    exact L80_8_spec hq κ g f (c+1) r m hm (by omega) hr (by omega)
   ·have hp':p<m.length:=by omega
    have wp:=hm.wd p hp'
    have wrr:=hm.wd r hlt
    have x0:=wp.2 c hc
    have xz:(m.getD p []).getD c 0≠0:=a4 hp'
    have hi:=F.inv_in _ x0.1 x0.2
    have wt:=Wd.vmul F hi.1 hi.2 wp
    have hpn:(p:Int)≠m.length:=by omega
    rw [br_no (by simpa using hpn),if_neg hpl]
    simp only [Int.toNat_natCast,Nat.mul_one,Nat.zero_add]
    rw [ck_of (by simp <;> omega),ck_of (by simp <;> omega),ck_of (by simp <;> omega),ck_of (by simp <;> omega),ck_of (by simp <;> omega),ck_of (by simp <;> omega),ck_of (by simp [-List.getD_eq_getElem?_getD,wp.1] <;> omega),ck_of (by simp [-List.getD_eq_getElem?_getD,wp.1] <;> omega),ck_of (by simp)]
    unfold T111
    rw [tabI_of hq x0.1 x0.2 xz]
    simp only [sw_zero,gI_zero]
    rw [ck_of (by simp),F45_spec hq hi.1 hi.2 (In.of wp) (by rw [wp.1];omega)]
    simp only [sw_zero,gN_zero,gL_zero,gL_succ,Nat.mul_one,List.drop_zero]
    have ht:List.take (m.getD p []).length (vmul (fmul q) (finv q ((m.getD p []).getD c 0)) (m.getD p []))=vmul (fmul q) (finv q ((m.getD p []).getD c 0)) (m.getD p []):=by
     rw [←vmul_len (mul:=fmul q) (c:=finv q ((m.getD p []).getD c 0)) (a:=m.getD p []),List.take_length]
    rw [ht,ck_of (by simp <;> omega),ck_of (by simp [-List.getD_eq_getElem?_getD,vmul_len] <;> omega)]
    unfold L80_19.b
    have e1:(m.set p (m.getD r [])).set r (vmul (fmul q) (finv q ((m.getD p []).getD c 0)) (m.getD p []))=lift (fmul q) (finv q) m r p c:=rfl
    rw [e1]
    have hml:=hm.lift hq hlt hp' hc
    have ll:(lift (fmul q) (finv q) m r p c).length=m.length:=lift_len
    have sp:=L80_19_spec hq hml n r c hc (by rw [ll];exact hlt) (fun j l16=>sw (runE L80_8 f κ 0 [.I (gI l16 0),.N (gN l16 1),.I (wr .i64 (gI l16 2+1)),.I (wr .i64 (gI l16 3+1)),.I (gI l16 4),.I (gI l16 5),.N (gN l16 6),.L (gL l16 7),.LL (gLL l16 8)]) (fun _=>none) j) fuel 0 (by omega) (by omega)
    rw [elimTo_zero,ll] at sp
    refine Eq.trans sp ?_
    simp only [g_,sw_zero]
    rw [wsucc (by omega),wsucc (by omega)]
    have:=L80_8_spec hq κ g f (c+1) (r+1) (elim (fadd q) (fmul q) (fneg q) (lift (fmul q) (finv q) m r p c) r c) (hml.elim hq (by rw [ll];exact hlt) hc) (by omega) (by rw [elim_len,ll];omega) (by omega)
    rw [elim_len,ll] at this
    exact this
  ·rw [br_no (by simp;omega),if_neg hlt]
theorem red_len {add mul:Int→Int→Int} {neg inv:Int→Int}:∀ (g c r:Nat) (m:List (List Int)),(red add mul neg inv g c r m).1.length=m.length∧r≤(red add mul neg inv g c r m).2∧(r≤m.length→(red add mul neg inv g c r m).2≤m.length)
 | 0,c,r,m=>⟨rfl,Nat.le_refl _,id⟩
 | g+1,c,r,m=>by
  unfold red
  split
  ·split
   ·exact red_len g (c+1) r m
   ·obtain ⟨a,b,d⟩:=red_len (add:=add) (mul:=mul) (neg:=neg) (inv:=inv) g (c+1) (r+1) (elim add mul neg (lift mul inv m r (findp m c (m.length-r) r) c) r c)
    rw [elim_len,lift_len] at a d
    exact ⟨a,by omega,fun h=>d (by omega)⟩
  ·exact ⟨rfl,Nat.le_refl _,id⟩
theorem F80_spec {q n:Nat} (hq:q∈Qs) {m:List (List Int)} (hm:Rows q n m) {τ:Type} (k:Nat→LS_→Option τ) :
  F80 [.I (fp q),.I (fe q),.L (fm q),.I n,.LL m] k =
   if (red (fadd q) (fmul q) (fneg q) (finv q) n 0 0 m).2=0 then k 1 [.N 0] else k 0 [.N (red (fadd q) (fmul q) (fneg q) (finv q) n 0 0 m).2,.LL (red (fadd q) (fmul q) (fneg q) (finv q) n 0 0 m).1]:=by
 have h1:=hm.few
 have h2:=hm.short
 have hfu:=fuel_le
 unfold F80 L80_3.b L80_8.b
 simp only [g_]
 have e1:=L80_3_spec hm n (fun j l5=>sw (runE L80_8 fuel (fun j l17=>sw (ck (((((Bool.true&&(leI (0:Int) (gI l17 1)))&&(leI (gI l17 1) (gI l17 1)))&&(leI (gI l17 1) (((gN l17 0):Nat):Int)))&&Bool.true)&&Bool.true)
  (br (ltI (0:Int) (gI l17 1)) (k 0 [(Leaf.N ((Int.toNat (gI l17 1))-0)),(Leaf.LL (gLL l17 2))]) (k 1 [(Leaf.N 0)]))) (fun _=>none) j) 0 [.I (gI l5 0),.N (gN l5 1),.I 0,.I 0,.I (gI l5 2),.I (gI l5 3),.N (gN l5 4),.L (gL l5 5),.LL (gLL l5 6)]) (fun _=>none) j) fuel 0 (by omega) (by omega)
 refine Eq.trans e1 ?_
 simp only [g_,sw_zero]
 obtain ⟨a,b,d⟩:=red_len (add:=fadd q) (mul:=fmul q) (neg:=fneg q) (inv:=finv q) n 0 0 m
 have e2:=L80_8_spec hq (fun j l17=>sw (ck (((((Bool.true&&(leI (0:Int) (gI l17 1)))&&(leI (gI l17 1) (gI l17 1)))&&(leI (gI l17 1) (((gN l17 0):Nat):Int)))&&Bool.true)&&Bool.true)
  (br (ltI (0:Int) (gI l17 1)) (k 0 [(Leaf.N ((Int.toNat (gI l17 1))-0)),(Leaf.LL (gLL l17 2))]) (k 1 [(Leaf.N 0)]))) (fun _=>none) j) n fuel 0 0 m hm (by omega) (by omega) (by omega)
 refine Eq.trans e2 ?_
 simp only [g_,sw_zero]
 rw [ck_of (by simp;exact d (Nat.zero_le _))]
 by_cases hz:(red (fadd q) (fmul q) (fneg q) (finv q) n 0 0 m).2=0
 ·rw [if_pos hz,hz,br_no (by simp)]
 ·rw [if_neg hz,br_of (by simp;omega)]
  simp
def Bytes (l:List Int):Prop:=l.length<2^63∧∀ j,0≤l.getD j 0∧l.getD j 0<256
theorem F32_spec {n:Nat} (hn:n<2^30) {τ:Type} (k:Nat→LS_→Option τ):F32 [.I n] k=k 0 [.N n,.L (List.replicate n 0)]:=by
 unfold F32
 simp only [gI_zero]
 rw [ck_of (by simp <;> omega)]
 simp
theorem Wd.zeros {q n:Nat} (hq:0<q):Wd q n (List.replicate n 0):=⟨by simp,fun j hj=>by simp [List.getD_eq_getElem?_getD,List.getElem?_replicate,hj];omega⟩
theorem Wd.set {q n:Nat} {l:List Int} (h:Wd q n l) {j:Nat} {x:Int} (h0:0≤x) (h1:x<q):Wd q n (l.set j x):=by
 refine ⟨by simpa using h.1,fun i hi=>?_⟩
 have:=h.2 i hi
 simp only [List.getD_eq_getElem?_getD,List.getElem?_set] at this ⊢
 split
 ·split
  ·exact ⟨h0,h1⟩
  ·rename_i hx hy
   exact ⟨by simp,by simp;omega⟩
 ·exact this
theorem tmod_in {a b:Int} (ha:0≤a) (hb:0<b):0≤a.tmod b∧a.tmod b<b:=⟨Int.tmod_nonneg b ha,Int.tmod_lt_of_pos a hb⟩
theorem L35_10_run (f:Nat) {τ:Type} (κ:Nat→LS_→Option τ) (l:LS_):runE L35_10 (f+1) κ 0 l=L35_10.s0 (runE L35_10 f κ) κ l:=rfl
theorem L35_10_spec {q n:Nat} (hq:q∈Qs) (hn:n<64) (i:Nat) (hi:i<64) {L:List Int} (hL:Bytes L) (K a b c u1 u2:Int) (cnt:Nat) (out:List (List Int)):∀ (f j:Nat) (row:List Int),Wd q n row→j≤n→n<f+j →
  ∃ row',Wd q n row'∧∀ {τ:Type} (κ:Nat→LS_→Option τ),runE L35_10 f κ 0 [.I q,.I n,.I K,.N cnt,.I i,.N n,.I j,.I a,.I b,.I c,.N L.length,.L L,.I u1,.I u2,.LL out,.L row]=κ 0 [.I q,.I n,.I K,.N cnt,.I i,.N n,.I a,.I b,.I c,.N L.length,.L L,.I u1,.I u2,.LL out,.L row']
 | 0,j,row,hr,h1,h2=>by omega
 | f+1,j,row,hr,h1,h2=>by
  have hq1:=(qs_lt hq).1
  have hLl:=hL.1
  by_cases hj:j<n
  ·have e:=wsucc (j:=j) (by omega)
   by_cases hz:0<L.length
   ·have hmul:(i:Int)*n=((i*n:Nat):Int):=by simp
    have hin:i*n<4096:=Nat.mul_lt_mul'' hi hn
    have e2:wr .i64 ((i:Int)*n)=((i*n:Nat):Int):=by rw [hmul,wr64 (by omega) (by omega)]
    have e3:wr .i64 (((i*n:Nat):Int)+j)=((i*n+j:Nat):Int):=by rw [wr64 (by omega) (by omega)];rfl
    have ht:=tmod_in (a:=((i*n+j:Nat):Int)) (b:=(L.length:Int)) (by omega) (by omega)
    generalize hte:Int.tmod ((i*n+j:Nat):Int) (L.length:Int)=t at *
    have hx:=hL.2 t.toNat
    have hy:=tmod_in (a:=L.getD t.toNat 0) (b:=(q:Int)) hx.1 (by omega)
    obtain ⟨row',w1,w2⟩:=L35_10_spec hq hn i hi hL K a b c u1 u2 cnt out f (j+1) _ (Wd.set hr hy.1 hy.2 (j:=j)) (by omega) (by omega)
    refine ⟨row',w1,fun κ=>?_⟩
    rw [L35_10_run]
    unfold L35_10.s0
    simp only [g_,e2,e3,hte]
    simp only [Nat.mul_one,Nat.zero_add,Int.toNat_natCast]
    rw [br_of (by simp;omega),br_of (by simp only [gtI_iff];omega),ck_of (by simp only [Bool.not_eq_true',beq_eq_false_iff_ne];omega),ck_of (by simp <;> omega),ck_of (by simp <;> omega),ck_of (by simp only [Bool.not_eq_true',beq_eq_false_iff_ne];omega),ck_of (by simp <;> omega),ck_of (by simp [hr.1] <;> omega),e,wr64 (n:=L.getD t.toNat 0) (by omega) (by omega)]
    exact w2 κ
   ·obtain ⟨row',w1,w2⟩:=L35_10_spec hq hn i hi hL K a b c u1 u2 cnt out f (j+1) row hr (by omega) (by omega)
    refine ⟨row',w1,fun κ=>?_⟩
    rw [L35_10_run]
    unfold L35_10.s0
    simp only [g_]
    rw [br_of (by simp;omega),br_no (by simp only [gtI_no];omega),e]
    exact w2 κ
  ·refine ⟨row,hr,fun κ=>?_⟩
   rw [L35_10_run]
   unfold L35_10.s0
   simp only [g_]
   rw [br_no (by simp;omega)]
theorem Rows.snoc {q n:Nat} {m:List (List Int)} (hm:Rows q n m) {v:List Int} (hv:Wd q n v) (hl:m.length+1<2^20):Rows q n (m++[v]) :=
 ⟨fun i hi=>by
  simp only [List.length_append,List.length_cons,List.length_nil] at hi
  by_cases h:i<m.length
  ·have:=hm.wd i h
   simpa [List.getD_eq_getElem?_getD,List.getElem?_append_left h] using this
  ·have:i=m.length:=by omega
   subst this
   simpa [List.getD_eq_getElem?_getD] using hv,by simpa using hl,hm.short⟩
theorem L35_6_run (f:Nat) {τ:Type} (κ:Nat→LS_→Option τ) (l:LS_):runE L35_6 (f+1) κ 0 l=L35_6.s0 (runE L35_6 f κ) κ l:=rfl
theorem L35_6_spec {q n:Nat} (hq:q∈Qs) (hn:n<64) (K:Nat) (hK:K<64) {L:List Int} (hL:Bytes L) (a b c u1 u2:Int):∀ (f i:Nat) (out:List (List Int)),Rows q n out→out.length=i→i≤K→K<f+i →
  ∃ out',Rows q n out'∧out'.length=K∧∀ {τ:Type} (κ:Nat→LS_→Option τ),runE L35_6 f κ 0 [.I q,.I n,.I K,.N i,.I i,.I a,.I b,.I c,.N L.length,.L L,.I u1,.I u2,.LL out]=κ 0 [.I q,.I n,.N K,.I u1,.I u2,.LL out']
 | 0,i,out,hr,hl,h1,h2=>by omega
 | f+1,i,out,hr,hl,h1,h2=>by
  have hq1:=(qs_lt hq).1
  have hLl:=hL.1
  have hfu:=fuel_le
  have take_all:∀ v:List Int,Wd q n v→List.take n v=v:=fun v hv=>by rw [←hv.1,List.take_length]
  by_cases hj:i<K
  ·have e:=wsucc (j:=i) (by omega)
   obtain ⟨row,w1,w2⟩:=L35_10_spec hq hn i (by omega) hL K a b c u1 u2 i out fuel 0 (List.replicate n 0) (Wd.zeros (by omega)) (by omega) (by omega)
   have w2:∀ {τ:Type} (κ:Nat→LS_→Option τ),runE L35_10 fuel κ 0 [.I q,.I n,.I K,.N i,.I i,.N n,.I 0,.I a,.I b,.I c,.N L.length,.L L,.I u1,.I u2,.LL out,.L (List.replicate n 0)]=_:=w2
   by_cases hin:i<n
   ·have wset:Wd q n (row.set i 1):=Wd.set w1 (by omega) (by omega)
    obtain ⟨out',o1,o2,o3⟩:=L35_6_spec hq hn K hK hL a b c u1 u2 f (i+1) (out++[row.set i 1]) (hr.snoc wset (by omega)) (by simp [hl]) (by omega) (by omega)
    refine ⟨out',o1,o2,fun κ=>?_⟩
    rw [L35_6_run]
    unfold L35_6.s0
    simp only [g_]
    rw [br_of (by simp;omega),F32_spec (by omega)]
    simp only [sw_zero,gN_zero,gL_zero,gL_succ]
    unfold L35_10.b
    rw [w2]
    simp only [g_,sw_zero,Int.toNat_natCast,Nat.mul_one,Nat.zero_add,List.drop_zero]
    rw [br_of (by simp;omega),take_all _ wset,ck_of (by simp <;> omega),ck_of (by simp [w1.1] <;> omega),ck_of (by simp [w1.1]),ck_of (by simp [hl] <;> omega),e]
    exact o3 κ
   ·obtain ⟨out',o1,o2,o3⟩:=L35_6_spec hq hn K hK hL a b c u1 u2 f (i+1) (out++[row]) (hr.snoc w1 (by omega)) (by simp [hl]) (by omega) (by omega)
    refine ⟨out',o1,o2,fun κ=>?_⟩
    rw [L35_6_run]
    unfold L35_6.s0
    simp only [g_]
    rw [br_of (by simp;omega),F32_spec (by omega)]
    simp only [sw_zero,gN_zero,gL_zero,gL_succ]
    unfold L35_10.b
    rw [w2]
    simp only [g_,sw_zero,Int.toNat_natCast,Nat.mul_one,Nat.zero_add,List.drop_zero]
    rw [br_no (by simp;omega),take_all _ w1,ck_of (by simp [w1.1]),ck_of (by simp [hl] <;> omega),e]
    exact o3 κ
  ·have:i=K:=by omega
   subst this
   refine ⟨out,hr,hl,fun κ=>?_⟩
   rw [L35_6_run]
   unfold L35_6.s0
   simp only [g_]
   rw [br_no (by simp)]
def mosts:List Nat:=[8,5,4,3,2,2]
theorem F29_spec {q:Nat} (hq:q∈Qs) {τ:Type} (k:Nat→LS_→Option τ):F29 [.I q] k=k 0 [.I (fp q),.I (fe q),.N (fm q).length,.L (fm q)]:=by
 unfold F29 T76
 simp only [gI_zero]
 rw [tabM_of hq]
 simp only [g_,sw_zero]
structure Cd (q n:Nat) (G:List (List Int)):Prop where
 fq:q∈Qs
 n0:1≤n
 n1:n≤10
 form:∃ piv,Rref q n G piv
 count:q^G.length≤256
theorem F35_spec {Q N K:Int} {L:List Int} (hQ:0≤Q∧Q<256) (hN:0≤N∧N<256) (hK:0≤K∧K<256) (hL:Bytes L) :
  ∃ (q n:Nat) (M:List (List Int)) (r:Nat),Cd q n (M.take r)∧(M.take r).length=r∧Rows q n M∧∀ {τ:Type} (κ:Nat→LS_→Option τ),F35 [.I Q,.I N,.I K,.L L] κ=if r=0 then κ 1 [.I q,.I n,.N 0] else κ 0 [.I q,.I n,.N r,.LL M]:=by
 have hfu:=fuel_le
 have hLl:=hL.1
 obtain ⟨t,ht,ht6⟩:∃ t:Nat,Int.tmod Q 6=t∧t<6:=by
  have:=tmod_in (a:=Q) (b:=6) hQ.1 (by omega)
  exact ⟨(Int.tmod Q 6).toNat,by omega,by omega⟩
 obtain ⟨n',hn',hn10⟩:∃ t:Nat,Int.tmod N 10=t∧t<10:=by
  have:=tmod_in (a:=N) (b:=10) hN.1 (by omega)
  exact ⟨(Int.tmod N 10).toNat,by omega,by omega⟩
 have hqs:∀ t,t<6→(List.getD [(2:Int),3,4,5,7,8] t 0=((Qs.getD t 0:Nat):Int)∧List.getD [(8:Int),5,4,3,2,2] t 0=((mosts.getD t 0:Nat):Int)∧Qs.getD t 0∈Qs∧(Qs.getD t 0)^(mosts.getD t 0)≤256∧mosts.getD t 0≤8):=by
  decide
 obtain ⟨q1,q2,hq,q4,q5⟩:=hqs t ht6
 generalize hqe:Qs.getD t 0=q at *
 generalize hme:mosts.getD t 0=most at *
 obtain ⟨K',hK',hKm⟩:∃ t:Nat,Int.tmod K ((most+1:Nat):Int)=t∧t≤most:=by
  have:=tmod_in (a:=K) (b:=((most+1:Nat):Int)) hK.1 (by omega)
  exact ⟨(Int.tmod K ((most+1:Nat):Int)).toNat,by omega,by omega⟩
 have hq1:=qs_lt hq
 have F:=fld q hq
 have e0:Rows q (1+n') ([]:List (List Int)):=⟨fun i hi=>by simp at hi,by simp,by omega⟩
 obtain ⟨m,m1,m2,m3⟩:=L35_6_spec hq (n:=1+n') (by omega) K' (by omega) hL Q N K 0 0 fuel 0 [] e0 rfl (Nat.zero_le _) (by omega)
 obtain ⟨piv,c,c1,c2,c3,c4⟩:=red_way F (1+n') 0 0 m (fun _=>0) (by omega) ⟨m1.wd,Nat.zero_le _,fun i hi=>by omega,fun i j _ hj=>by omega,fun i hi=>by omega,fun i k hi=>by omega,fun i j hi=>by omega,fun k j _ _ hj=>by omega⟩
 have hrl:=c2.rl
 have htl:((red (fadd q) (fmul q) (fneg q) (finv q) (1+n') 0 0 m).1.take (red (fadd q) (fmul q) (fneg q) (finv q) (1+n') 0 0 m).2).length=(red (fadd q) (fmul q) (fneg q) (finv q) (1+n') 0 0 m).2:=by
  rw [List.length_take];exact Nat.min_eq_left hrl
 refine ⟨q,1+n',(red (fadd q) (fmul q) (fneg q) (finv q) (1+n') 0 0 m).1,(red (fadd q) (fmul q) (fneg q) (finv q) (1+n') 0 0 m).2,⟨hq,by omega,by omega,⟨piv,c2.rref c1⟩,?_⟩,htl,⟨c2.wd,by rw [c4];exact m1.few,m1.short⟩,fun κ=>?_⟩
 ·rw [htl]
  refine Nat.le_trans (Nat.pow_le_pow_right (by omega) ?_) q4
  omega
 ·unfold F35
  simp only [g_,ht,hn',Int.toNat_natCast,Nat.mul_one,Nat.zero_add]
  rw [q1,q2]
  have w1:wr .i64 ((most:Int)+1)=((most+1:Nat):Int):=wsucc (by omega)
  have w2:wr .i64 ((1:Int)+wr .i64 (n':Int))=((1+n':Nat):Int):=by rw [wr64 (n:=(n':Int)) (by omega) (by omega),wr64 (by omega) (by omega)];simp
  have w3:wr .i64 K=K:=wr64 (by omega) (by omega)
  rw [w1,w2,w3,hK',ck_of (by simp <;> omega),ck_of (by simp <;> omega),ck_of (by simp <;> omega),ck_of (by simp <;> omega),ck_of (by simp only [Bool.not_eq_true',beq_eq_false_iff_ne];omega)]
  unfold L35_6.b
  have m3':∀ {τ:Type} (κ:Nat→LS_→Option τ),runE L35_6 fuel κ 0 [.I q,.I ((1+n':Nat):Int),.I K',.N 0,.I 0,.I Q,.I N,.I K,.N L.length,.L L,.I 0,.I 0,.LL []]=_:=m3
  rw [m3']
  simp only [g_,sw_zero]
  rw [F29_spec hq]
  simp only [g_,sw_zero,Nat.mul_one,List.drop_zero,List.take_length]
  have hmt:List.take K' m=m:=by rw [←m2,List.take_length]
  rw [hmt,ck_of (by simp [m2]),F80_spec hq m1]
  by_cases hz:(red (fadd q) (fmul q) (fneg q) (finv q) (1+n') 0 0 m).2=0
  ·rw [if_pos hz,if_pos hz]
   simp only [sw_one,sw_zero,gN_zero]
  ·rw [if_neg hz,if_neg hz]
   simp only [sw_zero,gN_zero,gLL_zero,gLL_succ]
end
end Go.Proofs.Ytbpjicbpcfkpfaa.Ai
namespace Go.Proofs.Ytbpjicbpcfkpfaa.Ai
open Go Go.RowKit
noncomputable section
variable {τ:Type} (t:Nat) (nx ex:Nat→LS_→Option τ) (l:LS_) (k κ:Nat→LS_→Option τ)
def L31_4.H:LHead:=⟨false,true,0,126980,126980,199,64,0,[(PS.mk (pI::pI::qR::us 3 (pB::pI::us 22 [])) [])],[(Out.ret,(PS.mk (us 6 (pB::us 23 [])) [])),((Out.exit 0),(PS.mk (us 6 (pB::us 23 [])) []))]⟩
def L31_4.O:Orc P:=⟨[],[],[],40⟩
def L31_4.s0:Option τ :=
 br (ltI (gI l 5) (gI l 1))
 (ck (((leI 0 (gI l 5))&&(ltI (gI l 5) (gN l 2)))&&true)
 (ck (ltN ((Int.toNat (gI l 5))*1) (List.length (gL l 3)))
 (br (ltI (List.getD (gL l 3) ((Int.toNat (gI l 5))*1) 0) 0)
 (ex 0 [.B false])
 (ck (((leI 0 (gI l 5))&&(ltI (gI l 5) (gN l 2)))&&true)
 (ck (ltN ((Int.toNat (gI l 5))*1) (List.length (gL l 3)))
 (br (geI (List.getD (gL l 3) ((Int.toNat (gI l 5))*1) 0) (gI l 0))
 (ex 0 [.B false])
 (nx 0 [.I (gI l 0),.I (gI l 1),.N (gN l 2),.L (gL l 3),.B (gB l 4),.I (wr .i64 ((gI l 5)+1))])))))))
 (ex 1 [.B (gB l 4)])
theorem L31_4.e0:LEq L31_4.O L31_4.H 0 L31_4.s0:=by intro τ next κ l;kernel_rfl
def L31_4:LStep P Cf:=LStep.mk1 (by decide) L31_4.e0
def L31_4.b:Option τ:=runE L31_4 fuel κ t l
def L31_4.E:LEnt P:=LStep.E L31_4
def F31.ps:List PV2:=[pI,pI,pR]
def F31.sh:List PA:=[(PA.mk (PV3.v pB) [])]
def F31.O:Orc P:=⟨[],[L31_4.E],[],40⟩
def F31:Option τ :=
 br ((((List.length (gL l 2)):Nat):Int) != (gI l 1))
 (k 0 [.B false])
 (L31_4.b 0 [.I (gI l 0),.I (gI l 1),.N (List.length (gL l 2)),.L (gL l 2),.B false,.I 0]
 (fun j A=>(sw (k 0 [.B (gB A 0)])
 (sw (k 0 [.B true])
 (fun _=>none))) j))
theorem F31.eq:FEq F31.O 31 F31.ps F31.sh F31:=by intro τ l κ;kernel_rfl
def F31.E:Ent P:=mkF F31.eq
def F23.ps:List PV2:=[pReply,pReply]
def F23.sh:List PA:=[(PA.mk (PV3.v pB) [])]
def F23.O:Orc P:=⟨[F27.E,F22.E],[],[],40⟩
def F23:Option τ :=
 br ((gI l 0)==(gI l 4))
 (br ((gI l 1)==(gI l 5))
 (ck ((eqM (List.length (gL l 2)) (List.length (gL l 2)))&&((eqM (List.length (gL l 6)) (List.length (gL l 6)))&&true))
 (F27 [.L (gL l 2),.L (gL l 6)]
 (fun j A=>(sw (br (gB A 0)
 (ck ((eqM (List.length (gLL l 3)) (List.length (gLL l 3)))&&((eqM (List.length (gLL l 7)) (List.length (gLL l 7)))&&true))
 (F22 [.LL (gLL l 3),.LL (gLL l 7)]
 (fun j B=>(sw (k 0 [.B (gB B 0)])
 (fun _=>none)) j)))
 (k 0 [.B false]))
 (fun _=>none)) j)))
 (k 0 [.B false]))
 (k 0 [.B false])
theorem F23.eq:FEq F23.O 23 F23.ps F23.sh F23:=by intro τ l κ;kernel_rfl
def F23.E:Ent P:=mkF F23.eq
end
end Go.Proofs.Ytbpjicbpcfkpfaa.Ai
namespace Go.Proofs.Ytbpjicbpcfkpfaa.Ai
open Go Ma
noncomputable section
def isWord (q n:Int) (l:List Int):Bool:=decide ((l.length:Int)=n)&&(List.range l.length).all fun j=>decide (0≤l.getD j 0)&&decide (l.getD j 0<q)
theorem L31_run (f:Nat) {τ:Type} (κ:Nat→LS_→Option τ) (l:LS_):runE L31_4 (f+1) κ 0 l=L31_4.s0 (runE L31_4 f κ) κ l:=rfl
open Classical in
theorem L31_spec (q:Int) {a:List Int} (hs:a.length<2^60) {τ:Type} (κ:Nat→LS_→Option τ):∀ (n j:Nat) (r:Bool),j≤a.length→a.length<n+j →
  runE L31_4 n κ 0 [.I q,.I a.length,.N a.length,.L a,.B r,.I j]=if (∀ i,j≤i→i<a.length→0≤a.getD i 0∧a.getD i 0<q) then κ 1 [.B r] else κ 0 [.B false]
 | 0,j,r,h1,h2=>by omega
 | n+1,j,r,h1,h2=>by
  rw [L31_run]
  unfold L31_4.s0
  simp only [g_]
  by_cases hj:j<a.length
  ·have e:=wsucc (j:=j) (by omega)
   simp only [Int.toNat_natCast,Nat.mul_one]
   rw [br_of (by simp;omega),ck_of (by simp <;> omega),ck_of (by simp <;> omega)]
   by_cases h0:0≤a.getD j 0
   ·rw [br_no (by simp only [ltI_no];omega),ck_of (by simp <;> omega),ck_of (by simp <;> omega)]
    by_cases h3:a.getD j 0<q
    ·rw [br_no (by simp only [geI_no];omega),e,L31_spec q hs κ n (j+1) r (by omega) (by omega)]
     have hh:(∀ i,j+1≤i→i<a.length→0≤a.getD i 0∧a.getD i 0<q)↔(∀ i,j≤i→i<a.length→0≤a.getD i 0∧a.getD i 0<q):=by
      refine ⟨fun h i hi hl=>?_,fun h i hi hl=>h i (by omega) hl⟩
      by_cases he:i=j
      ·subst he;exact ⟨h0,h3⟩
      ·exact h i (by omega) hl
     simp only [hh]
    ·rw [br_of (by simp only [geI_iff];omega),if_neg (fun h=>h3 (h j (Nat.le_refl _) hj).2)]
   ·rw [br_of (by simp only [ltI_iff];omega),if_neg (fun h=>h0 (h j (Nat.le_refl _) hj).1)]
  ·rw [br_no (by simp;omega),if_pos (fun i h1 h2=>by omega)]
theorem isWord_iff {q n:Int} {l:List Int}:isWord q n l=true↔(l.length:Int)=n∧∀ i,0≤i→i<l.length→0≤l.getD i 0∧l.getD i 0<q:=by
 unfold isWord
 simp only [Bool.and_eq_true,decide_eq_true_eq,List.all_eq_true,List.mem_range]
 exact ⟨fun h=>⟨h.1,fun i _ hi=>h.2 i hi⟩,fun h=>⟨h.1,fun i hi=>h.2 i (Nat.zero_le _) hi⟩⟩
theorem F31_spec (q n:Int) {a:List Int} (hs:a.length<2^60) {τ:Type} (k:Nat→LS_→Option τ):F31 [.I q,.I n,.L a] k=k 0 [.B (isWord q n a)]:=by
 have hfu:=fuel_le
 unfold F31 L31_4.b
 simp only [g_]
 by_cases hn:(a.length:Int)=n
 ·subst hn
  rw [br_no (by simp)]
  have e:=L31_spec q hs (fun j l64=>(sw (k 0 [(Leaf.B (gB l64 0))]) (sw (k 0 [(Leaf.B Bool.true)]) (fun _=>none))) j) fuel 0 false (by omega) (by omega)
  rw [show ((0:Nat):Int)=0 from rfl] at e
  refine Eq.trans e ?_
  cases hw:isWord q (a.length:Int) a with
  | true=>rw [if_pos (isWord_iff.1 hw).2];simp
  | false=>rw [if_neg (fun h=>by rw [isWord_iff.2 ⟨rfl,h⟩] at hw;cases hw)];simp
 ·rw [br_of (by simpa using hn)]
  have:isWord q n a=false:=by
   cases hw:isWord q n a with
   | true=>exact absurd (isWord_iff.1 hw).1 hn
   | false=>rfl
  rw [this]
theorem isWord_wd {q n:Nat} {l:List Int} (h:Wd q n l):isWord q n l=true:=isWord_iff.2 ⟨by rw [h.1],fun i _ hi=>h.2 i (by rw [←h.1];exact hi)⟩
theorem Cd.rows {q n:Nat} {G:List (List Int)} (h:Cd q n G):Rows q n G:=by
 obtain ⟨piv,hp⟩:=h.form
 have hq:=qs_lt h.fq
 have hk:G.length≤8:=by
  rcases Nat.lt_or_ge 8 G.length with hh | hh
  ·have:=Nat.pow_le_pow_right (n:=q) (by omega) (show 9≤G.length from hh)
   have h2:2^9≤q^9:=Nat.pow_le_pow_left hq.1 9
   have:=h.count
   omega
  ·exact hh
 exact ⟨hp.wd,by omega,by have:=h.n1;omega⟩
theorem fix_red {q n:Nat} {G:List (List Int)} (h:Cd q n G):red (fadd q) (fmul q) (fneg q) (finv q) n 0 0 G=(G,G.length):=by
 obtain ⟨piv,hp⟩:=h.form
 exact red_fix (fld q h.fq) hp n 0 0 (by omega) (Nat.zero_le _) (fun i hi=>by omega) (fun i _ _=>Nat.zero_le _)
theorem Cd.len_le {q n:Nat} {G:List (List Int)} (h:Cd q n G):G.length≤n:=by
 obtain ⟨piv,hp⟩:=h.form
 -- first columns increase below n
 have:∀ i,i<G.length→i≤piv i:=by
  intro i
  induction i with
  | zero=>intro _;exact Nat.zero_le _
  | succ i ih =>
   intro hi
   have:=ih (by omega)
   have:=hp.mono i (i+1) (by omega) hi
   omega
 rcases Nat.eq_zero_or_pos G.length with h0 | h0
 ·omega
 ·have:=this (G.length-1) (by omega)
  have:=hp.lt (G.length-1) (by omega)
  omega
end
end Go.Proofs.Ytbpjicbpcfkpfaa.Ai
namespace Go.Proofs.Ytbpjicbpcfkpfaa.Ai
open Go Ma
noncomputable section
end
end Go.Proofs.Ytbpjicbpcfkpfaa.Ai
namespace Go.Proofs.Ytbpjicbpcfkpfaa.Ai
open Go Go.RowKit
noncomputable section
variable {τ:Type} (t:Nat) (nx ex:Nat→LS_→Option τ) (l:LS_) (k κ:Nat→LS_→Option τ)
def mo1Xb:List PO:=[oI,(PO.cells true true (PC.r 2)),(PO.fam true .i64),(oG [pI,pI,(rr 0)]),(oG [pI])]
def mo2Xb:List PO:=[oI,(PO.fam true .i64),(PO.cells true true (PC.r 1)),(oG [pI,pI,(rr 0)])]
def mo3Xb:List PO:=[oI,(PO.fam true .i64),(PO.cells true true (PC.r 1))]
def mo4Xb:List PO:=[oI,(PO.cells true true (PC.r 2)),(PO.fam true .i64),(oG [pI,pI,(rr 0)]),(oG [pI]),(oG [pI])]
def mo5Xb:List PO:=[oI,(PO.cells true true (PC.r 2)),(PO.fam true .i64)]
def F81.ps:List PV2:=[pI]
def F81.sh:List PA:=[(PA.mk (PV3.tup [(PV2.agg [iI,iI,(r1 0)]),pB]) [cI]),(PA.mk (PV3.tup [(PV2.agg [(PV1.intC .i64 0),(PV1.intC .i64 0),PV1.nilS]),(PV2.v (PV1.boolC false))]) [])]
def F81.O:Orc P:=⟨[T99.E],[],[],40⟩
def F81:Option τ :=
 T99 [.I (gI l 0)]
 (fun j A=>(sw (k 0 [.I (gI A 0),.I (gI A 1),.N (gN A 2),.B (leI (gI l 0) 16),.L (gL A 3)])
 (sw (k 1 [])
 (fun _=>none))) j)
theorem F81.eq:FEq F81.O 81 F81.ps F81.sh F81:=by intro τ l κ;kernel_rfl
def F81.E:Ent P:=mkF F81.eq
def L100_2.H:LHead:=⟨false,false,1,409602,409602,403,16,0,[(PS.mk (qR::(PV2.fn 123 [(p1 0)])::us 2 (pI::us 2 (pI::pI::us 10 []))) [(oG [pI])])],[(Out.ret,(PS.mk (us 4 (pI::us 14 [])) [(oG [pI])])),((Out.exit 0),(PS.mk (us 4 (pI::us 14 [])) [(oG [pI])]))]⟩
def L100_2.O:Orc P:=⟨[],[],[],40⟩
def L100_2.s0:Option τ :=
 br (ltI (gI l 4) (gI l 3))
 (ck (((leI 0 (gI l 4))&&(ltI (gI l 4) (gN l 0)))&&true)
 (ck (ltN ((Int.toNat (gI l 4))*1) (List.length (gL l 1)))
 (br (ltI (List.getD (gL l 1) ((Int.toNat (gI l 4))*1) 0) 0)
 (ex 0 [.I (gI l 4),.I (gI l 5)])
 (br (geI (List.getD (gL l 1) ((Int.toNat (gI l 4))*1) 0) (gI l 5))
 (ex 0 [.I (gI l 4),.I (gI l 5)])
 (nx 0 [.N (gN l 0),.L (gL l 1),.I (gI l 2),.I (gI l 3),.I (wr .i64 ((gI l 4)+1)),.I (gI l 5)])))))
 (ex 1 [.I (gI l 2),.I (gI l 5)])
theorem L100_2.e0:LEq L100_2.O L100_2.H 0 L100_2.s0:=by intro τ next κ l;kernel_rfl
def L100_2:LStep P Cf:=LStep.mk1 (by decide) L100_2.e0
def L100_2.b:Option τ:=runE L100_2 fuel κ t l
def L100_2.E:LEnt P:=LStep.E L100_2
def S100_0.H:SHead:=⟨100,[qR,(PV2.fn 123 [(p1 0)])],[],[(oG [pI])],[(pI,[(oG [pI])])]⟩
def S100_0.O:Orc P:=⟨[],[L100_2.E],[],40⟩
def S100_0:Option τ :=
 L100_2.b 0 [.N (gN l 0),.L (gL l 1),.I 0,.I (gN l 0),.I 0,.I (gI l 2)]
 (fun j A=>(sw (k 0 [.I (gI A 0),.I (gI A 1)])
 (sw (k 0 [.I (-1),.I (gI A 1)])
 (fun _=>none))) j)
theorem S100_0.eq:SEq S100_0.O S100_0.H S100_0:=by intro τ l κ;kernel_rfl
def S100_0.next:SDyn P S100_0.H:=mkS S100_0.eq
def S100_0.E:SEnt P:=⟨S100_0.H,S100_0.next⟩
def S122_0.H:SHead:=⟨122,[qR,(PV2.fn 123 [(p1 0)])],[],[(oG [pI])],[(pB,[(oG [pI])])]⟩
def S122_0.O:Orc P:=⟨[],[],[S100_0.E],40⟩
def S122_0:Option τ :=
 S100_0 [.N (gN l 0),.L (gL l 1),.I (gI l 2)]
 (fun j A=>(sw (k 0 [.B (geI (gI A 0) 0),.I (gI A 1)])
 (fun _=>none)) j)
theorem S122_0.eq:SEq S122_0.O S122_0.H S122_0:=by intro τ l κ;kernel_rfl
def S122_0.next:SDyn P S122_0.H:=mkS S122_0.eq
def S122_0.E:SEnt P:=⟨S122_0.H,S122_0.next⟩
def F93.ps:List PV2:=[pI,pI,pR]
def F93.sh:List PA:=[(PA.mk (PV3.v pB) [])]
def F93.O:Orc P:=⟨[],[],[S122_0.E],40⟩
def F93:Option τ :=
 br ((((List.length (gL l 2)):Nat):Int)==(gI l 1))
 (S122_0 [.N (List.length (gL l 2)),.L (gL l 2),.I (gI l 0)]
 (fun j A=>(sw (k 0 [.B (!(gB A 0))])
 (fun _=>none)) j))
 (k 0 [.B false])
theorem F93.eq:FEq F93.O 93 F93.ps F93.sh F93:=by intro τ l κ;kernel_rfl
def F93.E:Ent P:=mkF F93.eq
def L114_2.H:LHead:=⟨false,false,2,466946,466946,403,16,0,[(PS.mk (qM::(PV2.fn 118 [(p1 0),(p1 1)])::us 2 (pI::us 2 (pI::pI::us 10 []))) [(oG [pI]),(oG [pI])])],[(Out.ret,(PS.mk (us 4 (pI::us 14 [])) [(oG [pI]),(oG [pI])])),((Out.exit 0),(PS.mk (us 4 (pI::us 14 [])) [(oG [pI]),(oG [pI])]))]⟩
def L114_2.O:Orc P:=⟨[F93.E],[],[],40⟩
def L114_2.s0:Option τ :=
 br (ltI (gI l 4) (gI l 3))
 (ck (((leI 0 (gI l 4))&&(ltI (gI l 4) (gN l 0)))&&true)
 (ck (ltN ((Int.toNat (gI l 4))*1) (List.length (gLL l 1)))
 (ck ((eqM (List.length (List.getD (gLL l 1) ((Int.toNat (gI l 4))*1) [])) (List.length (List.getD (gLL l 1) ((Int.toNat (gI l 4))*1) [])))&&true)
 (F93 [.I (gI l 5),.I (gI l 6),.L (List.getD (gLL l 1) ((Int.toNat (gI l 4))*1) [])]
 (fun j A=>(sw (br (!(gB A 0))
 (ex 0 [.I (gI l 4),.I (gI l 5),.I (gI l 6)])
 (nx 0 [.N (gN l 0),.LL (gLL l 1),.I (gI l 2),.I (gI l 3),.I (wr .i64 ((gI l 4)+1)),.I (gI l 5),.I (gI l 6)]))
 (fun _=>none)) j)))))
 (ex 1 [.I (gI l 2),.I (gI l 5),.I (gI l 6)])
theorem L114_2.e0:LEq L114_2.O L114_2.H 0 L114_2.s0:=by intro τ next κ l;kernel_rfl
def L114_2:LStep P Cf:=LStep.mk1 (by decide) L114_2.e0
def L114_2.b:Option τ:=runE L114_2 fuel κ t l
def L114_2.E:LEnt P:=LStep.E L114_2
def S114_0.H:SHead:=⟨114,[qM,(PV2.fn 118 [(p1 0),(p1 1)])],[],[(oG [pI]),(oG [pI])],[(pI,[(oG [pI]),(oG [pI])])]⟩
def S114_0.O:Orc P:=⟨[],[L114_2.E],[],40⟩
def S114_0:Option τ :=
 L114_2.b 0 [.N (gN l 0),.LL (gLL l 1),.I 0,.I (gN l 0),.I 0,.I (gI l 2),.I (gI l 3)]
 (fun j A=>(sw (k 0 [.I (gI A 0),.I (gI A 1),.I (gI A 2)])
 (sw (k 0 [.I (-1),.I (gI A 1),.I (gI A 2)])
 (fun _=>none))) j)
theorem S114_0.eq:SEq S114_0.O S114_0.H S114_0:=by intro τ l κ;kernel_rfl
def S114_0.next:SDyn P S114_0.H:=mkS S114_0.eq
def S114_0.E:SEnt P:=⟨S114_0.H,S114_0.next⟩
def S117_0.H:SHead:=⟨117,[qM,(PV2.fn 118 [(p1 0),(p1 1)])],[],[(oG [pI]),(oG [pI])],[(pB,[(oG [pI]),(oG [pI])])]⟩
def S117_0.O:Orc P:=⟨[],[],[S114_0.E],40⟩
def S117_0:Option τ :=
 S114_0 [.N (gN l 0),.LL (gLL l 1),.I (gI l 2),.I (gI l 3)]
 (fun j A=>(sw (k 0 [.B (geI (gI A 0) 0),.I (gI A 1),.I (gI A 2)])
 (fun _=>none)) j)
theorem S117_0.eq:SEq S117_0.O S117_0.H S117_0:=by intro τ l κ;kernel_rfl
def S117_0.next:SDyn P S117_0.H:=mkS S117_0.eq
def S117_0.E:SEnt P:=⟨S117_0.H,S117_0.next⟩
def F85.ps:List PV2:=[pI,pI,pI,pM]
def F85.sh:List PA:=[(PA.mk (PV3.tup [(PV2.agg [iI,iI,(r1 0)]),pB]) [cI]),(PA.mk (PV3.tup [(PV2.agg [iI,iI,(r1 0)]),(PV2.v (PV1.boolC false))]) [cI]),(PA.mk (PV3.tup [(PV2.agg [(PV1.intC .i64 0),(PV1.intC .i64 0),PV1.nilS]),(PV2.v (PV1.boolC false))]) [])]
def F85.O:Orc P:=⟨[F81.E],[],[S117_0.E],40⟩
def F85:Option τ :=
 F81 [.I (gI l 0)]
 (fun j A=>(sw (br (gB A 3)
 (br (geI (gI l 1) 1)
 (br (leI (gI l 1) 24)
 (br (leI (((List.length (gLL l 3)):Nat):Int) (gI l 2))
 (S117_0 [.N (List.length (gLL l 3)),.LL (gLL l 3),.I (gI l 0),.I (gI l 1)]
 (fun j B=>(sw (k 0 [.I (gI A 0),.I (gI A 1),.N (gN A 2),.B (!(gB B 0)),.L (gL A 4)])
 (fun _=>none)) j))
 (k 1 [.I (gI A 0),.I (gI A 1),.N (gN A 2),.L (gL A 4)]))
 (k 1 [.I (gI A 0),.I (gI A 1),.N (gN A 2),.L (gL A 4)]))
 (k 1 [.I (gI A 0),.I (gI A 1),.N (gN A 2),.L (gL A 4)]))
 (k 1 [.I (gI A 0),.I (gI A 1),.N (gN A 2),.L (gL A 4)]))
 (sw (k 2 [])
 (fun _=>none))) j)
theorem F85.eq:FEq F85.O 85 F85.ps F85.sh F85:=by intro τ l κ;kernel_rfl
def F85.E:Ent P:=mkF F85.eq
def L87_3.H:LHead:=⟨true,false,2,356355,356355,3592,8,0,[(PS.mk (us 3 ((rr 1)::us 5 (qM::pI::pI::us 18 []))) [(PO.fam true .i64),(PO.cells true true (PC.r 0))])],[((Out.exit 0),(PS.mk (us 3 ((rr 1)::us 26 [])) [(PO.fam true .i64),(PO.cells true true (PC.r 0))]))]⟩
def L87_3.O:Orc P:=⟨[],[],[],40⟩
def L87_3.s0:Option τ :=
 br (ltI (gI l 4) (gI l 3))
 (ck (((leI 0 (gI l 4))&&(ltI (gI l 4) (gN l 1)))&&true)
 (ck (ltN ((Int.toNat (gI l 4))*1) (List.length (gLL l 2)))
 (ck (((leI 0 (((List.length (List.getD (gLL l 2) ((Int.toNat (gI l 4))*1) [])):Nat):Int))&&(leI (((List.length (List.getD (gLL l 2) ((Int.toNat (gI l 4))*1) [])):Nat):Int) (((List.length (List.getD (gLL l 2) ((Int.toNat (gI l 4))*1) [])):Nat):Int)))&&(leI ((((List.length (List.getD (gLL l 2) ((Int.toNat (gI l 4))*1) [])):Nat):Int)*9) 1099511627776))
 (ck (((leI 0 (gI l 4))&&(ltI (gI l 4) (gN l 0)))&&true)
 (ck ((((ltN (0+((Int.toNat (gI l 4))*1)) (List.length (gLN l 6)))&&(eqM (Int.toNat (((List.length (List.getD (gLL l 2) ((Int.toNat (gI l 4))*1) [])):Nat):Int)) (List.length (List.replicate (Int.toNat (((List.length (List.getD (gLL l 2) ((Int.toNat (gI l 4))*1) [])):Nat):Int)) (0:Int)))))&&true)&&(ltN (List.length (gLL l 5)) 1048576))
 (ck (((leI 0 (gI l 4))&&(ltI (gI l 4) (gN l 0)))&&true)
 (ck ((ltN (0+((Int.toNat (gI l 4))*1)) (List.length (List.set (gLN l 6) (0+((Int.toNat (gI l 4))*1)) (List.length (gLL l 5)))))&&(ltN (List.getD (List.set (gLN l 6) (0+((Int.toNat (gI l 4))*1)) (List.length (gLL l 5))) (0+((Int.toNat (gI l 4))*1)) 0) (List.length ((gLL l 5)++[(List.replicate (Int.toNat (((List.length (List.getD (gLL l 2) ((Int.toNat (gI l 4))*1) [])):Nat):Int)) (0:Int))]))))
 (ck ((((((ltN (List.getD (List.set (gLN l 6) (0+((Int.toNat (gI l 4))*1)) (List.length (gLL l 5))) (0+((Int.toNat (gI l 4))*1)) 0) (List.length ((gLL l 5)++[(List.replicate (Int.toNat (((List.length (List.getD (gLL l 2) ((Int.toNat (gI l 4))*1) [])):Nat):Int)) (0:Int))])))&&(eqM (List.length (List.getD (gLL l 2) ((Int.toNat (gI l 4))*1) [])) (List.length (List.getD ((gLL l 5)++[(List.replicate (Int.toNat (((List.length (List.getD (gLL l 2) ((Int.toNat (gI l 4))*1) [])):Nat):Int)) (0:Int))]) (List.getD (List.set (gLN l 6) (0+((Int.toNat (gI l 4))*1)) (List.length (gLL l 5))) (0+((Int.toNat (gI l 4))*1)) 0) []))))&&(eqM (List.length (List.getD (gLL l 2) ((Int.toNat (gI l 4))*1) [])) (List.length (List.getD (gLL l 2) ((Int.toNat (gI l 4))*1) []))))&&true)&&(eqM (List.length (List.getD ((gLL l 5)++[(List.replicate (Int.toNat (((List.length (List.getD (gLL l 2) ((Int.toNat (gI l 4))*1) [])):Nat):Int)) (0:Int))]) (List.getD (List.set (gLN l 6) (0+((Int.toNat (gI l 4))*1)) (List.length (gLL l 5))) (0+((Int.toNat (gI l 4))*1)) 0) [])) (List.length (List.getD ((gLL l 5)++[(List.replicate (Int.toNat (((List.length (List.getD (gLL l 2) ((Int.toNat (gI l 4))*1) [])):Nat):Int)) (0:Int))]) (List.getD (List.set (gLN l 6) (0+((Int.toNat (gI l 4))*1)) (List.length (gLL l 5))) (0+((Int.toNat (gI l 4))*1)) 0) []))))&&true)
 (nx 0 [.N (gN l 0),.N (gN l 1),.LL (gLL l 2),.I (gI l 3),.I (wr .i64 ((gI l 4)+1)),.LL (List.set ((gLL l 5)++[(List.replicate (Int.toNat (((List.length (List.getD (gLL l 2) ((Int.toNat (gI l 4))*1) [])):Nat):Int)) (0:Int))]) (List.getD (List.set (gLN l 6) (0+((Int.toNat (gI l 4))*1)) (List.length (gLL l 5))) (0+((Int.toNat (gI l 4))*1)) 0) (List.getD (gLL l 2) ((Int.toNat (gI l 4))*1) [])),.LN (List.set (gLN l 6) (0+((Int.toNat (gI l 4))*1)) (List.length (gLL l 5)))])))))))))
 (ex 0 [.N (gN l 0),.LL (gLL l 5),.LN (gLN l 6)])
theorem L87_3.e0:LEq L87_3.O L87_3.H 0 L87_3.s0:=by intro τ next κ l;kernel_rfl
def L87_3:LStep P Cf:=LStep.mk1 (by decide) L87_3.e0
def L87_3.b:Option τ:=runE L87_3 fuel κ t l
def L87_3.E:LEnt P:=LStep.E L87_3
def S87_0.H:SHead:=⟨87,[qM],[],[],[((rr 0),[(PO.cells true true (PC.r 1)),(PO.fam true .i64)])]⟩
def S87_0.O:Orc P:=⟨[],[L87_3.E],[],40⟩
def S87_0:Option τ :=
 ck (((leI 0 (gN l 0))&&(leI (((gN l 0):Nat):Int) (((gN l 0):Nat):Int)))&&(leI ((((gN l 0):Nat):Int)*25) 1099511627776))
 (L87_3.b 0 [.N (Int.toNat (((gN l 0):Nat):Int)),.N (gN l 0),.LL (gLL l 1),.I (gN l 0),.I 0,.LL [],.LN (List.replicate (Int.toNat (((gN l 0):Nat):Int)) 1099511627776)]
 (fun j A=>(sw (k 0 [.N (gN A 0),.LN (gLN A 2),.LL (gLL A 1)])
 (fun _=>none)) j))
theorem S87_0.eq:SEq S87_0.O S87_0.H S87_0:=by intro τ l κ;kernel_rfl
def S87_0.next:SDyn P S87_0.H:=mkS S87_0.eq
def S87_0.E:SEnt P:=⟨S87_0.H,S87_0.next⟩
def L114_2_1.H:LHead:=⟨false,false,3,466946,466946,403,16,0,[(PS.mk ((PV2.v (PV1.ref 0 (some 0) none none 1))::(PV2.fn 115 [(p1 1)])::us 2 (pI::us 2 (pI::pI::us 10 []))) [(PO.cells true true (PC.r 2)),(oG [pI]),(PO.fam true .i64)])],[(Out.ret,(PS.mk (us 4 (pI::us 14 [])) [(PO.cells true true (PC.r 2)),(oG [pI]),(PO.fam true .i64)])),((Out.exit 0),(PS.mk (us 4 (pI::us 14 [])) [(PO.cells true true (PC.r 2)),(oG [pI]),(PO.fam true .i64)]))]⟩
def L114_2_1.O:Orc P:=⟨[],[],[],40⟩
def L114_2_1.s0:Option τ :=
 br (ltI (gI l 4) (gI l 3))
 (ck (((leI 0 (gI l 4))&&(ltI (gI l 4) (gN l 1)))&&true)
 (ck ((ltN ((gN l 0)+((Int.toNat (gI l 4))*1)) (List.length (gLN l 5)))&&(ltN (List.getD (gLN l 5) ((gN l 0)+((Int.toNat (gI l 4))*1)) 0) (List.length (gLL l 7))))
 (ck (((leI 0 (gI l 6))&&(ltI (gI l 6) (((List.length (List.getD (gLL l 7) (List.getD (gLN l 5) ((gN l 0)+((Int.toNat (gI l 4))*1)) 0) [])):Nat):Int)))&&true)
 (ck ((ltN (List.getD (gLN l 5) ((gN l 0)+((Int.toNat (gI l 4))*1)) 0) (List.length (gLL l 7)))&&(ltN (0+((Int.toNat (gI l 6))*1)) (List.length (List.getD (gLL l 7) (List.getD (gLN l 5) ((gN l 0)+((Int.toNat (gI l 4))*1)) 0) []))))
 (br ((List.getD (List.getD (gLL l 7) (List.getD (gLN l 5) ((gN l 0)+((Int.toNat (gI l 4))*1)) 0) []) (0+((Int.toNat (gI l 6))*1)) 0) != 0)
 (ex 0 [.I (gI l 4),.LN (gLN l 5),.I (gI l 6),.LL (gLL l 7)])
 (nx 0 [.N (gN l 0),.N (gN l 1),.I (gI l 2),.I (gI l 3),.I (wr .i64 ((gI l 4)+1)),.LN (gLN l 5),.I (gI l 6),.LL (gLL l 7)]))))))
 (ex 1 [.I (gI l 2),.LN (gLN l 5),.I (gI l 6),.LL (gLL l 7)])
theorem L114_2_1.e0:LEq L114_2_1.O L114_2_1.H 0 L114_2_1.s0:=by intro τ next κ l;kernel_rfl
def L114_2_1:LStep P Cf:=LStep.mk1 (by decide) L114_2_1.e0
def L114_2_1.b:Option τ:=runE L114_2_1 fuel κ t l
def L114_2_1.E:LEnt P:=LStep.E L114_2_1
def S114_1.H:SHead:=⟨114,[(PV2.v (PV1.ref 0 (some 0) none none 1)),(PV2.fn 115 [(p1 1)])],[],[(PO.cells true true (PC.r 2)),(oG [pI]),(PO.fam true .i64)],[(pI,[(PO.cells true true (PC.r 2)),(oG [pI]),(PO.fam true .i64)])]⟩
def S114_1.O:Orc P:=⟨[],[L114_2_1.E],[],40⟩
def S114_1:Option τ :=
 L114_2_1.b 0 [.N (gN l 0),.N (gN l 1),.I 0,.I (gN l 1),.I 0,.LN (gLN l 2),.I (gI l 3),.LL (gLL l 4)]
 (fun j A=>(sw (k 0 [.I (gI A 0),.LN (gLN A 1),.I (gI A 2),.LL (gLL A 3)])
 (sw (k 0 [.I (-1),.LN (gLN A 1),.I (gI A 2),.LL (gLL A 3)])
 (fun _=>none))) j)
theorem S114_1.eq:SEq S114_1.O S114_1.H S114_1:=by intro τ l κ;kernel_rfl
def S114_1.next:SDyn P S114_1.H:=mkS S114_1.eq
def S114_1.E:SEnt P:=⟨S114_1.H,S114_1.next⟩
def L84_10.H:LHead:=⟨true,false,5,344074,344074,885443715538058478990,398,0,[(PS.mk (us 1 (pI::(rr 1)::(pp 3)::us 3 (pI::(pp 4)::us 1 (pI::us 57 (pI::pI::us 51 []))))) mo1Xb)],[((Out.exit 2),(PS.mk (us 1 (pI::(rr 1)::(pp 3)::us 3 (pI::(pp 4)::us 112 []))) mo1Xb))]⟩
def L84_10.O:Orc P:=⟨[T104.E],[],[],40⟩
def L84_10.s0:Option τ :=
 br (ltI (gI l 5) (gI l 4))
 (ck (((leI 0 (gI l 2))&&(ltI (gI l 2) (gN l 1)))&&true)
 (ck ((ltN (0+((Int.toNat (gI l 2))*1)) (List.length (gLN l 7)))&&(ltN (List.getD (gLN l 7) (0+((Int.toNat (gI l 2))*1)) 0) (List.length (gLL l 8))))
 (ck (((leI 0 (gI l 2))&&(ltI (gI l 2) (gN l 1)))&&true)
 (ck ((ltN (0+((Int.toNat (gI l 2))*1)) (List.length (gLN l 7)))&&(ltN (List.getD (gLN l 7) (0+((Int.toNat (gI l 2))*1)) 0) (List.length (gLL l 8))))
 (ck (((leI 0 (gI l 5))&&(ltI (gI l 5) (((List.length (List.getD (gLL l 8) (List.getD (gLN l 7) (0+((Int.toNat (gI l 2))*1)) 0) [])):Nat):Int)))&&true)
 (ck ((ltN (List.getD (gLN l 7) (0+((Int.toNat (gI l 2))*1)) 0) (List.length (gLL l 8)))&&(ltN (0+((Int.toNat (gI l 5))*1)) (List.length (List.getD (gLL l 8) (List.getD (gLN l 7) (0+((Int.toNat (gI l 2))*1)) 0) []))))
 (ck (((eqM (gN l 11) (List.length (List.take ((gN l 11)*1) (List.drop 0 (gL l 6)))))&&true)&&true)
 (T104 [.I (gI l 9),.I (gI l 10),.L (List.take ((gN l 11)*1) (List.drop 0 (gL l 6))),.I (gI l 3),.I (List.getD (List.getD (gLL l 8) (List.getD (gLN l 7) (0+((Int.toNat (gI l 2))*1)) 0) []) (0+((Int.toNat (gI l 5))*1)) 0)]
 (fun j A=>(sw (ck (((leI 0 (gI l 5))&&(ltI (gI l 5) (((List.length (List.getD (gLL l 8) (List.getD (gLN l 7) (0+((Int.toNat (gI l 2))*1)) 0) [])):Nat):Int)))&&true)
 (ck ((ltN (List.getD (gLN l 7) (0+((Int.toNat (gI l 2))*1)) 0) (List.length (gLL l 8)))&&(ltN (0+((Int.toNat (gI l 5))*1)) (List.length (List.getD (gLL l 8) (List.getD (gLN l 7) (0+((Int.toNat (gI l 2))*1)) 0) []))))
 (nx 0 [.I (gI l 0),.N (gN l 1),.I (gI l 2),.I (gI l 3),.I (gI l 4),.I (wr .i64 ((gI l 5)+1)),.L (gL l 6),.LN (gLN l 7),.LL (List.set (gLL l 8) (List.getD (gLN l 7) (0+((Int.toNat (gI l 2))*1)) 0) (List.set (List.getD (gLL l 8) (List.getD (gLN l 7) (0+((Int.toNat (gI l 2))*1)) 0) []) (0+((Int.toNat (gI l 5))*1)) (gI A 0))),.I (gI l 9),.I (gI l 10),.N (gN l 11),.I (gI l 12)])))
 (fun _=>none)) j)))))))))
 (ex 0 [.I (gI l 0),.N (gN l 1),.I (gI l 2),.L (gL l 6),.LN (gLN l 7),.LL (gLL l 8),.I (gI l 9),.I (gI l 10),.N (gN l 11),.I (gI l 12)])
theorem L84_10.e0:LEq L84_10.O L84_10.H 0 L84_10.s0:=by intro τ next κ l;kernel_rfl
def L84_10:LStep P Cf:=LStep.mk1 (by decide) L84_10.e0
def L84_10.b:Option τ:=runE L84_10 fuel κ t l
def L84_10.E:LEnt P:=LStep.E L84_10
def L94_3.H:LHead:=⟨true,false,4,385027,385027,12318,0,0,[(PS.mk (us 1 ((PV2.v (PV1.ref 1 none (some 0) none 1))::pI::(PV2.v (PV1.ref 1 none (some 0) none 1))::(pp 3)::us 7 (pI::pI::us 21 []))) mo2Xb)],[((Out.exit 0),(PS.mk (us 35 []) mo2Xb))]⟩
def L94_3.O:Orc P:=⟨[T104.E,T103.E],[],[],40⟩
def L94_3.s0:Option τ :=
 br (ltI (gI l 6) (gI l 5))
 (ck (((leI 0 (gI l 6))&&(ltI (gI l 6) (gN l 1)))&&true)
 (ck ((ltN (gN l 0) (List.length (gLL l 8)))&&(ltN (0+((Int.toNat (gI l 6))*1)) (List.length (List.getD (gLL l 8) (gN l 0) []))))
 (ck (((leI 0 (gI l 6))&&(ltI (gI l 6) (gN l 4)))&&true)
 (ck ((ltN (gN l 3) (List.length (gLL l 8)))&&(ltN (0+((Int.toNat (gI l 6))*1)) (List.length (List.getD (gLL l 8) (gN l 3) []))))
 (ck (((eqM (gN l 12) (List.length (List.take ((gN l 12)*1) (List.drop 0 (gL l 7)))))&&true)&&true)
 (T104 [.I (gI l 10),.I (gI l 11),.L (List.take ((gN l 12)*1) (List.drop 0 (gL l 7))),.I (gI l 2),.I (List.getD (List.getD (gLL l 8) (gN l 3) []) (0+((Int.toNat (gI l 6))*1)) 0)]
 (fun j A=>(sw (ck (((eqM (gN l 12) (List.length (List.take ((gN l 12)*1) (List.drop 0 (gL l 7)))))&&true)&&true)
 (T103 [.I (gI l 10),.I (gI l 11),.L (List.take ((gN l 12)*1) (List.drop 0 (gL l 7))),.I (List.getD (List.getD (gLL l 8) (gN l 0) []) (0+((Int.toNat (gI l 6))*1)) 0),.I (gI A 0)]
 (fun j B=>(sw (ck (((leI 0 (gI l 6))&&(ltI (gI l 6) (gN l 1)))&&true)
 (ck ((ltN (gN l 0) (List.length (gLL l 8)))&&(ltN (0+((Int.toNat (gI l 6))*1)) (List.length (List.getD (gLL l 8) (gN l 0) []))))
 (nx 0 [.N (gN l 0),.N (gN l 1),.I (gI l 2),.N (gN l 3),.N (gN l 4),.I (gI l 5),.I (wr .i64 ((gI l 6)+1)),.L (gL l 7),.LL (List.set (gLL l 8) (gN l 0) (List.set (List.getD (gLL l 8) (gN l 0) []) (0+((Int.toNat (gI l 6))*1)) (gI B 0))),.LN (gLN l 9),.I (gI l 10),.I (gI l 11),.N (gN l 12)])))
 (fun _=>none)) j)))
 (fun _=>none)) j)))))))
 (ex 0 [.L (gL l 7),.LL (gLL l 8),.LN (gLN l 9),.I (gI l 10),.I (gI l 11),.N (gN l 12)])
theorem L94_3.e0:LEq L94_3.O L94_3.H 0 L94_3.s0:=by intro τ next κ l;kernel_rfl
def L94_3:LStep P Cf:=LStep.mk1 (by decide) L94_3.e0
def L94_3.b:Option τ:=runE L94_3 fuel κ t l
def L94_3.E:LEnt P:=LStep.E L94_3
def S94_0.H:SHead:=⟨94,[(PV2.agg [iI,iI,(r1 0)]),(PV2.v (PV1.ref 1 none (some 0) none 1)),pI,(PV2.v (PV1.ref 1 none (some 0) none 1))],[],mo3Xb,[((PV2.tup []),mo3Xb)]⟩
def S94_0.O:Orc P:=⟨[],[L94_3.E],[],40⟩
def S94_0:Option τ :=
 br ((gI l 5)==0)
 (k 0 [.L (gL l 8),.LL (gLL l 9),.LN (gLN l 10)])
 (L94_3.b 0 [.N (gN l 3),.N (gN l 4),.I (gI l 5),.N (gN l 6),.N (gN l 7),.I (gN l 4),.I 0,.L (gL l 8),.LL (gLL l 9),.LN (gLN l 10),.I (gI l 0),.I (gI l 1),.N (gN l 2)]
 (fun j A=>(sw (k 0 [.L (gL A 0),.LL (gLL A 1),.LN (gLN A 2)])
 (fun _=>none)) j))
theorem S94_0.eq:SEq S94_0.O S94_0.H S94_0:=by intro τ l κ;kernel_rfl
def S94_0.next:SDyn P S94_0.H:=mkS S94_0.eq
def S94_0.E:SEnt P:=⟨S94_0.H,S94_0.next⟩
def L84_15.H:LHead:=⟨true,false,5,344079,344079,8665580274997661924293869966,398,0,[(PS.mk (us 1 (pI::(rr 1)::(pp 3)::us 3 (pI::(pp 4)::us 81 ((rr 1)::pI::pI::us 28 [])))) mo1Xb)],[((Out.exit 4),(PS.mk (us 1 (pI::(rr 1)::(pp 3)::us 3 (pI::(pp 4)::us 112 []))) mo1Xb))]⟩
def L84_15.O:Orc P:=⟨[T83.E],[],[S94_0.E],40⟩
def L84_15.s0:Option τ :=
 br (ltI (gI l 5) (gI l 4))
 (ck (((leI 0 (gI l 5))&&(ltI (gI l 5) (gN l 3)))&&true)
 (ck ((ltN (0+((Int.toNat (gI l 5))*1)) (List.length (gLN l 7)))&&(ltN (List.getD (gLN l 7) (0+((Int.toNat (gI l 5))*1)) 0) (List.length (gLL l 8))))
 (br ((gI l 5) != (gI l 2))
 (ck (((leI 0 (gI l 12))&&(ltI (gI l 12) (((List.length (List.getD (gLL l 8) (List.getD (gLN l 7) (0+((Int.toNat (gI l 5))*1)) 0) [])):Nat):Int)))&&true)
 (ck ((ltN (List.getD (gLN l 7) (0+((Int.toNat (gI l 5))*1)) 0) (List.length (gLL l 8)))&&(ltN (0+((Int.toNat (gI l 12))*1)) (List.length (List.getD (gLL l 8) (List.getD (gLN l 7) (0+((Int.toNat (gI l 5))*1)) 0) []))))
 (ck (((eqM (gN l 11) (List.length (List.take ((gN l 11)*1) (List.drop 0 (gL l 6)))))&&true)&&true)
 (T83 [.I (gI l 9),.I (gI l 10),.L (List.take ((gN l 11)*1) (List.drop 0 (gL l 6))),.I (List.getD (List.getD (gLL l 8) (List.getD (gLN l 7) (0+((Int.toNat (gI l 5))*1)) 0) []) (0+((Int.toNat (gI l 12))*1)) 0)]
 (fun j A=>(sw (ck (((leI 0 (gI l 2))&&(ltI (gI l 2) (gN l 1)))&&true)
 (ck ((ltN (0+((Int.toNat (gI l 2))*1)) (List.length (gLN l 7)))&&(ltN (List.getD (gLN l 7) (0+((Int.toNat (gI l 2))*1)) 0) (List.length (gLL l 8))))
 (S94_0 [.I (gI l 9),.I (gI l 10),.N (gN l 11),.N (List.getD (gLN l 7) (0+((Int.toNat (gI l 5))*1)) 0),.N (List.length (List.getD (gLL l 8) (List.getD (gLN l 7) (0+((Int.toNat (gI l 5))*1)) 0) [])),.I (gI A 0),.N (List.getD (gLN l 7) (0+((Int.toNat (gI l 2))*1)) 0),.N (List.length (List.getD (gLL l 8) (List.getD (gLN l 7) (0+((Int.toNat (gI l 2))*1)) 0) [])),.L (gL l 6),.LL (gLL l 8),.LN (gLN l 7)]
 (fun j B=>(sw (nx 0 [.I (gI l 0),.N (gN l 1),.I (gI l 2),.N (gN l 3),.I (gI l 4),.I (wr .i64 ((gI l 5)+1)),.L (gL B 0),.LN (gLN B 2),.LL (gLL B 1),.I (gI l 9),.I (gI l 10),.N (gN l 11),.I (gI l 12)])
 (fun _=>none)) j))))
 (fun _=>none)) j)))))
 (nx 0 [.I (gI l 0),.N (gN l 1),.I (gI l 2),.N (gN l 3),.I (gI l 4),.I (wr .i64 ((gI l 5)+1)),.L (gL l 6),.LN (gLN l 7),.LL (gLL l 8),.I (gI l 9),.I (gI l 10),.N (gN l 11),.I (gI l 12)]))))
 (ex 0 [.I (gI l 0),.N (gN l 1),.I (gI l 2),.L (gL l 6),.LN (gLN l 7),.LL (gLL l 8),.I (gI l 9),.I (gI l 10),.N (gN l 11),.I (gI l 12)])
theorem L84_15.e0:LEq L84_15.O L84_15.H 0 L84_15.s0:=by intro τ next κ l;kernel_rfl
def L84_15:LStep P Cf:=LStep.mk1 (by decide) L84_15.e0
def L84_15.b:Option τ:=runE L84_15 fuel κ t l
def L84_15.E:LEnt P:=LStep.E L84_15
def L114_2_2.H:LHead:=⟨false,false,1,466946,466946,403,16,0,[(PS.mk ((PV2.v (PV1.sl PC0.e))::(PV2.fn 115 [(p1 0)])::us 2 (pI::us 2 (pI::pI::us 10 []))) [(oG [pI])])],[((Out.exit 0),(PS.mk (us 4 (pI::us 14 [])) [(oG [pI])]))]⟩
def L114_2_2.O:Orc P:=⟨[],[],[],40⟩
def L114_2_2.s0 {τ:Type} (next ex:Nat→LS_→Option τ) (l:LS_):Option τ :=
 br (ltI (gI l 3) (gI l 2))
 (ck (((leI 0 (gI l 3))&&(ltI (gI l 3) (gN l 0)))&&true)
 (none))
 (ex 0 [.I (gI l 1),.I (gI l 4)])
theorem L114_2_2.e0:LEq L114_2_2.O L114_2_2.H 0 L114_2_2.s0:=by intro τ next κ l;kernel_rfl
def L114_2_2:LStep P Cf:=LStep.mk1 (by decide) L114_2_2.e0
def L114_2_2.b:Option τ:=runE L114_2_2 fuel κ t l
def L114_2_2.E:LEnt P:=LStep.E L114_2_2
def S114_2.H:SHead:=⟨114,[(PV2.v (PV1.sl PC0.e)),(PV2.fn 115 [(p1 0)])],[],[(oG [pI])],[(pI,[(oG [pI])])]⟩
def S114_2.O:Orc P:=⟨[],[L114_2_2.E],[],40⟩
def S114_2:Option τ :=
 L114_2_2.b 0 [.N (gN l 0),.I 0,.I (gN l 0),.I 0,.I (gI l 1)]
 (fun j A=>(sw (k 0 [.I (-1),.I (gI A 1)])
 (fun _=>none)) j)
theorem S114_2.eq:SEq S114_2.O S114_2.H S114_2:=by intro τ l κ;kernel_rfl
def S114_2.next:SDyn P S114_2.H:=mkS S114_2.eq
def S114_2.E:SEnt P:=⟨S114_2.H,S114_2.next⟩
def L84_10_1.H:LHead:=⟨true,false,6,344074,344074,885443715538058478990,398,0,[(PS.mk (us 1 (pI::(rr 1)::(pp 3)::us 3 (pI::(pp 5)::us 1 (pI::us 57 (pI::pI::us 51 []))))) mo4Xb)],[((Out.exit 2),(PS.mk (us 1 (pI::(rr 1)::(pp 3)::us 3 (pI::(pp 5)::us 112 []))) mo4Xb))]⟩
def L84_10_1.O:Orc P:=⟨[T104.E],[],[],40⟩
def L84_10_1.s0:Option τ :=
 br (ltI (gI l 5) (gI l 4))
 (ck (((leI 0 (gI l 2))&&(ltI (gI l 2) (gN l 1)))&&true)
 (ck ((ltN (0+((Int.toNat (gI l 2))*1)) (List.length (gLN l 7)))&&(ltN (List.getD (gLN l 7) (0+((Int.toNat (gI l 2))*1)) 0) (List.length (gLL l 8))))
 (ck (((leI 0 (gI l 2))&&(ltI (gI l 2) (gN l 1)))&&true)
 (ck ((ltN (0+((Int.toNat (gI l 2))*1)) (List.length (gLN l 7)))&&(ltN (List.getD (gLN l 7) (0+((Int.toNat (gI l 2))*1)) 0) (List.length (gLL l 8))))
 (ck (((leI 0 (gI l 5))&&(ltI (gI l 5) (((List.length (List.getD (gLL l 8) (List.getD (gLN l 7) (0+((Int.toNat (gI l 2))*1)) 0) [])):Nat):Int)))&&true)
 (ck ((ltN (List.getD (gLN l 7) (0+((Int.toNat (gI l 2))*1)) 0) (List.length (gLL l 8)))&&(ltN (0+((Int.toNat (gI l 5))*1)) (List.length (List.getD (gLL l 8) (List.getD (gLN l 7) (0+((Int.toNat (gI l 2))*1)) 0) []))))
 (ck (((eqM (gN l 11) (List.length (List.take ((gN l 11)*1) (List.drop 0 (gL l 6)))))&&true)&&true)
 (T104 [.I (gI l 9),.I (gI l 10),.L (List.take ((gN l 11)*1) (List.drop 0 (gL l 6))),.I (gI l 3),.I (List.getD (List.getD (gLL l 8) (List.getD (gLN l 7) (0+((Int.toNat (gI l 2))*1)) 0) []) (0+((Int.toNat (gI l 5))*1)) 0)]
 (fun j A=>(sw (ck (((leI 0 (gI l 5))&&(ltI (gI l 5) (((List.length (List.getD (gLL l 8) (List.getD (gLN l 7) (0+((Int.toNat (gI l 2))*1)) 0) [])):Nat):Int)))&&true)
 (ck ((ltN (List.getD (gLN l 7) (0+((Int.toNat (gI l 2))*1)) 0) (List.length (gLL l 8)))&&(ltN (0+((Int.toNat (gI l 5))*1)) (List.length (List.getD (gLL l 8) (List.getD (gLN l 7) (0+((Int.toNat (gI l 2))*1)) 0) []))))
 (nx 0 [.I (gI l 0),.N (gN l 1),.I (gI l 2),.I (gI l 3),.I (gI l 4),.I (wr .i64 ((gI l 5)+1)),.L (gL l 6),.LN (gLN l 7),.LL (List.set (gLL l 8) (List.getD (gLN l 7) (0+((Int.toNat (gI l 2))*1)) 0) (List.set (List.getD (gLL l 8) (List.getD (gLN l 7) (0+((Int.toNat (gI l 2))*1)) 0) []) (0+((Int.toNat (gI l 5))*1)) (gI A 0))),.I (gI l 9),.I (gI l 10),.N (gN l 11),.I (gI l 12),.I (gI l 13)])))
 (fun _=>none)) j)))))))))
 (ex 0 [.I (gI l 0),.N (gN l 1),.I (gI l 2),.L (gL l 6),.LN (gLN l 7),.LL (gLL l 8),.I (gI l 9),.I (gI l 10),.N (gN l 11),.I (gI l 12),.I (gI l 13)])
theorem L84_10_1.e0:LEq L84_10_1.O L84_10_1.H 0 L84_10_1.s0:=by intro τ next κ l;kernel_rfl
def L84_10_1:LStep P Cf:=LStep.mk1 (by decide) L84_10_1.e0
def L84_10_1.b:Option τ:=runE L84_10_1 fuel κ t l
def L84_10_1.E:LEnt P:=LStep.E L84_10_1
def L84_15_1.H:LHead:=⟨true,false,6,344079,344079,8665580274997661924293869966,398,0,[(PS.mk (us 1 (pI::(rr 1)::(pp 3)::us 3 (pI::(pp 5)::us 81 ((rr 1)::pI::pI::us 28 [])))) mo4Xb)],[((Out.exit 4),(PS.mk (us 1 (pI::(rr 1)::(pp 3)::us 3 (pI::(pp 5)::us 112 []))) mo4Xb))]⟩
def L84_15_1.O:Orc P:=⟨[T83.E],[],[S94_0.E],40⟩
def L84_15_1.s0:Option τ :=
 br (ltI (gI l 5) (gI l 4))
 (ck (((leI 0 (gI l 5))&&(ltI (gI l 5) (gN l 3)))&&true)
 (ck ((ltN (0+((Int.toNat (gI l 5))*1)) (List.length (gLN l 7)))&&(ltN (List.getD (gLN l 7) (0+((Int.toNat (gI l 5))*1)) 0) (List.length (gLL l 8))))
 (br ((gI l 5) != (gI l 2))
 (ck (((leI 0 (gI l 13))&&(ltI (gI l 13) (((List.length (List.getD (gLL l 8) (List.getD (gLN l 7) (0+((Int.toNat (gI l 5))*1)) 0) [])):Nat):Int)))&&true)
 (ck ((ltN (List.getD (gLN l 7) (0+((Int.toNat (gI l 5))*1)) 0) (List.length (gLL l 8)))&&(ltN (0+((Int.toNat (gI l 13))*1)) (List.length (List.getD (gLL l 8) (List.getD (gLN l 7) (0+((Int.toNat (gI l 5))*1)) 0) []))))
 (ck (((eqM (gN l 11) (List.length (List.take ((gN l 11)*1) (List.drop 0 (gL l 6)))))&&true)&&true)
 (T83 [.I (gI l 9),.I (gI l 10),.L (List.take ((gN l 11)*1) (List.drop 0 (gL l 6))),.I (List.getD (List.getD (gLL l 8) (List.getD (gLN l 7) (0+((Int.toNat (gI l 5))*1)) 0) []) (0+((Int.toNat (gI l 13))*1)) 0)]
 (fun j A=>(sw (ck (((leI 0 (gI l 2))&&(ltI (gI l 2) (gN l 1)))&&true)
 (ck ((ltN (0+((Int.toNat (gI l 2))*1)) (List.length (gLN l 7)))&&(ltN (List.getD (gLN l 7) (0+((Int.toNat (gI l 2))*1)) 0) (List.length (gLL l 8))))
 (S94_0 [.I (gI l 9),.I (gI l 10),.N (gN l 11),.N (List.getD (gLN l 7) (0+((Int.toNat (gI l 5))*1)) 0),.N (List.length (List.getD (gLL l 8) (List.getD (gLN l 7) (0+((Int.toNat (gI l 5))*1)) 0) [])),.I (gI A 0),.N (List.getD (gLN l 7) (0+((Int.toNat (gI l 2))*1)) 0),.N (List.length (List.getD (gLL l 8) (List.getD (gLN l 7) (0+((Int.toNat (gI l 2))*1)) 0) [])),.L (gL l 6),.LL (gLL l 8),.LN (gLN l 7)]
 (fun j B=>(sw (nx 0 [.I (gI l 0),.N (gN l 1),.I (gI l 2),.N (gN l 3),.I (gI l 4),.I (wr .i64 ((gI l 5)+1)),.L (gL B 0),.LN (gLN B 2),.LL (gLL B 1),.I (gI l 9),.I (gI l 10),.N (gN l 11),.I (gI l 12),.I (gI l 13)])
 (fun _=>none)) j))))
 (fun _=>none)) j)))))
 (nx 0 [.I (gI l 0),.N (gN l 1),.I (gI l 2),.N (gN l 3),.I (gI l 4),.I (wr .i64 ((gI l 5)+1)),.L (gL l 6),.LN (gLN l 7),.LL (gLL l 8),.I (gI l 9),.I (gI l 10),.N (gN l 11),.I (gI l 12),.I (gI l 13)]))))
 (ex 0 [.I (gI l 0),.N (gN l 1),.I (gI l 2),.L (gL l 6),.LN (gLN l 7),.LL (gLL l 8),.I (gI l 9),.I (gI l 10),.N (gN l 11),.I (gI l 12),.I (gI l 13)])
theorem L84_15_1.e0:LEq L84_15_1.O L84_15_1.H 0 L84_15_1.s0:=by intro τ next κ l;kernel_rfl
def L84_15_1:LStep P Cf:=LStep.mk1 (by decide) L84_15_1.e0
def L84_15_1.b:Option τ:=runE L84_15_1 fuel κ t l
def L84_15_1.E:LEnt P:=LStep.E L84_15_1
def L84_3.H:LHead:=⟨true,false,5,344067,344067,398,132,0,[(PS.mk (us 1 (pI::(rr 1)::(pp 3)::us 3 (pI::(pp 4)::us 112 []))) mo1Xb),(PS.mk (us 1 (pI::(rr 1)::(pp 3)::us 3 (pI::(pp 5)::us 112 []))) mo4Xb)],[((Out.exit 0),(PS.mk (us 2 ((rr 1)::us 4 (pI::us 113 []))) mo1Xb))]⟩
def L84_3.O:Orc P:=⟨[T116.E],[L84_10.E,L84_15.E,L84_10_1.E,L84_15_1.E],[S114_1.E,S114_2.E],40⟩
def L84_3.s0:Option τ :=
 br (ltI (gI l 9) (gI l 0))
 (br (ltI (gI l 2) (gN l 1))
 (ck ((((((leI 0 (gI l 2))&&(leI (gI l 2) (gN l 1)))&&(leI (((gN l 1):Nat):Int) (((gN l 1):Nat):Int)))&&(leI (((gN l 1):Nat):Int) (((gN l 1):Nat):Int)))&&true)&&true)
 (br (ltI (gI l 2) (gN l 1))
 (S114_1 [.N (0+((Int.toNat (gI l 2))*1)),.N ((Int.toNat (((gN l 1):Nat):Int))-(Int.toNat (gI l 2))),.LN (gLN l 4),.I (gI l 9),.LL (gLL l 5)]
 (fun j A=>(sw (br (ltI (gI A 0) 0)
 (nx 1 [.I (gI l 0),.N (gN l 1),.I (gI l 2),.L (gL l 3),.LN (gLN A 1),.LL (gLL A 3),.I (gI l 6),.I (gI l 7),.N (gN l 8),.I (gI A 2),.I (wr .i64 ((gI A 2)+1))])
 (ck (((leI 0 (wr .i64 ((gI l 2)+(gI A 0))))&&(ltI (wr .i64 ((gI l 2)+(gI A 0))) (((gN l 1):Nat):Int)))&&true)
 (ck ((ltN (0+((Int.toNat (wr .i64 ((gI l 2)+(gI A 0))))*1)) (List.length (gLN A 1)))&&(ltN (List.getD (gLN A 1) (0+((Int.toNat (wr .i64 ((gI l 2)+(gI A 0))))*1)) 0) (List.length (gLL A 3))))
 (ck (((leI 0 (gI l 2))&&(ltI (gI l 2) (gN l 1)))&&true)
 (ck ((ltN (0+((Int.toNat (gI l 2))*1)) (List.length (gLN A 1)))&&(ltN (List.getD (gLN A 1) (0+((Int.toNat (gI l 2))*1)) 0) (List.length (gLL A 3))))
 (ck (((leI 0 (gI l 2))&&(ltI (gI l 2) (gN l 1)))&&true)
 (ck ((((ltN (0+((Int.toNat (gI l 2))*1)) (List.length (gLN A 1)))&&(ltN (List.getD (gLN A 1) (0+((Int.toNat (wr .i64 ((gI l 2)+(gI A 0))))*1)) 0) (List.length (gLL A 3))))&&(eqM (List.length (List.getD (gLL A 3) (List.getD (gLN A 1) (0+((Int.toNat (wr .i64 ((gI l 2)+(gI A 0))))*1)) 0) [])) (List.length (List.getD (gLL A 3) (List.getD (gLN A 1) (0+((Int.toNat (wr .i64 ((gI l 2)+(gI A 0))))*1)) 0) []))))&&true)
 (ck (((leI 0 (wr .i64 ((gI l 2)+(gI A 0))))&&(ltI (wr .i64 ((gI l 2)+(gI A 0))) (((gN l 1):Nat):Int)))&&true)
 (ck ((((ltN (0+((Int.toNat (wr .i64 ((gI l 2)+(gI A 0))))*1)) (List.length (List.set (gLN A 1) (0+((Int.toNat (gI l 2))*1)) (List.getD (gLN A 1) (0+((Int.toNat (wr .i64 ((gI l 2)+(gI A 0))))*1)) 0))))&&(ltN (List.getD (gLN A 1) (0+((Int.toNat (gI l 2))*1)) 0) (List.length (gLL A 3))))&&(eqM (List.length (List.getD (gLL A 3) (List.getD (gLN A 1) (0+((Int.toNat (gI l 2))*1)) 0) [])) (List.length (List.getD (gLL A 3) (List.getD (gLN A 1) (0+((Int.toNat (gI l 2))*1)) 0) []))))&&true)
 (ck (((leI 0 (gI l 2))&&(ltI (gI l 2) (gN l 1)))&&true)
 (ck ((ltN (0+((Int.toNat (gI l 2))*1)) (List.length (List.set (List.set (gLN A 1) (0+((Int.toNat (gI l 2))*1)) (List.getD (gLN A 1) (0+((Int.toNat (wr .i64 ((gI l 2)+(gI A 0))))*1)) 0)) (0+((Int.toNat (wr .i64 ((gI l 2)+(gI A 0))))*1)) (List.getD (gLN A 1) (0+((Int.toNat (gI l 2))*1)) 0))))&&(ltN (List.getD (List.set (List.set (gLN A 1) (0+((Int.toNat (gI l 2))*1)) (List.getD (gLN A 1) (0+((Int.toNat (wr .i64 ((gI l 2)+(gI A 0))))*1)) 0)) (0+((Int.toNat (wr .i64 ((gI l 2)+(gI A 0))))*1)) (List.getD (gLN A 1) (0+((Int.toNat (gI l 2))*1)) 0)) (0+((Int.toNat (gI l 2))*1)) 0) (List.length (gLL A 3))))
 (ck (((leI 0 (gI A 2))&&(ltI (gI A 2) (((List.length (List.getD (gLL A 3) (List.getD (List.set (List.set (gLN A 1) (0+((Int.toNat (gI l 2))*1)) (List.getD (gLN A 1) (0+((Int.toNat (wr .i64 ((gI l 2)+(gI A 0))))*1)) 0)) (0+((Int.toNat (wr .i64 ((gI l 2)+(gI A 0))))*1)) (List.getD (gLN A 1) (0+((Int.toNat (gI l 2))*1)) 0)) (0+((Int.toNat (gI l 2))*1)) 0) [])):Nat):Int)))&&true)
 (ck ((ltN (List.getD (List.set (List.set (gLN A 1) (0+((Int.toNat (gI l 2))*1)) (List.getD (gLN A 1) (0+((Int.toNat (wr .i64 ((gI l 2)+(gI A 0))))*1)) 0)) (0+((Int.toNat (wr .i64 ((gI l 2)+(gI A 0))))*1)) (List.getD (gLN A 1) (0+((Int.toNat (gI l 2))*1)) 0)) (0+((Int.toNat (gI l 2))*1)) 0) (List.length (gLL A 3)))&&(ltN (0+((Int.toNat (gI A 2))*1)) (List.length (List.getD (gLL A 3) (List.getD (List.set (List.set (gLN A 1) (0+((Int.toNat (gI l 2))*1)) (List.getD (gLN A 1) (0+((Int.toNat (wr .i64 ((gI l 2)+(gI A 0))))*1)) 0)) (0+((Int.toNat (wr .i64 ((gI l 2)+(gI A 0))))*1)) (List.getD (gLN A 1) (0+((Int.toNat (gI l 2))*1)) 0)) (0+((Int.toNat (gI l 2))*1)) 0) []))))
 (ck (((eqM (gN l 8) (List.length (List.take ((gN l 8)*1) (List.drop 0 (gL l 3)))))&&true)&&true)
 (T116 [.I (gI l 6),.I (gI l 7),.L (List.take ((gN l 8)*1) (List.drop 0 (gL l 3))),.I (List.getD (List.getD (gLL A 3) (List.getD (List.set (List.set (gLN A 1) (0+((Int.toNat (gI l 2))*1)) (List.getD (gLN A 1) (0+((Int.toNat (wr .i64 ((gI l 2)+(gI A 0))))*1)) 0)) (0+((Int.toNat (wr .i64 ((gI l 2)+(gI A 0))))*1)) (List.getD (gLN A 1) (0+((Int.toNat (gI l 2))*1)) 0)) (0+((Int.toNat (gI l 2))*1)) 0) []) (0+((Int.toNat (gI A 2))*1)) 0)]
 (fun j B=>(sw (ck (((leI 0 (gI l 2))&&(ltI (gI l 2) (gN l 1)))&&true)
 (ck ((ltN (0+((Int.toNat (gI l 2))*1)) (List.length (List.set (List.set (gLN A 1) (0+((Int.toNat (gI l 2))*1)) (List.getD (gLN A 1) (0+((Int.toNat (wr .i64 ((gI l 2)+(gI A 0))))*1)) 0)) (0+((Int.toNat (wr .i64 ((gI l 2)+(gI A 0))))*1)) (List.getD (gLN A 1) (0+((Int.toNat (gI l 2))*1)) 0))))&&(ltN (List.getD (List.set (List.set (gLN A 1) (0+((Int.toNat (gI l 2))*1)) (List.getD (gLN A 1) (0+((Int.toNat (wr .i64 ((gI l 2)+(gI A 0))))*1)) 0)) (0+((Int.toNat (wr .i64 ((gI l 2)+(gI A 0))))*1)) (List.getD (gLN A 1) (0+((Int.toNat (gI l 2))*1)) 0)) (0+((Int.toNat (gI l 2))*1)) 0) (List.length (gLL A 3))))
 (L84_10.b 0 [.I (gI l 0),.N (gN l 1),.I (gI l 2),.I (gI B 0),.I (((List.length (List.getD (gLL A 3) (List.getD (List.set (List.set (gLN A 1) (0+((Int.toNat (gI l 2))*1)) (List.getD (gLN A 1) (0+((Int.toNat (wr .i64 ((gI l 2)+(gI A 0))))*1)) 0)) (0+((Int.toNat (wr .i64 ((gI l 2)+(gI A 0))))*1)) (List.getD (gLN A 1) (0+((Int.toNat (gI l 2))*1)) 0)) (0+((Int.toNat (gI l 2))*1)) 0) [])):Nat):Int),.I 0,.L (gL l 3),.LN (List.set (List.set (gLN A 1) (0+((Int.toNat (gI l 2))*1)) (List.getD (gLN A 1) (0+((Int.toNat (wr .i64 ((gI l 2)+(gI A 0))))*1)) 0)) (0+((Int.toNat (wr .i64 ((gI l 2)+(gI A 0))))*1)) (List.getD (gLN A 1) (0+((Int.toNat (gI l 2))*1)) 0)),.LL (gLL A 3),.I (gI l 6),.I (gI l 7),.N (gN l 8),.I (gI A 2)]
 (fun j C=>(sw (L84_15.b 0 [.I (gI C 0),.N (gN C 1),.I (gI C 2),.N (gN C 1),.I (gN C 1),.I 0,.L (gL C 3),.LN (gLN C 4),.LL (gLL C 5),.I (gI C 6),.I (gI C 7),.N (gN C 8),.I (gI C 9)]
 (fun j D=>(sw (nx 1 [.I (gI D 0),.N (gN D 1),.I (wr .i64 ((gI D 2)+1)),.L (gL D 3),.LN (gLN D 4),.LL (gLL D 5),.I (gI D 6),.I (gI D 7),.N (gN D 8),.I (gI D 9),.I (wr .i64 ((gI D 9)+1))])
 (fun _=>none)) j))
 (fun _=>none)) j))))
 (fun _=>none)) j))))))))))))))))
 (fun _=>none)) j))
 (S114_2 [.N 0,.I (gI l 9)]
 (fun j A=>(sw (br (ltI (gI A 0) 0)
 (nx 1 [.I (gI l 0),.N (gN l 1),.I (gI l 2),.L (gL l 3),.LN (gLN l 4),.LL (gLL l 5),.I (gI l 6),.I (gI l 7),.N (gN l 8),.I (gI A 1),.I (wr .i64 ((gI A 1)+1))])
 (ck (((leI 0 (wr .i64 ((gI l 2)+(gI A 0))))&&(ltI (wr .i64 ((gI l 2)+(gI A 0))) (((gN l 1):Nat):Int)))&&true)
 (ck ((ltN (0+((Int.toNat (wr .i64 ((gI l 2)+(gI A 0))))*1)) (List.length (gLN l 4)))&&(ltN (List.getD (gLN l 4) (0+((Int.toNat (wr .i64 ((gI l 2)+(gI A 0))))*1)) 0) (List.length (gLL l 5))))
 (ck (((leI 0 (gI l 2))&&(ltI (gI l 2) (gN l 1)))&&true)
 (ck ((ltN (0+((Int.toNat (gI l 2))*1)) (List.length (gLN l 4)))&&(ltN (List.getD (gLN l 4) (0+((Int.toNat (gI l 2))*1)) 0) (List.length (gLL l 5))))
 (ck (((leI 0 (gI l 2))&&(ltI (gI l 2) (gN l 1)))&&true)
 (ck ((((ltN (0+((Int.toNat (gI l 2))*1)) (List.length (gLN l 4)))&&(ltN (List.getD (gLN l 4) (0+((Int.toNat (wr .i64 ((gI l 2)+(gI A 0))))*1)) 0) (List.length (gLL l 5))))&&(eqM (List.length (List.getD (gLL l 5) (List.getD (gLN l 4) (0+((Int.toNat (wr .i64 ((gI l 2)+(gI A 0))))*1)) 0) [])) (List.length (List.getD (gLL l 5) (List.getD (gLN l 4) (0+((Int.toNat (wr .i64 ((gI l 2)+(gI A 0))))*1)) 0) []))))&&true)
 (ck (((leI 0 (wr .i64 ((gI l 2)+(gI A 0))))&&(ltI (wr .i64 ((gI l 2)+(gI A 0))) (((gN l 1):Nat):Int)))&&true)
 (ck ((((ltN (0+((Int.toNat (wr .i64 ((gI l 2)+(gI A 0))))*1)) (List.length (List.set (gLN l 4) (0+((Int.toNat (gI l 2))*1)) (List.getD (gLN l 4) (0+((Int.toNat (wr .i64 ((gI l 2)+(gI A 0))))*1)) 0))))&&(ltN (List.getD (gLN l 4) (0+((Int.toNat (gI l 2))*1)) 0) (List.length (gLL l 5))))&&(eqM (List.length (List.getD (gLL l 5) (List.getD (gLN l 4) (0+((Int.toNat (gI l 2))*1)) 0) [])) (List.length (List.getD (gLL l 5) (List.getD (gLN l 4) (0+((Int.toNat (gI l 2))*1)) 0) []))))&&true)
 (ck (((leI 0 (gI l 2))&&(ltI (gI l 2) (gN l 1)))&&true)
 (ck ((ltN (0+((Int.toNat (gI l 2))*1)) (List.length (List.set (List.set (gLN l 4) (0+((Int.toNat (gI l 2))*1)) (List.getD (gLN l 4) (0+((Int.toNat (wr .i64 ((gI l 2)+(gI A 0))))*1)) 0)) (0+((Int.toNat (wr .i64 ((gI l 2)+(gI A 0))))*1)) (List.getD (gLN l 4) (0+((Int.toNat (gI l 2))*1)) 0))))&&(ltN (List.getD (List.set (List.set (gLN l 4) (0+((Int.toNat (gI l 2))*1)) (List.getD (gLN l 4) (0+((Int.toNat (wr .i64 ((gI l 2)+(gI A 0))))*1)) 0)) (0+((Int.toNat (wr .i64 ((gI l 2)+(gI A 0))))*1)) (List.getD (gLN l 4) (0+((Int.toNat (gI l 2))*1)) 0)) (0+((Int.toNat (gI l 2))*1)) 0) (List.length (gLL l 5))))
 (ck (((leI 0 (gI A 1))&&(ltI (gI A 1) (((List.length (List.getD (gLL l 5) (List.getD (List.set (List.set (gLN l 4) (0+((Int.toNat (gI l 2))*1)) (List.getD (gLN l 4) (0+((Int.toNat (wr .i64 ((gI l 2)+(gI A 0))))*1)) 0)) (0+((Int.toNat (wr .i64 ((gI l 2)+(gI A 0))))*1)) (List.getD (gLN l 4) (0+((Int.toNat (gI l 2))*1)) 0)) (0+((Int.toNat (gI l 2))*1)) 0) [])):Nat):Int)))&&true)
 (ck ((ltN (List.getD (List.set (List.set (gLN l 4) (0+((Int.toNat (gI l 2))*1)) (List.getD (gLN l 4) (0+((Int.toNat (wr .i64 ((gI l 2)+(gI A 0))))*1)) 0)) (0+((Int.toNat (wr .i64 ((gI l 2)+(gI A 0))))*1)) (List.getD (gLN l 4) (0+((Int.toNat (gI l 2))*1)) 0)) (0+((Int.toNat (gI l 2))*1)) 0) (List.length (gLL l 5)))&&(ltN (0+((Int.toNat (gI A 1))*1)) (List.length (List.getD (gLL l 5) (List.getD (List.set (List.set (gLN l 4) (0+((Int.toNat (gI l 2))*1)) (List.getD (gLN l 4) (0+((Int.toNat (wr .i64 ((gI l 2)+(gI A 0))))*1)) 0)) (0+((Int.toNat (wr .i64 ((gI l 2)+(gI A 0))))*1)) (List.getD (gLN l 4) (0+((Int.toNat (gI l 2))*1)) 0)) (0+((Int.toNat (gI l 2))*1)) 0) []))))
 (ck (((eqM (gN l 8) (List.length (List.take ((gN l 8)*1) (List.drop 0 (gL l 3)))))&&true)&&true)
 (T116 [.I (gI l 6),.I (gI l 7),.L (List.take ((gN l 8)*1) (List.drop 0 (gL l 3))),.I (List.getD (List.getD (gLL l 5) (List.getD (List.set (List.set (gLN l 4) (0+((Int.toNat (gI l 2))*1)) (List.getD (gLN l 4) (0+((Int.toNat (wr .i64 ((gI l 2)+(gI A 0))))*1)) 0)) (0+((Int.toNat (wr .i64 ((gI l 2)+(gI A 0))))*1)) (List.getD (gLN l 4) (0+((Int.toNat (gI l 2))*1)) 0)) (0+((Int.toNat (gI l 2))*1)) 0) []) (0+((Int.toNat (gI A 1))*1)) 0)]
 (fun j B=>(sw (ck (((leI 0 (gI l 2))&&(ltI (gI l 2) (gN l 1)))&&true)
 (ck ((ltN (0+((Int.toNat (gI l 2))*1)) (List.length (List.set (List.set (gLN l 4) (0+((Int.toNat (gI l 2))*1)) (List.getD (gLN l 4) (0+((Int.toNat (wr .i64 ((gI l 2)+(gI A 0))))*1)) 0)) (0+((Int.toNat (wr .i64 ((gI l 2)+(gI A 0))))*1)) (List.getD (gLN l 4) (0+((Int.toNat (gI l 2))*1)) 0))))&&(ltN (List.getD (List.set (List.set (gLN l 4) (0+((Int.toNat (gI l 2))*1)) (List.getD (gLN l 4) (0+((Int.toNat (wr .i64 ((gI l 2)+(gI A 0))))*1)) 0)) (0+((Int.toNat (wr .i64 ((gI l 2)+(gI A 0))))*1)) (List.getD (gLN l 4) (0+((Int.toNat (gI l 2))*1)) 0)) (0+((Int.toNat (gI l 2))*1)) 0) (List.length (gLL l 5))))
 (L84_10.b 0 [.I (gI l 0),.N (gN l 1),.I (gI l 2),.I (gI B 0),.I (((List.length (List.getD (gLL l 5) (List.getD (List.set (List.set (gLN l 4) (0+((Int.toNat (gI l 2))*1)) (List.getD (gLN l 4) (0+((Int.toNat (wr .i64 ((gI l 2)+(gI A 0))))*1)) 0)) (0+((Int.toNat (wr .i64 ((gI l 2)+(gI A 0))))*1)) (List.getD (gLN l 4) (0+((Int.toNat (gI l 2))*1)) 0)) (0+((Int.toNat (gI l 2))*1)) 0) [])):Nat):Int),.I 0,.L (gL l 3),.LN (List.set (List.set (gLN l 4) (0+((Int.toNat (gI l 2))*1)) (List.getD (gLN l 4) (0+((Int.toNat (wr .i64 ((gI l 2)+(gI A 0))))*1)) 0)) (0+((Int.toNat (wr .i64 ((gI l 2)+(gI A 0))))*1)) (List.getD (gLN l 4) (0+((Int.toNat (gI l 2))*1)) 0)),.LL (gLL l 5),.I (gI l 6),.I (gI l 7),.N (gN l 8),.I (gI A 1)]
 (fun j C=>(sw (L84_15.b 0 [.I (gI C 0),.N (gN C 1),.I (gI C 2),.N (gN C 1),.I (gN C 1),.I 0,.L (gL C 3),.LN (gLN C 4),.LL (gLL C 5),.I (gI C 6),.I (gI C 7),.N (gN C 8),.I (gI C 9)]
 (fun j D=>(sw (nx 1 [.I (gI D 0),.N (gN D 1),.I (wr .i64 ((gI D 2)+1)),.L (gL D 3),.LN (gLN D 4),.LL (gLL D 5),.I (gI D 6),.I (gI D 7),.N (gN D 8),.I (gI D 9),.I (wr .i64 ((gI D 9)+1))])
 (fun _=>none)) j))
 (fun _=>none)) j))))
 (fun _=>none)) j))))))))))))))))
 (fun _=>none)) j))))
 (ex 0 [.N (gN l 1),.I (gI l 2),.L (gL l 3),.LN (gLN l 4),.LL (gLL l 5),.I (gI l 6),.I (gI l 7),.N (gN l 8),.I (gI l 9)]))
 (ex 0 [.N (gN l 1),.I (gI l 2),.L (gL l 3),.LN (gLN l 4),.LL (gLL l 5),.I (gI l 6),.I (gI l 7),.N (gN l 8),.I (gI l 9)])
theorem L84_3.e0:LEq L84_3.O L84_3.H 0 L84_3.s0:=by intro τ next κ l;kernel_rfl
def L84_3.s1:Option τ :=
 br (ltI (gI l 10) (gI l 0))
 (br (ltI (gI l 2) (gN l 1))
 (ck ((((((leI 0 (gI l 2))&&(leI (gI l 2) (gN l 1)))&&(leI (((gN l 1):Nat):Int) (((gN l 1):Nat):Int)))&&(leI (((gN l 1):Nat):Int) (((gN l 1):Nat):Int)))&&true)&&true)
 (br (ltI (gI l 2) (gN l 1))
 (S114_1 [.N (0+((Int.toNat (gI l 2))*1)),.N ((Int.toNat (((gN l 1):Nat):Int))-(Int.toNat (gI l 2))),.LN (gLN l 4),.I (gI l 10),.LL (gLL l 5)]
 (fun j A=>(sw (br (ltI (gI A 0) 0)
 (nx 1 [.I (gI l 0),.N (gN l 1),.I (gI l 2),.L (gL l 3),.LN (gLN A 1),.LL (gLL A 3),.I (gI l 6),.I (gI l 7),.N (gN l 8),.I (gI l 9),.I (wr .i64 ((gI A 2)+1))])
 (ck (((leI 0 (wr .i64 ((gI l 2)+(gI A 0))))&&(ltI (wr .i64 ((gI l 2)+(gI A 0))) (((gN l 1):Nat):Int)))&&true)
 (ck ((ltN (0+((Int.toNat (wr .i64 ((gI l 2)+(gI A 0))))*1)) (List.length (gLN A 1)))&&(ltN (List.getD (gLN A 1) (0+((Int.toNat (wr .i64 ((gI l 2)+(gI A 0))))*1)) 0) (List.length (gLL A 3))))
 (ck (((leI 0 (gI l 2))&&(ltI (gI l 2) (gN l 1)))&&true)
 (ck ((ltN (0+((Int.toNat (gI l 2))*1)) (List.length (gLN A 1)))&&(ltN (List.getD (gLN A 1) (0+((Int.toNat (gI l 2))*1)) 0) (List.length (gLL A 3))))
 (ck (((leI 0 (gI l 2))&&(ltI (gI l 2) (gN l 1)))&&true)
 (ck ((((ltN (0+((Int.toNat (gI l 2))*1)) (List.length (gLN A 1)))&&(ltN (List.getD (gLN A 1) (0+((Int.toNat (wr .i64 ((gI l 2)+(gI A 0))))*1)) 0) (List.length (gLL A 3))))&&(eqM (List.length (List.getD (gLL A 3) (List.getD (gLN A 1) (0+((Int.toNat (wr .i64 ((gI l 2)+(gI A 0))))*1)) 0) [])) (List.length (List.getD (gLL A 3) (List.getD (gLN A 1) (0+((Int.toNat (wr .i64 ((gI l 2)+(gI A 0))))*1)) 0) []))))&&true)
 (ck (((leI 0 (wr .i64 ((gI l 2)+(gI A 0))))&&(ltI (wr .i64 ((gI l 2)+(gI A 0))) (((gN l 1):Nat):Int)))&&true)
 (ck ((((ltN (0+((Int.toNat (wr .i64 ((gI l 2)+(gI A 0))))*1)) (List.length (List.set (gLN A 1) (0+((Int.toNat (gI l 2))*1)) (List.getD (gLN A 1) (0+((Int.toNat (wr .i64 ((gI l 2)+(gI A 0))))*1)) 0))))&&(ltN (List.getD (gLN A 1) (0+((Int.toNat (gI l 2))*1)) 0) (List.length (gLL A 3))))&&(eqM (List.length (List.getD (gLL A 3) (List.getD (gLN A 1) (0+((Int.toNat (gI l 2))*1)) 0) [])) (List.length (List.getD (gLL A 3) (List.getD (gLN A 1) (0+((Int.toNat (gI l 2))*1)) 0) []))))&&true)
 (ck (((leI 0 (gI l 2))&&(ltI (gI l 2) (gN l 1)))&&true)
 (ck ((ltN (0+((Int.toNat (gI l 2))*1)) (List.length (List.set (List.set (gLN A 1) (0+((Int.toNat (gI l 2))*1)) (List.getD (gLN A 1) (0+((Int.toNat (wr .i64 ((gI l 2)+(gI A 0))))*1)) 0)) (0+((Int.toNat (wr .i64 ((gI l 2)+(gI A 0))))*1)) (List.getD (gLN A 1) (0+((Int.toNat (gI l 2))*1)) 0))))&&(ltN (List.getD (List.set (List.set (gLN A 1) (0+((Int.toNat (gI l 2))*1)) (List.getD (gLN A 1) (0+((Int.toNat (wr .i64 ((gI l 2)+(gI A 0))))*1)) 0)) (0+((Int.toNat (wr .i64 ((gI l 2)+(gI A 0))))*1)) (List.getD (gLN A 1) (0+((Int.toNat (gI l 2))*1)) 0)) (0+((Int.toNat (gI l 2))*1)) 0) (List.length (gLL A 3))))
 (ck (((leI 0 (gI A 2))&&(ltI (gI A 2) (((List.length (List.getD (gLL A 3) (List.getD (List.set (List.set (gLN A 1) (0+((Int.toNat (gI l 2))*1)) (List.getD (gLN A 1) (0+((Int.toNat (wr .i64 ((gI l 2)+(gI A 0))))*1)) 0)) (0+((Int.toNat (wr .i64 ((gI l 2)+(gI A 0))))*1)) (List.getD (gLN A 1) (0+((Int.toNat (gI l 2))*1)) 0)) (0+((Int.toNat (gI l 2))*1)) 0) [])):Nat):Int)))&&true)
 (ck ((ltN (List.getD (List.set (List.set (gLN A 1) (0+((Int.toNat (gI l 2))*1)) (List.getD (gLN A 1) (0+((Int.toNat (wr .i64 ((gI l 2)+(gI A 0))))*1)) 0)) (0+((Int.toNat (wr .i64 ((gI l 2)+(gI A 0))))*1)) (List.getD (gLN A 1) (0+((Int.toNat (gI l 2))*1)) 0)) (0+((Int.toNat (gI l 2))*1)) 0) (List.length (gLL A 3)))&&(ltN (0+((Int.toNat (gI A 2))*1)) (List.length (List.getD (gLL A 3) (List.getD (List.set (List.set (gLN A 1) (0+((Int.toNat (gI l 2))*1)) (List.getD (gLN A 1) (0+((Int.toNat (wr .i64 ((gI l 2)+(gI A 0))))*1)) 0)) (0+((Int.toNat (wr .i64 ((gI l 2)+(gI A 0))))*1)) (List.getD (gLN A 1) (0+((Int.toNat (gI l 2))*1)) 0)) (0+((Int.toNat (gI l 2))*1)) 0) []))))
 (ck (((eqM (gN l 8) (List.length (List.take ((gN l 8)*1) (List.drop 0 (gL l 3)))))&&true)&&true)
 (T116 [.I (gI l 6),.I (gI l 7),.L (List.take ((gN l 8)*1) (List.drop 0 (gL l 3))),.I (List.getD (List.getD (gLL A 3) (List.getD (List.set (List.set (gLN A 1) (0+((Int.toNat (gI l 2))*1)) (List.getD (gLN A 1) (0+((Int.toNat (wr .i64 ((gI l 2)+(gI A 0))))*1)) 0)) (0+((Int.toNat (wr .i64 ((gI l 2)+(gI A 0))))*1)) (List.getD (gLN A 1) (0+((Int.toNat (gI l 2))*1)) 0)) (0+((Int.toNat (gI l 2))*1)) 0) []) (0+((Int.toNat (gI A 2))*1)) 0)]
 (fun j B=>(sw (ck (((leI 0 (gI l 2))&&(ltI (gI l 2) (gN l 1)))&&true)
 (ck ((ltN (0+((Int.toNat (gI l 2))*1)) (List.length (List.set (List.set (gLN A 1) (0+((Int.toNat (gI l 2))*1)) (List.getD (gLN A 1) (0+((Int.toNat (wr .i64 ((gI l 2)+(gI A 0))))*1)) 0)) (0+((Int.toNat (wr .i64 ((gI l 2)+(gI A 0))))*1)) (List.getD (gLN A 1) (0+((Int.toNat (gI l 2))*1)) 0))))&&(ltN (List.getD (List.set (List.set (gLN A 1) (0+((Int.toNat (gI l 2))*1)) (List.getD (gLN A 1) (0+((Int.toNat (wr .i64 ((gI l 2)+(gI A 0))))*1)) 0)) (0+((Int.toNat (wr .i64 ((gI l 2)+(gI A 0))))*1)) (List.getD (gLN A 1) (0+((Int.toNat (gI l 2))*1)) 0)) (0+((Int.toNat (gI l 2))*1)) 0) (List.length (gLL A 3))))
 (L84_10_1.b 0 [.I (gI l 0),.N (gN l 1),.I (gI l 2),.I (gI B 0),.I (((List.length (List.getD (gLL A 3) (List.getD (List.set (List.set (gLN A 1) (0+((Int.toNat (gI l 2))*1)) (List.getD (gLN A 1) (0+((Int.toNat (wr .i64 ((gI l 2)+(gI A 0))))*1)) 0)) (0+((Int.toNat (wr .i64 ((gI l 2)+(gI A 0))))*1)) (List.getD (gLN A 1) (0+((Int.toNat (gI l 2))*1)) 0)) (0+((Int.toNat (gI l 2))*1)) 0) [])):Nat):Int),.I 0,.L (gL l 3),.LN (List.set (List.set (gLN A 1) (0+((Int.toNat (gI l 2))*1)) (List.getD (gLN A 1) (0+((Int.toNat (wr .i64 ((gI l 2)+(gI A 0))))*1)) 0)) (0+((Int.toNat (wr .i64 ((gI l 2)+(gI A 0))))*1)) (List.getD (gLN A 1) (0+((Int.toNat (gI l 2))*1)) 0)),.LL (gLL A 3),.I (gI l 6),.I (gI l 7),.N (gN l 8),.I (gI l 9),.I (gI A 2)]
 (fun j C=>(sw (L84_15_1.b 0 [.I (gI C 0),.N (gN C 1),.I (gI C 2),.N (gN C 1),.I (gN C 1),.I 0,.L (gL C 3),.LN (gLN C 4),.LL (gLL C 5),.I (gI C 6),.I (gI C 7),.N (gN C 8),.I (gI C 9),.I (gI C 10)]
 (fun j D=>(sw (nx 1 [.I (gI D 0),.N (gN D 1),.I (wr .i64 ((gI D 2)+1)),.L (gL D 3),.LN (gLN D 4),.LL (gLL D 5),.I (gI D 6),.I (gI D 7),.N (gN D 8),.I (gI D 9),.I (wr .i64 ((gI D 10)+1))])
 (fun _=>none)) j))
 (fun _=>none)) j))))
 (fun _=>none)) j))))))))))))))))
 (fun _=>none)) j))
 (S114_2 [.N 0,.I (gI l 10)]
 (fun j A=>(sw (br (ltI (gI A 0) 0)
 (nx 1 [.I (gI l 0),.N (gN l 1),.I (gI l 2),.L (gL l 3),.LN (gLN l 4),.LL (gLL l 5),.I (gI l 6),.I (gI l 7),.N (gN l 8),.I (gI l 9),.I (wr .i64 ((gI A 1)+1))])
 (ck (((leI 0 (wr .i64 ((gI l 2)+(gI A 0))))&&(ltI (wr .i64 ((gI l 2)+(gI A 0))) (((gN l 1):Nat):Int)))&&true)
 (ck ((ltN (0+((Int.toNat (wr .i64 ((gI l 2)+(gI A 0))))*1)) (List.length (gLN l 4)))&&(ltN (List.getD (gLN l 4) (0+((Int.toNat (wr .i64 ((gI l 2)+(gI A 0))))*1)) 0) (List.length (gLL l 5))))
 (ck (((leI 0 (gI l 2))&&(ltI (gI l 2) (gN l 1)))&&true)
 (ck ((ltN (0+((Int.toNat (gI l 2))*1)) (List.length (gLN l 4)))&&(ltN (List.getD (gLN l 4) (0+((Int.toNat (gI l 2))*1)) 0) (List.length (gLL l 5))))
 (ck (((leI 0 (gI l 2))&&(ltI (gI l 2) (gN l 1)))&&true)
 (ck ((((ltN (0+((Int.toNat (gI l 2))*1)) (List.length (gLN l 4)))&&(ltN (List.getD (gLN l 4) (0+((Int.toNat (wr .i64 ((gI l 2)+(gI A 0))))*1)) 0) (List.length (gLL l 5))))&&(eqM (List.length (List.getD (gLL l 5) (List.getD (gLN l 4) (0+((Int.toNat (wr .i64 ((gI l 2)+(gI A 0))))*1)) 0) [])) (List.length (List.getD (gLL l 5) (List.getD (gLN l 4) (0+((Int.toNat (wr .i64 ((gI l 2)+(gI A 0))))*1)) 0) []))))&&true)
 (ck (((leI 0 (wr .i64 ((gI l 2)+(gI A 0))))&&(ltI (wr .i64 ((gI l 2)+(gI A 0))) (((gN l 1):Nat):Int)))&&true)
 (ck ((((ltN (0+((Int.toNat (wr .i64 ((gI l 2)+(gI A 0))))*1)) (List.length (List.set (gLN l 4) (0+((Int.toNat (gI l 2))*1)) (List.getD (gLN l 4) (0+((Int.toNat (wr .i64 ((gI l 2)+(gI A 0))))*1)) 0))))&&(ltN (List.getD (gLN l 4) (0+((Int.toNat (gI l 2))*1)) 0) (List.length (gLL l 5))))&&(eqM (List.length (List.getD (gLL l 5) (List.getD (gLN l 4) (0+((Int.toNat (gI l 2))*1)) 0) [])) (List.length (List.getD (gLL l 5) (List.getD (gLN l 4) (0+((Int.toNat (gI l 2))*1)) 0) []))))&&true)
 (ck (((leI 0 (gI l 2))&&(ltI (gI l 2) (gN l 1)))&&true)
 (ck ((ltN (0+((Int.toNat (gI l 2))*1)) (List.length (List.set (List.set (gLN l 4) (0+((Int.toNat (gI l 2))*1)) (List.getD (gLN l 4) (0+((Int.toNat (wr .i64 ((gI l 2)+(gI A 0))))*1)) 0)) (0+((Int.toNat (wr .i64 ((gI l 2)+(gI A 0))))*1)) (List.getD (gLN l 4) (0+((Int.toNat (gI l 2))*1)) 0))))&&(ltN (List.getD (List.set (List.set (gLN l 4) (0+((Int.toNat (gI l 2))*1)) (List.getD (gLN l 4) (0+((Int.toNat (wr .i64 ((gI l 2)+(gI A 0))))*1)) 0)) (0+((Int.toNat (wr .i64 ((gI l 2)+(gI A 0))))*1)) (List.getD (gLN l 4) (0+((Int.toNat (gI l 2))*1)) 0)) (0+((Int.toNat (gI l 2))*1)) 0) (List.length (gLL l 5))))
 (ck (((leI 0 (gI A 1))&&(ltI (gI A 1) (((List.length (List.getD (gLL l 5) (List.getD (List.set (List.set (gLN l 4) (0+((Int.toNat (gI l 2))*1)) (List.getD (gLN l 4) (0+((Int.toNat (wr .i64 ((gI l 2)+(gI A 0))))*1)) 0)) (0+((Int.toNat (wr .i64 ((gI l 2)+(gI A 0))))*1)) (List.getD (gLN l 4) (0+((Int.toNat (gI l 2))*1)) 0)) (0+((Int.toNat (gI l 2))*1)) 0) [])):Nat):Int)))&&true)
 (ck ((ltN (List.getD (List.set (List.set (gLN l 4) (0+((Int.toNat (gI l 2))*1)) (List.getD (gLN l 4) (0+((Int.toNat (wr .i64 ((gI l 2)+(gI A 0))))*1)) 0)) (0+((Int.toNat (wr .i64 ((gI l 2)+(gI A 0))))*1)) (List.getD (gLN l 4) (0+((Int.toNat (gI l 2))*1)) 0)) (0+((Int.toNat (gI l 2))*1)) 0) (List.length (gLL l 5)))&&(ltN (0+((Int.toNat (gI A 1))*1)) (List.length (List.getD (gLL l 5) (List.getD (List.set (List.set (gLN l 4) (0+((Int.toNat (gI l 2))*1)) (List.getD (gLN l 4) (0+((Int.toNat (wr .i64 ((gI l 2)+(gI A 0))))*1)) 0)) (0+((Int.toNat (wr .i64 ((gI l 2)+(gI A 0))))*1)) (List.getD (gLN l 4) (0+((Int.toNat (gI l 2))*1)) 0)) (0+((Int.toNat (gI l 2))*1)) 0) []))))
 (ck (((eqM (gN l 8) (List.length (List.take ((gN l 8)*1) (List.drop 0 (gL l 3)))))&&true)&&true)
 (T116 [.I (gI l 6),.I (gI l 7),.L (List.take ((gN l 8)*1) (List.drop 0 (gL l 3))),.I (List.getD (List.getD (gLL l 5) (List.getD (List.set (List.set (gLN l 4) (0+((Int.toNat (gI l 2))*1)) (List.getD (gLN l 4) (0+((Int.toNat (wr .i64 ((gI l 2)+(gI A 0))))*1)) 0)) (0+((Int.toNat (wr .i64 ((gI l 2)+(gI A 0))))*1)) (List.getD (gLN l 4) (0+((Int.toNat (gI l 2))*1)) 0)) (0+((Int.toNat (gI l 2))*1)) 0) []) (0+((Int.toNat (gI A 1))*1)) 0)]
 (fun j B=>(sw (ck (((leI 0 (gI l 2))&&(ltI (gI l 2) (gN l 1)))&&true)
 (ck ((ltN (0+((Int.toNat (gI l 2))*1)) (List.length (List.set (List.set (gLN l 4) (0+((Int.toNat (gI l 2))*1)) (List.getD (gLN l 4) (0+((Int.toNat (wr .i64 ((gI l 2)+(gI A 0))))*1)) 0)) (0+((Int.toNat (wr .i64 ((gI l 2)+(gI A 0))))*1)) (List.getD (gLN l 4) (0+((Int.toNat (gI l 2))*1)) 0))))&&(ltN (List.getD (List.set (List.set (gLN l 4) (0+((Int.toNat (gI l 2))*1)) (List.getD (gLN l 4) (0+((Int.toNat (wr .i64 ((gI l 2)+(gI A 0))))*1)) 0)) (0+((Int.toNat (wr .i64 ((gI l 2)+(gI A 0))))*1)) (List.getD (gLN l 4) (0+((Int.toNat (gI l 2))*1)) 0)) (0+((Int.toNat (gI l 2))*1)) 0) (List.length (gLL l 5))))
 (L84_10_1.b 0 [.I (gI l 0),.N (gN l 1),.I (gI l 2),.I (gI B 0),.I (((List.length (List.getD (gLL l 5) (List.getD (List.set (List.set (gLN l 4) (0+((Int.toNat (gI l 2))*1)) (List.getD (gLN l 4) (0+((Int.toNat (wr .i64 ((gI l 2)+(gI A 0))))*1)) 0)) (0+((Int.toNat (wr .i64 ((gI l 2)+(gI A 0))))*1)) (List.getD (gLN l 4) (0+((Int.toNat (gI l 2))*1)) 0)) (0+((Int.toNat (gI l 2))*1)) 0) [])):Nat):Int),.I 0,.L (gL l 3),.LN (List.set (List.set (gLN l 4) (0+((Int.toNat (gI l 2))*1)) (List.getD (gLN l 4) (0+((Int.toNat (wr .i64 ((gI l 2)+(gI A 0))))*1)) 0)) (0+((Int.toNat (wr .i64 ((gI l 2)+(gI A 0))))*1)) (List.getD (gLN l 4) (0+((Int.toNat (gI l 2))*1)) 0)),.LL (gLL l 5),.I (gI l 6),.I (gI l 7),.N (gN l 8),.I (gI l 9),.I (gI A 1)]
 (fun j C=>(sw (L84_15_1.b 0 [.I (gI C 0),.N (gN C 1),.I (gI C 2),.N (gN C 1),.I (gN C 1),.I 0,.L (gL C 3),.LN (gLN C 4),.LL (gLL C 5),.I (gI C 6),.I (gI C 7),.N (gN C 8),.I (gI C 9),.I (gI C 10)]
 (fun j D=>(sw (nx 1 [.I (gI D 0),.N (gN D 1),.I (wr .i64 ((gI D 2)+1)),.L (gL D 3),.LN (gLN D 4),.LL (gLL D 5),.I (gI D 6),.I (gI D 7),.N (gN D 8),.I (gI D 9),.I (wr .i64 ((gI D 10)+1))])
 (fun _=>none)) j))
 (fun _=>none)) j))))
 (fun _=>none)) j))))))))))))))))
 (fun _=>none)) j))))
 (ex 0 [.N (gN l 1),.I (gI l 2),.L (gL l 3),.LN (gLN l 4),.LL (gLL l 5),.I (gI l 6),.I (gI l 7),.N (gN l 8),.I (gI l 9)]))
 (ex 0 [.N (gN l 1),.I (gI l 2),.L (gL l 3),.LN (gLN l 4),.LL (gLL l 5),.I (gI l 6),.I (gI l 7),.N (gN l 8),.I (gI l 9)])
theorem L84_3.e1:LEq L84_3.O L84_3.H 1 L84_3.s1:=by intro τ next κ l;kernel_rfl
def L84_3:LStep P Cf:=LStep.mk2 (by decide) L84_3.e0 L84_3.e1
def L84_3.b:Option τ:=runE L84_3 fuel κ t l
def L84_3.E:LEnt P:=LStep.E L84_3
def S84_0.H:SHead:=⟨84,[(PV2.agg [iI,iI,(r1 0)]),pI,(rr 1)],[],mo5Xb,[((rr 1),mo5Xb),((PV2.v (PV1.sl PC0.e)),mo5Xb)]⟩
def S84_0.O:Orc P:=⟨[],[L84_3.E],[],40⟩
def S84_0:Option τ :=
 L84_3.b 0 [.I (gI l 3),.N (gN l 4),.I 0,.L (gL l 5),.LN (gLN l 6),.LL (gLL l 7),.I (gI l 0),.I (gI l 1),.N (gN l 2),.I 0]
 (fun j A=>(sw (ck (((((leI 0 (gI A 1))&&(leI (gI A 1) (gI A 1)))&&(leI (gI A 1) (gN A 0)))&&true)&&true)
 (br (ltI 0 (gI A 1))
 (k 0 [.N ((Int.toNat (gI A 1))-0),.L (gL A 2),.LN (gLN A 3),.LL (gLL A 4)])
 (k 1 [.N 0,.L (gL A 2),.LN (gLN A 3),.LL (gLL A 4)])))
 (fun _=>none)) j)
theorem S84_0.eq:SEq S84_0.O S84_0.H S84_0:=by intro τ l κ;kernel_rfl
def S84_0.next:SDyn P S84_0.H:=mkS S84_0.eq
def S84_0.E:SEnt P:=⟨S84_0.H,S84_0.next⟩
def L88_4.H:LHead:=⟨false,true,0,360452,360452,12307,16,0,[(PS.mk (qR::qR::us 2 (pB::us 7 (pI::pI::us 12 []))) [])],[(Out.ret,(PS.mk (us 4 (pB::us 21 [])) [])),((Out.exit 0),(PS.mk (us 4 (pB::us 21 [])) []))]⟩
def L88_4.O:Orc P:=⟨[],[],[],40⟩
def L88_4.s0:Option τ :=
 br (ltI (gI l 6) (gI l 5))
 (ck (((leI 0 (gI l 6))&&(ltI (gI l 6) (gN l 0)))&&true)
 (ck (ltN ((Int.toNat (gI l 6))*1) (List.length (gL l 1)))
 (ck (((leI 0 (gI l 6))&&(ltI (gI l 6) (gN l 2)))&&true)
 (ck (ltN ((Int.toNat (gI l 6))*1) (List.length (gL l 3)))
 (br ((List.getD (gL l 1) ((Int.toNat (gI l 6))*1) 0) != (List.getD (gL l 3) ((Int.toNat (gI l 6))*1) 0))
 (ex 0 [.B false])
 (nx 0 [.N (gN l 0),.L (gL l 1),.N (gN l 2),.L (gL l 3),.B (gB l 4),.I (gI l 5),.I (wr .i64 ((gI l 6)+1))]))))))
 (ex 1 [.B (gB l 4)])
theorem L88_4.e0:LEq L88_4.O L88_4.H 0 L88_4.s0:=by intro τ next κ l;kernel_rfl
def L88_4:LStep P Cf:=LStep.mk1 (by decide) L88_4.e0
def L88_4.b:Option τ:=runE L88_4 fuel κ t l
def L88_4.E:LEnt P:=LStep.E L88_4
def F88.ps:List PV2:=[pR,pR]
def F88.sh:List PA:=[(PA.mk (PV3.v pB) [])]
def F88.O:Orc P:=⟨[],[L88_4.E],[],40⟩
def F88:Option τ :=
 br ((((List.length (gL l 0)):Nat):Int) != (((List.length (gL l 1)):Nat):Int))
 (k 0 [.B false])
 (L88_4.b 0 [.N (List.length (gL l 0)),.L (gL l 0),.N (List.length (gL l 1)),.L (gL l 1),.B false,.I (((List.length (gL l 0)):Nat):Int),.I 0]
 (fun j A=>(sw (k 0 [.B (gB A 0)])
 (sw (k 0 [.B true])
 (fun _=>none))) j))
theorem F88.eq:FEq F88.O 88 F88.ps F88.sh F88:=by intro τ l κ;kernel_rfl
def F88.E:Ent P:=mkF F88.eq
def L86_4.H:LHead:=⟨false,false,2,352260,352260,229446,64,0,[(PS.mk (us 1 ((rr 0)::(PV2.fn 88 [])::us 3 (pB::us 8 (qM::pI::pI::us 14 [])))) [(PO.cells true true (PC.r 1)),(PO.fam true .i64)])],[(Out.ret,(PS.mk (us 6 (pB::us 25 [])) [(PO.cells true true (PC.r 1)),(PO.fam true .i64)])),((Out.exit 0),(PS.mk (us 6 (pB::us 25 [])) [(PO.cells true true (PC.r 1)),(PO.fam true .i64)]))]⟩
def L86_4.O:Orc P:=⟨[F88.E],[],[],40⟩
def L86_4.s0:Option τ :=
 br (ltI (gI l 5) (gI l 4))
 (ck (((leI 0 (gI l 5))&&(ltI (gI l 5) (gN l 2)))&&true)
 (ck (ltN ((Int.toNat (gI l 5))*1) (List.length (gLL l 3)))
 (ck (((leI 0 (gI l 5))&&(ltI (gI l 5) (gN l 0)))&&true)
 (ck ((ltN (0+((Int.toNat (gI l 5))*1)) (List.length (gLN l 6)))&&(ltN (List.getD (gLN l 6) (0+((Int.toNat (gI l 5))*1)) 0) (List.length (gLL l 7))))
 (ck (((ltN (List.getD (gLN l 6) (0+((Int.toNat (gI l 5))*1)) 0) (List.length (gLL l 7)))&&true)&&true)
 (ck ((eqM (List.length (List.getD (gLL l 3) ((Int.toNat (gI l 5))*1) [])) (List.length (List.getD (gLL l 3) ((Int.toNat (gI l 5))*1) [])))&&((eqM (List.length (List.getD (gLL l 7) (List.getD (gLN l 6) (0+((Int.toNat (gI l 5))*1)) 0) [])) (List.length (List.take ((List.length (List.getD (gLL l 7) (List.getD (gLN l 6) (0+((Int.toNat (gI l 5))*1)) 0) []))*1) (List.drop 0 (List.getD (gLL l 7) (List.getD (gLN l 6) (0+((Int.toNat (gI l 5))*1)) 0) [])))))&&true))
 (F88 [.L (List.getD (gLL l 3) ((Int.toNat (gI l 5))*1) []),.L (List.take ((List.length (List.getD (gLL l 7) (List.getD (gLN l 6) (0+((Int.toNat (gI l 5))*1)) 0) []))*1) (List.drop 0 (List.getD (gLL l 7) (List.getD (gLN l 6) (0+((Int.toNat (gI l 5))*1)) 0) [])))]
 (fun j A=>(sw (br (!(gB A 0))
 (ex 0 [.B false,.LN (gLN l 6),.LL (gLL l 7)])
 (nx 0 [.N (gN l 0),.B (gB l 1),.N (gN l 2),.LL (gLL l 3),.I (gI l 4),.I (wr .i64 ((gI l 5)+1)),.LN (gLN l 6),.LL (gLL l 7)]))
 (fun _=>none)) j))))))))
 (ex 1 [.B (gB l 1),.LN (gLN l 6),.LL (gLL l 7)])
theorem L86_4.e0:LEq L86_4.O L86_4.H 0 L86_4.s0:=by intro τ next κ l;kernel_rfl
def L86_4:LStep P Cf:=LStep.mk1 (by decide) L86_4.e0
def L86_4.b:Option τ:=runE L86_4 fuel κ t l
def L86_4.E:LEnt P:=LStep.E L86_4
def S86_0.H:SHead:=⟨86,[qM,(rr 0),(PV2.fn 88 [])],[],[(PO.cells true true (PC.r 1)),(PO.fam true .i64)],[(pB,[(PO.cells true true (PC.r 1)),(PO.fam true .i64)])]⟩
def S86_0.O:Orc P:=⟨[],[L86_4.E],[],40⟩
def S86_0:Option τ :=
 br ((((gN l 0):Nat):Int) != (((gN l 2):Nat):Int))
 (k 0 [.B false,.LN (gLN l 3),.LL (gLL l 4)])
 (L86_4.b 0 [.N (gN l 2),.B false,.N (gN l 0),.LL (gLL l 1),.I (gN l 0),.I 0,.LN (gLN l 3),.LL (gLL l 4)]
 (fun j A=>(sw (k 0 [.B (gB A 0),.LN (gLN A 1),.LL (gLL A 2)])
 (sw (k 0 [.B true,.LN (gLN A 1),.LL (gLL A 2)])
 (fun _=>none))) j))
theorem S86_0.eq:SEq S86_0.O S86_0.H S86_0:=by intro τ l κ;kernel_rfl
def S86_0.next:SDyn P S86_0.H:=mkS S86_0.eq
def S86_0.E:SEnt P:=⟨S86_0.H,S86_0.next⟩
def L86_4_1.H:LHead:=⟨false,false,0,352260,352260,229446,64,0,[(PS.mk (us 1 ((PV2.v (PV1.sl PC0.e))::(PV2.fn 88 [])::us 3 (pB::us 8 (qM::pI::pI::us 14 [])))) [])],[((Out.exit 0),(PS.mk (us 6 (pB::us 25 [])) []))]⟩
def L86_4_1.O:Orc P:=⟨[],[],[],40⟩
def L86_4_1.s0 {τ:Type} (next ex:Nat→LS_→Option τ) (l:LS_):Option τ :=
 br (ltI (gI l 5) (gI l 4))
 (ck (((leI 0 (gI l 5))&&(ltI (gI l 5) (gN l 2)))&&true)
 (ck (ltN ((Int.toNat (gI l 5))*1) (List.length (gLL l 3)))
 (ck (((leI 0 (gI l 5))&&(ltI (gI l 5) (gN l 0)))&&true)
 (none))))
 (ex 0 [.B (gB l 1)])
theorem L86_4_1.e0:LEq L86_4_1.O L86_4_1.H 0 L86_4_1.s0:=by intro τ next κ l;kernel_rfl
def L86_4_1:LStep P Cf:=LStep.mk1 (by decide) L86_4_1.e0
def L86_4_1.b:Option τ:=runE L86_4_1 fuel κ t l
def L86_4_1.E:LEnt P:=LStep.E L86_4_1
def S86_1.H:SHead:=⟨86,[qM,(PV2.v (PV1.sl PC0.e)),(PV2.fn 88 [])],[],[],[(pB,[])]⟩
def S86_1.O:Orc P:=⟨[],[L86_4_1.E],[],40⟩
def S86_1:Option τ :=
 br ((((gN l 0):Nat):Int) != (((gN l 2):Nat):Int))
 (k 0 [.B false])
 (L86_4_1.b 0 [.N (gN l 2),.B false,.N (gN l 0),.LL (gLL l 1),.I (gN l 0),.I 0]
 (fun j A=>(sw (k 0 [.B true])
 (fun _=>none)) j))
theorem S86_1.eq:SEq S86_1.O S86_1.H S86_1:=by intro τ l κ;kernel_rfl
def S86_1.next:SDyn P S86_1.H:=mkS S86_1.eq
def S86_1.E:SEnt P:=⟨S86_1.H,S86_1.next⟩
def F37.ps:List PV2:=[pCode]
def F37.sh:List PA:=[(PA.mk (PV3.v pB) [])]
def F37.O:Orc P:=⟨[F85.E],[],[S87_0.E,S84_0.E,S86_0.E,S86_1.E],40⟩
def F37:Option τ :=
 ck ((eqM (List.length (gLL l 2)) (List.length (gLL l 2)))&&true)
 (F85 [.I (gI l 0),.I (gI l 1),.I (gI l 1),.LL (gLL l 2)]
 (fun j A=>(sw (br (gB A 3)
 (S87_0 [.N (List.length (gLL l 2)),.LL (gLL l 2)]
 (fun j B=>(sw (S84_0 [.I (gI A 0),.I (gI A 1),.N (gN A 2),.I (gI l 1),.N (gN B 0),.L (gL A 4),.LN (gLN B 1),.LL (gLL B 2)]
 (fun j C=>(sw (S86_0 [.N (List.length (gLL l 2)),.LL (gLL l 2),.N (gN C 0),.LN (gLN C 2),.LL (gLL C 3)]
 (fun j D=>(sw (k 0 [.B (gB D 0)])
 (fun _=>none)) j))
 (sw (S86_1 [.N (List.length (gLL l 2)),.LL (gLL l 2),.N (gN C 0)]
 (fun j D=>(sw (k 0 [.B (gB D 0)])
 (fun _=>none)) j))
 (fun _=>none))) j))
 (fun _=>none)) j))
 (k 0 [.B false]))
 (sw (k 0 [.B false])
 (sw (k 0 [.B false])
 (fun _=>none)))) j))
theorem F37.eq:FEq F37.O 37 F37.ps F37.sh F37:=by intro τ l κ;kernel_rfl
def F37.E:Ent P:=mkF F37.eq
end
end Go.Proofs.Ytbpjicbpcfkpfaa.Ai
namespace Go.Proofs.Ytbpjicbpcfkpfaa.Ai
open Go Go.RowKit
noncomputable section
variable {τ:Type} (t:Nat) (nx ex:Nat→LS_→Option τ) (l:LS_) (k κ:Nat→LS_→Option τ)
def mo6Xc:List PO:=[(oG [pI,pI,qM]),(oG [qR,qR]),(oG [pI]),(oG [pI,pI,qM]),(oG [qR,qR]),oI,(oG [pI,pI,(rr 5)]),oB,(oG [pI,pI,qM,pI,pI,(rr 5),qR,(rr 7),nS])]
def mo7Xc:List PO:=[(oG [pI,pI,qM]),(oG [qR,qR]),(oG [pI]),(oG [pI,pI,qM]),(oG [qR,qR]),oI,(oG [pI,pI,(rr 5)]),oB,(oG [pI,pI,qM,pI,pI,(rr 5),qR,(rr 7),(rr 9)]),oI]
def mo8Xc:List PO:=[(oG [pI,pI,qM,pI,pI,(rr 2),qR,(rr 3),(rr 4)]),oI,oI,oB,oI]
def mo9Xc:List PO:=[oI,(oG [pI]),(oG [(pp 5)]),(oG [(PV2.fn 67 [(p1 6),(p1 7)])]),(oG [(PV2.fn 102 [(p1 1),(p1 2),(p1 3),(p1 4)])]),(oG [pI,pI,qM,pI,pI,(rr 8),qR,(rr 9),(rr 10)]),(oG [nS]),(oG [pI]),oI,oB,oI,oI]
def mo10Xc:List PO:=[oI,(oG [pI]),(oG [(pp 5)]),(oG [(PV2.fn 67 [(p1 6),(p1 7)])]),(oG [(PV2.fn 102 [(p1 1),(p1 2),(p1 3),(p1 4)])]),(oG [pI,pI,qM,pI,pI,(rr 8),qR,(rr 9),(rr 10)]),(oG [(rr 11)]),(oG [pI]),oI,oB,oI,oM,oI]
def mo11Xc:List PO:=[oI,(oG [pI]),(oG [(pp 5)]),(oG [(PV2.fn 67 [(p1 6),(p1 7)])]),(oG [(PV2.fn 102 [(p1 1),(p1 2),(p1 3),(p1 4)])]),(oG [pI,pI,qM,pI,pI,(rr 8),qR,(rr 9),(rr 10)]),(oG [(rr 12)]),(oG [pI]),oI,oB,oI,PO.dead,oM,oI]
def mo12Xc:List PO:=[oI,(oG [pI]),(oG [(pp 5)]),(oG [(PV2.fn 67 [(p1 6),(p1 7)])]),(oG [(PV2.fn 102 [(p1 1),(p1 2),(p1 3),(p1 4)])]),(oG [pI,pI,qM,pI,pI,(rr 8),qR,(rr 9),(rr 10)]),(oG [(rr 12)]),(oG [pI]),oI,oB,oI,PO.dead,oM]
def mo13Xc:List PO:=[oI,(oG [pI]),(oG [(pp 5)]),(oG [(PV2.fn 67 [(p1 6),(p1 7)])]),(oG [(PV2.fn 102 [(p1 1),(p1 2),(p1 3),(p1 4)])]),(oG [pI,pI,qM,pI,pI,(rr 8),qR,(rr 9),(rr 10)]),(oG [(rr 11)]),(oG [pI]),oI,oB,oI,oM]
def mo14Xc:List PO:=[oI,(oG [pI]),(oG [(pp 5)]),(oG [(PV2.fn 67 [(p1 6),(p1 7)])]),(oG [(PV2.fn 102 [(p1 1),(p1 2),(p1 3),(p1 4)])]),(oG [pI,pI,qM,pI,pI,(rr 8),qR,(rr 9),(rr 10)]),(oG [nS]),(oG [pI]),oI,oB,oI]
def mo15Xc:List PO:=[(oG [pI,pI,qM]),(oG [qR,qR]),(oG [pI,pI,nS,nS]),(oG [pI,pI,qM]),(oG [qR,qR]),oI,(oG [pI,pI,(rr 5)]),oB,(oG [pI,pI,qM,pI,pI,(rr 5),qR,(rr 7),nS])]
def mo16Xc:List PO:=[(oG [pI,pI,qM]),(oG [qR,qR]),(oG [pI,pI,nS,nS]),(oG [pI,pI,qM]),(oG [qR,qR]),oI,(oG [pI,pI,(rr 5)]),oB,(oG [pI,pI,qM,pI,pI,(rr 5),qR,(rr 7),(rr 9)]),oI]
def mo17Xc:List PO:=[oI,(oG [pI]),(oG [(pp 5)]),(oG [(PV2.fn 69 [(p1 6),(p1 7)])]),(oG [(PV2.fn 102 [(p1 1),(p1 2),(p1 3),(p1 4)])]),(oG [pI,pI,qM,pI,pI,(rr 8),qR,(rr 9),(rr 10)]),(oG [pI]),(oG [nS]),oI,oB,oI,oI]
def mo18Xc:List PO:=[oI,(oG [pI]),(oG [(pp 5)]),(oG [(PV2.fn 69 [(p1 6),(p1 7)])]),(oG [(PV2.fn 102 [(p1 1),(p1 2),(p1 3),(p1 4)])]),(oG [pI,pI,qM,pI,pI,(rr 8),qR,(rr 9),(rr 10)]),(oG [pI]),(oG [(rr 11)]),oI,oB,oI,oM,oI]
def mo19Xc:List PO:=[oI,(oG [pI]),(oG [(pp 5)]),(oG [(PV2.fn 69 [(p1 6),(p1 7)])]),(oG [(PV2.fn 102 [(p1 1),(p1 2),(p1 3),(p1 4)])]),(oG [pI,pI,qM,pI,pI,(rr 8),qR,(rr 9),(rr 10)]),(oG [pI]),(oG [(rr 12)]),oI,oB,oI,oM,oM,oI]
def mo20Xc:List PO:=[oI,(oG [pI]),(oG [(pp 5)]),(oG [(PV2.fn 69 [(p1 6),(p1 7)])]),(oG [(PV2.fn 102 [(p1 1),(p1 2),(p1 3),(p1 4)])]),(oG [pI,pI,qM,pI,pI,(rr 8),qR,(rr 9),(rr 10)]),(oG [pI]),(oG [(rr 12)]),oI,oB,oI,PO.dead,oM,oI]
def mo21Xc:List PO:=[oI,(oG [pI]),(oG [(pp 5)]),(oG [(PV2.fn 69 [(p1 6),(p1 7)])]),(oG [(PV2.fn 102 [(p1 1),(p1 2),(p1 3),(p1 4)])]),(oG [pI,pI,qM,pI,pI,(rr 8),qR,(rr 9),(rr 10)]),(oG [pI]),(oG [(rr 12)]),oI,oB,oI,PO.dead,oM]
def mo22Xc:List PO:=[oI,(oG [pI]),(oG [(pp 5)]),(oG [(PV2.fn 69 [(p1 6),(p1 7)])]),(oG [(PV2.fn 102 [(p1 1),(p1 2),(p1 3),(p1 4)])]),(oG [pI,pI,qM,pI,pI,(rr 8),qR,(rr 9),(rr 10)]),(oG [pI]),(oG [(rr 12)]),oI,oB,oI,oM,oM]
def mo23Xc:List PO:=[oI,(oG [pI]),(oG [(pp 5)]),(oG [(PV2.fn 69 [(p1 6),(p1 7)])]),(oG [(PV2.fn 102 [(p1 1),(p1 2),(p1 3),(p1 4)])]),(oG [pI,pI,qM,pI,pI,(rr 8),qR,(rr 9),(rr 10)]),(oG [pI]),(oG [(rr 11)]),oI,oB,oI,oM]
def mo24Xc:List PO:=[oI,(oG [pI]),(oG [(pp 5)]),(oG [(PV2.fn 69 [(p1 6),(p1 7)])]),(oG [(PV2.fn 102 [(p1 1),(p1 2),(p1 3),(p1 4)])]),(oG [pI,pI,qM,pI,pI,(rr 8),qR,(rr 9),(rr 10)]),(oG [pI]),(oG [nS]),oI,oB,oI]
def mo25Xc:List PO:=[(oG [pI,pI,qM,pI,pI,(rr 1),qR,(rr 2),(rr 3)]),oI,oB,oI]
def L100_2_1.H:LHead:=⟨false,false,1,409602,409602,403,16,0,[(PS.mk (qR::(PV2.fn 124 [(p1 0)])::us 2 (pI::us 2 (pI::pI::us 10 []))) [(oG [pI,pI,qM])])],[(Out.ret,(PS.mk (us 4 (pI::us 14 [])) [(oG [pI,pI,qM])])),((Out.exit 0),(PS.mk (us 4 (pI::us 14 [])) [(oG [pI,pI,qM])]))]⟩
def L100_2_1.O:Orc P:=⟨[],[],[],40⟩
def L100_2_1.s0:Option τ :=
 br (ltI (gI l 4) (gI l 3))
 (ck (((leI 0 (gI l 4))&&(ltI (gI l 4) (gN l 0)))&&true)
 (ck (ltN ((Int.toNat (gI l 4))*1) (List.length (gL l 1)))
 (br (ltI (List.getD (gL l 1) ((Int.toNat (gI l 4))*1) 0) 0)
 (ex 0 [.I (gI l 4),.I (gI l 5),.I (gI l 6),.N (gN l 7),.LL (gLL l 8)])
 (br (geI (List.getD (gL l 1) ((Int.toNat (gI l 4))*1) 0) (gI l 5))
 (ex 0 [.I (gI l 4),.I (gI l 5),.I (gI l 6),.N (gN l 7),.LL (gLL l 8)])
 (nx 0 [.N (gN l 0),.L (gL l 1),.I (gI l 2),.I (gI l 3),.I (wr .i64 ((gI l 4)+1)),.I (gI l 5),.I (gI l 6),.N (gN l 7),.LL (gLL l 8)])))))
 (ex 1 [.I (gI l 2),.I (gI l 5),.I (gI l 6),.N (gN l 7),.LL (gLL l 8)])
theorem L100_2_1.e0:LEq L100_2_1.O L100_2_1.H 0 L100_2_1.s0:=by intro τ next κ l;kernel_rfl
def L100_2_1:LStep P Cf:=LStep.mk1 (by decide) L100_2_1.e0
def L100_2_1.b:Option τ:=runE L100_2_1 fuel κ t l
def L100_2_1.E:LEnt P:=LStep.E L100_2_1
def S100_1.H:SHead:=⟨100,[qR,(PV2.fn 124 [(p1 0)])],[],[(oG [pI,pI,qM])],[(pI,[(oG [pI,pI,qM])])]⟩
def S100_1.O:Orc P:=⟨[],[L100_2_1.E],[],40⟩
def S100_1:Option τ :=
 L100_2_1.b 0 [.N (gN l 0),.L (gL l 1),.I 0,.I (gN l 0),.I 0,.I (gI l 2),.I (gI l 3),.N (gN l 4),.LL (gLL l 5)]
 (fun j A=>(sw (k 0 [.I (gI A 0),.I (gI A 1),.I (gI A 2),.N (gN A 3),.LL (gLL A 4)])
 (sw (k 0 [.I (-1),.I (gI A 1),.I (gI A 2),.N (gN A 3),.LL (gLL A 4)])
 (fun _=>none))) j)
theorem S100_1.eq:SEq S100_1.O S100_1.H S100_1:=by intro τ l κ;kernel_rfl
def S100_1.next:SDyn P S100_1.H:=mkS S100_1.eq
def S100_1.E:SEnt P:=⟨S100_1.H,S100_1.next⟩
def S122_1.H:SHead:=⟨122,[qR,(PV2.fn 124 [(p1 0)])],[],[(oG [pI,pI,qM])],[(pB,[(oG [pI,pI,qM])])]⟩
def S122_1.O:Orc P:=⟨[],[],[S100_1.E],40⟩
def S122_1:Option τ :=
 S100_1 [.N (gN l 0),.L (gL l 1),.I (gI l 2),.I (gI l 3),.N (gN l 4),.LL (gLL l 5)]
 (fun j A=>(sw (k 0 [.B (geI (gI A 0) 0),.I (gI A 1),.I (gI A 2),.N (gN A 3),.LL (gLL A 4)])
 (fun _=>none)) j)
theorem S122_1.eq:SEq S122_1.O S122_1.H S122_1:=by intro τ l κ;kernel_rfl
def S122_1.next:SDyn P S122_1.H:=mkS S122_1.eq
def S122_1.E:SEnt P:=⟨S122_1.H,S122_1.next⟩
def L98_4.H:LHead:=⟨false,true,0,401412,401412,7340060,16,0,[(PS.mk (us 2 ((pp 0)::(pp 1)::pB::us 15 (qR::pI::pI::us 27 []))) [(oG [pI,pI,qM]),(oG [qR,qR])])],[(Out.ret,(PS.mk (us 4 (pB::us 45 [])) [])),((Out.exit 0),(PS.mk (us 4 (pB::us 45 [])) []))]⟩
def L98_4.O:Orc P:=⟨[],[],[],40⟩
def L98_4.s0:Option τ :=
 br (ltI (gI l 4) (gI l 3))
 (ck (((leI 0 (gI l 4))&&(ltI (gI l 4) (gN l 1)))&&true)
 (ck (ltN ((Int.toNat (gI l 4))*1) (List.length (gL l 2)))
 (br (ltI (List.getD (gL l 2) ((Int.toNat (gI l 4))*1) 0) 0)
 (ex 0 [.B false])
 (br (geI (List.getD (gL l 2) ((Int.toNat (gI l 4))*1) 0) (gI l 6))
 (ex 0 [.B false])
 (br (gtI (gI l 4) 0)
 (ck (((leI 0 (wr .i64 ((gI l 4)-1)))&&(ltI (wr .i64 ((gI l 4)-1)) (((gN l 11):Nat):Int)))&&true)
 (ck (ltN ((Int.toNat (wr .i64 ((gI l 4)-1)))*1) (List.length (gL l 12)))
 (br (leI (List.getD (gL l 2) ((Int.toNat (gI l 4))*1) 0) (List.getD (gL l 12) ((Int.toNat (wr .i64 ((gI l 4)-1)))*1) 0))
 (ex 0 [.B false])
 (nx 0 [.B (gB l 0),.N (gN l 1),.L (gL l 2),.I (gI l 3),.I (wr .i64 ((gI l 4)+1)),.I (gI l 5),.I (gI l 6),.N (gN l 7),.LL (gLL l 8),.N (gN l 9),.L (gL l 10),.N (gN l 11),.L (gL l 12)]))))
 (nx 0 [.B (gB l 0),.N (gN l 1),.L (gL l 2),.I (gI l 3),.I (wr .i64 ((gI l 4)+1)),.I (gI l 5),.I (gI l 6),.N (gN l 7),.LL (gLL l 8),.N (gN l 9),.L (gL l 10),.N (gN l 11),.L (gL l 12)]))))))
 (ex 1 [.B (gB l 0)])
theorem L98_4.e0:LEq L98_4.O L98_4.H 0 L98_4.s0:=by intro τ next κ l;kernel_rfl
def L98_4:LStep P Cf:=LStep.mk1 (by decide) L98_4.e0
def L98_4.b:Option τ:=runE L98_4 fuel κ t l
def L98_4.E:LEnt P:=LStep.E L98_4
def F98.ps:List PV2:=[(PV2.agg [iI,iI,aM]),(PV2.agg [aI,aI])]
def F98.sh:List PA:=[(PA.mk (PV3.v pB) [])]
def F98.O:Orc P:=⟨[],[L98_4.E],[S122_1.E],40⟩
def F98:Option τ :=
 br ((((List.length (gL l 3)):Nat):Int) != (gI l 1))
 (k 0 [.B false])
 (S122_1 [.N (List.length (gL l 3)),.L (gL l 3),.I (gI l 0),.I (gI l 1),.N (List.length (gLL l 2)),.LL (gLL l 2)]
 (fun j A=>(sw (br (gB A 0)
 (k 0 [.B false])
 (L98_4.b 0 [.B false,.N (List.length (gL l 4)),.L (gL l 4),.I (((List.length (gL l 4)):Nat):Int),.I 0,.I (gI A 1),.I (gI A 2),.N (gN A 3),.LL (gLL A 4),.N (List.length (gL l 3)),.L (gL l 3),.N (List.length (gL l 4)),.L (gL l 4)]
 (fun j B=>(sw (k 0 [.B (gB B 0)])
 (sw (k 0 [.B true])
 (fun _=>none))) j)))
 (fun _=>none)) j))
theorem F98.eq:FEq F98.O 98 F98.ps F98.sh F98:=by intro τ l κ;kernel_rfl
def F98.E:Ent P:=mkF F98.eq
def L48_3.H:LHead:=⟨false,true,0,196611,196611,206,12,0,[(PS.mk (us 1 ((pp 0)::pI::pI::us 2 (pI::pI::us 13 []))) [(oG [pI,pI,qM])])],[(Out.ret,(PS.mk (us 2 (pI::pI::us 17 [])) [])),((Out.exit 0),(PS.mk (us 2 (pI::pI::us 17 [])) []))]⟩
def L48_3.O:Orc P:=⟨[],[],[],40⟩
def L48_3.s0:Option τ :=
 br (ltI (gI l 3) (gI l 2))
 (br (gtI (wr .i64 ((gI l 1)*(gI l 4))) 4096)
 (ex 0 [.I 4097,.I (wr .i64 ((gI l 1)*(gI l 4)))])
 (br (ltI (wr .i64 ((gI l 1)*(gI l 4))) 1)
 (ex 0 [.I 4097,.I (wr .i64 ((gI l 1)*(gI l 4)))])
 (nx 0 [.I (gI l 0),.I (wr .i64 ((gI l 1)*(gI l 4))),.I (gI l 2),.I (wr .i64 ((gI l 3)+1)),.I (gI l 4),.I (gI l 5),.N (gN l 6),.LL (gLL l 7)])))
 (ex 1 [.I (gI l 0),.I (gI l 1)])
theorem L48_3.e0:LEq L48_3.O L48_3.H 0 L48_3.s0:=by intro τ next κ l;kernel_rfl
def L48_3:LStep P Cf:=LStep.mk1 (by decide) L48_3.e0
def L48_3.b:Option τ:=runE L48_3 fuel κ t l
def L48_3.E:LEnt P:=LStep.E L48_3
def F48.ps:List PV2:=[(PV2.agg [iI,iI,aM])]
def F48.sh:List PA:=[(PA.mk (PV3.v pI) [])]
def F48.O:Orc P:=⟨[],[L48_3.E],[],40⟩
def F48:Option τ :=
 L48_3.b 0 [.I 0,.I 1,.I (((List.length (gLL l 2)):Nat):Int),.I 0,.I (gI l 0),.I (gI l 1),.N (List.length (gLL l 2)),.LL (gLL l 2)]
 (fun j A=>(sw (k 0 [.I (gI A 0)])
 (sw (k 0 [.I (gI A 1)])
 (fun _=>none))) j)
theorem F48.eq:FEq F48.O 48 F48.ps F48.sh F48:=by intro τ l κ;kernel_rfl
def F48.E:Ent P:=mkF F48.eq
def L65_10.H:LHead:=⟨false,false,9,266250,266250,246290604622084,260,0,[(PS.mk (us 2 ((pp 3)::us 5 ((pp 8)::us 36 (qR::pI::pI::us 41 [])))) mo6Xc)],[((Out.exit 1),(PS.mk (us 2 ((pp 3)::us 5 ((pp 8)::us 80 []))) mo6Xc))]⟩
def L65_10.O:Orc P:=⟨[],[],[],40⟩
def L65_10.s0:Option τ :=
 br (ltI (gI l 3) (gI l 2))
 (ck (((leI 0 (gI l 3))&&(ltI (gI l 3) (gN l 0)))&&true)
 (ck (ltN ((Int.toNat (gI l 3))*1) (List.length (gL l 1)))
 (ck (((leI 0 (List.getD (gL l 1) ((Int.toNat (gI l 3))*1) 0))&&(ltI (List.getD (gL l 1) ((Int.toNat (gI l 3))*1) 0) (((gN l 35):Nat):Int)))&&true)
 (ck ((leN ((0+((Int.toNat (List.getD (gL l 1) ((Int.toNat (gI l 3))*1) 0))*1))+1) (List.length (gLB l 25)))&&true)
 (nx 0 [.N (gN l 0),.L (gL l 1),.I (gI l 2),.I (wr .i64 ((gI l 3)+1)),.I (gI l 4),.I (gI l 5),.N (gN l 6),.LL (gLL l 7),.N (gN l 8),.L (gL l 9),.N (gN l 10),.L (gL l 11),.I (gI l 12),.I (gI l 13),.I (gI l 14),.N (gN l 15),.LL (gLL l 16),.N (gN l 17),.L (gL l 18),.N (gN l 19),.L (gL l 20),.L (gL l 21),.I (gI l 22),.I (gI l 23),.N (gN l 24),.LB (List.set (gLB l 25) (0+((Int.toNat (List.getD (gL l 1) ((Int.toNat (gI l 3))*1) 0))*1)) true),.I (gI l 26),.I (gI l 27),.N (gN l 28),.LL (gLL l 29),.I (gI l 30),.I (gI l 31),.N (gN l 32),.N (gN l 33),.L (gL l 34),.N (gN l 35)])))))
 (ex 0 [.I (gI l 4),.I (gI l 5),.N (gN l 6),.LL (gLL l 7),.N (gN l 8),.L (gL l 9),.N (gN l 10),.L (gL l 11),.I (gI l 12),.I (gI l 13),.I (gI l 14),.N (gN l 15),.LL (gLL l 16),.N (gN l 17),.L (gL l 18),.N (gN l 19),.L (gL l 20),.L (gL l 21),.I (gI l 22),.I (gI l 23),.N (gN l 24),.LB (gLB l 25),.I (gI l 26),.I (gI l 27),.N (gN l 28),.LL (gLL l 29),.I (gI l 30),.I (gI l 31),.N (gN l 32),.N (gN l 33),.L (gL l 34),.N (gN l 35)])
theorem L65_10.e0:LEq L65_10.O L65_10.H 0 L65_10.s0:=by intro τ next κ l;kernel_rfl
def L65_10:LStep P Cf:=LStep.mk1 (by decide) L65_10.e0
def L65_10.b:Option τ:=runE L65_10 fuel κ t l
def L65_10.E:LEnt P:=LStep.E L65_10
def F101.ps:List PV2:=[pI]
def F101.sh:List PA:=[(PA.mk (PV3.v pB) [])]
def F101.O:Orc P:=⟨[],[],[],40⟩
def F101:Option τ :=
 k 0 [.B ((gI l 0) != 0)]
theorem F101.eq:FEq F101.O 101 F101.ps F101.sh F101:=by intro τ l κ;kernel_rfl
def F101.E:Ent P:=mkF F101.eq
def L100_2_2.H:LHead:=⟨false,false,0,409602,409602,403,16,0,[(PS.mk (qR::(PV2.fn 101 [])::us 2 (pI::us 2 (pI::pI::us 10 []))) [])],[(Out.ret,(PS.mk (us 4 (pI::us 14 [])) [])),((Out.exit 0),(PS.mk (us 4 (pI::us 14 [])) []))]⟩
def L100_2_2.O:Orc P:=⟨[F101.E],[],[],40⟩
def L100_2_2.s0:Option τ :=
 br (ltI (gI l 4) (gI l 3))
 (ck (((leI 0 (gI l 4))&&(ltI (gI l 4) (gN l 0)))&&true)
 (ck (ltN ((Int.toNat (gI l 4))*1) (List.length (gL l 1)))
 (F101 [.I (List.getD (gL l 1) ((Int.toNat (gI l 4))*1) 0)]
 (fun j A=>(sw (br (gB A 0)
 (ex 0 [.I (gI l 4)])
 (nx 0 [.N (gN l 0),.L (gL l 1),.I (gI l 2),.I (gI l 3),.I (wr .i64 ((gI l 4)+1))]))
 (fun _=>none)) j))))
 (ex 1 [.I (gI l 2)])
theorem L100_2_2.e0:LEq L100_2_2.O L100_2_2.H 0 L100_2_2.s0:=by intro τ next κ l;kernel_rfl
def L100_2_2:LStep P Cf:=LStep.mk1 (by decide) L100_2_2.e0
def L100_2_2.b:Option τ:=runE L100_2_2 fuel κ t l
def L100_2_2.E:LEnt P:=LStep.E L100_2_2
def S100_2.H:SHead:=⟨100,[qR,(PV2.fn 101 [])],[],[],[(pI,[])]⟩
def S100_2.O:Orc P:=⟨[],[L100_2_2.E],[],40⟩
def S100_2:Option τ :=
 L100_2_2.b 0 [.N (gN l 0),.L (gL l 1),.I 0,.I (gN l 0),.I 0]
 (fun j A=>(sw (k 0 [.I (gI A 0)])
 (sw (k 0 [.I (-1)])
 (fun _=>none))) j)
theorem S100_2.eq:SEq S100_2.O S100_2.H S100_2:=by intro τ l κ;kernel_rfl
def S100_2.next:SDyn P S100_2.H:=mkS S100_2.eq
def S100_2.E:SEnt P:=⟨S100_2.H,S100_2.next⟩
def L65_15.H:LHead:=⟨false,false,9,266255,266255,4035225266123964676,260,0,[(PS.mk (us 2 ((pp 3)::us 5 ((pp 8)::us 50 (qM::pI::pI::us 27 [])))) mo6Xc),(PS.mk (us 2 ((pp 3)::us 5 ((pp 8)::us 50 (qM::pI::pI::us 27 [])))) mo7Xc)],[((Out.exit 3),(PS.mk (us 2 ((pp 3)::us 5 ((pp 8)::us 80 []))) mo6Xc)),((Out.exit 3),(PS.mk (us 2 ((pp 3)::us 5 ((pp 8)::us 80 []))) mo7Xc))]⟩
def L65_15.O:Orc P:=⟨[],[],[S100_2.E],40⟩
def L65_15.s0:Option τ :=
 br (ltI (gI l 3) (gI l 2))
 (ck (((leI 0 (gI l 3))&&(ltI (gI l 3) (gN l 0)))&&true)
 (ck (ltN ((Int.toNat (gI l 3))*1) (List.length (gLL l 1)))
 (S100_2 [.N (List.length (List.getD (gLL l 1) ((Int.toNat (gI l 3))*1) [])),.L (List.getD (gLL l 1) ((Int.toNat (gI l 3))*1) [])]
 (fun j A=>(sw (nx 1 [.N (gN l 0),.LL (gLL l 1),.I (gI l 2),.I (wr .i64 ((gI l 3)+1)),.I (gI l 4),.I (gI l 5),.N (gN l 6),.LL (gLL l 7),.N (gN l 8),.L (gL l 9),.N (gN l 10),.L (gL l 11),.I (gI l 12),.I (gI l 13),.I (gI l 14),.N (gN l 15),.LL (gLL l 16),.N (gN l 17),.L (gL l 18),.N (gN l 19),.L (gL l 20),.L (gL l 21),.I (gI l 22),.I (gI l 23),.N (gN l 24),.LB (gLB l 25),.I (gI l 26),.I (gI l 27),.N (gN l 28),.LL (gLL l 29),.I (gI l 30),.I (gI l 31),.N (gN l 32),.N (gN l 33),.L (gL l 34),.N (gN l 35),.N 1,.L (List.take 1 (List.drop 0 [(gI A 0)]))])
 (fun _=>none)) j))))
 (ex 0 [.I (gI l 4),.I (gI l 5),.N (gN l 6),.LL (gLL l 7),.N (gN l 8),.L (gL l 9),.N (gN l 10),.L (gL l 11),.I (gI l 12),.I (gI l 13),.I (gI l 14),.N (gN l 15),.LL (gLL l 16),.N (gN l 17),.L (gL l 18),.N (gN l 19),.L (gL l 20),.L (gL l 21),.I (gI l 22),.I (gI l 23),.N (gN l 24),.LB (gLB l 25),.I (gI l 26),.I (gI l 27),.N (gN l 28),.LL (gLL l 29),.I (gI l 30),.I (gI l 31),.N (gN l 32),.N (gN l 33),.L (gL l 34),.N (gN l 35)])
theorem L65_15.e0:LEq L65_15.O L65_15.H 0 L65_15.s0:=by intro τ next κ l;kernel_rfl
def L65_15.s1:Option τ :=
 br (ltI (gI l 3) (gI l 2))
 (ck (((leI 0 (gI l 3))&&(ltI (gI l 3) (gN l 0)))&&true)
 (ck (ltN ((Int.toNat (gI l 3))*1) (List.length (gLL l 1)))
 (S100_2 [.N (List.length (List.getD (gLL l 1) ((Int.toNat (gI l 3))*1) [])),.L (List.getD (gLL l 1) ((Int.toNat (gI l 3))*1) [])]
 (fun j A=>(sw (ck (((((eqM (List.length (gL l 37)) ((gN l 36)*1))&&true)&&(eqM 1 1))&&(leN (((gN l 36)+1)*9) 1099511627776))&&true)
 (nx 1 [.N (gN l 0),.LL (gLL l 1),.I (gI l 2),.I (wr .i64 ((gI l 3)+1)),.I (gI l 4),.I (gI l 5),.N (gN l 6),.LL (gLL l 7),.N (gN l 8),.L (gL l 9),.N (gN l 10),.L (gL l 11),.I (gI l 12),.I (gI l 13),.I (gI l 14),.N (gN l 15),.LL (gLL l 16),.N (gN l 17),.L (gL l 18),.N (gN l 19),.L (gL l 20),.L (gL l 21),.I (gI l 22),.I (gI l 23),.N (gN l 24),.LB (gLB l 25),.I (gI l 26),.I (gI l 27),.N (gN l 28),.LL (gLL l 29),.I (gI l 30),.I (gI l 31),.N (gN l 32),.N (gN l 33),.L (gL l 34),.N (gN l 35),.N ((gN l 36)+1),.L ((gL l 37)++(List.take 1 (List.drop 0 [(gI A 0)])))]))
 (fun _=>none)) j))))
 (ex 1 [.I (gI l 4),.I (gI l 5),.N (gN l 6),.LL (gLL l 7),.N (gN l 8),.L (gL l 9),.N (gN l 10),.L (gL l 11),.I (gI l 12),.I (gI l 13),.I (gI l 14),.N (gN l 15),.LL (gLL l 16),.N (gN l 17),.L (gL l 18),.N (gN l 19),.L (gL l 20),.L (gL l 21),.I (gI l 22),.I (gI l 23),.N (gN l 24),.LB (gLB l 25),.I (gI l 26),.I (gI l 27),.N (gN l 28),.LL (gLL l 29),.I (gI l 30),.I (gI l 31),.N (gN l 32),.N (gN l 33),.L (gL l 34),.N (gN l 35),.N (gN l 36),.L (gL l 37)])
theorem L65_15.e1:LEq L65_15.O L65_15.H 1 L65_15.s1:=by intro τ next κ l;kernel_rfl
def L65_15:LStep P Cf:=LStep.mk2 (by decide) L65_15.e0 L65_15.e1
def L65_15.b:Option τ:=runE L65_15 fuel κ t l
def L65_15.E:LEnt P:=LStep.E L65_15
def L70_3.H:LHead:=⟨false,false,5,286723,286723,459269,512,0,[(PS.mk ((pp 0)::us 1 (pI::us 6 (pI::us 6 ((PV2.v (PV1.ref 1 (some 0) none none 1))::pI::pI::us 31 [])))) mo8Xc)],[((Out.exit 0),(PS.mk (us 9 (pI::us 40 [])) mo8Xc))]⟩
def L70_3.O:Orc P:=⟨[],[],[],40⟩
def L70_3.s0:Option τ :=
 br (ltI (gI l 5) (gI l 4))
 (ck (((leI 0 (gI l 5))&&(ltI (gI l 5) (gN l 3)))&&true)
 (ck (ltN ((gN l 2)+((Int.toNat (gI l 5))*1)) (List.length (gL l 17)))
 (ck (((leI 0 (wr .i64 ((gI l 0)+(gI l 5))))&&(ltI (wr .i64 ((gI l 0)+(gI l 5))) (((gN l 15):Nat):Int)))&&true)
 (ck (ltN (0+((Int.toNat (wr .i64 ((gI l 0)+(gI l 5))))*1)) (List.length (gLB l 19)))
 (br (!(List.getD (gLB l 19) (0+((Int.toNat (wr .i64 ((gI l 0)+(gI l 5))))*1)) false))
 (ck (((leI 0 (wr .i64 ((gI l 0)+(gI l 5))))&&(ltI (wr .i64 ((gI l 0)+(gI l 5))) (((gN l 13):Nat):Int)))&&true)
 (ck (ltN ((Int.toNat (wr .i64 ((gI l 0)+(gI l 5))))*1) (List.length (gL l 14)))
 (br ((List.getD (gL l 17) ((gN l 2)+((Int.toNat (gI l 5))*1)) 0) != (List.getD (gL l 14) ((Int.toNat (wr .i64 ((gI l 0)+(gI l 5))))*1) 0))
 (nx 0 [.I (gI l 0),.I (wr .i64 ((gI l 1)+1)),.N (gN l 2),.N (gN l 3),.I (gI l 4),.I (wr .i64 ((gI l 5)+1)),.I (gI l 6),.I (gI l 7),.N (gN l 8),.LL (gLL l 9),.I (gI l 10),.I (gI l 11),.N (gN l 12),.N (gN l 13),.L (gL l 14),.N (gN l 15),.N (gN l 16),.L (gL l 17),.L (gL l 18),.LB (gLB l 19),.L (gL l 20)])
 (nx 0 [.I (gI l 0),.I (gI l 1),.N (gN l 2),.N (gN l 3),.I (gI l 4),.I (wr .i64 ((gI l 5)+1)),.I (gI l 6),.I (gI l 7),.N (gN l 8),.LL (gLL l 9),.I (gI l 10),.I (gI l 11),.N (gN l 12),.N (gN l 13),.L (gL l 14),.N (gN l 15),.N (gN l 16),.L (gL l 17),.L (gL l 18),.LB (gLB l 19),.L (gL l 20)]))))
 (nx 0 [.I (gI l 0),.I (gI l 1),.N (gN l 2),.N (gN l 3),.I (gI l 4),.I (wr .i64 ((gI l 5)+1)),.I (gI l 6),.I (gI l 7),.N (gN l 8),.LL (gLL l 9),.I (gI l 10),.I (gI l 11),.N (gN l 12),.N (gN l 13),.L (gL l 14),.N (gN l 15),.N (gN l 16),.L (gL l 17),.L (gL l 18),.LB (gLB l 19),.L (gL l 20)]))))))
 (ex 0 [.I (gI l 1),.I (gI l 6),.I (gI l 7),.N (gN l 8),.LL (gLL l 9),.I (gI l 10),.I (gI l 11),.N (gN l 12),.N (gN l 13),.L (gL l 14),.N (gN l 15),.N (gN l 16),.L (gL l 17),.L (gL l 18),.LB (gLB l 19),.L (gL l 20)])
theorem L70_3.e0:LEq L70_3.O L70_3.H 0 L70_3.s0:=by intro τ next κ l;kernel_rfl
def L70_3:LStep P Cf:=LStep.mk1 (by decide) L70_3.e0
def L70_3.b:Option τ:=runE L70_3 fuel κ t l
def L70_3.E:LEnt P:=LStep.E L70_3
def L70_3_1.H:LHead:=⟨false,false,5,286723,286723,459269,512,0,[(PS.mk ((pp 0)::us 1 (pI::us 6 (pI::us 6 ((PV2.v (PV1.sl PC0.e))::pI::pI::us 31 [])))) mo8Xc)],[((Out.exit 0),(PS.mk (us 9 (pI::us 40 [])) mo8Xc))]⟩
def L70_3_1.O:Orc P:=⟨[],[],[],40⟩
def L70_3_1.s0 {τ:Type} (next ex:Nat→LS_→Option τ) (l:LS_):Option τ :=
 br (ltI (gI l 4) (gI l 3))
 (ck (((leI 0 (gI l 4))&&(ltI (gI l 4) (gN l 2)))&&true)
 (none))
 (ex 0 [.I (gI l 1),.I (gI l 5),.I (gI l 6),.N (gN l 7),.LL (gLL l 8),.I (gI l 9),.I (gI l 10),.N (gN l 11),.N (gN l 12),.L (gL l 13),.N (gN l 14),.N (gN l 15),.L (gL l 16),.L (gL l 17),.LB (gLB l 18),.L (gL l 19)])
theorem L70_3_1.e0:LEq L70_3_1.O L70_3_1.H 0 L70_3_1.s0:=by intro τ next κ l;kernel_rfl
def L70_3_1:LStep P Cf:=LStep.mk1 (by decide) L70_3_1.e0
def L70_3_1.b:Option τ:=runE L70_3_1 fuel κ t l
def L70_3_1.E:LEnt P:=LStep.E L70_3_1
def S70_0.H:SHead:=⟨70,[(pp 0),(rr 1),pI,pI],[],mo8Xc,[(pI,mo8Xc)]⟩
def S70_0.O:Orc P:=⟨[],[L70_3.E,L70_3_1.E],[],40⟩
def S70_0:Option τ :=
 ck ((((((leI 0 (gI l 1))&&(leI (gI l 1) (gI l 2)))&&(leI (gI l 2) (gI l 2)))&&(leI (gI l 2) (gN l 0)))&&true)&&true)
 (br (ltI (gI l 1) (gI l 2))
 (L70_3.b 0 [.I (gI l 1),.I 0,.N (0+((Int.toNat (gI l 1))*1)),.N ((Int.toNat (gI l 2))-(Int.toNat (gI l 1))),.I ((((Int.toNat (gI l 2))-(Int.toNat (gI l 1))):Nat):Int),.I 0,.I (gI l 3),.I (gI l 4),.N (gN l 5),.LL (gLL l 6),.I (gI l 7),.I (gI l 8),.N (gN l 9),.N (gN l 10),.L (gL l 11),.N (gN l 12),.N (gN l 13),.L (gL l 14),.L (gL l 15),.LB (gLB l 16),.L (gL l 17)]
 (fun j A=>(sw (k 0 [.I (gI A 0),.I (gI A 1),.I (gI A 2),.N (gN A 3),.LL (gLL A 4),.I (gI A 5),.I (gI A 6),.N (gN A 7),.N (gN A 8),.L (gL A 9),.N (gN A 10),.N (gN A 11),.L (gL A 12),.L (gL A 13),.LB (gLB A 14),.L (gL A 15)])
 (fun _=>none)) j))
 (L70_3_1.b 0 [.I (gI l 1),.I 0,.N 0,.I 0,.I 0,.I (gI l 3),.I (gI l 4),.N (gN l 5),.LL (gLL l 6),.I (gI l 7),.I (gI l 8),.N (gN l 9),.N (gN l 10),.L (gL l 11),.N (gN l 12),.N (gN l 13),.L (gL l 14),.L (gL l 15),.LB (gLB l 16),.L (gL l 17)]
 (fun j A=>(sw (k 0 [.I (gI A 0),.I (gI A 1),.I (gI A 2),.N (gN A 3),.LL (gLL A 4),.I (gI A 5),.I (gI A 6),.N (gN A 7),.N (gN A 8),.L (gL A 9),.N (gN A 10),.N (gN A 11),.L (gL A 12),.L (gL A 13),.LB (gLB A 14),.L (gL A 15)])
 (fun _=>none)) j)))
theorem S70_0.eq:SEq S70_0.O S70_0.H S70_0:=by intro τ l κ;kernel_rfl
def S70_0.next:SDyn P S70_0.H:=mkS S70_0.eq
def S70_0.E:SEnt P:=⟨S70_0.H,S70_0.next⟩
def F71.ps:List PV2:=[pR]
def F71.sh:List PA:=[(PA.mk (PV3.v (rr 0)) [cI])]
def F71.O:Orc P:=⟨[],[],[],40⟩
def F71:Option τ :=
 ck (ltN 0 (List.length (gL l 0)))
 (ck (((eqM (List.length (gL l 0)) ((List.length (gL l 0))*1))&&(leN ((0+(List.length (gL l 0)))*9) 1099511627776))&&true)
 (k 0 [.N (0+(List.length (gL l 0))),.L ([]++(gL l 0))]))
theorem F71.eq:FEq F71.O 71 F71.ps F71.sh F71:=by intro τ l κ;kernel_rfl
def F71.E:Ent P:=mkF F71.eq
def L102_8.H:LHead:=⟨false,false,12,417800,417800,492606979050583,25769805911,0,[(PS.mk (pI::pI::(rr 0)::us 1 ((pp 2)::us 1 ((pp 4)::us 3 (pI::(rr 11)::us 21 (pI::pI::us 11 (qR::pI::pI::us 50 [])))))) mo9Xc)],[((Out.exit 2),(PS.mk (pI::pI::(rr 0)::us 1 ((pp 2)::us 1 ((pp 4)::us 4 ((rr 11)::us 21 (pI::pI::us 64 []))))) mo9Xc))]⟩
def L102_8.O:Orc P:=⟨[T104.E,T103.E],[],[],40⟩
def L102_8.s0:Option τ :=
 br (ltI (gI l 10) (gI l 9))
 (ck (((leI 0 (gI l 10))&&(ltI (gI l 10) (gN l 7)))&&true)
 (ck (ltN ((Int.toNat (gI l 10))*1) (List.length (gL l 8)))
 (ck (((leI 0 (gI l 10))&&(ltI (gI l 10) (gN l 4)))&&true)
 (ck (ltN (0+((Int.toNat (gI l 10))*1)) (List.length (gL l 28)))
 (ck (((eqM (gN l 19) (List.length (List.take ((gN l 19)*1) (List.drop 0 (gL l 25)))))&&true)&&true)
 (T104 [.I (gI l 17),.I (gI l 18),.L (List.take ((gN l 19)*1) (List.drop 0 (gL l 25))),.I (gI l 3),.I (List.getD (gL l 8) ((Int.toNat (gI l 10))*1) 0)]
 (fun j A=>(sw (ck (((eqM (gN l 19) (List.length (List.take ((gN l 19)*1) (List.drop 0 (gL l 25)))))&&true)&&true)
 (T103 [.I (gI l 17),.I (gI l 18),.L (List.take ((gN l 19)*1) (List.drop 0 (gL l 25))),.I (List.getD (gL l 28) (0+((Int.toNat (gI l 10))*1)) 0),.I (gI A 0)]
 (fun j B=>(sw (ck (((leI 0 (gI l 10))&&(ltI (gI l 10) (gN l 4)))&&true)
 (ck ((leN ((0+((Int.toNat (gI l 10))*1))+1) (List.length (gL l 28)))&&true)
 (nx 0 [.I (gI l 0),.I (gI l 1),.N (gN l 2),.I (gI l 3),.N (gN l 4),.I (gI l 5),.I (gI l 6),.N (gN l 7),.L (gL l 8),.I (gI l 9),.I (wr .i64 ((gI l 10)+1)),.L (gL l 11),.I (gI l 12),.I (gI l 13),.I (gI l 14),.N (gN l 15),.LL (gLL l 16),.I (gI l 17),.I (gI l 18),.N (gN l 19),.N (gN l 20),.L (gL l 21),.N (gN l 22),.N (gN l 23),.I (gI l 24),.L (gL l 25),.LB (gLB l 26),.L (gL l 27),.L (List.set (gL l 28) (0+((Int.toNat (gI l 10))*1)) (gI B 0))])))
 (fun _=>none)) j)))
 (fun _=>none)) j)))))))
 (ex 0 [.I (gI l 0),.I (gI l 1),.N (gN l 2),.N (gN l 4),.I (gI l 5),.I (gI l 6),.L (gL l 11),.I (gI l 12),.I (gI l 13),.I (gI l 14),.N (gN l 15),.LL (gLL l 16),.I (gI l 17),.I (gI l 18),.N (gN l 19),.N (gN l 20),.L (gL l 21),.N (gN l 22),.N (gN l 23),.I (gI l 24),.L (gL l 25),.LB (gLB l 26),.L (gL l 27),.L (gL l 28)])
theorem L102_8.e0:LEq L102_8.O L102_8.H 0 L102_8.s0:=by intro τ next κ l;kernel_rfl
def L102_8:LStep P Cf:=LStep.mk1 (by decide) L102_8.e0
def L102_8.b:Option τ:=runE L102_8 fuel κ t l
def L102_8.E:LEnt P:=LStep.E L102_8
def L102_8_1.H:LHead:=⟨false,false,13,417800,417800,492606979050583,25769805911,0,[(PS.mk (pI::pI::(rr 0)::us 1 ((pp 2)::us 1 ((pp 4)::us 3 (pI::(rr 12)::us 21 (pI::pI::us 11 (qR::pI::pI::us 50 [])))))) mo10Xc)],[((Out.exit 2),(PS.mk (pI::pI::(rr 0)::us 1 ((pp 2)::us 1 ((pp 4)::us 4 ((rr 12)::us 21 (pI::pI::us 64 []))))) mo10Xc))]⟩
def L102_8_1.O:Orc P:=⟨[T104.E,T103.E],[],[],40⟩
def L102_8_1.s0:Option τ :=
 br (ltI (gI l 10) (gI l 9))
 (ck (((leI 0 (gI l 10))&&(ltI (gI l 10) (gN l 7)))&&true)
 (ck (ltN ((Int.toNat (gI l 10))*1) (List.length (gL l 8)))
 (ck (((leI 0 (gI l 10))&&(ltI (gI l 10) (gN l 4)))&&true)
 (ck (ltN (0+((Int.toNat (gI l 10))*1)) (List.length (gL l 30)))
 (ck (((eqM (gN l 19) (List.length (List.take ((gN l 19)*1) (List.drop 0 (gL l 26)))))&&true)&&true)
 (T104 [.I (gI l 17),.I (gI l 18),.L (List.take ((gN l 19)*1) (List.drop 0 (gL l 26))),.I (gI l 3),.I (List.getD (gL l 8) ((Int.toNat (gI l 10))*1) 0)]
 (fun j A=>(sw (ck (((eqM (gN l 19) (List.length (List.take ((gN l 19)*1) (List.drop 0 (gL l 26)))))&&true)&&true)
 (T103 [.I (gI l 17),.I (gI l 18),.L (List.take ((gN l 19)*1) (List.drop 0 (gL l 26))),.I (List.getD (gL l 30) (0+((Int.toNat (gI l 10))*1)) 0),.I (gI A 0)]
 (fun j B=>(sw (ck (((leI 0 (gI l 10))&&(ltI (gI l 10) (gN l 4)))&&true)
 (ck ((leN ((0+((Int.toNat (gI l 10))*1))+1) (List.length (gL l 30)))&&true)
 (nx 0 [.I (gI l 0),.I (gI l 1),.N (gN l 2),.I (gI l 3),.N (gN l 4),.I (gI l 5),.I (gI l 6),.N (gN l 7),.L (gL l 8),.I (gI l 9),.I (wr .i64 ((gI l 10)+1)),.L (gL l 11),.I (gI l 12),.I (gI l 13),.I (gI l 14),.N (gN l 15),.LL (gLL l 16),.I (gI l 17),.I (gI l 18),.N (gN l 19),.N (gN l 20),.L (gL l 21),.N (gN l 22),.N (gN l 23),.N (gN l 24),.I (gI l 25),.L (gL l 26),.LB (gLB l 27),.L (gL l 28),.LL (gLL l 29),.L (List.set (gL l 30) (0+((Int.toNat (gI l 10))*1)) (gI B 0))])))
 (fun _=>none)) j)))
 (fun _=>none)) j)))))))
 (ex 0 [.I (gI l 0),.I (gI l 1),.N (gN l 2),.N (gN l 4),.I (gI l 5),.I (gI l 6),.L (gL l 11),.I (gI l 12),.I (gI l 13),.I (gI l 14),.N (gN l 15),.LL (gLL l 16),.I (gI l 17),.I (gI l 18),.N (gN l 19),.N (gN l 20),.L (gL l 21),.N (gN l 22),.N (gN l 23),.N (gN l 24),.I (gI l 25),.L (gL l 26),.LB (gLB l 27),.L (gL l 28),.LL (gLL l 29),.L (gL l 30)])
theorem L102_8_1.e0:LEq L102_8_1.O L102_8_1.H 0 L102_8_1.s0:=by intro τ next κ l;kernel_rfl
def L102_8_1:LStep P Cf:=LStep.mk1 (by decide) L102_8_1.e0
def L102_8_1.b:Option τ:=runE L102_8_1 fuel κ t l
def L102_8_1.E:LEnt P:=LStep.E L102_8_1
def L102_8_2.H:LHead:=⟨false,false,14,417800,417800,492606979050583,25769805911,0,[(PS.mk (pI::pI::(rr 0)::us 1 ((pp 2)::us 1 ((pp 4)::us 3 (pI::(rr 13)::us 21 (pI::pI::us 11 (qR::pI::pI::us 50 [])))))) mo11Xc)],[((Out.exit 2),(PS.mk (pI::pI::(rr 0)::us 1 ((pp 2)::us 1 ((pp 4)::us 4 ((rr 13)::us 21 (pI::pI::us 64 []))))) mo11Xc))]⟩
def L102_8_2.O:Orc P:=⟨[T104.E,T103.E],[],[],40⟩
def L102_8_2.s0:Option τ :=
 br (ltI (gI l 10) (gI l 9))
 (ck (((leI 0 (gI l 10))&&(ltI (gI l 10) (gN l 7)))&&true)
 (ck (ltN ((Int.toNat (gI l 10))*1) (List.length (gL l 8)))
 (ck (((leI 0 (gI l 10))&&(ltI (gI l 10) (gN l 4)))&&true)
 (ck (ltN (0+((Int.toNat (gI l 10))*1)) (List.length (gL l 30)))
 (ck (((eqM (gN l 19) (List.length (List.take ((gN l 19)*1) (List.drop 0 (gL l 26)))))&&true)&&true)
 (T104 [.I (gI l 17),.I (gI l 18),.L (List.take ((gN l 19)*1) (List.drop 0 (gL l 26))),.I (gI l 3),.I (List.getD (gL l 8) ((Int.toNat (gI l 10))*1) 0)]
 (fun j A=>(sw (ck (((eqM (gN l 19) (List.length (List.take ((gN l 19)*1) (List.drop 0 (gL l 26)))))&&true)&&true)
 (T103 [.I (gI l 17),.I (gI l 18),.L (List.take ((gN l 19)*1) (List.drop 0 (gL l 26))),.I (List.getD (gL l 30) (0+((Int.toNat (gI l 10))*1)) 0),.I (gI A 0)]
 (fun j B=>(sw (ck (((leI 0 (gI l 10))&&(ltI (gI l 10) (gN l 4)))&&true)
 (ck ((leN ((0+((Int.toNat (gI l 10))*1))+1) (List.length (gL l 30)))&&true)
 (nx 0 [.I (gI l 0),.I (gI l 1),.N (gN l 2),.I (gI l 3),.N (gN l 4),.I (gI l 5),.I (gI l 6),.N (gN l 7),.L (gL l 8),.I (gI l 9),.I (wr .i64 ((gI l 10)+1)),.L (gL l 11),.I (gI l 12),.I (gI l 13),.I (gI l 14),.N (gN l 15),.LL (gLL l 16),.I (gI l 17),.I (gI l 18),.N (gN l 19),.N (gN l 20),.L (gL l 21),.N (gN l 22),.N (gN l 23),.N (gN l 24),.I (gI l 25),.L (gL l 26),.LB (gLB l 27),.L (gL l 28),.LL (gLL l 29),.L (List.set (gL l 30) (0+((Int.toNat (gI l 10))*1)) (gI B 0))])))
 (fun _=>none)) j)))
 (fun _=>none)) j)))))))
 (ex 0 [.I (gI l 0),.I (gI l 1),.N (gN l 2),.N (gN l 4),.I (gI l 5),.I (gI l 6),.L (gL l 11),.I (gI l 12),.I (gI l 13),.I (gI l 14),.N (gN l 15),.LL (gLL l 16),.I (gI l 17),.I (gI l 18),.N (gN l 19),.N (gN l 20),.L (gL l 21),.N (gN l 22),.N (gN l 23),.N (gN l 24),.I (gI l 25),.L (gL l 26),.LB (gLB l 27),.L (gL l 28),.LL (gLL l 29),.L (gL l 30)])
theorem L102_8_2.e0:LEq L102_8_2.O L102_8_2.H 0 L102_8_2.s0:=by intro τ next κ l;kernel_rfl
def L102_8_2:LStep P Cf:=LStep.mk1 (by decide) L102_8_2.e0
def L102_8_2.b:Option τ:=runE L102_8_2 fuel κ t l
def L102_8_2.E:LEnt P:=LStep.E L102_8_2
def S102_1.H:SHead:=⟨102,[pI,pI,(rr 0)],[(pp 1),(pp 2),(pp 3),(pp 4)],mo13Xc,[((PV2.tup []),mo13Xc),((PV2.tup []),[zI,(oG [pI]),(oG [(pp 5)]),(oG [(PV2.fn 67 [(p1 6),(p1 7)])]),(oG [(PV2.fn 102 [(p1 1),(p1 2),(p1 3),(p1 4)])]),(oG [pI,pI,qM,pI,pI,(rr 8),qR,(rr 9),(rr 10)]),(oG [(rr 12)]),(oG [pI]),oI,oB,oI,PO.dead,oM]),((PV2.tup []),mo12Xc)]⟩
def L102_4_1.H:LHead:=⟨false,false,12,417796,417796,25769803863,0,0,[(PS.mk (pI::pI::(rr 0)::us 1 ((pp 2)::us 1 ((pp 4)::us 26 (pI::pI::us 64 [])))) mo13Xc),(PS.mk (pI::pI::(rr 0)::us 1 ((pp 2)::us 1 ((pp 4)::us 26 (pI::pI::us 64 [])))) mo12Xc)],[((Out.exit 0),(PS.mk (us 99 []) mo13Xc)),((Out.exit 0),(PS.mk (us 99 []) mo12Xc))]⟩
def L102_4_1.O (R:SDyn P S102_1.H):Orc P:=⟨[F71.E],[L102_8_1.E,L102_8_2.E],[S70_0.E,⟨S102_1.H,R⟩],40⟩
def L102_4_1.s0 (R:SDyn P S102_1.H) {τ:Type} (next ex:Nat→LS_→Option τ) (l:LS_):Option τ :=
 br (ltI (gI l 4) (gI l 3))
 (ck ((eqM (gN l 2) (List.length (List.take ((gN l 2)*1) (List.drop 0 (gL l 5)))))&&true)
 (F71 [.L (List.take ((gN l 2)*1) (List.drop 0 (gL l 5)))]
 (fun j A=>(sw (ck (((leI 0 (gI l 0))&&(ltI (gI l 0) (gN l 9)))&&true)
 (ck (ltN ((Int.toNat (gI l 0))*1) (List.length (gLL l 10)))
 (L102_8_1.b 0 [.I (gI l 0),.I (gI l 1),.N (gN l 2),.I (gI l 4),.N (gN A 0),.I (gI l 3),.I (gI l 4),.N (List.length (List.getD (gLL l 10) ((Int.toNat (gI l 0))*1) [])),.L (List.getD (gLL l 10) ((Int.toNat (gI l 0))*1) []),.I (((List.length (List.getD (gLL l 10) ((Int.toNat (gI l 0))*1) [])):Nat):Int),.I 0,.L (gL l 5),.I (gI l 6),.I (gI l 7),.I (gI l 8),.N (gN l 9),.LL (gLL l 10),.I (gI l 11),.I (gI l 12),.N (gN l 13),.N (gN l 14),.L (gL l 15),.N (gN l 16),.N (gN l 17),.N (gN l 18),.I (gI l 19),.L (gL l 20),.LB (gLB l 21),.L (gL l 22),.LL (gLL l 23),.L (gL A 1)]
 (fun j B=>(sw (ck (((leI 0 (gI B 0))&&(ltI (gI B 0) (gN B 18)))&&true)
 (ck (ltN (0+((Int.toNat (gI B 0))*1)) (List.length (gL B 23)))
 (ck (((leI 0 (wr .i64 ((gI B 0)+1)))&&(ltI (wr .i64 ((gI B 0)+1)) (((gN B 18):Nat):Int)))&&true)
 (ck (ltN (0+((Int.toNat (wr .i64 ((gI B 0)+1)))*1)) (List.length (gL B 23)))
 (S70_0 [.N (gN B 3),.I (List.getD (gL B 23) (0+((Int.toNat (gI B 0))*1)) 0),.I (List.getD (gL B 23) (0+((Int.toNat (wr .i64 ((gI B 0)+1)))*1)) 0),.I (gI B 8),.I (gI B 9),.N (gN B 10),.LL (gLL B 11),.I (gI B 12),.I (gI B 13),.N (gN B 14),.N (gN B 15),.L (gL B 16),.N (gN B 17),.N (gN B 18),.L (gL B 25),.L (gL B 21),.LB (gLB B 22),.L (gL B 23)]
 (fun j C=>(sw (ck (((eqI (gI B 8) (gI C 1))&&((eqI (gI B 9) (gI C 2))&&(((eqM (gN B 10) (gN C 3))&&(decide ((gLL B 11)=(gLL C 4))))&&((eqI (gI B 12) (gI C 5))&&((eqI (gI B 13) (gI C 6))&&(((eqM (gN B 14) (gN C 7))&&true)&&(((eqM (gN B 15) (gN C 8))&&(decide ((gL B 16)=(gL C 9))))&&(((eqM (gN B 17) (gN C 10))&&true)&&(((eqM (gN B 18) (gN C 11))&&true)&&true)))))))))&&((decide ((gL B 21)=(gL C 13)))&&((decide ((gLB B 22)=(gLB C 14)))&&((decide ((gL B 23)=(gL C 15)))&&((decide ((gL B 25)=(gL C 12)))&&true)))))
 (R.b [.I (wr .i64 ((gI B 0)+1)),.I (wr .i64 ((gI B 1)+(gI C 0))),.N (gN B 3),.L (gL C 12),.I (gI B 7),.I (gI C 1),.I (gI C 2),.N (gN C 3),.LL (gLL C 4),.I (gI C 5),.I (gI C 6),.N (gN C 7),.N (gN C 8),.L (gL C 9),.N (gN C 10),.N (gN C 11),.N (gN B 19),.I (gI B 20),.L (gL C 13),.LB (gLB C 14),.L (gL C 15),.LL (gLL B 24)]
 (fun j D=>(sw (next 0 [.I (gI B 0),.I (gI B 1),.N (gN B 2),.I (gI B 4),.I (wr .i64 ((gI B 5)+1)),.L (gL B 6),.I (gI D 1),.I (gI D 2),.I (gI D 3),.N (gN D 4),.LL (gLL D 5),.I (gI D 6),.I (gI D 7),.N (gN D 8),.N (gN D 9),.L (gL D 10),.N (gN D 11),.N (gN D 12),.N (gN D 13),.I (gI D 14),.L (gL D 15),.LB (gLB D 16),.L (gL D 17),.LL (gLL D 18)])
 (sw (next 1 [.I (gI B 0),.I (gI B 1),.N (gN B 2),.I (gI B 4),.I (wr .i64 ((gI B 5)+1)),.L (gL B 6),.I (gI D 1),.I (gI D 2),.I (gI D 3),.N (gN D 4),.LL (gLL D 5),.I (gI D 6),.I (gI D 7),.N (gN D 8),.N (gN D 9),.L (gL D 10),.N (gN D 11),.N (gN D 12),.N (gN D 13),.I (gI D 14),.L (gL D 15),.LB (gLB D 16),.L (gL D 17),.LL (gLL D 18)])
 (sw (next 1 [.I (gI B 0),.I (gI B 1),.N (gN B 2),.I (gI B 4),.I (wr .i64 ((gI B 5)+1)),.L (gL B 6),.I (gI D 1),.I (gI D 2),.I (gI D 3),.N (gN D 4),.LL (gLL D 5),.I (gI D 6),.I (gI D 7),.N (gN D 8),.N (gN D 9),.L (gL D 10),.N (gN D 11),.N (gN D 12),.N (gN D 13),.I (gI D 14),.L (gL D 15),.LB (gLB D 16),.L (gL D 17),.LL (gLL D 18)])
 (fun _=>none)))) j)))
 (fun _=>none)) j))))))
 (fun _=>none)) j))))
 (fun _=>none)) j)))
 (ex 0 [.L (gL l 5),.I (gI l 6),.I (gI l 7),.I (gI l 8),.N (gN l 9),.LL (gLL l 10),.I (gI l 11),.I (gI l 12),.N (gN l 13),.N (gN l 14),.L (gL l 15),.N (gN l 16),.N (gN l 17),.N (gN l 18),.I (gI l 19),.L (gL l 20),.LB (gLB l 21),.L (gL l 22),.LL (gLL l 23)])
theorem L102_4_1.e0 (R:SDyn P S102_1.H):LEq (L102_4_1.O R) L102_4_1.H 0 (L102_4_1.s0 R):=by intro τ next κ l;kernel_rfl
def L102_4_1.s1 (R:SDyn P S102_1.H) {τ:Type} (next ex:Nat→LS_→Option τ) (l:LS_):Option τ :=
 br (ltI (gI l 4) (gI l 3))
 (ck ((eqM (gN l 2) (List.length (List.take ((gN l 2)*1) (List.drop 0 (gL l 5)))))&&true)
 (F71 [.L (List.take ((gN l 2)*1) (List.drop 0 (gL l 5)))]
 (fun j A=>(sw (ck (((leI 0 (gI l 0))&&(ltI (gI l 0) (gN l 9)))&&true)
 (ck (ltN ((Int.toNat (gI l 0))*1) (List.length (gLL l 10)))
 (L102_8_2.b 0 [.I (gI l 0),.I (gI l 1),.N (gN l 2),.I (gI l 4),.N (gN A 0),.I (gI l 3),.I (gI l 4),.N (List.length (List.getD (gLL l 10) ((Int.toNat (gI l 0))*1) [])),.L (List.getD (gLL l 10) ((Int.toNat (gI l 0))*1) []),.I (((List.length (List.getD (gLL l 10) ((Int.toNat (gI l 0))*1) [])):Nat):Int),.I 0,.L (gL l 5),.I (gI l 6),.I (gI l 7),.I (gI l 8),.N (gN l 9),.LL (gLL l 10),.I (gI l 11),.I (gI l 12),.N (gN l 13),.N (gN l 14),.L (gL l 15),.N (gN l 16),.N (gN l 17),.N (gN l 18),.I (gI l 19),.L (gL l 20),.LB (gLB l 21),.L (gL l 22),.LL (gLL l 23),.L (gL A 1)]
 (fun j B=>(sw (ck (((leI 0 (gI B 0))&&(ltI (gI B 0) (gN B 18)))&&true)
 (ck (ltN (0+((Int.toNat (gI B 0))*1)) (List.length (gL B 23)))
 (ck (((leI 0 (wr .i64 ((gI B 0)+1)))&&(ltI (wr .i64 ((gI B 0)+1)) (((gN B 18):Nat):Int)))&&true)
 (ck (ltN (0+((Int.toNat (wr .i64 ((gI B 0)+1)))*1)) (List.length (gL B 23)))
 (S70_0 [.N (gN B 3),.I (List.getD (gL B 23) (0+((Int.toNat (gI B 0))*1)) 0),.I (List.getD (gL B 23) (0+((Int.toNat (wr .i64 ((gI B 0)+1)))*1)) 0),.I (gI B 8),.I (gI B 9),.N (gN B 10),.LL (gLL B 11),.I (gI B 12),.I (gI B 13),.N (gN B 14),.N (gN B 15),.L (gL B 16),.N (gN B 17),.N (gN B 18),.L (gL B 25),.L (gL B 21),.LB (gLB B 22),.L (gL B 23)]
 (fun j C=>(sw (ck (((eqI (gI B 8) (gI C 1))&&((eqI (gI B 9) (gI C 2))&&(((eqM (gN B 10) (gN C 3))&&(decide ((gLL B 11)=(gLL C 4))))&&((eqI (gI B 12) (gI C 5))&&((eqI (gI B 13) (gI C 6))&&(((eqM (gN B 14) (gN C 7))&&true)&&(((eqM (gN B 15) (gN C 8))&&(decide ((gL B 16)=(gL C 9))))&&(((eqM (gN B 17) (gN C 10))&&true)&&(((eqM (gN B 18) (gN C 11))&&true)&&true)))))))))&&((decide ((gL B 21)=(gL C 13)))&&((decide ((gLB B 22)=(gLB C 14)))&&((decide ((gL B 23)=(gL C 15)))&&((decide ((gL B 25)=(gL C 12)))&&true)))))
 (R.b [.I (wr .i64 ((gI B 0)+1)),.I (wr .i64 ((gI B 1)+(gI C 0))),.N (gN B 3),.L (gL C 12),.I (gI B 7),.I (gI C 1),.I (gI C 2),.N (gN C 3),.LL (gLL C 4),.I (gI C 5),.I (gI C 6),.N (gN C 7),.N (gN C 8),.L (gL C 9),.N (gN C 10),.N (gN C 11),.N (gN B 19),.I (gI B 20),.L (gL C 13),.LB (gLB C 14),.L (gL C 15),.LL (gLL B 24)]
 (fun j D=>(sw (next 1 [.I (gI B 0),.I (gI B 1),.N (gN B 2),.I (gI B 4),.I (wr .i64 ((gI B 5)+1)),.L (gL B 6),.I (gI D 1),.I (gI D 2),.I (gI D 3),.N (gN D 4),.LL (gLL D 5),.I (gI D 6),.I (gI D 7),.N (gN D 8),.N (gN D 9),.L (gL D 10),.N (gN D 11),.N (gN D 12),.N (gN D 13),.I (gI D 14),.L (gL D 15),.LB (gLB D 16),.L (gL D 17),.LL (gLL D 18)])
 (sw (next 1 [.I (gI B 0),.I (gI B 1),.N (gN B 2),.I (gI B 4),.I (wr .i64 ((gI B 5)+1)),.L (gL B 6),.I (gI D 1),.I (gI D 2),.I (gI D 3),.N (gN D 4),.LL (gLL D 5),.I (gI D 6),.I (gI D 7),.N (gN D 8),.N (gN D 9),.L (gL D 10),.N (gN D 11),.N (gN D 12),.N (gN D 13),.I (gI D 14),.L (gL D 15),.LB (gLB D 16),.L (gL D 17),.LL (gLL D 18)])
 (sw (next 1 [.I (gI B 0),.I (gI B 1),.N (gN B 2),.I (gI B 4),.I (wr .i64 ((gI B 5)+1)),.L (gL B 6),.I (gI D 1),.I (gI D 2),.I (gI D 3),.N (gN D 4),.LL (gLL D 5),.I (gI D 6),.I (gI D 7),.N (gN D 8),.N (gN D 9),.L (gL D 10),.N (gN D 11),.N (gN D 12),.N (gN D 13),.I (gI D 14),.L (gL D 15),.LB (gLB D 16),.L (gL D 17),.LL (gLL D 18)])
 (fun _=>none)))) j)))
 (fun _=>none)) j))))))
 (fun _=>none)) j))))
 (fun _=>none)) j)))
 (ex 1 [.L (gL l 5),.I (gI l 6),.I (gI l 7),.I (gI l 8),.N (gN l 9),.LL (gLL l 10),.I (gI l 11),.I (gI l 12),.N (gN l 13),.N (gN l 14),.L (gL l 15),.N (gN l 16),.N (gN l 17),.N (gN l 18),.I (gI l 19),.L (gL l 20),.LB (gLB l 21),.L (gL l 22),.LL (gLL l 23)])
theorem L102_4_1.e1 (R:SDyn P S102_1.H):LEq (L102_4_1.O R) L102_4_1.H 1 (L102_4_1.s1 R):=by intro τ next κ l;kernel_rfl
def L102_4_1 (R:SDyn P S102_1.H):LStep P Cf:=LStep.mk2 (by decide) (L102_4_1.e0 R) (L102_4_1.e1 R)
def L102_4_1.b (R:SDyn P S102_1.H) {τ:Type} (t:Nat) (l:LS_) (κ:Nat→LS_→Option τ):Option τ:=runE (L102_4_1 R) fuel κ t l
def L102_4_1.E (R:SDyn P S102_1.H):LEnt P:=LStep.E (L102_4_1 R)
def S102_1.O (R:SDyn P S102_1.H):Orc P:=⟨[],[L102_4_1.E R],[],40⟩
def S102_1.body (R:SDyn P S102_1.H) {τ:Type} (l:LS_) (k:Nat→LS_→Option τ):Option τ :=
 br (gtI (gI l 1) (gI l 4))
 (k 0 [.L (gL l 3),.I (gI l 4),.I (gI l 5),.I (gI l 6),.N (gN l 7),.LL (gLL l 8),.I (gI l 9),.I (gI l 10),.N (gN l 11),.N (gN l 12),.L (gL l 13),.N (gN l 14),.N (gN l 15),.N (gN l 16),.I (gI l 17),.L (gL l 18),.LB (gLB l 19),.L (gL l 20),.LL (gLL l 21)])
 (br ((gI l 0)==(((gN l 7):Nat):Int))
 (ck ((eqM (gN l 2) (List.length (List.take ((gN l 2)*1) (List.drop 0 (gL l 3)))))&&true)
 (ck (((((eqM (List.length (gLL l 21)) ((gN l 16)*1))&&true)&&(eqM 1 1))&&(leN (((gN l 16)+1)*25) 1099511627776))&&true)
 (k 1 [.L (gL l 3),.I (gI l 17),.I (gI l 5),.I (gI l 6),.N (gN l 7),.LL (gLL l 8),.I (gI l 9),.I (gI l 10),.N (gN l 11),.N (gN l 12),.L (gL l 13),.N (gN l 14),.N (gN l 15),.N ((gN l 16)+1),.I (gI l 17),.L (gL l 18),.LB (gLB l 19),.L (gL l 20),.LL ((gLL l 21)++(List.take 1 (List.drop 0 [(List.take ((gN l 2)*1) (List.drop 0 (gL l 3)))])))])))
 (L102_4_1.b R 0 [.I (gI l 0),.I (gI l 1),.N (gN l 2),.I (gI l 5),.I 0,.L (gL l 3),.I (gI l 4),.I (gI l 5),.I (gI l 6),.N (gN l 7),.LL (gLL l 8),.I (gI l 9),.I (gI l 10),.N (gN l 11),.N (gN l 12),.L (gL l 13),.N (gN l 14),.N (gN l 15),.N (gN l 16),.I (gI l 17),.L (gL l 18),.LB (gLB l 19),.L (gL l 20),.LL (gLL l 21)]
 (fun j A=>(sw (k 0 [.L (gL A 0),.I (gI A 1),.I (gI A 2),.I (gI A 3),.N (gN A 4),.LL (gLL A 5),.I (gI A 6),.I (gI A 7),.N (gN A 8),.N (gN A 9),.L (gL A 10),.N (gN A 11),.N (gN A 12),.N (gN A 13),.I (gI A 14),.L (gL A 15),.LB (gLB A 16),.L (gL A 17),.LL (gLL A 18)])
 (sw (k 2 [.L (gL A 0),.I (gI A 1),.I (gI A 2),.I (gI A 3),.N (gN A 4),.LL (gLL A 5),.I (gI A 6),.I (gI A 7),.N (gN A 8),.N (gN A 9),.L (gL A 10),.N (gN A 11),.N (gN A 12),.N (gN A 13),.I (gI A 14),.L (gL A 15),.LB (gLB A 16),.L (gL A 17),.LL (gLL A 18)])
 (fun _=>none))) j)))
theorem S102_1.eq (R:SDyn P S102_1.H):SEq (S102_1.O R) S102_1.H (S102_1.body R):=by intro τ l κ;kernel_rfl
def S102_1.next (R:SDyn P S102_1.H):SDyn P S102_1.H:=mkS (S102_1.eq R)
def S102_1.D (n:Nat):SDyn P S102_1.H:=Nat.rec ⟨fun _ _=>none,fun _ _ _ h=>nomatch h⟩ (fun _ R=>S102_1.next R) n
def S102_1:Option τ:=(S102_1.D fuel).b l k
def S102_1.E:SEnt P:=⟨S102_1.H,S102_1.D fuel⟩
def S102_0.H:SHead:=⟨102,[pI,pI,(rr 0)],[(pp 1),(pp 2),(pp 3),(pp 4)],mo14Xc,[((PV2.tup []),mo14Xc),((PV2.tup []),[zI,(oG [pI]),(oG [(pp 5)]),(oG [(PV2.fn 67 [(p1 6),(p1 7)])]),(oG [(PV2.fn 102 [(p1 1),(p1 2),(p1 3),(p1 4)])]),(oG [pI,pI,qM,pI,pI,(rr 8),qR,(rr 9),(rr 10)]),(oG [(rr 11)]),(oG [pI]),oI,oB,oI,oM]),((PV2.tup []),mo13Xc)]⟩
def L102_4.H:LHead:=⟨false,false,11,417796,417796,25769803863,0,0,[(PS.mk (pI::pI::(rr 0)::us 1 ((pp 2)::us 1 ((pp 4)::us 26 (pI::pI::us 64 [])))) mo14Xc),(PS.mk (pI::pI::(rr 0)::us 1 ((pp 2)::us 1 ((pp 4)::us 26 (pI::pI::us 64 [])))) mo13Xc)],[((Out.exit 0),(PS.mk (us 99 []) mo14Xc)),((Out.exit 0),(PS.mk (us 99 []) mo13Xc))]⟩
def L102_4.O (R:SDyn P S102_0.H):Orc P:=⟨[F71.E],[L102_8.E,L102_8_1.E],[S70_0.E,⟨S102_0.H,R⟩,S102_1.E],40⟩
def L102_4.s0 (R:SDyn P S102_0.H) {τ:Type} (next ex:Nat→LS_→Option τ) (l:LS_):Option τ :=
 br (ltI (gI l 4) (gI l 3))
 (ck ((eqM (gN l 2) (List.length (List.take ((gN l 2)*1) (List.drop 0 (gL l 5)))))&&true)
 (F71 [.L (List.take ((gN l 2)*1) (List.drop 0 (gL l 5)))]
 (fun j A=>(sw (ck (((leI 0 (gI l 0))&&(ltI (gI l 0) (gN l 9)))&&true)
 (ck (ltN ((Int.toNat (gI l 0))*1) (List.length (gLL l 10)))
 (L102_8.b 0 [.I (gI l 0),.I (gI l 1),.N (gN l 2),.I (gI l 4),.N (gN A 0),.I (gI l 3),.I (gI l 4),.N (List.length (List.getD (gLL l 10) ((Int.toNat (gI l 0))*1) [])),.L (List.getD (gLL l 10) ((Int.toNat (gI l 0))*1) []),.I (((List.length (List.getD (gLL l 10) ((Int.toNat (gI l 0))*1) [])):Nat):Int),.I 0,.L (gL l 5),.I (gI l 6),.I (gI l 7),.I (gI l 8),.N (gN l 9),.LL (gLL l 10),.I (gI l 11),.I (gI l 12),.N (gN l 13),.N (gN l 14),.L (gL l 15),.N (gN l 16),.N (gN l 17),.I (gI l 18),.L (gL l 19),.LB (gLB l 20),.L (gL l 21),.L (gL A 1)]
 (fun j B=>(sw (ck (((leI 0 (gI B 0))&&(ltI (gI B 0) (gN B 18)))&&true)
 (ck (ltN (0+((Int.toNat (gI B 0))*1)) (List.length (gL B 22)))
 (ck (((leI 0 (wr .i64 ((gI B 0)+1)))&&(ltI (wr .i64 ((gI B 0)+1)) (((gN B 18):Nat):Int)))&&true)
 (ck (ltN (0+((Int.toNat (wr .i64 ((gI B 0)+1)))*1)) (List.length (gL B 22)))
 (S70_0 [.N (gN B 3),.I (List.getD (gL B 22) (0+((Int.toNat (gI B 0))*1)) 0),.I (List.getD (gL B 22) (0+((Int.toNat (wr .i64 ((gI B 0)+1)))*1)) 0),.I (gI B 8),.I (gI B 9),.N (gN B 10),.LL (gLL B 11),.I (gI B 12),.I (gI B 13),.N (gN B 14),.N (gN B 15),.L (gL B 16),.N (gN B 17),.N (gN B 18),.L (gL B 23),.L (gL B 20),.LB (gLB B 21),.L (gL B 22)]
 (fun j C=>(sw (ck (((eqI (gI B 8) (gI C 1))&&((eqI (gI B 9) (gI C 2))&&(((eqM (gN B 10) (gN C 3))&&(decide ((gLL B 11)=(gLL C 4))))&&((eqI (gI B 12) (gI C 5))&&((eqI (gI B 13) (gI C 6))&&(((eqM (gN B 14) (gN C 7))&&true)&&(((eqM (gN B 15) (gN C 8))&&(decide ((gL B 16)=(gL C 9))))&&(((eqM (gN B 17) (gN C 10))&&true)&&(((eqM (gN B 18) (gN C 11))&&true)&&true)))))))))&&((decide ((gL B 20)=(gL C 13)))&&((decide ((gLB B 21)=(gLB C 14)))&&((decide ((gL B 22)=(gL C 15)))&&((decide ((gL B 23)=(gL C 12)))&&true)))))
 (R.b [.I (wr .i64 ((gI B 0)+1)),.I (wr .i64 ((gI B 1)+(gI C 0))),.N (gN B 3),.L (gL C 12),.I (gI B 7),.I (gI C 1),.I (gI C 2),.N (gN C 3),.LL (gLL C 4),.I (gI C 5),.I (gI C 6),.N (gN C 7),.N (gN C 8),.L (gL C 9),.N (gN C 10),.N (gN C 11),.I (gI B 19),.L (gL C 13),.LB (gLB C 14),.L (gL C 15)]
 (fun j D=>(sw (next 0 [.I (gI B 0),.I (gI B 1),.N (gN B 2),.I (gI B 4),.I (wr .i64 ((gI B 5)+1)),.L (gL B 6),.I (gI D 1),.I (gI D 2),.I (gI D 3),.N (gN D 4),.LL (gLL D 5),.I (gI D 6),.I (gI D 7),.N (gN D 8),.N (gN D 9),.L (gL D 10),.N (gN D 11),.N (gN D 12),.I (gI D 13),.L (gL D 14),.LB (gLB D 15),.L (gL D 16)])
 (sw (next 1 [.I (gI B 0),.I (gI B 1),.N (gN B 2),.I (gI B 4),.I (wr .i64 ((gI B 5)+1)),.L (gL B 6),.I (gI D 1),.I (gI D 2),.I (gI D 3),.N (gN D 4),.LL (gLL D 5),.I (gI D 6),.I (gI D 7),.N (gN D 8),.N (gN D 9),.L (gL D 10),.N (gN D 11),.N (gN D 12),.N (gN D 13),.I (gI D 14),.L (gL D 15),.LB (gLB D 16),.L (gL D 17),.LL (gLL D 18)])
 (sw (next 1 [.I (gI B 0),.I (gI B 1),.N (gN B 2),.I (gI B 4),.I (wr .i64 ((gI B 5)+1)),.L (gL B 6),.I (gI D 1),.I (gI D 2),.I (gI D 3),.N (gN D 4),.LL (gLL D 5),.I (gI D 6),.I (gI D 7),.N (gN D 8),.N (gN D 9),.L (gL D 10),.N (gN D 11),.N (gN D 12),.N (gN D 13),.I (gI D 14),.L (gL D 15),.LB (gLB D 16),.L (gL D 17),.LL (gLL D 18)])
 (fun _=>none)))) j)))
 (fun _=>none)) j))))))
 (fun _=>none)) j))))
 (fun _=>none)) j)))
 (ex 0 [.L (gL l 5),.I (gI l 6),.I (gI l 7),.I (gI l 8),.N (gN l 9),.LL (gLL l 10),.I (gI l 11),.I (gI l 12),.N (gN l 13),.N (gN l 14),.L (gL l 15),.N (gN l 16),.N (gN l 17),.I (gI l 18),.L (gL l 19),.LB (gLB l 20),.L (gL l 21)])
theorem L102_4.e0 (R:SDyn P S102_0.H):LEq (L102_4.O R) L102_4.H 0 (L102_4.s0 R):=by intro τ next κ l;kernel_rfl
def L102_4.s1 (R:SDyn P S102_0.H) {τ:Type} (next ex:Nat→LS_→Option τ) (l:LS_):Option τ :=
 br (ltI (gI l 4) (gI l 3))
 (ck ((eqM (gN l 2) (List.length (List.take ((gN l 2)*1) (List.drop 0 (gL l 5)))))&&true)
 (F71 [.L (List.take ((gN l 2)*1) (List.drop 0 (gL l 5)))]
 (fun j A=>(sw (ck (((leI 0 (gI l 0))&&(ltI (gI l 0) (gN l 9)))&&true)
 (ck (ltN ((Int.toNat (gI l 0))*1) (List.length (gLL l 10)))
 (L102_8_1.b 0 [.I (gI l 0),.I (gI l 1),.N (gN l 2),.I (gI l 4),.N (gN A 0),.I (gI l 3),.I (gI l 4),.N (List.length (List.getD (gLL l 10) ((Int.toNat (gI l 0))*1) [])),.L (List.getD (gLL l 10) ((Int.toNat (gI l 0))*1) []),.I (((List.length (List.getD (gLL l 10) ((Int.toNat (gI l 0))*1) [])):Nat):Int),.I 0,.L (gL l 5),.I (gI l 6),.I (gI l 7),.I (gI l 8),.N (gN l 9),.LL (gLL l 10),.I (gI l 11),.I (gI l 12),.N (gN l 13),.N (gN l 14),.L (gL l 15),.N (gN l 16),.N (gN l 17),.N (gN l 18),.I (gI l 19),.L (gL l 20),.LB (gLB l 21),.L (gL l 22),.LL (gLL l 23),.L (gL A 1)]
 (fun j B=>(sw (ck (((leI 0 (gI B 0))&&(ltI (gI B 0) (gN B 18)))&&true)
 (ck (ltN (0+((Int.toNat (gI B 0))*1)) (List.length (gL B 23)))
 (ck (((leI 0 (wr .i64 ((gI B 0)+1)))&&(ltI (wr .i64 ((gI B 0)+1)) (((gN B 18):Nat):Int)))&&true)
 (ck (ltN (0+((Int.toNat (wr .i64 ((gI B 0)+1)))*1)) (List.length (gL B 23)))
 (S70_0 [.N (gN B 3),.I (List.getD (gL B 23) (0+((Int.toNat (gI B 0))*1)) 0),.I (List.getD (gL B 23) (0+((Int.toNat (wr .i64 ((gI B 0)+1)))*1)) 0),.I (gI B 8),.I (gI B 9),.N (gN B 10),.LL (gLL B 11),.I (gI B 12),.I (gI B 13),.N (gN B 14),.N (gN B 15),.L (gL B 16),.N (gN B 17),.N (gN B 18),.L (gL B 25),.L (gL B 21),.LB (gLB B 22),.L (gL B 23)]
 (fun j C=>(sw (ck (((eqI (gI B 8) (gI C 1))&&((eqI (gI B 9) (gI C 2))&&(((eqM (gN B 10) (gN C 3))&&(decide ((gLL B 11)=(gLL C 4))))&&((eqI (gI B 12) (gI C 5))&&((eqI (gI B 13) (gI C 6))&&(((eqM (gN B 14) (gN C 7))&&true)&&(((eqM (gN B 15) (gN C 8))&&(decide ((gL B 16)=(gL C 9))))&&(((eqM (gN B 17) (gN C 10))&&true)&&(((eqM (gN B 18) (gN C 11))&&true)&&true)))))))))&&((decide ((gL B 21)=(gL C 13)))&&((decide ((gLB B 22)=(gLB C 14)))&&((decide ((gL B 23)=(gL C 15)))&&((decide ((gL B 25)=(gL C 12)))&&true)))))
 (S102_1 [.I (wr .i64 ((gI B 0)+1)),.I (wr .i64 ((gI B 1)+(gI C 0))),.N (gN B 3),.L (gL C 12),.I (gI B 7),.I (gI C 1),.I (gI C 2),.N (gN C 3),.LL (gLL C 4),.I (gI C 5),.I (gI C 6),.N (gN C 7),.N (gN C 8),.L (gL C 9),.N (gN C 10),.N (gN C 11),.N (gN B 19),.I (gI B 20),.L (gL C 13),.LB (gLB C 14),.L (gL C 15),.LL (gLL B 24)]
 (fun j D=>(sw (next 1 [.I (gI B 0),.I (gI B 1),.N (gN B 2),.I (gI B 4),.I (wr .i64 ((gI B 5)+1)),.L (gL B 6),.I (gI D 1),.I (gI D 2),.I (gI D 3),.N (gN D 4),.LL (gLL D 5),.I (gI D 6),.I (gI D 7),.N (gN D 8),.N (gN D 9),.L (gL D 10),.N (gN D 11),.N (gN D 12),.N (gN D 13),.I (gI D 14),.L (gL D 15),.LB (gLB D 16),.L (gL D 17),.LL (gLL D 18)])
 (sw (next 1 [.I (gI B 0),.I (gI B 1),.N (gN B 2),.I (gI B 4),.I (wr .i64 ((gI B 5)+1)),.L (gL B 6),.I (gI D 1),.I (gI D 2),.I (gI D 3),.N (gN D 4),.LL (gLL D 5),.I (gI D 6),.I (gI D 7),.N (gN D 8),.N (gN D 9),.L (gL D 10),.N (gN D 11),.N (gN D 12),.N (gN D 13),.I (gI D 14),.L (gL D 15),.LB (gLB D 16),.L (gL D 17),.LL (gLL D 18)])
 (sw (next 1 [.I (gI B 0),.I (gI B 1),.N (gN B 2),.I (gI B 4),.I (wr .i64 ((gI B 5)+1)),.L (gL B 6),.I (gI D 1),.I (gI D 2),.I (gI D 3),.N (gN D 4),.LL (gLL D 5),.I (gI D 6),.I (gI D 7),.N (gN D 8),.N (gN D 9),.L (gL D 10),.N (gN D 11),.N (gN D 12),.N (gN D 13),.I (gI D 14),.L (gL D 15),.LB (gLB D 16),.L (gL D 17),.LL (gLL D 18)])
 (fun _=>none)))) j)))
 (fun _=>none)) j))))))
 (fun _=>none)) j))))
 (fun _=>none)) j)))
 (ex 1 [.L (gL l 5),.I (gI l 6),.I (gI l 7),.I (gI l 8),.N (gN l 9),.LL (gLL l 10),.I (gI l 11),.I (gI l 12),.N (gN l 13),.N (gN l 14),.L (gL l 15),.N (gN l 16),.N (gN l 17),.N (gN l 18),.I (gI l 19),.L (gL l 20),.LB (gLB l 21),.L (gL l 22),.LL (gLL l 23)])
theorem L102_4.e1 (R:SDyn P S102_0.H):LEq (L102_4.O R) L102_4.H 1 (L102_4.s1 R):=by intro τ next κ l;kernel_rfl
def L102_4 (R:SDyn P S102_0.H):LStep P Cf:=LStep.mk2 (by decide) (L102_4.e0 R) (L102_4.e1 R)
def L102_4.b (R:SDyn P S102_0.H) {τ:Type} (t:Nat) (l:LS_) (κ:Nat→LS_→Option τ):Option τ:=runE (L102_4 R) fuel κ t l
def L102_4.E (R:SDyn P S102_0.H):LEnt P:=LStep.E (L102_4 R)
def S102_0.O (R:SDyn P S102_0.H):Orc P:=⟨[],[L102_4.E R],[],40⟩
def S102_0.body (R:SDyn P S102_0.H) {τ:Type} (l:LS_) (k:Nat→LS_→Option τ):Option τ :=
 br (gtI (gI l 1) (gI l 4))
 (k 0 [.L (gL l 3),.I (gI l 4),.I (gI l 5),.I (gI l 6),.N (gN l 7),.LL (gLL l 8),.I (gI l 9),.I (gI l 10),.N (gN l 11),.N (gN l 12),.L (gL l 13),.N (gN l 14),.N (gN l 15),.I (gI l 16),.L (gL l 17),.LB (gLB l 18),.L (gL l 19)])
 (br ((gI l 0)==(((gN l 7):Nat):Int))
 (ck ((eqM (gN l 2) (List.length (List.take ((gN l 2)*1) (List.drop 0 (gL l 3)))))&&true)
 (k 1 [.L (gL l 3),.I (gI l 16),.I (gI l 5),.I (gI l 6),.N (gN l 7),.LL (gLL l 8),.I (gI l 9),.I (gI l 10),.N (gN l 11),.N (gN l 12),.L (gL l 13),.N (gN l 14),.N (gN l 15),.N 1,.I (gI l 16),.L (gL l 17),.LB (gLB l 18),.L (gL l 19),.LL (List.take 1 (List.drop 0 [(List.take ((gN l 2)*1) (List.drop 0 (gL l 3)))]))]))
 (L102_4.b R 0 [.I (gI l 0),.I (gI l 1),.N (gN l 2),.I (gI l 5),.I 0,.L (gL l 3),.I (gI l 4),.I (gI l 5),.I (gI l 6),.N (gN l 7),.LL (gLL l 8),.I (gI l 9),.I (gI l 10),.N (gN l 11),.N (gN l 12),.L (gL l 13),.N (gN l 14),.N (gN l 15),.I (gI l 16),.L (gL l 17),.LB (gLB l 18),.L (gL l 19)]
 (fun j A=>(sw (k 0 [.L (gL A 0),.I (gI A 1),.I (gI A 2),.I (gI A 3),.N (gN A 4),.LL (gLL A 5),.I (gI A 6),.I (gI A 7),.N (gN A 8),.N (gN A 9),.L (gL A 10),.N (gN A 11),.N (gN A 12),.I (gI A 13),.L (gL A 14),.LB (gLB A 15),.L (gL A 16)])
 (sw (k 2 [.L (gL A 0),.I (gI A 1),.I (gI A 2),.I (gI A 3),.N (gN A 4),.LL (gLL A 5),.I (gI A 6),.I (gI A 7),.N (gN A 8),.N (gN A 9),.L (gL A 10),.N (gN A 11),.N (gN A 12),.N (gN A 13),.I (gI A 14),.L (gL A 15),.LB (gLB A 16),.L (gL A 17),.LL (gLL A 18)])
 (fun _=>none))) j)))
theorem S102_0.eq (R:SDyn P S102_0.H):SEq (S102_0.O R) S102_0.H (S102_0.body R):=by intro τ l κ;kernel_rfl
def S102_0.next (R:SDyn P S102_0.H):SDyn P S102_0.H:=mkS (S102_0.eq R)
def S102_0.D (n:Nat):SDyn P S102_0.H:=Nat.rec ⟨fun _ _=>none,fun _ _ _ h=>nomatch h⟩ (fun _ R=>S102_0.next R) n
def S102_0:Option τ:=(S102_0.D fuel).b l k
def S102_0.E:SEnt P:=⟨S102_0.H,S102_0.D fuel⟩
def F18.ps:List PV2:=[pCode,pNoisy,pI]
def F18.sh:List PA:=[(PA.mk (PV3.tup [nS,(pC 1)]) []),(PA.mk (PV3.tup [nS,(pC 2)]) []),(PA.mk (PV3.tup [nS,(pC 0)]) []),(PA.mk (PV3.tup [(rr 0),(pC 0)]) [cM])]
def F18.O:Orc P:=⟨[F37.E,F98.E,F48.E,T99.E],[L65_10.E,L65_15.E],[S70_0.E,S102_0.E],40⟩
def F18:Option τ :=
 ck (((eqM (List.length (gLL l 2)) (List.length (gLL l 2)))&&true)&&true)
 (F37 [.I (gI l 0),.I (gI l 1),.LL (gLL l 2)]
 (fun j A=>(sw (br (!(gB A 0))
 (k 0 [])
 (ck (((eqM (List.length (gLL l 2)) (List.length (gLL l 2)))&&true)&&(((eqM (List.length (gL l 3)) (List.length (gL l 3)))&&((eqM (List.length (gL l 4)) (List.length (gL l 4)))&&true))&&true))
 (F98 [.I (gI l 0),.I (gI l 1),.LL (gLL l 2),.L (gL l 3),.L (gL l 4)]
 (fun j B=>(sw (br (!(gB B 0))
 (k 0 [])
 (ck (((eqM (List.length (gLL l 2)) (List.length (gLL l 2)))&&true)&&true)
 (F48 [.I (gI l 0),.I (gI l 1),.LL (gLL l 2)]
 (fun j C=>(sw (br (gtI (gI C 0) 4096)
 (k 1 [])
 (T99 [.I (gI l 0)]
 (fun j D=>(sw (ck (((leI 0 (gI l 1))&&(leI (gI l 1) (gI l 1)))&&(leI ((gI l 1)*2) 1099511627776))
 (L65_10.b 0 [.N (List.length (gL l 4)),.L (gL l 4),.I (((List.length (gL l 4)):Nat):Int),.I 0,.I (gI l 0),.I (gI l 1),.N (List.length (gLL l 2)),.LL (gLL l 2),.N (List.length (gL l 3)),.L (gL l 3),.N (List.length (gL l 4)),.L (gL l 4),.I (gI l 5),.I (gI l 0),.I (gI l 1),.N (List.length (gLL l 2)),.LL (gLL l 2),.N (List.length (gL l 3)),.L (gL l 3),.N (List.length (gL l 4)),.L (gL l 4),.L (gL D 3),.I (gI D 0),.I (gI D 1),.N (gN D 2),.LB (List.replicate (Int.toNat (gI l 1)) false),.I (gI l 0),.I (gI l 1),.N (List.length (gLL l 2)),.LL (gLL l 2),.I (gI D 0),.I (gI D 1),.N (gN D 2),.N (List.length (gL l 3)),.L (gL l 3),.N (Int.toNat (gI l 1))]
 (fun j E=>(sw (L65_15.b 0 [.N (gN E 11),.LL (gLL E 12),.I (gN E 11),.I 0,.I (gI E 0),.I (gI E 1),.N (gN E 2),.LL (gLL E 3),.N (gN E 4),.L (gL E 5),.N (gN E 6),.L (gL E 7),.I (gI E 8),.I (gI E 9),.I (gI E 10),.N (gN E 11),.LL (gLL E 12),.N (gN E 13),.L (gL E 14),.N (gN E 15),.L (gL E 16),.L (gL E 17),.I (gI E 18),.I (gI E 19),.N (gN E 20),.LB (gLB E 21),.I (gI E 22),.I (gI E 23),.N (gN E 24),.LL (gLL E 25),.I (gI E 26),.I (gI E 27),.N (gN E 28),.N (gN E 29),.L (gL E 30),.N (gN E 31)]
 (fun j F=>(sw (ck (((leI 0 (gI F 23))&&(leI (gI F 23) (gI F 23)))&&(leI ((gI F 23)*9) 1099511627776))
 (S70_0 [.N (Int.toNat (gI F 23)),.I 0,.I (List.getD (List.take 1 (List.drop 0 [(gI F 10)])) 0 0),.I (gI F 22),.I (gI F 23),.N (gN F 24),.LL (gLL F 25),.I (gI F 26),.I (gI F 27),.N (gN F 28),.N (gN F 29),.L (gL F 30),.N (gN F 31),.N 1,.L (List.replicate (Int.toNat (gI F 23)) (0:Int)),.L (gL F 17),.LB (gLB F 21),.L (List.take 1 (List.drop 0 [(gI F 10)]))]
 (fun j G=>(sw (ck ((decide ((gL F 17)=(gL G 13)))&&((decide ((gLB F 21)=(gLB G 14)))&&(((eqI (gI F 22) (gI G 1))&&((eqI (gI F 23) (gI G 2))&&(((eqM (gN F 24) (gN G 3))&&(decide ((gLL F 25)=(gLL G 4))))&&((eqI (gI F 26) (gI G 5))&&((eqI (gI F 27) (gI G 6))&&(((eqM (gN F 28) (gN G 7))&&true)&&(((eqM (gN F 29) (gN G 8))&&(decide ((gL F 30)=(gL G 9))))&&(((eqM (gN F 31) (gN G 10))&&true)&&(((eqM 1 (gN G 11))&&true)&&true)))))))))&&((decide ((List.take 1 (List.drop 0 [(gI F 10)]))=(gL G 15)))&&((decide ((List.replicate (Int.toNat (gI F 23)) (0:Int))=(gL G 12)))&&true)))))
 (S102_0 [.I 0,.I (gI G 0),.N (Int.toNat (gI F 23)),.L (gL G 12),.I (gI F 8),.I (gI G 1),.I (gI G 2),.N (gN G 3),.LL (gLL G 4),.I (gI G 5),.I (gI G 6),.N (gN G 7),.N (gN G 8),.L (gL G 9),.N (gN G 10),.N (gN G 11),.I (gI F 8),.L (gL G 13),.LB (gLB G 14),.L (gL G 15)]
 (fun j H=>(sw (k 2 [])
 (sw (k 3 [.N (gN H 13),.LL (gLL H 18)])
 (sw (k 3 [.N (gN H 13),.LL (gLL H 18)])
 (fun _=>none)))) j)))
 (fun _=>none)) j)))
 (sw (ck (((((eqM (List.length (gL F 33)) ((gN F 32)*1))&&true)&&(eqM 1 1))&&(leN (((gN F 32)+1)*9) 1099511627776))&&true)
 (ck (((leI 0 (gI F 23))&&(leI (gI F 23) (gI F 23)))&&(leI ((gI F 23)*9) 1099511627776))
 (ck ((ltI 0 ((((gN F 32)+1):Nat):Int))&&true)
 (ck (ltN 0 (List.length ((gL F 33)++(List.take 1 (List.drop 0 [(gI F 10)])))))
 (S70_0 [.N (Int.toNat (gI F 23)),.I 0,.I (List.getD ((gL F 33)++(List.take 1 (List.drop 0 [(gI F 10)]))) 0 0),.I (gI F 22),.I (gI F 23),.N (gN F 24),.LL (gLL F 25),.I (gI F 26),.I (gI F 27),.N (gN F 28),.N (gN F 29),.L (gL F 30),.N (gN F 31),.N ((gN F 32)+1),.L (List.replicate (Int.toNat (gI F 23)) (0:Int)),.L (gL F 17),.LB (gLB F 21),.L ((gL F 33)++(List.take 1 (List.drop 0 [(gI F 10)])))]
 (fun j G=>(sw (ck ((decide ((gL F 17)=(gL G 13)))&&((decide ((gLB F 21)=(gLB G 14)))&&(((eqI (gI F 22) (gI G 1))&&((eqI (gI F 23) (gI G 2))&&(((eqM (gN F 24) (gN G 3))&&(decide ((gLL F 25)=(gLL G 4))))&&((eqI (gI F 26) (gI G 5))&&((eqI (gI F 27) (gI G 6))&&(((eqM (gN F 28) (gN G 7))&&true)&&(((eqM (gN F 29) (gN G 8))&&(decide ((gL F 30)=(gL G 9))))&&(((eqM (gN F 31) (gN G 10))&&true)&&(((eqM ((gN F 32)+1) (gN G 11))&&true)&&true)))))))))&&((decide (((gL F 33)++(List.take 1 (List.drop 0 [(gI F 10)])))=(gL G 15)))&&((decide ((List.replicate (Int.toNat (gI F 23)) (0:Int))=(gL G 12)))&&true)))))
 (S102_0 [.I 0,.I (gI G 0),.N (Int.toNat (gI F 23)),.L (gL G 12),.I (gI F 8),.I (gI G 1),.I (gI G 2),.N (gN G 3),.LL (gLL G 4),.I (gI G 5),.I (gI G 6),.N (gN G 7),.N (gN G 8),.L (gL G 9),.N (gN G 10),.N (gN G 11),.I (gI F 8),.L (gL G 13),.LB (gLB G 14),.L (gL G 15)]
 (fun j H=>(sw (k 2 [])
 (sw (k 3 [.N (gN H 13),.LL (gLL H 18)])
 (sw (k 3 [.N (gN H 13),.LL (gLL H 18)])
 (fun _=>none)))) j)))
 (fun _=>none)) j))))))
 (fun _=>none))) j))
 (fun _=>none)) j)))
 (sw (k 0 [])
 (fun _=>none))) j)))
 (fun _=>none)) j))))
 (fun _=>none)) j))))
 (fun _=>none)) j))
theorem F18.eq:FEq F18.O 18 F18.ps F18.sh F18:=by intro τ l κ;kernel_rfl
def F18.E:Ent P:=mkF F18.eq
def L65_10_1.H:LHead:=⟨false,false,9,266250,266250,246290604622084,260,0,[(PS.mk (us 2 ((pp 3)::us 5 ((pp 8)::us 36 (qR::pI::pI::us 41 [])))) mo15Xc)],[((Out.exit 1),(PS.mk (us 2 ((pp 3)::us 5 ((pp 8)::us 80 []))) mo15Xc))]⟩
def L65_10_1.O:Orc P:=⟨[],[],[],40⟩
def L65_10_1.s0:Option τ :=
 br (ltI (gI l 3) (gI l 2))
 (ck (((leI 0 (gI l 3))&&(ltI (gI l 3) (gN l 0)))&&true)
 (ck (ltN ((Int.toNat (gI l 3))*1) (List.length (gL l 1)))
 (ck (((leI 0 (List.getD (gL l 1) ((Int.toNat (gI l 3))*1) 0))&&(ltI (List.getD (gL l 1) ((Int.toNat (gI l 3))*1) 0) (((gN l 36):Nat):Int)))&&true)
 (ck ((leN ((0+((Int.toNat (List.getD (gL l 1) ((Int.toNat (gI l 3))*1) 0))*1))+1) (List.length (gLB l 26)))&&true)
 (nx 0 [.N (gN l 0),.L (gL l 1),.I (gI l 2),.I (wr .i64 ((gI l 3)+1)),.I (gI l 4),.I (gI l 5),.N (gN l 6),.LL (gLL l 7),.N (gN l 8),.L (gL l 9),.N (gN l 10),.L (gL l 11),.I (gI l 12),.I (gI l 13),.I (gI l 14),.I (gI l 15),.N (gN l 16),.LL (gLL l 17),.N (gN l 18),.L (gL l 19),.N (gN l 20),.L (gL l 21),.L (gL l 22),.I (gI l 23),.I (gI l 24),.N (gN l 25),.LB (List.set (gLB l 26) (0+((Int.toNat (List.getD (gL l 1) ((Int.toNat (gI l 3))*1) 0))*1)) true),.I (gI l 27),.I (gI l 28),.N (gN l 29),.LL (gLL l 30),.I (gI l 31),.I (gI l 32),.N (gN l 33),.N (gN l 34),.L (gL l 35),.N (gN l 36)])))))
 (ex 0 [.I (gI l 4),.I (gI l 5),.N (gN l 6),.LL (gLL l 7),.N (gN l 8),.L (gL l 9),.N (gN l 10),.L (gL l 11),.I (gI l 12),.I (gI l 13),.I (gI l 14),.I (gI l 15),.N (gN l 16),.LL (gLL l 17),.N (gN l 18),.L (gL l 19),.N (gN l 20),.L (gL l 21),.L (gL l 22),.I (gI l 23),.I (gI l 24),.N (gN l 25),.LB (gLB l 26),.I (gI l 27),.I (gI l 28),.N (gN l 29),.LL (gLL l 30),.I (gI l 31),.I (gI l 32),.N (gN l 33),.N (gN l 34),.L (gL l 35),.N (gN l 36)])
theorem L65_10_1.e0:LEq L65_10_1.O L65_10_1.H 0 L65_10_1.s0:=by intro τ next κ l;kernel_rfl
def L65_10_1:LStep P Cf:=LStep.mk1 (by decide) L65_10_1.e0
def L65_10_1.b:Option τ:=runE L65_10_1 fuel κ t l
def L65_10_1.E:LEnt P:=LStep.E L65_10_1
def L65_15_1.H:LHead:=⟨false,false,9,266255,266255,4035225266123964676,260,0,[(PS.mk (us 2 ((pp 3)::us 5 ((pp 8)::us 50 (qM::pI::pI::us 27 [])))) mo15Xc),(PS.mk (us 2 ((pp 3)::us 5 ((pp 8)::us 50 (qM::pI::pI::us 27 [])))) mo16Xc)],[((Out.exit 3),(PS.mk (us 2 ((pp 3)::us 5 ((pp 8)::us 80 []))) mo15Xc)),((Out.exit 3),(PS.mk (us 2 ((pp 3)::us 5 ((pp 8)::us 80 []))) mo16Xc))]⟩
def L65_15_1.O:Orc P:=⟨[],[],[S100_2.E],40⟩
def L65_15_1.s0:Option τ :=
 br (ltI (gI l 3) (gI l 2))
 (ck (((leI 0 (gI l 3))&&(ltI (gI l 3) (gN l 0)))&&true)
 (ck (ltN ((Int.toNat (gI l 3))*1) (List.length (gLL l 1)))
 (S100_2 [.N (List.length (List.getD (gLL l 1) ((Int.toNat (gI l 3))*1) [])),.L (List.getD (gLL l 1) ((Int.toNat (gI l 3))*1) [])]
 (fun j A=>(sw (nx 1 [.N (gN l 0),.LL (gLL l 1),.I (gI l 2),.I (wr .i64 ((gI l 3)+1)),.I (gI l 4),.I (gI l 5),.N (gN l 6),.LL (gLL l 7),.N (gN l 8),.L (gL l 9),.N (gN l 10),.L (gL l 11),.I (gI l 12),.I (gI l 13),.I (gI l 14),.I (gI l 15),.N (gN l 16),.LL (gLL l 17),.N (gN l 18),.L (gL l 19),.N (gN l 20),.L (gL l 21),.L (gL l 22),.I (gI l 23),.I (gI l 24),.N (gN l 25),.LB (gLB l 26),.I (gI l 27),.I (gI l 28),.N (gN l 29),.LL (gLL l 30),.I (gI l 31),.I (gI l 32),.N (gN l 33),.N (gN l 34),.L (gL l 35),.N (gN l 36),.N 1,.L (List.take 1 (List.drop 0 [(gI A 0)]))])
 (fun _=>none)) j))))
 (ex 0 [.I (gI l 4),.I (gI l 5),.N (gN l 6),.LL (gLL l 7),.N (gN l 8),.L (gL l 9),.N (gN l 10),.L (gL l 11),.I (gI l 12),.I (gI l 13),.I (gI l 14),.I (gI l 15),.N (gN l 16),.LL (gLL l 17),.N (gN l 18),.L (gL l 19),.N (gN l 20),.L (gL l 21),.L (gL l 22),.I (gI l 23),.I (gI l 24),.N (gN l 25),.LB (gLB l 26),.I (gI l 27),.I (gI l 28),.N (gN l 29),.LL (gLL l 30),.I (gI l 31),.I (gI l 32),.N (gN l 33),.N (gN l 34),.L (gL l 35),.N (gN l 36)])
theorem L65_15_1.e0:LEq L65_15_1.O L65_15_1.H 0 L65_15_1.s0:=by intro τ next κ l;kernel_rfl
def L65_15_1.s1:Option τ :=
 br (ltI (gI l 3) (gI l 2))
 (ck (((leI 0 (gI l 3))&&(ltI (gI l 3) (gN l 0)))&&true)
 (ck (ltN ((Int.toNat (gI l 3))*1) (List.length (gLL l 1)))
 (S100_2 [.N (List.length (List.getD (gLL l 1) ((Int.toNat (gI l 3))*1) [])),.L (List.getD (gLL l 1) ((Int.toNat (gI l 3))*1) [])]
 (fun j A=>(sw (ck (((((eqM (List.length (gL l 38)) ((gN l 37)*1))&&true)&&(eqM 1 1))&&(leN (((gN l 37)+1)*9) 1099511627776))&&true)
 (nx 1 [.N (gN l 0),.LL (gLL l 1),.I (gI l 2),.I (wr .i64 ((gI l 3)+1)),.I (gI l 4),.I (gI l 5),.N (gN l 6),.LL (gLL l 7),.N (gN l 8),.L (gL l 9),.N (gN l 10),.L (gL l 11),.I (gI l 12),.I (gI l 13),.I (gI l 14),.I (gI l 15),.N (gN l 16),.LL (gLL l 17),.N (gN l 18),.L (gL l 19),.N (gN l 20),.L (gL l 21),.L (gL l 22),.I (gI l 23),.I (gI l 24),.N (gN l 25),.LB (gLB l 26),.I (gI l 27),.I (gI l 28),.N (gN l 29),.LL (gLL l 30),.I (gI l 31),.I (gI l 32),.N (gN l 33),.N (gN l 34),.L (gL l 35),.N (gN l 36),.N ((gN l 37)+1),.L ((gL l 38)++(List.take 1 (List.drop 0 [(gI A 0)])))]))
 (fun _=>none)) j))))
 (ex 1 [.I (gI l 4),.I (gI l 5),.N (gN l 6),.LL (gLL l 7),.N (gN l 8),.L (gL l 9),.N (gN l 10),.L (gL l 11),.I (gI l 12),.I (gI l 13),.I (gI l 14),.I (gI l 15),.N (gN l 16),.LL (gLL l 17),.N (gN l 18),.L (gL l 19),.N (gN l 20),.L (gL l 21),.L (gL l 22),.I (gI l 23),.I (gI l 24),.N (gN l 25),.LB (gLB l 26),.I (gI l 27),.I (gI l 28),.N (gN l 29),.LL (gLL l 30),.I (gI l 31),.I (gI l 32),.N (gN l 33),.N (gN l 34),.L (gL l 35),.N (gN l 36),.N (gN l 37),.L (gL l 38)])
theorem L65_15_1.e1:LEq L65_15_1.O L65_15_1.H 1 L65_15_1.s1:=by intro τ next κ l;kernel_rfl
def L65_15_1:LStep P Cf:=LStep.mk2 (by decide) L65_15_1.e0 L65_15_1.e1
def L65_15_1.b:Option τ:=runE L65_15_1 fuel κ t l
def L65_15_1.E:LEnt P:=LStep.E L65_15_1
def L102_8_3.H:LHead:=⟨false,false,12,417800,417800,492606979050583,25769805911,0,[(PS.mk (pI::pI::(rr 0)::us 1 ((pp 2)::us 1 ((pp 4)::us 3 (pI::(rr 11)::us 21 (pI::pI::us 11 (qR::pI::pI::us 50 [])))))) mo17Xc)],[((Out.exit 2),(PS.mk (pI::pI::(rr 0)::us 1 ((pp 2)::us 1 ((pp 4)::us 4 ((rr 11)::us 21 (pI::pI::us 64 []))))) mo17Xc))]⟩
def L102_8_3.O:Orc P:=⟨[T104.E,T103.E],[],[],40⟩
def L102_8_3.s0:Option τ :=
 br (ltI (gI l 10) (gI l 9))
 (ck (((leI 0 (gI l 10))&&(ltI (gI l 10) (gN l 7)))&&true)
 (ck (ltN ((Int.toNat (gI l 10))*1) (List.length (gL l 8)))
 (ck (((leI 0 (gI l 10))&&(ltI (gI l 10) (gN l 4)))&&true)
 (ck (ltN (0+((Int.toNat (gI l 10))*1)) (List.length (gL l 28)))
 (ck (((eqM (gN l 19) (List.length (List.take ((gN l 19)*1) (List.drop 0 (gL l 25)))))&&true)&&true)
 (T104 [.I (gI l 17),.I (gI l 18),.L (List.take ((gN l 19)*1) (List.drop 0 (gL l 25))),.I (gI l 3),.I (List.getD (gL l 8) ((Int.toNat (gI l 10))*1) 0)]
 (fun j A=>(sw (ck (((eqM (gN l 19) (List.length (List.take ((gN l 19)*1) (List.drop 0 (gL l 25)))))&&true)&&true)
 (T103 [.I (gI l 17),.I (gI l 18),.L (List.take ((gN l 19)*1) (List.drop 0 (gL l 25))),.I (List.getD (gL l 28) (0+((Int.toNat (gI l 10))*1)) 0),.I (gI A 0)]
 (fun j B=>(sw (ck (((leI 0 (gI l 10))&&(ltI (gI l 10) (gN l 4)))&&true)
 (ck ((leN ((0+((Int.toNat (gI l 10))*1))+1) (List.length (gL l 28)))&&true)
 (nx 0 [.I (gI l 0),.I (gI l 1),.N (gN l 2),.I (gI l 3),.N (gN l 4),.I (gI l 5),.I (gI l 6),.N (gN l 7),.L (gL l 8),.I (gI l 9),.I (wr .i64 ((gI l 10)+1)),.L (gL l 11),.I (gI l 12),.I (gI l 13),.I (gI l 14),.N (gN l 15),.LL (gLL l 16),.I (gI l 17),.I (gI l 18),.N (gN l 19),.N (gN l 20),.L (gL l 21),.N (gN l 22),.N (gN l 23),.I (gI l 24),.L (gL l 25),.LB (gLB l 26),.L (gL l 27),.L (List.set (gL l 28) (0+((Int.toNat (gI l 10))*1)) (gI B 0))])))
 (fun _=>none)) j)))
 (fun _=>none)) j)))))))
 (ex 0 [.I (gI l 0),.I (gI l 1),.N (gN l 2),.N (gN l 4),.I (gI l 5),.I (gI l 6),.L (gL l 11),.I (gI l 12),.I (gI l 13),.I (gI l 14),.N (gN l 15),.LL (gLL l 16),.I (gI l 17),.I (gI l 18),.N (gN l 19),.N (gN l 20),.L (gL l 21),.N (gN l 22),.N (gN l 23),.I (gI l 24),.L (gL l 25),.LB (gLB l 26),.L (gL l 27),.L (gL l 28)])
theorem L102_8_3.e0:LEq L102_8_3.O L102_8_3.H 0 L102_8_3.s0:=by intro τ next κ l;kernel_rfl
def L102_8_3:LStep P Cf:=LStep.mk1 (by decide) L102_8_3.e0
def L102_8_3.b:Option τ:=runE L102_8_3 fuel κ t l
def L102_8_3.E:LEnt P:=LStep.E L102_8_3
def L102_8_4.H:LHead:=⟨false,false,13,417800,417800,492606979050583,25769805911,0,[(PS.mk (pI::pI::(rr 0)::us 1 ((pp 2)::us 1 ((pp 4)::us 3 (pI::(rr 12)::us 21 (pI::pI::us 11 (qR::pI::pI::us 50 [])))))) mo18Xc)],[((Out.exit 2),(PS.mk (pI::pI::(rr 0)::us 1 ((pp 2)::us 1 ((pp 4)::us 4 ((rr 12)::us 21 (pI::pI::us 64 []))))) mo18Xc))]⟩
def L102_8_4.O:Orc P:=⟨[T104.E,T103.E],[],[],40⟩
def L102_8_4.s0:Option τ :=
 br (ltI (gI l 10) (gI l 9))
 (ck (((leI 0 (gI l 10))&&(ltI (gI l 10) (gN l 7)))&&true)
 (ck (ltN ((Int.toNat (gI l 10))*1) (List.length (gL l 8)))
 (ck (((leI 0 (gI l 10))&&(ltI (gI l 10) (gN l 4)))&&true)
 (ck (ltN (0+((Int.toNat (gI l 10))*1)) (List.length (gL l 30)))
 (ck (((eqM (gN l 19) (List.length (List.take ((gN l 19)*1) (List.drop 0 (gL l 26)))))&&true)&&true)
 (T104 [.I (gI l 17),.I (gI l 18),.L (List.take ((gN l 19)*1) (List.drop 0 (gL l 26))),.I (gI l 3),.I (List.getD (gL l 8) ((Int.toNat (gI l 10))*1) 0)]
 (fun j A=>(sw (ck (((eqM (gN l 19) (List.length (List.take ((gN l 19)*1) (List.drop 0 (gL l 26)))))&&true)&&true)
 (T103 [.I (gI l 17),.I (gI l 18),.L (List.take ((gN l 19)*1) (List.drop 0 (gL l 26))),.I (List.getD (gL l 30) (0+((Int.toNat (gI l 10))*1)) 0),.I (gI A 0)]
 (fun j B=>(sw (ck (((leI 0 (gI l 10))&&(ltI (gI l 10) (gN l 4)))&&true)
 (ck ((leN ((0+((Int.toNat (gI l 10))*1))+1) (List.length (gL l 30)))&&true)
 (nx 0 [.I (gI l 0),.I (gI l 1),.N (gN l 2),.I (gI l 3),.N (gN l 4),.I (gI l 5),.I (gI l 6),.N (gN l 7),.L (gL l 8),.I (gI l 9),.I (wr .i64 ((gI l 10)+1)),.L (gL l 11),.I (gI l 12),.I (gI l 13),.I (gI l 14),.N (gN l 15),.LL (gLL l 16),.I (gI l 17),.I (gI l 18),.N (gN l 19),.N (gN l 20),.L (gL l 21),.N (gN l 22),.N (gN l 23),.I (gI l 24),.N (gN l 25),.L (gL l 26),.LB (gLB l 27),.L (gL l 28),.LL (gLL l 29),.L (List.set (gL l 30) (0+((Int.toNat (gI l 10))*1)) (gI B 0))])))
 (fun _=>none)) j)))
 (fun _=>none)) j)))))))
 (ex 0 [.I (gI l 0),.I (gI l 1),.N (gN l 2),.N (gN l 4),.I (gI l 5),.I (gI l 6),.L (gL l 11),.I (gI l 12),.I (gI l 13),.I (gI l 14),.N (gN l 15),.LL (gLL l 16),.I (gI l 17),.I (gI l 18),.N (gN l 19),.N (gN l 20),.L (gL l 21),.N (gN l 22),.N (gN l 23),.I (gI l 24),.N (gN l 25),.L (gL l 26),.LB (gLB l 27),.L (gL l 28),.LL (gLL l 29),.L (gL l 30)])
theorem L102_8_4.e0:LEq L102_8_4.O L102_8_4.H 0 L102_8_4.s0:=by intro τ next κ l;kernel_rfl
def L102_8_4:LStep P Cf:=LStep.mk1 (by decide) L102_8_4.e0
def L102_8_4.b:Option τ:=runE L102_8_4 fuel κ t l
def L102_8_4.E:LEnt P:=LStep.E L102_8_4
def L102_8_5.H:LHead:=⟨false,false,14,417800,417800,492606979050583,25769805911,0,[(PS.mk (pI::pI::(rr 0)::us 1 ((pp 2)::us 1 ((pp 4)::us 3 (pI::(rr 13)::us 21 (pI::pI::us 11 (qR::pI::pI::us 50 [])))))) mo19Xc)],[((Out.exit 2),(PS.mk (pI::pI::(rr 0)::us 1 ((pp 2)::us 1 ((pp 4)::us 4 ((rr 13)::us 21 (pI::pI::us 64 []))))) mo19Xc))]⟩
def L102_8_5.O:Orc P:=⟨[T104.E,T103.E],[],[],40⟩
def L102_8_5.s0:Option τ :=
 br (ltI (gI l 10) (gI l 9))
 (ck (((leI 0 (gI l 10))&&(ltI (gI l 10) (gN l 7)))&&true)
 (ck (ltN ((Int.toNat (gI l 10))*1) (List.length (gL l 8)))
 (ck (((leI 0 (gI l 10))&&(ltI (gI l 10) (gN l 4)))&&true)
 (ck (ltN (0+((Int.toNat (gI l 10))*1)) (List.length (gL l 31)))
 (ck (((eqM (gN l 19) (List.length (List.take ((gN l 19)*1) (List.drop 0 (gL l 26)))))&&true)&&true)
 (T104 [.I (gI l 17),.I (gI l 18),.L (List.take ((gN l 19)*1) (List.drop 0 (gL l 26))),.I (gI l 3),.I (List.getD (gL l 8) ((Int.toNat (gI l 10))*1) 0)]
 (fun j A=>(sw (ck (((eqM (gN l 19) (List.length (List.take ((gN l 19)*1) (List.drop 0 (gL l 26)))))&&true)&&true)
 (T103 [.I (gI l 17),.I (gI l 18),.L (List.take ((gN l 19)*1) (List.drop 0 (gL l 26))),.I (List.getD (gL l 31) (0+((Int.toNat (gI l 10))*1)) 0),.I (gI A 0)]
 (fun j B=>(sw (ck (((leI 0 (gI l 10))&&(ltI (gI l 10) (gN l 4)))&&true)
 (ck ((leN ((0+((Int.toNat (gI l 10))*1))+1) (List.length (gL l 31)))&&true)
 (nx 0 [.I (gI l 0),.I (gI l 1),.N (gN l 2),.I (gI l 3),.N (gN l 4),.I (gI l 5),.I (gI l 6),.N (gN l 7),.L (gL l 8),.I (gI l 9),.I (wr .i64 ((gI l 10)+1)),.L (gL l 11),.I (gI l 12),.I (gI l 13),.I (gI l 14),.N (gN l 15),.LL (gLL l 16),.I (gI l 17),.I (gI l 18),.N (gN l 19),.N (gN l 20),.L (gL l 21),.N (gN l 22),.N (gN l 23),.I (gI l 24),.N (gN l 25),.L (gL l 26),.LB (gLB l 27),.L (gL l 28),.LL (gLL l 29),.LL (gLL l 30),.L (List.set (gL l 31) (0+((Int.toNat (gI l 10))*1)) (gI B 0))])))
 (fun _=>none)) j)))
 (fun _=>none)) j)))))))
 (ex 0 [.I (gI l 0),.I (gI l 1),.N (gN l 2),.N (gN l 4),.I (gI l 5),.I (gI l 6),.L (gL l 11),.I (gI l 12),.I (gI l 13),.I (gI l 14),.N (gN l 15),.LL (gLL l 16),.I (gI l 17),.I (gI l 18),.N (gN l 19),.N (gN l 20),.L (gL l 21),.N (gN l 22),.N (gN l 23),.I (gI l 24),.N (gN l 25),.L (gL l 26),.LB (gLB l 27),.L (gL l 28),.LL (gLL l 29),.LL (gLL l 30),.L (gL l 31)])
theorem L102_8_5.e0:LEq L102_8_5.O L102_8_5.H 0 L102_8_5.s0:=by intro τ next κ l;kernel_rfl
def L102_8_5:LStep P Cf:=LStep.mk1 (by decide) L102_8_5.e0
def L102_8_5.b:Option τ:=runE L102_8_5 fuel κ t l
def L102_8_5.E:LEnt P:=LStep.E L102_8_5
def L102_8_6.H:LHead:=⟨false,false,14,417800,417800,492606979050583,25769805911,0,[(PS.mk (pI::pI::(rr 0)::us 1 ((pp 2)::us 1 ((pp 4)::us 3 (pI::(rr 13)::us 21 (pI::pI::us 11 (qR::pI::pI::us 50 [])))))) mo20Xc)],[((Out.exit 2),(PS.mk (pI::pI::(rr 0)::us 1 ((pp 2)::us 1 ((pp 4)::us 4 ((rr 13)::us 21 (pI::pI::us 64 []))))) mo20Xc))]⟩
def L102_8_6.O:Orc P:=⟨[T104.E,T103.E],[],[],40⟩
def L102_8_6.s0:Option τ :=
 br (ltI (gI l 10) (gI l 9))
 (ck (((leI 0 (gI l 10))&&(ltI (gI l 10) (gN l 7)))&&true)
 (ck (ltN ((Int.toNat (gI l 10))*1) (List.length (gL l 8)))
 (ck (((leI 0 (gI l 10))&&(ltI (gI l 10) (gN l 4)))&&true)
 (ck (ltN (0+((Int.toNat (gI l 10))*1)) (List.length (gL l 30)))
 (ck (((eqM (gN l 19) (List.length (List.take ((gN l 19)*1) (List.drop 0 (gL l 26)))))&&true)&&true)
 (T104 [.I (gI l 17),.I (gI l 18),.L (List.take ((gN l 19)*1) (List.drop 0 (gL l 26))),.I (gI l 3),.I (List.getD (gL l 8) ((Int.toNat (gI l 10))*1) 0)]
 (fun j A=>(sw (ck (((eqM (gN l 19) (List.length (List.take ((gN l 19)*1) (List.drop 0 (gL l 26)))))&&true)&&true)
 (T103 [.I (gI l 17),.I (gI l 18),.L (List.take ((gN l 19)*1) (List.drop 0 (gL l 26))),.I (List.getD (gL l 30) (0+((Int.toNat (gI l 10))*1)) 0),.I (gI A 0)]
 (fun j B=>(sw (ck (((leI 0 (gI l 10))&&(ltI (gI l 10) (gN l 4)))&&true)
 (ck ((leN ((0+((Int.toNat (gI l 10))*1))+1) (List.length (gL l 30)))&&true)
 (nx 0 [.I (gI l 0),.I (gI l 1),.N (gN l 2),.I (gI l 3),.N (gN l 4),.I (gI l 5),.I (gI l 6),.N (gN l 7),.L (gL l 8),.I (gI l 9),.I (wr .i64 ((gI l 10)+1)),.L (gL l 11),.I (gI l 12),.I (gI l 13),.I (gI l 14),.N (gN l 15),.LL (gLL l 16),.I (gI l 17),.I (gI l 18),.N (gN l 19),.N (gN l 20),.L (gL l 21),.N (gN l 22),.N (gN l 23),.I (gI l 24),.N (gN l 25),.L (gL l 26),.LB (gLB l 27),.L (gL l 28),.LL (gLL l 29),.L (List.set (gL l 30) (0+((Int.toNat (gI l 10))*1)) (gI B 0))])))
 (fun _=>none)) j)))
 (fun _=>none)) j)))))))
 (ex 0 [.I (gI l 0),.I (gI l 1),.N (gN l 2),.N (gN l 4),.I (gI l 5),.I (gI l 6),.L (gL l 11),.I (gI l 12),.I (gI l 13),.I (gI l 14),.N (gN l 15),.LL (gLL l 16),.I (gI l 17),.I (gI l 18),.N (gN l 19),.N (gN l 20),.L (gL l 21),.N (gN l 22),.N (gN l 23),.I (gI l 24),.N (gN l 25),.L (gL l 26),.LB (gLB l 27),.L (gL l 28),.LL (gLL l 29),.L (gL l 30)])
theorem L102_8_6.e0:LEq L102_8_6.O L102_8_6.H 0 L102_8_6.s0:=by intro τ next κ l;kernel_rfl
def L102_8_6:LStep P Cf:=LStep.mk1 (by decide) L102_8_6.e0
def L102_8_6.b:Option τ:=runE L102_8_6 fuel κ t l
def L102_8_6.E:LEnt P:=LStep.E L102_8_6
def S102_3.H:SHead:=⟨102,[pI,pI,(rr 0)],[(pp 1),(pp 2),(pp 3),(pp 4)],mo23Xc,[((PV2.tup []),mo23Xc),((PV2.tup []),[zI,(oG [pI]),(oG [(pp 5)]),(oG [(PV2.fn 69 [(p1 6),(p1 7)])]),(oG [(PV2.fn 102 [(p1 1),(p1 2),(p1 3),(p1 4)])]),(oG [pI,pI,qM,pI,pI,(rr 8),qR,(rr 9),(rr 10)]),(oG [pI]),(oG [(rr 12)]),oI,oB,oI,oM,oM]),((PV2.tup []),[zI,(oG [pI]),(oG [(pp 5)]),(oG [(PV2.fn 69 [(p1 6),(p1 7)])]),(oG [(PV2.fn 102 [(p1 1),(p1 2),(p1 3),(p1 4)])]),(oG [pI,pI,qM,pI,pI,(rr 8),qR,(rr 9),(rr 10)]),(oG [pI]),(oG [(rr 12)]),oI,oB,oI,PO.dead,oM]),((PV2.tup []),mo22Xc),((PV2.tup []),mo21Xc)]⟩
def L102_4_3.H:LHead:=⟨false,false,12,417796,417796,25769803863,0,0,[(PS.mk (pI::pI::(rr 0)::us 1 ((pp 2)::us 1 ((pp 4)::us 26 (pI::pI::us 64 [])))) mo23Xc),(PS.mk (pI::pI::(rr 0)::us 1 ((pp 2)::us 1 ((pp 4)::us 26 (pI::pI::us 64 [])))) mo22Xc),(PS.mk (pI::pI::(rr 0)::us 1 ((pp 2)::us 1 ((pp 4)::us 26 (pI::pI::us 64 [])))) mo21Xc)],[((Out.exit 0),(PS.mk (us 99 []) mo23Xc)),((Out.exit 0),(PS.mk (us 99 []) mo22Xc)),((Out.exit 0),(PS.mk (us 99 []) mo21Xc))]⟩
def L102_4_3.O (R:SDyn P S102_3.H):Orc P:=⟨[F71.E],[L102_8_4.E,L102_8_5.E,L102_8_6.E],[S70_0.E,⟨S102_3.H,R⟩],40⟩
def L102_4_3.s0 (R:SDyn P S102_3.H) {τ:Type} (next ex:Nat→LS_→Option τ) (l:LS_):Option τ :=
 br (ltI (gI l 4) (gI l 3))
 (ck ((eqM (gN l 2) (List.length (List.take ((gN l 2)*1) (List.drop 0 (gL l 5)))))&&true)
 (F71 [.L (List.take ((gN l 2)*1) (List.drop 0 (gL l 5)))]
 (fun j A=>(sw (ck (((leI 0 (gI l 0))&&(ltI (gI l 0) (gN l 9)))&&true)
 (ck (ltN ((Int.toNat (gI l 0))*1) (List.length (gLL l 10)))
 (L102_8_4.b 0 [.I (gI l 0),.I (gI l 1),.N (gN l 2),.I (gI l 4),.N (gN A 0),.I (gI l 3),.I (gI l 4),.N (List.length (List.getD (gLL l 10) ((Int.toNat (gI l 0))*1) [])),.L (List.getD (gLL l 10) ((Int.toNat (gI l 0))*1) []),.I (((List.length (List.getD (gLL l 10) ((Int.toNat (gI l 0))*1) [])):Nat):Int),.I 0,.L (gL l 5),.I (gI l 6),.I (gI l 7),.I (gI l 8),.N (gN l 9),.LL (gLL l 10),.I (gI l 11),.I (gI l 12),.N (gN l 13),.N (gN l 14),.L (gL l 15),.N (gN l 16),.N (gN l 17),.I (gI l 18),.N (gN l 19),.L (gL l 20),.LB (gLB l 21),.L (gL l 22),.LL (gLL l 23),.L (gL A 1)]
 (fun j B=>(sw (ck (((leI 0 (gI B 0))&&(ltI (gI B 0) (gN B 18)))&&true)
 (ck (ltN (0+((Int.toNat (gI B 0))*1)) (List.length (gL B 23)))
 (ck (((leI 0 (wr .i64 ((gI B 0)+1)))&&(ltI (wr .i64 ((gI B 0)+1)) (((gN B 18):Nat):Int)))&&true)
 (ck (ltN (0+((Int.toNat (wr .i64 ((gI B 0)+1)))*1)) (List.length (gL B 23)))
 (S70_0 [.N (gN B 3),.I (List.getD (gL B 23) (0+((Int.toNat (gI B 0))*1)) 0),.I (List.getD (gL B 23) (0+((Int.toNat (wr .i64 ((gI B 0)+1)))*1)) 0),.I (gI B 8),.I (gI B 9),.N (gN B 10),.LL (gLL B 11),.I (gI B 12),.I (gI B 13),.N (gN B 14),.N (gN B 15),.L (gL B 16),.N (gN B 17),.N (gN B 18),.L (gL B 25),.L (gL B 21),.LB (gLB B 22),.L (gL B 23)]
 (fun j C=>(sw (ck (((eqI (gI B 8) (gI C 1))&&((eqI (gI B 9) (gI C 2))&&(((eqM (gN B 10) (gN C 3))&&(decide ((gLL B 11)=(gLL C 4))))&&((eqI (gI B 12) (gI C 5))&&((eqI (gI B 13) (gI C 6))&&(((eqM (gN B 14) (gN C 7))&&true)&&(((eqM (gN B 15) (gN C 8))&&(decide ((gL B 16)=(gL C 9))))&&(((eqM (gN B 17) (gN C 10))&&true)&&(((eqM (gN B 18) (gN C 11))&&true)&&true)))))))))&&((decide ((gL B 21)=(gL C 13)))&&((decide ((gLB B 22)=(gLB C 14)))&&((decide ((gL B 23)=(gL C 15)))&&((decide ((gL B 25)=(gL C 12)))&&true)))))
 (R.b [.I (wr .i64 ((gI B 0)+1)),.I (wr .i64 ((gI B 1)+(gI C 0))),.N (gN B 3),.L (gL C 12),.I (gI B 7),.I (gI C 1),.I (gI C 2),.N (gN C 3),.LL (gLL C 4),.I (gI C 5),.I (gI C 6),.N (gN C 7),.N (gN C 8),.L (gL C 9),.N (gN C 10),.N (gN C 11),.I (gI B 19),.N (gN B 20),.L (gL C 13),.LB (gLB C 14),.L (gL C 15),.LL (gLL B 24)]
 (fun j D=>(sw (next 0 [.I (gI B 0),.I (gI B 1),.N (gN B 2),.I (gI B 4),.I (wr .i64 ((gI B 5)+1)),.L (gL B 6),.I (gI D 1),.I (gI D 2),.I (gI D 3),.N (gN D 4),.LL (gLL D 5),.I (gI D 6),.I (gI D 7),.N (gN D 8),.N (gN D 9),.L (gL D 10),.N (gN D 11),.N (gN D 12),.I (gI D 13),.N (gN D 14),.L (gL D 15),.LB (gLB D 16),.L (gL D 17),.LL (gLL D 18)])
 (sw (next 1 [.I (gI B 0),.I (gI B 1),.N (gN B 2),.I (gI B 4),.I (wr .i64 ((gI B 5)+1)),.L (gL B 6),.I (gI D 1),.I (gI D 2),.I (gI D 3),.N (gN D 4),.LL (gLL D 5),.I (gI D 6),.I (gI D 7),.N (gN D 8),.N (gN D 9),.L (gL D 10),.N (gN D 11),.N (gN D 12),.I (gI D 13),.N (gN D 14),.L (gL D 15),.LB (gLB D 16),.L (gL D 17),.LL (gLL D 18),.LL (gLL D 19)])
 (sw (next 2 [.I (gI B 0),.I (gI B 1),.N (gN B 2),.I (gI B 4),.I (wr .i64 ((gI B 5)+1)),.L (gL B 6),.I (gI D 1),.I (gI D 2),.I (gI D 3),.N (gN D 4),.LL (gLL D 5),.I (gI D 6),.I (gI D 7),.N (gN D 8),.N (gN D 9),.L (gL D 10),.N (gN D 11),.N (gN D 12),.I (gI D 13),.N (gN D 14),.L (gL D 15),.LB (gLB D 16),.L (gL D 17),.LL (gLL D 18)])
 (sw (next 1 [.I (gI B 0),.I (gI B 1),.N (gN B 2),.I (gI B 4),.I (wr .i64 ((gI B 5)+1)),.L (gL B 6),.I (gI D 1),.I (gI D 2),.I (gI D 3),.N (gN D 4),.LL (gLL D 5),.I (gI D 6),.I (gI D 7),.N (gN D 8),.N (gN D 9),.L (gL D 10),.N (gN D 11),.N (gN D 12),.I (gI D 13),.N (gN D 14),.L (gL D 15),.LB (gLB D 16),.L (gL D 17),.LL (gLL D 18),.LL (gLL D 19)])
 (sw (next 2 [.I (gI B 0),.I (gI B 1),.N (gN B 2),.I (gI B 4),.I (wr .i64 ((gI B 5)+1)),.L (gL B 6),.I (gI D 1),.I (gI D 2),.I (gI D 3),.N (gN D 4),.LL (gLL D 5),.I (gI D 6),.I (gI D 7),.N (gN D 8),.N (gN D 9),.L (gL D 10),.N (gN D 11),.N (gN D 12),.I (gI D 13),.N (gN D 14),.L (gL D 15),.LB (gLB D 16),.L (gL D 17),.LL (gLL D 18)])
 (fun _=>none)))))) j)))
 (fun _=>none)) j))))))
 (fun _=>none)) j))))
 (fun _=>none)) j)))
 (ex 0 [.L (gL l 5),.I (gI l 6),.I (gI l 7),.I (gI l 8),.N (gN l 9),.LL (gLL l 10),.I (gI l 11),.I (gI l 12),.N (gN l 13),.N (gN l 14),.L (gL l 15),.N (gN l 16),.N (gN l 17),.I (gI l 18),.N (gN l 19),.L (gL l 20),.LB (gLB l 21),.L (gL l 22),.LL (gLL l 23)])
theorem L102_4_3.e0 (R:SDyn P S102_3.H):LEq (L102_4_3.O R) L102_4_3.H 0 (L102_4_3.s0 R):=by intro τ next κ l;kernel_rfl
def L102_4_3.s1 (R:SDyn P S102_3.H) {τ:Type} (next ex:Nat→LS_→Option τ) (l:LS_):Option τ :=
 br (ltI (gI l 4) (gI l 3))
 (ck ((eqM (gN l 2) (List.length (List.take ((gN l 2)*1) (List.drop 0 (gL l 5)))))&&true)
 (F71 [.L (List.take ((gN l 2)*1) (List.drop 0 (gL l 5)))]
 (fun j A=>(sw (ck (((leI 0 (gI l 0))&&(ltI (gI l 0) (gN l 9)))&&true)
 (ck (ltN ((Int.toNat (gI l 0))*1) (List.length (gLL l 10)))
 (L102_8_5.b 0 [.I (gI l 0),.I (gI l 1),.N (gN l 2),.I (gI l 4),.N (gN A 0),.I (gI l 3),.I (gI l 4),.N (List.length (List.getD (gLL l 10) ((Int.toNat (gI l 0))*1) [])),.L (List.getD (gLL l 10) ((Int.toNat (gI l 0))*1) []),.I (((List.length (List.getD (gLL l 10) ((Int.toNat (gI l 0))*1) [])):Nat):Int),.I 0,.L (gL l 5),.I (gI l 6),.I (gI l 7),.I (gI l 8),.N (gN l 9),.LL (gLL l 10),.I (gI l 11),.I (gI l 12),.N (gN l 13),.N (gN l 14),.L (gL l 15),.N (gN l 16),.N (gN l 17),.I (gI l 18),.N (gN l 19),.L (gL l 20),.LB (gLB l 21),.L (gL l 22),.LL (gLL l 23),.LL (gLL l 24),.L (gL A 1)]
 (fun j B=>(sw (ck (((leI 0 (gI B 0))&&(ltI (gI B 0) (gN B 18)))&&true)
 (ck (ltN (0+((Int.toNat (gI B 0))*1)) (List.length (gL B 23)))
 (ck (((leI 0 (wr .i64 ((gI B 0)+1)))&&(ltI (wr .i64 ((gI B 0)+1)) (((gN B 18):Nat):Int)))&&true)
 (ck (ltN (0+((Int.toNat (wr .i64 ((gI B 0)+1)))*1)) (List.length (gL B 23)))
 (S70_0 [.N (gN B 3),.I (List.getD (gL B 23) (0+((Int.toNat (gI B 0))*1)) 0),.I (List.getD (gL B 23) (0+((Int.toNat (wr .i64 ((gI B 0)+1)))*1)) 0),.I (gI B 8),.I (gI B 9),.N (gN B 10),.LL (gLL B 11),.I (gI B 12),.I (gI B 13),.N (gN B 14),.N (gN B 15),.L (gL B 16),.N (gN B 17),.N (gN B 18),.L (gL B 26),.L (gL B 21),.LB (gLB B 22),.L (gL B 23)]
 (fun j C=>(sw (ck (((eqI (gI B 8) (gI C 1))&&((eqI (gI B 9) (gI C 2))&&(((eqM (gN B 10) (gN C 3))&&(decide ((gLL B 11)=(gLL C 4))))&&((eqI (gI B 12) (gI C 5))&&((eqI (gI B 13) (gI C 6))&&(((eqM (gN B 14) (gN C 7))&&true)&&(((eqM (gN B 15) (gN C 8))&&(decide ((gL B 16)=(gL C 9))))&&(((eqM (gN B 17) (gN C 10))&&true)&&(((eqM (gN B 18) (gN C 11))&&true)&&true)))))))))&&((decide ((gL B 21)=(gL C 13)))&&((decide ((gLB B 22)=(gLB C 14)))&&((decide ((gL B 23)=(gL C 15)))&&((decide ((gL B 26)=(gL C 12)))&&true)))))
 (R.b [.I (wr .i64 ((gI B 0)+1)),.I (wr .i64 ((gI B 1)+(gI C 0))),.N (gN B 3),.L (gL C 12),.I (gI B 7),.I (gI C 1),.I (gI C 2),.N (gN C 3),.LL (gLL C 4),.I (gI C 5),.I (gI C 6),.N (gN C 7),.N (gN C 8),.L (gL C 9),.N (gN C 10),.N (gN C 11),.I (gI B 19),.N (gN B 20),.L (gL C 13),.LB (gLB C 14),.L (gL C 15),.LL (gLL B 25)]
 (fun j D=>(sw (next 1 [.I (gI B 0),.I (gI B 1),.N (gN B 2),.I (gI B 4),.I (wr .i64 ((gI B 5)+1)),.L (gL B 6),.I (gI D 1),.I (gI D 2),.I (gI D 3),.N (gN D 4),.LL (gLL D 5),.I (gI D 6),.I (gI D 7),.N (gN D 8),.N (gN D 9),.L (gL D 10),.N (gN D 11),.N (gN D 12),.I (gI D 13),.N (gN D 14),.L (gL D 15),.LB (gLB D 16),.L (gL D 17),.LL (gLL B 24),.LL (gLL D 18)])
 (sw (next 1 [.I (gI B 0),.I (gI B 1),.N (gN B 2),.I (gI B 4),.I (wr .i64 ((gI B 5)+1)),.L (gL B 6),.I (gI D 1),.I (gI D 2),.I (gI D 3),.N (gN D 4),.LL (gLL D 5),.I (gI D 6),.I (gI D 7),.N (gN D 8),.N (gN D 9),.L (gL D 10),.N (gN D 11),.N (gN D 12),.I (gI D 13),.N (gN D 14),.L (gL D 15),.LB (gLB D 16),.L (gL D 17),.LL (gLL B 24),.LL (gLL D 19)])
 (sw (next 1 [.I (gI B 0),.I (gI B 1),.N (gN B 2),.I (gI B 4),.I (wr .i64 ((gI B 5)+1)),.L (gL B 6),.I (gI D 1),.I (gI D 2),.I (gI D 3),.N (gN D 4),.LL (gLL D 5),.I (gI D 6),.I (gI D 7),.N (gN D 8),.N (gN D 9),.L (gL D 10),.N (gN D 11),.N (gN D 12),.I (gI D 13),.N (gN D 14),.L (gL D 15),.LB (gLB D 16),.L (gL D 17),.LL (gLL B 24),.LL (gLL D 18)])
 (sw (next 1 [.I (gI B 0),.I (gI B 1),.N (gN B 2),.I (gI B 4),.I (wr .i64 ((gI B 5)+1)),.L (gL B 6),.I (gI D 1),.I (gI D 2),.I (gI D 3),.N (gN D 4),.LL (gLL D 5),.I (gI D 6),.I (gI D 7),.N (gN D 8),.N (gN D 9),.L (gL D 10),.N (gN D 11),.N (gN D 12),.I (gI D 13),.N (gN D 14),.L (gL D 15),.LB (gLB D 16),.L (gL D 17),.LL (gLL B 24),.LL (gLL D 19)])
 (sw (next 1 [.I (gI B 0),.I (gI B 1),.N (gN B 2),.I (gI B 4),.I (wr .i64 ((gI B 5)+1)),.L (gL B 6),.I (gI D 1),.I (gI D 2),.I (gI D 3),.N (gN D 4),.LL (gLL D 5),.I (gI D 6),.I (gI D 7),.N (gN D 8),.N (gN D 9),.L (gL D 10),.N (gN D 11),.N (gN D 12),.I (gI D 13),.N (gN D 14),.L (gL D 15),.LB (gLB D 16),.L (gL D 17),.LL (gLL B 24),.LL (gLL D 18)])
 (fun _=>none)))))) j)))
 (fun _=>none)) j))))))
 (fun _=>none)) j))))
 (fun _=>none)) j)))
 (ex 1 [.L (gL l 5),.I (gI l 6),.I (gI l 7),.I (gI l 8),.N (gN l 9),.LL (gLL l 10),.I (gI l 11),.I (gI l 12),.N (gN l 13),.N (gN l 14),.L (gL l 15),.N (gN l 16),.N (gN l 17),.I (gI l 18),.N (gN l 19),.L (gL l 20),.LB (gLB l 21),.L (gL l 22),.LL (gLL l 23),.LL (gLL l 24)])
theorem L102_4_3.e1 (R:SDyn P S102_3.H):LEq (L102_4_3.O R) L102_4_3.H 1 (L102_4_3.s1 R):=by intro τ next κ l;kernel_rfl
def L102_4_3.s2 (R:SDyn P S102_3.H) {τ:Type} (next ex:Nat→LS_→Option τ) (l:LS_):Option τ :=
 br (ltI (gI l 4) (gI l 3))
 (ck ((eqM (gN l 2) (List.length (List.take ((gN l 2)*1) (List.drop 0 (gL l 5)))))&&true)
 (F71 [.L (List.take ((gN l 2)*1) (List.drop 0 (gL l 5)))]
 (fun j A=>(sw (ck (((leI 0 (gI l 0))&&(ltI (gI l 0) (gN l 9)))&&true)
 (ck (ltN ((Int.toNat (gI l 0))*1) (List.length (gLL l 10)))
 (L102_8_6.b 0 [.I (gI l 0),.I (gI l 1),.N (gN l 2),.I (gI l 4),.N (gN A 0),.I (gI l 3),.I (gI l 4),.N (List.length (List.getD (gLL l 10) ((Int.toNat (gI l 0))*1) [])),.L (List.getD (gLL l 10) ((Int.toNat (gI l 0))*1) []),.I (((List.length (List.getD (gLL l 10) ((Int.toNat (gI l 0))*1) [])):Nat):Int),.I 0,.L (gL l 5),.I (gI l 6),.I (gI l 7),.I (gI l 8),.N (gN l 9),.LL (gLL l 10),.I (gI l 11),.I (gI l 12),.N (gN l 13),.N (gN l 14),.L (gL l 15),.N (gN l 16),.N (gN l 17),.I (gI l 18),.N (gN l 19),.L (gL l 20),.LB (gLB l 21),.L (gL l 22),.LL (gLL l 23),.L (gL A 1)]
 (fun j B=>(sw (ck (((leI 0 (gI B 0))&&(ltI (gI B 0) (gN B 18)))&&true)
 (ck (ltN (0+((Int.toNat (gI B 0))*1)) (List.length (gL B 23)))
 (ck (((leI 0 (wr .i64 ((gI B 0)+1)))&&(ltI (wr .i64 ((gI B 0)+1)) (((gN B 18):Nat):Int)))&&true)
 (ck (ltN (0+((Int.toNat (wr .i64 ((gI B 0)+1)))*1)) (List.length (gL B 23)))
 (S70_0 [.N (gN B 3),.I (List.getD (gL B 23) (0+((Int.toNat (gI B 0))*1)) 0),.I (List.getD (gL B 23) (0+((Int.toNat (wr .i64 ((gI B 0)+1)))*1)) 0),.I (gI B 8),.I (gI B 9),.N (gN B 10),.LL (gLL B 11),.I (gI B 12),.I (gI B 13),.N (gN B 14),.N (gN B 15),.L (gL B 16),.N (gN B 17),.N (gN B 18),.L (gL B 25),.L (gL B 21),.LB (gLB B 22),.L (gL B 23)]
 (fun j C=>(sw (ck (((eqI (gI B 8) (gI C 1))&&((eqI (gI B 9) (gI C 2))&&(((eqM (gN B 10) (gN C 3))&&(decide ((gLL B 11)=(gLL C 4))))&&((eqI (gI B 12) (gI C 5))&&((eqI (gI B 13) (gI C 6))&&(((eqM (gN B 14) (gN C 7))&&true)&&(((eqM (gN B 15) (gN C 8))&&(decide ((gL B 16)=(gL C 9))))&&(((eqM (gN B 17) (gN C 10))&&true)&&(((eqM (gN B 18) (gN C 11))&&true)&&true)))))))))&&((decide ((gL B 21)=(gL C 13)))&&((decide ((gLB B 22)=(gLB C 14)))&&((decide ((gL B 23)=(gL C 15)))&&((decide ((gL B 25)=(gL C 12)))&&true)))))
 (R.b [.I (wr .i64 ((gI B 0)+1)),.I (wr .i64 ((gI B 1)+(gI C 0))),.N (gN B 3),.L (gL C 12),.I (gI B 7),.I (gI C 1),.I (gI C 2),.N (gN C 3),.LL (gLL C 4),.I (gI C 5),.I (gI C 6),.N (gN C 7),.N (gN C 8),.L (gL C 9),.N (gN C 10),.N (gN C 11),.I (gI B 19),.N (gN B 20),.L (gL C 13),.LB (gLB C 14),.L (gL C 15),.LL (gLL B 24)]
 (fun j D=>(sw (next 2 [.I (gI B 0),.I (gI B 1),.N (gN B 2),.I (gI B 4),.I (wr .i64 ((gI B 5)+1)),.L (gL B 6),.I (gI D 1),.I (gI D 2),.I (gI D 3),.N (gN D 4),.LL (gLL D 5),.I (gI D 6),.I (gI D 7),.N (gN D 8),.N (gN D 9),.L (gL D 10),.N (gN D 11),.N (gN D 12),.I (gI D 13),.N (gN D 14),.L (gL D 15),.LB (gLB D 16),.L (gL D 17),.LL (gLL D 18)])
 (sw (next 2 [.I (gI B 0),.I (gI B 1),.N (gN B 2),.I (gI B 4),.I (wr .i64 ((gI B 5)+1)),.L (gL B 6),.I (gI D 1),.I (gI D 2),.I (gI D 3),.N (gN D 4),.LL (gLL D 5),.I (gI D 6),.I (gI D 7),.N (gN D 8),.N (gN D 9),.L (gL D 10),.N (gN D 11),.N (gN D 12),.I (gI D 13),.N (gN D 14),.L (gL D 15),.LB (gLB D 16),.L (gL D 17),.LL (gLL D 19)])
 (sw (next 2 [.I (gI B 0),.I (gI B 1),.N (gN B 2),.I (gI B 4),.I (wr .i64 ((gI B 5)+1)),.L (gL B 6),.I (gI D 1),.I (gI D 2),.I (gI D 3),.N (gN D 4),.LL (gLL D 5),.I (gI D 6),.I (gI D 7),.N (gN D 8),.N (gN D 9),.L (gL D 10),.N (gN D 11),.N (gN D 12),.I (gI D 13),.N (gN D 14),.L (gL D 15),.LB (gLB D 16),.L (gL D 17),.LL (gLL D 18)])
 (sw (next 2 [.I (gI B 0),.I (gI B 1),.N (gN B 2),.I (gI B 4),.I (wr .i64 ((gI B 5)+1)),.L (gL B 6),.I (gI D 1),.I (gI D 2),.I (gI D 3),.N (gN D 4),.LL (gLL D 5),.I (gI D 6),.I (gI D 7),.N (gN D 8),.N (gN D 9),.L (gL D 10),.N (gN D 11),.N (gN D 12),.I (gI D 13),.N (gN D 14),.L (gL D 15),.LB (gLB D 16),.L (gL D 17),.LL (gLL D 19)])
 (sw (next 2 [.I (gI B 0),.I (gI B 1),.N (gN B 2),.I (gI B 4),.I (wr .i64 ((gI B 5)+1)),.L (gL B 6),.I (gI D 1),.I (gI D 2),.I (gI D 3),.N (gN D 4),.LL (gLL D 5),.I (gI D 6),.I (gI D 7),.N (gN D 8),.N (gN D 9),.L (gL D 10),.N (gN D 11),.N (gN D 12),.I (gI D 13),.N (gN D 14),.L (gL D 15),.LB (gLB D 16),.L (gL D 17),.LL (gLL D 18)])
 (fun _=>none)))))) j)))
 (fun _=>none)) j))))))
 (fun _=>none)) j))))
 (fun _=>none)) j)))
 (ex 2 [.L (gL l 5),.I (gI l 6),.I (gI l 7),.I (gI l 8),.N (gN l 9),.LL (gLL l 10),.I (gI l 11),.I (gI l 12),.N (gN l 13),.N (gN l 14),.L (gL l 15),.N (gN l 16),.N (gN l 17),.I (gI l 18),.N (gN l 19),.L (gL l 20),.LB (gLB l 21),.L (gL l 22),.LL (gLL l 23)])
theorem L102_4_3.e2 (R:SDyn P S102_3.H):LEq (L102_4_3.O R) L102_4_3.H 2 (L102_4_3.s2 R):=by intro τ next κ l;kernel_rfl
def L102_4_3 (R:SDyn P S102_3.H):LStep P Cf:=LStep.mk3 (by decide) (L102_4_3.e0 R) (L102_4_3.e1 R) (L102_4_3.e2 R)
def L102_4_3.b (R:SDyn P S102_3.H) {τ:Type} (t:Nat) (l:LS_) (κ:Nat→LS_→Option τ):Option τ:=runE (L102_4_3 R) fuel κ t l
def L102_4_3.E (R:SDyn P S102_3.H):LEnt P:=LStep.E (L102_4_3 R)
def S102_3.O (R:SDyn P S102_3.H):Orc P:=⟨[],[L102_4_3.E R],[],40⟩
def S102_3.body (R:SDyn P S102_3.H) {τ:Type} (l:LS_) (k:Nat→LS_→Option τ):Option τ :=
 br (gtI (gI l 1) (gI l 4))
 (k 0 [.L (gL l 3),.I (gI l 4),.I (gI l 5),.I (gI l 6),.N (gN l 7),.LL (gLL l 8),.I (gI l 9),.I (gI l 10),.N (gN l 11),.N (gN l 12),.L (gL l 13),.N (gN l 14),.N (gN l 15),.I (gI l 16),.N (gN l 17),.L (gL l 18),.LB (gLB l 19),.L (gL l 20),.LL (gLL l 21)])
 (br ((gI l 0)==(((gN l 7):Nat):Int))
 (br (ltI (gI l 1) (gI l 16))
 (ck ((eqM (gN l 2) (List.length (List.take ((gN l 2)*1) (List.drop 0 (gL l 3)))))&&true)
 (k 1 [.L (gL l 3),.I (gI l 1),.I (gI l 5),.I (gI l 6),.N (gN l 7),.LL (gLL l 8),.I (gI l 9),.I (gI l 10),.N (gN l 11),.N (gN l 12),.L (gL l 13),.N (gN l 14),.N (gN l 15),.I (gI l 1),.N 1,.L (gL l 18),.LB (gLB l 19),.L (gL l 20),.LL (gLL l 21),.LL (List.take 1 (List.drop 0 [(List.take ((gN l 2)*1) (List.drop 0 (gL l 3)))]))]))
 (ck ((eqM (gN l 2) (List.length (List.take ((gN l 2)*1) (List.drop 0 (gL l 3)))))&&true)
 (ck (((((eqM (List.length (gLL l 21)) ((gN l 17)*1))&&true)&&(eqM 1 1))&&(leN (((gN l 17)+1)*25) 1099511627776))&&true)
 (k 2 [.L (gL l 3),.I (gI l 16),.I (gI l 5),.I (gI l 6),.N (gN l 7),.LL (gLL l 8),.I (gI l 9),.I (gI l 10),.N (gN l 11),.N (gN l 12),.L (gL l 13),.N (gN l 14),.N (gN l 15),.I (gI l 16),.N ((gN l 17)+1),.L (gL l 18),.LB (gLB l 19),.L (gL l 20),.LL ((gLL l 21)++(List.take 1 (List.drop 0 [(List.take ((gN l 2)*1) (List.drop 0 (gL l 3)))])))]))))
 (L102_4_3.b R 0 [.I (gI l 0),.I (gI l 1),.N (gN l 2),.I (gI l 5),.I 0,.L (gL l 3),.I (gI l 4),.I (gI l 5),.I (gI l 6),.N (gN l 7),.LL (gLL l 8),.I (gI l 9),.I (gI l 10),.N (gN l 11),.N (gN l 12),.L (gL l 13),.N (gN l 14),.N (gN l 15),.I (gI l 16),.N (gN l 17),.L (gL l 18),.LB (gLB l 19),.L (gL l 20),.LL (gLL l 21)]
 (fun j A=>(sw (k 0 [.L (gL A 0),.I (gI A 1),.I (gI A 2),.I (gI A 3),.N (gN A 4),.LL (gLL A 5),.I (gI A 6),.I (gI A 7),.N (gN A 8),.N (gN A 9),.L (gL A 10),.N (gN A 11),.N (gN A 12),.I (gI A 13),.N (gN A 14),.L (gL A 15),.LB (gLB A 16),.L (gL A 17),.LL (gLL A 18)])
 (sw (k 3 [.L (gL A 0),.I (gI A 1),.I (gI A 2),.I (gI A 3),.N (gN A 4),.LL (gLL A 5),.I (gI A 6),.I (gI A 7),.N (gN A 8),.N (gN A 9),.L (gL A 10),.N (gN A 11),.N (gN A 12),.I (gI A 13),.N (gN A 14),.L (gL A 15),.LB (gLB A 16),.L (gL A 17),.LL (gLL A 18),.LL (gLL A 19)])
 (sw (k 4 [.L (gL A 0),.I (gI A 1),.I (gI A 2),.I (gI A 3),.N (gN A 4),.LL (gLL A 5),.I (gI A 6),.I (gI A 7),.N (gN A 8),.N (gN A 9),.L (gL A 10),.N (gN A 11),.N (gN A 12),.I (gI A 13),.N (gN A 14),.L (gL A 15),.LB (gLB A 16),.L (gL A 17),.LL (gLL A 18)])
 (fun _=>none)))) j)))
theorem S102_3.eq (R:SDyn P S102_3.H):SEq (S102_3.O R) S102_3.H (S102_3.body R):=by intro τ l κ;kernel_rfl
def S102_3.next (R:SDyn P S102_3.H):SDyn P S102_3.H:=mkS (S102_3.eq R)
def S102_3.D (n:Nat):SDyn P S102_3.H:=Nat.rec ⟨fun _ _=>none,fun _ _ _ h=>nomatch h⟩ (fun _ R=>S102_3.next R) n
def S102_3:Option τ:=(S102_3.D fuel).b l k
def S102_3.E:SEnt P:=⟨S102_3.H,S102_3.D fuel⟩
def S102_2.H:SHead:=⟨102,[pI,pI,(rr 0)],[(pp 1),(pp 2),(pp 3),(pp 4)],mo24Xc,[((PV2.tup []),mo24Xc),((PV2.tup []),[zI,(oG [pI]),(oG [(pp 5)]),(oG [(PV2.fn 69 [(p1 6),(p1 7)])]),(oG [(PV2.fn 102 [(p1 1),(p1 2),(p1 3),(p1 4)])]),(oG [pI,pI,qM,pI,pI,(rr 8),qR,(rr 9),(rr 10)]),(oG [pI]),(oG [(rr 11)]),oI,oB,oI,oM]),((PV2.tup []),mo23Xc)]⟩
def L102_4_2.H:LHead:=⟨false,false,11,417796,417796,25769803863,0,0,[(PS.mk (pI::pI::(rr 0)::us 1 ((pp 2)::us 1 ((pp 4)::us 26 (pI::pI::us 64 [])))) mo24Xc),(PS.mk (pI::pI::(rr 0)::us 1 ((pp 2)::us 1 ((pp 4)::us 26 (pI::pI::us 64 [])))) mo23Xc)],[((Out.exit 0),(PS.mk (us 99 []) mo24Xc)),((Out.exit 0),(PS.mk (us 99 []) mo23Xc))]⟩
def L102_4_2.O (R:SDyn P S102_2.H):Orc P:=⟨[F71.E],[L102_8_3.E,L102_8_4.E],[S70_0.E,⟨S102_2.H,R⟩,S102_3.E],40⟩
def L102_4_2.s0 (R:SDyn P S102_2.H) {τ:Type} (next ex:Nat→LS_→Option τ) (l:LS_):Option τ :=
 br (ltI (gI l 4) (gI l 3))
 (ck ((eqM (gN l 2) (List.length (List.take ((gN l 2)*1) (List.drop 0 (gL l 5)))))&&true)
 (F71 [.L (List.take ((gN l 2)*1) (List.drop 0 (gL l 5)))]
 (fun j A=>(sw (ck (((leI 0 (gI l 0))&&(ltI (gI l 0) (gN l 9)))&&true)
 (ck (ltN ((Int.toNat (gI l 0))*1) (List.length (gLL l 10)))
 (L102_8_3.b 0 [.I (gI l 0),.I (gI l 1),.N (gN l 2),.I (gI l 4),.N (gN A 0),.I (gI l 3),.I (gI l 4),.N (List.length (List.getD (gLL l 10) ((Int.toNat (gI l 0))*1) [])),.L (List.getD (gLL l 10) ((Int.toNat (gI l 0))*1) []),.I (((List.length (List.getD (gLL l 10) ((Int.toNat (gI l 0))*1) [])):Nat):Int),.I 0,.L (gL l 5),.I (gI l 6),.I (gI l 7),.I (gI l 8),.N (gN l 9),.LL (gLL l 10),.I (gI l 11),.I (gI l 12),.N (gN l 13),.N (gN l 14),.L (gL l 15),.N (gN l 16),.N (gN l 17),.I (gI l 18),.L (gL l 19),.LB (gLB l 20),.L (gL l 21),.L (gL A 1)]
 (fun j B=>(sw (ck (((leI 0 (gI B 0))&&(ltI (gI B 0) (gN B 18)))&&true)
 (ck (ltN (0+((Int.toNat (gI B 0))*1)) (List.length (gL B 22)))
 (ck (((leI 0 (wr .i64 ((gI B 0)+1)))&&(ltI (wr .i64 ((gI B 0)+1)) (((gN B 18):Nat):Int)))&&true)
 (ck (ltN (0+((Int.toNat (wr .i64 ((gI B 0)+1)))*1)) (List.length (gL B 22)))
 (S70_0 [.N (gN B 3),.I (List.getD (gL B 22) (0+((Int.toNat (gI B 0))*1)) 0),.I (List.getD (gL B 22) (0+((Int.toNat (wr .i64 ((gI B 0)+1)))*1)) 0),.I (gI B 8),.I (gI B 9),.N (gN B 10),.LL (gLL B 11),.I (gI B 12),.I (gI B 13),.N (gN B 14),.N (gN B 15),.L (gL B 16),.N (gN B 17),.N (gN B 18),.L (gL B 23),.L (gL B 20),.LB (gLB B 21),.L (gL B 22)]
 (fun j C=>(sw (ck (((eqI (gI B 8) (gI C 1))&&((eqI (gI B 9) (gI C 2))&&(((eqM (gN B 10) (gN C 3))&&(decide ((gLL B 11)=(gLL C 4))))&&((eqI (gI B 12) (gI C 5))&&((eqI (gI B 13) (gI C 6))&&(((eqM (gN B 14) (gN C 7))&&true)&&(((eqM (gN B 15) (gN C 8))&&(decide ((gL B 16)=(gL C 9))))&&(((eqM (gN B 17) (gN C 10))&&true)&&(((eqM (gN B 18) (gN C 11))&&true)&&true)))))))))&&((decide ((gL B 20)=(gL C 13)))&&((decide ((gLB B 21)=(gLB C 14)))&&((decide ((gL B 22)=(gL C 15)))&&((decide ((gL B 23)=(gL C 12)))&&true)))))
 (R.b [.I (wr .i64 ((gI B 0)+1)),.I (wr .i64 ((gI B 1)+(gI C 0))),.N (gN B 3),.L (gL C 12),.I (gI B 7),.I (gI C 1),.I (gI C 2),.N (gN C 3),.LL (gLL C 4),.I (gI C 5),.I (gI C 6),.N (gN C 7),.N (gN C 8),.L (gL C 9),.N (gN C 10),.N (gN C 11),.I (gI B 19),.L (gL C 13),.LB (gLB C 14),.L (gL C 15)]
 (fun j D=>(sw (next 0 [.I (gI B 0),.I (gI B 1),.N (gN B 2),.I (gI B 4),.I (wr .i64 ((gI B 5)+1)),.L (gL B 6),.I (gI D 1),.I (gI D 2),.I (gI D 3),.N (gN D 4),.LL (gLL D 5),.I (gI D 6),.I (gI D 7),.N (gN D 8),.N (gN D 9),.L (gL D 10),.N (gN D 11),.N (gN D 12),.I (gI D 13),.L (gL D 14),.LB (gLB D 15),.L (gL D 16)])
 (sw (next 1 [.I (gI B 0),.I (gI B 1),.N (gN B 2),.I (gI B 4),.I (wr .i64 ((gI B 5)+1)),.L (gL B 6),.I (gI D 1),.I (gI D 2),.I (gI D 3),.N (gN D 4),.LL (gLL D 5),.I (gI D 6),.I (gI D 7),.N (gN D 8),.N (gN D 9),.L (gL D 10),.N (gN D 11),.N (gN D 12),.I (gI D 13),.N (gN D 14),.L (gL D 15),.LB (gLB D 16),.L (gL D 17),.LL (gLL D 18)])
 (sw (next 1 [.I (gI B 0),.I (gI B 1),.N (gN B 2),.I (gI B 4),.I (wr .i64 ((gI B 5)+1)),.L (gL B 6),.I (gI D 1),.I (gI D 2),.I (gI D 3),.N (gN D 4),.LL (gLL D 5),.I (gI D 6),.I (gI D 7),.N (gN D 8),.N (gN D 9),.L (gL D 10),.N (gN D 11),.N (gN D 12),.I (gI D 13),.N (gN D 14),.L (gL D 15),.LB (gLB D 16),.L (gL D 17),.LL (gLL D 18)])
 (fun _=>none)))) j)))
 (fun _=>none)) j))))))
 (fun _=>none)) j))))
 (fun _=>none)) j)))
 (ex 0 [.L (gL l 5),.I (gI l 6),.I (gI l 7),.I (gI l 8),.N (gN l 9),.LL (gLL l 10),.I (gI l 11),.I (gI l 12),.N (gN l 13),.N (gN l 14),.L (gL l 15),.N (gN l 16),.N (gN l 17),.I (gI l 18),.L (gL l 19),.LB (gLB l 20),.L (gL l 21)])
theorem L102_4_2.e0 (R:SDyn P S102_2.H):LEq (L102_4_2.O R) L102_4_2.H 0 (L102_4_2.s0 R):=by intro τ next κ l;kernel_rfl
def L102_4_2.s1 (R:SDyn P S102_2.H) {τ:Type} (next ex:Nat→LS_→Option τ) (l:LS_):Option τ :=
 br (ltI (gI l 4) (gI l 3))
 (ck ((eqM (gN l 2) (List.length (List.take ((gN l 2)*1) (List.drop 0 (gL l 5)))))&&true)
 (F71 [.L (List.take ((gN l 2)*1) (List.drop 0 (gL l 5)))]
 (fun j A=>(sw (ck (((leI 0 (gI l 0))&&(ltI (gI l 0) (gN l 9)))&&true)
 (ck (ltN ((Int.toNat (gI l 0))*1) (List.length (gLL l 10)))
 (L102_8_4.b 0 [.I (gI l 0),.I (gI l 1),.N (gN l 2),.I (gI l 4),.N (gN A 0),.I (gI l 3),.I (gI l 4),.N (List.length (List.getD (gLL l 10) ((Int.toNat (gI l 0))*1) [])),.L (List.getD (gLL l 10) ((Int.toNat (gI l 0))*1) []),.I (((List.length (List.getD (gLL l 10) ((Int.toNat (gI l 0))*1) [])):Nat):Int),.I 0,.L (gL l 5),.I (gI l 6),.I (gI l 7),.I (gI l 8),.N (gN l 9),.LL (gLL l 10),.I (gI l 11),.I (gI l 12),.N (gN l 13),.N (gN l 14),.L (gL l 15),.N (gN l 16),.N (gN l 17),.I (gI l 18),.N (gN l 19),.L (gL l 20),.LB (gLB l 21),.L (gL l 22),.LL (gLL l 23),.L (gL A 1)]
 (fun j B=>(sw (ck (((leI 0 (gI B 0))&&(ltI (gI B 0) (gN B 18)))&&true)
 (ck (ltN (0+((Int.toNat (gI B 0))*1)) (List.length (gL B 23)))
 (ck (((leI 0 (wr .i64 ((gI B 0)+1)))&&(ltI (wr .i64 ((gI B 0)+1)) (((gN B 18):Nat):Int)))&&true)
 (ck (ltN (0+((Int.toNat (wr .i64 ((gI B 0)+1)))*1)) (List.length (gL B 23)))
 (S70_0 [.N (gN B 3),.I (List.getD (gL B 23) (0+((Int.toNat (gI B 0))*1)) 0),.I (List.getD (gL B 23) (0+((Int.toNat (wr .i64 ((gI B 0)+1)))*1)) 0),.I (gI B 8),.I (gI B 9),.N (gN B 10),.LL (gLL B 11),.I (gI B 12),.I (gI B 13),.N (gN B 14),.N (gN B 15),.L (gL B 16),.N (gN B 17),.N (gN B 18),.L (gL B 25),.L (gL B 21),.LB (gLB B 22),.L (gL B 23)]
 (fun j C=>(sw (ck (((eqI (gI B 8) (gI C 1))&&((eqI (gI B 9) (gI C 2))&&(((eqM (gN B 10) (gN C 3))&&(decide ((gLL B 11)=(gLL C 4))))&&((eqI (gI B 12) (gI C 5))&&((eqI (gI B 13) (gI C 6))&&(((eqM (gN B 14) (gN C 7))&&true)&&(((eqM (gN B 15) (gN C 8))&&(decide ((gL B 16)=(gL C 9))))&&(((eqM (gN B 17) (gN C 10))&&true)&&(((eqM (gN B 18) (gN C 11))&&true)&&true)))))))))&&((decide ((gL B 21)=(gL C 13)))&&((decide ((gLB B 22)=(gLB C 14)))&&((decide ((gL B 23)=(gL C 15)))&&((decide ((gL B 25)=(gL C 12)))&&true)))))
 (S102_3 [.I (wr .i64 ((gI B 0)+1)),.I (wr .i64 ((gI B 1)+(gI C 0))),.N (gN B 3),.L (gL C 12),.I (gI B 7),.I (gI C 1),.I (gI C 2),.N (gN C 3),.LL (gLL C 4),.I (gI C 5),.I (gI C 6),.N (gN C 7),.N (gN C 8),.L (gL C 9),.N (gN C 10),.N (gN C 11),.I (gI B 19),.N (gN B 20),.L (gL C 13),.LB (gLB C 14),.L (gL C 15),.LL (gLL B 24)]
 (fun j D=>(sw (next 1 [.I (gI B 0),.I (gI B 1),.N (gN B 2),.I (gI B 4),.I (wr .i64 ((gI B 5)+1)),.L (gL B 6),.I (gI D 1),.I (gI D 2),.I (gI D 3),.N (gN D 4),.LL (gLL D 5),.I (gI D 6),.I (gI D 7),.N (gN D 8),.N (gN D 9),.L (gL D 10),.N (gN D 11),.N (gN D 12),.I (gI D 13),.N (gN D 14),.L (gL D 15),.LB (gLB D 16),.L (gL D 17),.LL (gLL D 18)])
 (sw (next 1 [.I (gI B 0),.I (gI B 1),.N (gN B 2),.I (gI B 4),.I (wr .i64 ((gI B 5)+1)),.L (gL B 6),.I (gI D 1),.I (gI D 2),.I (gI D 3),.N (gN D 4),.LL (gLL D 5),.I (gI D 6),.I (gI D 7),.N (gN D 8),.N (gN D 9),.L (gL D 10),.N (gN D 11),.N (gN D 12),.I (gI D 13),.N (gN D 14),.L (gL D 15),.LB (gLB D 16),.L (gL D 17),.LL (gLL D 19)])
 (sw (next 1 [.I (gI B 0),.I (gI B 1),.N (gN B 2),.I (gI B 4),.I (wr .i64 ((gI B 5)+1)),.L (gL B 6),.I (gI D 1),.I (gI D 2),.I (gI D 3),.N (gN D 4),.LL (gLL D 5),.I (gI D 6),.I (gI D 7),.N (gN D 8),.N (gN D 9),.L (gL D 10),.N (gN D 11),.N (gN D 12),.I (gI D 13),.N (gN D 14),.L (gL D 15),.LB (gLB D 16),.L (gL D 17),.LL (gLL D 18)])
 (sw (next 1 [.I (gI B 0),.I (gI B 1),.N (gN B 2),.I (gI B 4),.I (wr .i64 ((gI B 5)+1)),.L (gL B 6),.I (gI D 1),.I (gI D 2),.I (gI D 3),.N (gN D 4),.LL (gLL D 5),.I (gI D 6),.I (gI D 7),.N (gN D 8),.N (gN D 9),.L (gL D 10),.N (gN D 11),.N (gN D 12),.I (gI D 13),.N (gN D 14),.L (gL D 15),.LB (gLB D 16),.L (gL D 17),.LL (gLL D 19)])
 (sw (next 1 [.I (gI B 0),.I (gI B 1),.N (gN B 2),.I (gI B 4),.I (wr .i64 ((gI B 5)+1)),.L (gL B 6),.I (gI D 1),.I (gI D 2),.I (gI D 3),.N (gN D 4),.LL (gLL D 5),.I (gI D 6),.I (gI D 7),.N (gN D 8),.N (gN D 9),.L (gL D 10),.N (gN D 11),.N (gN D 12),.I (gI D 13),.N (gN D 14),.L (gL D 15),.LB (gLB D 16),.L (gL D 17),.LL (gLL D 18)])
 (fun _=>none)))))) j)))
 (fun _=>none)) j))))))
 (fun _=>none)) j))))
 (fun _=>none)) j)))
 (ex 1 [.L (gL l 5),.I (gI l 6),.I (gI l 7),.I (gI l 8),.N (gN l 9),.LL (gLL l 10),.I (gI l 11),.I (gI l 12),.N (gN l 13),.N (gN l 14),.L (gL l 15),.N (gN l 16),.N (gN l 17),.I (gI l 18),.N (gN l 19),.L (gL l 20),.LB (gLB l 21),.L (gL l 22),.LL (gLL l 23)])
theorem L102_4_2.e1 (R:SDyn P S102_2.H):LEq (L102_4_2.O R) L102_4_2.H 1 (L102_4_2.s1 R):=by intro τ next κ l;kernel_rfl
def L102_4_2 (R:SDyn P S102_2.H):LStep P Cf:=LStep.mk2 (by decide) (L102_4_2.e0 R) (L102_4_2.e1 R)
def L102_4_2.b (R:SDyn P S102_2.H) {τ:Type} (t:Nat) (l:LS_) (κ:Nat→LS_→Option τ):Option τ:=runE (L102_4_2 R) fuel κ t l
def L102_4_2.E (R:SDyn P S102_2.H):LEnt P:=LStep.E (L102_4_2 R)
def S102_2.O (R:SDyn P S102_2.H):Orc P:=⟨[],[L102_4_2.E R],[],40⟩
def S102_2.body (R:SDyn P S102_2.H) {τ:Type} (l:LS_) (k:Nat→LS_→Option τ):Option τ :=
 br (gtI (gI l 1) (gI l 4))
 (k 0 [.L (gL l 3),.I (gI l 4),.I (gI l 5),.I (gI l 6),.N (gN l 7),.LL (gLL l 8),.I (gI l 9),.I (gI l 10),.N (gN l 11),.N (gN l 12),.L (gL l 13),.N (gN l 14),.N (gN l 15),.I (gI l 16),.L (gL l 17),.LB (gLB l 18),.L (gL l 19)])
 (br ((gI l 0)==(((gN l 7):Nat):Int))
 (br (ltI (gI l 1) (gI l 16))
 (ck ((eqM (gN l 2) (List.length (List.take ((gN l 2)*1) (List.drop 0 (gL l 3)))))&&true)
 (k 1 [.L (gL l 3),.I (gI l 1),.I (gI l 5),.I (gI l 6),.N (gN l 7),.LL (gLL l 8),.I (gI l 9),.I (gI l 10),.N (gN l 11),.N (gN l 12),.L (gL l 13),.N (gN l 14),.N (gN l 15),.I (gI l 1),.N 1,.L (gL l 17),.LB (gLB l 18),.L (gL l 19),.LL (List.take 1 (List.drop 0 [(List.take ((gN l 2)*1) (List.drop 0 (gL l 3)))]))]))
 (ck ((eqM (gN l 2) (List.length (List.take ((gN l 2)*1) (List.drop 0 (gL l 3)))))&&true)
 (k 1 [.L (gL l 3),.I (gI l 16),.I (gI l 5),.I (gI l 6),.N (gN l 7),.LL (gLL l 8),.I (gI l 9),.I (gI l 10),.N (gN l 11),.N (gN l 12),.L (gL l 13),.N (gN l 14),.N (gN l 15),.I (gI l 16),.N 1,.L (gL l 17),.LB (gLB l 18),.L (gL l 19),.LL (List.take 1 (List.drop 0 [(List.take ((gN l 2)*1) (List.drop 0 (gL l 3)))]))])))
 (L102_4_2.b R 0 [.I (gI l 0),.I (gI l 1),.N (gN l 2),.I (gI l 5),.I 0,.L (gL l 3),.I (gI l 4),.I (gI l 5),.I (gI l 6),.N (gN l 7),.LL (gLL l 8),.I (gI l 9),.I (gI l 10),.N (gN l 11),.N (gN l 12),.L (gL l 13),.N (gN l 14),.N (gN l 15),.I (gI l 16),.L (gL l 17),.LB (gLB l 18),.L (gL l 19)]
 (fun j A=>(sw (k 0 [.L (gL A 0),.I (gI A 1),.I (gI A 2),.I (gI A 3),.N (gN A 4),.LL (gLL A 5),.I (gI A 6),.I (gI A 7),.N (gN A 8),.N (gN A 9),.L (gL A 10),.N (gN A 11),.N (gN A 12),.I (gI A 13),.L (gL A 14),.LB (gLB A 15),.L (gL A 16)])
 (sw (k 2 [.L (gL A 0),.I (gI A 1),.I (gI A 2),.I (gI A 3),.N (gN A 4),.LL (gLL A 5),.I (gI A 6),.I (gI A 7),.N (gN A 8),.N (gN A 9),.L (gL A 10),.N (gN A 11),.N (gN A 12),.I (gI A 13),.N (gN A 14),.L (gL A 15),.LB (gLB A 16),.L (gL A 17),.LL (gLL A 18)])
 (fun _=>none))) j)))
theorem S102_2.eq (R:SDyn P S102_2.H):SEq (S102_2.O R) S102_2.H (S102_2.body R):=by intro τ l κ;kernel_rfl
def S102_2.next (R:SDyn P S102_2.H):SDyn P S102_2.H:=mkS (S102_2.eq R)
def S102_2.D (n:Nat):SDyn P S102_2.H:=Nat.rec ⟨fun _ _=>none,fun _ _ _ h=>nomatch h⟩ (fun _ R=>S102_2.next R) n
def S102_2:Option τ:=(S102_2.D fuel).b l k
def S102_2.E:SEnt P:=⟨S102_2.H,S102_2.D fuel⟩
def L70_3_2.H:LHead:=⟨false,false,4,286723,286723,459269,512,0,[(PS.mk ((pp 0)::us 1 (pI::us 6 (pI::us 6 (qR::pI::pI::us 31 [])))) mo25Xc)],[((Out.exit 0),(PS.mk (us 9 (pI::us 40 [])) mo25Xc))]⟩
def L70_3_2.O:Orc P:=⟨[],[],[],40⟩
def L70_3_2.s0:Option τ :=
 br (ltI (gI l 5) (gI l 4))
 (ck (((leI 0 (gI l 5))&&(ltI (gI l 5) (gN l 2)))&&true)
 (ck (ltN ((Int.toNat (gI l 5))*1) (List.length (gL l 3)))
 (ck (((leI 0 (wr .i64 ((gI l 0)+(gI l 5))))&&(ltI (wr .i64 ((gI l 0)+(gI l 5))) (((gN l 15):Nat):Int)))&&true)
 (ck (ltN (0+((Int.toNat (wr .i64 ((gI l 0)+(gI l 5))))*1)) (List.length (gLB l 18)))
 (br (!(List.getD (gLB l 18) (0+((Int.toNat (wr .i64 ((gI l 0)+(gI l 5))))*1)) false))
 (ck (((leI 0 (wr .i64 ((gI l 0)+(gI l 5))))&&(ltI (wr .i64 ((gI l 0)+(gI l 5))) (((gN l 13):Nat):Int)))&&true)
 (ck (ltN ((Int.toNat (wr .i64 ((gI l 0)+(gI l 5))))*1) (List.length (gL l 14)))
 (br ((List.getD (gL l 3) ((Int.toNat (gI l 5))*1) 0) != (List.getD (gL l 14) ((Int.toNat (wr .i64 ((gI l 0)+(gI l 5))))*1) 0))
 (nx 0 [.I (gI l 0),.I (wr .i64 ((gI l 1)+1)),.N (gN l 2),.L (gL l 3),.I (gI l 4),.I (wr .i64 ((gI l 5)+1)),.I (gI l 6),.I (gI l 7),.N (gN l 8),.LL (gLL l 9),.I (gI l 10),.I (gI l 11),.N (gN l 12),.N (gN l 13),.L (gL l 14),.N (gN l 15),.N (gN l 16),.L (gL l 17),.LB (gLB l 18),.L (gL l 19)])
 (nx 0 [.I (gI l 0),.I (gI l 1),.N (gN l 2),.L (gL l 3),.I (gI l 4),.I (wr .i64 ((gI l 5)+1)),.I (gI l 6),.I (gI l 7),.N (gN l 8),.LL (gLL l 9),.I (gI l 10),.I (gI l 11),.N (gN l 12),.N (gN l 13),.L (gL l 14),.N (gN l 15),.N (gN l 16),.L (gL l 17),.LB (gLB l 18),.L (gL l 19)]))))
 (nx 0 [.I (gI l 0),.I (gI l 1),.N (gN l 2),.L (gL l 3),.I (gI l 4),.I (wr .i64 ((gI l 5)+1)),.I (gI l 6),.I (gI l 7),.N (gN l 8),.LL (gLL l 9),.I (gI l 10),.I (gI l 11),.N (gN l 12),.N (gN l 13),.L (gL l 14),.N (gN l 15),.N (gN l 16),.L (gL l 17),.LB (gLB l 18),.L (gL l 19)]))))))
 (ex 0 [.I (gI l 1),.I (gI l 6),.I (gI l 7),.N (gN l 8),.LL (gLL l 9),.I (gI l 10),.I (gI l 11),.N (gN l 12),.N (gN l 13),.L (gL l 14),.N (gN l 15),.N (gN l 16),.L (gL l 17),.LB (gLB l 18),.L (gL l 19)])
theorem L70_3_2.e0:LEq L70_3_2.O L70_3_2.H 0 L70_3_2.s0:=by intro τ next κ l;kernel_rfl
def L70_3_2:LStep P Cf:=LStep.mk1 (by decide) L70_3_2.e0
def L70_3_2.b:Option τ:=runE L70_3_2 fuel κ t l
def L70_3_2.E:LEnt P:=LStep.E L70_3_2
def S70_1.H:SHead:=⟨70,[(pp 0),qR,pI,pI],[],mo25Xc,[(pI,mo25Xc)]⟩
def S70_1.O:Orc P:=⟨[],[L70_3_2.E],[],40⟩
def S70_1:Option τ :=
 ck ((((((leI 0 (gI l 2))&&(leI (gI l 2) (gI l 3)))&&(leI (gI l 3) (gI l 3)))&&(leI (gI l 3) (gN l 0)))&&(eqM (List.length (gL l 1)) ((gN l 0)*1)))&&true)
 (L70_3_2.b 0 [.I (gI l 2),.I 0,.N ((Int.toNat (gI l 3))-(Int.toNat (gI l 2))),.L (List.take (((Int.toNat (gI l 3))-(Int.toNat (gI l 2)))*1) (List.drop ((Int.toNat (gI l 2))*1) (gL l 1))),.I ((((Int.toNat (gI l 3))-(Int.toNat (gI l 2))):Nat):Int),.I 0,.I (gI l 4),.I (gI l 5),.N (gN l 6),.LL (gLL l 7),.I (gI l 8),.I (gI l 9),.N (gN l 10),.N (gN l 11),.L (gL l 12),.N (gN l 13),.N (gN l 14),.L (gL l 15),.LB (gLB l 16),.L (gL l 17)]
 (fun j A=>(sw (k 0 [.I (gI A 0),.I (gI A 1),.I (gI A 2),.N (gN A 3),.LL (gLL A 4),.I (gI A 5),.I (gI A 6),.N (gN A 7),.N (gN A 8),.L (gL A 9),.N (gN A 10),.N (gN A 11),.L (gL A 12),.LB (gLB A 13),.L (gL A 14)])
 (fun _=>none)) j))
theorem S70_1.eq:SEq S70_1.O S70_1.H S70_1:=by intro τ l κ;kernel_rfl
def S70_1.next:SDyn P S70_1.H:=mkS S70_1.eq
def S70_1.E:SEnt P:=⟨S70_1.H,S70_1.next⟩
def F20.ps:List PV2:=[pCode,pNoisy,pI]
def F20.sh:List PA:=[(PA.mk (PV3.tup [(PV2.agg [(PV1.intC .i64 0),(PV1.intC .i64 0),PV1.nilS,PV1.nilS]),(pC 1)]) []),(PA.mk (PV3.tup [(PV2.agg [(PV1.intC .i64 0),(PV1.intC .i64 0),PV1.nilS,PV1.nilS]),(pC 2)]) []),(PA.mk (PV3.tup [(PV2.agg [(PV1.intC .i64 4),(PV1.intC .i64 0),PV1.nilS,PV1.nilS]),(pC 0)]) []),(PA.mk (PV3.tup [(PV2.agg [(PV1.intC .i64 1),iI,(PV1.sl (PC0.i .i64)),PV1.nilS]),(pC 0)]) []),(PA.mk (PV3.tup [(PV2.agg [(PV1.intC .i64 2),iI,(r1 0),(r1 1)]),(pC 0)]) [cI,cM])]
def F20.O:Orc P:=⟨[F37.E,F98.E,F48.E,T99.E,F71.E],[L65_10_1.E,L65_15_1.E],[S70_0.E,S102_2.E,S70_1.E],40⟩
def F20:Option τ :=
 ck (((eqM (List.length (gLL l 2)) (List.length (gLL l 2)))&&true)&&true)
 (F37 [.I (gI l 0),.I (gI l 1),.LL (gLL l 2)]
 (fun j A=>(sw (br (!(gB A 0))
 (k 0 [])
 (ck (((eqM (List.length (gLL l 2)) (List.length (gLL l 2)))&&true)&&(((eqM (List.length (gL l 3)) (List.length (gL l 3)))&&((eqM (List.length (gL l 4)) (List.length (gL l 4)))&&true))&&true))
 (F98 [.I (gI l 0),.I (gI l 1),.LL (gLL l 2),.L (gL l 3),.L (gL l 4)]
 (fun j B=>(sw (br (!(gB B 0))
 (k 0 [])
 (ck (((eqM (List.length (gLL l 2)) (List.length (gLL l 2)))&&true)&&true)
 (F48 [.I (gI l 0),.I (gI l 1),.LL (gLL l 2)]
 (fun j C=>(sw (br (gtI (gI C 0) 4096)
 (k 1 [])
 (T99 [.I (gI l 0)]
 (fun j D=>(sw (ck (((leI 0 (gI l 1))&&(leI (gI l 1) (gI l 1)))&&(leI ((gI l 1)*2) 1099511627776))
 (L65_10_1.b 0 [.N (List.length (gL l 4)),.L (gL l 4),.I (((List.length (gL l 4)):Nat):Int),.I 0,.I (gI l 0),.I (gI l 1),.N (List.length (gLL l 2)),.LL (gLL l 2),.N (List.length (gL l 3)),.L (gL l 3),.N (List.length (gL l 4)),.L (gL l 4),.I 0,.I 0,.I (gI l 0),.I (gI l 1),.N (List.length (gLL l 2)),.LL (gLL l 2),.N (List.length (gL l 3)),.L (gL l 3),.N (List.length (gL l 4)),.L (gL l 4),.L (gL D 3),.I (gI D 0),.I (gI D 1),.N (gN D 2),.LB (List.replicate (Int.toNat (gI l 1)) false),.I (gI l 0),.I (gI l 1),.N (List.length (gLL l 2)),.LL (gLL l 2),.I (gI D 0),.I (gI D 1),.N (gN D 2),.N (List.length (gL l 3)),.L (gL l 3),.N (Int.toNat (gI l 1))]
 (fun j E=>(sw (L65_15_1.b 0 [.N (gN E 12),.LL (gLL E 13),.I (gN E 12),.I 0,.I (gI E 0),.I (gI E 1),.N (gN E 2),.LL (gLL E 3),.N (gN E 4),.L (gL E 5),.N (gN E 6),.L (gL E 7),.I (gI E 8),.I (gI E 9),.I (gI E 10),.I (gI E 11),.N (gN E 12),.LL (gLL E 13),.N (gN E 14),.L (gL E 15),.N (gN E 16),.L (gL E 17),.L (gL E 18),.I (gI E 19),.I (gI E 20),.N (gN E 21),.LB (gLB E 22),.I (gI E 23),.I (gI E 24),.N (gN E 25),.LL (gLL E 26),.I (gI E 27),.I (gI E 28),.N (gN E 29),.N (gN E 30),.L (gL E 31),.N (gN E 32)]
 (fun j F=>(sw (ck (((leI 0 (gI F 24))&&(leI (gI F 24) (gI F 24)))&&(leI ((gI F 24)*9) 1099511627776))
 (S70_0 [.N (Int.toNat (gI F 24)),.I 0,.I (List.getD (List.take 1 (List.drop 0 [(gI F 11)])) 0 0),.I (gI F 23),.I (gI F 24),.N (gN F 25),.LL (gLL F 26),.I (gI F 27),.I (gI F 28),.N (gN F 29),.N (gN F 30),.L (gL F 31),.N (gN F 32),.N 1,.L (List.replicate (Int.toNat (gI F 24)) (0:Int)),.L (gL F 18),.LB (gLB F 22),.L (List.take 1 (List.drop 0 [(gI F 11)]))]
 (fun j G=>(sw (ck ((decide ((gL F 18)=(gL G 13)))&&((decide ((gLB F 22)=(gLB G 14)))&&(((eqI (gI F 23) (gI G 1))&&((eqI (gI F 24) (gI G 2))&&(((eqM (gN F 25) (gN G 3))&&(decide ((gLL F 26)=(gLL G 4))))&&((eqI (gI F 27) (gI G 5))&&((eqI (gI F 28) (gI G 6))&&(((eqM (gN F 29) (gN G 7))&&true)&&(((eqM (gN F 30) (gN G 8))&&(decide ((gL F 31)=(gL G 9))))&&(((eqM (gN F 32) (gN G 10))&&true)&&(((eqM 1 (gN G 11))&&true)&&true)))))))))&&((decide ((List.take 1 (List.drop 0 [(gI F 11)]))=(gL G 15)))&&((decide ((List.replicate (Int.toNat (gI F 24)) (0:Int))=(gL G 12)))&&true)))))
 (S102_2 [.I 0,.I (gI G 0),.N (Int.toNat (gI F 24)),.L (gL G 12),.I (gI l 5),.I (gI G 1),.I (gI G 2),.N (gN G 3),.LL (gLL G 4),.I (gI G 5),.I (gI G 6),.N (gN G 7),.N (gN G 8),.L (gL G 9),.N (gN G 10),.N (gN G 11),.I (gI l 5),.L (gL G 13),.LB (gLB G 14),.L (gL G 15)]
 (fun j H=>(sw (k 2 [])
 (sw (br ((((gN H 14):Nat):Int)==0)
 (k 2 [])
 (br ((((gN H 14):Nat):Int)==1)
 (ck ((ltI 0 (gN H 14))&&true)
 (ck (ltN 0 (List.length (gLL H 18)))
 (S70_1 [.N (List.length (List.getD (gLL H 18) 0 [])),.L (List.getD (gLL H 18) 0 []),.I 0,.I (gI F 1),.I (gI H 2),.I (gI H 3),.N (gN H 4),.LL (gLL H 5),.I (gI H 6),.I (gI H 7),.N (gN H 8),.N (gN H 9),.L (gL H 10),.N (gN H 11),.N (gN H 12),.L (gL H 15),.LB (gLB H 16),.L (gL H 17)]
 (fun j M=>(sw (ck ((decide ((gL H 15)=(gL M 12)))&&((decide ((gLB H 16)=(gLB M 13)))&&(((eqI (gI H 2) (gI M 1))&&((eqI (gI H 3) (gI M 2))&&(((eqM (gN H 4) (gN M 3))&&(decide ((gLL H 5)=(gLL M 4))))&&((eqI (gI H 6) (gI M 5))&&((eqI (gI H 7) (gI M 6))&&(((eqM (gN H 8) (gN M 7))&&true)&&(((eqM (gN H 9) (gN M 8))&&(decide ((gL H 10)=(gL M 9))))&&(((eqM (gN H 11) (gN M 10))&&true)&&(((eqM (gN H 12) (gN M 11))&&true)&&true)))))))))&&((decide ((gL H 17)=(gL M 14)))&&true))))
 (ck ((ltI 0 (gN H 14))&&true)
 (ck (ltN 0 (List.length (gLL H 18)))
 (k 3 [.I (gI M 0),.N (List.length (List.getD (gLL H 18) 0 [])),.L (List.getD (gLL H 18) 0 [])]))))
 (fun _=>none)) j))))
 (ck ((ltI 0 (gN H 14))&&true)
 (ck (ltN 0 (List.length (gLL H 18)))
 (ck ((eqM (List.length (List.getD (gLL H 18) 0 [])) (List.length (List.getD (gLL H 18) 0 [])))&&true)
 (F71 [.L (List.getD (gLL H 18) 0 [])]
 (fun j M=>(sw (k 4 [.I (gI H 13),.N (gN M 0),.N (gN H 14),.L (gL M 1),.LL (gLL H 18)])
 (fun _=>none)) j)))))))
 (sw (br ((((gN H 14):Nat):Int)==0)
 (k 2 [])
 (br ((((gN H 14):Nat):Int)==1)
 (ck ((ltI 0 (gN H 14))&&true)
 (ck (ltN 0 (List.length (gLL H 18)))
 (S70_1 [.N (List.length (List.getD (gLL H 18) 0 [])),.L (List.getD (gLL H 18) 0 []),.I 0,.I (gI F 1),.I (gI H 2),.I (gI H 3),.N (gN H 4),.LL (gLL H 5),.I (gI H 6),.I (gI H 7),.N (gN H 8),.N (gN H 9),.L (gL H 10),.N (gN H 11),.N (gN H 12),.L (gL H 15),.LB (gLB H 16),.L (gL H 17)]
 (fun j M=>(sw (ck ((decide ((gL H 15)=(gL M 12)))&&((decide ((gLB H 16)=(gLB M 13)))&&(((eqI (gI H 2) (gI M 1))&&((eqI (gI H 3) (gI M 2))&&(((eqM (gN H 4) (gN M 3))&&(decide ((gLL H 5)=(gLL M 4))))&&((eqI (gI H 6) (gI M 5))&&((eqI (gI H 7) (gI M 6))&&(((eqM (gN H 8) (gN M 7))&&true)&&(((eqM (gN H 9) (gN M 8))&&(decide ((gL H 10)=(gL M 9))))&&(((eqM (gN H 11) (gN M 10))&&true)&&(((eqM (gN H 12) (gN M 11))&&true)&&true)))))))))&&((decide ((gL H 17)=(gL M 14)))&&true))))
 (ck ((ltI 0 (gN H 14))&&true)
 (ck (ltN 0 (List.length (gLL H 18)))
 (k 3 [.I (gI M 0),.N (List.length (List.getD (gLL H 18) 0 [])),.L (List.getD (gLL H 18) 0 [])]))))
 (fun _=>none)) j))))
 (ck ((ltI 0 (gN H 14))&&true)
 (ck (ltN 0 (List.length (gLL H 18)))
 (ck ((eqM (List.length (List.getD (gLL H 18) 0 [])) (List.length (List.getD (gLL H 18) 0 [])))&&true)
 (F71 [.L (List.getD (gLL H 18) 0 [])]
 (fun j M=>(sw (k 4 [.I (gI H 13),.N (gN M 0),.N (gN H 14),.L (gL M 1),.LL (gLL H 18)])
 (fun _=>none)) j)))))))
 (fun _=>none)))) j)))
 (fun _=>none)) j)))
 (sw (ck (((((eqM (List.length (gL F 34)) ((gN F 33)*1))&&true)&&(eqM 1 1))&&(leN (((gN F 33)+1)*9) 1099511627776))&&true)
 (ck (((leI 0 (gI F 24))&&(leI (gI F 24) (gI F 24)))&&(leI ((gI F 24)*9) 1099511627776))
 (ck ((ltI 0 ((((gN F 33)+1):Nat):Int))&&true)
 (ck (ltN 0 (List.length ((gL F 34)++(List.take 1 (List.drop 0 [(gI F 11)])))))
 (S70_0 [.N (Int.toNat (gI F 24)),.I 0,.I (List.getD ((gL F 34)++(List.take 1 (List.drop 0 [(gI F 11)]))) 0 0),.I (gI F 23),.I (gI F 24),.N (gN F 25),.LL (gLL F 26),.I (gI F 27),.I (gI F 28),.N (gN F 29),.N (gN F 30),.L (gL F 31),.N (gN F 32),.N ((gN F 33)+1),.L (List.replicate (Int.toNat (gI F 24)) (0:Int)),.L (gL F 18),.LB (gLB F 22),.L ((gL F 34)++(List.take 1 (List.drop 0 [(gI F 11)])))]
 (fun j G=>(sw (ck ((decide ((gL F 18)=(gL G 13)))&&((decide ((gLB F 22)=(gLB G 14)))&&(((eqI (gI F 23) (gI G 1))&&((eqI (gI F 24) (gI G 2))&&(((eqM (gN F 25) (gN G 3))&&(decide ((gLL F 26)=(gLL G 4))))&&((eqI (gI F 27) (gI G 5))&&((eqI (gI F 28) (gI G 6))&&(((eqM (gN F 29) (gN G 7))&&true)&&(((eqM (gN F 30) (gN G 8))&&(decide ((gL F 31)=(gL G 9))))&&(((eqM (gN F 32) (gN G 10))&&true)&&(((eqM ((gN F 33)+1) (gN G 11))&&true)&&true)))))))))&&((decide (((gL F 34)++(List.take 1 (List.drop 0 [(gI F 11)])))=(gL G 15)))&&((decide ((List.replicate (Int.toNat (gI F 24)) (0:Int))=(gL G 12)))&&true)))))
 (S102_2 [.I 0,.I (gI G 0),.N (Int.toNat (gI F 24)),.L (gL G 12),.I (gI l 5),.I (gI G 1),.I (gI G 2),.N (gN G 3),.LL (gLL G 4),.I (gI G 5),.I (gI G 6),.N (gN G 7),.N (gN G 8),.L (gL G 9),.N (gN G 10),.N (gN G 11),.I (gI l 5),.L (gL G 13),.LB (gLB G 14),.L (gL G 15)]
 (fun j H=>(sw (k 2 [])
 (sw (br ((((gN H 14):Nat):Int)==0)
 (k 2 [])
 (br ((((gN H 14):Nat):Int)==1)
 (ck ((ltI 0 (gN H 14))&&true)
 (ck (ltN 0 (List.length (gLL H 18)))
 (S70_1 [.N (List.length (List.getD (gLL H 18) 0 [])),.L (List.getD (gLL H 18) 0 []),.I 0,.I (gI F 1),.I (gI H 2),.I (gI H 3),.N (gN H 4),.LL (gLL H 5),.I (gI H 6),.I (gI H 7),.N (gN H 8),.N (gN H 9),.L (gL H 10),.N (gN H 11),.N (gN H 12),.L (gL H 15),.LB (gLB H 16),.L (gL H 17)]
 (fun j M=>(sw (ck ((decide ((gL H 15)=(gL M 12)))&&((decide ((gLB H 16)=(gLB M 13)))&&(((eqI (gI H 2) (gI M 1))&&((eqI (gI H 3) (gI M 2))&&(((eqM (gN H 4) (gN M 3))&&(decide ((gLL H 5)=(gLL M 4))))&&((eqI (gI H 6) (gI M 5))&&((eqI (gI H 7) (gI M 6))&&(((eqM (gN H 8) (gN M 7))&&true)&&(((eqM (gN H 9) (gN M 8))&&(decide ((gL H 10)=(gL M 9))))&&(((eqM (gN H 11) (gN M 10))&&true)&&(((eqM (gN H 12) (gN M 11))&&true)&&true)))))))))&&((decide ((gL H 17)=(gL M 14)))&&true))))
 (ck ((ltI 0 (gN H 14))&&true)
 (ck (ltN 0 (List.length (gLL H 18)))
 (k 3 [.I (gI M 0),.N (List.length (List.getD (gLL H 18) 0 [])),.L (List.getD (gLL H 18) 0 [])]))))
 (fun _=>none)) j))))
 (ck ((ltI 0 (gN H 14))&&true)
 (ck (ltN 0 (List.length (gLL H 18)))
 (ck ((eqM (List.length (List.getD (gLL H 18) 0 [])) (List.length (List.getD (gLL H 18) 0 [])))&&true)
 (F71 [.L (List.getD (gLL H 18) 0 [])]
 (fun j M=>(sw (k 4 [.I (gI H 13),.N (gN M 0),.N (gN H 14),.L (gL M 1),.LL (gLL H 18)])
 (fun _=>none)) j)))))))
 (sw (br ((((gN H 14):Nat):Int)==0)
 (k 2 [])
 (br ((((gN H 14):Nat):Int)==1)
 (ck ((ltI 0 (gN H 14))&&true)
 (ck (ltN 0 (List.length (gLL H 18)))
 (S70_1 [.N (List.length (List.getD (gLL H 18) 0 [])),.L (List.getD (gLL H 18) 0 []),.I 0,.I (gI F 1),.I (gI H 2),.I (gI H 3),.N (gN H 4),.LL (gLL H 5),.I (gI H 6),.I (gI H 7),.N (gN H 8),.N (gN H 9),.L (gL H 10),.N (gN H 11),.N (gN H 12),.L (gL H 15),.LB (gLB H 16),.L (gL H 17)]
 (fun j M=>(sw (ck ((decide ((gL H 15)=(gL M 12)))&&((decide ((gLB H 16)=(gLB M 13)))&&(((eqI (gI H 2) (gI M 1))&&((eqI (gI H 3) (gI M 2))&&(((eqM (gN H 4) (gN M 3))&&(decide ((gLL H 5)=(gLL M 4))))&&((eqI (gI H 6) (gI M 5))&&((eqI (gI H 7) (gI M 6))&&(((eqM (gN H 8) (gN M 7))&&true)&&(((eqM (gN H 9) (gN M 8))&&(decide ((gL H 10)=(gL M 9))))&&(((eqM (gN H 11) (gN M 10))&&true)&&(((eqM (gN H 12) (gN M 11))&&true)&&true)))))))))&&((decide ((gL H 17)=(gL M 14)))&&true))))
 (ck ((ltI 0 (gN H 14))&&true)
 (ck (ltN 0 (List.length (gLL H 18)))
 (k 3 [.I (gI M 0),.N (List.length (List.getD (gLL H 18) 0 [])),.L (List.getD (gLL H 18) 0 [])]))))
 (fun _=>none)) j))))
 (ck ((ltI 0 (gN H 14))&&true)
 (ck (ltN 0 (List.length (gLL H 18)))
 (ck ((eqM (List.length (List.getD (gLL H 18) 0 [])) (List.length (List.getD (gLL H 18) 0 [])))&&true)
 (F71 [.L (List.getD (gLL H 18) 0 [])]
 (fun j M=>(sw (k 4 [.I (gI H 13),.N (gN M 0),.N (gN H 14),.L (gL M 1),.LL (gLL H 18)])
 (fun _=>none)) j)))))))
 (fun _=>none)))) j)))
 (fun _=>none)) j))))))
 (fun _=>none))) j))
 (fun _=>none)) j)))
 (sw (k 0 [])
 (fun _=>none))) j)))
 (fun _=>none)) j))))
 (fun _=>none)) j))))
 (fun _=>none)) j))
theorem F20.eq:FEq F20.O 20 F20.ps F20.sh F20:=by intro τ l κ;kernel_rfl
def F20.E:Ent P:=mkF F20.eq
end
end Go.Proofs.Ytbpjicbpcfkpfaa.Ai
namespace Go.Proofs.Ytbpjicbpcfkpfaa.Ai
open Go Ma
noncomputable section
def isGone (n:Int) (g:List Int):Bool:=(List.range g.length).all fun i=>decide (0≤g.getD i 0)&&(decide (g.getD i 0<n)&&(decide (i=0) || decide (g.getD (i-1) 0<g.getD i 0)))
def Gn (n:Int) (g:List Int) (i:Nat):Prop:=0≤g.getD i 0∧g.getD i 0<n∧(0<i→g.getD (i-1) 0<g.getD i 0)
theorem isGone_iff {n:Int} {g:List Int}:isGone n g=true↔∀ i,0≤i→i<g.length→Gn n g i:=by
 unfold isGone
 simp only [Bool.and_eq_true,Bool.or_eq_true,decide_eq_true_eq,List.all_eq_true,List.mem_range]
 refine ⟨fun h i _ hi=>?_,fun h i hi=>?_⟩
 ·obtain ⟨h1,h2,h3⟩:=h i hi
  exact ⟨h1,h2,fun h0=>h3.resolve_left (by omega)⟩
 ·obtain ⟨h1,h2,h3⟩:=h i (Nat.zero_le _) hi
  refine ⟨h1,h2,?_⟩
  by_cases h0:i=0
  ·exact .inl h0
  ·exact .inr (h3 (by omega))
def isRight (q n:Int) (w g:List Int):Bool:=isWord q n w&&isGone n g
def cnt (q k:Nat):Nat:=if q^k≤4096 then q^k else 4097
theorem L48_run (f:Nat) {τ:Type} (κ:Nat→LS_→Option τ) (l:LS_):runE L48_3 (f+1) κ 0 l=L48_3.s0 (runE L48_3 f κ) κ l:=rfl
theorem L48_spec {q:Nat} (hq:1<q) (hq2:q<2^20) (n:Int) (G:List (List Int)) (hs:G.length<2^60) {τ:Type} (κ:Nat→LS_→Option τ):∀ (f i:Nat) (x:Int),i≤G.length→G.length<f+i→q^i≤4096 →
  ∃ y:Int,runE L48_3 f κ 0 [.I x,.I ((q^i:Nat):Int),.I G.length,.I i,.I q,.I n,.N G.length,.LL G]=if q^G.length≤4096 then κ 1 [.I x,.I ((q^G.length:Nat):Int)] else κ 0 [.I 4097,.I y]
 | 0,i,x,h1,h2,h3=>by omega
 | f+1,i,x,h1,h2,h3=>by
  rw [L48_run]
  unfold L48_3.s0
  simp only [g_]
  by_cases hj:i<G.length
  ·have e1:((q^i:Nat):Int)*q=((q^(i+1):Nat):Int):=by rw [Nat.pow_succ];simp
   have hb:q^(i+1)<2^40:=by rw [Nat.pow_succ];exact Nat.lt_of_le_of_lt (Nat.mul_le_mul h3 (Nat.le_of_lt hq2)) (by decide)
   have e2:wr .i64 (((q^i:Nat):Int)*q)=((q^(i+1):Nat):Int):=by rw [e1,wr64 (by omega) (by omega)]
   have hpos:0<q^(i+1):=Nat.pos_of_ne_zero (by simp;omega)
   rw [br_of (by simp;omega),e2]
   by_cases hc:q^(i+1)≤4096
   ·obtain ⟨y,hy⟩:=L48_spec hq hq2 n G hs κ f (i+1) x (by omega) (by omega) hc
    refine ⟨y,?_⟩
    rw [br_no (by simp only [gtI_no];omega),br_no (by simp only [ltI_no];omega),wsucc (by omega),hy]
   ·refine ⟨((q^(i+1):Nat):Int),?_⟩
    rw [br_of (by simp only [gtI_iff];omega)]
    rw [if_neg]
    intro h
    exact hc (Nat.le_trans (Nat.pow_le_pow_right (by omega) (by omega)) h)
  ·have:i=G.length:=by omega
   subst this
   refine ⟨0,?_⟩
   rw [br_no (by simp),if_pos h3]
theorem F48_spec {q:Nat} (hq:1<q) (hq2:q<2^20) (n:Int) (G:List (List Int)) (hs:G.length<2^60) {τ:Type} (k:Nat→LS_→Option τ):F48 [.I q,.I n,.LL G] k=k 0 [.I ((cnt q G.length:Nat):Int)]:=by
 have hfu:=fuel_le
 unfold F48 L48_3.b
 simp only [g_]
 obtain ⟨y,hy⟩:=L48_spec hq hq2 n G hs (fun j l96=>(sw (k 0 [.I (gI l96 0)]) (sw (k 0 [.I (gI l96 1)]) (fun _=>none))) j) fuel 0 0 (by omega) (by omega) (by simp)
 refine Eq.trans hy ?_
 unfold cnt
 split
 ·simp
 ·simp
theorem getD_set_nat {l:List Nat} {i j x:Nat} (hi:i<l.length):(l.set i x).getD j 0=if i=j then x else l.getD j 0:=by
 simp only [List.getD_eq_getElem?_getD,List.getElem?_set]
 by_cases h:i=j
 ·subst h;simp [hi]
 ·simp [h]
structure Mx (perm:List Nat) (fam m:List (List Int)):Prop where
 len:perm.length=m.length
 lt:∀ i,i<m.length→perm.getD i 0<fam.length
 eq:∀ i,i<m.length→fam.getD (perm.getD i 0) []=m.getD i []
 inj:∀ i j,i<m.length→j<m.length→perm.getD i 0=perm.getD j 0→i=j
theorem Mx.set {perm:List Nat} {fam m:List (List Int)} (h:Mx perm fam m) {i:Nat} (hi:i<m.length) (v:List Int):Mx perm (fam.set (perm.getD i 0) v) (m.set i v) where
 len:=by simp [h.len]
 lt:=fun j hj=>by rw [List.length_set];exact h.lt j (by simpa using hj)
 eq:=fun j hj=>by
  have hj':j<m.length:=by simpa using hj
  rw [getD_set_row (h.lt i hi),getD_set_row hi]
  by_cases e:i=j
  ·subst e;simp
  ·rw [if_neg e,if_neg (fun x=>e (h.inj i j hi hj' x))];exact h.eq j hj'
 inj:=fun a b ha hb=>h.inj a b (by simpa using ha) (by simpa using hb)
theorem Mx.swap {perm:List Nat} {fam m:List (List Int)} (h:Mx perm fam m) {i j:Nat} (hi:i<m.length) (hj:j<m.length) :
  Mx ((perm.set i (perm.getD j 0)).set j (perm.getD i 0)) fam ((m.set i (m.getD j [])).set j (m.getD i [])):=by
 have hl:=h.len
 have g1:∀ k,((perm.set i (perm.getD j 0)).set j (perm.getD i 0)).getD k 0=perm.getD (if j=k then i else if i=k then j else k) 0:=fun k=>by
  rw [getD_set_nat (by rw [List.length_set];omega),getD_set_nat (by omega)]
  by_cases e:j=k
  ·rw [if_pos e,if_pos e]
  ·rw [if_neg e,if_neg e]
   by_cases e2:i=k
   ·rw [if_pos e2,if_pos e2]
   ·rw [if_neg e2,if_neg e2]
 have g2:∀ k,((m.set i (m.getD j [])).set j (m.getD i [])).getD k []=m.getD (if j=k then i else if i=k then j else k) []:=fun k=>by
  rw [getD_set_row (by rw [List.length_set];omega),getD_set_row (by omega)]
  by_cases e:j=k
  ·rw [if_pos e,if_pos e]
  ·rw [if_neg e,if_neg e]
   by_cases e2:i=k
   ·rw [if_pos e2,if_pos e2]
   ·rw [if_neg e2,if_neg e2]
 have b:∀ k,k<m.length→(if j=k then i else if i=k then j else k)<m.length:=fun k hk=>by split <;> (try split) <;> omega
 refine ⟨by simp [hl],fun k hk=>?_,fun k hk=>?_,fun x y hx hy e=>?_⟩
 ·rw [g1];exact h.lt _ (b k (by simpa using hk))
 ·rw [g1,g2];exact h.eq _ (b k (by simpa using hk))
 ·rw [g1,g1] at e
  have:=h.inj _ _ (b x (by simpa using hx)) (b y (by simpa using hy)) e
  revert this
  split <;> split <;> (try split) <;> (try split) <;> omega
theorem lift_swap {mul:Int→Int→Int} {inv:Int→Int} {m:List (List Int)} {r p c:Nat} (hr:r<m.length) (hp:p<m.length) :
  lift mul inv m r p c=((m.set r (m.getD p [])).set p (m.getD r [])).set r (vmul mul (inv (ent m p c)) (m.getD p [])):=by
 unfold lift
 refine ext_rows (by simp) fun k hk=>?_
 rw [getD_set_row (m:=m.set p (m.getD r [])) (i:=r) (by simpa using hr),getD_set_row (m:=(m.set r (m.getD p [])).set p (m.getD r [])) (i:=r) (by simpa using hr)]
 by_cases e:r=k
 ·rw [if_pos e,if_pos e]
 ·rw [if_neg e,if_neg e,getD_set_row (m:=m) (i:=p) hp,getD_set_row (m:=m.set r (m.getD p [])) (i:=p) (by simpa using hp)]
  by_cases e2:p=k
  ·rw [if_pos e2,if_pos e2]
  ·rw [if_neg e2,if_neg e2,getD_set_row hr,if_neg e]
theorem half_get {a b:List Int} (hl:a.length=b.length) {j:Nat} (hj:j<b.length):(a.take j++b.drop j).getD j 0=b.getD j 0:=by
 simp only [List.getD_eq_getElem?_getD]
 rw [List.getElem?_append_right (by simp;omega)]
 simp [show min j a.length=j by omega]
theorem half_len {a b:List Int} (hl:a.length=b.length) {j:Nat} (hj:j≤b.length):(a.take j++b.drop j).length=b.length:=by simp;omega
theorem half_set {a b:List Int} (hl:a.length=b.length) {j:Nat} (hj:j<b.length):(a.take j++b.drop j).set j (a.getD j 0)=a.take (j+1)++b.drop (j+1):=by
 rw [take_succ_getD 0 (by omega),List.append_assoc,List.set_append,if_neg (by simp;omega),drop_cons (l:=b) (j:=j) 0 hj]
 simp [show min j a.length=j by omega]
theorem half_all {a b:List Int} (hl:a.length=b.length):a.take b.length++b.drop b.length=a:=by rw [List.take_of_length_le (by omega),List.drop_eq_nil_of_le (Nat.le_refl _),List.append_nil]
theorem set_set_row {fam:List (List Int)} {P:Nat} {x y:List Int}:(fam.set P x).set P y=fam.set P y:=by simp
theorem set_get_row {fam:List (List Int)} {P:Nat} (h:P<fam.length):fam.set P (fam.getD P [])=fam:=ext_rows (by simp) fun j hj=>by
 rw [getD_set_row h]
 split
 ·rename_i e;rw [e]
 ·rfl
theorem L84_10_spec {q:Nat} (hq:q∈Qs) {perm:List Nat} {r:Nat} (hr:r<perm.length) {v:List Int} (hv:In q v) (hvl:v.length<2^30) {c:Int} (c0:0≤c) (c1:c<q) (N:Int) (col:Int) {τ:Type} (κ:Nat→LS_→Option τ):∀ (f j:Nat) (fam:List (List Int)),perm.getD r 0<fam.length→j≤v.length→v.length<f+j→fam.getD (perm.getD r 0) []=(vmul (fmul q) c v).take j++v.drop j →
  runE L84_10 f κ 0 [.I N,.N perm.length,.I r,.I c,.I v.length,.I j,.L (fm q),.LN perm,.LL fam,.I (fp q),.I (fe q),.N (fm q).length,.I col]=κ 0 [.I N,.N perm.length,.I r,.L (fm q),.LN perm,.LL (fam.set (perm.getD r 0) (vmul (fmul q) c v)),.I (fp q),.I (fe q),.N (fm q).length,.I col]
 | 0,j,fam,h1,h2,h3,h4=>by omega
 | f+1,j,fam,h1,h2,h3,h4=>by
  have hl:(vmul (fmul q) c v).length=v.length:=vmul_len
  have hw:=half_len hl h2
  rw [runE_succ]
  show L84_10.s0 _ _ _=_
  unfold L84_10.s0
  simp only [g_,gLN_zero,gLN_succ,Int.toNat_natCast,Nat.mul_one,Nat.zero_add,List.drop_zero,List.take_length]
  by_cases hj:j<v.length
  ·have hx:=hv j hj
   have hg:(fam.getD (perm.getD r 0) []).getD j 0=v.getD j 0:=by rw [h4,half_get hl hj]
   have hg2:(fam.getD (perm.getD r 0) []).length=v.length:=by rw [h4,hw]
   have key:=L84_10_spec hq hr hv hvl c0 c1 N col κ f (j+1) (fam.set (perm.getD r 0) ((fam.getD (perm.getD r 0) []).set j (fmul q c (v.getD j 0)))) (by simpa using h1) (by omega) (by omega) (by
    rw [getD_set_row h1,if_pos rfl,h4,←vmul_get (mul:=fmul q) hj,half_set hl hj])
   rw [set_set_row] at key
   generalize perm.getD r 0=Pr at h1 h4 hg hg2 key ⊢
   generalize fam.getD Pr []=w at h4 hg hg2 key ⊢
   rw [br_of (by simp;omega),ck_of (by simp;omega),ck_of (by simp;omega),ck_of (by simp;omega),ck_of (by simp;omega),ck_of (by simp;omega),ck_of (by simp;omega),ck_of (by simp),hg]
   unfold T104
   rw [tab2_of hq c0 c1 hx.1 hx.2]
   simp only [sw_zero,gI_zero]
   rw [ck_of (by simp;omega),ck_of (by simp;omega),wsucc (by omega)]
   exact key
  ·have:j=v.length:=by omega
   subst this
   rw [half_all hl] at h4
   rw [br_no (by simp),←h4,set_get_row h1]
theorem L84_10_1_spec {q:Nat} (hq:q∈Qs) {perm:List Nat} {r:Nat} (hr:r<perm.length) {v:List Int} (hv:In q v) (hvl:v.length<2^30) {c:Int} (c0:0≤c) (c1:c<q) (N:Int) (u1:Int) (col:Int) {τ:Type} (κ:Nat→LS_→Option τ):∀ (f j:Nat) (fam:List (List Int)),perm.getD r 0<fam.length→j≤v.length→v.length<f+j→fam.getD (perm.getD r 0) []=(vmul (fmul q) c v).take j++v.drop j →
  runE L84_10_1 f κ 0 [.I N,.N perm.length,.I r,.I c,.I v.length,.I j,.L (fm q),.LN perm,.LL fam,.I (fp q),.I (fe q),.N (fm q).length,.I u1,.I col]=κ 0 [.I N,.N perm.length,.I r,.L (fm q),.LN perm,.LL (fam.set (perm.getD r 0) (vmul (fmul q) c v)),.I (fp q),.I (fe q),.N (fm q).length,.I u1,.I col]
 | 0,j,fam,h1,h2,h3,h4=>by omega
 | f+1,j,fam,h1,h2,h3,h4=>by
  have hl:(vmul (fmul q) c v).length=v.length:=vmul_len
  have hw:=half_len hl h2
  rw [runE_succ]
  show L84_10_1.s0 _ _ _=_
  unfold L84_10_1.s0
  simp only [g_,gLN_zero,gLN_succ,Int.toNat_natCast,Nat.mul_one,Nat.zero_add,List.drop_zero,List.take_length]
  by_cases hj:j<v.length
  ·have hx:=hv j hj
   have hg:(fam.getD (perm.getD r 0) []).getD j 0=v.getD j 0:=by rw [h4,half_get hl hj]
   have hg2:(fam.getD (perm.getD r 0) []).length=v.length:=by rw [h4,hw]
   have key:=L84_10_1_spec hq hr hv hvl c0 c1 N u1 col κ f (j+1) (fam.set (perm.getD r 0) ((fam.getD (perm.getD r 0) []).set j (fmul q c (v.getD j 0)))) (by simpa using h1) (by omega) (by omega) (by
    rw [getD_set_row h1,if_pos rfl,h4,←vmul_get (mul:=fmul q) hj,half_set hl hj])
   rw [set_set_row] at key
   generalize perm.getD r 0=Pr at h1 h4 hg hg2 key ⊢
   generalize fam.getD Pr []=w at h4 hg hg2 key ⊢
   rw [br_of (by simp;omega),ck_of (by simp;omega),ck_of (by simp;omega),ck_of (by simp;omega),ck_of (by simp;omega),ck_of (by simp;omega),ck_of (by simp;omega),ck_of (by simp),hg]
   unfold T104
   rw [tab2_of hq c0 c1 hx.1 hx.2]
   simp only [sw_zero,gI_zero]
   rw [ck_of (by simp;omega),ck_of (by simp;omega),wsucc (by omega)]
   exact key
  ·have:j=v.length:=by omega
   subst this
   rw [half_all hl] at h4
   rw [br_no (by simp),←h4,set_get_row h1]
theorem L114_2_1_spec {perm:List Nat} {fam m:List (List Int)} (hM:Mx perm fam m) (hs:m.length<2^30) {n:Nat} (hw:∀ i,i<m.length→(m.getD i []).length=n) (r c:Nat) (hc:c<n) (hr:r≤m.length) {τ:Type} (κ:Nat→LS_→Option τ):∀ (f p g:Nat),r+p≤m.length→m.length<f+(r+p)→m.length≤g+(r+p) →
  runE L114_2_1 f κ 0 [.N r,.N (m.length-r),.I 0,.I ((m.length-r:Nat):Int),.I p,.LN perm,.I c,.LL fam]=if findp m c g (r+p)=m.length then κ 1 [.I 0,.LN perm,.I c,.LL fam] else κ 0 [.I ((findp m c g (r+p)-r:Nat):Int),.LN perm,.I c,.LL fam]
 | 0,p,g,h1,h2,h3=>by omega
 | f+1,p,g,h1,h2,h3=>by
  have hl:=hM.len
  rw [runE_succ]
  show L114_2_1.s0 _ _ _=_
  unfold L114_2_1.s0
  simp only [g_,gLN_zero,gLN_succ,Int.toNat_natCast,Nat.mul_one,Nat.zero_add]
  by_cases hj:r+p<m.length
  ·have a1:=hM.lt _ hj
   have a2:=hM.eq _ hj
   have a3:=hw _ hj
   cases g with
   | zero=>omega
   | succ g =>
   unfold findp
   rw [if_pos hj]
   generalize perm.getD (r+p) 0=Pr at a1 a2 ⊢
   rw [a2,br_of (by simp;omega),ck_of (by simp;omega),ck_of (by simp;omega),ck_of (by simp only [a3];simp;omega),ck_of (by simp only [a3];simp;omega)]
   by_cases hz:ent m (r+p) c=0
   ·rw [if_pos hz,br_no (by unfold ent at hz;rw [hz];rfl),wsucc (by omega)]
    exact L114_2_1_spec hM hs hw r c hc hr κ f (p+1) g (by omega) (by omega) (by omega)
   ·rw [if_neg hz,br_of (by unfold ent at hz;simpa [-List.getD_eq_getElem?_getD] using hz),if_neg (by omega),show r+p-r=p by omega]
  ·have e:r+p=m.length:=by omega
   have:findp m c g (r+p)=m.length:=by
    rw [e]
    cases g with
    | zero=>rfl
    | succ g=>unfold findp;rw [if_neg (by omega)]
   rw [this,if_pos rfl,br_no (by simp;omega)]
theorem L94_3_spec {q:Nat} (hq:q∈Qs) {perm:List Nat} {Pk Pr:Nat} (hne:Pk≠Pr) {x y:List Int} (hx:In q x) (hy:In q y) (hl:y.length=x.length) (hs:x.length<2^30) {a:Int} (a0:0≤a) (a1:a<q) {τ:Type} (κ:Nat→LS_→Option τ):∀ (f j:Nat) (fam:List (List Int)),Pk<fam.length→Pr<fam.length→j≤x.length→x.length<f+j→fam.getD Pr []=x→fam.getD Pk []=(vadd (fadd q) y (vmul (fmul q) a x)).take j++y.drop j →
  runE L94_3 f κ 0 [.N Pk,.N y.length,.I a,.N Pr,.N x.length,.I y.length,.I j,.L (fm q),.LL fam,.LN perm,.I (fp q),.I (fe q),.N (fm q).length]=κ 0 [.L (fm q),.LL (fam.set Pk (vadd (fadd q) y (vmul (fmul q) a x))),.LN perm,.I (fp q),.I (fe q),.N (fm q).length]
 | 0,j,fam,h1,h1',h2,h3,h4,h5=>by omega
 | f+1,j,fam,h1,h1',h2,h3,h4,h5=>by
  have F:=fld q hq
  have ml:(vmul (fmul q) a x).length=x.length:=vmul_len
  have hlv:(vadd (fadd q) y (vmul (fmul q) a x)).length=y.length:=vadd_len (by rw [ml,hl])
  have hw:=half_len hlv (j:=j) (by omega)
  rw [runE_succ]
  show L94_3.s0 _ _ _=_
  unfold L94_3.s0
  simp only [g_,gLN_zero,gLN_succ,Int.toNat_natCast,Nat.mul_one,Nat.zero_add,List.drop_zero,List.take_length]
  by_cases hj:j<y.length
  ·have ax:=hx j (by omega)
   have ay:=hy j hj
   have am:=F.mul_in _ _ a0 a1 ax.1 ax.2
   have hg:(fam.getD Pk []).getD j 0=y.getD j 0:=by rw [h5,half_get hlv hj]
   have hg2:(fam.getD Pk []).length=y.length:=by rw [h5,hw]
   have key:=L94_3_spec hq (perm:=perm) hne hx hy hl hs a0 a1 κ f (j+1) (fam.set Pk ((fam.getD Pk []).set j (fadd q (y.getD j 0) (fmul q a (x.getD j 0))))) (by simpa using h1) (by simpa using h1') (by omega) (by omega)
    (by rw [getD_set_row h1,if_neg hne,h4]) (by
    rw [getD_set_row h1,if_pos rfl,h5,←vmul_get (mul:=fmul q) (show j<x.length by omega),←vadd_get (add:=fadd q) (by rw [ml,hl]) hj,half_set hlv hj])
   rw [set_set_row] at key
   rw [h4]
   generalize fam.getD Pk []=w at h5 hg hg2 key ⊢
   rw [br_of (by simp;omega),ck_of (by simp;omega),ck_of (by simp;omega),ck_of (by simp;omega),ck_of (by simp;omega),ck_of (by simp),hg]
   unfold T104 T103
   rw [tab2_of hq a0 a1 ax.1 ax.2]
   simp only [sw_zero,gI_zero]
   rw [ck_of (by simp),tab2_of hq ay.1 ay.2 am.1 am.2]
   simp only [sw_zero,gI_zero]
   rw [ck_of (by simp;omega),ck_of (by simp;omega),wsucc (by omega)]
   exact key
  ·have:j=y.length:=by omega
   subst this
   rw [half_all hlv] at h5
   rw [br_no (by simp),←h5,set_get_row h1]
theorem vadd_zero {q n:Nat} (F:Fld q (fadd q) (fmul q) (fneg q) (finv q)) {x y:List Int} (hx:Wd q n x) (hy:Wd q n y):vadd (fadd q) y (vmul (fmul q) 0 x)=y:=by
 have ml:(vmul (fmul q) 0 x).length=x.length:=vmul_len
 refine ext_getD (vadd_len (by rw [ml,hy.1,hx.1])) fun j hj=>?_
 rw [vadd_len (by rw [ml,hy.1,hx.1]),hy.1] at hj
 have a:=hx.2 j hj
 have b:=hy.2 j hj
 have h1:=F.one_lt
 rw [vadd_get (by rw [ml,hy.1,hx.1]) (by rw [hy.1];exact hj),vmul_get (by rw [hx.1];exact hj),F.zero_mul _ a.1 a.2,F.add_comm _ _ b.1 b.2 (by omega) (by omega),F.zero_add _ b.1 b.2]
theorem S94_0_spec {q n:Nat} (hq:q∈Qs) (hn:n<2^30) {perm:List Nat} {fam:List (List Int)} {Pk Pr:Nat} (hne:Pk≠Pr) {x y:List Int} (hx:Wd q n x) (hy:Wd q n y) {a:Int} (a0:0≤a) (a1:a<q) (h1:Pk<fam.length) (h2:Pr<fam.length) (h3:fam.getD Pr []=x) (h4:fam.getD Pk []=y) {τ:Type} (k:Nat→LS_→Option τ) :
  S94_0 [.I (fp q),.I (fe q),.N (fm q).length,.N Pk,.N y.length,.I a,.N Pr,.N x.length,.L (fm q),.LL fam,.LN perm] k=k 0 [.L (fm q),.LL (fam.set Pk (vadd (fadd q) y (vmul (fmul q) a x))),.LN perm]:=by
 have hfu:=fuel_le
 unfold S94_0 L94_3.b
 simp only [g_,gLN_zero,gLN_succ]
 by_cases hz:a=0
 ·subst hz
  rw [br_of (b:=((0:Int)==0)) rfl,vadd_zero (fld q hq) hx hy,←h4,set_get_row h1]
 ·rw [br_no (by simpa using hz)]
  exact L94_3_spec hq hne (In.of hx) (In.of hy) (by rw [hx.1,hy.1]) (by rw [hx.1];exact hn) a0 a1 (fun j l63=>(sw (k 0 [.L (gL l63 0),.LL (gLL l63 1),.LN (gLN l63 2)]) (fun _=>none)) j) fuel 0 fam h1 h2 (by omega) (by rw [hx.1];omega) h3 (by simpa using h4)
theorem elimTo_step {add mul:Int→Int→Int} {neg:Int→Int} {m:List (List Int)} {r c k:Nat} (hk:k<m.length) (hkr:k≠r) :
  elimTo add mul neg m r c (k+1)=(elimTo add mul neg m r c k).set k (vadd add (m.getD k []) (vmul mul (neg (ent m k c)) (m.getD r []))):=by
 refine ext_rows (by rw [elimTo_len,List.length_set,elimTo_len]) fun j hj'=>?_
 rw [elimTo_len] at hj'
 rw [elimTo_get hj',getD_set_row (by rw [elimTo_len];exact hk)]
 by_cases h:k=j
 ·subst h
  rw [if_neg (by omega),if_pos rfl]
 ·rw [if_neg h,elimTo_get hj']
  by_cases h2:j=r∨k≤j
  ·rw [if_pos h2,if_pos (by omega)]
  ·rw [if_neg h2,if_neg (by omega)]
theorem elimTo_skip {add mul:Int→Int→Int} {neg:Int→Int} {m:List (List Int)} {r c:Nat}:elimTo add mul neg m r c (r+1)=elimTo add mul neg m r c r :=
 ext_rows (elimTo_len.trans elimTo_len.symm) fun j hj=>by
  rw [elimTo_len] at hj
  rw [elimTo_get hj,elimTo_get hj]
  by_cases h:j=r∨r≤j
  ·rw [if_pos h,if_pos (by omega)]
  ·rw [if_neg h,if_neg (by omega)]
theorem L84_15_spec {q n:Nat} (hq:q∈Qs) {m:List (List Int)} (hm:Rows q n m) (N:Int) (r c:Nat) (hc:c<n) (hr:r<m.length) {perm:List Nat}:∀ (f k:Nat) (fam:List (List Int)),k≤m.length→m.length<f+k→Mx perm fam (elimTo (fadd q) (fmul q) (fneg q) m r c k) →
  ∃ fam',Mx perm fam' (elim (fadd q) (fmul q) (fneg q) m r c)∧∀ {τ:Type} (κ:Nat→LS_→Option τ),runE L84_15 f κ 0 [.I N,.N m.length,.I r,.N m.length,.I m.length,.I k,.L (fm q),.LN perm,.LL fam,.I (fp q),.I (fe q),.N (fm q).length,.I c]=κ 0 [.I N,.N m.length,.I r,.L (fm q),.LN perm,.LL fam',.I (fp q),.I (fe q),.N (fm q).length,.I c]
 | 0,k,fam,h1,h2,h3=>by omega
 | f+1,k,fam,h1,h2,hM=>by
  have hf:=hm.few
  have hs:=hm.short
  have F:=fld q hq
  have ll:(elimTo (fadd q) (fmul q) (fneg q) m r c k).length=m.length:=elimTo_len
  have hpl:perm.length=m.length:=by rw [hM.len,ll]
  by_cases hj:k<m.length
  ·have wk:=hm.wd k hj
   have wr:=hm.wd r hr
   have gk:(elimTo (fadd q) (fmul q) (fneg q) m r c k).getD k []=m.getD k []:=by rw [elimTo_get hj,if_pos (.inr (Nat.le_refl _))]
   have gr:(elimTo (fadd q) (fmul q) (fneg q) m r c k).getD r []=m.getD r []:=by rw [elimTo_get hr,if_pos (.inl rfl)]
   have b1:=hM.lt k (by rw [ll];exact hj)
   have b2:=hM.lt r (by rw [ll];exact hr)
   have b3:=hM.eq k (by rw [ll];exact hj)
   have b4:=hM.eq r (by rw [ll];exact hr)
   rw [gk] at b3
   rw [gr] at b4
   by_cases hkr:k=r
   ·subst hkr
    obtain ⟨fam',c1,c2⟩:=L84_15_spec hq hm N  k c hc hr f (k+1) fam (by omega) (by omega) (by rw [elimTo_skip];exact hM)
    refine ⟨fam',c1,fun {τ} κ=>?_⟩
    rw [runE_succ]
    show L84_15.s0 _ _ _=_
    unfold L84_15.s0
    simp only [g_,gLN_zero,gLN_succ,Int.toNat_natCast,Nat.mul_one,Nat.zero_add,List.drop_zero,List.take_length]
    generalize perm.getD k 0=Pk at b1 b3 ⊢
    rw [br_of (by simp;omega),ck_of (by simp;omega),ck_of (by simp;omega),br_no (by simp),wsucc (by omega)]
    exact c2 κ
   ·have x0:=wk.2 c hc
    have ng:=F.neg_in _ x0.1 x0.2
    have hne:perm.getD k 0≠perm.getD r 0:=fun e=>hkr (hM.inj k r (by rw [ll];exact hj) (by rw [ll];exact hr) e)
    have hM2:=hM.set (i:=k) (by rw [ll];exact hj) (vadd (fadd q) (m.getD k []) (vmul (fmul q) (fneg q (ent m k c)) (m.getD r [])))
    rw [←elimTo_step hj hkr] at hM2
    obtain ⟨fam',c1,c2⟩:=L84_15_spec hq hm N  r c hc hr f (k+1) _ (by omega) (by omega) hM2
    refine ⟨fam',c1,fun {τ} κ=>?_⟩
    have c2:=c2 κ
    rw [runE_succ]
    show L84_15.s0 _ _ _=_
    unfold L84_15.s0
    simp only [g_,gLN_zero,gLN_succ,Int.toNat_natCast,Nat.mul_one,Nat.zero_add,List.drop_zero,List.take_length]
    generalize perm.getD k 0=Pk at b1 b3 hne c2 ⊢
    generalize perm.getD r 0=Pr at b2 b4 hne c2 ⊢
    have hneg:(k:Int)≠r:=by omega
    rw [b3,b4,br_of (by simp;omega),ck_of (by simp;omega),ck_of (by simp;omega),br_of (by simpa using hneg),ck_of (by simp only [wk.1];simp;omega),ck_of (by simp only [wk.1];simp;omega),ck_of (by simp)]
    unfold T83
    rw [tab1_of hq x0.1 x0.2]
    simp only [sw_zero,gI_zero]
    rw [ck_of (by simp;omega),ck_of (by simp;omega),S94_0_spec hq (by omega) hne wr wk ng.1 ng.2 b1 b2 b4 b3]
    simp only [g_,sw_zero,gLN_zero,gLN_succ]
    rw [wsucc (by omega)]
    exact c2
  ·have:k=m.length:=by omega
   subst this
   rw [elimTo_all] at hM
   refine ⟨fam,hM,fun {τ} κ=>?_⟩
   rw [runE_succ]
   show L84_15.s0 _ _ _=_
   unfold L84_15.s0
   simp only [g_,gLN_zero,gLN_succ,Int.toNat_natCast,Nat.mul_one,Nat.zero_add,List.drop_zero,List.take_length]
   rw [br_no (by simp)]
theorem L84_15_1_spec {q n:Nat} (hq:q∈Qs) {m:List (List Int)} (hm:Rows q n m) (N:Int) (u1:Int) (r c:Nat) (hc:c<n) (hr:r<m.length) {perm:List Nat}:∀ (f k:Nat) (fam:List (List Int)),k≤m.length→m.length<f+k→Mx perm fam (elimTo (fadd q) (fmul q) (fneg q) m r c k) →
  ∃ fam',Mx perm fam' (elim (fadd q) (fmul q) (fneg q) m r c)∧∀ {τ:Type} (κ:Nat→LS_→Option τ),runE L84_15_1 f κ 0 [.I N,.N m.length,.I r,.N m.length,.I m.length,.I k,.L (fm q),.LN perm,.LL fam,.I (fp q),.I (fe q),.N (fm q).length,.I u1,.I c]=κ 0 [.I N,.N m.length,.I r,.L (fm q),.LN perm,.LL fam',.I (fp q),.I (fe q),.N (fm q).length,.I u1,.I c]
 | 0,k,fam,h1,h2,h3=>by omega
 | f+1,k,fam,h1,h2,hM=>by
  have hf:=hm.few
  have hs:=hm.short
  have F:=fld q hq
  have ll:(elimTo (fadd q) (fmul q) (fneg q) m r c k).length=m.length:=elimTo_len
  have hpl:perm.length=m.length:=by rw [hM.len,ll]
  by_cases hj:k<m.length
  ·have wk:=hm.wd k hj
   have wr:=hm.wd r hr
   have gk:(elimTo (fadd q) (fmul q) (fneg q) m r c k).getD k []=m.getD k []:=by rw [elimTo_get hj,if_pos (.inr (Nat.le_refl _))]
   have gr:(elimTo (fadd q) (fmul q) (fneg q) m r c k).getD r []=m.getD r []:=by rw [elimTo_get hr,if_pos (.inl rfl)]
   have b1:=hM.lt k (by rw [ll];exact hj)
   have b2:=hM.lt r (by rw [ll];exact hr)
   have b3:=hM.eq k (by rw [ll];exact hj)
   have b4:=hM.eq r (by rw [ll];exact hr)
   rw [gk] at b3
   rw [gr] at b4
   by_cases hkr:k=r
   ·subst hkr
    obtain ⟨fam',c1,c2⟩:=L84_15_1_spec hq hm N u1 k c hc hr f (k+1) fam (by omega) (by omega) (by rw [elimTo_skip];exact hM)
    refine ⟨fam',c1,fun {τ} κ=>?_⟩
    rw [runE_succ]
    show L84_15_1.s0 _ _ _=_
    unfold L84_15_1.s0
    simp only [g_,gLN_zero,gLN_succ,Int.toNat_natCast,Nat.mul_one,Nat.zero_add,List.drop_zero,List.take_length]
    generalize perm.getD k 0=Pk at b1 b3 ⊢
    rw [br_of (by simp;omega),ck_of (by simp;omega),ck_of (by simp;omega),br_no (by simp),wsucc (by omega)]
    exact c2 κ
   ·have x0:=wk.2 c hc
    have ng:=F.neg_in _ x0.1 x0.2
    have hne:perm.getD k 0≠perm.getD r 0:=fun e=>hkr (hM.inj k r (by rw [ll];exact hj) (by rw [ll];exact hr) e)
    have hM2:=hM.set (i:=k) (by rw [ll];exact hj) (vadd (fadd q) (m.getD k []) (vmul (fmul q) (fneg q (ent m k c)) (m.getD r [])))
    rw [←elimTo_step hj hkr] at hM2
    obtain ⟨fam',c1,c2⟩:=L84_15_1_spec hq hm N u1 r c hc hr f (k+1) _ (by omega) (by omega) hM2
    refine ⟨fam',c1,fun {τ} κ=>?_⟩
    have c2:=c2 κ
    rw [runE_succ]
    show L84_15_1.s0 _ _ _=_
    unfold L84_15_1.s0
    simp only [g_,gLN_zero,gLN_succ,Int.toNat_natCast,Nat.mul_one,Nat.zero_add,List.drop_zero,List.take_length]
    generalize perm.getD k 0=Pk at b1 b3 hne c2 ⊢
    generalize perm.getD r 0=Pr at b2 b4 hne c2 ⊢
    have hneg:(k:Int)≠r:=by omega
    rw [b3,b4,br_of (by simp;omega),ck_of (by simp;omega),ck_of (by simp;omega),br_of (by simpa using hneg),ck_of (by simp only [wk.1];simp;omega),ck_of (by simp only [wk.1];simp;omega),ck_of (by simp)]
    unfold T83
    rw [tab1_of hq x0.1 x0.2]
    simp only [sw_zero,gI_zero]
    rw [ck_of (by simp;omega),ck_of (by simp;omega),S94_0_spec hq (by omega) hne wr wk ng.1 ng.2 b1 b2 b4 b3]
    simp only [g_,sw_zero,gLN_zero,gLN_succ]
    rw [wsucc (by omega)]
    exact c2
  ·have:k=m.length:=by omega
   subst this
   rw [elimTo_all] at hM
   refine ⟨fam,hM,fun {τ} κ=>?_⟩
   rw [runE_succ]
   show L84_15_1.s0 _ _ _=_
   unfold L84_15_1.s0
   simp only [g_,gLN_zero,gLN_succ,Int.toNat_natCast,Nat.mul_one,Nat.zero_add,List.drop_zero,List.take_length]
   rw [br_no (by simp)]
theorem S114_1_spec {perm:List Nat} {fam m:List (List Int)} (hM:Mx perm fam m) (hs:m.length<2^30) {n:Nat} (hw:∀ i,i<m.length→(m.getD i []).length=n) (r c:Nat) (hc:c<n) (hr:r≤m.length) {τ:Type} (k:Nat→LS_→Option τ) :
  S114_1 [.N r,.N (m.length-r),.LN perm,.I c,.LL fam] k=if findp m c (m.length-r) r=m.length then k 0 [.I (-1),.LN perm,.I c,.LL fam] else k 0 [.I ((findp m c (m.length-r) r-r:Nat):Int),.LN perm,.I c,.LL fam]:=by
 have hfu:=fuel_le
 unfold S114_1 L114_2_1.b
 simp only [g_,gLN_zero,gLN_succ]
 have:=L114_2_1_spec hM hs hw r c hc hr (fun j l55=>(sw (k 0 [.I (gI l55 0),.LN (gLN l55 1),.I (gI l55 2),.LL (gLL l55 3)]) (sw (k 0 [.I (-(1:Int)),.LN (gLN l55 1),.I (gI l55 2),.LL (gLL l55 3)]) (fun _=>none))) j) fuel 0 (m.length-r) (by omega) (by omega) (by omega)
 refine Eq.trans this ?_
 rw [Nat.add_zero]
 split <;> rfl
theorem red_succ {add mul:Int→Int→Int} {neg inv:Int→Int} {g c r:Nat} {m:List (List Int)}:red add mul neg inv (g+1) c r m=(if r<m.length then (if findp m c (m.length-r) r=m.length then red add mul neg inv g (c+1) r m
   else red add mul neg inv g (c+1) (r+1) (elim add mul neg (lift mul inv m r (findp m c (m.length-r) r) c) r c)) else (m,r)):=rfl
theorem L84_3_spec {q n:Nat} (hq:q∈Qs):∀ (f g:Nat) (u:Int) (c r:Nat) (m:List (List Int)) (perm:List Nat) (fam:List (List Int)),Rows q n m→Mx perm fam m→g+c=n→r≤m.length→n<f+c →
    ∃ perm' fam' x,Mx perm' fam' (red (fadd q) (fmul q) (fneg q) (finv q) g c r m).1∧∀ {τ:Type} (κ:Nat→LS_→Option τ),runE L84_3 f κ 1 [.I n,.N m.length,.I r,.L (fm q),.LN perm,.LL fam,.I (fp q),.I (fe q),.N (fm q).length,.I u,.I c]=κ 0 [.N m.length,.I (red (fadd q) (fmul q) (fneg q) (finv q) g c r m).2,.L (fm q),.LN perm',.LL fam',.I (fp q),.I (fe q),.N (fm q).length,.I x]
  | 0,g,u,c,r,m,perm,fam,hm,hM,hg,hr,hf=>by omega
  | f+1,0,u,c,r,m,perm,fam,hm,hM,hg,hr,hf=>by
    refine ⟨perm,fam,u,hM,fun {τ} κ=>?_⟩
    rw [runE_succ]
    show L84_3.s1 _ _ _=_
    unfold L84_3.s1
    simp only [g_,gLN_zero,gLN_succ,Int.toNat_natCast,Nat.mul_one,Nat.zero_add,List.drop_zero,List.take_length]
    rw [br_no (by simp;omega)]
    rfl
  | f+1,g+1,u,c,r,m,perm,fam,hm,hM,hg,hr,hf=>by
    have h1:=hm.few
    have h2:=hm.short
    have F:=fld q hq
    have hfu:=fuel_le
    have hpl:=hM.len
    have hc:c<n:=by omega
    rw [red_succ]
    by_cases hlt:r<m.length
    · rw [if_pos hlt]
      obtain ⟨a1,a2,a3,a4⟩:=findp_spec m c (m.length-r) r (by omega) (by omega)
      have hfind:∀ {τ:Type} (k:Nat→LS_→Option τ),_:=fun {τ} k=>S114_1_spec hM (by omega) (fun i hi=>(hm.wd i hi).1) r c hc hr k
      generalize hp:findp m c (m.length-r) r=p at *
      by_cases hpz:p=m.length
      · rw [if_pos hpz]
        obtain ⟨perm',fam',x,c1,c2⟩:=L84_3_spec hq f g u (c+1) r m perm fam hm hM (by omega) hr (by omega)
        refine ⟨perm',fam',x,c1,fun {τ} κ=>?_⟩
        have c2:=c2 κ
        rw [runE_succ]
        show L84_3.s1 _ _ _=_
        unfold L84_3.s1
        simp only [g_,gLN_zero,gLN_succ,Int.toNat_natCast,Nat.mul_one,Nat.zero_add,List.drop_zero,List.take_length]
        rw [br_of (by simp;omega),br_of (by simp;omega),ck_of (by simp;omega),br_of (by simp;omega),hfind,if_pos hpz]
        simp only [g_,sw_zero,gLN_zero,gLN_succ]
        rw [br_of (b:=ltI (-1) 0) (by simp),wsucc (by omega)]
        exact c2
      · have hp':p<m.length:=by omega
        rw [if_neg hpz]
        have wp:=hm.wd p hp'
        have x0:=wp.2 c hc
        have xz:(m.getD p []).getD c 0≠0:=a4 hp'
        have hi:=F.inv_in _ x0.1 x0.2
        have hml:=hm.lift hq hlt hp' hc
        have ll:(lift (fmul q) (finv q) m r p c).length=m.length:=lift_len
        have hM2:=hM.swap hlt hp'
        have e2:((m.set r (m.getD p [])).set p (m.getD r [])).getD r []=m.getD p []:=by
          rw [getD_set_row (by simpa using hp'),getD_set_row hlt]
          by_cases e:p=r
          · rw [if_pos e,e]
          · rw [if_neg e,if_pos rfl]
        have b1:=hM.lt r hlt
        have b2:=hM.lt p hp'
        have b3:=hM2.lt r (by simpa using hlt)
        have b4:=hM2.eq r (by simpa using hlt)
        rw [e2] at b4
        have hM3:=hM2.set (i:=r) (by simpa using hlt) (vmul (fmul q) (finv q (ent m p c)) (m.getD p []))
        rw [←lift_swap hlt hp'] at hM3
        have hpl2:((perm.set r (perm.getD p 0)).set p (perm.getD r 0)).length=m.length:=by simp [hpl]
        have hr1:r<perm.length:=by omega
        have hp1:p<perm.length:=by omega
        have hwr:wr .i64 ((r:Int)+((p-r:Nat):Int))=(p:Nat):=by rw [wr64 (by omega) (by omega)];omega
        have wx:(fam.getD (perm.getD r 0) []).length=n:=by rw [hM.eq r hlt];exact (hm.wd r hlt).1
        have wy:(fam.getD (perm.getD p 0) []).length=n:=by rw [hM.eq p hp'];exact wp.1
        generalize hpm:(perm.set r (perm.getD p 0)).set p (perm.getD r 0)=pm at hM2 hM3 b3 b4 hpl2
        obtain ⟨fam2,d1,d2⟩:=L84_15_1_spec hq hml n u r c hc (by rw [ll];exact hlt) fuel 0 _ (by omega) (by omega) (by rw [elimTo_zero];exact hM3)
        obtain ⟨perm',fam',x,c1,c2⟩:=L84_3_spec hq f g u (c+1) (r+1) (elim (fadd q) (fmul q) (fneg q) (lift (fmul q) (finv q) m r p c) r c) pm fam2 (hml.elim hq (by rw [ll];exact hlt) hc) d1 (by omega) (by rw [elim_len,ll];omega) (by omega)
        refine ⟨perm',fam',x,c1,fun {τ} κ=>?_⟩
        have c2:=c2 κ
        rw [elim_len,ll] at c2
        rw [runE_succ]
        show L84_3.s1 _ _ _=_
        unfold L84_3.s1
        simp only [g_,gLN_zero,gLN_succ,Int.toNat_natCast,Nat.mul_one,Nat.zero_add,List.drop_zero,List.take_length]
        rw [br_of (by simp;omega),br_of (by simp;omega),ck_of (by simp;omega),br_of (by simp;omega),hfind,if_neg hpz]
        simp only [g_,sw_zero,gLN_zero,gLN_succ]
        rw [br_no (by simp only [ltI_no];omega),hwr]
        simp only [Int.toNat_natCast,hpm]
        generalize perm.getD r 0=Pr at b1 wx ⊢
        generalize perm.getD p 0=Pp at b2 wy ⊢
        have hsc:=L84_10_1_spec hq (perm:=pm) (r:=r) (by rw [hpl2];exact hlt) (In.of wp) (by rw [wp.1];omega) hi.1 hi.2 n u c (fun j l59=>(sw (L84_15_1.b 0 [.I (gI l59 0),.N (gN l59 1),.I (gI l59 2),.N (gN l59 1),.I (((gN l59 1):Nat):Int),.I (0:Int),.L (gL l59 3),.LN (gLN l59 4),.LL (gLL l59 5),.I (gI l59 6),.I (gI l59 7),.N (gN l59 8),.I (gI l59 9),.I (gI l59 10)]
 (fun j l65=>(sw (runE L84_3 f κ 1 [.I (gI l65 0),.N (gN l65 1),.I (wr IntKind.i64 ((gI l65 2)+(1:Int))),.L (gL l65 3),.LN (gLN l65 4),.LL (gLL l65 5),.I (gI l65 6),.I (gI l65 7),.N (gN l65 8),.I (gI l65 9),.I (wr IntKind.i64 ((gI l65 10)+(1:Int)))])
 (fun _=>none)) j))
 (fun _=>none)) j) fuel 0 fam b3 (Nat.zero_le _) (by rw [wp.1];omega) (by simpa using b4)
        generalize pm.getD r 0=Pq at b3 b4 hsc d2 hM3 ⊢
        rw [hpl2] at hsc
        rw [ck_of (by simp;omega),ck_of (by simp;omega),ck_of (by simp;omega),ck_of (by simp;omega),ck_of (by simp;omega),ck_of (by simp;omega),ck_of (by simp;omega),ck_of (by simp;omega),ck_of (by simp;omega),ck_of (by simp;omega),b4,ck_of (by simp only [wp.1];simp;omega),ck_of (by simp only [wp.1];simp;omega),ck_of (by simp)]
        unfold T116
        rw [tabI_of hq x0.1 x0.2 xz]
        simp only [sw_zero,gI_zero]
        rw [ck_of (by simp;omega),ck_of (by simp;omega)]
        unfold L84_10_1.b
        refine Eq.trans hsc ?_
        simp only [g_,sw_zero,gLN_zero,gLN_succ]
        unfold L84_15_1.b
        rw [ll] at d2
        refine Eq.trans (d2 _) ?_
        simp only [g_,sw_zero,gLN_zero,gLN_succ]
        rw [wsucc (by omega),wsucc (by omega)]
        exact c2
    · rw [if_neg hlt]
      refine ⟨perm,fam,u,hM,fun {τ} κ=>?_⟩
      rw [runE_succ]
      show L84_3.s1 _ _ _=_
      unfold L84_3.s1
      simp only [g_,gLN_zero,gLN_succ,Int.toNat_natCast,Nat.mul_one,Nat.zero_add,List.drop_zero,List.take_length]
      rw [br_of (by simp;omega),br_no (by simp;omega)]
theorem L84_3_spec0 {q n:Nat} (hq:q∈Qs):∀ (f g:Nat) (c r:Nat) (m:List (List Int)) (perm:List Nat) (fam:List (List Int)),Rows q n m→Mx perm fam m→g+c=n→r≤m.length→n<f+c →
    ∃ perm' fam' x,Mx perm' fam' (red (fadd q) (fmul q) (fneg q) (finv q) g c r m).1∧∀ {τ:Type} (κ:Nat→LS_→Option τ),runE L84_3 f κ 0 [.I n,.N m.length,.I r,.L (fm q),.LN perm,.LL fam,.I (fp q),.I (fe q),.N (fm q).length,.I c]=κ 0 [.N m.length,.I (red (fadd q) (fmul q) (fneg q) (finv q) g c r m).2,.L (fm q),.LN perm',.LL fam',.I (fp q),.I (fe q),.N (fm q).length,.I x]
  | 0,g,c,r,m,perm,fam,hm,hM,hg,hr,hf=>by omega
  | f+1,0,c,r,m,perm,fam,hm,hM,hg,hr,hf=>by
    refine ⟨perm,fam,c,hM,fun {τ} κ=>?_⟩
    rw [runE_succ]
    show L84_3.s0 _ _ _=_
    unfold L84_3.s0
    simp only [g_,gLN_zero,gLN_succ,Int.toNat_natCast,Nat.mul_one,Nat.zero_add,List.drop_zero,List.take_length]
    rw [br_no (by simp;omega)]
    rfl
  | f+1,g+1,c,r,m,perm,fam,hm,hM,hg,hr,hf=>by
    have h1:=hm.few
    have h2:=hm.short
    have F:=fld q hq
    have hfu:=fuel_le
    have hpl:=hM.len
    have hc:c<n:=by omega
    rw [red_succ]
    by_cases hlt:r<m.length
    · rw [if_pos hlt]
      obtain ⟨a1,a2,a3,a4⟩:=findp_spec m c (m.length-r) r (by omega) (by omega)
      have hfind:∀ {τ:Type} (k:Nat→LS_→Option τ),_:=fun {τ} k=>S114_1_spec hM (by omega) (fun i hi=>(hm.wd i hi).1) r c hc hr k
      generalize hp:findp m c (m.length-r) r=p at *
      by_cases hpz:p=m.length
      · rw [if_pos hpz]
        obtain ⟨perm',fam',x,c1,c2⟩:=L84_3_spec hq f g c (c+1) r m perm fam hm hM (by omega) hr (by omega)
        refine ⟨perm',fam',x,c1,fun {τ} κ=>?_⟩
        have c2:=c2 κ
        rw [runE_succ]
        show L84_3.s0 _ _ _=_
        unfold L84_3.s0
        simp only [g_,gLN_zero,gLN_succ,Int.toNat_natCast,Nat.mul_one,Nat.zero_add,List.drop_zero,List.take_length]
        rw [br_of (by simp;omega),br_of (by simp;omega),ck_of (by simp;omega),br_of (by simp;omega),hfind,if_pos hpz]
        simp only [g_,sw_zero,gLN_zero,gLN_succ]
        rw [br_of (b:=ltI (-1) 0) (by simp),wsucc (by omega)]
        exact c2
      · have hp':p<m.length:=by omega
        rw [if_neg hpz]
        have wp:=hm.wd p hp'
        have x0:=wp.2 c hc
        have xz:(m.getD p []).getD c 0≠0:=a4 hp'
        have hi:=F.inv_in _ x0.1 x0.2
        have hml:=hm.lift hq hlt hp' hc
        have ll:(lift (fmul q) (finv q) m r p c).length=m.length:=lift_len
        have hM2:=hM.swap hlt hp'
        have e2:((m.set r (m.getD p [])).set p (m.getD r [])).getD r []=m.getD p []:=by
          rw [getD_set_row (by simpa using hp'),getD_set_row hlt]
          by_cases e:p=r
          · rw [if_pos e,e]
          · rw [if_neg e,if_pos rfl]
        have b1:=hM.lt r hlt
        have b2:=hM.lt p hp'
        have b3:=hM2.lt r (by simpa using hlt)
        have b4:=hM2.eq r (by simpa using hlt)
        rw [e2] at b4
        have hM3:=hM2.set (i:=r) (by simpa using hlt) (vmul (fmul q) (finv q (ent m p c)) (m.getD p []))
        rw [←lift_swap hlt hp'] at hM3
        have hpl2:((perm.set r (perm.getD p 0)).set p (perm.getD r 0)).length=m.length:=by simp [hpl]
        have hr1:r<perm.length:=by omega
        have hp1:p<perm.length:=by omega
        have hwr:wr .i64 ((r:Int)+((p-r:Nat):Int))=(p:Nat):=by rw [wr64 (by omega) (by omega)];omega
        have wx:(fam.getD (perm.getD r 0) []).length=n:=by rw [hM.eq r hlt];exact (hm.wd r hlt).1
        have wy:(fam.getD (perm.getD p 0) []).length=n:=by rw [hM.eq p hp'];exact wp.1
        generalize hpm:(perm.set r (perm.getD p 0)).set p (perm.getD r 0)=pm at hM2 hM3 b3 b4 hpl2
        obtain ⟨fam2,d1,d2⟩:=L84_15_spec hq hml n r c hc (by rw [ll];exact hlt) fuel 0 _ (by omega) (by omega) (by rw [elimTo_zero];exact hM3)
        obtain ⟨perm',fam',x,c1,c2⟩:=L84_3_spec hq f g c (c+1) (r+1) (elim (fadd q) (fmul q) (fneg q) (lift (fmul q) (finv q) m r p c) r c) pm fam2 (hml.elim hq (by rw [ll];exact hlt) hc) d1 (by omega) (by rw [elim_len,ll];omega) (by omega)
        refine ⟨perm',fam',x,c1,fun {τ} κ=>?_⟩
        have c2:=c2 κ
        rw [elim_len,ll] at c2
        rw [runE_succ]
        show L84_3.s0 _ _ _=_
        unfold L84_3.s0
        simp only [g_,gLN_zero,gLN_succ,Int.toNat_natCast,Nat.mul_one,Nat.zero_add,List.drop_zero,List.take_length]
        rw [br_of (by simp;omega),br_of (by simp;omega),ck_of (by simp;omega),br_of (by simp;omega),hfind,if_neg hpz]
        simp only [g_,sw_zero,gLN_zero,gLN_succ]
        rw [br_no (by simp only [ltI_no];omega),hwr]
        simp only [Int.toNat_natCast,hpm]
        generalize perm.getD r 0=Pr at b1 wx ⊢
        generalize perm.getD p 0=Pp at b2 wy ⊢
        have hsc:=L84_10_spec hq (perm:=pm) (r:=r) (by rw [hpl2];exact hlt) (In.of wp) (by rw [wp.1];omega) hi.1 hi.2 n c (fun j l59=>(sw (L84_15.b 0 [.I (gI l59 0),.N (gN l59 1),.I (gI l59 2),.N (gN l59 1),.I (((gN l59 1):Nat):Int),.I (0:Int),.L (gL l59 3),.LN (gLN l59 4),.LL (gLL l59 5),.I (gI l59 6),.I (gI l59 7),.N (gN l59 8),.I (gI l59 9)]
 (fun j l65=>(sw (runE L84_3 f κ 1 [.I (gI l65 0),.N (gN l65 1),.I (wr IntKind.i64 ((gI l65 2)+(1:Int))),.L (gL l65 3),.LN (gLN l65 4),.LL (gLL l65 5),.I (gI l65 6),.I (gI l65 7),.N (gN l65 8),.I (gI l65 9),.I (wr IntKind.i64 ((gI l65 9)+(1:Int)))])
 (fun _=>none)) j))
 (fun _=>none)) j) fuel 0 fam b3 (Nat.zero_le _) (by rw [wp.1];omega) (by simpa using b4)
        generalize pm.getD r 0=Pq at b3 b4 hsc d2 hM3 ⊢
        rw [hpl2] at hsc
        rw [ck_of (by simp;omega),ck_of (by simp;omega),ck_of (by simp;omega),ck_of (by simp;omega),ck_of (by simp;omega),ck_of (by simp;omega),ck_of (by simp;omega),ck_of (by simp;omega),ck_of (by simp;omega),ck_of (by simp;omega),b4,ck_of (by simp only [wp.1];simp;omega),ck_of (by simp only [wp.1];simp;omega),ck_of (by simp)]
        unfold T116
        rw [tabI_of hq x0.1 x0.2 xz]
        simp only [sw_zero,gI_zero]
        rw [ck_of (by simp;omega),ck_of (by simp;omega)]
        unfold L84_10.b
        refine Eq.trans hsc ?_
        simp only [g_,sw_zero,gLN_zero,gLN_succ]
        unfold L84_15.b
        rw [ll] at d2
        refine Eq.trans (d2 _) ?_
        simp only [g_,sw_zero,gLN_zero,gLN_succ]
        rw [wsucc (by omega),wsucc (by omega)]
        exact c2
    · rw [if_neg hlt]
      refine ⟨perm,fam,c,hM,fun {τ} κ=>?_⟩
      rw [runE_succ]
      show L84_3.s0 _ _ _=_
      unfold L84_3.s0
      simp only [g_,gLN_zero,gLN_succ,Int.toNat_natCast,Nat.mul_one,Nat.zero_add,List.drop_zero,List.take_length]
      rw [br_of (by simp;omega),br_no (by simp;omega)]
end
end Go.Proofs.Ytbpjicbpcfkpfaa.Ai
