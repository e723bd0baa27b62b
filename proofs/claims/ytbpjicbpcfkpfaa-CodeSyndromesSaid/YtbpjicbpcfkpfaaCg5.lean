/-
Part 5 of 8 of the texts for one claim: P13 P14 P15 P16 W1 P17 Wa Xe P18 P19 P20 P21 Xg P22.
-/
import Derived.Test.YtbpjicbpcfkpfaaCg4
set_option linter.unusedVariables false
set_option linter.unusedSimpArgs false
namespace Go.Proofs.Ytbpjicbpcfkpfaa.Ai
open Go Ma
noncomputable section
open Classical in
theorem L100_2_spec (q:Int) {a:List Int} (hs:a.length<2^60) {τ:Type} (κ:Nat→LS_→Option τ):∀ (f j:Nat),j≤a.length→a.length<f+j →
  ∃ i:Nat,runE L100_2 f κ 0 [.N a.length,.L a,.I 0,.I a.length,.I j,.I q]=if (∀ i,j≤i→i<a.length→0≤a.getD i 0∧a.getD i 0<q) then κ 1 [.I 0,.I q] else κ 0 [.I i,.I q]
 | 0,j,h1,h2=>by omega
 | f+1,j,h1,h2=>by
  rw [runE_succ]
  show ∃ i:Nat,L100_2.s0 _ _ _=_
  unfold L100_2.s0
  simp only [g_]
  by_cases hj:j<a.length
  ·have e:=wsucc (j:=j) (by omega)
   simp only [Int.toNat_natCast,Nat.mul_one]
   rw [br_of (by simp;omega),ck_of (by simp <;> omega),ck_of (by simp <;> omega)]
   by_cases h0:0≤a.getD j 0
   ·rw [br_no (by simp only [ltI_no];omega)]
    by_cases h3:a.getD j 0<q
    ·obtain ⟨i,hi⟩:=L100_2_spec q hs κ f (j+1) (by omega) (by omega)
     refine ⟨i,?_⟩
     rw [br_no (by simp only [geI_no];omega),e,hi]
     have hh:(∀ i,j+1≤i→i<a.length→0≤a.getD i 0∧a.getD i 0<q)↔(∀ i,j≤i→i<a.length→0≤a.getD i 0∧a.getD i 0<q):=by
      refine ⟨fun h i hi hl=>?_,fun h i hi hl=>h i (by omega) hl⟩
      by_cases he:i=j
      ·subst he;exact ⟨h0,h3⟩
      ·exact h i (by omega) hl
     simp only [hh]
    ·refine ⟨j,?_⟩
     rw [br_of (by simp only [geI_iff];omega),if_neg (fun h=>h3 (h j (Nat.le_refl _) hj).2)]
   ·refine ⟨j,?_⟩
    rw [br_of (by simp only [ltI_iff];omega),if_neg (fun h=>h0 (h j (Nat.le_refl _) hj).1)]
  ·refine ⟨0,?_⟩
   rw [br_no (by simp;omega),if_pos (fun i h1 h2=>by omega)]
theorem S122_0_spec (q:Int) {a:List Int} (hs:a.length<2^60) {τ:Type} (k:Nat→LS_→Option τ) :
  S122_0 [.N a.length,.L a,.I q] k=k 0 [.B (!isWord q a.length a),.I q]:=by
 have hfu:=fuel_le
 unfold S122_0 S100_0 L100_2.b
 simp only [g_]
 obtain ⟨i,hi⟩:=L100_2_spec q hs (fun j l45=>(sw ((fun j l46=>(sw (k 0 [.B (geI (gI l46 0) (0:Int)),.I (gI l46 1)]) (fun _=>none)) j) 0 [.I (gI l45 0),.I (gI l45 1)]) (sw ((fun j l46=>(sw (k 0 [.B (geI (gI l46 0) (0:Int)),.I (gI l46 1)]) (fun _=>none)) j) 0 [.I (-(1:Int)),.I (gI l45 1)]) (fun _=>none))) j) fuel 0 (by omega) (by omega)
 rw [show ((0:Nat):Int)=0 from rfl] at hi
 refine Eq.trans hi ?_
 cases hw:isWord q (a.length:Int) a with
 | true=>rw [if_pos (isWord_iff.1 hw).2];simp [geI]
 | false=>rw [if_neg (fun h=>by rw [isWord_iff.2 ⟨rfl,h⟩] at hw;cases hw)];simp [geI]
theorem F93_spec (q n:Int) {a:List Int} (hs:a.length<2^60) {τ:Type} (k:Nat→LS_→Option τ):F93 [.I q,.I n,.L a] k=k 0 [.B (isWord q n a)]:=by
 unfold F93
 simp only [g_]
 by_cases hn:(a.length:Int)=n
 ·subst hn
  rw [br_of (by simp),S122_0_spec q hs]
  simp
 ·rw [br_no (by simpa using hn)]
  have:isWord q n a=false:=by
   cases hw:isWord q n a with
   | true=>exact absurd (isWord_iff.1 hw).1 hn
   | false=>rfl
  rw [this]
def allWord (q n:Int) (G:List (List Int)):Bool:=(List.range G.length).all fun i=>isWord q n (G.getD i [])
theorem allWord_iff {q n:Int} {G:List (List Int)}:allWord q n G=true↔∀ i,0≤i→i<G.length→isWord q n (G.getD i [])=true:=by
 unfold allWord
 simp only [List.all_eq_true,List.mem_range]
 exact ⟨fun h i _ hi=>h i hi,fun h i hi=>h i (Nat.zero_le _) hi⟩
open Classical in
theorem L114_2_spec (q n:Int) {G:List (List Int)} (hs:G.length<2^60) (hw:∀ i,(G.getD i []).length<2^60) {τ:Type} (κ:Nat→LS_→Option τ):∀ (f j:Nat),j≤G.length→G.length<f+j →
  ∃ i:Nat,runE L114_2 f κ 0 [.N G.length,.LL G,.I 0,.I G.length,.I j,.I q,.I n]=if (∀ i,j≤i→i<G.length→isWord q n (G.getD i [])=true) then κ 1 [.I 0,.I q,.I n] else κ 0 [.I i,.I q,.I n]
 | 0,j,h1,h2=>by omega
 | f+1,j,h1,h2=>by
  rw [runE_succ]
  show ∃ i:Nat,L114_2.s0 _ _ _=_
  unfold L114_2.s0
  simp only [g_]
  by_cases hj:j<G.length
  ·have e:=wsucc (j:=j) (by omega)
   simp only [Int.toNat_natCast,Nat.mul_one]
   rw [br_of (by simp;omega),ck_of (by simp <;> omega),ck_of (by simp <;> omega),ck_of (by simp),F93_spec q n (hw j)]
   simp only [sw_zero,gB_zero]
   cases h0:isWord q n (G.getD j []) with
   | true =>
    obtain ⟨i,hi⟩:=L114_2_spec q n hs hw κ f (j+1) (by omega) (by omega)
    refine ⟨i,?_⟩
    rw [br_no (b:=!true) rfl,e,hi]
    have hh:(∀ i,j+1≤i→i<G.length→isWord q n (G.getD i [])=true)↔(∀ i,j≤i→i<G.length→isWord q n (G.getD i [])=true):=by
     refine ⟨fun h i hi hl=>?_,fun h i hi hl=>h i (by omega) hl⟩
     by_cases he:i=j
     ·subst he;exact h0
     ·exact h i (by omega) hl
    simp only [hh]
   | false =>
    refine ⟨j,?_⟩
    rw [br_of (b:=!false) rfl,if_neg (fun h=>by have:=h j (Nat.le_refl _) hj;rw [h0] at this;cases this)]
  ·refine ⟨0,?_⟩
   rw [br_no (by simp;omega),if_pos (fun i h1 h2=>by omega)]
theorem S117_0_spec (q n:Int) {G:List (List Int)} (hs:G.length<2^60) (hw:∀ i,(G.getD i []).length<2^60) {τ:Type} (k:Nat→LS_→Option τ) :
  S117_0 [.N G.length,.LL G,.I q,.I n] k=k 0 [.B (!allWord q n G),.I q,.I n]:=by
 have hfu:=fuel_le
 unfold S117_0 S114_0 L114_2.b
 simp only [g_]
 obtain ⟨i,hi⟩:=L114_2_spec q n hs hw (fun j l49=>(sw ((fun j l50=>(sw (k 0 [.B (geI (gI l50 0) (0:Int)),.I (gI l50 1),.I (gI l50 2)]) (fun _=>none)) j) 0 [.I (gI l49 0),.I (gI l49 1),.I (gI l49 2)]) (sw ((fun j l50=>(sw (k 0 [.B (geI (gI l50 0) (0:Int)),.I (gI l50 1),.I (gI l50 2)]) (fun _=>none)) j) 0 [.I (-(1:Int)),.I (gI l49 1),.I (gI l49 2)]) (fun _=>none))) j) fuel 0 (by omega) (by omega)
 rw [show ((0:Nat):Int)=0 from rfl] at hi
 refine Eq.trans hi ?_
 cases hw:allWord q n G with
 | true=>rw [if_pos (allWord_iff.1 hw)];simp [geI]
 | false=>rw [if_neg (fun h=>by rw [allWord_iff.2 h] at hw;cases hw)];simp [geI]
theorem F81_spec {q:Nat} (hq:q∈Qs) {τ:Type} (k:Nat→LS_→Option τ):F81 [.I q] k=k 0 [.I (fp q),.I (fe q),.N (fm q).length,.B true,.L (fm q)]:=by
 unfold F81 T99
 simp only [gI_zero]
 rw [tabM_of hq]
 have:=qs_lt hq
 simp only [g_,sw_zero]
 rw [show leI (q:Int) 16=true from by simp only [leI_iff];omega]
theorem F85_spec {q:Nat} (hq:q∈Qs) (n most:Int) {G:List (List Int)} (hs:G.length<2^60) (hw:∀ i,(G.getD i []).length<2^60) {τ:Type} (k:Nat→LS_→Option τ) :
  F85 [.I q,.I n,.I most,.LL G] k=if 1≤n∧n≤24∧(G.length:Int)≤most then k 0 [.I (fp q),.I (fe q),.N (fm q).length,.B (allWord q n G),.L (fm q)] else k 1 [.I (fp q),.I (fe q),.N (fm q).length,.L (fm q)]:=by
 unfold F85
 simp only [g_]
 rw [F81_spec hq]
 simp only [g_,sw_zero]
 rw [br_of rfl]
 by_cases h1:1≤n
 ·rw [br_of (by simpa using h1)]
  by_cases h2:n≤24
  ·rw [br_of (by simpa using h2)]
   by_cases h3:(G.length:Int)≤most
   ·rw [br_of (by simpa using h3),if_pos ⟨h1,h2,h3⟩,S117_0_spec q n hs hw]
    simp
   ·rw [br_no (by simp only [leI_no];exact h3),if_neg (fun h=>h3 h.2.2)]
  ·rw [br_no (by simp only [leI_no];exact h2),if_neg (fun h=>h2 h.2.1)]
 ·rw [br_no (by simp only [geI_no];exact h1),if_neg (fun h=>h1 h.1)]
theorem take_range_rep (n j:Nat) (hj:j<n) (x:Nat):(List.range j++List.replicate (n-j) x).set j j=List.range (j+1)++List.replicate (n-(j+1)) x:=by
 rw [List.set_append,if_neg (by simp),List.length_range,Nat.sub_self]
 have:n-j=(n-(j+1))+1:=by omega
 rw [this,List.replicate_succ,List.set_cons_zero,List.range_succ,List.append_assoc]
 rfl
theorem L87_3_spec {q n:Nat} {G:List (List Int)} (hG:Rows q n G) {τ:Type} (κ:Nat→LS_→Option τ):∀ (f j:Nat),j≤G.length→G.length<f+j →
  runE L87_3 f κ 0 [.N G.length,.N G.length,.LL G,.I G.length,.I j,.LL (G.take j),.LN (List.range j++List.replicate (G.length-j) 1099511627776)]=κ 0 [.N G.length,.LL G,.LN (List.range G.length)]
 | 0,j,h1,h2=>by omega
 | f+1,j,h1,h2=>by
  have hf:=hG.few
  have hs:=hG.short
  rw [runE_succ]
  show L87_3.s0 _ _ _=_
  unfold L87_3.s0
  simp only [g_,gLN_zero,gLN_succ,Int.toNat_natCast,Nat.mul_one,Nat.zero_add]
  by_cases hj:j<G.length
  ·have wl:=(hG.wd j hj).1
   have tl:(G.take j).length=j:=by simp;omega
   have e1:(List.range j++List.replicate (G.length-j) 1099511627776).set j j=List.range (j+1)++List.replicate (G.length-(j+1)) 1099511627776:=take_range_rep _ _ hj _
   have e2:(List.range (j+1)++List.replicate (G.length-(j+1)) 1099511627776).getD j 0=j:=by
    rw [List.getD_eq_getElem?_getD,List.getElem?_append_left (by simp)];simp
   have e3:(List.range j++List.replicate (G.length-j) 1099511627776).length=G.length:=by simp;omega
   have e4:(List.range (j+1)++List.replicate (G.length-(j+1)) 1099511627776).length=G.length:=by simp;omega
   have e5:(G.take j++[List.replicate (G.getD j []).length (0:Int)]).getD j []=List.replicate (G.getD j []).length 0:=by
    rw [List.getD_eq_getElem?_getD,List.getElem?_append_right (by omega),tl];simp
   have e6:(G.take j++[List.replicate (G.getD j []).length (0:Int)]).set j (G.getD j [])=G.take (j+1):=by
    rw [take_succ_getD [] hj,List.set_append,if_neg (by omega),tl,Nat.sub_self];rfl
   have e7:(G.take j++[List.replicate (G.getD j []).length (0:Int)]).length=j+1:=by rw [List.length_append,tl];rfl
   simp only [e1,e2,e3,e4,e5,e6,e7,tl,List.length_replicate]
   generalize G.getD j []=g at wl ⊢
   rw [br_of (by simp;omega),ck_of (by simp;omega),ck_of (by simp;omega),ck_of (by simp;omega),ck_of (by simp;omega),ck_of (by simp;omega),ck_of (by simp;omega),ck_of (by simp;omega),ck_of (by simp),wsucc (by omega)]
   exact L87_3_spec hG κ f (j+1) (by omega) (by omega)
  ·have:j=G.length:=by omega
   subst this
   rw [br_no (by simp)]
   simp
theorem S87_0_spec {q n:Nat} {G:List (List Int)} (hG:Rows q n G) {τ:Type} (k:Nat→LS_→Option τ):S87_0 [.N G.length,.LL G] k=k 0 [.N G.length,.LN (List.range G.length),.LL G]:=by
 have hf:=hG.few
 have hfu:=fuel_le
 unfold S87_0 L87_3.b
 simp only [g_,Int.toNat_natCast]
 rw [ck_of (by simp;omega)]
 have:=L87_3_spec hG (fun j l53=>(sw (k 0 [.N (gN l53 0),.LN (gLN l53 2),.LL (gLL l53 1)]) (fun _=>none)) j) fuel 0 (by omega) (by omega)
 exact this
theorem Mx_copy (G:List (List Int)):Mx (List.range G.length) G G where
 len:=by simp
 lt:=fun i hi=>by simp [List.getD_eq_getElem?_getD,hi]
 eq:=fun i hi=>by simp [List.getD_eq_getElem?_getD,hi]
 inj:=fun i j hi hj e=>by simpa [List.getD_eq_getElem?_getD,hi,hj] using e
theorem S84_0_spec {q n:Nat} (hq:q∈Qs) {m:List (List Int)} (hm:Rows q n m) {perm:List Nat} {fam:List (List Int)} (hM:Mx perm fam m) :
  ∃ perm' fam',Mx perm' fam' (red (fadd q) (fmul q) (fneg q) (finv q) n 0 0 m).1∧∀ {τ:Type} (k:Nat→LS_→Option τ),S84_0 [.I (fp q),.I (fe q),.N (fm q).length,.I n,.N m.length,.L (fm q),.LN perm,.LL fam] k =
   if (red (fadd q) (fmul q) (fneg q) (finv q) n 0 0 m).2=0 then k 1 [.N 0,.L (fm q),.LN perm',.LL fam'] else k 0 [.N (red (fadd q) (fmul q) (fneg q) (finv q) n 0 0 m).2,.L (fm q),.LN perm',.LL fam']:=by
 have hfu:=fuel_le
 have hf:=hm.few
 have hs:=hm.short
 obtain ⟨perm',fam',x,c1,c2⟩:=L84_3_spec0 hq fuel n 0 0 m perm fam hm hM (by omega) (Nat.zero_le _) (by omega)
 refine ⟨perm',fam',c1,fun {τ} k=>?_⟩
 unfold S84_0 L84_3.b
 simp only [g_,gLN_zero,gLN_succ]
 refine Eq.trans (c2 _) ?_
 obtain ⟨a,b,d⟩:=red_len (add:=fadd q) (mul:=fmul q) (neg:=fneg q) (inv:=finv q) n 0 0 m
 have d:=d (Nat.zero_le _)
 generalize (red (fadd q) (fmul q) (fneg q) (finv q) n 0 0 m).2=r at d ⊢
 simp only [g_,sw_zero,gLN_zero,gLN_succ,Int.toNat_natCast,Nat.sub_zero]
 rw [ck_of (by simp;omega)]
 by_cases hz:r=0
 ·rw [if_pos hz,br_no (by simp;omega)]
 ·rw [if_neg hz,br_of (by simp;omega)]
theorem L88_spec {τ:Type} (κ:Nat→LS_→Option τ) (a b:List Int) (hl:a.length=b.length) (hb:a.length<2^60):∀ (n j:Nat) (r:Bool),j≤a.length→a.length<n+j →
  runE L88_4 n κ 0 [.N a.length,.L a,.N b.length,.L b,.B r,.I a.length,.I j]=if a.drop j=b.drop j then κ 1 [.B r] else κ 0 [.B false]
 | 0,j,r,h1,h2=>by omega
 | n+1,j,r,h1,h2=>by
  rw [runE_succ]
  show L88_4.s0 _ _ _=_
  unfold L88_4.s0
  simp only [g_]
  by_cases hj:j<a.length
  ·have e:=wsucc (j:=j) (by omega)
   simp only [Int.toNat_natCast,Nat.mul_one]
   rw [br_of (by simp;omega),ck_of (by simp <;> omega),ck_of (by simp <;> omega),ck_of (by simp <;> omega),ck_of (by simp <;> omega),e,L88_spec κ a b hl hb n (j+1) r (by omega) (by omega)]
   rw [drop_cons (l:=a) (j:=j) 0 hj,drop_cons (l:=b) (j:=j) 0 (hl▸hj)]
   by_cases hq:a.getD j 0=b.getD j 0
   ·rw [br_no (by rw [hq];simp),hq];simp
   ·rw [br_of (by simpa using hq),if_neg (by intro h;injection h with h _;exact hq h)]
  ·have:j=a.length:=by omega
   rw [br_no (by simp;omega),if_pos (by rw [List.drop_eq_nil_of_le (by omega),List.drop_eq_nil_of_le (by omega)])]
theorem F88_spec {τ:Type} (k:Nat→LS_→Option τ) (a b:List Int) (hb:a.length<2^60):F88 [.L a,.L b] k=k 0 [.B (decide (a=b))]:=by
 unfold F88 L88_4.b
 simp only [gL_zero,gL_succ]
 by_cases hl:a.length=b.length
 ·have:=fuel_le
  rw [br_no (by simp [hl])]
  have e:=L88_spec (fun j l0=>(sw (k 0 [(Leaf.B (gB l0 0))]) (sw (k 0 [(Leaf.B Bool.true)]) (fun _=>none))) j) a b hl hb fuel 0 false (by omega) (by omega)
  rw [show ((0:Nat):Int)=0 from rfl] at e
  refine Eq.trans e ?_
  by_cases hq:a=b
  ·subst hq;simp
  ·simp [hq]
 ·rw [br_of (by simp;omega)]
  have:a≠b:=fun h=>hl (by rw [h])
  simp [this]
theorem L86_spec {a:List (List Int)} {perm:List Nat} {fam m:List (List Int)} (hM:Mx perm fam m) (hl:a.length≤m.length) (hs:a.length<2^60) (ha:∀ i,(a.getD i []).length<2^60) {τ:Type} (κ:Nat→LS_→Option τ):∀ (n j:Nat) (r:Bool),j≤a.length→a.length<n+j →
  runE L86_4 n κ 0 [.N a.length,.B r,.N a.length,.LL a,.I a.length,.I j,.LN perm,.LL fam]=if a.drop j=(m.take a.length).drop j then κ 1 [.B r,.LN perm,.LL fam] else κ 0 [.B false,.LN perm,.LL fam]
 | 0,j,r,h1,h2=>by omega
 | n+1,j,r,h1,h2=>by
  have hpl:=hM.len
  rw [runE_succ]
  show L86_4.s0 _ _ _=_
  unfold L86_4.s0
  simp only [g_,gLN_zero,gLN_succ,Int.toNat_natCast,Nat.mul_one,Nat.zero_add,List.drop_zero,List.take_length]
  by_cases hj:j<a.length
  ·have b1:=hM.lt j (by omega)
   have b2:=hM.eq j (by omega)
   have tg:(m.take a.length).getD j []=m.getD j []:=by simp [List.getD_eq_getElem?_getD,List.getElem?_take,hj]
   have nx:=L86_spec hM hl hs ha κ n (j+1) r (by omega) (by omega)
   rw [drop_cons (l:=a) (j:=j) [] hj,drop_cons (l:=m.take a.length) (j:=j) [] (by simp;omega),tg]
   generalize perm.getD j 0=Pj at b1 b2 ⊢
   rw [b2,br_of (by simp;omega),ck_of (by simp;omega),ck_of (by simp;omega),ck_of (by simp;omega),ck_of (by simp;omega),ck_of (by simp;omega),ck_of (by simp),F88_spec _ _ _ (ha j)]
   simp only [sw_zero,gB_zero]
   rw [wsucc (by omega),nx]
   by_cases hq:a.getD j []=m.getD j []
   ·rw [br_no (by rw [hq];simp),hq];simp
   ·rw [br_of (by simp only [hq,decide_false,Bool.not_false]),if_neg (by intro h;injection h with h _;exact hq h)]
  ·have:j=a.length:=by omega
   rw [br_no (by simp;omega),if_pos (by rw [List.drop_eq_nil_of_le (by omega),List.drop_eq_nil_of_le (by simp;omega)])]
theorem S86_0_spec {a:List (List Int)} {perm:List Nat} {fam m:List (List Int)} (hM:Mx perm fam m) {r:Nat} (hr:r≤m.length) (hs:a.length<2^60) (ha:∀ i,(a.getD i []).length<2^60) {τ:Type} (k:Nat→LS_→Option τ) :
  S86_0 [.N a.length,.LL a,.N r,.LN perm,.LL fam] k=k 0 [.B (decide (a=m.take r)),.LN perm,.LL fam]:=by
 have hfu:=fuel_le
 unfold S86_0 L86_4.b
 simp only [g_,gLN_zero,gLN_succ]
 by_cases hl:a.length=r
 ·subst hl
  rw [br_no (by simp)]
  have e:=L86_spec hM hr hs ha (fun j l86=>(sw (k 0 [.B (gB l86 0),.LN (gLN l86 1),.LL (gLL l86 2)]) (sw (k 0 [.B true,.LN (gLN l86 1),.LL (gLL l86 2)]) (fun _=>none))) j) fuel 0 false (by omega) (by omega)
  rw [show ((0:Nat):Int)=0 from rfl] at e
  refine Eq.trans e ?_
  by_cases hq:a=m.take a.length
  ·rw [if_pos (by rw [List.drop_zero,List.drop_zero];exact hq),show decide (a=m.take a.length)=true from decide_eq_true hq]
   simp
  ·rw [if_neg (by rw [List.drop_zero,List.drop_zero];exact hq),show decide (a=m.take a.length)=false from decide_eq_false hq]
   simp
 ·rw [br_of (by simp;omega)]
  have:a≠m.take r:=fun h=>hl (by rw [h];simp;omega)
  simp [this]
theorem L86_4_1_run (f:Nat) {τ:Type} (κ:Nat→LS_→Option τ) (l:LS_):runE L86_4_1 (f+1) κ 0 l=L86_4_1.s0 (runE L86_4_1 f κ) κ l:=rfl
theorem S86_1_spec {a:List (List Int)} (hs:a.length<2^60) {τ:Type} (k:Nat→LS_→Option τ):S86_1 [.N a.length,.LL a,.N 0] k=k 0 [.B (decide (a=[]))]:=by
 have hfu:=fuel_le
 unfold S86_1 L86_4_1.b
 simp only [g_]
 cases a with
 | nil =>
  rw [br_no (by simp),show fuel=(fuel-1)+1 by omega,L86_4_1_run]
  unfold L86_4_1.s0
  simp only [g_]
  rw [br_no (by simp)]
  simp
 | cons x xs =>
  rw [br_of (by simp;omega)]
  simp
def validB (q:Nat) (n:Int) (G:List (List Int)):Bool:=decide (1≤n)&&(decide (n≤24)&&(decide ((G.length:Int)≤n)&&(allWord q n G&&decide (G=(red (fadd q) (fmul q) (fneg q) (finv q) n.toNat 0 0 G).1.take (red (fadd q) (fmul q) (fneg q) (finv q) n.toNat 0 0 G).2))))
theorem F37_spec {q:Nat} (hq:q∈Qs) (n:Int) {G:List (List Int)} (hs:G.length<2^60) (hw:∀ i,(G.getD i []).length<2^60) {τ:Type} (k:Nat→LS_→Option τ):F37 [.I q,.I n,.LL G] k=k 0 [.B (validB q n G)]:=by
 unfold F37 validB
 simp only [g_]
 rw [ck_of (by simp),F85_spec hq n n hs hw]
 by_cases hc:1≤n∧n≤24∧(G.length:Int)≤n
 ·obtain ⟨c1,c2,c3⟩:=hc
  rw [if_pos ⟨c1,c2,c3⟩,decide_eq_true c1,decide_eq_true c2,decide_eq_true c3]
  simp only [g_,sw_zero,Bool.true_and]
  cases ha:allWord q n G with
  | false=>rw [br_no rfl];rfl
  | true =>
   obtain ⟨n',rfl⟩:∃ n':Nat,n=n':=⟨n.toNat,by omega⟩
   have hR:Rows q n' G:=⟨fun i hi=>by
    have:=isWord_iff.1 (allWord_iff.1 ha i (Nat.zero_le _) hi)
    exact ⟨by omega,fun j hj=>this.2 j (Nat.zero_le _) (by omega)⟩,by omega,by omega⟩
   obtain ⟨perm',fam',d1,d2⟩:=S84_0_spec hq hR (Mx_copy G)
   obtain ⟨a,b,d⟩:=red_len (add:=fadd q) (mul:=fmul q) (neg:=fneg q) (inv:=finv q) n' 0 0 G
   rw [br_of rfl,S87_0_spec hR]
   simp only [g_,sw_zero,gLN_zero,gLN_succ]
   rw [d2,Bool.true_and]
   have d:=d (Nat.zero_le _)
   have et:(n':Int).toNat=n':=rfl
   rw [et]
   by_cases hz:(red (fadd q) (fmul q) (fneg q) (finv q) n' 0 0 G).2=0
   ·rw [if_pos hz,hz]
    simp only [sw_one,sw_zero,gN_zero,List.take_zero]
    rw [S86_1_spec hs]
    exact congrArg (fun b=>k 0 [.B b]) (decide_eq_decide.2 Iff.rfl)
   ·rw [if_neg hz]
    simp only [sw_zero,gN_zero,gLL_zero,gLN_zero,gLL_succ,gLN_succ]
    rw [S86_0_spec d1 (by rw [a];exact d) hs hw]
    simp
 ·rw [if_neg hc]
  have:(decide (1≤n)&&(decide (n≤24)&&(decide ((G.length:Int)≤n)&&(allWord q n G&&decide (G=(red (fadd q) (fmul q) (fneg q) (finv q) n.toNat 0 0 G).1.take (red (fadd q) (fmul q) (fneg q) (finv q) n.toNat 0 0 G).2)))))=false:=by
   cases hb:(decide (1≤n)&&(decide (n≤24)&&(decide ((G.length:Int)≤n)&&(allWord q n G&&decide (G=(red (fadd q) (fmul q) (fneg q) (finv q) n.toNat 0 0 G).1.take (red (fadd q) (fmul q) (fneg q) (finv q) n.toNat 0 0 G).2))))) with
   | false=>rfl
   | true =>
    simp only [Bool.and_eq_true,decide_eq_true_eq] at hb
    exact absurd ⟨hb.1,hb.2.1,hb.2.2.1⟩ hc
  rw [this]
  simp
theorem validB_cd {q n:Nat} {G:List (List Int)} (h:Cd q n G):validB q n G=true:=by
 have hG:=h.rows
 have h1:=h.n0
 have h2:=h.n1
 have h3:=h.len_le
 unfold validB
 rw [show (n:Int).toNat=n from rfl,fix_red h]
 simp only [List.take_length,Bool.and_eq_true,decide_eq_true_eq,and_true]
 exact ⟨by omega,by omega,by omega,allWord_iff.2 fun i _ hi=>isWord_wd (hG.wd i hi)⟩
end
end Go.Proofs.Ytbpjicbpcfkpfaa.Ai
namespace Go.Proofs.Ytbpjicbpcfkpfaa.Ai
open Go Ma
noncomputable section
theorem far_le (lost:Nat→Bool) (w x:List Int) (a:Nat):∀ k,far lost w x a k≤k
 | 0=>Nat.le_refl _
 | k+1=>by rw [far_succ];have:=far_le lost w x a k;split <;> omega
theorem F71_spec {x:List Int} (h0:0<x.length) (h1:x.length<2^30) {τ:Type} (k:Nat→LS_→Option τ):F71 [.L x] k=k 0 [.N x.length,.L x]:=by
 unfold F71
 simp only [g_,Int.toNat_natCast,Nat.mul_one,Nat.zero_add,List.drop_zero,List.take_length,List.nil_append]
 rw [ck_of (by simp;omega),ck_of (by simp;omega)]
structure Sr (q n:Nat) (G:List (List Int)) (w:List Int) (lb:List Bool) (En:List Nat):Prop where
 hq:q∈Qs
 gr:Rows q n G
 wl:w.length=n
 bl:lb.length=n
 n0:1≤n
 n1:n≤1024
 el:En.length=G.length+1
 em:∀ i,i<G.length→En.getD i 0≤En.getD (i+1) 0
 en:∀ i,i≤G.length→En.getD i 0≤n
def found (q:Nat) (lost:Nat→Bool) (w:List Int) (r:Int) (G:List (List Int)) (En:List Nat) (i:Nat) (x:List Int) (t:Nat):List (List Int):=(dfs q (fadd q) (fmul q) lost w r (G.drop i) (En.drop i) x t).map (·.1)
def rest (q:Nat) (lost:Nat→Bool) (w:List Int) (r:Int) (G:List (List Int)) (En:List Nat) (i:Nat) (x:List Int) (t:Nat) (a:Nat):List (List Int) :=
 ((List.range q).drop a).flatMap fun (a:Nat)=>found q lost w r G En (i+1) (vadd (fadd q) x (vmul (fmul q) (a:Int) (G.getD i []))) (t+far lost w (vadd (fadd q) x (vmul (fmul q) (a:Int) (G.getD i []))) (En.getD i 0) (En.getD (i+1) 0-En.getD i 0))
section
variable {q:Nat} {lost:Nat→Bool} {w:List Int} {r:Int} {G:List (List Int)} {En:List Nat} {i:Nat} {x:List Int} {t:Nat}
end
end
end Go.Proofs.Ytbpjicbpcfkpfaa.Ai
namespace Go.Proofs.Ytbpjicbpcfkpfaa.Ai
open Go Ma
noncomputable section
def mark (g:List Int) (lb:List Bool):List Bool:=g.foldl (fun l i=>l.set i.toNat true) lb
def T35 {τ:Type} (l:LS_) (k:Nat→LS_→Option τ):Option τ:=wrapB F35.E (.v pCode) l k
def T35.E:Ent P:=F35.E.wrap (.v pCode)
def T25 {τ:Type} (l:LS_) (k:Nat→LS_→Option τ):Option τ:=wrapB F25.E (.v pM) l k
def T25.E:Ent P:=F25.E.wrap (.v pM)
theorem wrap_of {e:Ent P} {p:PV3} {ls l2 ls':LS_} {j:Nat} {c:Bool} (hw:∀ {τ:Type} (κ:Option (Bool×LS_)→Option τ),sel e.sh (fun s=>κ (wr3 p (fA s l2))) j=κ (some (c,ls'))) (hc:c=true) {τ:Type} {k:Nat→LS_→Option τ} (h:∀ κ:Nat→LS_→Option τ,e.b ls κ=κ j l2) :
  wrapB e p ls k=k 0 ls':=by
 unfold wrapB
 rw [h]
 refine (hw (fun o=>Option.rec (motive:=fun _=>Option τ) none (fun (q:Bool×LS_)=>ck q.1 (k 0 q.2)) o)).trans ?_
 subst hc
 rfl
theorem T35_spec {Q N K:Int} {L:List Int} (hQ:0≤Q∧Q<256) (hN:0≤N∧N<256) (hK:0≤K∧K<256) (hL:Bytes L) :
  ∃ (q n:Nat) (G:List (List Int)),Cd q n G∧∀ {τ:Type} (κ:Nat→LS_→Option τ),T35 [.I Q,.I N,.I K,.L L] κ=κ 0 [.I q,.I n,.LL G]:=by
 obtain ⟨q,n,M,r,h1,h2,h3,h4⟩:=F35_spec hQ hN hK hL
 refine ⟨q,n,M.take r,h1,fun {τ} κ=>?_⟩
 by_cases hr:r=0
 ·subst hr
  exact wrap_of (e:=F35.E) (p:=.v pCode) (j:=1) (l2:=[.I q,.I n,.N 0]) (c:=true) (ls':=[.I q,.I n,.LL []]) (by intro τ κ;kernel_rfl) rfl (fun κ=>(h4 κ).trans (if_pos rfl))
 ·have:=wrap_of (e:=F35.E) (p:=.v pCode) (j:=0) (l2:=[.I q,.I n,.N r,.LL M]) (c:=true&&(true&&(true&&(true&&(true&&(decide (r=(List.take (r*1) (List.drop 0 M)).length)&&true)))))) (ls':=[.I q,.I n,.LL (List.take (r*1) (List.drop 0 M))]) (by intro τ κ;kernel_rfl)
   (by rw [Nat.mul_one,List.drop_zero,h2];simp) (k:=κ) (fun κ=>(h4 κ).trans (if_neg hr))
  rw [Nat.mul_one,List.drop_zero] at this
  exact this
theorem Rref.leads {q n:Nat} {G:List (List Int)} {piv:Nat→Nat} (h:Rref q n G piv):∀ i,i<G.length→piv i<n∧(∀ j,j<piv i→(G.getD i []).getD j 0=0)∧(G.getD i []).getD (piv i) 0≠0:=fun i hi=>by
 refine ⟨h.lt i hi,fun j hj=>h.lead i j hi hj,?_⟩
 have:=h.one i hi
 unfold ent at this
 rw [this]
 decide
def T18 {τ:Type} (l:LS_) (k:Nat→LS_→Option τ):Option τ:=wrapB F18.E (.tup [pM,pI]) l k
def T18.E:Ent P:=F18.E.wrap (.tup [pM,pI])
def T26 {τ:Type} (l:LS_) (k:Nat→LS_→Option τ):Option τ:=F26 l k
def T26.E:Ent P:=F26.E
end
end Go.Proofs.Ytbpjicbpcfkpfaa.Ai
namespace Go.Proofs.Ytbpjicbpcfkpfaa.Ai
open Go Go.RowKit
noncomputable section
variable {τ:Type} (t:Nat) (nx ex:Nat→LS_→Option τ) (l:LS_) (k κ:Nat→LS_→Option τ)
def eo0:List PO:=[(oG [(pK IntKind.u8),(pK IntKind.u8),(pK IntKind.u8),(PV2.v (PV1.sl (PC0.i IntKind.u8))),(pK IntKind.u16),(PV2.v (PV1.sl (PC0.i IntKind.u8))),(pK IntKind.u16)]),(oG [pI,pI,nS,nS,nS,nS,pI]),(oG [pI,pI,qM]),(oG [pI,pI,qM,qR,(rr 4),nS,pI]),oI]
def L17_6.H:LHead:=⟨false,true,0,69638,69638,110,46,0,[(PS.mk (us 1 ((pp 0)::(pp 1)::(pp 2)::us 1 ((pp 3)::pI::us 99 []))) eo0)],[((Out.exit 0),(PS.mk (us 1 ((pp 0)::(pp 1)::(pp 2)::us 1 ((pp 3)::us 100 []))) eo0))]⟩
def L17_6.O:Orc P:=⟨[],[],[],40⟩
def L17_6.s0:Option τ :=
 br (ltI (gI l 0) (gN l 7))
 (br (ltI (gI l 0) 6)
 (ck (((leI 0 (gI l 0))&&(ltI (gI l 0) (gN l 7)))&&true)
 (ck (ltN ((Int.toNat (gI l 0))*1) (List.length (gL l 8)))
 (ck (!((gI l 14)==0))
 (ck (((leI 0 (Int.tmod (wr .i64 (List.getD (gL l 8) ((Int.toNat (gI l 0))*1) 0)) (gI l 14)))&&(ltI (Int.tmod (wr .i64 (List.getD (gL l 8) ((Int.toNat (gI l 0))*1) 0)) (gI l 14)) (((gN l 23):Nat):Int)))&&true)
 (ck (ltN (0+((Int.toNat (Int.tmod (wr .i64 (List.getD (gL l 8) ((Int.toNat (gI l 0))*1) 0)) (gI l 14)))*1)) (List.length (gL l 25)))
 (ck (((leI 0 (gI l 0))&&(ltI (gI l 0) (gN l 7)))&&true)
 (ck (ltN ((Int.toNat (gI l 0))*1) (List.length (gL l 8)))
 (ck (!((wr .i64 ((gI l 13)-1))==0))
 (ck (!((gI l 13)==0))
 (ck (((leI 0 (Int.tmod (wr .i64 (List.getD (gL l 8) ((Int.toNat (gI l 0))*1) 0)) (gI l 14)))&&(ltI (Int.tmod (wr .i64 (List.getD (gL l 8) ((Int.toNat (gI l 0))*1) 0)) (gI l 14)) (((gN l 23):Nat):Int)))&&true)
 (ck ((leN ((0+((Int.toNat (Int.tmod (wr .i64 (List.getD (gL l 8) ((Int.toNat (gI l 0))*1) 0)) (gI l 14)))*1))+1) (List.length (gL l 25)))&&true)
 (nx 0 [.I (wr .i64 ((gI l 0)+1)),.I (gI l 1),.I (gI l 2),.I (gI l 3),.N (gN l 4),.L (gL l 5),.I (gI l 6),.N (gN l 7),.L (gL l 8),.I (gI l 9),.I (gI l 10),.I (gI l 11),.I (gI l 12),.I (gI l 13),.I (gI l 14),.N (gN l 15),.LL (gLL l 16),.I (gI l 17),.I (gI l 18),.N (gN l 19),.LL (gLL l 20),.N (gN l 21),.L (gL l 22),.N (gN l 23),.I (gI l 24),.L (List.set (gL l 25) (0+((Int.toNat (Int.tmod (wr .i64 (List.getD (gL l 8) ((Int.toNat (gI l 0))*1) 0)) (gI l 14)))*1)) (Int.tmod (wr .i64 ((wr .i64 ((List.getD (gL l 25) (0+((Int.toNat (Int.tmod (wr .i64 (List.getD (gL l 8) ((Int.toNat (gI l 0))*1) 0)) (gI l 14)))*1)) 0)+1))+(Int.tmod (wr .i64 (Int.tdiv (wr .i64 (List.getD (gL l 8) ((Int.toNat (gI l 0))*1) 0)) 16)) (wr .i64 ((gI l 13)-1))))) (gI l 13)))]))))))))))))
 (ex 0 [.I (gI l 1),.I (gI l 2),.I (gI l 3),.N (gN l 4),.L (gL l 5),.I (gI l 6),.N (gN l 7),.L (gL l 8),.I (gI l 9),.I (gI l 10),.I (gI l 11),.I (gI l 12),.I (gI l 13),.I (gI l 14),.N (gN l 15),.LL (gLL l 16),.I (gI l 17),.I (gI l 18),.N (gN l 19),.LL (gLL l 20),.N (gN l 21),.L (gL l 22),.N (gN l 23),.I (gI l 24),.L (gL l 25)]))
 (ex 0 [.I (gI l 1),.I (gI l 2),.I (gI l 3),.N (gN l 4),.L (gL l 5),.I (gI l 6),.N (gN l 7),.L (gL l 8),.I (gI l 9),.I (gI l 10),.I (gI l 11),.I (gI l 12),.I (gI l 13),.I (gI l 14),.N (gN l 15),.LL (gLL l 16),.I (gI l 17),.I (gI l 18),.N (gN l 19),.LL (gLL l 20),.N (gN l 21),.L (gL l 22),.N (gN l 23),.I (gI l 24),.L (gL l 25)])
theorem L17_6.e0:LEq L17_6.O L17_6.H 0 L17_6.s0:=by intro τ next κ l;kernel_rfl
def L17_6:LStep P Cf:=LStep.mk1 (by decide) L17_6.e0
def L17_6.b:Option τ:=runE L17_6 fuel κ t l
def L17_6.E:LEnt P:=LStep.E L17_6
def L17_11.H:LHead:=⟨false,true,0,69643,69643,302,36,0,[(PS.mk (us 1 ((pp 0)::(pp 1)::(pp 2)::us 1 ((pp 3)::us 2 (pI::us 97 [])))) eo0),(PS.mk (us 1 ((pp 0)::(pp 1)::(pp 2)::us 1 ((pp 3)::us 2 (pI::us 97 [])))) [(oG [(pK IntKind.u8),(pK IntKind.u8),(pK IntKind.u8),(PV2.v (PV1.sl (PC0.i IntKind.u8))),(pK IntKind.u16),(PV2.v (PV1.sl (PC0.i IntKind.u8))),(pK IntKind.u16)]),(oG [pI,pI,nS,nS,nS,nS,pI]),(oG [pI,pI,qM]),(oG [pI,pI,qM,qR,(rr 4),(rr 5),pI]),oI,oI])],[((Out.exit 2),(PS.mk (us 2 ((pp 0)::us 2 ((pp 1)::us 100 []))) [(oG [pI,pI,nS,nS,nS,nS,pI]),(oG [pI,pI,qM,qR,(rr 2),nS,pI]),oI])),((Out.exit 2),(PS.mk (us 2 ((pp 0)::us 2 ((pp 1)::us 100 []))) [(oG [pI,pI,nS,nS,nS,nS,pI]),(oG [pI,pI,qM,qR,(rr 2),(rr 3),pI]),oI,oI]))]⟩
def L17_11.O:Orc P:=⟨[],[],[],40⟩
def L17_11.s0:Option τ :=
 br (ltI (gI l 0) (gI l 14))
 (ck (leI 0 (wr IntKind.u64 (gI l 0)))
 (br ((wr IntKind.u16 (((@BitVec.toNat 16 (@HAnd.hAnd (BitVec (IntKind.bits IntKind.u16)) (BitVec (IntKind.bits IntKind.u16)) (BitVec (IntKind.bits IntKind.u16)) (@instHAndOfAndOp (BitVec (IntKind.bits IntKind.u16)) (@BitVec.instAndOp (IntKind.bits IntKind.u16))) (BitVec.ofInt 16 (Int.fdiv (gI l 9) (@HPow.hPow Int Nat Int (@instHPow Int Nat (@instPowNat Int Int.instNatPow)) 2 (min (Int.toNat (wr IntKind.u64 (gI l 0))) 16)))) (BitVec.ofInt (IntKind.bits IntKind.u16) 1))):Nat):Int))==1)
 (nx 1 [.I (wr .i64 ((gI l 0)+1)),.I (gI l 1),.I (gI l 2),.I (gI l 3),.N (gN l 4),.L (gL l 5),.I (gI l 6),.N (gN l 7),.L (gL l 8),.I (gI l 9),.I (gI l 10),.I (gI l 11),.I (gI l 12),.I (gI l 13),.I (gI l 14),.N (gN l 15),.LL (gLL l 16),.I (gI l 17),.I (gI l 18),.N (gN l 19),.LL (gLL l 20),.N (gN l 21),.L (gL l 22),.N (gN l 23),.N 1,.I (gI l 24),.L (gL l 25),.L (List.take 1 (List.drop 0 [(gI l 0)]))])
 (nx 0 [.I (wr .i64 ((gI l 0)+1)),.I (gI l 1),.I (gI l 2),.I (gI l 3),.N (gN l 4),.L (gL l 5),.I (gI l 6),.N (gN l 7),.L (gL l 8),.I (gI l 9),.I (gI l 10),.I (gI l 11),.I (gI l 12),.I (gI l 13),.I (gI l 14),.N (gN l 15),.LL (gLL l 16),.I (gI l 17),.I (gI l 18),.N (gN l 19),.LL (gLL l 20),.N (gN l 21),.L (gL l 22),.N (gN l 23),.I (gI l 24),.L (gL l 25)])))
 (ex 0 [.I (gI l 10),.I (gI l 11),.I (gI l 12),.I (gI l 17),.I (gI l 18),.N (gN l 19),.LL (gLL l 20),.N (gN l 21),.L (gL l 22),.N (gN l 23),.I (gI l 24),.L (gL l 25)])
theorem L17_11.e0:LEq L17_11.O L17_11.H 0 L17_11.s0:=by intro τ next κ l;kernel_rfl
def L17_11.s1:Option τ :=
 br (ltI (gI l 0) (gI l 14))
 (ck (leI 0 (wr IntKind.u64 (gI l 0)))
 (br ((wr IntKind.u16 (((@BitVec.toNat 16 (@HAnd.hAnd (BitVec (IntKind.bits IntKind.u16)) (BitVec (IntKind.bits IntKind.u16)) (BitVec (IntKind.bits IntKind.u16)) (@instHAndOfAndOp (BitVec (IntKind.bits IntKind.u16)) (@BitVec.instAndOp (IntKind.bits IntKind.u16))) (BitVec.ofInt 16 (Int.fdiv (gI l 9) (@HPow.hPow Int Nat Int (@instHPow Int Nat (@instPowNat Int Int.instNatPow)) 2 (min (Int.toNat (wr IntKind.u64 (gI l 0))) 16)))) (BitVec.ofInt (IntKind.bits IntKind.u16) 1))):Nat):Int))==1)
 (ck (((((eqM (List.length (gL l 27)) ((gN l 24)*1))&&true)&&(eqM 1 1))&&(leN (((gN l 24)+1)*9) 1099511627776))&&true)
 (nx 1 [.I (wr .i64 ((gI l 0)+1)),.I (gI l 1),.I (gI l 2),.I (gI l 3),.N (gN l 4),.L (gL l 5),.I (gI l 6),.N (gN l 7),.L (gL l 8),.I (gI l 9),.I (gI l 10),.I (gI l 11),.I (gI l 12),.I (gI l 13),.I (gI l 14),.N (gN l 15),.LL (gLL l 16),.I (gI l 17),.I (gI l 18),.N (gN l 19),.LL (gLL l 20),.N (gN l 21),.L (gL l 22),.N (gN l 23),.N ((gN l 24)+1),.I (gI l 25),.L (gL l 26),.L ((gL l 27)++(List.take 1 (List.drop 0 [(gI l 0)])))]))
 (nx 1 [.I (wr .i64 ((gI l 0)+1)),.I (gI l 1),.I (gI l 2),.I (gI l 3),.N (gN l 4),.L (gL l 5),.I (gI l 6),.N (gN l 7),.L (gL l 8),.I (gI l 9),.I (gI l 10),.I (gI l 11),.I (gI l 12),.I (gI l 13),.I (gI l 14),.N (gN l 15),.LL (gLL l 16),.I (gI l 17),.I (gI l 18),.N (gN l 19),.LL (gLL l 20),.N (gN l 21),.L (gL l 22),.N (gN l 23),.N (gN l 24),.I (gI l 25),.L (gL l 26),.L (gL l 27)])))
 (ex 1 [.I (gI l 10),.I (gI l 11),.I (gI l 12),.I (gI l 17),.I (gI l 18),.N (gN l 19),.LL (gLL l 20),.N (gN l 21),.L (gL l 22),.N (gN l 23),.N (gN l 24),.I (gI l 25),.L (gL l 26),.L (gL l 27)])
theorem L17_11.e1:LEq L17_11.O L17_11.H 1 L17_11.s1:=by intro τ next κ l;kernel_rfl
def L17_11:LStep P Cf:=LStep.mk2 (by decide) L17_11.e0 L17_11.e1
def L17_11.b:Option τ:=runE L17_11 fuel κ t l
def L17_11.E:LEnt P:=LStep.E L17_11
def F17.ps:List PV2:=[pRaw34]
def F17.sh:List PA:=[(PA.mk (PV3.v (PV2.agg [iI,iI,(PV1.sl (PC0.m .i64)),(PV1.sl (PC0.i .i64)),(r1 0),PV1.nilS,iI])) [cI]),(PA.mk (PV3.v (PV2.agg [iI,iI,(PV1.sl (PC0.m .i64)),(PV1.sl (PC0.i .i64)),(r1 0),(r1 1),iI])) [cI,cI])]
def F17.O:Orc P:=⟨[T35.E,T25.E,T26.E],[L17_6.E,L17_11.E],[],40⟩
def F17:Option τ :=
 ck (((eqM (List.length (gL l 3)) (List.length (gL l 3)))&&true)&&true)
 (T35 [.I (gI l 0),.I (gI l 1),.I (gI l 2),.L (gL l 3)]
 (fun j A=>(sw (ck (((eqM (List.length (gLL A 2)) (List.length (gLL A 2)))&&true)&&true)
 (T25 [.I (gI A 0),.I (gI A 1),.LL (gLL A 2)]
 (fun j B=>(sw (ck (!((((List.length (gLL B 0)):Nat):Int)==0))
 (ck (((leI 0 (Int.tmod (wr .i64 (gI l 4)) (((List.length (gLL B 0)):Nat):Int)))&&(ltI (Int.tmod (wr .i64 (gI l 4)) (((List.length (gLL B 0)):Nat):Int)) (((List.length (gLL B 0)):Nat):Int)))&&true)
 (ck (ltN ((Int.toNat (Int.tmod (wr .i64 (gI l 4)) (((List.length (gLL B 0)):Nat):Int)))*1) (List.length (gLL B 0)))
 (ck (((eqM (List.length (List.getD (gLL B 0) ((Int.toNat (Int.tmod (wr .i64 (gI l 4)) (((List.length (gLL B 0)):Nat):Int)))*1) [])) ((List.length (List.getD (gLL B 0) ((Int.toNat (Int.tmod (wr .i64 (gI l 4)) (((List.length (gLL B 0)):Nat):Int)))*1) []))*1))&&(leN ((0+(List.length (List.getD (gLL B 0) ((Int.toNat (Int.tmod (wr .i64 (gI l 4)) (((List.length (gLL B 0)):Nat):Int)))*1) [])))*9) 1099511627776))&&true)
 (L17_6.b 0 [.I 0,.I (gI l 0),.I (gI l 1),.I (gI l 2),.N (List.length (gL l 3)),.L (gL l 3),.I (gI l 4),.N (List.length (gL l 5)),.L (gL l 5),.I (gI l 6),.I 0,.I 0,.I 0,.I (gI A 0),.I (gI A 1),.N (List.length (gLL A 2)),.LL (gLL A 2),.I (gI A 0),.I (gI A 1),.N (List.length (gLL A 2)),.LL (gLL A 2),.N (List.length (List.getD (gLL B 0) ((Int.toNat (Int.tmod (wr .i64 (gI l 4)) (((List.length (gLL B 0)):Nat):Int)))*1) [])),.L (List.getD (gLL B 0) ((Int.toNat (Int.tmod (wr .i64 (gI l 4)) (((List.length (gLL B 0)):Nat):Int)))*1) []),.N (0+(List.length (List.getD (gLL B 0) ((Int.toNat (Int.tmod (wr .i64 (gI l 4)) (((List.length (gLL B 0)):Nat):Int)))*1) []))),.I 0,.L ([]++(List.getD (gLL B 0) ((Int.toNat (Int.tmod (wr .i64 (gI l 4)) (((List.length (gLL B 0)):Nat):Int)))*1) []))]
 (fun j C=>(sw (L17_11.b 0 [.I 0,.I (gI C 0),.I (gI C 1),.I (gI C 2),.N (gN C 3),.L (gL C 4),.I (gI C 5),.N (gN C 6),.L (gL C 7),.I (gI C 8),.I (gI C 9),.I (gI C 10),.I (gI C 11),.I (gI C 12),.I (gI C 13),.N (gN C 14),.LL (gLL C 15),.I (gI C 16),.I (gI C 17),.N (gN C 18),.LL (gLL C 19),.N (gN C 20),.L (gL C 21),.N (gN C 22),.I (gI C 23),.L (gL C 24)]
 (fun j D=>(sw (ck (((eqM (gN D 9) (List.length (List.take ((gN D 9)*1) (List.drop 0 (gL D 11)))))&&true)&&((eqM (gN D 7) (List.length (gL D 8)))&&true))
 (T26 [.L (List.take ((gN D 9)*1) (List.drop 0 (gL D 11))),.L [],.L (gL D 8)]
 (fun j E=>(sw (k 0 [.I (gI D 3),.I (gI D 4),.N (gN D 5),.LL (gLL D 6),.N (gN D 7),.L (gL D 8),.N (gN D 9),.I (gI E 0),.L (gL D 11)])
 (fun _=>none)) j)))
 (sw (ck (((eqM (gN D 9) (List.length (List.take ((gN D 9)*1) (List.drop 0 (gL D 12)))))&&((eqM (gN D 10) (List.length (List.take ((gN D 10)*1) (List.drop 0 (gL D 13)))))&&true))&&((eqM (gN D 7) (List.length (gL D 8)))&&true))
 (T26 [.L (List.take ((gN D 9)*1) (List.drop 0 (gL D 12))),.L (List.take ((gN D 10)*1) (List.drop 0 (gL D 13))),.L (gL D 8)]
 (fun j E=>(sw (k 1 [.I (gI D 3),.I (gI D 4),.N (gN D 5),.LL (gLL D 6),.N (gN D 7),.L (gL D 8),.N (gN D 9),.N (gN D 10),.I (gI E 0),.L (gL D 12),.L (gL D 13)])
 (fun _=>none)) j)))
 (fun _=>none))) j))
 (fun _=>none)) j))))))
 (fun _=>none)) j)))
 (fun _=>none)) j))
theorem F17.eq:FEq F17.O 17 F17.ps F17.sh F17:=by intro τ l κ;kernel_rfl
def F17.E:Ent P:=mkF F17.eq
end
end Go.Proofs.Ytbpjicbpcfkpfaa.Ai
namespace Go.Proofs.Ytbpjicbpcfkpfaa.Ai
open Go Ma
noncomputable section
def Up (i:Nat) (g:List Int):Prop:=g.length≤i∧∀ k,k<g.length→Gn i g k
theorem Up.add {i:Nat} {g:List Int} (h:Up i g):Up (i+1) (g++[((i:Nat):Int)]):=by
 refine ⟨by simp;exact h.1,fun k hk=>?_⟩
 simp only [List.length_append,List.length_cons,List.length_nil] at hk
 have get:∀ j,j<g.length→(g++[((i:Nat):Int)]).getD j 0=g.getD j 0:=fun j hj=>by
  rw [List.getD_eq_getElem?_getD,List.getElem?_append_left hj,←List.getD_eq_getElem?_getD]
 have last:(g++[((i:Nat):Int)]).getD g.length 0=i:=by
  rw [List.getD_eq_getElem?_getD,List.getElem?_append_right (Nat.le_refl _)]
  simp
 unfold Gn
 by_cases hk2:k<g.length
 ·have:=h.2 k hk2
  unfold Gn at this
  rw [get k hk2]
  refine ⟨this.1,by omega,fun h0=>?_⟩
  rw [get (k-1) (by omega)]
  exact this.2.2 h0
 ·have:k=g.length:=by omega
  subst this
  rw [last]
  refine ⟨by omega,by omega,fun h0=>?_⟩
  rw [get _ (by omega)]
  exact (h.2 (g.length-1) (by omega)).2.1
theorem Up.skip {i:Nat} {g:List Int} (h:Up i g):Up (i+1) g:=by
 refine ⟨by have:=h.1;omega,fun k hk=>?_⟩
 have:=h.2 k hk
 unfold Gn at this ⊢
 exact ⟨this.1,by omega,this.2.2⟩
theorem Up.gone {i:Nat} {g:List Int} (h:Up i g):isGone i g=true:=isGone_iff.2 fun k _ hk=>h.2 k hk
def T17 {τ:Type} (l:LS_) (k:Nat→LS_→Option τ):Option τ:=wrapB F17.E (.v pCase) l k
def T17.E:Ent P:=F17.E.wrap (.v pCase)
theorem words_len {q n:Nat} (hq:q∈Qs) (G:List (List Int)) (z:List Int):(words q (fadd q) (fmul q) G z).length=q^G.length:=by
 rw [←words_digs q (by have:=qs_lt hq;omega) (fadd q) (fmul q) G z,List.length_map,List.length_range]
theorem Up.nil {n:Nat}:Up n []:=⟨Nat.zero_le _,fun k hk=>by simp at hk⟩
section
variable {q:Nat} {lost:Nat→Bool} {w:List Int} {G:List (List Int)} {En:List Nat} {i:Nat} {x:List Int} {t:Nat}
end
end
end Go.Proofs.Ytbpjicbpcfkpfaa.Ai
namespace Go.Proofs.Ytbpjicbpcfkpfaa.Ai
open Go Ma
noncomputable section
def T20 {τ:Type} (l:LS_) (k:Nat→LS_→Option τ):Option τ:=wrapB F20.E (.tup [pReply,pI]) l k
def T20.E:Ent P:=F20.E.wrap (.tup [pReply,pI])
end
end Go.Proofs.Ytbpjicbpcfkpfaa.Ai
namespace Go.Proofs.Ytbpjicbpcfkpfaa.Ai
open Go Go.RowKit
noncomputable section
variable {τ:Type} (t:Nat) (nx ex:Nat→LS_→Option τ) (l:LS_) (k κ:Nat→LS_→Option τ)
def F28.ps:List PV2:=[(PV2.agg [iI,iI,aM]),(PV2.agg [aI,aI]),pI]
def F28.sh:List PA:=[(PA.mk (PV3.v (PV2.agg [iI,iI,PV1.nilS,PV1.nilS])) []),(PA.mk (PV3.v (PV2.agg [iI,iI,(PV1.sl (PC0.i .i64)),(PV1.sl (PC0.m .i64))])) [])]
def F28.O:Orc P:=⟨[T20.E],[],[],40⟩
def F28:Option τ :=
 ck (((eqM (List.length (gLL l 2)) (List.length (gLL l 2)))&&true)&&(((eqM (List.length (gL l 3)) (List.length (gL l 3)))&&((eqM (List.length (gL l 4)) (List.length (gL l 4)))&&true))&&true))
 (T20 [.I (gI l 0),.I (gI l 1),.LL (gLL l 2),.L (gL l 3),.L (gL l 4),.I (gI l 5)]
 (fun j A=>(sw (br ((gI A 4) != 0)
 (k 0 [.I 0,.I 0])
 (k 1 [.I (gI A 0),.I (gI A 1),.N (List.length (gL A 2)),.L (gL A 2),.N (List.length (gLL A 3)),.LL (gLL A 3)]))
 (fun _=>none)) j))
theorem F28.eq:FEq F28.O 28 F28.ps F28.sh F28:=by intro τ l κ;kernel_rfl
def F28.E:Ent P:=mkF F28.eq
def T28 {τ:Type} (l:LS_) (k:Nat→LS_→Option τ):Option τ:=F28 l k
def T28.E:Ent P:=F28.E
def T23 {τ:Type} (l:LS_) (k:Nat→LS_→Option τ):Option τ:=F23 l k
def T23.E:Ent P:=F23.E
end
end Go.Proofs.Ytbpjicbpcfkpfaa.Ai
namespace Go.Proofs.Ytbpjicbpcfkpfaa.Ai
open Go Ma
noncomputable section
end
end Go.Proofs.Ytbpjicbpcfkpfaa.Ai
