/-
Part 6 of 8 of the texts for one claim: P20 P21 Xg P22.
-/
import Derived.Test.YtbpjicbpcfkpfaaU5
set_option linter.unusedVariables false
set_option linter.unusedSimpArgs false
namespace Go.Proofs.Ytbpjicbpcfkpfaa.Ai
open Go Ma
noncomputable section
theorem L70_3_2_spec {n:Nat} {x w:List Int} {lb:List Bool} (hx:x.length=n) (hw:w.length=n) (hb:lb.length=n) (hs:n<2^30) {v6:Int} {v7:Int} {v8:Nat} {v9:List (List Int)} {v10:Int} {v11:Int} {v12:Nat} {v16:Nat} {v18:List Int} {v20:List Int} {τ:Type} (κ:Nat→LS_→Option τ):∀ (f j:Nat),j≤n→n<f+j →
  runE L70_3_2 f κ 0 [.I 0,.I ((far (lostB lb) w x 0 j:Nat):Int),.N n,.L x,.I n,.I j,.I v6,.I v7,.N v8,.LL v9,.I v10,.I v11,.N v12,.N n,.L w,.N n,.N v16,.L v18,.LB lb,.L v20]=κ 0 [.I ((far (lostB lb) w x 0 n:Nat):Int),.I v6,.I v7,.N v8,.LL v9,.I v10,.I v11,.N v12,.N n,.L w,.N n,.N v16,.L v18,.LB lb,.L v20]
 | 0,j,h1,h2=>by omega
 | f+1,j,h1,h2=>by
  rw [runE_succ]
  show L70_3_2.s0 _ _ _=_
  unfold L70_3_2.s0
  simp only [g_,Int.toNat_natCast,Nat.mul_one,Nat.zero_add,List.drop_zero,List.take_length]
  by_cases hj:j<n
  ·have e1:wr .i64 ((0:Int)+(j:Int))=((j:Nat):Int):=by rw [wr64 (by omega) (by omega)];simp
   have fl:=far_le (lostB lb) w x 0 j
   have ih:=L70_3_2_spec hx hw hb hs (v6:=v6) (v7:=v7) (v8:=v8) (v9:=v9) (v10:=v10) (v11:=v11) (v12:=v12) (v16:=v16) (v18:=v18) (v20:=v20) κ f (j+1) (by omega) (by omega)
   rw [far_succ,Nat.zero_add] at ih
   have e2:wr .i64 (((far (lostB lb) w x 0 j:Nat):Int)+1)=((far (lostB lb) w x 0 j+1:Nat):Int):=wsucc (by omega)
   rw [br_of (by simp;omega),e1]
   simp only [Int.toNat_natCast]
   rw [ck_of (by simp;omega),ck_of (by simp;omega),ck_of (by simp;omega),ck_of (by simp;omega),e2,wsucc (j:=j) (by omega)]
   have hlo:lostB lb j=lb.getD j false:=rfl
   cases hl:lb.getD j false with
   | true =>
    rw [br_no (b:=!true) rfl]
    rw [hlo,hl] at ih
    exact ih
   | false =>
    rw [br_of (b:=!false) rfl,ck_of (by simp;omega),ck_of (by simp;omega)]
    rw [hlo,hl] at ih
    by_cases hd:x.getD j 0=w.getD j 0
    ·rw [br_no (by rw [hd];simp)]
     rw [hd] at ih
     simpa [-List.getD_eq_getElem?_getD] using ih
    ·rw [br_of (by simpa [-List.getD_eq_getElem?_getD] using hd)]
     have:(x.getD j 0 != w.getD j 0)=true:=by simpa [-List.getD_eq_getElem?_getD] using hd
     rw [this] at ih
     exact ih
  ·have:j=n:=by omega
   subst this
   rw [br_no (by simp)]
theorem S70_1_spec {n:Nat} {x w:List Int} {lb:List Bool} (hx:x.length=n) (hw:w.length=n) (hb:lb.length=n) (hs:n<2^30) {q N:Int} {K:Nat} {G:List (List Int)} {p e:Int} {mn en:Nat} {M E:List Int} {τ:Type} (k:Nat→LS_→Option τ) :
  S70_1 [.N n,.L x,.I 0,.I n,.I q,.I N,.N K,.LL G,.I p,.I e,.N mn,.N n,.L w,.N n,.N en,.L M,.LB lb,.L E] k=k 0 [.I ((far (lostB lb) w x 0 n:Nat):Int),.I q,.I N,.N K,.LL G,.I p,.I e,.N mn,.N n,.L w,.N n,.N en,.L M,.LB lb,.L E]:=by
 have hfu:=fuel_le
 unfold S70_1
 simp only [g_,Int.toNat_natCast,Nat.mul_one,Nat.zero_add,List.drop_zero,List.take_length]
 have ht:List.take n x=x:=by rw [←hx,List.take_length]
 rw [ck_of (by simp;omega),show Int.toNat 0=0 from rfl,Nat.sub_zero,List.drop_zero,ht]
 unfold L70_3_2.b
 exact L70_3_2_spec hx hw hb hs (fun j l319=>(sw (k 0 [.I (gI l319 0),.I (gI l319 1),.I (gI l319 2),.N (gN l319 3),.LL (gLL l319 4),.I (gI l319 5),.I (gI l319 6),.N (gN l319 7),.N (gN l319 8),.L (gL l319 9),.N (gN l319 10),.N (gN l319 11),.L (gL l319 12),.LB (gLB l319 13),.L (gL l319 14)]) (fun _=>none)) j) fuel 0 (by omega) (by omega)
def nearR (q n:Nat) (G:List (List Int)) (w g:List Int) (r:Int):List (List Int):=near (fun y=>far (lostG n g) w y 0 n) (winR q n G w g r)
theorem found_nearR {q n:Nat} {G:List (List Int)} {piv:Nat→Nat} (hc:Cd q n G) (h:Rref q n G piv) (w g:List Int) (r:Int) :
  (foundD q (lostG n g) w G (ends n piv G.length) 0 (List.replicate n 0) (far (lostG n g) w (List.replicate n 0) 0 ((ends n piv G.length).getD 0 0)) ([],r)).1=nearR q n G w g r ∧
  ∀ y∈(foundD q (lostG n g) w G (ends n piv G.length) 0 (List.replicate n 0) (far (lostG n g) w (List.replicate n 0) 0 ((ends n piv G.length).getD 0 0)) ([],r)).1,((far (lostG n g) w y 0 n:Nat):Int)=(foundD q (lostG n g) w G (ends n piv G.length) 0 (List.replicate n 0) (far (lostG n g) w (List.replicate n 0) 0 ((ends n piv G.length).getD 0 0)) ([],r)).2:=by
 have F:=fld q hc.fq
 have hq:=qs_lt hc.fq
 have S:=Rref.sr hc h (w:=List.replicate n 0) (by simp) (lb:=List.replicate n false) (by simp)
 have hz:=Wd.zeros (q:=q) (n:=n) (by omega)
 have e0:=S.en 0 (Nat.zero_le _)
 have key0:foundD q (lostG n g) w G (ends n piv G.length) 0 (List.replicate n 0) (far (lostG n g) w (List.replicate n 0) 0 ((ends n piv G.length).getD 0 0)) ([],r)=((words q (fadd q) (fmul q) G (List.replicate n 0)).map fun y=>(y,far (lostG n g) w y 0 n)).foldl meet ([],r):=by
  unfold foundD
  rw [List.drop_zero,List.drop_zero,dfsD_spec F (lostG n g) w G (ends n piv G.length) (List.replicate n 0) _ _ hc.rows.wd hz (ends_len _ _ _) S.em ends_last (fun i k j hi hik hk hj=>by
   rw [ends_get hi] at hj
   refine h.lead k j hk ?_
   by_cases e:i=k
   ·subst e;exact hj
   ·have:=h.mono i k (by omega) hk;omega)]
  generalize hE:(ends n piv G.length).getD 0 0=e at e0 ⊢
  congr 1
  refine List.map_congr_left fun y hy=>?_
  have hs:=words_same F (b:=e) e0 G _ hc.rows.wd (fun i j hi hj=>by
   refine h.lead i j hi ?_
   by_cases hk:0<G.length
   ·rw [←hE,ends_get hk] at hj
    by_cases e:i=0
    ·subst e;exact hj
    ·have:=h.mono 0 i (by omega) hi;omega
   ·omega) hz y hy
  have f1:far (lostG n g) w (List.replicate n 0) 0 e=far (lostG n g) w y 0 e:=far_congr _ _ _ _ _ _ fun j h1 h2=>(hs j (by omega)).symm
  have f2:=far_add (lostG n g) w y 0 e (n-e)
  rw [Nat.zero_add,show e+(n-e)=n by omega] at f2
  rw [f1,f2]
 rw [key0]
 have:=meet_near (fun y=>far (lostG n g) w y 0 n) r (words q (fadd q) (fmul q) G (List.replicate n 0)) [] r (by simp) (fun _=>rfl) (Int.le_refl _)
 exact this
theorem near_sub (d:List Int→Nat):∀ (L out:List (List Int)) (y:List Int),y∈L.foldl (nearStep d) out→y∈out∨y∈L
 | [],out,y,h=>.inl h
 | a::L,out,y,h=>by
  rcases near_sub d L _ y h with h | h
  ·unfold nearStep at h
   split at h
   ·exact .inr (by simpa using Or.inl (List.mem_singleton.1 h))
   ·split at h
    ·exact .inl h
    ·split at h
     ·exact .inr (by simpa using Or.inl (List.mem_singleton.1 h))
     ·rcases List.mem_append.1 h with h | h
      ·exact .inl h
      ·exact .inr (by simpa using Or.inl (List.mem_singleton.1 h))
  ·exact .inr (by simp [h])
theorem nearR_sub {q n:Nat} {G:List (List Int)} {w g:List Int} {r:Int} {y:List Int} (h:y∈nearR q n G w g r):y∈words q (fadd q) (fmul q) G (List.replicate n 0):=by
 rcases near_sub _ _ _ _ h with h | h
 ·simp at h
 ·exact (List.mem_filter.1 h).1
theorem F20_invalid {q:Nat} (hq:q∈Qs) (n:Int) {G:List (List Int)} (hs:G.length<2^60) (hws:∀ i,(G.getD i []).length<2^60) (hv:validB q n G=false) (w g:List Int) (r:Int) {τ:Type} (k:Nat→LS_→Option τ):F20 [.I q,.I n,.LL G,.L w,.L g,.I r] k=k 0 []:=by
 unfold F20
 simp only [g_,Int.toNat_natCast,Nat.mul_one,Nat.zero_add,List.drop_zero,List.take_length]
 rw [ck_of (by simp),F37_spec hq n hs hws,hv]
 simp only [sw_zero,gB_zero]
 rw [br_of (b:=!false) rfl]
theorem F20_wrong {q:Nat} (hq:q∈Qs) (n:Int) {G:List (List Int)} (hs:G.length<2^60) (hws:∀ i,(G.getD i []).length<2^60) {w g:List Int} (hw:w.length<2^60) (hg:g.length<2^60) (hr:isRight q n w g=false) (r:Int) {τ:Type} (k:Nat→LS_→Option τ):F20 [.I q,.I n,.LL G,.L w,.L g,.I r] k=k 0 []:=by
 cases hv:validB q n G with
 | false=>exact F20_invalid hq n hs hws hv w g r k
 | true =>
  unfold F20
  simp only [g_,Int.toNat_natCast,Nat.mul_one,Nat.zero_add,List.drop_zero,List.take_length]
  rw [ck_of (by simp),F37_spec hq n hs hws,hv]
  simp only [sw_zero,gB_zero]
  rw [br_no (b:=!true) rfl,ck_of (by simp),F98_spec _ _ _ hw hg,hr]
  simp only [sw_zero,gB_zero]
  rw [br_of (b:=!false) rfl]
theorem F20_big {q:Nat} (hq:q∈Qs) (n:Int) {G:List (List Int)} (hs:G.length<2^60) (hws:∀ i,(G.getD i []).length<2^60) (hv:validB q n G=true) {w g:List Int} (hw:w.length<2^60) (hg:g.length<2^60) (hr:isRight q n w g=true) (hb:4096<q^G.length) (r:Int) {τ:Type} (k:Nat→LS_→Option τ):F20 [.I q,.I n,.LL G,.L w,.L g,.I r] k=k 1 []:=by
 have hqq:=qs_lt hq
 unfold F20
 simp only [g_,Int.toNat_natCast,Nat.mul_one,Nat.zero_add,List.drop_zero,List.take_length]
 rw [ck_of (by simp),F37_spec hq n hs hws,hv]
 simp only [sw_zero,gB_zero]
 rw [br_no (b:=!true) rfl,ck_of (by simp),F98_spec _ _ _ hw hg,hr]
 simp only [sw_zero,gB_zero]
 rw [br_no (b:=!true) rfl,ck_of (by simp),F48_spec (by omega) (by omega) n G hs]
 simp only [sw_zero,gI_zero]
 unfold cnt
 rw [if_neg (by omega),br_of (by simp)]
theorem S102_2_top {q n:Nat} {G:List (List Int)} {w:List Int} {lb:List Bool} {En:List Nat} (C:Sr q n G w lb En) (r:Int) (hc:q^G.length≤2^20) {x:List Int} (hx:Wd q n x) {t:Nat} (ht:t≤1024) :
  (foundD q (lostB lb) w G En 0 x t ([],r)=([],r)∧∀ {τ:Type} (k:Nat→LS_→Option τ),S102_2 [.I 0,.I ((t:Nat):Int),.N n,.L x,.I r,.I q,.I n,.N G.length,.LL G,.I (fp q),.I (fe q),.N (fm q).length,.N n,.L w,.N n,.N (Er En).length,.I r,.L (fm q),.LB lb,.L (Er En)] k=k 0 [.L x,.I r,.I q,.I n,.N G.length,.LL G,.I (fp q),.I (fe q),.N (fm q).length,.N n,.L w,.N n,.N (Er En).length,.I r,.L (fm q),.LB lb,.L (Er En)])∨∃ j,(j=1∨j=2)∧∀ {τ:Type} (k:Nat→LS_→Option τ),S102_2 [.I 0,.I ((t:Nat):Int),.N n,.L x,.I r,.I q,.I n,.N G.length,.LL G,.I (fp q),.I (fe q),.N (fm q).length,.N n,.L w,.N n,.N (Er En).length,.I r,.L (fm q),.LB lb,.L (Er En)] k=k j [.L x,.I (foundD q (lostB lb) w G En (0) x t ([],r)).2,.I q,.I n,.N G.length,.LL G,.I (fp q),.I (fe q),.N (fm q).length,.N n,.L w,.N n,.N (Er En).length,.I (foundD q (lostB lb) w G En (0) x t ([],r)).2,.N (foundD q (lostB lb) w G En (0) x t ([],r)).1.length,.L (fm q),.LB lb,.L (Er En),.LL (foundD q (lostB lb) w G En (0) x t ([],r)).1]:=by
 have hfu:=fuel_le
 have hf:=C.gr.few
 have n1:=C.n1
 have hm:G.length*n≤2^20*2^10:=Nat.mul_le_mul (by omega) (by omega)
 exact S102_2_spec C r (by omega) G.length 0 fuel x t (by omega) (by omega) hx (by
  have h20:G.length≤20:=by
   have hq:=qs_lt C.hq
   rcases Nat.lt_or_ge 20 G.length with hh | hh
   ·have h1:=Nat.pow_le_pow_right (n:=q) (by omega) (show 21≤G.length from hh)
    have h2:2^21≤q^21:=Nat.pow_le_pow_left hq.1 21
    omega
   ·exact hh
  have:G.length*n≤20*1024:=Nat.mul_le_mul h20 n1
  omega)
def F20c (n:Int) {τ:Type} (k:Nat→LS_→Option τ) (l:LS_):Option τ :=
 (br ((((gN l 14):Nat):Int)==(0:Int))
 (k 2 [])
 (br ((((gN l 14):Nat):Int)==(1:Int))
 (ck ((true&&(ltI (0:Int) (((gN l 14):Nat):Int)))&&true)
 (ck (true&&(ltN 0 (List.length (gLL l 18))))
 (S70_1 [.N (List.length (List.getD (gLL l 18) 0 [])),.L (List.getD (gLL l 18) 0 []),.I (0:Int),.I n,.I (gI l 2),.I (gI l 3),.N (gN l 4),.LL (gLL l 5),.I (gI l 6),.I (gI l 7),.N (gN l 8),.N (gN l 9),.L (gL l 10),.N (gN l 11),.N (gN l 12),.L (gL l 15),.LB (gLB l 16),.L (gL l 17)]
 (fun j l320=>(sw (ck (true&&(true&&(true&&(true&&(true&&((true&&(true&&(true&&(decide ((gL l 15)=(gL l320 12))))))&&(true&&((true&&(true&&(decide ((gLB l 16)=(gLB l320 13)))))&&((true&&(true&&((true&&(eqI (gI l 2) (gI l320 1)))&&((true&&(eqI (gI l 3) (gI l320 2)))&&(((eqM (gN l 4) (gN l320 3))&&(true&&(decide ((gLL l 5)=(gLL l320 4)))))&&((true&&(eqI (gI l 6) (gI l320 5)))&&((true&&(eqI (gI l 7) (gI l320 6)))&&((true&&(true&&(true&&((eqM (gN l 8) (gN l320 7))&&true))))&&(((eqM (gN l 9) (gN l320 8))&&(true&&(decide ((gL l 10)=(gL l320 9)))))&&((true&&(true&&(true&&((eqM (gN l 11) (gN l320 10))&&true))))&&((true&&(true&&(true&&((eqM (gN l 12) (gN l320 11))&&true))))&&true)))))))))))&&(true&&((true&&(true&&(true&&(decide ((gL l 17)=(gL l320 14))))))&&true)))))))))))
 (ck ((true&&(ltI (0:Int) (((gN l 14):Nat):Int)))&&true)
 (ck (true&&(ltN 0 (List.length (gLL l 18))))
 (k 3 [.I (gI l320 0),.N (List.length (List.getD (gLL l 18) 0 [])),.L (List.getD (gLL l 18) 0 [])]))))
 (fun _=>none)) j))))
 (ck ((true&&(ltI (0:Int) (((gN l 14):Nat):Int)))&&true)
 (ck (true&&(ltN 0 (List.length (gLL l 18))))
 (ck ((eqM (List.length (List.getD (gLL l 18) 0 [])) (List.length (List.getD (gLL l 18) 0 [])))&&true)
 (F71 [.L (List.getD (gLL l 18) 0 [])]
 (fun j l321=>(sw (k 4 [.I (gI l 13),.N (gN l321 0),.N (gN l 14),.L (gL l321 1),.LL (gLL l 18)])
 (fun _=>none)) j)))))))
theorem F20c_spec {q n:Nat} {G:List (List Int)} {w:List Int} {lb:List Bool} {En:List Nat} (C:Sr q n G w lb En) {s:Best} (hw:∀ y∈s.1,y.length=n) (hd:∀ y∈s.1,((far (lostB lb) w y 0 n:Nat):Int)=s.2) {x:List Int} {τ:Type} (k:Nat→LS_→Option τ) :
  F20c n k [.L x,.I (s).2,.I q,.I n,.N G.length,.LL G,.I (fp q),.I (fe q),.N (fm q).length,.N n,.L w,.N n,.N (Er En).length,.I (s).2,.N (s).1.length,.L (fm q),.LB lb,.L (Er En),.LL (s).1]=if s.1.length=0 then k 2 [] else if s.1.length=1 then k 3 [.I ((far (lostB lb) w (s.1.getD 0 []) 0 n:Nat):Int),.N (s.1.getD 0 []).length,.L (s.1.getD 0 [])] else k 4 [.I ((far (lostB lb) w (s.1.getD 0 []) 0 n:Nat):Int),.N (s.1.getD 0 []).length,.N s.1.length,.L (s.1.getD 0 []),.LL s.1]:=by
 have n0:=C.n0
 have n1:=C.n1
 unfold F20c
 simp only [g_,Int.toNat_natCast,Nat.mul_one,Nat.zero_add,List.drop_zero,List.take_length]
 by_cases h0:s.1.length=0
 ·rw [br_of (by rw [h0];rfl),if_pos h0]
 ·have hm:s.1.getD 0 []∈s.1:=by
   rw [List.getD_eq_getElem?_getD,List.getElem?_eq_getElem (by omega)]
   exact List.getElem_mem _
  have hl:=hw _ hm
  have hf:=hd _ hm
  generalize s.1.getD 0 []=y at hl hf ⊢
  generalize s.1=L at h0 ⊢
  rw [br_no (by simp;exact fun h=>h0 (by rw [h];rfl)),if_neg h0]
  by_cases h1:L.length=1
  ·rw [br_of (by rw [h1];rfl),if_pos h1,ck_of (by rw [h1];rfl),ck_of (by rw [h1];rfl),hl,S70_1_spec hl C.wl C.bl (by omega)]
   simp only [g_,sw_zero]
   rw [ck_of (by simp),ck_of (by rw [h1];rfl),ck_of (by rw [h1];rfl)]
  ·rw [br_no (by simp;omega),if_neg h1,ck_of (by simp;omega),ck_of (by simp;omega),ck_of (by simp),F71_spec (by omega) (by omega)]
   simp only [g_,sw_zero]
   rw [hf]
theorem F20_ok {q n:Nat} {G:List (List Int)} (hc:Cd q n G) {w g:List Int} (hr:isRight q n w g=true) (hg60:g.length<2^60) (r:Int) {τ:Type} (k:Nat→LS_→Option τ):F20 [.I q,.I n,.LL G,.L w,.L g,.I r] k =
  if (nearR q n G w g r).length=0 then k 2 [] else if (nearR q n G w g r).length=1 then k 3 [.I ((far (lostG n g) w ((nearR q n G w g r).getD 0 []) 0 n:Nat):Int),.N ((nearR q n G w g r).getD 0 []).length,.L ((nearR q n G w g r).getD 0 [])] else k 4 [.I ((far (lostG n g) w ((nearR q n G w g r).getD 0 []) 0 n:Nat):Int),.N ((nearR q n G w g r).getD 0 []).length,.N (nearR q n G w g r).length,.L ((nearR q n G w g r).getD 0 []),.LL (nearR q n G w g r)]:=by
 obtain ⟨piv,hp⟩:=hc.form
 have hG:=hc.rows
 have hq:=qs_lt hc.fq
 have hf:=hG.few
 have n0:=hc.n0
 have n1:=hc.n1
 have hcnt:=hc.count
 have hws:∀ i,(G.getD i []).length<2^60:=fun i=>by
  rcases Nat.lt_or_ge i G.length with h | h
  ·have:=(hG.wd i h).1;omega
  ·simp [List.getD_eq_getElem?_getD,h]
 unfold isRight at hr
 rw [Bool.and_eq_true] at hr
 have hw:=isWord_iff.1 hr.1
 have hg:=isGone_iff.1 hr.2
 have hwl:w.length=n:=by omega
 have hml:(mark g (List.replicate n false)).length=n:=by rw [mark_len];simp
 have S:=Rref.sr hc hp hwl hml
 have hz:=Wd.zeros (q:=q) (n:=n) (by omega)
 have hE:=Er_ends n piv G.length
 have e0:=S.en 0 (Nat.zero_le _)
 have hfw:=found_nearR hc hp w g r
 have hel:(Er (ends n piv G.length)).length=G.length+1:=by rw [Er_len,ends_len]
 have fl:=far_le (lostG n g) w (List.replicate n 0) 0 ((ends n piv G.length).getD 0 0)
 have common:F20 [.I q,.I n,.LL G,.L w,.L g,.I r] k=S102_2 [.I 0,.I ((far (lostG n g) w (List.replicate n 0) 0 ((ends n piv G.length).getD 0 0):Nat):Int),.N n,.L (List.replicate n 0),.I r,.I q,.I n,.N G.length,.LL G,.I (fp q),.I (fe q),.N (fm q).length,.N n,.L w,.N n,.N (Er (ends n piv G.length)).length,.I r,.L (fm q),.LB (mark g (List.replicate n false)),.L (Er (ends n piv G.length))]
   (fun j l=>(sw (k 2 []) (sw (F20c n k l) (sw (F20c n k l) (fun _=>none)))) j):=by
  unfold F20
  simp only [g_,Int.toNat_natCast,Nat.mul_one,Nat.zero_add,List.drop_zero,List.take_length]
  rw [ck_of (by simp),F37_spec hc.fq n (by omega) hws,validB_cd hc]
  simp only [sw_zero,gB_zero]
  rw [br_no (b:=!true) rfl,ck_of (by simp),F98_spec _ _ _ (by omega) hg60,show isRight q n w g=true from by unfold isRight;rw [hr.1,hr.2];rfl]
  simp only [sw_zero,gB_zero]
  rw [br_no (b:=!true) rfl,ck_of (by simp),F48_spec (by omega) (by omega) n G (by omega)]
  simp only [sw_zero,gI_zero]
  unfold cnt
  rw [if_pos (by omega),br_no (by simp only [gtI_no];omega)]
  unfold T99
  rw [tabM_of hc.fq]
  simp only [g_,sw_zero]
  rw [ck_of (by simp;omega)]
  unfold L65_10_1.b
  rw [L65_10_1_all (n:=n) (by omega) hg60 (fun i hi=>⟨(hg i (Nat.zero_le _) hi).1,(hg i (Nat.zero_le _) hi).2.1⟩) _ (by simp)]
  simp only [g_,sw_zero]
  unfold L65_15_1.b
  rw [L65_15_1_all hG (Rref.leads hp)]
  by_cases hk:G.length=0
  ·rw [if_pos hk]
   have hEz:Er (ends n piv G.length)=[(n:Int)]:=by rw [hE,hk];rfl
   have hen:(ends n piv G.length).getD 0 0=n:=by
    have:=@ends_last n piv G.length
    rw [hk] at this ⊢
    exact this
   simp only [g_,sw_zero,Int.toNat_natCast,List.drop_zero]
   rw [ck_of (by simp;omega),hwl,show List.getD (List.take 1 [(n:Int)]) 0 0=(n:Int) from rfl,S70_0_zero (by simp) hwl hml (by omega) (Nat.le_refl _)]
   simp only [g_,sw_zero]
   rw [ck_of (by simp),hen,hEz]
   rfl
  ·rw [if_neg hk]
   have hen:(pv piv G.length++List.take 1 [(n:Int)]).getD 0 0=(((ends n piv G.length).getD 0 0:Nat):Int):=by
    rw [←Er_get,hE];rfl
   have hEl:(pv piv G.length++List.take 1 [(n:Int)])=Er (ends n piv G.length):=hE.symm
   simp only [g_,sw_one,sw_zero,Int.toNat_natCast,List.drop_zero,pv_len]
   rw [ck_of (by simp [pv_len] <;> omega),ck_of (by simp <;> omega),ck_of (by simp <;> omega),ck_of (by simp),hwl,hen,hEl,S70_0_zero (by simp) hwl hml (by omega) e0]
   simp only [g_,sw_zero]
   rw [ck_of (by simp),hel]
   rfl
 rw [common]
 have hsub:∀ y∈(nearR q n G w g r),y.length=n:=fun y hy=>(words_wd (fld q hc.fq) G _ hc.rows.wd hz y (nearR_sub hy)).1
 rcases S102_2_top S r (by omega) hz (t:=far (lostG n g) w (List.replicate n 0) 0 ((ends n piv G.length).getD 0 0)) (by omega) with ⟨h1,h2⟩ | ⟨j,hj,h2⟩
 ·rw [h2,if_pos (by rw [←hfw.1];exact congrArg (fun s=>s.1.length) h1)]
  rfl
 ·rw [h2]
  have key:=F20c_spec (x:=List.replicate n 0) S (s:=foundD q (lostB (mark g (List.replicate n false))) w G (ends n piv G.length) 0 (List.replicate n 0) (far (lostG n g) w (List.replicate n 0) 0 ((ends n piv G.length).getD 0 0)) ([],r)) (fun y hy=>hsub y (by rw [←hfw.1];exact hy)) hfw.2 k
  rw [show (foundD q (lostB (mark g (List.replicate n false))) w G (ends n piv G.length) 0 (List.replicate n 0) (far (lostG n g) w (List.replicate n 0) 0 ((ends n piv G.length).getD 0 0)) ([],r)).1=(nearR q n G w g r) from hfw.1] at key
  rcases hj with rfl | rfl
  ·refine Eq.trans ?_ key
   rw [show (foundD q (lostB (mark g (List.replicate n false))) w G (ends n piv G.length) 0 (List.replicate n 0) (far (lostG n g) w (List.replicate n 0) 0 ((ends n piv G.length).getD 0 0)) ([],r)).1=(nearR q n G w g r) from hfw.1]
   rfl
  ·refine Eq.trans ?_ key
   rw [show (foundD q (lostB (mark g (List.replicate n false))) w G (ends n piv G.length) 0 (List.replicate n 0) (far (lostG n g) w (List.replicate n 0) 0 ((ends n piv G.length).getD 0 0)) ([],r)).1=(nearR q n G w g r) from hfw.1]
   rfl
def howL (L:List (List Int)):Int:=if L.length=0 then 4 else if L.length=1 then 1 else 2
def rad (d:List Int→Nat) (L:List (List Int)):Int:=if L.length=0 then 0 else ((d (L.getD 0 []):Nat):Int)
def tied (L:List (List Int)):List (List Int):=if L.length=0 then [] else if L.length=1 then [] else L
def T20 {τ:Type} (l:LS_) (k:Nat→LS_→Option τ):Option τ:=wrapB F20.E (.tup [pReply,pI]) l k
def T20.E:Ent P:=F20.E.wrap (.tup [pReply,pI])
theorem T20_err0 {ls:LS_} (h:∀ {τ:Type} (κ:Nat→LS_→Option τ),F20 ls κ=κ 0 []) {τ:Type} (k:Nat→LS_→Option τ):T20 ls k=k 0 [.I 0,.I 0,.L [],.LL [],.I 1] :=
 wrap_of (e:=F20.E) (p:=.tup [pReply,pI]) (j:=0) (l2:=[]) (c:=true) (ls':=[.I 0,.I 0,.L [],.LL [],.I 1]) (by intro τ κ;kernel_rfl) rfl (fun κ=>h κ)
theorem T20_err1 {ls:LS_} (h:∀ {τ:Type} (κ:Nat→LS_→Option τ),F20 ls κ=κ 1 []) {τ:Type} (k:Nat→LS_→Option τ):T20 ls k=k 0 [.I 0,.I 0,.L [],.LL [],.I 2] :=
 wrap_of (e:=F20.E) (p:=.tup [pReply,pI]) (j:=1) (l2:=[]) (c:=true) (ls':=[.I 0,.I 0,.L [],.LL [],.I 2]) (by intro τ κ;kernel_rfl) rfl (fun κ=>h κ)
theorem T20_none {ls:LS_} (h:∀ {τ:Type} (κ:Nat→LS_→Option τ),F20 ls κ=κ 2 []) {τ:Type} (k:Nat→LS_→Option τ):T20 ls k=k 0 [.I 4,.I 0,.L [],.LL [],.I 0] :=
 wrap_of (e:=F20.E) (p:=.tup [pReply,pI]) (j:=2) (l2:=[]) (c:=true) (ls':=[.I 4,.I 0,.L [],.LL [],.I 0]) (by intro τ κ;kernel_rfl) rfl (fun κ=>h κ)
theorem T20_one {ls:LS_} {t:Int} {x:List Int} (h:∀ {τ:Type} (κ:Nat→LS_→Option τ),F20 ls κ=κ 3 [.I t,.N x.length,.L x]) {τ:Type} (k:Nat→LS_→Option τ):T20 ls k=k 0 [.I 1,.I t,.L x,.LL [],.I 0] :=
 wrap_of (e:=F20.E) (p:=.tup [pReply,pI]) (j:=3) (l2:=[.I t,.N x.length,.L x]) (c:=(true&&(true&&(decide (x.length=x.length)&&(true&&true))))&&(true&&true)) (ls':=[.I 1,.I t,.L x,.LL [],.I 0]) (by intro τ κ;kernel_rfl) (by simp) (fun κ=>h κ)
theorem T20_many {ls:LS_} {t:Int} {x:List Int} {L:List (List Int)} (h:∀ {τ:Type} (κ:Nat→LS_→Option τ),F20 ls κ=κ 4 [.I t,.N x.length,.N L.length,.L x,.LL L]) {τ:Type} (k:Nat→LS_→Option τ):T20 ls k=k 0 [.I 2,.I t,.L x,.LL L,.I 0]:=by
 have:=wrap_of (e:=F20.E) (p:=.tup [pReply,pI]) (ls:=ls) (j:=4) (l2:=[.I t,.N x.length,.N L.length,.L x,.LL L]) (c:=(true&&(true&&(decide (x.length=(List.take (x.length*1) (List.drop 0 x)).length)&&(decide (L.length=(List.take (L.length*1) (List.drop 0 L)).length)&&true))))&&(true&&true)) (ls':=[.I 2,.I t,.L (List.take (x.length*1) (List.drop 0 x)),.LL (List.take (L.length*1) (List.drop 0 L)),.I 0]) (by intro τ κ;kernel_rfl) (by simp) (k:=k) (fun κ=>h κ)
 rw [Nat.mul_one,Nat.mul_one,List.drop_zero,List.drop_zero,List.take_length,List.take_length] at this
 exact this
theorem T20_ok {q n:Nat} {G:List (List Int)} (hc:Cd q n G) {w g:List Int} (hr:isRight q n w g=true) (hg60:g.length<2^60) (r:Int) {τ:Type} (k:Nat→LS_→Option τ):T20 [.I q,.I n,.LL G,.L w,.L g,.I r] k =
  k 0 [.I (howL (nearR q n G w g r)),.I (rad (fun y=>far (lostG n g) w y 0 n) (nearR q n G w g r)),.L ((nearR q n G w g r).getD 0 []),.LL (tied (nearR q n G w g r)),.I 0]:=by
 have h:=fun {τ:Type} (κ:Nat→LS_→Option τ)=>F20_ok hc hr hg60 r κ
 unfold howL rad tied
 generalize nearR q n G w g r=L at h ⊢
 by_cases h0:L.length=0
 ·simp only [if_pos h0] at h ⊢
  rw [show L=[] from List.length_eq_zero_iff.1 h0]
  exact T20_none h k
 ·simp only [if_neg h0] at h ⊢
  by_cases h1:L.length=1
  ·simp only [if_pos h1] at h ⊢
   exact T20_one h k
  ·simp only [if_neg h1] at h ⊢
   exact T20_many h k
end
end Go.Proofs.Ytbpjicbpcfkpfaa.Ai
namespace Go.Proofs.Ytbpjicbpcfkpfaa.Ai
open Go Go.RowKit
noncomputable section
variable {τ:Type} (t:Nat) (nx ex:Nat→LS_→Option τ) (l:LS_) (k κ:Nat→LS_→Option τ)
def F28.ps:List PV2:=[(PV2.agg [iI,iI,aM]),(PV2.agg [aI,aI]),pI]
def F28.sh:List PA:=[(PA.mk (PV3.v (PV2.agg [iI,iI,PV1.nilS,PV1.nilS])) []),(PA.mk (PV3.v (PV2.agg [iI,iI,(PV1.sl (PC0.i .i64)),(PV1.sl (PC0.m .i64))])) [])]
def F28.O:Orc P:=⟨[T20.E],[],[],40⟩
def F28:Option τ :=
 ck (((eqM (List.length (gLL l 2)) (List.length (gLL l 2)))&&true)&&(((eqM (List.length (gL l 3)) (List.length (gL l 3)))&&((eqM (List.length (gL l 4)) (List.length (gL l 4)))&&true))&&true))
 (T20 [.I (gI l 0),.I (gI l 1),.LL (gLL l 2),.L (gL l 3),.L (gL l 4),.I (gI l 5)]
 (fun j A=>(sw (br ((gI A 4) != 0)
 (k 0 [.I 0,.I 0])
 (k 1 [.I (gI A 0),.I (gI A 1),.N (List.length (gL A 2)),.L (gL A 2),.N (List.length (gLL A 3)),.LL (gLL A 3)]))
 (fun _=>none)) j))
theorem F28.eq:FEq F28.O 28 F28.ps F28.sh F28:=by intro τ l κ;kernel_rfl
def F28.E:Ent P:=mkF F28.eq
def T28 {τ:Type} (l:LS_) (k:Nat→LS_→Option τ):Option τ:=F28 l k
def T28.E:Ent P:=F28.E
def T23 {τ:Type} (l:LS_) (k:Nat→LS_→Option τ):Option τ:=F23 l k
def T23.E:Ent P:=F23.E
end
end Go.Proofs.Ytbpjicbpcfkpfaa.Ai
namespace Go.Proofs.Ytbpjicbpcfkpfaa.Ai
open Go Ma
noncomputable section
theorem F23_spec {a b a' b':Int} {C C':List Int} {L L':List (List Int)} (hC:C.length<2^60) (hs:L.length<2^60) (hr:∀ i,(L.getD i []).length<2^60) {τ:Type} (k:Nat→LS_→Option τ) :
  F23 [.I a,.I b,.L C,.LL L,.I a',.I b',.L C',.LL L'] k=k 0 [.B (decide (a=a'∧b=b'∧C=C'∧L=L'))]:=by
 unfold F23
 simp only [g_]
 by_cases h1:a=a'
 ·rw [br_of (by simpa using h1)]
  by_cases h2:b=b'
  ·rw [br_of (by simpa using h2),ck_of (by simp),F27_spec _ _ _ hC]
   simp only [sw_zero,gB_zero]
   by_cases h3:C=C'
   ·rw [decide_eq_true h3,br_of rfl,ck_of (by simp),F22_spec _ _ _ hs hr]
    simp only [sw_zero,gB_zero]
    congr 3
    simp [h1,h2,h3]
   ·rw [decide_eq_false h3,br_no rfl,decide_eq_false (fun h=>h3 h.2.2.1)]
  ·rw [br_no (by simpa using h2),decide_eq_false (fun h=>h2 h.2.1)]
 ·rw [br_no (by simpa using h1),decide_eq_false (fun h=>h1 h.1)]
theorem F28_of {q n:Int} {G:List (List Int)} {w g:List Int} {r a b e:Int} {C:List Int} {L:List (List Int)} (h:∀ {τ:Type} (k:Nat→LS_→Option τ),T20 [.I q,.I n,.LL G,.L w,.L g,.I r] k=k 0 [.I a,.I b,.L C,.LL L,.I e]) {τ:Type} (k:Nat→LS_→Option τ) :
  F28 [.I q,.I n,.LL G,.L w,.L g,.I r] k=if e=0 then k 1 [.I a,.I b,.N C.length,.L C,.N L.length,.LL L] else k 0 [.I 0,.I 0]:=by
 unfold F28
 simp only [g_]
 rw [ck_of (by simp),h]
 simp only [g_,sw_zero]
 by_cases he:e=0
 ·rw [if_pos he,br_no (by simpa using he)]
 ·rw [if_neg he,br_of (by simpa using he)]
end
end Go.Proofs.Ytbpjicbpcfkpfaa.Ai
