/-
Part 6 of 6 of the texts for one claim: P20 P21 Xg P22 Xh P23 P25 Wc Xf3 P26.
-/
import Derived.Test.YtbpjicbpcfkpfaaR5
set_option linter.unusedVariables false
set_option linter.unusedSimpArgs false
namespace Go.Proofs.Ytbpjicbpcfkpfaa.Ai
open Go Ma
noncomputable section
theorem L70_3_2_spec {n : Nat} {x w : List Int} {lb : List Bool} (hx : x.length = n) (hw : w.length = n) (hb : lb.length = n) (hs : n < 2 ^ 30) {v6 : Int} {v7 : Int} {v8 : Nat} {v9 : List (List Int)} {v10 : Int} {v11 : Int} {v12 : Nat} {v16 : Nat} {v18 : List Int} {v20 : List Int} {τ : Type} (κ : Nat → LS_ → Option τ) : ∀ (f j : Nat), j ≤ n → n < f + j →
  runE L70_3_2 f κ 0 [.I 0, .I ((far (lostB lb) w x 0 j : Nat) : Int), .N n, .L x, .I n, .I j, .I v6, .I v7, .N v8, .LL v9, .I v10, .I v11, .N v12, .N n, .L w, .N n, .N v16, .L v18, .LB lb, .L v20] = κ 0 [.I ((far (lostB lb) w x 0 n : Nat) : Int), .I v6, .I v7, .N v8, .LL v9, .I v10, .I v11, .N v12, .N n, .L w, .N n, .N v16, .L v18, .LB lb, .L v20]
 | 0, j, h1, h2 => by omega
 | f + 1, j, h1, h2 => by
  rw [runE_succ]
  show L70_3_2.s0 _ _ _ = _
  unfold L70_3_2.s0
  simp only [g_, Int.toNat_natCast, Nat.mul_one, Nat.zero_add, List.drop_zero, List.take_length]
  by_cases hj : j < n
  ·have e1 : wr .i64 ((0 : Int) + (j : Int)) = ((j : Nat) : Int) := by rw [wr64 (by omega) (by omega)]; simp
   have fl := far_le (lostB lb) w x 0 j
   have ih := L70_3_2_spec hx hw hb hs (v6 := v6) (v7 := v7) (v8 := v8) (v9 := v9) (v10 := v10) (v11 := v11) (v12 := v12) (v16 := v16) (v18 := v18) (v20 := v20) κ f (j + 1) (by omega) (by omega)
   rw [far_succ, Nat.zero_add] at ih
   have e2 : wr .i64 (((far (lostB lb) w x 0 j : Nat) : Int) + 1) = ((far (lostB lb) w x 0 j + 1 : Nat) : Int) := wsucc (by omega)
   rw [br_of (by simp; omega), e1]
   simp only [Int.toNat_natCast]
   rw [ck_of (by simp; omega), ck_of (by simp; omega), ck_of (by simp; omega), ck_of (by simp; omega), e2, wsucc (j := j) (by omega)]
   have hlo : lostB lb j = lb.getD j false := rfl
   cases hl : lb.getD j false with
   | true =>
    rw [br_no (b := !true) rfl]
    rw [hlo, hl] at ih
    exact ih
   | false =>
    rw [br_of (b := !false) rfl, ck_of (by simp; omega), ck_of (by simp; omega)]
    rw [hlo, hl] at ih
    by_cases hd : x.getD j 0 = w.getD j 0
    ·rw [br_no (by rw [hd]; simp)]
     rw [hd] at ih
     simpa [-List.getD_eq_getElem?_getD] using ih
    ·rw [br_of (by simpa [-List.getD_eq_getElem?_getD] using hd)]
     have : (x.getD j 0 != w.getD j 0) = true := by simpa [-List.getD_eq_getElem?_getD] using hd
     rw [this] at ih
     exact ih
  ·have : j = n := by omega
   subst this
   rw [br_no (by simp)]
theorem S70_1_spec {n : Nat} {x w : List Int} {lb : List Bool} (hx : x.length = n) (hw : w.length = n) (hb : lb.length = n) (hs : n < 2 ^ 30) {q N : Int} {K : Nat} {G : List (List Int)} {p e : Int} {mn en : Nat} {M E : List Int} {τ : Type} (k : Nat → LS_ → Option τ) :
  S70_1 [.N n, .L x, .I 0, .I n, .I q, .I N, .N K, .LL G, .I p, .I e, .N mn, .N n, .L w, .N n, .N en, .L M, .LB lb, .L E] k = k 0 [.I ((far (lostB lb) w x 0 n : Nat) : Int), .I q, .I N, .N K, .LL G, .I p, .I e, .N mn, .N n, .L w, .N n, .N en, .L M, .LB lb, .L E] := by
 have hfu := fuel_le
 unfold S70_1
 simp only [g_, Int.toNat_natCast, Nat.mul_one, Nat.zero_add, List.drop_zero, List.take_length]
 have ht : List.take n x = x := by rw [← hx, List.take_length]
 rw [ck_of (by simp; omega), show Int.toNat 0 = 0 from rfl, Nat.sub_zero, List.drop_zero, ht]
 unfold L70_3_2.b
 exact L70_3_2_spec hx hw hb hs (fun j l319 => (sw (k 0 [.I (gI l319 0), .I (gI l319 1), .I (gI l319 2), .N (gN l319 3), .LL (gLL l319 4), .I (gI l319 5), .I (gI l319 6), .N (gN l319 7), .N (gN l319 8), .L (gL l319 9), .N (gN l319 10), .N (gN l319 11), .L (gL l319 12), .LB (gLB l319 13), .L (gL l319 14)]) (fun _ => none)) j) fuel 0 (by omega) (by omega)
def nearR (q n : Nat) (G : List (List Int)) (w g : List Int) (r : Int) : List (List Int) := near (fun y => far (lostG n g) w y 0 n) (winR q n G w g r)
theorem found_nearR {q n : Nat} {G : List (List Int)} {piv : Nat → Nat} (hc : Cd q n G) (h : Rref q n G piv) (w g : List Int) (r : Int) :
  (foundD q (lostG n g) w G (ends n piv G.length) 0 (List.replicate n 0) (far (lostG n g) w (List.replicate n 0) 0 ((ends n piv G.length).getD 0 0)) ([], r)).1 = nearR q n G w g r ∧
  ∀ y ∈ (foundD q (lostG n g) w G (ends n piv G.length) 0 (List.replicate n 0) (far (lostG n g) w (List.replicate n 0) 0 ((ends n piv G.length).getD 0 0)) ([], r)).1, ((far (lostG n g) w y 0 n : Nat) : Int) = (foundD q (lostG n g) w G (ends n piv G.length) 0 (List.replicate n 0) (far (lostG n g) w (List.replicate n 0) 0 ((ends n piv G.length).getD 0 0)) ([], r)).2 := by
 have F := fld q hc.fq
 have hq := qs_lt hc.fq
 have S := Rref.sr hc h (w := List.replicate n 0) (by simp) (lb := List.replicate n false) (by simp)
 have hz := Wd.zeros (q := q) (n := n) (by omega)
 have e0 := S.en 0 (Nat.zero_le _)
 have key0 : foundD q (lostG n g) w G (ends n piv G.length) 0 (List.replicate n 0) (far (lostG n g) w (List.replicate n 0) 0 ((ends n piv G.length).getD 0 0)) ([], r) = ((words q (fadd q) (fmul q) G (List.replicate n 0)).map fun y => (y, far (lostG n g) w y 0 n)).foldl meet ([], r) := by
  unfold foundD
  rw [List.drop_zero, List.drop_zero, dfsD_spec F (lostG n g) w G (ends n piv G.length) (List.replicate n 0) _ _ hc.rows.wd hz (ends_len _ _ _) S.em ends_last (fun i k j hi hik hk hj => by
   rw [ends_get hi] at hj
   refine h.lead k j hk ?_
   by_cases e : i = k
   ·subst e; exact hj
   ·have := h.mono i k (by omega) hk; omega)]
  generalize hE : (ends n piv G.length).getD 0 0 = e at e0 ⊢
  congr 1
  refine List.map_congr_left fun y hy => ?_
  have hs := words_same F (b := e) e0 G _ hc.rows.wd (fun i j hi hj => by
   refine h.lead i j hi ?_
   by_cases hk : 0 < G.length
   ·rw [← hE, ends_get hk] at hj
    by_cases e : i = 0
    ·subst e; exact hj
    ·have := h.mono 0 i (by omega) hi; omega
   ·omega) hz y hy
  have f1 : far (lostG n g) w (List.replicate n 0) 0 e = far (lostG n g) w y 0 e := far_congr _ _ _ _ _ _ fun j h1 h2 => (hs j (by omega)).symm
  have f2 := far_add (lostG n g) w y 0 e (n - e)
  rw [Nat.zero_add, show e + (n - e) = n by omega] at f2
  rw [f1, f2]
 rw [key0]
 have := meet_near (fun y => far (lostG n g) w y 0 n) r (words q (fadd q) (fmul q) G (List.replicate n 0)) [] r (by simp) (fun _ => rfl) (Int.le_refl _)
 exact this
theorem near_sub (d : List Int → Nat) : ∀ (L out : List (List Int)) (y : List Int), y ∈ L.foldl (nearStep d) out → y ∈ out ∨ y ∈ L
 | [], out, y, h => .inl h
 | a :: L, out, y, h => by
  rcases near_sub d L _ y h with h | h
  ·unfold nearStep at h
   split at h
   ·exact .inr (by simpa using Or.inl (List.mem_singleton.1 h))
   ·split at h
    ·exact .inl h
    ·split at h
     ·exact .inr (by simpa using Or.inl (List.mem_singleton.1 h))
     ·rcases List.mem_append.1 h with h | h
      ·exact .inl h
      ·exact .inr (by simpa using Or.inl (List.mem_singleton.1 h))
  ·exact .inr (by simp [h])
theorem nearR_sub {q n : Nat} {G : List (List Int)} {w g : List Int} {r : Int} {y : List Int} (h : y ∈ nearR q n G w g r) : y ∈ words q (fadd q) (fmul q) G (List.replicate n 0) := by
 rcases near_sub _ _ _ _ h with h | h
 ·simp at h
 ·exact (List.mem_filter.1 h).1
theorem F20_invalid {q : Nat} (hq : q ∈ Qs) (n : Int) {G : List (List Int)} (hs : G.length < 2 ^ 60) (hws : ∀ i, (G.getD i []).length < 2 ^ 60) (hv : validB q n G = false) (w g : List Int) (r : Int) {τ : Type} (k : Nat → LS_ → Option τ) : F20 [.I q, .I n, .LL G, .L w, .L g, .I r] k = k 0 [] := by
 unfold F20
 simp only [g_, Int.toNat_natCast, Nat.mul_one, Nat.zero_add, List.drop_zero, List.take_length]
 rw [ck_of (by simp), F37_spec hq n hs hws, hv]
 simp only [sw_zero, gB_zero]
 rw [br_of (b := !false) rfl]
theorem F20_wrong {q : Nat} (hq : q ∈ Qs) (n : Int) {G : List (List Int)} (hs : G.length < 2 ^ 60) (hws : ∀ i, (G.getD i []).length < 2 ^ 60) {w g : List Int} (hw : w.length < 2 ^ 60) (hg : g.length < 2 ^ 60) (hr : isRight q n w g = false) (r : Int) {τ : Type} (k : Nat → LS_ → Option τ) : F20 [.I q, .I n, .LL G, .L w, .L g, .I r] k = k 0 [] := by
 cases hv : validB q n G with
 | false => exact F20_invalid hq n hs hws hv w g r k
 | true =>
  unfold F20
  simp only [g_, Int.toNat_natCast, Nat.mul_one, Nat.zero_add, List.drop_zero, List.take_length]
  rw [ck_of (by simp), F37_spec hq n hs hws, hv]
  simp only [sw_zero, gB_zero]
  rw [br_no (b := !true) rfl, ck_of (by simp), F98_spec _ _ _ hw hg, hr]
  simp only [sw_zero, gB_zero]
  rw [br_of (b := !false) rfl]
theorem S102_2_top {q n : Nat} {G : List (List Int)} {w : List Int} {lb : List Bool} {En : List Nat} (C : Sr q n G w lb En) (r : Int) (hc : q ^ G.length ≤ 2 ^ 20) {x : List Int} (hx : Wd q n x) {t : Nat} (ht : t ≤ 1024) :
  (foundD q (lostB lb) w G En 0 x t ([], r) = ([], r) ∧ ∀ {τ : Type} (k : Nat → LS_ → Option τ), S102_2 [.I 0, .I ((t : Nat) : Int), .N n, .L x, .I r, .I q, .I n, .N G.length, .LL G, .I (fp q), .I (fe q), .N (fm q).length, .N n, .L w, .N n, .N (Er En).length, .I r, .L (fm q), .LB lb, .L (Er En)] k = k 0 [.L x, .I r, .I q, .I n, .N G.length, .LL G, .I (fp q), .I (fe q), .N (fm q).length, .N n, .L w, .N n, .N (Er En).length, .I r, .L (fm q), .LB lb, .L (Er En)]) ∨ ∃ j, (j = 1 ∨ j = 2) ∧ ∀ {τ : Type} (k : Nat → LS_ → Option τ), S102_2 [.I 0, .I ((t : Nat) : Int), .N n, .L x, .I r, .I q, .I n, .N G.length, .LL G, .I (fp q), .I (fe q), .N (fm q).length, .N n, .L w, .N n, .N (Er En).length, .I r, .L (fm q), .LB lb, .L (Er En)] k = k j [.L x, .I (foundD q (lostB lb) w G En (0) x t ([], r)).2, .I q, .I n, .N G.length, .LL G, .I (fp q), .I (fe q), .N (fm q).length, .N n, .L w, .N n, .N (Er En).length, .I (foundD q (lostB lb) w G En (0) x t ([], r)).2, .N (foundD q (lostB lb) w G En (0) x t ([], r)).1.length, .L (fm q), .LB lb, .L (Er En), .LL (foundD q (lostB lb) w G En (0) x t ([], r)).1] := by
 have hfu := fuel_le
 have hf := C.gr.few
 have n1 := C.n1
 have hm : G.length * n ≤ 2 ^ 20 * 2 ^ 10 := Nat.mul_le_mul (by omega) (by omega)
 exact S102_2_spec C r (by omega) G.length 0 fuel x t (by omega) (by omega) hx (by
  have h20 : G.length ≤ 20 := by
   have hq := qs_lt C.hq
   rcases Nat.lt_or_ge 20 G.length with hh | hh
   ·have h1 := Nat.pow_le_pow_right (n := q) (by omega) (show 21 ≤ G.length from hh)
    have h2 : 2 ^ 21 ≤ q ^ 21 := Nat.pow_le_pow_left hq.1 21
    omega
   ·exact hh
  have : G.length * n ≤ 20 * 1024 := Nat.mul_le_mul h20 n1
  omega)
def F20c (n : Int) {τ : Type} (k : Nat → LS_ → Option τ) (l : LS_) : Option τ :=
 (br ((((gN l 14) : Nat) : Int) == (0 : Int))
 (k 2 [])
 (br ((((gN l 14) : Nat) : Int) == (1 : Int))
 (ck ((true && (ltI (0 : Int) (((gN l 14) : Nat) : Int))) && true)
 (ck (true && (ltN 0 (List.length (gLL l 18))))
 (S70_1 [.N (List.length (List.getD (gLL l 18) 0 [])), .L (List.getD (gLL l 18) 0 []), .I (0 : Int), .I n, .I (gI l 2), .I (gI l 3), .N (gN l 4), .LL (gLL l 5), .I (gI l 6), .I (gI l 7), .N (gN l 8), .N (gN l 9), .L (gL l 10), .N (gN l 11), .N (gN l 12), .L (gL l 15), .LB (gLB l 16), .L (gL l 17)]
 (fun j l320 => (sw (ck (true && (true && (true && (true && (true && ((true && (true && (true && (decide ((gL l 15) = (gL l320 12)))))) && (true && ((true && (true && (decide ((gLB l 16) = (gLB l320 13))))) && ((true && (true && ((true && (eqI (gI l 2) (gI l320 1))) && ((true && (eqI (gI l 3) (gI l320 2))) && (((eqM (gN l 4) (gN l320 3)) && (true && (decide ((gLL l 5) = (gLL l320 4))))) && ((true && (eqI (gI l 6) (gI l320 5))) && ((true && (eqI (gI l 7) (gI l320 6))) && ((true && (true && (true && ((eqM (gN l 8) (gN l320 7)) && true)))) && (((eqM (gN l 9) (gN l320 8)) && (true && (decide ((gL l 10) = (gL l320 9))))) && ((true && (true && (true && ((eqM (gN l 11) (gN l320 10)) && true)))) && ((true && (true && (true && ((eqM (gN l 12) (gN l320 11)) && true)))) && true))))))))))) && (true && ((true && (true && (true && (decide ((gL l 17) = (gL l320 14)))))) && true)))))))))))
 (ck ((true && (ltI (0 : Int) (((gN l 14) : Nat) : Int))) && true)
 (ck (true && (ltN 0 (List.length (gLL l 18))))
 (k 3 [.I (gI l320 0), .N (List.length (List.getD (gLL l 18) 0 [])), .L (List.getD (gLL l 18) 0 [])]))))
 (fun _ => none)) j))))
 (ck ((true && (ltI (0 : Int) (((gN l 14) : Nat) : Int))) && true)
 (ck (true && (ltN 0 (List.length (gLL l 18))))
 (ck ((eqM (List.length (List.getD (gLL l 18) 0 [])) (List.length (List.getD (gLL l 18) 0 []))) && true)
 (F71 [.L (List.getD (gLL l 18) 0 [])]
 (fun j l321 => (sw (k 4 [.I (gI l 13), .N (gN l321 0), .N (gN l 14), .L (gL l321 1), .LL (gLL l 18)])
 (fun _ => none)) j)))))))
theorem F20c_spec {q n : Nat} {G : List (List Int)} {w : List Int} {lb : List Bool} {En : List Nat} (C : Sr q n G w lb En) {s : Best} (hw : ∀ y ∈ s.1, y.length = n) (hd : ∀ y ∈ s.1, ((far (lostB lb) w y 0 n : Nat) : Int) = s.2) {x : List Int} {τ : Type} (k : Nat → LS_ → Option τ) :
  F20c n k [.L x, .I (s).2, .I q, .I n, .N G.length, .LL G, .I (fp q), .I (fe q), .N (fm q).length, .N n, .L w, .N n, .N (Er En).length, .I (s).2, .N (s).1.length, .L (fm q), .LB lb, .L (Er En), .LL (s).1] = if s.1.length = 0 then k 2 [] else if s.1.length = 1 then k 3 [.I ((far (lostB lb) w (s.1.getD 0 []) 0 n : Nat) : Int), .N (s.1.getD 0 []).length, .L (s.1.getD 0 [])] else k 4 [.I ((far (lostB lb) w (s.1.getD 0 []) 0 n : Nat) : Int), .N (s.1.getD 0 []).length, .N s.1.length, .L (s.1.getD 0 []), .LL s.1] := by
 have n0 := C.n0
 have n1 := C.n1
 unfold F20c
 simp only [g_, Int.toNat_natCast, Nat.mul_one, Nat.zero_add, List.drop_zero, List.take_length]
 by_cases h0 : s.1.length = 0
 ·rw [br_of (by rw [h0]; rfl), if_pos h0]
 ·have hm : s.1.getD 0 [] ∈ s.1 := by
   rw [List.getD_eq_getElem?_getD, List.getElem?_eq_getElem (by omega)]
   exact List.getElem_mem _
  have hl := hw _ hm
  have hf := hd _ hm
  generalize s.1.getD 0 [] = y at hl hf ⊢
  generalize s.1 = L at h0 ⊢
  rw [br_no (by simp; exact fun h => h0 (by rw [h]; rfl)), if_neg h0]
  by_cases h1 : L.length = 1
  ·rw [br_of (by rw [h1]; rfl), if_pos h1, ck_of (by rw [h1]; rfl), ck_of (by rw [h1]; rfl), hl, S70_1_spec hl C.wl C.bl (by omega)]
   simp only [g_, sw_zero]
   rw [ck_of (by simp), ck_of (by rw [h1]; rfl), ck_of (by rw [h1]; rfl)]
  ·rw [br_no (by simp; omega), if_neg h1, ck_of (by simp; omega), ck_of (by simp; omega), ck_of (by simp), F71_spec (by omega) (by omega)]
   simp only [g_, sw_zero]
   rw [hf]
theorem F20_ok {q n : Nat} {G : List (List Int)} (hc : Cd q n G) {w g : List Int} (hr : isRight q n w g = true) (hg60 : g.length < 2 ^ 60) (r : Int) {τ : Type} (k : Nat → LS_ → Option τ) : F20 [.I q, .I n, .LL G, .L w, .L g, .I r] k =
  if (nearR q n G w g r).length = 0 then k 2 [] else if (nearR q n G w g r).length = 1 then k 3 [.I ((far (lostG n g) w ((nearR q n G w g r).getD 0 []) 0 n : Nat) : Int), .N ((nearR q n G w g r).getD 0 []).length, .L ((nearR q n G w g r).getD 0 [])] else k 4 [.I ((far (lostG n g) w ((nearR q n G w g r).getD 0 []) 0 n : Nat) : Int), .N ((nearR q n G w g r).getD 0 []).length, .N (nearR q n G w g r).length, .L ((nearR q n G w g r).getD 0 []), .LL (nearR q n G w g r)] := by
 obtain ⟨piv, hp⟩ := hc.form
 have hG := hc.rows
 have hq := qs_lt hc.fq
 have hf := hG.few
 have n0 := hc.n0
 have n1 := hc.n1
 have hcnt := hc.count
 have hws : ∀ i, (G.getD i []).length < 2 ^ 60 := fun i => by
  rcases Nat.lt_or_ge i G.length with h | h
  ·have := (hG.wd i h).1; omega
  ·simp [List.getD_eq_getElem?_getD, h]
 unfold isRight at hr
 rw [Bool.and_eq_true] at hr
 have hw := isWord_iff.1 hr.1
 have hg := isGone_iff.1 hr.2
 have hwl : w.length = n := by omega
 have hml : (mark g (List.replicate n false)).length = n := by rw [mark_len]; simp
 have S := Rref.sr hc hp hwl hml
 have hz := Wd.zeros (q := q) (n := n) (by omega)
 have hE := Er_ends n piv G.length
 have e0 := S.en 0 (Nat.zero_le _)
 have hfw := found_nearR hc hp w g r
 have hel : (Er (ends n piv G.length)).length = G.length + 1 := by rw [Er_len, ends_len]
 have fl := far_le (lostG n g) w (List.replicate n 0) 0 ((ends n piv G.length).getD 0 0)
 have common : F20 [.I q, .I n, .LL G, .L w, .L g, .I r] k = S102_2 [.I 0, .I ((far (lostG n g) w (List.replicate n 0) 0 ((ends n piv G.length).getD 0 0) : Nat) : Int), .N n, .L (List.replicate n 0), .I r, .I q, .I n, .N G.length, .LL G, .I (fp q), .I (fe q), .N (fm q).length, .N n, .L w, .N n, .N (Er (ends n piv G.length)).length, .I r, .L (fm q), .LB (mark g (List.replicate n false)), .L (Er (ends n piv G.length))]
   (fun j l => (sw (k 2 []) (sw (F20c n k l) (sw (F20c n k l) (fun _ => none)))) j) := by
  unfold F20
  simp only [g_, Int.toNat_natCast, Nat.mul_one, Nat.zero_add, List.drop_zero, List.take_length]
  rw [ck_of (by simp), F37_spec hc.fq n (by omega) hws, validB_cd hc]
  simp only [sw_zero, gB_zero]
  rw [br_no (b := !true) rfl, ck_of (by simp), F98_spec _ _ _ (by omega) hg60, show isRight q n w g = true from by unfold isRight; rw [hr.1, hr.2]; rfl]
  simp only [sw_zero, gB_zero]
  rw [br_no (b := !true) rfl, ck_of (by simp), F48_spec (by omega) (by omega) n G (by omega)]
  simp only [sw_zero, gI_zero]
  unfold cnt
  rw [if_pos (by omega), br_no (by simp only [gtI_no]; omega)]
  unfold T99
  rw [tabM_of hc.fq]
  simp only [g_, sw_zero]
  rw [ck_of (by simp; omega)]
  unfold L65_10_1.b
  rw [L65_10_1_all (n := n) (by omega) hg60 (fun i hi => ⟨(hg i (Nat.zero_le _) hi).1, (hg i (Nat.zero_le _) hi).2.1⟩) _ (by simp)]
  simp only [g_, sw_zero]
  unfold L65_15_1.b
  rw [L65_15_1_all hG (Rref.leads hp)]
  by_cases hk : G.length = 0
  ·rw [if_pos hk]
   have hEz : Er (ends n piv G.length) = [(n : Int)] := by rw [hE, hk]; rfl
   have hen : (ends n piv G.length).getD 0 0 = n := by
    have := @ends_last n piv G.length
    rw [hk] at this ⊢
    exact this
   simp only [g_, sw_zero, Int.toNat_natCast, List.drop_zero]
   rw [ck_of (by simp; omega), hwl, show List.getD (List.take 1 [(n : Int)]) 0 0 = (n : Int) from rfl, S70_0_zero (by simp) hwl hml (by omega) (Nat.le_refl _)]
   simp only [g_, sw_zero]
   rw [ck_of (by simp), hen, hEz]
   rfl
  ·rw [if_neg hk]
   have hen : (pv piv G.length ++ List.take 1 [(n : Int)]).getD 0 0 = (((ends n piv G.length).getD 0 0 : Nat) : Int) := by
    rw [← Er_get, hE]; rfl
   have hEl : (pv piv G.length ++ List.take 1 [(n : Int)]) = Er (ends n piv G.length) := hE.symm
   simp only [g_, sw_one, sw_zero, Int.toNat_natCast, List.drop_zero, pv_len]
   rw [ck_of (by simp [pv_len] <;> omega), ck_of (by simp <;> omega), ck_of (by simp <;> omega), ck_of (by simp), hwl, hen, hEl, S70_0_zero (by simp) hwl hml (by omega) e0]
   simp only [g_, sw_zero]
   rw [ck_of (by simp), hel]
   rfl
 rw [common]
 have hsub : ∀ y ∈ (nearR q n G w g r), y.length = n := fun y hy => (words_wd (fld q hc.fq) G _ hc.rows.wd hz y (nearR_sub hy)).1
 rcases S102_2_top S r (by omega) hz (t := far (lostG n g) w (List.replicate n 0) 0 ((ends n piv G.length).getD 0 0)) (by omega) with ⟨h1, h2⟩ | ⟨j, hj, h2⟩
 ·rw [h2, if_pos (by rw [← hfw.1]; exact congrArg (fun s => s.1.length) h1)]
  rfl
 ·rw [h2]
  have key := F20c_spec (x := List.replicate n 0) S (s := foundD q (lostB (mark g (List.replicate n false))) w G (ends n piv G.length) 0 (List.replicate n 0) (far (lostG n g) w (List.replicate n 0) 0 ((ends n piv G.length).getD 0 0)) ([], r)) (fun y hy => hsub y (by rw [← hfw.1]; exact hy)) hfw.2 k
  rw [show (foundD q (lostB (mark g (List.replicate n false))) w G (ends n piv G.length) 0 (List.replicate n 0) (far (lostG n g) w (List.replicate n 0) 0 ((ends n piv G.length).getD 0 0)) ([], r)).1 = (nearR q n G w g r) from hfw.1] at key
  rcases hj with rfl | rfl
  ·refine Eq.trans ?_ key
   rw [show (foundD q (lostB (mark g (List.replicate n false))) w G (ends n piv G.length) 0 (List.replicate n 0) (far (lostG n g) w (List.replicate n 0) 0 ((ends n piv G.length).getD 0 0)) ([], r)).1 = (nearR q n G w g r) from hfw.1]
   rfl
  ·refine Eq.trans ?_ key
   rw [show (foundD q (lostB (mark g (List.replicate n false))) w G (ends n piv G.length) 0 (List.replicate n 0) (far (lostG n g) w (List.replicate n 0) 0 ((ends n piv G.length).getD 0 0)) ([], r)).1 = (nearR q n G w g r) from hfw.1]
   rfl
def howL (L : List (List Int)) : Int := if L.length = 0 then 4 else if L.length = 1 then 1 else 2
def rad (d : List Int → Nat) (L : List (List Int)) : Int := if L.length = 0 then 0 else ((d (L.getD 0 []) : Nat) : Int)
def tied (L : List (List Int)) : List (List Int) := if L.length = 0 then [] else if L.length = 1 then [] else L
def T20 {τ : Type} (l : LS_) (k : Nat → LS_ → Option τ) : Option τ := wrapB F20.E (.tup [pReply, pI]) l k
def T20.E : Ent P := F20.E.wrap (.tup [pReply, pI])
theorem T20_err0 {ls : LS_} (h : ∀ {τ : Type} (κ : Nat → LS_ → Option τ), F20 ls κ = κ 0 []) {τ : Type} (k : Nat → LS_ → Option τ) : T20 ls k = k 0 [.I 0, .I 0, .L [], .LL [], .I 1] :=
 wrap_of (e := F20.E) (p := .tup [pReply, pI]) (j := 0) (l2 := []) (c := true) (ls' := [.I 0, .I 0, .L [], .LL [], .I 1]) (by intro τ κ; kernel_rfl) rfl (fun κ => h κ)
theorem T20_none {ls : LS_} (h : ∀ {τ : Type} (κ : Nat → LS_ → Option τ), F20 ls κ = κ 2 []) {τ : Type} (k : Nat → LS_ → Option τ) : T20 ls k = k 0 [.I 4, .I 0, .L [], .LL [], .I 0] :=
 wrap_of (e := F20.E) (p := .tup [pReply, pI]) (j := 2) (l2 := []) (c := true) (ls' := [.I 4, .I 0, .L [], .LL [], .I 0]) (by intro τ κ; kernel_rfl) rfl (fun κ => h κ)
theorem T20_one {ls : LS_} {t : Int} {x : List Int} (h : ∀ {τ : Type} (κ : Nat → LS_ → Option τ), F20 ls κ = κ 3 [.I t, .N x.length, .L x]) {τ : Type} (k : Nat → LS_ → Option τ) : T20 ls k = k 0 [.I 1, .I t, .L x, .LL [], .I 0] :=
 wrap_of (e := F20.E) (p := .tup [pReply, pI]) (j := 3) (l2 := [.I t, .N x.length, .L x]) (c := (true && (true && (decide (x.length = x.length) && (true && true)))) && (true && true)) (ls' := [.I 1, .I t, .L x, .LL [], .I 0]) (by intro τ κ; kernel_rfl) (by simp) (fun κ => h κ)
theorem T20_many {ls : LS_} {t : Int} {x : List Int} {L : List (List Int)} (h : ∀ {τ : Type} (κ : Nat → LS_ → Option τ), F20 ls κ = κ 4 [.I t, .N x.length, .N L.length, .L x, .LL L]) {τ : Type} (k : Nat → LS_ → Option τ) : T20 ls k = k 0 [.I 2, .I t, .L x, .LL L, .I 0] := by
 have := wrap_of (e := F20.E) (p := .tup [pReply, pI]) (ls := ls) (j := 4) (l2 := [.I t, .N x.length, .N L.length, .L x, .LL L]) (c := (true && (true && (decide (x.length = (List.take (x.length * 1) (List.drop 0 x)).length) && (decide (L.length = (List.take (L.length * 1) (List.drop 0 L)).length) && true)))) && (true && true)) (ls' := [.I 2, .I t, .L (List.take (x.length * 1) (List.drop 0 x)), .LL (List.take (L.length * 1) (List.drop 0 L)), .I 0]) (by intro τ κ; kernel_rfl) (by simp) (k := k) (fun κ => h κ)
 rw [Nat.mul_one, Nat.mul_one, List.drop_zero, List.drop_zero, List.take_length, List.take_length] at this
 exact this
theorem T20_ok {q n : Nat} {G : List (List Int)} (hc : Cd q n G) {w g : List Int} (hr : isRight q n w g = true) (hg60 : g.length < 2 ^ 60) (r : Int) {τ : Type} (k : Nat → LS_ → Option τ) : T20 [.I q, .I n, .LL G, .L w, .L g, .I r] k =
  k 0 [.I (howL (nearR q n G w g r)), .I (rad (fun y => far (lostG n g) w y 0 n) (nearR q n G w g r)), .L ((nearR q n G w g r).getD 0 []), .LL (tied (nearR q n G w g r)), .I 0] := by
 have h := fun {τ : Type} (κ : Nat → LS_ → Option τ) => F20_ok hc hr hg60 r κ
 unfold howL rad tied
 generalize nearR q n G w g r = L at h ⊢
 by_cases h0 : L.length = 0
 ·simp only [if_pos h0] at h ⊢
  rw [show L = [] from List.length_eq_zero_iff.1 h0]
  exact T20_none h k
 ·simp only [if_neg h0] at h ⊢
  by_cases h1 : L.length = 1
  ·simp only [if_pos h1] at h ⊢
   exact T20_one h k
  ·simp only [if_neg h1] at h ⊢
   exact T20_many h k
end
end Go.Proofs.Ytbpjicbpcfkpfaa.Ai
namespace Go.Proofs.Ytbpjicbpcfkpfaa.Ai
open Go Go.RowKit
noncomputable section
variable {τ : Type} (t : Nat) (nx ex : Nat → LS_ → Option τ) (l : LS_) (k κ : Nat → LS_ → Option τ)
def F28.ps : List PV2 := [(PV2.agg [iI, iI, aM]), (PV2.agg [aI, aI]), pI]
def F28.sh : List PA := [(PA.mk (PV3.v (PV2.agg [iI, iI, PV1.nilS, PV1.nilS])) []), (PA.mk (PV3.v (PV2.agg [iI, iI, (PV1.sl (PC0.i .i64)), (PV1.sl (PC0.m .i64))])) [])]
def F28.O : Orc P := ⟨[T20.E], [], [], 40⟩
def F28 : Option τ :=
 ck (((eqM (List.length (gLL l 2)) (List.length (gLL l 2))) && true) && (((eqM (List.length (gL l 3)) (List.length (gL l 3))) && ((eqM (List.length (gL l 4)) (List.length (gL l 4))) && true)) && true))
 (T20 [.I (gI l 0), .I (gI l 1), .LL (gLL l 2), .L (gL l 3), .L (gL l 4), .I (gI l 5)]
 (fun j A => (sw (br ((gI A 4) != 0)
 (k 0 [.I 0, .I 0])
 (k 1 [.I (gI A 0), .I (gI A 1), .N (List.length (gL A 2)), .L (gL A 2), .N (List.length (gLL A 3)), .LL (gLL A 3)]))
 (fun _ => none)) j))
theorem F28.eq : FEq F28.O 28 F28.ps F28.sh F28 := by intro τ l κ; kernel_rfl
def F28.E : Ent P := mkF F28.eq
def T28 {τ : Type} (l : LS_) (k : Nat → LS_ → Option τ) : Option τ := F28 l k
def T28.E : Ent P := F28.E
def T23 {τ : Type} (l : LS_) (k : Nat → LS_ → Option τ) : Option τ := F23 l k
def T23.E : Ent P := F23.E
end
end Go.Proofs.Ytbpjicbpcfkpfaa.Ai
namespace Go.Proofs.Ytbpjicbpcfkpfaa.Ai
open Go Ma
noncomputable section
theorem F23_spec {a b a' b' : Int} {C C' : List Int} {L L' : List (List Int)} (hC : C.length < 2 ^ 60) (hs : L.length < 2 ^ 60) (hr : ∀ i, (L.getD i []).length < 2 ^ 60) {τ : Type} (k : Nat → LS_ → Option τ) :
  F23 [.I a, .I b, .L C, .LL L, .I a', .I b', .L C', .LL L'] k = k 0 [.B (decide (a = a' ∧ b = b' ∧ C = C' ∧ L = L'))] := by
 unfold F23
 simp only [g_]
 by_cases h1 : a = a'
 ·rw [br_of (by simpa using h1)]
  by_cases h2 : b = b'
  ·rw [br_of (by simpa using h2), ck_of (by simp), F27_spec _ _ _ hC]
   simp only [sw_zero, gB_zero]
   by_cases h3 : C = C'
   ·rw [decide_eq_true h3, br_of rfl, ck_of (by simp), F22_spec _ _ _ hs hr]
    simp only [sw_zero, gB_zero]
    congr 3
    simp [h1, h2, h3]
   ·rw [decide_eq_false h3, br_no rfl, decide_eq_false (fun h => h3 h.2.2.1)]
  ·rw [br_no (by simpa using h2), decide_eq_false (fun h => h2 h.2.1)]
 ·rw [br_no (by simpa using h1), decide_eq_false (fun h => h1 h.1)]
theorem F28_of {q n : Int} {G : List (List Int)} {w g : List Int} {r a b e : Int} {C : List Int} {L : List (List Int)} (h : ∀ {τ : Type} (k : Nat → LS_ → Option τ), T20 [.I q, .I n, .LL G, .L w, .L g, .I r] k = k 0 [.I a, .I b, .L C, .LL L, .I e]) {τ : Type} (k : Nat → LS_ → Option τ) :
  F28 [.I q, .I n, .LL G, .L w, .L g, .I r] k = if e = 0 then k 1 [.I a, .I b, .N C.length, .L C, .N L.length, .LL L] else k 0 [.I 0, .I 0] := by
 unfold F28
 simp only [g_]
 rw [ck_of (by simp), h]
 simp only [g_, sw_zero]
 by_cases he : e = 0
 ·rw [if_pos he, br_no (by simpa using he)]
 ·rw [if_neg he, br_of (by simpa using he)]
end
end Go.Proofs.Ytbpjicbpcfkpfaa.Ai
namespace Go.Proofs.Ytbpjicbpcfkpfaa.Ai
open Go Go.RowKit
noncomputable section
variable {τ : Type} (t : Nat) (nx ex : Nat → LS_ → Option τ) (l : LS_) (k κ : Nat → LS_ → Option τ)
def F16.ps : List PV2 := []
def F16.sh : List PA := [(PA.mk (PV3.v pB) [])]
def F16.O : Orc P := ⟨[T28.E, T18.E, T23.E], [], [], 40⟩
def F16 {τ : Type} (l : LS_) (k : Nat → LS_ → Option τ) : Option τ :=
 T28 [.I 2, .I 3, .LL [[1, 1, 1]], .L [0, 1, 1], .L [], .I 1]
 (fun j A => (sw (T28 [.I 2, .I 3, .LL [[1, 1, 1]], .L [0, 1, 1], .L [0, 1], .I 0]
 (fun j B => (sw (T28 [.I 2, .I 2, .LL [[1, 1]], .L [0, 1], .L [], .I 9]
 (fun j C => (sw (T18 [.I 2, .I 3, .LL [[1, 1, 1]], .L [0, 1], .L [], .I 1]
 (fun j D => (sw (T23 [.I (gI A 0), .I (gI A 1), .L [], .LL [], .I 1, .I 1, .L [1, 1, 1], .LL []]
 (fun j E => (sw (br (gB E 0)
 (T23 [.I (gI B 0), .I (gI B 1), .L [], .LL [], .I 1, .I 0, .L [1, 1, 1], .LL []]
 (fun j F => (sw (br (gB F 0)
 (T23 [.I (gI C 0), .I (gI C 1), .L [], .LL [], .I 2, .I 1, .L [0, 0], .LL [[0, 0], [1, 1]]]
 (fun j G => (sw (br (gB G 0)
 (T28 [.I 2, .I 3, .LL [[1, 1, 1]], .L [0, 1, 1], .L [], .I 0]
 (fun j H => (sw (br ((gI H 0) == 4)
 (k 0 [.B ((gI D 1) == 1)])
 (k 0 [.B false]))
 (sw (br ((gI H 0) == 4)
 (k 0 [.B ((gI D 1) == 1)])
 (k 0 [.B false]))
 (fun _ => none))) j))
 (k 0 [.B false]))
 (fun _ => none)) j))
 (k 0 [.B false]))
 (fun _ => none)) j))
 (k 0 [.B false]))
 (fun _ => none)) j))
 (fun _ => none)) j))
 (sw (T18 [.I 2, .I 3, .LL [[1, 1, 1]], .L [0, 1], .L [], .I 1]
 (fun j D => (sw (T23 [.I (gI A 0), .I (gI A 1), .L [], .LL [], .I 1, .I 1, .L [1, 1, 1], .LL []]
 (fun j E => (sw (br (gB E 0)
 (T23 [.I (gI B 0), .I (gI B 1), .L [], .LL [], .I 1, .I 0, .L [1, 1, 1], .LL []]
 (fun j F => (sw (br (gB F 0)
 (ck (((eqM (gN C 2) (List.length (gL C 3))) && ((eqM (gN C 4) (List.length (gLL C 5))) && true)) && true)
 (T23 [.I (gI C 0), .I (gI C 1), .L (gL C 3), .LL (gLL C 5), .I 2, .I 1, .L [0, 0], .LL [[0, 0], [1, 1]]]
 (fun j G => (sw (br (gB G 0)
 (T28 [.I 2, .I 3, .LL [[1, 1, 1]], .L [0, 1, 1], .L [], .I 0]
 (fun j H => (sw (br ((gI H 0) == 4)
 (k 0 [.B ((gI D 1) == 1)])
 (k 0 [.B false]))
 (sw (br ((gI H 0) == 4)
 (k 0 [.B ((gI D 1) == 1)])
 (k 0 [.B false]))
 (fun _ => none))) j))
 (k 0 [.B false]))
 (fun _ => none)) j)))
 (k 0 [.B false]))
 (fun _ => none)) j))
 (k 0 [.B false]))
 (fun _ => none)) j))
 (fun _ => none)) j))
 (fun _ => none))) j))
 (sw (T28 [.I 2, .I 2, .LL [[1, 1]], .L [0, 1], .L [], .I 9]
 (fun j C => (sw (T18 [.I 2, .I 3, .LL [[1, 1, 1]], .L [0, 1], .L [], .I 1]
 (fun j D => (sw (T23 [.I (gI A 0), .I (gI A 1), .L [], .LL [], .I 1, .I 1, .L [1, 1, 1], .LL []]
 (fun j E => (sw (br (gB E 0)
 (ck (((eqM (gN B 2) (List.length (gL B 3))) && ((eqM (gN B 4) (List.length (gLL B 5))) && true)) && true)
 (T23 [.I (gI B 0), .I (gI B 1), .L (gL B 3), .LL (gLL B 5), .I 1, .I 0, .L [1, 1, 1], .LL []]
 (fun j F => (sw (br (gB F 0)
 (T23 [.I (gI C 0), .I (gI C 1), .L [], .LL [], .I 2, .I 1, .L [0, 0], .LL [[0, 0], [1, 1]]]
 (fun j G => (sw (br (gB G 0)
 (T28 [.I 2, .I 3, .LL [[1, 1, 1]], .L [0, 1, 1], .L [], .I 0]
 (fun j H => (sw (br ((gI H 0) == 4)
 (k 0 [.B ((gI D 1) == 1)])
 (k 0 [.B false]))
 (sw (br ((gI H 0) == 4)
 (k 0 [.B ((gI D 1) == 1)])
 (k 0 [.B false]))
 (fun _ => none))) j))
 (k 0 [.B false]))
 (fun _ => none)) j))
 (k 0 [.B false]))
 (fun _ => none)) j)))
 (k 0 [.B false]))
 (fun _ => none)) j))
 (fun _ => none)) j))
 (sw (T18 [.I 2, .I 3, .LL [[1, 1, 1]], .L [0, 1], .L [], .I 1]
 (fun j D => (sw (T23 [.I (gI A 0), .I (gI A 1), .L [], .LL [], .I 1, .I 1, .L [1, 1, 1], .LL []]
 (fun j E => (sw (br (gB E 0)
 (ck (((eqM (gN B 2) (List.length (gL B 3))) && ((eqM (gN B 4) (List.length (gLL B 5))) && true)) && true)
 (T23 [.I (gI B 0), .I (gI B 1), .L (gL B 3), .LL (gLL B 5), .I 1, .I 0, .L [1, 1, 1], .LL []]
 (fun j F => (sw (br (gB F 0)
 (ck (((eqM (gN C 2) (List.length (gL C 3))) && ((eqM (gN C 4) (List.length (gLL C 5))) && true)) && true)
 (T23 [.I (gI C 0), .I (gI C 1), .L (gL C 3), .LL (gLL C 5), .I 2, .I 1, .L [0, 0], .LL [[0, 0], [1, 1]]]
 (fun j G => (sw (br (gB G 0)
 (T28 [.I 2, .I 3, .LL [[1, 1, 1]], .L [0, 1, 1], .L [], .I 0]
 (fun j H => (sw (br ((gI H 0) == 4)
 (k 0 [.B ((gI D 1) == 1)])
 (k 0 [.B false]))
 (sw (br ((gI H 0) == 4)
 (k 0 [.B ((gI D 1) == 1)])
 (k 0 [.B false]))
 (fun _ => none))) j))
 (k 0 [.B false]))
 (fun _ => none)) j)))
 (k 0 [.B false]))
 (fun _ => none)) j)))
 (k 0 [.B false]))
 (fun _ => none)) j))
 (fun _ => none)) j))
 (fun _ => none))) j))
 (fun _ => none))) j))
 (sw (T28 [.I 2, .I 3, .LL [[1, 1, 1]], .L [0, 1, 1], .L [0, 1], .I 0]
 (fun j B => (sw (T28 [.I 2, .I 2, .LL [[1, 1]], .L [0, 1], .L [], .I 9]
 (fun j C => (sw (T18 [.I 2, .I 3, .LL [[1, 1, 1]], .L [0, 1], .L [], .I 1]
 (fun j D => (sw (ck (((eqM (gN A 2) (List.length (gL A 3))) && ((eqM (gN A 4) (List.length (gLL A 5))) && true)) && true)
 (T23 [.I (gI A 0), .I (gI A 1), .L (gL A 3), .LL (gLL A 5), .I 1, .I 1, .L [1, 1, 1], .LL []]
 (fun j E => (sw (br (gB E 0)
 (T23 [.I (gI B 0), .I (gI B 1), .L [], .LL [], .I 1, .I 0, .L [1, 1, 1], .LL []]
 (fun j F => (sw (br (gB F 0)
 (T23 [.I (gI C 0), .I (gI C 1), .L [], .LL [], .I 2, .I 1, .L [0, 0], .LL [[0, 0], [1, 1]]]
 (fun j G => (sw (br (gB G 0)
 (T28 [.I 2, .I 3, .LL [[1, 1, 1]], .L [0, 1, 1], .L [], .I 0]
 (fun j H => (sw (br ((gI H 0) == 4)
 (k 0 [.B ((gI D 1) == 1)])
 (k 0 [.B false]))
 (sw (br ((gI H 0) == 4)
 (k 0 [.B ((gI D 1) == 1)])
 (k 0 [.B false]))
 (fun _ => none))) j))
 (k 0 [.B false]))
 (fun _ => none)) j))
 (k 0 [.B false]))
 (fun _ => none)) j))
 (k 0 [.B false]))
 (fun _ => none)) j)))
 (fun _ => none)) j))
 (sw (T18 [.I 2, .I 3, .LL [[1, 1, 1]], .L [0, 1], .L [], .I 1]
 (fun j D => (sw (ck (((eqM (gN A 2) (List.length (gL A 3))) && ((eqM (gN A 4) (List.length (gLL A 5))) && true)) && true)
 (T23 [.I (gI A 0), .I (gI A 1), .L (gL A 3), .LL (gLL A 5), .I 1, .I 1, .L [1, 1, 1], .LL []]
 (fun j E => (sw (br (gB E 0)
 (T23 [.I (gI B 0), .I (gI B 1), .L [], .LL [], .I 1, .I 0, .L [1, 1, 1], .LL []]
 (fun j F => (sw (br (gB F 0)
 (ck (((eqM (gN C 2) (List.length (gL C 3))) && ((eqM (gN C 4) (List.length (gLL C 5))) && true)) && true)
 (T23 [.I (gI C 0), .I (gI C 1), .L (gL C 3), .LL (gLL C 5), .I 2, .I 1, .L [0, 0], .LL [[0, 0], [1, 1]]]
 (fun j G => (sw (br (gB G 0)
 (T28 [.I 2, .I 3, .LL [[1, 1, 1]], .L [0, 1, 1], .L [], .I 0]
 (fun j H => (sw (br ((gI H 0) == 4)
 (k 0 [.B ((gI D 1) == 1)])
 (k 0 [.B false]))
 (sw (br ((gI H 0) == 4)
 (k 0 [.B ((gI D 1) == 1)])
 (k 0 [.B false]))
 (fun _ => none))) j))
 (k 0 [.B false]))
 (fun _ => none)) j)))
 (k 0 [.B false]))
 (fun _ => none)) j))
 (k 0 [.B false]))
 (fun _ => none)) j)))
 (fun _ => none)) j))
 (fun _ => none))) j))
 (sw (T28 [.I 2, .I 2, .LL [[1, 1]], .L [0, 1], .L [], .I 9]
 (fun j C => (sw (T18 [.I 2, .I 3, .LL [[1, 1, 1]], .L [0, 1], .L [], .I 1]
 (fun j D => (sw (ck (((eqM (gN A 2) (List.length (gL A 3))) && ((eqM (gN A 4) (List.length (gLL A 5))) && true)) && true)
 (T23 [.I (gI A 0), .I (gI A 1), .L (gL A 3), .LL (gLL A 5), .I 1, .I 1, .L [1, 1, 1], .LL []]
 (fun j E => (sw (br (gB E 0)
 (ck (((eqM (gN B 2) (List.length (gL B 3))) && ((eqM (gN B 4) (List.length (gLL B 5))) && true)) && true)
 (T23 [.I (gI B 0), .I (gI B 1), .L (gL B 3), .LL (gLL B 5), .I 1, .I 0, .L [1, 1, 1], .LL []]
 (fun j F => (sw (br (gB F 0)
 (T23 [.I (gI C 0), .I (gI C 1), .L [], .LL [], .I 2, .I 1, .L [0, 0], .LL [[0, 0], [1, 1]]]
 (fun j G => (sw (br (gB G 0)
 (T28 [.I 2, .I 3, .LL [[1, 1, 1]], .L [0, 1, 1], .L [], .I 0]
 (fun j H => (sw (br ((gI H 0) == 4)
 (k 0 [.B ((gI D 1) == 1)])
 (k 0 [.B false]))
 (sw (br ((gI H 0) == 4)
 (k 0 [.B ((gI D 1) == 1)])
 (k 0 [.B false]))
 (fun _ => none))) j))
 (k 0 [.B false]))
 (fun _ => none)) j))
 (k 0 [.B false]))
 (fun _ => none)) j)))
 (k 0 [.B false]))
 (fun _ => none)) j)))
 (fun _ => none)) j))
 (sw (T18 [.I 2, .I 3, .LL [[1, 1, 1]], .L [0, 1], .L [], .I 1]
 (fun j D => (sw (ck (((eqM (gN A 2) (List.length (gL A 3))) && ((eqM (gN A 4) (List.length (gLL A 5))) && true)) && true)
 (T23 [.I (gI A 0), .I (gI A 1), .L (gL A 3), .LL (gLL A 5), .I 1, .I 1, .L [1, 1, 1], .LL []]
 (fun j E => (sw (br (gB E 0)
 (ck (((eqM (gN B 2) (List.length (gL B 3))) && ((eqM (gN B 4) (List.length (gLL B 5))) && true)) && true)
 (T23 [.I (gI B 0), .I (gI B 1), .L (gL B 3), .LL (gLL B 5), .I 1, .I 0, .L [1, 1, 1], .LL []]
 (fun j F => (sw (br (gB F 0)
 (ck (((eqM (gN C 2) (List.length (gL C 3))) && ((eqM (gN C 4) (List.length (gLL C 5))) && true)) && true)
 (T23 [.I (gI C 0), .I (gI C 1), .L (gL C 3), .LL (gLL C 5), .I 2, .I 1, .L [0, 0], .LL [[0, 0], [1, 1]]]
 (fun j G => (sw (br (gB G 0)
 (T28 [.I 2, .I 3, .LL [[1, 1, 1]], .L [0, 1, 1], .L [], .I 0]
 (fun j H => (sw (br ((gI H 0) == 4)
 (k 0 [.B ((gI D 1) == 1)])
 (k 0 [.B false]))
 (sw (br ((gI H 0) == 4)
 (k 0 [.B ((gI D 1) == 1)])
 (k 0 [.B false]))
 (fun _ => none))) j))
 (k 0 [.B false]))
 (fun _ => none)) j)))
 (k 0 [.B false]))
 (fun _ => none)) j)))
 (k 0 [.B false]))
 (fun _ => none)) j)))
 (fun _ => none)) j))
 (fun _ => none))) j))
 (fun _ => none))) j))
 (fun _ => none))) j)
theorem F16.eq : FEq F16.O 16 F16.ps F16.sh F16 := by intro τ l κ; kernel_rfl
def F16.E : Ent P := mkF F16.eq
end
end Go.Proofs.Ytbpjicbpcfkpfaa.Ai
namespace Go.Proofs.Ytbpjicbpcfkpfaa.Ai
open Go Ma
noncomputable section
theorem okLs_cons {p : PV1} {ps : List PV1} {ls : LS_} (h : okLs (p :: ps) ls) : ∃ x ls', ls = x :: ls' ∧ okLeaf p x ∧ okLs ps ls' := by
 cases ls with
 | nil => have := h.1; simp at this
 | cons x ls' =>
  refine ⟨x, ls', rfl, h.2 0 (by simp), by have := h.1; simpa using this, fun j hj => ?_⟩
  exact h.2 (j + 1) (by simpa using hj)
theorem okLs_nil {ls : LS_} (h : okLs [] ls) : ls = [] := List.length_eq_zero_iff.1 h.1
theorem ok_int {k : IntKind} {x : Leaf} (h : okLeaf (.int k) x) : ∃ n, x = .I n ∧ wfI k n := by
 unfold okLeaf at h
 split at h
 ·rename_i e; cases e
 ·rename_i k' n e; cases e; exact ⟨n, rfl, h⟩
 ·rename_i e; cases e
 ·rename_i e; cases e
 ·exact h.elim
theorem ok_arr {k : IntKind} {x : Leaf} (h : okLeaf (.arr (.i k)) x) : ∃ l, x = .L l ∧ l.length ≤ maxLen ∧ ∀ n ∈ l, wfI k n := by
 unfold okLeaf at h
 split at h
 ·rename_i e; cases e
 ·rename_i e; cases e
 ·rename_i k' l e; cases e; exact ⟨l, rfl, h.1, h.2⟩
 ·rename_i e; cases e
 ·exact h.elim
theorem wf_u8 {n : Int} (h : wfI .u8 n) : 0 ≤ n ∧ n < 256 := by
 unfold wfI at h
 simp [Lit.wf, IntKind.min, IntKind.max, IntKind.signed, IntKind.bits] at h
 omega
theorem wf_u16 {n : Int} (h : wfI .u16 n) : 0 ≤ n ∧ n < 65536 := by
 unfold wfI at h
 simp [Lit.wf, IntKind.min, IntKind.max, IntKind.signed, IntKind.bits] at h
 omega
theorem ok_bytes {x : Leaf} (h : okLeaf (.arr (.i .u8)) x) : ∃ l, x = .L l ∧ Bytes l := by
 obtain ⟨l, e, h1, h2⟩ := ok_arr h
 refine ⟨l, e, by unfold maxLen at h1; omega, fun j => ?_⟩
 by_cases hj : j < l.length
 ·rw [List.getD_eq_getElem?_getD, List.getElem?_eq_getElem hj]
  exact wf_u8 (h2 _ (List.getElem_mem hj))
 ·rw [List.getD_eq_getElem?_getD, List.getElem?_eq_none (by omega)]
  decide
theorem raw34 {ps : List PV1} {ls : LS_} (h : okLs (.int .u8 :: .int .u8 :: .int .u8 :: .arr (.i .u8) :: .int .u16 :: .arr (.i .u8) :: .int .u16 :: ps) ls) :
  ∃ Q N K L num H gone ls', ls = .I Q :: .I N :: .I K :: .L L :: .I num :: .L H :: .I gone :: ls' ∧ (0 ≤ Q ∧ Q < 256) ∧ (0 ≤ N ∧ N < 256) ∧ (0 ≤ K ∧ K < 256) ∧ Bytes L ∧ (0 ≤ num ∧ num < 65536) ∧ Bytes H ∧ okLs ps ls' := by
 obtain ⟨x0, l0, rfl, a0, g0⟩ := okLs_cons h
 obtain ⟨Q, rfl, h1⟩ := ok_int a0
 obtain ⟨x1, l1, rfl, a1, g1⟩ := okLs_cons g0
 obtain ⟨N, rfl, h2⟩ := ok_int a1
 obtain ⟨x2, l2, rfl, a2, g2⟩ := okLs_cons g1
 obtain ⟨K, rfl, h3⟩ := ok_int a2
 obtain ⟨x3, l3, rfl, a3, g3⟩ := okLs_cons g2
 obtain ⟨L, rfl, h4⟩ := ok_bytes a3
 obtain ⟨x4, l4, rfl, a4, g4⟩ := okLs_cons g3
 obtain ⟨num, rfl, h5⟩ := ok_int a4
 obtain ⟨x5, l5, rfl, a5, g5⟩ := okLs_cons g4
 obtain ⟨H, rfl, h6⟩ := ok_bytes a5
 obtain ⟨x6, l6, rfl, a6, g6⟩ := okLs_cons g5
 obtain ⟨gone, rfl, _⟩ := ok_int a6
 exact ⟨Q, N, K, L, num, H, gone, l6, rfl, wf_u8 h1, wf_u8 h2, wf_u8 h3, h4, wf_u16 h5, h6, g6⟩
structure Cs (q n : Nat) (G : List (List Int)) (s w g : List Int) : Prop where
 cd : Cd q n G
 sent : s ∈ words q (fadd q) (fmul q) G (List.replicate n 0)
 wd : Wd q n w
 up : Up n g
theorem isRight_of {q n : Nat} {w g : List Int} (hw : Wd q n w) (hg : Up n g) : isRight q n w g = true := by
 unfold isRight
 rw [Bool.and_eq_true]
 exact ⟨isWord_iff.2 ⟨by rw [hw.1], fun i _ hi => hw.2 i (by have := hw.1; omega)⟩, hg.gone⟩
theorem Up.pos {n : Nat} {g : List Int} (h : Up n g) : ∀ k, k < g.length → 0 ≤ g.getD k 0 := fun k hk => (h.2 k hk).1
theorem winR_eq {q n : Nat} {G : List (List Int)} {w g : List Int} (hg : ∀ k, k < g.length → 0 ≤ g.getD k 0) (r : Int) :
  winR q n G w g r = (words q (fadd q) (fmul q) G (List.replicate n 0)).filter fun y => decide (((far (lostI g) w y 0 n : Nat) : Int) ≤ r) := by
 unfold winR
 congr 1
 funext y
 rw [far_eq hg]
section
variable {q n : Nat} {G : List (List Int)} {s w g : List Int}
theorem Cs.right (h : Cs q n G s w g) : isRight q n w g = true := isRight_of h.wd h.up
theorem Cs.gs (h : Cs q n G s w g) : g.length < 2 ^ 60 := by have := h.up.1; have := h.cd.n1; omega
theorem Cs.cnt (h : Cs q n G s w g) : (words q (fadd q) (fmul q) G (List.replicate n 0)).length ≤ 256 := by rw [words_len (n := 0) h.cd.fq]; exact h.cd.count
end
theorem cd_c : Cd 2 3 [[1, 1, 1]] where
  fq := by decide
  n0 := by decide
  n1 := by decide
  count := by decide
  form := ⟨fun _ => 0,
    { wd := fun i hi => by
        have : i = 0 := by simpa using hi
        subst this
        refine ⟨rfl, fun j hj => ?_⟩
        rcases (show j = 0 ∨ j = 1 ∨ j = 2 by omega) with rfl | rfl | rfl <;> decide
      lt := fun i hi => by decide
      mono := fun i j hi hj => by simp at hj; omega
      one := fun i hi => by
        have : i = 0 := by simpa using hi
        subst this; rfl
      zero := fun i k hi hk hne => by
        simp at hi hk; omega
      lead := fun i j hi hj => by omega }⟩
theorem cd_two : Cd 2 2 [[1, 1]] where
  fq := by decide
  n0 := by decide
  n1 := by decide
  count := by decide
  form := ⟨fun _ => 0,
    { wd := fun i hi => by
        have : i = 0 := by simpa using hi
        subst this
        refine ⟨rfl, fun j hj => ?_⟩
        rcases (show j = 0 ∨ j = 1 by omega) with rfl | rfl <;> decide
      lt := fun i hi => by decide
      mono := fun i j hi hj => by simp at hj; omega
      one := fun i hi => by
        have : i = 0 := by simpa using hi
        subst this; rfl
      zero := fun i k hi hk hne => by
        simp at hi hk; omega
      lead := fun i j hi hj => by omega }⟩
theorem ex1 {τ : Type} (k : Nat → LS_ → Option τ) : F28 [.I 2, .I 3, .LL [[1, 1, 1]], .L [0, 1, 1], .L [], .I 1] k = k 1 [.I 1, .I 1, .N 3, .L [1, 1, 1], .N 0, .LL []] :=
 (F28_of (fun {τ} κ => T20_ok (q := 2) (n := 3) cd_c (w := [0, 1, 1]) (g := []) (by kernel_rfl) (by decide) 1 κ) k).trans (by kernel_rfl)
theorem ex2 {τ : Type} (k : Nat → LS_ → Option τ) : F28 [.I 2, .I 3, .LL [[1, 1, 1]], .L [0, 1, 1], .L [0, 1], .I 0] k = k 1 [.I 1, .I 0, .N 3, .L [1, 1, 1], .N 0, .LL []] :=
 (F28_of (fun {τ} κ => T20_ok (q := 2) (n := 3) cd_c (w := [0, 1, 1]) (g := [0, 1]) (by kernel_rfl) (by decide) 0 κ) k).trans (by kernel_rfl)
theorem ex3 {τ : Type} (k : Nat → LS_ → Option τ) : F28 [.I 2, .I 2, .LL [[1, 1]], .L [0, 1], .L [], .I 9] k = k 1 [.I 2, .I 1, .N 2, .L [0, 0], .N 2, .LL [[0, 0], [1, 1]]] :=
 (F28_of (fun {τ} κ => T20_ok (q := 2) (n := 2) cd_two (w := [0, 1]) (g := []) (by kernel_rfl) (by decide) 9 κ) k).trans (by kernel_rfl)
theorem ex4 {τ : Type} (k : Nat → LS_ → Option τ) : F28 [.I 2, .I 3, .LL [[1, 1, 1]], .L [0, 1, 1], .L [], .I 0] k = k 1 [.I 4, .I 0, .N 0, .L [], .N 0, .LL []] :=
 (F28_of (fun {τ} κ => T20_ok (q := 2) (n := 3) cd_c (w := [0, 1, 1]) (g := []) (by kernel_rfl) (by decide) 0 κ) k).trans (by kernel_rfl)
theorem ex5 {τ : Type} (k : Nat → LS_ → Option τ) : T18 [.I 2, .I 3, .LL [[1, 1, 1]], .L [0, 1], .L [], .I 1] k = k 0 [.LL [], .I 1] :=
 T18_err0 (fun {τ} κ => F18_wrong (q := 2) (by decide) 3 (by decide) (fun i => by
  rcases i with _ | i
  ·decide
  ·simp) (by decide) (by decide) (by kernel_rfl) 1 κ) k
theorem short2 {L : List (List Int)} (h : ∀ r ∈ L, r.length < 2 ^ 60) : ∀ i, (L.getD i []).length < 2 ^ 60 := fun i => by
 by_cases hi : i < L.length
 ·rw [List.getD_eq_getElem?_getD, List.getElem?_eq_getElem hi]
  exact h _ (List.getElem_mem hi)
 ·rw [List.getD_eq_getElem?_getD, List.getElem?_eq_none (by omega)]
  decide
def T16 {τ : Type} (l : LS_) (k : Nat → LS_ → Option τ) : Option τ := F16 l k
def T16.E : Ent P := F16.E
theorem T16_spec {τ : Type} (k : Nat → LS_ → Option τ) : T16 [] k = k 0 [.B true] := by
 unfold T16 F16 T28 T23
 rw [ex1]
 simp only [sw_succ, sw_zero]
 rw [ex2]
 simp only [sw_succ, sw_zero]
 rw [ex3]
 simp only [sw_succ, sw_zero]
 rw [ex5]
 simp only [g_, sw_succ, sw_zero]
 rw [ck_of (by simp), F23_spec (by decide) (by decide) (short2 (by simp)), decide_eq_true (by decide)]
 simp only [sw_succ, sw_zero, gB_zero]
 rw [br_of rfl, ck_of (by simp), F23_spec (by decide) (by decide) (short2 (by simp)), decide_eq_true (by decide)]
 simp only [sw_succ, sw_zero, gB_zero]
 rw [br_of rfl, ck_of (by simp), F23_spec (by decide) (by decide) (short2 (by simp)), decide_eq_true (by decide)]
 simp only [sw_succ, sw_zero, gB_zero]
 rw [br_of rfl, ex4]
 simp only [sw_succ, sw_zero, gI_zero]
 rw [br_of (show ((4 : Int) == 4) = true from rfl)]
 rfl
end
end Go.Proofs.Ytbpjicbpcfkpfaa.Ai
namespace Go.Proofs.Ytbpjicbpcfkpfaa.Ai
open Go Ma
noncomputable section
open Classical in
theorem L105_4_spec (q n : Int) (c : Nat) (G : List (List Int)) (wn : Nat) (w : List Int) {g : List Int} (hs : g.length < 2 ^ 60) {τ : Type} (κ : Nat → LS_ → Option τ) : ∀ (f j : Nat), j ≤ g.length → g.length < f + j →
  runE L105_4 f κ 0 [.B false, .I j, .I q, .I n, .N c, .LL G, .N wn, .L w, .N g.length, .L g] = if (∀ i, j ≤ i → i < g.length → Gn n g i) then κ 1 [.B false] else κ 0 [.B false]
 | 0, j, h1, h2 => by omega
 | f + 1, j, h1, h2 => by
  rw [runE_succ]
  show L105_4.s0 _ _ _ = _
  unfold L105_4.s0
  simp only [g_]
  by_cases hj : j < g.length
  ·have e := wsucc (j := j) (by omega)
   have hh : Gn n g j → ((∀ i, j + 1 ≤ i → i < g.length → Gn n g i) ↔ (∀ i, j ≤ i → i < g.length → Gn n g i)) := fun h0 => by
    refine ⟨fun h i hi hl => ?_, fun h i hi hl => h i (by omega) hl⟩
    by_cases he : i = j
    ·subst he; exact h0
    ·exact h i (by omega) hl
   simp only [Int.toNat_natCast, Nat.mul_one]
   rw [br_of (by simp; omega), ck_of (by simp <;> omega), ck_of (by simp <;> omega)]
   by_cases h0 : 0 ≤ g.getD j 0
   ·rw [br_no (by simp only [ltI_no]; omega), ck_of (by simp <;> omega), ck_of (by simp <;> omega)]
    by_cases h3 : g.getD j 0 < n
    ·rw [br_no (by simp only [geI_no]; omega)]
     by_cases hp : 0 < j
     ·have e1 : wr .i64 ((j : Int) - 1) = ((j - 1 : Nat) : Int) := by rw [wr64 (by omega) (by omega)]; omega
      rw [br_of (by simp only [gtI_iff]; omega), e1]
      simp only [Int.toNat_natCast, Nat.mul_one]
      rw [ck_of (by simp <;> omega), ck_of (by simp <;> omega), ck_of (by simp <;> omega), ck_of (by simp <;> omega)]
      by_cases h4 : g.getD (j - 1) 0 < g.getD j 0
      ·rw [br_no (by simp only [geI_no]; omega), e, L105_4_spec q n c G wn w hs κ f (j + 1) (by omega) (by omega)]
       simp only [hh ⟨h0, h3, fun _ => h4⟩]
      ·rw [br_of (by simp only [geI_iff]; omega), if_neg (fun h => h4 ((h j (Nat.le_refl _) hj).2.2 hp))]
     ·rw [br_no (by simp only [gtI_no]; omega), e, L105_4_spec q n c G wn w hs κ f (j + 1) (by omega) (by omega)]
      simp only [hh ⟨h0, h3, fun h => absurd h hp⟩]
    ·rw [br_of (by simp only [geI_iff]; omega), if_neg (fun h => h3 (h j (Nat.le_refl _) hj).2.1)]
   ·rw [br_of (by simp only [ltI_iff]; omega), if_neg (fun h => h0 (h j (Nat.le_refl _) hj).1)]
  ·rw [br_no (by simp; omega), if_pos (fun i h1 h2 => by omega)]
theorem F105_spec (q n : Int) (G : List (List Int)) {w g : List Int} (hw : w.length < 2 ^ 60) (hg : g.length < 2 ^ 60) {τ : Type} (k : Nat → LS_ → Option τ) : F105 [.I q, .I n, .LL G, .L w, .L g] k = k 0 [.B (isRight q n w g)] := by
 have hfu := fuel_le
 unfold F105 L105_4.b isRight
 simp only [g_]
 rw [ck_of (by simp), F31_spec _ _ hw]
 simp only [sw_zero, gB_zero]
 cases hwd : isWord q n w with
 | false => rw [br_of (b := !false) rfl]; rfl
 | true =>
  rw [br_no (b := !true) rfl]
  have e := L105_4_spec q n G.length G w.length w hg (fun j l344 => (sw (k 0 [.B (gB l344 0)]) (sw (k 0 [.B true]) (fun _ => none))) j) fuel 0 (by omega) (by omega)
  refine Eq.trans e ?_
  cases hgo : isGone n g with
  | true => rw [if_pos (isGone_iff.1 hgo)]; rfl
  | false => rw [if_neg (fun h => by rw [isGone_iff.2 h] at hgo; cases hgo)]; rfl
theorem F68_spec {q n : Nat} {G : List (List Int)} (hc : Cd q n G) {w g : List Int} (hw : w.length < 2 ^ 60) (hg : g.length < 2 ^ 60) {τ : Type} (k : Nat → LS_ → Option τ) : F68 [.I q, .I n, .LL G, .L w, .L g] k = k 0 [.I (if isRight q n w g = true then 0 else 1)] := by
 have hcnt := hc.count
 unfold F68
 simp only [g_]
 rw [ck_of (by simp), F53_spec hc]
 simp only [sw_zero, gB_zero]
 rw [br_no (b := !true) rfl, ck_of (by simp), F105_spec _ _ _ hw hg]
 simp only [sw_zero, gB_zero]
 by_cases hr : isRight q n w g = true
 ·rw [if_pos hr, hr, br_no (b := !true) rfl, ck_of (by simp), F61_spec hc.fq n G (by omega) hc.rows.few]
  simp only [sw_zero, gI_zero]
  rw [br_no (by simp only [gtI_no]; omega)]
 ·rw [if_neg hr, Bool.eq_false_iff.2 hr, br_of (b := !false) rfl]
theorem L19_7_1_spec {n : Nat} {w g : List Int} {W : List (List Int)} (hw : w.length = n) (hs : n < 2 ^ 60) (hg : g.length < 2 ^ 60) (hW : ∀ y ∈ W, y.length = n) (hl : W.length < 2 ^ 20) (r : Int) {τ : Type} (κ : Nat → LS_ → Option τ) : ∀ (f i : Nat) (out : List (List Int)), i ≤ W.length → W.length < f + i → out.length ≤ i →
  runE L19_7_1 f κ 0 [.I r, .N out.length, .N W.length, .I i, .N w.length, .L w, .N g.length, .L g, .LL out, .LL W] = κ 0 [.N (out ++ (W.drop i).filter fun y => decide (((far (lostI g) w y 0 n : Nat) : Int) ≤ r)).length, .LL (out ++ (W.drop i).filter fun y => decide (((far (lostI g) w y 0 n : Nat) : Int) ≤ r))]
 | 0, i, out, h1, h2, h3 => by omega
 | f + 1, i, out, h1, h2, h3 => by
  rw [runE_succ]
  show L19_7_1.s0 _ _ _ = _
  unfold L19_7_1.s0
  simp only [g_, Int.toNat_natCast, Nat.mul_one, Nat.zero_add, List.drop_zero]
  by_cases hj : i < W.length
  ·have hy : W.getD i [] ∈ W := by
    rw [List.getD_eq_getElem?_getD, List.getElem?_eq_getElem hj]
    exact List.getElem_mem hj
   have yl := hW _ hy
   rw [drop_cons [] hj, List.filter_cons]
   generalize W.getD i [] = y at yl ⊢
   rw [br_of (by simp; omega), ck_of (by simp; omega), ck_of (by simp; omega), ck_of (by simp), F26_spec (by omega) (by omega) hg, yl]
   simp only [sw_zero, gI_zero]
   rw [wsucc (j := i) (by omega)]
   by_cases hd : ((far (lostI g) w y 0 n : Nat) : Int) ≤ r
   ·have ih := L19_7_1_spec hw hs hg hW hl r κ f (i + 1) (out ++ [y]) (by omega) (by omega) (by simp; omega)
    rw [br_of (by simpa using hd), ck_of (by simp; omega), ck_of (by simp; omega), ck_of (by simp), ck_of (by simp; omega), if_pos (by simpa using hd)]
    rw [show (out ++ [y]).length = out.length + 1 by simp, List.append_assoc, List.singleton_append] at ih
    exact ih
   ·rw [br_no (by simp only [leI_no]; exact hd), if_neg (by simpa using hd)]
    exact L19_7_1_spec hw hs hg hW hl r κ f (i + 1) out (by omega) (by omega) (by omega)
  ·rw [List.drop_eq_nil_of_le (show W.length ≤ i by omega), br_no (by simp; omega)]
   simp
theorem right_parts {q n : Nat} {w g : List Int} (hr : isRight q n w g = true) : w.length = n ∧ ∀ k, k < g.length → 0 ≤ g.getD k 0 := by
 unfold isRight at hr
 rw [Bool.and_eq_true] at hr
 have hw := isWord_iff.1 hr.1
 have hg := isGone_iff.1 hr.2
 exact ⟨by omega, fun k hk => (hg k (Nat.zero_le _) hk).1⟩
theorem F19_ok {q n : Nat} {G : List (List Int)} (hc : Cd q n G) {w g : List Int} (hr : isRight q n w g = true) (hg : g.length < 2 ^ 60) (r : Int) {τ : Type} (k : Nat → LS_ → Option τ) : F19 [.I q, .I n, .LL G, .L w, .L g, .I r] k = k 1 [.N (winR q n G w g r).length, .LL (winR q n G w g r)] := by
 have hfu := fuel_le
 obtain ⟨hw, hp⟩ := right_parts hr
 have n1 := hc.n1
 have hcnt := hc.count
 have hwd := words_wd (fld q hc.fq) G _ hc.rows.wd (Wd.zeros (n := n) (by have := qs_lt hc.fq; omega))
 have hlen := words_len (n := n) hc.fq G (List.replicate n 0)
 unfold F19
 simp only [g_]
 rw [ck_of (by simp), F68_spec hc (by omega) hg, if_pos hr]
 simp only [sw_zero, gI_zero]
 rw [br_no (by simp), ck_of (by simp), F25_spec hc.fq hc.rows (by omega)]
 simp only [sw_one, sw_zero, gN_zero, gLL_succ, gLL_zero]
 unfold L19_7_1.b
 rw [winR_eq hp]
 have := L19_7_1_spec (W := words q (fadd q) (fmul q) G (List.replicate n 0)) hw (by omega) hg (fun y hy => (hwd y hy).1) (by omega) r (fun j l351 => (sw (k 1 [.N (gN l351 0), .LL (gLL l351 1)]) (fun _ => none)) j) fuel 0 [] (by omega) (by omega) (by simp)
 rw [hlen] at this
 exact this
theorem F19_wrong {q n : Nat} {G : List (List Int)} (hc : Cd q n G) {w g : List Int} (hr : isRight q n w g = false) (hw : w.length < 2 ^ 60) (hg : g.length < 2 ^ 60) (r : Int) {τ : Type} (k : Nat → LS_ → Option τ) : F19 [.I q, .I n, .LL G, .L w, .L g, .I r] k = k 0 [.I 1] := by
 unfold F19
 simp only [g_]
 rw [ck_of (by simp), F68_spec hc hw hg, if_neg (by rw [hr]; simp)]
 simp only [sw_zero, gI_zero]
 rw [br_of (by simp)]
theorem L73_3_1_spec {n : Nat} {w g : List Int} {W : List (List Int)} (hw : w.length = n) (hs : n < 2 ^ 60) (hg : g.length < 2 ^ 60) (hW : ∀ y ∈ W, y.length = n) (hl : W.length < 2 ^ 20) {τ : Type} (κ : Nat → LS_ → Option τ) : ∀ (f i : Nat) (out : List (List Int)), i ≤ W.length → W.length < f + i → out.length ≤ i → (∀ y ∈ out, y.length = n) →
  runE L73_3_1 f κ 0 [.N W.length, .LL W, .N out.length, .I i, .N w.length, .L w, .N g.length, .L g, .LL out] = κ 0 [.N ((W.drop i).foldl (nearStep fun y => far (lostI g) w y 0 n) out).length, .LL ((W.drop i).foldl (nearStep fun y => far (lostI g) w y 0 n) out)]
 | 0, i, out, h1, h2, h3, h4 => by omega
 | f + 1, i, out, h1, h2, h3, h4 => by
  rw [runE_succ]
  show L73_3_1.s0 _ _ _ = _
  unfold L73_3_1.s0
  simp only [g_, Int.toNat_natCast, Nat.mul_one, Nat.zero_add, List.drop_zero]
  by_cases hj : i < W.length
  ·have hy : W.getD i [] ∈ W := by
    rw [List.getD_eq_getElem?_getD, List.getElem?_eq_getElem hj]
    exact List.getElem_mem hj
   have yl := hW _ hy
   rw [drop_cons [] hj, List.foldl_cons]
   generalize W.getD i [] = y at yl ⊢
   rw [br_of (by simp; omega), wsucc (j := i) (by omega)]
   cases out with
   | nil =>
    rw [br_no (by simp), br_no (by simp), ck_of (by simp; omega), ck_of (by simp; omega), ck_of (by simp), ck_of (by simp)]
    exact L73_3_1_spec hw hs hg hW hl κ f (i + 1) [y] (by omega) (by omega) (by simp) (by simpa using yl)
   | cons o os =>
    have ol := h4 o (by simp)
    have oo : List.getD (o :: os) 0 [] = o := rfl
    rw [br_of (by simp), ck_of (by simp; omega), ck_of (by simp; omega), ck_of (by simp), F26_spec (by omega) (by omega) hg, yl]
    simp only [sw_zero, gI_zero]
    rw [ck_of (by simp), ck_of (by simp), ck_of (by simp), oo, F26_spec (by omega) (by omega) hg, ol]
    simp only [sw_zero, gI_zero]
    unfold nearStep
    dsimp only
    by_cases hd : far (lostI g) w y 0 n > far (lostI g) w o 0 n
    ·rw [br_of (by simp; omega), if_pos hd]
     exact L73_3_1_spec hw hs hg hW hl κ f (i + 1) (o :: os) (by omega) (by omega) (by omega) h4
    ·rw [br_no (by simp; omega), if_neg hd, br_of (by simp), ck_of (by simp; omega), ck_of (by simp; omega), ck_of (by simp), F26_spec (by omega) (by omega) hg, yl]
     simp only [sw_zero, gI_zero]
     rw [ck_of (by simp), ck_of (by simp), ck_of (by simp), F26_spec (by omega) (by omega) hg, ol]
     simp only [sw_zero, gI_zero]
     by_cases hd2 : far (lostI g) w y 0 n < far (lostI g) w o 0 n
     ·rw [br_of (by simp; omega), if_pos hd2, ck_of (by simp; omega), ck_of (by simp; omega), ck_of (by simp)]
      exact L73_3_1_spec hw hs hg hW hl κ f (i + 1) [y] (by omega) (by omega) (by simp) (by simpa using yl)
     ·have ih := L73_3_1_spec hw hs hg hW hl κ f (i + 1) ((o :: os) ++ [y]) (by omega) (by omega) (by simp at h3 ⊢; omega) (fun z hz => by
       rcases List.mem_append.1 hz with q | q
       ·exact h4 z q
       ·rw [List.mem_singleton.1 q]; exact yl)
      rw [br_no (by simp; omega), if_neg hd2, ck_of (by simp; omega), ck_of (by simp; omega), ck_of (by simp), ck_of (by simp at h3 ⊢; omega)]
      rw [show ((o :: os) ++ [y]).length = (o :: os).length + 1 by simp] at ih
      exact ih
  ·rw [List.drop_eq_nil_of_le (show W.length ≤ i by omega), br_no (by simp; omega)]
   rfl
end
end Go.Proofs.Ytbpjicbpcfkpfaa.Ai
namespace Go.Proofs.Ytbpjicbpcfkpfaa.Ai
open Go Ma
noncomputable section
theorem nearR_eq {q n : Nat} {G : List (List Int)} {w g : List Int} (hg : ∀ k, k < g.length → 0 ≤ g.getD k 0) (r : Int) :
  nearR q n G w g r = near (fun y => far (lostI g) w y 0 n) (winR q n G w g r) := by
 unfold nearR
 congr 1
 funext y
 rw [far_eq hg]
theorem winR_len {q n : Nat} {G : List (List Int)} (hc : Cd q n G) (w g : List Int) (r : Int) : (winR q n G w g r).length ≤ 256 :=
 Nat.le_trans (List.length_filter_le _ _) (by rw [words_len (n := n) hc.fq]; exact hc.count)
theorem winR_wd {q n : Nat} {G : List (List Int)} (hc : Cd q n G) (w g : List Int) (r : Int) : ∀ y ∈ winR q n G w g r, y.length = n := fun y hy =>
 (words_wd (fld q hc.fq) G _ hc.rows.wd (Wd.zeros (n := n) (by have := qs_lt hc.fq; omega)) y (List.mem_filter.1 hy).1).1
theorem nearR_wd {q n : Nat} {G : List (List Int)} (hc : Cd q n G) {w g : List Int} {r : Int} : ∀ y ∈ nearR q n G w g r, y.length = n := fun y hy =>
 (words_wd (fld q hc.fq) G _ hc.rows.wd (Wd.zeros (n := n) (by have := qs_lt hc.fq; omega)) y (nearR_sub hy)).1
theorem F73_1_spec {n : Nat} {w g : List Int} {W : List (List Int)} (hw : w.length = n) (hs : n < 2 ^ 60) (hg : g.length < 2 ^ 60) (hW : ∀ y ∈ W, y.length = n) (hl : W.length < 2 ^ 20) {τ : Type} (k : Nat → LS_ → Option τ) :
  F73_1 [.L w, .L g, .LL W] k = k 0 [.N (near (fun y => far (lostI g) w y 0 n) W).length, .LL (near (fun y => far (lostI g) w y 0 n) W)] := by
 have hfu := fuel_le
 unfold F73_1 L73_3_1.b
 simp only [g_]
 exact L73_3_1_spec hw hs hg hW hl (fun j l363 => (sw (k 0 [.N (gN l363 0), .LL (gLL l363 1)]) (fun _ => none)) j) fuel 0 [] (by omega) (by omega) (by simp) (by simp)
theorem F72_spec {n : Nat} {w g : List Int} {L : List (List Int)} (hw : w.length = n) (hs : n < 2 ^ 60) (hg : g.length < 2 ^ 60) (hL : ∀ y ∈ L, y.length = n) {τ : Type} (k : Nat → LS_ → Option τ) :
  F72 [.L w, .L g, .LL L] k = if L.length = 0 then k 0 [.I 4, .I 0] else if L.length = 1 then k 1 [.I 1, .I ((far (lostI g) w (L.getD 0 []) 0 n : Nat) : Int), .N (L.getD 0 []).length, .L (L.getD 0 [])] else k 2 [.I 2, .I ((far (lostI g) w (L.getD 0 []) 0 n : Nat) : Int), .N (L.getD 0 []).length, .L (L.getD 0 []), .N L.length, .LL L] := by
 unfold F72
 simp only [g_]
 by_cases h0 : L.length = 0
 ·rw [br_of (by rw [h0]; rfl), if_pos h0]
 ·have hm : L.getD 0 [] ∈ L := by
   rw [List.getD_eq_getElem?_getD, List.getElem?_eq_getElem (by omega)]
   exact List.getElem_mem _
  have hl := hL _ hm
  generalize L.getD 0 [] = y at hl ⊢
  rw [br_no (by simp; exact fun h => h0 (by rw [h]; rfl)), if_neg h0, ck_of (by simp; omega), ck_of (by simp; omega), ck_of (by simp), F26_spec (by omega) (by omega) hg, hl]
  simp only [sw_zero, gI_zero]
  by_cases h1 : L.length = 1
  ·rw [br_of (by rw [h1]; rfl), if_pos h1, ck_of (by rw [h1]; rfl), ck_of (by rw [h1]; rfl)]
  ·rw [br_no (by simp; omega), if_neg h1, ck_of (by simp; omega), ck_of (by simp; omega)]
theorem F21_wrong {q n : Nat} {G : List (List Int)} (hc : Cd q n G) {w g : List Int} (hr : isRight q n w g = false) (hw : w.length < 2 ^ 60) (hg : g.length < 2 ^ 60) (r : Int) {τ : Type} (k : Nat → LS_ → Option τ) : F21 [.I q, .I n, .LL G, .L w, .L g, .I r] k = k 0 [.I 1] := by
 unfold F21
 simp only [g_]
 rw [ck_of (by simp), F19_wrong hc hr hw hg]
 simp only [sw_zero, gI_zero]
 rw [br_of (by simp)]
theorem F21_ok {q n : Nat} {G : List (List Int)} (hc : Cd q n G) {w g : List Int} (hr : isRight q n w g = true) (hg : g.length < 2 ^ 60) (r : Int) {τ : Type} (k : Nat → LS_ → Option τ) : F21 [.I q, .I n, .LL G, .L w, .L g, .I r] k =
  if (nearR q n G w g r).length = 0 then k 1 [.I 4, .I 0] else if (nearR q n G w g r).length = 1 then k 2 [.I 1, .I ((far (lostG n g) w ((nearR q n G w g r).getD 0 []) 0 n : Nat) : Int), .N ((nearR q n G w g r).getD 0 []).length, .L ((nearR q n G w g r).getD 0 [])] else k 3 [.I 2, .I ((far (lostG n g) w ((nearR q n G w g r).getD 0 []) 0 n : Nat) : Int), .N ((nearR q n G w g r).getD 0 []).length, .L ((nearR q n G w g r).getD 0 []), .N (nearR q n G w g r).length, .LL (nearR q n G w g r)] := by
 obtain ⟨hw, hp⟩ := right_parts hr
 have n1 := hc.n1
 have hN := nearR_wd hc (w := w) (g := g) (r := r)
 have hl := winR_len hc w g r
 unfold F21
 simp only [g_]
 rw [ck_of (by simp), F19_ok hc hr hg]
 simp only [sw_one, sw_zero, gN_zero, gLL_succ, gLL_zero, Nat.mul_one, List.drop_zero, List.take_length]
 rw [ck_of (by simp), F73_1_spec hw (by omega) hg (winR_wd hc w g r) (by omega), ← nearR_eq hp]
 simp only [sw_zero, gN_zero, gLL_succ, gLL_zero, Nat.mul_one, List.drop_zero, List.take_length]
 rw [ck_of (by simp), F72_spec hw (by omega) hg hN, far_eq hp]
 generalize nearR q n G w g r = L
 split
 ·rfl
 ·split <;> rfl
def T19 {τ : Type} (l : LS_) (k : Nat → LS_ → Option τ) : Option τ := wrapB F19.E (.tup [pM, pI]) l k
def T19.E : Ent P := F19.E.wrap (.tup [pM, pI])
def T21 {τ : Type} (l : LS_) (k : Nat → LS_ → Option τ) : Option τ := wrapB F21.E (.tup [pReply, pI]) l k
def T21.E : Ent P := F21.E.wrap (.tup [pReply, pI])
theorem T19_ok {q n : Nat} {G : List (List Int)} (hc : Cd q n G) {w g : List Int} (hr : isRight q n w g = true) (hg : g.length < 2 ^ 60) (r : Int) {τ : Type} (k : Nat → LS_ → Option τ) : T19 [.I q, .I n, .LL G, .L w, .L g, .I r] k = k 0 [.LL (winR q n G w g r), .I 0] := by
 have h := fun {τ : Type} (κ : Nat → LS_ → Option τ) => F19_ok hc hr hg r κ
 generalize winR q n G w g r = L at h ⊢
 have := wrap_of (e := F19.E) (p := .tup [pM, pI]) (j := 1) (l2 := [.N L.length, .LL L]) (c := (true && (true && true)) && (true && (true && (decide (L.length = (List.take (L.length * 1) (List.drop 0 L)).length) && (true && true))))) (ls' := [.LL (List.take (L.length * 1) (List.drop 0 L)), .I 0]) (by intro τ κ; kernel_rfl) (by simp) (k := k) (fun κ => h κ)
 rw [Nat.mul_one, List.drop_zero, List.take_length] at this
 exact this
theorem T21_wrong {q n : Nat} {G : List (List Int)} (hc : Cd q n G) {w g : List Int} (hr : isRight q n w g = false) (hw : w.length < 2 ^ 60) (hg : g.length < 2 ^ 60) (r : Int) {τ : Type} (k : Nat → LS_ → Option τ) : T21 [.I q, .I n, .LL G, .L w, .L g, .I r] k = k 0 [.I 0, .I 0, .L [], .LL [], .I 1] :=
 wrap_of (e := F21.E) (p := .tup [pReply, pI]) (j := 0) (l2 := [.I 1]) (c := true) (ls' := [.I 0, .I 0, .L [], .LL [], .I 1]) (by intro τ κ; kernel_rfl) rfl (fun κ => F21_wrong hc hr hw hg r κ)
theorem T21_none {ls : LS_} {a b : Int} (h : ∀ {τ : Type} (κ : Nat → LS_ → Option τ), F21 ls κ = κ 1 [.I a, .I b]) {τ : Type} (k : Nat → LS_ → Option τ) : T21 ls k = k 0 [.I a, .I b, .L [], .LL [], .I 0] :=
 wrap_of (e := F21.E) (p := .tup [pReply, pI]) (j := 1) (l2 := [.I a, .I b]) (c := true) (ls' := [.I a, .I b, .L [], .LL [], .I 0]) (by intro τ κ; kernel_rfl) rfl (fun κ => h κ)
theorem T21_one {ls : LS_} {a t : Int} {x : List Int} (h : ∀ {τ : Type} (κ : Nat → LS_ → Option τ), F21 ls κ = κ 2 [.I a, .I t, .N x.length, .L x]) {τ : Type} (k : Nat → LS_ → Option τ) : T21 ls k = k 0 [.I a, .I t, .L x, .LL [], .I 0] :=
 wrap_of (e := F21.E) (p := .tup [pReply, pI]) (j := 2) (l2 := [.I a, .I t, .N x.length, .L x]) (c := (true && (true && (decide (x.length = x.length) && (true && true)))) && (true && true)) (ls' := [.I a, .I t, .L x, .LL [], .I 0]) (by intro τ κ; kernel_rfl) (by simp) (fun κ => h κ)
theorem T21_many {ls : LS_} {a t : Int} {x : List Int} {L : List (List Int)} (h : ∀ {τ : Type} (κ : Nat → LS_ → Option τ), F21 ls κ = κ 3 [.I a, .I t, .N x.length, .L x, .N L.length, .LL L]) {τ : Type} (k : Nat → LS_ → Option τ) : T21 ls k = k 0 [.I a, .I t, .L x, .LL L, .I 0] :=
 wrap_of (e := F21.E) (p := .tup [pReply, pI]) (j := 3) (l2 := [.I a, .I t, .N x.length, .L x, .N L.length, .LL L]) (c := (true && (true && (decide (x.length = x.length) && (decide (L.length = L.length) && true)))) && (true && true)) (ls' := [.I a, .I t, .L x, .LL L, .I 0]) (by intro τ κ; kernel_rfl) (by simp) (fun κ => h κ)
theorem T21_ok {q n : Nat} {G : List (List Int)} (hc : Cd q n G) {w g : List Int} (hr : isRight q n w g = true) (hg60 : g.length < 2 ^ 60) (r : Int) {τ : Type} (k : Nat → LS_ → Option τ) : T21 [.I q, .I n, .LL G, .L w, .L g, .I r] k =
  k 0 [.I (howL (nearR q n G w g r)), .I (rad (fun y => far (lostG n g) w y 0 n) (nearR q n G w g r)), .L ((nearR q n G w g r).getD 0 []), .LL (tied (nearR q n G w g r)), .I 0] := by
 have h := fun {τ : Type} (κ : Nat → LS_ → Option τ) => F21_ok hc hr hg60 r κ
 unfold howL rad tied
 generalize nearR q n G w g r = L at h ⊢
 by_cases h0 : L.length = 0
 ·simp only [if_pos h0] at h ⊢
  rw [show L = [] from List.length_eq_zero_iff.1 h0]
  exact T21_none h k
 ·simp only [if_neg h0] at h ⊢
  by_cases h1 : L.length = 1
  ·simp only [if_pos h1] at h ⊢
   exact T21_one h k
  ·simp only [if_neg h1] at h ⊢
   exact T21_many h k
theorem T18_wrong {q n : Nat} {G : List (List Int)} (hc : Cd q n G) {w g : List Int} (hr : isRight q n w g = false) (hw : w.length < 2 ^ 60) (hg : g.length < 2 ^ 60) (r : Int) {τ : Type} (k : Nat → LS_ → Option τ) : T18 [.I q, .I n, .LL G, .L w, .L g, .I r] k = k 0 [.LL [], .I 1] :=
 T18_err0 (fun {τ} κ => F18_wrong hc.fq n (by have := hc.rows.few; omega) (short2 fun y hy => by
  obtain ⟨i, hi, e⟩ := List.mem_iff_getElem.1 hy
  have := (hc.rows.wd i hi).1
  rw [List.getD_eq_getElem?_getD, List.getElem?_eq_getElem hi] at this
  have n1 := hc.n1
  rw [← e]
  simp at this
  omega) hw hg hr r κ) k
theorem T20_wrong {q n : Nat} {G : List (List Int)} (hc : Cd q n G) {w g : List Int} (hr : isRight q n w g = false) (hw : w.length < 2 ^ 60) (hg : g.length < 2 ^ 60) (r : Int) {τ : Type} (k : Nat → LS_ → Option τ) : T20 [.I q, .I n, .LL G, .L w, .L g, .I r] k = k 0 [.I 0, .I 0, .L [], .LL [], .I 1] :=
 T20_err0 (fun {τ} κ => F20_wrong hc.fq n (by have := hc.rows.few; omega) (short2 fun y hy => by
  obtain ⟨i, hi, e⟩ := List.mem_iff_getElem.1 hy
  have := (hc.rows.wd i hi).1
  rw [List.getD_eq_getElem?_getD, List.getElem?_eq_getElem hi] at this
  have n1 := hc.n1
  rw [← e]
  simp at this
  omega) hw hg hr r κ) k
end
end Go.Proofs.Ytbpjicbpcfkpfaa.Ai
namespace Go.Proofs.Ytbpjicbpcfkpfaa.Ai
open Go Go.RowKit
noncomputable section
variable {τ : Type} (t : Nat) (nx ex : Nat → LS_ → Option τ) (l : LS_) (k κ : Nat → LS_ → Option τ)
def F3.ps : List PV2 := [pRaw34, pI, pNoisy]
def F3.sh : List PA := [(PA.mk (PV3.v pB) [])]
def F3.O : Orc P := ⟨[T16.E, T17.E, T18.E, T19.E, T20.E, T21.E, F22.E, F23.E], [], [], 40⟩
def F3 : Option τ :=
 T16 []
 (fun j A => (sw (br (!(gB A 0))
 (k 0 [.B false])
 (br (gtI (((List.length (gL l 8)) : Nat) : Int) 40)
 (k 0 [.B (gB A 0)])
 (br (gtI (((List.length (gL l 9)) : Nat) : Int) 40)
 (k 0 [.B (gB A 0)])
 (ck (((eqM (List.length (gL l 3)) (List.length (gL l 3))) && ((eqM (List.length (gL l 5)) (List.length (gL l 5))) && true)) && true)
 (T17 [.I (gI l 0), .I (gI l 1), .I (gI l 2), .L (gL l 3), .I (gI l 4), .L (gL l 5), .I (gI l 6)]
 (fun j B => (sw (ck (((eqM (List.length (gLL B 2)) (List.length (gLL B 2))) && true) && (((eqM (List.length (gL B 4)) (List.length (gL B 4))) && ((eqM (List.length (gL B 5)) (List.length (gL B 5))) && true)) && true))
 (T18 [.I (gI B 0), .I (gI B 1), .LL (gLL B 2), .L (gL B 4), .L (gL B 5), .I (gI l 7)]
 (fun j C => (sw (ck (((eqM (List.length (gLL B 2)) (List.length (gLL B 2))) && true) && (((eqM (List.length (gL B 4)) (List.length (gL B 4))) && ((eqM (List.length (gL B 5)) (List.length (gL B 5))) && true)) && true))
 (T19 [.I (gI B 0), .I (gI B 1), .LL (gLL B 2), .L (gL B 4), .L (gL B 5), .I (gI l 7)]
 (fun j D => (sw (ck (((eqM (List.length (gLL B 2)) (List.length (gLL B 2))) && true) && (((eqM (List.length (gL B 4)) (List.length (gL B 4))) && ((eqM (List.length (gL B 5)) (List.length (gL B 5))) && true)) && true))
 (T20 [.I (gI B 0), .I (gI B 1), .LL (gLL B 2), .L (gL B 4), .L (gL B 5), .I (gI l 7)]
 (fun j E => (sw (ck (((eqM (List.length (gLL B 2)) (List.length (gLL B 2))) && true) && (((eqM (List.length (gL B 4)) (List.length (gL B 4))) && ((eqM (List.length (gL B 5)) (List.length (gL B 5))) && true)) && true))
 (T21 [.I (gI B 0), .I (gI B 1), .LL (gLL B 2), .L (gL B 4), .L (gL B 5), .I (gI l 7)]
 (fun j F => (sw (br ((gI C 1) != (gI D 1))
 (k 0 [.B false])
 (br ((gI E 4) != (gI F 4))
 (k 0 [.B false])
 (ck ((eqM (List.length (gLL C 0)) (List.length (gLL C 0))) && ((eqM (List.length (gLL D 0)) (List.length (gLL D 0))) && true))
 (F22 [.LL (gLL C 0), .LL (gLL D 0)]
 (fun j G => (sw (br (!(gB G 0))
 (k 0 [.B false])
 (ck (((eqM (List.length (gL E 2)) (List.length (gL E 2))) && ((eqM (List.length (gLL E 3)) (List.length (gLL E 3))) && true)) && (((eqM (List.length (gL F 2)) (List.length (gL F 2))) && ((eqM (List.length (gLL F 3)) (List.length (gLL F 3))) && true)) && true))
 (F23 [.I (gI E 0), .I (gI E 1), .L (gL E 2), .LL (gLL E 3), .I (gI F 0), .I (gI F 1), .L (gL F 2), .LL (gLL F 3)]
 (fun j H => (sw (br (!(gB H 0))
 (k 0 [.B false])
 (ck (((eqM (List.length (gLL B 2)) (List.length (gLL B 2))) && true) && (((eqM (List.length (gL l 8)) (List.length (gL l 8))) && ((eqM (List.length (gL l 9)) (List.length (gL l 9))) && true)) && true))
 (T20 [.I (gI B 0), .I (gI B 1), .LL (gLL B 2), .L (gL l 8), .L (gL l 9), .I (gI l 7)]
 (fun j M => (sw (ck (((eqM (List.length (gLL B 2)) (List.length (gLL B 2))) && true) && (((eqM (List.length (gL l 8)) (List.length (gL l 8))) && ((eqM (List.length (gL l 9)) (List.length (gL l 9))) && true)) && true))
 (T21 [.I (gI B 0), .I (gI B 1), .LL (gLL B 2), .L (gL l 8), .L (gL l 9), .I (gI l 7)]
 (fun j N => (sw (ck (((eqM (List.length (gLL B 2)) (List.length (gLL B 2))) && true) && (((eqM (List.length (gL l 8)) (List.length (gL l 8))) && ((eqM (List.length (gL l 9)) (List.length (gL l 9))) && true)) && true))
 (T18 [.I (gI B 0), .I (gI B 1), .LL (gLL B 2), .L (gL l 8), .L (gL l 9), .I (gI l 7)]
 (fun j Q => (sw (br ((gI M 4) == (gI N 4))
 (br ((gI Q 1) == (gI N 4))
 (ck (((eqM (List.length (gL M 2)) (List.length (gL M 2))) && ((eqM (List.length (gLL M 3)) (List.length (gLL M 3))) && true)) && (((eqM (List.length (gL N 2)) (List.length (gL N 2))) && ((eqM (List.length (gLL N 3)) (List.length (gLL N 3))) && true)) && true))
 (F23 [.I (gI M 0), .I (gI M 1), .L (gL M 2), .LL (gLL M 3), .I (gI N 0), .I (gI N 1), .L (gL N 2), .LL (gLL N 3)]
 (fun j S => (sw (br (gB S 0)
 (k 0 [.B (gB A 0)])
 (k 0 [.B false]))
 (fun _ => none)) j)))
 (k 0 [.B false]))
 (k 0 [.B false]))
 (fun _ => none)) j)))
 (fun _ => none)) j)))
 (fun _ => none)) j))))
 (fun _ => none)) j))))
 (fun _ => none)) j)))))
 (fun _ => none)) j)))
 (fun _ => none)) j)))
 (fun _ => none)) j)))
 (fun _ => none)) j)))
 (fun _ => none)) j))))))
 (fun _ => none)) j)
theorem F3.eq : FEq F3.O 3 F3.ps F3.sh F3 := by intro τ l κ; kernel_rfl
def F3.E : Ent P := mkF F3.eq
end
end Go.Proofs.Ytbpjicbpcfkpfaa.Ai
namespace Go.Proofs.Ytbpjicbpcfkpfaa.Ai
open Go Ma
noncomputable section
theorem near_len (d : List Int → Nat) : ∀ (L out : List (List Int)), (L.foldl (nearStep d) out).length ≤ out.length + L.length
 | [], out => by simp
 | a :: L, out => by
  refine Nat.le_trans (near_len d L _) ?_
  have : (nearStep d out a).length ≤ out.length + 1 := by
   unfold nearStep
   split
   ·simp
   ·split
    ·simp
    ·split <;> simp
  simp only [List.length_cons]
  omega
theorem nearR_len {q n : Nat} {G : List (List Int)} (hc : Cd q n G) (w g : List Int) (r : Int) : (nearR q n G w g r).length ≤ 256 :=
 Nat.le_trans (near_len _ _ _) (by have := winR_len hc w g r; simpa using this)
theorem tied_len (L : List (List Int)) : (tied L).length ≤ L.length := by
 unfold tied
 split
 ·simp
 ·split <;> simp
theorem tied_sub {L : List (List Int)} {y : List Int} (h : y ∈ tied L) : y ∈ L := by
 unfold tied at h
 split at h
 ·simp at h
 ·split at h
  ·simp at h
  ·exact h
theorem head_len {n : Nat} {L : List (List Int)} (h : ∀ y ∈ L, y.length = n) : (L.getD 0 []).length ≤ n := by
 cases L with
 | nil => simp
 | cons a L => exact Nat.le_of_eq (h a (by simp))
theorem same_refl {q n : Nat} {G : List (List Int)} (hc : Cd q n G) {w g : List Int} {r a b : Int} {τ : Type} (k : Nat → LS_ → Option τ) :
  F23 [.I a, .I b, .L ((nearR q n G w g r).getD 0 []), .LL (tied (nearR q n G w g r)), .I a, .I b, .L ((nearR q n G w g r).getD 0 []), .LL (tied (nearR q n G w g r))] k = k 0 [.B true] := by
 have h1 := head_len (nearR_wd hc (w := w) (g := g) (r := r))
 have h2 := tied_len (nearR q n G w g r)
 have h3 := nearR_len hc w g r
 have n1 := hc.n1
 rw [F23_spec (by omega) (by omega) (short2 fun y hy => by have := nearR_wd hc y (tied_sub hy); omega), decide_eq_true ⟨rfl, rfl, rfl, rfl⟩]
theorem ok_i64 {x : Leaf} (h : okLeaf (.arr (.i .i64)) x) : ∃ l, x = .L l := by
 obtain ⟨l, e, _⟩ := ok_arr h
 exact ⟨l, e⟩
theorem F3_true {ls : LS_} (h : okLs [.int .u8, .int .u8, .int .u8, .arr (.i .u8), .int .u16, .arr (.i .u8), .int .u16, .int .i64, .arr (.i .i64), .arr (.i .i64)] ls) {τ : Type} (k : Nat → LS_ → Option τ) : F3 ls k = k 0 [.B true] := by
 obtain ⟨Q, N, K, L, num, H, gone, l1, rfl, hQ, hN, hK, hL, hu, hH, h1⟩ := raw34 h
 obtain ⟨x, l2, rfl, a1, h2⟩ := okLs_cons h1
 obtain ⟨r, rfl, _⟩ := ok_int a1
 obtain ⟨x, l3, rfl, a2, h3⟩ := okLs_cons h2
 obtain ⟨zw, rfl⟩ := ok_i64 a2
 obtain ⟨x, l4, rfl, a3, h4⟩ := okLs_cons h3
 obtain ⟨zg, rfl⟩ := ok_i64 a3
 obtain rfl := okLs_nil h4
 obtain ⟨q, n, G, s, w, g, hc, hs, hw, hg, hT⟩ := T17_spec gone hQ hN hK hL hu hH
 have C : Cs q n G s w g := ⟨hc, hs, hw, hg⟩
 have n1 := hc.n1
 have hl := winR_len hc w g r
 unfold F3
 rw [T16_spec]
 simp only [g_, sw_zero]
 rw [br_no (b := !true) rfl]
 by_cases b1 : (zw.length : Int) > 40
 ·rw [br_of (by simpa using b1)]
 rw [br_no (by simpa using b1)]
 by_cases b2 : (zg.length : Int) > 40
 ·rw [br_of (by simpa using b2)]
 rw [br_no (by simpa using b2), ck_of (by simp), hT]
 simp only [g_, sw_zero]
 rw [ck_of (by simp), T18_ok hc C.right C.gs]
 simp only [sw_zero]
 rw [ck_of (by simp), T19_ok hc C.right C.gs]
 simp only [sw_zero]
 rw [ck_of (by simp), T20_ok hc C.right C.gs]
 simp only [sw_zero]
 rw [ck_of (by simp), T21_ok hc C.right C.gs]
 simp only [g_, sw_zero]
 rw [br_no (by simp), br_no (by simp), ck_of (by simp), F22_spec _ _ _ (by omega) (short2 fun y hy => by have := winR_wd hc w g r y hy; omega), decide_eq_true rfl]
 simp only [sw_zero, gB_zero]
 rw [br_no (b := !true) rfl, ck_of (by simp), same_refl hc]
 simp only [sw_zero, gB_zero]
 rw [br_no (b := !true) rfl, ck_of (by simp)]
 by_cases hr : isRight q n zw zg = true
 ·rw [T20_ok hc hr (by omega)]
  simp only [sw_zero]
  rw [ck_of (by simp), T21_ok hc hr (by omega)]
  simp only [sw_zero]
  rw [ck_of (by simp), T18_ok hc hr (by omega)]
  simp only [g_, sw_zero]
  rw [br_of (by simp), br_of (by simp), ck_of (by simp), same_refl hc]
  rfl
 ·have hr := Bool.eq_false_iff.2 hr
  rw [T20_wrong hc hr (by omega) (by omega)]
  simp only [sw_zero]
  rw [ck_of (by simp), T21_wrong hc hr (by omega) (by omega)]
  simp only [sw_zero]
  rw [ck_of (by simp), T18_wrong hc hr (by omega) (by omega)]
  simp only [g_, sw_zero]
  rw [br_of (by simp), br_of (by simp), ck_of (by simp), F23_spec (by simp) (by simp) (by simp), decide_eq_true (by simp)]
  rfl
theorem law3 (ls : LS_) (h : okLs ([PV2.agg [.int .u8, .int .u8, .int .u8, .arr (.i .u8), .int .u16, .arr (.i .u8), .int .u16], PV2.v (.int .i64), PV2.agg [.arr (.i .i64), .arr (.i .i64)]].flatMap cells2) ls) : CS P 3 (fL2 ls [PV2.agg [.int .u8, .int .u8, .int .u8, .arr (.i .u8), .int .u16, .arr (.i .u8), .int .u16], PV2.v (.int .i64), PV2.agg [.arr (.i .i64), .arr (.i .i64)]] 0) ⟨.bool true, []⟩ :=
 F_ok F3.eq ((F3_true h _).trans (by kernel_rfl))
end
end Go.Proofs.Ytbpjicbpcfkpfaa.Ai
