/-
Part 6 of 6 of the texts for one claim: P26 P27.
-/
import Derived.Test.YtbpjicbpcfkpfaaS5
set_option linter.unusedVariables false
set_option linter.unusedSimpArgs false
namespace Go.Proofs.Ytbpjicbpcfkpfaa.Ai
open Go Ma
noncomputable section
theorem near_len (d : List Int → Nat) : ∀ (L out : List (List Int)), (L.foldl (nearStep d) out).length ≤ out.length + L.length
 | [], out => by simp
 | a :: L, out => by
  refine Nat.le_trans (near_len d L _) ?_
  have : (nearStep d out a).length ≤ out.length + 1 := by
   unfold nearStep
   split
   ·simp
   ·split
    ·simp
    ·split <;> simp
  simp only [List.length_cons]
  omega
theorem nearR_len {q n : Nat} {G : List (List Int)} (hc : Cd q n G) (w g : List Int) (r : Int) : (nearR q n G w g r).length ≤ 256 :=
 Nat.le_trans (near_len _ _ _) (by have := winR_len hc w g r; simpa using this)
theorem tied_len (L : List (List Int)) : (tied L).length ≤ L.length := by
 unfold tied
 split
 ·simp
 ·split <;> simp
theorem tied_sub {L : List (List Int)} {y : List Int} (h : y ∈ tied L) : y ∈ L := by
 unfold tied at h
 split at h
 ·simp at h
 ·split at h
  ·simp at h
  ·exact h
theorem head_len {n : Nat} {L : List (List Int)} (h : ∀ y ∈ L, y.length = n) : (L.getD 0 []).length ≤ n := by
 cases L with
 | nil => simp
 | cons a L => exact Nat.le_of_eq (h a (by simp))
theorem same_refl {q n : Nat} {G : List (List Int)} (hc : Cd q n G) {w g : List Int} {r a b : Int} {τ : Type} (k : Nat → LS_ → Option τ) :
  F23 [.I a, .I b, .L ((nearR q n G w g r).getD 0 []), .LL (tied (nearR q n G w g r)), .I a, .I b, .L ((nearR q n G w g r).getD 0 []), .LL (tied (nearR q n G w g r))] k = k 0 [.B true] := by
 have h1 := head_len (nearR_wd hc (w := w) (g := g) (r := r))
 have h2 := tied_len (nearR q n G w g r)
 have h3 := nearR_len hc w g r
 have n1 := hc.n1
 rw [F23_spec (by omega) (by omega) (short2 fun y hy => by have := nearR_wd hc y (tied_sub hy); omega), decide_eq_true ⟨rfl, rfl, rfl, rfl⟩]
theorem L5_9_spec {q n : Nat} {G : List (List Int)} {s w g : List Int} (h : Cs q n G s w g) {W : List (List Int)} (hW : ∀ y ∈ W, Wd q n y) (hWl : W.length < 2 ^ 60) (R E how t : Int) (C : List Int) (L : List (List Int)) {τ : Type} (κ : Nat → LS_ → Option τ) : ∀ (f i m : Nat), i ≤ W.length → W.length < f + i →
  runE L5_9 f κ 0 [.I R, .B true, .N W.length, .LL W, .I 0, .I m, .I i, .I q, .I n, .N G.length, .LL G, .N s.length, .L s, .N w.length, .L w, .N g.length, .L g, .I E, .I how, .I t, .N C.length, .L C, .N L.length, .LL L]
   = κ 0 [.I R, .B true, .N W.length, .LL W, .I 0, .I ((mn (fun y => far (lostI g) w y 0 n) (W.drop i) m : Nat) : Int), .I q, .I n, .N G.length, .LL G, .N s.length, .L s, .N w.length, .L w, .N g.length, .L g, .I E, .I how, .I t, .N C.length, .L C, .N L.length, .LL L]
 | 0, i, m, h2, h3 => by omega
 | f + 1, i, m, h2, h3 => by
  have n1 := h.cd.n1
  have hgs := h.up.1
  have wl := h.wd.1
  rw [runE_succ]
  show L5_9.s0 _ _ _ = _
  unfold L5_9.s0
  simp only [gI_zero, gI_succ, gN_zero, gN_succ, gL_zero, gL_succ, gLL_zero, gLL_succ, gB_zero, gB_succ, Int.toNat_natCast, Nat.mul_one]
  by_cases hj : i < W.length
  ·have hy : W.getD i [] ∈ W := by
    rw [List.getD_eq_getElem?_getD, List.getElem?_eq_getElem hj]
    exact List.getElem_mem hj
   have yl := (hW _ hy).1
   rw [drop_cons [] hj]
   generalize W.getD i [] = y at yl ⊢
   rw [br_of (by simp; omega), ck_of (by simp; omega), ck_of (by simp; omega), ck_of (by simp), F26_spec (by omega) (by omega) (by omega), yl]
   simp only [sw_zero, gI_zero]
   rw [wsucc (j := i) (by omega), show min ((m : Nat) : Int) ((far (lostI g) w y 0 n : Nat) : Int) = ((min m (far (lostI g) w y 0 n) : Nat) : Int) by omega]
   exact L5_9_spec h hW hWl R E how t C L κ f (i + 1) (min m (far (lostI g) w y 0 n)) (by omega) (by omega)
  ·rw [List.drop_eq_nil_of_le (show W.length ≤ i by omega), br_no (by simp; omega)]
   rfl
theorem L5_13_spec {q n : Nat} {G : List (List Int)} {s w g : List Int} (h : Cs q n G s w g) {W : List (List Int)} (hW : ∀ y ∈ W, Wd q n y) (hWl : W.length < 2 ^ 60) (R E t : Int) {A L : List (List Int)} {C : List Int} {how : Int} (hA : A.length < 2 ^ 60) (hAw : ∀ y ∈ A, y.length = n) (hC : C = A.getD 0 []) (hL : how = 2 → L = A) (m : Nat) {τ : Type} (κ : Nat → LS_ → Option τ) : ∀ (f i c : Nat), i ≤ W.length → W.length < f + i → c ≤ A.length →
  A.drop c = (W.drop i).filter (fun y => far (lostI g) w y 0 n == m) →
  runE L5_13 f κ 0 [.I R, .B true, .N W.length, .LL W, .I c, .I m, .I i, .I q, .I n, .N G.length, .LL G, .N s.length, .L s, .N w.length, .L w, .N g.length, .L g, .I E, .I how, .I t, .N C.length, .L C, .N L.length, .LL L]
   = κ 1 [.I R, .B true, .I A.length, .I m, .I q, .I n, .N G.length, .LL G, .N s.length, .L s, .N w.length, .L w, .N g.length, .L g, .I E, .I how, .I t, .N C.length, .L C, .N L.length, .LL L]
 | 0, i, c, h2, h3, h4, e1 => by omega
 | f + 1, i, c, h2, h3, h4, e1 => by
  have n1 := h.cd.n1
  have hgs := h.up.1
  have wl := h.wd.1
  rw [runE_succ]
  show L5_13.s0 _ _ _ = _
  unfold L5_13.s0
  simp only [gI_zero, gI_succ, gN_zero, gN_succ, gL_zero, gL_succ, gLL_zero, gLL_succ, gB_zero, gB_succ, Int.toNat_natCast, Nat.mul_one]
  by_cases hj : i < W.length
  ·have hy : W.getD i [] ∈ W := by
    rw [List.getD_eq_getElem?_getD, List.getElem?_eq_getElem hj]
    exact List.getElem_mem hj
   have yl := (hW _ hy).1
   rw [drop_cons [] hj, List.filter_cons] at e1
   generalize W.getD i [] = y at yl e1 ⊢
   rw [br_of (by simp; omega), ck_of (by simp; omega), ck_of (by simp; omega), ck_of (by simp), F26_spec (by omega) (by omega) (by omega), yl]
   simp only [sw_zero, gI_zero]
   by_cases hd : far (lostI g) w y 0 n = m
   ·rw [if_pos (by simpa using hd)] at e1
    have hal : c < A.length := by
     rcases Nat.lt_or_ge c A.length with q | q
     ·exact q
     ·rw [List.drop_eq_nil_of_le q] at e1; cases e1
    rw [drop_cons [] hal] at e1
    injection e1 with e3 e4
    have ih := L5_13_spec h hW hWl R E t hA hAw hC hL m κ f (i + 1) (c + 1) (by omega) (by omega) (by omega) e4
    rw [br_of (by rw [hd]; simp), wsucc (j := c) (by omega), wsucc (j := i) (by omega)]
    have key : ∀ (X : Option τ), br (how == 2) (br (ltI ((L.length : Nat) : Int) ((c + 1 : Nat) : Int)) X
      (ck (((leI (0 : Int) (wr .i64 (((c + 1 : Nat) : Int) - 1))) && (ltI (wr .i64 (((c + 1 : Nat) : Int) - 1)) ((L.length : Nat) : Int))) && true)
      (ck (ltN (Int.toNat (wr .i64 (((c + 1 : Nat) : Int) - 1))) L.length)
      (ck (((leI (0 : Int) ((i : Nat) : Int)) && (ltI ((i : Nat) : Int) ((W.length : Nat) : Int))) && true)
      (ck (ltN i W.length)
      (ck ((eqM (List.length (List.getD L (Int.toNat (wr .i64 (((c + 1 : Nat) : Int) - 1))) [])) (List.length (List.getD L (Int.toNat (wr .i64 (((c + 1 : Nat) : Int) - 1))) []))) && ((eqM n n) && true))
      (F27 [.L (List.getD L (Int.toNat (wr .i64 (((c + 1 : Nat) : Int) - 1))) []), .L y]
      (fun j l22 => (sw (br (!(gB l22 0)) X (runE L5_13 f κ 0 [.I R, .B true, .N W.length, .LL W, .I ((c + 1 : Nat) : Int), .I m, .I ((i + 1 : Nat) : Int), .I q, .I n, .N G.length, .LL G, .N s.length, .L s, .N w.length, .L w, .N g.length, .L g, .I E, .I how, .I t, .N C.length, .L C, .N L.length, .LL L])) (fun _ => none)) j))))))))
      (runE L5_13 f κ 0 [.I R, .B true, .N W.length, .LL W, .I ((c + 1 : Nat) : Int), .I m, .I ((i + 1 : Nat) : Int), .I q, .I n, .N G.length, .LL G, .N s.length, .L s, .N w.length, .L w, .N g.length, .L g, .I E, .I how, .I t, .N C.length, .L C, .N L.length, .LL L])
      = κ 1 [.I R, .B true, .I A.length, .I m, .I q, .I n, .N G.length, .LL G, .N s.length, .L s, .N w.length, .L w, .N g.length, .L g, .I E, .I how, .I t, .N C.length, .L C, .N L.length, .LL L] := by
     intro X
     by_cases h5 : how = 2
     ·have hLA := hL h5
      have e5 : wr .i64 (((c + 1 : Nat) : Int) - 1) = ((c : Nat) : Int) := by rw [wr64 (by omega) (by omega)]; omega
      rw [br_of (by simpa using h5), br_no (by rw [hLA]; simp only [ltI_no]; omega), e5, Int.toNat_natCast, hLA, e3, ck_of (by simp; omega), ck_of (by simp; omega), ck_of (by simp; omega), ck_of (by simp; omega), ck_of (by simp), F27_spec _ _ _ (by omega), decide_eq_true rfl]
      simp only [sw_zero, gB_zero]
      rw [br_no (b := !true) rfl]
      rw [hLA] at ih
      exact ih
     ·rw [br_no (by simpa using h5)]
      exact ih
    by_cases hc1 : c = 0
    ·subst hc1
     have hCy : C = y := by rw [hC, e3]
     rw [br_of (by simp), ck_of (by simp; omega), ck_of (by simp; omega), ck_of (by simp), hCy, F27_spec _ _ _ (by omega), decide_eq_true rfl]
     simp only [sw_zero, gB_zero]
     rw [br_no (b := !true) rfl]
     rw [hCy] at key
     exact key _
    ·rw [br_no (by simp; omega)]
     exact key _
   ·rw [if_neg (by simpa using hd)] at e1
    rw [br_no (by simp; omega), wsucc (j := i) (by omega)]
    exact L5_13_spec h hW hWl R E t hA hAw hC hL m κ f (i + 1) c (by omega) (by omega) (by omega) e1
  ·rw [List.drop_eq_nil_of_le (show W.length ≤ i by omega)] at e1
   have : c = A.length := by
    have := congrArg List.length e1
    simp at this
    omega
   subst this
   rw [br_no (by simp; omega)]
section
variable {q n : Nat} {G : List (List Int)} {s w g : List Int}
def lea (q n : Nat) (G : List (List Int)) (w g : List Int) : Nat := mn (fun y => far (lostI g) w y 0 n) (words q (fadd q) (fmul q) G (List.replicate n 0)) n
theorem lea_all : ∀ y ∈ words q (fadd q) (fmul q) G (List.replicate n 0), lea q n G w g ≤ far (lostI g) w y 0 n := mn_all _ _ _
theorem lea_some (h : Cs q n G s w g) : ∃ y ∈ words q (fadd q) (fmul q) G (List.replicate n 0), far (lostI g) w y 0 n = lea q n G w g := by
 rcases mn_some (fun y => far (lostI g) w y 0 n) (words q (fadd q) (fmul q) G (List.replicate n 0)) n with e | e
 ·refine ⟨s, h.sent, ?_⟩
  have h1 := far_le (lostI g) w s 0 n
  have h2 := lea_all (q := q) (n := n) (G := G) (w := w) (g := g) s h.sent
  unfold lea at h2 ⊢
  omega
 ·exact e
theorem nearR_ge (h : Cs q n G s w g) {k : Int} (hk : ((lea q n G w g : Nat) : Int) ≤ k) : nearR q n G w g k = (words q (fadd q) (fmul q) G (List.replicate n 0)).filter fun y => far (lostI g) w y 0 n == lea q n G w g := by
 rw [nearR_eq h.up.pos, winR_eq h.up.pos, near_min (m := lea q n G w g), filter_filter_le (fun y => far (lostI g) w y 0 n) _ k hk]
 ·obtain ⟨y, hy, e⟩ := lea_some h
  exact ⟨y, List.mem_filter.2 ⟨hy, by rw [e]; simpa using hk⟩, e⟩
 ·exact fun y hy => lea_all y (List.mem_filter.1 hy).1
theorem nearR_lt (h : Cs q n G s w g) {k : Int} (hk : k < ((lea q n G w g : Nat) : Int)) : nearR q n G w g k = [] := by
 have e : winR q n G w g k = [] := by
  rw [winR_eq h.up.pos]
  refine List.filter_eq_nil_iff.2 fun y hy => ?_
  have := lea_all (q := q) (n := n) (G := G) (w := w) (g := g) y hy
  simp
  omega
 unfold nearR
 rw [e]
 rfl
theorem nearR_pos (h : Cs q n G s w g) {k : Int} (hk : ((lea q n G w g : Nat) : Int) ≤ k) : nearR q n G w g k ≠ [] ∧ ∀ y ∈ nearR q n G w g k, far (lostG n g) w y 0 n = lea q n G w g := by
 rw [nearR_ge h hk]
 refine ⟨fun e => ?_, fun y hy => ?_⟩
 ·obtain ⟨y, hy, e2⟩ := lea_some h
  have : y ∈ (words q (fadd q) (fmul q) G (List.replicate n 0)).filter fun y => far (lostI g) w y 0 n == lea q n G w g := List.mem_filter.2 ⟨hy, by simpa using e2⟩
  rw [e] at this
  simp at this
 ·rw [far_eq h.up.pos]
  simpa using (List.mem_filter.1 hy).2
end
theorem F5_true {ls : LS_} (h : okLs [.int .u8, .int .u8, .int .u8, .arr (.i .u8), .int .u16, .arr (.i .u8), .int .u16, .int .u8] ls) {τ : Type} (k : Nat → LS_ → Option τ) : F5 ls k = k 0 [.B true] := by
 have hfu := fuel_le
 obtain ⟨Q, N, K, L, num, H, gone, l1, rfl, hQ, hN, hK, hL, hu, hH, h1⟩ := raw34 h
 obtain ⟨x, l2, rfl, hr0, h2⟩ := okLs_cons h1
 obtain ⟨R, rfl, hr1⟩ := ok_int hr0
 have hr2 := wf_u8 hr1
 obtain rfl := okLs_nil h2
 obtain ⟨q, n, G, s, w, g, hc, hs, hw, hg, hT⟩ := T17_spec gone hQ hN hK hL hu hH
 have C : Cs q n G s w g := ⟨hc, hs, hw, hg⟩
 have hr := tmod_in (a := R) (b := 12) hr2.1 (by omega)
 have hcnt := C.cnt
 have hW := C.ws
 have n1 := hc.n1
 have ln := mn_le (fun y => far (lostI g) w y 0 n) (words q (fadd q) (fmul q) G (List.replicate n 0)) n
 have hle : ((lea q n G w g : Nat) : Int) ≤ (n : Int) := by unfold lea; omega
 obtain ⟨hne, hfar⟩ := nearR_pos C hle
 have hA := nearR_len hc w g n
 have hAw := nearR_wd hc (w := w) (g := g) (r := n)
 unfold F5
 rw [T16_spec]
 simp only [sw_zero, gI_zero, gI_succ, gL_zero, gL_succ, gB_zero]
 rw [br_no (b := !true) rfl, ck_of (by simp), hT]
 simp only [sw_zero, gI_zero, gI_succ, gL_zero, gL_succ, gLL_zero, gLL_succ]
 rw [ck_of (by simp), U28_ok C]
 simp only [sw_zero, gI_zero, gI_succ, gL_zero, gL_succ, gLL_zero, gLL_succ]
 rw [ck_of (by simp), T25_spec hc.fq hc.rows (by have := hc.count; omega)]
 simp only [sw_zero, gLL_zero]
 unfold L5_9.b
 refine (L5_9_spec C hW (by omega) R ((far (lostI g) w s 0 n : Nat) : Int) (howL (nearR q n G w g n)) (rad (fun y => far (lostG n g) w y 0 n) (nearR q n G w g n)) ((nearR q n G w g n).getD 0 []) (tied (nearR q n G w g n)) _ fuel 0 n (by omega) (by omega)).trans ?_
 rw [List.drop_zero, show mn (fun y => far (lostI g) w y 0 n) (words q (fadd q) (fmul q) G (List.replicate n 0)) n = lea q n G w g from rfl]
 simp only [sw_zero, gI_zero, gI_succ, gN_zero, gN_succ, gL_zero, gL_succ, gLL_zero, gLL_succ, gB_zero, gB_succ]
 unfold L5_13.b
 refine (L5_13_spec C hW (by omega) R ((far (lostI g) w s 0 n : Nat) : Int) (rad (fun y => far (lostG n g) w y 0 n) (nearR q n G w g n)) (A := nearR q n G w g n) (L := tied (nearR q n G w g n)) (C := (nearR q n G w g n).getD 0 []) (how := howL (nearR q n G w g n)) (by omega) hAw rfl (fun e => by
  unfold howL at e
  unfold tied
  split
  ·rename_i h0; rw [if_pos h0] at e; omega
  ·rename_i h0
   rw [if_neg h0] at e
   split
   ·rename_i h1; rw [if_pos h1] at e; omega
   ·rfl) (lea q n G w g) _ fuel 0 0 (by omega) (by omega) (by omega) (by rw [List.drop_zero, List.drop_zero]; exact nearR_ge C hle)).trans ?_
 have hrad : rad (fun y => far (lostG n g) w y 0 n) (nearR q n G w g n) = ((lea q n G w g : Nat) : Int) := by
  unfold rad
  have h0 : (nearR q n G w g n).length ≠ 0 := fun e => hne (List.length_eq_zero_iff.1 e)
  rw [if_neg h0]
  have hm : (nearR q n G w g n).getD 0 [] ∈ nearR q n G w g n := by
   rw [List.getD_eq_getElem?_getD, List.getElem?_eq_getElem (by omega)]
   exact List.getElem_mem _
  exact congrArg (fun z : Nat => (z : Int)) (hfar _ hm)
 have h0 : (nearR q n G w g n).length ≠ 0 := fun e => hne (List.length_eq_zero_iff.1 e)
 simp only [sw_succ, sw_zero, gI_zero, gI_succ, gN_zero, gN_succ, gL_zero, gL_succ, gLL_zero, gLL_succ, gB_zero, gB_succ]
 rw [wr64 (n := R.tmod 12) (by omega) (by omega), br_no (by rw [hrad]; simp)]
 unfold T23
 by_cases h1 : (nearR q n G w g n).length = 1
 ·have eh : howL (nearR q n G w g n) = 1 := by unfold howL; rw [if_neg h0, if_pos h1]
  have et : tied (nearR q n G w g n) = [] := by unfold tied; rw [if_neg h0, if_pos h1]
  rw [br_no (by rw [eh, h1]; rfl), br_no (by rw [eh, h1]; rfl), br_no (by rw [h1]; rfl), br_of (by rw [h1]; rfl), br_no (by rw [et]; rfl)]
  by_cases hk : R.tmod 12 < ((lea q n G w g : Nat) : Int)
  ·rw [br_of (by simpa using hk), ck_of (by simp), U28_ok C, nearR_lt C hk]
   simp only [sw_zero, gI_zero, gI_succ, gL_zero, gL_succ, gLL_zero, gLL_succ]
   rw [ck_of (by simp), F23_spec (by simp) (by simp [tied]) (by simp [tied]), decide_eq_true (by simp [howL, rad, tied])]
   rfl
  ·rw [br_no (by simp only [ltI_no]; exact hk), ck_of (by simp), U28_ok C, show nearR q n G w g (R.tmod 12) = nearR q n G w g n by rw [nearR_ge C (by omega), nearR_ge C (by omega)]]
   simp only [sw_zero, gI_zero, gI_succ, gL_zero, gL_succ, gLL_zero, gLL_succ]
   rw [ck_of (by simp), same_refl hc]
   rfl
 ·have eh : howL (nearR q n G w g n) = 2 := by unfold howL; rw [if_neg h0, if_neg h1]
  have et : tied (nearR q n G w g n) = nearR q n G w g n := by unfold tied; rw [if_neg h0, if_neg h1]
  rw [br_no (by rw [eh]; simp; omega), br_no (by rw [eh]; simp; omega), br_of (by simp; omega), br_no (by rw [et]; simp), br_no (by simp; omega)]
  by_cases hk : R.tmod 12 < ((lea q n G w g : Nat) : Int)
  ·rw [br_of (by simpa using hk), ck_of (by simp), U28_ok C, nearR_lt C hk]
   simp only [sw_zero, gI_zero, gI_succ, gL_zero, gL_succ, gLL_zero, gLL_succ]
   rw [ck_of (by simp), F23_spec (by simp) (by simp [tied]) (by simp [tied]), decide_eq_true (by simp [howL, rad, tied])]
   rfl
  ·rw [br_no (by simp only [ltI_no]; exact hk), ck_of (by simp), U28_ok C, show nearR q n G w g (R.tmod 12) = nearR q n G w g n by rw [nearR_ge C (by omega), nearR_ge C (by omega)]]
   simp only [sw_zero, gI_zero, gI_succ, gL_zero, gL_succ, gLL_zero, gLL_succ]
   rw [ck_of (by simp), same_refl hc]
   rfl
theorem law5 (ls : LS_) (h : okLs ([PV2.agg [.int .u8, .int .u8, .int .u8, .arr (.i .u8), .int .u16, .arr (.i .u8), .int .u16], PV2.v (.int .u8)].flatMap cells2) ls) : CS P 5 (fL2 ls [PV2.agg [.int .u8, .int .u8, .int .u8, .arr (.i .u8), .int .u16, .arr (.i .u8), .int .u16], PV2.v (.int .u8)] 0) ⟨.bool true, []⟩ :=
 F_ok F5.eq ((F5_true h _).trans (by kernel_rfl))
end
end Go.Proofs.Ytbpjicbpcfkpfaa.Ai
