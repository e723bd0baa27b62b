/-
Part 6 of 6 of the texts for one claim: P23 Xf4 P24.
-/
import Derived.Test.YtbpjicbpcfkpfaaQ5
set_option linter.unusedVariables false
set_option linter.unusedSimpArgs false
namespace Go.Proofs.Ytbpjicbpcfkpfaa.Ai
open Go Ma
noncomputable section
theorem okLs_cons {p : PV1} {ps : List PV1} {ls : LS_} (h : okLs (p :: ps) ls) : ∃ x ls', ls = x :: ls' ∧ okLeaf p x ∧ okLs ps ls' := by
 cases ls with
 | nil => have := h.1; simp at this
 | cons x ls' =>
  refine ⟨x, ls', rfl, h.2 0 (by simp), by have := h.1; simpa using this, fun j hj => ?_⟩
  exact h.2 (j + 1) (by simpa using hj)
theorem okLs_nil {ls : LS_} (h : okLs [] ls) : ls = [] := List.length_eq_zero_iff.1 h.1
theorem ok_int {k : IntKind} {x : Leaf} (h : okLeaf (.int k) x) : ∃ n, x = .I n ∧ wfI k n := by
 unfold okLeaf at h
 split at h
 ·rename_i e; cases e
 ·rename_i k' n e; cases e; exact ⟨n, rfl, h⟩
 ·rename_i e; cases e
 ·rename_i e; cases e
 ·exact h.elim
theorem ok_arr {k : IntKind} {x : Leaf} (h : okLeaf (.arr (.i k)) x) : ∃ l, x = .L l ∧ l.length ≤ maxLen ∧ ∀ n ∈ l, wfI k n := by
 unfold okLeaf at h
 split at h
 ·rename_i e; cases e
 ·rename_i e; cases e
 ·rename_i k' l e; cases e; exact ⟨l, rfl, h.1, h.2⟩
 ·rename_i e; cases e
 ·exact h.elim
theorem wf_u8 {n : Int} (h : wfI .u8 n) : 0 ≤ n ∧ n < 256 := by
 unfold wfI at h
 simp [Lit.wf, IntKind.min, IntKind.max, IntKind.signed, IntKind.bits] at h
 omega
theorem wf_u16 {n : Int} (h : wfI .u16 n) : 0 ≤ n ∧ n < 65536 := by
 unfold wfI at h
 simp [Lit.wf, IntKind.min, IntKind.max, IntKind.signed, IntKind.bits] at h
 omega
theorem ok_bytes {x : Leaf} (h : okLeaf (.arr (.i .u8)) x) : ∃ l, x = .L l ∧ Bytes l := by
 obtain ⟨l, e, h1, h2⟩ := ok_arr h
 refine ⟨l, e, by unfold maxLen at h1; omega, fun j => ?_⟩
 by_cases hj : j < l.length
 ·rw [List.getD_eq_getElem?_getD, List.getElem?_eq_getElem hj]
  exact wf_u8 (h2 _ (List.getElem_mem hj))
 ·rw [List.getD_eq_getElem?_getD, List.getElem?_eq_none (by omega)]
  decide
theorem raw34 {ps : List PV1} {ls : LS_} (h : okLs (.int .u8 :: .int .u8 :: .int .u8 :: .arr (.i .u8) :: .int .u16 :: .arr (.i .u8) :: .int .u16 :: ps) ls) :
  ∃ Q N K L num H gone ls', ls = .I Q :: .I N :: .I K :: .L L :: .I num :: .L H :: .I gone :: ls' ∧ (0 ≤ Q ∧ Q < 256) ∧ (0 ≤ N ∧ N < 256) ∧ (0 ≤ K ∧ K < 256) ∧ Bytes L ∧ (0 ≤ num ∧ num < 65536) ∧ Bytes H ∧ okLs ps ls' := by
 obtain ⟨x0, l0, rfl, a0, g0⟩ := okLs_cons h
 obtain ⟨Q, rfl, h1⟩ := ok_int a0
 obtain ⟨x1, l1, rfl, a1, g1⟩ := okLs_cons g0
 obtain ⟨N, rfl, h2⟩ := ok_int a1
 obtain ⟨x2, l2, rfl, a2, g2⟩ := okLs_cons g1
 obtain ⟨K, rfl, h3⟩ := ok_int a2
 obtain ⟨x3, l3, rfl, a3, g3⟩ := okLs_cons g2
 obtain ⟨L, rfl, h4⟩ := ok_bytes a3
 obtain ⟨x4, l4, rfl, a4, g4⟩ := okLs_cons g3
 obtain ⟨num, rfl, h5⟩ := ok_int a4
 obtain ⟨x5, l5, rfl, a5, g5⟩ := okLs_cons g4
 obtain ⟨H, rfl, h6⟩ := ok_bytes a5
 obtain ⟨x6, l6, rfl, a6, g6⟩ := okLs_cons g5
 obtain ⟨gone, rfl, _⟩ := ok_int a6
 exact ⟨Q, N, K, L, num, H, gone, l6, rfl, wf_u8 h1, wf_u8 h2, wf_u8 h3, h4, wf_u16 h5, h6, g6⟩
structure Cs (q n : Nat) (G : List (List Int)) (s w g : List Int) : Prop where
 cd : Cd q n G
 sent : s ∈ words q (fadd q) (fmul q) G (List.replicate n 0)
 wd : Wd q n w
 up : Up n g
theorem isRight_of {q n : Nat} {w g : List Int} (hw : Wd q n w) (hg : Up n g) : isRight q n w g = true := by
 unfold isRight
 rw [Bool.and_eq_true]
 exact ⟨isWord_iff.2 ⟨by rw [hw.1], fun i _ hi => hw.2 i (by have := hw.1; omega)⟩, hg.gone⟩
theorem Up.pos {n : Nat} {g : List Int} (h : Up n g) : ∀ k, k < g.length → 0 ≤ g.getD k 0 := fun k hk => (h.2 k hk).1
theorem winR_eq {q n : Nat} {G : List (List Int)} {w g : List Int} (hg : ∀ k, k < g.length → 0 ≤ g.getD k 0) (r : Int) :
  winR q n G w g r = (words q (fadd q) (fmul q) G (List.replicate n 0)).filter fun y => decide (((far (lostI g) w y 0 n : Nat) : Int) ≤ r) := by
 unfold winR
 congr 1
 funext y
 rw [far_eq hg]
section
variable {q n : Nat} {G : List (List Int)} {s w g : List Int}
theorem Cs.right (h : Cs q n G s w g) : isRight q n w g = true := isRight_of h.wd h.up
theorem Cs.gs (h : Cs q n G s w g) : g.length < 2 ^ 60 := by have := h.up.1; have := h.cd.n1; omega
theorem Cs.ws (h : Cs q n G s w g) : ∀ y ∈ words q (fadd q) (fmul q) G (List.replicate n 0), Wd q n y := words_wd (fld q h.cd.fq) G _ h.cd.rows.wd (Wd.zeros (q := q) (n := n) (by have := qs_lt h.cd.fq; omega))
theorem Cs.cnt (h : Cs q n G s w g) : (words q (fadd q) (fmul q) G (List.replicate n 0)).length ≤ 256 := by rw [words_len (n := 0) h.cd.fq]; exact h.cd.count
end
theorem cd_c : Cd 2 3 [[1, 1, 1]] where
  fq := by decide
  n0 := by decide
  n1 := by decide
  count := by decide
  form := ⟨fun _ => 0,
    { wd := fun i hi => by
        have : i = 0 := by simpa using hi
        subst this
        refine ⟨rfl, fun j hj => ?_⟩
        rcases (show j = 0 ∨ j = 1 ∨ j = 2 by omega) with rfl | rfl | rfl <;> decide
      lt := fun i hi => by decide
      mono := fun i j hi hj => by simp at hj; omega
      one := fun i hi => by
        have : i = 0 := by simpa using hi
        subst this; rfl
      zero := fun i k hi hk hne => by
        simp at hi hk; omega
      lead := fun i j hi hj => by omega }⟩
theorem cd_two : Cd 2 2 [[1, 1]] where
  fq := by decide
  n0 := by decide
  n1 := by decide
  count := by decide
  form := ⟨fun _ => 0,
    { wd := fun i hi => by
        have : i = 0 := by simpa using hi
        subst this
        refine ⟨rfl, fun j hj => ?_⟩
        rcases (show j = 0 ∨ j = 1 by omega) with rfl | rfl <;> decide
      lt := fun i hi => by decide
      mono := fun i j hi hj => by simp at hj; omega
      one := fun i hi => by
        have : i = 0 := by simpa using hi
        subst this; rfl
      zero := fun i k hi hk hne => by
        simp at hi hk; omega
      lead := fun i j hi hj => by omega }⟩
theorem ex1 {τ : Type} (k : Nat → LS_ → Option τ) : F28 [.I 2, .I 3, .LL [[1, 1, 1]], .L [0, 1, 1], .L [], .I 1] k = k 1 [.I 1, .I 1, .N 3, .L [1, 1, 1], .N 0, .LL []] :=
 (F28_of (fun {τ} κ => T20_ok (q := 2) (n := 3) cd_c (w := [0, 1, 1]) (g := []) (by kernel_rfl) (by decide) 1 κ) k).trans (by kernel_rfl)
theorem ex2 {τ : Type} (k : Nat → LS_ → Option τ) : F28 [.I 2, .I 3, .LL [[1, 1, 1]], .L [0, 1, 1], .L [0, 1], .I 0] k = k 1 [.I 1, .I 0, .N 3, .L [1, 1, 1], .N 0, .LL []] :=
 (F28_of (fun {τ} κ => T20_ok (q := 2) (n := 3) cd_c (w := [0, 1, 1]) (g := [0, 1]) (by kernel_rfl) (by decide) 0 κ) k).trans (by kernel_rfl)
theorem ex3 {τ : Type} (k : Nat → LS_ → Option τ) : F28 [.I 2, .I 2, .LL [[1, 1]], .L [0, 1], .L [], .I 9] k = k 1 [.I 2, .I 1, .N 2, .L [0, 0], .N 2, .LL [[0, 0], [1, 1]]] :=
 (F28_of (fun {τ} κ => T20_ok (q := 2) (n := 2) cd_two (w := [0, 1]) (g := []) (by kernel_rfl) (by decide) 9 κ) k).trans (by kernel_rfl)
theorem ex4 {τ : Type} (k : Nat → LS_ → Option τ) : F28 [.I 2, .I 3, .LL [[1, 1, 1]], .L [0, 1, 1], .L [], .I 0] k = k 1 [.I 4, .I 0, .N 0, .L [], .N 0, .LL []] :=
 (F28_of (fun {τ} κ => T20_ok (q := 2) (n := 3) cd_c (w := [0, 1, 1]) (g := []) (by kernel_rfl) (by decide) 0 κ) k).trans (by kernel_rfl)
theorem ex5 {τ : Type} (k : Nat → LS_ → Option τ) : T18 [.I 2, .I 3, .LL [[1, 1, 1]], .L [0, 1], .L [], .I 1] k = k 0 [.LL [], .I 1] :=
 T18_err0 (fun {τ} κ => F18_wrong (q := 2) (by decide) 3 (by decide) (fun i => by
  rcases i with _ | i
  ·decide
  ·simp) (by decide) (by decide) (by kernel_rfl) 1 κ) k
theorem short2 {L : List (List Int)} (h : ∀ r ∈ L, r.length < 2 ^ 60) : ∀ i, (L.getD i []).length < 2 ^ 60 := fun i => by
 by_cases hi : i < L.length
 ·rw [List.getD_eq_getElem?_getD, List.getElem?_eq_getElem hi]
  exact h _ (List.getElem_mem hi)
 ·rw [List.getD_eq_getElem?_getD, List.getElem?_eq_none (by omega)]
  decide
def T16 {τ : Type} (l : LS_) (k : Nat → LS_ → Option τ) : Option τ := F16 l k
def T16.E : Ent P := F16.E
theorem T16_spec {τ : Type} (k : Nat → LS_ → Option τ) : T16 [] k = k 0 [.B true] := by
 unfold T16 F16 T28 T23
 rw [ex1]
 simp only [sw_succ, sw_zero]
 rw [ex2]
 simp only [sw_succ, sw_zero]
 rw [ex3]
 simp only [sw_succ, sw_zero]
 rw [ex5]
 simp only [sw_succ, sw_zero, gI_zero, gI_succ, gN_zero, gN_succ, gL_zero, gL_succ, gLL_zero, gLL_succ]
 rw [ck_of (by simp), F23_spec (by decide) (by decide) (short2 (by simp)), decide_eq_true (by decide)]
 simp only [sw_succ, sw_zero, gB_zero]
 rw [br_of rfl, ck_of (by simp), F23_spec (by decide) (by decide) (short2 (by simp)), decide_eq_true (by decide)]
 simp only [sw_succ, sw_zero, gB_zero]
 rw [br_of rfl, ck_of (by simp), F23_spec (by decide) (by decide) (short2 (by simp)), decide_eq_true (by decide)]
 simp only [sw_succ, sw_zero, gB_zero]
 rw [br_of rfl, ex4]
 simp only [sw_succ, sw_zero, gI_zero]
 rw [br_of (show ((4 : Int) == 4) = true from rfl)]
 rfl
end
end Go.Proofs.Ytbpjicbpcfkpfaa.Ai
namespace Go.Proofs.Ytbpjicbpcfkpfaa.Ai
open Go Go.RowKit
noncomputable section
variable {τ : Type} (t : Nat) (nx ex : Nat → LS_ → Option τ) (l : LS_) (k κ : Nat → LS_ → Option τ)
def F24.ps : List PV2 := [(PV2.agg [iI, iI, aM]), (PV2.agg [aI, aI]), pI]
def F24.sh : List PA := [(PA.mk (PV3.tup [qM, pB]) [])]
def F24.O : Orc P := ⟨[T18.E], [], [], 40⟩
def F24 : Option τ :=
 ck (((eqM (List.length (gLL l 2)) (List.length (gLL l 2))) && true) && (((eqM (List.length (gL l 3)) (List.length (gL l 3))) && ((eqM (List.length (gL l 4)) (List.length (gL l 4))) && true)) && true))
 (T18 [.I (gI l 0), .I (gI l 1), .LL (gLL l 2), .L (gL l 3), .L (gL l 4), .I (gI l 5)]
 (fun j A => (sw (k 0 [.N (List.length (gLL A 0)), .LL (gLL A 0), .B ((gI A 1) == 0)])
 (fun _ => none)) j))
theorem F24.eq : FEq F24.O 24 F24.ps F24.sh F24 := by intro τ l κ; kernel_rfl
def F24.E : Ent P := mkF F24.eq
def L4_13.H : LHead := ⟨false, true, 0, 16397, 16397, 62960, 25904, 0, [(PS.mk (us 4 (pB :: pB :: (pp 0) :: pI :: qM :: us 1 (qM :: us 1 (qM :: pI :: pI :: pI :: us 90 [])))) [(oG [pI, pI, qM, qR, qR, qR, pI])])], [(Out.ret, (PS.mk (us 4 (pB :: pB :: us 2 (qM :: us 1 (qM :: us 2 (pI :: pI :: us 91 []))))) [])), ((Out.exit 0), (PS.mk (us 4 (pB :: pB :: us 2 (qM :: us 1 (qM :: us 2 (pI :: pI :: us 91 []))))) []))]⟩
def L4_13.O : Orc P := ⟨[F26.E, F27.E], [], [], 40⟩
def L4_13.s0 : Option τ :=
 br (ltI (gI l 11) (gN l 7))
 (ck (((leI 0 (gI l 11)) && (ltI (gI l 11) (gN l 7))) && true)
 (ck (ltN ((Int.toNat (gI l 11)) * 1) (List.length (gLL l 8)))
 (ck (((eqM (gN l 18) (List.length (gL l 19))) && ((eqM (gN l 20) (List.length (gL l 21))) && true)) && ((eqM (List.length (List.getD (gLL l 8) ((Int.toNat (gI l 11)) * 1) [])) (List.length (List.getD (gLL l 8) ((Int.toNat (gI l 11)) * 1) []))) && true))
 (F26 [.L (gL l 19), .L (gL l 21), .L (List.getD (gLL l 8) ((Int.toNat (gI l 11)) * 1) [])]
 (fun j A => (sw (br (leI (gI A 0) (gI l 2))
 (br (geI (gI l 9) (gN l 3))
 (ex 0 [.B false, .B (gB l 1), .N (gN l 3), .LL (gLL l 4), .N (gN l 5), .LL (gLL l 6), .I (gI l 9), .I (gI l 10)])
 (ck (((leI 0 (gI l 9)) && (ltI (gI l 9) (gN l 3))) && true)
 (ck (ltN ((Int.toNat (gI l 9)) * 1) (List.length (gLL l 4)))
 (ck (((leI 0 (gI l 11)) && (ltI (gI l 11) (gN l 7))) && true)
 (ck (ltN ((Int.toNat (gI l 11)) * 1) (List.length (gLL l 8)))
 (ck ((eqM (List.length (List.getD (gLL l 4) ((Int.toNat (gI l 9)) * 1) [])) (List.length (List.getD (gLL l 4) ((Int.toNat (gI l 9)) * 1) []))) && ((eqM (List.length (List.getD (gLL l 8) ((Int.toNat (gI l 11)) * 1) [])) (List.length (List.getD (gLL l 8) ((Int.toNat (gI l 11)) * 1) []))) && true))
 (F27 [.L (List.getD (gLL l 4) ((Int.toNat (gI l 9)) * 1) []), .L (List.getD (gLL l 8) ((Int.toNat (gI l 11)) * 1) [])]
 (fun j B => (sw (br (!(gB B 0))
 (ex 0 [.B false, .B (gB l 1), .N (gN l 3), .LL (gLL l 4), .N (gN l 5), .LL (gLL l 6), .I (gI l 9), .I (gI l 10)])
 (br (leI (gI A 0) (wr .i64 ((gI l 2) + 1)))
 (nx 0 [.B (gB l 0), .B (gB l 1), .I (gI l 2), .N (gN l 3), .LL (gLL l 4), .N (gN l 5), .LL (gLL l 6), .N (gN l 7), .LL (gLL l 8), .I (wr .i64 ((gI l 9) + 1)), .I (wr .i64 ((gI l 10) + 1)), .I (wr .i64 ((gI l 11) + 1)), .I (gI l 12), .I (gI l 13), .N (gN l 14), .LL (gLL l 15), .N (gN l 16), .L (gL l 17), .N (gN l 18), .L (gL l 19), .N (gN l 20), .L (gL l 21), .I (gI l 22)])
 (nx 0 [.B (gB l 0), .B (gB l 1), .I (gI l 2), .N (gN l 3), .LL (gLL l 4), .N (gN l 5), .LL (gLL l 6), .N (gN l 7), .LL (gLL l 8), .I (wr .i64 ((gI l 9) + 1)), .I (gI l 10), .I (wr .i64 ((gI l 11) + 1)), .I (gI l 12), .I (gI l 13), .N (gN l 14), .LL (gLL l 15), .N (gN l 16), .L (gL l 17), .N (gN l 18), .L (gL l 19), .N (gN l 20), .L (gL l 21), .I (gI l 22)])))
 (fun _ => none)) j))))))))
 (br (leI (gI A 0) (wr .i64 ((gI l 2) + 1)))
 (nx 0 [.B (gB l 0), .B (gB l 1), .I (gI l 2), .N (gN l 3), .LL (gLL l 4), .N (gN l 5), .LL (gLL l 6), .N (gN l 7), .LL (gLL l 8), .I (gI l 9), .I (wr .i64 ((gI l 10) + 1)), .I (wr .i64 ((gI l 11) + 1)), .I (gI l 12), .I (gI l 13), .N (gN l 14), .LL (gLL l 15), .N (gN l 16), .L (gL l 17), .N (gN l 18), .L (gL l 19), .N (gN l 20), .L (gL l 21), .I (gI l 22)])
 (nx 0 [.B (gB l 0), .B (gB l 1), .I (gI l 2), .N (gN l 3), .LL (gLL l 4), .N (gN l 5), .LL (gLL l 6), .N (gN l 7), .LL (gLL l 8), .I (gI l 9), .I (gI l 10), .I (wr .i64 ((gI l 11) + 1)), .I (gI l 12), .I (gI l 13), .N (gN l 14), .LL (gLL l 15), .N (gN l 16), .L (gL l 17), .N (gN l 18), .L (gL l 19), .N (gN l 20), .L (gL l 21), .I (gI l 22)])))
 (fun _ => none)) j)))))
 (ex 1 [.B (gB l 0), .B (gB l 1), .N (gN l 3), .LL (gLL l 4), .N (gN l 5), .LL (gLL l 6), .I (gI l 9), .I (gI l 10)])
theorem L4_13.e0 : LEq L4_13.O L4_13.H 0 L4_13.s0 := by intro τ next κ l; kernel_rfl
def L4_13 : LStep P Cf := LStep.mk1 (by decide) L4_13.e0
def L4_13.b : Option τ := runE L4_13 fuel κ t l
def L4_13.E : LEnt P := LStep.E L4_13
def F4.ps : List PV2 := [pRaw34, (pK IntKind.u8)]
def F4.sh : List PA := [(PA.mk (PV3.v pB) [])]
def F4.O : Orc P := ⟨[T16.E, T17.E, F24.E, T25.E], [L4_13.E], [], 40⟩
def F4 : Option τ :=
 T16 []
 (fun j A => (sw (br (!(gB A 0))
 (k 0 [.B false])
 (ck (((eqM (List.length (gL l 3)) (List.length (gL l 3))) && ((eqM (List.length (gL l 5)) (List.length (gL l 5))) && true)) && true)
 (T17 [.I (gI l 0), .I (gI l 1), .I (gI l 2), .L (gL l 3), .I (gI l 4), .L (gL l 5), .I (gI l 6)]
 (fun j B => (sw (ck (((eqM (List.length (gLL B 2)) (List.length (gLL B 2))) && true) && (((eqM (List.length (gL B 4)) (List.length (gL B 4))) && ((eqM (List.length (gL B 5)) (List.length (gL B 5))) && true)) && true))
 (F24 [.I (gI B 0), .I (gI B 1), .LL (gLL B 2), .L (gL B 4), .L (gL B 5), .I (wr .i64 (Int.tmod (gI l 7) 12))]
 (fun j C => (sw (ck (((eqM (List.length (gLL B 2)) (List.length (gLL B 2))) && true) && (((eqM (List.length (gL B 4)) (List.length (gL B 4))) && ((eqM (List.length (gL B 5)) (List.length (gL B 5))) && true)) && true))
 (F24 [.I (gI B 0), .I (gI B 1), .LL (gLL B 2), .L (gL B 4), .L (gL B 5), .I (wr .i64 ((wr .i64 (Int.tmod (gI l 7) 12)) + 1))]
 (fun j D => (sw (br (!(gB C 2))
 (k 0 [.B false])
 (br (!(gB D 2))
 (k 0 [.B false])
 (ck (((eqM (List.length (gLL B 2)) (List.length (gLL B 2))) && true) && true)
 (T25 [.I (gI B 0), .I (gI B 1), .LL (gLL B 2)]
 (fun j E => (sw (L4_13.b 0 [.B false, .B (gB A 0), .I (wr .i64 (Int.tmod (gI l 7) 12)), .N (gN C 0), .LL (gLL C 1), .N (gN D 0), .LL (gLL D 1), .N (List.length (gLL E 0)), .LL (gLL E 0), .I 0, .I 0, .I 0, .I (gI B 0), .I (gI B 1), .N (List.length (gLL B 2)), .LL (gLL B 2), .N (List.length (gL B 3)), .L (gL B 3), .N (List.length (gL B 4)), .L (gL B 4), .N (List.length (gL B 5)), .L (gL B 5), .I (gI B 6)]
 (fun j F => (sw (k 0 [.B (gB F 0)])
 (sw (br ((gI F 6) == (((gN F 2) : Nat) : Int))
 (br ((gI F 7) == (((gN F 4) : Nat) : Int))
 (k 0 [.B (gB F 1)])
 (k 0 [.B false]))
 (k 0 [.B false]))
 (fun _ => none))) j))
 (fun _ => none)) j)))))
 (fun _ => none)) j)))
 (fun _ => none)) j)))
 (fun _ => none)) j))))
 (fun _ => none)) j)
theorem F4.eq : FEq F4.O 4 F4.ps F4.sh F4 := by intro τ l κ; kernel_rfl
def F4.E : Ent P := mkF F4.eq
end
end Go.Proofs.Ytbpjicbpcfkpfaa.Ai
namespace Go.Proofs.Ytbpjicbpcfkpfaa.Ai
open Go Ma
noncomputable section
theorem F24_spec {q n : Nat} {G : List (List Int)} {s w g : List Int} (h : Cs q n G s w g) (r : Int) {τ : Type} (k : Nat → LS_ → Option τ) : F24 [.I q, .I n, .LL G, .L w, .L g, .I r] k = k 0 [.N (winR q n G w g r).length, .LL (winR q n G w g r), .B true] := by
 unfold F24
 simp only [gI_zero, gI_succ, gL_zero, gL_succ, gLL_zero, gLL_succ]
 rw [ck_of (by simp), T18_ok h.cd h.right h.gs]
 rfl
theorem L4_13_spec {q n : Nat} {G : List (List Int)} {s w g : List Int} (h : Cs q n G s w g) {r : Int} (h0 : 0 ≤ r) (h1 : r < 100) {W l m : List (List Int)} (hW : ∀ y ∈ W, Wd q n y) (hl : l.length < 2 ^ 60) (hm : m.length < 2 ^ 60) (hWl : W.length < 2 ^ 60) (E : Int) {τ : Type} (κ : Nat → LS_ → Option τ) : ∀ (f i a b : Nat), i ≤ W.length → W.length < f + i → a ≤ l.length → b ≤ m.length →
  l.drop a = (W.drop i).filter (fun y => decide (((far (lostI g) w y 0 n : Nat) : Int) ≤ r)) → m.length = b + ((W.drop i).filter (fun y => decide (((far (lostI g) w y 0 n : Nat) : Int) ≤ r + 1))).length →
  runE L4_13 f κ 0 [.B false, .B true, .I r, .N l.length, .LL l, .N m.length, .LL m, .N W.length, .LL W, .I a, .I b, .I i, .I q, .I n, .N G.length, .LL G, .N s.length, .L s, .N w.length, .L w, .N g.length, .L g, .I E] = κ 1 [.B false, .B true, .N l.length, .LL l, .N m.length, .LL m, .I l.length, .I m.length]
 | 0, i, a, b, h2, h3, ha, hb, e1, e2 => by omega
 | f + 1, i, a, b, h2, h3, ha, hb, e1, e2 => by
  have n1 := h.cd.n1
  have hgs := h.up.1
  rw [runE_succ]
  show L4_13.s0 _ _ _ = _
  unfold L4_13.s0
  simp only [gI_zero, gI_succ, gN_zero, gN_succ, gL_zero, gL_succ, gLL_zero, gLL_succ, gB_zero, gB_succ, Int.toNat_natCast, Nat.mul_one]
  by_cases hj : i < W.length
  ·have hy : W.getD i [] ∈ W := by
    rw [List.getD_eq_getElem?_getD, List.getElem?_eq_getElem hj]
    exact List.getElem_mem hj
   have wy := hW _ hy
   rw [drop_cons [] hj, List.filter_cons] at e1 e2
   generalize W.getD i [] = y at wy e1 e2 ⊢
   have wl := h.wd.1
   have yl := wy.1
   have fl := far_le (lostI g) w y 0 n
   have er : wr .i64 (r + 1) = r + 1 := wr64 (by omega) (by omega)
   rw [br_of (by simp; omega), ck_of (by simp; omega), ck_of (by simp; omega), ck_of (by simp), F26_spec (by omega) (by omega) (by omega), yl]
   simp only [sw_zero, gI_zero, er]
   by_cases hd : ((far (lostI g) w y 0 n : Nat) : Int) ≤ r
   ·rw [if_pos (by simpa using hd)] at e1
    rw [if_pos (by simp; omega), List.length_cons] at e2
    have hal : a < l.length := by
     rcases Nat.lt_or_ge a l.length with q | q
     ·exact q
     ·rw [List.drop_eq_nil_of_le q] at e1; cases e1
    rw [drop_cons [] hal] at e1
    injection e1 with e3 e4
    rw [br_of (by simpa using hd), br_no (by simp; omega), ck_of (by simp; omega), ck_of (by simp; omega), ck_of (by simp; omega), ck_of (by simp; omega), e3, ck_of (by simp), F27_spec _ _ _ (by omega), decide_eq_true rfl]
    simp only [sw_zero, gB_zero]
    rw [br_no (b := !true) rfl, br_of (by simp; omega), wsucc (j := a) (by omega), wsucc (j := b) (by omega), wsucc (j := i) (by omega)]
    exact L4_13_spec h h0 h1 hW hl hm hWl E κ f (i + 1) (a + 1) (b + 1) (by omega) (by omega) (by omega) (by omega) e4 (by omega)
   ·rw [if_neg (by simpa using hd)] at e1
    rw [br_no (by simp only [leI_no]; exact hd)]
    by_cases hd2 : ((far (lostI g) w y 0 n : Nat) : Int) ≤ r + 1
    ·rw [if_pos (by simpa using hd2), List.length_cons] at e2
     rw [br_of (by simpa using hd2), wsucc (j := b) (by omega), wsucc (j := i) (by omega)]
     exact L4_13_spec h h0 h1 hW hl hm hWl E κ f (i + 1) a (b + 1) (by omega) (by omega) (by omega) (by omega) e1 (by omega)
    ·rw [if_neg (by simpa using hd2)] at e2
     rw [br_no (by simp only [leI_no]; exact hd2), wsucc (j := i) (by omega)]
     exact L4_13_spec h h0 h1 hW hl hm hWl E κ f (i + 1) a b (by omega) (by omega) (by omega) (by omega) e1 e2
  ·rw [List.drop_eq_nil_of_le (show W.length ≤ i by omega)] at e1 e2
   rw [br_no (by simp; omega)]
   have : l.length = a := by
    have := congrArg List.length e1
    simp at this
    omega
   have : m.length = b := by simpa using e2
   subst a b
   rfl
theorem F4_true {ls : LS_} (h : okLs [.int .u8, .int .u8, .int .u8, .arr (.i .u8), .int .u16, .arr (.i .u8), .int .u16, .int .u8] ls) {τ : Type} (k : Nat → LS_ → Option τ) : F4 ls k = k 0 [.B true] := by
  have hfu := fuel_le
  obtain ⟨Q, N, K, L, num, H, gone, l1, rfl, hQ, hN, hK, hL, hu, hH, h1⟩ := raw34 h
  obtain ⟨x, l2, rfl, hr0, h2⟩ := okLs_cons h1
  obtain ⟨R, rfl, hr1⟩ := ok_int hr0
  have hr2 := wf_u8 hr1
  obtain rfl := okLs_nil h2
  obtain ⟨q, n, G, s, w, g, hc, hs, hw, hg, hT⟩ := T17_spec gone hQ hN hK hL hu hH
  have C : Cs q n G s w g := ⟨hc, hs, hw, hg⟩
  have hr := tmod_in (a := R) (b := 12) hr2.1 (by omega)
  have hcnt := C.cnt
  have hW := C.ws
  have e1 := winR_eq (q := q) (n := n) (G := G) (w := w) hg.pos (R.tmod 12)
  have e2 := winR_eq (q := q) (n := n) (G := G) (w := w) hg.pos (R.tmod 12 + 1)
  have l1 : (winR q n G w g (R.tmod 12)).length ≤ 256 := Nat.le_trans (by rw [e1]; exact List.length_filter_le _ _) hcnt
  have l2 : (winR q n G w g (R.tmod 12 + 1)).length ≤ 256 := Nat.le_trans (by rw [e2]; exact List.length_filter_le _ _) hcnt
  unfold F4
  rw [T16_spec]
  simp only [sw_zero, gI_zero, gI_succ, gL_zero, gL_succ, gB_zero]
  rw [br_no (b := !true) rfl, ck_of (by simp), hT]
  simp only [sw_zero, gI_zero, gI_succ, gL_zero, gL_succ, gLL_zero, gLL_succ]
  rw [ck_of (by simp), wr64 (n := R.tmod 12) (by omega) (by omega), F24_spec C]
  simp only [sw_zero, gI_zero, gI_succ, gN_zero, gN_succ, gL_zero, gL_succ, gLL_zero, gLL_succ, gB_zero, gB_succ]
  rw [ck_of (by simp), wr64 (n := R.tmod 12 + 1) (by omega) (by omega), F24_spec C]
  simp only [sw_zero, gI_zero, gI_succ, gN_zero, gN_succ, gL_zero, gL_succ, gLL_zero, gLL_succ, gB_zero, gB_succ]
  rw [br_no (b := !true) rfl, br_no (b := !true) rfl, ck_of (by simp), T25_spec hc.fq hc.rows (by have := hc.count; omega)]
  simp only [sw_zero, gLL_zero]
  unfold L4_13.b
  have key := L4_13_spec C (r := R.tmod 12) (by omega) (by omega) (W := words q (fadd q) (fmul q) G (List.replicate n 0)) (l := winR q n G w g (R.tmod 12)) (m := winR q n G w g (R.tmod 12 + 1)) hW (by omega) (by omega) (by omega) ((far (lostI g) w s 0 n : Nat) : Int) (fun j l12 => (sw (k 0 [.B (gB l12 0)])
 (sw (br ((gI l12 6) == (((gN l12 2) : Nat) : Int))
 (br ((gI l12 7) == (((gN l12 4) : Nat) : Int))
 (k 0 [.B (gB l12 1)])
 (k 0 [.B false]))
 (k 0 [.B false]))
 (fun _ => none))) j) fuel 0 0 0 (by omega) (by omega) (by omega) (by omega) e1 (by rw [Nat.zero_add]; exact congrArg List.length e2)
  refine Eq.trans key ?_
  simp only [sw_succ, sw_zero, gI_zero, gI_succ, gN_zero, gN_succ, gB_zero, gB_succ]
  rw [br_of (by simp), br_of (by simp)]
theorem law4 (ls : LS_) (h : okLs ([PV2.agg [.int .u8, .int .u8, .int .u8, .arr (.i .u8), .int .u16, .arr (.i .u8), .int .u16], PV2.v (.int .u8)].flatMap cells2) ls) : CS P 4 (fL2 ls [PV2.agg [.int .u8, .int .u8, .int .u8, .arr (.i .u8), .int .u16, .arr (.i .u8), .int .u16], PV2.v (.int .u8)] 0) ⟨.bool true, []⟩ :=
 F_ok F4.eq ((F4_true h _).trans (by kernel_rfl))
end
end Go.Proofs.Ytbpjicbpcfkpfaa.Ai
