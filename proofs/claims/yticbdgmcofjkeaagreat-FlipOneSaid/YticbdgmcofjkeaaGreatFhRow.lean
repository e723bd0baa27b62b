/-
The law FlipOne answers true for every input, and its arguments read afterwards as they did. No condition.
-/
import Derived.Test.YticbdgmcofjkeaaGreatRows
import Derived.Test.YticbdgmcofjkeaaGreatFh7
namespace Go.Proofs.YticbdgmcofjkeaaGreat.flipOne
open Go Go.ChangeShapes Go.WideShapes Go.ChangeAt Go.RowKit Ai
open Go.ChangeMaps (open_string shut_string)
set_option linter.unusedVariables false
theorem own : ownKnob Tryz.prog.godebug = none := by kernel_rfl
theorem laidOut : laidOutB Tryz.prog = true := by kernel_rfl
def pats : List PV2 := [.agg [.int .u8, .int .u8, .int .u8, .arr (.i .u8)], .v (.int .u8), .v (.int .u16)]
theorem patsOk : PatsOk Tryz.prog Tryz.f7.params.toList pats := by
  rw [Tryz.params7]
  exact .cons (.agg (by kernel_rfl) (by kernel_rfl) (by kernel_rfl)) (.cons (.v (by kernel_rfl) (by kernel_rfl) (by kernel_rfl)) (.cons (.v (by kernel_rfl) (by kernel_rfl) (by kernel_rfl)) .nil))
set_option maxRecDepth 100000 in
theorem lifted (os : Os) (started : os.Started) (H : Type) (enc : TypeId × Value → H) :
    ReturnsInHanded {} Tryz.checked os 7 .any (Rows.flipOneSpec.pre6 enc Tryz.prog Tryz.f7 Rows.flipOneRow.domain false) (Rows.flipOneSpec.post enc Tryz.prog Tryz.f7 false true false false) := by
  refine returnsInHanded_of_change_sized (C := Tryz.checked) own started (by kernel_rfl) Tryz.func7
    (ChangeSpec.witness6 (enc := enc) (C := Tryz.checked) false ⟨#[], #[.agg #[.int .u8 0, .int .u8 0, .int .u8 0, .slice none 0 0], .int .u8 0, .int .u16 0], []⟩ 8 (by kernel_rfl) (by kernel_rfl) (by kernel_rfl) (by kernel_rfl)) ?_
  intro W base args ds gs before hval0 hW hcnd hsz0 _
  have hW' := hW
  obtain ⟨p, q, hA, hV, rfl, hfz, hnd⟩ := hW
  obtain ⟨ls, h1, h2, h3⟩ := rd_args patsOk hA (fun j t v e1 e2 => hval0 j t v (by simpa using e1) (by simpa using e2))
  have h3 := h3 [] [] (i := 0) rfl
  rw [List.append_nil, List.nil_append] at h3
  refine (walk_of (law204 ls h1) h3).mono fun e W' ⟨he, bel⟩ => ?_
  subst he
  have back := trodAll_back laidOut bel (fun t ht => ?_) hA
  · rw [Tryz.params7] at hA back
    obtain ⟨v0, vs0, d0, ds0, p0, q0, hargs, rfl, rfl, _, r0⟩ := trodAll_cons hA
    obtain ⟨v1, vs1, d1, ds1, p1, q1, rfl, rfl, rfl, _, r1⟩ := trodAll_cons r0
    obtain ⟨v2, vs2, d2, ds2, p2, q2, rfl, rfl, rfl, _, r2⟩ := trodAll_cons r1
    obtain ⟨rfl, rfl, rfl⟩ := trodAll_nil r2
    obtain ⟨rfl, rfl⟩ := trodVars_none hV
    rw [hargs] at back
    exact ⟨_, rfl, _, _, _, [], _, [], hW', trodAll_mk1 (shut_bool Tryz.underlying4 _), by rw [Tryz.params7, hargs]; exact back, rfl, bel.frame _, fun h => by cases h⟩
  · rw [Tryz.params7] at ht
    revert t
    exact fun t ht => by
      have : ∀ t ∈ [24, 5, 54], Tryz.prog.readableRec t = true ∧ t < Tryz.prog.types.size := by
        intro t ht
        simp only [List.mem_cons, List.not_mem_nil, or_false] at ht
        rcases ht with rfl | rfl | rfl
        all_goals exact ⟨by kernel_rfl, of_decide_eq_true (by kernel_rfl)⟩
      exact this t ht
theorem over : Rows.flipOneRow.holds Tryz.pinned (OpenSpec.ofChange Rows.flipOneSpec) :=
  OpenClaim.holds_of_wide 7 Tryz.f7 rfl rfl rfl rfl rfl rfl rfl ⟨rfl, rfl, rfl, rfl, rfl⟩ rfl rfl rfl rfl rfl (by kernel_rfl) Tryz.func7 (by kernel_rfl)
    (of_decide_eq_true (by kernel_rfl)) (by unfold Func.isWrapper; first | (rw [if_pos (by decide +kernel)]; kernel_rfl) | (rw [if_neg (by decide +kernel)]; exact ⟨rfl, rfl⟩))
    (fun os started H enc _ => lifted os started H enc)
theorem proved : Rows.FlipOneSaid := over
#print axioms proved
end Go.Proofs.YticbdgmcofjkeaaGreat.flipOne
namespace Go.Proofs.YticbdgmcofjkeaaGreat
/-- The row, under a short name, for the claim. -/
theorem flipOne_holds : Rows.FlipOneSaid := flipOne.proved
end Go.Proofs.YticbdgmcofjkeaaGreat
