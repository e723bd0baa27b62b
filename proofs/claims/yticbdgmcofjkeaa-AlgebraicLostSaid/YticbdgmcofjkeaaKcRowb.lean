/-
The law AlgebraicLost answers true for every input, and its arguments read afterwards as they did. No condition.
-/
import Derived.Test.YticbdgmcofjkeaaRows
import Derived.Test.YticbdgmcofjkeaaKc7
namespace Go.Proofs.Yticbdgmcofjkeaa.algebraicLost
open Go Go.ChangeShapes Go.WideShapes Go.ChangeAt Go.RowKit Ai
open Go.ChangeMaps (open_string shut_string)
set_option linter.unusedVariables false
theorem own : ownKnob Try.prog.godebug = none := by kernel_rfl
theorem laidOut : laidOutB Try.prog = true := by kernel_rfl
def pats : List PV2 := [.agg [.int .u8, .int .u8, .arr (.i .u8), .ar2 .u8, .arr (.i .u8)]]
theorem patsOk : PatsOk Try.prog Try.f5.params.toList pats := by
  rw [Try.params5]
  exact .cons (.agg (by kernel_rfl) (by kernel_rfl) (by kernel_rfl)) .nil
set_option maxRecDepth 100000 in
theorem lifted (os : Os) (started : os.Started) (H : Type) (enc : TypeId × Value → H) :
    ReturnsInHanded {} Try.checked os 5 .any (Rows.algebraicLostSpec.pre6 enc Try.prog Try.f5 Rows.algebraicLostRow.domain false) (Rows.algebraicLostSpec.post enc Try.prog Try.f5 false true false false) := by
  refine returnsInHanded_of_change_sized (C := Try.checked) own started (by kernel_rfl) Try.func5
    (ChangeSpec.witness6 (enc := enc) (C := Try.checked) false ⟨#[], #[.agg #[.int .u8 0, .int .u8 0, .slice none 0 0, .slice none 0 0, .slice none 0 0]], []⟩ 8 (by kernel_rfl) (by kernel_rfl) (by kernel_rfl) (by kernel_rfl)) ?_
  intro W base args ds gs before hval0 hW hcnd hsz0 _
  have hW' := hW
  obtain ⟨p, q, hA, hV, rfl, hfz, hnd⟩ := hW
  obtain ⟨ls, h1, h2, h3⟩ := rd_args patsOk hA (fun j t v e1 e2 => hval0 j t v (by simpa using e1) (by simpa using e2))
  have h3 := h3 [] [] (i := 0) rfl
  rw [List.append_nil, List.nil_append] at h3
  refine (walk_of (law310 ls h1) h3).mono fun e W' ⟨he, bel⟩ => ?_
  subst he
  have back := trodAll_back laidOut bel (fun t ht => ?_) hA
  · rw [Try.params5] at hA back
    obtain ⟨v0, vs0, d0, ds0, p0, q0, hargs, rfl, rfl, _, r0⟩ := trodAll_cons hA
    obtain ⟨rfl, rfl, rfl⟩ := trodAll_nil r0
    obtain ⟨rfl, rfl⟩ := trodVars_none hV
    rw [hargs] at back
    exact ⟨_, rfl, _, _, _, [], _, [], hW', trodAll_mk1 (shut_bool Try.underlying4 _), by rw [Try.params5, hargs]; exact back, rfl, bel.frame _, fun h => by cases h⟩
  · rw [Try.params5] at ht
    revert t
    exact fun t ht => by
      have : ∀ t ∈ [54], Try.prog.readableRec t = true ∧ t < Try.prog.types.size := by
        intro t ht
        simp only [List.mem_cons, List.not_mem_nil, or_false] at ht
        rcases ht with rfl
        all_goals exact ⟨by kernel_rfl, of_decide_eq_true (by kernel_rfl)⟩
      exact this t ht
theorem over : Rows.algebraicLostRow.holds Try.pinned (OpenSpec.ofChange Rows.algebraicLostSpec) :=
  OpenClaim.holds_of_wide 5 Try.f5 rfl rfl rfl rfl rfl rfl rfl ⟨rfl, rfl, rfl, rfl, rfl⟩ rfl rfl rfl rfl rfl (by kernel_rfl) Try.func5 (by kernel_rfl)
    (of_decide_eq_true (by kernel_rfl)) (by unfold Func.isWrapper; first | (rw [if_pos (by decide +kernel)]; kernel_rfl) | (rw [if_neg (by decide +kernel)]; exact ⟨rfl, rfl⟩))
    (fun os started H enc _ => lifted os started H enc)
theorem proved : Rows.AlgebraicLostSaid := over
#print axioms proved
end Go.Proofs.Yticbdgmcofjkeaa.algebraicLost
namespace Go.Proofs.Yticbdgmcofjkeaa
/-- The row, under a short name, for the claim. -/
theorem algebraicLost_holds : Rows.AlgebraicLostSaid := algebraicLost.proved
end Go.Proofs.Yticbdgmcofjkeaa
