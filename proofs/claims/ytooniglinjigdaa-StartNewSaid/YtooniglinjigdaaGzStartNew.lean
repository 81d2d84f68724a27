/-
  The statement StartNew: whatever is handed in, the law's Go function returns true, and what was handed in reads as it did.
  Conditions: none.
-/
import Derived.Test.YtooniglinjigdaaGn0
import Derived.Test.YtooniglinjigdaaGn1

set_option linter.unusedSimpArgs false
set_option linter.unusedVariables false

namespace Go.Proofs.Ytooniglinjigdaa
open Go.ChangeShapes Go.WideShapes Go.ChangeAt Go.RowKit Go.Ab

set_option maxRecDepth 100000 in
theorem startNew_lifted (os : Os) (started : os.Started) (H : Type) (enc : TypeId × Value → H) :
    ReturnsInHanded {} Go.Proofs.Try.checked os 4 .any (Rows.startNewSpec.pre6 enc Go.Proofs.Try.prog Go.Proofs.Try.f4 Rows.startNewRow.domain false) (Rows.startNewSpec.post enc Go.Proofs.Try.prog Go.Proofs.Try.f4 false true false false) := by
  refine law_lifted (C := Go.Proofs.Try.checked) (M := tab) (tb := 4) own started (by kernel_rfl) Go.Proofs.Try.func4 laidOut
    (ChangeSpec.witness6 (enc := enc) (C := Go.Proofs.Try.checked) false ⟨#[], #[.int .i64 0, .int .i64 0, .bool false, .bool false], []⟩ 8 (by kernel_rfl) (by kernel_rfl) (by kernel_rfl) (by kernel_rfl)) rfl ?_ rfl Go.Proofs.Try.underlying4 (by kernel_rfl) tab_faithful ?_
  · intro ds hl
    match ds, hl with
    | [d0, d1, d2, d3], _ => rfl
  · intro W base args ds ps hval hA
    rw [Go.Proofs.Try.params4] at hA hval
    obtain ⟨v0, vs0, d0, ds0, p0, q0, hargs0, rfl, rfl, h0, r0⟩ := trodAll_cons hA
    obtain ⟨v1, vs1, d1, ds1, p1, q1, hargs1, rfl, rfl, h1, r1⟩ := trodAll_cons r0
    obtain ⟨v2, vs2, d2, ds2, p2, q2, hargs2, rfl, rfl, h2, r2⟩ := trodAll_cons r1
    obtain ⟨v3, vs3, d3, ds3, p3, q3, hargs3, rfl, rfl, h3, r3⟩ := trodAll_cons r2
    obtain ⟨e9, rfl, rfl⟩ := trodAll_nil r3
    obtain rfl : args = #[v0, v1, v2, v3] := by cases args; simp_all
    obtain ⟨x0, k0, e0⟩ := arg_cell (f := fun n : Int => .int .i64 n) (fun _ => rfl) (Dec.int Go.Proofs.Try.underlying3) (.inl ⟨_, Go.Proofs.Try.underlying3⟩) (hval 0 3 v0 rfl rfl) h0
    obtain ⟨x1, k1, e1⟩ := arg_cell (f := fun n : Int => .int .i64 n) (fun _ => rfl) (Dec.int Go.Proofs.Try.underlying3) (.inl ⟨_, Go.Proofs.Try.underlying3⟩) (hval 1 3 v1 rfl rfl) h1
    obtain ⟨x2, k2, e2⟩ := arg_cell (f := fun n : Bool => .bool n) (fun _ => rfl) (Dec.bool Go.Proofs.Try.underlying4) (.inr (.inl Go.Proofs.Try.underlying4)) (hval 2 4 v2 rfl rfl) h2
    obtain ⟨x3, k3, e3⟩ := arg_cell (f := fun n : Bool => .bool n) (fun _ => rfl) (Dec.bool Go.Proofs.Try.underlying4) (.inr (.inl Go.Proofs.Try.underlying4)) (hval 3 4 v3 rfl rfl) h3
    obtain ⟨n, H', hev⟩ := law_eval (ts := [.int .i64 x0, .int .i64 x1, .bool x2, .bool x3]) (l_StartNew x0 x1 x2 x3 (i64_range k0) (i64_range k1))
    exact ⟨_, n, H', (VL.cons e0 (VL.cons e1 (VL.cons e2 (VL.cons e3 VL.nil)))), hev⟩

theorem startNew_holds : Rows.StartNewSaid :=
  OpenClaim.holds_of_wide 4 Go.Proofs.Try.f4 rfl rfl rfl rfl rfl rfl rfl ⟨rfl, rfl, rfl, rfl, rfl⟩ rfl rfl rfl rfl rfl (by kernel_rfl) Go.Proofs.Try.func4 (by kernel_rfl)
    (of_decide_eq_true (by kernel_rfl)) (by unfold Func.isWrapper; first | (rw [if_pos (by decide +kernel)]; kernel_rfl) | (rw [if_neg (by decide +kernel)]; exact ⟨rfl, rfl⟩))
    (fun os started H enc _ => startNew_lifted os started H enc)

end Go.Proofs.Ytooniglinjigdaa
