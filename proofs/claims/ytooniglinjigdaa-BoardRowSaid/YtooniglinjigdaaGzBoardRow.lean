/-
  The statement BoardRow: whatever is handed in, the law's Go function returns true, and what was handed in reads as it did.
  Conditions: none.
-/
import Derived.Test.YtooniglinjigdaaGn0

set_option linter.unusedSimpArgs false
set_option linter.unusedVariables false

namespace Go.Proofs.Ytooniglinjigdaa
open Go.ChangeShapes Go.WideShapes Go.ChangeAt Go.RowKit Go.Ab

set_option maxRecDepth 100000 in
theorem boardRow_lifted (os : Os) (started : os.Started) (H : Type) (enc : TypeId × Value → H) :
    ReturnsInHanded {} Go.Proofs.Try.checked os 6 .any (Rows.boardRowSpec.pre6 enc Go.Proofs.Try.prog Go.Proofs.Try.f6 Rows.boardRowRow.domain false) (Rows.boardRowSpec.post enc Go.Proofs.Try.prog Go.Proofs.Try.f6 false true false false) := by
  refine law_lifted (C := Go.Proofs.Try.checked) (M := tab) (tb := 4) own started (by kernel_rfl) Go.Proofs.Try.func6 laidOut
    (ChangeSpec.witness6 (enc := enc) (C := Go.Proofs.Try.checked) false ⟨#[], #[.slice none 0 0, .slice none 0 0], []⟩ 8 (by kernel_rfl) (by kernel_rfl) (by kernel_rfl) (by kernel_rfl)) rfl ?_ rfl Go.Proofs.Try.underlying4 (by kernel_rfl) tab_faithful ?_
  · intro ds hl
    match ds, hl with
    | [d0, d1], _ => rfl
  · intro W base args ds ps hval hA
    rw [Go.Proofs.Try.params6] at hA hval
    obtain ⟨v0, vs0, d0, ds0, p0, q0, hargs0, rfl, rfl, h0, r0⟩ := trodAll_cons hA
    obtain ⟨v1, vs1, d1, ds1, p1, q1, hargs1, rfl, rfl, h1, r1⟩ := trodAll_cons r0
    obtain ⟨e9, rfl, rfl⟩ := trodAll_nil r1
    obtain rfl : args = #[v0, v1] := by cases args; simp_all
    obtain ⟨x0, k0, e0⟩ := arg_cell (f := fun l : List Int => .vs (l.map encInt) false) (fun _ => rfl) (Dec.slice (sz := 1) Go.Proofs.Try.underlying47 (by kernel_rfl) (by omega) (Dec.int Go.Proofs.Try.underlying3)) (.inr (.inr (.inl ⟨_, Go.Proofs.Try.underlying47⟩))) (hval 0 47 v0 rfl rfl) h0
    obtain ⟨x1, k1, e1⟩ := arg_cell (f := fun l : List Int => .vs (l.map encInt) false) (fun _ => rfl) (Dec.slice (sz := 1) Go.Proofs.Try.underlying47 (by kernel_rfl) (by omega) (Dec.int Go.Proofs.Try.underlying3)) (.inr (.inr (.inl ⟨_, Go.Proofs.Try.underlying47⟩))) (hval 1 47 v1 rfl rfl) h1
    obtain ⟨n, H', hev⟩ := law_eval (ts := [.vs (x0.map encInt) false, .vs (x1.map encInt) false]) (l_BoardRow x0 x1 (fun x hx => i64_range (k0.1 x hx)) k0.2 (fun x hx => i64_range (k1.1 x hx)) k1.2)
    exact ⟨_, n, H', (VL.cons e0 (VL.cons e1 VL.nil)), hev⟩

theorem boardRow_holds : Rows.BoardRowSaid :=
  OpenClaim.holds_of_wide 6 Go.Proofs.Try.f6 rfl rfl rfl rfl rfl rfl rfl ⟨rfl, rfl, rfl, rfl, rfl⟩ rfl rfl rfl rfl rfl (by kernel_rfl) Go.Proofs.Try.func6 (by kernel_rfl)
    (of_decide_eq_true (by kernel_rfl)) (by unfold Func.isWrapper; first | (rw [if_pos (by decide +kernel)]; kernel_rfl) | (rw [if_neg (by decide +kernel)]; exact ⟨rfl, rfl⟩))
    (fun os started H enc _ => boardRow_lifted os started H enc)

end Go.Proofs.Ytooniglinjigdaa
