/-
  The statement Starts where what it reads is of a bounded bulk: whatever is handed in, the law's Go function returns true, and what was handed in reads as it did.
  Conditions: none.
-/
import Derived.Test.YtooniglinjigdaaGn0
import Derived.Test.YtooniglinjigdaaGn1

set_option linter.unusedSimpArgs false
set_option linter.unusedVariables false

namespace Go.Proofs.Ytooniglinjigdaa
open Go.ChangeShapes Go.WideShapes Go.ChangeAt Go.RowKit Go.Ab

set_option maxRecDepth 100000 in
theorem starts_lifted (os : Os) (started : os.Started) (H : Type) (enc : TypeId × Value → H) (F : Stop.Interp) :
    ReturnsInHanded {} Go.Proofs.Try.checked os 3 .any ((Rows.OpenSpec.upto Rows.startsSpec).pre6 enc Go.Proofs.Try.prog Go.Proofs.Try.f3 Rows.startsUptoRow.domain false) (((Rows.OpenSpec.upto Rows.startsSpec).at F).post enc Go.Proofs.Try.prog Go.Proofs.Try.f3 false true false false) := by
  refine law_upto (C := Go.Proofs.Try.checked) (s := Rows.OpenSpec.upto Rows.startsSpec) (kk := Rows.uptoSmall) (M := tab) (tb := 4) rfl own started (by kernel_rfl) Go.Proofs.Try.func3 laidOut
    (OpenSpec.witness (enc := enc) (C := Go.Proofs.Try.checked) (s := Rows.OpenSpec.upto Rows.startsSpec) (k := Rows.uptoSmall) rfl false ⟨#[], #[.agg #[.int .i64 0, .int .i64 0, .int .i64 0, .int .i64 0, .int .i64 0], .agg #[.int .i64 0, .int .i64 0, .int .i64 0, .int .i64 0, .int .i64 0, .slice none 0 0, .slice none 0 0, .slice none 0 0, .slice none 0 0]], []⟩ 8 (by kernel_rfl) (by kernel_rfl) (by kernel_rfl)
      (x := ([.agg [.lit (.int .i64 0), .lit (.int .i64 0), .lit (.int .i64 0), .lit (.int .i64 0), .lit (.int .i64 0)], .agg [.agg [.lit (.int .i64 0), .lit (.int .i64 0), .lit (.int .i64 0), .lit (.int .i64 0), .lit (.int .i64 0)], .nil, .nil, .nil, .nil]], [], [])) (by kernel_rfl) rfl (by kernel_rfl)) rfl rfl ?_ rfl Go.Proofs.Try.underlying4 (by kernel_rfl) tab_faithful ?_
  · intro ds hl
    match ds, hl with
    | [d0, d1], _ => rfl
  · intro W base args ds ps hval hA hkk
    rw [Go.Proofs.Try.params3] at hA hval
    obtain ⟨v0, vs0, d0, ds0, p0, q0, hargs0, rfl, rfl, h0, r0⟩ := trodAll_cons hA
    obtain ⟨v1, vs1, d1, ds1, p1, q1, hargs1, rfl, rfl, h1, r1⟩ := trodAll_cons r0
    obtain ⟨e9, rfl, rfl⟩ := trodAll_nil r1
    obtain rfl : args = #[v0, v1] := by cases args; simp_all
    have ht := (tameL_of [d0, d1] (of_decide_eq_true hkk)).1
    obtain ⟨x0, k0, e0⟩ := argS_agg Go.Proofs.Try.underlying23 (dec_config W) (hval 0 23 v0 rfl rfl) h0 (tameL_mem ht _ (by simp))
    obtain ⟨x1, ⟨k1, o1⟩, e1⟩ := argS_agg Go.Proofs.Try.underlying29 (dec_machine W) (hval 1 29 v1 rfl rfl) h1 (tameL_mem ht _ (by simp))
    obtain ⟨n, H', hev⟩ := law_eval (ts := [.agg (encConfig x0), .agg (encMachine false x1)]) (l_Starts x0 x1 o1 (rangeM_heads k1))
    exact ⟨_, n, H', (VL.cons e0 (VL.cons e1 VL.nil)), hev⟩

theorem starts_holds : Rows.StartsUptoSaid :=
  OpenClaim.holds_of_cond 3 Go.Proofs.Try.f3 rfl rfl rfl rfl rfl rfl rfl ⟨rfl, rfl, rfl, rfl, rfl⟩ rfl rfl rfl rfl rfl (by kernel_rfl) Go.Proofs.Try.func3 (by kernel_rfl)
    (of_decide_eq_true (by kernel_rfl)) (by unfold Func.isWrapper; first | (rw [if_pos (by decide +kernel)]; kernel_rfl) | (rw [if_neg (by decide +kernel)]; exact ⟨rfl, rfl⟩))
    (fun os started H enc _ F => starts_lifted os started H enc F)

end Go.Proofs.Ytooniglinjigdaa
