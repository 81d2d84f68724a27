/-
  The statement StartCopies: two new machines share nothing, and are the same, whatever the numbers are.
  Conditions: none.
-/
import Derived.Test.YtdknggbomihlfaaGd
import Derived.Test.YtdknggbomihlfaaGb
import Derived.Test.YtdknggbomihlfaaRows

set_option linter.unusedSimpArgs false
set_option linter.unusedVariables false

namespace Go.Ab
open Go.RowKit Go.ChangeShapes

theorem law_eval {M : FuncId → Option MFunc} {k : FuncId} {ts : List AV} (h : CallT M false k (ts.map .a) TH.none fun v _ => v = .a (.bool true)) : ∃ n H', eval M n k ts AH.zero = some (.bool true, H') := by
  obtain ⟨r, H', ⟨n, hev⟩, v, A', T', _, hv, _, rfl⟩ := h _ AH.zero ts HR.none (VRL.atoms ts)
  cases hv
  exact ⟨n, H', hev⟩

theorem i64_range {n : Int} (h : (Lit.int .i64 n).wf = true) : -9223372036854775808 ≤ n ∧ n < 9223372036854775808 := by
  simp only [Lit.wf, Bool.and_eq_true, decide_eq_true_eq] at h
  have e1 : IntKind.i64.min = -9223372036854775808 := by decide
  have e2 : IntKind.i64.max = 9223372036854775807 := by decide
  omega

def in64 (n : Int) : Prop := -9223372036854775808 ≤ n ∧ n < 9223372036854775808
def in64c (c : Config) : Prop := in64 c.object ∧ in64 c.replicas ∧ in64 c.logs ∧ in64 c.threads ∧ in64 c.slots

end Go.Ab

namespace Go.Proofs.Ytdknggbomihlfaa
open Go.ChangeShapes Go.WideShapes Go.ChangeAt Go.RowKit Go.Ab

theorem own : ownKnob Go.Proofs.Try.prog.godebug = none := by kernel_rfl
theorem laidOut : laidOutB Go.Proofs.Try.prog = true := by kernel_rfl

theorem dec_config (W : World) : Dec Go.Proofs.Try.prog W 23 encConfig (fun _ => True) := by
  have i3 : Dec Go.Proofs.Try.prog W 3 (fun n : Int => [.int .i64 n]) (fun n => (Lit.int .i64 n).wf = true) := Dec.int Go.Proofs.Try.underlying3
  exact @Dec.struct _ _ _ _ 5 _ _ _ _ _ _ Go.Proofs.Try.underlying23 (by kernel_rfl) (@DecF.cons _ _ _ _ _ 1 _ _ _ _ _ _ _ (by rfl) (by kernel_rfl) i3 (@DecF.cons _ _ _ _ _ 1 _ _ _ _ _ _ _ (by rfl) (by kernel_rfl) i3 (@DecF.cons _ _ _ _ _ 1 _ _ _ _ _ _ _ (by rfl) (by kernel_rfl) i3 (@DecF.cons _ _ _ _ _ 1 _ _ _ _ _ _ _ (by rfl) (by kernel_rfl) i3 (@DecF.cons _ _ _ _ _ 1 _ _ _ _ _ _ _ (by rfl) (by kernel_rfl) i3 (@DecF.nil _ _ 5))))))
    (fun a : Int × Int × Int × Int × Int × Unit => ⟨a.1, a.2.1, a.2.2.1, a.2.2.2.1, a.2.2.2.2.1⟩) (fun a h => ⟨trivial, rfl⟩)

set_option maxRecDepth 100000 in
theorem startCopies_lifted (os : Os) (started : os.Started) (H : Type) (enc : TypeId × Value → H) :
    ReturnsInHanded {} Go.Proofs.Try.checked os 5 .any (Rows.startCopiesSpec.pre6 enc Go.Proofs.Try.prog Go.Proofs.Try.f5 Rows.startCopiesRow.domain false) (Rows.startCopiesSpec.post enc Go.Proofs.Try.prog Go.Proofs.Try.f5 false true false false) := by
  refine law_lifted (C := Go.Proofs.Try.checked) (M := tab) (tb := 4) own started (by kernel_rfl) Go.Proofs.Try.func5 laidOut
    (ChangeSpec.witness6 (enc := enc) (C := Go.Proofs.Try.checked) false ⟨#[], #[.agg #[.int .i64 0, .int .i64 0, .int .i64 0, .int .i64 0, .int .i64 0]], []⟩ 8 (by kernel_rfl) (by kernel_rfl) (by kernel_rfl) (by kernel_rfl)) rfl ?_ rfl Go.Proofs.Try.underlying4 (by kernel_rfl) tab_faithful ?_
  · intro ds hl
    match ds, hl with
    | [d], _ => rfl
  · intro W base args ds ps hval hA
    rw [Go.Proofs.Try.params5] at hA hval
    obtain ⟨v, d, rfl, rfl, h0⟩ := trodAll_one hA
    obtain ⟨c, _, hc⟩ := arg_agg Go.Proofs.Try.underlying23 (dec_config W) (hval 0 23 v rfl rfl) h0
    obtain ⟨n, H', hev⟩ := law_eval (ts := [.agg (encConfig c)]) (l_StartCopies c)
    exact ⟨_, n, H', VL.cons hc VL.nil, hev⟩

theorem startCopies_holds : Rows.StartCopiesSaid :=
  OpenClaim.holds_of_wide 5 Go.Proofs.Try.f5 rfl rfl rfl rfl rfl rfl rfl ⟨rfl, rfl, rfl, rfl, rfl⟩ rfl rfl rfl rfl rfl (by kernel_rfl) Go.Proofs.Try.func5 (by kernel_rfl)
    (of_decide_eq_true (by kernel_rfl)) (by unfold Func.isWrapper; first | (rw [if_pos (by decide +kernel)]; kernel_rfl) | (rw [if_neg (by decide +kernel)]; exact ⟨rfl, rfl⟩))
    (fun os started H enc _ => startCopies_lifted os started H enc)

end Go.Proofs.Ytdknggbomihlfaa
