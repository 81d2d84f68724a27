/-
  No cell of these rows narrows 'for every input' (looked for: loops, veiled, ifaces, maps, wideKeys, modest, calm, conditions, laid).
  DERIVED. THE GIVEN ROWS OF THIS SEAT. 5 by the template 'for every input the law returns true; each argument reads behind the call as it read before'; 0 by the template 'total and deterministic' (their statements: YtgofbakhdaegeaaGreatTotals.lean).
  GIVEN WITH THE SEED: the statements are not yours to turn. If you find one false, say at which input.
  Laid BY PROGRAM, IN A SANDBOX (cutbox-rows.mjs): the forced cells as the released guide's own fill.sh prints them over the translation bda397a390761f09… (all of the seat's roots in one cut). By AI agents, Wed Nov 11 2026. No macro, syntax, notation, axiom, sorry.
-/
import Derived.Test.YtgofbakhdaegeaaGreatChecked
import GoSem.Claim
import GoSem.ClaimJoined
import GoSem.ClaimMapViews
import Derived.JoinedTies
import Derived.KernelRfl
namespace Go.Proofs.YtgofbakhdaegeaaGreat
/- THE CELL 'sum', in the pinned program and in every row, IS THE sha256 OF THE DUMP (.gsa) THAT YtgofbakhdaegeaaGreatProg.lean LOADS. Nothing in Lean hashes anything: it is a label: what it is worth is what the hold of that sum in a sandbox is worth. -/
noncomputable def Tryz.pinned : Pinned := { name := "ytgofbakhdaegeaagreat", sum := "bda397a390761f09862aa7bf5058119dd17b54825b8a8463e9fb31e2007748aa", checked := Tryz.checked }
namespace Rows
def none {H : Type} : Left H := { results := [], args := [] }

/-- 'choruslaw18.Replays': WHATEVER THE INPUT: true; the input reads as it did. -/
def replaysSpec : ChangeSpec := { name := "replays", fn := fun _ => fun
  | [d1, d2, d3] => { results := [.lit (.bool true)], args := [d1, d2, d3] }
  | _ => none }
def replaysRow : OpenClaim := { program := "ytgofbakhdaegeaagreat", sum := "bda397a390761f09862aa7bf5058119dd17b54825b8a8463e9fb31e2007748aa", func := "chorus/choruslaw18.Replays", spec := "replays", inPlace := ["slices.overlaps[int]"], unfollowed := true, recurses := true, apart := false }
def ReplaysSaid : Prop := replaysRow.holds Tryz.pinned (OpenSpec.ofChange replaysSpec)

/-- ITS FALSE NEIGHBOUR: 'it returns false'. Refute it at one input. -/
def replaysWrong : ChangeSpec := { name := "replays", fn := fun _ => fun
  | [d1, d2, d3] => { results := [.lit (.bool false)], args := [d1, d2, d3] }
  | _ => none }
def ReplaysWrongFalsely : Prop := replaysRow.holds Tryz.pinned (OpenSpec.ofChange replaysWrong)

/-- 'choruslaw18.ReplayOne': WHATEVER THE INPUT: true; the input reads as it did. -/
def replayOneSpec : ChangeSpec := { name := "replayOne", fn := fun _ => fun
  | [d1, d2, d3] => { results := [.lit (.bool true)], args := [d1, d2, d3] }
  | _ => none }
def replayOneRow : OpenClaim := { program := "ytgofbakhdaegeaagreat", sum := "bda397a390761f09862aa7bf5058119dd17b54825b8a8463e9fb31e2007748aa", func := "chorus/choruslaw18.ReplayOne", spec := "replayOne", inPlace := ["slices.overlaps[int]"], unfollowed := true, recurses := true, apart := false }
def ReplayOneSaid : Prop := replayOneRow.holds Tryz.pinned (OpenSpec.ofChange replayOneSpec)

/-- ITS FALSE NEIGHBOUR: 'it returns false'. Refute it at one input. -/
def replayOneWrong : ChangeSpec := { name := "replayOne", fn := fun _ => fun
  | [d1, d2, d3] => { results := [.lit (.bool false)], args := [d1, d2, d3] }
  | _ => none }
def ReplayOneWrongFalsely : Prop := replayOneRow.holds Tryz.pinned (OpenSpec.ofChange replayOneWrong)

/-- 'choruslaw18.ReplayRow': WHATEVER THE INPUT: true; the input reads as it did. -/
def replayRowSpec : ChangeSpec := { name := "replayRow", fn := fun _ => fun
  | [d1, d2, d3] => { results := [.lit (.bool true)], args := [d1, d2, d3] }
  | _ => none }
def replayRowRow : OpenClaim := { program := "ytgofbakhdaegeaagreat", sum := "bda397a390761f09862aa7bf5058119dd17b54825b8a8463e9fb31e2007748aa", func := "chorus/choruslaw18.ReplayRow", spec := "replayRow", inPlace := ["slices.overlaps[int]"], unfollowed := true, recurses := true, apart := false }
def ReplayRowSaid : Prop := replayRowRow.holds Tryz.pinned (OpenSpec.ofChange replayRowSpec)

/-- ITS FALSE NEIGHBOUR: 'it returns false'. Refute it at one input. -/
def replayRowWrong : ChangeSpec := { name := "replayRow", fn := fun _ => fun
  | [d1, d2, d3] => { results := [.lit (.bool false)], args := [d1, d2, d3] }
  | _ => none }
def ReplayRowWrongFalsely : Prop := replayRowRow.holds Tryz.pinned (OpenSpec.ofChange replayRowWrong)

/-- 'choruslaw18.ReplayForms': WHATEVER THE INPUT: true; the input reads as it did. -/
def replayFormsSpec : ChangeSpec := { name := "replayForms", fn := fun _ => fun
  | [d1, d2] => { results := [.lit (.bool true)], args := [d1, d2] }
  | _ => none }
def replayFormsRow : OpenClaim := { program := "ytgofbakhdaegeaagreat", sum := "bda397a390761f09862aa7bf5058119dd17b54825b8a8463e9fb31e2007748aa", func := "chorus/choruslaw18.ReplayForms", spec := "replayForms", inPlace := ["slices.overlaps[int]"], unfollowed := true, recurses := true, apart := false }
def ReplayFormsSaid : Prop := replayFormsRow.holds Tryz.pinned (OpenSpec.ofChange replayFormsSpec)

/-- ITS FALSE NEIGHBOUR: 'it returns false'. Refute it at one input. -/
def replayFormsWrong : ChangeSpec := { name := "replayForms", fn := fun _ => fun
  | [d1, d2] => { results := [.lit (.bool false)], args := [d1, d2] }
  | _ => none }
def ReplayFormsWrongFalsely : Prop := replayFormsRow.holds Tryz.pinned (OpenSpec.ofChange replayFormsWrong)

/-- 'choruslaw18.ReplayTwo': WHATEVER THE INPUT: true; the input reads as it did. -/
def replayTwoSpec : ChangeSpec := { name := "replayTwo", fn := fun _ => fun
  | [d] => { results := [.lit (.bool true)], args := [d] }
  | _ => none }
def replayTwoRow : OpenClaim := { program := "ytgofbakhdaegeaagreat", sum := "bda397a390761f09862aa7bf5058119dd17b54825b8a8463e9fb31e2007748aa", func := "chorus/choruslaw18.ReplayTwo", spec := "replayTwo", inPlace := ["slices.overlaps[int]"], unfollowed := true, recurses := true, apart := false }
def ReplayTwoSaid : Prop := replayTwoRow.holds Tryz.pinned (OpenSpec.ofChange replayTwoSpec)

/-- ITS FALSE NEIGHBOUR: 'it returns false'. Refute it at one input. -/
def replayTwoWrong : ChangeSpec := { name := "replayTwo", fn := fun _ => fun
  | [d] => { results := [.lit (.bool false)], args := [d] }
  | _ => none }
def ReplayTwoWrongFalsely : Prop := replayTwoRow.holds Tryz.pinned (OpenSpec.ofChange replayTwoWrong)

/- THE SECOND FORM. 'bulk': how many values and letters a reading holds, each counted each time it is reached (what is shared counts as often as it is met; a slice's spare places count too). A statement '..UptoSaid' is the law's where the arguments, and the package variables that the reading takes, are together of bulk at most 1048576: NARROWER than '..Said'. Prove '..Said' where nothing that the law and all that it calls make is longer than what came in: it says more and counts as full. Else prove '..UptoSaid'. A law counts once. -/
mutual
def uptoBulk {H : Type} : DataW H → Nat
  | .lit (.string bytes) => bytes.length + 1
  | .lit _ => 1
  | .nil => 1
  | .ptr d => uptoBulk d + 1
  | .slice elems spare => uptoBulkAll elems + uptoBulkAll spare + 1
  | .agg parts => uptoBulkAll parts + 1
  | .iface _ d => uptoBulk d + 1
  | .map entries => uptoBulkEntries entries + 1
  | .held _ => 1
def uptoBulkAll {H : Type} : List (DataW H) → Nat
  | [] => 0
  | d :: r => uptoBulk d + uptoBulkAll r
def uptoBulkEntries {H : Type} : List (Lit × DataW H) → Nat
  | [] => 0
  | x :: r => uptoBulkEntry x + uptoBulkEntries r
def uptoBulkEntry {H : Type} : Lit × DataW H → Nat
  | (.string bytes, d) => bytes.length + uptoBulk d + 1
  | (_, d) => uptoBulk d + 1
 end
def uptoSmall : (H : Type) → List (DataW H) → Bool := fun _ ds => decide (uptoBulkAll ds ≤ 1048576)
def OpenSpec.upto (s : _root_.Go.ChangeSpec) : _root_.Go.OpenSpec := { _root_.Go.OpenSpec.ofChange s with cond := some uptoSmall }

/-- 'choruslaw18.Replays', WHERE WHAT IT READS IS OF BULK AT MOST 1048576: true; the input reads as it did. -/
def replaysUptoRow : OpenClaim := { program := "ytgofbakhdaegeaagreat", sum := "bda397a390761f09862aa7bf5058119dd17b54825b8a8463e9fb31e2007748aa", func := "chorus/choruslaw18.Replays", spec := "replays", inPlace := ["slices.overlaps[int]"], unfollowed := true, recurses := true, apart := false, narrowed := true }
def ReplaysUptoSaid : Prop := replaysUptoRow.holds Tryz.pinned (OpenSpec.upto replaysSpec)

/-- 'choruslaw18.ReplayOne', WHERE WHAT IT READS IS OF BULK AT MOST 1048576: true; the input reads as it did. -/
def replayOneUptoRow : OpenClaim := { program := "ytgofbakhdaegeaagreat", sum := "bda397a390761f09862aa7bf5058119dd17b54825b8a8463e9fb31e2007748aa", func := "chorus/choruslaw18.ReplayOne", spec := "replayOne", inPlace := ["slices.overlaps[int]"], unfollowed := true, recurses := true, apart := false, narrowed := true }
def ReplayOneUptoSaid : Prop := replayOneUptoRow.holds Tryz.pinned (OpenSpec.upto replayOneSpec)

/-- 'choruslaw18.ReplayRow', WHERE WHAT IT READS IS OF BULK AT MOST 1048576: true; the input reads as it did. -/
def replayRowUptoRow : OpenClaim := { program := "ytgofbakhdaegeaagreat", sum := "bda397a390761f09862aa7bf5058119dd17b54825b8a8463e9fb31e2007748aa", func := "chorus/choruslaw18.ReplayRow", spec := "replayRow", inPlace := ["slices.overlaps[int]"], unfollowed := true, recurses := true, apart := false, narrowed := true }
def ReplayRowUptoSaid : Prop := replayRowUptoRow.holds Tryz.pinned (OpenSpec.upto replayRowSpec)

/-- 'choruslaw18.ReplayForms', WHERE WHAT IT READS IS OF BULK AT MOST 1048576: true; the input reads as it did. -/
def replayFormsUptoRow : OpenClaim := { program := "ytgofbakhdaegeaagreat", sum := "bda397a390761f09862aa7bf5058119dd17b54825b8a8463e9fb31e2007748aa", func := "chorus/choruslaw18.ReplayForms", spec := "replayForms", inPlace := ["slices.overlaps[int]"], unfollowed := true, recurses := true, apart := false, narrowed := true }
def ReplayFormsUptoSaid : Prop := replayFormsUptoRow.holds Tryz.pinned (OpenSpec.upto replayFormsSpec)

/-- 'choruslaw18.ReplayTwo', WHERE WHAT IT READS IS OF BULK AT MOST 1048576: true; the input reads as it did. -/
def replayTwoUptoRow : OpenClaim := { program := "ytgofbakhdaegeaagreat", sum := "bda397a390761f09862aa7bf5058119dd17b54825b8a8463e9fb31e2007748aa", func := "chorus/choruslaw18.ReplayTwo", spec := "replayTwo", inPlace := ["slices.overlaps[int]"], unfollowed := true, recurses := true, apart := false, narrowed := true }
def ReplayTwoUptoSaid : Prop := replayTwoUptoRow.holds Tryz.pinned (OpenSpec.upto replayTwoSpec)

end Rows
end Go.Proofs.YtgofbakhdaegeaaGreat
