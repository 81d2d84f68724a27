/-
  No cell of these rows narrows 'for every input' (looked for: loops, veiled, ifaces, maps, wideKeys, modest, calm, conditions, laid).
  DERIVED. THE GIVEN ROWS OF THIS SEAT. 5 by the template 'for every input the law returns true; each argument reads behind the call as it read before'; 0 by the template 'total and deterministic' (their statements: YtooniglinjigdaaTotals.lean).
  GIVEN WITH THE SEED: the statements are not yours to turn. If you find one false, say at which input.
  Laid BY PROGRAM, IN A SANDBOX (cutbox-rows.mjs): the forced cells as the released guide's own fill.sh prints them over the translation a2930fe0a803f998… (all of the seat's roots in one cut). By AI agents, Wed Nov 11 2026. No macro, syntax, notation, axiom, sorry.
-/
import Derived.Test.YtooniglinjigdaaChecked
import GoSem.Claim
import GoSem.ClaimJoined
import GoSem.ClaimMapViews
import Derived.JoinedTies
import Derived.KernelRfl
namespace Go.Proofs.Ytooniglinjigdaa
/- THE CELL 'sum', in the pinned program and in every row, IS THE sha256 OF THE DUMP (.gsa) THAT YtooniglinjigdaaProg.lean LOADS. Nothing in Lean hashes anything: it is a label: what it is worth is what the hold of that sum in a sandbox is worth. -/
noncomputable def Try.pinned : Pinned := { name := "ytooniglinjigdaa", sum := "a2930fe0a803f9986694c153030dd4779ad10e8f69fc88ef4b1017ea78072493", checked := Try.checked }
namespace Rows
def none {H : Type} : Left H := { results := [], args := [] }

/-- 'choruslaw14.Starts': WHATEVER THE INPUT: true; the input reads as it did. -/
def startsSpec : ChangeSpec := { name := "starts", fn := fun _ => fun
  | [d1, d2] => { results := [.lit (.bool true)], args := [d1, d2] }
  | _ => none }
def startsRow : OpenClaim := { program := "ytooniglinjigdaa", sum := "a2930fe0a803f9986694c153030dd4779ad10e8f69fc88ef4b1017ea78072493", func := "chorus/choruslaw14.Starts", spec := "starts", unfollowed := true, recurses := true, apart := false }
def StartsSaid : Prop := startsRow.holds Try.pinned (OpenSpec.ofChange startsSpec)

/-- ITS FALSE NEIGHBOUR: 'it returns false'. Refute it at one input. -/
def startsWrong : ChangeSpec := { name := "starts", fn := fun _ => fun
  | [d1, d2] => { results := [.lit (.bool false)], args := [d1, d2] }
  | _ => none }
def StartsWrongFalsely : Prop := startsRow.holds Try.pinned (OpenSpec.ofChange startsWrong)

/-- 'choruslaw14.StartNew': WHATEVER THE INPUT: true; the input reads as it did. -/
def startNewSpec : ChangeSpec := { name := "startNew", fn := fun _ => fun
  | [d1, d2, d3, d4] => { results := [.lit (.bool true)], args := [d1, d2, d3, d4] }
  | _ => none }
def startNewRow : OpenClaim := { program := "ytooniglinjigdaa", sum := "a2930fe0a803f9986694c153030dd4779ad10e8f69fc88ef4b1017ea78072493", func := "chorus/choruslaw14.StartNew", spec := "startNew", unfollowed := true, recurses := true, apart := false }
def StartNewSaid : Prop := startNewRow.holds Try.pinned (OpenSpec.ofChange startNewSpec)

/-- ITS FALSE NEIGHBOUR: 'it returns false'. Refute it at one input. -/
def startNewWrong : ChangeSpec := { name := "startNew", fn := fun _ => fun
  | [d1, d2, d3, d4] => { results := [.lit (.bool false)], args := [d1, d2, d3, d4] }
  | _ => none }
def StartNewWrongFalsely : Prop := startNewRow.holds Try.pinned (OpenSpec.ofChange startNewWrong)

/-- 'choruslaw14.StartCopies': WHATEVER THE INPUT: true; the input reads as it did. -/
def startCopiesSpec : ChangeSpec := { name := "startCopies", fn := fun _ => fun
  | [d] => { results := [.lit (.bool true)], args := [d] }
  | _ => none }
def startCopiesRow : OpenClaim := { program := "ytooniglinjigdaa", sum := "a2930fe0a803f9986694c153030dd4779ad10e8f69fc88ef4b1017ea78072493", func := "chorus/choruslaw14.StartCopies", spec := "startCopies", unfollowed := true, recurses := true, apart := false }
def StartCopiesSaid : Prop := startCopiesRow.holds Try.pinned (OpenSpec.ofChange startCopiesSpec)

/-- ITS FALSE NEIGHBOUR: 'it returns false'. Refute it at one input. -/
def startCopiesWrong : ChangeSpec := { name := "startCopies", fn := fun _ => fun
  | [d] => { results := [.lit (.bool false)], args := [d] }
  | _ => none }
def StartCopiesWrongFalsely : Prop := startCopiesRow.holds Try.pinned (OpenSpec.ofChange startCopiesWrong)

/-- 'choruslaw16.BoardRow': WHATEVER THE INPUT: true; the input reads as it did. -/
def boardRowSpec : ChangeSpec := { name := "boardRow", fn := fun _ => fun
  | [d1, d2] => { results := [.lit (.bool true)], args := [d1, d2] }
  | _ => none }
def boardRowRow : OpenClaim := { program := "ytooniglinjigdaa", sum := "a2930fe0a803f9986694c153030dd4779ad10e8f69fc88ef4b1017ea78072493", func := "chorus/choruslaw16.BoardRow", spec := "boardRow", unfollowed := true, recurses := true, apart := false }
def BoardRowSaid : Prop := boardRowRow.holds Try.pinned (OpenSpec.ofChange boardRowSpec)

/-- ITS FALSE NEIGHBOUR: 'it returns false'. Refute it at one input. -/
def boardRowWrong : ChangeSpec := { name := "boardRow", fn := fun _ => fun
  | [d1, d2] => { results := [.lit (.bool false)], args := [d1, d2] }
  | _ => none }
def BoardRowWrongFalsely : Prop := boardRowRow.holds Try.pinned (OpenSpec.ofChange boardRowWrong)

/-- 'choruslaw16.BoardForms': WHATEVER THE INPUT: true; the input reads as it did. -/
def boardFormsSpec : ChangeSpec := { name := "boardForms", fn := fun _ => fun
  | [d1, d2] => { results := [.lit (.bool true)], args := [d1, d2] }
  | _ => none }
def boardFormsRow : OpenClaim := { program := "ytooniglinjigdaa", sum := "a2930fe0a803f9986694c153030dd4779ad10e8f69fc88ef4b1017ea78072493", func := "chorus/choruslaw16.BoardForms", spec := "boardForms", unfollowed := true, recurses := true, apart := false }
def BoardFormsSaid : Prop := boardFormsRow.holds Try.pinned (OpenSpec.ofChange boardFormsSpec)

/-- ITS FALSE NEIGHBOUR: 'it returns false'. Refute it at one input. -/
def boardFormsWrong : ChangeSpec := { name := "boardForms", fn := fun _ => fun
  | [d1, d2] => { results := [.lit (.bool false)], args := [d1, d2] }
  | _ => none }
def BoardFormsWrongFalsely : Prop := boardFormsRow.holds Try.pinned (OpenSpec.ofChange boardFormsWrong)

/- THE SECOND FORM. 'bulk': how many values and letters a reading holds, each counted each time it is reached (what is shared counts as often as it is met; a slice's spare places count too). A statement '..UptoSaid' is the law's where the arguments, and the package variables that the reading takes, are together of bulk at most 1048576: NARROWER than '..Said'. Prove '..Said' where nothing that the law and all that it calls make is longer than what came in: it says more and counts as full. Else prove '..UptoSaid'. A law counts once. -/
mutual
def uptoBulk {H : Type} : DataW H → Nat
  | .lit (.string bytes) => bytes.length + 1
  | .lit _ => 1
  | .nil => 1
  | .ptr d => uptoBulk d + 1
  | .slice elems spare => uptoBulkAll elems + uptoBulkAll spare + 1
  | .agg parts => uptoBulkAll parts + 1
  | .iface _ d => uptoBulk d + 1
  | .map entries => uptoBulkEntries entries + 1
  | .held _ => 1
def uptoBulkAll {H : Type} : List (DataW H) → Nat
  | [] => 0
  | d :: r => uptoBulk d + uptoBulkAll r
def uptoBulkEntries {H : Type} : List (Lit × DataW H) → Nat
  | [] => 0
  | x :: r => uptoBulkEntry x + uptoBulkEntries r
def uptoBulkEntry {H : Type} : Lit × DataW H → Nat
  | (.string bytes, d) => bytes.length + uptoBulk d + 1
  | (_, d) => uptoBulk d + 1
 end
def uptoSmall : (H : Type) → List (DataW H) → Bool := fun _ ds => decide (uptoBulkAll ds ≤ 1048576)
def OpenSpec.upto (s : _root_.Go.ChangeSpec) : _root_.Go.OpenSpec := { _root_.Go.OpenSpec.ofChange s with cond := some uptoSmall }

/-- 'choruslaw14.Starts', WHERE WHAT IT READS IS OF BULK AT MOST 1048576: true; the input reads as it did. -/
def startsUptoRow : OpenClaim := { program := "ytooniglinjigdaa", sum := "a2930fe0a803f9986694c153030dd4779ad10e8f69fc88ef4b1017ea78072493", func := "chorus/choruslaw14.Starts", spec := "starts", unfollowed := true, recurses := true, apart := false, narrowed := true }
def StartsUptoSaid : Prop := startsUptoRow.holds Try.pinned (OpenSpec.upto startsSpec)

/-- 'choruslaw14.StartNew', WHERE WHAT IT READS IS OF BULK AT MOST 1048576: true; the input reads as it did. -/
def startNewUptoRow : OpenClaim := { program := "ytooniglinjigdaa", sum := "a2930fe0a803f9986694c153030dd4779ad10e8f69fc88ef4b1017ea78072493", func := "chorus/choruslaw14.StartNew", spec := "startNew", unfollowed := true, recurses := true, apart := false, narrowed := true }
def StartNewUptoSaid : Prop := startNewUptoRow.holds Try.pinned (OpenSpec.upto startNewSpec)

/-- 'choruslaw14.StartCopies', WHERE WHAT IT READS IS OF BULK AT MOST 1048576: true; the input reads as it did. -/
def startCopiesUptoRow : OpenClaim := { program := "ytooniglinjigdaa", sum := "a2930fe0a803f9986694c153030dd4779ad10e8f69fc88ef4b1017ea78072493", func := "chorus/choruslaw14.StartCopies", spec := "startCopies", unfollowed := true, recurses := true, apart := false, narrowed := true }
def StartCopiesUptoSaid : Prop := startCopiesUptoRow.holds Try.pinned (OpenSpec.upto startCopiesSpec)

/-- 'choruslaw16.BoardRow', WHERE WHAT IT READS IS OF BULK AT MOST 1048576: true; the input reads as it did. -/
def boardRowUptoRow : OpenClaim := { program := "ytooniglinjigdaa", sum := "a2930fe0a803f9986694c153030dd4779ad10e8f69fc88ef4b1017ea78072493", func := "chorus/choruslaw16.BoardRow", spec := "boardRow", unfollowed := true, recurses := true, apart := false, narrowed := true }
def BoardRowUptoSaid : Prop := boardRowUptoRow.holds Try.pinned (OpenSpec.upto boardRowSpec)

/-- 'choruslaw16.BoardForms', WHERE WHAT IT READS IS OF BULK AT MOST 1048576: true; the input reads as it did. -/
def boardFormsUptoRow : OpenClaim := { program := "ytooniglinjigdaa", sum := "a2930fe0a803f9986694c153030dd4779ad10e8f69fc88ef4b1017ea78072493", func := "chorus/choruslaw16.BoardForms", spec := "boardForms", unfollowed := true, recurses := true, apart := false, narrowed := true }
def BoardFormsUptoSaid : Prop := boardFormsUptoRow.holds Try.pinned (OpenSpec.upto boardFormsSpec)

end Rows
end Go.Proofs.Ytooniglinjigdaa
