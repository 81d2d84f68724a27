/-
  No cell of these rows narrows 'for every input' (looked for: loops, veiled, ifaces, maps, wideKeys, modest, calm, conditions, laid).
  DERIVED. THE GIVEN ROWS OF THIS SEAT. 13 by the template 'for every input the law returns true; each argument reads behind the call as it read before'; 0 by the template 'total and deterministic' (their statements: YtlpfdnfcmdikiaaGreatTotals.lean).
  GIVEN WITH THE SEED: the statements are not yours to turn. If you find one false, say at which input.
  Laid BY PROGRAM, IN A SANDBOX (cutbox-rows.mjs): the forced cells as the released guide's own fill.sh prints them over the translation 2b988c43494bb803… (all of the seat's roots in one cut). By AI agents, Wed Nov 11 2026. No macro, syntax, notation, axiom, sorry.
-/
import Derived.Test.YtlpfdnfcmdikiaaGreatChecked
import GoSem.Claim
import GoSem.ClaimJoined
import GoSem.ClaimMapViews
import Derived.JoinedTies
import Derived.KernelRfl
namespace Go.Proofs.YtlpfdnfcmdikiaaGreat
/- THE CELL 'sum', in the pinned program and in every row, IS THE sha256 OF THE DUMP (.gsa) THAT YtlpfdnfcmdikiaaGreatProg.lean LOADS. Nothing in Lean hashes anything: it is a label: what it is worth is what the hold of that sum in a sandbox is worth. -/
noncomputable def Tryz.pinned : Pinned := { name := "ytlpfdnfcmdikiaagreat", sum := "2b988c43494bb80358f3a6fc83a87b0ee9081e934145582e8110a9404c22f0da", checked := Tryz.checked }
namespace Rows
def none {H : Type} : Left H := { results := [], args := [] }

/-- 'choruslaw19.Claims': WHATEVER THE INPUT: true; the input reads as it did. -/
def claimsSpec : ChangeSpec := { name := "claims", fn := fun _ => fun
  | [d1, d2] => { results := [.lit (.bool true)], args := [d1, d2] }
  | _ => none }
def claimsRow : OpenClaim := { program := "ytlpfdnfcmdikiaagreat", sum := "2b988c43494bb80358f3a6fc83a87b0ee9081e934145582e8110a9404c22f0da", func := "chorus/choruslaw19.Claims", spec := "claims", inPlace := ["slices.overlaps[int]"], unfollowed := true, recurses := true, apart := false }
def ClaimsSaid : Prop := claimsRow.holds Tryz.pinned (OpenSpec.ofChange claimsSpec)

/-- ITS FALSE NEIGHBOUR: 'it returns false'. Refute it at one input. -/
def claimsWrong : ChangeSpec := { name := "claims", fn := fun _ => fun
  | [d1, d2] => { results := [.lit (.bool false)], args := [d1, d2] }
  | _ => none }
def ClaimsWrongFalsely : Prop := claimsRow.holds Tryz.pinned (OpenSpec.ofChange claimsWrong)

/-- 'choruslaw19.ClaimPlaces': WHATEVER THE INPUT: true; the input reads as it did. -/
def claimPlacesSpec : ChangeSpec := { name := "claimPlaces", fn := fun _ => fun
  | [d] => { results := [.lit (.bool true)], args := [d] }
  | _ => none }
def claimPlacesRow : OpenClaim := { program := "ytlpfdnfcmdikiaagreat", sum := "2b988c43494bb80358f3a6fc83a87b0ee9081e934145582e8110a9404c22f0da", func := "chorus/choruslaw19.ClaimPlaces", spec := "claimPlaces", inPlace := ["slices.overlaps[int]"], unfollowed := true, recurses := true, apart := false }
def ClaimPlacesSaid : Prop := claimPlacesRow.holds Tryz.pinned (OpenSpec.ofChange claimPlacesSpec)

/-- ITS FALSE NEIGHBOUR: 'it returns false'. Refute it at one input. -/
def claimPlacesWrong : ChangeSpec := { name := "claimPlaces", fn := fun _ => fun
  | [d] => { results := [.lit (.bool false)], args := [d] }
  | _ => none }
def ClaimPlacesWrongFalsely : Prop := claimPlacesRow.holds Tryz.pinned (OpenSpec.ofChange claimPlacesWrong)

/-- 'choruslaw19.ClaimRace': WHATEVER THE INPUT: true; the input reads as it did. -/
def claimRaceSpec : ChangeSpec := { name := "claimRace", fn := fun _ => fun
  | [d1, d2] => { results := [.lit (.bool true)], args := [d1, d2] }
  | _ => none }
def claimRaceRow : OpenClaim := { program := "ytlpfdnfcmdikiaagreat", sum := "2b988c43494bb80358f3a6fc83a87b0ee9081e934145582e8110a9404c22f0da", func := "chorus/choruslaw19.ClaimRace", spec := "claimRace", inPlace := ["slices.overlaps[int]"], unfollowed := true, recurses := true, apart := false }
def ClaimRaceSaid : Prop := claimRaceRow.holds Tryz.pinned (OpenSpec.ofChange claimRaceSpec)

/-- ITS FALSE NEIGHBOUR: 'it returns false'. Refute it at one input. -/
def claimRaceWrong : ChangeSpec := { name := "claimRace", fn := fun _ => fun
  | [d1, d2] => { results := [.lit (.bool false)], args := [d1, d2] }
  | _ => none }
def ClaimRaceWrongFalsely : Prop := claimRaceRow.holds Tryz.pinned (OpenSpec.ofChange claimRaceWrong)

/-- 'choruslaw19.ClaimFenced': WHATEVER THE INPUT: true; the input reads as it did. -/
def claimFencedSpec : ChangeSpec := { name := "claimFenced", fn := fun _ => fun
  | [d1, d2, d3] => { results := [.lit (.bool true)], args := [d1, d2, d3] }
  | _ => none }
def claimFencedRow : OpenClaim := { program := "ytlpfdnfcmdikiaagreat", sum := "2b988c43494bb80358f3a6fc83a87b0ee9081e934145582e8110a9404c22f0da", func := "chorus/choruslaw19.ClaimFenced", spec := "claimFenced", inPlace := ["slices.overlaps[int]"], unfollowed := true, recurses := true, apart := false }
def ClaimFencedSaid : Prop := claimFencedRow.holds Tryz.pinned (OpenSpec.ofChange claimFencedSpec)

/-- ITS FALSE NEIGHBOUR: 'it returns false'. Refute it at one input. -/
def claimFencedWrong : ChangeSpec := { name := "claimFenced", fn := fun _ => fun
  | [d1, d2, d3] => { results := [.lit (.bool false)], args := [d1, d2, d3] }
  | _ => none }
def ClaimFencedWrongFalsely : Prop := claimFencedRow.holds Tryz.pinned (OpenSpec.ofChange claimFencedWrong)

/-- 'choruslaw19.ClaimForms': WHATEVER THE INPUT: true; the input reads as it did. -/
def claimFormsSpec : ChangeSpec := { name := "claimForms", fn := fun _ => fun
  | [d1, d2] => { results := [.lit (.bool true)], args := [d1, d2] }
  | _ => none }
def claimFormsRow : OpenClaim := { program := "ytlpfdnfcmdikiaagreat", sum := "2b988c43494bb80358f3a6fc83a87b0ee9081e934145582e8110a9404c22f0da", func := "chorus/choruslaw19.ClaimForms", spec := "claimForms", inPlace := ["slices.overlaps[int]"], unfollowed := true, recurses := true, apart := false }
def ClaimFormsSaid : Prop := claimFormsRow.holds Tryz.pinned (OpenSpec.ofChange claimFormsSpec)

/-- ITS FALSE NEIGHBOUR: 'it returns false'. Refute it at one input. -/
def claimFormsWrong : ChangeSpec := { name := "claimForms", fn := fun _ => fun
  | [d1, d2] => { results := [.lit (.bool false)], args := [d1, d2] }
  | _ => none }
def ClaimFormsWrongFalsely : Prop := claimFormsRow.holds Tryz.pinned (OpenSpec.ofChange claimFormsWrong)

/-- 'choruslaw19.ClaimRoom': WHATEVER THE INPUT: true; the input reads as it did. -/
def claimRoomSpec : ChangeSpec := { name := "claimRoom", fn := fun _ => fun
  | [d] => { results := [.lit (.bool true)], args := [d] }
  | _ => none }
def claimRoomRow : OpenClaim := { program := "ytlpfdnfcmdikiaagreat", sum := "2b988c43494bb80358f3a6fc83a87b0ee9081e934145582e8110a9404c22f0da", func := "chorus/choruslaw19.ClaimRoom", spec := "claimRoom", inPlace := ["slices.overlaps[int]"], unfollowed := true, recurses := true, apart := false }
def ClaimRoomSaid : Prop := claimRoomRow.holds Tryz.pinned (OpenSpec.ofChange claimRoomSpec)

/-- ITS FALSE NEIGHBOUR: 'it returns false'. Refute it at one input. -/
def claimRoomWrong : ChangeSpec := { name := "claimRoom", fn := fun _ => fun
  | [d] => { results := [.lit (.bool false)], args := [d] }
  | _ => none }
def ClaimRoomWrongFalsely : Prop := claimRoomRow.holds Tryz.pinned (OpenSpec.ofChange claimRoomWrong)

/-- 'choruslaw19.ClaimOwn': WHATEVER THE INPUT: true; the input reads as it did. -/
def claimOwnSpec : ChangeSpec := { name := "claimOwn", fn := fun _ => fun
  | [d1, d2] => { results := [.lit (.bool true)], args := [d1, d2] }
  | _ => none }
def claimOwnRow : OpenClaim := { program := "ytlpfdnfcmdikiaagreat", sum := "2b988c43494bb80358f3a6fc83a87b0ee9081e934145582e8110a9404c22f0da", func := "chorus/choruslaw19.ClaimOwn", spec := "claimOwn", inPlace := ["slices.overlaps[int]"], unfollowed := true, recurses := true, apart := false }
def ClaimOwnSaid : Prop := claimOwnRow.holds Tryz.pinned (OpenSpec.ofChange claimOwnSpec)

/-- ITS FALSE NEIGHBOUR: 'it returns false'. Refute it at one input. -/
def claimOwnWrong : ChangeSpec := { name := "claimOwn", fn := fun _ => fun
  | [d1, d2] => { results := [.lit (.bool false)], args := [d1, d2] }
  | _ => none }
def ClaimOwnWrongFalsely : Prop := claimOwnRow.holds Tryz.pinned (OpenSpec.ofChange claimOwnWrong)

/-- 'choruslaw20.Updates': WHATEVER THE INPUT: true; the input reads as it did. -/
def updatesSpec : ChangeSpec := { name := "updates", fn := fun _ => fun
  | [d1, d2] => { results := [.lit (.bool true)], args := [d1, d2] }
  | _ => none }
def updatesRow : OpenClaim := { program := "ytlpfdnfcmdikiaagreat", sum := "2b988c43494bb80358f3a6fc83a87b0ee9081e934145582e8110a9404c22f0da", func := "chorus/choruslaw20.Updates", spec := "updates", inPlace := ["slices.overlaps[int]"], unfollowed := true, recurses := true, apart := false }
def UpdatesSaid : Prop := updatesRow.holds Tryz.pinned (OpenSpec.ofChange updatesSpec)

/-- ITS FALSE NEIGHBOUR: 'it returns false'. Refute it at one input. -/
def updatesWrong : ChangeSpec := { name := "updates", fn := fun _ => fun
  | [d1, d2] => { results := [.lit (.bool false)], args := [d1, d2] }
  | _ => none }
def UpdatesWrongFalsely : Prop := updatesRow.holds Tryz.pinned (OpenSpec.ofChange updatesWrong)

/-- 'choruslaw20.UpdateAlone': WHATEVER THE INPUT: true; the input reads as it did. -/
def updateAloneSpec : ChangeSpec := { name := "updateAlone", fn := fun _ => fun
  | [d1, d2] => { results := [.lit (.bool true)], args := [d1, d2] }
  | _ => none }
def updateAloneRow : OpenClaim := { program := "ytlpfdnfcmdikiaagreat", sum := "2b988c43494bb80358f3a6fc83a87b0ee9081e934145582e8110a9404c22f0da", func := "chorus/choruslaw20.UpdateAlone", spec := "updateAlone", inPlace := ["slices.overlaps[int]"], unfollowed := true, recurses := true, apart := false }
def UpdateAloneSaid : Prop := updateAloneRow.holds Tryz.pinned (OpenSpec.ofChange updateAloneSpec)

/-- ITS FALSE NEIGHBOUR: 'it returns false'. Refute it at one input. -/
def updateAloneWrong : ChangeSpec := { name := "updateAlone", fn := fun _ => fun
  | [d1, d2] => { results := [.lit (.bool false)], args := [d1, d2] }
  | _ => none }
def UpdateAloneWrongFalsely : Prop := updateAloneRow.holds Tryz.pinned (OpenSpec.ofChange updateAloneWrong)

/-- 'choruslaw20.UpdateSteps': WHATEVER THE INPUT: true; the input reads as it did. -/
def updateStepsSpec : ChangeSpec := { name := "updateSteps", fn := fun _ => fun
  | [d1, d2] => { results := [.lit (.bool true)], args := [d1, d2] }
  | _ => none }
def updateStepsRow : OpenClaim := { program := "ytlpfdnfcmdikiaagreat", sum := "2b988c43494bb80358f3a6fc83a87b0ee9081e934145582e8110a9404c22f0da", func := "chorus/choruslaw20.UpdateSteps", spec := "updateSteps", inPlace := ["slices.overlaps[int]"], unfollowed := true, recurses := true, apart := false }
def UpdateStepsSaid : Prop := updateStepsRow.holds Tryz.pinned (OpenSpec.ofChange updateStepsSpec)

/-- ITS FALSE NEIGHBOUR: 'it returns false'. Refute it at one input. -/
def updateStepsWrong : ChangeSpec := { name := "updateSteps", fn := fun _ => fun
  | [d1, d2] => { results := [.lit (.bool false)], args := [d1, d2] }
  | _ => none }
def UpdateStepsWrongFalsely : Prop := updateStepsRow.holds Tryz.pinned (OpenSpec.ofChange updateStepsWrong)

/-- 'choruslaw20.UpdateServed': WHATEVER THE INPUT: true; the input reads as it did. -/
def updateServedSpec : ChangeSpec := { name := "updateServed", fn := fun _ => fun
  | [d1, d2, d3] => { results := [.lit (.bool true)], args := [d1, d2, d3] }
  | _ => none }
def updateServedRow : OpenClaim := { program := "ytlpfdnfcmdikiaagreat", sum := "2b988c43494bb80358f3a6fc83a87b0ee9081e934145582e8110a9404c22f0da", func := "chorus/choruslaw20.UpdateServed", spec := "updateServed", inPlace := ["slices.overlaps[int]"], unfollowed := true, recurses := true, apart := false }
def UpdateServedSaid : Prop := updateServedRow.holds Tryz.pinned (OpenSpec.ofChange updateServedSpec)

/-- ITS FALSE NEIGHBOUR: 'it returns false'. Refute it at one input. -/
def updateServedWrong : ChangeSpec := { name := "updateServed", fn := fun _ => fun
  | [d1, d2, d3] => { results := [.lit (.bool false)], args := [d1, d2, d3] }
  | _ => none }
def UpdateServedWrongFalsely : Prop := updateServedRow.holds Tryz.pinned (OpenSpec.ofChange updateServedWrong)

/-- 'choruslaw20.UpdateForms': WHATEVER THE INPUT: true; the input reads as it did. -/
def updateFormsSpec : ChangeSpec := { name := "updateForms", fn := fun _ => fun
  | [d1, d2] => { results := [.lit (.bool true)], args := [d1, d2] }
  | _ => none }
def updateFormsRow : OpenClaim := { program := "ytlpfdnfcmdikiaagreat", sum := "2b988c43494bb80358f3a6fc83a87b0ee9081e934145582e8110a9404c22f0da", func := "chorus/choruslaw20.UpdateForms", spec := "updateForms", inPlace := ["slices.overlaps[int]"], unfollowed := true, recurses := true, apart := false }
def UpdateFormsSaid : Prop := updateFormsRow.holds Tryz.pinned (OpenSpec.ofChange updateFormsSpec)

/-- ITS FALSE NEIGHBOUR: 'it returns false'. Refute it at one input. -/
def updateFormsWrong : ChangeSpec := { name := "updateForms", fn := fun _ => fun
  | [d1, d2] => { results := [.lit (.bool false)], args := [d1, d2] }
  | _ => none }
def UpdateFormsWrongFalsely : Prop := updateFormsRow.holds Tryz.pinned (OpenSpec.ofChange updateFormsWrong)

/-- 'choruslaw20.UpdateTwo': WHATEVER THE INPUT: true; the input reads as it did. -/
def updateTwoSpec : ChangeSpec := { name := "updateTwo", fn := fun _ => fun
  | [d1, d2, d3] => { results := [.lit (.bool true)], args := [d1, d2, d3] }
  | _ => none }
def updateTwoRow : OpenClaim := { program := "ytlpfdnfcmdikiaagreat", sum := "2b988c43494bb80358f3a6fc83a87b0ee9081e934145582e8110a9404c22f0da", func := "chorus/choruslaw20.UpdateTwo", spec := "updateTwo", inPlace := ["slices.overlaps[int]"], unfollowed := true, recurses := true, apart := false }
def UpdateTwoSaid : Prop := updateTwoRow.holds Tryz.pinned (OpenSpec.ofChange updateTwoSpec)

/-- ITS FALSE NEIGHBOUR: 'it returns false'. Refute it at one input. -/
def updateTwoWrong : ChangeSpec := { name := "updateTwo", fn := fun _ => fun
  | [d1, d2, d3] => { results := [.lit (.bool false)], args := [d1, d2, d3] }
  | _ => none }
def UpdateTwoWrongFalsely : Prop := updateTwoRow.holds Tryz.pinned (OpenSpec.ofChange updateTwoWrong)

/- THE SECOND FORM. 'bulk': how many values and letters a reading holds, each counted each time it is reached (what is shared counts as often as it is met; a slice's spare places count too). A statement '..UptoSaid' is the law's where the arguments, and the package variables that the reading takes, are together of bulk at most 1048576: NARROWER than '..Said'. Prove '..Said' where nothing that the law and all that it calls make is longer than what came in: it says more and counts as full. Else prove '..UptoSaid'. A law counts once. -/
mutual
def uptoBulk {H : Type} : DataW H → Nat
  | .lit (.string bytes) => bytes.length + 1
  | .lit _ => 1
  | .nil => 1
  | .ptr d => uptoBulk d + 1
  | .slice elems spare => uptoBulkAll elems + uptoBulkAll spare + 1
  | .agg parts => uptoBulkAll parts + 1
  | .iface _ d => uptoBulk d + 1
  | .map entries => uptoBulkEntries entries + 1
  | .held _ => 1
def uptoBulkAll {H : Type} : List (DataW H) → Nat
  | [] => 0
  | d :: r => uptoBulk d + uptoBulkAll r
def uptoBulkEntries {H : Type} : List (Lit × DataW H) → Nat
  | [] => 0
  | x :: r => uptoBulkEntry x + uptoBulkEntries r
def uptoBulkEntry {H : Type} : Lit × DataW H → Nat
  | (.string bytes, d) => bytes.length + uptoBulk d + 1
  | (_, d) => uptoBulk d + 1
 end
def uptoSmall : (H : Type) → List (DataW H) → Bool := fun _ ds => decide (uptoBulkAll ds ≤ 1048576)
def OpenSpec.upto (s : _root_.Go.ChangeSpec) : _root_.Go.OpenSpec := { _root_.Go.OpenSpec.ofChange s with cond := some uptoSmall }

/-- 'choruslaw19.Claims', WHERE WHAT IT READS IS OF BULK AT MOST 1048576: true; the input reads as it did. -/
def claimsUptoRow : OpenClaim := { program := "ytlpfdnfcmdikiaagreat", sum := "2b988c43494bb80358f3a6fc83a87b0ee9081e934145582e8110a9404c22f0da", func := "chorus/choruslaw19.Claims", spec := "claims", inPlace := ["slices.overlaps[int]"], unfollowed := true, recurses := true, apart := false, narrowed := true }
def ClaimsUptoSaid : Prop := claimsUptoRow.holds Tryz.pinned (OpenSpec.upto claimsSpec)

/-- 'choruslaw19.ClaimPlaces', WHERE WHAT IT READS IS OF BULK AT MOST 1048576: true; the input reads as it did. -/
def claimPlacesUptoRow : OpenClaim := { program := "ytlpfdnfcmdikiaagreat", sum := "2b988c43494bb80358f3a6fc83a87b0ee9081e934145582e8110a9404c22f0da", func := "chorus/choruslaw19.ClaimPlaces", spec := "claimPlaces", inPlace := ["slices.overlaps[int]"], unfollowed := true, recurses := true, apart := false, narrowed := true }
def ClaimPlacesUptoSaid : Prop := claimPlacesUptoRow.holds Tryz.pinned (OpenSpec.upto claimPlacesSpec)

/-- 'choruslaw19.ClaimRace', WHERE WHAT IT READS IS OF BULK AT MOST 1048576: true; the input reads as it did. -/
def claimRaceUptoRow : OpenClaim := { program := "ytlpfdnfcmdikiaagreat", sum := "2b988c43494bb80358f3a6fc83a87b0ee9081e934145582e8110a9404c22f0da", func := "chorus/choruslaw19.ClaimRace", spec := "claimRace", inPlace := ["slices.overlaps[int]"], unfollowed := true, recurses := true, apart := false, narrowed := true }
def ClaimRaceUptoSaid : Prop := claimRaceUptoRow.holds Tryz.pinned (OpenSpec.upto claimRaceSpec)

/-- 'choruslaw19.ClaimFenced', WHERE WHAT IT READS IS OF BULK AT MOST 1048576: true; the input reads as it did. -/
def claimFencedUptoRow : OpenClaim := { program := "ytlpfdnfcmdikiaagreat", sum := "2b988c43494bb80358f3a6fc83a87b0ee9081e934145582e8110a9404c22f0da", func := "chorus/choruslaw19.ClaimFenced", spec := "claimFenced", inPlace := ["slices.overlaps[int]"], unfollowed := true, recurses := true, apart := false, narrowed := true }
def ClaimFencedUptoSaid : Prop := claimFencedUptoRow.holds Tryz.pinned (OpenSpec.upto claimFencedSpec)

/-- 'choruslaw19.ClaimForms', WHERE WHAT IT READS IS OF BULK AT MOST 1048576: true; the input reads as it did. -/
def claimFormsUptoRow : OpenClaim := { program := "ytlpfdnfcmdikiaagreat", sum := "2b988c43494bb80358f3a6fc83a87b0ee9081e934145582e8110a9404c22f0da", func := "chorus/choruslaw19.ClaimForms", spec := "claimForms", inPlace := ["slices.overlaps[int]"], unfollowed := true, recurses := true, apart := false, narrowed := true }
def ClaimFormsUptoSaid : Prop := claimFormsUptoRow.holds Tryz.pinned (OpenSpec.upto claimFormsSpec)

/-- 'choruslaw19.ClaimRoom', WHERE WHAT IT READS IS OF BULK AT MOST 1048576: true; the input reads as it did. -/
def claimRoomUptoRow : OpenClaim := { program := "ytlpfdnfcmdikiaagreat", sum := "2b988c43494bb80358f3a6fc83a87b0ee9081e934145582e8110a9404c22f0da", func := "chorus/choruslaw19.ClaimRoom", spec := "claimRoom", inPlace := ["slices.overlaps[int]"], unfollowed := true, recurses := true, apart := false, narrowed := true }
def ClaimRoomUptoSaid : Prop := claimRoomUptoRow.holds Tryz.pinned (OpenSpec.upto claimRoomSpec)

/-- 'choruslaw19.ClaimOwn', WHERE WHAT IT READS IS OF BULK AT MOST 1048576: true; the input reads as it did. -/
def claimOwnUptoRow : OpenClaim := { program := "ytlpfdnfcmdikiaagreat", sum := "2b988c43494bb80358f3a6fc83a87b0ee9081e934145582e8110a9404c22f0da", func := "chorus/choruslaw19.ClaimOwn", spec := "claimOwn", inPlace := ["slices.overlaps[int]"], unfollowed := true, recurses := true, apart := false, narrowed := true }
def ClaimOwnUptoSaid : Prop := claimOwnUptoRow.holds Tryz.pinned (OpenSpec.upto claimOwnSpec)

/-- 'choruslaw20.Updates', WHERE WHAT IT READS IS OF BULK AT MOST 1048576: true; the input reads as it did. -/
def updatesUptoRow : OpenClaim := { program := "ytlpfdnfcmdikiaagreat", sum := "2b988c43494bb80358f3a6fc83a87b0ee9081e934145582e8110a9404c22f0da", func := "chorus/choruslaw20.Updates", spec := "updates", inPlace := ["slices.overlaps[int]"], unfollowed := true, recurses := true, apart := false, narrowed := true }
def UpdatesUptoSaid : Prop := updatesUptoRow.holds Tryz.pinned (OpenSpec.upto updatesSpec)

/-- 'choruslaw20.UpdateAlone', WHERE WHAT IT READS IS OF BULK AT MOST 1048576: true; the input reads as it did. -/
def updateAloneUptoRow : OpenClaim := { program := "ytlpfdnfcmdikiaagreat", sum := "2b988c43494bb80358f3a6fc83a87b0ee9081e934145582e8110a9404c22f0da", func := "chorus/choruslaw20.UpdateAlone", spec := "updateAlone", inPlace := ["slices.overlaps[int]"], unfollowed := true, recurses := true, apart := false, narrowed := true }
def UpdateAloneUptoSaid : Prop := updateAloneUptoRow.holds Tryz.pinned (OpenSpec.upto updateAloneSpec)

/-- 'choruslaw20.UpdateSteps', WHERE WHAT IT READS IS OF BULK AT MOST 1048576: true; the input reads as it did. -/
def updateStepsUptoRow : OpenClaim := { program := "ytlpfdnfcmdikiaagreat", sum := "2b988c43494bb80358f3a6fc83a87b0ee9081e934145582e8110a9404c22f0da", func := "chorus/choruslaw20.UpdateSteps", spec := "updateSteps", inPlace := ["slices.overlaps[int]"], unfollowed := true, recurses := true, apart := false, narrowed := true }
def UpdateStepsUptoSaid : Prop := updateStepsUptoRow.holds Tryz.pinned (OpenSpec.upto updateStepsSpec)

/-- 'choruslaw20.UpdateServed', WHERE WHAT IT READS IS OF BULK AT MOST 1048576: true; the input reads as it did. -/
def updateServedUptoRow : OpenClaim := { program := "ytlpfdnfcmdikiaagreat", sum := "2b988c43494bb80358f3a6fc83a87b0ee9081e934145582e8110a9404c22f0da", func := "chorus/choruslaw20.UpdateServed", spec := "updateServed", inPlace := ["slices.overlaps[int]"], unfollowed := true, recurses := true, apart := false, narrowed := true }
def UpdateServedUptoSaid : Prop := updateServedUptoRow.holds Tryz.pinned (OpenSpec.upto updateServedSpec)

/-- 'choruslaw20.UpdateForms', WHERE WHAT IT READS IS OF BULK AT MOST 1048576: true; the input reads as it did. -/
def updateFormsUptoRow : OpenClaim := { program := "ytlpfdnfcmdikiaagreat", sum := "2b988c43494bb80358f3a6fc83a87b0ee9081e934145582e8110a9404c22f0da", func := "chorus/choruslaw20.UpdateForms", spec := "updateForms", inPlace := ["slices.overlaps[int]"], unfollowed := true, recurses := true, apart := false, narrowed := true }
def UpdateFormsUptoSaid : Prop := updateFormsUptoRow.holds Tryz.pinned (OpenSpec.upto updateFormsSpec)

/-- 'choruslaw20.UpdateTwo', WHERE WHAT IT READS IS OF BULK AT MOST 1048576: true; the input reads as it did. -/
def updateTwoUptoRow : OpenClaim := { program := "ytlpfdnfcmdikiaagreat", sum := "2b988c43494bb80358f3a6fc83a87b0ee9081e934145582e8110a9404c22f0da", func := "chorus/choruslaw20.UpdateTwo", spec := "updateTwo", inPlace := ["slices.overlaps[int]"], unfollowed := true, recurses := true, apart := false, narrowed := true }
def UpdateTwoUptoSaid : Prop := updateTwoUptoRow.holds Tryz.pinned (OpenSpec.upto updateTwoSpec)

end Rows
end Go.Proofs.YtlpfdnfcmdikiaaGreat
