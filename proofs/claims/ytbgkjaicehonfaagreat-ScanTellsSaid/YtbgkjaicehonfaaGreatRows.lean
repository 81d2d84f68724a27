/-
  No cell of these rows narrows 'for every input' (looked for: loops, veiled, ifaces, maps, wideKeys, modest, calm, conditions, laid).
  DERIVED. THE GIVEN ROWS OF THIS SEAT. 6 by the template 'for every input the law returns true; each argument reads behind the call as it read before'; 0 by the template 'total and deterministic' (their statements: YtbgkjaicehonfaaGreatTotals.lean).
  GIVEN WITH THE SEED: the statements are not yours to turn. If you find one false, say at which input.
  Laid BY PROGRAM, IN A SANDBOX (cutbox-rows.mjs): the forced cells as the released guide's own fill.sh prints them over the translation c1828fb4d4e64834… (all of the seat's roots in one cut). By AI agents, Wed Nov 11 2026. No macro, syntax, notation, axiom, sorry.
-/
import Derived.Test.YtbgkjaicehonfaaGreatChecked
import GoSem.Claim
import GoSem.ClaimJoined
import GoSem.ClaimMapViews
import Derived.JoinedTies
import Derived.KernelRfl
namespace Go.Proofs.YtbgkjaicehonfaaGreat
/- THE CELL 'sum', in the pinned program and in every row, IS THE sha256 OF THE DUMP (.gsa) THAT YtbgkjaicehonfaaGreatProg.lean LOADS. Nothing in Lean hashes anything: it is a label: what it is worth is what the hold of that sum in a sandbox is worth. -/
noncomputable def Tryz.pinned : Pinned := { name := "ytbgkjaicehonfaagreat", sum := "c1828fb4d4e648342bd4f7ea0ae2d8d37ba20a767d0c6cf2a7de2a68dfba4bf7", checked := Tryz.checked }
namespace Rows
def none {H : Type} : Left H := { results := [], args := [] }

/-- 'choruslaw22.ScanFences': WHATEVER THE INPUT: true; the input reads as it did. -/
def scanFencesSpec : ChangeSpec := { name := "scanFences", fn := fun _ => fun
  | [d] => { results := [.lit (.bool true)], args := [d] }
  | _ => none }
def scanFencesRow : OpenClaim := { program := "ytbgkjaicehonfaagreat", sum := "c1828fb4d4e648342bd4f7ea0ae2d8d37ba20a767d0c6cf2a7de2a68dfba4bf7", func := "chorus/choruslaw22.ScanFences", spec := "scanFences", inPlace := ["slices.overlaps[int]"], unfollowed := true, recurses := true, apart := false }
def ScanFencesSaid : Prop := scanFencesRow.holds Tryz.pinned (OpenSpec.ofChange scanFencesSpec)

/-- ITS FALSE NEIGHBOUR: 'it returns false'. Refute it at one input. -/
def scanFencesWrong : ChangeSpec := { name := "scanFences", fn := fun _ => fun
  | [d] => { results := [.lit (.bool false)], args := [d] }
  | _ => none }
def ScanFencesWrongFalsely : Prop := scanFencesRow.holds Tryz.pinned (OpenSpec.ofChange scanFencesWrong)

/-- 'choruslaw22.ScanTells': WHATEVER THE INPUT: true; the input reads as it did. -/
def scanTellsSpec : ChangeSpec := { name := "scanTells", fn := fun _ => fun
  | [d1, d2] => { results := [.lit (.bool true)], args := [d1, d2] }
  | _ => none }
def scanTellsRow : OpenClaim := { program := "ytbgkjaicehonfaagreat", sum := "c1828fb4d4e648342bd4f7ea0ae2d8d37ba20a767d0c6cf2a7de2a68dfba4bf7", func := "chorus/choruslaw22.ScanTells", spec := "scanTells", inPlace := ["slices.overlaps[int]"], unfollowed := true, recurses := true, apart := false }
def ScanTellsSaid : Prop := scanTellsRow.holds Tryz.pinned (OpenSpec.ofChange scanTellsSpec)

/-- ITS FALSE NEIGHBOUR: 'it returns false'. Refute it at one input. -/
def scanTellsWrong : ChangeSpec := { name := "scanTells", fn := fun _ => fun
  | [d1, d2] => { results := [.lit (.bool false)], args := [d1, d2] }
  | _ => none }
def ScanTellsWrongFalsely : Prop := scanTellsRow.holds Tryz.pinned (OpenSpec.ofChange scanTellsWrong)

/-- 'choruslaw22.ScanSteps': WHATEVER THE INPUT: true; the input reads as it did. -/
def scanStepsSpec : ChangeSpec := { name := "scanSteps", fn := fun _ => fun
  | [d1, d2] => { results := [.lit (.bool true)], args := [d1, d2] }
  | _ => none }
def scanStepsRow : OpenClaim := { program := "ytbgkjaicehonfaagreat", sum := "c1828fb4d4e648342bd4f7ea0ae2d8d37ba20a767d0c6cf2a7de2a68dfba4bf7", func := "chorus/choruslaw22.ScanSteps", spec := "scanSteps", inPlace := ["slices.overlaps[int]"], unfollowed := true, recurses := true, apart := false }
def ScanStepsSaid : Prop := scanStepsRow.holds Tryz.pinned (OpenSpec.ofChange scanStepsSpec)

/-- ITS FALSE NEIGHBOUR: 'it returns false'. Refute it at one input. -/
def scanStepsWrong : ChangeSpec := { name := "scanSteps", fn := fun _ => fun
  | [d1, d2] => { results := [.lit (.bool false)], args := [d1, d2] }
  | _ => none }
def ScanStepsWrongFalsely : Prop := scanStepsRow.holds Tryz.pinned (OpenSpec.ofChange scanStepsWrong)

/-- 'choruslaw22.ScanForms': WHATEVER THE INPUT: true; the input reads as it did. -/
def scanFormsSpec : ChangeSpec := { name := "scanForms", fn := fun _ => fun
  | [d1, d2] => { results := [.lit (.bool true)], args := [d1, d2] }
  | _ => none }
def scanFormsRow : OpenClaim := { program := "ytbgkjaicehonfaagreat", sum := "c1828fb4d4e648342bd4f7ea0ae2d8d37ba20a767d0c6cf2a7de2a68dfba4bf7", func := "chorus/choruslaw22.ScanForms", spec := "scanForms", inPlace := ["slices.overlaps[int]"], unfollowed := true, recurses := true, apart := false }
def ScanFormsSaid : Prop := scanFormsRow.holds Tryz.pinned (OpenSpec.ofChange scanFormsSpec)

/-- ITS FALSE NEIGHBOUR: 'it returns false'. Refute it at one input. -/
def scanFormsWrong : ChangeSpec := { name := "scanForms", fn := fun _ => fun
  | [d1, d2] => { results := [.lit (.bool false)], args := [d1, d2] }
  | _ => none }
def ScanFormsWrongFalsely : Prop := scanFormsRow.holds Tryz.pinned (OpenSpec.ofChange scanFormsWrong)

/-- 'choruslaw22.ScanHolds': WHATEVER THE INPUT: true; the input reads as it did. -/
def scanHoldsSpec : ChangeSpec := { name := "scanHolds", fn := fun _ => fun
  | [d] => { results := [.lit (.bool true)], args := [d] }
  | _ => none }
def scanHoldsRow : OpenClaim := { program := "ytbgkjaicehonfaagreat", sum := "c1828fb4d4e648342bd4f7ea0ae2d8d37ba20a767d0c6cf2a7de2a68dfba4bf7", func := "chorus/choruslaw22.ScanHolds", spec := "scanHolds", inPlace := ["slices.overlaps[int]"], unfollowed := true, recurses := true, apart := false }
def ScanHoldsSaid : Prop := scanHoldsRow.holds Tryz.pinned (OpenSpec.ofChange scanHoldsSpec)

/-- ITS FALSE NEIGHBOUR: 'it returns false'. Refute it at one input. -/
def scanHoldsWrong : ChangeSpec := { name := "scanHolds", fn := fun _ => fun
  | [d] => { results := [.lit (.bool false)], args := [d] }
  | _ => none }
def ScanHoldsWrongFalsely : Prop := scanHoldsRow.holds Tryz.pinned (OpenSpec.ofChange scanHoldsWrong)

/-- 'choruslaw21.LookSees': WHATEVER THE INPUT: true; the input reads as it did. -/
def lookSeesSpec : ChangeSpec := { name := "lookSees", fn := fun _ => fun
  | [d1, d2] => { results := [.lit (.bool true)], args := [d1, d2] }
  | _ => none }
def lookSeesRow : OpenClaim := { program := "ytbgkjaicehonfaagreat", sum := "c1828fb4d4e648342bd4f7ea0ae2d8d37ba20a767d0c6cf2a7de2a68dfba4bf7", func := "chorus/choruslaw21.LookSees", spec := "lookSees", inPlace := ["slices.overlaps[int]"], unfollowed := true, recurses := true, apart := false }
def LookSeesSaid : Prop := lookSeesRow.holds Tryz.pinned (OpenSpec.ofChange lookSeesSpec)

/-- ITS FALSE NEIGHBOUR: 'it returns false'. Refute it at one input. -/
def lookSeesWrong : ChangeSpec := { name := "lookSees", fn := fun _ => fun
  | [d1, d2] => { results := [.lit (.bool false)], args := [d1, d2] }
  | _ => none }
def LookSeesWrongFalsely : Prop := lookSeesRow.holds Tryz.pinned (OpenSpec.ofChange lookSeesWrong)

/- THE SECOND FORM. 'bulk': how many values and letters a reading holds, each counted each time it is reached (what is shared counts as often as it is met; a slice's spare places count too). A statement '..UptoSaid' is the law's where the arguments, and the package variables that the reading takes, are together of bulk at most 1048576: NARROWER than '..Said'. Prove '..Said' where nothing that the law and all that it calls make is longer than what came in: it says more and counts as full. Else prove '..UptoSaid'. A law counts once. -/
mutual
def uptoBulk {H : Type} : DataW H → Nat
  | .lit (.string bytes) => bytes.length + 1
  | .lit _ => 1
  | .nil => 1
  | .ptr d => uptoBulk d + 1
  | .slice elems spare => uptoBulkAll elems + uptoBulkAll spare + 1
  | .agg parts => uptoBulkAll parts + 1
  | .iface _ d => uptoBulk d + 1
  | .map entries => uptoBulkEntries entries + 1
  | .held _ => 1
def uptoBulkAll {H : Type} : List (DataW H) → Nat
  | [] => 0
  | d :: r => uptoBulk d + uptoBulkAll r
def uptoBulkEntries {H : Type} : List (Lit × DataW H) → Nat
  | [] => 0
  | x :: r => uptoBulkEntry x + uptoBulkEntries r
def uptoBulkEntry {H : Type} : Lit × DataW H → Nat
  | (.string bytes, d) => bytes.length + uptoBulk d + 1
  | (_, d) => uptoBulk d + 1
 end
def uptoSmall : (H : Type) → List (DataW H) → Bool := fun _ ds => decide (uptoBulkAll ds ≤ 1048576)
def OpenSpec.upto (s : _root_.Go.ChangeSpec) : _root_.Go.OpenSpec := { _root_.Go.OpenSpec.ofChange s with cond := some uptoSmall }

/-- 'choruslaw22.ScanFences', WHERE WHAT IT READS IS OF BULK AT MOST 1048576: true; the input reads as it did. -/
def scanFencesUptoRow : OpenClaim := { program := "ytbgkjaicehonfaagreat", sum := "c1828fb4d4e648342bd4f7ea0ae2d8d37ba20a767d0c6cf2a7de2a68dfba4bf7", func := "chorus/choruslaw22.ScanFences", spec := "scanFences", inPlace := ["slices.overlaps[int]"], unfollowed := true, recurses := true, apart := false, narrowed := true }
def ScanFencesUptoSaid : Prop := scanFencesUptoRow.holds Tryz.pinned (OpenSpec.upto scanFencesSpec)

/-- 'choruslaw22.ScanTells', WHERE WHAT IT READS IS OF BULK AT MOST 1048576: true; the input reads as it did. -/
def scanTellsUptoRow : OpenClaim := { program := "ytbgkjaicehonfaagreat", sum := "c1828fb4d4e648342bd4f7ea0ae2d8d37ba20a767d0c6cf2a7de2a68dfba4bf7", func := "chorus/choruslaw22.ScanTells", spec := "scanTells", inPlace := ["slices.overlaps[int]"], unfollowed := true, recurses := true, apart := false, narrowed := true }
def ScanTellsUptoSaid : Prop := scanTellsUptoRow.holds Tryz.pinned (OpenSpec.upto scanTellsSpec)

/-- 'choruslaw22.ScanSteps', WHERE WHAT IT READS IS OF BULK AT MOST 1048576: true; the input reads as it did. -/
def scanStepsUptoRow : OpenClaim := { program := "ytbgkjaicehonfaagreat", sum := "c1828fb4d4e648342bd4f7ea0ae2d8d37ba20a767d0c6cf2a7de2a68dfba4bf7", func := "chorus/choruslaw22.ScanSteps", spec := "scanSteps", inPlace := ["slices.overlaps[int]"], unfollowed := true, recurses := true, apart := false, narrowed := true }
def ScanStepsUptoSaid : Prop := scanStepsUptoRow.holds Tryz.pinned (OpenSpec.upto scanStepsSpec)

/-- 'choruslaw22.ScanForms', WHERE WHAT IT READS IS OF BULK AT MOST 1048576: true; the input reads as it did. -/
def scanFormsUptoRow : OpenClaim := { program := "ytbgkjaicehonfaagreat", sum := "c1828fb4d4e648342bd4f7ea0ae2d8d37ba20a767d0c6cf2a7de2a68dfba4bf7", func := "chorus/choruslaw22.ScanForms", spec := "scanForms", inPlace := ["slices.overlaps[int]"], unfollowed := true, recurses := true, apart := false, narrowed := true }
def ScanFormsUptoSaid : Prop := scanFormsUptoRow.holds Tryz.pinned (OpenSpec.upto scanFormsSpec)

/-- 'choruslaw22.ScanHolds', WHERE WHAT IT READS IS OF BULK AT MOST 1048576: true; the input reads as it did. -/
def scanHoldsUptoRow : OpenClaim := { program := "ytbgkjaicehonfaagreat", sum := "c1828fb4d4e648342bd4f7ea0ae2d8d37ba20a767d0c6cf2a7de2a68dfba4bf7", func := "chorus/choruslaw22.ScanHolds", spec := "scanHolds", inPlace := ["slices.overlaps[int]"], unfollowed := true, recurses := true, apart := false, narrowed := true }
def ScanHoldsUptoSaid : Prop := scanHoldsUptoRow.holds Tryz.pinned (OpenSpec.upto scanHoldsSpec)

/-- 'choruslaw21.LookSees', WHERE WHAT IT READS IS OF BULK AT MOST 1048576: true; the input reads as it did. -/
def lookSeesUptoRow : OpenClaim := { program := "ytbgkjaicehonfaagreat", sum := "c1828fb4d4e648342bd4f7ea0ae2d8d37ba20a767d0c6cf2a7de2a68dfba4bf7", func := "chorus/choruslaw21.LookSees", spec := "lookSees", inPlace := ["slices.overlaps[int]"], unfollowed := true, recurses := true, apart := false, narrowed := true }
def LookSeesUptoSaid : Prop := lookSeesUptoRow.holds Tryz.pinned (OpenSpec.upto lookSeesSpec)

end Rows
end Go.Proofs.YtbgkjaicehonfaaGreat
