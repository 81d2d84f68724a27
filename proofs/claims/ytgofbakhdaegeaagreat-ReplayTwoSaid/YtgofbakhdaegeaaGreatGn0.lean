/-
  The comparisons of the statements, by value.
  and what goes with it.
  Conditions: none.
-/
import Derived.Test.YtgofbakhdaegeaaGreatGt
import Derived.KernelRfl
import Derived.Test.YtgofbakhdaegeaaGreatGd
import Derived.Test.YtgofbakhdaegeaaGreatGb
import Derived.Test.YtgofbakhdaegeaaGreatRows

set_option linter.unusedSimpArgs false
set_option linter.unusedVariables false

namespace Go.Ab

theorem wrap_nat {i : Nat} (h : (i : Int) + 1 < 9223372036854775808) : IntKind.wrap .i64 ((i : Int) + 1) = ((i + 1 : Nat) : Int) := by
  rw [wrap_of (by omega) h]; rfl

theorem take_step {α : Type} {xs ys : List α} {i : Nat} (h1 : i < xs.length) (h2 : i < ys.length) (h : xs.take i = ys.take i) (e : xs[i] = ys[i]) : xs.take (i + 1) = ys.take (i + 1) := by
  rw [List.take_succ_eq_append_getElem h1, List.take_succ_eq_append_getElem h2, h, e]

theorem take_all {α : Type} {xs ys : List α} {i : Nat} (h1 : xs.length ≤ i) (h2 : ys.length ≤ i) (h : xs.take i = ys.take i) : xs = ys := by
  rw [List.take_of_length_le h1, List.take_of_length_le h2] at h; exact h

/-- as long as memory allows -/
def lenOK {α : Type} (l : List α) : Prop := l.length ≤ 1048576


theorem c_SameInts (xs ys : List Int) (z1 z2 : Bool) (hx : lenOK xs) : PCall tab 23 [.vs (xs.map encInt) z1, .vs (ys.map encInt) z2] (.bool (decide (xs = ys))) := by
  unfold lenOK at hx
  refine PCall.of (F := m23) rfl rfl rfl rfl ?_
  by_cases hl : xs.length = ys.length
  · simp -implicitDefEqProofs [m23, hl]
    refine loop_by (fun k E T => T = TH.none ∧ ∃ i : Nat, i + k = xs.length ∧ E.get 0 = .a (.vs (xs.map encInt) z1) ∧ E.get 1 = .a (.vs (ys.map encInt) z2) ∧ E.get 5 = .a (.int .i64 i) ∧ xs.take i = ys.take i) ?_ xs.length ⟨rfl, 0, by simp⟩
    rintro k E T ⟨rfl, i, hi, h0, h1, h5, ht⟩
    by_cases hlt : i < xs.length
    · have hlt2 : i < ys.length := by omega
      have e1 := List.getElem?_eq_getElem hlt
      have e2 := List.getElem?_eq_getElem hlt2
      by_cases he : xs[i] = ys[i]
      · have he' := he
        skip
        simp -implicitDefEqProofs [h0, h1, h5, hlt, hlt2, e1, e2, he']
        exact ⟨k - 1, by omega, i + 1, by omega, wrap_nat (by omega), take_step hlt hlt2 ht he⟩
      · have he' := he
        skip
        have he2 := he'
        try simp only [Classical.not_and_iff_not_or_not] at he2
        simp -implicitDefEqProofs [h0, h1, h5, hlt, hlt2, e1, e2, he', he2]
        intro e; subst e; exact he rfl
    · have hlt2 : ¬ i < ys.length := by omega
      simp -implicitDefEqProofs [h0, h1, h5, hlt, hlt2]
      exact take_all (by omega) (by omega) ht
  · have hl' : ¬ (xs.length : Int) = ys.length := by omega
    simp -implicitDefEqProofs [m23, hl']
    intro h; exact hl (by rw [h])

end Go.Ab

namespace Go.Ab

theorem state_eq {a b : State} : a = b ↔ a.r0 = b.r0 ∧ a.r1 = b.r1 ∧ a.r2 = b.r2 ∧ a.r3 = b.r3 := by cases a; cases b; simp
end Go.Ab

namespace Go.Ab

@[simp] theorem wrap0 : IntKind.wrap .i64 (0 + 1) = 1 := by decide
@[simp] theorem wrap1 : IntKind.wrap .i64 (1 + 1) = 2 := by decide
@[simp] theorem wrap2 : IntKind.wrap .i64 (2 + 1) = 3 := by decide
@[simp] theorem wrap3 : IntKind.wrap .i64 (3 + 1) = 4 := by decide
@[simp] theorem wrap0' : IntKind.wrap .i64 1 = 1 := by decide
@[simp] theorem wrap1' : IntKind.wrap .i64 2 = 2 := by decide
@[simp] theorem wrap2' : IntKind.wrap .i64 3 = 3 := by decide
@[simp] theorem wrap3' : IntKind.wrap .i64 4 = 4 := by decide

def okS (s : State) : Prop := lenOK s.r0 ∧ lenOK s.r1 ∧ lenOK s.r2 ∧ lenOK s.r3

theorem c_SameState (a b : State) (z1 z2 : Bool) (h : okS a) : PCall tab 18 [.agg (encState z1 a), .agg (encState z2 b)] (.bool (decide (a = b))) := by
  obtain ⟨h0, h1, h2, h3⟩ := h
  refine PCall.dec state_eq ?_
  refine PCall.of (F := m18) rfl rfl rfl rfl ?_
  simp -implicitDefEqProofs [m18]
  refine WCT.unroll ?_
  simp -implicitDefEqProofs
  refine CallT.pure (c_SameInts a.r0 b.r0 false false h0) (by simp) rfl ?_
  by_cases e0 : a.r0 = b.r0
  · simp -implicitDefEqProofs [e0]
    refine WCT.unroll ?_
    simp -implicitDefEqProofs
    refine CallT.pure (c_SameInts a.r1 b.r1 false false h1) (by simp) rfl ?_
    by_cases e1 : a.r1 = b.r1
    · simp -implicitDefEqProofs [e1]
      refine WCT.unroll ?_
      simp -implicitDefEqProofs
      refine CallT.pure (c_SameInts a.r2 b.r2 false false h2) (by simp) rfl ?_
      by_cases e2 : a.r2 = b.r2
      · simp -implicitDefEqProofs [e2]
        refine WCT.unroll ?_
        simp -implicitDefEqProofs
        refine CallT.pure (c_SameInts a.r3 b.r3 false false h3) (by simp) rfl ?_
        by_cases e3 : a.r3 = b.r3
        · simp -implicitDefEqProofs [e3]
          refine WCT.unroll ?_
          simp -implicitDefEqProofs
        · simp -implicitDefEqProofs [e3]
      · simp -implicitDefEqProofs [e2]
    · simp -implicitDefEqProofs [e1]
  · simp -implicitDefEqProofs [e0]

/-- the lengths in it are such that memory allows -/
def okR (r : Ring) : Prop := lenOK r.slots
def okP' (r : Replica) : Prop := okS r.state ∧ lenOK r.cursors ∧ lenOK r.locks
def okTh (t : Thread) : Prop := lenOK t.batch ∧ lenOK t.tails
end Go.Ab

namespace Go.Ab

end Go.Ab

namespace Go.Ab

@[reducible] def argMay (x : Int) : Prop := 0 ≤ x ∧ x ≤ 255
@[reducible] def opMay (o : Op) : Prop := 0 ≤ o.row ∧ o.row < 4 ∧ 0 ≤ o.arg ∧ o.arg ≤ 255 ∧ (o.code = 0 ∨ o.code = 1 ∨ (o.code = 2 ∧ o.arg = 0) ∨ (o.code = 3 ∧ o.arg = 0 ∧ o.row = 0))
@[reducible] def updates (o : Op) : Prop := opMay o ∧ (o.code = 0 ∨ o.code = 1)

end Go.Ab

namespace Go.Ab

end Go.Ab

namespace Go.Ab

end Go.Ab

namespace Go.Ab

@[reducible] def objIs (x : Int) : Prop := 0 ≤ x ∧ x ≤ 2
@[reducible] def logsMay (x : Int) : Prop := 1 ≤ x ∧ x ≤ 2
@[reducible] def slotsMay (k : Int) : Prop := k = 2 ∨ k = 4 ∨ k = 8 ∨ k = 16
@[reducible] def cfgMay (c : Config) : Prop := objIs c.object ∧ (1 ≤ c.replicas ∧ c.replicas ≤ 2) ∧ logsMay c.logs ∧ (1 ≤ c.threads ∧ c.threads ≤ 4) ∧ slotsMay c.slots ∧ 2 * c.threads ≤ c.slots
@[reducible] def threadIn (x n : Int) : Prop := 0 ≤ x ∧ x < n
@[reducible] def slotOK (s : Slot) : Prop := updates s.op ∧ threadIn s.thread 4 ∧ (s.bit = 0 ∨ s.bit = 1)
@[reducible] def ringNums (r : Ring) : Prop := 0 ≤ r.head ∧ r.head ≤ r.tail ∧ r.tail ≤ 1048576 ∧ r.tail - r.head ≤ r.slots.length ∧ 0 ≤ r.fence ∧ r.fence ≤ 4 ∧ slotsMay r.slots.length
end Go.Ab

namespace Go.Ab

/-- so it is of all: not taken apart -/
def allOf {α : Type} (p : α → Prop) (xs : List α) : Prop := ∀ x ∈ xs, p x
instance {α : Type} (p : α → Prop) [DecidablePred p] (xs : List α) : Decidable (allOf p xs) := inferInstanceAs (Decidable (∀ x ∈ xs, p x))

@[reducible] def ringOK (r : Ring) : Prop := ringNums r ∧ allOf slotOK r.slots

end Go.Ab

namespace Go.Ab

@[reducible] def inR (x : Int) : Prop := -9223372036854775808 ≤ x ∧ x < 9223372036854775808
def slotIn (c : Config) (s : Slot) : Prop := threadIn s.thread c.threads
instance (c : Config) : DecidablePred (slotIn c) := fun s => inferInstanceAs (Decidable (threadIn s.thread c.threads))
@[reducible] def ringIn (c : Config) (r : Ring) : Prop := ringOK r ∧ (r.slots.length : Int) = c.slots ∧ r.fence ≤ c.threads ∧ allOf (slotIn c) r.slots

end Go.Ab

namespace Go.Ab

@[reducible] def rowArgs (n : Int) (xs : List Int) : Prop := (xs.length : Int) ≤ n ∧ allOf argMay xs
@[reducible] def storeMay (s : State) : Prop := rowArgs 1 s.r0 ∧ rowArgs 1 s.r1 ∧ rowArgs 1 s.r2 ∧ rowArgs 1 s.r3
@[reducible] def queueMay (s : State) : Prop := rowArgs 4 s.r0 ∧ rowArgs 4 s.r1 ∧ rowArgs 4 s.r2 ∧ rowArgs 4 s.r3

end Go.Ab

namespace Go.Ab

def State.row (s : State) : Nat → List Int
  | 0 => s.r0
  | 1 => s.r1
  | 2 => s.r2
  | _ => s.r3

def fdsRow (xs : List Int) : Prop := ∀ i (h : i < xs.length), 0 ≤ xs[i] ∧ xs[i] < 4 ∧ (0 < i → xs[i - 1] < xs[i])
instance (xs : List Int) : Decidable (fdsRow xs) := inferInstanceAs (Decidable (∀ i (h : i < xs.length), 0 ≤ xs[i] ∧ xs[i] < 4 ∧ (0 < i → xs[i - 1] < xs[i])))
def rowsOK (p : List Int → Prop) (s : State) : Prop := p s.r0 ∧ p s.r1 ∧ p s.r2 ∧ p s.r3
instance (p : List Int → Prop) [DecidablePred p] (s : State) : Decidable (rowsOK p s) := inferInstanceAs (Decidable (_ ∧ _ ∧ _ ∧ _))
@[reducible] def stateMay (o : Int) (s : State) : Prop := (o = 0 ∧ storeMay s) ∨ (o = 1 ∧ rowsOK fdsRow s) ∨ (o = 2 ∧ queueMay s)

end Go.Ab

namespace Go.Ab

def rowIn (o : Int) (xs : List Int) : Prop := (o = 0 ∧ rowArgs 1 xs) ∨ (o = 1 ∧ fdsRow xs) ∨ (o = 2 ∧ rowArgs 4 xs)
instance (o : Int) : DecidablePred (rowIn o) := fun xs => inferInstanceAs (Decidable ((o = 0 ∧ rowArgs 1 xs) ∨ (o = 1 ∧ fdsRow xs) ∨ (o = 2 ∧ rowArgs 4 xs)))
end Go.Ab

namespace Go.Ab

def cursorIn : Option Ring → Int → Bool
  | some r, x => decide (r.head ≤ x ∧ x ≤ r.tail)
  | none, _ => false
def cursorsIn (rs : List Ring) (cs : List Int) : Prop := ∀ i (h : i < cs.length), cursorIn rs[i]? cs[i] = true
instance (rs : List Ring) (cs : List Int) : Decidable (cursorsIn rs cs) := inferInstanceAs (Decidable (∀ i (h : i < cs.length), cursorIn rs[i]? cs[i] = true))
def lockIn (c : Config) (x : Int) : Prop := 0 ≤ x ∧ x ≤ c.threads
instance (c : Config) : DecidablePred (lockIn c) := fun x => inferInstanceAs (Decidable (0 ≤ x ∧ x ≤ c.threads))
def replicaIn (c : Config) (rs : List Ring) (x : Replica) : Prop := stateMay c.object x.state ∧ (x.cursors.length : Int) = c.logs ∧ (x.locks.length : Int) = c.logs ∧ allOf (lockIn c) x.locks ∧ cursorsIn rs x.cursors
instance (c : Config) (rs : List Ring) : DecidablePred (replicaIn c rs) := fun x => inferInstanceAs (Decidable (_ ∧ _ ∧ _ ∧ _ ∧ _))
def numIn (x : Int) : Prop := 0 ≤ x ∧ x ≤ 1048576
instance : DecidablePred numIn := fun x => inferInstanceAs (Decidable (0 ≤ x ∧ x ≤ 1048576))
def thrIn (c : Config) (x : Int) : Prop := threadIn x c.threads
instance (c : Config) : DecidablePred (thrIn c) := fun x => inferInstanceAs (Decidable (threadIn x c.threads))
@[reducible] def atNums (c : Config) (t : Thread) : Prop := 0 ≤ t.step ∧ t.step ≤ 19 ∧ opMay t.op ∧ 0 ≤ t.log ∧ t.log < c.logs ∧ 0 ≤ t.seen ∧ t.seen ≤ 1048576 ∧ (t.batch.length : Int) ≤ c.threads ∧ 0 ≤ t.at_ ∧ t.at_ ≤ (t.batch.length : Int) ∧ (t.tails.length : Int) ≤ c.logs
def atIn (c : Config) (t : Thread) : Prop := atNums c t ∧ allOf (thrIn c) t.batch ∧ allOf numIn t.tails
instance (c : Config) : DecidablePred (atIn c) := fun x => inferInstanceAs (Decidable (_ ∧ _ ∧ _))
def evIn (c : Config) (e : Event) : Prop := threadIn e.thread c.threads ∧ opMay e.op
instance (c : Config) : DecidablePred (evIn c) := fun x => inferInstanceAs (Decidable (_ ∧ _))

end Go.Ab

namespace Go.Ab

end Go.Ab

namespace Go.Ab

end Go.Ab

namespace Go.Ab

theorem ok_rings (l : List Ring) : okC 8 (.vs (l.map (encRing true)) true) = true := by simp [okC, List.all_map, flatV]
theorem ok_replicas (l : List Replica) : okC 8 (.vs (l.map (encReplica true)) true) = true := by simp [okC, List.all_map, flatV]
theorem ok_threads (l : List Thread) : okC 8 (.vs (l.map (encThread true)) true) = true := by simp [okC, List.all_map, flatV]
theorem ok_events (l : List Event) : okC 8 (.vs (l.map encEvent) true) = true := by simp [okC, List.all_map, flatV]
theorem ok_machine (m : Machine) (k : IntKind) (n : Int) : okT (.tup [.agg (encMachine true m), .int k n]) = true := by simp [okT, okP, ok_rings, ok_replicas, ok_threads, ok_events]; simp [okC, flatV]

theorem c_Num (e : Int) : PCall tab 12 [.int .i64 e] (.int .i64 e) := by
  refine PCall.of (F := m12) rfl rfl rfl rfl ?_
  simp -implicitDefEqProofs [m12]
  trace_state

end Go.Ab

namespace Go.Ab

end Go.Ab

namespace Go.Ab

end Go.Ab

namespace Go.Ab

end Go.Ab

namespace Go.Ab

/-- so far: of these four roots the content is another one of the same kind, all else stayed -/
structure Sp (T T' : TH) (r1 r2 r3 r4 : Nat) (rs : List Ring) (ps : List Replica) (ts : List Thread) : Prop where
  next : T'.next = T.next
  other : ∀ k, k ≠ r1 → k ≠ r2 → k ≠ r3 → k ≠ r4 → T'.get k = T.get k
  g1 : T'.get r1 = .tree (rs.map (encRing true)) true []
  g2 : T'.get r2 = .tree (ps.map (encReplica true)) true []
  g3 : T'.get r3 = .tree (ts.map (encThread true)) true []
  o1 : ∀ x ∈ rs, okR x
  o2 : ∀ x ∈ ps, okP' x
  o3 : ∀ x ∈ ts, okTh x

end Go.Ab

namespace Go.Ab

theorem fzC_sl (T : TH) (d r : Nat) (p : Path) (g i n : Nat) : fzC T d (.sl r p g i n true) = if (T.get r).valid p g = true then match T.get r with
      | .tree rows z _ => match p.getLast? with
        | none => if okC d (.vs rows z) then some (unz d (.vs rows z)) else none
        | some (i, j) => match nodeA rows p.dropLast with
          | some rp => match cellOf rp i j with
            | some (.vs rows' z') => if okC d (.vs rows' z') then some (unz d (.vs rows' z')) else none
            | _ => none
          | none => none
      | _ => none
    else none := rfl
theorem fzC_part (T : TH) (d r : Nat) (p : Path) (g i n : Nat) : fzC T d (.sl r p g i n false) = if (T.get r).valid p g = true then match T.get r with
      | .tree rows _ _ => match nodeA rows p with
        | some rp => if n = 0 then some (.vs [] false) else if i + n ≤ rp.length ∧ okC d (.vs ((rp.drop i).take n) true) = true then some (unz d (.vs ((rp.drop i).take n) true)) else none
        | none => none
      | _ => none
    else none := rfl
theorem fzT_part (T : TH) (r : Nat) (p : Path) (g i n : Nat) : fzT T (.sl r p g i n false) = fzC T 11 (.sl r p g i n false) := rfl
attribute [simp] fzC_part fzT_part
theorem fzT_sl (T : TH) (r : Nat) (p : Path) (g i n : Nat) : fzT T (.sl r p g i n true) = fzC T 11 (.sl r p g i n true) := rfl
attribute [simp] fzC_sl fzT_sl

@[simp] theorem unz_int (d : Nat) (k : IntKind) (n : Int) : unz d (.int k n) = .int k n := by cases d <;> rfl
@[simp] theorem unz_bool (d : Nat) (b : Bool) : unz d (.bool b) = .bool b := by cases d <;> rfl
@[simp] theorem unz_vs (d : Nat) (rows : List (List AV)) (z : Bool) : unz (d + 1) (.vs rows z) = .vs (rows.map fun row => row.map (unz d)) false := by conv => lhs; unfold unz
@[simp] theorem okC_int (d : Nat) (k : IntKind) (n : Int) : okC d (.int k n) = true := by cases d <;> rfl
@[simp] theorem okC_bool (d : Nat) (b : Bool) : okC d (.bool b) = true := by cases d <;> rfl
@[simp] theorem okC_vs (d : Nat) (rows : List (List AV)) (z : Bool) : okC (d + 1) (.vs rows z) = rows.all fun row => row.all (okC d) := by conv => lhs; unfold okC

theorem unz_ints (d : Nat) (xs : List Int) (z : Bool) : unz (d + 1) (.vs (xs.map encInt) z) = .vs (xs.map encInt) false := by simp
theorem unz_slots (d : Nat) (xs : List Slot) (z : Bool) : unz (d + 1) (.vs (xs.map encSlot) z) = .vs (xs.map encSlot) false := by simp
theorem unz_events (d : Nat) (xs : List Event) (z : Bool) : unz (d + 1) (.vs (xs.map encEvent) z) = .vs (xs.map encEvent) false := by simp
theorem unz_rings (d : Nat) (xs : List Ring) (z z' : Bool) : unz (d + 2) (.vs (xs.map (encRing z)) z') = .vs (xs.map (encRing false)) false := by simp
theorem unz_replicas (d : Nat) (xs : List Replica) (z z' : Bool) : unz (d + 2) (.vs (xs.map (encReplica z)) z') = .vs (xs.map (encReplica false)) false := by simp
theorem unz_threads (d : Nat) (xs : List Thread) (z z' : Bool) : unz (d + 2) (.vs (xs.map (encThread z)) z') = .vs (xs.map (encThread false)) false := by simp
theorem okC_ints (d : Nat) (xs : List Int) (z : Bool) : okC (d + 1) (.vs (xs.map encInt) z) = true := by simp
theorem okC_slots (d : Nat) (xs : List Slot) (z : Bool) : okC (d + 1) (.vs (xs.map encSlot) z) = true := by simp
theorem okC_events (d : Nat) (xs : List Event) (z : Bool) : okC (d + 1) (.vs (xs.map encEvent) z) = true := by simp
theorem okC_rings (d : Nat) (xs : List Ring) (z z' : Bool) : okC (d + 2) (.vs (xs.map (encRing z)) z') = true := by simp
theorem okC_replicas (d : Nat) (xs : List Replica) (z z' : Bool) : okC (d + 2) (.vs (xs.map (encReplica z)) z') = true := by simp
theorem okC_threads (d : Nat) (xs : List Thread) (z z' : Bool) : okC (d + 2) (.vs (xs.map (encThread z)) z') = true := by simp

attribute [simp high] unz_ints unz_slots unz_events unz_rings unz_replicas unz_threads okC_ints okC_slots okC_events okC_rings okC_replicas okC_threads

end Go.Ab

namespace Go.Ab

@[reducible] def macNums (m : Machine) : Prop := (m.rings.length : Int) = m.config.logs ∧ (m.replicas.length : Int) = m.config.replicas ∧ (m.threads.length : Int) = m.config.threads ∧ m.history.length ≤ 64
def machineMay (m : Machine) : Prop := cfgMay m.config ∧ macNums m ∧ allOf (ringIn m.config) m.rings ∧ allOf (replicaIn m.config m.rings) m.replicas ∧ allOf (atIn m.config) m.threads ∧ allOf (evIn m.config) m.history
instance (c : Config) : DecidablePred (ringIn c) := fun r => inferInstanceAs (Decidable (ringOK r ∧ (r.slots.length : Int) = c.slots ∧ r.fence ≤ c.threads ∧ allOf (slotIn c) r.slots))
instance : DecidablePred machineMay := fun m => inferInstanceAs (Decidable (_ ∧ _ ∧ _ ∧ _ ∧ _ ∧ _))

end Go.Ab

namespace Go.Ab

end Go.Ab

namespace Go.Ab

end Go.Ab

namespace Go.Ab

theorem ok_mach (m : Machine) : okT (.agg (encMachine true m)) = true := by simp [okT, okP, ok_rings, ok_replicas, ok_threads, ok_events]
end Go.Ab

namespace Go.Ab

end Go.Ab

namespace Go.Ab

end Go.Ab

namespace Go.Ab

def isReplica (m : Machine) (r : Int) : Prop := 0 ≤ r ∧ r < m.replicas.length
def isLog (m : Machine) (g : Int) : Prop := 0 ≤ g ∧ g < m.rings.length
instance (m : Machine) (r : Int) : Decidable (isReplica m r) := inferInstanceAs (Decidable (_ ∧ _))
instance (m : Machine) (g : Int) : Decidable (isLog m g) := inferInstanceAs (Decidable (_ ∧ _))
theorem ok_mach1 (m : Machine) (n : Int) : okT (.tup [.agg (encMachine true m), .int .i64 n]) = true := ok_machine m .i64 n
theorem ok_mach2 (m : Machine) (b : Bool) (k : IntKind) (n : Int) : okT (.tup [.agg (encMachine true m), .bool b, .int k n]) = true := by simp [okT, okP, ok_rings, ok_replicas, ok_threads, ok_events, okC, flatV]

end Go.Ab

namespace Go.Ab

def saysYes : Option (AV × AH) → Bool
  | some (.bool true, _) => true
  | _ => false

theorem saysYes_of {x : Option (AV × AH)} (h : saysYes x = true) : ∃ H, x = some (.bool true, H) := by
  unfold saysYes at h
  split at h
  · exact ⟨_, rfl⟩
  · cases h

theorem PCall.closed {M : FuncId → Option MFunc} {k : FuncId} {F : MFunc} (n : Nat) (hM : M k = some F) (hp : F.pure = true) (hb : F.both = false) (h : saysYes (evalF (eval M n) n F [] { objs := .nil, next := 0, lo := 0 }) = true) : PCall M k [] (.bool true) := by
  intro args H hw ht
  obtain ⟨H1, h1⟩ := saysYes_of h
  refine ⟨.bool true, H, ⟨n + 1, ?_⟩, hw, Nat.le_refl _, rfl, fun _ _ => rfl, [],   .one (.cell (by simp) (.flat rfl .nil)), by simp, by simp⟩
  simp only [eval, hM, hp, hb, if_true, pureB, Bool.false_eq_true, if_false]
  unfold pureC
  rw [ht]
  simp only [h1]
  rfl

end Go.Ab

namespace Go.Ab

mutual
/-- the cells of the memory behind a value that is all its own, with the numbers of the arrays -/
def ownV (H : AH) : Nat → AV → Option (AV × List Nat)
  | 0, _ => none
  | d + 1, v => match v with
    | .bool b => some (.bool b, [])
    | .int k n => some (.int k n, [])
    | .str s => some (.str s, [])
    | .nils => some (.vs [] true, [])
    | .vs [] z => some (.vs [] z, [])
    | .sl b o sz len cap ex => if len = 0 then some (.vs [] (ex && cap == 0), []) else if cap = len then
        match H.read b o (len * sz) with
        | some cs => match ownVs H d cs with
          | some (ts, S) => some (.vs (rows sz ts len) true, b :: S)
          | none => none
        | none => none
      else none
    | _ => none
def ownVs (H : AH) : Nat → List AV → Option (List AV × List Nat)
  | 0, _ => none
  | _ + 1, [] => some ([], [])
  | d + 1, v :: vs => match ownV H d v, ownVs H d vs with
    | some (t, S1), some (ts, S2) => some (t :: ts, S1 ++ S2)
    | _, _ => none
end

def lfV (H : AH) (d : Nat) (v : AV) : Option (AV × List Nat) :=
  match v with
  | .agg cs => (ownVs H d cs).map fun x => (.agg x.1, x.2)
  | v => ownV H d v

def lfVs (H : AH) (d : Nat) : List AV → Option (List AV × List Nat)
  | [] => some ([], [])
  | v :: vs => match lfV H d v, lfVs H d vs with
    | some (t, S1), some (ts, S2) => some (t :: ts, S1 ++ S2)
    | _, _ => none

def runTree (d : Nat) : Option (AV × AH) → Option AV
  | some (.tup vs, H) => match lfVs H d vs with
    | some (ts, S) => if S.Nodup ∧ okT (.tup ts) = true then some (.tup ts) else none
    | none => none
  | some (v, H) => match lfV H d v with
    | some (t, S) => if S.Nodup ∧ okT t = true then some t else none
    | none => none
  | none => none

theorem rows_back {sz : Nat} : ∀ (n : Nat) (ts : List AV), ts.length = n * sz → (rows sz ts n).flatten = ts := by
  intro n
  induction n with
  | zero => intro ts h; simp at h; subst h; rfl
  | succ n ih =>
    intro ts h
    have hle : sz ≤ ts.length := by rw [h, Nat.succ_mul]; omega
    have e : rows sz ts (n + 1) = ts.take sz :: rows sz (ts.drop sz) n := by
      unfold rows
      rw [List.range_succ_eq_map, List.map_cons, List.map_map]
      simp only [Nat.zero_mul, List.drop_zero, List.cons.injEq, true_and]
      apply List.map_congr_left
      intro i _
      simp only [Function.comp_apply, List.drop_drop, Nat.succ_mul]
      rw [Nat.add_comm]
    rw [e, List.flatten_cons, ih _ (by rw [List.length_drop, h, Nat.succ_mul]; omega), List.take_append_drop]

theorem rows_each {sz : Nat} {n : Nat} {ts : List AV} (h : ts.length = n * sz) : ∀ row ∈ rows sz ts n, row.length = sz := by
  intro row hr
  unfold rows at hr
  obtain ⟨i, hi, rfl⟩ := List.mem_map.1 hr
  have hi' := List.mem_range.1 hi
  have : (i + 1) * sz ≤ n * sz := Nat.mul_le_mul_right _ hi'
  rw [Nat.succ_mul] at this
  rw [List.length_take, List.length_drop]
  omega

mutual
theorem ownV_own {H : AH} : ∀ (d : Nat) (v : AV) {t : AV} {S : List Nat}, ownV H d v = some (t, S) → Own H [v] [t] S
  | 0, _, _, _, h => by simp [ownV] at h
  | d + 1, v, t, S, h => by
    unfold ownV at h
    split at h
    · cases h; exact .flat rfl .nil
    · cases h; exact .flat rfl .nil
    · cases h; exact .flat rfl .nil
    · cases h; exact .emp rfl (fun _ => rfl) .nil
    · cases h; exact .emp rfl (fun e => by subst e; rfl) .nil
    · rename_i b o sz len cap ex
      split at h
      · rename_i h0
        subst h0
        cases h
        refine .emp rfl (fun e => ?_) .nil
        simp only [Bool.and_eq_true, beq_iff_eq] at e
        obtain ⟨rfl, rfl⟩ := e
        rfl
      · rename_i h0
        split at h
        · rename_i hc
          subst hc
          split at h
          · rename_i cs hr
            split at h
            · rename_i ts S1 h1
              cases h
              have ho := ownVs_own d cs h1
              have hl : ts.length = cap * sz := by
                rw [← ho.length]
                unfold AH.read at hr
                split at hr
                · unfold slice at hr
                  split at hr
                  · cases hr; rw [List.length_take, List.length_drop]; omega
                  · cases hr
                · cases hr
              have hlen : (rows sz ts cap).length = cap := by simp [rows]
              have := Own.sl (H := H) (b := b) (o := o) (sz := sz) (ex := ex) (z := true) (rows := rows sz ts cap) (cs := cs) (S1 := S1) (S2 := []) (hs := []) (ts := [])
                (fun e => by rw [e] at hlen; simp at hlen; omega) (by rw [hlen]; exact hr) (rows_each hl) (by rw [rows_back _ _ hl]; exact ho) .nil
              rw [hlen] at this
              simpa using this
            · cases h
          · cases h
        · cases h
    · cases h
theorem ownVs_own {H : AH} : ∀ (d : Nat) (vs : List AV) {ts : List AV} {S : List Nat}, ownVs H d vs = some (ts, S) → Own H vs ts S
  | 0, _, _, _, h => by simp [ownVs] at h
  | d + 1, [], ts, S, h => by simp only [ownVs, Option.some.injEq, Prod.mk.injEq] at h; obtain ⟨rfl, rfl⟩ := h; exact .nil
  | d + 1, v :: vs, ts, S, h => by
    simp only [ownVs] at h
    split at h
    · rename_i t S1 ts2 S2 h1 h2
      cases h
      exact (ownV_own d v h1).append (ownVs_own d vs h2)
    · cases h
end

theorem ownV_tup {H : AH} {d : Nat} {v t : AV} {S : List Nat} (h : ownV H d v = some (t, S)) : ∀ x, t ≠ .tup x := by
  intro x
  cases d with
  | zero => simp [ownV] at h
  | succ d =>
    unfold ownV at h
    split at h
    all_goals first
      | (cases h; done)
      | (cases h; simp; done)
      | skip
    split at h
    · cases h; simp
    · split at h
      · split at h
        · split at h
          · cases h; simp
          · cases h
        · cases h
      · cases h

theorem lfV_lf {H : AH} {d : Nat} {v t : AV} {S : List Nat} (h : lfV H d v = some (t, S)) : Lf H v t S := by
  unfold lfV at h
  split at h
  · obtain ⟨⟨ts, S1⟩, h1, h2⟩ := map_some h
    cases h2
    exact .agg (ownVs_own d _ h1)
  · exact .cell (ownV_tup h) (ownV_own d _ h)

theorem lfVs_lf {H : AH} {d : Nat} : ∀ {vs ts : List AV} {S : List Nat}, lfVs H d vs = some (ts, S) → LfL H vs ts S
  | [], ts, S, h => by simp only [lfVs, Option.some.injEq, Prod.mk.injEq] at h; obtain ⟨rfl, rfl⟩ := h; exact .nil
  | v :: vs, ts, S, h => by
    simp only [lfVs] at h
    split at h
    · rename_i t S1 ts2 S2 h1 h2
      cases h
      exact .cons (lfV_lf h1) (lfVs_lf h2)
    · cases h

theorem runTree_lf {d : Nat} {x : Option (AV × AH)} {tr : AV} (h : runTree d x = some tr) : ∃ r H S, x = some (r, H) ∧ S.Nodup ∧ okT tr = true ∧ LfT H r tr S := by
  unfold runTree at h
  split at h
  · rename_i vs H
    split at h
    · rename_i ts S h1
      split at h
      · rename_i hh
        cases h
        exact ⟨_, _, S, rfl, hh.1, hh.2, .tup (lfVs_lf h1)⟩
      · cases h
    · cases h
  · rename_i v H _
    split at h
    · rename_i t S h1
      split at h
      · rename_i hh
        cases h
        exact ⟨_, _, S, rfl, hh.1, hh.2, .one (lfV_lf h1)⟩
      · cases h
    · cases h
  · cases h

theorem PCall.run {M : FuncId → Option MFunc} {k : FuncId} {F : MFunc} {ts : List AV} {tr : AV} (n d : Nat) (hM : M k = some F) (hp : F.pure = true) (hb : F.both = false) (h : runTree d (evalF (eval M n) n F ts { objs := .nil, next := 0, lo := 0 }) = some tr) : PCall M k ts tr := by
  intro args H hw ht
  obtain ⟨r1, H1, S, k1', k2, hok, k3⟩ := runTree_lf h
  obtain ⟨r, u, H', m1, m2, S', m3, m4⟩ := lift_LfT k3 hok k2 hw
  have hpc : pureC (Ab.evalF (eval M n) n F) args H = some (r, H') := by
    simp only [pureC, ht, k1', m1, Option.map_some]
  have hlo : H'.lo = H.lo := by
    obtain ⟨_, _, _, _, _, _, h3⟩ := pureC_spec hpc
    exact (lift_G _ _ _ _ _ _ _ _ h3 hw).2
  refine ⟨r, H', ⟨n + 1, ?_⟩, m2.wh, m2.next, hlo, m2.old, S', m3, m4⟩
  simp only [eval, hM, hp, hb, if_true, pureB, Bool.false_eq_true, if_false]
  exact hpc

end Go.Ab

namespace Go.Ab

theorem emod_toNat (x : Int) (a b : Nat) (ha : 0 < a) (hb : 0 < b) (hd : b ∣ a) : (x % (a : Int)).toNat % b = (x % (b : Int)).toNat := by
  have h1 : 0 ≤ x % (a : Int) := Int.emod_nonneg _ (by omega)
  have h2 : 0 ≤ x % (b : Int) := Int.emod_nonneg _ (by omega)
  have h3 : (((x % (a : Int)).toNat % b : Nat) : Int) = x % (b : Int) := by
    rw [Int.natCast_emod, Int.toNat_of_nonneg h1]
    exact Int.emod_emod_of_dvd x (Int.natCast_dvd_natCast.2 hd)
  omega

theorem and_lit (k : Nat) (hk : k ≤ 62) (x : Int) : abin .and (.int .i64 x) (.int .i64 ((2 ^ k - 1 : Nat) : Int)) = some (.int .i64 (x % ((2 ^ k : Nat) : Int))) := by
  have hp : (2 : Nat) ^ k ≤ 2 ^ 62 := Nat.pow_le_pow_right (by omega) hk
  have hpos : 0 < (2 : Nat) ^ k := Nat.pow_pos (by omega)
  have e2 : (BitVec.ofInt IntKind.i64.bits x &&& BitVec.ofInt IntKind.i64.bits (((2 ^ k - 1 : Nat) : Int))).toNat = (x % ((2 ^ k : Nat) : Int)).toNat := by
    rw [BitVec.toNat_and, BitVec.toNat_ofInt, BitVec.toNat_ofInt]
    have hb : IntKind.i64.bits = 64 := rfl
    rw [hb]
    have e3 : ((((2 ^ k - 1 : Nat) : Int)) % ((2 ^ 64 : Nat) : Int)).toNat = 2 ^ k - 1 := by omega
    rw [e3, Nat.and_two_pow_sub_one_eq_mod]
    exact emod_toNat x (2 ^ 64) (2 ^ k) (by omega) hpos (Nat.pow_dvd_pow 2 (by omega))
  have h1 : 0 ≤ x % ((2 ^ k : Nat) : Int) := Int.emod_nonneg _ (by omega)
  have h2 : x % ((2 ^ k : Nat) : Int) < ((2 ^ k : Nat) : Int) := Int.emod_lt_of_pos _ (by omega)
  simp only [abin, ne_eq, not_true_eq_false, if_false]
  rw [e2, Int.toNat_of_nonneg h1, wrap_of (by omega) (by omega)]

theorem and_1 (x : Int) : abin .and (.int .i64 x) (.int .i64 1) = some (.int .i64 (x % 2)) := and_lit 1 (by omega) x
theorem mask_1 (x : Int) : IntKind.wrap .i64 (((x % 2 ^ IntKind.i64.bits).toNat &&& 1 % 2 ^ IntKind.i64.bits : Nat) : Int) = x % 2 := by have := and_1 x; simpa using this
end Go.Ab

namespace Go.Ab

theorem c_awake18 : PCall tab 14 [] (.bool true) := PCall.closed 60 rfl rfl rfl (by kernel_rfl)

end Go.Ab

namespace Go.Ab

def twB : Machine := ⟨⟨2, 2, 2, 4, 8⟩, [⟨0, 0, 0, [⟨⟨0, 0, 0⟩, 0, 0⟩, ⟨⟨0, 0, 0⟩, 0, 0⟩, ⟨⟨0, 0, 0⟩, 0, 0⟩, ⟨⟨0, 0, 0⟩, 0, 0⟩, ⟨⟨0, 0, 0⟩, 0, 0⟩, ⟨⟨0, 0, 0⟩, 0, 0⟩, ⟨⟨0, 0, 0⟩, 0, 0⟩, ⟨⟨0, 0, 0⟩, 0, 0⟩]⟩, ⟨0, 0, 0, [⟨⟨0, 0, 0⟩, 0, 0⟩, ⟨⟨0, 0, 0⟩, 0, 0⟩, ⟨⟨0, 0, 0⟩, 0, 0⟩, ⟨⟨0, 0, 0⟩, 0, 0⟩, ⟨⟨0, 0, 0⟩, 0, 0⟩, ⟨⟨0, 0, 0⟩, 0, 0⟩, ⟨⟨0, 0, 0⟩, 0, 0⟩, ⟨⟨0, 0, 0⟩, 0, 0⟩]⟩], [⟨⟨[], [], [], []⟩, [0, 0], [0, 0]⟩, ⟨⟨[], [], [], []⟩, [0, 0], [0, 0]⟩], [⟨0, ⟨0, 0, 0⟩, 0, 0, [], 0, false, false, 0, []⟩, ⟨0, ⟨0, 0, 0⟩, 0, 0, [], 0, false, false, 0, []⟩, ⟨0, ⟨0, 0, 0⟩, 0, 0, [], 0, false, false, 0, []⟩, ⟨0, ⟨0, 0, 0⟩, 0, 0, [], 0, false, false, 0, []⟩], []⟩
def ts00 : Machine := ⟨⟨2, 2, 2, 4, 8⟩, [⟨0, 0, 0, [⟨⟨0, 0, 0⟩, 0, 0⟩, ⟨⟨0, 0, 0⟩, 0, 0⟩, ⟨⟨0, 0, 0⟩, 0, 0⟩, ⟨⟨0, 0, 0⟩, 0, 0⟩, ⟨⟨0, 0, 0⟩, 0, 0⟩, ⟨⟨0, 0, 0⟩, 0, 0⟩, ⟨⟨0, 0, 0⟩, 0, 0⟩, ⟨⟨0, 0, 0⟩, 0, 0⟩]⟩, ⟨0, 0, 0, [⟨⟨0, 0, 0⟩, 0, 0⟩, ⟨⟨0, 0, 0⟩, 0, 0⟩, ⟨⟨0, 0, 0⟩, 0, 0⟩, ⟨⟨0, 0, 0⟩, 0, 0⟩, ⟨⟨0, 0, 0⟩, 0, 0⟩, ⟨⟨0, 0, 0⟩, 0, 0⟩, ⟨⟨0, 0, 0⟩, 0, 0⟩, ⟨⟨0, 0, 0⟩, 0, 0⟩]⟩], [⟨⟨[], [], [], []⟩, [0, 0], [0, 0]⟩, ⟨⟨[], [], [], []⟩, [0, 0], [0, 0]⟩], [⟨1, ⟨0, 0, 5⟩, 0, 0, [], 0, false, false, 0, []⟩, ⟨0, ⟨0, 0, 0⟩, 0, 0, [], 0, false, false, 0, []⟩, ⟨0, ⟨0, 0, 0⟩, 0, 0, [], 0, false, false, 0, []⟩, ⟨0, ⟨0, 0, 0⟩, 0, 0, [], 0, false, false, 0, []⟩], [⟨0, true, ⟨0, 0, 5⟩, 0⟩]⟩
def ts01 : Machine := ⟨⟨2, 2, 2, 4, 8⟩, [⟨0, 0, 0, [⟨⟨0, 0, 0⟩, 0, 0⟩, ⟨⟨0, 0, 0⟩, 0, 0⟩, ⟨⟨0, 0, 0⟩, 0, 0⟩, ⟨⟨0, 0, 0⟩, 0, 0⟩, ⟨⟨0, 0, 0⟩, 0, 0⟩, ⟨⟨0, 0, 0⟩, 0, 0⟩, ⟨⟨0, 0, 0⟩, 0, 0⟩, ⟨⟨0, 0, 0⟩, 0, 0⟩]⟩, ⟨0, 0, 0, [⟨⟨0, 0, 0⟩, 0, 0⟩, ⟨⟨0, 0, 0⟩, 0, 0⟩, ⟨⟨0, 0, 0⟩, 0, 0⟩, ⟨⟨0, 0, 0⟩, 0, 0⟩, ⟨⟨0, 0, 0⟩, 0, 0⟩, ⟨⟨0, 0, 0⟩, 0, 0⟩, ⟨⟨0, 0, 0⟩, 0, 0⟩, ⟨⟨0, 0, 0⟩, 0, 0⟩]⟩], [⟨⟨[], [], [], []⟩, [0, 0], [0, 0]⟩, ⟨⟨[], [], [], []⟩, [0, 0], [0, 0]⟩], [⟨2, ⟨0, 0, 5⟩, 0, 0, [], 0, true, false, 0, []⟩, ⟨0, ⟨0, 0, 0⟩, 0, 0, [], 0, false, false, 0, []⟩, ⟨0, ⟨0, 0, 0⟩, 0, 0, [], 0, false, false, 0, []⟩, ⟨0, ⟨0, 0, 0⟩, 0, 0, [], 0, false, false, 0, []⟩], [⟨0, true, ⟨0, 0, 5⟩, 0⟩]⟩
def ts02 : Machine := ⟨⟨2, 2, 2, 4, 8⟩, [⟨0, 0, 0, [⟨⟨0, 0, 0⟩, 0, 0⟩, ⟨⟨0, 0, 0⟩, 0, 0⟩, ⟨⟨0, 0, 0⟩, 0, 0⟩, ⟨⟨0, 0, 0⟩, 0, 0⟩, ⟨⟨0, 0, 0⟩, 0, 0⟩, ⟨⟨0, 0, 0⟩, 0, 0⟩, ⟨⟨0, 0, 0⟩, 0, 0⟩, ⟨⟨0, 0, 0⟩, 0, 0⟩]⟩, ⟨0, 0, 0, [⟨⟨0, 0, 0⟩, 0, 0⟩, ⟨⟨0, 0, 0⟩, 0, 0⟩, ⟨⟨0, 0, 0⟩, 0, 0⟩, ⟨⟨0, 0, 0⟩, 0, 0⟩, ⟨⟨0, 0, 0⟩, 0, 0⟩, ⟨⟨0, 0, 0⟩, 0, 0⟩, ⟨⟨0, 0, 0⟩, 0, 0⟩, ⟨⟨0, 0, 0⟩, 0, 0⟩]⟩], [⟨⟨[], [], [], []⟩, [0, 0], [1, 0]⟩, ⟨⟨[], [], [], []⟩, [0, 0], [0, 0]⟩], [⟨3, ⟨0, 0, 5⟩, 0, 0, [], 0, true, false, 0, []⟩, ⟨0, ⟨0, 0, 0⟩, 0, 0, [], 0, false, false, 0, []⟩, ⟨0, ⟨0, 0, 0⟩, 0, 0, [], 0, false, false, 0, []⟩, ⟨0, ⟨0, 0, 0⟩, 0, 0, [], 0, false, false, 0, []⟩], [⟨0, true, ⟨0, 0, 5⟩, 0⟩]⟩
def ts03 : Machine := ⟨⟨2, 2, 2, 4, 8⟩, [⟨0, 0, 0, [⟨⟨0, 0, 0⟩, 0, 0⟩, ⟨⟨0, 0, 0⟩, 0, 0⟩, ⟨⟨0, 0, 0⟩, 0, 0⟩, ⟨⟨0, 0, 0⟩, 0, 0⟩, ⟨⟨0, 0, 0⟩, 0, 0⟩, ⟨⟨0, 0, 0⟩, 0, 0⟩, ⟨⟨0, 0, 0⟩, 0, 0⟩, ⟨⟨0, 0, 0⟩, 0, 0⟩]⟩, ⟨0, 0, 0, [⟨⟨0, 0, 0⟩, 0, 0⟩, ⟨⟨0, 0, 0⟩, 0, 0⟩, ⟨⟨0, 0, 0⟩, 0, 0⟩, ⟨⟨0, 0, 0⟩, 0, 0⟩, ⟨⟨0, 0, 0⟩, 0, 0⟩, ⟨⟨0, 0, 0⟩, 0, 0⟩, ⟨⟨0, 0, 0⟩, 0, 0⟩, ⟨⟨0, 0, 0⟩, 0, 0⟩]⟩], [⟨⟨[], [], [], []⟩, [0, 0], [1, 0]⟩, ⟨⟨[], [], [], []⟩, [0, 0], [0, 0]⟩], [⟨4, ⟨0, 0, 5⟩, 0, 0, [0], 0, false, false, 0, []⟩, ⟨0, ⟨0, 0, 0⟩, 0, 0, [], 0, false, false, 0, []⟩, ⟨0, ⟨0, 0, 0⟩, 0, 0, [], 0, false, false, 0, []⟩, ⟨0, ⟨0, 0, 0⟩, 0, 0, [], 0, false, false, 0, []⟩], [⟨0, true, ⟨0, 0, 5⟩, 0⟩]⟩
def ts04 : Machine := ⟨⟨2, 2, 2, 4, 8⟩, [⟨0, 0, 0, [⟨⟨0, 0, 0⟩, 0, 0⟩, ⟨⟨0, 0, 0⟩, 0, 0⟩, ⟨⟨0, 0, 0⟩, 0, 0⟩, ⟨⟨0, 0, 0⟩, 0, 0⟩, ⟨⟨0, 0, 0⟩, 0, 0⟩, ⟨⟨0, 0, 0⟩, 0, 0⟩, ⟨⟨0, 0, 0⟩, 0, 0⟩, ⟨⟨0, 0, 0⟩, 0, 0⟩]⟩, ⟨0, 0, 0, [⟨⟨0, 0, 0⟩, 0, 0⟩, ⟨⟨0, 0, 0⟩, 0, 0⟩, ⟨⟨0, 0, 0⟩, 0, 0⟩, ⟨⟨0, 0, 0⟩, 0, 0⟩, ⟨⟨0, 0, 0⟩, 0, 0⟩, ⟨⟨0, 0, 0⟩, 0, 0⟩, ⟨⟨0, 0, 0⟩, 0, 0⟩, ⟨⟨0, 0, 0⟩, 0, 0⟩]⟩], [⟨⟨[], [], [], []⟩, [0, 0], [1, 0]⟩, ⟨⟨[], [], [], []⟩, [0, 0], [0, 0]⟩], [⟨6, ⟨0, 0, 5⟩, 0, 0, [0], 0, false, false, 0, []⟩, ⟨0, ⟨0, 0, 0⟩, 0, 0, [], 0, false, false, 0, []⟩, ⟨0, ⟨0, 0, 0⟩, 0, 0, [], 0, false, false, 0, []⟩, ⟨0, ⟨0, 0, 0⟩, 0, 0, [], 0, false, false, 0, []⟩], [⟨0, true, ⟨0, 0, 5⟩, 0⟩]⟩
def ts05 : Machine := ⟨⟨2, 2, 2, 4, 8⟩, [⟨0, 1, 0, [⟨⟨0, 0, 0⟩, 0, 0⟩, ⟨⟨0, 0, 0⟩, 0, 0⟩, ⟨⟨0, 0, 0⟩, 0, 0⟩, ⟨⟨0, 0, 0⟩, 0, 0⟩, ⟨⟨0, 0, 0⟩, 0, 0⟩, ⟨⟨0, 0, 0⟩, 0, 0⟩, ⟨⟨0, 0, 0⟩, 0, 0⟩, ⟨⟨0, 0, 0⟩, 0, 0⟩]⟩, ⟨0, 0, 0, [⟨⟨0, 0, 0⟩, 0, 0⟩, ⟨⟨0, 0, 0⟩, 0, 0⟩, ⟨⟨0, 0, 0⟩, 0, 0⟩, ⟨⟨0, 0, 0⟩, 0, 0⟩, ⟨⟨0, 0, 0⟩, 0, 0⟩, ⟨⟨0, 0, 0⟩, 0, 0⟩, ⟨⟨0, 0, 0⟩, 0, 0⟩, ⟨⟨0, 0, 0⟩, 0, 0⟩]⟩], [⟨⟨[], [], [], []⟩, [0, 0], [1, 0]⟩, ⟨⟨[], [], [], []⟩, [0, 0], [0, 0]⟩], [⟨7, ⟨0, 0, 5⟩, 0, 0, [0], 0, false, false, 0, []⟩, ⟨0, ⟨0, 0, 0⟩, 0, 0, [], 0, false, false, 0, []⟩, ⟨0, ⟨0, 0, 0⟩, 0, 0, [], 0, false, false, 0, []⟩, ⟨0, ⟨0, 0, 0⟩, 0, 0, [], 0, false, false, 0, []⟩], [⟨0, true, ⟨0, 0, 5⟩, 0⟩]⟩
def ts06 : Machine := ⟨⟨2, 2, 2, 4, 8⟩, [⟨0, 1, 0, [⟨⟨0, 0, 5⟩, 0, 1⟩, ⟨⟨0, 0, 0⟩, 0, 0⟩, ⟨⟨0, 0, 0⟩, 0, 0⟩, ⟨⟨0, 0, 0⟩, 0, 0⟩, ⟨⟨0, 0, 0⟩, 0, 0⟩, ⟨⟨0, 0, 0⟩, 0, 0⟩, ⟨⟨0, 0, 0⟩, 0, 0⟩, ⟨⟨0, 0, 0⟩, 0, 0⟩]⟩, ⟨0, 0, 0, [⟨⟨0, 0, 0⟩, 0, 0⟩, ⟨⟨0, 0, 0⟩, 0, 0⟩, ⟨⟨0, 0, 0⟩, 0, 0⟩, ⟨⟨0, 0, 0⟩, 0, 0⟩, ⟨⟨0, 0, 0⟩, 0, 0⟩, ⟨⟨0, 0, 0⟩, 0, 0⟩, ⟨⟨0, 0, 0⟩, 0, 0⟩, ⟨⟨0, 0, 0⟩, 0, 0⟩]⟩], [⟨⟨[], [], [], []⟩, [0, 0], [1, 0]⟩, ⟨⟨[], [], [], []⟩, [0, 0], [0, 0]⟩], [⟨8, ⟨0, 0, 5⟩, 0, 0, [0], 1, false, false, 0, []⟩, ⟨0, ⟨0, 0, 0⟩, 0, 0, [], 0, false, false, 0, []⟩, ⟨0, ⟨0, 0, 0⟩, 0, 0, [], 0, false, false, 0, []⟩, ⟨0, ⟨0, 0, 0⟩, 0, 0, [], 0, false, false, 0, []⟩], [⟨0, true, ⟨0, 0, 5⟩, 0⟩]⟩
def ts10 : Machine := ⟨⟨2, 2, 2, 4, 8⟩, [⟨0, 1, 0, [⟨⟨0, 0, 5⟩, 0, 1⟩, ⟨⟨0, 0, 0⟩, 0, 0⟩, ⟨⟨0, 0, 0⟩, 0, 0⟩, ⟨⟨0, 0, 0⟩, 0, 0⟩, ⟨⟨0, 0, 0⟩, 0, 0⟩, ⟨⟨0, 0, 0⟩, 0, 0⟩, ⟨⟨0, 0, 0⟩, 0, 0⟩, ⟨⟨0, 0, 0⟩, 0, 0⟩]⟩, ⟨0, 0, 0, [⟨⟨0, 0, 0⟩, 0, 0⟩, ⟨⟨0, 0, 0⟩, 0, 0⟩, ⟨⟨0, 0, 0⟩, 0, 0⟩, ⟨⟨0, 0, 0⟩, 0, 0⟩, ⟨⟨0, 0, 0⟩, 0, 0⟩, ⟨⟨0, 0, 0⟩, 0, 0⟩, ⟨⟨0, 0, 0⟩, 0, 0⟩, ⟨⟨0, 0, 0⟩, 0, 0⟩]⟩], [⟨⟨[], [], [], []⟩, [0, 0], [1, 0]⟩, ⟨⟨[], [], [], []⟩, [0, 0], [0, 0]⟩], [⟨8, ⟨0, 0, 5⟩, 0, 0, [0], 1, false, false, 0, []⟩, ⟨1, ⟨0, 0, 6⟩, 0, 0, [], 0, false, false, 0, []⟩, ⟨0, ⟨0, 0, 0⟩, 0, 0, [], 0, false, false, 0, []⟩, ⟨0, ⟨0, 0, 0⟩, 0, 0, [], 0, false, false, 0, []⟩], [⟨0, true, ⟨0, 0, 5⟩, 0⟩, ⟨1, true, ⟨0, 0, 6⟩, 0⟩]⟩
def ts11 : Machine := ⟨⟨2, 2, 2, 4, 8⟩, [⟨0, 1, 0, [⟨⟨0, 0, 5⟩, 0, 1⟩, ⟨⟨0, 0, 0⟩, 0, 0⟩, ⟨⟨0, 0, 0⟩, 0, 0⟩, ⟨⟨0, 0, 0⟩, 0, 0⟩, ⟨⟨0, 0, 0⟩, 0, 0⟩, ⟨⟨0, 0, 0⟩, 0, 0⟩, ⟨⟨0, 0, 0⟩, 0, 0⟩, ⟨⟨0, 0, 0⟩, 0, 0⟩]⟩, ⟨0, 0, 0, [⟨⟨0, 0, 0⟩, 0, 0⟩, ⟨⟨0, 0, 0⟩, 0, 0⟩, ⟨⟨0, 0, 0⟩, 0, 0⟩, ⟨⟨0, 0, 0⟩, 0, 0⟩, ⟨⟨0, 0, 0⟩, 0, 0⟩, ⟨⟨0, 0, 0⟩, 0, 0⟩, ⟨⟨0, 0, 0⟩, 0, 0⟩, ⟨⟨0, 0, 0⟩, 0, 0⟩]⟩], [⟨⟨[], [], [], []⟩, [0, 0], [1, 0]⟩, ⟨⟨[], [], [], []⟩, [0, 0], [0, 0]⟩], [⟨8, ⟨0, 0, 5⟩, 0, 0, [0], 1, false, false, 0, []⟩, ⟨2, ⟨0, 0, 6⟩, 0, 0, [], 0, true, false, 0, []⟩, ⟨0, ⟨0, 0, 0⟩, 0, 0, [], 0, false, false, 0, []⟩, ⟨0, ⟨0, 0, 0⟩, 0, 0, [], 0, false, false, 0, []⟩], [⟨0, true, ⟨0, 0, 5⟩, 0⟩, ⟨1, true, ⟨0, 0, 6⟩, 0⟩]⟩
def ts12 : Machine := ⟨⟨2, 2, 2, 4, 8⟩, [⟨0, 1, 0, [⟨⟨0, 0, 5⟩, 0, 1⟩, ⟨⟨0, 0, 0⟩, 0, 0⟩, ⟨⟨0, 0, 0⟩, 0, 0⟩, ⟨⟨0, 0, 0⟩, 0, 0⟩, ⟨⟨0, 0, 0⟩, 0, 0⟩, ⟨⟨0, 0, 0⟩, 0, 0⟩, ⟨⟨0, 0, 0⟩, 0, 0⟩, ⟨⟨0, 0, 0⟩, 0, 0⟩]⟩, ⟨0, 0, 0, [⟨⟨0, 0, 0⟩, 0, 0⟩, ⟨⟨0, 0, 0⟩, 0, 0⟩, ⟨⟨0, 0, 0⟩, 0, 0⟩, ⟨⟨0, 0, 0⟩, 0, 0⟩, ⟨⟨0, 0, 0⟩, 0, 0⟩, ⟨⟨0, 0, 0⟩, 0, 0⟩, ⟨⟨0, 0, 0⟩, 0, 0⟩, ⟨⟨0, 0, 0⟩, 0, 0⟩]⟩], [⟨⟨[], [], [], []⟩, [0, 0], [1, 0]⟩, ⟨⟨[], [], [], []⟩, [0, 0], [2, 0]⟩], [⟨8, ⟨0, 0, 5⟩, 0, 0, [0], 1, false, false, 0, []⟩, ⟨3, ⟨0, 0, 6⟩, 0, 0, [], 0, true, false, 0, []⟩, ⟨0, ⟨0, 0, 0⟩, 0, 0, [], 0, false, false, 0, []⟩, ⟨0, ⟨0, 0, 0⟩, 0, 0, [], 0, false, false, 0, []⟩], [⟨0, true, ⟨0, 0, 5⟩, 0⟩, ⟨1, true, ⟨0, 0, 6⟩, 0⟩]⟩
def ts13 : Machine := ⟨⟨2, 2, 2, 4, 8⟩, [⟨0, 1, 0, [⟨⟨0, 0, 5⟩, 0, 1⟩, ⟨⟨0, 0, 0⟩, 0, 0⟩, ⟨⟨0, 0, 0⟩, 0, 0⟩, ⟨⟨0, 0, 0⟩, 0, 0⟩, ⟨⟨0, 0, 0⟩, 0, 0⟩, ⟨⟨0, 0, 0⟩, 0, 0⟩, ⟨⟨0, 0, 0⟩, 0, 0⟩, ⟨⟨0, 0, 0⟩, 0, 0⟩]⟩, ⟨0, 0, 0, [⟨⟨0, 0, 0⟩, 0, 0⟩, ⟨⟨0, 0, 0⟩, 0, 0⟩, ⟨⟨0, 0, 0⟩, 0, 0⟩, ⟨⟨0, 0, 0⟩, 0, 0⟩, ⟨⟨0, 0, 0⟩, 0, 0⟩, ⟨⟨0, 0, 0⟩, 0, 0⟩, ⟨⟨0, 0, 0⟩, 0, 0⟩, ⟨⟨0, 0, 0⟩, 0, 0⟩]⟩], [⟨⟨[], [], [], []⟩, [0, 0], [1, 0]⟩, ⟨⟨[], [], [], []⟩, [0, 0], [2, 0]⟩], [⟨8, ⟨0, 0, 5⟩, 0, 0, [0], 1, false, false, 0, []⟩, ⟨4, ⟨0, 0, 6⟩, 0, 0, [1], 0, false, false, 0, []⟩, ⟨0, ⟨0, 0, 0⟩, 0, 0, [], 0, false, false, 0, []⟩, ⟨0, ⟨0, 0, 0⟩, 0, 0, [], 0, false, false, 0, []⟩], [⟨0, true, ⟨0, 0, 5⟩, 0⟩, ⟨1, true, ⟨0, 0, 6⟩, 0⟩]⟩
def ts14 : Machine := ⟨⟨2, 2, 2, 4, 8⟩, [⟨0, 1, 0, [⟨⟨0, 0, 5⟩, 0, 1⟩, ⟨⟨0, 0, 0⟩, 0, 0⟩, ⟨⟨0, 0, 0⟩, 0, 0⟩, ⟨⟨0, 0, 0⟩, 0, 0⟩, ⟨⟨0, 0, 0⟩, 0, 0⟩, ⟨⟨0, 0, 0⟩, 0, 0⟩, ⟨⟨0, 0, 0⟩, 0, 0⟩, ⟨⟨0, 0, 0⟩, 0, 0⟩]⟩, ⟨0, 0, 0, [⟨⟨0, 0, 0⟩, 0, 0⟩, ⟨⟨0, 0, 0⟩, 0, 0⟩, ⟨⟨0, 0, 0⟩, 0, 0⟩, ⟨⟨0, 0, 0⟩, 0, 0⟩, ⟨⟨0, 0, 0⟩, 0, 0⟩, ⟨⟨0, 0, 0⟩, 0, 0⟩, ⟨⟨0, 0, 0⟩, 0, 0⟩, ⟨⟨0, 0, 0⟩, 0, 0⟩]⟩], [⟨⟨[], [], [], []⟩, [0, 0], [1, 0]⟩, ⟨⟨[], [], [], []⟩, [0, 0], [2, 0]⟩], [⟨8, ⟨0, 0, 5⟩, 0, 0, [0], 1, false, false, 0, []⟩, ⟨6, ⟨0, 0, 6⟩, 0, 1, [1], 0, false, false, 0, []⟩, ⟨0, ⟨0, 0, 0⟩, 0, 0, [], 0, false, false, 0, []⟩, ⟨0, ⟨0, 0, 0⟩, 0, 0, [], 0, false, false, 0, []⟩], [⟨0, true, ⟨0, 0, 5⟩, 0⟩, ⟨1, true, ⟨0, 0, 6⟩, 0⟩]⟩
def ts15 : Machine := ⟨⟨2, 2, 2, 4, 8⟩, [⟨0, 2, 0, [⟨⟨0, 0, 5⟩, 0, 1⟩, ⟨⟨0, 0, 0⟩, 0, 0⟩, ⟨⟨0, 0, 0⟩, 0, 0⟩, ⟨⟨0, 0, 0⟩, 0, 0⟩, ⟨⟨0, 0, 0⟩, 0, 0⟩, ⟨⟨0, 0, 0⟩, 0, 0⟩, ⟨⟨0, 0, 0⟩, 0, 0⟩, ⟨⟨0, 0, 0⟩, 0, 0⟩]⟩, ⟨0, 0, 0, [⟨⟨0, 0, 0⟩, 0, 0⟩, ⟨⟨0, 0, 0⟩, 0, 0⟩, ⟨⟨0, 0, 0⟩, 0, 0⟩, ⟨⟨0, 0, 0⟩, 0, 0⟩, ⟨⟨0, 0, 0⟩, 0, 0⟩, ⟨⟨0, 0, 0⟩, 0, 0⟩, ⟨⟨0, 0, 0⟩, 0, 0⟩, ⟨⟨0, 0, 0⟩, 0, 0⟩]⟩], [⟨⟨[], [], [], []⟩, [0, 0], [1, 0]⟩, ⟨⟨[], [], [], []⟩, [0, 0], [2, 0]⟩], [⟨8, ⟨0, 0, 5⟩, 0, 0, [0], 1, false, false, 0, []⟩, ⟨7, ⟨0, 0, 6⟩, 0, 1, [1], 0, false, false, 0, []⟩, ⟨0, ⟨0, 0, 0⟩, 0, 0, [], 0, false, false, 0, []⟩, ⟨0, ⟨0, 0, 0⟩, 0, 0, [], 0, false, false, 0, []⟩], [⟨0, true, ⟨0, 0, 5⟩, 0⟩, ⟨1, true, ⟨0, 0, 6⟩, 0⟩]⟩
def tw00 : Machine := ⟨⟨2, 2, 2, 4, 8⟩, [⟨0, 2, 0, [⟨⟨0, 0, 5⟩, 0, 1⟩, ⟨⟨0, 0, 6⟩, 1, 1⟩, ⟨⟨0, 0, 0⟩, 0, 0⟩, ⟨⟨0, 0, 0⟩, 0, 0⟩, ⟨⟨0, 0, 0⟩, 0, 0⟩, ⟨⟨0, 0, 0⟩, 0, 0⟩, ⟨⟨0, 0, 0⟩, 0, 0⟩, ⟨⟨0, 0, 0⟩, 0, 0⟩]⟩, ⟨0, 0, 0, [⟨⟨0, 0, 0⟩, 0, 0⟩, ⟨⟨0, 0, 0⟩, 0, 0⟩, ⟨⟨0, 0, 0⟩, 0, 0⟩, ⟨⟨0, 0, 0⟩, 0, 0⟩, ⟨⟨0, 0, 0⟩, 0, 0⟩, ⟨⟨0, 0, 0⟩, 0, 0⟩, ⟨⟨0, 0, 0⟩, 0, 0⟩, ⟨⟨0, 0, 0⟩, 0, 0⟩]⟩], [⟨⟨[], [], [], []⟩, [0, 0], [1, 0]⟩, ⟨⟨[], [], [], []⟩, [0, 0], [2, 0]⟩], [⟨8, ⟨0, 0, 5⟩, 0, 0, [0], 1, false, false, 0, []⟩, ⟨8, ⟨0, 0, 6⟩, 0, 1, [1], 1, false, false, 0, []⟩, ⟨0, ⟨0, 0, 0⟩, 0, 0, [], 0, false, false, 0, []⟩, ⟨0, ⟨0, 0, 0⟩, 0, 0, [], 0, false, false, 0, []⟩], [⟨0, true, ⟨0, 0, 5⟩, 0⟩, ⟨1, true, ⟨0, 0, 6⟩, 0⟩]⟩
def tw01 : Machine := ⟨⟨2, 2, 2, 4, 8⟩, [⟨0, 2, 0, [⟨⟨0, 0, 5⟩, 0, 1⟩, ⟨⟨0, 0, 6⟩, 1, 1⟩, ⟨⟨0, 0, 0⟩, 0, 0⟩, ⟨⟨0, 0, 0⟩, 0, 0⟩, ⟨⟨0, 0, 0⟩, 0, 0⟩, ⟨⟨0, 0, 0⟩, 0, 0⟩, ⟨⟨0, 0, 0⟩, 0, 0⟩, ⟨⟨0, 0, 0⟩, 0, 0⟩]⟩, ⟨0, 0, 0, [⟨⟨0, 0, 0⟩, 0, 0⟩, ⟨⟨0, 0, 0⟩, 0, 0⟩, ⟨⟨0, 0, 0⟩, 0, 0⟩, ⟨⟨0, 0, 0⟩, 0, 0⟩, ⟨⟨0, 0, 0⟩, 0, 0⟩, ⟨⟨0, 0, 0⟩, 0, 0⟩, ⟨⟨0, 0, 0⟩, 0, 0⟩, ⟨⟨0, 0, 0⟩, 0, 0⟩]⟩], [⟨⟨[], [], [], []⟩, [0, 0], [1, 0]⟩, ⟨⟨[5], [], [], []⟩, [1, 0], [2, 0]⟩], [⟨8, ⟨0, 0, 5⟩, 0, 0, [0], 1, false, false, 0, []⟩, ⟨8, ⟨0, 0, 6⟩, 0, 1, [1], 1, false, false, 0, []⟩, ⟨0, ⟨0, 0, 0⟩, 0, 0, [], 0, false, false, 0, []⟩, ⟨0, ⟨0, 0, 0⟩, 0, 0, [], 0, false, false, 0, []⟩], [⟨0, true, ⟨0, 0, 5⟩, 0⟩, ⟨1, true, ⟨0, 0, 6⟩, 0⟩]⟩
def tw02 : Machine := ⟨⟨2, 2, 2, 4, 8⟩, [⟨0, 2, 0, [⟨⟨0, 0, 5⟩, 0, 1⟩, ⟨⟨0, 0, 6⟩, 1, 1⟩, ⟨⟨0, 0, 0⟩, 0, 0⟩, ⟨⟨0, 0, 0⟩, 0, 0⟩, ⟨⟨0, 0, 0⟩, 0, 0⟩, ⟨⟨0, 0, 0⟩, 0, 0⟩, ⟨⟨0, 0, 0⟩, 0, 0⟩, ⟨⟨0, 0, 0⟩, 0, 0⟩]⟩, ⟨0, 0, 0, [⟨⟨0, 0, 0⟩, 0, 0⟩, ⟨⟨0, 0, 0⟩, 0, 0⟩, ⟨⟨0, 0, 0⟩, 0, 0⟩, ⟨⟨0, 0, 0⟩, 0, 0⟩, ⟨⟨0, 0, 0⟩, 0, 0⟩, ⟨⟨0, 0, 0⟩, 0, 0⟩, ⟨⟨0, 0, 0⟩, 0, 0⟩, ⟨⟨0, 0, 0⟩, 0, 0⟩]⟩], [⟨⟨[], [], [], []⟩, [0, 0], [1, 0]⟩, ⟨⟨[5, 6], [], [], []⟩, [2, 0], [2, 0]⟩], [⟨8, ⟨0, 0, 5⟩, 0, 0, [0], 1, false, false, 0, []⟩, ⟨8, ⟨0, 0, 6⟩, 0, 1, [1], 1, false, true, 1, []⟩, ⟨0, ⟨0, 0, 0⟩, 0, 0, [], 0, false, false, 0, []⟩, ⟨0, ⟨0, 0, 0⟩, 0, 0, [], 0, false, false, 0, []⟩], [⟨0, true, ⟨0, 0, 5⟩, 0⟩, ⟨1, true, ⟨0, 0, 6⟩, 0⟩]⟩
def tw10 : Machine := ⟨⟨2, 2, 2, 4, 8⟩, [⟨0, 2, 0, [⟨⟨0, 0, 5⟩, 0, 1⟩, ⟨⟨0, 0, 6⟩, 1, 1⟩, ⟨⟨0, 0, 0⟩, 0, 0⟩, ⟨⟨0, 0, 0⟩, 0, 0⟩, ⟨⟨0, 0, 0⟩, 0, 0⟩, ⟨⟨0, 0, 0⟩, 0, 0⟩, ⟨⟨0, 0, 0⟩, 0, 0⟩, ⟨⟨0, 0, 0⟩, 0, 0⟩]⟩, ⟨0, 0, 0, [⟨⟨0, 0, 0⟩, 0, 0⟩, ⟨⟨0, 0, 0⟩, 0, 0⟩, ⟨⟨0, 0, 0⟩, 0, 0⟩, ⟨⟨0, 0, 0⟩, 0, 0⟩, ⟨⟨0, 0, 0⟩, 0, 0⟩, ⟨⟨0, 0, 0⟩, 0, 0⟩, ⟨⟨0, 0, 0⟩, 0, 0⟩, ⟨⟨0, 0, 0⟩, 0, 0⟩]⟩], [⟨⟨[5], [], [], []⟩, [1, 0], [1, 0]⟩, ⟨⟨[], [], [], []⟩, [0, 0], [2, 0]⟩], [⟨8, ⟨0, 0, 5⟩, 0, 0, [0], 1, false, true, 1, []⟩, ⟨8, ⟨0, 0, 6⟩, 0, 1, [1], 1, false, false, 0, []⟩, ⟨0, ⟨0, 0, 0⟩, 0, 0, [], 0, false, false, 0, []⟩, ⟨0, ⟨0, 0, 0⟩, 0, 0, [], 0, false, false, 0, []⟩], [⟨0, true, ⟨0, 0, 5⟩, 0⟩, ⟨1, true, ⟨0, 0, 6⟩, 0⟩]⟩
def tw11 : Machine := ⟨⟨2, 2, 2, 4, 8⟩, [⟨0, 2, 0, [⟨⟨0, 0, 5⟩, 0, 1⟩, ⟨⟨0, 0, 6⟩, 1, 1⟩, ⟨⟨0, 0, 0⟩, 0, 0⟩, ⟨⟨0, 0, 0⟩, 0, 0⟩, ⟨⟨0, 0, 0⟩, 0, 0⟩, ⟨⟨0, 0, 0⟩, 0, 0⟩, ⟨⟨0, 0, 0⟩, 0, 0⟩, ⟨⟨0, 0, 0⟩, 0, 0⟩]⟩, ⟨0, 0, 0, [⟨⟨0, 0, 0⟩, 0, 0⟩, ⟨⟨0, 0, 0⟩, 0, 0⟩, ⟨⟨0, 0, 0⟩, 0, 0⟩, ⟨⟨0, 0, 0⟩, 0, 0⟩, ⟨⟨0, 0, 0⟩, 0, 0⟩, ⟨⟨0, 0, 0⟩, 0, 0⟩, ⟨⟨0, 0, 0⟩, 0, 0⟩, ⟨⟨0, 0, 0⟩, 0, 0⟩]⟩], [⟨⟨[5], [], [], []⟩, [1, 0], [1, 0]⟩, ⟨⟨[5], [], [], []⟩, [1, 0], [2, 0]⟩], [⟨8, ⟨0, 0, 5⟩, 0, 0, [0], 1, false, true, 1, []⟩, ⟨8, ⟨0, 0, 6⟩, 0, 1, [1], 1, false, false, 0, []⟩, ⟨0, ⟨0, 0, 0⟩, 0, 0, [], 0, false, false, 0, []⟩, ⟨0, ⟨0, 0, 0⟩, 0, 0, [], 0, false, false, 0, []⟩], [⟨0, true, ⟨0, 0, 5⟩, 0⟩, ⟨1, true, ⟨0, 0, 6⟩, 0⟩]⟩
def tw12 : Machine := ⟨⟨2, 2, 2, 4, 8⟩, [⟨0, 2, 0, [⟨⟨0, 0, 5⟩, 0, 1⟩, ⟨⟨0, 0, 6⟩, 1, 1⟩, ⟨⟨0, 0, 0⟩, 0, 0⟩, ⟨⟨0, 0, 0⟩, 0, 0⟩, ⟨⟨0, 0, 0⟩, 0, 0⟩, ⟨⟨0, 0, 0⟩, 0, 0⟩, ⟨⟨0, 0, 0⟩, 0, 0⟩, ⟨⟨0, 0, 0⟩, 0, 0⟩]⟩, ⟨0, 0, 0, [⟨⟨0, 0, 0⟩, 0, 0⟩, ⟨⟨0, 0, 0⟩, 0, 0⟩, ⟨⟨0, 0, 0⟩, 0, 0⟩, ⟨⟨0, 0, 0⟩, 0, 0⟩, ⟨⟨0, 0, 0⟩, 0, 0⟩, ⟨⟨0, 0, 0⟩, 0, 0⟩, ⟨⟨0, 0, 0⟩, 0, 0⟩, ⟨⟨0, 0, 0⟩, 0, 0⟩]⟩], [⟨⟨[5], [], [], []⟩, [1, 0], [1, 0]⟩, ⟨⟨[5, 6], [], [], []⟩, [2, 0], [2, 0]⟩], [⟨8, ⟨0, 0, 5⟩, 0, 0, [0], 1, false, true, 1, []⟩, ⟨8, ⟨0, 0, 6⟩, 0, 1, [1], 1, false, true, 1, []⟩, ⟨0, ⟨0, 0, 0⟩, 0, 0, [], 0, false, false, 0, []⟩, ⟨0, ⟨0, 0, 0⟩, 0, 0, [], 0, false, false, 0, []⟩], [⟨0, true, ⟨0, 0, 5⟩, 0⟩, ⟨1, true, ⟨0, 0, 6⟩, 0⟩]⟩
def tw20 : Machine := ⟨⟨2, 2, 2, 4, 8⟩, [⟨0, 2, 0, [⟨⟨0, 0, 5⟩, 0, 1⟩, ⟨⟨0, 0, 6⟩, 1, 1⟩, ⟨⟨0, 0, 0⟩, 0, 0⟩, ⟨⟨0, 0, 0⟩, 0, 0⟩, ⟨⟨0, 0, 0⟩, 0, 0⟩, ⟨⟨0, 0, 0⟩, 0, 0⟩, ⟨⟨0, 0, 0⟩, 0, 0⟩, ⟨⟨0, 0, 0⟩, 0, 0⟩]⟩, ⟨0, 0, 0, [⟨⟨0, 0, 0⟩, 0, 0⟩, ⟨⟨0, 0, 0⟩, 0, 0⟩, ⟨⟨0, 0, 0⟩, 0, 0⟩, ⟨⟨0, 0, 0⟩, 0, 0⟩, ⟨⟨0, 0, 0⟩, 0, 0⟩, ⟨⟨0, 0, 0⟩, 0, 0⟩, ⟨⟨0, 0, 0⟩, 0, 0⟩, ⟨⟨0, 0, 0⟩, 0, 0⟩]⟩], [⟨⟨[5, 6], [], [], []⟩, [2, 0], [1, 0]⟩, ⟨⟨[], [], [], []⟩, [0, 0], [2, 0]⟩], [⟨8, ⟨0, 0, 5⟩, 0, 0, [0], 1, false, true, 1, []⟩, ⟨8, ⟨0, 0, 6⟩, 0, 1, [1], 1, false, false, 0, []⟩, ⟨0, ⟨0, 0, 0⟩, 0, 0, [], 0, false, false, 0, []⟩, ⟨0, ⟨0, 0, 0⟩, 0, 0, [], 0, false, false, 0, []⟩], [⟨0, true, ⟨0, 0, 5⟩, 0⟩, ⟨1, true, ⟨0, 0, 6⟩, 0⟩]⟩
def tw21 : Machine := ⟨⟨2, 2, 2, 4, 8⟩, [⟨0, 2, 0, [⟨⟨0, 0, 5⟩, 0, 1⟩, ⟨⟨0, 0, 6⟩, 1, 1⟩, ⟨⟨0, 0, 0⟩, 0, 0⟩, ⟨⟨0, 0, 0⟩, 0, 0⟩, ⟨⟨0, 0, 0⟩, 0, 0⟩, ⟨⟨0, 0, 0⟩, 0, 0⟩, ⟨⟨0, 0, 0⟩, 0, 0⟩, ⟨⟨0, 0, 0⟩, 0, 0⟩]⟩, ⟨0, 0, 0, [⟨⟨0, 0, 0⟩, 0, 0⟩, ⟨⟨0, 0, 0⟩, 0, 0⟩, ⟨⟨0, 0, 0⟩, 0, 0⟩, ⟨⟨0, 0, 0⟩, 0, 0⟩, ⟨⟨0, 0, 0⟩, 0, 0⟩, ⟨⟨0, 0, 0⟩, 0, 0⟩, ⟨⟨0, 0, 0⟩, 0, 0⟩, ⟨⟨0, 0, 0⟩, 0, 0⟩]⟩], [⟨⟨[5, 6], [], [], []⟩, [2, 0], [1, 0]⟩, ⟨⟨[5], [], [], []⟩, [1, 0], [2, 0]⟩], [⟨8, ⟨0, 0, 5⟩, 0, 0, [0], 1, false, true, 1, []⟩, ⟨8, ⟨0, 0, 6⟩, 0, 1, [1], 1, false, false, 0, []⟩, ⟨0, ⟨0, 0, 0⟩, 0, 0, [], 0, false, false, 0, []⟩, ⟨0, ⟨0, 0, 0⟩, 0, 0, [], 0, false, false, 0, []⟩], [⟨0, true, ⟨0, 0, 5⟩, 0⟩, ⟨1, true, ⟨0, 0, 6⟩, 0⟩]⟩
def tw22 : Machine := ⟨⟨2, 2, 2, 4, 8⟩, [⟨0, 2, 0, [⟨⟨0, 0, 5⟩, 0, 1⟩, ⟨⟨0, 0, 6⟩, 1, 1⟩, ⟨⟨0, 0, 0⟩, 0, 0⟩, ⟨⟨0, 0, 0⟩, 0, 0⟩, ⟨⟨0, 0, 0⟩, 0, 0⟩, ⟨⟨0, 0, 0⟩, 0, 0⟩, ⟨⟨0, 0, 0⟩, 0, 0⟩, ⟨⟨0, 0, 0⟩, 0, 0⟩]⟩, ⟨0, 0, 0, [⟨⟨0, 0, 0⟩, 0, 0⟩, ⟨⟨0, 0, 0⟩, 0, 0⟩, ⟨⟨0, 0, 0⟩, 0, 0⟩, ⟨⟨0, 0, 0⟩, 0, 0⟩, ⟨⟨0, 0, 0⟩, 0, 0⟩, ⟨⟨0, 0, 0⟩, 0, 0⟩, ⟨⟨0, 0, 0⟩, 0, 0⟩, ⟨⟨0, 0, 0⟩, 0, 0⟩]⟩], [⟨⟨[5, 6], [], [], []⟩, [2, 0], [1, 0]⟩, ⟨⟨[5, 6], [], [], []⟩, [2, 0], [2, 0]⟩], [⟨8, ⟨0, 0, 5⟩, 0, 0, [0], 1, false, true, 1, []⟩, ⟨8, ⟨0, 0, 6⟩, 0, 1, [1], 1, false, true, 1, []⟩, ⟨0, ⟨0, 0, 0⟩, 0, 0, [], 0, false, false, 0, []⟩, ⟨0, ⟨0, 0, 0⟩, 0, 0, [], 0, false, false, 0, []⟩], [⟨0, true, ⟨0, 0, 5⟩, 0⟩, ⟨1, true, ⟨0, 0, 6⟩, 0⟩]⟩
def ts : Nat → Nat → Machine
  | 0, 0 => ts00
  | 0, 1 => ts01
  | 0, 2 => ts02
  | 0, 3 => ts03
  | 0, 4 => ts04
  | 0, 5 => ts05
  | 0, 6 => ts06
  | 1, 0 => ts10
  | 1, 1 => ts11
  | 1, 2 => ts12
  | 1, 3 => ts13
  | 1, 4 => ts14
  | 1, 5 => ts15
  | 1, 6 => tw00
  | _, _ => twB
def tw : Nat → Nat → Machine
  | 0, 0 => tw00
  | 0, 1 => tw01
  | 0, 2 => tw02
  | 1, 0 => tw10
  | 1, 1 => tw11
  | 1, 2 => tw12
  | 2, 0 => tw20
  | 2, 1 => tw21
  | 2, 2 => tw22
  | _, _ => twB

theorem c_begun18 : PCall tab 20 [] (.agg (encMachine true twB)) := PCall.run (F := m20.p) 40 400 rfl rfl rfl (by kernel_rfl)
theorem tcall0 : PCall tab 21 [.agg (encMachine false twB), .int .i64 0, .agg [.int .i64 0, .int .i64 0, .int .i64 5]] (.tup [.agg (encMachine true (ts 0 0)), .int .i64 0]) := PCall.run (F := m21.p) 40 400 rfl rfl rfl (by kernel_rfl)
theorem tcall1 : PCall tab 21 [.agg (encMachine false (ts 0 6)), .int .i64 1, .agg [.int .i64 0, .int .i64 0, .int .i64 6]] (.tup [.agg (encMachine true (ts 1 0)), .int .i64 0]) := PCall.run (F := m21.p) 40 400 rfl rfl rfl (by kernel_rfl)
theorem tp00 : PCall tab 22 [.agg (encMachine false (ts 0 0)), .int .i64 0] (.tup [.agg (encMachine true (ts 0 1)), .int .i64 0]) := PCall.run (F := m22.p) 40 400 rfl rfl rfl (by kernel_rfl)
theorem tp01 : PCall tab 22 [.agg (encMachine false (ts 0 1)), .int .i64 0] (.tup [.agg (encMachine true (ts 0 2)), .int .i64 0]) := PCall.run (F := m22.p) 40 400 rfl rfl rfl (by kernel_rfl)
theorem tp02 : PCall tab 22 [.agg (encMachine false (ts 0 2)), .int .i64 0] (.tup [.agg (encMachine true (ts 0 3)), .int .i64 0]) := PCall.run (F := m22.p) 40 400 rfl rfl rfl (by kernel_rfl)
theorem tp03 : PCall tab 22 [.agg (encMachine false (ts 0 3)), .int .i64 0] (.tup [.agg (encMachine true (ts 0 4)), .int .i64 0]) := PCall.run (F := m22.p) 40 400 rfl rfl rfl (by kernel_rfl)
theorem tp04 : PCall tab 22 [.agg (encMachine false (ts 0 4)), .int .i64 0] (.tup [.agg (encMachine true (ts 0 5)), .int .i64 0]) := PCall.run (F := m22.p) 40 400 rfl rfl rfl (by kernel_rfl)
theorem tp05 : PCall tab 22 [.agg (encMachine false (ts 0 5)), .int .i64 0] (.tup [.agg (encMachine true (ts 0 6)), .int .i64 0]) := PCall.run (F := m22.p) 40 400 rfl rfl rfl (by kernel_rfl)
theorem tp10 : PCall tab 22 [.agg (encMachine false (ts 1 0)), .int .i64 1] (.tup [.agg (encMachine true (ts 1 1)), .int .i64 0]) := PCall.run (F := m22.p) 40 400 rfl rfl rfl (by kernel_rfl)
theorem tp11 : PCall tab 22 [.agg (encMachine false (ts 1 1)), .int .i64 1] (.tup [.agg (encMachine true (ts 1 2)), .int .i64 0]) := PCall.run (F := m22.p) 40 400 rfl rfl rfl (by kernel_rfl)
theorem tp12 : PCall tab 22 [.agg (encMachine false (ts 1 2)), .int .i64 1] (.tup [.agg (encMachine true (ts 1 3)), .int .i64 0]) := PCall.run (F := m22.p) 40 400 rfl rfl rfl (by kernel_rfl)
theorem tp13 : PCall tab 22 [.agg (encMachine false (ts 1 3)), .int .i64 1] (.tup [.agg (encMachine true (ts 1 4)), .int .i64 0]) := PCall.run (F := m22.p) 40 400 rfl rfl rfl (by kernel_rfl)
theorem tp14 : PCall tab 22 [.agg (encMachine false (ts 1 4)), .int .i64 1] (.tup [.agg (encMachine true (ts 1 5)), .int .i64 0]) := PCall.run (F := m22.p) 40 400 rfl rfl rfl (by kernel_rfl)
theorem tp15 : PCall tab 22 [.agg (encMachine false (ts 1 5)), .int .i64 1] (.tup [.agg (encMachine true (ts 1 6)), .int .i64 0]) := PCall.run (F := m22.p) 40 400 rfl rfl rfl (by kernel_rfl)
theorem to000 : PCall tab 9 [.agg (encMachine false (tw 0 0)), .int .i64 0, .int .i64 0] (.tup [.agg (encMachine true (tw 1 0)), .bool true, .int .i64 0]) := PCall.run (F := m9.p) 40 400 rfl rfl rfl (by kernel_rfl)
theorem to001 : PCall tab 9 [.agg (encMachine false (tw 0 0)), .int .i64 1, .int .i64 0] (.tup [.agg (encMachine true (tw 0 1)), .bool true, .int .i64 0]) := PCall.run (F := m9.p) 40 400 rfl rfl rfl (by kernel_rfl)
theorem to010 : PCall tab 9 [.agg (encMachine false (tw 0 1)), .int .i64 0, .int .i64 0] (.tup [.agg (encMachine true (tw 1 1)), .bool true, .int .i64 0]) := PCall.run (F := m9.p) 40 400 rfl rfl rfl (by kernel_rfl)
theorem to011 : PCall tab 9 [.agg (encMachine false (tw 0 1)), .int .i64 1, .int .i64 0] (.tup [.agg (encMachine true (tw 0 2)), .bool true, .int .i64 0]) := PCall.run (F := m9.p) 40 400 rfl rfl rfl (by kernel_rfl)
theorem to020 : PCall tab 9 [.agg (encMachine false (tw 0 2)), .int .i64 0, .int .i64 0] (.tup [.agg (encMachine true (tw 1 2)), .bool true, .int .i64 0]) := PCall.run (F := m9.p) 40 400 rfl rfl rfl (by kernel_rfl)
theorem to021 : PCall tab 9 [.agg (encMachine false (tw 0 2)), .int .i64 1, .int .i64 0] (.tup [.agg (encMachine true (tw 0 2)), .bool false, .int .i64 0]) := PCall.run (F := m9.p) 40 400 rfl rfl rfl (by kernel_rfl)
theorem to100 : PCall tab 9 [.agg (encMachine false (tw 1 0)), .int .i64 0, .int .i64 0] (.tup [.agg (encMachine true (tw 2 0)), .bool true, .int .i64 0]) := PCall.run (F := m9.p) 40 400 rfl rfl rfl (by kernel_rfl)
theorem to101 : PCall tab 9 [.agg (encMachine false (tw 1 0)), .int .i64 1, .int .i64 0] (.tup [.agg (encMachine true (tw 1 1)), .bool true, .int .i64 0]) := PCall.run (F := m9.p) 40 400 rfl rfl rfl (by kernel_rfl)
theorem to110 : PCall tab 9 [.agg (encMachine false (tw 1 1)), .int .i64 0, .int .i64 0] (.tup [.agg (encMachine true (tw 2 1)), .bool true, .int .i64 0]) := PCall.run (F := m9.p) 40 400 rfl rfl rfl (by kernel_rfl)
theorem to111 : PCall tab 9 [.agg (encMachine false (tw 1 1)), .int .i64 1, .int .i64 0] (.tup [.agg (encMachine true (tw 1 2)), .bool true, .int .i64 0]) := PCall.run (F := m9.p) 40 400 rfl rfl rfl (by kernel_rfl)
theorem to120 : PCall tab 9 [.agg (encMachine false (tw 1 2)), .int .i64 0, .int .i64 0] (.tup [.agg (encMachine true (tw 2 2)), .bool true, .int .i64 0]) := PCall.run (F := m9.p) 40 400 rfl rfl rfl (by kernel_rfl)
theorem to121 : PCall tab 9 [.agg (encMachine false (tw 1 2)), .int .i64 1, .int .i64 0] (.tup [.agg (encMachine true (tw 1 2)), .bool false, .int .i64 0]) := PCall.run (F := m9.p) 40 400 rfl rfl rfl (by kernel_rfl)
theorem to200 : PCall tab 9 [.agg (encMachine false (tw 2 0)), .int .i64 0, .int .i64 0] (.tup [.agg (encMachine true (tw 2 0)), .bool false, .int .i64 0]) := PCall.run (F := m9.p) 40 400 rfl rfl rfl (by kernel_rfl)
theorem to201 : PCall tab 9 [.agg (encMachine false (tw 2 0)), .int .i64 1, .int .i64 0] (.tup [.agg (encMachine true (tw 2 1)), .bool true, .int .i64 0]) := PCall.run (F := m9.p) 40 400 rfl rfl rfl (by kernel_rfl)
theorem to210 : PCall tab 9 [.agg (encMachine false (tw 2 1)), .int .i64 0, .int .i64 0] (.tup [.agg (encMachine true (tw 2 1)), .bool false, .int .i64 0]) := PCall.run (F := m9.p) 40 400 rfl rfl rfl (by kernel_rfl)
theorem to211 : PCall tab 9 [.agg (encMachine false (tw 2 1)), .int .i64 1, .int .i64 0] (.tup [.agg (encMachine true (tw 2 2)), .bool true, .int .i64 0]) := PCall.run (F := m9.p) 40 400 rfl rfl rfl (by kernel_rfl)
theorem to220 : PCall tab 9 [.agg (encMachine false (tw 2 2)), .int .i64 0, .int .i64 0] (.tup [.agg (encMachine true (tw 2 2)), .bool false, .int .i64 0]) := PCall.run (F := m9.p) 40 400 rfl rfl rfl (by kernel_rfl)
theorem to221 : PCall tab 9 [.agg (encMachine false (tw 2 2)), .int .i64 1, .int .i64 0] (.tup [.agg (encMachine true (tw 2 2)), .bool false, .int .i64 0]) := PCall.run (F := m9.p) 40 400 rfl rfl rfl (by kernel_rfl)

theorem tpick : ∀ t i, t < 2 → i < 6 → PCall tab 22 [.agg (encMachine false (ts t i)), .int .i64 t] (.tup [.agg (encMachine true (ts t (i + 1))), .int .i64 0])
  | 0, 0, _, _ => tp00
  | 0, 1, _, _ => tp01
  | 0, 2, _, _ => tp02
  | 0, 3, _, _ => tp03
  | 0, 4, _, _ => tp04
  | 0, 5, _, _ => tp05
  | 1, 0, _, _ => tp10
  | 1, 1, _, _ => tp11
  | 1, 2, _, _ => tp12
  | 1, 3, _, _ => tp13
  | 1, 4, _, _ => tp14
  | 1, 5, _, _ => tp15
  | t + 2, _, h, _ => by omega
  | _, i + 6, _, h => by omega
theorem ts_len : ∀ t i, t < 2 → i ≤ 6 → (ts t i).rings.length = 2 ∧ (ts t i).replicas.length = 2 ∧ (ts t i).threads.length = 4 ∧ (ts t i).history.length = t + 1
  | 0, 0, _, _ => ⟨rfl, rfl, rfl, rfl⟩
  | 0, 1, _, _ => ⟨rfl, rfl, rfl, rfl⟩
  | 0, 2, _, _ => ⟨rfl, rfl, rfl, rfl⟩
  | 0, 3, _, _ => ⟨rfl, rfl, rfl, rfl⟩
  | 0, 4, _, _ => ⟨rfl, rfl, rfl, rfl⟩
  | 0, 5, _, _ => ⟨rfl, rfl, rfl, rfl⟩
  | 0, 6, _, _ => ⟨rfl, rfl, rfl, rfl⟩
  | 1, 0, _, _ => ⟨rfl, rfl, rfl, rfl⟩
  | 1, 1, _, _ => ⟨rfl, rfl, rfl, rfl⟩
  | 1, 2, _, _ => ⟨rfl, rfl, rfl, rfl⟩
  | 1, 3, _, _ => ⟨rfl, rfl, rfl, rfl⟩
  | 1, 4, _, _ => ⟨rfl, rfl, rfl, rfl⟩
  | 1, 5, _, _ => ⟨rfl, rfl, rfl, rfl⟩
  | 1, 6, _, _ => ⟨rfl, rfl, rfl, rfl⟩
  | t + 2, _, h, _ => by omega
  | _, i + 7, _, h => by omega
theorem tw_len : ∀ p q, p ≤ 2 → q ≤ 2 → (tw p q).rings.length = 2 ∧ (tw p q).replicas.length = 2 ∧ (tw p q).threads.length = 4 ∧ (tw p q).history.length = 2
  | 0, 0, _, _ => ⟨rfl, rfl, rfl, rfl⟩
  | 0, 1, _, _ => ⟨rfl, rfl, rfl, rfl⟩
  | 0, 2, _, _ => ⟨rfl, rfl, rfl, rfl⟩
  | 1, 0, _, _ => ⟨rfl, rfl, rfl, rfl⟩
  | 1, 1, _, _ => ⟨rfl, rfl, rfl, rfl⟩
  | 1, 2, _, _ => ⟨rfl, rfl, rfl, rfl⟩
  | 2, 0, _, _ => ⟨rfl, rfl, rfl, rfl⟩
  | 2, 1, _, _ => ⟨rfl, rfl, rfl, rfl⟩
  | 2, 2, _, _ => ⟨rfl, rfl, rfl, rfl⟩
  | p + 3, _, h, _ => by omega
  | _, q + 3, _, h => by omega

end Go.Ab

namespace Go.Ab

def mCells (b : Nat) (M : Machine) : List TV := [.a (.int .i64 M.config.object), .a (.int .i64 M.config.replicas), .a (.int .i64 M.config.logs), .a (.int .i64 M.config.threads), .a (.int .i64 M.config.slots), .sl b [] 0 0 M.rings.length true, .sl (b + 1) [] 0 0 M.replicas.length true, .sl (b + 2) [] 0 0 M.threads.length true, .sl (b + 3) [] 0 0 M.history.length true]
structure MAt (b : Nat) (T : TH) (M : Machine) : Prop where
  q0 : T.get b = .tree (M.rings.map (encRing true)) true []
  q1 : T.get (b + 1) = .tree (M.replicas.map (encReplica true)) true []
  q2 : T.get (b + 2) = .tree (M.threads.map (encThread true)) true []
  q3 : T.get (b + 3) = .tree (M.history.map encEvent) true []
  n : b + 4 ≤ T.next

def tsS : Nat → Machine
  | 0 => twB
  | 1 => ts 0 6
  | _ => ts 1 6
def rdy (p q : Nat) : Int := (if 1 ≤ p then 1 else 0) + (if 2 ≤ q then 1 else 0)

structure RtA (rows : List Int) (k : Nat) (E : TE) (T : TH) : Prop where
  h : ∃ (t b : Nat), t + k = 2 ∧ MAt b T (tsS t) ∧ E.var 0 = some (mCells b (tsS t)) ∧ E.get 4 = .a (.int .i64 t)
  ln : E.ln = 1
  e0 : E.get 0 = .a (.vs (rows.map encInt) false)
  e3 : E.get 3 = .lp 0 0
structure RtP (rows : List Int) (t : Nat) (k : Nat) (E : TE) (T : TH) : Prop where
  h : ∃ (i b : Nat), i + k = 6 ∧ MAt b T (ts t i) ∧ E.var 0 = some (mCells b (ts t i)) ∧ E.get 5 = .a (.int .i64 i)
  e4 : E.get 4 = .a (.int .i64 t)
  ln : E.ln = 1
  e0 : E.get 0 = .a (.vs (rows.map encInt) false)
  e3 : E.get 3 = .lp 0 0
structure RtL (rows : List Int) (k : Nat) (E : TE) (T : TH) : Prop where
  h : ∃ (i b p q : Nat), i + k = 30 ∧ p ≤ 2 ∧ q ≤ 2 ∧ MAt b T (tw p q) ∧ E.var 0 = some (mCells b (tw p q)) ∧ E.get 7 = .a (.int .i64 i) ∧ E.get 6 = .a (.int .i64 (rdy p q)) ∧
    (rows.length ≤ i → (2 ≤ p ∨ (i + 1) / 2 ≤ p + (rows.length + 1) / 2) ∧ (2 ≤ q ∨ i / 2 ≤ q + rows.length / 2))
  ln : 1 ≤ E.ln
  e0 : E.get 0 = .a (.vs (rows.map encInt) false)
  e3 : E.get 3 = .lp 0 0

theorem CallT.sure {M : FuncId → Option MFunc} {q : Bool} {k : FuncId} {args : List TV} {ts : List AV} {T : TH} {K : TV → TH → Prop} {p : Prop} [Decidable p] (hp : p) (ht : mapO (fzT T) args = some ts) (hc : PCall M k ts (.bool (decide p))) (h1 : K (.a (.bool true)) T) : CallT M q k args T K :=
  CallT.bool2 ht hc (fun _ => h1) (fun h => absurd hp h)
structure RtI (rows : List Int) (i r b b' : Nat) (M A : Machine) (s : Bool) (R d0 d1 : Int) (st : Nat) (k : Nat) (E : TE) (T : TH) : Prop where
  h : ∃ t : Nat, t + k = 2 ∧ E.get 12 = .a (.int .i64 t) ∧ E.get 6 = .a (.int .i64 (if t = 0 then R else if t = 1 then R + d0 else R + d0 + d1))
  q : MAt b T M
  q' : MAt b' T A
  v0 : E.var 0 = some (mCells b M)
  v1 : E.var st = some (mCells b' A)
  ln : st < E.ln
  e0 : E.get 0 = .a (.vs (rows.map encInt) false)
  e3 : E.get 3 = .lp 0 0
  e7 : E.get 7 = .a (.int .i64 i)
  e8 : E.get 8 = .a (.int .i64 r)
  e9 : E.get 9 = .lp st 0
  e10 : E.get 10 = .a (.bool s)

theorem ts_end : ∀ t, t < 2 → ts t 6 = tsS (t + 1)
  | 0, _ => rfl
  | 1, _ => rfl
theorem tsS_len : ∀ t, t ≤ 2 → (tsS t).rings.length = 2 ∧ (tsS t).replicas.length = 2 ∧ (tsS t).threads.length = 4 ∧ (tsS t).history.length = t
  | 0, _ => ⟨rfl, rfl, rfl, rfl⟩
  | 1, _ => ⟨rfl, rfl, rfl, rfl⟩
  | 2, _ => ⟨rfl, rfl, rfl, rfl⟩
theorem tcall : ∀ t : Nat, t < 2 → PCall tab 21 [.agg (encMachine false (tsS t)), .int .i64 t, .agg [.int .i64 0, .int .i64 0, .int .i64 (5 + t)]] (.tup [.agg (encMachine true (ts t 0)), .int .i64 0])
  | 0, _ => tcall0
  | 1, _ => tcall1
structure TwoStep (p q r P Q : Nat) (s : Bool) (x0 x1 x2 x3 y0 y1 y2 y3 : Thread) : Prop where
  one : PCall tab 9 [.agg (encMachine false (tw p q)), .int .i64 r, .int .i64 0] (.tup [.agg (encMachine true (tw P Q)), .bool s, .int .i64 0])
  P2 : P ≤ 2
  Q2 : Q ≤ 2
  hx : (tw p q).threads = [x0, x1, x2, x3]
  hy : (tw P Q).threads = [y0, y1, y2, y3]
  n0 : y0.ready = true → x0.ready = false → s = true ∧ r = 0
  n1 : y1.ready = true → x1.ready = false → s = true ∧ r = 1
  c : rdy P Q = rdy p q + (if y0.ready = true ∧ x0.ready = false then 1 else 0) + (if y1.ready = true ∧ x1.ready = false then 1 else 0)
  pq : p ≤ P ∧ q ≤ Q ∧ (r = 0 → P = 2 ∨ P = p + 1) ∧ (r = 1 → Q = 2 ∨ Q = q + 1)
theorem two_step : ∀ p q r, p ≤ 2 → q ≤ 2 → r < 2 → ∃ P Q s x0 x1 x2 x3 y0 y1 y2 y3, TwoStep p q r P Q s x0 x1 x2 x3 y0 y1 y2 y3
  | 0, 0, 0, _, _, _ => ⟨1, 0, _, _, _, _, _, _, _, _, _, ⟨to000, by omega, by omega, rfl, rfl, by decide, by decide, by decide, by omega⟩⟩
  | 0, 0, 1, _, _, _ => ⟨0, 1, _, _, _, _, _, _, _, _, _, ⟨to001, by omega, by omega, rfl, rfl, by decide, by decide, by decide, by omega⟩⟩
  | 0, 1, 0, _, _, _ => ⟨1, 1, _, _, _, _, _, _, _, _, _, ⟨to010, by omega, by omega, rfl, rfl, by decide, by decide, by decide, by omega⟩⟩
  | 0, 1, 1, _, _, _ => ⟨0, 2, _, _, _, _, _, _, _, _, _, ⟨to011, by omega, by omega, rfl, rfl, by decide, by decide, by decide, by omega⟩⟩
  | 0, 2, 0, _, _, _ => ⟨1, 2, _, _, _, _, _, _, _, _, _, ⟨to020, by omega, by omega, rfl, rfl, by decide, by decide, by decide, by omega⟩⟩
  | 0, 2, 1, _, _, _ => ⟨0, 2, _, _, _, _, _, _, _, _, _, ⟨to021, by omega, by omega, rfl, rfl, by decide, by decide, by decide, by omega⟩⟩
  | 1, 0, 0, _, _, _ => ⟨2, 0, _, _, _, _, _, _, _, _, _, ⟨to100, by omega, by omega, rfl, rfl, by decide, by decide, by decide, by omega⟩⟩
  | 1, 0, 1, _, _, _ => ⟨1, 1, _, _, _, _, _, _, _, _, _, ⟨to101, by omega, by omega, rfl, rfl, by decide, by decide, by decide, by omega⟩⟩
  | 1, 1, 0, _, _, _ => ⟨2, 1, _, _, _, _, _, _, _, _, _, ⟨to110, by omega, by omega, rfl, rfl, by decide, by decide, by decide, by omega⟩⟩
  | 1, 1, 1, _, _, _ => ⟨1, 2, _, _, _, _, _, _, _, _, _, ⟨to111, by omega, by omega, rfl, rfl, by decide, by decide, by decide, by omega⟩⟩
  | 1, 2, 0, _, _, _ => ⟨2, 2, _, _, _, _, _, _, _, _, _, ⟨to120, by omega, by omega, rfl, rfl, by decide, by decide, by decide, by omega⟩⟩
  | 1, 2, 1, _, _, _ => ⟨1, 2, _, _, _, _, _, _, _, _, _, ⟨to121, by omega, by omega, rfl, rfl, by decide, by decide, by decide, by omega⟩⟩
  | 2, 0, 0, _, _, _ => ⟨2, 0, _, _, _, _, _, _, _, _, _, ⟨to200, by omega, by omega, rfl, rfl, by decide, by decide, by decide, by omega⟩⟩
  | 2, 0, 1, _, _, _ => ⟨2, 1, _, _, _, _, _, _, _, _, _, ⟨to201, by omega, by omega, rfl, rfl, by decide, by decide, by decide, by omega⟩⟩
  | 2, 1, 0, _, _, _ => ⟨2, 1, _, _, _, _, _, _, _, _, _, ⟨to210, by omega, by omega, rfl, rfl, by decide, by decide, by decide, by omega⟩⟩
  | 2, 1, 1, _, _, _ => ⟨2, 2, _, _, _, _, _, _, _, _, _, ⟨to211, by omega, by omega, rfl, rfl, by decide, by decide, by decide, by omega⟩⟩
  | 2, 2, 0, _, _, _ => ⟨2, 2, _, _, _, _, _, _, _, _, _, ⟨to220, by omega, by omega, rfl, rfl, by decide, by decide, by decide, by omega⟩⟩
  | 2, 2, 1, _, _, _ => ⟨2, 2, _, _, _, _, _, _, _, _, _, ⟨to221, by omega, by omega, rfl, rfl, by decide, by decide, by decide, by omega⟩⟩
  | p + 3, _, _, h, _, _ => by omega
  | _, q + 3, _, _, h, _ => by omega
  | _, _, r + 2, _, _, h => by omega

theorem tr_end : ∃ c0 l0 c1 l1 : List Int, (tw 2 2).replicas = [⟨⟨[5, 6], [], [], []⟩, c0, l0⟩, ⟨⟨[5, 6], [], [], []⟩, c1, l1⟩] := ⟨_, _, _, _, rfl⟩

set_option maxRecDepth 20000 in
set_option maxHeartbeats 16000000 in
theorem l_ReplayTwo (rows : List Int) (hr1 : ∀ x ∈ rows, inR x) (hr2 : rows.length ≤ 9223372036854775807) : CallT tab false 7 [.a (.vs (rows.map encInt) false)] TH.none (fun v _ => v = .a (.bool true)) := by
  have w0 : IntKind.wrap .i64 0 = 0 := by decide
  have w1 : IntKind.wrap .i64 1 = 1 := by decide
  have w2 : IntKind.wrap .i64 2 = 2 := by decide
  have w11 : IntKind.wrap .i64 (1 % 2 ^ IntKind.i64.bits) = 1 := by decide
  refine CallT.body (F := m7) rfl rfl rfl rfl ?_
  simp -implicitDefEqProofs [m7]
  refine CallT.pure c_awake18 rfl rfl ?_
  simp -implicitDefEqProofs
  refine CallT.pure c_begun18 rfl (ok_mach _) ?_
  rw [show twB = tsS 0 from rfl]
  simp -implicitDefEqProofs
  refine loop_by (RtA rows) ?_ 2 ⟨⟨0, 0, rfl, ⟨by simp, by simp, by simp, by simp, by simp⟩, by simp [mCells], by simp⟩, by simp, by simp, by simp⟩
  rintro k E T ⟨⟨t, b, htk, ⟨q0, q1, q2, q3, hn⟩, v0, e4⟩, ln, e0, e3⟩
  obtain ⟨l0, l1, l2, l3⟩ := tsS_len t (by omega)
  unfold mCells at v0
  by_cases ht : t < 2
  · have ht' : (t : Int) < 2 := by omega
    have h5 : IntKind.wrap .i64 (5 + (t : Int)) = 5 + t := wrap_of (by omega) (by omega)
    simp -implicitDefEqProofs [e0, e3, e4, v0, ln, ht', h5]
    refine CallT.pure (tcall t ht) (by simp [q0, q1, q2, q3, l0, l1, l2, l3]) (ok_mach1 _ _) ?_
    simp -implicitDefEqProofs [e0, e3, e4, v0, ln]
    refine loop_by (RtP rows t) ?_ 6 ⟨⟨0, T.next, rfl, ⟨by simp, by simp, by simp, by simp, by simp⟩, by simp [mCells], by simp⟩, by simp [e4], by simp [ln], by simp [e0], by simp [e3]⟩
    clear q0 q1 q2 q3 hn v0 e4 ln e0 e3 l0 l1 l2 l3 E T b
    rintro k1 E T ⟨⟨i, b, hik, ⟨q0, q1, q2, q3, hn⟩, v0, e5⟩, e4, ln, e0, e3⟩
    obtain ⟨l0, l1, l2, l3⟩ := ts_len t i ht (by omega)
    unfold mCells at v0
    by_cases hi : i < 6
    · have hi' : (i : Int) < 6 := by omega
      simp -implicitDefEqProofs [e0, e3, e4, e5, v0, ln, hi']
      refine CallT.pure (tpick t i ht hi) (by simp [q0, q1, q2, q3, l0, l1, l2, l3]) (ok_mach1 _ _) ?_
      simp -implicitDefEqProofs [e0, e3, e4, e5, v0, ln]
      refine ⟨k1 - 1, by omega, ⟨⟨i + 1, T.next, by omega, ⟨by simp, by simp, by simp, by simp, by simp⟩, by simp [mCells], by first | (simp; done) | (simp; exact wrap_nat (by omega))⟩, by simp [e4], by simp [ln], by simp [e0], by simp [e3]⟩⟩
    · have hi' : ¬ (i : Int) < 6 := by omega
      obtain rfl : i = 6 := by omega
      have he := ts_end t ht
      simp -implicitDefEqProofs [e0, e3, e4, e5, v0, ln, hi']
      refine ⟨k - 1, by omega, ⟨⟨t + 1, b, by omega, by rw [← he]; exact ⟨by simp [q0], by simp [q1], by simp [q2], by simp [q3], by simpa using hn⟩, by rw [← he]; simp [v0, mCells], by first | (simp; done) | (simp; exact wrap_nat (by omega))⟩, by simp [ln], by simp [e0], by simp [e3]⟩⟩
  · have ht' : ¬ (t : Int) < 2 := by omega
    obtain rfl : t = 2 := by omega
    simp -implicitDefEqProofs [e0, e3, e4, v0, ln, ht']
    refine loop_by (RtL rows) ?_ 30 ⟨⟨0, b, 0, 0, rfl, by omega, by omega, ⟨by simp [q0]; rfl, by simp [q1]; rfl, by simp [q2]; rfl, by simp [q3]; rfl, by simpa using hn⟩, by simp [v0, mCells]; exact ⟨rfl, rfl, rfl, rfl, rfl, rfl, rfl, rfl, rfl⟩, by simp, by simp [rdy], fun _ => by omega⟩, by simp [ln], by simp [e0], by simp [e3]⟩
    clear q0 q1 q2 q3 hn v0 e4 ln e0 e3 l0 l1 l2 l3 ht ht' htk E T b k
    rintro k E T ⟨⟨i, b, p, q, hik, hp, hq, ⟨q0, q1, q2, q3, hn⟩, v0, e7, e6, hinv⟩, ln, e0, e3⟩
    obtain ⟨l0, l1, l2, l3⟩ := tw_len p q hp hq
    unfold mCells at v0
    have n0 : ¬ E.ln = 0 := by omega
    have n0' : ¬ 0 = E.ln := by omega
    by_cases hg : (i : Int) < IntKind.wrap .i64 ((rows.length : Int) + 8)
    · by_cases hg2 : (i : Int) < 30
      · have key : ∀ rv : Nat, rv < 2 → (rows.length ≤ i → rv = i % 2) → True := fun _ _ _ => trivial
        by_cases hir : i < rows.length
        · have z0 : 0 < rows.length := by omega
          have g1 := List.getElem?_eq_getElem hir
          obtain ⟨rv, hrv⟩ : ∃ rv, rows[i] % 2 = rv := ⟨_, rfl⟩
          simp -implicitDefEqProofs [e0, e3, e6, e7, v0, hg, hg2, hir, z0, g1, mask_1, hrv]
          have hrr : rv = 0 ∨ rv = 1 := by omega
          have hrn : ∃ rn : Nat, rn < 2 ∧ rv = (rn : Int) := ⟨rv.toNat, by omega, by omega⟩
          obtain ⟨rn, hrn2, rfl⟩ := hrn
          obtain ⟨P, Q, s, x0, x1, x2, x3, y0, y1, y2, y3, ⟨hone, hP2, hQ2, hx, hy, hn0, hn1, hc, hpq⟩⟩ := two_step p q rn hp hq hrn2
          obtain ⟨m0, m1, m2, m3⟩ := tw_len P Q hP2 hQ2
          refine CallT.pure hone (by simp [q0, q1, q2, q3, l0, l1, l2, l3]) (ok_mach2 _ _ _ _) ?_
          simp -implicitDefEqProofs [e0, e3, e6, e7, v0, n0, n0']
          refine CallT.pure (c_Num 0) rfl rfl ?_
          simp -implicitDefEqProofs [e0, e3, e6, e7, v0, n0, n0', m0, m1, m2, m3]
          have ub : ¬ b = T.next := by omega
          have ub' : ¬ T.next = b := by omega
          have ub1 : ¬ b + 1 = T.next := by omega
          have ub1' : ¬ T.next = b + 1 := by omega
          have ub2 : ¬ b + 2 = T.next := by omega
          have ub2' : ¬ T.next = b + 2 := by omega
          have ub3 : ¬ b + 3 = T.next := by omega
          have ub3' : ¬ T.next = b + 3 := by omega
          have uz1 : ¬ T.next + 1 = b := by omega
          have uz2 : ¬ T.next + 1 + 1 = b := by omega
          have uz3 : ¬ T.next + 1 + 1 + 1 = b := by omega
          refine loop_by (RtI rows i rn b T.next (tw p q) (tw P Q) s (rdy p q) (if y0.ready = true ∧ x0.ready = false then 1 else 0) (if y1.ready = true ∧ x1.ready = false then 1 else 0) E.ln) ?_ 2 ⟨⟨0, by simp, by simp, by simp [e6]⟩, ⟨by simp [q0, ub', uz1, uz2, uz3], by simp [q1, ub', ub1', uz1, uz2], by simp [q2, ub', ub1', ub2', uz1], by simp [q3, ub', ub1', ub2', ub3'], by simp; omega⟩, ⟨by simp, by simp, by simp, by simp, by simp⟩, by simp [v0, mCells, n0, n0'], by simp [mCells, n0, n0', m0, m1, m2, m3], by simp, by simp [e0], by simp [e3], by simp [e7], by simp, by simp, by simp⟩
          clear q0 q1 q2 q3 v0 e7 e6 e0 e3 ub ub' ub1 ub1' ub2 ub2' ub3 ub3' uz1 uz2 uz3
          generalize T.next = b' at *
          obtain ⟨st, hst⟩ : ∃ st, E.ln = st := ⟨_, rfl⟩
          rw [hst]
          have hst1 : 1 ≤ st := by omega
          clear hst ln n0 n0' hn E T
          rintro k1 E T ⟨⟨t, htk, e12, e6⟩, ⟨q0, q1, q2, q3, hn⟩, ⟨r0, r1, r2, r3, hn'⟩, v0, v1, ln, e0, e3, e7, e8, e9, e10⟩
          unfold mCells at v0 v1
          have ht3 : t = 0 ∨ t = 1 ∨ t = 2 := by omega
          have hrd : rdy p q = 0 ∨ rdy p q = 1 ∨ rdy p q = 2 := by unfold rdy; split <;> split <;> omega
          rcases ht3 with rfl | rfl | rfl
          · cases hy0 : y0.ready <;> cases hx0 : x0.ready
            case true.false =>
              obtain ⟨rfl, rfl⟩ := hn0 hy0 hx0
              simp -implicitDefEqProofs [e0, e3, e6, e7, e8, e9, e10, e12, v0, v1, q2, r2, hx, hy, hx0, hy0, l2, m2, w0, w1, w2]
              refine ⟨k1 - 1, by omega, ⟨⟨1, by omega, by simp [w1], ?_⟩, ⟨q0, q1, q2, q3, hn⟩, ⟨r0, r1, r2, r3, hn'⟩, by simp [v0, mCells], by simp [v1, mCells], by simpa using ln, by simp [e0], by simp [e3], by simp [e7], by simp [e8], by simp [e9], by simp [e10]⟩⟩
              simp [hx0, hy0]
              exact wrap_of (by omega) (by omega)
            all_goals
              simp -implicitDefEqProofs [e0, e3, e6, e7, e8, e9, e10, e12, v0, v1, q2, r2, hx, hy, hx0, hy0, l2, m2, w0, w1, w2]
              refine ⟨k1 - 1, by omega, ⟨⟨1, by omega, by simp [w1], by simp [e6, hx0, hy0]⟩, ⟨q0, q1, q2, q3, hn⟩, ⟨r0, r1, r2, r3, hn'⟩, by simp [v0, mCells], by simp [v1, mCells], by simpa using ln, by simp [e0], by simp [e3], by simp [e7], by simp [e8], by simp [e9], by simp [e10]⟩⟩
          · obtain ⟨d0, hd0⟩ : ∃ d0 : Int, (if y0.ready = true ∧ x0.ready = false then (1 : Int) else 0) = d0 := ⟨_, rfl⟩
            have hd01 : d0 = 0 ∨ d0 = 1 := by rw [← hd0]; split <;> omega
            rw [hd0] at hc e6 ⊢
            cases hy1 : y1.ready <;> cases hx1 : x1.ready
            case true.false =>
              obtain ⟨rfl, rfl⟩ := hn1 hy1 hx1
              simp -implicitDefEqProofs [e0, e3, e6, e7, e8, e9, e10, e12, v0, v1, q2, r2, hx, hy, hx1, hy1, l2, m2, w0, w1, w2, w11]
              refine ⟨k1 - 1, by omega, ⟨⟨2, by omega, by simp [w2], ?_⟩, ⟨q0, q1, q2, q3, hn⟩, ⟨r0, r1, r2, r3, hn'⟩, by simp [v0, mCells], by simp [v1, mCells], by simpa using ln, by simp [e0], by simp [e3], by simp [e7], by simp [e8], by simp [e9], by simp [e10]⟩⟩
              simp [hx1, hy1]
              exact wrap_of (by omega) (by omega)
            all_goals
              simp -implicitDefEqProofs [e0, e3, e6, e7, e8, e9, e10, e12, v0, v1, q2, r2, hx, hy, hx1, hy1, l2, m2, w0, w1, w2]
              refine ⟨k1 - 1, by omega, ⟨⟨2, by omega, by simp [w2], by simp [e6, hx1, hy1]⟩, ⟨q0, q1, q2, q3, hn⟩, ⟨r0, r1, r2, r3, hn'⟩, by simp [v0, mCells], by simp [v1, mCells], by simpa using ln, by simp [e0], by simp [e3], by simp [e7], by simp [e8], by simp [e9], by simp [e10]⟩⟩
          · have hst0 : ¬ st = 0 := by omega
            simp -implicitDefEqProofs [e0, e3, e6, e7, e8, e9, e10, e12, v0, v1, hst0]
            refine ⟨k - 1, by omega, ⟨⟨i + 1, b', P, Q, by omega, hP2, hQ2, ⟨by simp [r0], by simp [r1], by simp [r2], by simp [r3], by simpa using hn'⟩, by simp [mCells, hst0], by first | (simp; done) | (simp; exact wrap_nat (by omega)), by simp [e6, hc], fun hle => by omega⟩, by simp; omega, by simp [e0], by simp [e3]⟩⟩
        · have hinv2 := hinv (by omega)
          obtain ⟨rv, hrv⟩ : ∃ rv, (i : Int) % 2 = rv := ⟨_, rfl⟩
          have hrv' : IntKind.wrap .i64 ((i % 2 ^ IntKind.i64.bits &&& 1 % 2 ^ IntKind.i64.bits : Nat) : Int) = rv := by
            rw [← hrv]
            have := mask_1 (i : Int)
            rw [← this]
            congr 2
          simp -implicitDefEqProofs [e0, e3, e6, e7, v0, hg, hg2, hir, mask_1, hrv, hrv']
          have hrr : rv = 0 ∨ rv = 1 := by omega
          have hrn : ∃ rn : Nat, rn < 2 ∧ rv = (rn : Int) := ⟨rv.toNat, by omega, by omega⟩
          obtain ⟨rn, hrn2, rfl⟩ := hrn
          obtain ⟨P, Q, s, x0, x1, x2, x3, y0, y1, y2, y3, ⟨hone, hP2, hQ2, hx, hy, hn0, hn1, hc, hpq⟩⟩ := two_step p q rn hp hq hrn2
          obtain ⟨m0, m1, m2, m3⟩ := tw_len P Q hP2 hQ2
          refine CallT.pure hone (by simp [q0, q1, q2, q3, l0, l1, l2, l3]) (ok_mach2 _ _ _ _) ?_
          simp -implicitDefEqProofs [e0, e3, e6, e7, v0, n0, n0']
          refine CallT.pure (c_Num 0) rfl rfl ?_
          simp -implicitDefEqProofs [e0, e3, e6, e7, v0, n0, n0', m0, m1, m2, m3]
          have ub : ¬ b = T.next := by omega
          have ub' : ¬ T.next = b := by omega
          have ub1 : ¬ b + 1 = T.next := by omega
          have ub1' : ¬ T.next = b + 1 := by omega
          have ub2 : ¬ b + 2 = T.next := by omega
          have ub2' : ¬ T.next = b + 2 := by omega
          have ub3 : ¬ b + 3 = T.next := by omega
          have ub3' : ¬ T.next = b + 3 := by omega
          have uz1 : ¬ T.next + 1 = b := by omega
          have uz2 : ¬ T.next + 1 + 1 = b := by omega
          have uz3 : ¬ T.next + 1 + 1 + 1 = b := by omega
          refine loop_by (RtI rows i rn b T.next (tw p q) (tw P Q) s (rdy p q) (if y0.ready = true ∧ x0.ready = false then 1 else 0) (if y1.ready = true ∧ x1.ready = false then 1 else 0) E.ln) ?_ 2 ⟨⟨0, by simp, by simp, by simp [e6]⟩, ⟨by simp [q0, ub', uz1, uz2, uz3], by simp [q1, ub', ub1', uz1, uz2], by simp [q2, ub', ub1', ub2', uz1], by simp [q3, ub', ub1', ub2', ub3'], by simp; omega⟩, ⟨by simp, by simp, by simp, by simp, by simp⟩, by simp [v0, mCells, n0, n0'], by simp [mCells, n0, n0', m0, m1, m2, m3], by simp, by simp [e0], by simp [e3], by simp [e7], by simp, by simp, by simp⟩
          clear q0 q1 q2 q3 v0 e7 e6 e0 e3 ub ub' ub1 ub1' ub2 ub2' ub3 ub3' uz1 uz2 uz3
          generalize T.next = b' at *
          obtain ⟨st, hst⟩ : ∃ st, E.ln = st := ⟨_, rfl⟩
          rw [hst]
          have hst1 : 1 ≤ st := by omega
          clear hst ln n0 n0' hn E T
          rintro k1 E T ⟨⟨t, htk, e12, e6⟩, ⟨q0, q1, q2, q3, hn⟩, ⟨r0, r1, r2, r3, hn'⟩, v0, v1, ln, e0, e3, e7, e8, e9, e10⟩
          unfold mCells at v0 v1
          have ht3 : t = 0 ∨ t = 1 ∨ t = 2 := by omega
          have hrd : rdy p q = 0 ∨ rdy p q = 1 ∨ rdy p q = 2 := by unfold rdy; split <;> split <;> omega
          rcases ht3 with rfl | rfl | rfl
          · cases hy0 : y0.ready <;> cases hx0 : x0.ready
            case true.false =>
              obtain ⟨rfl, rfl⟩ := hn0 hy0 hx0
              simp -implicitDefEqProofs [e0, e3, e6, e7, e8, e9, e10, e12, v0, v1, q2, r2, hx, hy, hx0, hy0, l2, m2, w0, w1, w2]
              refine ⟨k1 - 1, by omega, ⟨⟨1, by omega, by simp [w1], ?_⟩, ⟨q0, q1, q2, q3, hn⟩, ⟨r0, r1, r2, r3, hn'⟩, by simp [v0, mCells], by simp [v1, mCells], by simpa using ln, by simp [e0], by simp [e3], by simp [e7], by simp [e8], by simp [e9], by simp [e10]⟩⟩
              simp [hx0, hy0]
              exact wrap_of (by omega) (by omega)
            all_goals
              simp -implicitDefEqProofs [e0, e3, e6, e7, e8, e9, e10, e12, v0, v1, q2, r2, hx, hy, hx0, hy0, l2, m2, w0, w1, w2]
              refine ⟨k1 - 1, by omega, ⟨⟨1, by omega, by simp [w1], by simp [e6, hx0, hy0]⟩, ⟨q0, q1, q2, q3, hn⟩, ⟨r0, r1, r2, r3, hn'⟩, by simp [v0, mCells], by simp [v1, mCells], by simpa using ln, by simp [e0], by simp [e3], by simp [e7], by simp [e8], by simp [e9], by simp [e10]⟩⟩
          · obtain ⟨d0, hd0⟩ : ∃ d0 : Int, (if y0.ready = true ∧ x0.ready = false then (1 : Int) else 0) = d0 := ⟨_, rfl⟩
            have hd01 : d0 = 0 ∨ d0 = 1 := by rw [← hd0]; split <;> omega
            rw [hd0] at hc e6 ⊢
            cases hy1 : y1.ready <;> cases hx1 : x1.ready
            case true.false =>
              obtain ⟨rfl, rfl⟩ := hn1 hy1 hx1
              simp -implicitDefEqProofs [e0, e3, e6, e7, e8, e9, e10, e12, v0, v1, q2, r2, hx, hy, hx1, hy1, l2, m2, w0, w1, w2, w11]
              refine ⟨k1 - 1, by omega, ⟨⟨2, by omega, by simp [w2], ?_⟩, ⟨q0, q1, q2, q3, hn⟩, ⟨r0, r1, r2, r3, hn'⟩, by simp [v0, mCells], by simp [v1, mCells], by simpa using ln, by simp [e0], by simp [e3], by simp [e7], by simp [e8], by simp [e9], by simp [e10]⟩⟩
              simp [hx1, hy1]
              exact wrap_of (by omega) (by omega)
            all_goals
              simp -implicitDefEqProofs [e0, e3, e6, e7, e8, e9, e10, e12, v0, v1, q2, r2, hx, hy, hx1, hy1, l2, m2, w0, w1, w2]
              refine ⟨k1 - 1, by omega, ⟨⟨2, by omega, by simp [w2], by simp [e6, hx1, hy1]⟩, ⟨q0, q1, q2, q3, hn⟩, ⟨r0, r1, r2, r3, hn'⟩, by simp [v0, mCells], by simp [v1, mCells], by simpa using ln, by simp [e0], by simp [e3], by simp [e7], by simp [e8], by simp [e9], by simp [e10]⟩⟩
          · have hst0 : ¬ st = 0 := by omega
            simp -implicitDefEqProofs [e0, e3, e6, e7, e8, e9, e10, e12, v0, v1, hst0]
            refine ⟨k - 1, by omega, ⟨⟨i + 1, b', P, Q, by omega, hP2, hQ2, ⟨by simp [r0], by simp [r1], by simp [r2], by simp [r3], by simpa using hn'⟩, by simp [mCells, hst0], by first | (simp; done) | (simp; exact wrap_nat (by omega)), by simp [e6, hc], fun hle => by omega⟩, by simp; omega, by simp [e0], by simp [e3]⟩⟩
      · simp -implicitDefEqProofs [e0, e3, e6, e7, v0, hg, hg2]
        have hg22 : ¬ rows.length ≤ 22 ∨ (rows.length ≤ 22 ∧ p = 2 ∧ q = 2) := by
          by_cases h22 : rows.length ≤ 22
          · have := hinv (by omega); exact .inr ⟨h22, by omega, by omega⟩
          · exact .inl h22
        rcases hg22 with h22 | ⟨h22, rfl, rfl⟩
        · have h22' : (22 : Int) < rows.length := by omega
          have h22n : 22 < rows.length := by omega
          simp -implicitDefEqProofs [e0, e3, e6, e7, v0, h22', h22n]
        · have h22' : ¬ (22 : Int) < rows.length := by omega
          have h22n : ¬ 22 < rows.length := by omega
          obtain ⟨c0, k0, c1, k1, hP⟩ := tr_end
          simp -implicitDefEqProofs [e0, e3, e6, e7, v0, q1, l1, h22', h22n, rdy, w2, hP]
          refine CallT.sure rfl (by simp [q1, hP]) (c_SameState ⟨[5, 6], [], [], []⟩ ⟨[5, 6], [], [], []⟩ false false (by simp [okS, lenOK])) ?_
          simp -implicitDefEqProofs [e0, e3, e6, e7, v0, q1, l1, h22', rdy, w2, hP]
          have uq : ¬ T.next = b + 1 := by omega
          have uq' : ¬ b + 1 = T.next := by omega
          refine CallT.sure rfl (by simp [q1, hP, uq, uq']) (c_SameInts [5, 6] [5, 6] false false (by simp [lenOK])) ?_
          simp -implicitDefEqProofs
    · simp -implicitDefEqProofs [e0, e3, e6, e7, v0, hg]
      have hg22 : ¬ rows.length ≤ 22 ∨ (rows.length ≤ 22 ∧ p = 2 ∧ q = 2) := by
        by_cases h22 : rows.length ≤ 22
        · rw [wrap_of (by omega) (by omega)] at hg
          have := hinv (by omega); exact .inr ⟨h22, by omega, by omega⟩
        · exact .inl h22
      rcases hg22 with h22 | ⟨h22, rfl, rfl⟩
      · have h22' : (22 : Int) < rows.length := by omega
        have h22n : 22 < rows.length := by omega
        simp -implicitDefEqProofs [e0, e3, e6, e7, v0, h22', h22n]
      · have h22' : ¬ (22 : Int) < rows.length := by omega
        have h22n : ¬ 22 < rows.length := by omega
        obtain ⟨c0, k0, c1, k1, hP⟩ := tr_end
        simp -implicitDefEqProofs [e0, e3, e6, e7, v0, q1, l1, h22', h22n, rdy, w2, hP]
        refine CallT.sure rfl (by simp [q1, hP]) (c_SameState ⟨[5, 6], [], [], []⟩ ⟨[5, 6], [], [], []⟩ false false (by simp [okS, lenOK])) ?_
        simp -implicitDefEqProofs [e0, e3, e6, e7, v0, q1, l1, h22', rdy, w2, hP]
        have uq : ¬ T.next = b + 1 := by omega
        have uq' : ¬ b + 1 = T.next := by omega
        refine CallT.sure rfl (by simp [q1, hP, uq, uq']) (c_SameInts [5, 6] [5, 6] false false (by simp [lenOK])) ?_
        simp -implicitDefEqProofs

end Go.Ab

namespace Go.Ab
open Go.RowKit Go.ChangeShapes

theorem law_eval {M : FuncId → Option MFunc} {k : FuncId} {ts : List AV} (h : CallT M false k (ts.map .a) TH.none fun v _ => v = .a (.bool true)) : ∃ n H', eval M n k ts AH.zero = some (.bool true, H') := by
  obtain ⟨r, H', ⟨n, hev⟩, v, A', T', _, hv, _, rfl⟩ := h _ AH.zero ts HR.none (VRL.atoms ts)
  cases hv
  exact ⟨n, H', hev⟩

theorem i64_range {n : Int} (h : (Lit.int .i64 n).wf = true) : -9223372036854775808 ≤ n ∧ n < 9223372036854775808 := by
  simp only [Lit.wf, Bool.and_eq_true, decide_eq_true_eq] at h
  have e1 : IntKind.i64.min = -9223372036854775808 := by decide
  have e2 : IntKind.i64.max = 9223372036854775807 := by decide
  omega

end Go.Ab

namespace Go.Proofs.YtgofbakhdaegeaaGreat
open Go.ChangeShapes Go.WideShapes Go.ChangeAt Go.RowKit Go.Ab

mutual
theorem tame_of {H : Type} : ∀ (d : DataW H), Rows.uptoBulk d ≤ 1048576 → tame d = true
  | .lit l, h => by
    cases l
    case string bytes => simp only [Rows.uptoBulk] at h; simp only [tame, decide_eq_true_eq]; omega
    all_goals rfl
  | .nil, _ => rfl
  | .ptr _, _ => rfl
  | .slice es sp, h => by
    simp only [Rows.uptoBulk] at h
    obtain ⟨h1, h2⟩ := tameL_of es (by omega)
    simp only [tame, Bool.and_eq_true, decide_eq_true_eq]
    exact ⟨by omega, h1⟩
  | .agg ps, h => by
    simp only [Rows.uptoBulk] at h
    exact (tameL_of ps (by omega)).1
  | .iface _ _, _ => rfl
  | .map _, _ => rfl
  | .held _, _ => rfl
theorem tameL_of {H : Type} : ∀ (l : List (DataW H)), Rows.uptoBulkAll l ≤ 1048576 → tameL l = true ∧ l.length ≤ Rows.uptoBulkAll l
  | [], _ => ⟨rfl, by simp⟩
  | d :: r, h => by
    simp only [Rows.uptoBulkAll] at h ⊢
    obtain ⟨h1, h2⟩ := tameL_of r (by omega)
    have h3 := tame_of d (by omega)
    have h4 := bulk_pos d
    exact ⟨by simp only [tameL, h3, h1, Bool.and_self], by simp only [List.length_cons]; omega⟩
theorem bulk_pos {H : Type} : ∀ (d : DataW H), 1 ≤ Rows.uptoBulk d
  | .lit l => by cases l <;> simp [Rows.uptoBulk]
  | .nil => by simp [Rows.uptoBulk]
  | .ptr _ => by simp only [Rows.uptoBulk]; omega
  | .slice _ _ => by simp only [Rows.uptoBulk]; omega
  | .agg _ => by simp only [Rows.uptoBulk]; omega
  | .iface _ _ => by simp only [Rows.uptoBulk]; omega
  | .map _ => by simp only [Rows.uptoBulk]; omega
  | .held _ => by simp [Rows.uptoBulk]
end

theorem own : ownKnob Go.Proofs.Tryz.prog.godebug = none := by kernel_rfl
theorem laidOut : laidOutB Go.Proofs.Tryz.prog = true := by kernel_rfl

section
variable (W : World)
end

end Go.Proofs.YtgofbakhdaegeaaGreat
