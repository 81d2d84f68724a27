/-
  The comparisons of the statements, by value.
  The comparisons of the statements, by value: rings, states, threads.
  The comparisons of the statements, by value: states and machines.
  The comparison of machines, by value.
  What may be: operations, by value.
  Looking for an element, by value.
  Whether it is so of all elements, by value.
  What may be: configs, rings, by value (the program's).
  What may be: rings, by value.
  What may be: a machine's rings, by value.
  What may be: states, by value.
  What makes new data, by value: rings.
  What makes new data, by value: a new machine's parts.
  A new machine, by value.
  What the statements' spoiling comes to, by value: numbers, slots, events.
  What the statements' spoiling comes to, by value: rings, states, machines.
  What the statements' spoiling comes to, by value: states, machines.
  What the statements' spoiling comes to, by value: machines.
  What the data are to calls that see nothing but their arguments.
  Calls without arguments, worked out by the kernel; the statement that copies share nothing.
  Conditions: none.
-/
import Derived.Test.YtdknggbomihlfaaGt
import Derived.KernelRfl

set_option linter.unusedSimpArgs false
set_option linter.unusedVariables false

namespace Go.Ab

theorem wrap_nat {i : Nat} (h : (i : Int) + 1 < 9223372036854775808) : IntKind.wrap .i64 ((i : Int) + 1) = ((i + 1 : Nat) : Int) := by
  rw [wrap_of (by omega) h]; rfl

theorem take_step {α : Type} {xs ys : List α} {i : Nat} (h1 : i < xs.length) (h2 : i < ys.length) (h : xs.take i = ys.take i) (e : xs[i] = ys[i]) : xs.take (i + 1) = ys.take (i + 1) := by
  rw [List.take_succ_eq_append_getElem h1, List.take_succ_eq_append_getElem h2, h, e]

theorem take_all {α : Type} {xs ys : List α} {i : Nat} (h1 : xs.length ≤ i) (h2 : ys.length ≤ i) (h : xs.take i = ys.take i) : xs = ys := by
  rw [List.take_of_length_le h1, List.take_of_length_le h2] at h; exact h

theorem op_eq {a b : Op} : a = b ↔ a.code = b.code ∧ a.row = b.row ∧ a.arg = b.arg := by cases a; cases b; simp
theorem slot_eq {a b : Slot} : a = b ↔ a.op.code = b.op.code ∧ a.op.row = b.op.row ∧ a.op.arg = b.op.arg ∧ a.thread = b.thread ∧ a.bit = b.bit := by cases a; cases b; simp [op_eq, and_assoc]
theorem event_eq {a b : Event} : a = b ↔ a.thread = b.thread ∧ a.call = b.call ∧ a.op.code = b.op.code ∧ a.op.row = b.op.row ∧ a.op.arg = b.op.arg ∧ a.answer = b.answer := by cases a; cases b; simp [op_eq, and_assoc]

/-- as long as memory allows -/
def lenOK {α : Type} (l : List α) : Prop := l.length ≤ 1048576


theorem c_SameInts (xs ys : List Int) (z1 z2 : Bool) (hx : lenOK xs) : PCall tab 19 [.vs (xs.map encInt) z1, .vs (ys.map encInt) z2] (.bool (decide (xs = ys))) := by
  unfold lenOK at hx
  refine PCall.of (F := m19) rfl rfl rfl rfl ?_
  by_cases hl : xs.length = ys.length
  · simp -implicitDefEqProofs [m19, hl]
    refine loop_by (fun k E T => T = TH.none ∧ ∃ i : Nat, i + k = xs.length ∧ E.get 0 = .a (.vs (xs.map encInt) z1) ∧ E.get 1 = .a (.vs (ys.map encInt) z2) ∧ E.get 5 = .a (.int .i64 i) ∧ xs.take i = ys.take i) ?_ xs.length ⟨rfl, 0, by simp⟩
    rintro k E T ⟨rfl, i, hi, h0, h1, h5, ht⟩
    by_cases hlt : i < xs.length
    · have hlt2 : i < ys.length := by omega
      have e1 := List.getElem?_eq_getElem hlt
      have e2 := List.getElem?_eq_getElem hlt2
      by_cases he : xs[i] = ys[i]
      · have he' := he
        skip
        simp -implicitDefEqProofs [h0, h1, h5, hlt, hlt2, e1, e2, he']
        exact ⟨k - 1, by omega, i + 1, by omega, wrap_nat (by omega), take_step hlt hlt2 ht he⟩
      · have he' := he
        skip
        have he2 := he'
        try simp only [Classical.not_and_iff_not_or_not] at he2
        simp -implicitDefEqProofs [h0, h1, h5, hlt, hlt2, e1, e2, he', he2]
        intro e; subst e; exact he rfl
    · have hlt2 : ¬ i < ys.length := by omega
      simp -implicitDefEqProofs [h0, h1, h5, hlt, hlt2]
      exact take_all (by omega) (by omega) ht
  · have hl' : ¬ (xs.length : Int) = ys.length := by omega
    simp -implicitDefEqProofs [m19, hl']
    intro h; exact hl (by rw [h])

theorem c_SameSlots (xs ys : List Slot) (z1 z2 : Bool) (hx : lenOK xs) : PCall tab 58 [.vs (xs.map encSlot) z1, .vs (ys.map encSlot) z2] (.bool (decide (xs = ys))) := by
  unfold lenOK at hx
  refine PCall.of (F := m58) rfl rfl rfl rfl ?_
  by_cases hl : xs.length = ys.length
  · simp -implicitDefEqProofs [m58, hl]
    refine loop_by (fun k E T => T = TH.none ∧ ∃ i : Nat, i + k = xs.length ∧ E.get 0 = .a (.vs (xs.map encSlot) z1) ∧ E.get 1 = .a (.vs (ys.map encSlot) z2) ∧ E.get 5 = .a (.int .i64 i) ∧ xs.take i = ys.take i) ?_ xs.length ⟨rfl, 0, by simp⟩
    rintro k E T ⟨rfl, i, hi, h0, h1, h5, ht⟩
    by_cases hlt : i < xs.length
    · have hlt2 : i < ys.length := by omega
      have e1 := List.getElem?_eq_getElem hlt
      have e2 := List.getElem?_eq_getElem hlt2
      by_cases he : xs[i] = ys[i]
      · have he' := he
        rw [slot_eq] at he'
        simp -implicitDefEqProofs [h0, h1, h5, hlt, hlt2, e1, e2, he']
        exact ⟨k - 1, by omega, i + 1, by omega, wrap_nat (by omega), take_step hlt hlt2 ht he⟩
      · have he' := he
        rw [slot_eq] at he'
        have he2 := he'
        try simp only [Classical.not_and_iff_not_or_not] at he2
        simp -implicitDefEqProofs [h0, h1, h5, hlt, hlt2, e1, e2, he', he2]
        intro e; subst e; exact he rfl
    · have hlt2 : ¬ i < ys.length := by omega
      simp -implicitDefEqProofs [h0, h1, h5, hlt, hlt2]
      exact take_all (by omega) (by omega) ht
  · have hl' : ¬ (xs.length : Int) = ys.length := by omega
    simp -implicitDefEqProofs [m58, hl']
    intro h; exact hl (by rw [h])

theorem c_SameEvents (xs ys : List Event) (z1 z2 : Bool) (hx : lenOK xs) : PCall tab 39 [.vs (xs.map encEvent) z1, .vs (ys.map encEvent) z2] (.bool (decide (xs = ys))) := by
  unfold lenOK at hx
  refine PCall.of (F := m39) rfl rfl rfl rfl ?_
  by_cases hl : xs.length = ys.length
  · simp -implicitDefEqProofs [m39, hl]
    refine loop_by (fun k E T => T = TH.none ∧ ∃ i : Nat, i + k = xs.length ∧ E.get 0 = .a (.vs (xs.map encEvent) z1) ∧ E.get 1 = .a (.vs (ys.map encEvent) z2) ∧ E.get 5 = .a (.int .i64 i) ∧ xs.take i = ys.take i) ?_ xs.length ⟨rfl, 0, by simp⟩
    rintro k E T ⟨rfl, i, hi, h0, h1, h5, ht⟩
    by_cases hlt : i < xs.length
    · have hlt2 : i < ys.length := by omega
      have e1 := List.getElem?_eq_getElem hlt
      have e2 := List.getElem?_eq_getElem hlt2
      by_cases he : xs[i] = ys[i]
      · have he' := he
        rw [event_eq] at he'
        simp -implicitDefEqProofs [h0, h1, h5, hlt, hlt2, e1, e2, he']
        exact ⟨k - 1, by omega, i + 1, by omega, wrap_nat (by omega), take_step hlt hlt2 ht he⟩
      · have he' := he
        rw [event_eq] at he'
        have he2 := he'
        try simp only [Classical.not_and_iff_not_or_not] at he2
        simp -implicitDefEqProofs [h0, h1, h5, hlt, hlt2, e1, e2, he', he2]
        intro e; subst e; exact he rfl
    · have hlt2 : ¬ i < ys.length := by omega
      simp -implicitDefEqProofs [h0, h1, h5, hlt, hlt2]
      exact take_all (by omega) (by omega) ht
  · have hl' : ¬ (xs.length : Int) = ys.length := by omega
    simp -implicitDefEqProofs [m39, hl']
    intro h; exact hl (by rw [h])

end Go.Ab

namespace Go.Ab

theorem ring_eq {a b : Ring} : a = b ↔ a.head = b.head ∧ a.tail = b.tail ∧ a.fence = b.fence ∧ a.slots = b.slots := by cases a; cases b; simp
theorem state_eq {a b : State} : a = b ↔ a.r0 = b.r0 ∧ a.r1 = b.r1 ∧ a.r2 = b.r2 ∧ a.r3 = b.r3 := by cases a; cases b; simp
theorem thread_eq {a b : Thread} : a = b ↔ a.step = b.step ∧ (a.op.code = b.op.code ∧ a.op.row = b.op.row ∧ a.op.arg = b.op.arg) ∧ a.log = b.log ∧ a.seen = b.seen ∧ a.batch = b.batch ∧ a.at_ = b.at_ ∧ a.posted = b.posted ∧ a.ready = b.ready ∧ a.answer = b.answer ∧ a.tails = b.tails := by
  cases a; cases b; simp [op_eq]

theorem c_SameRing (a b : Ring) (z1 z2 : Bool) (h : lenOK a.slots) : PCall tab 17 [.agg (encRing z1 a), .agg (encRing z2 b)] (.bool (decide (a = b))) := by
  refine PCall.dec ring_eq ?_
  refine PCall.of (F := m17) rfl rfl rfl rfl ?_
  by_cases h1 : a.head = b.head <;> by_cases h2 : a.tail = b.tail <;> by_cases h3 : a.fence = b.fence <;> simp -implicitDefEqProofs [m17, h1, h2, h3]
  refine CallT.pure (c_SameSlots a.slots b.slots false false h) (by simp) rfl ?_
  simp

theorem c_SameThread (a b : Thread) (z1 z2 : Bool) (h1 : lenOK a.batch) (h2 : lenOK a.tails) : PCall tab 20 [.agg (encThread z1 a), .agg (encThread z2 b)] (.bool (decide (a = b))) := by
  refine PCall.dec thread_eq ?_
  refine PCall.of (F := m20) rfl rfl rfl rfl ?_
  by_cases e1 : a.step = b.step
  · by_cases e2 : a.op.code = b.op.code ∧ a.op.row = b.op.row ∧ a.op.arg = b.op.arg
    · by_cases e3 : a.log = b.log
      · by_cases e4 : a.seen = b.seen
        · simp -implicitDefEqProofs [m20, e1, e2, e3, e4]
          refine CallT.pure (c_SameInts a.batch b.batch false false h1) (by simp) rfl ?_
          by_cases e5 : a.batch = b.batch
          · by_cases e6 : a.at_ = b.at_
            · by_cases e7 : a.posted = b.posted
              · by_cases e8 : a.ready = b.ready
                · by_cases e9 : a.answer = b.answer
                  · simp -implicitDefEqProofs [e5, e6, e7, e8, e9]
                    refine CallT.pure (c_SameInts a.tails b.tails false false h2) (by simp) rfl ?_
                    simp
                  · simp -implicitDefEqProofs [e5, e6, e7, e8, e9]
                · simp -implicitDefEqProofs [e5, e6, e7, e8]
              · simp -implicitDefEqProofs [e5, e6, e7]
            · simp -implicitDefEqProofs [e5, e6]
          · simp -implicitDefEqProofs [e5]
        · simp -implicitDefEqProofs [m20, e1, e2, e3, e4]
      · simp -implicitDefEqProofs [m20, e1, e2, e3]
    · have e2' : (a.op.code == b.op.code && (a.op.row == b.op.row && a.op.arg == b.op.arg)) = false := by
        cases hx : (a.op.code == b.op.code && (a.op.row == b.op.row && a.op.arg == b.op.arg)) with
        | false => rfl
        | true => simp at hx; exact absurd hx e2
      simp -implicitDefEqProofs [m20, e1, e2, e2']
  · simp -implicitDefEqProofs [m20, e1]

end Go.Ab

namespace Go.Ab

@[simp] theorem wrap0 : IntKind.wrap .i64 (0 + 1) = 1 := by decide
@[simp] theorem wrap1 : IntKind.wrap .i64 (1 + 1) = 2 := by decide
@[simp] theorem wrap2 : IntKind.wrap .i64 (2 + 1) = 3 := by decide
@[simp] theorem wrap3 : IntKind.wrap .i64 (3 + 1) = 4 := by decide
@[simp] theorem wrap0' : IntKind.wrap .i64 1 = 1 := by decide
@[simp] theorem wrap1' : IntKind.wrap .i64 2 = 2 := by decide
@[simp] theorem wrap2' : IntKind.wrap .i64 3 = 3 := by decide
@[simp] theorem wrap3' : IntKind.wrap .i64 4 = 4 := by decide

def okS (s : State) : Prop := lenOK s.r0 ∧ lenOK s.r1 ∧ lenOK s.r2 ∧ lenOK s.r3

theorem c_SameState (a b : State) (z1 z2 : Bool) (h : okS a) : PCall tab 18 [.agg (encState z1 a), .agg (encState z2 b)] (.bool (decide (a = b))) := by
  obtain ⟨h0, h1, h2, h3⟩ := h
  refine PCall.dec state_eq ?_
  refine PCall.of (F := m18) rfl rfl rfl rfl ?_
  simp -implicitDefEqProofs [m18]
  refine WCT.unroll ?_
  simp -implicitDefEqProofs
  refine CallT.pure (c_SameInts a.r0 b.r0 false false h0) (by simp) rfl ?_
  by_cases e0 : a.r0 = b.r0
  · simp -implicitDefEqProofs [e0]
    refine WCT.unroll ?_
    simp -implicitDefEqProofs
    refine CallT.pure (c_SameInts a.r1 b.r1 false false h1) (by simp) rfl ?_
    by_cases e1 : a.r1 = b.r1
    · simp -implicitDefEqProofs [e1]
      refine WCT.unroll ?_
      simp -implicitDefEqProofs
      refine CallT.pure (c_SameInts a.r2 b.r2 false false h2) (by simp) rfl ?_
      by_cases e2 : a.r2 = b.r2
      · simp -implicitDefEqProofs [e2]
        refine WCT.unroll ?_
        simp -implicitDefEqProofs
        refine CallT.pure (c_SameInts a.r3 b.r3 false false h3) (by simp) rfl ?_
        by_cases e3 : a.r3 = b.r3
        · simp -implicitDefEqProofs [e3]
          refine WCT.unroll ?_
          simp -implicitDefEqProofs
        · simp -implicitDefEqProofs [e3]
      · simp -implicitDefEqProofs [e2]
    · simp -implicitDefEqProofs [e1]
  · simp -implicitDefEqProofs [e0]

theorem replica_eq {a b : Replica} : a = b ↔ a.state = b.state ∧ a.cursors = b.cursors ∧ a.locks = b.locks := by cases a; cases b; simp
theorem config_eq {a b : Config} : a = b ↔ a.object = b.object ∧ a.replicas = b.replicas ∧ a.logs = b.logs ∧ a.threads = b.threads ∧ a.slots = b.slots := by cases a; cases b; simp
theorem machine_eq {a b : Machine} : a = b ↔ a.config = b.config ∧ a.rings = b.rings ∧ a.replicas = b.replicas ∧ a.threads = b.threads ∧ a.history = b.history := by cases a; cases b; simp

/-- the lengths in it are such that memory allows -/
def okR (r : Ring) : Prop := lenOK r.slots
def okP' (r : Replica) : Prop := okS r.state ∧ lenOK r.cursors ∧ lenOK r.locks
def okTh (t : Thread) : Prop := lenOK t.batch ∧ lenOK t.tails
def okM (m : Machine) : Prop := (lenOK m.rings ∧ ∀ r ∈ m.rings, okR r) ∧ (lenOK m.replicas ∧ ∀ r ∈ m.replicas, okP' r) ∧ (lenOK m.threads ∧ ∀ t ∈ m.threads, okTh t) ∧ lenOK m.history

end Go.Ab

namespace Go.Ab

set_option maxHeartbeats 1000000 in
theorem c_SameMachine (a b : Machine) (z1 z2 : Bool) (h : okM a) : PCall tab 11 [.agg (encMachine z1 a), .agg (encMachine z2 b)] (.bool (decide (a = b))) := by
  obtain ⟨⟨hr, hr'⟩, ⟨hp, hp'⟩, ⟨ht, ht'⟩, hh⟩ := h
  unfold lenOK at hr hp ht
  refine PCall.dec machine_eq ?_
  refine PCall.of (F := m11) rfl rfl rfl rfl ?_
  by_cases ec : a.config = b.config
  · have ec' := config_eq.1 ec
    by_cases lr : a.rings.length = b.rings.length
    · by_cases lp : a.replicas.length = b.replicas.length
      · by_cases lt : a.threads.length = b.threads.length
        · simp -implicitDefEqProofs [m11, ec, ec', lr, lp, lt]
          refine CallT.bool (c_SameEvents a.history b.history false false hh) (by simp) (fun eh => ?_) (fun eh => ?_)
          · simp -implicitDefEqProofs [eh]
            refine loop_by (fun k E T => T = TH.none ∧ ∃ i : Nat, i + k = a.rings.length ∧ E.get 2 = .lp 0 0 ∧ E.get 3 = .lp 1 0 ∧ E.get 5 = .a (.int .i64 i) ∧ E.var 0 = some ((encMachine z1 a).map .a) ∧ E.var 1 = some ((encMachine z2 b).map .a) ∧ E.ln = 2 ∧ a.rings.take i = b.rings.take i) ?_ a.rings.length ⟨rfl, 0, by simp [ec', eh]⟩
            rintro k E T ⟨rfl, i, hi, h2, h3, h5, v0, v1, hln, hpre⟩
            by_cases hlt : i < a.rings.length
            · have hlt2 : i < b.rings.length := by omega
              have g1 := List.getElem?_eq_getElem hlt
              have g2 := List.getElem?_eq_getElem hlt2
              simp -implicitDefEqProofs [h2, h3, h5, v0, v1, hlt, hlt2, g1, g2]
              refine CallT.bool (c_SameRing a.rings[i] b.rings[i] false false (hr' _ (List.getElem_mem hlt))) (by simp) (fun he => ?_) (fun he => ?_)
              · simp -implicitDefEqProofs [h2, h3, h5, v0, v1, hln, he]
                exact ⟨k - 1, by omega, i + 1, by omega, wrap_nat (by omega), take_step hlt hlt2 hpre he⟩
              · simp -implicitDefEqProofs [he]
                intro e; simp [e] at he
            · have hlt2 : ¬ i < b.rings.length := by omega
              have er := take_all (by omega) (by omega) hpre
              simp -implicitDefEqProofs [h2, h3, h5, v0, v1, hlt, hlt2, er]
              refine loop_by (fun k E T => T = TH.none ∧ ∃ i : Nat, i + k = a.replicas.length ∧ E.get 2 = .lp 0 0 ∧ E.get 3 = .lp 1 0 ∧ E.get 6 = .a (.int .i64 i) ∧ E.var 0 = some ((encMachine z1 a).map .a) ∧ E.var 1 = some ((encMachine z2 b).map .a) ∧ 2 ≤ E.ln ∧ a.replicas.take i = b.replicas.take i) ?_ a.replicas.length ⟨rfl, 0, by simp [h2, h3, v0, v1, hln, er]⟩
              clear hpre hlt hlt2 hi h2 h3 h5 v0 v1 hln
              rintro k E T ⟨rfl, i, hi, h2, h3, h5, v0, v1, hln, hpre⟩
              by_cases hlt : i < a.replicas.length
              · have hlt2 : i < b.replicas.length := by omega
                have g1 := List.getElem?_eq_getElem hlt
                have g2 := List.getElem?_eq_getElem hlt2
                have n0 : ¬ E.ln = 0 := by omega
                have n1 : ¬ E.ln = 1 := by omega
                have n2 : ¬ E.ln + 1 = 0 := by omega
                have n3 : ¬ E.ln + 1 = 1 := by omega
                simp -implicitDefEqProofs [h2, h3, h5, v0, v1, hlt, hlt2, g1, g2, n0, n1, n2, n3, pairT, stOf, ldOf, apartT]
                refine CallT.forget (fun E => E.get 2 = .lp 0 0 ∧ E.get 3 = .lp 1 0 ∧ E.get 6 = .a (.int .i64 i) ∧ E.var 0 = some ((encMachine z1 a).map .a) ∧ E.var 1 = some ((encMachine z2 b).map .a) ∧ 2 ≤ E.ln ∧ ∃ n, E.get 7 = .lp n 0 ∧ E.get 8 = .lp (n + 1) 0 ∧ E.var n = some ((encReplica z1 a.replicas[i]).map .a) ∧ E.var (n + 1) = some ((encReplica z2 b.replicas[i]).map .a)) ⟨by simp [h2], by simp [h3], by simp [h5], by simp [v0, n0, n1, n2, n3], by simp [v1, n0, n1, n2, n3], by simp <;> omega, E.ln, by simp, by simp, by simp, by simp⟩ ?_
                clear h2 h3 h5 v0 v1 hln n0 n1 n2 n3
                rintro E ⟨h2, h3, h5, v0, v1, hln, n, h7, h8, v7, v8⟩
                refine CallT.bool (c_SameState a.replicas[i].state b.replicas[i].state false false (hp' _ (List.getElem_mem hlt)).1) (by simp) (fun e1 => ?_) (fun e1 => ?_)
                · simp -implicitDefEqProofs [e1, h7, h8, v7, v8]
                  refine CallT.bool (c_SameInts a.replicas[i].cursors b.replicas[i].cursors false false (hp' _ (List.getElem_mem hlt)).2.1) (by simp) (fun e2 => ?_) (fun e2 => ?_)
                  · simp -implicitDefEqProofs [e2, h7, h8, v7, v8]
                    refine CallT.bool (c_SameInts a.replicas[i].locks b.replicas[i].locks false false (hp' _ (List.getElem_mem hlt)).2.2) (by simp) (fun e3 => ?_) (fun e3 => ?_)
                    · have he : a.replicas[i] = b.replicas[i] := replica_eq.2 ⟨e1, e2, e3⟩
                      simp -implicitDefEqProofs [e3, h2, h3, h5, v0, v1]
                      exact ⟨k - 1, by omega, i + 1, by omega, wrap_nat (by omega), by omega, take_step hlt hlt2 hpre he⟩
                    · simp -implicitDefEqProofs [e3]
                      intro e; simp [e] at e3
                  · simp -implicitDefEqProofs [e2]
                    intro e; simp [e] at e2
                · simp -implicitDefEqProofs [e1]
                  intro e; simp [e] at e1
              · have hlt2 : ¬ i < b.replicas.length := by omega
                have ep := take_all (by omega) (by omega) hpre
                simp -implicitDefEqProofs [h2, h3, h5, v0, v1, hlt, hlt2, ep]
                refine loop_by (fun k E T => T = TH.none ∧ ∃ i : Nat, i + k = a.threads.length ∧ E.get 2 = .lp 0 0 ∧ E.get 3 = .lp 1 0 ∧ E.get 9 = .a (.int .i64 i) ∧ E.var 0 = some ((encMachine z1 a).map .a) ∧ E.var 1 = some ((encMachine z2 b).map .a) ∧ a.threads.take i = b.threads.take i) ?_ a.threads.length ⟨rfl, 0, by simp [h2, h3, v0, v1, ep]⟩
                clear hpre hlt hlt2 hi h2 h3 h5 v0 v1 hln
                rintro k E T ⟨rfl, i, hi, h2, h3, h5, v0, v1, hpre⟩
                by_cases hlt : i < a.threads.length
                · have hlt2 : i < b.threads.length := by omega
                  have g1 := List.getElem?_eq_getElem hlt
                  have g2 := List.getElem?_eq_getElem hlt2
                  simp -implicitDefEqProofs [h2, h3, h5, v0, v1, hlt, hlt2, g1, g2]
                  refine CallT.bool (c_SameThread a.threads[i] b.threads[i] false false (ht' _ (List.getElem_mem hlt)).1 (ht' _ (List.getElem_mem hlt)).2) (by simp) (fun he => ?_) (fun he => ?_)
                  · simp -implicitDefEqProofs [h2, h3, h5, v0, v1, he]
                    exact ⟨k - 1, by omega, i + 1, by omega, wrap_nat (by omega), take_step hlt hlt2 hpre he⟩
                  · simp -implicitDefEqProofs [he]
                    intro e; simp [e] at he
                · have hlt2 : ¬ i < b.threads.length := by omega
                  have et := take_all (by omega) (by omega) hpre
                  simp -implicitDefEqProofs [h2, h3, h5, v0, v1, hlt, hlt2, et]
          · simp -implicitDefEqProofs [eh]
        · have lt' : ¬ (a.threads.length : Int) = b.threads.length := by omega
          simp -implicitDefEqProofs [m11, ec, ec', lr, lp, lt']
          intro _ _ e; exact absurd (congrArg List.length e) lt
      · have lp' : ¬ (a.replicas.length : Int) = b.replicas.length := by omega
        simp -implicitDefEqProofs [m11, ec, ec', lr, lp']
        intro _ e; exact absurd (congrArg List.length e) lp
    · have lr' : ¬ (a.rings.length : Int) = b.rings.length := by omega
      simp -implicitDefEqProofs [m11, ec, ec', lr']
      intro e; exact absurd (congrArg List.length e) lr
  · have ec' := mt config_eq.2 ec
    have ec2 := ec'
    simp only [Classical.not_and_iff_not_or_not] at ec2
    simp -implicitDefEqProofs [m11, ec, ec', ec2]

end Go.Ab

namespace Go.Ab

@[reducible] def argMay (x : Int) : Prop := 0 ≤ x ∧ x ≤ 255
@[reducible] def opMay (o : Op) : Prop := 0 ≤ o.row ∧ o.row < 4 ∧ 0 ≤ o.arg ∧ o.arg ≤ 255 ∧ (o.code = 0 ∨ o.code = 1 ∨ (o.code = 2 ∧ o.arg = 0) ∨ (o.code = 3 ∧ o.arg = 0 ∧ o.row = 0))
@[reducible] def updates (o : Op) : Prop := opMay o ∧ (o.code = 0 ∨ o.code = 1)

theorem c_upTo13 (a b c : Int) : PCall tab 52 [.int .i64 a, .int .i64 b, .int .i64 c] (.bool (decide (b ≤ a ∧ a ≤ c))) := by
  refine PCall.of (F := m52) rfl rfl rfl rfl ?_
  by_cases h1 : b ≤ a <;> by_cases h2 : a ≤ c <;> simp -implicitDefEqProofs [m52, h1, h2]

theorem c_upTo1 (a b c : Int) : PCall tab 89 [.int .i64 a, .int .i64 b, .int .i64 c] (.bool (decide (b ≤ a ∧ a ≤ c))) := by
  refine PCall.of (F := m89) rfl rfl rfl rfl ?_
  by_cases h1 : b ≤ a <;> by_cases h2 : a ≤ c <;> simp -implicitDefEqProofs [m89, h1, h2]

theorem c_operArg (x : Int) : PCall tab 113 [.int .i64 x] (.bool (decide (argMay x))) := by
  refine PCall.of (F := m113) rfl rfl rfl rfl ?_
  by_cases h1 : 0 ≤ x <;> by_cases h2 : x ≤ 255 <;> simp -implicitDefEqProofs [m113, h1, h2]

theorem c_operMay (o : Op) : PCall tab 83 [.agg (encOp o)] (.bool (decide (opMay o))) := by
  refine PCall.of (F := m83) rfl rfl rfl rfl ?_
  simp -implicitDefEqProofs [m83]
  repeat' (first
    | (refine guard_by (fun hb => ?_) (fun hb => ?_) <;> rw [hb] <;> (try simp at hb) <;> simp -implicitDefEqProofs [hb])
    | (refine cond_by (fun hb => ?_) (fun hb => ?_) <;> rw [hb] <;> (try simp at hb) <;> simp -implicitDefEqProofs [hb])
    | (refine CallT.bool2 rfl (c_operArg _) (fun hb => ?_) (fun hb => ?_) <;> simp -implicitDefEqProofs [hb]))
  all_goals (first | omega | (simp only [beq_int, bne_int, ← Bool.decide_and, ← Bool.decide_or, decide_eq_decide] <;> omega))

theorem c_OperMay (o : Op) : PCall tab 53 [.agg (encOp o)] (.bool (decide (opMay o))) := by
  refine PCall.of (F := m53) rfl rfl rfl rfl ?_
  simp -implicitDefEqProofs [m53]
  repeat' (first
    | (refine guard_by (fun hb => ?_) (fun hb => ?_) <;> rw [hb] <;> (try simp at hb) <;> simp -implicitDefEqProofs [hb])
    | (refine cond_by (fun hb => ?_) (fun hb => ?_) <;> rw [hb] <;> (try simp at hb) <;> simp -implicitDefEqProofs [hb])
    | (refine CallT.bool2 rfl (c_upTo1 _ _ _) (fun hb => ?_) (fun hb => ?_) <;> simp -implicitDefEqProofs [hb]))
  all_goals (first | omega | (simp only [beq_int, bne_int, ← Bool.decide_and, ← Bool.decide_or, decide_eq_decide] <;> omega))

end Go.Ab

namespace Go.Ab

/-- where the first such element is, or -1 -/
def idxOf {α : Type} (q : α → Bool) (xs : List α) : Int := if xs.findIdx q < xs.length then ((xs.findIdx q : Nat) : Int) else -1

theorem idxOf_nonneg {α : Type} (q : α → Bool) (xs : List α) : 0 ≤ idxOf q xs ↔ ∃ x ∈ xs, q x = true := by
  unfold idxOf
  rw [← List.findIdx_lt_length (p := q)]
  split
  · rename_i h; simp [h]
  · rename_i h; simp [h]

theorem idx_here {α : Type} {q : α → Bool} {xs : List α} {i : Nat} (hi : i < xs.length) (hle : i ≤ xs.findIdx q) (hq : q xs[i] = true) : xs.findIdx q = i := by
  rcases Nat.lt_or_ge i (xs.findIdx q) with h | h
  · have := List.not_of_lt_findIdx h; rw [hq] at this; simp at this
  · omega

theorem idx_on {α : Type} {q : α → Bool} {xs : List α} {i : Nat} (hi : i < xs.length) (hle : i ≤ xs.findIdx q) (hq : q xs[i] = false) : i + 1 ≤ xs.findIdx q := by
  rcases Nat.lt_or_ge i (xs.findIdx q) with h | h
  · omega
  · have e : xs.findIdx q = i := by omega
    have := List.findIdx_getElem (p := q) (w := by rw [e]; exact hi)
    simp only [e] at this
    rw [hq] at this; cases this

theorem c_IndexRing (xs : List Ring) (z : Bool) (hx : lenOK xs) (q : Ring → Bool) (k : FuncId) (first cap : List AV) (hc : ∀ x ∈ xs, PCall tab k (first ++ [.agg (encRing false x)] ++ cap) (.bool (q x)))
    (hfz : ∀ x : Ring, mapO (fzT TH.none) (first.map .a ++ [.a (.agg (encRing false x))] ++ cap.map .a) = some (first ++ [.agg (encRing false x)] ++ cap)) : PCall tab 101 [.vs (xs.map (encRing false)) z, .fn (.func k) first cap] (.int .i64 (idxOf q xs)) := by
  unfold lenOK at hx
  refine PCall.of (F := m101) rfl rfl rfl rfl ?_
  simp -implicitDefEqProofs [m101]
  refine loop_by (fun m E T => T = TH.none ∧ ∃ i : Nat, i + m = xs.length ∧ E.get 0 = .a (.vs (xs.map (encRing false)) z) ∧ E.get 1 = .a (.fn (.func k) first cap) ∧ E.get 7 = .a (.int .i64 xs.length) ∧ E.get 8 = .a (.int .i64 i) ∧ i ≤ xs.findIdx q) ?_ xs.length ⟨rfl, 0, by simp⟩
  rintro m E T ⟨rfl, i, hi, h0, h1, h7, h8, hle⟩
  by_cases hlt : i < xs.length
  · have g1 := List.getElem?_eq_getElem hlt
    simp -implicitDefEqProofs [h0, h1, h7, h8, hlt, g1]
    have hf := hfz xs[i]
    simp only [List.append_assoc, List.cons_append, List.nil_append] at hf
    refine CallT.pure (by simpa using hc xs[i] (List.getElem_mem hlt)) hf rfl ?_
    cases hq : q xs[i] with
    | true =>
      have e := idx_here hlt hle hq
      simp -implicitDefEqProofs [idxOf, e, hlt, hq]
    | false =>
      simp -implicitDefEqProofs [hq, h0, h1, h7, h8]
      exact ⟨m - 1, by omega, i + 1, by omega, wrap_nat (by omega), idx_on hlt hle hq⟩
  · have e : ¬ xs.findIdx q < xs.length := by have := List.findIdx_le_length (xs := xs) (p := q); omega
    simp -implicitDefEqProofs [h0, h1, h7, h8, hlt, idxOf, e]

theorem c_ContainsRing (xs : List Ring) (z : Bool) (hx : lenOK xs) (q : Ring → Bool) (k : FuncId) (first cap : List AV) (hc : ∀ x ∈ xs, PCall tab k (first ++ [.agg (encRing false x)] ++ cap) (.bool (q x)))
    (hfz : ∀ x : Ring, mapO (fzT TH.none) (first.map .a ++ [.a (.agg (encRing false x))] ++ cap.map .a) = some (first ++ [.agg (encRing false x)] ++ cap)) (hfn : freeze AH.none 12 (.fn (.func k) first cap) = some (.fn (.func k) first cap)) (hcl : cloL first = true ∧ cloL cap = true) : PCall tab 70 [.vs (xs.map (encRing false)) z, .fn (.func k) first cap] (.bool (xs.any q)) := by
  refine PCall.of (F := m70) rfl rfl rfl rfl ?_
  simp -implicitDefEqProofs [m70]
  refine CallT.pure (c_IndexRing xs false hx q k first cap hc hfz) (by simp [mapO, fzT_a, hcl, clo, hfn]) rfl ?_
  simp -implicitDefEqProofs
  by_cases h : 0 ≤ idxOf q xs
  · have := (idxOf_nonneg q xs).1 h
    simp [h]; simpa using this
  · have := mt (idxOf_nonneg q xs).2 h
    simp [h]; simpa using this

theorem c_IndexSlot (xs : List Slot) (z : Bool) (hx : lenOK xs) (q : Slot → Bool) (k : FuncId) (first cap : List AV) (hc : ∀ x ∈ xs, PCall tab k (first ++ [.agg (encSlot x)] ++ cap) (.bool (q x)))
    (hfz : ∀ x : Slot, mapO (fzT TH.none) (first.map .a ++ [.a (.agg (encSlot x))] ++ cap.map .a) = some (first ++ [.agg (encSlot x)] ++ cap)) : PCall tab 125 [.vs (xs.map encSlot) z, .fn (.func k) first cap] (.int .i64 (idxOf q xs)) := by
  unfold lenOK at hx
  refine PCall.of (F := m125) rfl rfl rfl rfl ?_
  simp -implicitDefEqProofs [m125]
  refine loop_by (fun m E T => T = TH.none ∧ ∃ i : Nat, i + m = xs.length ∧ E.get 0 = .a (.vs (xs.map encSlot) z) ∧ E.get 1 = .a (.fn (.func k) first cap) ∧ E.get 7 = .a (.int .i64 xs.length) ∧ E.get 8 = .a (.int .i64 i) ∧ i ≤ xs.findIdx q) ?_ xs.length ⟨rfl, 0, by simp⟩
  rintro m E T ⟨rfl, i, hi, h0, h1, h7, h8, hle⟩
  by_cases hlt : i < xs.length
  · have g1 := List.getElem?_eq_getElem hlt
    simp -implicitDefEqProofs [h0, h1, h7, h8, hlt, g1]
    have hf := hfz xs[i]
    simp only [List.append_assoc, List.cons_append, List.nil_append] at hf
    refine CallT.pure (by simpa using hc xs[i] (List.getElem_mem hlt)) hf rfl ?_
    cases hq : q xs[i] with
    | true =>
      have e := idx_here hlt hle hq
      simp -implicitDefEqProofs [idxOf, e, hlt, hq]
    | false =>
      simp -implicitDefEqProofs [hq, h0, h1, h7, h8]
      exact ⟨m - 1, by omega, i + 1, by omega, wrap_nat (by omega), idx_on hlt hle hq⟩
  · have e : ¬ xs.findIdx q < xs.length := by have := List.findIdx_le_length (xs := xs) (p := q); omega
    simp -implicitDefEqProofs [h0, h1, h7, h8, hlt, idxOf, e]

theorem c_ContainsSlot (xs : List Slot) (z : Bool) (hx : lenOK xs) (q : Slot → Bool) (k : FuncId) (first cap : List AV) (hc : ∀ x ∈ xs, PCall tab k (first ++ [.agg (encSlot x)] ++ cap) (.bool (q x)))
    (hfz : ∀ x : Slot, mapO (fzT TH.none) (first.map .a ++ [.a (.agg (encSlot x))] ++ cap.map .a) = some (first ++ [.agg (encSlot x)] ++ cap)) (hfn : freeze AH.none 12 (.fn (.func k) first cap) = some (.fn (.func k) first cap)) (hcl : cloL first = true ∧ cloL cap = true) : PCall tab 102 [.vs (xs.map encSlot) z, .fn (.func k) first cap] (.bool (xs.any q)) := by
  refine PCall.of (F := m102) rfl rfl rfl rfl ?_
  simp -implicitDefEqProofs [m102]
  refine CallT.pure (c_IndexSlot xs false hx q k first cap hc hfz) (by simp [mapO, fzT_a, hcl, clo, hfn]) rfl ?_
  simp -implicitDefEqProofs
  by_cases h : 0 ≤ idxOf q xs
  · have := (idxOf_nonneg q xs).1 h
    simp [h]; simpa using this
  · have := mt (idxOf_nonneg q xs).2 h
    simp [h]; simpa using this

theorem c_Indexint (xs : List Int) (z : Bool) (hx : lenOK xs) (q : Int → Bool) (k : FuncId) (first cap : List AV) (hc : ∀ x ∈ xs, PCall tab k (first ++ [.int .i64 x] ++ cap) (.bool (q x)))
    (hfz : ∀ x : Int, mapO (fzT TH.none) (first.map .a ++ [.a (.int .i64 x)] ++ cap.map .a) = some (first ++ [.int .i64 x] ++ cap)) : PCall tab 127 [.vs (xs.map encInt) z, .fn (.func k) first cap] (.int .i64 (idxOf q xs)) := by
  unfold lenOK at hx
  refine PCall.of (F := m127) rfl rfl rfl rfl ?_
  simp -implicitDefEqProofs [m127]
  refine loop_by (fun m E T => T = TH.none ∧ ∃ i : Nat, i + m = xs.length ∧ E.get 0 = .a (.vs (xs.map encInt) z) ∧ E.get 1 = .a (.fn (.func k) first cap) ∧ E.get 7 = .a (.int .i64 xs.length) ∧ E.get 8 = .a (.int .i64 i) ∧ i ≤ xs.findIdx q) ?_ xs.length ⟨rfl, 0, by simp⟩
  rintro m E T ⟨rfl, i, hi, h0, h1, h7, h8, hle⟩
  by_cases hlt : i < xs.length
  · have g1 := List.getElem?_eq_getElem hlt
    simp -implicitDefEqProofs [h0, h1, h7, h8, hlt, g1]
    have hf := hfz xs[i]
    simp only [List.append_assoc, List.cons_append, List.nil_append] at hf
    refine CallT.pure (by simpa using hc xs[i] (List.getElem_mem hlt)) hf rfl ?_
    cases hq : q xs[i] with
    | true =>
      have e := idx_here hlt hle hq
      simp -implicitDefEqProofs [idxOf, e, hlt, hq]
    | false =>
      simp -implicitDefEqProofs [hq, h0, h1, h7, h8]
      exact ⟨m - 1, by omega, i + 1, by omega, wrap_nat (by omega), idx_on hlt hle hq⟩
  · have e : ¬ xs.findIdx q < xs.length := by have := List.findIdx_le_length (xs := xs) (p := q); omega
    simp -implicitDefEqProofs [h0, h1, h7, h8, hlt, idxOf, e]

theorem c_Containsint (xs : List Int) (z : Bool) (hx : lenOK xs) (q : Int → Bool) (k : FuncId) (first cap : List AV) (hc : ∀ x ∈ xs, PCall tab k (first ++ [.int .i64 x] ++ cap) (.bool (q x)))
    (hfz : ∀ x : Int, mapO (fzT TH.none) (first.map .a ++ [.a (.int .i64 x)] ++ cap.map .a) = some (first ++ [.int .i64 x] ++ cap)) (hfn : freeze AH.none 12 (.fn (.func k) first cap) = some (.fn (.func k) first cap)) (hcl : cloL first = true ∧ cloL cap = true) : PCall tab 109 [.vs (xs.map encInt) z, .fn (.func k) first cap] (.bool (xs.any q)) := by
  refine PCall.of (F := m109) rfl rfl rfl rfl ?_
  simp -implicitDefEqProofs [m109]
  refine CallT.pure (c_Indexint xs false hx q k first cap hc hfz) (by simp [mapO, fzT_a, hcl, clo, hfn]) rfl ?_
  simp -implicitDefEqProofs
  by_cases h : 0 ≤ idxOf q xs
  · have := (idxOf_nonneg q xs).1 h
    simp [h]; simpa using this
  · have := mt (idxOf_nonneg q xs).2 h
    simp [h]; simpa using this

theorem c_IndexReplica (xs : List Replica) (z : Bool) (hx : lenOK xs) (q : Replica → Bool) (k : FuncId) (first cap : List AV) (hc : ∀ x ∈ xs, PCall tab k (first ++ [.agg (encReplica false x)] ++ cap) (.bool (q x)))
    (hfz : ∀ x : Replica, mapO (fzT TH.none) (first.map .a ++ [.a (.agg (encReplica false x))] ++ cap.map .a) = some (first ++ [.agg (encReplica false x)] ++ cap)) : PCall tab 111 [.vs (xs.map (encReplica false)) z, .fn (.func k) first cap] (.int .i64 (idxOf q xs)) := by
  unfold lenOK at hx
  refine PCall.of (F := m111) rfl rfl rfl rfl ?_
  simp -implicitDefEqProofs [m111]
  refine loop_by (fun m E T => T = TH.none ∧ ∃ i : Nat, i + m = xs.length ∧ E.get 0 = .a (.vs (xs.map (encReplica false)) z) ∧ E.get 1 = .a (.fn (.func k) first cap) ∧ E.get 7 = .a (.int .i64 xs.length) ∧ E.get 8 = .a (.int .i64 i) ∧ i ≤ xs.findIdx q) ?_ xs.length ⟨rfl, 0, by simp⟩
  rintro m E T ⟨rfl, i, hi, h0, h1, h7, h8, hle⟩
  by_cases hlt : i < xs.length
  · have g1 := List.getElem?_eq_getElem hlt
    simp -implicitDefEqProofs [h0, h1, h7, h8, hlt, g1]
    have hf := hfz xs[i]
    simp only [List.append_assoc, List.cons_append, List.nil_append] at hf
    refine CallT.pure (by simpa using hc xs[i] (List.getElem_mem hlt)) hf rfl ?_
    cases hq : q xs[i] with
    | true =>
      have e := idx_here hlt hle hq
      simp -implicitDefEqProofs [idxOf, e, hlt, hq]
    | false =>
      simp -implicitDefEqProofs [hq, h0, h1, h7, h8]
      exact ⟨m - 1, by omega, i + 1, by omega, wrap_nat (by omega), idx_on hlt hle hq⟩
  · have e : ¬ xs.findIdx q < xs.length := by have := List.findIdx_le_length (xs := xs) (p := q); omega
    simp -implicitDefEqProofs [h0, h1, h7, h8, hlt, idxOf, e]

theorem c_ContainsReplica (xs : List Replica) (z : Bool) (hx : lenOK xs) (q : Replica → Bool) (k : FuncId) (first cap : List AV) (hc : ∀ x ∈ xs, PCall tab k (first ++ [.agg (encReplica false x)] ++ cap) (.bool (q x)))
    (hfz : ∀ x : Replica, mapO (fzT TH.none) (first.map .a ++ [.a (.agg (encReplica false x))] ++ cap.map .a) = some (first ++ [.agg (encReplica false x)] ++ cap)) (hfn : freeze AH.none 12 (.fn (.func k) first cap) = some (.fn (.func k) first cap)) (hcl : cloL first = true ∧ cloL cap = true) : PCall tab 79 [.vs (xs.map (encReplica false)) z, .fn (.func k) first cap] (.bool (xs.any q)) := by
  refine PCall.of (F := m79) rfl rfl rfl rfl ?_
  simp -implicitDefEqProofs [m79]
  refine CallT.pure (c_IndexReplica xs false hx q k first cap hc hfz) (by simp [mapO, fzT_a, hcl, clo, hfn]) rfl ?_
  simp -implicitDefEqProofs
  by_cases h : 0 ≤ idxOf q xs
  · have := (idxOf_nonneg q xs).1 h
    simp [h]; simpa using this
  · have := mt (idxOf_nonneg q xs).2 h
    simp [h]; simpa using this

theorem c_IndexThread (xs : List Thread) (z : Bool) (hx : lenOK xs) (q : Thread → Bool) (k : FuncId) (first cap : List AV) (hc : ∀ x ∈ xs, PCall tab k (first ++ [.agg (encThread false x)] ++ cap) (.bool (q x)))
    (hfz : ∀ x : Thread, mapO (fzT TH.none) (first.map .a ++ [.a (.agg (encThread false x))] ++ cap.map .a) = some (first ++ [.agg (encThread false x)] ++ cap)) : PCall tab 112 [.vs (xs.map (encThread false)) z, .fn (.func k) first cap] (.int .i64 (idxOf q xs)) := by
  unfold lenOK at hx
  refine PCall.of (F := m112) rfl rfl rfl rfl ?_
  simp -implicitDefEqProofs [m112]
  refine loop_by (fun m E T => T = TH.none ∧ ∃ i : Nat, i + m = xs.length ∧ E.get 0 = .a (.vs (xs.map (encThread false)) z) ∧ E.get 1 = .a (.fn (.func k) first cap) ∧ E.get 7 = .a (.int .i64 xs.length) ∧ E.get 8 = .a (.int .i64 i) ∧ i ≤ xs.findIdx q) ?_ xs.length ⟨rfl, 0, by simp⟩
  rintro m E T ⟨rfl, i, hi, h0, h1, h7, h8, hle⟩
  by_cases hlt : i < xs.length
  · have g1 := List.getElem?_eq_getElem hlt
    simp -implicitDefEqProofs [h0, h1, h7, h8, hlt, g1]
    have hf := hfz xs[i]
    simp only [List.append_assoc, List.cons_append, List.nil_append] at hf
    refine CallT.pure (by simpa using hc xs[i] (List.getElem_mem hlt)) hf rfl ?_
    cases hq : q xs[i] with
    | true =>
      have e := idx_here hlt hle hq
      simp -implicitDefEqProofs [idxOf, e, hlt, hq]
    | false =>
      simp -implicitDefEqProofs [hq, h0, h1, h7, h8]
      exact ⟨m - 1, by omega, i + 1, by omega, wrap_nat (by omega), idx_on hlt hle hq⟩
  · have e : ¬ xs.findIdx q < xs.length := by have := List.findIdx_le_length (xs := xs) (p := q); omega
    simp -implicitDefEqProofs [h0, h1, h7, h8, hlt, idxOf, e]

theorem c_ContainsThread (xs : List Thread) (z : Bool) (hx : lenOK xs) (q : Thread → Bool) (k : FuncId) (first cap : List AV) (hc : ∀ x ∈ xs, PCall tab k (first ++ [.agg (encThread false x)] ++ cap) (.bool (q x)))
    (hfz : ∀ x : Thread, mapO (fzT TH.none) (first.map .a ++ [.a (.agg (encThread false x))] ++ cap.map .a) = some (first ++ [.agg (encThread false x)] ++ cap)) (hfn : freeze AH.none 12 (.fn (.func k) first cap) = some (.fn (.func k) first cap)) (hcl : cloL first = true ∧ cloL cap = true) : PCall tab 81 [.vs (xs.map (encThread false)) z, .fn (.func k) first cap] (.bool (xs.any q)) := by
  refine PCall.of (F := m81) rfl rfl rfl rfl ?_
  simp -implicitDefEqProofs [m81]
  refine CallT.pure (c_IndexThread xs false hx q k first cap hc hfz) (by simp [mapO, fzT_a, hcl, clo, hfn]) rfl ?_
  simp -implicitDefEqProofs
  by_cases h : 0 ≤ idxOf q xs
  · have := (idxOf_nonneg q xs).1 h
    simp [h]; simpa using this
  · have := mt (idxOf_nonneg q xs).2 h
    simp [h]; simpa using this

theorem c_IndexEvent (xs : List Event) (z : Bool) (hx : lenOK xs) (q : Event → Bool) (k : FuncId) (first cap : List AV) (hc : ∀ x ∈ xs, PCall tab k (first ++ [.agg (encEvent x)] ++ cap) (.bool (q x)))
    (hfz : ∀ x : Event, mapO (fzT TH.none) (first.map .a ++ [.a (.agg (encEvent x))] ++ cap.map .a) = some (first ++ [.agg (encEvent x)] ++ cap)) : PCall tab 114 [.vs (xs.map encEvent) z, .fn (.func k) first cap] (.int .i64 (idxOf q xs)) := by
  unfold lenOK at hx
  refine PCall.of (F := m114) rfl rfl rfl rfl ?_
  simp -implicitDefEqProofs [m114]
  refine loop_by (fun m E T => T = TH.none ∧ ∃ i : Nat, i + m = xs.length ∧ E.get 0 = .a (.vs (xs.map encEvent) z) ∧ E.get 1 = .a (.fn (.func k) first cap) ∧ E.get 7 = .a (.int .i64 xs.length) ∧ E.get 8 = .a (.int .i64 i) ∧ i ≤ xs.findIdx q) ?_ xs.length ⟨rfl, 0, by simp⟩
  rintro m E T ⟨rfl, i, hi, h0, h1, h7, h8, hle⟩
  by_cases hlt : i < xs.length
  · have g1 := List.getElem?_eq_getElem hlt
    simp -implicitDefEqProofs [h0, h1, h7, h8, hlt, g1]
    have hf := hfz xs[i]
    simp only [List.append_assoc, List.cons_append, List.nil_append] at hf
    refine CallT.pure (by simpa using hc xs[i] (List.getElem_mem hlt)) hf rfl ?_
    cases hq : q xs[i] with
    | true =>
      have e := idx_here hlt hle hq
      simp -implicitDefEqProofs [idxOf, e, hlt, hq]
    | false =>
      simp -implicitDefEqProofs [hq, h0, h1, h7, h8]
      exact ⟨m - 1, by omega, i + 1, by omega, wrap_nat (by omega), idx_on hlt hle hq⟩
  · have e : ¬ xs.findIdx q < xs.length := by have := List.findIdx_le_length (xs := xs) (p := q); omega
    simp -implicitDefEqProofs [h0, h1, h7, h8, hlt, idxOf, e]

theorem c_ContainsEvent (xs : List Event) (z : Bool) (hx : lenOK xs) (q : Event → Bool) (k : FuncId) (first cap : List AV) (hc : ∀ x ∈ xs, PCall tab k (first ++ [.agg (encEvent x)] ++ cap) (.bool (q x)))
    (hfz : ∀ x : Event, mapO (fzT TH.none) (first.map .a ++ [.a (.agg (encEvent x))] ++ cap.map .a) = some (first ++ [.agg (encEvent x)] ++ cap)) (hfn : freeze AH.none 12 (.fn (.func k) first cap) = some (.fn (.func k) first cap)) (hcl : cloL first = true ∧ cloL cap = true) : PCall tab 85 [.vs (xs.map encEvent) z, .fn (.func k) first cap] (.bool (xs.any q)) := by
  refine PCall.of (F := m85) rfl rfl rfl rfl ?_
  simp -implicitDefEqProofs [m85]
  refine CallT.pure (c_IndexEvent xs false hx q k first cap hc hfz) (by simp [mapO, fzT_a, hcl, clo, hfn]) rfl ?_
  simp -implicitDefEqProofs
  by_cases h : 0 ≤ idxOf q xs
  · have := (idxOf_nonneg q xs).1 h
    simp [h]; simpa using this
  · have := mt (idxOf_nonneg q xs).2 h
    simp [h]; simpa using this

end Go.Ab

namespace Go.Ab

theorem c_allOneRing (x : Ring) (q : Bool) (k : FuncId) (first cap : List AV) (hc : PCall tab k (first ++ [.agg (encRing false x)] ++ cap) (.bool q)) (hfz : mapO (fzT TH.none) (first.map .a ++ [.a (.agg (encRing false x))] ++ cap.map .a) = some (first ++ [.agg (encRing false x)] ++ cap)) :
    PCall tab 71 [.agg (encRing false x), .vp [[.fn (.func k) first cap]] 0 0] (.bool (!q)) := by
  refine PCall.of (F := m71) rfl rfl rfl rfl ?_
  simp -implicitDefEqProofs [m71]
  simp only [List.append_assoc, List.cons_append, List.nil_append] at hfz
  refine CallT.pure (by simpa using hc) hfz rfl ?_
  simp -implicitDefEqProofs

theorem c_allRing (xs : List Ring) (z : Bool) (hx : lenOK xs) (q : Ring → Bool) (k : FuncId) (first cap : List AV) (hc : ∀ x ∈ xs, PCall tab k (first ++ [.agg (encRing false x)] ++ cap) (.bool (q x)))
    (hfz : ∀ x : Ring, mapO (fzT TH.none) (first.map .a ++ [.a (.agg (encRing false x))] ++ cap.map .a) = some (first ++ [.agg (encRing false x)] ++ cap)) (hfn : ∀ d, freeze AH.none (d + 3) (.fn (.func k) first cap) = some (.fn (.func k) first cap)) (hcl : cloL first = true ∧ cloL cap = true) : PCall tab 40 [.vs (xs.map (encRing false)) z, .fn (.func k) first cap] (.bool (xs.all q)) := by
  refine PCall.of (F := m40) rfl rfl rfl rfl ?_
  simp -implicitDefEqProofs [m40]
  refine CallT.pure (c_ContainsRing xs false hx (fun x => !q x) 71 [] [.vp [[.fn (.func k) first cap]] 0 0] (fun x hm => c_allOneRing x (q x) k first cap (hc x hm) (hfz x)) (fun x => by simp) (by simp) (by simp)) (by
    have h8 := hfn 7
    simp [hcl, h8]) rfl ?_
  simp -implicitDefEqProofs [List.all_eq_not_any_not]

theorem c_allOneSlot (x : Slot) (q : Bool) (k : FuncId) (first cap : List AV) (hc : PCall tab k (first ++ [.agg (encSlot x)] ++ cap) (.bool q)) (hfz : mapO (fzT TH.none) (first.map .a ++ [.a (.agg (encSlot x))] ++ cap.map .a) = some (first ++ [.agg (encSlot x)] ++ cap)) :
    PCall tab 105 [.agg (encSlot x), .vp [[.fn (.func k) first cap]] 0 0] (.bool (!q)) := by
  refine PCall.of (F := m105) rfl rfl rfl rfl ?_
  simp -implicitDefEqProofs [m105]
  simp only [List.append_assoc, List.cons_append, List.nil_append] at hfz
  refine CallT.pure (by simpa using hc) hfz rfl ?_
  simp -implicitDefEqProofs

theorem c_allSlot (xs : List Slot) (z : Bool) (hx : lenOK xs) (q : Slot → Bool) (k : FuncId) (first cap : List AV) (hc : ∀ x ∈ xs, PCall tab k (first ++ [.agg (encSlot x)] ++ cap) (.bool (q x)))
    (hfz : ∀ x : Slot, mapO (fzT TH.none) (first.map .a ++ [.a (.agg (encSlot x))] ++ cap.map .a) = some (first ++ [.agg (encSlot x)] ++ cap)) (hfn : ∀ d, freeze AH.none (d + 3) (.fn (.func k) first cap) = some (.fn (.func k) first cap)) (hcl : cloL first = true ∧ cloL cap = true) : PCall tab 75 [.vs (xs.map encSlot) z, .fn (.func k) first cap] (.bool (xs.all q)) := by
  refine PCall.of (F := m75) rfl rfl rfl rfl ?_
  simp -implicitDefEqProofs [m75]
  refine CallT.pure (c_ContainsSlot xs false hx (fun x => !q x) 105 [] [.vp [[.fn (.func k) first cap]] 0 0] (fun x hm => c_allOneSlot x (q x) k first cap (hc x hm) (hfz x)) (fun x => by simp) (by simp) (by simp)) (by
    have h8 := hfn 7
    simp [hcl, h8]) rfl ?_
  simp -implicitDefEqProofs [List.all_eq_not_any_not]

theorem c_allOneint (x : Int) (q : Bool) (k : FuncId) (first cap : List AV) (hc : PCall tab k (first ++ [.int .i64 x] ++ cap) (.bool q)) (hfz : mapO (fzT TH.none) (first.map .a ++ [.a (.int .i64 x)] ++ cap.map .a) = some (first ++ [.int .i64 x] ++ cap)) :
    PCall tab 110 [.int .i64 x, .vp [[.fn (.func k) first cap]] 0 0] (.bool (!q)) := by
  refine PCall.of (F := m110) rfl rfl rfl rfl ?_
  simp -implicitDefEqProofs [m110]
  simp only [List.append_assoc, List.cons_append, List.nil_append] at hfz
  refine CallT.pure (by simpa using hc) hfz rfl ?_
  simp -implicitDefEqProofs

theorem c_allint (xs : List Int) (z : Bool) (hx : lenOK xs) (q : Int → Bool) (k : FuncId) (first cap : List AV) (hc : ∀ x ∈ xs, PCall tab k (first ++ [.int .i64 x] ++ cap) (.bool (q x)))
    (hfz : ∀ x : Int, mapO (fzT TH.none) (first.map .a ++ [.a (.int .i64 x)] ++ cap.map .a) = some (first ++ [.int .i64 x] ++ cap)) (hfn : ∀ d, freeze AH.none (d + 3) (.fn (.func k) first cap) = some (.fn (.func k) first cap)) (hcl : cloL first = true ∧ cloL cap = true) : PCall tab 78 [.vs (xs.map encInt) z, .fn (.func k) first cap] (.bool (xs.all q)) := by
  refine PCall.of (F := m78) rfl rfl rfl rfl ?_
  simp -implicitDefEqProofs [m78]
  refine CallT.pure (c_Containsint xs false hx (fun x => !q x) 110 [] [.vp [[.fn (.func k) first cap]] 0 0] (fun x hm => c_allOneint x (q x) k first cap (hc x hm) (hfz x)) (fun x => by simp) (by simp) (by simp)) (by
    have h8 := hfn 7
    simp [hcl, h8]) rfl ?_
  simp -implicitDefEqProofs [List.all_eq_not_any_not]

theorem c_allOneReplica (x : Replica) (q : Bool) (k : FuncId) (first cap : List AV) (hc : PCall tab k (first ++ [.agg (encReplica false x)] ++ cap) (.bool q)) (hfz : mapO (fzT TH.none) (first.map .a ++ [.a (.agg (encReplica false x))] ++ cap.map .a) = some (first ++ [.agg (encReplica false x)] ++ cap)) :
    PCall tab 80 [.agg (encReplica false x), .vp [[.fn (.func k) first cap]] 0 0] (.bool (!q)) := by
  refine PCall.of (F := m80) rfl rfl rfl rfl ?_
  simp -implicitDefEqProofs [m80]
  simp only [List.append_assoc, List.cons_append, List.nil_append] at hfz
  refine CallT.pure (by simpa using hc) hfz rfl ?_
  simp -implicitDefEqProofs

theorem c_allReplica (xs : List Replica) (z : Bool) (hx : lenOK xs) (q : Replica → Bool) (k : FuncId) (first cap : List AV) (hc : ∀ x ∈ xs, PCall tab k (first ++ [.agg (encReplica false x)] ++ cap) (.bool (q x)))
    (hfz : ∀ x : Replica, mapO (fzT TH.none) (first.map .a ++ [.a (.agg (encReplica false x))] ++ cap.map .a) = some (first ++ [.agg (encReplica false x)] ++ cap)) (hfn : ∀ d, freeze AH.none (d + 3) (.fn (.func k) first cap) = some (.fn (.func k) first cap)) (hcl : cloL first = true ∧ cloL cap = true) : PCall tab 44 [.vs (xs.map (encReplica false)) z, .fn (.func k) first cap] (.bool (xs.all q)) := by
  refine PCall.of (F := m44) rfl rfl rfl rfl ?_
  simp -implicitDefEqProofs [m44]
  refine CallT.pure (c_ContainsReplica xs false hx (fun x => !q x) 80 [] [.vp [[.fn (.func k) first cap]] 0 0] (fun x hm => c_allOneReplica x (q x) k first cap (hc x hm) (hfz x)) (fun x => by simp) (by simp) (by simp)) (by
    have h8 := hfn 7
    simp [hcl, h8]) rfl ?_
  simp -implicitDefEqProofs [List.all_eq_not_any_not]

theorem c_allOneThread (x : Thread) (q : Bool) (k : FuncId) (first cap : List AV) (hc : PCall tab k (first ++ [.agg (encThread false x)] ++ cap) (.bool q)) (hfz : mapO (fzT TH.none) (first.map .a ++ [.a (.agg (encThread false x))] ++ cap.map .a) = some (first ++ [.agg (encThread false x)] ++ cap)) :
    PCall tab 82 [.agg (encThread false x), .vp [[.fn (.func k) first cap]] 0 0] (.bool (!q)) := by
  refine PCall.of (F := m82) rfl rfl rfl rfl ?_
  simp -implicitDefEqProofs [m82]
  simp only [List.append_assoc, List.cons_append, List.nil_append] at hfz
  refine CallT.pure (by simpa using hc) hfz rfl ?_
  simp -implicitDefEqProofs

theorem c_allThread (xs : List Thread) (z : Bool) (hx : lenOK xs) (q : Thread → Bool) (k : FuncId) (first cap : List AV) (hc : ∀ x ∈ xs, PCall tab k (first ++ [.agg (encThread false x)] ++ cap) (.bool (q x)))
    (hfz : ∀ x : Thread, mapO (fzT TH.none) (first.map .a ++ [.a (.agg (encThread false x))] ++ cap.map .a) = some (first ++ [.agg (encThread false x)] ++ cap)) (hfn : ∀ d, freeze AH.none (d + 3) (.fn (.func k) first cap) = some (.fn (.func k) first cap)) (hcl : cloL first = true ∧ cloL cap = true) : PCall tab 45 [.vs (xs.map (encThread false)) z, .fn (.func k) first cap] (.bool (xs.all q)) := by
  refine PCall.of (F := m45) rfl rfl rfl rfl ?_
  simp -implicitDefEqProofs [m45]
  refine CallT.pure (c_ContainsThread xs false hx (fun x => !q x) 82 [] [.vp [[.fn (.func k) first cap]] 0 0] (fun x hm => c_allOneThread x (q x) k first cap (hc x hm) (hfz x)) (fun x => by simp) (by simp) (by simp)) (by
    have h8 := hfn 7
    simp [hcl, h8]) rfl ?_
  simp -implicitDefEqProofs [List.all_eq_not_any_not]

theorem c_allOneEvent (x : Event) (q : Bool) (k : FuncId) (first cap : List AV) (hc : PCall tab k (first ++ [.agg (encEvent x)] ++ cap) (.bool q)) (hfz : mapO (fzT TH.none) (first.map .a ++ [.a (.agg (encEvent x))] ++ cap.map .a) = some (first ++ [.agg (encEvent x)] ++ cap)) :
    PCall tab 86 [.agg (encEvent x), .vp [[.fn (.func k) first cap]] 0 0] (.bool (!q)) := by
  refine PCall.of (F := m86) rfl rfl rfl rfl ?_
  simp -implicitDefEqProofs [m86]
  simp only [List.append_assoc, List.cons_append, List.nil_append] at hfz
  refine CallT.pure (by simpa using hc) hfz rfl ?_
  simp -implicitDefEqProofs

theorem c_allEvent (xs : List Event) (z : Bool) (hx : lenOK xs) (q : Event → Bool) (k : FuncId) (first cap : List AV) (hc : ∀ x ∈ xs, PCall tab k (first ++ [.agg (encEvent x)] ++ cap) (.bool (q x)))
    (hfz : ∀ x : Event, mapO (fzT TH.none) (first.map .a ++ [.a (.agg (encEvent x))] ++ cap.map .a) = some (first ++ [.agg (encEvent x)] ++ cap)) (hfn : ∀ d, freeze AH.none (d + 3) (.fn (.func k) first cap) = some (.fn (.func k) first cap)) (hcl : cloL first = true ∧ cloL cap = true) : PCall tab 47 [.vs (xs.map encEvent) z, .fn (.func k) first cap] (.bool (xs.all q)) := by
  refine PCall.of (F := m47) rfl rfl rfl rfl ?_
  simp -implicitDefEqProofs [m47]
  refine CallT.pure (c_ContainsEvent xs false hx (fun x => !q x) 86 [] [.vp [[.fn (.func k) first cap]] 0 0] (fun x hm => c_allOneEvent x (q x) k first cap (hc x hm) (hfz x)) (fun x => by simp) (by simp) (by simp)) (by
    have h8 := hfn 7
    simp [hcl, h8]) rfl ?_
  simp -implicitDefEqProofs [List.all_eq_not_any_not]

end Go.Ab

namespace Go.Ab

@[reducible] def objIs (x : Int) : Prop := 0 ≤ x ∧ x ≤ 2
@[reducible] def logsMay (x : Int) : Prop := 1 ≤ x ∧ x ≤ 2
@[reducible] def slotsMay (k : Int) : Prop := k = 2 ∨ k = 4 ∨ k = 8 ∨ k = 16
@[reducible] def cfgMay (c : Config) : Prop := objIs c.object ∧ (1 ≤ c.replicas ∧ c.replicas ≤ 2) ∧ logsMay c.logs ∧ (1 ≤ c.threads ∧ c.threads ≤ 4) ∧ slotsMay c.slots ∧ 2 * c.threads ≤ c.slots
@[reducible] def threadIn (x n : Int) : Prop := 0 ≤ x ∧ x < n
@[reducible] def slotOK (s : Slot) : Prop := updates s.op ∧ threadIn s.thread 4 ∧ (s.bit = 0 ∨ s.bit = 1)
@[reducible] def ringNums (r : Ring) : Prop := 0 ≤ r.head ∧ r.head ≤ r.tail ∧ r.tail ≤ 1048576 ∧ r.tail - r.head ≤ r.slots.length ∧ 0 ≤ r.fence ∧ r.fence ≤ 4 ∧ slotsMay r.slots.length
def ringMay (r : Ring) : Bool := decide (ringNums r) && r.slots.all fun s => decide (slotOK s)

theorem c_objIs (x : Int) : PCall tab 67 [.int .i64 x] (.bool (decide (objIs x))) := by
  refine PCall.of (F := m67) rfl rfl rfl rfl ?_
  simp -implicitDefEqProofs [m67]
  repeat' (first
    | (with_reducible refine guard_by (fun hb => ?_) (fun hb => ?_) <;> rw [hb] <;> (try simp at hb) <;> simp -implicitDefEqProofs [hb])
    | (with_reducible refine cond_by (fun hb => ?_) (fun hb => ?_) <;> rw [hb] <;> (try simp at hb) <;> simp -implicitDefEqProofs [hb]))
  all_goals (try simp only [argMay, opMay, updates] at *)
  all_goals (first | omega | (rw [Bool.eq_iff_iff]; simp only [Bool.and_eq_true, Bool.or_eq_true, decide_eq_true_eq, Bool.not_eq_true', decide_eq_false_iff_not, beq_iff_eq, bne_iff_ne, ne_eq] <;> omega))

theorem c_logs (x : Int) : PCall tab 68 [.int .i64 x] (.bool (decide (logsMay x))) := by
  refine PCall.of (F := m68) rfl rfl rfl rfl ?_
  simp -implicitDefEqProofs [m68]
  repeat' (first
    | (with_reducible refine guard_by (fun hb => ?_) (fun hb => ?_) <;> rw [hb] <;> (try simp at hb) <;> simp -implicitDefEqProofs [hb])
    | (with_reducible refine cond_by (fun hb => ?_) (fun hb => ?_) <;> rw [hb] <;> (try simp at hb) <;> simp -implicitDefEqProofs [hb]))
  all_goals (try simp only [argMay, opMay, updates] at *)
  all_goals (first | omega | (rw [Bool.eq_iff_iff]; simp only [Bool.and_eq_true, Bool.or_eq_true, decide_eq_true_eq, Bool.not_eq_true', decide_eq_false_iff_not, beq_iff_eq, bne_iff_ne, ne_eq] <;> omega))

theorem c_ringThread (x n : Int) : PCall tab 104 [.int .i64 x, .int .i64 n] (.bool (decide (threadIn x n))) := by
  refine PCall.of (F := m104) rfl rfl rfl rfl ?_
  simp -implicitDefEqProofs [m104]
  repeat' (first
    | (with_reducible refine guard_by (fun hb => ?_) (fun hb => ?_) <;> rw [hb] <;> (try simp at hb) <;> simp -implicitDefEqProofs [hb])
    | (with_reducible refine cond_by (fun hb => ?_) (fun hb => ?_) <;> rw [hb] <;> (try simp at hb) <;> simp -implicitDefEqProofs [hb]))
  all_goals (try simp only [argMay, opMay, updates] at *)
  all_goals (first | omega | (rw [Bool.eq_iff_iff]; simp only [Bool.and_eq_true, Bool.or_eq_true, decide_eq_true_eq, Bool.not_eq_true', decide_eq_false_iff_not, beq_iff_eq, bne_iff_ne, ne_eq] <;> omega))

theorem c_updates (o : Op) : PCall tab 66 [.agg (encOp o)] (.bool (decide (updates o))) := by
  refine PCall.of (F := m66) rfl rfl rfl rfl ?_
  simp -implicitDefEqProofs [m66]
  repeat' (first
    | (with_reducible refine guard_by (fun hb => ?_) (fun hb => ?_) <;> rw [hb] <;> (try simp at hb) <;> simp -implicitDefEqProofs [hb])
    | (with_reducible refine cond_by (fun hb => ?_) (fun hb => ?_) <;> rw [hb] <;> (try simp at hb) <;> simp -implicitDefEqProofs [hb])
    | (refine CallT.bool2 rfl (c_operMay o) (fun hb => ?_) (fun hb => ?_) <;> simp -implicitDefEqProofs [hb]))
  all_goals (try simp only [argMay, opMay, updates] at *)
  all_goals (first | omega | (rw [Bool.eq_iff_iff]; simp only [Bool.and_eq_true, Bool.or_eq_true, decide_eq_true_eq, Bool.not_eq_true', decide_eq_false_iff_not, beq_iff_eq, bne_iff_ne, ne_eq] <;> omega))

theorem c_many (k : Int) : PCall tab 69 [.int .i64 k] (.bool (decide (slotsMay k))) := by
  refine PCall.of (F := m69) rfl rfl rfl rfl ?_
  simp -implicitDefEqProofs [m69]
  repeat' (first
    | (with_reducible refine guard_by (fun hb => ?_) (fun hb => ?_) <;> rw [hb] <;> (try simp at hb) <;> simp -implicitDefEqProofs [hb])
    | (with_reducible refine cond_by (fun hb => ?_) (fun hb => ?_) <;> rw [hb] <;> (try simp at hb) <;> simp -implicitDefEqProofs [hb]))
  all_goals (first | omega | skip)
  all_goals
    have hk : k = 2 ∨ k = 3 ∨ k = 4 ∨ k = 5 ∨ k = 6 ∨ k = 7 ∨ k = 8 ∨ k = 9 ∨ k = 10 ∨ k = 11 ∨ k = 12 ∨ k = 13 ∨ k = 14 ∨ k = 15 ∨ k = 16 := by omega
    rcases hk with rfl | rfl | rfl | rfl | rfl | rfl | rfl | rfl | rfl | rfl | rfl | rfl | rfl | rfl | rfl <;> decide

theorem c_cfgMay (c : Config) : PCall tab 30 [.agg (encConfig c)] (.bool (decide (cfgMay c))) := by
  refine PCall.of (F := m30) rfl rfl rfl rfl ?_
  simp -implicitDefEqProofs [m30]
  repeat' (first
    | (with_reducible refine guard_by (fun hb => ?_) (fun hb => ?_) <;> rw [hb] <;> (try simp at hb) <;> simp -implicitDefEqProofs [hb])
    | (with_reducible refine cond_by (fun hb => ?_) (fun hb => ?_) <;> rw [hb] <;> (try simp at hb) <;> simp -implicitDefEqProofs [hb])
    | (refine CallT.bool2 rfl (c_objIs _) (fun hb => ?_) (fun hb => ?_) <;> simp -implicitDefEqProofs [hb])
    | (refine CallT.bool2 rfl (c_logs _) (fun hb => ?_) (fun hb => ?_) <;> simp -implicitDefEqProofs [hb])
    | (refine CallT.bool2 rfl (c_many _) (fun hb => ?_) (fun hb => ?_) <;> simp -implicitDefEqProofs [hb]))
  all_goals (first | omega | skip)
  all_goals (rw [wrap_of (by omega) (by omega)]; simp only [← Bool.decide_and, ← Bool.decide_or, decide_eq_decide]; omega)

theorem c_odd (x : Slot) : PCall tab 103 [.agg (encSlot x)] (.bool (decide (¬ slotOK x))) := by
  refine PCall.of (F := m103) rfl rfl rfl rfl ?_
  simp -implicitDefEqProofs [m103]
  repeat' (first
    | (with_reducible refine guard_by (fun hb => ?_) (fun hb => ?_) <;> rw [hb] <;> (try simp at hb) <;> simp -implicitDefEqProofs [hb])
    | (with_reducible refine cond_by (fun hb => ?_) (fun hb => ?_) <;> rw [hb] <;> (try simp at hb) <;> simp -implicitDefEqProofs [hb])
    | (refine CallT.bool2 rfl (c_updates x.op) (fun hb => ?_) (fun hb => ?_) <;> simp -implicitDefEqProofs [hb])
    | (refine CallT.bool2 rfl (c_ringThread _ _) (fun hb => ?_) (fun hb => ?_) <;> simp -implicitDefEqProofs [hb]))
  all_goals (try simp only [argMay, opMay, updates, threadIn, slotOK] at *)
  all_goals (first | omega | (rw [Bool.eq_iff_iff]; simp only [Bool.and_eq_true, Bool.or_eq_true, decide_eq_true_eq, Bool.not_eq_true', decide_eq_false_iff_not, beq_iff_eq, bne_iff_ne, ne_eq] <;> omega))

theorem c_lthread (c : Config) (x : Int) : PCall tab 73 [.agg (encConfig c), .int .i64 x] (.bool (decide (threadIn x c.threads))) := by
  refine PCall.of (F := m73) rfl rfl rfl rfl ?_
  simp -implicitDefEqProofs [m73]
  repeat' (first
    | (with_reducible refine guard_by (fun hb => ?_) (fun hb => ?_) <;> rw [hb] <;> (try simp at hb) <;> simp -implicitDefEqProofs [hb])
    | (with_reducible refine cond_by (fun hb => ?_) (fun hb => ?_) <;> rw [hb] <;> (try simp at hb) <;> simp -implicitDefEqProofs [hb]))
  all_goals (try simp only [argMay, opMay, updates] at *)
  all_goals (first | omega | (rw [Bool.eq_iff_iff]; simp only [Bool.and_eq_true, Bool.or_eq_true, decide_eq_true_eq, Bool.not_eq_true', decide_eq_false_iff_not, beq_iff_eq, bne_iff_ne, ne_eq] <;> omega))

theorem c_SlotsMay (k : Int) : PCall tab 59 [.int .i64 k] (.bool (decide (slotsMay k))) := by
  refine PCall.of (F := m59) rfl rfl rfl rfl ?_
  simp -implicitDefEqProofs [m59]
  repeat' (first
    | (with_reducible refine guard_by (fun hb => ?_) (fun hb => ?_) <;> rw [hb] <;> (try simp at hb) <;> simp -implicitDefEqProofs [hb])
    | (with_reducible refine cond_by (fun hb => ?_) (fun hb => ?_) <;> rw [hb] <;> (try simp at hb) <;> simp -implicitDefEqProofs [hb]))
  all_goals (try simp only [argMay, opMay, updates] at *)
  all_goals (first | omega | (rw [Bool.eq_iff_iff]; simp only [Bool.and_eq_true, Bool.or_eq_true, decide_eq_true_eq, Bool.not_eq_true', decide_eq_false_iff_not, beq_iff_eq, bne_iff_ne, ne_eq] <;> omega))

theorem c_ConfigMay (c : Config) : PCall tab 21 [.agg (encConfig c)] (.bool (decide (cfgMay c))) := by
  refine PCall.of (F := m21) rfl rfl rfl rfl ?_
  simp -implicitDefEqProofs [m21]
  repeat' (first
    | (with_reducible refine guard_by (fun hb => ?_) (fun hb => ?_) <;> rw [hb] <;> (try simp at hb) <;> simp -implicitDefEqProofs [hb])
    | (with_reducible refine cond_by (fun hb => ?_) (fun hb => ?_) <;> rw [hb] <;> (try simp at hb) <;> simp -implicitDefEqProofs [hb])
    | (refine CallT.bool2 rfl (c_upTo13 _ _ _) (fun hb => ?_) (fun hb => ?_) <;> simp -implicitDefEqProofs [hb])
    | (refine CallT.bool2 rfl (c_SlotsMay _) (fun hb => ?_) (fun hb => ?_) <;> simp -implicitDefEqProofs [hb]))
  all_goals (try simp only [objIs, logsMay, cfgMay, slotsMay] at *)
  all_goals (try rw [wrap_of (by omega) (by omega)])
  all_goals (first | omega | (rw [Bool.eq_iff_iff]; simp only [Bool.and_eq_true, Bool.or_eq_true, decide_eq_true_eq] <;> omega))

theorem c_cellMay (x : Int) : PCall tab 115 [.int .i64 x] (.bool (decide (0 ≤ x ∧ x ≤ 1048576))) := by
  refine PCall.of (F := m115) rfl rfl rfl rfl ?_
  simp -implicitDefEqProofs [m115]
  repeat' (first
    | (with_reducible refine guard_by (fun hb => ?_) (fun hb => ?_) <;> rw [hb] <;> (try simp at hb) <;> simp -implicitDefEqProofs [hb])
    | (with_reducible refine cond_by (fun hb => ?_) (fun hb => ?_) <;> rw [hb] <;> (try simp at hb) <;> simp -implicitDefEqProofs [hb])
    | (refine CallT.bool2 rfl (c_upTo1 _ _ _) (fun hb => ?_) (fun hb => ?_) <;> simp -implicitDefEqProofs [hb]))
  all_goals (try simp only [argMay, opMay, updates] at *)
  all_goals (first | omega | (rw [Bool.eq_iff_iff]; simp only [Bool.and_eq_true, Bool.or_eq_true, decide_eq_true_eq, Bool.not_eq_true', decide_eq_false_iff_not, beq_iff_eq, bne_iff_ne, ne_eq] <;> omega))

theorem c_Updates1 (o : Op) : PCall tab 116 [.agg (encOp o)] (.bool (decide (updates o))) := by
  refine PCall.of (F := m116) rfl rfl rfl rfl ?_
  simp -implicitDefEqProofs [m116]
  repeat' (first
    | (with_reducible refine guard_by (fun hb => ?_) (fun hb => ?_) <;> rw [hb] <;> (try simp at hb) <;> simp -implicitDefEqProofs [hb])
    | (with_reducible refine cond_by (fun hb => ?_) (fun hb => ?_) <;> rw [hb] <;> (try simp at hb) <;> simp -implicitDefEqProofs [hb])
    | (refine CallT.bool2 rfl (c_OperMay o) (fun hb => ?_) (fun hb => ?_) <;> simp -implicitDefEqProofs [hb]))
  all_goals (try simp only [argMay, opMay, updates] at *)
  all_goals (first | omega | (rw [Bool.eq_iff_iff]; simp only [Bool.and_eq_true, Bool.or_eq_true, decide_eq_true_eq, Bool.not_eq_true', decide_eq_false_iff_not, beq_iff_eq, bne_iff_ne, ne_eq] <;> omega))

theorem c_threadMay1 (x : Int) : PCall tab 117 [.int .i64 x] (.bool (decide (threadIn x 4))) := by
  refine PCall.of (F := m117) rfl rfl rfl rfl ?_
  simp -implicitDefEqProofs [m117]
  repeat' (first
    | (with_reducible refine guard_by (fun hb => ?_) (fun hb => ?_) <;> rw [hb] <;> (try simp at hb) <;> simp -implicitDefEqProofs [hb])
    | (with_reducible refine cond_by (fun hb => ?_) (fun hb => ?_) <;> rw [hb] <;> (try simp at hb) <;> simp -implicitDefEqProofs [hb])
    | (refine CallT.bool2 rfl (c_upTo1 _ _ _) (fun hb => ?_) (fun hb => ?_) <;> simp -implicitDefEqProofs [hb]))
  all_goals (try simp only [argMay, opMay, updates, threadIn] at *)
  all_goals (first | omega | (rw [Bool.eq_iff_iff]; simp only [Bool.and_eq_true, Bool.or_eq_true, decide_eq_true_eq, Bool.not_eq_true', decide_eq_false_iff_not, beq_iff_eq, bne_iff_ne, ne_eq] <;> omega))

theorem c_number (x : Int) : PCall tab 84 [.int .i64 x] (.bool (decide (0 ≤ x ∧ x ≤ 1048576))) := by
  refine PCall.of (F := m84) rfl rfl rfl rfl ?_
  simp -implicitDefEqProofs [m84]
  repeat' (first
    | (with_reducible refine guard_by (fun hb => ?_) (fun hb => ?_) <;> rw [hb] <;> (try simp at hb) <;> simp -implicitDefEqProofs [hb])
    | (with_reducible refine cond_by (fun hb => ?_) (fun hb => ?_) <;> rw [hb] <;> (try simp at hb) <;> simp -implicitDefEqProofs [hb]))
  all_goals (try simp only [argMay, opMay, updates] at *)
  all_goals (first | omega | (rw [Bool.eq_iff_iff]; simp only [Bool.and_eq_true, Bool.or_eq_true, decide_eq_true_eq, Bool.not_eq_true', decide_eq_false_iff_not, beq_iff_eq, bne_iff_ne, ne_eq] <;> omega))

end Go.Ab

namespace Go.Ab

/-- so it is of all: not taken apart -/
def allOf {α : Type} (p : α → Prop) (xs : List α) : Prop := ∀ x ∈ xs, p x
instance {α : Type} (p : α → Prop) [DecidablePred p] (xs : List α) : Decidable (allOf p xs) := inferInstanceAs (Decidable (∀ x ∈ xs, p x))

theorem any_not {α : Type} (p : α → Prop) [DecidablePred p] (xs : List α) : (xs.any fun x => decide (¬ p x)) = decide (¬ allOf p xs) := by
  rw [Bool.eq_iff_iff]; simp [allOf]
theorem all_is {α : Type} (p : α → Prop) [DecidablePred p] (xs : List α) : (xs.all fun x => decide (p x)) = decide (allOf p xs) := by
  by_cases h : allOf p xs
  · simp only [h, decide_true, List.all_eq_true, decide_eq_true_eq]; exact h
  · simp only [h, decide_false]
    cases hx : (xs.all fun x => decide (p x)) with
    | false => rfl
    | true => simp only [List.all_eq_true, decide_eq_true_eq] at hx; exact absurd hx h
theorem allOf_take {α : Type} {p : α → Prop} {xs : List α} {i : Nat} (hi : i < xs.length) : allOf p (xs.take (i + 1)) ↔ allOf p (xs.take i) ∧ p xs[i] := by
  unfold allOf; rw [List.take_succ_eq_append_getElem hi]
  constructor
  · exact fun h => ⟨fun x hx => h x (List.mem_append.2 (.inl hx)), h _ (List.mem_append.2 (.inr (List.mem_singleton.2 rfl)))⟩
  · rintro ⟨h1, h2⟩ x hx
    rcases List.mem_append.1 hx with hx | hx
    · exact h1 x hx
    · simp only [List.mem_singleton] at hx; subst hx; exact h2
theorem allOf_of {α : Type} {p : α → Prop} {xs : List α} {i : Nat} (hi : xs.length ≤ i) : allOf p (xs.take i) ↔ allOf p xs := by
  rw [List.take_of_length_le hi]
theorem not_allOf {α : Type} {p : α → Prop} {xs : List α} {i : Nat} (hi : i < xs.length) (h : ¬ p xs[i]) : ¬ allOf p xs := fun hh => h (hh _ (List.getElem_mem hi))

@[reducible] def ringOK (r : Ring) : Prop := ringNums r ∧ allOf slotOK r.slots

theorem c_ringMay (r : Ring) (z : Bool) (h : lenOK r.slots) : PCall tab 74 [.agg (encRing z r)] (.bool (decide (ringOK r))) := by
  have h' := h
  unfold lenOK at h'
  have hodd : ∀ z, PCall tab 102 [.vs (r.slots.map encSlot) z, .fn (.func 103) [] []] (.bool (decide (¬ allOf slotOK r.slots))) := fun z => by
    rw [← any_not]; exact c_ContainsSlot r.slots z h _ 103 [] [] (fun s _ => c_odd s) (fun s => by simp) (by simp) (by simp)
  refine PCall.of (F := m74) rfl rfl rfl rfl ?_
  simp -implicitDefEqProofs [m74]
  repeat' (first
    | (with_reducible refine guard_by (fun hb => ?_) (fun hb => ?_) <;> rw [hb] <;> (try simp at hb) <;> simp -implicitDefEqProofs [hb])
    | (with_reducible refine cond_by (fun hb => ?_) (fun hb => ?_) <;> rw [hb] <;> (try simp at hb) <;> simp -implicitDefEqProofs [hb])
    | (refine CallT.bool2 rfl (c_many _) (fun hb => ?_) (fun hb => ?_) <;> simp -implicitDefEqProofs [hb])
    | (refine CallT.bool2 rfl (c_ringThread _ _) (fun hb => ?_) (fun hb => ?_) <;> simp -implicitDefEqProofs [hb])
    | (refine CallT.bool2 (by simp) (hodd false) (fun hb => ?_) (fun hb => ?_) <;> simp -implicitDefEqProofs [hb]))
  all_goals simp only [slotsMay, threadIn] at *
  all_goals (try rw [wrap_of (by omega) (by omega)])
  all_goals (first
    | omega
    | (intros; omega)
    | (intros; contradiction)
    | (simp_all; done)
    | (simp_all; omega)
    | (rw [Bool.eq_iff_iff]; simp_all; omega))

theorem c_RingMay (r : Ring) (z : Bool) (h : lenOK r.slots) (hr : -9223372036854775808 ≤ r.head ∧ r.head < 9223372036854775808) : PCall tab 87 [.agg (encRing z r)] (.bool (decide (ringOK r))) := by
  unfold lenOK at h
  refine PCall.of (F := m87) rfl rfl rfl rfl ?_
  simp -implicitDefEqProofs [m87]
  repeat' (first
    | (with_reducible refine guard_by (fun hb => ?_) (fun hb => ?_) <;> rw [hb] <;> (try simp at hb) <;> simp -implicitDefEqProofs [hb])
    | (with_reducible refine cond_by (fun hb => ?_) (fun hb => ?_) <;> rw [hb] <;> (try simp at hb) <;> simp -implicitDefEqProofs [hb])
    | (refine CallT.bool2 rfl (c_SlotsMay _) (fun hb => ?_) (fun hb => ?_) <;> simp -implicitDefEqProofs [hb])
    | (refine CallT.bool2 rfl (c_cellMay _) (fun hb => ?_) (fun hb => ?_) <;> simp -implicitDefEqProofs [hb])
    | (refine CallT.bool2 rfl (c_upTo1 _ _ _) (fun hb => ?_) (fun hb => ?_) <;> simp -implicitDefEqProofs [hb]))
  all_goals simp only [slotsMay] at *
  all_goals (try rw [wrap_of (by omega) (by omega)] at *)
  all_goals (try (first | omega | (intros; omega)))
  refine loop_by (fun m E T => T = TH.none ∧ ∃ i : Nat, i + m = r.slots.length ∧ E.get 1 = .lp 0 0 ∧ E.get 3 = .a (.int .i64 r.slots.length) ∧ E.get 4 = .a (.int .i64 i) ∧ E.var 0 = some ((encRing z r).map .a) ∧ 1 ≤ E.ln ∧ allOf slotOK (r.slots.take i)) ?_ r.slots.length ⟨rfl, 0, by simp [allOf]⟩
  rintro m E T ⟨rfl, i, hi, h1, h3, h4, v0, hln, hall⟩
  by_cases hlt : i < r.slots.length
  · have g1 := List.getElem?_eq_getElem hlt
    have n0 : ¬ E.ln = 0 := by omega
    simp -implicitDefEqProofs [h1, h3, h4, v0, hlt, g1, n0]
    repeat' (first
      | (with_reducible refine guard_by (fun hb => ?_) (fun hb => ?_) <;> rw [hb] <;> (try simp at hb) <;> simp -implicitDefEqProofs [hb, h1, h3, h4, v0, n0])
      | (with_reducible refine cond_by (fun hb => ?_) (fun hb => ?_) <;> rw [hb] <;> (try simp at hb) <;> simp -implicitDefEqProofs [hb, h1, h3, h4, v0, n0])
      | (refine CallT.bool2 rfl (c_Updates1 r.slots[i].op) (fun hb => ?_) (fun hb => ?_) <;> simp -implicitDefEqProofs [hb, h1, h3, h4, v0, n0])
      | (refine CallT.bool2 rfl (c_threadMay1 _) (fun hb => ?_) (fun hb => ?_) <;> simp -implicitDefEqProofs [hb, h1, h3, h4, v0, n0])
      | (refine CallT.bool2 rfl (c_upTo1 _ _ _) (fun hb => ?_) (fun hb => ?_) <;> simp -implicitDefEqProofs [hb, h1, h3, h4, v0, n0]))
    all_goals first
      | (refine ⟨m - 1, by omega, i + 1, by omega, wrap_nat (by omega), (allOf_take hlt).2 ⟨hall, ?_⟩⟩
         simp only [slotOK, updates, opMay, threadIn] at *
         omega)
      | (intros
         refine not_allOf hlt ?_
         simp only [slotOK, updates, opMay, threadIn] at *
         omega)
  · have hall' := (allOf_of (by omega)).1 hall
    simp -implicitDefEqProofs [h1, h3, h4, v0, hlt]
    exact ⟨⟨by omega, by omega⟩, hall'⟩

end Go.Ab

namespace Go.Ab

@[reducible] def inR (x : Int) : Prop := -9223372036854775808 ≤ x ∧ x < 9223372036854775808
def slotIn (c : Config) (s : Slot) : Prop := threadIn s.thread c.threads
instance (c : Config) : DecidablePred (slotIn c) := fun s => inferInstanceAs (Decidable (threadIn s.thread c.threads))
@[reducible] def ringIn (c : Config) (r : Ring) : Prop := ringOK r ∧ (r.slots.length : Int) = c.slots ∧ r.fence ≤ c.threads ∧ allOf (slotIn c) r.slots

theorem c_lring1 (s : Slot) (c : Config) : PCall tab 72 [.agg (encSlot s), .vp [encConfig c] 0 0] (.bool (decide (slotIn c s))) := by
  refine PCall.of (F := m72) rfl rfl rfl rfl ?_
  simp -implicitDefEqProofs [m72]
  repeat' (first
    | (with_reducible refine guard_by (fun hb => ?_) (fun hb => ?_) <;> rw [hb] <;> (try simp at hb) <;> simp -implicitDefEqProofs [hb])
    | (with_reducible refine cond_by (fun hb => ?_) (fun hb => ?_) <;> rw [hb] <;> (try simp at hb) <;> simp -implicitDefEqProofs [hb])
    | (refine CallT.bool2 rfl (c_lthread c s.thread) (fun hb => ?_) (fun hb => ?_) <;> simp -implicitDefEqProofs [hb]))
  all_goals (try simp only [argMay, opMay, updates, threadIn, slotIn] at *)
  all_goals (first | omega | (rw [Bool.eq_iff_iff]; simp only [Bool.and_eq_true, Bool.or_eq_true, decide_eq_true_eq, Bool.not_eq_true', decide_eq_false_iff_not, beq_iff_eq, bne_iff_ne, ne_eq] <;> omega))

theorem c_lring (c : Config) (r : Ring) (z : Bool) (h : lenOK r.slots) : PCall tab 41 [.agg (encConfig c), .agg (encRing z r)] (.bool (decide (ringIn c r))) := by
  have h' := h
  unfold lenOK at h'
  have hall : ∀ z, PCall tab 75 [.vs (r.slots.map encSlot) z, .fn (.func 72) [] [.vp [encConfig c] 0 0]] (.bool (decide (allOf (slotIn c) r.slots))) := fun z => by
    rw [← all_is]; exact c_allSlot r.slots z h _ _ [] [.vp [encConfig c] 0 0] (fun s _ => c_lring1 s c) (fun s => by simp) (fun d => by simp) (by simp)
  refine PCall.of (F := m41) rfl rfl rfl rfl ?_
  simp -implicitDefEqProofs [m41]
  repeat' (first
    | (with_reducible refine guard_by (fun hb => ?_) (fun hb => ?_) <;> rw [hb] <;> (try simp at hb) <;> simp -implicitDefEqProofs [hb])
    | (with_reducible refine cond_by (fun hb => ?_) (fun hb => ?_) <;> rw [hb] <;> (try simp at hb) <;> simp -implicitDefEqProofs [hb])
    | (refine CallT.bool2 (by simp) (c_ringMay r false h) (fun hb => ?_) (fun hb => ?_) <;> simp -implicitDefEqProofs [hb])
    | (refine CallT.bool2 (by simp) (hall false) (fun hb => ?_) (fun hb => ?_) <;> simp -implicitDefEqProofs [hb]))
  all_goals simp only [ringOK, ringNums, slotsMay] at *
  all_goals (first | omega | (intros; omega) | (intros; contradiction) | (simp_all; done) | (simp_all; omega))

theorem c_ringMay13 (c : Config) (r : Ring) (z1 z2 : Bool) (h : lenOK r.slots) (hr : inR r.head) : PCall tab 49 [.agg (encConfig c), .agg (encRing z2 r)] (.bool (decide (ringIn c r))) := by
  have h' := h
  unfold lenOK at h'
  refine PCall.of (F := m49) rfl rfl rfl rfl ?_
  simp -implicitDefEqProofs [m49]
  repeat' (first
    | (with_reducible refine guard_by (fun hb => ?_) (fun hb => ?_) <;> rw [hb] <;> (try simp at hb) <;> simp -implicitDefEqProofs [hb])
    | (with_reducible refine cond_by (fun hb => ?_) (fun hb => ?_) <;> rw [hb] <;> (try simp at hb) <;> simp -implicitDefEqProofs [hb])
    | (refine CallT.bool2 (by simp) (c_RingMay r false h hr) (fun hb => ?_) (fun hb => ?_) <;> simp -implicitDefEqProofs [hb]))
  all_goals (try (first | omega | (intros; omega) | (intros; contradiction)))
  have hok : ringOK r := by assumption
  refine loop_by (fun m E T => T = TH.none ∧ ∃ i : Nat, i + m = r.slots.length ∧ E.get 2 = .lp 0 0 ∧ E.get 3 = .lp 1 0 ∧ E.get 5 = .a (.int .i64 i) ∧ E.var 0 = some ((encConfig c).map .a) ∧ E.var 1 = some ((encRing z2 r).map .a) ∧ allOf (slotIn c) (r.slots.take i)) ?_ r.slots.length ⟨rfl, 0, by simp [allOf]⟩
  rintro m E T ⟨rfl, i, hi, h1, h3, h4, v0, v1, hall⟩
  by_cases hlt : i < r.slots.length
  · have g1 := List.getElem?_eq_getElem hlt
    have hs := hok.2 _ (List.getElem_mem hlt)
    simp -implicitDefEqProofs [h1, h3, h4, v0, v1, hlt, g1]
    repeat' (first
      | (with_reducible refine guard_by (fun hb => ?_) (fun hb => ?_) <;> rw [hb] <;> (try simp at hb) <;> simp -implicitDefEqProofs [hb, h1, h3, h4, v0, v1])
      | (with_reducible refine cond_by (fun hb => ?_) (fun hb => ?_) <;> rw [hb] <;> (try simp at hb) <;> simp -implicitDefEqProofs [hb, h1, h3, h4, v0, v1]))
    all_goals first
      | exact ⟨m - 1, by omega, i + 1, by omega, wrap_nat (by omega), (allOf_take hlt).2 ⟨hall, hs.2.1.1, by omega⟩⟩
      | (intros
         refine not_allOf hlt (fun hh => ?_)
         have := hh.2
         omega)
  · have hall' := (allOf_of (by omega)).1 hall
    have hn := hok.1
    simp only [ringNums, slotsMay] at hn
    simp -implicitDefEqProofs [h1, h3, h4, v0, v1, hlt]
    first
      | omega
      | (refine ⟨?_, ?_⟩ <;> first | omega | assumption)
      | (refine ⟨?_, ?_, ?_⟩ <;> first | omega | assumption)
      | (refine ⟨?_, ?_, ?_, ?_⟩ <;> first | omega | assumption)
      | trace_state

end Go.Ab

namespace Go.Ab

@[reducible] def rowArgs (n : Int) (xs : List Int) : Prop := (xs.length : Int) ≤ n ∧ allOf argMay xs
@[reducible] def storeMay (s : State) : Prop := rowArgs 1 s.r0 ∧ rowArgs 1 s.r1 ∧ rowArgs 1 s.r2 ∧ rowArgs 1 s.r3
@[reducible] def queueMay (s : State) : Prop := rowArgs 4 s.r0 ∧ rowArgs 4 s.r1 ∧ rowArgs 4 s.r2 ∧ rowArgs 4 s.r3

theorem c_notArg (x : Int) : PCall tab 128 [.int .i64 x] (.bool (decide (¬ argMay x))) := by
  refine PCall.of (F := m128) rfl rfl rfl rfl ?_
  simp -implicitDefEqProofs [m128]
  repeat' (first
    | (with_reducible refine guard_by (fun hb => ?_) (fun hb => ?_) <;> rw [hb] <;> (try simp at hb) <;> simp -implicitDefEqProofs [hb])
    | (with_reducible refine cond_by (fun hb => ?_) (fun hb => ?_) <;> rw [hb] <;> (try simp at hb) <;> simp -implicitDefEqProofs [hb])
    | (refine CallT.bool2 rfl (c_operArg _) (fun hb => ?_) (fun hb => ?_) <;> simp -implicitDefEqProofs [hb]))
  all_goals (try simp only [argMay, opMay, updates] at *)
  all_goals (first | omega | (rw [Bool.eq_iff_iff]; simp only [Bool.and_eq_true, Bool.or_eq_true, decide_eq_true_eq, Bool.not_eq_true', decide_eq_false_iff_not, beq_iff_eq, bne_iff_ne, ne_eq] <;> omega))

theorem c_args (xs : List Int) (n : Int) (z : Bool) (h : lenOK xs) : PCall tab 126 [.vs (xs.map encInt) z, .int .i64 n] (.bool (decide (rowArgs n xs))) := by
  have hodd : ∀ z, PCall tab 109 [.vs (xs.map encInt) z, .fn (.func 128) [] []] (.bool (decide (¬ allOf argMay xs))) := fun z => by
    rw [← any_not]; exact c_Containsint xs z h _ 128 [] [] (fun s _ => c_notArg s) (fun s => by simp) (by simp) (by simp)
  refine PCall.of (F := m126) rfl rfl rfl rfl ?_
  simp -implicitDefEqProofs [m126]
  repeat' (first
    | (with_reducible refine guard_by (fun hb => ?_) (fun hb => ?_) <;> rw [hb] <;> (try simp at hb) <;> simp -implicitDefEqProofs [hb])
    | (with_reducible refine cond_by (fun hb => ?_) (fun hb => ?_) <;> rw [hb] <;> (try simp at hb) <;> simp -implicitDefEqProofs [hb])
    | (refine CallT.bool2 (by simp) (hodd false) (fun hb => ?_) (fun hb => ?_) <;> simp -implicitDefEqProofs [hb]))
  all_goals (first | omega | (intros; omega) | (intros; contradiction) | (simp_all; done))

theorem c_storeMay (s : State) (z : Bool) (h : okS s) : PCall tab 106 [.agg (encState z s)] (.bool (decide (storeMay s))) := by
  obtain ⟨h0, h1, h2, h3⟩ := h
  refine PCall.of (F := m106) rfl rfl rfl rfl ?_
  simp -implicitDefEqProofs [m106]
  repeat' (first
    | (with_reducible refine guard_by (fun hb => ?_) (fun hb => ?_) <;> rw [hb] <;> (try simp at hb) <;> simp -implicitDefEqProofs [hb])
    | (with_reducible refine cond_by (fun hb => ?_) (fun hb => ?_) <;> rw [hb] <;> (try simp at hb) <;> simp -implicitDefEqProofs [hb])
    | (refine CallT.bool2 rfl (c_args s.r0 1 false h0) (fun hb => ?_) (fun hb => ?_) <;> simp -implicitDefEqProofs [hb])
    | (refine CallT.bool2 rfl (c_args s.r1 1 false h1) (fun hb => ?_) (fun hb => ?_) <;> simp -implicitDefEqProofs [hb])
    | (refine CallT.bool2 rfl (c_args s.r2 1 false h2) (fun hb => ?_) (fun hb => ?_) <;> simp -implicitDefEqProofs [hb])
    | (refine CallT.bool2 rfl (c_args s.r3 1 false h3) (fun hb => ?_) (fun hb => ?_) <;> simp -implicitDefEqProofs [hb])
    | (with_reducible refine WCT.unroll ?_; simp -implicitDefEqProofs))
  all_goals (first | omega | (simp_all; done))

theorem c_queueMay (s : State) (z : Bool) (h : okS s) : PCall tab 108 [.agg (encState z s)] (.bool (decide (queueMay s))) := by
  obtain ⟨h0, h1, h2, h3⟩ := h
  refine PCall.of (F := m108) rfl rfl rfl rfl ?_
  simp -implicitDefEqProofs [m108]
  repeat' (first
    | (with_reducible refine guard_by (fun hb => ?_) (fun hb => ?_) <;> rw [hb] <;> (try simp at hb) <;> simp -implicitDefEqProofs [hb])
    | (with_reducible refine cond_by (fun hb => ?_) (fun hb => ?_) <;> rw [hb] <;> (try simp at hb) <;> simp -implicitDefEqProofs [hb])
    | (refine CallT.bool2 rfl (c_args s.r0 4 false h0) (fun hb => ?_) (fun hb => ?_) <;> simp -implicitDefEqProofs [hb])
    | (refine CallT.bool2 rfl (c_args s.r1 4 false h1) (fun hb => ?_) (fun hb => ?_) <;> simp -implicitDefEqProofs [hb])
    | (refine CallT.bool2 rfl (c_args s.r2 4 false h2) (fun hb => ?_) (fun hb => ?_) <;> simp -implicitDefEqProofs [hb])
    | (refine CallT.bool2 rfl (c_args s.r3 4 false h3) (fun hb => ?_) (fun hb => ?_) <;> simp -implicitDefEqProofs [hb])
    | (with_reducible refine WCT.unroll ?_; simp -implicitDefEqProofs))
  all_goals (first | omega | (simp_all; done))

end Go.Ab

namespace Go.Ab

theorem c_lCopyRing (r : Ring) (z : Bool) (h : lenOK r.slots) : PCall tab 28 [.agg (encRing z r)] (.agg (encRing true r)) := by
  unfold lenOK at h
  refine PCall.of (F := m28) rfl rfl rfl ?_ ?_
  · simp [okT, okP, okC, List.all_map, flatV]
  have hr : r.slots.length * 40 ≤ 140737488355328 := by omega
  simp -implicitDefEqProofs [m28, hr]

end Go.Ab

namespace Go.Ab

@[reducible] def slot0 : Slot := ⟨⟨0, 0, 0⟩, 0, 0⟩
@[reducible] def ring0 (k : Int) : Ring := ⟨0, 0, 0, List.replicate k.toNat slot0⟩
@[reducible] def replica0 (k : Int) : Replica := ⟨⟨[], [], [], []⟩, List.replicate k.toNat 0, List.replicate k.toNat 0⟩
@[reducible] def thread0 : Thread := ⟨0, ⟨0, 0, 0⟩, 0, 0, [], 0, false, false, 0, []⟩

theorem ok_ring (r : Ring) : okT (.agg (encRing true r)) = true := by simp [okT, okP, okC, List.all_map, flatV]
theorem ok_replica (r : Replica) : okT (.agg (encReplica true r)) = true := by simp [okT, okP, okC, List.all_map, flatV]
theorem ok_thread (r : Thread) : okT (.agg (encThread true r)) = true := by simp [okT, okP, okC, List.all_map, flatV]

theorem c_ringNew (k : Int) (hk : slotsMay k) : PCall tab 32 [.int .i64 k] (.tup [.agg (encRing true (ring0 k)), .int .i64 0]) := by
  refine PCall.of (F := m32) rfl rfl rfl ?_ ?_
  · simp [okT, okP, okC, List.all_map, flatV]
  simp -implicitDefEqProofs [m32]
  refine CallT.bool2 rfl (c_many _) (fun hb => ?_) (fun hb => absurd hk hb)
  have h1 : 0 ≤ k := by simp only [slotsMay] at hk; omega
  have h2 : k * 40 ≤ 140737488355328 := by simp only [slotsMay] at hk; omega
  have h3 : k ≤ 140737488355328 := by omega
  simp -implicitDefEqProofs [h1, h2, h3]

theorem c_New1 (c : Config) (hk : slotsMay c.slots) : PCall tab 31 [.vp [encConfig c] 0 0] (.agg (encRing true (ring0 c.slots))) := by
  refine PCall.of (F := m31) rfl rfl rfl ?_ ?_
  · simp [okT, okP, okC, List.all_map, flatV]
  simp -implicitDefEqProofs [m31]
  refine CallT.pure (c_ringNew _ hk) rfl ?_ ?_
  · simp [okT, okP, okC, List.all_map, flatV]
  simp -implicitDefEqProofs

theorem c_New2 (c : Config) (hk : logsMay c.logs) : PCall tab 33 [.vp [encConfig c] 0 0] (.agg (encReplica true (replica0 c.logs))) := by
  have h1 : 0 ≤ c.logs := by simp only [logsMay] at hk; omega
  have h2 : c.logs * 8 ≤ 140737488355328 := by simp only [logsMay] at hk; omega
  have h3 : c.logs ≤ 140737488355328 := by omega
  refine PCall.of (F := m33) rfl rfl rfl ?_ ?_
  · simp [okT, okP, okC, List.all_map, flatV]
  simp -implicitDefEqProofs [m33, h1, h2, h3]

theorem c_New3 : PCall tab 34 [] (.agg (encThread true thread0)) := by
  refine PCall.of (F := m34) rfl rfl rfl ?_ ?_
  · simp [okT, okP, okC, List.all_map, flatV]
  simp -implicitDefEqProofs [m34]

theorem c_eachRing (n : Int) (hn : n = 1 ∨ n = 2) (x : Ring) (k : FuncId) (first cap : List AV) (hc : PCall tab k (first ++ [] ++ cap) (.agg (encRing true x))) (hfz : ∀ T, mapO (fzT T) (first.map .a ++ [] ++ cap.map .a) = some (first ++ [] ++ cap)) :
    PCall tab 35 [.int .i64 n, .fn (.func k) first cap] (.vs ((List.replicate n.toNat x).map (encRing true)) true) := by
  simp only [List.append_nil] at hc hfz
  refine PCall.of (F := m35) rfl rfl rfl ?_ ?_
  · simp [okT, okP, okC, List.all_map, flatV]
  rcases hn with rfl | rfl
  all_goals
    simp -implicitDefEqProofs [m35]
    repeat' (first
      | (with_reducible refine WCT.unroll ?_; simp -implicitDefEqProofs)
      | (refine CallT.pure hc (hfz _) (ok_ring x) ?_; simp -implicitDefEqProofs [mapO]))

theorem c_eachReplica (n : Int) (hn : n = 1 ∨ n = 2) (x : Replica) (k : FuncId) (first cap : List AV) (hc : PCall tab k (first ++ [] ++ cap) (.agg (encReplica true x))) (hfz : ∀ T, mapO (fzT T) (first.map .a ++ [] ++ cap.map .a) = some (first ++ [] ++ cap)) :
    PCall tab 36 [.int .i64 n, .fn (.func k) first cap] (.vs ((List.replicate n.toNat x).map (encReplica true)) true) := by
  simp only [List.append_nil] at hc hfz
  refine PCall.of (F := m36) rfl rfl rfl ?_ ?_
  · simp [okT, okP, okC, List.all_map, flatV]
  rcases hn with rfl | rfl
  all_goals
    simp -implicitDefEqProofs [m36]
    repeat' (first
      | (with_reducible refine WCT.unroll ?_; simp -implicitDefEqProofs)
      | (refine CallT.pure hc (hfz _) (ok_replica x) ?_; simp -implicitDefEqProofs [mapO]))

theorem c_eachThread (n : Int) (hn : n = 1 ∨ n = 2 ∨ n = 3 ∨ n = 4) (x : Thread) (k : FuncId) (first cap : List AV) (hc : PCall tab k (first ++ [] ++ cap) (.agg (encThread true x))) (hfz : ∀ T, mapO (fzT T) (first.map .a ++ [] ++ cap.map .a) = some (first ++ [] ++ cap)) :
    PCall tab 37 [.int .i64 n, .fn (.func k) first cap] (.vs ((List.replicate n.toNat x).map (encThread true)) true) := by
  simp only [List.append_nil] at hc hfz
  refine PCall.of (F := m37) rfl rfl rfl ?_ ?_
  · simp [okT, okP, okC, List.all_map, flatV]
  rcases hn with rfl | rfl | rfl | rfl
  all_goals
    simp -implicitDefEqProofs [m37]
    repeat' (first
      | (with_reducible refine WCT.unroll ?_; simp -implicitDefEqProofs)
      | (refine CallT.pure hc (hfz _) (ok_thread x) ?_; simp -implicitDefEqProofs [mapO]))

end Go.Ab

namespace Go.Ab

@[reducible] def machine0 (c : Config) : Machine := ⟨c, List.replicate c.logs.toNat (ring0 c.slots), List.replicate c.replicas.toNat (replica0 c.logs), List.replicate c.threads.toNat thread0, []⟩
@[reducible] def noMachine : Machine := ⟨⟨0, 0, 0, 0, 0⟩, [], [], [], []⟩

theorem ok_rings (l : List Ring) : okC 8 (.vs (l.map (encRing true)) true) = true := by simp [okC, List.all_map, flatV]
theorem ok_replicas (l : List Replica) : okC 8 (.vs (l.map (encReplica true)) true) = true := by simp [okC, List.all_map, flatV]
theorem ok_threads (l : List Thread) : okC 8 (.vs (l.map (encThread true)) true) = true := by simp [okC, List.all_map, flatV]
theorem ok_events (l : List Event) : okC 8 (.vs (l.map encEvent) true) = true := by simp [okC, List.all_map, flatV]
theorem ok_machine (m : Machine) (k : IntKind) (n : Int) : okT (.tup [.agg (encMachine true m), .int k n]) = true := by simp [okT, okP, ok_rings, ok_replicas, ok_threads, ok_events]; simp [okC, flatV]

theorem c_startNew (c : Config) (hc : cfgMay c) : PCall tab 9 [.agg (encConfig c)] (.tup [.agg (encMachine true (machine0 c)), .int .i64 0]) := by
  obtain ⟨h1, h2, h3, h4, h5, h6⟩ := hc
  refine PCall.of (F := m9) rfl rfl rfl (ok_machine _ _ _) ?_
  simp -implicitDefEqProofs [m9]
  refine CallT.bool2 rfl (c_cfgMay c) (fun hb => ?_) (fun hb => absurd ⟨h1, h2, h3, h4, h5, h6⟩ hb)
  simp -implicitDefEqProofs
  refine CallT.pure (c_eachRing c.logs (by simp only [logsMay] at h3; omega) (ring0 c.slots) _ [] [.vp [encConfig c] 0 0] (c_New1 c h5) (fun T => by simp)) (by simp) (ok_rings _) ?_
  simp -implicitDefEqProofs
  refine CallT.pure (c_eachReplica c.replicas (by omega) (replica0 c.logs) _ [] [.vp [encConfig c] 0 0] (c_New2 c h3) (fun T => by simp)) (by simp) (ok_replicas _) ?_
  simp -implicitDefEqProofs
  refine CallT.pure (c_eachThread c.threads (by omega) thread0 _ [] [] c_New3 (fun T => by simp)) (by simp) (ok_threads _) ?_
  simp -implicitDefEqProofs

theorem c_startNo (c : Config) (hc : ¬ cfgMay c) : PCall tab 9 [.agg (encConfig c)] (.tup [.agg (encMachine true noMachine), .int .i64 1400]) := by
  refine PCall.of (F := m9) rfl rfl rfl (ok_machine _ _ _) ?_
  simp -implicitDefEqProofs [m9]
  refine CallT.bool2 rfl (c_cfgMay c) (fun hb => absurd hb hc) (fun hb => ?_)
  simp -implicitDefEqProofs

theorem c_Num (e : Int) : PCall tab 12 [.int .i64 e] (.int .i64 e) := by
  refine PCall.of (F := m12) rfl rfl rfl rfl ?_
  simp -implicitDefEqProofs [m12]
  trace_state

end Go.Ab

namespace Go.Ab

def setNode : List (List AV) → Path → List (List AV) → List (List AV)
  | _, [], X => X
  | rows, (i, j) :: p, X => match cellOf rows i j with
    | some (.vs rows' z) => setCell rows i j (.vs (setNode rows' p X) z)
    | _ => rows

theorem nodeA_setNode : ∀ (p : Path) {rows rp X : List (List AV)}, nodeA rows p = some rp → nodeA (setNode rows p X) p = some X
  | [], rows, rp, X, h => rfl
  | (i, j) :: p, rows, rp, X, h => by
    unfold nodeA at h
    split at h
    · rename_i rows' z hc
      unfold setNode nodeA
      rw [hc]
      simp only []
      rw [cellOf_setCell hc, if_pos ⟨rfl, rfl⟩]
      exact nodeA_setNode p h
    · cases h

theorem setCell_setCell {rows : List (List AV)} {i j : Nat} {t t1 t2 : AV} (h : cellOf rows i j = some t) : setCell (setCell rows i j t1) i j t2 = setCell rows i j t2 := by
  obtain ⟨row, h1, h2⟩ := cellOf_some h
  have hi := (List.getElem?_eq_some_iff.1 h1).1
  rw [setCell_of h1, setCell_of h1]
  have : (rows.set i (row.set j t1))[i]? = some (row.set j t1) := by simp [hi]
  rw [setCell_of this, List.set_set, List.set_set]

theorem setA_setNode : ∀ (p : Path) {rows rp X : List (List AV)} {i j : Nat} {t : AV}, nodeA rows p = some rp → setA (setNode rows p X) p i j t = setNode rows p (setCell X i j t)
  | [], rows, rp, X, i, j, t, h => rfl
  | (i0, j0) :: p, rows, rp, X, i, j, t, h => by
    unfold nodeA at h
    split at h
    · rename_i rows' z hc
      have e1 : setNode rows ((i0, j0) :: p) X = setCell rows i0 j0 (.vs (setNode rows' p X) z) := by
        show (match cellOf rows i0 j0 with | some (.vs rows' z) => setCell rows i0 j0 (.vs (setNode rows' p X) z) | _ => rows) = _
        rw [hc]
      have e2 : setNode rows ((i0, j0) :: p) (setCell X i j t) = setCell rows i0 j0 (.vs (setNode rows' p (setCell X i j t)) z) := by
        show (match cellOf rows i0 j0 with | some (.vs rows' z) => setCell rows i0 j0 (.vs (setNode rows' p (setCell X i j t)) z) | _ => rows) = _
        rw [hc]
      rw [e1, e2]
      unfold setA
      rw [cellOf_setCell hc, if_pos ⟨rfl, rfl⟩]
      simp only []
      rw [setA_setNode p h, setCell_setCell hc]
    · cases h

theorem setCell_self {rows : List (List AV)} {i j : Nat} {t : AV} (h : cellOf rows i j = some t) : setCell rows i j t = rows := by
  obtain ⟨row, h1, h2⟩ := cellOf_some h
  rw [setCell_of h1]
  obtain ⟨hj, e2⟩ := List.getElem?_eq_some_iff.1 h2
  obtain ⟨hi, e1⟩ := List.getElem?_eq_some_iff.1 h1
  have : row.set j t = row := by rw [← e2]; exact List.set_getElem_self hj
  rw [this, ← e1]; exact List.set_getElem_self hi

theorem setNode_self : ∀ (p : Path) {rows X : List (List AV)}, nodeA rows p = some X → setNode rows p X = rows
  | [], rows, X, h => by simp only [nodeA, Option.some.injEq] at h; exact h.symm
  | (i, j) :: p, rows, X, h => by
    unfold nodeA at h
    split at h
    · rename_i rows' z hc
      unfold setNode
      rw [hc]
      simp only []
      rw [setNode_self p h, setCell_self hc]
    · cases h

/-- only this part of that root is another one -/
def Turned (T : TH) (r : Nat) (rows : List (List AV)) (z : Bool) (log : List Path) (T' : TH) : Prop := T'.next = T.next ∧ ∀ k, T'.get k = if k = r then .tree rows z log else T.get k

theorem turned_put {T T1 : TH} {r : Nat} {rows rows' : List (List AV)} {z : Bool} {log : List Path} (h : Turned T r rows z log T1) : Turned T r rows' z log (T1.put r (.tree rows' z log)) := by
  refine ⟨h.1, fun k => ?_⟩
  rw [TH.get_put]
  by_cases e : r = k
  · subst e; rw [if_pos rfl, if_pos rfl]
  · rw [if_neg e, if_neg (fun h => e h.symm), h.2 k, if_neg (fun h => e h.symm)]

theorem set_encInt (ys : List Int) (i : Nat) (v : Int) (hi : i < ys.length) : setCell (ys.map encInt) i 0 (.int .i64 v) = (ys.set i v).map encInt := by
  have h : (ys.map encInt)[i]? = some (encInt ys[i]) := by simp [hi]
  rw [setCell_of h, List.map_set]
  rfl

theorem c_SpoilInts (T : TH) (r : Nat) (p : Path) (g : Nat) (rows rp : List (List AV)) (z : Bool) (log : List Path) (xs : List Int) (hx : lenOK xs) (hT : T.get r = .tree rows z log) (hn : nodeA rows p = some (xs.map encInt)) (hv : (T.get r).valid p g = true) (K : TV → TH → Prop)
    (hK : ∀ T' (ys : List Int), ys.length = xs.length → Turned T r (setNode rows p (ys.map encInt)) z log T' → K (.a (.tup [])) T') : CallT tab false 57 [.sl r p g 0 xs.length true] T K := by
  unfold lenOK at hx
  refine CallT.body (F := m57) rfl rfl rfl rfl ?_
  simp -implicitDefEqProofs [m57]
  have hv' : ((log.take (log.length - g)).all fun q => !q.isPrefixOf p) = true := by rw [hT] at hv; exact hv
  refine loop_by (fun m E T1 => ∃ (i : Nat) (ys : List Int), i + m = xs.length ∧ ys.length = xs.length ∧ E.get 0 = .sl r p g 0 xs.length true ∧ E.get 2 = .a (.int .i64 i) ∧ Turned T r (setNode rows p (ys.map encInt)) z log T1) ?_ xs.length ⟨0, xs, by simp, rfl, by simp, by simp, rfl, fun k => by
    split
    · rename_i e; subst e; rw [hT, setNode_self p hn]
    · rfl⟩
  rintro m E T1 ⟨i, ys, hi, hl, h0, h2, hT1⟩
  have hTr : T1.get r = .tree (setNode rows p (ys.map encInt)) z log := by rw [hT1.2 r, if_pos rfl]
  have hnode := nodeA_setNode p (X := ys.map encInt) hn
  by_cases hlt : i < xs.length
  · have hlt2 : i < ys.length := by omega
    have hpos : 0 < ys.length := by omega
    have e1 := List.getElem?_eq_getElem hlt2
    have e0 := List.getElem?_eq_getElem hpos
    simp -implicitDefEqProofs [h0, h2, hlt, hTr, hv', hnode, e1, e0]
    rw [setA_setNode p hn, set_encInt ys i _ hlt2]
    have hlen : ∀ (v : Int), (ys.set i v).length = xs.length := fun v => by rw [List.length_set]; exact hl
    exact ⟨m - 1, by omega, i + 1, by omega, _, hlen _, wrap_nat (by omega), turned_put hT1⟩
  · simp -implicitDefEqProofs [h0, h2, hlt]
    exact hK T1 ys hl hT1

theorem set_encSlot (ys : List Slot) (i : Nat) (v : Int) (hi : i < ys.length) : setCell (ys.map encSlot) i 3 (.int .i64 v) = (ys.set i { ys[i] with thread := v }).map encSlot := by
  have h : (ys.map encSlot)[i]? = some (encSlot ys[i]) := by simp [hi]
  rw [setCell_of h, List.map_set]
  rfl

theorem c_SpoilSlots (T : TH) (r : Nat) (p : Path) (g : Nat) (rows rp : List (List AV)) (z : Bool) (log : List Path) (xs : List Slot) (hx : lenOK xs) (hT : T.get r = .tree rows z log) (hn : nodeA rows p = some (xs.map encSlot)) (hv : (T.get r).valid p g = true) (K : TV → TH → Prop)
    (hK : ∀ T' (ys : List Slot), ys.length = xs.length → Turned T r (setNode rows p (ys.map encSlot)) z log T' → K (.a (.tup [])) T') : CallT tab false 90 [.sl r p g 0 xs.length true] T K := by
  unfold lenOK at hx
  refine CallT.body (F := m90) rfl rfl rfl rfl ?_
  simp -implicitDefEqProofs [m90]
  have hv' : ((log.take (log.length - g)).all fun q => !q.isPrefixOf p) = true := by rw [hT] at hv; exact hv
  refine loop_by (fun m E T1 => ∃ (i : Nat) (ys : List Slot), i + m = xs.length ∧ ys.length = xs.length ∧ E.get 0 = .sl r p g 0 xs.length true ∧ E.get 2 = .a (.int .i64 i) ∧ Turned T r (setNode rows p (ys.map encSlot)) z log T1) ?_ xs.length ⟨0, xs, by simp, rfl, by simp, by simp, rfl, fun k => by
    split
    · rename_i e; subst e; rw [hT, setNode_self p hn]
    · rfl⟩
  rintro m E T1 ⟨i, ys, hi, hl, h0, h2, hT1⟩
  have hTr : T1.get r = .tree (setNode rows p (ys.map encSlot)) z log := by rw [hT1.2 r, if_pos rfl]
  have hnode := nodeA_setNode p (X := ys.map encSlot) hn
  by_cases hlt : i < xs.length
  · have hlt2 : i < ys.length := by omega
    have hpos : 0 < ys.length := by omega
    have e1 := List.getElem?_eq_getElem hlt2
    have e0 := List.getElem?_eq_getElem hpos
    simp -implicitDefEqProofs [h0, h2, hlt, hTr, hv', hnode, e1, e0]
    rw [setA_setNode p hn, set_encSlot ys i _ hlt2]
    have hlen : ∀ (v : Slot), (ys.set i v).length = xs.length := fun v => by rw [List.length_set]; exact hl
    exact ⟨m - 1, by omega, i + 1, by omega, _, hlen _, wrap_nat (by omega), turned_put hT1⟩
  · simp -implicitDefEqProofs [h0, h2, hlt]
    exact hK T1 ys hl hT1

theorem set_encEvent (ys : List Event) (i : Nat) (v : Int) (hi : i < ys.length) : setCell (ys.map encEvent) i 0 (.int .i64 v) = (ys.set i { ys[i] with thread := v }).map encEvent := by
  have h : (ys.map encEvent)[i]? = some (encEvent ys[i]) := by simp [hi]
  rw [setCell_of h, List.map_set]
  rfl

theorem c_SpoilEvents (T : TH) (r : Nat) (p : Path) (g : Nat) (rows rp : List (List AV)) (z : Bool) (log : List Path) (xs : List Event) (hx : lenOK xs) (hT : T.get r = .tree rows z log) (hn : nodeA rows p = some (xs.map encEvent)) (hv : (T.get r).valid p g = true) (K : TV → TH → Prop)
    (hK : ∀ T' (ys : List Event), ys.length = xs.length → Turned T r (setNode rows p (ys.map encEvent)) z log T' → K (.a (.tup [])) T') : CallT tab false 54 [.sl r p g 0 xs.length true] T K := by
  unfold lenOK at hx
  refine CallT.body (F := m54) rfl rfl rfl rfl ?_
  simp -implicitDefEqProofs [m54]
  have hv' : ((log.take (log.length - g)).all fun q => !q.isPrefixOf p) = true := by rw [hT] at hv; exact hv
  refine loop_by (fun m E T1 => ∃ (i : Nat) (ys : List Event), i + m = xs.length ∧ ys.length = xs.length ∧ E.get 0 = .sl r p g 0 xs.length true ∧ E.get 2 = .a (.int .i64 i) ∧ Turned T r (setNode rows p (ys.map encEvent)) z log T1) ?_ xs.length ⟨0, xs, by simp, rfl, by simp, by simp, rfl, fun k => by
    split
    · rename_i e; subst e; rw [hT, setNode_self p hn]
    · rfl⟩
  rintro m E T1 ⟨i, ys, hi, hl, h0, h2, hT1⟩
  have hTr : T1.get r = .tree (setNode rows p (ys.map encEvent)) z log := by rw [hT1.2 r, if_pos rfl]
  have hnode := nodeA_setNode p (X := ys.map encEvent) hn
  by_cases hlt : i < xs.length
  · have hlt2 : i < ys.length := by omega
    have hpos : 0 < ys.length := by omega
    have e1 := List.getElem?_eq_getElem hlt2
    have e0 := List.getElem?_eq_getElem hpos
    simp -implicitDefEqProofs [h0, h2, hlt, hTr, hv', hnode, e1, e0]
    rw [setA_setNode p hn, set_encEvent ys i _ hlt2]
    have hlen : ∀ (v : Event), (ys.set i v).length = xs.length := fun v => by rw [List.length_set]; exact hl
    exact ⟨m - 1, by omega, i + 1, by omega, _, hlen _, wrap_nat (by omega), turned_put hT1⟩
  · simp -implicitDefEqProofs [h0, h2, hlt]
    exact hK T1 ys hl hT1

end Go.Ab

namespace Go.Ab

theorem c_SpoilRing (T : TH) (a b c : Int) (r : Nat) (p : Path) (g : Nat) (rows : List (List AV)) (z : Bool) (log : List Path) (xs : List Slot) (hx : lenOK xs) (hT : T.get r = .tree rows z log) (hn : nodeA rows p = some (xs.map encSlot)) (hv : (T.get r).valid p g = true) (K : TV → TH → Prop)
    (hK : ∀ T' (ys : List Slot), ys.length = xs.length → Turned T r (setNode rows p (ys.map encSlot)) z log T' → K (.a (.tup [])) T') : CallT tab false 55 [.ag [.a (.int .i64 a), .a (.int .i64 b), .a (.int .i64 c), .sl r p g 0 xs.length true]] T K := by
  refine CallT.body (F := m55) rfl rfl rfl rfl ?_
  simp -implicitDefEqProofs [m55]
  refine c_SpoilSlots T r p g rows [] z log xs hx hT hn hv _ (fun T' ys h1 h2 => ?_)
  simp -implicitDefEqProofs
  exact hK T' ys h1 h2

theorem setNode_one {rows rows' X : List (List AV)} {i j : Nat} {z : Bool} (hc : cellOf rows i j = some (.vs rows' z)) : setNode rows [(i, j)] X = setCell rows i j (.vs X z) := by
  unfold setNode
  rw [hc]
  simp only []
  unfold setNode
  rfl

theorem ring_slots (rs : List Ring) (z : Bool) (i : Nat) (hi : i < rs.length) (X : List Slot) : setNode (rs.map (encRing z)) [(i, 3)] (X.map encSlot) = (rs.set i { rs[i] with slots := X }).map (encRing z) := by
  have h : (rs.map (encRing z))[i]? = some (encRing z rs[i]) := by simp [hi]
  have hc : cellOf (rs.map (encRing z)) i 3 = some (.vs (rs[i].slots.map encSlot) z) := by unfold cellOf; rw [h]; rfl
  rw [setNode_one hc]
  rw [setCell_of h, List.map_set]; rfl
theorem ring_tail (rs : List Ring) (z : Bool) (i : Nat) (hi : i < rs.length) (v : Int) : setCell (rs.map (encRing z)) i 1 (.int .i64 v) = (rs.set i { rs[i] with tail := v }).map (encRing z) := by
  have h : (rs.map (encRing z))[i]? = some (encRing z rs[i]) := by simp [hi]
  rw [setCell_of h, List.map_set]; rfl
theorem thread_step (ts : List Thread) (z : Bool) (i : Nat) (hi : i < ts.length) (v : Int) : setCell (ts.map (encThread z)) i 0 (.int .i64 v) = (ts.set i { ts[i] with step := v }).map (encThread z) := by
  have h : (ts.map (encThread z))[i]? = some (encThread z ts[i]) := by simp [hi]
  rw [setCell_of h, List.map_set]; rfl
theorem thread_batch (ts : List Thread) (z : Bool) (i : Nat) (hi : i < ts.length) (X : List Int) : setNode (ts.map (encThread z)) [(i, 6)] (X.map encInt) = (ts.set i { ts[i] with batch := X }).map (encThread z) := by
  have h : (ts.map (encThread z))[i]? = some (encThread z ts[i]) := by simp [hi]
  have hc : cellOf (ts.map (encThread z)) i 6 = some (.vs (ts[i].batch.map encInt) z) := by unfold cellOf; rw [h]; rfl
  rw [setNode_one hc]
  rw [setCell_of h, List.map_set]; rfl
theorem thread_tails (ts : List Thread) (z : Bool) (i : Nat) (hi : i < ts.length) (X : List Int) : setNode (ts.map (encThread z)) [(i, 11)] (X.map encInt) = (ts.set i { ts[i] with tails := X }).map (encThread z) := by
  have h : (ts.map (encThread z))[i]? = some (encThread z ts[i]) := by simp [hi]
  have hc : cellOf (ts.map (encThread z)) i 11 = some (.vs (ts[i].tails.map encInt) z) := by unfold cellOf; rw [h]; rfl
  rw [setNode_one hc]
  rw [setCell_of h, List.map_set]; rfl

end Go.Ab

namespace Go.Ab

theorem rep_col0 (rs : List Replica) (z : Bool) (i : Nat) (hi : i < rs.length) (X : List Int) : setNode (rs.map (encReplica z)) [(i, 0)] (X.map encInt) = (rs.set i { rs[i] with state := { rs[i].state with r0 := X } }).map (encReplica z) := by
  have h : (rs.map (encReplica z))[i]? = some (encReplica z rs[i]) := by simp [hi]
  have hc : cellOf (rs.map (encReplica z)) i 0 = some (.vs (rs[i].state.r0.map encInt) z) := by unfold cellOf; rw [h]; rfl
  rw [setNode_one hc, setCell_of h, List.map_set]; rfl
theorem rep_node0 (rs : List Replica) (z : Bool) (i : Nat) (hi : i < rs.length) : nodeA (rs.map (encReplica z)) [(i, 0)] = some (rs[i].state.r0.map encInt) := by
  have h : (rs.map (encReplica z))[i]? = some (encReplica z rs[i]) := by simp [hi]
  have hc : cellOf (rs.map (encReplica z)) i 0 = some (.vs (rs[i].state.r0.map encInt) z) := by unfold cellOf; rw [h]; rfl
  simp only [nodeA, hc]

theorem rep_col1 (rs : List Replica) (z : Bool) (i : Nat) (hi : i < rs.length) (X : List Int) : setNode (rs.map (encReplica z)) [(i, 1)] (X.map encInt) = (rs.set i { rs[i] with state := { rs[i].state with r1 := X } }).map (encReplica z) := by
  have h : (rs.map (encReplica z))[i]? = some (encReplica z rs[i]) := by simp [hi]
  have hc : cellOf (rs.map (encReplica z)) i 1 = some (.vs (rs[i].state.r1.map encInt) z) := by unfold cellOf; rw [h]; rfl
  rw [setNode_one hc, setCell_of h, List.map_set]; rfl
theorem rep_node1 (rs : List Replica) (z : Bool) (i : Nat) (hi : i < rs.length) : nodeA (rs.map (encReplica z)) [(i, 1)] = some (rs[i].state.r1.map encInt) := by
  have h : (rs.map (encReplica z))[i]? = some (encReplica z rs[i]) := by simp [hi]
  have hc : cellOf (rs.map (encReplica z)) i 1 = some (.vs (rs[i].state.r1.map encInt) z) := by unfold cellOf; rw [h]; rfl
  simp only [nodeA, hc]

theorem rep_col2 (rs : List Replica) (z : Bool) (i : Nat) (hi : i < rs.length) (X : List Int) : setNode (rs.map (encReplica z)) [(i, 2)] (X.map encInt) = (rs.set i { rs[i] with state := { rs[i].state with r2 := X } }).map (encReplica z) := by
  have h : (rs.map (encReplica z))[i]? = some (encReplica z rs[i]) := by simp [hi]
  have hc : cellOf (rs.map (encReplica z)) i 2 = some (.vs (rs[i].state.r2.map encInt) z) := by unfold cellOf; rw [h]; rfl
  rw [setNode_one hc, setCell_of h, List.map_set]; rfl
theorem rep_node2 (rs : List Replica) (z : Bool) (i : Nat) (hi : i < rs.length) : nodeA (rs.map (encReplica z)) [(i, 2)] = some (rs[i].state.r2.map encInt) := by
  have h : (rs.map (encReplica z))[i]? = some (encReplica z rs[i]) := by simp [hi]
  have hc : cellOf (rs.map (encReplica z)) i 2 = some (.vs (rs[i].state.r2.map encInt) z) := by unfold cellOf; rw [h]; rfl
  simp only [nodeA, hc]

theorem rep_col3 (rs : List Replica) (z : Bool) (i : Nat) (hi : i < rs.length) (X : List Int) : setNode (rs.map (encReplica z)) [(i, 3)] (X.map encInt) = (rs.set i { rs[i] with state := { rs[i].state with r3 := X } }).map (encReplica z) := by
  have h : (rs.map (encReplica z))[i]? = some (encReplica z rs[i]) := by simp [hi]
  have hc : cellOf (rs.map (encReplica z)) i 3 = some (.vs (rs[i].state.r3.map encInt) z) := by unfold cellOf; rw [h]; rfl
  rw [setNode_one hc, setCell_of h, List.map_set]; rfl
theorem rep_node3 (rs : List Replica) (z : Bool) (i : Nat) (hi : i < rs.length) : nodeA (rs.map (encReplica z)) [(i, 3)] = some (rs[i].state.r3.map encInt) := by
  have h : (rs.map (encReplica z))[i]? = some (encReplica z rs[i]) := by simp [hi]
  have hc : cellOf (rs.map (encReplica z)) i 3 = some (.vs (rs[i].state.r3.map encInt) z) := by unfold cellOf; rw [h]; rfl
  simp only [nodeA, hc]

theorem rep_col4 (rs : List Replica) (z : Bool) (i : Nat) (hi : i < rs.length) (X : List Int) : setNode (rs.map (encReplica z)) [(i, 4)] (X.map encInt) = (rs.set i { rs[i] with cursors := X }).map (encReplica z) := by
  have h : (rs.map (encReplica z))[i]? = some (encReplica z rs[i]) := by simp [hi]
  have hc : cellOf (rs.map (encReplica z)) i 4 = some (.vs (rs[i].cursors.map encInt) z) := by unfold cellOf; rw [h]; rfl
  rw [setNode_one hc, setCell_of h, List.map_set]; rfl
theorem rep_node4 (rs : List Replica) (z : Bool) (i : Nat) (hi : i < rs.length) : nodeA (rs.map (encReplica z)) [(i, 4)] = some (rs[i].cursors.map encInt) := by
  have h : (rs.map (encReplica z))[i]? = some (encReplica z rs[i]) := by simp [hi]
  have hc : cellOf (rs.map (encReplica z)) i 4 = some (.vs (rs[i].cursors.map encInt) z) := by unfold cellOf; rw [h]; rfl
  simp only [nodeA, hc]

theorem rep_col5 (rs : List Replica) (z : Bool) (i : Nat) (hi : i < rs.length) (X : List Int) : setNode (rs.map (encReplica z)) [(i, 5)] (X.map encInt) = (rs.set i { rs[i] with locks := X }).map (encReplica z) := by
  have h : (rs.map (encReplica z))[i]? = some (encReplica z rs[i]) := by simp [hi]
  have hc : cellOf (rs.map (encReplica z)) i 5 = some (.vs (rs[i].locks.map encInt) z) := by unfold cellOf; rw [h]; rfl
  rw [setNode_one hc, setCell_of h, List.map_set]; rfl
theorem rep_node5 (rs : List Replica) (z : Bool) (i : Nat) (hi : i < rs.length) : nodeA (rs.map (encReplica z)) [(i, 5)] = some (rs[i].locks.map encInt) := by
  have h : (rs.map (encReplica z))[i]? = some (encReplica z rs[i]) := by simp [hi]
  have hc : cellOf (rs.map (encReplica z)) i 5 = some (.vs (rs[i].locks.map encInt) z) := by unfold cellOf; rw [h]; rfl
  simp only [nodeA, hc]

theorem turned_get {T T1 : TH} {r : Nat} {rows : List (List AV)} {z : Bool} {log : List Path} (h : Turned T r rows z log T1) : T1.get r = .tree rows z log := by rw [h.2 r, if_pos rfl]
theorem turned_trans {T T1 T2 : TH} {r : Nat} {rows rows' : List (List AV)} {z : Bool} {log : List Path} (h : Turned T r rows z log T1) (k : Turned T1 r rows' z log T2) : Turned T r rows' z log T2 := by
  refine ⟨by rw [k.1, h.1], fun j => ?_⟩
  rw [k.2 j, h.2 j]
  by_cases e : j = r
  · simp [e]
  · simp [e]

theorem okP_set {rs : List Replica} (h : ∀ x ∈ rs, okP' x) {i : Nat} {x : Replica} (hx : okP' x) : ∀ y ∈ rs.set i x, okP' y := fun y hy => by
  rcases List.mem_or_eq_of_mem_set hy with hy | rfl
  · exact h y hy
  · exact hx
theorem len_OK {α β : Type} {xs : List α} {ys : List β} (h : lenOK xs) (e : ys.length = xs.length) : lenOK ys := by unfold lenOK at *; omega

theorem c_SpoilState (T : TH) (r i : Nat) (rs : List Replica) (z : Bool) (hi : i < rs.length) (ok : ∀ x ∈ rs, okP' x) (hT : T.get r = .tree (rs.map (encReplica z)) z []) (K : TV → TH → Prop)
    (hK : ∀ T' (rs' : List Replica), rs'.length = rs.length → (∀ x ∈ rs', okP' x) → Turned T r (rs'.map (encReplica z)) z [] T' → K (.a (.tup [])) T') :
    CallT tab false 56 [.ag [.sl r [(i, 0)] 0 0 rs[i].state.r0.length true, .sl r [(i, 1)] 0 0 rs[i].state.r1.length true, .sl r [(i, 2)] 0 0 rs[i].state.r2.length true, .sl r [(i, 3)] 0 0 rs[i].state.r3.length true]] T K := by
  have o := ok _ (List.getElem_mem hi)
  refine CallT.body (F := m56) rfl rfl rfl rfl ?_
  simp -implicitDefEqProofs [m56]
  refine WCT.unroll ?_
  simp -implicitDefEqProofs
  refine c_SpoilInts T r [(i, 0)] 0 _ [] z [] rs[i].state.r0 o.1.1 hT (rep_node0 rs z i hi) (by rw [hT]; rfl) _ (fun T1 y0 l0 t0 => ?_)
  rw [rep_col0 rs z i hi] at t0
  simp -implicitDefEqProofs
  refine WCT.unroll ?_
  simp -implicitDefEqProofs
  have e1 := turned_get t0
  refine c_SpoilInts T1 r [(i, 1)] 0 _ [] z [] rs[i].state.r1 o.1.2.1 e1 (by rw [rep_node1 _ z i (by simp [hi])]; simp) (by rw [e1]; rfl) _ (fun T2 y1 l1 t1 => ?_)
  rw [rep_col1 _ z i (by simp [hi])] at t1
  simp -implicitDefEqProofs
  refine WCT.unroll ?_
  simp -implicitDefEqProofs
  have e2 := turned_get t1
  refine c_SpoilInts T2 r [(i, 2)] 0 _ [] z [] rs[i].state.r2 o.1.2.2.1 e2 (by rw [rep_node2 _ z i (by simp [hi])]; simp) (by rw [e2]; rfl) _ (fun T3 y2 l2 t2 => ?_)
  rw [rep_col2 _ z i (by simp [hi])] at t2
  simp -implicitDefEqProofs
  refine WCT.unroll ?_
  simp -implicitDefEqProofs
  have e3 := turned_get t2
  refine c_SpoilInts T3 r [(i, 3)] 0 _ [] z [] rs[i].state.r3 o.1.2.2.2 e3 (by rw [rep_node3 _ z i (by simp [hi])]; simp) (by rw [e3]; rfl) _ (fun T4 y3 l3 t3 => ?_)
  rw [rep_col3 _ z i (by simp [hi])] at t3
  simp -implicitDefEqProofs
  refine WCT.unroll ?_
  simp -implicitDefEqProofs
  refine hK T4 _ ?_ ?_ ((turned_trans (turned_trans (turned_trans t0 t1) t2) t3))
  · simp
  · simp only [List.set_set, List.getElem_set_self]
    exact okP_set ok ⟨⟨len_OK o.1.1 l0, len_OK o.1.2.1 l1, len_OK o.1.2.2.1 l2, len_OK o.1.2.2.2 l3⟩, o.2⟩

end Go.Ab

namespace Go.Ab

/-- so far: of these four roots the content is another one of the same kind, all else stayed -/
structure Sp (T T' : TH) (r1 r2 r3 r4 : Nat) (rs : List Ring) (ps : List Replica) (ts : List Thread) : Prop where
  next : T'.next = T.next
  other : ∀ k, k ≠ r1 → k ≠ r2 → k ≠ r3 → k ≠ r4 → T'.get k = T.get k
  g1 : T'.get r1 = .tree (rs.map (encRing true)) true []
  g2 : T'.get r2 = .tree (ps.map (encReplica true)) true []
  g3 : T'.get r3 = .tree (ts.map (encThread true)) true []
  o1 : ∀ x ∈ rs, okR x
  o2 : ∀ x ∈ ps, okP' x
  o3 : ∀ x ∈ ts, okTh x

theorem set_ok {α : Type} {p : α → Prop} {rs : List α} (h : ∀ x ∈ rs, p x) {i : Nat} {x : α} (hx : p x) : ∀ y ∈ rs.set i x, p y := fun y hy => by
  rcases List.mem_or_eq_of_mem_set hy with hy | rfl
  · exact h y hy
  · exact hx

theorem Sp.ring {T T1 T2 : TH} {r1 r2 r3 r4 : Nat} {rs rs' : List Ring} {ps : List Replica} {ts : List Thread} (n12 : r1 ≠ r2) (n13 : r1 ≠ r3) (h : Sp T T1 r1 r2 r3 r4 rs ps ts) (k : Turned T1 r1 (rs'.map (encRing true)) true [] T2) (o : ∀ x ∈ rs', okR x) : Sp T T2 r1 r2 r3 r4 rs' ps ts :=
  ⟨by rw [k.1, h.next], fun j a b c d => by rw [k.2 j, if_neg a, h.other j a b c d], turned_get k, by rw [k.2 r2, if_neg n12.symm, h.g2], by rw [k.2 r3, if_neg n13.symm, h.g3], o, h.o2, h.o3⟩
theorem Sp.rep {T T1 T2 : TH} {r1 r2 r3 r4 : Nat} {rs : List Ring} {ps ps' : List Replica} {ts : List Thread} (n12 : r1 ≠ r2) (n23 : r2 ≠ r3) (h : Sp T T1 r1 r2 r3 r4 rs ps ts) (k : Turned T1 r2 (ps'.map (encReplica true)) true [] T2) (o : ∀ x ∈ ps', okP' x) : Sp T T2 r1 r2 r3 r4 rs ps' ts :=
  ⟨by rw [k.1, h.next], fun j a b c d => by rw [k.2 j, if_neg b, h.other j a b c d], by rw [k.2 r1, if_neg n12, h.g1], turned_get k, by rw [k.2 r3, if_neg n23.symm, h.g3], h.o1, o, h.o3⟩
theorem Sp.thr {T T1 T2 : TH} {r1 r2 r3 r4 : Nat} {rs : List Ring} {ps : List Replica} {ts ts' : List Thread} (n13 : r1 ≠ r3) (n23 : r2 ≠ r3) (h : Sp T T1 r1 r2 r3 r4 rs ps ts) (k : Turned T1 r3 (ts'.map (encThread true)) true [] T2) (o : ∀ x ∈ ts', okTh x) : Sp T T2 r1 r2 r3 r4 rs ps ts' :=
  ⟨by rw [k.1, h.next], fun j a b c d => by rw [k.2 j, if_neg c, h.other j a b c d], by rw [k.2 r1, if_neg n13, h.g1], by rw [k.2 r2, if_neg n23, h.g2], turned_get k, h.o1, h.o2, o⟩

theorem turned_new (T : TH) (r : Nat) (rows : List (List AV)) (z : Bool) (log : List Path) : Turned T r rows z log (T.put r (.tree rows z log)) := by
  refine ⟨rfl, fun k => ?_⟩
  rw [TH.get_put]
  by_cases e : r = k
  · subst e; simp
  · rw [if_neg e, if_neg (fun h => e h.symm)]

theorem thr_node6 (ts : List Thread) (z : Bool) (i : Nat) (hi : i < ts.length) : nodeA (ts.map (encThread z)) [(i, 6)] = some (ts[i].batch.map encInt) := by
  have h : (ts.map (encThread z))[i]? = some (encThread z ts[i]) := by simp [hi]
  have hc : cellOf (ts.map (encThread z)) i 6 = some (.vs (ts[i].batch.map encInt) z) := by unfold cellOf; rw [h]; rfl
  simp only [nodeA, hc]
theorem thr_node11 (ts : List Thread) (z : Bool) (i : Nat) (hi : i < ts.length) : nodeA (ts.map (encThread z)) [(i, 11)] = some (ts[i].tails.map encInt) := by
  have h : (ts.map (encThread z))[i]? = some (encThread z ts[i]) := by simp [hi]
  have hc : cellOf (ts.map (encThread z)) i 11 = some (.vs (ts[i].tails.map encInt) z) := by unfold cellOf; rw [h]; rfl
  simp only [nodeA, hc]

set_option maxHeartbeats 1000000 in
theorem c_SpoilMachine (T : TH) (c : Config) (r1 r2 r3 r4 : Nat) (n12 : r1 ≠ r2) (n13 : r1 ≠ r3) (n14 : r1 ≠ r4) (n23 : r2 ≠ r3) (n24 : r2 ≠ r4) (n34 : r3 ≠ r4) (m : Machine) (ok : okM m)
    (g1 : T.get r1 = .tree (m.rings.map (encRing true)) true []) (g2 : T.get r2 = .tree (m.replicas.map (encReplica true)) true []) (g3 : T.get r3 = .tree (m.threads.map (encThread true)) true []) (g4 : T.get r4 = .tree (m.history.map encEvent) true []) (K : TV → TH → Prop)
    (hK : ∀ T', T'.next = T.next → (∀ k, k ≠ r1 → k ≠ r2 → k ≠ r3 → k ≠ r4 → T'.get k = T.get k) → K (.a (.tup [])) T') :
    CallT tab false 15 [.ag [.a (.int .i64 c.object), .a (.int .i64 c.replicas), .a (.int .i64 c.logs), .a (.int .i64 c.threads), .a (.int .i64 c.slots), .sl r1 [] 0 0 m.rings.length true, .sl r2 [] 0 0 m.replicas.length true, .sl r3 [] 0 0 m.threads.length true, .sl r4 [] 0 0 m.history.length true]] T K := by
  obtain ⟨⟨l1, o1⟩, ⟨l2, o2⟩, ⟨l3, o3⟩, l4⟩ := ok
  unfold lenOK at l1 l2 l3
  refine CallT.body (F := m15) rfl rfl rfl rfl ?_
  simp -implicitDefEqProofs [m15]
  refine c_SpoilEvents T r4 [] 0 _ [] true [] m.history l4 g4 rfl (by rw [g4]; rfl) _ (fun T0 ys _ t0 => ?_)
  have s0 : Sp T T0 r1 r2 r3 r4 m.rings m.replicas m.threads := ⟨t0.1, fun k _ _ _ d => by rw [t0.2 k, if_neg d], by rw [t0.2 r1, if_neg n14, g1], by rw [t0.2 r2, if_neg n24, g2], by rw [t0.2 r3, if_neg n34, g3], o1, o2, o3⟩
  simp -implicitDefEqProofs
  refine loop_by (fun k E T1 => ∃ (i : Nat) (rs : List Ring), i + k = m.rings.length ∧ rs.length = m.rings.length ∧ E.get 1 = .lp 0 0 ∧ E.get 2 = .a (.int .i64 i) ∧ E.var 0 = some [.a (.int .i64 c.object), .a (.int .i64 c.replicas), .a (.int .i64 c.logs), .a (.int .i64 c.threads), .a (.int .i64 c.slots), .sl r1 [] 0 0 m.rings.length true, .sl r2 [] 0 0 m.replicas.length true, .sl r3 [] 0 0 m.threads.length true, .sl r4 [] 0 0 m.history.length true] ∧ Sp T T1 r1 r2 r3 r4 rs m.replicas m.threads) ?_ m.rings.length ⟨0, m.rings, by simp, rfl, by simp, by simp, by simp, s0⟩
  rintro k E T1 ⟨i, rs, hi, hl, h1, h2, v0, s1⟩
  by_cases hlt : i < m.rings.length
  · have hlt2 : i < rs.length := by omega
    have hpos : 0 < rs.length := by omega
    have e1 := List.getElem?_eq_getElem hlt2
    have e0 := List.getElem?_eq_getElem hpos
    have q1 := s1.g1
    simp -implicitDefEqProofs [h1, h2, v0, hlt, q1, e1, e0]
    refine c_SpoilRing T1 _ _ _ r1 [(i, 3)] 0 _ true [] rs[i].slots (s1.o1 _ (List.getElem_mem hlt2)) q1 (by simp [nodeA, cellOf, e1]) (by rw [q1]; rfl) _ (fun T2 ys ly t2 => ?_)
    rw [ring_slots rs true i hlt2] at t2
    have s2 := s1.ring n12 n13 t2 (set_ok s1.o1 (len_OK (s1.o1 _ (List.getElem_mem hlt2)) ly))
    generalize hrs' : rs.set i { rs[i] with slots := ys } = rs' at s2
    have hl' : rs'.length = m.rings.length := by rw [← hrs', List.length_set]; exact hl
    have hi' : i < rs'.length := by omega
    have hpos' : 0 < rs'.length := by omega
    have e1' := List.getElem?_eq_getElem hi'
    have e0' := List.getElem?_eq_getElem hpos'
    have q2 := s2.g1
    simp -implicitDefEqProofs [h1, h2, v0, hlt, q2, e1', e0']
    have hw : ∀ v : Int, (rs'.map (encRing true)).set i [.int .i64 rs'[i].head, .int .i64 v, .int .i64 rs'[i].fence, .vs (rs'[i].slots.map encSlot) true] = (rs'.set i { rs'[i] with tail := v }).map (encRing true) := fun v => by rw [List.map_set]; first | done | rfl
    rw [hw]
    exact ⟨k - 1, by omega, i + 1, by omega, _, by rw [List.length_set]; exact hl', wrap_nat (by omega), s2.ring n12 n13 (turned_new _ _ _ _ _) (set_ok s2.o1 (s2.o1 rs'[i] (List.getElem_mem hi')))⟩
  · simp -implicitDefEqProofs [h1, h2, v0, hlt]
    refine loop_by (fun k E T1 => ∃ (i : Nat) (ps : List Replica), i + k = m.replicas.length ∧ ps.length = m.replicas.length ∧ E.get 1 = .lp 0 0 ∧ E.get 3 = .a (.int .i64 i) ∧ E.var 0 = some [.a (.int .i64 c.object), .a (.int .i64 c.replicas), .a (.int .i64 c.logs), .a (.int .i64 c.threads), .a (.int .i64 c.slots), .sl r1 [] 0 0 m.rings.length true, .sl r2 [] 0 0 m.replicas.length true, .sl r3 [] 0 0 m.threads.length true, .sl r4 [] 0 0 m.history.length true] ∧ Sp T T1 r1 r2 r3 r4 rs ps m.threads) ?_ m.replicas.length ⟨0, m.replicas, by simp, rfl, by simp [h1], by simp, by simp [v0], s1⟩
    clear hi hl h1 h2 v0 s1 hlt E k T1 i
    rintro k E T1 ⟨i, ps, hi, hl, h1, h2, v0, s1⟩
    by_cases hlt : i < m.replicas.length
    · have hlt2 : i < ps.length := by omega
      have hpos : 0 < ps.length := by omega
      have e1 := List.getElem?_eq_getElem hlt2
      have e0 := List.getElem?_eq_getElem hpos
      have q1 := s1.g2
      simp -implicitDefEqProofs [h1, h2, v0, hlt, q1, e1, e0]
      refine c_SpoilState T1 r2 i ps true hlt2 s1.o2 q1 _ (fun T2 rs' hl' ok' t2 => ?_)
      have s2 := s1.rep n12 n23 t2 ok'
      have hi' : i < rs'.length := by omega
      have hpos' : 0 < rs'.length := by omega
      have e1' := List.getElem?_eq_getElem hi'
      have e0' := List.getElem?_eq_getElem hpos'
      have q2 := s2.g2
      simp -implicitDefEqProofs [h1, h2, v0, hlt, q2, e1', e0']
      refine c_SpoilInts T2 r2 [(i, 4)] 0 _ [] true [] rs'[i].cursors (s2.o2 _ (List.getElem_mem hi')).2.1 q2 (rep_node4 _ true i hi') (by rw [q2]; rfl) _ (fun T3 y3 l3' t3 => ?_)
      rw [rep_col4 _ true i hi'] at t3
      have s3 := s2.rep n12 n23 t3 (set_ok s2.o2 ⟨(s2.o2 _ (List.getElem_mem hi')).1, len_OK (s2.o2 _ (List.getElem_mem hi')).2.1 l3', (s2.o2 _ (List.getElem_mem hi')).2.2⟩)
      generalize hrs'' : rs'.set i { rs'[i] with cursors := y3 } = rs'' at s3
      have hl'' : rs''.length = m.replicas.length := by rw [← hrs'', List.length_set]; omega
      have hi'' : i < rs''.length := by omega
      have hpos'' : 0 < rs''.length := by omega
      have e1'' := List.getElem?_eq_getElem hi''
      have e0'' := List.getElem?_eq_getElem hpos''
      have q3 := s3.g2
      simp -implicitDefEqProofs [h1, h2, v0, hlt, q3, e1'', e0'']
      refine c_SpoilInts T3 r2 [(i, 5)] 0 _ [] true [] rs''[i].locks (s3.o2 _ (List.getElem_mem hi'')).2.2 q3 (rep_node5 _ true i hi'') (by rw [q3]; rfl) _ (fun T4 y4 l4' t4 => ?_)
      rw [rep_col5 _ true i hi''] at t4
      have s4 := s3.rep n12 n23 t4 (set_ok s3.o2 ⟨(s3.o2 _ (List.getElem_mem hi'')).1, (s3.o2 _ (List.getElem_mem hi'')).2.1, len_OK (s3.o2 _ (List.getElem_mem hi'')).2.2 l4'⟩)
      simp -implicitDefEqProofs [h1, h2, v0, hlt]
      exact ⟨k - 1, by omega, i + 1, by omega, _, by rw [List.length_set]; exact hl'', wrap_nat (by omega), s4⟩
    · simp -implicitDefEqProofs [h1, h2, v0, hlt]
      refine loop_by (fun k E T1 => ∃ (i : Nat) (ts : List Thread), i + k = m.threads.length ∧ ts.length = m.threads.length ∧ E.get 1 = .lp 0 0 ∧ E.get 4 = .a (.int .i64 i) ∧ E.var 0 = some [.a (.int .i64 c.object), .a (.int .i64 c.replicas), .a (.int .i64 c.logs), .a (.int .i64 c.threads), .a (.int .i64 c.slots), .sl r1 [] 0 0 m.rings.length true, .sl r2 [] 0 0 m.replicas.length true, .sl r3 [] 0 0 m.threads.length true, .sl r4 [] 0 0 m.history.length true] ∧ Sp T T1 r1 r2 r3 r4 rs ps ts) ?_ m.threads.length ⟨0, m.threads, by simp, rfl, by simp [h1], by simp, by simp [v0], s1⟩
      clear hi hl h1 h2 v0 s1 hlt E k T1 i
      rintro k E T1 ⟨i, ts, hi, hl, h1, h2, v0, s1⟩
      by_cases hlt : i < m.threads.length
      · have hlt2 : i < ts.length := by omega
        have hpos : 0 < ts.length := by omega
        have e1 := List.getElem?_eq_getElem hlt2
        have e0 := List.getElem?_eq_getElem hpos
        have q1 := s1.g3
        simp -implicitDefEqProofs [h1, h2, v0, hlt, q1, e1, e0]
        refine c_SpoilInts T1 r3 [(i, 6)] 0 _ [] true [] ts[i].batch (s1.o3 _ (List.getElem_mem hlt2)).1 q1 (thr_node6 _ true i hlt2) (by rw [q1]; rfl) _ (fun T2 y3 l3' t3 => ?_)
        rw [thread_batch _ true i hlt2] at t3
        have s2 := s1.thr n13 n23 t3 (set_ok s1.o3 ⟨len_OK (s1.o3 _ (List.getElem_mem hlt2)).1 l3', (s1.o3 _ (List.getElem_mem hlt2)).2⟩)
        generalize hrs' : ts.set i { ts[i] with batch := y3 } = rs' at s2
        have hl' : rs'.length = m.threads.length := by rw [← hrs', List.length_set]; omega
        have hi' : i < rs'.length := by omega
        have hpos' : 0 < rs'.length := by omega
        have e1' := List.getElem?_eq_getElem hi'
        have e0' := List.getElem?_eq_getElem hpos'
        have q2 := s2.g3
        simp -implicitDefEqProofs [h1, h2, v0, hlt, q2, e1', e0']
        refine c_SpoilInts T2 r3 [(i, 11)] 0 _ [] true [] rs'[i].tails (s2.o3 _ (List.getElem_mem hi')).2 q2 (thr_node11 _ true i hi') (by rw [q2]; rfl) _ (fun T3 y4 l4' t4 => ?_)
        rw [thread_tails _ true i hi'] at t4
        have s3 := s2.thr n13 n23 t4 (set_ok s2.o3 ⟨(s2.o3 _ (List.getElem_mem hi')).1, len_OK (s2.o3 _ (List.getElem_mem hi')).2 l4'⟩)
        generalize hrs'' : rs'.set i { rs'[i] with tails := y4 } = rs'' at s3
        have hl'' : rs''.length = m.threads.length := by rw [← hrs'', List.length_set]; omega
        have hi'' : i < rs''.length := by omega
        have hpos'' : 0 < rs''.length := by omega
        have e1'' := List.getElem?_eq_getElem hi''
        have e0'' := List.getElem?_eq_getElem hpos''
        have q3 := s3.g3
        simp -implicitDefEqProofs [h1, h2, v0, hlt, q3, e1'', e0'']
        have hw : ∀ v : Int, (rs''.map (encThread true)).set i [.int .i64 v, .int .i64 rs''[i].op.code, .int .i64 rs''[i].op.row, .int .i64 rs''[i].op.arg, .int .i64 rs''[i].log, .int .i64 rs''[i].seen, .vs (rs''[i].batch.map encInt) true, .int .i64 rs''[i].at_, .bool rs''[i].posted, .bool rs''[i].ready, .int .i64 rs''[i].answer, .vs (rs''[i].tails.map encInt) true] = (rs''.set i { rs''[i] with step := v }).map (encThread true) := fun v => by rw [List.map_set]; first | done | rfl
        rw [hw]
        refine ⟨k - 1, by omega, i + 1, by omega, _, by rw [List.length_set]; exact hl'', wrap_nat (by omega), s3.thr n13 n23 (turned_new _ _ _ _ _) (set_ok s3.o3 (s3.o3 rs''[i] (List.getElem_mem hi'')))⟩
      · simp -implicitDefEqProofs [h1, h2, v0, hlt]
        exact hK T1 s1.next s1.other

end Go.Ab

namespace Go.Ab

theorem fzC_sl (T : TH) (d r : Nat) (p : Path) (g i n : Nat) : fzC T d (.sl r p g i n true) = if (T.get r).valid p g = true then match T.get r with
      | .tree rows z _ => match p.getLast? with
        | none => if okC d (.vs rows z) then some (unz d (.vs rows z)) else none
        | some (i, j) => match nodeA rows p.dropLast with
          | some rp => match cellOf rp i j with
            | some (.vs rows' z') => if okC d (.vs rows' z') then some (unz d (.vs rows' z')) else none
            | _ => none
          | none => none
      | _ => none
    else none := by
  simp only [fzC, true_and]
  rfl
theorem fzT_sl (T : TH) (r : Nat) (p : Path) (g i n : Nat) : fzT T (.sl r p g i n true) = fzC T 11 (.sl r p g i n true) := rfl
attribute [simp] fzC_sl fzT_sl

@[simp] theorem unz_int (d : Nat) (k : IntKind) (n : Int) : unz d (.int k n) = .int k n := by cases d <;> rfl
@[simp] theorem unz_bool (d : Nat) (b : Bool) : unz d (.bool b) = .bool b := by cases d <;> rfl
@[simp] theorem unz_vs (d : Nat) (rows : List (List AV)) (z : Bool) : unz (d + 1) (.vs rows z) = .vs (rows.map fun row => row.map (unz d)) false := by conv => lhs; unfold unz
@[simp] theorem okC_int (d : Nat) (k : IntKind) (n : Int) : okC d (.int k n) = true := by cases d <;> rfl
@[simp] theorem okC_bool (d : Nat) (b : Bool) : okC d (.bool b) = true := by cases d <;> rfl
@[simp] theorem okC_vs (d : Nat) (rows : List (List AV)) (z : Bool) : okC (d + 1) (.vs rows z) = rows.all fun row => row.all (okC d) := by conv => lhs; unfold okC

theorem unz_ints (d : Nat) (xs : List Int) (z : Bool) : unz (d + 1) (.vs (xs.map encInt) z) = .vs (xs.map encInt) false := by simp
theorem unz_slots (d : Nat) (xs : List Slot) (z : Bool) : unz (d + 1) (.vs (xs.map encSlot) z) = .vs (xs.map encSlot) false := by simp
theorem unz_events (d : Nat) (xs : List Event) (z : Bool) : unz (d + 1) (.vs (xs.map encEvent) z) = .vs (xs.map encEvent) false := by simp
theorem unz_rings (d : Nat) (xs : List Ring) (z z' : Bool) : unz (d + 2) (.vs (xs.map (encRing z)) z') = .vs (xs.map (encRing false)) false := by simp
theorem unz_replicas (d : Nat) (xs : List Replica) (z z' : Bool) : unz (d + 2) (.vs (xs.map (encReplica z)) z') = .vs (xs.map (encReplica false)) false := by simp
theorem unz_threads (d : Nat) (xs : List Thread) (z z' : Bool) : unz (d + 2) (.vs (xs.map (encThread z)) z') = .vs (xs.map (encThread false)) false := by simp
theorem okC_ints (d : Nat) (xs : List Int) (z : Bool) : okC (d + 1) (.vs (xs.map encInt) z) = true := by simp
theorem okC_slots (d : Nat) (xs : List Slot) (z : Bool) : okC (d + 1) (.vs (xs.map encSlot) z) = true := by simp
theorem okC_events (d : Nat) (xs : List Event) (z : Bool) : okC (d + 1) (.vs (xs.map encEvent) z) = true := by simp
theorem okC_rings (d : Nat) (xs : List Ring) (z z' : Bool) : okC (d + 2) (.vs (xs.map (encRing z)) z') = true := by simp
theorem okC_replicas (d : Nat) (xs : List Replica) (z z' : Bool) : okC (d + 2) (.vs (xs.map (encReplica z)) z') = true := by simp
theorem okC_threads (d : Nat) (xs : List Thread) (z z' : Bool) : okC (d + 2) (.vs (xs.map (encThread z)) z') = true := by simp

attribute [simp high] unz_ints unz_slots unz_events unz_rings unz_replicas unz_threads okC_ints okC_slots okC_events okC_rings okC_replicas okC_threads

theorem fz_machine (T : TH) (m : Machine) (r1 r2 r3 r4 g1 g2 g3 g4 : Nat) {z1 z2 z3 z4 : Bool} {l1 l2 l3 l4 : List Path}
    (h1 : T.get r1 = .tree (m.rings.map (encRing z1)) z1 l1) (h2 : T.get r2 = .tree (m.replicas.map (encReplica z2)) z2 l2) (h3 : T.get r3 = .tree (m.threads.map (encThread z3)) z3 l3) (h4 : T.get r4 = .tree (m.history.map encEvent) z4 l4)
    (v1 : (T.get r1).valid [] g1 = true) (v2 : (T.get r2).valid [] g2 = true) (v3 : (T.get r3).valid [] g3 = true) (v4 : (T.get r4).valid [] g4 = true) :
    fzT T (.ag [.a (.int .i64 m.config.object), .a (.int .i64 m.config.replicas), .a (.int .i64 m.config.logs), .a (.int .i64 m.config.threads), .a (.int .i64 m.config.slots), .sl r1 [] g1 0 m.rings.length true, .sl r2 [] g2 0 m.replicas.length true, .sl r3 [] g3 0 m.threads.length true, .sl r4 [] g4 0 m.history.length true]) = some (.agg (encMachine false m)) := by
  simp only [fzT_ag, mapO, fzC_sl, v1, v2, v3, v4, if_true, List.getLast?_nil]
  simp only [h1, h2, h3, h4]
  simp

end Go.Ab

namespace Go.Ab

def saysYes : Option (AV × AH) → Bool
  | some (.bool true, _) => true
  | _ => false

theorem saysYes_of {x : Option (AV × AH)} (h : saysYes x = true) : ∃ H, x = some (.bool true, H) := by
  unfold saysYes at h
  split at h
  · exact ⟨_, rfl⟩
  · cases h

theorem PCall.closed {M : FuncId → Option MFunc} {k : FuncId} {F : MFunc} (n : Nat) (hM : M k = some F) (hp : F.pure = true) (hb : F.both = false) (h : saysYes (evalF (eval M n) n F [] { objs := .nil, next := 0, lo := 0 }) = true) : PCall M k [] (.bool true) := by
  intro args H hw ht
  obtain ⟨H1, h1⟩ := saysYes_of h
  refine ⟨.bool true, H, ⟨n + 1, ?_⟩, hw, Nat.le_refl _, rfl, fun _ _ => rfl, [],   .one (.cell (by simp) (.flat rfl .nil)), by simp, by simp⟩
  simp only [eval, hM, hp, hb, if_true, pureB, Bool.false_eq_true, if_false]
  unfold pureC
  rw [ht]
  simp only [h1]
  rfl

theorem c_awake14 : PCall tab 16 [] (.bool true) := PCall.closed 60 rfl rfl rfl (by kernel_rfl)

theorem okM_no : okM noMachine := by unfold okM lenOK; simp
theorem okM_new (c : Config) (h : cfgMay c) : okM (machine0 c) := by
  obtain ⟨h1, h2, h3, h4, h5, h6⟩ := h
  have e3 : c.logs ≤ 16 := by simp only [logsMay] at h3; omega
  have e5 : c.slots ≤ 1048576 := by simp only [slotsMay] at h5; omega
  unfold okM okR okP' okS okTh lenOK
  simp only [List.length_replicate, List.mem_replicate, List.length_nil]
  refine ⟨⟨by omega, ?_⟩, ⟨by omega, ?_⟩, ⟨by omega, ?_⟩, by omega⟩
  · rintro r ⟨_, rfl⟩
    simp only [List.length_replicate]; omega
  · rintro r ⟨_, rfl⟩
    simp only [List.length_replicate, List.length_nil]; omega
  · rintro r ⟨_, rfl⟩
    simp only [List.length_nil]; omega

/-- a new machine, whatever the numbers are -/
theorem c_start (c : Config) : ∃ (m : Machine) (e : Int), (e = 0 ↔ cfgMay c) ∧ okM m ∧ PCall tab 9 [.agg (encConfig c)] (.tup [.agg (encMachine true m), .int .i64 e]) := by
  by_cases hc : cfgMay c
  · exact ⟨machine0 c, 0, ⟨fun _ => hc, fun _ => rfl⟩, okM_new c hc, c_startNew c hc⟩
  · exact ⟨noMachine, 1400, ⟨fun h => by omega, fun h => absurd h hc⟩, okM_no, c_startNo c hc⟩

set_option maxHeartbeats 1000000 in
theorem l_StartCopies (c : Config) : CallT tab false 5 [.a (.agg (encConfig c))] TH.none (fun v _ => v = .a (.bool true)) := by
  obtain ⟨m, e, he, ok, hnew⟩ := c_start c
  refine CallT.body (F := m5) rfl rfl rfl rfl ?_
  simp -implicitDefEqProofs [m5]
  refine CallT.pure c_awake14 rfl rfl ?_
  simp -implicitDefEqProofs
  refine CallT.pure hnew rfl (ok_machine _ _ _) ?_
  simp -implicitDefEqProofs
  refine CallT.pure hnew rfl (ok_machine _ _ _) ?_
  simp -implicitDefEqProofs
  refine CallT.pure (c_Num e) rfl rfl ?_
  simp -implicitDefEqProofs
  refine CallT.pure (c_Num e) rfl rfl ?_
  simp -implicitDefEqProofs
  refine CallT.bool2 (by simp -implicitDefEqProofs) (c_SameMachine m m false false ok) (fun hb => ?_) (fun hb => absurd rfl hb)
  simp -implicitDefEqProofs
  refine c_SpoilMachine _ m.config 0 1 2 3 (by omega) (by omega) (by omega) (by omega) (by omega) (by omega) m ok (by simp) (by simp) (by simp) (by simp) _ (fun T1 hnx hot => ?_)
  have g4 := hot 4 (by omega) (by omega) (by omega) (by omega)
  have g5 := hot 5 (by omega) (by omega) (by omega) (by omega)
  have g6 := hot 6 (by omega) (by omega) (by omega) (by omega)
  have g7 := hot 7 (by omega) (by omega) (by omega) (by omega)
  simp at g4 g5 g6 g7 hnx
  simp -implicitDefEqProofs
  refine CallT.pure hnew rfl (ok_machine _ _ _) ?_
  simp -implicitDefEqProofs
  refine CallT.pure (c_Num e) rfl rfl ?_
  simp -implicitDefEqProofs
  refine CallT.pure (c_Num e) rfl rfl ?_
  simp -implicitDefEqProofs
  refine CallT.bool2 (by simp -implicitDefEqProofs [g4, g5, g6, g7, hnx]) (c_SameMachine m m false false ok) (fun hb => ?_) (fun hb => absurd rfl hb)
  simp -implicitDefEqProofs
  refine CallT.pure (c_Num e) rfl rfl ?_
  simp -implicitDefEqProofs
  refine CallT.pure (c_ConfigMay c) rfl rfl ?_
  simp -implicitDefEqProofs
  rw [Bool.eq_iff_iff]
  simp only [beq_iff_eq, Bool.and_eq_true, Bool.or_eq_true, decide_eq_true_eq]
  exact he

end Go.Ab
