/-
  The comparisons of the statements, by value.
  and what goes with it.
  Conditions: none.
-/
import Derived.Test.YtgofbakhdaegeaaGreatGt
import Derived.KernelRfl
import Derived.Test.YtgofbakhdaegeaaGreatGd
import Derived.Test.YtgofbakhdaegeaaGreatGb
import Derived.Test.YtgofbakhdaegeaaGreatRows

set_option linter.unusedSimpArgs false
set_option linter.unusedVariables false

namespace Go.Ab

theorem wrap_nat {i : Nat} (h : (i : Int) + 1 < 9223372036854775808) : IntKind.wrap .i64 ((i : Int) + 1) = ((i + 1 : Nat) : Int) := by
  rw [wrap_of (by omega) h]; rfl

theorem take_step {α : Type} {xs ys : List α} {i : Nat} (h1 : i < xs.length) (h2 : i < ys.length) (h : xs.take i = ys.take i) (e : xs[i] = ys[i]) : xs.take (i + 1) = ys.take (i + 1) := by
  rw [List.take_succ_eq_append_getElem h1, List.take_succ_eq_append_getElem h2, h, e]

theorem take_all {α : Type} {xs ys : List α} {i : Nat} (h1 : xs.length ≤ i) (h2 : ys.length ≤ i) (h : xs.take i = ys.take i) : xs = ys := by
  rw [List.take_of_length_le h1, List.take_of_length_le h2] at h; exact h

theorem op_eq {a b : Op} : a = b ↔ a.code = b.code ∧ a.row = b.row ∧ a.arg = b.arg := by cases a; cases b; simp
theorem slot_eq {a b : Slot} : a = b ↔ a.op.code = b.op.code ∧ a.op.row = b.op.row ∧ a.op.arg = b.op.arg ∧ a.thread = b.thread ∧ a.bit = b.bit := by cases a; cases b; simp [op_eq, and_assoc]
theorem event_eq {a b : Event} : a = b ↔ a.thread = b.thread ∧ a.call = b.call ∧ a.op.code = b.op.code ∧ a.op.row = b.op.row ∧ a.op.arg = b.op.arg ∧ a.answer = b.answer := by cases a; cases b; simp [op_eq, and_assoc]

/-- as long as memory allows -/
def lenOK {α : Type} (l : List α) : Prop := l.length ≤ 1048576


theorem c_SameInts (xs ys : List Int) (z1 z2 : Bool) (hx : lenOK xs) : PCall tab 23 [.vs (xs.map encInt) z1, .vs (ys.map encInt) z2] (.bool (decide (xs = ys))) := by
  unfold lenOK at hx
  refine PCall.of (F := m23) rfl rfl rfl rfl ?_
  by_cases hl : xs.length = ys.length
  · simp -implicitDefEqProofs [m23, hl]
    refine loop_by (fun k E T => T = TH.none ∧ ∃ i : Nat, i + k = xs.length ∧ E.get 0 = .a (.vs (xs.map encInt) z1) ∧ E.get 1 = .a (.vs (ys.map encInt) z2) ∧ E.get 5 = .a (.int .i64 i) ∧ xs.take i = ys.take i) ?_ xs.length ⟨rfl, 0, by simp⟩
    rintro k E T ⟨rfl, i, hi, h0, h1, h5, ht⟩
    by_cases hlt : i < xs.length
    · have hlt2 : i < ys.length := by omega
      have e1 := List.getElem?_eq_getElem hlt
      have e2 := List.getElem?_eq_getElem hlt2
      by_cases he : xs[i] = ys[i]
      · have he' := he
        skip
        simp -implicitDefEqProofs [h0, h1, h5, hlt, hlt2, e1, e2, he']
        exact ⟨k - 1, by omega, i + 1, by omega, wrap_nat (by omega), take_step hlt hlt2 ht he⟩
      · have he' := he
        skip
        have he2 := he'
        try simp only [Classical.not_and_iff_not_or_not] at he2
        simp -implicitDefEqProofs [h0, h1, h5, hlt, hlt2, e1, e2, he', he2]
        intro e; subst e; exact he rfl
    · have hlt2 : ¬ i < ys.length := by omega
      simp -implicitDefEqProofs [h0, h1, h5, hlt, hlt2]
      exact take_all (by omega) (by omega) ht
  · have hl' : ¬ (xs.length : Int) = ys.length := by omega
    simp -implicitDefEqProofs [m23, hl']
    intro h; exact hl (by rw [h])

theorem c_SameSlots (xs ys : List Slot) (z1 z2 : Bool) (hx : lenOK xs) : PCall tab 69 [.vs (xs.map encSlot) z1, .vs (ys.map encSlot) z2] (.bool (decide (xs = ys))) := by
  unfold lenOK at hx
  refine PCall.of (F := m69) rfl rfl rfl rfl ?_
  by_cases hl : xs.length = ys.length
  · simp -implicitDefEqProofs [m69, hl]
    refine loop_by (fun k E T => T = TH.none ∧ ∃ i : Nat, i + k = xs.length ∧ E.get 0 = .a (.vs (xs.map encSlot) z1) ∧ E.get 1 = .a (.vs (ys.map encSlot) z2) ∧ E.get 5 = .a (.int .i64 i) ∧ xs.take i = ys.take i) ?_ xs.length ⟨rfl, 0, by simp⟩
    rintro k E T ⟨rfl, i, hi, h0, h1, h5, ht⟩
    by_cases hlt : i < xs.length
    · have hlt2 : i < ys.length := by omega
      have e1 := List.getElem?_eq_getElem hlt
      have e2 := List.getElem?_eq_getElem hlt2
      by_cases he : xs[i] = ys[i]
      · have he' := he
        rw [slot_eq] at he'
        simp -implicitDefEqProofs [h0, h1, h5, hlt, hlt2, e1, e2, he']
        exact ⟨k - 1, by omega, i + 1, by omega, wrap_nat (by omega), take_step hlt hlt2 ht he⟩
      · have he' := he
        rw [slot_eq] at he'
        have he2 := he'
        try simp only [Classical.not_and_iff_not_or_not] at he2
        simp -implicitDefEqProofs [h0, h1, h5, hlt, hlt2, e1, e2, he', he2]
        intro e; subst e; exact he rfl
    · have hlt2 : ¬ i < ys.length := by omega
      simp -implicitDefEqProofs [h0, h1, h5, hlt, hlt2]
      exact take_all (by omega) (by omega) ht
  · have hl' : ¬ (xs.length : Int) = ys.length := by omega
    simp -implicitDefEqProofs [m69, hl']
    intro h; exact hl (by rw [h])

theorem c_SameEvents (xs ys : List Event) (z1 z2 : Bool) (hx : lenOK xs) : PCall tab 31 [.vs (xs.map encEvent) z1, .vs (ys.map encEvent) z2] (.bool (decide (xs = ys))) := by
  unfold lenOK at hx
  refine PCall.of (F := m31) rfl rfl rfl rfl ?_
  by_cases hl : xs.length = ys.length
  · simp -implicitDefEqProofs [m31, hl]
    refine loop_by (fun k E T => T = TH.none ∧ ∃ i : Nat, i + k = xs.length ∧ E.get 0 = .a (.vs (xs.map encEvent) z1) ∧ E.get 1 = .a (.vs (ys.map encEvent) z2) ∧ E.get 5 = .a (.int .i64 i) ∧ xs.take i = ys.take i) ?_ xs.length ⟨rfl, 0, by simp⟩
    rintro k E T ⟨rfl, i, hi, h0, h1, h5, ht⟩
    by_cases hlt : i < xs.length
    · have hlt2 : i < ys.length := by omega
      have e1 := List.getElem?_eq_getElem hlt
      have e2 := List.getElem?_eq_getElem hlt2
      by_cases he : xs[i] = ys[i]
      · have he' := he
        rw [event_eq] at he'
        simp -implicitDefEqProofs [h0, h1, h5, hlt, hlt2, e1, e2, he']
        exact ⟨k - 1, by omega, i + 1, by omega, wrap_nat (by omega), take_step hlt hlt2 ht he⟩
      · have he' := he
        rw [event_eq] at he'
        have he2 := he'
        try simp only [Classical.not_and_iff_not_or_not] at he2
        simp -implicitDefEqProofs [h0, h1, h5, hlt, hlt2, e1, e2, he', he2]
        intro e; subst e; exact he rfl
    · have hlt2 : ¬ i < ys.length := by omega
      simp -implicitDefEqProofs [h0, h1, h5, hlt, hlt2]
      exact take_all (by omega) (by omega) ht
  · have hl' : ¬ (xs.length : Int) = ys.length := by omega
    simp -implicitDefEqProofs [m31, hl']
    intro h; exact hl (by rw [h])

end Go.Ab

namespace Go.Ab

theorem ring_eq {a b : Ring} : a = b ↔ a.head = b.head ∧ a.tail = b.tail ∧ a.fence = b.fence ∧ a.slots = b.slots := by cases a; cases b; simp
theorem state_eq {a b : State} : a = b ↔ a.r0 = b.r0 ∧ a.r1 = b.r1 ∧ a.r2 = b.r2 ∧ a.r3 = b.r3 := by cases a; cases b; simp
theorem thread_eq {a b : Thread} : a = b ↔ a.step = b.step ∧ (a.op.code = b.op.code ∧ a.op.row = b.op.row ∧ a.op.arg = b.op.arg) ∧ a.log = b.log ∧ a.seen = b.seen ∧ a.batch = b.batch ∧ a.at_ = b.at_ ∧ a.posted = b.posted ∧ a.ready = b.ready ∧ a.answer = b.answer ∧ a.tails = b.tails := by
  cases a; cases b; simp [op_eq]

theorem c_SameRing (a b : Ring) (z1 z2 : Bool) (h : lenOK a.slots) : PCall tab 32 [.agg (encRing z1 a), .agg (encRing z2 b)] (.bool (decide (a = b))) := by
  refine PCall.dec ring_eq ?_
  refine PCall.of (F := m32) rfl rfl rfl rfl ?_
  by_cases h1 : a.head = b.head <;> by_cases h2 : a.tail = b.tail <;> by_cases h3 : a.fence = b.fence <;> simp -implicitDefEqProofs [m32, h1, h2, h3]
  refine CallT.pure (c_SameSlots a.slots b.slots false false h) (by simp) rfl ?_
  simp

theorem c_SameThread (a b : Thread) (z1 z2 : Bool) (h1 : lenOK a.batch) (h2 : lenOK a.tails) : PCall tab 33 [.agg (encThread z1 a), .agg (encThread z2 b)] (.bool (decide (a = b))) := by
  refine PCall.dec thread_eq ?_
  refine PCall.of (F := m33) rfl rfl rfl rfl ?_
  by_cases e1 : a.step = b.step
  · by_cases e2 : a.op.code = b.op.code ∧ a.op.row = b.op.row ∧ a.op.arg = b.op.arg
    · by_cases e3 : a.log = b.log
      · by_cases e4 : a.seen = b.seen
        · simp -implicitDefEqProofs [m33, e1, e2, e3, e4]
          refine CallT.pure (c_SameInts a.batch b.batch false false h1) (by simp) rfl ?_
          by_cases e5 : a.batch = b.batch
          · by_cases e6 : a.at_ = b.at_
            · by_cases e7 : a.posted = b.posted
              · by_cases e8 : a.ready = b.ready
                · by_cases e9 : a.answer = b.answer
                  · simp -implicitDefEqProofs [e5, e6, e7, e8, e9]
                    refine CallT.pure (c_SameInts a.tails b.tails false false h2) (by simp) rfl ?_
                    simp
                  · simp -implicitDefEqProofs [e5, e6, e7, e8, e9]
                · simp -implicitDefEqProofs [e5, e6, e7, e8]
              · simp -implicitDefEqProofs [e5, e6, e7]
            · simp -implicitDefEqProofs [e5, e6]
          · simp -implicitDefEqProofs [e5]
        · simp -implicitDefEqProofs [m33, e1, e2, e3, e4]
      · simp -implicitDefEqProofs [m33, e1, e2, e3]
    · have e2' : (a.op.code == b.op.code && (a.op.row == b.op.row && a.op.arg == b.op.arg)) = false := by
        cases hx : (a.op.code == b.op.code && (a.op.row == b.op.row && a.op.arg == b.op.arg)) with
        | false => rfl
        | true => simp at hx; exact absurd hx e2
      simp -implicitDefEqProofs [m33, e1, e2, e2']
  · simp -implicitDefEqProofs [m33, e1]

end Go.Ab

namespace Go.Ab

@[simp] theorem wrap0 : IntKind.wrap .i64 (0 + 1) = 1 := by decide
@[simp] theorem wrap1 : IntKind.wrap .i64 (1 + 1) = 2 := by decide
@[simp] theorem wrap2 : IntKind.wrap .i64 (2 + 1) = 3 := by decide
@[simp] theorem wrap3 : IntKind.wrap .i64 (3 + 1) = 4 := by decide
@[simp] theorem wrap0' : IntKind.wrap .i64 1 = 1 := by decide
@[simp] theorem wrap1' : IntKind.wrap .i64 2 = 2 := by decide
@[simp] theorem wrap2' : IntKind.wrap .i64 3 = 3 := by decide
@[simp] theorem wrap3' : IntKind.wrap .i64 4 = 4 := by decide

def okS (s : State) : Prop := lenOK s.r0 ∧ lenOK s.r1 ∧ lenOK s.r2 ∧ lenOK s.r3

theorem c_SameState (a b : State) (z1 z2 : Bool) (h : okS a) : PCall tab 18 [.agg (encState z1 a), .agg (encState z2 b)] (.bool (decide (a = b))) := by
  obtain ⟨h0, h1, h2, h3⟩ := h
  refine PCall.dec state_eq ?_
  refine PCall.of (F := m18) rfl rfl rfl rfl ?_
  simp -implicitDefEqProofs [m18]
  refine WCT.unroll ?_
  simp -implicitDefEqProofs
  refine CallT.pure (c_SameInts a.r0 b.r0 false false h0) (by simp) rfl ?_
  by_cases e0 : a.r0 = b.r0
  · simp -implicitDefEqProofs [e0]
    refine WCT.unroll ?_
    simp -implicitDefEqProofs
    refine CallT.pure (c_SameInts a.r1 b.r1 false false h1) (by simp) rfl ?_
    by_cases e1 : a.r1 = b.r1
    · simp -implicitDefEqProofs [e1]
      refine WCT.unroll ?_
      simp -implicitDefEqProofs
      refine CallT.pure (c_SameInts a.r2 b.r2 false false h2) (by simp) rfl ?_
      by_cases e2 : a.r2 = b.r2
      · simp -implicitDefEqProofs [e2]
        refine WCT.unroll ?_
        simp -implicitDefEqProofs
        refine CallT.pure (c_SameInts a.r3 b.r3 false false h3) (by simp) rfl ?_
        by_cases e3 : a.r3 = b.r3
        · simp -implicitDefEqProofs [e3]
          refine WCT.unroll ?_
          simp -implicitDefEqProofs
        · simp -implicitDefEqProofs [e3]
      · simp -implicitDefEqProofs [e2]
    · simp -implicitDefEqProofs [e1]
  · simp -implicitDefEqProofs [e0]

theorem replica_eq {a b : Replica} : a = b ↔ a.state = b.state ∧ a.cursors = b.cursors ∧ a.locks = b.locks := by cases a; cases b; simp
theorem config_eq {a b : Config} : a = b ↔ a.object = b.object ∧ a.replicas = b.replicas ∧ a.logs = b.logs ∧ a.threads = b.threads ∧ a.slots = b.slots := by cases a; cases b; simp
theorem machine_eq {a b : Machine} : a = b ↔ a.config = b.config ∧ a.rings = b.rings ∧ a.replicas = b.replicas ∧ a.threads = b.threads ∧ a.history = b.history := by cases a; cases b; simp

/-- the lengths in it are such that memory allows -/
def okR (r : Ring) : Prop := lenOK r.slots
def okP' (r : Replica) : Prop := okS r.state ∧ lenOK r.cursors ∧ lenOK r.locks
def okTh (t : Thread) : Prop := lenOK t.batch ∧ lenOK t.tails
def okM (m : Machine) : Prop := (lenOK m.rings ∧ ∀ r ∈ m.rings, okR r) ∧ (lenOK m.replicas ∧ ∀ r ∈ m.replicas, okP' r) ∧ (lenOK m.threads ∧ ∀ t ∈ m.threads, okTh t) ∧ lenOK m.history

end Go.Ab

namespace Go.Ab

set_option maxHeartbeats 1000000 in
theorem c_SameMachine (a b : Machine) (z1 z2 : Bool) (h : okM a) : PCall tab 11 [.agg (encMachine z1 a), .agg (encMachine z2 b)] (.bool (decide (a = b))) := by
  obtain ⟨⟨hr, hr'⟩, ⟨hp, hp'⟩, ⟨ht, ht'⟩, hh⟩ := h
  unfold lenOK at hr hp ht
  refine PCall.dec machine_eq ?_
  refine PCall.of (F := m11) rfl rfl rfl rfl ?_
  by_cases ec : a.config = b.config
  · have ec' := config_eq.1 ec
    by_cases lr : a.rings.length = b.rings.length
    · by_cases lp : a.replicas.length = b.replicas.length
      · by_cases lt : a.threads.length = b.threads.length
        · simp -implicitDefEqProofs [m11, ec, ec', lr, lp, lt]
          refine CallT.bool (c_SameEvents a.history b.history false false hh) (by simp) (fun eh => ?_) (fun eh => ?_)
          · simp -implicitDefEqProofs [eh]
            refine loop_by (fun k E T => T = TH.none ∧ ∃ i : Nat, i + k = a.rings.length ∧ E.get 2 = .lp 0 0 ∧ E.get 3 = .lp 1 0 ∧ E.get 5 = .a (.int .i64 i) ∧ E.var 0 = some ((encMachine z1 a).map .a) ∧ E.var 1 = some ((encMachine z2 b).map .a) ∧ E.ln = 2 ∧ a.rings.take i = b.rings.take i) ?_ a.rings.length ⟨rfl, 0, by simp [ec', eh]⟩
            rintro k E T ⟨rfl, i, hi, h2, h3, h5, v0, v1, hln, hpre⟩
            by_cases hlt : i < a.rings.length
            · have hlt2 : i < b.rings.length := by omega
              have g1 := List.getElem?_eq_getElem hlt
              have g2 := List.getElem?_eq_getElem hlt2
              simp -implicitDefEqProofs [h2, h3, h5, v0, v1, hlt, hlt2, g1, g2]
              refine CallT.bool (c_SameRing a.rings[i] b.rings[i] false false (hr' _ (List.getElem_mem hlt))) (by simp) (fun he => ?_) (fun he => ?_)
              · simp -implicitDefEqProofs [h2, h3, h5, v0, v1, hln, he]
                exact ⟨k - 1, by omega, i + 1, by omega, wrap_nat (by omega), take_step hlt hlt2 hpre he⟩
              · simp -implicitDefEqProofs [he]
                intro e; simp [e] at he
            · have hlt2 : ¬ i < b.rings.length := by omega
              have er := take_all (by omega) (by omega) hpre
              simp -implicitDefEqProofs [h2, h3, h5, v0, v1, hlt, hlt2, er]
              refine loop_by (fun k E T => T = TH.none ∧ ∃ i : Nat, i + k = a.replicas.length ∧ E.get 2 = .lp 0 0 ∧ E.get 3 = .lp 1 0 ∧ E.get 6 = .a (.int .i64 i) ∧ E.var 0 = some ((encMachine z1 a).map .a) ∧ E.var 1 = some ((encMachine z2 b).map .a) ∧ 2 ≤ E.ln ∧ a.replicas.take i = b.replicas.take i) ?_ a.replicas.length ⟨rfl, 0, by simp [h2, h3, v0, v1, hln, er]⟩
              clear hpre hlt hlt2 hi h2 h3 h5 v0 v1 hln
              rintro k E T ⟨rfl, i, hi, h2, h3, h5, v0, v1, hln, hpre⟩
              by_cases hlt : i < a.replicas.length
              · have hlt2 : i < b.replicas.length := by omega
                have g1 := List.getElem?_eq_getElem hlt
                have g2 := List.getElem?_eq_getElem hlt2
                have n0 : ¬ E.ln = 0 := by omega
                have n1 : ¬ E.ln = 1 := by omega
                have n2 : ¬ E.ln + 1 = 0 := by omega
                have n3 : ¬ E.ln + 1 = 1 := by omega
                simp -implicitDefEqProofs [h2, h3, h5, v0, v1, hlt, hlt2, g1, g2, n0, n1, n2, n3, pairT, stOf, ldOf, apartT]
                refine CallT.forget (fun E => E.get 2 = .lp 0 0 ∧ E.get 3 = .lp 1 0 ∧ E.get 6 = .a (.int .i64 i) ∧ E.var 0 = some ((encMachine z1 a).map .a) ∧ E.var 1 = some ((encMachine z2 b).map .a) ∧ 2 ≤ E.ln ∧ ∃ n, E.get 7 = .lp n 0 ∧ E.get 8 = .lp (n + 1) 0 ∧ E.var n = some ((encReplica z1 a.replicas[i]).map .a) ∧ E.var (n + 1) = some ((encReplica z2 b.replicas[i]).map .a)) ⟨by simp [h2], by simp [h3], by simp [h5], by simp [v0, n0, n1, n2, n3], by simp [v1, n0, n1, n2, n3], by simp <;> omega, E.ln, by simp, by simp, by simp, by simp⟩ ?_
                clear h2 h3 h5 v0 v1 hln n0 n1 n2 n3
                rintro E ⟨h2, h3, h5, v0, v1, hln, n, h7, h8, v7, v8⟩
                refine CallT.bool (c_SameState a.replicas[i].state b.replicas[i].state false false (hp' _ (List.getElem_mem hlt)).1) (by simp) (fun e1 => ?_) (fun e1 => ?_)
                · simp -implicitDefEqProofs [e1, h7, h8, v7, v8]
                  refine CallT.bool (c_SameInts a.replicas[i].cursors b.replicas[i].cursors false false (hp' _ (List.getElem_mem hlt)).2.1) (by simp) (fun e2 => ?_) (fun e2 => ?_)
                  · simp -implicitDefEqProofs [e2, h7, h8, v7, v8]
                    refine CallT.bool (c_SameInts a.replicas[i].locks b.replicas[i].locks false false (hp' _ (List.getElem_mem hlt)).2.2) (by simp) (fun e3 => ?_) (fun e3 => ?_)
                    · have he : a.replicas[i] = b.replicas[i] := replica_eq.2 ⟨e1, e2, e3⟩
                      simp -implicitDefEqProofs [e3, h2, h3, h5, v0, v1]
                      exact ⟨k - 1, by omega, i + 1, by omega, wrap_nat (by omega), by omega, take_step hlt hlt2 hpre he⟩
                    · simp -implicitDefEqProofs [e3]
                      intro e; simp [e] at e3
                  · simp -implicitDefEqProofs [e2]
                    intro e; simp [e] at e2
                · simp -implicitDefEqProofs [e1]
                  intro e; simp [e] at e1
              · have hlt2 : ¬ i < b.replicas.length := by omega
                have ep := take_all (by omega) (by omega) hpre
                simp -implicitDefEqProofs [h2, h3, h5, v0, v1, hlt, hlt2, ep]
                refine loop_by (fun k E T => T = TH.none ∧ ∃ i : Nat, i + k = a.threads.length ∧ E.get 2 = .lp 0 0 ∧ E.get 3 = .lp 1 0 ∧ E.get 9 = .a (.int .i64 i) ∧ E.var 0 = some ((encMachine z1 a).map .a) ∧ E.var 1 = some ((encMachine z2 b).map .a) ∧ a.threads.take i = b.threads.take i) ?_ a.threads.length ⟨rfl, 0, by simp [h2, h3, v0, v1, ep]⟩
                clear hpre hlt hlt2 hi h2 h3 h5 v0 v1 hln
                rintro k E T ⟨rfl, i, hi, h2, h3, h5, v0, v1, hpre⟩
                by_cases hlt : i < a.threads.length
                · have hlt2 : i < b.threads.length := by omega
                  have g1 := List.getElem?_eq_getElem hlt
                  have g2 := List.getElem?_eq_getElem hlt2
                  simp -implicitDefEqProofs [h2, h3, h5, v0, v1, hlt, hlt2, g1, g2]
                  refine CallT.bool (c_SameThread a.threads[i] b.threads[i] false false (ht' _ (List.getElem_mem hlt)).1 (ht' _ (List.getElem_mem hlt)).2) (by simp) (fun he => ?_) (fun he => ?_)
                  · simp -implicitDefEqProofs [h2, h3, h5, v0, v1, he]
                    exact ⟨k - 1, by omega, i + 1, by omega, wrap_nat (by omega), take_step hlt hlt2 hpre he⟩
                  · simp -implicitDefEqProofs [he]
                    intro e; simp [e] at he
                · have hlt2 : ¬ i < b.threads.length := by omega
                  have et := take_all (by omega) (by omega) hpre
                  simp -implicitDefEqProofs [h2, h3, h5, v0, v1, hlt, hlt2, et]
          · simp -implicitDefEqProofs [eh]
        · have lt' : ¬ (a.threads.length : Int) = b.threads.length := by omega
          simp -implicitDefEqProofs [m11, ec, ec', lr, lp, lt']
          intro _ _ e; exact absurd (congrArg List.length e) lt
      · have lp' : ¬ (a.replicas.length : Int) = b.replicas.length := by omega
        simp -implicitDefEqProofs [m11, ec, ec', lr, lp']
        intro _ e; exact absurd (congrArg List.length e) lp
    · have lr' : ¬ (a.rings.length : Int) = b.rings.length := by omega
      simp -implicitDefEqProofs [m11, ec, ec', lr']
      intro e; exact absurd (congrArg List.length e) lr
  · have ec' := mt config_eq.2 ec
    have ec2 := ec'
    simp only [Classical.not_and_iff_not_or_not] at ec2
    simp -implicitDefEqProofs [m11, ec, ec', ec2]

end Go.Ab

namespace Go.Ab

@[reducible] def argMay (x : Int) : Prop := 0 ≤ x ∧ x ≤ 255
@[reducible] def opMay (o : Op) : Prop := 0 ≤ o.row ∧ o.row < 4 ∧ 0 ≤ o.arg ∧ o.arg ≤ 255 ∧ (o.code = 0 ∨ o.code = 1 ∨ (o.code = 2 ∧ o.arg = 0) ∨ (o.code = 3 ∧ o.arg = 0 ∧ o.row = 0))
@[reducible] def updates (o : Op) : Prop := opMay o ∧ (o.code = 0 ∨ o.code = 1)

theorem c_operArg (x : Int) : PCall tab 152 [.int .i64 x] (.bool (decide (argMay x))) := by
  refine PCall.of (F := m152) rfl rfl rfl rfl ?_
  by_cases h1 : 0 ≤ x <;> by_cases h2 : x ≤ 255 <;> simp -implicitDefEqProofs [m152, h1, h2]

theorem c_operMay (o : Op) : PCall tab 131 [.agg (encOp o)] (.bool (decide (opMay o))) := by
  refine PCall.of (F := m131) rfl rfl rfl rfl ?_
  simp -implicitDefEqProofs [m131]
  repeat' (first
    | (refine guard_by (fun hb => ?_) (fun hb => ?_) <;> rw [hb] <;> (try simp at hb) <;> simp -implicitDefEqProofs [hb])
    | (refine cond_by (fun hb => ?_) (fun hb => ?_) <;> rw [hb] <;> (try simp at hb) <;> simp -implicitDefEqProofs [hb])
    | (refine CallT.bool2 rfl (c_operArg _) (fun hb => ?_) (fun hb => ?_) <;> simp -implicitDefEqProofs [hb]))
  all_goals (first | omega | (simp only [beq_int, bne_int, ← Bool.decide_and, ← Bool.decide_or, decide_eq_decide] <;> omega))

end Go.Ab

namespace Go.Ab

/-- where the first such element is, or -1 -/
def idxOf {α : Type} (q : α → Bool) (xs : List α) : Int := if xs.findIdx q < xs.length then ((xs.findIdx q : Nat) : Int) else -1

theorem idxOf_nonneg {α : Type} (q : α → Bool) (xs : List α) : 0 ≤ idxOf q xs ↔ ∃ x ∈ xs, q x = true := by
  unfold idxOf
  rw [← List.findIdx_lt_length (p := q)]
  split
  · rename_i h; simp [h]
  · rename_i h; simp [h]

theorem idx_here {α : Type} {q : α → Bool} {xs : List α} {i : Nat} (hi : i < xs.length) (hle : i ≤ xs.findIdx q) (hq : q xs[i] = true) : xs.findIdx q = i := by
  rcases Nat.lt_or_ge i (xs.findIdx q) with h | h
  · have := List.not_of_lt_findIdx h; rw [hq] at this; simp at this
  · omega

theorem idx_on {α : Type} {q : α → Bool} {xs : List α} {i : Nat} (hi : i < xs.length) (hle : i ≤ xs.findIdx q) (hq : q xs[i] = false) : i + 1 ≤ xs.findIdx q := by
  rcases Nat.lt_or_ge i (xs.findIdx q) with h | h
  · omega
  · have e : xs.findIdx q = i := by omega
    have := List.findIdx_getElem (p := q) (w := by rw [e]; exact hi)
    simp only [e] at this
    rw [hq] at this; cases this

theorem c_IndexRing (xs : List Ring) (z : Bool) (hx : lenOK xs) (q : Ring → Bool) (k : FuncId) (first cap : List AV) (hc : ∀ x ∈ xs, PCall tab k (first ++ [.agg (encRing false x)] ++ cap) (.bool (q x)))
    (hfz : ∀ x : Ring, mapO (fzT TH.none) (first.map .a ++ [.a (.agg (encRing false x))] ++ cap.map .a) = some (first ++ [.agg (encRing false x)] ++ cap)) : PCall tab 143 [.vs (xs.map (encRing false)) z, .fn (.func k) first cap] (.int .i64 (idxOf q xs)) := by
  unfold lenOK at hx
  refine PCall.of (F := m143) rfl rfl rfl rfl ?_
  simp -implicitDefEqProofs [m143]
  refine loop_by (fun m E T => T = TH.none ∧ ∃ i : Nat, i + m = xs.length ∧ E.get 0 = .a (.vs (xs.map (encRing false)) z) ∧ E.get 1 = .a (.fn (.func k) first cap) ∧ E.get 7 = .a (.int .i64 xs.length) ∧ E.get 8 = .a (.int .i64 i) ∧ i ≤ xs.findIdx q) ?_ xs.length ⟨rfl, 0, by simp⟩
  rintro m E T ⟨rfl, i, hi, h0, h1, h7, h8, hle⟩
  by_cases hlt : i < xs.length
  · have g1 := List.getElem?_eq_getElem hlt
    simp -implicitDefEqProofs [h0, h1, h7, h8, hlt, g1]
    have hf := hfz xs[i]
    simp only [List.append_assoc, List.cons_append, List.nil_append] at hf
    refine CallT.pure (by simpa using hc xs[i] (List.getElem_mem hlt)) hf rfl ?_
    cases hq : q xs[i] with
    | true =>
      have e := idx_here hlt hle hq
      simp -implicitDefEqProofs [idxOf, e, hlt, hq]
    | false =>
      simp -implicitDefEqProofs [hq, h0, h1, h7, h8]
      exact ⟨m - 1, by omega, i + 1, by omega, wrap_nat (by omega), idx_on hlt hle hq⟩
  · have e : ¬ xs.findIdx q < xs.length := by have := List.findIdx_le_length (xs := xs) (p := q); omega
    simp -implicitDefEqProofs [h0, h1, h7, h8, hlt, idxOf, e]

theorem c_ContainsRing (xs : List Ring) (z : Bool) (hx : lenOK xs) (q : Ring → Bool) (k : FuncId) (first cap : List AV) (hc : ∀ x ∈ xs, PCall tab k (first ++ [.agg (encRing false x)] ++ cap) (.bool (q x)))
    (hfz : ∀ x : Ring, mapO (fzT TH.none) (first.map .a ++ [.a (.agg (encRing false x))] ++ cap.map .a) = some (first ++ [.agg (encRing false x)] ++ cap)) (hfn : freeze AH.none 12 (.fn (.func k) first cap) = some (.fn (.func k) first cap)) (hcl : cloL first = true ∧ cloL cap = true) : PCall tab 119 [.vs (xs.map (encRing false)) z, .fn (.func k) first cap] (.bool (xs.any q)) := by
  refine PCall.of (F := m119) rfl rfl rfl rfl ?_
  simp -implicitDefEqProofs [m119]
  refine CallT.pure (c_IndexRing xs false hx q k first cap hc hfz) (by simp [mapO, fzT_a, hcl, clo, hfn]) rfl ?_
  simp -implicitDefEqProofs
  by_cases h : 0 ≤ idxOf q xs
  · have := (idxOf_nonneg q xs).1 h
    simp [h]; simpa using this
  · have := mt (idxOf_nonneg q xs).2 h
    simp [h]; simpa using this

theorem c_IndexSlot (xs : List Slot) (z : Bool) (hx : lenOK xs) (q : Slot → Bool) (k : FuncId) (first cap : List AV) (hc : ∀ x ∈ xs, PCall tab k (first ++ [.agg (encSlot x)] ++ cap) (.bool (q x)))
    (hfz : ∀ x : Slot, mapO (fzT TH.none) (first.map .a ++ [.a (.agg (encSlot x))] ++ cap.map .a) = some (first ++ [.agg (encSlot x)] ++ cap)) : PCall tab 154 [.vs (xs.map encSlot) z, .fn (.func k) first cap] (.int .i64 (idxOf q xs)) := by
  unfold lenOK at hx
  refine PCall.of (F := m154) rfl rfl rfl rfl ?_
  simp -implicitDefEqProofs [m154]
  refine loop_by (fun m E T => T = TH.none ∧ ∃ i : Nat, i + m = xs.length ∧ E.get 0 = .a (.vs (xs.map encSlot) z) ∧ E.get 1 = .a (.fn (.func k) first cap) ∧ E.get 7 = .a (.int .i64 xs.length) ∧ E.get 8 = .a (.int .i64 i) ∧ i ≤ xs.findIdx q) ?_ xs.length ⟨rfl, 0, by simp⟩
  rintro m E T ⟨rfl, i, hi, h0, h1, h7, h8, hle⟩
  by_cases hlt : i < xs.length
  · have g1 := List.getElem?_eq_getElem hlt
    simp -implicitDefEqProofs [h0, h1, h7, h8, hlt, g1]
    have hf := hfz xs[i]
    simp only [List.append_assoc, List.cons_append, List.nil_append] at hf
    refine CallT.pure (by simpa using hc xs[i] (List.getElem_mem hlt)) hf rfl ?_
    cases hq : q xs[i] with
    | true =>
      have e := idx_here hlt hle hq
      simp -implicitDefEqProofs [idxOf, e, hlt, hq]
    | false =>
      simp -implicitDefEqProofs [hq, h0, h1, h7, h8]
      exact ⟨m - 1, by omega, i + 1, by omega, wrap_nat (by omega), idx_on hlt hle hq⟩
  · have e : ¬ xs.findIdx q < xs.length := by have := List.findIdx_le_length (xs := xs) (p := q); omega
    simp -implicitDefEqProofs [h0, h1, h7, h8, hlt, idxOf, e]

theorem c_ContainsSlot (xs : List Slot) (z : Bool) (hx : lenOK xs) (q : Slot → Bool) (k : FuncId) (first cap : List AV) (hc : ∀ x ∈ xs, PCall tab k (first ++ [.agg (encSlot x)] ++ cap) (.bool (q x)))
    (hfz : ∀ x : Slot, mapO (fzT TH.none) (first.map .a ++ [.a (.agg (encSlot x))] ++ cap.map .a) = some (first ++ [.agg (encSlot x)] ++ cap)) (hfn : freeze AH.none 12 (.fn (.func k) first cap) = some (.fn (.func k) first cap)) (hcl : cloL first = true ∧ cloL cap = true) : PCall tab 135 [.vs (xs.map encSlot) z, .fn (.func k) first cap] (.bool (xs.any q)) := by
  refine PCall.of (F := m135) rfl rfl rfl rfl ?_
  simp -implicitDefEqProofs [m135]
  refine CallT.pure (c_IndexSlot xs false hx q k first cap hc hfz) (by simp [mapO, fzT_a, hcl, clo, hfn]) rfl ?_
  simp -implicitDefEqProofs
  by_cases h : 0 ≤ idxOf q xs
  · have := (idxOf_nonneg q xs).1 h
    simp [h]; simpa using this
  · have := mt (idxOf_nonneg q xs).2 h
    simp [h]; simpa using this

theorem c_Indexint (xs : List Int) (z : Bool) (hx : lenOK xs) (q : Int → Bool) (k : FuncId) (first cap : List AV) (hc : ∀ x ∈ xs, PCall tab k (first ++ [.int .i64 x] ++ cap) (.bool (q x)))
    (hfz : ∀ x : Int, mapO (fzT TH.none) (first.map .a ++ [.a (.int .i64 x)] ++ cap.map .a) = some (first ++ [.int .i64 x] ++ cap)) : PCall tab 164 [.vs (xs.map encInt) z, .fn (.func k) first cap] (.int .i64 (idxOf q xs)) := by
  unfold lenOK at hx
  refine PCall.of (F := m164) rfl rfl rfl rfl ?_
  simp -implicitDefEqProofs [m164]
  refine loop_by (fun m E T => T = TH.none ∧ ∃ i : Nat, i + m = xs.length ∧ E.get 0 = .a (.vs (xs.map encInt) z) ∧ E.get 1 = .a (.fn (.func k) first cap) ∧ E.get 7 = .a (.int .i64 xs.length) ∧ E.get 8 = .a (.int .i64 i) ∧ i ≤ xs.findIdx q) ?_ xs.length ⟨rfl, 0, by simp⟩
  rintro m E T ⟨rfl, i, hi, h0, h1, h7, h8, hle⟩
  by_cases hlt : i < xs.length
  · have g1 := List.getElem?_eq_getElem hlt
    simp -implicitDefEqProofs [h0, h1, h7, h8, hlt, g1]
    have hf := hfz xs[i]
    simp only [List.append_assoc, List.cons_append, List.nil_append] at hf
    refine CallT.pure (by simpa using hc xs[i] (List.getElem_mem hlt)) hf rfl ?_
    cases hq : q xs[i] with
    | true =>
      have e := idx_here hlt hle hq
      simp -implicitDefEqProofs [idxOf, e, hlt, hq]
    | false =>
      simp -implicitDefEqProofs [hq, h0, h1, h7, h8]
      exact ⟨m - 1, by omega, i + 1, by omega, wrap_nat (by omega), idx_on hlt hle hq⟩
  · have e : ¬ xs.findIdx q < xs.length := by have := List.findIdx_le_length (xs := xs) (p := q); omega
    simp -implicitDefEqProofs [h0, h1, h7, h8, hlt, idxOf, e]

theorem c_Containsint (xs : List Int) (z : Bool) (hx : lenOK xs) (q : Int → Bool) (k : FuncId) (first cap : List AV) (hc : ∀ x ∈ xs, PCall tab k (first ++ [.int .i64 x] ++ cap) (.bool (q x)))
    (hfz : ∀ x : Int, mapO (fzT TH.none) (first.map .a ++ [.a (.int .i64 x)] ++ cap.map .a) = some (first ++ [.int .i64 x] ++ cap)) (hfn : freeze AH.none 12 (.fn (.func k) first cap) = some (.fn (.func k) first cap)) (hcl : cloL first = true ∧ cloL cap = true) : PCall tab 148 [.vs (xs.map encInt) z, .fn (.func k) first cap] (.bool (xs.any q)) := by
  refine PCall.of (F := m148) rfl rfl rfl rfl ?_
  simp -implicitDefEqProofs [m148]
  refine CallT.pure (c_Indexint xs false hx q k first cap hc hfz) (by simp [mapO, fzT_a, hcl, clo, hfn]) rfl ?_
  simp -implicitDefEqProofs
  by_cases h : 0 ≤ idxOf q xs
  · have := (idxOf_nonneg q xs).1 h
    simp [h]; simpa using this
  · have := mt (idxOf_nonneg q xs).2 h
    simp [h]; simpa using this

theorem c_IndexReplica (xs : List Replica) (z : Bool) (hx : lenOK xs) (q : Replica → Bool) (k : FuncId) (first cap : List AV) (hc : ∀ x ∈ xs, PCall tab k (first ++ [.agg (encReplica false x)] ++ cap) (.bool (q x)))
    (hfz : ∀ x : Replica, mapO (fzT TH.none) (first.map .a ++ [.a (.agg (encReplica false x))] ++ cap.map .a) = some (first ++ [.agg (encReplica false x)] ++ cap)) : PCall tab 150 [.vs (xs.map (encReplica false)) z, .fn (.func k) first cap] (.int .i64 (idxOf q xs)) := by
  unfold lenOK at hx
  refine PCall.of (F := m150) rfl rfl rfl rfl ?_
  simp -implicitDefEqProofs [m150]
  refine loop_by (fun m E T => T = TH.none ∧ ∃ i : Nat, i + m = xs.length ∧ E.get 0 = .a (.vs (xs.map (encReplica false)) z) ∧ E.get 1 = .a (.fn (.func k) first cap) ∧ E.get 7 = .a (.int .i64 xs.length) ∧ E.get 8 = .a (.int .i64 i) ∧ i ≤ xs.findIdx q) ?_ xs.length ⟨rfl, 0, by simp⟩
  rintro m E T ⟨rfl, i, hi, h0, h1, h7, h8, hle⟩
  by_cases hlt : i < xs.length
  · have g1 := List.getElem?_eq_getElem hlt
    simp -implicitDefEqProofs [h0, h1, h7, h8, hlt, g1]
    have hf := hfz xs[i]
    simp only [List.append_assoc, List.cons_append, List.nil_append] at hf
    refine CallT.pure (by simpa using hc xs[i] (List.getElem_mem hlt)) hf rfl ?_
    cases hq : q xs[i] with
    | true =>
      have e := idx_here hlt hle hq
      simp -implicitDefEqProofs [idxOf, e, hlt, hq]
    | false =>
      simp -implicitDefEqProofs [hq, h0, h1, h7, h8]
      exact ⟨m - 1, by omega, i + 1, by omega, wrap_nat (by omega), idx_on hlt hle hq⟩
  · have e : ¬ xs.findIdx q < xs.length := by have := List.findIdx_le_length (xs := xs) (p := q); omega
    simp -implicitDefEqProofs [h0, h1, h7, h8, hlt, idxOf, e]

theorem c_ContainsReplica (xs : List Replica) (z : Bool) (hx : lenOK xs) (q : Replica → Bool) (k : FuncId) (first cap : List AV) (hc : ∀ x ∈ xs, PCall tab k (first ++ [.agg (encReplica false x)] ++ cap) (.bool (q x)))
    (hfz : ∀ x : Replica, mapO (fzT TH.none) (first.map .a ++ [.a (.agg (encReplica false x))] ++ cap.map .a) = some (first ++ [.agg (encReplica false x)] ++ cap)) (hfn : freeze AH.none 12 (.fn (.func k) first cap) = some (.fn (.func k) first cap)) (hcl : cloL first = true ∧ cloL cap = true) : PCall tab 127 [.vs (xs.map (encReplica false)) z, .fn (.func k) first cap] (.bool (xs.any q)) := by
  refine PCall.of (F := m127) rfl rfl rfl rfl ?_
  simp -implicitDefEqProofs [m127]
  refine CallT.pure (c_IndexReplica xs false hx q k first cap hc hfz) (by simp [mapO, fzT_a, hcl, clo, hfn]) rfl ?_
  simp -implicitDefEqProofs
  by_cases h : 0 ≤ idxOf q xs
  · have := (idxOf_nonneg q xs).1 h
    simp [h]; simpa using this
  · have := mt (idxOf_nonneg q xs).2 h
    simp [h]; simpa using this

theorem c_IndexThread (xs : List Thread) (z : Bool) (hx : lenOK xs) (q : Thread → Bool) (k : FuncId) (first cap : List AV) (hc : ∀ x ∈ xs, PCall tab k (first ++ [.agg (encThread false x)] ++ cap) (.bool (q x)))
    (hfz : ∀ x : Thread, mapO (fzT TH.none) (first.map .a ++ [.a (.agg (encThread false x))] ++ cap.map .a) = some (first ++ [.agg (encThread false x)] ++ cap)) : PCall tab 151 [.vs (xs.map (encThread false)) z, .fn (.func k) first cap] (.int .i64 (idxOf q xs)) := by
  unfold lenOK at hx
  refine PCall.of (F := m151) rfl rfl rfl rfl ?_
  simp -implicitDefEqProofs [m151]
  refine loop_by (fun m E T => T = TH.none ∧ ∃ i : Nat, i + m = xs.length ∧ E.get 0 = .a (.vs (xs.map (encThread false)) z) ∧ E.get 1 = .a (.fn (.func k) first cap) ∧ E.get 7 = .a (.int .i64 xs.length) ∧ E.get 8 = .a (.int .i64 i) ∧ i ≤ xs.findIdx q) ?_ xs.length ⟨rfl, 0, by simp⟩
  rintro m E T ⟨rfl, i, hi, h0, h1, h7, h8, hle⟩
  by_cases hlt : i < xs.length
  · have g1 := List.getElem?_eq_getElem hlt
    simp -implicitDefEqProofs [h0, h1, h7, h8, hlt, g1]
    have hf := hfz xs[i]
    simp only [List.append_assoc, List.cons_append, List.nil_append] at hf
    refine CallT.pure (by simpa using hc xs[i] (List.getElem_mem hlt)) hf rfl ?_
    cases hq : q xs[i] with
    | true =>
      have e := idx_here hlt hle hq
      simp -implicitDefEqProofs [idxOf, e, hlt, hq]
    | false =>
      simp -implicitDefEqProofs [hq, h0, h1, h7, h8]
      exact ⟨m - 1, by omega, i + 1, by omega, wrap_nat (by omega), idx_on hlt hle hq⟩
  · have e : ¬ xs.findIdx q < xs.length := by have := List.findIdx_le_length (xs := xs) (p := q); omega
    simp -implicitDefEqProofs [h0, h1, h7, h8, hlt, idxOf, e]

theorem c_ContainsThread (xs : List Thread) (z : Bool) (hx : lenOK xs) (q : Thread → Bool) (k : FuncId) (first cap : List AV) (hc : ∀ x ∈ xs, PCall tab k (first ++ [.agg (encThread false x)] ++ cap) (.bool (q x)))
    (hfz : ∀ x : Thread, mapO (fzT TH.none) (first.map .a ++ [.a (.agg (encThread false x))] ++ cap.map .a) = some (first ++ [.agg (encThread false x)] ++ cap)) (hfn : freeze AH.none 12 (.fn (.func k) first cap) = some (.fn (.func k) first cap)) (hcl : cloL first = true ∧ cloL cap = true) : PCall tab 129 [.vs (xs.map (encThread false)) z, .fn (.func k) first cap] (.bool (xs.any q)) := by
  refine PCall.of (F := m129) rfl rfl rfl rfl ?_
  simp -implicitDefEqProofs [m129]
  refine CallT.pure (c_IndexThread xs false hx q k first cap hc hfz) (by simp [mapO, fzT_a, hcl, clo, hfn]) rfl ?_
  simp -implicitDefEqProofs
  by_cases h : 0 ≤ idxOf q xs
  · have := (idxOf_nonneg q xs).1 h
    simp [h]; simpa using this
  · have := mt (idxOf_nonneg q xs).2 h
    simp [h]; simpa using this

theorem c_IndexEvent (xs : List Event) (z : Bool) (hx : lenOK xs) (q : Event → Bool) (k : FuncId) (first cap : List AV) (hc : ∀ x ∈ xs, PCall tab k (first ++ [.agg (encEvent x)] ++ cap) (.bool (q x)))
    (hfz : ∀ x : Event, mapO (fzT TH.none) (first.map .a ++ [.a (.agg (encEvent x))] ++ cap.map .a) = some (first ++ [.agg (encEvent x)] ++ cap)) : PCall tab 153 [.vs (xs.map encEvent) z, .fn (.func k) first cap] (.int .i64 (idxOf q xs)) := by
  unfold lenOK at hx
  refine PCall.of (F := m153) rfl rfl rfl rfl ?_
  simp -implicitDefEqProofs [m153]
  refine loop_by (fun m E T => T = TH.none ∧ ∃ i : Nat, i + m = xs.length ∧ E.get 0 = .a (.vs (xs.map encEvent) z) ∧ E.get 1 = .a (.fn (.func k) first cap) ∧ E.get 7 = .a (.int .i64 xs.length) ∧ E.get 8 = .a (.int .i64 i) ∧ i ≤ xs.findIdx q) ?_ xs.length ⟨rfl, 0, by simp⟩
  rintro m E T ⟨rfl, i, hi, h0, h1, h7, h8, hle⟩
  by_cases hlt : i < xs.length
  · have g1 := List.getElem?_eq_getElem hlt
    simp -implicitDefEqProofs [h0, h1, h7, h8, hlt, g1]
    have hf := hfz xs[i]
    simp only [List.append_assoc, List.cons_append, List.nil_append] at hf
    refine CallT.pure (by simpa using hc xs[i] (List.getElem_mem hlt)) hf rfl ?_
    cases hq : q xs[i] with
    | true =>
      have e := idx_here hlt hle hq
      simp -implicitDefEqProofs [idxOf, e, hlt, hq]
    | false =>
      simp -implicitDefEqProofs [hq, h0, h1, h7, h8]
      exact ⟨m - 1, by omega, i + 1, by omega, wrap_nat (by omega), idx_on hlt hle hq⟩
  · have e : ¬ xs.findIdx q < xs.length := by have := List.findIdx_le_length (xs := xs) (p := q); omega
    simp -implicitDefEqProofs [h0, h1, h7, h8, hlt, idxOf, e]

theorem c_ContainsEvent (xs : List Event) (z : Bool) (hx : lenOK xs) (q : Event → Bool) (k : FuncId) (first cap : List AV) (hc : ∀ x ∈ xs, PCall tab k (first ++ [.agg (encEvent x)] ++ cap) (.bool (q x)))
    (hfz : ∀ x : Event, mapO (fzT TH.none) (first.map .a ++ [.a (.agg (encEvent x))] ++ cap.map .a) = some (first ++ [.agg (encEvent x)] ++ cap)) (hfn : freeze AH.none 12 (.fn (.func k) first cap) = some (.fn (.func k) first cap)) (hcl : cloL first = true ∧ cloL cap = true) : PCall tab 133 [.vs (xs.map encEvent) z, .fn (.func k) first cap] (.bool (xs.any q)) := by
  refine PCall.of (F := m133) rfl rfl rfl rfl ?_
  simp -implicitDefEqProofs [m133]
  refine CallT.pure (c_IndexEvent xs false hx q k first cap hc hfz) (by simp [mapO, fzT_a, hcl, clo, hfn]) rfl ?_
  simp -implicitDefEqProofs
  by_cases h : 0 ≤ idxOf q xs
  · have := (idxOf_nonneg q xs).1 h
    simp [h]; simpa using this
  · have := mt (idxOf_nonneg q xs).2 h
    simp [h]; simpa using this

end Go.Ab

namespace Go.Ab

theorem c_allOneRing (x : Ring) (q : Bool) (k : FuncId) (first cap : List AV) (hc : PCall tab k (first ++ [.agg (encRing false x)] ++ cap) (.bool q)) (hfz : mapO (fzT TH.none) (first.map .a ++ [.a (.agg (encRing false x))] ++ cap.map .a) = some (first ++ [.agg (encRing false x)] ++ cap)) :
    PCall tab 120 [.agg (encRing false x), .vp [[.fn (.func k) first cap]] 0 0] (.bool (!q)) := by
  refine PCall.of (F := m120) rfl rfl rfl rfl ?_
  simp -implicitDefEqProofs [m120]
  simp only [List.append_assoc, List.cons_append, List.nil_append] at hfz
  refine CallT.pure (by simpa using hc) hfz rfl ?_
  simp -implicitDefEqProofs

theorem c_allRing (xs : List Ring) (z : Bool) (hx : lenOK xs) (q : Ring → Bool) (k : FuncId) (first cap : List AV) (hc : ∀ x ∈ xs, PCall tab k (first ++ [.agg (encRing false x)] ++ cap) (.bool (q x)))
    (hfz : ∀ x : Ring, mapO (fzT TH.none) (first.map .a ++ [.a (.agg (encRing false x))] ++ cap.map .a) = some (first ++ [.agg (encRing false x)] ++ cap)) (hfn : ∀ d, freeze AH.none (d + 3) (.fn (.func k) first cap) = some (.fn (.func k) first cap)) (hcl : cloL first = true ∧ cloL cap = true) : PCall tab 89 [.vs (xs.map (encRing false)) z, .fn (.func k) first cap] (.bool (xs.all q)) := by
  refine PCall.of (F := m89) rfl rfl rfl rfl ?_
  simp -implicitDefEqProofs [m89]
  refine CallT.pure (c_ContainsRing xs false hx (fun x => !q x) 120 [] [.vp [[.fn (.func k) first cap]] 0 0] (fun x hm => c_allOneRing x (q x) k first cap (hc x hm) (hfz x)) (fun x => by simp) (by simp) (by simp)) (by
    have h8 := hfn 7
    simp [hcl, h8]) rfl ?_
  simp -implicitDefEqProofs [List.all_eq_not_any_not]

theorem c_allOneSlot (x : Slot) (q : Bool) (k : FuncId) (first cap : List AV) (hc : PCall tab k (first ++ [.agg (encSlot x)] ++ cap) (.bool q)) (hfz : mapO (fzT TH.none) (first.map .a ++ [.a (.agg (encSlot x))] ++ cap.map .a) = some (first ++ [.agg (encSlot x)] ++ cap)) :
    PCall tab 144 [.agg (encSlot x), .vp [[.fn (.func k) first cap]] 0 0] (.bool (!q)) := by
  refine PCall.of (F := m144) rfl rfl rfl rfl ?_
  simp -implicitDefEqProofs [m144]
  simp only [List.append_assoc, List.cons_append, List.nil_append] at hfz
  refine CallT.pure (by simpa using hc) hfz rfl ?_
  simp -implicitDefEqProofs

theorem c_allSlot (xs : List Slot) (z : Bool) (hx : lenOK xs) (q : Slot → Bool) (k : FuncId) (first cap : List AV) (hc : ∀ x ∈ xs, PCall tab k (first ++ [.agg (encSlot x)] ++ cap) (.bool (q x)))
    (hfz : ∀ x : Slot, mapO (fzT TH.none) (first.map .a ++ [.a (.agg (encSlot x))] ++ cap.map .a) = some (first ++ [.agg (encSlot x)] ++ cap)) (hfn : ∀ d, freeze AH.none (d + 3) (.fn (.func k) first cap) = some (.fn (.func k) first cap)) (hcl : cloL first = true ∧ cloL cap = true) : PCall tab 123 [.vs (xs.map encSlot) z, .fn (.func k) first cap] (.bool (xs.all q)) := by
  refine PCall.of (F := m123) rfl rfl rfl rfl ?_
  simp -implicitDefEqProofs [m123]
  refine CallT.pure (c_ContainsSlot xs false hx (fun x => !q x) 144 [] [.vp [[.fn (.func k) first cap]] 0 0] (fun x hm => c_allOneSlot x (q x) k first cap (hc x hm) (hfz x)) (fun x => by simp) (by simp) (by simp)) (by
    have h8 := hfn 7
    simp [hcl, h8]) rfl ?_
  simp -implicitDefEqProofs [List.all_eq_not_any_not]

theorem c_allOneint (x : Int) (q : Bool) (k : FuncId) (first cap : List AV) (hc : PCall tab k (first ++ [.int .i64 x] ++ cap) (.bool q)) (hfz : mapO (fzT TH.none) (first.map .a ++ [.a (.int .i64 x)] ++ cap.map .a) = some (first ++ [.int .i64 x] ++ cap)) :
    PCall tab 149 [.int .i64 x, .vp [[.fn (.func k) first cap]] 0 0] (.bool (!q)) := by
  refine PCall.of (F := m149) rfl rfl rfl rfl ?_
  simp -implicitDefEqProofs [m149]
  simp only [List.append_assoc, List.cons_append, List.nil_append] at hfz
  refine CallT.pure (by simpa using hc) hfz rfl ?_
  simp -implicitDefEqProofs

theorem c_allint (xs : List Int) (z : Bool) (hx : lenOK xs) (q : Int → Bool) (k : FuncId) (first cap : List AV) (hc : ∀ x ∈ xs, PCall tab k (first ++ [.int .i64 x] ++ cap) (.bool (q x)))
    (hfz : ∀ x : Int, mapO (fzT TH.none) (first.map .a ++ [.a (.int .i64 x)] ++ cap.map .a) = some (first ++ [.int .i64 x] ++ cap)) (hfn : ∀ d, freeze AH.none (d + 3) (.fn (.func k) first cap) = some (.fn (.func k) first cap)) (hcl : cloL first = true ∧ cloL cap = true) : PCall tab 126 [.vs (xs.map encInt) z, .fn (.func k) first cap] (.bool (xs.all q)) := by
  refine PCall.of (F := m126) rfl rfl rfl rfl ?_
  simp -implicitDefEqProofs [m126]
  refine CallT.pure (c_Containsint xs false hx (fun x => !q x) 149 [] [.vp [[.fn (.func k) first cap]] 0 0] (fun x hm => c_allOneint x (q x) k first cap (hc x hm) (hfz x)) (fun x => by simp) (by simp) (by simp)) (by
    have h8 := hfn 7
    simp [hcl, h8]) rfl ?_
  simp -implicitDefEqProofs [List.all_eq_not_any_not]

theorem c_allOneReplica (x : Replica) (q : Bool) (k : FuncId) (first cap : List AV) (hc : PCall tab k (first ++ [.agg (encReplica false x)] ++ cap) (.bool q)) (hfz : mapO (fzT TH.none) (first.map .a ++ [.a (.agg (encReplica false x))] ++ cap.map .a) = some (first ++ [.agg (encReplica false x)] ++ cap)) :
    PCall tab 128 [.agg (encReplica false x), .vp [[.fn (.func k) first cap]] 0 0] (.bool (!q)) := by
  refine PCall.of (F := m128) rfl rfl rfl rfl ?_
  simp -implicitDefEqProofs [m128]
  simp only [List.append_assoc, List.cons_append, List.nil_append] at hfz
  refine CallT.pure (by simpa using hc) hfz rfl ?_
  simp -implicitDefEqProofs

theorem c_allReplica (xs : List Replica) (z : Bool) (hx : lenOK xs) (q : Replica → Bool) (k : FuncId) (first cap : List AV) (hc : ∀ x ∈ xs, PCall tab k (first ++ [.agg (encReplica false x)] ++ cap) (.bool (q x)))
    (hfz : ∀ x : Replica, mapO (fzT TH.none) (first.map .a ++ [.a (.agg (encReplica false x))] ++ cap.map .a) = some (first ++ [.agg (encReplica false x)] ++ cap)) (hfn : ∀ d, freeze AH.none (d + 3) (.fn (.func k) first cap) = some (.fn (.func k) first cap)) (hcl : cloL first = true ∧ cloL cap = true) : PCall tab 93 [.vs (xs.map (encReplica false)) z, .fn (.func k) first cap] (.bool (xs.all q)) := by
  refine PCall.of (F := m93) rfl rfl rfl rfl ?_
  simp -implicitDefEqProofs [m93]
  refine CallT.pure (c_ContainsReplica xs false hx (fun x => !q x) 128 [] [.vp [[.fn (.func k) first cap]] 0 0] (fun x hm => c_allOneReplica x (q x) k first cap (hc x hm) (hfz x)) (fun x => by simp) (by simp) (by simp)) (by
    have h8 := hfn 7
    simp [hcl, h8]) rfl ?_
  simp -implicitDefEqProofs [List.all_eq_not_any_not]

theorem c_allOneThread (x : Thread) (q : Bool) (k : FuncId) (first cap : List AV) (hc : PCall tab k (first ++ [.agg (encThread false x)] ++ cap) (.bool q)) (hfz : mapO (fzT TH.none) (first.map .a ++ [.a (.agg (encThread false x))] ++ cap.map .a) = some (first ++ [.agg (encThread false x)] ++ cap)) :
    PCall tab 130 [.agg (encThread false x), .vp [[.fn (.func k) first cap]] 0 0] (.bool (!q)) := by
  refine PCall.of (F := m130) rfl rfl rfl rfl ?_
  simp -implicitDefEqProofs [m130]
  simp only [List.append_assoc, List.cons_append, List.nil_append] at hfz
  refine CallT.pure (by simpa using hc) hfz rfl ?_
  simp -implicitDefEqProofs

theorem c_allThread (xs : List Thread) (z : Bool) (hx : lenOK xs) (q : Thread → Bool) (k : FuncId) (first cap : List AV) (hc : ∀ x ∈ xs, PCall tab k (first ++ [.agg (encThread false x)] ++ cap) (.bool (q x)))
    (hfz : ∀ x : Thread, mapO (fzT TH.none) (first.map .a ++ [.a (.agg (encThread false x))] ++ cap.map .a) = some (first ++ [.agg (encThread false x)] ++ cap)) (hfn : ∀ d, freeze AH.none (d + 3) (.fn (.func k) first cap) = some (.fn (.func k) first cap)) (hcl : cloL first = true ∧ cloL cap = true) : PCall tab 94 [.vs (xs.map (encThread false)) z, .fn (.func k) first cap] (.bool (xs.all q)) := by
  refine PCall.of (F := m94) rfl rfl rfl rfl ?_
  simp -implicitDefEqProofs [m94]
  refine CallT.pure (c_ContainsThread xs false hx (fun x => !q x) 130 [] [.vp [[.fn (.func k) first cap]] 0 0] (fun x hm => c_allOneThread x (q x) k first cap (hc x hm) (hfz x)) (fun x => by simp) (by simp) (by simp)) (by
    have h8 := hfn 7
    simp [hcl, h8]) rfl ?_
  simp -implicitDefEqProofs [List.all_eq_not_any_not]

theorem c_allOneEvent (x : Event) (q : Bool) (k : FuncId) (first cap : List AV) (hc : PCall tab k (first ++ [.agg (encEvent x)] ++ cap) (.bool q)) (hfz : mapO (fzT TH.none) (first.map .a ++ [.a (.agg (encEvent x))] ++ cap.map .a) = some (first ++ [.agg (encEvent x)] ++ cap)) :
    PCall tab 134 [.agg (encEvent x), .vp [[.fn (.func k) first cap]] 0 0] (.bool (!q)) := by
  refine PCall.of (F := m134) rfl rfl rfl rfl ?_
  simp -implicitDefEqProofs [m134]
  simp only [List.append_assoc, List.cons_append, List.nil_append] at hfz
  refine CallT.pure (by simpa using hc) hfz rfl ?_
  simp -implicitDefEqProofs

theorem c_allEvent (xs : List Event) (z : Bool) (hx : lenOK xs) (q : Event → Bool) (k : FuncId) (first cap : List AV) (hc : ∀ x ∈ xs, PCall tab k (first ++ [.agg (encEvent x)] ++ cap) (.bool (q x)))
    (hfz : ∀ x : Event, mapO (fzT TH.none) (first.map .a ++ [.a (.agg (encEvent x))] ++ cap.map .a) = some (first ++ [.agg (encEvent x)] ++ cap)) (hfn : ∀ d, freeze AH.none (d + 3) (.fn (.func k) first cap) = some (.fn (.func k) first cap)) (hcl : cloL first = true ∧ cloL cap = true) : PCall tab 96 [.vs (xs.map encEvent) z, .fn (.func k) first cap] (.bool (xs.all q)) := by
  refine PCall.of (F := m96) rfl rfl rfl rfl ?_
  simp -implicitDefEqProofs [m96]
  refine CallT.pure (c_ContainsEvent xs false hx (fun x => !q x) 134 [] [.vp [[.fn (.func k) first cap]] 0 0] (fun x hm => c_allOneEvent x (q x) k first cap (hc x hm) (hfz x)) (fun x => by simp) (by simp) (by simp)) (by
    have h8 := hfn 7
    simp [hcl, h8]) rfl ?_
  simp -implicitDefEqProofs [List.all_eq_not_any_not]

end Go.Ab

namespace Go.Ab

@[reducible] def objIs (x : Int) : Prop := 0 ≤ x ∧ x ≤ 2
@[reducible] def logsMay (x : Int) : Prop := 1 ≤ x ∧ x ≤ 2
@[reducible] def slotsMay (k : Int) : Prop := k = 2 ∨ k = 4 ∨ k = 8 ∨ k = 16
@[reducible] def cfgMay (c : Config) : Prop := objIs c.object ∧ (1 ≤ c.replicas ∧ c.replicas ≤ 2) ∧ logsMay c.logs ∧ (1 ≤ c.threads ∧ c.threads ≤ 4) ∧ slotsMay c.slots ∧ 2 * c.threads ≤ c.slots
@[reducible] def threadIn (x n : Int) : Prop := 0 ≤ x ∧ x < n
@[reducible] def slotOK (s : Slot) : Prop := updates s.op ∧ threadIn s.thread 4 ∧ (s.bit = 0 ∨ s.bit = 1)
@[reducible] def ringNums (r : Ring) : Prop := 0 ≤ r.head ∧ r.head ≤ r.tail ∧ r.tail ≤ 1048576 ∧ r.tail - r.head ≤ r.slots.length ∧ 0 ≤ r.fence ∧ r.fence ≤ 4 ∧ slotsMay r.slots.length
theorem c_objIs (x : Int) : PCall tab 107 [.int .i64 x] (.bool (decide (objIs x))) := by
  refine PCall.of (F := m107) rfl rfl rfl rfl ?_
  simp -implicitDefEqProofs [m107]
  repeat' (first
    | (with_reducible refine guard_by (fun hb => ?_) (fun hb => ?_) <;> rw [hb] <;> (try simp at hb) <;> simp -implicitDefEqProofs [hb])
    | (with_reducible refine cond_by (fun hb => ?_) (fun hb => ?_) <;> rw [hb] <;> (try simp at hb) <;> simp -implicitDefEqProofs [hb]))
  all_goals (try simp only [argMay, opMay, updates] at *)
  all_goals (first | omega | (rw [Bool.eq_iff_iff]; simp only [Bool.and_eq_true, Bool.or_eq_true, decide_eq_true_eq, Bool.not_eq_true', decide_eq_false_iff_not, beq_iff_eq, bne_iff_ne, ne_eq] <;> omega))

theorem c_logs (x : Int) : PCall tab 117 [.int .i64 x] (.bool (decide (logsMay x))) := by
  refine PCall.of (F := m117) rfl rfl rfl rfl ?_
  simp -implicitDefEqProofs [m117]
  repeat' (first
    | (with_reducible refine guard_by (fun hb => ?_) (fun hb => ?_) <;> rw [hb] <;> (try simp at hb) <;> simp -implicitDefEqProofs [hb])
    | (with_reducible refine cond_by (fun hb => ?_) (fun hb => ?_) <;> rw [hb] <;> (try simp at hb) <;> simp -implicitDefEqProofs [hb]))
  all_goals (try simp only [argMay, opMay, updates] at *)
  all_goals (first | omega | (rw [Bool.eq_iff_iff]; simp only [Bool.and_eq_true, Bool.or_eq_true, decide_eq_true_eq, Bool.not_eq_true', decide_eq_false_iff_not, beq_iff_eq, bne_iff_ne, ne_eq] <;> omega))

theorem c_ringThread (x n : Int) : PCall tab 137 [.int .i64 x, .int .i64 n] (.bool (decide (threadIn x n))) := by
  refine PCall.of (F := m137) rfl rfl rfl rfl ?_
  simp -implicitDefEqProofs [m137]
  repeat' (first
    | (with_reducible refine guard_by (fun hb => ?_) (fun hb => ?_) <;> rw [hb] <;> (try simp at hb) <;> simp -implicitDefEqProofs [hb])
    | (with_reducible refine cond_by (fun hb => ?_) (fun hb => ?_) <;> rw [hb] <;> (try simp at hb) <;> simp -implicitDefEqProofs [hb]))
  all_goals (try simp only [argMay, opMay, updates] at *)
  all_goals (first | omega | (rw [Bool.eq_iff_iff]; simp only [Bool.and_eq_true, Bool.or_eq_true, decide_eq_true_eq, Bool.not_eq_true', decide_eq_false_iff_not, beq_iff_eq, bne_iff_ne, ne_eq] <;> omega))

theorem c_updates (o : Op) : PCall tab 155 [.agg (encOp o)] (.bool (decide (updates o))) := by
  refine PCall.of (F := m155) rfl rfl rfl rfl ?_
  simp -implicitDefEqProofs [m155]
  repeat' (first
    | (with_reducible refine guard_by (fun hb => ?_) (fun hb => ?_) <;> rw [hb] <;> (try simp at hb) <;> simp -implicitDefEqProofs [hb])
    | (with_reducible refine cond_by (fun hb => ?_) (fun hb => ?_) <;> rw [hb] <;> (try simp at hb) <;> simp -implicitDefEqProofs [hb])
    | (refine CallT.bool2 rfl (c_operMay o) (fun hb => ?_) (fun hb => ?_) <;> simp -implicitDefEqProofs [hb]))
  all_goals (try simp only [argMay, opMay, updates] at *)
  all_goals (first | omega | (rw [Bool.eq_iff_iff]; simp only [Bool.and_eq_true, Bool.or_eq_true, decide_eq_true_eq, Bool.not_eq_true', decide_eq_false_iff_not, beq_iff_eq, bne_iff_ne, ne_eq] <;> omega))

theorem c_many (k : Int) : PCall tab 118 [.int .i64 k] (.bool (decide (slotsMay k))) := by
  refine PCall.of (F := m118) rfl rfl rfl rfl ?_
  simp -implicitDefEqProofs [m118]
  repeat' (first
    | (with_reducible refine guard_by (fun hb => ?_) (fun hb => ?_) <;> rw [hb] <;> (try simp at hb) <;> simp -implicitDefEqProofs [hb])
    | (with_reducible refine cond_by (fun hb => ?_) (fun hb => ?_) <;> rw [hb] <;> (try simp at hb) <;> simp -implicitDefEqProofs [hb]))
  all_goals (first | omega | skip)
  all_goals
    have hk : k = 2 ∨ k = 3 ∨ k = 4 ∨ k = 5 ∨ k = 6 ∨ k = 7 ∨ k = 8 ∨ k = 9 ∨ k = 10 ∨ k = 11 ∨ k = 12 ∨ k = 13 ∨ k = 14 ∨ k = 15 ∨ k = 16 := by omega
    rcases hk with rfl | rfl | rfl | rfl | rfl | rfl | rfl | rfl | rfl | rfl | rfl | rfl | rfl | rfl | rfl <;> decide

theorem c_cfgMay (c : Config) : PCall tab 88 [.agg (encConfig c)] (.bool (decide (cfgMay c))) := by
  refine PCall.of (F := m88) rfl rfl rfl rfl ?_
  simp -implicitDefEqProofs [m88]
  repeat' (first
    | (with_reducible refine guard_by (fun hb => ?_) (fun hb => ?_) <;> rw [hb] <;> (try simp at hb) <;> simp -implicitDefEqProofs [hb])
    | (with_reducible refine cond_by (fun hb => ?_) (fun hb => ?_) <;> rw [hb] <;> (try simp at hb) <;> simp -implicitDefEqProofs [hb])
    | (refine CallT.bool2 rfl (c_objIs _) (fun hb => ?_) (fun hb => ?_) <;> simp -implicitDefEqProofs [hb])
    | (refine CallT.bool2 rfl (c_logs _) (fun hb => ?_) (fun hb => ?_) <;> simp -implicitDefEqProofs [hb])
    | (refine CallT.bool2 rfl (c_many _) (fun hb => ?_) (fun hb => ?_) <;> simp -implicitDefEqProofs [hb]))
  all_goals (first | omega | skip)
  all_goals (rw [wrap_of (by omega) (by omega)]; simp only [← Bool.decide_and, ← Bool.decide_or, decide_eq_decide]; omega)

theorem c_odd (x : Slot) : PCall tab 136 [.agg (encSlot x)] (.bool (decide (¬ slotOK x))) := by
  refine PCall.of (F := m136) rfl rfl rfl rfl ?_
  simp -implicitDefEqProofs [m136]
  repeat' (first
    | (with_reducible refine guard_by (fun hb => ?_) (fun hb => ?_) <;> rw [hb] <;> (try simp at hb) <;> simp -implicitDefEqProofs [hb])
    | (with_reducible refine cond_by (fun hb => ?_) (fun hb => ?_) <;> rw [hb] <;> (try simp at hb) <;> simp -implicitDefEqProofs [hb])
    | (refine CallT.bool2 rfl (c_updates x.op) (fun hb => ?_) (fun hb => ?_) <;> simp -implicitDefEqProofs [hb])
    | (refine CallT.bool2 rfl (c_ringThread _ _) (fun hb => ?_) (fun hb => ?_) <;> simp -implicitDefEqProofs [hb]))
  all_goals (try simp only [argMay, opMay, updates, threadIn, slotOK] at *)
  all_goals (first | omega | (rw [Bool.eq_iff_iff]; simp only [Bool.and_eq_true, Bool.or_eq_true, decide_eq_true_eq, Bool.not_eq_true', decide_eq_false_iff_not, beq_iff_eq, bne_iff_ne, ne_eq] <;> omega))

theorem c_lthread (c : Config) (x : Int) : PCall tab 122 [.agg (encConfig c), .int .i64 x] (.bool (decide (threadIn x c.threads))) := by
  refine PCall.of (F := m122) rfl rfl rfl rfl ?_
  simp -implicitDefEqProofs [m122]
  repeat' (first
    | (with_reducible refine guard_by (fun hb => ?_) (fun hb => ?_) <;> rw [hb] <;> (try simp at hb) <;> simp -implicitDefEqProofs [hb])
    | (with_reducible refine cond_by (fun hb => ?_) (fun hb => ?_) <;> rw [hb] <;> (try simp at hb) <;> simp -implicitDefEqProofs [hb]))
  all_goals (try simp only [argMay, opMay, updates] at *)
  all_goals (first | omega | (rw [Bool.eq_iff_iff]; simp only [Bool.and_eq_true, Bool.or_eq_true, decide_eq_true_eq, Bool.not_eq_true', decide_eq_false_iff_not, beq_iff_eq, bne_iff_ne, ne_eq] <;> omega))

theorem c_number (x : Int) : PCall tab 132 [.int .i64 x] (.bool (decide (0 ≤ x ∧ x ≤ 1048576))) := by
  refine PCall.of (F := m132) rfl rfl rfl rfl ?_
  simp -implicitDefEqProofs [m132]
  repeat' (first
    | (with_reducible refine guard_by (fun hb => ?_) (fun hb => ?_) <;> rw [hb] <;> (try simp at hb) <;> simp -implicitDefEqProofs [hb])
    | (with_reducible refine cond_by (fun hb => ?_) (fun hb => ?_) <;> rw [hb] <;> (try simp at hb) <;> simp -implicitDefEqProofs [hb]))
  all_goals (try simp only [argMay, opMay, updates] at *)
  all_goals (first | omega | (rw [Bool.eq_iff_iff]; simp only [Bool.and_eq_true, Bool.or_eq_true, decide_eq_true_eq, Bool.not_eq_true', decide_eq_false_iff_not, beq_iff_eq, bne_iff_ne, ne_eq] <;> omega))

end Go.Ab

namespace Go.Ab

/-- so it is of all: not taken apart -/
def allOf {α : Type} (p : α → Prop) (xs : List α) : Prop := ∀ x ∈ xs, p x
instance {α : Type} (p : α → Prop) [DecidablePred p] (xs : List α) : Decidable (allOf p xs) := inferInstanceAs (Decidable (∀ x ∈ xs, p x))

theorem any_not {α : Type} (p : α → Prop) [DecidablePred p] (xs : List α) : (xs.any fun x => decide (¬ p x)) = decide (¬ allOf p xs) := by
  rw [Bool.eq_iff_iff]; simp [allOf]
theorem all_is {α : Type} (p : α → Prop) [DecidablePred p] (xs : List α) : (xs.all fun x => decide (p x)) = decide (allOf p xs) := by
  by_cases h : allOf p xs
  · simp only [h, decide_true, List.all_eq_true, decide_eq_true_eq]; exact h
  · simp only [h, decide_false]
    cases hx : (xs.all fun x => decide (p x)) with
    | false => rfl
    | true => simp only [List.all_eq_true, decide_eq_true_eq] at hx; exact absurd hx h
@[reducible] def ringOK (r : Ring) : Prop := ringNums r ∧ allOf slotOK r.slots

theorem c_ringMay (r : Ring) (z : Bool) (h : lenOK r.slots) : PCall tab 104 [.agg (encRing z r)] (.bool (decide (ringOK r))) := by
  have h' := h
  unfold lenOK at h'
  have hodd : ∀ z, PCall tab 135 [.vs (r.slots.map encSlot) z, .fn (.func 136) [] []] (.bool (decide (¬ allOf slotOK r.slots))) := fun z => by
    rw [← any_not]; exact c_ContainsSlot r.slots z h _ 136 [] [] (fun s _ => c_odd s) (fun s => by simp) (by simp) (by simp)
  refine PCall.of (F := m104) rfl rfl rfl rfl ?_
  simp -implicitDefEqProofs [m104]
  repeat' (first
    | (with_reducible refine guard_by (fun hb => ?_) (fun hb => ?_) <;> rw [hb] <;> (try simp at hb) <;> simp -implicitDefEqProofs [hb])
    | (with_reducible refine cond_by (fun hb => ?_) (fun hb => ?_) <;> rw [hb] <;> (try simp at hb) <;> simp -implicitDefEqProofs [hb])
    | (refine CallT.bool2 rfl (c_many _) (fun hb => ?_) (fun hb => ?_) <;> simp -implicitDefEqProofs [hb])
    | (refine CallT.bool2 rfl (c_ringThread _ _) (fun hb => ?_) (fun hb => ?_) <;> simp -implicitDefEqProofs [hb])
    | (refine CallT.bool2 (by simp) (hodd false) (fun hb => ?_) (fun hb => ?_) <;> simp -implicitDefEqProofs [hb]))
  all_goals simp only [slotsMay, threadIn] at *
  all_goals (try rw [wrap_of (by omega) (by omega)])
  all_goals (first
    | omega
    | (intros; omega)
    | (intros; contradiction)
    | (simp_all; done)
    | (simp_all; omega)
    | (rw [Bool.eq_iff_iff]; simp_all; omega))

end Go.Ab

namespace Go.Ab

@[reducible] def inR (x : Int) : Prop := -9223372036854775808 ≤ x ∧ x < 9223372036854775808
def slotIn (c : Config) (s : Slot) : Prop := threadIn s.thread c.threads
instance (c : Config) : DecidablePred (slotIn c) := fun s => inferInstanceAs (Decidable (threadIn s.thread c.threads))
@[reducible] def ringIn (c : Config) (r : Ring) : Prop := ringOK r ∧ (r.slots.length : Int) = c.slots ∧ r.fence ≤ c.threads ∧ allOf (slotIn c) r.slots

theorem c_lring1 (s : Slot) (c : Config) : PCall tab 121 [.agg (encSlot s), .vp [encConfig c] 0 0] (.bool (decide (slotIn c s))) := by
  refine PCall.of (F := m121) rfl rfl rfl rfl ?_
  simp -implicitDefEqProofs [m121]
  repeat' (first
    | (with_reducible refine guard_by (fun hb => ?_) (fun hb => ?_) <;> rw [hb] <;> (try simp at hb) <;> simp -implicitDefEqProofs [hb])
    | (with_reducible refine cond_by (fun hb => ?_) (fun hb => ?_) <;> rw [hb] <;> (try simp at hb) <;> simp -implicitDefEqProofs [hb])
    | (refine CallT.bool2 rfl (c_lthread c s.thread) (fun hb => ?_) (fun hb => ?_) <;> simp -implicitDefEqProofs [hb]))
  all_goals (try simp only [argMay, opMay, updates, threadIn, slotIn] at *)
  all_goals (first | omega | (rw [Bool.eq_iff_iff]; simp only [Bool.and_eq_true, Bool.or_eq_true, decide_eq_true_eq, Bool.not_eq_true', decide_eq_false_iff_not, beq_iff_eq, bne_iff_ne, ne_eq] <;> omega))

theorem c_lring (c : Config) (r : Ring) (z : Bool) (h : lenOK r.slots) : PCall tab 90 [.agg (encConfig c), .agg (encRing z r)] (.bool (decide (ringIn c r))) := by
  have h' := h
  unfold lenOK at h'
  have hall : ∀ z, PCall tab 123 [.vs (r.slots.map encSlot) z, .fn (.func 121) [] [.vp [encConfig c] 0 0]] (.bool (decide (allOf (slotIn c) r.slots))) := fun z => by
    rw [← all_is]; exact c_allSlot r.slots z h _ _ [] [.vp [encConfig c] 0 0] (fun s _ => c_lring1 s c) (fun s => by simp) (fun d => by simp) (by simp)
  refine PCall.of (F := m90) rfl rfl rfl rfl ?_
  simp -implicitDefEqProofs [m90]
  repeat' (first
    | (with_reducible refine guard_by (fun hb => ?_) (fun hb => ?_) <;> rw [hb] <;> (try simp at hb) <;> simp -implicitDefEqProofs [hb])
    | (with_reducible refine cond_by (fun hb => ?_) (fun hb => ?_) <;> rw [hb] <;> (try simp at hb) <;> simp -implicitDefEqProofs [hb])
    | (refine CallT.bool2 (by simp) (c_ringMay r false h) (fun hb => ?_) (fun hb => ?_) <;> simp -implicitDefEqProofs [hb])
    | (refine CallT.bool2 (by simp) (hall false) (fun hb => ?_) (fun hb => ?_) <;> simp -implicitDefEqProofs [hb]))
  all_goals simp only [ringOK, ringNums, slotsMay] at *
  all_goals (first | omega | (intros; omega) | (intros; contradiction) | (simp_all; done) | (simp_all; omega))

end Go.Ab

namespace Go.Ab

@[reducible] def rowArgs (n : Int) (xs : List Int) : Prop := (xs.length : Int) ≤ n ∧ allOf argMay xs
@[reducible] def storeMay (s : State) : Prop := rowArgs 1 s.r0 ∧ rowArgs 1 s.r1 ∧ rowArgs 1 s.r2 ∧ rowArgs 1 s.r3
@[reducible] def queueMay (s : State) : Prop := rowArgs 4 s.r0 ∧ rowArgs 4 s.r1 ∧ rowArgs 4 s.r2 ∧ rowArgs 4 s.r3

theorem c_notArg (x : Int) : PCall tab 169 [.int .i64 x] (.bool (decide (¬ argMay x))) := by
  refine PCall.of (F := m169) rfl rfl rfl rfl ?_
  simp -implicitDefEqProofs [m169]
  repeat' (first
    | (with_reducible refine guard_by (fun hb => ?_) (fun hb => ?_) <;> rw [hb] <;> (try simp at hb) <;> simp -implicitDefEqProofs [hb])
    | (with_reducible refine cond_by (fun hb => ?_) (fun hb => ?_) <;> rw [hb] <;> (try simp at hb) <;> simp -implicitDefEqProofs [hb])
    | (refine CallT.bool2 rfl (c_operArg _) (fun hb => ?_) (fun hb => ?_) <;> simp -implicitDefEqProofs [hb]))
  all_goals (try simp only [argMay, opMay, updates] at *)
  all_goals (first | omega | (rw [Bool.eq_iff_iff]; simp only [Bool.and_eq_true, Bool.or_eq_true, decide_eq_true_eq, Bool.not_eq_true', decide_eq_false_iff_not, beq_iff_eq, bne_iff_ne, ne_eq] <;> omega))

theorem c_args (xs : List Int) (n : Int) (z : Bool) (h : lenOK xs) : PCall tab 163 [.vs (xs.map encInt) z, .int .i64 n] (.bool (decide (rowArgs n xs))) := by
  have hodd : ∀ z, PCall tab 148 [.vs (xs.map encInt) z, .fn (.func 169) [] []] (.bool (decide (¬ allOf argMay xs))) := fun z => by
    rw [← any_not]; exact c_Containsint xs z h _ 169 [] [] (fun s _ => c_notArg s) (fun s => by simp) (by simp) (by simp)
  refine PCall.of (F := m163) rfl rfl rfl rfl ?_
  simp -implicitDefEqProofs [m163]
  repeat' (first
    | (with_reducible refine guard_by (fun hb => ?_) (fun hb => ?_) <;> rw [hb] <;> (try simp at hb) <;> simp -implicitDefEqProofs [hb])
    | (with_reducible refine cond_by (fun hb => ?_) (fun hb => ?_) <;> rw [hb] <;> (try simp at hb) <;> simp -implicitDefEqProofs [hb])
    | (refine CallT.bool2 (by simp) (hodd false) (fun hb => ?_) (fun hb => ?_) <;> simp -implicitDefEqProofs [hb]))
  all_goals (first | omega | (intros; omega) | (intros; contradiction) | (simp_all; done))

theorem c_storeMay (s : State) (z : Bool) (h : okS s) : PCall tab 145 [.agg (encState z s)] (.bool (decide (storeMay s))) := by
  obtain ⟨h0, h1, h2, h3⟩ := h
  refine PCall.of (F := m145) rfl rfl rfl rfl ?_
  simp -implicitDefEqProofs [m145]
  repeat' (first
    | (with_reducible refine guard_by (fun hb => ?_) (fun hb => ?_) <;> rw [hb] <;> (try simp at hb) <;> simp -implicitDefEqProofs [hb])
    | (with_reducible refine cond_by (fun hb => ?_) (fun hb => ?_) <;> rw [hb] <;> (try simp at hb) <;> simp -implicitDefEqProofs [hb])
    | (refine CallT.bool2 rfl (c_args s.r0 1 false h0) (fun hb => ?_) (fun hb => ?_) <;> simp -implicitDefEqProofs [hb])
    | (refine CallT.bool2 rfl (c_args s.r1 1 false h1) (fun hb => ?_) (fun hb => ?_) <;> simp -implicitDefEqProofs [hb])
    | (refine CallT.bool2 rfl (c_args s.r2 1 false h2) (fun hb => ?_) (fun hb => ?_) <;> simp -implicitDefEqProofs [hb])
    | (refine CallT.bool2 rfl (c_args s.r3 1 false h3) (fun hb => ?_) (fun hb => ?_) <;> simp -implicitDefEqProofs [hb])
    | (with_reducible refine WCT.unroll ?_; simp -implicitDefEqProofs))
  all_goals (first | omega | (simp_all; done))

theorem c_queueMay (s : State) (z : Bool) (h : okS s) : PCall tab 147 [.agg (encState z s)] (.bool (decide (queueMay s))) := by
  obtain ⟨h0, h1, h2, h3⟩ := h
  refine PCall.of (F := m147) rfl rfl rfl rfl ?_
  simp -implicitDefEqProofs [m147]
  repeat' (first
    | (with_reducible refine guard_by (fun hb => ?_) (fun hb => ?_) <;> rw [hb] <;> (try simp at hb) <;> simp -implicitDefEqProofs [hb])
    | (with_reducible refine cond_by (fun hb => ?_) (fun hb => ?_) <;> rw [hb] <;> (try simp at hb) <;> simp -implicitDefEqProofs [hb])
    | (refine CallT.bool2 rfl (c_args s.r0 4 false h0) (fun hb => ?_) (fun hb => ?_) <;> simp -implicitDefEqProofs [hb])
    | (refine CallT.bool2 rfl (c_args s.r1 4 false h1) (fun hb => ?_) (fun hb => ?_) <;> simp -implicitDefEqProofs [hb])
    | (refine CallT.bool2 rfl (c_args s.r2 4 false h2) (fun hb => ?_) (fun hb => ?_) <;> simp -implicitDefEqProofs [hb])
    | (refine CallT.bool2 rfl (c_args s.r3 4 false h3) (fun hb => ?_) (fun hb => ?_) <;> simp -implicitDefEqProofs [hb])
    | (with_reducible refine WCT.unroll ?_; simp -implicitDefEqProofs))
  all_goals (first | omega | (simp_all; done))

end Go.Ab

namespace Go.Ab

def State.row (s : State) : Nat → List Int
  | 0 => s.r0
  | 1 => s.r1
  | 2 => s.r2
  | _ => s.r3

theorem state_get (z : Bool) (s : State) (i : Nat) (h : i < 4) : (encState z s)[i]? = some (.vs ((s.row i).map encInt) z) := by
  have : i = 0 ∨ i = 1 ∨ i = 2 ∨ i = 3 := by omega
  rcases this with rfl | rfl | rfl | rfl <;> rfl

theorem state_getE (z : Bool) (s : State) (i : Nat) (h : i < (encState z s).length) : (encState z s)[i] = .vs ((s.row i).map encInt) z := by
  have := state_get z s i h
  rw [List.getElem?_eq_getElem h] at this
  exact Option.some.inj this

theorem okS_row {s : State} (h : okS s) (i : Nat) : lenOK (s.row i) := by
  obtain ⟨h0, h1, h2, h3⟩ := h
  unfold State.row
  split <;> assumption

def fdsRow (xs : List Int) : Prop := ∀ i (h : i < xs.length), 0 ≤ xs[i] ∧ xs[i] < 4 ∧ (0 < i → xs[i - 1] < xs[i])
def fdsTo (xs : List Int) (n : Nat) : Prop := ∀ i (h : i < xs.length), i < n → 0 ≤ xs[i] ∧ xs[i] < 4 ∧ (0 < i → xs[i - 1] < xs[i])
instance (xs : List Int) : Decidable (fdsRow xs) := inferInstanceAs (Decidable (∀ i (h : i < xs.length), 0 ≤ xs[i] ∧ xs[i] < 4 ∧ (0 < i → xs[i - 1] < xs[i])))
def rowsOK (p : List Int → Prop) (s : State) : Prop := p s.r0 ∧ p s.r1 ∧ p s.r2 ∧ p s.r3
def rowsTo (p : List Int → Prop) (s : State) (n : Nat) : Prop := ∀ i, i < 4 → i < n → p (s.row i)
instance (p : List Int → Prop) [DecidablePred p] (s : State) : Decidable (rowsOK p s) := inferInstanceAs (Decidable (_ ∧ _ ∧ _ ∧ _))
theorem rowsOK_iff {p : List Int → Prop} {s : State} : rowsOK p s ↔ ∀ i, i < 4 → p (s.row i) := by
  constructor
  · rintro ⟨h0, h1, h2, h3⟩ i hi
    have : i = 0 ∨ i = 1 ∨ i = 2 ∨ i = 3 := by omega
    rcases this with rfl | rfl | rfl | rfl <;> assumption
  · intro h; exact ⟨h 0 (by omega), h 1 (by omega), h 2 (by omega), h 3 (by omega)⟩

theorem fdsTo_step {xs : List Int} {i : Nat} (hi : i < xs.length) (h : fdsTo xs i) (h1 : 0 ≤ xs[i]) (h2 : xs[i] < 4) (h3 : 0 < i → xs[i - 1] < xs[i]) : fdsTo xs (i + 1) := fun j hj hlt => by
  by_cases e : j = i
  · subst e; exact ⟨h1, h2, h3⟩
  · exact h j hj (by omega)
theorem fdsTo_all {xs : List Int} {i : Nat} (hi : xs.length ≤ i) (h : fdsTo xs i) : fdsRow xs := fun j hj => h j hj (by omega)
theorem fdsTo_zero (xs : List Int) : fdsTo xs 0 := fun j hj h => by omega

theorem c_fdsMay (s : State) (z : Bool) (h : okS s) : PCall tab 146 [.agg (encState z s)] (.bool (decide (rowsOK fdsRow s))) := by
  refine PCall.of (F := m146) rfl rfl rfl rfl ?_
  simp -implicitDefEqProofs [m146]
  refine loop_by (fun k E T => T = TH.none ∧ ∃ i : Nat, i + k = 4 ∧ E.get 1 = .lp 0 0 ∧ E.get 8 = .a (.agg (encState z s)) ∧ E.get 9 = .a (.int .i64 i) ∧ rowsTo fdsRow s i) ?_ 4 ⟨rfl, 0, by simp [rowsTo]⟩
  rintro k E T ⟨rfl, i, hi, h1, h8, h9, hr⟩
  by_cases hlt : i < 4
  · have g := state_get z s i hlt
    have hl := okS_row h i
    unfold lenOK at hl
    have gi : (i : Int) < 4 := by omega
    simp -implicitDefEqProofs [h1, h8, h9, state_getE, gi, hlt]
    refine loop_by (fun k' E T => T = TH.none ∧ ∃ j : Nat, j + k' = (s.row i).length ∧ E.get 1 = .lp 0 0 ∧ E.get 4 = .a (.vs ((s.row i).map encInt) z) ∧ E.get 8 = .a (.agg (encState z s)) ∧ E.get 9 = .a (.int .i64 i) ∧ E.get 12 = .a (.vs ((s.row i).map encInt) z) ∧ E.get 13 = .a (.int .i64 (s.row i).length) ∧ E.get 14 = .a (.int .i64 j) ∧ fdsTo (s.row i) j) ?_ (s.row i).length ⟨rfl, 0, by simp [h1, h8, h9, fdsTo_zero]⟩
    clear h1 h8 h9 E
    rintro k' E T ⟨rfl, j, hj, h1, h4, h8, h9, h12, h13, h14, hf⟩
    by_cases hlt' : j < (s.row i).length
    · have g1 := List.getElem?_eq_getElem hlt'
      simp -implicitDefEqProofs [h1, h4, h8, h9, h12, h13, h14, hlt', g1]
      by_cases hj0 : 0 < j
      · have e0 : IntKind.wrap .i64 ((j : Int) - 1) = ((j - 1 : Nat) : Int) := by rw [wrap_of (by omega) (by omega)]; omega
        have hlt2 : j - 1 < (s.row i).length := by omega
        have g2 := List.getElem?_eq_getElem hlt2
        repeat' (first
          | (with_reducible refine guard_by (fun hb => ?_) (fun hb => ?_) <;> rw [hb] <;> (try simp at hb) <;> simp -implicitDefEqProofs [hb, h1, h4, h8, h9, h12, h13, h14, hlt', g1, hj0, e0, hlt2, g2])
          | (with_reducible refine cond_by (fun hb => ?_) (fun hb => ?_) <;> rw [hb] <;> (try simp at hb) <;> simp -implicitDefEqProofs [hb, h1, h4, h8, h9, h12, h13, h14, hlt', g1, hj0, e0, hlt2, g2]))
        all_goals (first
          | (refine ⟨k' - 1, by omega, j + 1, by omega, wrap_nat (by omega), fdsTo_step hlt' hf ?_ ?_ ?_⟩ <;> omega)
          | (refine fun hh => ?_; have := rowsOK_iff.1 hh i hlt j hlt'; omega))
      · repeat' (first
          | (with_reducible refine guard_by (fun hb => ?_) (fun hb => ?_) <;> rw [hb] <;> (try simp at hb) <;> simp -implicitDefEqProofs [hb, h1, h4, h8, h9, h12, h13, h14, hlt', g1, hj0])
          | (with_reducible refine cond_by (fun hb => ?_) (fun hb => ?_) <;> rw [hb] <;> (try simp at hb) <;> simp -implicitDefEqProofs [hb, h1, h4, h8, h9, h12, h13, h14, hlt', g1, hj0]))
        all_goals (first
          | (refine ⟨k' - 1, by omega, j + 1, by omega, wrap_nat (by omega), fdsTo_step hlt' hf ?_ ?_ ?_⟩ <;> omega)
          | (refine fun hh => ?_; have := rowsOK_iff.1 hh i hlt j hlt'; omega))
    · simp -implicitDefEqProofs [h1, h4, h8, h9, h12, h13, h14, hlt']
      refine ⟨k - 1, by omega, i + 1, by omega, wrap_nat (by omega), fun x hx hx2 => ?_⟩
      by_cases e : x = i
      · subst e; exact fdsTo_all (by omega) hf
      · exact hr x hx (by omega)
  · have gi : ¬ (i : Int) < 4 := by omega
    simp -implicitDefEqProofs [h1, h8, h9, gi]
    exact rowsOK_iff.2 fun x hx => hr x hx (by omega)

@[reducible] def stateMay (o : Int) (s : State) : Prop := (o = 0 ∧ storeMay s) ∨ (o = 1 ∧ rowsOK fdsRow s) ∨ (o = 2 ∧ queueMay s)

theorem c_objMay (o : Int) (s : State) (z : Bool) (h : okS s) : PCall tab 125 [.int .i64 o, .agg (encState z s)] (.bool (decide (stateMay o s))) := by
  refine PCall.of (F := m125) rfl rfl rfl rfl ?_
  simp -implicitDefEqProofs [m125]
  repeat' (first
    | (with_reducible refine guard_by (fun hb => ?_) (fun hb => ?_) <;> rw [hb] <;> (try simp at hb) <;> simp -implicitDefEqProofs [hb])
    | (with_reducible refine cond_by (fun hb => ?_) (fun hb => ?_) <;> rw [hb] <;> (try simp at hb) <;> simp -implicitDefEqProofs [hb])
    | ((refine CallT.bool2 ?_ (c_storeMay s false h) (fun hb => ?_) (fun hb => ?_); focus (simp; done)) <;> simp -implicitDefEqProofs [hb])
    | ((refine CallT.bool2 ?_ (c_fdsMay s false h) (fun hb => ?_) (fun hb => ?_); focus (simp; done)) <;> simp -implicitDefEqProofs [hb])
    | ((refine CallT.bool2 ?_ (c_queueMay s false h) (fun hb => ?_) (fun hb => ?_); focus (simp; done)) <;> simp -implicitDefEqProofs [hb]))
  all_goals (first | (simp_all; done) | omega | (simp_all; omega))

end Go.Ab

namespace Go.Ab

def rowIn (o : Int) (xs : List Int) : Prop := (o = 0 ∧ rowArgs 1 xs) ∨ (o = 1 ∧ fdsRow xs) ∨ (o = 2 ∧ rowArgs 4 xs)
instance (o : Int) : DecidablePred (rowIn o) := fun xs => inferInstanceAs (Decidable ((o = 0 ∧ rowArgs 1 xs) ∨ (o = 1 ∧ fdsRow xs) ∨ (o = 2 ∧ rowArgs 4 xs)))
end Go.Ab

namespace Go.Ab

def cursorIn : Option Ring → Int → Bool
  | some r, x => decide (r.head ≤ x ∧ x ≤ r.tail)
  | none, _ => false
def cursorsIn (rs : List Ring) (cs : List Int) : Prop := ∀ i (h : i < cs.length), cursorIn rs[i]? cs[i] = true
def cursorsTo (rs : List Ring) (cs : List Int) (n : Nat) : Prop := ∀ i (h : i < cs.length), i < n → cursorIn rs[i]? cs[i] = true
instance (rs : List Ring) (cs : List Int) : Decidable (cursorsIn rs cs) := inferInstanceAs (Decidable (∀ i (h : i < cs.length), cursorIn rs[i]? cs[i] = true))
theorem cursorsTo_step {rs : List Ring} {cs : List Int} {i : Nat} (hi : i < cs.length) (h : cursorsTo rs cs i) (h1 : cursorIn rs[i]? cs[i] = true) : cursorsTo rs cs (i + 1) := fun j hj hlt => by
  by_cases e : j = i
  · subst e; exact h1
  · exact h j hj (by omega)
theorem cursorsTo_zero (rs : List Ring) (cs : List Int) : cursorsTo rs cs 0 := fun j hj h => by omega
theorem cursorsTo_all {rs : List Ring} {cs : List Int} {i : Nat} (hi : cs.length ≤ i) (h : cursorsTo rs cs i) : cursorsIn rs cs := fun j hj => h j hj (by omega)

def lockIn (c : Config) (x : Int) : Prop := 0 ≤ x ∧ x ≤ c.threads
instance (c : Config) : DecidablePred (lockIn c) := fun x => inferInstanceAs (Decidable (0 ≤ x ∧ x ≤ c.threads))
def replicaIn (c : Config) (rs : List Ring) (x : Replica) : Prop := stateMay c.object x.state ∧ (x.cursors.length : Int) = c.logs ∧ (x.locks.length : Int) = c.logs ∧ allOf (lockIn c) x.locks ∧ cursorsIn rs x.cursors
instance (c : Config) (rs : List Ring) : DecidablePred (replicaIn c rs) := fun x => inferInstanceAs (Decidable (_ ∧ _ ∧ _ ∧ _ ∧ _))
def numIn (x : Int) : Prop := 0 ≤ x ∧ x ≤ 1048576
instance : DecidablePred numIn := fun x => inferInstanceAs (Decidable (0 ≤ x ∧ x ≤ 1048576))
def thrIn (c : Config) (x : Int) : Prop := threadIn x c.threads
instance (c : Config) : DecidablePred (thrIn c) := fun x => inferInstanceAs (Decidable (threadIn x c.threads))
@[reducible] def atNums (c : Config) (t : Thread) : Prop := 0 ≤ t.step ∧ t.step ≤ 19 ∧ opMay t.op ∧ 0 ≤ t.log ∧ t.log < c.logs ∧ 0 ≤ t.seen ∧ t.seen ≤ 1048576 ∧ (t.batch.length : Int) ≤ c.threads ∧ 0 ≤ t.at_ ∧ t.at_ ≤ (t.batch.length : Int) ∧ (t.tails.length : Int) ≤ c.logs
def atIn (c : Config) (t : Thread) : Prop := atNums c t ∧ allOf (thrIn c) t.batch ∧ allOf numIn t.tails
instance (c : Config) : DecidablePred (atIn c) := fun x => inferInstanceAs (Decidable (_ ∧ _ ∧ _))
def evIn (c : Config) (e : Event) : Prop := threadIn e.thread c.threads ∧ opMay e.op
instance (c : Config) : DecidablePred (evIn c) := fun x => inferInstanceAs (Decidable (_ ∧ _))

theorem c_llock (c : Config) (x : Int) : PCall tab 124 [.int .i64 x, .vp [encConfig c] 0 0] (.bool (decide (lockIn c x))) := by
  refine PCall.of (F := m124) rfl rfl rfl rfl ?_
  simp -implicitDefEqProofs [m124]
  repeat' (first
    | (with_reducible refine guard_by (fun hb => ?_) (fun hb => ?_) <;> rw [hb] <;> (try simp at hb) <;> simp -implicitDefEqProofs [hb])
    | (with_reducible refine cond_by (fun hb => ?_) (fun hb => ?_) <;> rw [hb] <;> (try simp at hb) <;> simp -implicitDefEqProofs [hb]))
  all_goals simp only [lockIn]
  all_goals (first | omega | (intros; omega) | (rw [Bool.eq_iff_iff]; simp only [Bool.and_eq_true, decide_eq_true_eq] <;> omega) | (simp_all; done))

theorem c_levent (c : Config) (e : Event) : PCall tab 97 [.agg (encConfig c), .agg (encEvent e)] (.bool (decide (evIn c e))) := by
  refine PCall.of (F := m97) rfl rfl rfl rfl ?_
  simp -implicitDefEqProofs [m97]
  repeat' (first
    | (with_reducible refine guard_by (fun hb => ?_) (fun hb => ?_) <;> rw [hb] <;> (try simp at hb) <;> simp -implicitDefEqProofs [hb])
    | (with_reducible refine cond_by (fun hb => ?_) (fun hb => ?_) <;> rw [hb] <;> (try simp at hb) <;> simp -implicitDefEqProofs [hb])
    | (refine CallT.bool2 rfl (c_lthread c e.thread) (fun hb => ?_) (fun hb => ?_) <;> simp -implicitDefEqProofs [hb])
    | (refine CallT.bool2 rfl (c_operMay e.op) (fun hb => ?_) (fun hb => ?_) <;> simp -implicitDefEqProofs [hb]))
  all_goals simp only [evIn]
  all_goals (first | (simp_all; done) | (simp only [threadIn, opMay] at *; omega))

theorem c_lat (c : Config) (t : Thread) (z : Bool) (h : okTh t) : PCall tab 95 [.agg (encConfig c), .agg (encThread z t)] (.bool (decide (atIn c t))) := by
  obtain ⟨h1, h2⟩ := h
  have hba : ∀ z, PCall tab 126 [.vs (t.batch.map encInt) z, .fn (.func 122) [.agg (encConfig c)] []] (.bool (decide (allOf (thrIn c) t.batch))) := fun z => by
    rw [← all_is]; exact c_allint t.batch z h1 _ _ [.agg (encConfig c)] [] (fun s _ => c_lthread c s) (fun s => by simp) (fun d => by simp) (by simp)
  have hta : ∀ z, PCall tab 126 [.vs (t.tails.map encInt) z, .fn (.func 132) [] []] (.bool (decide (allOf numIn t.tails))) := fun z => by
    rw [← all_is]; exact c_allint t.tails z h2 _ _ [] [] (fun s _ => c_number s) (fun s => by simp) (fun d => by simp) (by simp)
  refine PCall.of (F := m95) rfl rfl rfl rfl ?_
  simp -implicitDefEqProofs [m95]
  repeat' (first
    | (with_reducible refine guard_by (fun hb => ?_) (fun hb => ?_) <;> rw [hb] <;> (try simp at hb) <;> simp -implicitDefEqProofs [hb])
    | (with_reducible refine cond_by (fun hb => ?_) (fun hb => ?_) <;> rw [hb] <;> (try simp at hb) <;> simp -implicitDefEqProofs [hb])
    | (refine CallT.bool2 rfl (c_operMay t.op) (fun hb => ?_) (fun hb => ?_) <;> simp -implicitDefEqProofs [hb])
    | (refine CallT.bool2 rfl (c_number t.seen) (fun hb => ?_) (fun hb => ?_) <;> simp -implicitDefEqProofs [hb])
    | ((refine CallT.bool2 ?_ (hba false) (fun hb => ?_) (fun hb => ?_); focus (simp; done)) <;> simp -implicitDefEqProofs [hb])
    | ((refine CallT.bool2 ?_ (hta false) (fun hb => ?_) (fun hb => ?_); focus (simp; done)) <;> simp -implicitDefEqProofs [hb]))
  all_goals simp only [atIn, atNums, opMay]
  all_goals (try simp only [opMay] at *)
  all_goals (first | omega | (intros; omega) | (refine ⟨⟨?_, ?_⟩, ?_⟩ <;> first | omega | assumption) | (simp_all; done) | (simp_all; omega))

theorem c_lreplica (c : Config) (x : Replica) (rs : List Ring) (z z1 z2 : Bool) (h : okP' x) (hrs : (rs.length : Int) = c.logs) : PCall tab 92 [.agg (encConfig c), .agg (encReplica z x), .vs (rs.map (encRing z1)) z2] (.bool (decide (replicaIn c rs x))) := by
  obtain ⟨h1, h2, h3⟩ := h
  have h2' := h2
  unfold lenOK at h2'
  have hl : ∀ z, PCall tab 126 [.vs (x.locks.map encInt) z, .fn (.func 124) [] [.vp [encConfig c] 0 0]] (.bool (decide (allOf (lockIn c) x.locks))) := fun z => by
    rw [← all_is]; exact c_allint x.locks z h3 _ _ [] [.vp [encConfig c] 0 0] (fun s _ => c_llock c s) (fun s => by simp) (fun d => by simp) (by simp)
  refine PCall.of (F := m92) rfl rfl rfl rfl ?_
  simp -implicitDefEqProofs [m92]
  repeat' (first
    | (with_reducible refine guard_by (fun hb => ?_) (fun hb => ?_) <;> rw [hb] <;> (try simp at hb) <;> simp -implicitDefEqProofs [hb])
    | (with_reducible refine cond_by (fun hb => ?_) (fun hb => ?_) <;> rw [hb] <;> (try simp at hb) <;> simp -implicitDefEqProofs [hb])
    | ((refine CallT.bool2 ?_ (c_objMay c.object x.state false h1) (fun hb => ?_) (fun hb => ?_); focus (simp; done)) <;> simp -implicitDefEqProofs [hb])
    | ((refine CallT.bool2 ?_ (hl false) (fun hb => ?_) (fun hb => ?_); focus (simp; done)) <;> simp -implicitDefEqProofs [hb]))
  all_goals (try (first | exact fun hh => hb hh.1 | exact fun hh => hb hh.2.2.2.1 | (intro hh; have h5 := hh.2.1; have h6 := hh.2.2.1; omega)))
  refine loop_by (fun k E T => ∃ i : Nat, i + k = x.cursors.length ∧ E.get 2 = .a (.vs (rs.map (encRing z1)) z2) ∧ E.get 44 = .a (.vs (x.cursors.map encInt) z) ∧ E.get 45 = .a (.int .i64 x.cursors.length) ∧ E.get 46 = .a (.int .i64 i) ∧ cursorsTo rs x.cursors i) ?_ x.cursors.length ⟨0, by simp [cursorsTo_zero]⟩
  rintro k E T ⟨i, hi, e2, e44, e45, e46, hc⟩
  by_cases hlt : i < x.cursors.length
  · have g1 := List.getElem?_eq_getElem hlt
    have hlt2 : i < rs.length := by omega
    have g2 := List.getElem?_eq_getElem hlt2
    simp -implicitDefEqProofs [e2, e44, e45, e46, hlt, g1, hlt2, g2]
    repeat' (first
      | (with_reducible refine guard_by (fun hb => ?_) (fun hb => ?_) <;> rw [hb] <;> (try simp at hb) <;> simp -implicitDefEqProofs [hb, e2, e44, e45, e46, hlt, g1, hlt2, g2])
      | (with_reducible refine cond_by (fun hb => ?_) (fun hb => ?_) <;> rw [hb] <;> (try simp at hb) <;> simp -implicitDefEqProofs [hb, e2, e44, e45, e46, hlt, g1, hlt2, g2]))
    all_goals (first
      | (refine ⟨k - 1, by omega, i + 1, by omega, wrap_nat (by omega), cursorsTo_step hlt hc ?_⟩; rw [g2]; simp only [cursorIn, decide_eq_true_eq]; omega)
      | (intro hh; have := hh.2.2.2.2 i hlt; rw [g2] at this; simp only [cursorIn, decide_eq_true_eq] at this; omega))
  · simp -implicitDefEqProofs [e2, e44, e45, e46, hlt]
    exact ⟨by assumption, by omega, by omega, by assumption, cursorsTo_all (by omega) hc⟩

end Go.Ab

namespace Go.Ab

end Go.Ab

namespace Go.Ab

end Go.Ab

namespace Go.Ab

@[reducible] def noMachine : Machine := ⟨⟨0, 0, 0, 0, 0⟩, [], [], [], []⟩

theorem ok_rings (l : List Ring) : okC 8 (.vs (l.map (encRing true)) true) = true := by simp [okC, List.all_map, flatV]
theorem ok_replicas (l : List Replica) : okC 8 (.vs (l.map (encReplica true)) true) = true := by simp [okC, List.all_map, flatV]
theorem ok_threads (l : List Thread) : okC 8 (.vs (l.map (encThread true)) true) = true := by simp [okC, List.all_map, flatV]
theorem ok_events (l : List Event) : okC 8 (.vs (l.map encEvent) true) = true := by simp [okC, List.all_map, flatV]
theorem c_Num (e : Int) : PCall tab 12 [.int .i64 e] (.int .i64 e) := by
  refine PCall.of (F := m12) rfl rfl rfl rfl ?_
  simp -implicitDefEqProofs [m12]
  trace_state

end Go.Ab

namespace Go.Ab

end Go.Ab

namespace Go.Ab

end Go.Ab

namespace Go.Ab

end Go.Ab

namespace Go.Ab

/-- so far: of these four roots the content is another one of the same kind, all else stayed -/
structure Sp (T T' : TH) (r1 r2 r3 r4 : Nat) (rs : List Ring) (ps : List Replica) (ts : List Thread) : Prop where
  next : T'.next = T.next
  other : ∀ k, k ≠ r1 → k ≠ r2 → k ≠ r3 → k ≠ r4 → T'.get k = T.get k
  g1 : T'.get r1 = .tree (rs.map (encRing true)) true []
  g2 : T'.get r2 = .tree (ps.map (encReplica true)) true []
  g3 : T'.get r3 = .tree (ts.map (encThread true)) true []
  o1 : ∀ x ∈ rs, okR x
  o2 : ∀ x ∈ ps, okP' x
  o3 : ∀ x ∈ ts, okTh x

end Go.Ab

namespace Go.Ab

theorem fzC_sl (T : TH) (d r : Nat) (p : Path) (g i n : Nat) : fzC T d (.sl r p g i n true) = if (T.get r).valid p g = true then match T.get r with
      | .tree rows z _ => match p.getLast? with
        | none => if okC d (.vs rows z) then some (unz d (.vs rows z)) else none
        | some (i, j) => match nodeA rows p.dropLast with
          | some rp => match cellOf rp i j with
            | some (.vs rows' z') => if okC d (.vs rows' z') then some (unz d (.vs rows' z')) else none
            | _ => none
          | none => none
      | _ => none
    else none := rfl
theorem fzC_part (T : TH) (d r : Nat) (p : Path) (g i n : Nat) : fzC T d (.sl r p g i n false) = if (T.get r).valid p g = true then match T.get r with
      | .tree rows _ _ => match nodeA rows p with
        | some rp => if n = 0 then some (.vs [] false) else if i + n ≤ rp.length ∧ okC d (.vs ((rp.drop i).take n) true) = true then some (unz d (.vs ((rp.drop i).take n) true)) else none
        | none => none
      | _ => none
    else none := rfl
theorem fzT_part (T : TH) (r : Nat) (p : Path) (g i n : Nat) : fzT T (.sl r p g i n false) = fzC T 11 (.sl r p g i n false) := rfl
attribute [simp] fzC_part fzT_part
theorem fzT_sl (T : TH) (r : Nat) (p : Path) (g i n : Nat) : fzT T (.sl r p g i n true) = fzC T 11 (.sl r p g i n true) := rfl
attribute [simp] fzC_sl fzT_sl

@[simp] theorem unz_int (d : Nat) (k : IntKind) (n : Int) : unz d (.int k n) = .int k n := by cases d <;> rfl
@[simp] theorem unz_bool (d : Nat) (b : Bool) : unz d (.bool b) = .bool b := by cases d <;> rfl
@[simp] theorem unz_vs (d : Nat) (rows : List (List AV)) (z : Bool) : unz (d + 1) (.vs rows z) = .vs (rows.map fun row => row.map (unz d)) false := by conv => lhs; unfold unz
@[simp] theorem okC_int (d : Nat) (k : IntKind) (n : Int) : okC d (.int k n) = true := by cases d <;> rfl
@[simp] theorem okC_bool (d : Nat) (b : Bool) : okC d (.bool b) = true := by cases d <;> rfl
@[simp] theorem okC_vs (d : Nat) (rows : List (List AV)) (z : Bool) : okC (d + 1) (.vs rows z) = rows.all fun row => row.all (okC d) := by conv => lhs; unfold okC

theorem unz_ints (d : Nat) (xs : List Int) (z : Bool) : unz (d + 1) (.vs (xs.map encInt) z) = .vs (xs.map encInt) false := by simp
theorem unz_slots (d : Nat) (xs : List Slot) (z : Bool) : unz (d + 1) (.vs (xs.map encSlot) z) = .vs (xs.map encSlot) false := by simp
theorem unz_events (d : Nat) (xs : List Event) (z : Bool) : unz (d + 1) (.vs (xs.map encEvent) z) = .vs (xs.map encEvent) false := by simp
theorem unz_rings (d : Nat) (xs : List Ring) (z z' : Bool) : unz (d + 2) (.vs (xs.map (encRing z)) z') = .vs (xs.map (encRing false)) false := by simp
theorem unz_replicas (d : Nat) (xs : List Replica) (z z' : Bool) : unz (d + 2) (.vs (xs.map (encReplica z)) z') = .vs (xs.map (encReplica false)) false := by simp
theorem unz_threads (d : Nat) (xs : List Thread) (z z' : Bool) : unz (d + 2) (.vs (xs.map (encThread z)) z') = .vs (xs.map (encThread false)) false := by simp
theorem okC_ints (d : Nat) (xs : List Int) (z : Bool) : okC (d + 1) (.vs (xs.map encInt) z) = true := by simp
theorem okC_slots (d : Nat) (xs : List Slot) (z : Bool) : okC (d + 1) (.vs (xs.map encSlot) z) = true := by simp
theorem okC_events (d : Nat) (xs : List Event) (z : Bool) : okC (d + 1) (.vs (xs.map encEvent) z) = true := by simp
theorem okC_rings (d : Nat) (xs : List Ring) (z z' : Bool) : okC (d + 2) (.vs (xs.map (encRing z)) z') = true := by simp
theorem okC_replicas (d : Nat) (xs : List Replica) (z z' : Bool) : okC (d + 2) (.vs (xs.map (encReplica z)) z') = true := by simp
theorem okC_threads (d : Nat) (xs : List Thread) (z z' : Bool) : okC (d + 2) (.vs (xs.map (encThread z)) z') = true := by simp

attribute [simp high] unz_ints unz_slots unz_events unz_rings unz_replicas unz_threads okC_ints okC_slots okC_events okC_rings okC_replicas okC_threads

end Go.Ab

namespace Go.Ab

@[reducible] def macNums (m : Machine) : Prop := (m.rings.length : Int) = m.config.logs ∧ (m.replicas.length : Int) = m.config.replicas ∧ (m.threads.length : Int) = m.config.threads ∧ m.history.length ≤ 64
def machineMay (m : Machine) : Prop := cfgMay m.config ∧ macNums m ∧ allOf (ringIn m.config) m.rings ∧ allOf (replicaIn m.config m.rings) m.replicas ∧ allOf (atIn m.config) m.threads ∧ allOf (evIn m.config) m.history
instance (c : Config) : DecidablePred (ringIn c) := fun r => inferInstanceAs (Decidable (ringOK r ∧ (r.slots.length : Int) = c.slots ∧ r.fence ≤ c.threads ∧ allOf (slotIn c) r.slots))
instance : DecidablePred machineMay := fun m => inferInstanceAs (Decidable (_ ∧ _ ∧ _ ∧ _ ∧ _ ∧ _))

theorem c_May1 (m : Machine) (x : Replica) (z : Bool) (h : okP' x) (hrs : (m.rings.length : Int) = m.config.logs) : PCall tab 91 [.agg (encReplica z x), .vp [encConfig m.config] 0 0, .vp [encMachine false m] 0 0] (.bool (decide (replicaIn m.config m.rings x))) := by
  refine PCall.of (F := m91) rfl rfl rfl rfl ?_
  simp -implicitDefEqProofs [m91]
  refine CallT.bool2 (by simp) (c_lreplica m.config x m.rings false false false h hrs) (fun hb => ?_) (fun hb => ?_) <;> simp -implicitDefEqProofs [hb]

theorem c_startMay (m : Machine) (h : okM m) : PCall tab 57 [.agg (encMachine false m)] (.bool (decide (machineMay m))) := by
  obtain ⟨⟨l1, o1⟩, ⟨l2, o2⟩, ⟨l3, o3⟩, l4⟩ := h
  have hr : PCall tab 89 [.vs (m.rings.map (encRing false)) false, .fn (.func 90) [.agg (encConfig m.config)] []] (.bool (decide (allOf (ringIn m.config) m.rings))) := by
    rw [← all_is]; exact c_allRing m.rings false l1 _ _ [.agg (encConfig m.config)] [] (fun s hs => c_lring m.config s false (o1 s hs)) (fun s => by simp) (fun d => by simp) (by simp)
  have hp : (m.rings.length : Int) = m.config.logs → PCall tab 93 [.vs (m.replicas.map (encReplica false)) false, .fn (.func 91) [] [.vp [encConfig m.config] 0 0, .vp [encMachine false m] 0 0]] (.bool (decide (allOf (replicaIn m.config m.rings) m.replicas))) := fun hrs => by
    rw [← all_is]; exact c_allReplica m.replicas false l2 _ _ [] [.vp [encConfig m.config] 0 0, .vp [encMachine false m] 0 0] (fun s hs => c_May1 m s false (o2 s hs) hrs) (fun s => by simp) (fun d => by simp) (by simp)
  have ht : PCall tab 94 [.vs (m.threads.map (encThread false)) false, .fn (.func 95) [.agg (encConfig m.config)] []] (.bool (decide (allOf (atIn m.config) m.threads))) := by
    rw [← all_is]; exact c_allThread m.threads false l3 _ _ [.agg (encConfig m.config)] [] (fun s hs => c_lat m.config s false (o3 s hs)) (fun s => by simp) (fun d => by simp) (by simp)
  have he : PCall tab 96 [.vs (m.history.map encEvent) false, .fn (.func 97) [.agg (encConfig m.config)] []] (.bool (decide (allOf (evIn m.config) m.history))) := by
    rw [← all_is]; exact c_allEvent m.history false l4 _ _ [.agg (encConfig m.config)] [] (fun s hs => c_levent m.config s) (fun s => by simp) (fun d => by simp) (by simp)
  refine PCall.of (F := m57) rfl rfl rfl rfl ?_
  simp -implicitDefEqProofs [m57]
  repeat' (first
    | (with_reducible refine guard_by (fun hb => ?_) (fun hb => ?_) <;> rw [hb] <;> (try simp at hb) <;> simp -implicitDefEqProofs [hb])
    | (with_reducible refine cond_by (fun hb => ?_) (fun hb => ?_) <;> rw [hb] <;> (try simp at hb) <;> simp -implicitDefEqProofs [hb])
    | (refine CallT.bool2 rfl (c_cfgMay m.config) (fun hb => ?_) (fun hb => ?_) <;> simp -implicitDefEqProofs [hb])
    | ((refine CallT.bool2 ?_ (hr) (fun hb => ?_) (fun hb => ?_); focus (simp; done)) <;> simp -implicitDefEqProofs [hb])
    | ((refine CallT.bool2 ?_ (hp (by assumption)) (fun hb => ?_) (fun hb => ?_); focus (simp; done)) <;> simp -implicitDefEqProofs [hb])
    | ((refine CallT.bool2 ?_ (ht) (fun hb => ?_) (fun hb => ?_); focus (simp; done)) <;> simp -implicitDefEqProofs [hb])
    | ((refine CallT.bool2 ?_ (he) (fun hb => ?_) (fun hb => ?_); focus (simp; done)) <;> simp -implicitDefEqProofs [hb]))
  all_goals (first
    | exact fun hh => hb hh.1
    | exact fun hh => hb hh.2.2.1
    | exact fun hh => hb hh.2.2.2.1
    | exact fun hh => hb hh.2.2.2.2.1
    | exact fun hh => hb hh.2.2.2.2.2
    | (intro hh; have h5 := hh.2.1; simp only [macNums] at h5; omega)
    | exact ⟨by assumption, ⟨by omega, by omega, by omega, by omega⟩, by assumption, by assumption, by assumption, by assumption⟩)

end Go.Ab

namespace Go.Ab

end Go.Ab

namespace Go.Ab

end Go.Ab

namespace Go.Ab

theorem ok_mach (m : Machine) : okT (.agg (encMachine true m)) = true := by simp [okT, okP, ok_rings, ok_replicas, ok_threads, ok_events]
end Go.Ab

namespace Go.Ab

end Go.Ab

namespace Go.Ab

end Go.Ab

namespace Go.Ab

def isReplica (m : Machine) (r : Int) : Prop := 0 ≤ r ∧ r < m.replicas.length
def isLog (m : Machine) (g : Int) : Prop := 0 ≤ g ∧ g < m.rings.length
instance (m : Machine) (r : Int) : Decidable (isReplica m r) := inferInstanceAs (Decidable (_ ∧ _))
instance (m : Machine) (g : Int) : Decidable (isLog m g) := inferInstanceAs (Decidable (_ ∧ _))
@[reducible] def thereP (m : Machine) (r g : Int) : Prop := machineMay m ∧ isReplica m r ∧ isLog m g
theorem c_There (m : Machine) (r g : Int) (h : okM m) : PCall tab 26 [.vp [encMachine false m] 0 0, .int .i64 r, .int .i64 g] (.bool (decide (thereP m r g))) := by
  refine PCall.of (F := m26) rfl rfl rfl rfl ?_
  simp -implicitDefEqProofs [m26]
  repeat' (first
    | (with_reducible refine guard_by (fun hb => ?_) (fun hb => ?_) <;> rw [hb] <;> (try simp at hb) <;> simp -implicitDefEqProofs [hb])
    | (with_reducible refine cond_by (fun hb => ?_) (fun hb => ?_) <;> rw [hb] <;> (try simp at hb) <;> simp -implicitDefEqProofs [hb])
    | ((refine CallT.bool2 ?_ (c_startMay m h) (fun hb => ?_) (fun hb => ?_); focus (simp; done)) <;> simp -implicitDefEqProofs [hb]))
  all_goals simp only [thereP, isReplica, isLog]
  all_goals (first | omega | (intro hh; omega) | exact fun hh => hb hh.1 | (intro hh; have h5 := hh.2.1; omega) | (intro hh; have h5 := hh.2.2; omega) | exact ⟨by assumption, ⟨by omega, by omega⟩, by omega, by omega⟩ | (rw [Bool.eq_iff_iff]; simp_all; done) | (simp_all; done))

theorem modify_of {α : Type} {l : List α} {i : Nat} {f : α → α} {p : α} (h : l[i]? = some p) : l.modify i f = l.set i (f p) := by
  induction l generalizing i with
  | nil => simp at h
  | cons x l ih =>
    cases i with
    | zero => simp only [List.getElem?_cons_zero, Option.some.injEq] at h; subst h; rfl
    | succ i => simp only [List.getElem?_cons_succ] at h; simp only [List.modify_succ_cons, List.set_cons_succ, ih h]


theorem ok_mach2 (m : Machine) (b : Bool) (k : IntKind) (n : Int) : okT (.tup [.agg (encMachine true m), .bool b, .int k n]) = true := by simp [okT, okP, ok_rings, ok_replicas, ok_threads, ok_events, okC, flatV]

end Go.Ab

namespace Go.Ab

def saysYes : Option (AV × AH) → Bool
  | some (.bool true, _) => true
  | _ => false

theorem saysYes_of {x : Option (AV × AH)} (h : saysYes x = true) : ∃ H, x = some (.bool true, H) := by
  unfold saysYes at h
  split at h
  · exact ⟨_, rfl⟩
  · cases h

theorem PCall.closed {M : FuncId → Option MFunc} {k : FuncId} {F : MFunc} (n : Nat) (hM : M k = some F) (hp : F.pure = true) (hb : F.both = false) (h : saysYes (evalF (eval M n) n F [] { objs := .nil, next := 0, lo := 0 }) = true) : PCall M k [] (.bool true) := by
  intro args H hw ht
  obtain ⟨H1, h1⟩ := saysYes_of h
  refine ⟨.bool true, H, ⟨n + 1, ?_⟩, hw, Nat.le_refl _, rfl, fun _ _ => rfl, [],   .one (.cell (by simp) (.flat rfl .nil)), by simp, by simp⟩
  simp only [eval, hM, hp, hb, if_true, pureB, Bool.false_eq_true, if_false]
  unfold pureC
  rw [ht]
  simp only [h1]
  rfl

end Go.Ab

namespace Go.Ab

mutual
/-- the cells of the memory behind a value that is all its own, with the numbers of the arrays -/
def ownV (H : AH) : Nat → AV → Option (AV × List Nat)
  | 0, _ => none
  | d + 1, v => match v with
    | .bool b => some (.bool b, [])
    | .int k n => some (.int k n, [])
    | .str s => some (.str s, [])
    | .nils => some (.vs [] true, [])
    | .vs [] z => some (.vs [] z, [])
    | .sl b o sz len cap ex => if len = 0 then some (.vs [] (ex && cap == 0), []) else if cap = len then
        match H.read b o (len * sz) with
        | some cs => match ownVs H d cs with
          | some (ts, S) => some (.vs (rows sz ts len) true, b :: S)
          | none => none
        | none => none
      else none
    | _ => none
def ownVs (H : AH) : Nat → List AV → Option (List AV × List Nat)
  | 0, _ => none
  | _ + 1, [] => some ([], [])
  | d + 1, v :: vs => match ownV H d v, ownVs H d vs with
    | some (t, S1), some (ts, S2) => some (t :: ts, S1 ++ S2)
    | _, _ => none
end

def lfV (H : AH) (d : Nat) (v : AV) : Option (AV × List Nat) :=
  match v with
  | .agg cs => (ownVs H d cs).map fun x => (.agg x.1, x.2)
  | v => ownV H d v

def lfVs (H : AH) (d : Nat) : List AV → Option (List AV × List Nat)
  | [] => some ([], [])
  | v :: vs => match lfV H d v, lfVs H d vs with
    | some (t, S1), some (ts, S2) => some (t :: ts, S1 ++ S2)
    | _, _ => none

def runTree (d : Nat) : Option (AV × AH) → Option AV
  | some (.tup vs, H) => match lfVs H d vs with
    | some (ts, S) => if S.Nodup ∧ okT (.tup ts) = true then some (.tup ts) else none
    | none => none
  | some (v, H) => match lfV H d v with
    | some (t, S) => if S.Nodup ∧ okT t = true then some t else none
    | none => none
  | none => none

theorem rows_back {sz : Nat} : ∀ (n : Nat) (ts : List AV), ts.length = n * sz → (rows sz ts n).flatten = ts := by
  intro n
  induction n with
  | zero => intro ts h; simp at h; subst h; rfl
  | succ n ih =>
    intro ts h
    have hle : sz ≤ ts.length := by rw [h, Nat.succ_mul]; omega
    have e : rows sz ts (n + 1) = ts.take sz :: rows sz (ts.drop sz) n := by
      unfold rows
      rw [List.range_succ_eq_map, List.map_cons, List.map_map]
      simp only [Nat.zero_mul, List.drop_zero, List.cons.injEq, true_and]
      apply List.map_congr_left
      intro i _
      simp only [Function.comp_apply, List.drop_drop, Nat.succ_mul]
      rw [Nat.add_comm]
    rw [e, List.flatten_cons, ih _ (by rw [List.length_drop, h, Nat.succ_mul]; omega), List.take_append_drop]

theorem rows_each {sz : Nat} {n : Nat} {ts : List AV} (h : ts.length = n * sz) : ∀ row ∈ rows sz ts n, row.length = sz := by
  intro row hr
  unfold rows at hr
  obtain ⟨i, hi, rfl⟩ := List.mem_map.1 hr
  have hi' := List.mem_range.1 hi
  have : (i + 1) * sz ≤ n * sz := Nat.mul_le_mul_right _ hi'
  rw [Nat.succ_mul] at this
  rw [List.length_take, List.length_drop]
  omega

mutual
theorem ownV_own {H : AH} : ∀ (d : Nat) (v : AV) {t : AV} {S : List Nat}, ownV H d v = some (t, S) → Own H [v] [t] S
  | 0, _, _, _, h => by simp [ownV] at h
  | d + 1, v, t, S, h => by
    unfold ownV at h
    split at h
    · cases h; exact .flat rfl .nil
    · cases h; exact .flat rfl .nil
    · cases h; exact .flat rfl .nil
    · cases h; exact .emp rfl (fun _ => rfl) .nil
    · cases h; exact .emp rfl (fun e => by subst e; rfl) .nil
    · rename_i b o sz len cap ex
      split at h
      · rename_i h0
        subst h0
        cases h
        refine .emp rfl (fun e => ?_) .nil
        simp only [Bool.and_eq_true, beq_iff_eq] at e
        obtain ⟨rfl, rfl⟩ := e
        rfl
      · rename_i h0
        split at h
        · rename_i hc
          subst hc
          split at h
          · rename_i cs hr
            split at h
            · rename_i ts S1 h1
              cases h
              have ho := ownVs_own d cs h1
              have hl : ts.length = cap * sz := by
                rw [← ho.length]
                unfold AH.read at hr
                split at hr
                · unfold slice at hr
                  split at hr
                  · cases hr; rw [List.length_take, List.length_drop]; omega
                  · cases hr
                · cases hr
              have hlen : (rows sz ts cap).length = cap := by simp [rows]
              have := Own.sl (H := H) (b := b) (o := o) (sz := sz) (ex := ex) (z := true) (rows := rows sz ts cap) (cs := cs) (S1 := S1) (S2 := []) (hs := []) (ts := [])
                (fun e => by rw [e] at hlen; simp at hlen; omega) (by rw [hlen]; exact hr) (rows_each hl) (by rw [rows_back _ _ hl]; exact ho) .nil
              rw [hlen] at this
              simpa using this
            · cases h
          · cases h
        · cases h
    · cases h
theorem ownVs_own {H : AH} : ∀ (d : Nat) (vs : List AV) {ts : List AV} {S : List Nat}, ownVs H d vs = some (ts, S) → Own H vs ts S
  | 0, _, _, _, h => by simp [ownVs] at h
  | d + 1, [], ts, S, h => by simp only [ownVs, Option.some.injEq, Prod.mk.injEq] at h; obtain ⟨rfl, rfl⟩ := h; exact .nil
  | d + 1, v :: vs, ts, S, h => by
    simp only [ownVs] at h
    split at h
    · rename_i t S1 ts2 S2 h1 h2
      cases h
      exact (ownV_own d v h1).append (ownVs_own d vs h2)
    · cases h
end

theorem ownV_tup {H : AH} {d : Nat} {v t : AV} {S : List Nat} (h : ownV H d v = some (t, S)) : ∀ x, t ≠ .tup x := by
  intro x
  cases d with
  | zero => simp [ownV] at h
  | succ d =>
    unfold ownV at h
    split at h
    all_goals first
      | (cases h; done)
      | (cases h; simp; done)
      | skip
    split at h
    · cases h; simp
    · split at h
      · split at h
        · split at h
          · cases h; simp
          · cases h
        · cases h
      · cases h

theorem lfV_lf {H : AH} {d : Nat} {v t : AV} {S : List Nat} (h : lfV H d v = some (t, S)) : Lf H v t S := by
  unfold lfV at h
  split at h
  · obtain ⟨⟨ts, S1⟩, h1, h2⟩ := map_some h
    cases h2
    exact .agg (ownVs_own d _ h1)
  · exact .cell (ownV_tup h) (ownV_own d _ h)

theorem lfVs_lf {H : AH} {d : Nat} : ∀ {vs ts : List AV} {S : List Nat}, lfVs H d vs = some (ts, S) → LfL H vs ts S
  | [], ts, S, h => by simp only [lfVs, Option.some.injEq, Prod.mk.injEq] at h; obtain ⟨rfl, rfl⟩ := h; exact .nil
  | v :: vs, ts, S, h => by
    simp only [lfVs] at h
    split at h
    · rename_i t S1 ts2 S2 h1 h2
      cases h
      exact .cons (lfV_lf h1) (lfVs_lf h2)
    · cases h

theorem runTree_lf {d : Nat} {x : Option (AV × AH)} {tr : AV} (h : runTree d x = some tr) : ∃ r H S, x = some (r, H) ∧ S.Nodup ∧ okT tr = true ∧ LfT H r tr S := by
  unfold runTree at h
  split at h
  · rename_i vs H
    split at h
    · rename_i ts S h1
      split at h
      · rename_i hh
        cases h
        exact ⟨_, _, S, rfl, hh.1, hh.2, .tup (lfVs_lf h1)⟩
      · cases h
    · cases h
  · rename_i v H _
    split at h
    · rename_i t S h1
      split at h
      · rename_i hh
        cases h
        exact ⟨_, _, S, rfl, hh.1, hh.2, .one (lfV_lf h1)⟩
      · cases h
    · cases h
  · cases h

theorem PCall.run {M : FuncId → Option MFunc} {k : FuncId} {F : MFunc} {ts : List AV} {tr : AV} (n d : Nat) (hM : M k = some F) (hp : F.pure = true) (hb : F.both = false) (h : runTree d (evalF (eval M n) n F ts { objs := .nil, next := 0, lo := 0 }) = some tr) : PCall M k ts tr := by
  intro args H hw ht
  obtain ⟨r1, H1, S, k1', k2, hok, k3⟩ := runTree_lf h
  obtain ⟨r, u, H', m1, m2, S', m3, m4⟩ := lift_LfT k3 hok k2 hw
  have hpc : pureC (Ab.evalF (eval M n) n F) args H = some (r, H') := by
    simp only [pureC, ht, k1', m1, Option.map_some]
  have hlo : H'.lo = H.lo := by
    obtain ⟨_, _, _, _, _, _, h3⟩ := pureC_spec hpc
    exact (lift_G _ _ _ _ _ _ _ _ h3 hw).2
  refine ⟨r, H', ⟨n + 1, ?_⟩, m2.wh, m2.next, hlo, m2.old, S', m3, m4⟩
  simp only [eval, hM, hp, hb, if_true, pureB, Bool.false_eq_true, if_false]
  exact hpc

end Go.Ab

namespace Go.Ab

theorem emod_toNat (x : Int) (a b : Nat) (ha : 0 < a) (hb : 0 < b) (hd : b ∣ a) : (x % (a : Int)).toNat % b = (x % (b : Int)).toNat := by
  have h1 : 0 ≤ x % (a : Int) := Int.emod_nonneg _ (by omega)
  have h2 : 0 ≤ x % (b : Int) := Int.emod_nonneg _ (by omega)
  have h3 : (((x % (a : Int)).toNat % b : Nat) : Int) = x % (b : Int) := by
    rw [Int.natCast_emod, Int.toNat_of_nonneg h1]
    exact Int.emod_emod_of_dvd x (Int.natCast_dvd_natCast.2 hd)
  omega

theorem and_lit (k : Nat) (hk : k ≤ 62) (x : Int) : abin .and (.int .i64 x) (.int .i64 ((2 ^ k - 1 : Nat) : Int)) = some (.int .i64 (x % ((2 ^ k : Nat) : Int))) := by
  have hp : (2 : Nat) ^ k ≤ 2 ^ 62 := Nat.pow_le_pow_right (by omega) hk
  have hpos : 0 < (2 : Nat) ^ k := Nat.pow_pos (by omega)
  have e2 : (BitVec.ofInt IntKind.i64.bits x &&& BitVec.ofInt IntKind.i64.bits (((2 ^ k - 1 : Nat) : Int))).toNat = (x % ((2 ^ k : Nat) : Int)).toNat := by
    rw [BitVec.toNat_and, BitVec.toNat_ofInt, BitVec.toNat_ofInt]
    have hb : IntKind.i64.bits = 64 := rfl
    rw [hb]
    have e3 : ((((2 ^ k - 1 : Nat) : Int)) % ((2 ^ 64 : Nat) : Int)).toNat = 2 ^ k - 1 := by omega
    rw [e3, Nat.and_two_pow_sub_one_eq_mod]
    exact emod_toNat x (2 ^ 64) (2 ^ k) (by omega) hpos (Nat.pow_dvd_pow 2 (by omega))
  have h1 : 0 ≤ x % ((2 ^ k : Nat) : Int) := Int.emod_nonneg _ (by omega)
  have h2 : x % ((2 ^ k : Nat) : Int) < ((2 ^ k : Nat) : Int) := Int.emod_lt_of_pos _ (by omega)
  simp only [abin, ne_eq, not_true_eq_false, if_false]
  rw [e2, Int.toNat_of_nonneg h1, wrap_of (by omega) (by omega)]

theorem and_1 (x : Int) : abin .and (.int .i64 x) (.int .i64 1) = some (.int .i64 (x % 2)) := and_lit 1 (by omega) x
theorem and_1023 (x : Int) : abin .and (.int .i64 x) (.int .i64 1023) = some (.int .i64 (x % 1024)) := and_lit 10 (by omega) x

theorem mask_1 (x : Int) : IntKind.wrap .i64 (((x % 2 ^ IntKind.i64.bits).toNat &&& 1 % 2 ^ IntKind.i64.bits : Nat) : Int) = x % 2 := by have := and_1 x; simpa using this
theorem mask_1023 (x : Int) : IntKind.wrap .i64 (((x % 2 ^ IntKind.i64.bits).toNat &&& 1023 % 2 ^ IntKind.i64.bits : Nat) : Int) = x % 1024 := by have := and_1023 x; simpa using this
end Go.Ab

namespace Go.Ab

theorem c_awake18 : PCall tab 14 [] (.bool true) := PCall.closed 60 rfl rfl rfl (by kernel_rfl)

theorem c_OneNo (m : Machine) (r g : Int) (h : okM m) (hno : ¬ thereP m r g) : PCall tab 9 [.agg (encMachine false m), .int .i64 r, .int .i64 g] (.tup [.agg (encMachine true noMachine), .bool false, .int .i64 1800]) := by
  refine PCall.of (F := m9) rfl rfl rfl (ok_mach2 _ _ _ _) ?_
  simp -implicitDefEqProofs [m9]
  refine CallT.bool2 (by simp) (c_There m r g h) (fun hb => absurd hb hno) (fun hb => ?_)
  simp -implicitDefEqProofs

end Go.Ab

namespace Go.Ab

def pubM : Machine := ⟨⟨2, 2, 2, 4, 8⟩, [⟨0, 1, 0, [⟨⟨0, 0, 7⟩, 0, 1⟩, ⟨⟨0, 0, 0⟩, 0, 0⟩, ⟨⟨0, 0, 0⟩, 0, 0⟩, ⟨⟨0, 0, 0⟩, 0, 0⟩, ⟨⟨0, 0, 0⟩, 0, 0⟩, ⟨⟨0, 0, 0⟩, 0, 0⟩, ⟨⟨0, 0, 0⟩, 0, 0⟩, ⟨⟨0, 0, 0⟩, 0, 0⟩]⟩, ⟨0, 0, 0, [⟨⟨0, 0, 0⟩, 0, 0⟩, ⟨⟨0, 0, 0⟩, 0, 0⟩, ⟨⟨0, 0, 0⟩, 0, 0⟩, ⟨⟨0, 0, 0⟩, 0, 0⟩, ⟨⟨0, 0, 0⟩, 0, 0⟩, ⟨⟨0, 0, 0⟩, 0, 0⟩, ⟨⟨0, 0, 0⟩, 0, 0⟩, ⟨⟨0, 0, 0⟩, 0, 0⟩]⟩], [⟨⟨[], [], [], []⟩, [0, 0], [1, 0]⟩, ⟨⟨[], [], [], []⟩, [0, 0], [0, 0]⟩], [⟨8, ⟨0, 0, 7⟩, 0, 0, [0], 1, false, false, 0, []⟩, ⟨0, ⟨0, 0, 0⟩, 0, 0, [], 0, false, false, 0, []⟩, ⟨0, ⟨0, 0, 0⟩, 0, 0, [], 0, false, false, 0, []⟩, ⟨0, ⟨0, 0, 0⟩, 0, 0, [], 0, false, false, 0, []⟩], [⟨0, true, ⟨0, 0, 7⟩, 0⟩]⟩
theorem c_pub18 : PCall tab 19 [] (.agg (encMachine true pubM)) := PCall.run (F := m19.p) 60 400 rfl rfl rfl (by kernel_rfl)
theorem c_One01 : PCall tab 9 [.agg (encMachine false pubM), .int .i64 0, .int .i64 1] (.tup [.agg (encMachine true pubM), .bool false, .int .i64 0]) := PCall.run (F := m9.p) 40 400 rfl rfl rfl (by kernel_rfl)
theorem pub_is : pubM.rings.length = 2 ∧ pubM.replicas.length = 2 ∧ pubM.threads.length = 4 ∧ pubM.history.length = 1 := ⟨rfl, rfl, rfl, rfl⟩
theorem pub_ok : okM pubM := by
  unfold okM okR okP' okS okTh lenOK
  refine ⟨⟨by decide, ?_⟩, ⟨by decide, ?_⟩, ⟨by decide, ?_⟩, by decide⟩ <;> decide +kernel

@[reducible] def stepAt1 (m : Machine) (k : Int) : Machine := { m with threads := m.threads.modify 1 fun x => { x with step := k } }
theorem ok_stepAt1 {m : Machine} (h : okM m) (k : Int) : okM (stepAt1 m k) := by
  obtain ⟨h1, h2, ⟨h3, h4⟩, h5⟩ := h
  refine ⟨h1, h2, ⟨by unfold lenOK at h3 ⊢; simpa using h3, fun x hx => ?_⟩, h5⟩
  obtain ⟨i, hi, rfl⟩ := List.getElem_of_mem hx
  have hi' : i < m.threads.length := by simpa using hi
  have ho := h4 _ (List.getElem_mem hi')
  simp only [List.getElem_modify]
  split
  · exact ho
  · exact ho
theorem no_stepAt1 {m : Machine} {k : Int} {r g : Int} (hk : k < 0) (hl : 1 < m.threads.length) : ¬ thereP (stepAt1 m k) r g := fun h => by
  have h5 := h.1.2.2.2.2.1 ((m.threads.modify 1 fun x => { x with step := k })[1]'(by simpa using hl)) (List.getElem_mem _)
  rw [List.getElem_modify, if_pos rfl] at h5
  have := h5.1.1
  simp only at this
  omega

set_option maxRecDepth 20000 in
set_option maxHeartbeats 8000000 in
theorem l_ReplayForms (which x : Int) (_ : inR which) (_ : inR x) : CallT tab false 6 [.a (.int .i64 which), .a (.int .i64 x)] TH.none (fun v _ => v = .a (.bool true)) := by
  obtain ⟨b2, b3, b4, b7⟩ := pub_is
  have b5 := pub_ok
  have hpub := c_pub18
  have hone := c_One01
  generalize pubM = B at *
  have z1 : 1 < B.threads.length := by omega
  have g1 := List.getElem?_eq_getElem z1
  have hw : ∀ k : Int, (B.threads.map (encThread true)).set 1 [.int .i64 k, .int .i64 B.threads[1].op.code, .int .i64 B.threads[1].op.row, .int .i64 B.threads[1].op.arg, .int .i64 B.threads[1].log, .int .i64 B.threads[1].seen, .vs (B.threads[1].batch.map encInt) true, .int .i64 B.threads[1].at_, .bool B.threads[1].posted, .bool B.threads[1].ready, .int .i64 B.threads[1].answer, .vs (B.threads[1].tails.map encInt) true] = (B.threads.modify 1 fun x => { x with step := k }).map (encThread true) := fun k => by
    rw [modify_of g1, List.map_set]
  have hm4 : ∀ k : Int, (B.threads.modify 1 fun x => { x with step := k }).length = 4 := fun k => by rw [List.length_modify, b4]
  refine CallT.body (F := m6) rfl rfl rfl rfl ?_
  simp -implicitDefEqProofs [m6]
  refine CallT.pure c_awake18 rfl rfl ?_
  have hd : IntKind.wrap .i64 (1 + x % 1024) = 1 + x % 1024 := wrap_of (by omega) (by omega)
  simp -implicitDefEqProofs [mask_1023, hd]
  obtain ⟨d, hdd⟩ : ∃ d, 1 + x % 1024 = d := ⟨_, rfl⟩
  have hd1 : 1 ≤ d := by omega
  have hd2 : d ≤ 1024 := by omega
  rw [hdd]
  refine CallT.pure hpub rfl (ok_mach _) ?_
  have n1 : IntKind.wrap .i64 (-d) = -d := wrap_of (by omega) (by omega)
  have n2 : IntKind.wrap .i64 (1 + d) = 1 + d := wrap_of (by omega) (by omega)
  have hir1 : ¬ thereP B (-d) 0 := fun e => by have e1 := e.2.1; simp only [isReplica] at e1; omega
  have hir2 : ¬ thereP B (1 + d) 0 := fun e => by have e1 := e.2.1; simp only [isReplica] at e1; omega
  have hil1 : ¬ thereP B 0 (-d) := fun e => by have e1 := e.2.2; simp only [isLog] at e1; omega
  have hil2 : ¬ thereP B 0 (1 + d) := fun e => by have e1 := e.2.2; simp only [isLog] at e1; omega
  simp -implicitDefEqProofs [n1, z1, g1, b2, b3, b4, b7]
  rw [hw]
  refine CallT.pure (c_OneNo (stepAt1 B (-d)) 0 0 (ok_stepAt1 b5 _) (no_stepAt1 (by omega) z1)) (by simp [b2, b3, b4, b7, hm4]) (ok_mach2 _ _ _ _) ?_
  simp -implicitDefEqProofs [b2, b3, b4, b7]
  refine CallT.pure hpub rfl (ok_mach _) ?_
  obtain ⟨w, hww⟩ : ∃ w, which % 2 = w := ⟨_, rfl⟩
  have hw2 : w = 0 ∨ w = 1 := by omega
  rcases hw2 with rfl | rfl
  · simp -implicitDefEqProofs [mask_1, hww, n1, n2, b2, b3, b4, b7]
    refine CallT.pure (c_OneNo B (-d) 0 b5 hir1) (by simp [b2, b3, b4, b7]) (ok_mach2 _ _ _ _) ?_
    simp -implicitDefEqProofs [b2, b3, b4, b7]
    refine CallT.pure hpub rfl (ok_mach _) ?_
    simp -implicitDefEqProofs [mask_1, hww, n1, n2, b2, b3, b4, b7]
    refine CallT.pure (c_OneNo B 0 (-d) b5 hil1) (by simp [b2, b3, b4, b7]) (ok_mach2 _ _ _ _) ?_
    simp -implicitDefEqProofs [b2, b3, b4, b7]
    refine CallT.pure hpub rfl (ok_mach _) ?_
    simp -implicitDefEqProofs [b2, b3, b4, b7]
    refine CallT.pure hone (by simp [b2, b3, b4, b7]) (ok_mach2 _ _ _ _) ?_
    simp -implicitDefEqProofs [b2, b3, b4, b7]
    refine CallT.pure (c_Num 1800) rfl rfl ?_
    simp -implicitDefEqProofs
    refine CallT.pure (c_Num 1800) rfl rfl ?_
    simp -implicitDefEqProofs
    refine CallT.pure (c_Num 1800) rfl rfl ?_
    simp -implicitDefEqProofs [b2, b3, b4, b7]
    refine CallT.pure hpub rfl (ok_mach _) ?_
    simp -implicitDefEqProofs [b2, b3, b4, b7]
    refine CallT.bool2 (by simp [b2, b3, b4, b7]) (c_SameMachine B B false false b5) (fun hb => ?_) (fun hb => absurd rfl hb)
    simp -implicitDefEqProofs
    refine CallT.pure (c_Num 0) rfl rfl ?_
    simp -implicitDefEqProofs
  · simp -implicitDefEqProofs [mask_1, hww, n1, n2, b2, b3, b4, b7]
    refine CallT.pure (c_OneNo B (1 + d) 0 b5 hir2) (by simp [b2, b3, b4, b7]) (ok_mach2 _ _ _ _) ?_
    simp -implicitDefEqProofs [b2, b3, b4, b7]
    refine CallT.pure hpub rfl (ok_mach _) ?_
    simp -implicitDefEqProofs [mask_1, hww, n1, n2, b2, b3, b4, b7]
    refine CallT.pure (c_OneNo B 0 (1 + d) b5 hil2) (by simp [b2, b3, b4, b7]) (ok_mach2 _ _ _ _) ?_
    simp -implicitDefEqProofs [b2, b3, b4, b7]
    refine CallT.pure hpub rfl (ok_mach _) ?_
    simp -implicitDefEqProofs [b2, b3, b4, b7]
    refine CallT.pure hone (by simp [b2, b3, b4, b7]) (ok_mach2 _ _ _ _) ?_
    simp -implicitDefEqProofs [b2, b3, b4, b7]
    refine CallT.pure (c_Num 1800) rfl rfl ?_
    simp -implicitDefEqProofs
    refine CallT.pure (c_Num 1800) rfl rfl ?_
    simp -implicitDefEqProofs
    refine CallT.pure (c_Num 1800) rfl rfl ?_
    simp -implicitDefEqProofs [b2, b3, b4, b7]
    refine CallT.pure hpub rfl (ok_mach _) ?_
    simp -implicitDefEqProofs [b2, b3, b4, b7]
    refine CallT.bool2 (by simp [b2, b3, b4, b7]) (c_SameMachine B B false false b5) (fun hb => ?_) (fun hb => absurd rfl hb)
    simp -implicitDefEqProofs
    refine CallT.pure (c_Num 0) rfl rfl ?_
    simp -implicitDefEqProofs

end Go.Ab

namespace Go.Ab
open Go.RowKit Go.ChangeShapes

theorem law_eval {M : FuncId → Option MFunc} {k : FuncId} {ts : List AV} (h : CallT M false k (ts.map .a) TH.none fun v _ => v = .a (.bool true)) : ∃ n H', eval M n k ts AH.zero = some (.bool true, H') := by
  obtain ⟨r, H', ⟨n, hev⟩, v, A', T', _, hv, _, rfl⟩ := h _ AH.zero ts HR.none (VRL.atoms ts)
  cases hv
  exact ⟨n, H', hev⟩

theorem i64_range {n : Int} (h : (Lit.int .i64 n).wf = true) : -9223372036854775808 ≤ n ∧ n < 9223372036854775808 := by
  simp only [Lit.wf, Bool.and_eq_true, decide_eq_true_eq] at h
  have e1 : IntKind.i64.min = -9223372036854775808 := by decide
  have e2 : IntKind.i64.max = 9223372036854775807 := by decide
  omega

end Go.Ab

namespace Go.Proofs.YtgofbakhdaegeaaGreat
open Go.ChangeShapes Go.WideShapes Go.ChangeAt Go.RowKit Go.Ab

mutual
theorem tame_of {H : Type} : ∀ (d : DataW H), Rows.uptoBulk d ≤ 1048576 → tame d = true
  | .lit l, h => by
    cases l
    case string bytes => simp only [Rows.uptoBulk] at h; simp only [tame, decide_eq_true_eq]; omega
    all_goals rfl
  | .nil, _ => rfl
  | .ptr _, _ => rfl
  | .slice es sp, h => by
    simp only [Rows.uptoBulk] at h
    obtain ⟨h1, h2⟩ := tameL_of es (by omega)
    simp only [tame, Bool.and_eq_true, decide_eq_true_eq]
    exact ⟨by omega, h1⟩
  | .agg ps, h => by
    simp only [Rows.uptoBulk] at h
    exact (tameL_of ps (by omega)).1
  | .iface _ _, _ => rfl
  | .map _, _ => rfl
  | .held _, _ => rfl
theorem tameL_of {H : Type} : ∀ (l : List (DataW H)), Rows.uptoBulkAll l ≤ 1048576 → tameL l = true ∧ l.length ≤ Rows.uptoBulkAll l
  | [], _ => ⟨rfl, by simp⟩
  | d :: r, h => by
    simp only [Rows.uptoBulkAll] at h ⊢
    obtain ⟨h1, h2⟩ := tameL_of r (by omega)
    have h3 := tame_of d (by omega)
    have h4 := bulk_pos d
    exact ⟨by simp only [tameL, h3, h1, Bool.and_self], by simp only [List.length_cons]; omega⟩
theorem bulk_pos {H : Type} : ∀ (d : DataW H), 1 ≤ Rows.uptoBulk d
  | .lit l => by cases l <;> simp [Rows.uptoBulk]
  | .nil => by simp [Rows.uptoBulk]
  | .ptr _ => by simp only [Rows.uptoBulk]; omega
  | .slice _ _ => by simp only [Rows.uptoBulk]; omega
  | .agg _ => by simp only [Rows.uptoBulk]; omega
  | .iface _ _ => by simp only [Rows.uptoBulk]; omega
  | .map _ => by simp only [Rows.uptoBulk]; omega
  | .held _ => by simp [Rows.uptoBulk]
end

theorem own : ownKnob Go.Proofs.Tryz.prog.godebug = none := by kernel_rfl
theorem laidOut : laidOutB Go.Proofs.Tryz.prog = true := by kernel_rfl

section
variable (W : World)
end

end Go.Proofs.YtgofbakhdaegeaaGreat
