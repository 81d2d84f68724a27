/-
  The comparisons of the statements, by value.
  and what goes with it.
  Conditions: none.
-/
import Derived.Test.YtooniglinjigdaaGreatGt
import Derived.KernelRfl
import Derived.Test.YtooniglinjigdaaGreatGd
import Derived.Test.YtooniglinjigdaaGreatGb
import Derived.Test.YtooniglinjigdaaGreatRows

set_option linter.unusedSimpArgs false
set_option linter.unusedVariables false

namespace Go.Ab

theorem wrap_nat {i : Nat} (h : (i : Int) + 1 < 9223372036854775808) : IntKind.wrap .i64 ((i : Int) + 1) = ((i + 1 : Nat) : Int) := by
  rw [wrap_of (by omega) h]; rfl

theorem take_step {α : Type} {xs ys : List α} {i : Nat} (h1 : i < xs.length) (h2 : i < ys.length) (h : xs.take i = ys.take i) (e : xs[i] = ys[i]) : xs.take (i + 1) = ys.take (i + 1) := by
  rw [List.take_succ_eq_append_getElem h1, List.take_succ_eq_append_getElem h2, h, e]

theorem take_all {α : Type} {xs ys : List α} {i : Nat} (h1 : xs.length ≤ i) (h2 : ys.length ≤ i) (h : xs.take i = ys.take i) : xs = ys := by
  rw [List.take_of_length_le h1, List.take_of_length_le h2] at h; exact h

theorem op_eq {a b : Op} : a = b ↔ a.code = b.code ∧ a.row = b.row ∧ a.arg = b.arg := by cases a; cases b; simp
theorem slot_eq {a b : Slot} : a = b ↔ a.op.code = b.op.code ∧ a.op.row = b.op.row ∧ a.op.arg = b.op.arg ∧ a.thread = b.thread ∧ a.bit = b.bit := by cases a; cases b; simp [op_eq, and_assoc]
theorem event_eq {a b : Event} : a = b ↔ a.thread = b.thread ∧ a.call = b.call ∧ a.op.code = b.op.code ∧ a.op.row = b.op.row ∧ a.op.arg = b.op.arg ∧ a.answer = b.answer := by cases a; cases b; simp [op_eq, and_assoc]

/-- as long as memory allows -/
def lenOK {α : Type} (l : List α) : Prop := l.length ≤ 1048576


theorem c_SameInts (xs ys : List Int) (z1 z2 : Bool) (hx : lenOK xs) : PCall tab 29 [.vs (xs.map encInt) z1, .vs (ys.map encInt) z2] (.bool (decide (xs = ys))) := by
  unfold lenOK at hx
  refine PCall.of (F := m29) rfl rfl rfl rfl ?_
  by_cases hl : xs.length = ys.length
  · simp -implicitDefEqProofs [m29, hl]
    refine loop_by (fun k E T => T = TH.none ∧ ∃ i : Nat, i + k = xs.length ∧ E.get 0 = .a (.vs (xs.map encInt) z1) ∧ E.get 1 = .a (.vs (ys.map encInt) z2) ∧ E.get 5 = .a (.int .i64 i) ∧ xs.take i = ys.take i) ?_ xs.length ⟨rfl, 0, by simp⟩
    rintro k E T ⟨rfl, i, hi, h0, h1, h5, ht⟩
    by_cases hlt : i < xs.length
    · have hlt2 : i < ys.length := by omega
      have e1 := List.getElem?_eq_getElem hlt
      have e2 := List.getElem?_eq_getElem hlt2
      by_cases he : xs[i] = ys[i]
      · have he' := he
        skip
        simp -implicitDefEqProofs [h0, h1, h5, hlt, hlt2, e1, e2, he']
        exact ⟨k - 1, by omega, i + 1, by omega, wrap_nat (by omega), take_step hlt hlt2 ht he⟩
      · have he' := he
        skip
        have he2 := he'
        try simp only [Classical.not_and_iff_not_or_not] at he2
        simp -implicitDefEqProofs [h0, h1, h5, hlt, hlt2, e1, e2, he', he2]
        intro e; subst e; exact he rfl
    · have hlt2 : ¬ i < ys.length := by omega
      simp -implicitDefEqProofs [h0, h1, h5, hlt, hlt2]
      exact take_all (by omega) (by omega) ht
  · have hl' : ¬ (xs.length : Int) = ys.length := by omega
    simp -implicitDefEqProofs [m29, hl']
    intro h; exact hl (by rw [h])

theorem c_SameSlots (xs ys : List Slot) (z1 z2 : Bool) (hx : lenOK xs) : PCall tab 124 [.vs (xs.map encSlot) z1, .vs (ys.map encSlot) z2] (.bool (decide (xs = ys))) := by
  unfold lenOK at hx
  refine PCall.of (F := m124) rfl rfl rfl rfl ?_
  by_cases hl : xs.length = ys.length
  · simp -implicitDefEqProofs [m124, hl]
    refine loop_by (fun k E T => T = TH.none ∧ ∃ i : Nat, i + k = xs.length ∧ E.get 0 = .a (.vs (xs.map encSlot) z1) ∧ E.get 1 = .a (.vs (ys.map encSlot) z2) ∧ E.get 5 = .a (.int .i64 i) ∧ xs.take i = ys.take i) ?_ xs.length ⟨rfl, 0, by simp⟩
    rintro k E T ⟨rfl, i, hi, h0, h1, h5, ht⟩
    by_cases hlt : i < xs.length
    · have hlt2 : i < ys.length := by omega
      have e1 := List.getElem?_eq_getElem hlt
      have e2 := List.getElem?_eq_getElem hlt2
      by_cases he : xs[i] = ys[i]
      · have he' := he
        rw [slot_eq] at he'
        simp -implicitDefEqProofs [h0, h1, h5, hlt, hlt2, e1, e2, he']
        exact ⟨k - 1, by omega, i + 1, by omega, wrap_nat (by omega), take_step hlt hlt2 ht he⟩
      · have he' := he
        rw [slot_eq] at he'
        have he2 := he'
        try simp only [Classical.not_and_iff_not_or_not] at he2
        simp -implicitDefEqProofs [h0, h1, h5, hlt, hlt2, e1, e2, he', he2]
        intro e; subst e; exact he rfl
    · have hlt2 : ¬ i < ys.length := by omega
      simp -implicitDefEqProofs [h0, h1, h5, hlt, hlt2]
      exact take_all (by omega) (by omega) ht
  · have hl' : ¬ (xs.length : Int) = ys.length := by omega
    simp -implicitDefEqProofs [m124, hl']
    intro h; exact hl (by rw [h])

theorem c_SameEvents (xs ys : List Event) (z1 z2 : Bool) (hx : lenOK xs) : PCall tab 60 [.vs (xs.map encEvent) z1, .vs (ys.map encEvent) z2] (.bool (decide (xs = ys))) := by
  unfold lenOK at hx
  refine PCall.of (F := m60) rfl rfl rfl rfl ?_
  by_cases hl : xs.length = ys.length
  · simp -implicitDefEqProofs [m60, hl]
    refine loop_by (fun k E T => T = TH.none ∧ ∃ i : Nat, i + k = xs.length ∧ E.get 0 = .a (.vs (xs.map encEvent) z1) ∧ E.get 1 = .a (.vs (ys.map encEvent) z2) ∧ E.get 5 = .a (.int .i64 i) ∧ xs.take i = ys.take i) ?_ xs.length ⟨rfl, 0, by simp⟩
    rintro k E T ⟨rfl, i, hi, h0, h1, h5, ht⟩
    by_cases hlt : i < xs.length
    · have hlt2 : i < ys.length := by omega
      have e1 := List.getElem?_eq_getElem hlt
      have e2 := List.getElem?_eq_getElem hlt2
      by_cases he : xs[i] = ys[i]
      · have he' := he
        rw [event_eq] at he'
        simp -implicitDefEqProofs [h0, h1, h5, hlt, hlt2, e1, e2, he']
        exact ⟨k - 1, by omega, i + 1, by omega, wrap_nat (by omega), take_step hlt hlt2 ht he⟩
      · have he' := he
        rw [event_eq] at he'
        have he2 := he'
        try simp only [Classical.not_and_iff_not_or_not] at he2
        simp -implicitDefEqProofs [h0, h1, h5, hlt, hlt2, e1, e2, he', he2]
        intro e; subst e; exact he rfl
    · have hlt2 : ¬ i < ys.length := by omega
      simp -implicitDefEqProofs [h0, h1, h5, hlt, hlt2]
      exact take_all (by omega) (by omega) ht
  · have hl' : ¬ (xs.length : Int) = ys.length := by omega
    simp -implicitDefEqProofs [m60, hl']
    intro h; exact hl (by rw [h])

end Go.Ab

namespace Go.Ab

theorem ring_eq {a b : Ring} : a = b ↔ a.head = b.head ∧ a.tail = b.tail ∧ a.fence = b.fence ∧ a.slots = b.slots := by cases a; cases b; simp
theorem state_eq {a b : State} : a = b ↔ a.r0 = b.r0 ∧ a.r1 = b.r1 ∧ a.r2 = b.r2 ∧ a.r3 = b.r3 := by cases a; cases b; simp
theorem thread_eq {a b : Thread} : a = b ↔ a.step = b.step ∧ (a.op.code = b.op.code ∧ a.op.row = b.op.row ∧ a.op.arg = b.op.arg) ∧ a.log = b.log ∧ a.seen = b.seen ∧ a.batch = b.batch ∧ a.at_ = b.at_ ∧ a.posted = b.posted ∧ a.ready = b.ready ∧ a.answer = b.answer ∧ a.tails = b.tails := by
  cases a; cases b; simp [op_eq]

theorem c_SameRing (a b : Ring) (z1 z2 : Bool) (h : lenOK a.slots) : PCall tab 61 [.agg (encRing z1 a), .agg (encRing z2 b)] (.bool (decide (a = b))) := by
  refine PCall.dec ring_eq ?_
  refine PCall.of (F := m61) rfl rfl rfl rfl ?_
  by_cases h1 : a.head = b.head <;> by_cases h2 : a.tail = b.tail <;> by_cases h3 : a.fence = b.fence <;> simp -implicitDefEqProofs [m61, h1, h2, h3]
  refine CallT.pure (c_SameSlots a.slots b.slots false false h) (by simp) rfl ?_
  simp

theorem c_SameThread (a b : Thread) (z1 z2 : Bool) (h1 : lenOK a.batch) (h2 : lenOK a.tails) : PCall tab 63 [.agg (encThread z1 a), .agg (encThread z2 b)] (.bool (decide (a = b))) := by
  refine PCall.dec thread_eq ?_
  refine PCall.of (F := m63) rfl rfl rfl rfl ?_
  by_cases e1 : a.step = b.step
  · by_cases e2 : a.op.code = b.op.code ∧ a.op.row = b.op.row ∧ a.op.arg = b.op.arg
    · by_cases e3 : a.log = b.log
      · by_cases e4 : a.seen = b.seen
        · simp -implicitDefEqProofs [m63, e1, e2, e3, e4]
          refine CallT.pure (c_SameInts a.batch b.batch false false h1) (by simp) rfl ?_
          by_cases e5 : a.batch = b.batch
          · by_cases e6 : a.at_ = b.at_
            · by_cases e7 : a.posted = b.posted
              · by_cases e8 : a.ready = b.ready
                · by_cases e9 : a.answer = b.answer
                  · simp -implicitDefEqProofs [e5, e6, e7, e8, e9]
                    refine CallT.pure (c_SameInts a.tails b.tails false false h2) (by simp) rfl ?_
                    simp
                  · simp -implicitDefEqProofs [e5, e6, e7, e8, e9]
                · simp -implicitDefEqProofs [e5, e6, e7, e8]
              · simp -implicitDefEqProofs [e5, e6, e7]
            · simp -implicitDefEqProofs [e5, e6]
          · simp -implicitDefEqProofs [e5]
        · simp -implicitDefEqProofs [m63, e1, e2, e3, e4]
      · simp -implicitDefEqProofs [m63, e1, e2, e3]
    · have e2' : (a.op.code == b.op.code && (a.op.row == b.op.row && a.op.arg == b.op.arg)) = false := by
        cases hx : (a.op.code == b.op.code && (a.op.row == b.op.row && a.op.arg == b.op.arg)) with
        | false => rfl
        | true => simp at hx; exact absurd hx e2
      simp -implicitDefEqProofs [m63, e1, e2, e2']
  · simp -implicitDefEqProofs [m63, e1]

end Go.Ab

namespace Go.Ab

@[simp] theorem wrap0 : IntKind.wrap .i64 (0 + 1) = 1 := by decide
@[simp] theorem wrap1 : IntKind.wrap .i64 (1 + 1) = 2 := by decide
@[simp] theorem wrap2 : IntKind.wrap .i64 (2 + 1) = 3 := by decide
@[simp] theorem wrap3 : IntKind.wrap .i64 (3 + 1) = 4 := by decide
@[simp] theorem wrap0' : IntKind.wrap .i64 1 = 1 := by decide
@[simp] theorem wrap1' : IntKind.wrap .i64 2 = 2 := by decide
@[simp] theorem wrap2' : IntKind.wrap .i64 3 = 3 := by decide
@[simp] theorem wrap3' : IntKind.wrap .i64 4 = 4 := by decide

def okS (s : State) : Prop := lenOK s.r0 ∧ lenOK s.r1 ∧ lenOK s.r2 ∧ lenOK s.r3

theorem c_SameState (a b : State) (z1 z2 : Bool) (h : okS a) : PCall tab 62 [.agg (encState z1 a), .agg (encState z2 b)] (.bool (decide (a = b))) := by
  obtain ⟨h0, h1, h2, h3⟩ := h
  refine PCall.dec state_eq ?_
  refine PCall.of (F := m62) rfl rfl rfl rfl ?_
  simp -implicitDefEqProofs [m62]
  refine WCT.unroll ?_
  simp -implicitDefEqProofs
  refine CallT.pure (c_SameInts a.r0 b.r0 false false h0) (by simp) rfl ?_
  by_cases e0 : a.r0 = b.r0
  · simp -implicitDefEqProofs [e0]
    refine WCT.unroll ?_
    simp -implicitDefEqProofs
    refine CallT.pure (c_SameInts a.r1 b.r1 false false h1) (by simp) rfl ?_
    by_cases e1 : a.r1 = b.r1
    · simp -implicitDefEqProofs [e1]
      refine WCT.unroll ?_
      simp -implicitDefEqProofs
      refine CallT.pure (c_SameInts a.r2 b.r2 false false h2) (by simp) rfl ?_
      by_cases e2 : a.r2 = b.r2
      · simp -implicitDefEqProofs [e2]
        refine WCT.unroll ?_
        simp -implicitDefEqProofs
        refine CallT.pure (c_SameInts a.r3 b.r3 false false h3) (by simp) rfl ?_
        by_cases e3 : a.r3 = b.r3
        · simp -implicitDefEqProofs [e3]
          refine WCT.unroll ?_
          simp -implicitDefEqProofs
        · simp -implicitDefEqProofs [e3]
      · simp -implicitDefEqProofs [e2]
    · simp -implicitDefEqProofs [e1]
  · simp -implicitDefEqProofs [e0]

theorem replica_eq {a b : Replica} : a = b ↔ a.state = b.state ∧ a.cursors = b.cursors ∧ a.locks = b.locks := by cases a; cases b; simp
theorem config_eq {a b : Config} : a = b ↔ a.object = b.object ∧ a.replicas = b.replicas ∧ a.logs = b.logs ∧ a.threads = b.threads ∧ a.slots = b.slots := by cases a; cases b; simp
theorem machine_eq {a b : Machine} : a = b ↔ a.config = b.config ∧ a.rings = b.rings ∧ a.replicas = b.replicas ∧ a.threads = b.threads ∧ a.history = b.history := by cases a; cases b; simp

/-- the lengths in it are such that memory allows -/
def okR (r : Ring) : Prop := lenOK r.slots
def okP' (r : Replica) : Prop := okS r.state ∧ lenOK r.cursors ∧ lenOK r.locks
def okTh (t : Thread) : Prop := lenOK t.batch ∧ lenOK t.tails
def okM (m : Machine) : Prop := (lenOK m.rings ∧ ∀ r ∈ m.rings, okR r) ∧ (lenOK m.replicas ∧ ∀ r ∈ m.replicas, okP' r) ∧ (lenOK m.threads ∧ ∀ t ∈ m.threads, okTh t) ∧ lenOK m.history

end Go.Ab

namespace Go.Ab

set_option maxHeartbeats 1000000 in
theorem c_SameMachine (a b : Machine) (z1 z2 : Bool) (h : okM a) : PCall tab 21 [.agg (encMachine z1 a), .agg (encMachine z2 b)] (.bool (decide (a = b))) := by
  obtain ⟨⟨hr, hr'⟩, ⟨hp, hp'⟩, ⟨ht, ht'⟩, hh⟩ := h
  unfold lenOK at hr hp ht
  refine PCall.dec machine_eq ?_
  refine PCall.of (F := m21) rfl rfl rfl rfl ?_
  by_cases ec : a.config = b.config
  · have ec' := config_eq.1 ec
    by_cases lr : a.rings.length = b.rings.length
    · by_cases lp : a.replicas.length = b.replicas.length
      · by_cases lt : a.threads.length = b.threads.length
        · simp -implicitDefEqProofs [m21, ec, ec', lr, lp, lt]
          refine CallT.bool (c_SameEvents a.history b.history false false hh) (by simp) (fun eh => ?_) (fun eh => ?_)
          · simp -implicitDefEqProofs [eh]
            refine loop_by (fun k E T => T = TH.none ∧ ∃ i : Nat, i + k = a.rings.length ∧ E.get 2 = .lp 0 0 ∧ E.get 3 = .lp 1 0 ∧ E.get 5 = .a (.int .i64 i) ∧ E.var 0 = some ((encMachine z1 a).map .a) ∧ E.var 1 = some ((encMachine z2 b).map .a) ∧ E.ln = 2 ∧ a.rings.take i = b.rings.take i) ?_ a.rings.length ⟨rfl, 0, by simp [ec', eh]⟩
            rintro k E T ⟨rfl, i, hi, h2, h3, h5, v0, v1, hln, hpre⟩
            by_cases hlt : i < a.rings.length
            · have hlt2 : i < b.rings.length := by omega
              have g1 := List.getElem?_eq_getElem hlt
              have g2 := List.getElem?_eq_getElem hlt2
              simp -implicitDefEqProofs [h2, h3, h5, v0, v1, hlt, hlt2, g1, g2]
              refine CallT.bool (c_SameRing a.rings[i] b.rings[i] false false (hr' _ (List.getElem_mem hlt))) (by simp) (fun he => ?_) (fun he => ?_)
              · simp -implicitDefEqProofs [h2, h3, h5, v0, v1, hln, he]
                exact ⟨k - 1, by omega, i + 1, by omega, wrap_nat (by omega), take_step hlt hlt2 hpre he⟩
              · simp -implicitDefEqProofs [he]
                intro e; simp [e] at he
            · have hlt2 : ¬ i < b.rings.length := by omega
              have er := take_all (by omega) (by omega) hpre
              simp -implicitDefEqProofs [h2, h3, h5, v0, v1, hlt, hlt2, er]
              refine loop_by (fun k E T => T = TH.none ∧ ∃ i : Nat, i + k = a.replicas.length ∧ E.get 2 = .lp 0 0 ∧ E.get 3 = .lp 1 0 ∧ E.get 6 = .a (.int .i64 i) ∧ E.var 0 = some ((encMachine z1 a).map .a) ∧ E.var 1 = some ((encMachine z2 b).map .a) ∧ 2 ≤ E.ln ∧ a.replicas.take i = b.replicas.take i) ?_ a.replicas.length ⟨rfl, 0, by simp [h2, h3, v0, v1, hln, er]⟩
              clear hpre hlt hlt2 hi h2 h3 h5 v0 v1 hln
              rintro k E T ⟨rfl, i, hi, h2, h3, h5, v0, v1, hln, hpre⟩
              by_cases hlt : i < a.replicas.length
              · have hlt2 : i < b.replicas.length := by omega
                have g1 := List.getElem?_eq_getElem hlt
                have g2 := List.getElem?_eq_getElem hlt2
                have n0 : ¬ E.ln = 0 := by omega
                have n1 : ¬ E.ln = 1 := by omega
                have n2 : ¬ E.ln + 1 = 0 := by omega
                have n3 : ¬ E.ln + 1 = 1 := by omega
                simp -implicitDefEqProofs [h2, h3, h5, v0, v1, hlt, hlt2, g1, g2, n0, n1, n2, n3, pairT, stOf, ldOf, apartT]
                refine CallT.forget (fun E => E.get 2 = .lp 0 0 ∧ E.get 3 = .lp 1 0 ∧ E.get 6 = .a (.int .i64 i) ∧ E.var 0 = some ((encMachine z1 a).map .a) ∧ E.var 1 = some ((encMachine z2 b).map .a) ∧ 2 ≤ E.ln ∧ ∃ n, E.get 7 = .lp n 0 ∧ E.get 8 = .lp (n + 1) 0 ∧ E.var n = some ((encReplica z1 a.replicas[i]).map .a) ∧ E.var (n + 1) = some ((encReplica z2 b.replicas[i]).map .a)) ⟨by simp [h2], by simp [h3], by simp [h5], by simp [v0, n0, n1, n2, n3], by simp [v1, n0, n1, n2, n3], by simp <;> omega, E.ln, by simp, by simp, by simp, by simp⟩ ?_
                clear h2 h3 h5 v0 v1 hln n0 n1 n2 n3
                rintro E ⟨h2, h3, h5, v0, v1, hln, n, h7, h8, v7, v8⟩
                refine CallT.bool (c_SameState a.replicas[i].state b.replicas[i].state false false (hp' _ (List.getElem_mem hlt)).1) (by simp) (fun e1 => ?_) (fun e1 => ?_)
                · simp -implicitDefEqProofs [e1, h7, h8, v7, v8]
                  refine CallT.bool (c_SameInts a.replicas[i].cursors b.replicas[i].cursors false false (hp' _ (List.getElem_mem hlt)).2.1) (by simp) (fun e2 => ?_) (fun e2 => ?_)
                  · simp -implicitDefEqProofs [e2, h7, h8, v7, v8]
                    refine CallT.bool (c_SameInts a.replicas[i].locks b.replicas[i].locks false false (hp' _ (List.getElem_mem hlt)).2.2) (by simp) (fun e3 => ?_) (fun e3 => ?_)
                    · have he : a.replicas[i] = b.replicas[i] := replica_eq.2 ⟨e1, e2, e3⟩
                      simp -implicitDefEqProofs [e3, h2, h3, h5, v0, v1]
                      exact ⟨k - 1, by omega, i + 1, by omega, wrap_nat (by omega), by omega, take_step hlt hlt2 hpre he⟩
                    · simp -implicitDefEqProofs [e3]
                      intro e; simp [e] at e3
                  · simp -implicitDefEqProofs [e2]
                    intro e; simp [e] at e2
                · simp -implicitDefEqProofs [e1]
                  intro e; simp [e] at e1
              · have hlt2 : ¬ i < b.replicas.length := by omega
                have ep := take_all (by omega) (by omega) hpre
                simp -implicitDefEqProofs [h2, h3, h5, v0, v1, hlt, hlt2, ep]
                refine loop_by (fun k E T => T = TH.none ∧ ∃ i : Nat, i + k = a.threads.length ∧ E.get 2 = .lp 0 0 ∧ E.get 3 = .lp 1 0 ∧ E.get 9 = .a (.int .i64 i) ∧ E.var 0 = some ((encMachine z1 a).map .a) ∧ E.var 1 = some ((encMachine z2 b).map .a) ∧ a.threads.take i = b.threads.take i) ?_ a.threads.length ⟨rfl, 0, by simp [h2, h3, v0, v1, ep]⟩
                clear hpre hlt hlt2 hi h2 h3 h5 v0 v1 hln
                rintro k E T ⟨rfl, i, hi, h2, h3, h5, v0, v1, hpre⟩
                by_cases hlt : i < a.threads.length
                · have hlt2 : i < b.threads.length := by omega
                  have g1 := List.getElem?_eq_getElem hlt
                  have g2 := List.getElem?_eq_getElem hlt2
                  simp -implicitDefEqProofs [h2, h3, h5, v0, v1, hlt, hlt2, g1, g2]
                  refine CallT.bool (c_SameThread a.threads[i] b.threads[i] false false (ht' _ (List.getElem_mem hlt)).1 (ht' _ (List.getElem_mem hlt)).2) (by simp) (fun he => ?_) (fun he => ?_)
                  · simp -implicitDefEqProofs [h2, h3, h5, v0, v1, he]
                    exact ⟨k - 1, by omega, i + 1, by omega, wrap_nat (by omega), take_step hlt hlt2 hpre he⟩
                  · simp -implicitDefEqProofs [he]
                    intro e; simp [e] at he
                · have hlt2 : ¬ i < b.threads.length := by omega
                  have et := take_all (by omega) (by omega) hpre
                  simp -implicitDefEqProofs [h2, h3, h5, v0, v1, hlt, hlt2, et]
          · simp -implicitDefEqProofs [eh]
        · have lt' : ¬ (a.threads.length : Int) = b.threads.length := by omega
          simp -implicitDefEqProofs [m21, ec, ec', lr, lp, lt']
          intro _ _ e; exact absurd (congrArg List.length e) lt
      · have lp' : ¬ (a.replicas.length : Int) = b.replicas.length := by omega
        simp -implicitDefEqProofs [m21, ec, ec', lr, lp']
        intro _ e; exact absurd (congrArg List.length e) lp
    · have lr' : ¬ (a.rings.length : Int) = b.rings.length := by omega
      simp -implicitDefEqProofs [m21, ec, ec', lr']
      intro e; exact absurd (congrArg List.length e) lr
  · have ec' := mt config_eq.2 ec
    have ec2 := ec'
    simp only [Classical.not_and_iff_not_or_not] at ec2
    simp -implicitDefEqProofs [m21, ec, ec', ec2]

end Go.Ab

namespace Go.Ab

@[reducible] def argMay (x : Int) : Prop := 0 ≤ x ∧ x ≤ 255
@[reducible] def opMay (o : Op) : Prop := 0 ≤ o.row ∧ o.row < 4 ∧ 0 ≤ o.arg ∧ o.arg ≤ 255 ∧ (o.code = 0 ∨ o.code = 1 ∨ (o.code = 2 ∧ o.arg = 0) ∨ (o.code = 3 ∧ o.arg = 0 ∧ o.row = 0))
@[reducible] def updates (o : Op) : Prop := opMay o ∧ (o.code = 0 ∨ o.code = 1)

theorem c_upTo13 (a b c : Int) : PCall tab 79 [.int .i64 a, .int .i64 b, .int .i64 c] (.bool (decide (b ≤ a ∧ a ≤ c))) := by
  refine PCall.of (F := m79) rfl rfl rfl rfl ?_
  by_cases h1 : b ≤ a <;> by_cases h2 : a ≤ c <;> simp -implicitDefEqProofs [m79, h1, h2]

theorem c_upTo1 (a b c : Int) : PCall tab 129 [.int .i64 a, .int .i64 b, .int .i64 c] (.bool (decide (b ≤ a ∧ a ≤ c))) := by
  refine PCall.of (F := m129) rfl rfl rfl rfl ?_
  by_cases h1 : b ≤ a <;> by_cases h2 : a ≤ c <;> simp -implicitDefEqProofs [m129, h1, h2]

theorem c_operArg (x : Int) : PCall tab 147 [.int .i64 x] (.bool (decide (argMay x))) := by
  refine PCall.of (F := m147) rfl rfl rfl rfl ?_
  by_cases h1 : 0 ≤ x <;> by_cases h2 : x ≤ 255 <;> simp -implicitDefEqProofs [m147, h1, h2]

theorem c_operMay (o : Op) : PCall tab 111 [.agg (encOp o)] (.bool (decide (opMay o))) := by
  refine PCall.of (F := m111) rfl rfl rfl rfl ?_
  simp -implicitDefEqProofs [m111]
  repeat' (first
    | (refine guard_by (fun hb => ?_) (fun hb => ?_) <;> rw [hb] <;> (try simp at hb) <;> simp -implicitDefEqProofs [hb])
    | (refine cond_by (fun hb => ?_) (fun hb => ?_) <;> rw [hb] <;> (try simp at hb) <;> simp -implicitDefEqProofs [hb])
    | (refine CallT.bool2 rfl (c_operArg _) (fun hb => ?_) (fun hb => ?_) <;> simp -implicitDefEqProofs [hb]))
  all_goals (first | omega | (simp only [beq_int, bne_int, ← Bool.decide_and, ← Bool.decide_or, decide_eq_decide] <;> omega))

theorem c_OperMay (o : Op) : PCall tab 80 [.agg (encOp o)] (.bool (decide (opMay o))) := by
  refine PCall.of (F := m80) rfl rfl rfl rfl ?_
  simp -implicitDefEqProofs [m80]
  repeat' (first
    | (refine guard_by (fun hb => ?_) (fun hb => ?_) <;> rw [hb] <;> (try simp at hb) <;> simp -implicitDefEqProofs [hb])
    | (refine cond_by (fun hb => ?_) (fun hb => ?_) <;> rw [hb] <;> (try simp at hb) <;> simp -implicitDefEqProofs [hb])
    | (refine CallT.bool2 rfl (c_upTo1 _ _ _) (fun hb => ?_) (fun hb => ?_) <;> simp -implicitDefEqProofs [hb]))
  all_goals (first | omega | (simp only [beq_int, bne_int, ← Bool.decide_and, ← Bool.decide_or, decide_eq_decide] <;> omega))

end Go.Ab

namespace Go.Ab

/-- where the first such element is, or -1 -/
def idxOf {α : Type} (q : α → Bool) (xs : List α) : Int := if xs.findIdx q < xs.length then ((xs.findIdx q : Nat) : Int) else -1

theorem idxOf_nonneg {α : Type} (q : α → Bool) (xs : List α) : 0 ≤ idxOf q xs ↔ ∃ x ∈ xs, q x = true := by
  unfold idxOf
  rw [← List.findIdx_lt_length (p := q)]
  split
  · rename_i h; simp [h]
  · rename_i h; simp [h]

theorem idx_here {α : Type} {q : α → Bool} {xs : List α} {i : Nat} (hi : i < xs.length) (hle : i ≤ xs.findIdx q) (hq : q xs[i] = true) : xs.findIdx q = i := by
  rcases Nat.lt_or_ge i (xs.findIdx q) with h | h
  · have := List.not_of_lt_findIdx h; rw [hq] at this; simp at this
  · omega

theorem idx_on {α : Type} {q : α → Bool} {xs : List α} {i : Nat} (hi : i < xs.length) (hle : i ≤ xs.findIdx q) (hq : q xs[i] = false) : i + 1 ≤ xs.findIdx q := by
  rcases Nat.lt_or_ge i (xs.findIdx q) with h | h
  · omega
  · have e : xs.findIdx q = i := by omega
    have := List.findIdx_getElem (p := q) (w := by rw [e]; exact hi)
    simp only [e] at this
    rw [hq] at this; cases this

theorem c_IndexRing (xs : List Ring) (z : Bool) (hx : lenOK xs) (q : Ring → Bool) (k : FuncId) (first cap : List AV) (hc : ∀ x ∈ xs, PCall tab k (first ++ [.agg (encRing false x)] ++ cap) (.bool (q x)))
    (hfz : ∀ x : Ring, mapO (fzT TH.none) (first.map .a ++ [.a (.agg (encRing false x))] ++ cap.map .a) = some (first ++ [.agg (encRing false x)] ++ cap)) : PCall tab 135 [.vs (xs.map (encRing false)) z, .fn (.func k) first cap] (.int .i64 (idxOf q xs)) := by
  unfold lenOK at hx
  refine PCall.of (F := m135) rfl rfl rfl rfl ?_
  simp -implicitDefEqProofs [m135]
  refine loop_by (fun m E T => T = TH.none ∧ ∃ i : Nat, i + m = xs.length ∧ E.get 0 = .a (.vs (xs.map (encRing false)) z) ∧ E.get 1 = .a (.fn (.func k) first cap) ∧ E.get 7 = .a (.int .i64 xs.length) ∧ E.get 8 = .a (.int .i64 i) ∧ i ≤ xs.findIdx q) ?_ xs.length ⟨rfl, 0, by simp⟩
  rintro m E T ⟨rfl, i, hi, h0, h1, h7, h8, hle⟩
  by_cases hlt : i < xs.length
  · have g1 := List.getElem?_eq_getElem hlt
    simp -implicitDefEqProofs [h0, h1, h7, h8, hlt, g1]
    have hf := hfz xs[i]
    simp only [List.append_assoc, List.cons_append, List.nil_append] at hf
    refine CallT.pure (by simpa using hc xs[i] (List.getElem_mem hlt)) hf rfl ?_
    cases hq : q xs[i] with
    | true =>
      have e := idx_here hlt hle hq
      simp -implicitDefEqProofs [idxOf, e, hlt, hq]
    | false =>
      simp -implicitDefEqProofs [hq, h0, h1, h7, h8]
      exact ⟨m - 1, by omega, i + 1, by omega, wrap_nat (by omega), idx_on hlt hle hq⟩
  · have e : ¬ xs.findIdx q < xs.length := by have := List.findIdx_le_length (xs := xs) (p := q); omega
    simp -implicitDefEqProofs [h0, h1, h7, h8, hlt, idxOf, e]

theorem c_ContainsRing (xs : List Ring) (z : Bool) (hx : lenOK xs) (q : Ring → Bool) (k : FuncId) (first cap : List AV) (hc : ∀ x ∈ xs, PCall tab k (first ++ [.agg (encRing false x)] ++ cap) (.bool (q x)))
    (hfz : ∀ x : Ring, mapO (fzT TH.none) (first.map .a ++ [.a (.agg (encRing false x))] ++ cap.map .a) = some (first ++ [.agg (encRing false x)] ++ cap)) (hfn : freeze AH.none 12 (.fn (.func k) first cap) = some (.fn (.func k) first cap)) (hcl : cloL first = true ∧ cloL cap = true) : PCall tab 98 [.vs (xs.map (encRing false)) z, .fn (.func k) first cap] (.bool (xs.any q)) := by
  refine PCall.of (F := m98) rfl rfl rfl rfl ?_
  simp -implicitDefEqProofs [m98]
  refine CallT.pure (c_IndexRing xs false hx q k first cap hc hfz) (by simp [mapO, fzT_a, hcl, clo, hfn]) rfl ?_
  simp -implicitDefEqProofs
  by_cases h : 0 ≤ idxOf q xs
  · have := (idxOf_nonneg q xs).1 h
    simp [h]; simpa using this
  · have := mt (idxOf_nonneg q xs).2 h
    simp [h]; simpa using this

theorem c_IndexSlot (xs : List Slot) (z : Bool) (hx : lenOK xs) (q : Slot → Bool) (k : FuncId) (first cap : List AV) (hc : ∀ x ∈ xs, PCall tab k (first ++ [.agg (encSlot x)] ++ cap) (.bool (q x)))
    (hfz : ∀ x : Slot, mapO (fzT TH.none) (first.map .a ++ [.a (.agg (encSlot x))] ++ cap.map .a) = some (first ++ [.agg (encSlot x)] ++ cap)) : PCall tab 167 [.vs (xs.map encSlot) z, .fn (.func k) first cap] (.int .i64 (idxOf q xs)) := by
  unfold lenOK at hx
  refine PCall.of (F := m167) rfl rfl rfl rfl ?_
  simp -implicitDefEqProofs [m167]
  refine loop_by (fun m E T => T = TH.none ∧ ∃ i : Nat, i + m = xs.length ∧ E.get 0 = .a (.vs (xs.map encSlot) z) ∧ E.get 1 = .a (.fn (.func k) first cap) ∧ E.get 7 = .a (.int .i64 xs.length) ∧ E.get 8 = .a (.int .i64 i) ∧ i ≤ xs.findIdx q) ?_ xs.length ⟨rfl, 0, by simp⟩
  rintro m E T ⟨rfl, i, hi, h0, h1, h7, h8, hle⟩
  by_cases hlt : i < xs.length
  · have g1 := List.getElem?_eq_getElem hlt
    simp -implicitDefEqProofs [h0, h1, h7, h8, hlt, g1]
    have hf := hfz xs[i]
    simp only [List.append_assoc, List.cons_append, List.nil_append] at hf
    refine CallT.pure (by simpa using hc xs[i] (List.getElem_mem hlt)) hf rfl ?_
    cases hq : q xs[i] with
    | true =>
      have e := idx_here hlt hle hq
      simp -implicitDefEqProofs [idxOf, e, hlt, hq]
    | false =>
      simp -implicitDefEqProofs [hq, h0, h1, h7, h8]
      exact ⟨m - 1, by omega, i + 1, by omega, wrap_nat (by omega), idx_on hlt hle hq⟩
  · have e : ¬ xs.findIdx q < xs.length := by have := List.findIdx_le_length (xs := xs) (p := q); omega
    simp -implicitDefEqProofs [h0, h1, h7, h8, hlt, idxOf, e]

theorem c_ContainsSlot (xs : List Slot) (z : Bool) (hx : lenOK xs) (q : Slot → Bool) (k : FuncId) (first cap : List AV) (hc : ∀ x ∈ xs, PCall tab k (first ++ [.agg (encSlot x)] ++ cap) (.bool (q x)))
    (hfz : ∀ x : Slot, mapO (fzT TH.none) (first.map .a ++ [.a (.agg (encSlot x))] ++ cap.map .a) = some (first ++ [.agg (encSlot x)] ++ cap)) (hfn : freeze AH.none 12 (.fn (.func k) first cap) = some (.fn (.func k) first cap)) (hcl : cloL first = true ∧ cloL cap = true) : PCall tab 136 [.vs (xs.map encSlot) z, .fn (.func k) first cap] (.bool (xs.any q)) := by
  refine PCall.of (F := m136) rfl rfl rfl rfl ?_
  simp -implicitDefEqProofs [m136]
  refine CallT.pure (c_IndexSlot xs false hx q k first cap hc hfz) (by simp [mapO, fzT_a, hcl, clo, hfn]) rfl ?_
  simp -implicitDefEqProofs
  by_cases h : 0 ≤ idxOf q xs
  · have := (idxOf_nonneg q xs).1 h
    simp [h]; simpa using this
  · have := mt (idxOf_nonneg q xs).2 h
    simp [h]; simpa using this

theorem c_Indexint (xs : List Int) (z : Bool) (hx : lenOK xs) (q : Int → Bool) (k : FuncId) (first cap : List AV) (hc : ∀ x ∈ xs, PCall tab k (first ++ [.int .i64 x] ++ cap) (.bool (q x)))
    (hfz : ∀ x : Int, mapO (fzT TH.none) (first.map .a ++ [.a (.int .i64 x)] ++ cap.map .a) = some (first ++ [.int .i64 x] ++ cap)) : PCall tab 169 [.vs (xs.map encInt) z, .fn (.func k) first cap] (.int .i64 (idxOf q xs)) := by
  unfold lenOK at hx
  refine PCall.of (F := m169) rfl rfl rfl rfl ?_
  simp -implicitDefEqProofs [m169]
  refine loop_by (fun m E T => T = TH.none ∧ ∃ i : Nat, i + m = xs.length ∧ E.get 0 = .a (.vs (xs.map encInt) z) ∧ E.get 1 = .a (.fn (.func k) first cap) ∧ E.get 7 = .a (.int .i64 xs.length) ∧ E.get 8 = .a (.int .i64 i) ∧ i ≤ xs.findIdx q) ?_ xs.length ⟨rfl, 0, by simp⟩
  rintro m E T ⟨rfl, i, hi, h0, h1, h7, h8, hle⟩
  by_cases hlt : i < xs.length
  · have g1 := List.getElem?_eq_getElem hlt
    simp -implicitDefEqProofs [h0, h1, h7, h8, hlt, g1]
    have hf := hfz xs[i]
    simp only [List.append_assoc, List.cons_append, List.nil_append] at hf
    refine CallT.pure (by simpa using hc xs[i] (List.getElem_mem hlt)) hf rfl ?_
    cases hq : q xs[i] with
    | true =>
      have e := idx_here hlt hle hq
      simp -implicitDefEqProofs [idxOf, e, hlt, hq]
    | false =>
      simp -implicitDefEqProofs [hq, h0, h1, h7, h8]
      exact ⟨m - 1, by omega, i + 1, by omega, wrap_nat (by omega), idx_on hlt hle hq⟩
  · have e : ¬ xs.findIdx q < xs.length := by have := List.findIdx_le_length (xs := xs) (p := q); omega
    simp -implicitDefEqProofs [h0, h1, h7, h8, hlt, idxOf, e]

theorem c_Containsint (xs : List Int) (z : Bool) (hx : lenOK xs) (q : Int → Bool) (k : FuncId) (first cap : List AV) (hc : ∀ x ∈ xs, PCall tab k (first ++ [.int .i64 x] ++ cap) (.bool (q x)))
    (hfz : ∀ x : Int, mapO (fzT TH.none) (first.map .a ++ [.a (.int .i64 x)] ++ cap.map .a) = some (first ++ [.int .i64 x] ++ cap)) (hfn : freeze AH.none 12 (.fn (.func k) first cap) = some (.fn (.func k) first cap)) (hcl : cloL first = true ∧ cloL cap = true) : PCall tab 143 [.vs (xs.map encInt) z, .fn (.func k) first cap] (.bool (xs.any q)) := by
  refine PCall.of (F := m143) rfl rfl rfl rfl ?_
  simp -implicitDefEqProofs [m143]
  refine CallT.pure (c_Indexint xs false hx q k first cap hc hfz) (by simp [mapO, fzT_a, hcl, clo, hfn]) rfl ?_
  simp -implicitDefEqProofs
  by_cases h : 0 ≤ idxOf q xs
  · have := (idxOf_nonneg q xs).1 h
    simp [h]; simpa using this
  · have := mt (idxOf_nonneg q xs).2 h
    simp [h]; simpa using this

theorem c_IndexReplica (xs : List Replica) (z : Bool) (hx : lenOK xs) (q : Replica → Bool) (k : FuncId) (first cap : List AV) (hc : ∀ x ∈ xs, PCall tab k (first ++ [.agg (encReplica false x)] ++ cap) (.bool (q x)))
    (hfz : ∀ x : Replica, mapO (fzT TH.none) (first.map .a ++ [.a (.agg (encReplica false x))] ++ cap.map .a) = some (first ++ [.agg (encReplica false x)] ++ cap)) : PCall tab 145 [.vs (xs.map (encReplica false)) z, .fn (.func k) first cap] (.int .i64 (idxOf q xs)) := by
  unfold lenOK at hx
  refine PCall.of (F := m145) rfl rfl rfl rfl ?_
  simp -implicitDefEqProofs [m145]
  refine loop_by (fun m E T => T = TH.none ∧ ∃ i : Nat, i + m = xs.length ∧ E.get 0 = .a (.vs (xs.map (encReplica false)) z) ∧ E.get 1 = .a (.fn (.func k) first cap) ∧ E.get 7 = .a (.int .i64 xs.length) ∧ E.get 8 = .a (.int .i64 i) ∧ i ≤ xs.findIdx q) ?_ xs.length ⟨rfl, 0, by simp⟩
  rintro m E T ⟨rfl, i, hi, h0, h1, h7, h8, hle⟩
  by_cases hlt : i < xs.length
  · have g1 := List.getElem?_eq_getElem hlt
    simp -implicitDefEqProofs [h0, h1, h7, h8, hlt, g1]
    have hf := hfz xs[i]
    simp only [List.append_assoc, List.cons_append, List.nil_append] at hf
    refine CallT.pure (by simpa using hc xs[i] (List.getElem_mem hlt)) hf rfl ?_
    cases hq : q xs[i] with
    | true =>
      have e := idx_here hlt hle hq
      simp -implicitDefEqProofs [idxOf, e, hlt, hq]
    | false =>
      simp -implicitDefEqProofs [hq, h0, h1, h7, h8]
      exact ⟨m - 1, by omega, i + 1, by omega, wrap_nat (by omega), idx_on hlt hle hq⟩
  · have e : ¬ xs.findIdx q < xs.length := by have := List.findIdx_le_length (xs := xs) (p := q); omega
    simp -implicitDefEqProofs [h0, h1, h7, h8, hlt, idxOf, e]

theorem c_ContainsReplica (xs : List Replica) (z : Bool) (hx : lenOK xs) (q : Replica → Bool) (k : FuncId) (first cap : List AV) (hc : ∀ x ∈ xs, PCall tab k (first ++ [.agg (encReplica false x)] ++ cap) (.bool (q x)))
    (hfz : ∀ x : Replica, mapO (fzT TH.none) (first.map .a ++ [.a (.agg (encReplica false x))] ++ cap.map .a) = some (first ++ [.agg (encReplica false x)] ++ cap)) (hfn : freeze AH.none 12 (.fn (.func k) first cap) = some (.fn (.func k) first cap)) (hcl : cloL first = true ∧ cloL cap = true) : PCall tab 107 [.vs (xs.map (encReplica false)) z, .fn (.func k) first cap] (.bool (xs.any q)) := by
  refine PCall.of (F := m107) rfl rfl rfl rfl ?_
  simp -implicitDefEqProofs [m107]
  refine CallT.pure (c_IndexReplica xs false hx q k first cap hc hfz) (by simp [mapO, fzT_a, hcl, clo, hfn]) rfl ?_
  simp -implicitDefEqProofs
  by_cases h : 0 ≤ idxOf q xs
  · have := (idxOf_nonneg q xs).1 h
    simp [h]; simpa using this
  · have := mt (idxOf_nonneg q xs).2 h
    simp [h]; simpa using this

theorem c_IndexThread (xs : List Thread) (z : Bool) (hx : lenOK xs) (q : Thread → Bool) (k : FuncId) (first cap : List AV) (hc : ∀ x ∈ xs, PCall tab k (first ++ [.agg (encThread false x)] ++ cap) (.bool (q x)))
    (hfz : ∀ x : Thread, mapO (fzT TH.none) (first.map .a ++ [.a (.agg (encThread false x))] ++ cap.map .a) = some (first ++ [.agg (encThread false x)] ++ cap)) : PCall tab 146 [.vs (xs.map (encThread false)) z, .fn (.func k) first cap] (.int .i64 (idxOf q xs)) := by
  unfold lenOK at hx
  refine PCall.of (F := m146) rfl rfl rfl rfl ?_
  simp -implicitDefEqProofs [m146]
  refine loop_by (fun m E T => T = TH.none ∧ ∃ i : Nat, i + m = xs.length ∧ E.get 0 = .a (.vs (xs.map (encThread false)) z) ∧ E.get 1 = .a (.fn (.func k) first cap) ∧ E.get 7 = .a (.int .i64 xs.length) ∧ E.get 8 = .a (.int .i64 i) ∧ i ≤ xs.findIdx q) ?_ xs.length ⟨rfl, 0, by simp⟩
  rintro m E T ⟨rfl, i, hi, h0, h1, h7, h8, hle⟩
  by_cases hlt : i < xs.length
  · have g1 := List.getElem?_eq_getElem hlt
    simp -implicitDefEqProofs [h0, h1, h7, h8, hlt, g1]
    have hf := hfz xs[i]
    simp only [List.append_assoc, List.cons_append, List.nil_append] at hf
    refine CallT.pure (by simpa using hc xs[i] (List.getElem_mem hlt)) hf rfl ?_
    cases hq : q xs[i] with
    | true =>
      have e := idx_here hlt hle hq
      simp -implicitDefEqProofs [idxOf, e, hlt, hq]
    | false =>
      simp -implicitDefEqProofs [hq, h0, h1, h7, h8]
      exact ⟨m - 1, by omega, i + 1, by omega, wrap_nat (by omega), idx_on hlt hle hq⟩
  · have e : ¬ xs.findIdx q < xs.length := by have := List.findIdx_le_length (xs := xs) (p := q); omega
    simp -implicitDefEqProofs [h0, h1, h7, h8, hlt, idxOf, e]

theorem c_ContainsThread (xs : List Thread) (z : Bool) (hx : lenOK xs) (q : Thread → Bool) (k : FuncId) (first cap : List AV) (hc : ∀ x ∈ xs, PCall tab k (first ++ [.agg (encThread false x)] ++ cap) (.bool (q x)))
    (hfz : ∀ x : Thread, mapO (fzT TH.none) (first.map .a ++ [.a (.agg (encThread false x))] ++ cap.map .a) = some (first ++ [.agg (encThread false x)] ++ cap)) (hfn : freeze AH.none 12 (.fn (.func k) first cap) = some (.fn (.func k) first cap)) (hcl : cloL first = true ∧ cloL cap = true) : PCall tab 109 [.vs (xs.map (encThread false)) z, .fn (.func k) first cap] (.bool (xs.any q)) := by
  refine PCall.of (F := m109) rfl rfl rfl rfl ?_
  simp -implicitDefEqProofs [m109]
  refine CallT.pure (c_IndexThread xs false hx q k first cap hc hfz) (by simp [mapO, fzT_a, hcl, clo, hfn]) rfl ?_
  simp -implicitDefEqProofs
  by_cases h : 0 ≤ idxOf q xs
  · have := (idxOf_nonneg q xs).1 h
    simp [h]; simpa using this
  · have := mt (idxOf_nonneg q xs).2 h
    simp [h]; simpa using this

theorem c_IndexEvent (xs : List Event) (z : Bool) (hx : lenOK xs) (q : Event → Bool) (k : FuncId) (first cap : List AV) (hc : ∀ x ∈ xs, PCall tab k (first ++ [.agg (encEvent x)] ++ cap) (.bool (q x)))
    (hfz : ∀ x : Event, mapO (fzT TH.none) (first.map .a ++ [.a (.agg (encEvent x))] ++ cap.map .a) = some (first ++ [.agg (encEvent x)] ++ cap)) : PCall tab 148 [.vs (xs.map encEvent) z, .fn (.func k) first cap] (.int .i64 (idxOf q xs)) := by
  unfold lenOK at hx
  refine PCall.of (F := m148) rfl rfl rfl rfl ?_
  simp -implicitDefEqProofs [m148]
  refine loop_by (fun m E T => T = TH.none ∧ ∃ i : Nat, i + m = xs.length ∧ E.get 0 = .a (.vs (xs.map encEvent) z) ∧ E.get 1 = .a (.fn (.func k) first cap) ∧ E.get 7 = .a (.int .i64 xs.length) ∧ E.get 8 = .a (.int .i64 i) ∧ i ≤ xs.findIdx q) ?_ xs.length ⟨rfl, 0, by simp⟩
  rintro m E T ⟨rfl, i, hi, h0, h1, h7, h8, hle⟩
  by_cases hlt : i < xs.length
  · have g1 := List.getElem?_eq_getElem hlt
    simp -implicitDefEqProofs [h0, h1, h7, h8, hlt, g1]
    have hf := hfz xs[i]
    simp only [List.append_assoc, List.cons_append, List.nil_append] at hf
    refine CallT.pure (by simpa using hc xs[i] (List.getElem_mem hlt)) hf rfl ?_
    cases hq : q xs[i] with
    | true =>
      have e := idx_here hlt hle hq
      simp -implicitDefEqProofs [idxOf, e, hlt, hq]
    | false =>
      simp -implicitDefEqProofs [hq, h0, h1, h7, h8]
      exact ⟨m - 1, by omega, i + 1, by omega, wrap_nat (by omega), idx_on hlt hle hq⟩
  · have e : ¬ xs.findIdx q < xs.length := by have := List.findIdx_le_length (xs := xs) (p := q); omega
    simp -implicitDefEqProofs [h0, h1, h7, h8, hlt, idxOf, e]

theorem c_ContainsEvent (xs : List Event) (z : Bool) (hx : lenOK xs) (q : Event → Bool) (k : FuncId) (first cap : List AV) (hc : ∀ x ∈ xs, PCall tab k (first ++ [.agg (encEvent x)] ++ cap) (.bool (q x)))
    (hfz : ∀ x : Event, mapO (fzT TH.none) (first.map .a ++ [.a (.agg (encEvent x))] ++ cap.map .a) = some (first ++ [.agg (encEvent x)] ++ cap)) (hfn : freeze AH.none 12 (.fn (.func k) first cap) = some (.fn (.func k) first cap)) (hcl : cloL first = true ∧ cloL cap = true) : PCall tab 113 [.vs (xs.map encEvent) z, .fn (.func k) first cap] (.bool (xs.any q)) := by
  refine PCall.of (F := m113) rfl rfl rfl rfl ?_
  simp -implicitDefEqProofs [m113]
  refine CallT.pure (c_IndexEvent xs false hx q k first cap hc hfz) (by simp [mapO, fzT_a, hcl, clo, hfn]) rfl ?_
  simp -implicitDefEqProofs
  by_cases h : 0 ≤ idxOf q xs
  · have := (idxOf_nonneg q xs).1 h
    simp [h]; simpa using this
  · have := mt (idxOf_nonneg q xs).2 h
    simp [h]; simpa using this

end Go.Ab

namespace Go.Ab

theorem c_allOneRing (x : Ring) (q : Bool) (k : FuncId) (first cap : List AV) (hc : PCall tab k (first ++ [.agg (encRing false x)] ++ cap) (.bool q)) (hfz : mapO (fzT TH.none) (first.map .a ++ [.a (.agg (encRing false x))] ++ cap.map .a) = some (first ++ [.agg (encRing false x)] ++ cap)) :
    PCall tab 99 [.agg (encRing false x), .vp [[.fn (.func k) first cap]] 0 0] (.bool (!q)) := by
  refine PCall.of (F := m99) rfl rfl rfl rfl ?_
  simp -implicitDefEqProofs [m99]
  simp only [List.append_assoc, List.cons_append, List.nil_append] at hfz
  refine CallT.pure (by simpa using hc) hfz rfl ?_
  simp -implicitDefEqProofs

theorem c_allRing (xs : List Ring) (z : Bool) (hx : lenOK xs) (q : Ring → Bool) (k : FuncId) (first cap : List AV) (hc : ∀ x ∈ xs, PCall tab k (first ++ [.agg (encRing false x)] ++ cap) (.bool (q x)))
    (hfz : ∀ x : Ring, mapO (fzT TH.none) (first.map .a ++ [.a (.agg (encRing false x))] ++ cap.map .a) = some (first ++ [.agg (encRing false x)] ++ cap)) (hfn : ∀ d, freeze AH.none (d + 3) (.fn (.func k) first cap) = some (.fn (.func k) first cap)) (hcl : cloL first = true ∧ cloL cap = true) : PCall tab 42 [.vs (xs.map (encRing false)) z, .fn (.func k) first cap] (.bool (xs.all q)) := by
  refine PCall.of (F := m42) rfl rfl rfl rfl ?_
  simp -implicitDefEqProofs [m42]
  refine CallT.pure (c_ContainsRing xs false hx (fun x => !q x) 99 [] [.vp [[.fn (.func k) first cap]] 0 0] (fun x hm => c_allOneRing x (q x) k first cap (hc x hm) (hfz x)) (fun x => by simp) (by simp) (by simp)) (by
    have h8 := hfn 7
    simp [hcl, h8]) rfl ?_
  simp -implicitDefEqProofs [List.all_eq_not_any_not]

theorem c_allOneSlot (x : Slot) (q : Bool) (k : FuncId) (first cap : List AV) (hc : PCall tab k (first ++ [.agg (encSlot x)] ++ cap) (.bool q)) (hfz : mapO (fzT TH.none) (first.map .a ++ [.a (.agg (encSlot x))] ++ cap.map .a) = some (first ++ [.agg (encSlot x)] ++ cap)) :
    PCall tab 139 [.agg (encSlot x), .vp [[.fn (.func k) first cap]] 0 0] (.bool (!q)) := by
  refine PCall.of (F := m139) rfl rfl rfl rfl ?_
  simp -implicitDefEqProofs [m139]
  simp only [List.append_assoc, List.cons_append, List.nil_append] at hfz
  refine CallT.pure (by simpa using hc) hfz rfl ?_
  simp -implicitDefEqProofs

theorem c_allSlot (xs : List Slot) (z : Bool) (hx : lenOK xs) (q : Slot → Bool) (k : FuncId) (first cap : List AV) (hc : ∀ x ∈ xs, PCall tab k (first ++ [.agg (encSlot x)] ++ cap) (.bool (q x)))
    (hfz : ∀ x : Slot, mapO (fzT TH.none) (first.map .a ++ [.a (.agg (encSlot x))] ++ cap.map .a) = some (first ++ [.agg (encSlot x)] ++ cap)) (hfn : ∀ d, freeze AH.none (d + 3) (.fn (.func k) first cap) = some (.fn (.func k) first cap)) (hcl : cloL first = true ∧ cloL cap = true) : PCall tab 103 [.vs (xs.map encSlot) z, .fn (.func k) first cap] (.bool (xs.all q)) := by
  refine PCall.of (F := m103) rfl rfl rfl rfl ?_
  simp -implicitDefEqProofs [m103]
  refine CallT.pure (c_ContainsSlot xs false hx (fun x => !q x) 139 [] [.vp [[.fn (.func k) first cap]] 0 0] (fun x hm => c_allOneSlot x (q x) k first cap (hc x hm) (hfz x)) (fun x => by simp) (by simp) (by simp)) (by
    have h8 := hfn 7
    simp [hcl, h8]) rfl ?_
  simp -implicitDefEqProofs [List.all_eq_not_any_not]

theorem c_allOneint (x : Int) (q : Bool) (k : FuncId) (first cap : List AV) (hc : PCall tab k (first ++ [.int .i64 x] ++ cap) (.bool q)) (hfz : mapO (fzT TH.none) (first.map .a ++ [.a (.int .i64 x)] ++ cap.map .a) = some (first ++ [.int .i64 x] ++ cap)) :
    PCall tab 144 [.int .i64 x, .vp [[.fn (.func k) first cap]] 0 0] (.bool (!q)) := by
  refine PCall.of (F := m144) rfl rfl rfl rfl ?_
  simp -implicitDefEqProofs [m144]
  simp only [List.append_assoc, List.cons_append, List.nil_append] at hfz
  refine CallT.pure (by simpa using hc) hfz rfl ?_
  simp -implicitDefEqProofs

theorem c_allint (xs : List Int) (z : Bool) (hx : lenOK xs) (q : Int → Bool) (k : FuncId) (first cap : List AV) (hc : ∀ x ∈ xs, PCall tab k (first ++ [.int .i64 x] ++ cap) (.bool (q x)))
    (hfz : ∀ x : Int, mapO (fzT TH.none) (first.map .a ++ [.a (.int .i64 x)] ++ cap.map .a) = some (first ++ [.int .i64 x] ++ cap)) (hfn : ∀ d, freeze AH.none (d + 3) (.fn (.func k) first cap) = some (.fn (.func k) first cap)) (hcl : cloL first = true ∧ cloL cap = true) : PCall tab 106 [.vs (xs.map encInt) z, .fn (.func k) first cap] (.bool (xs.all q)) := by
  refine PCall.of (F := m106) rfl rfl rfl rfl ?_
  simp -implicitDefEqProofs [m106]
  refine CallT.pure (c_Containsint xs false hx (fun x => !q x) 144 [] [.vp [[.fn (.func k) first cap]] 0 0] (fun x hm => c_allOneint x (q x) k first cap (hc x hm) (hfz x)) (fun x => by simp) (by simp) (by simp)) (by
    have h8 := hfn 7
    simp [hcl, h8]) rfl ?_
  simp -implicitDefEqProofs [List.all_eq_not_any_not]

theorem c_allOneReplica (x : Replica) (q : Bool) (k : FuncId) (first cap : List AV) (hc : PCall tab k (first ++ [.agg (encReplica false x)] ++ cap) (.bool q)) (hfz : mapO (fzT TH.none) (first.map .a ++ [.a (.agg (encReplica false x))] ++ cap.map .a) = some (first ++ [.agg (encReplica false x)] ++ cap)) :
    PCall tab 108 [.agg (encReplica false x), .vp [[.fn (.func k) first cap]] 0 0] (.bool (!q)) := by
  refine PCall.of (F := m108) rfl rfl rfl rfl ?_
  simp -implicitDefEqProofs [m108]
  simp only [List.append_assoc, List.cons_append, List.nil_append] at hfz
  refine CallT.pure (by simpa using hc) hfz rfl ?_
  simp -implicitDefEqProofs

theorem c_allReplica (xs : List Replica) (z : Bool) (hx : lenOK xs) (q : Replica → Bool) (k : FuncId) (first cap : List AV) (hc : ∀ x ∈ xs, PCall tab k (first ++ [.agg (encReplica false x)] ++ cap) (.bool (q x)))
    (hfz : ∀ x : Replica, mapO (fzT TH.none) (first.map .a ++ [.a (.agg (encReplica false x))] ++ cap.map .a) = some (first ++ [.agg (encReplica false x)] ++ cap)) (hfn : ∀ d, freeze AH.none (d + 3) (.fn (.func k) first cap) = some (.fn (.func k) first cap)) (hcl : cloL first = true ∧ cloL cap = true) : PCall tab 46 [.vs (xs.map (encReplica false)) z, .fn (.func k) first cap] (.bool (xs.all q)) := by
  refine PCall.of (F := m46) rfl rfl rfl rfl ?_
  simp -implicitDefEqProofs [m46]
  refine CallT.pure (c_ContainsReplica xs false hx (fun x => !q x) 108 [] [.vp [[.fn (.func k) first cap]] 0 0] (fun x hm => c_allOneReplica x (q x) k first cap (hc x hm) (hfz x)) (fun x => by simp) (by simp) (by simp)) (by
    have h8 := hfn 7
    simp [hcl, h8]) rfl ?_
  simp -implicitDefEqProofs [List.all_eq_not_any_not]

theorem c_allOneThread (x : Thread) (q : Bool) (k : FuncId) (first cap : List AV) (hc : PCall tab k (first ++ [.agg (encThread false x)] ++ cap) (.bool q)) (hfz : mapO (fzT TH.none) (first.map .a ++ [.a (.agg (encThread false x))] ++ cap.map .a) = some (first ++ [.agg (encThread false x)] ++ cap)) :
    PCall tab 110 [.agg (encThread false x), .vp [[.fn (.func k) first cap]] 0 0] (.bool (!q)) := by
  refine PCall.of (F := m110) rfl rfl rfl rfl ?_
  simp -implicitDefEqProofs [m110]
  simp only [List.append_assoc, List.cons_append, List.nil_append] at hfz
  refine CallT.pure (by simpa using hc) hfz rfl ?_
  simp -implicitDefEqProofs

theorem c_allThread (xs : List Thread) (z : Bool) (hx : lenOK xs) (q : Thread → Bool) (k : FuncId) (first cap : List AV) (hc : ∀ x ∈ xs, PCall tab k (first ++ [.agg (encThread false x)] ++ cap) (.bool (q x)))
    (hfz : ∀ x : Thread, mapO (fzT TH.none) (first.map .a ++ [.a (.agg (encThread false x))] ++ cap.map .a) = some (first ++ [.agg (encThread false x)] ++ cap)) (hfn : ∀ d, freeze AH.none (d + 3) (.fn (.func k) first cap) = some (.fn (.func k) first cap)) (hcl : cloL first = true ∧ cloL cap = true) : PCall tab 47 [.vs (xs.map (encThread false)) z, .fn (.func k) first cap] (.bool (xs.all q)) := by
  refine PCall.of (F := m47) rfl rfl rfl rfl ?_
  simp -implicitDefEqProofs [m47]
  refine CallT.pure (c_ContainsThread xs false hx (fun x => !q x) 110 [] [.vp [[.fn (.func k) first cap]] 0 0] (fun x hm => c_allOneThread x (q x) k first cap (hc x hm) (hfz x)) (fun x => by simp) (by simp) (by simp)) (by
    have h8 := hfn 7
    simp [hcl, h8]) rfl ?_
  simp -implicitDefEqProofs [List.all_eq_not_any_not]

theorem c_allOneEvent (x : Event) (q : Bool) (k : FuncId) (first cap : List AV) (hc : PCall tab k (first ++ [.agg (encEvent x)] ++ cap) (.bool q)) (hfz : mapO (fzT TH.none) (first.map .a ++ [.a (.agg (encEvent x))] ++ cap.map .a) = some (first ++ [.agg (encEvent x)] ++ cap)) :
    PCall tab 114 [.agg (encEvent x), .vp [[.fn (.func k) first cap]] 0 0] (.bool (!q)) := by
  refine PCall.of (F := m114) rfl rfl rfl rfl ?_
  simp -implicitDefEqProofs [m114]
  simp only [List.append_assoc, List.cons_append, List.nil_append] at hfz
  refine CallT.pure (by simpa using hc) hfz rfl ?_
  simp -implicitDefEqProofs

theorem c_allEvent (xs : List Event) (z : Bool) (hx : lenOK xs) (q : Event → Bool) (k : FuncId) (first cap : List AV) (hc : ∀ x ∈ xs, PCall tab k (first ++ [.agg (encEvent x)] ++ cap) (.bool (q x)))
    (hfz : ∀ x : Event, mapO (fzT TH.none) (first.map .a ++ [.a (.agg (encEvent x))] ++ cap.map .a) = some (first ++ [.agg (encEvent x)] ++ cap)) (hfn : ∀ d, freeze AH.none (d + 3) (.fn (.func k) first cap) = some (.fn (.func k) first cap)) (hcl : cloL first = true ∧ cloL cap = true) : PCall tab 49 [.vs (xs.map encEvent) z, .fn (.func k) first cap] (.bool (xs.all q)) := by
  refine PCall.of (F := m49) rfl rfl rfl rfl ?_
  simp -implicitDefEqProofs [m49]
  refine CallT.pure (c_ContainsEvent xs false hx (fun x => !q x) 114 [] [.vp [[.fn (.func k) first cap]] 0 0] (fun x hm => c_allOneEvent x (q x) k first cap (hc x hm) (hfz x)) (fun x => by simp) (by simp) (by simp)) (by
    have h8 := hfn 7
    simp [hcl, h8]) rfl ?_
  simp -implicitDefEqProofs [List.all_eq_not_any_not]

end Go.Ab

namespace Go.Ab

@[reducible] def objIs (x : Int) : Prop := 0 ≤ x ∧ x ≤ 2
@[reducible] def logsMay (x : Int) : Prop := 1 ≤ x ∧ x ≤ 2
@[reducible] def slotsMay (k : Int) : Prop := k = 2 ∨ k = 4 ∨ k = 8 ∨ k = 16
@[reducible] def cfgMay (c : Config) : Prop := objIs c.object ∧ (1 ≤ c.replicas ∧ c.replicas ≤ 2) ∧ logsMay c.logs ∧ (1 ≤ c.threads ∧ c.threads ≤ 4) ∧ slotsMay c.slots ∧ 2 * c.threads ≤ c.slots
@[reducible] def threadIn (x n : Int) : Prop := 0 ≤ x ∧ x < n
@[reducible] def slotOK (s : Slot) : Prop := updates s.op ∧ threadIn s.thread 4 ∧ (s.bit = 0 ∨ s.bit = 1)
@[reducible] def ringNums (r : Ring) : Prop := 0 ≤ r.head ∧ r.head ≤ r.tail ∧ r.tail ≤ 1048576 ∧ r.tail - r.head ≤ r.slots.length ∧ 0 ≤ r.fence ∧ r.fence ≤ 4 ∧ slotsMay r.slots.length
theorem c_objIs (x : Int) : PCall tab 95 [.int .i64 x] (.bool (decide (objIs x))) := by
  refine PCall.of (F := m95) rfl rfl rfl rfl ?_
  simp -implicitDefEqProofs [m95]
  repeat' (first
    | (with_reducible refine guard_by (fun hb => ?_) (fun hb => ?_) <;> rw [hb] <;> (try simp at hb) <;> simp -implicitDefEqProofs [hb])
    | (with_reducible refine cond_by (fun hb => ?_) (fun hb => ?_) <;> rw [hb] <;> (try simp at hb) <;> simp -implicitDefEqProofs [hb]))
  all_goals (try simp only [argMay, opMay, updates] at *)
  all_goals (first | omega | (rw [Bool.eq_iff_iff]; simp only [Bool.and_eq_true, Bool.or_eq_true, decide_eq_true_eq, Bool.not_eq_true', decide_eq_false_iff_not, beq_iff_eq, bne_iff_ne, ne_eq] <;> omega))

theorem c_logs (x : Int) : PCall tab 96 [.int .i64 x] (.bool (decide (logsMay x))) := by
  refine PCall.of (F := m96) rfl rfl rfl rfl ?_
  simp -implicitDefEqProofs [m96]
  repeat' (first
    | (with_reducible refine guard_by (fun hb => ?_) (fun hb => ?_) <;> rw [hb] <;> (try simp at hb) <;> simp -implicitDefEqProofs [hb])
    | (with_reducible refine cond_by (fun hb => ?_) (fun hb => ?_) <;> rw [hb] <;> (try simp at hb) <;> simp -implicitDefEqProofs [hb]))
  all_goals (try simp only [argMay, opMay, updates] at *)
  all_goals (first | omega | (rw [Bool.eq_iff_iff]; simp only [Bool.and_eq_true, Bool.or_eq_true, decide_eq_true_eq, Bool.not_eq_true', decide_eq_false_iff_not, beq_iff_eq, bne_iff_ne, ne_eq] <;> omega))

theorem c_ringThread (x n : Int) : PCall tab 138 [.int .i64 x, .int .i64 n] (.bool (decide (threadIn x n))) := by
  refine PCall.of (F := m138) rfl rfl rfl rfl ?_
  simp -implicitDefEqProofs [m138]
  repeat' (first
    | (with_reducible refine guard_by (fun hb => ?_) (fun hb => ?_) <;> rw [hb] <;> (try simp at hb) <;> simp -implicitDefEqProofs [hb])
    | (with_reducible refine cond_by (fun hb => ?_) (fun hb => ?_) <;> rw [hb] <;> (try simp at hb) <;> simp -implicitDefEqProofs [hb]))
  all_goals (try simp only [argMay, opMay, updates] at *)
  all_goals (first | omega | (rw [Bool.eq_iff_iff]; simp only [Bool.and_eq_true, Bool.or_eq_true, decide_eq_true_eq, Bool.not_eq_true', decide_eq_false_iff_not, beq_iff_eq, bne_iff_ne, ne_eq] <;> omega))

theorem c_updates (o : Op) : PCall tab 71 [.agg (encOp o)] (.bool (decide (updates o))) := by
  refine PCall.of (F := m71) rfl rfl rfl rfl ?_
  simp -implicitDefEqProofs [m71]
  repeat' (first
    | (with_reducible refine guard_by (fun hb => ?_) (fun hb => ?_) <;> rw [hb] <;> (try simp at hb) <;> simp -implicitDefEqProofs [hb])
    | (with_reducible refine cond_by (fun hb => ?_) (fun hb => ?_) <;> rw [hb] <;> (try simp at hb) <;> simp -implicitDefEqProofs [hb])
    | (refine CallT.bool2 rfl (c_operMay o) (fun hb => ?_) (fun hb => ?_) <;> simp -implicitDefEqProofs [hb]))
  all_goals (try simp only [argMay, opMay, updates] at *)
  all_goals (first | omega | (rw [Bool.eq_iff_iff]; simp only [Bool.and_eq_true, Bool.or_eq_true, decide_eq_true_eq, Bool.not_eq_true', decide_eq_false_iff_not, beq_iff_eq, bne_iff_ne, ne_eq] <;> omega))

theorem c_many (k : Int) : PCall tab 97 [.int .i64 k] (.bool (decide (slotsMay k))) := by
  refine PCall.of (F := m97) rfl rfl rfl rfl ?_
  simp -implicitDefEqProofs [m97]
  repeat' (first
    | (with_reducible refine guard_by (fun hb => ?_) (fun hb => ?_) <;> rw [hb] <;> (try simp at hb) <;> simp -implicitDefEqProofs [hb])
    | (with_reducible refine cond_by (fun hb => ?_) (fun hb => ?_) <;> rw [hb] <;> (try simp at hb) <;> simp -implicitDefEqProofs [hb]))
  all_goals (first | omega | skip)
  all_goals
    have hk : k = 2 ∨ k = 3 ∨ k = 4 ∨ k = 5 ∨ k = 6 ∨ k = 7 ∨ k = 8 ∨ k = 9 ∨ k = 10 ∨ k = 11 ∨ k = 12 ∨ k = 13 ∨ k = 14 ∨ k = 15 ∨ k = 16 := by omega
    rcases hk with rfl | rfl | rfl | rfl | rfl | rfl | rfl | rfl | rfl | rfl | rfl | rfl | rfl | rfl | rfl <;> decide

theorem c_cfgMay (c : Config) : PCall tab 41 [.agg (encConfig c)] (.bool (decide (cfgMay c))) := by
  refine PCall.of (F := m41) rfl rfl rfl rfl ?_
  simp -implicitDefEqProofs [m41]
  repeat' (first
    | (with_reducible refine guard_by (fun hb => ?_) (fun hb => ?_) <;> rw [hb] <;> (try simp at hb) <;> simp -implicitDefEqProofs [hb])
    | (with_reducible refine cond_by (fun hb => ?_) (fun hb => ?_) <;> rw [hb] <;> (try simp at hb) <;> simp -implicitDefEqProofs [hb])
    | (refine CallT.bool2 rfl (c_objIs _) (fun hb => ?_) (fun hb => ?_) <;> simp -implicitDefEqProofs [hb])
    | (refine CallT.bool2 rfl (c_logs _) (fun hb => ?_) (fun hb => ?_) <;> simp -implicitDefEqProofs [hb])
    | (refine CallT.bool2 rfl (c_many _) (fun hb => ?_) (fun hb => ?_) <;> simp -implicitDefEqProofs [hb]))
  all_goals (first | omega | skip)
  all_goals (rw [wrap_of (by omega) (by omega)]; simp only [← Bool.decide_and, ← Bool.decide_or, decide_eq_decide]; omega)

theorem c_odd (x : Slot) : PCall tab 137 [.agg (encSlot x)] (.bool (decide (¬ slotOK x))) := by
  refine PCall.of (F := m137) rfl rfl rfl rfl ?_
  simp -implicitDefEqProofs [m137]
  repeat' (first
    | (with_reducible refine guard_by (fun hb => ?_) (fun hb => ?_) <;> rw [hb] <;> (try simp at hb) <;> simp -implicitDefEqProofs [hb])
    | (with_reducible refine cond_by (fun hb => ?_) (fun hb => ?_) <;> rw [hb] <;> (try simp at hb) <;> simp -implicitDefEqProofs [hb])
    | (refine CallT.bool2 rfl (c_updates x.op) (fun hb => ?_) (fun hb => ?_) <;> simp -implicitDefEqProofs [hb])
    | (refine CallT.bool2 rfl (c_ringThread _ _) (fun hb => ?_) (fun hb => ?_) <;> simp -implicitDefEqProofs [hb]))
  all_goals (try simp only [argMay, opMay, updates, threadIn, slotOK] at *)
  all_goals (first | omega | (rw [Bool.eq_iff_iff]; simp only [Bool.and_eq_true, Bool.or_eq_true, decide_eq_true_eq, Bool.not_eq_true', decide_eq_false_iff_not, beq_iff_eq, bne_iff_ne, ne_eq] <;> omega))

theorem c_lthread (c : Config) (x : Int) : PCall tab 101 [.agg (encConfig c), .int .i64 x] (.bool (decide (threadIn x c.threads))) := by
  refine PCall.of (F := m101) rfl rfl rfl rfl ?_
  simp -implicitDefEqProofs [m101]
  repeat' (first
    | (with_reducible refine guard_by (fun hb => ?_) (fun hb => ?_) <;> rw [hb] <;> (try simp at hb) <;> simp -implicitDefEqProofs [hb])
    | (with_reducible refine cond_by (fun hb => ?_) (fun hb => ?_) <;> rw [hb] <;> (try simp at hb) <;> simp -implicitDefEqProofs [hb]))
  all_goals (try simp only [argMay, opMay, updates] at *)
  all_goals (first | omega | (rw [Bool.eq_iff_iff]; simp only [Bool.and_eq_true, Bool.or_eq_true, decide_eq_true_eq, Bool.not_eq_true', decide_eq_false_iff_not, beq_iff_eq, bne_iff_ne, ne_eq] <;> omega))

theorem c_SlotsMay (k : Int) : PCall tab 126 [.int .i64 k] (.bool (decide (slotsMay k))) := by
  refine PCall.of (F := m126) rfl rfl rfl rfl ?_
  simp -implicitDefEqProofs [m126]
  repeat' (first
    | (with_reducible refine guard_by (fun hb => ?_) (fun hb => ?_) <;> rw [hb] <;> (try simp at hb) <;> simp -implicitDefEqProofs [hb])
    | (with_reducible refine cond_by (fun hb => ?_) (fun hb => ?_) <;> rw [hb] <;> (try simp at hb) <;> simp -implicitDefEqProofs [hb]))
  all_goals (try simp only [argMay, opMay, updates] at *)
  all_goals (first | omega | (rw [Bool.eq_iff_iff]; simp only [Bool.and_eq_true, Bool.or_eq_true, decide_eq_true_eq, Bool.not_eq_true', decide_eq_false_iff_not, beq_iff_eq, bne_iff_ne, ne_eq] <;> omega))

theorem c_ConfigMay (c : Config) : PCall tab 75 [.agg (encConfig c)] (.bool (decide (cfgMay c))) := by
  refine PCall.of (F := m75) rfl rfl rfl rfl ?_
  simp -implicitDefEqProofs [m75]
  repeat' (first
    | (with_reducible refine guard_by (fun hb => ?_) (fun hb => ?_) <;> rw [hb] <;> (try simp at hb) <;> simp -implicitDefEqProofs [hb])
    | (with_reducible refine cond_by (fun hb => ?_) (fun hb => ?_) <;> rw [hb] <;> (try simp at hb) <;> simp -implicitDefEqProofs [hb])
    | (refine CallT.bool2 rfl (c_upTo13 _ _ _) (fun hb => ?_) (fun hb => ?_) <;> simp -implicitDefEqProofs [hb])
    | (refine CallT.bool2 rfl (c_SlotsMay _) (fun hb => ?_) (fun hb => ?_) <;> simp -implicitDefEqProofs [hb]))
  all_goals (try simp only [objIs, logsMay, cfgMay, slotsMay] at *)
  all_goals (try rw [wrap_of (by omega) (by omega)])
  all_goals (first | omega | (rw [Bool.eq_iff_iff]; simp only [Bool.and_eq_true, Bool.or_eq_true, decide_eq_true_eq] <;> omega))

theorem c_cellMay (x : Int) : PCall tab 155 [.int .i64 x] (.bool (decide (0 ≤ x ∧ x ≤ 1048576))) := by
  refine PCall.of (F := m155) rfl rfl rfl rfl ?_
  simp -implicitDefEqProofs [m155]
  repeat' (first
    | (with_reducible refine guard_by (fun hb => ?_) (fun hb => ?_) <;> rw [hb] <;> (try simp at hb) <;> simp -implicitDefEqProofs [hb])
    | (with_reducible refine cond_by (fun hb => ?_) (fun hb => ?_) <;> rw [hb] <;> (try simp at hb) <;> simp -implicitDefEqProofs [hb])
    | (refine CallT.bool2 rfl (c_upTo1 _ _ _) (fun hb => ?_) (fun hb => ?_) <;> simp -implicitDefEqProofs [hb]))
  all_goals (try simp only [argMay, opMay, updates] at *)
  all_goals (first | omega | (rw [Bool.eq_iff_iff]; simp only [Bool.and_eq_true, Bool.or_eq_true, decide_eq_true_eq, Bool.not_eq_true', decide_eq_false_iff_not, beq_iff_eq, bne_iff_ne, ne_eq] <;> omega))

theorem c_Updates1 (o : Op) : PCall tab 72 [.agg (encOp o)] (.bool (decide (updates o))) := by
  refine PCall.of (F := m72) rfl rfl rfl rfl ?_
  simp -implicitDefEqProofs [m72]
  repeat' (first
    | (with_reducible refine guard_by (fun hb => ?_) (fun hb => ?_) <;> rw [hb] <;> (try simp at hb) <;> simp -implicitDefEqProofs [hb])
    | (with_reducible refine cond_by (fun hb => ?_) (fun hb => ?_) <;> rw [hb] <;> (try simp at hb) <;> simp -implicitDefEqProofs [hb])
    | (refine CallT.bool2 rfl (c_OperMay o) (fun hb => ?_) (fun hb => ?_) <;> simp -implicitDefEqProofs [hb]))
  all_goals (try simp only [argMay, opMay, updates] at *)
  all_goals (first | omega | (rw [Bool.eq_iff_iff]; simp only [Bool.and_eq_true, Bool.or_eq_true, decide_eq_true_eq, Bool.not_eq_true', decide_eq_false_iff_not, beq_iff_eq, bne_iff_ne, ne_eq] <;> omega))

theorem c_threadMay1 (x : Int) : PCall tab 156 [.int .i64 x] (.bool (decide (threadIn x 4))) := by
  refine PCall.of (F := m156) rfl rfl rfl rfl ?_
  simp -implicitDefEqProofs [m156]
  repeat' (first
    | (with_reducible refine guard_by (fun hb => ?_) (fun hb => ?_) <;> rw [hb] <;> (try simp at hb) <;> simp -implicitDefEqProofs [hb])
    | (with_reducible refine cond_by (fun hb => ?_) (fun hb => ?_) <;> rw [hb] <;> (try simp at hb) <;> simp -implicitDefEqProofs [hb])
    | (refine CallT.bool2 rfl (c_upTo1 _ _ _) (fun hb => ?_) (fun hb => ?_) <;> simp -implicitDefEqProofs [hb]))
  all_goals (try simp only [argMay, opMay, updates, threadIn] at *)
  all_goals (first | omega | (rw [Bool.eq_iff_iff]; simp only [Bool.and_eq_true, Bool.or_eq_true, decide_eq_true_eq, Bool.not_eq_true', decide_eq_false_iff_not, beq_iff_eq, bne_iff_ne, ne_eq] <;> omega))

theorem c_number (x : Int) : PCall tab 112 [.int .i64 x] (.bool (decide (0 ≤ x ∧ x ≤ 1048576))) := by
  refine PCall.of (F := m112) rfl rfl rfl rfl ?_
  simp -implicitDefEqProofs [m112]
  repeat' (first
    | (with_reducible refine guard_by (fun hb => ?_) (fun hb => ?_) <;> rw [hb] <;> (try simp at hb) <;> simp -implicitDefEqProofs [hb])
    | (with_reducible refine cond_by (fun hb => ?_) (fun hb => ?_) <;> rw [hb] <;> (try simp at hb) <;> simp -implicitDefEqProofs [hb]))
  all_goals (try simp only [argMay, opMay, updates] at *)
  all_goals (first | omega | (rw [Bool.eq_iff_iff]; simp only [Bool.and_eq_true, Bool.or_eq_true, decide_eq_true_eq, Bool.not_eq_true', decide_eq_false_iff_not, beq_iff_eq, bne_iff_ne, ne_eq] <;> omega))

end Go.Ab

namespace Go.Ab

/-- so it is of all: not taken apart -/
def allOf {α : Type} (p : α → Prop) (xs : List α) : Prop := ∀ x ∈ xs, p x
instance {α : Type} (p : α → Prop) [DecidablePred p] (xs : List α) : Decidable (allOf p xs) := inferInstanceAs (Decidable (∀ x ∈ xs, p x))

theorem any_not {α : Type} (p : α → Prop) [DecidablePred p] (xs : List α) : (xs.any fun x => decide (¬ p x)) = decide (¬ allOf p xs) := by
  rw [Bool.eq_iff_iff]; simp [allOf]
theorem all_is {α : Type} (p : α → Prop) [DecidablePred p] (xs : List α) : (xs.all fun x => decide (p x)) = decide (allOf p xs) := by
  by_cases h : allOf p xs
  · simp only [h, decide_true, List.all_eq_true, decide_eq_true_eq]; exact h
  · simp only [h, decide_false]
    cases hx : (xs.all fun x => decide (p x)) with
    | false => rfl
    | true => simp only [List.all_eq_true, decide_eq_true_eq] at hx; exact absurd hx h
theorem allOf_take {α : Type} {p : α → Prop} {xs : List α} {i : Nat} (hi : i < xs.length) : allOf p (xs.take (i + 1)) ↔ allOf p (xs.take i) ∧ p xs[i] := by
  unfold allOf; rw [List.take_succ_eq_append_getElem hi]
  constructor
  · exact fun h => ⟨fun x hx => h x (List.mem_append.2 (.inl hx)), h _ (List.mem_append.2 (.inr (List.mem_singleton.2 rfl)))⟩
  · rintro ⟨h1, h2⟩ x hx
    rcases List.mem_append.1 hx with hx | hx
    · exact h1 x hx
    · simp only [List.mem_singleton] at hx; subst hx; exact h2
theorem allOf_of {α : Type} {p : α → Prop} {xs : List α} {i : Nat} (hi : xs.length ≤ i) : allOf p (xs.take i) ↔ allOf p xs := by
  rw [List.take_of_length_le hi]
theorem not_allOf {α : Type} {p : α → Prop} {xs : List α} {i : Nat} (hi : i < xs.length) (h : ¬ p xs[i]) : ¬ allOf p xs := fun hh => h (hh _ (List.getElem_mem hi))

@[reducible] def ringOK (r : Ring) : Prop := ringNums r ∧ allOf slotOK r.slots

theorem c_ringMay (r : Ring) (z : Bool) (h : lenOK r.slots) : PCall tab 102 [.agg (encRing z r)] (.bool (decide (ringOK r))) := by
  have h' := h
  unfold lenOK at h'
  have hodd : ∀ z, PCall tab 136 [.vs (r.slots.map encSlot) z, .fn (.func 137) [] []] (.bool (decide (¬ allOf slotOK r.slots))) := fun z => by
    rw [← any_not]; exact c_ContainsSlot r.slots z h _ 137 [] [] (fun s _ => c_odd s) (fun s => by simp) (by simp) (by simp)
  refine PCall.of (F := m102) rfl rfl rfl rfl ?_
  simp -implicitDefEqProofs [m102]
  repeat' (first
    | (with_reducible refine guard_by (fun hb => ?_) (fun hb => ?_) <;> rw [hb] <;> (try simp at hb) <;> simp -implicitDefEqProofs [hb])
    | (with_reducible refine cond_by (fun hb => ?_) (fun hb => ?_) <;> rw [hb] <;> (try simp at hb) <;> simp -implicitDefEqProofs [hb])
    | (refine CallT.bool2 rfl (c_many _) (fun hb => ?_) (fun hb => ?_) <;> simp -implicitDefEqProofs [hb])
    | (refine CallT.bool2 rfl (c_ringThread _ _) (fun hb => ?_) (fun hb => ?_) <;> simp -implicitDefEqProofs [hb])
    | (refine CallT.bool2 (by simp) (hodd false) (fun hb => ?_) (fun hb => ?_) <;> simp -implicitDefEqProofs [hb]))
  all_goals simp only [slotsMay, threadIn] at *
  all_goals (try rw [wrap_of (by omega) (by omega)])
  all_goals (first
    | omega
    | (intros; omega)
    | (intros; contradiction)
    | (simp_all; done)
    | (simp_all; omega)
    | (rw [Bool.eq_iff_iff]; simp_all; omega))

theorem c_RingMay (r : Ring) (z : Bool) (h : lenOK r.slots) (hr : -9223372036854775808 ≤ r.head ∧ r.head < 9223372036854775808) : PCall tab 127 [.agg (encRing z r)] (.bool (decide (ringOK r))) := by
  unfold lenOK at h
  refine PCall.of (F := m127) rfl rfl rfl rfl ?_
  simp -implicitDefEqProofs [m127]
  repeat' (first
    | (with_reducible refine guard_by (fun hb => ?_) (fun hb => ?_) <;> rw [hb] <;> (try simp at hb) <;> simp -implicitDefEqProofs [hb])
    | (with_reducible refine cond_by (fun hb => ?_) (fun hb => ?_) <;> rw [hb] <;> (try simp at hb) <;> simp -implicitDefEqProofs [hb])
    | (refine CallT.bool2 rfl (c_SlotsMay _) (fun hb => ?_) (fun hb => ?_) <;> simp -implicitDefEqProofs [hb])
    | (refine CallT.bool2 rfl (c_cellMay _) (fun hb => ?_) (fun hb => ?_) <;> simp -implicitDefEqProofs [hb])
    | (refine CallT.bool2 rfl (c_upTo1 _ _ _) (fun hb => ?_) (fun hb => ?_) <;> simp -implicitDefEqProofs [hb]))
  all_goals simp only [slotsMay] at *
  all_goals (try rw [wrap_of (by omega) (by omega)] at *)
  all_goals (try (first | omega | (intros; omega)))
  refine loop_by (fun m E T => T = TH.none ∧ ∃ i : Nat, i + m = r.slots.length ∧ E.get 1 = .lp 0 0 ∧ E.get 3 = .a (.int .i64 r.slots.length) ∧ E.get 4 = .a (.int .i64 i) ∧ E.var 0 = some ((encRing z r).map .a) ∧ 1 ≤ E.ln ∧ allOf slotOK (r.slots.take i)) ?_ r.slots.length ⟨rfl, 0, by simp [allOf]⟩
  rintro m E T ⟨rfl, i, hi, h1, h3, h4, v0, hln, hall⟩
  by_cases hlt : i < r.slots.length
  · have g1 := List.getElem?_eq_getElem hlt
    have n0 : ¬ E.ln = 0 := by omega
    simp -implicitDefEqProofs [h1, h3, h4, v0, hlt, g1, n0]
    repeat' (first
      | (with_reducible refine guard_by (fun hb => ?_) (fun hb => ?_) <;> rw [hb] <;> (try simp at hb) <;> simp -implicitDefEqProofs [hb, h1, h3, h4, v0, n0])
      | (with_reducible refine cond_by (fun hb => ?_) (fun hb => ?_) <;> rw [hb] <;> (try simp at hb) <;> simp -implicitDefEqProofs [hb, h1, h3, h4, v0, n0])
      | (refine CallT.bool2 rfl (c_Updates1 r.slots[i].op) (fun hb => ?_) (fun hb => ?_) <;> simp -implicitDefEqProofs [hb, h1, h3, h4, v0, n0])
      | (refine CallT.bool2 rfl (c_threadMay1 _) (fun hb => ?_) (fun hb => ?_) <;> simp -implicitDefEqProofs [hb, h1, h3, h4, v0, n0])
      | (refine CallT.bool2 rfl (c_upTo1 _ _ _) (fun hb => ?_) (fun hb => ?_) <;> simp -implicitDefEqProofs [hb, h1, h3, h4, v0, n0]))
    all_goals first
      | (refine ⟨m - 1, by omega, i + 1, by omega, wrap_nat (by omega), (allOf_take hlt).2 ⟨hall, ?_⟩⟩
         simp only [slotOK, updates, opMay, threadIn] at *
         omega)
      | (intros
         refine not_allOf hlt ?_
         simp only [slotOK, updates, opMay, threadIn] at *
         omega)
  · have hall' := (allOf_of (by omega)).1 hall
    simp -implicitDefEqProofs [h1, h3, h4, v0, hlt]
    exact ⟨⟨by omega, by omega⟩, hall'⟩

end Go.Ab

namespace Go.Ab

@[reducible] def inR (x : Int) : Prop := -9223372036854775808 ≤ x ∧ x < 9223372036854775808
def slotIn (c : Config) (s : Slot) : Prop := threadIn s.thread c.threads
instance (c : Config) : DecidablePred (slotIn c) := fun s => inferInstanceAs (Decidable (threadIn s.thread c.threads))
@[reducible] def ringIn (c : Config) (r : Ring) : Prop := ringOK r ∧ (r.slots.length : Int) = c.slots ∧ r.fence ≤ c.threads ∧ allOf (slotIn c) r.slots

theorem c_lring1 (s : Slot) (c : Config) : PCall tab 100 [.agg (encSlot s), .vp [encConfig c] 0 0] (.bool (decide (slotIn c s))) := by
  refine PCall.of (F := m100) rfl rfl rfl rfl ?_
  simp -implicitDefEqProofs [m100]
  repeat' (first
    | (with_reducible refine guard_by (fun hb => ?_) (fun hb => ?_) <;> rw [hb] <;> (try simp at hb) <;> simp -implicitDefEqProofs [hb])
    | (with_reducible refine cond_by (fun hb => ?_) (fun hb => ?_) <;> rw [hb] <;> (try simp at hb) <;> simp -implicitDefEqProofs [hb])
    | (refine CallT.bool2 rfl (c_lthread c s.thread) (fun hb => ?_) (fun hb => ?_) <;> simp -implicitDefEqProofs [hb]))
  all_goals (try simp only [argMay, opMay, updates, threadIn, slotIn] at *)
  all_goals (first | omega | (rw [Bool.eq_iff_iff]; simp only [Bool.and_eq_true, Bool.or_eq_true, decide_eq_true_eq, Bool.not_eq_true', decide_eq_false_iff_not, beq_iff_eq, bne_iff_ne, ne_eq] <;> omega))

theorem c_lring (c : Config) (r : Ring) (z : Bool) (h : lenOK r.slots) : PCall tab 43 [.agg (encConfig c), .agg (encRing z r)] (.bool (decide (ringIn c r))) := by
  have h' := h
  unfold lenOK at h'
  have hall : ∀ z, PCall tab 103 [.vs (r.slots.map encSlot) z, .fn (.func 100) [] [.vp [encConfig c] 0 0]] (.bool (decide (allOf (slotIn c) r.slots))) := fun z => by
    rw [← all_is]; exact c_allSlot r.slots z h _ _ [] [.vp [encConfig c] 0 0] (fun s _ => c_lring1 s c) (fun s => by simp) (fun d => by simp) (by simp)
  refine PCall.of (F := m43) rfl rfl rfl rfl ?_
  simp -implicitDefEqProofs [m43]
  repeat' (first
    | (with_reducible refine guard_by (fun hb => ?_) (fun hb => ?_) <;> rw [hb] <;> (try simp at hb) <;> simp -implicitDefEqProofs [hb])
    | (with_reducible refine cond_by (fun hb => ?_) (fun hb => ?_) <;> rw [hb] <;> (try simp at hb) <;> simp -implicitDefEqProofs [hb])
    | (refine CallT.bool2 (by simp) (c_ringMay r false h) (fun hb => ?_) (fun hb => ?_) <;> simp -implicitDefEqProofs [hb])
    | (refine CallT.bool2 (by simp) (hall false) (fun hb => ?_) (fun hb => ?_) <;> simp -implicitDefEqProofs [hb]))
  all_goals simp only [ringOK, ringNums, slotsMay] at *
  all_goals (first | omega | (intros; omega) | (intros; contradiction) | (simp_all; done) | (simp_all; omega))

theorem c_ringMay13 (c : Config) (r : Ring) (z1 z2 : Bool) (h : lenOK r.slots) (hr : inR r.head) : PCall tab 76 [.agg (encConfig c), .agg (encRing z2 r)] (.bool (decide (ringIn c r))) := by
  have h' := h
  unfold lenOK at h'
  refine PCall.of (F := m76) rfl rfl rfl rfl ?_
  simp -implicitDefEqProofs [m76]
  repeat' (first
    | (with_reducible refine guard_by (fun hb => ?_) (fun hb => ?_) <;> rw [hb] <;> (try simp at hb) <;> simp -implicitDefEqProofs [hb])
    | (with_reducible refine cond_by (fun hb => ?_) (fun hb => ?_) <;> rw [hb] <;> (try simp at hb) <;> simp -implicitDefEqProofs [hb])
    | (refine CallT.bool2 (by simp) (c_RingMay r false h hr) (fun hb => ?_) (fun hb => ?_) <;> simp -implicitDefEqProofs [hb]))
  all_goals (try (first | omega | (intros; omega) | (intros; contradiction)))
  have hok : ringOK r := by assumption
  refine loop_by (fun m E T => T = TH.none ∧ ∃ i : Nat, i + m = r.slots.length ∧ E.get 2 = .lp 0 0 ∧ E.get 3 = .lp 1 0 ∧ E.get 5 = .a (.int .i64 i) ∧ E.var 0 = some ((encConfig c).map .a) ∧ E.var 1 = some ((encRing z2 r).map .a) ∧ allOf (slotIn c) (r.slots.take i)) ?_ r.slots.length ⟨rfl, 0, by simp [allOf]⟩
  rintro m E T ⟨rfl, i, hi, h1, h3, h4, v0, v1, hall⟩
  by_cases hlt : i < r.slots.length
  · have g1 := List.getElem?_eq_getElem hlt
    have hs := hok.2 _ (List.getElem_mem hlt)
    simp -implicitDefEqProofs [h1, h3, h4, v0, v1, hlt, g1]
    repeat' (first
      | (with_reducible refine guard_by (fun hb => ?_) (fun hb => ?_) <;> rw [hb] <;> (try simp at hb) <;> simp -implicitDefEqProofs [hb, h1, h3, h4, v0, v1])
      | (with_reducible refine cond_by (fun hb => ?_) (fun hb => ?_) <;> rw [hb] <;> (try simp at hb) <;> simp -implicitDefEqProofs [hb, h1, h3, h4, v0, v1]))
    all_goals first
      | exact ⟨m - 1, by omega, i + 1, by omega, wrap_nat (by omega), (allOf_take hlt).2 ⟨hall, hs.2.1.1, by omega⟩⟩
      | (intros
         refine not_allOf hlt (fun hh => ?_)
         have := hh.2
         omega)
  · have hall' := (allOf_of (by omega)).1 hall
    have hn := hok.1
    simp only [ringNums, slotsMay] at hn
    simp -implicitDefEqProofs [h1, h3, h4, v0, v1, hlt]
    first
      | omega
      | (refine ⟨?_, ?_⟩ <;> first | omega | assumption)
      | (refine ⟨?_, ?_, ?_⟩ <;> first | omega | assumption)
      | (refine ⟨?_, ?_, ?_, ?_⟩ <;> first | omega | assumption)
      | trace_state

end Go.Ab

namespace Go.Ab

@[reducible] def rowArgs (n : Int) (xs : List Int) : Prop := (xs.length : Int) ≤ n ∧ allOf argMay xs
@[reducible] def storeMay (s : State) : Prop := rowArgs 1 s.r0 ∧ rowArgs 1 s.r1 ∧ rowArgs 1 s.r2 ∧ rowArgs 1 s.r3
@[reducible] def queueMay (s : State) : Prop := rowArgs 4 s.r0 ∧ rowArgs 4 s.r1 ∧ rowArgs 4 s.r2 ∧ rowArgs 4 s.r3

theorem c_notArg (x : Int) : PCall tab 174 [.int .i64 x] (.bool (decide (¬ argMay x))) := by
  refine PCall.of (F := m174) rfl rfl rfl rfl ?_
  simp -implicitDefEqProofs [m174]
  repeat' (first
    | (with_reducible refine guard_by (fun hb => ?_) (fun hb => ?_) <;> rw [hb] <;> (try simp at hb) <;> simp -implicitDefEqProofs [hb])
    | (with_reducible refine cond_by (fun hb => ?_) (fun hb => ?_) <;> rw [hb] <;> (try simp at hb) <;> simp -implicitDefEqProofs [hb])
    | (refine CallT.bool2 rfl (c_operArg _) (fun hb => ?_) (fun hb => ?_) <;> simp -implicitDefEqProofs [hb]))
  all_goals (try simp only [argMay, opMay, updates] at *)
  all_goals (first | omega | (rw [Bool.eq_iff_iff]; simp only [Bool.and_eq_true, Bool.or_eq_true, decide_eq_true_eq, Bool.not_eq_true', decide_eq_false_iff_not, beq_iff_eq, bne_iff_ne, ne_eq] <;> omega))

theorem c_args (xs : List Int) (n : Int) (z : Bool) (h : lenOK xs) : PCall tab 168 [.vs (xs.map encInt) z, .int .i64 n] (.bool (decide (rowArgs n xs))) := by
  have hodd : ∀ z, PCall tab 143 [.vs (xs.map encInt) z, .fn (.func 174) [] []] (.bool (decide (¬ allOf argMay xs))) := fun z => by
    rw [← any_not]; exact c_Containsint xs z h _ 174 [] [] (fun s _ => c_notArg s) (fun s => by simp) (by simp) (by simp)
  refine PCall.of (F := m168) rfl rfl rfl rfl ?_
  simp -implicitDefEqProofs [m168]
  repeat' (first
    | (with_reducible refine guard_by (fun hb => ?_) (fun hb => ?_) <;> rw [hb] <;> (try simp at hb) <;> simp -implicitDefEqProofs [hb])
    | (with_reducible refine cond_by (fun hb => ?_) (fun hb => ?_) <;> rw [hb] <;> (try simp at hb) <;> simp -implicitDefEqProofs [hb])
    | (refine CallT.bool2 (by simp) (hodd false) (fun hb => ?_) (fun hb => ?_) <;> simp -implicitDefEqProofs [hb]))
  all_goals (first | omega | (intros; omega) | (intros; contradiction) | (simp_all; done))

theorem c_storeMay (s : State) (z : Bool) (h : okS s) : PCall tab 140 [.agg (encState z s)] (.bool (decide (storeMay s))) := by
  obtain ⟨h0, h1, h2, h3⟩ := h
  refine PCall.of (F := m140) rfl rfl rfl rfl ?_
  simp -implicitDefEqProofs [m140]
  repeat' (first
    | (with_reducible refine guard_by (fun hb => ?_) (fun hb => ?_) <;> rw [hb] <;> (try simp at hb) <;> simp -implicitDefEqProofs [hb])
    | (with_reducible refine cond_by (fun hb => ?_) (fun hb => ?_) <;> rw [hb] <;> (try simp at hb) <;> simp -implicitDefEqProofs [hb])
    | (refine CallT.bool2 rfl (c_args s.r0 1 false h0) (fun hb => ?_) (fun hb => ?_) <;> simp -implicitDefEqProofs [hb])
    | (refine CallT.bool2 rfl (c_args s.r1 1 false h1) (fun hb => ?_) (fun hb => ?_) <;> simp -implicitDefEqProofs [hb])
    | (refine CallT.bool2 rfl (c_args s.r2 1 false h2) (fun hb => ?_) (fun hb => ?_) <;> simp -implicitDefEqProofs [hb])
    | (refine CallT.bool2 rfl (c_args s.r3 1 false h3) (fun hb => ?_) (fun hb => ?_) <;> simp -implicitDefEqProofs [hb])
    | (with_reducible refine WCT.unroll ?_; simp -implicitDefEqProofs))
  all_goals (first | omega | (simp_all; done))

theorem c_queueMay (s : State) (z : Bool) (h : okS s) : PCall tab 142 [.agg (encState z s)] (.bool (decide (queueMay s))) := by
  obtain ⟨h0, h1, h2, h3⟩ := h
  refine PCall.of (F := m142) rfl rfl rfl rfl ?_
  simp -implicitDefEqProofs [m142]
  repeat' (first
    | (with_reducible refine guard_by (fun hb => ?_) (fun hb => ?_) <;> rw [hb] <;> (try simp at hb) <;> simp -implicitDefEqProofs [hb])
    | (with_reducible refine cond_by (fun hb => ?_) (fun hb => ?_) <;> rw [hb] <;> (try simp at hb) <;> simp -implicitDefEqProofs [hb])
    | (refine CallT.bool2 rfl (c_args s.r0 4 false h0) (fun hb => ?_) (fun hb => ?_) <;> simp -implicitDefEqProofs [hb])
    | (refine CallT.bool2 rfl (c_args s.r1 4 false h1) (fun hb => ?_) (fun hb => ?_) <;> simp -implicitDefEqProofs [hb])
    | (refine CallT.bool2 rfl (c_args s.r2 4 false h2) (fun hb => ?_) (fun hb => ?_) <;> simp -implicitDefEqProofs [hb])
    | (refine CallT.bool2 rfl (c_args s.r3 4 false h3) (fun hb => ?_) (fun hb => ?_) <;> simp -implicitDefEqProofs [hb])
    | (with_reducible refine WCT.unroll ?_; simp -implicitDefEqProofs))
  all_goals (first | omega | (simp_all; done))

end Go.Ab

namespace Go.Ab

def State.row (s : State) : Nat → List Int
  | 0 => s.r0
  | 1 => s.r1
  | 2 => s.r2
  | _ => s.r3

theorem state_get (z : Bool) (s : State) (i : Nat) (h : i < 4) : (encState z s)[i]? = some (.vs ((s.row i).map encInt) z) := by
  have : i = 0 ∨ i = 1 ∨ i = 2 ∨ i = 3 := by omega
  rcases this with rfl | rfl | rfl | rfl <;> rfl

theorem state_getE (z : Bool) (s : State) (i : Nat) (h : i < (encState z s).length) : (encState z s)[i] = .vs ((s.row i).map encInt) z := by
  have := state_get z s i h
  rw [List.getElem?_eq_getElem h] at this
  exact Option.some.inj this

theorem okS_row {s : State} (h : okS s) (i : Nat) : lenOK (s.row i) := by
  obtain ⟨h0, h1, h2, h3⟩ := h
  unfold State.row
  split <;> assumption

def fdsRow (xs : List Int) : Prop := ∀ i (h : i < xs.length), 0 ≤ xs[i] ∧ xs[i] < 4 ∧ (0 < i → xs[i - 1] < xs[i])
def fdsTo (xs : List Int) (n : Nat) : Prop := ∀ i (h : i < xs.length), i < n → 0 ≤ xs[i] ∧ xs[i] < 4 ∧ (0 < i → xs[i - 1] < xs[i])
instance (xs : List Int) : Decidable (fdsRow xs) := inferInstanceAs (Decidable (∀ i (h : i < xs.length), 0 ≤ xs[i] ∧ xs[i] < 4 ∧ (0 < i → xs[i - 1] < xs[i])))
def rowsOK (p : List Int → Prop) (s : State) : Prop := p s.r0 ∧ p s.r1 ∧ p s.r2 ∧ p s.r3
def rowsTo (p : List Int → Prop) (s : State) (n : Nat) : Prop := ∀ i, i < 4 → i < n → p (s.row i)
instance (p : List Int → Prop) [DecidablePred p] (s : State) : Decidable (rowsOK p s) := inferInstanceAs (Decidable (_ ∧ _ ∧ _ ∧ _))
theorem rowsOK_iff {p : List Int → Prop} {s : State} : rowsOK p s ↔ ∀ i, i < 4 → p (s.row i) := by
  constructor
  · rintro ⟨h0, h1, h2, h3⟩ i hi
    have : i = 0 ∨ i = 1 ∨ i = 2 ∨ i = 3 := by omega
    rcases this with rfl | rfl | rfl | rfl <;> assumption
  · intro h; exact ⟨h 0 (by omega), h 1 (by omega), h 2 (by omega), h 3 (by omega)⟩

theorem fdsTo_step {xs : List Int} {i : Nat} (hi : i < xs.length) (h : fdsTo xs i) (h1 : 0 ≤ xs[i]) (h2 : xs[i] < 4) (h3 : 0 < i → xs[i - 1] < xs[i]) : fdsTo xs (i + 1) := fun j hj hlt => by
  by_cases e : j = i
  · subst e; exact ⟨h1, h2, h3⟩
  · exact h j hj (by omega)
theorem fdsTo_all {xs : List Int} {i : Nat} (hi : xs.length ≤ i) (h : fdsTo xs i) : fdsRow xs := fun j hj => h j hj (by omega)
theorem fdsTo_zero (xs : List Int) : fdsTo xs 0 := fun j hj h => by omega

theorem c_fdsMay (s : State) (z : Bool) (h : okS s) : PCall tab 141 [.agg (encState z s)] (.bool (decide (rowsOK fdsRow s))) := by
  refine PCall.of (F := m141) rfl rfl rfl rfl ?_
  simp -implicitDefEqProofs [m141]
  refine loop_by (fun k E T => T = TH.none ∧ ∃ i : Nat, i + k = 4 ∧ E.get 1 = .lp 0 0 ∧ E.get 8 = .a (.agg (encState z s)) ∧ E.get 9 = .a (.int .i64 i) ∧ rowsTo fdsRow s i) ?_ 4 ⟨rfl, 0, by simp [rowsTo]⟩
  rintro k E T ⟨rfl, i, hi, h1, h8, h9, hr⟩
  by_cases hlt : i < 4
  · have g := state_get z s i hlt
    have hl := okS_row h i
    unfold lenOK at hl
    have gi : (i : Int) < 4 := by omega
    simp -implicitDefEqProofs [h1, h8, h9, state_getE, gi, hlt]
    refine loop_by (fun k' E T => T = TH.none ∧ ∃ j : Nat, j + k' = (s.row i).length ∧ E.get 1 = .lp 0 0 ∧ E.get 4 = .a (.vs ((s.row i).map encInt) z) ∧ E.get 8 = .a (.agg (encState z s)) ∧ E.get 9 = .a (.int .i64 i) ∧ E.get 12 = .a (.vs ((s.row i).map encInt) z) ∧ E.get 13 = .a (.int .i64 (s.row i).length) ∧ E.get 14 = .a (.int .i64 j) ∧ fdsTo (s.row i) j) ?_ (s.row i).length ⟨rfl, 0, by simp [h1, h8, h9, fdsTo_zero]⟩
    clear h1 h8 h9 E
    rintro k' E T ⟨rfl, j, hj, h1, h4, h8, h9, h12, h13, h14, hf⟩
    by_cases hlt' : j < (s.row i).length
    · have g1 := List.getElem?_eq_getElem hlt'
      simp -implicitDefEqProofs [h1, h4, h8, h9, h12, h13, h14, hlt', g1]
      by_cases hj0 : 0 < j
      · have e0 : IntKind.wrap .i64 ((j : Int) - 1) = ((j - 1 : Nat) : Int) := by rw [wrap_of (by omega) (by omega)]; omega
        have hlt2 : j - 1 < (s.row i).length := by omega
        have g2 := List.getElem?_eq_getElem hlt2
        repeat' (first
          | (with_reducible refine guard_by (fun hb => ?_) (fun hb => ?_) <;> rw [hb] <;> (try simp at hb) <;> simp -implicitDefEqProofs [hb, h1, h4, h8, h9, h12, h13, h14, hlt', g1, hj0, e0, hlt2, g2])
          | (with_reducible refine cond_by (fun hb => ?_) (fun hb => ?_) <;> rw [hb] <;> (try simp at hb) <;> simp -implicitDefEqProofs [hb, h1, h4, h8, h9, h12, h13, h14, hlt', g1, hj0, e0, hlt2, g2]))
        all_goals (first
          | (refine ⟨k' - 1, by omega, j + 1, by omega, wrap_nat (by omega), fdsTo_step hlt' hf ?_ ?_ ?_⟩ <;> omega)
          | (refine fun hh => ?_; have := rowsOK_iff.1 hh i hlt j hlt'; omega))
      · repeat' (first
          | (with_reducible refine guard_by (fun hb => ?_) (fun hb => ?_) <;> rw [hb] <;> (try simp at hb) <;> simp -implicitDefEqProofs [hb, h1, h4, h8, h9, h12, h13, h14, hlt', g1, hj0])
          | (with_reducible refine cond_by (fun hb => ?_) (fun hb => ?_) <;> rw [hb] <;> (try simp at hb) <;> simp -implicitDefEqProofs [hb, h1, h4, h8, h9, h12, h13, h14, hlt', g1, hj0]))
        all_goals (first
          | (refine ⟨k' - 1, by omega, j + 1, by omega, wrap_nat (by omega), fdsTo_step hlt' hf ?_ ?_ ?_⟩ <;> omega)
          | (refine fun hh => ?_; have := rowsOK_iff.1 hh i hlt j hlt'; omega))
    · simp -implicitDefEqProofs [h1, h4, h8, h9, h12, h13, h14, hlt']
      refine ⟨k - 1, by omega, i + 1, by omega, wrap_nat (by omega), fun x hx hx2 => ?_⟩
      by_cases e : x = i
      · subst e; exact fdsTo_all (by omega) hf
      · exact hr x hx (by omega)
  · have gi : ¬ (i : Int) < 4 := by omega
    simp -implicitDefEqProofs [h1, h8, h9, gi]
    exact rowsOK_iff.2 fun x hx => hr x hx (by omega)

@[reducible] def stateMay (o : Int) (s : State) : Prop := (o = 0 ∧ storeMay s) ∨ (o = 1 ∧ rowsOK fdsRow s) ∨ (o = 2 ∧ queueMay s)

theorem c_objMay (o : Int) (s : State) (z : Bool) (h : okS s) : PCall tab 105 [.int .i64 o, .agg (encState z s)] (.bool (decide (stateMay o s))) := by
  refine PCall.of (F := m105) rfl rfl rfl rfl ?_
  simp -implicitDefEqProofs [m105]
  repeat' (first
    | (with_reducible refine guard_by (fun hb => ?_) (fun hb => ?_) <;> rw [hb] <;> (try simp at hb) <;> simp -implicitDefEqProofs [hb])
    | (with_reducible refine cond_by (fun hb => ?_) (fun hb => ?_) <;> rw [hb] <;> (try simp at hb) <;> simp -implicitDefEqProofs [hb])
    | ((refine CallT.bool2 ?_ (c_storeMay s false h) (fun hb => ?_) (fun hb => ?_); focus (simp; done)) <;> simp -implicitDefEqProofs [hb])
    | ((refine CallT.bool2 ?_ (c_fdsMay s false h) (fun hb => ?_) (fun hb => ?_); focus (simp; done)) <;> simp -implicitDefEqProofs [hb])
    | ((refine CallT.bool2 ?_ (c_queueMay s false h) (fun hb => ?_) (fun hb => ?_); focus (simp; done)) <;> simp -implicitDefEqProofs [hb]))
  all_goals (first | (simp_all; done) | omega | (simp_all; omega))

end Go.Ab

namespace Go.Ab

theorem fds_ge {xs : List Int} (h : fdsRow xs) : ∀ (i : Nat) (hi : i < xs.length), (i : Int) ≤ xs[i] := by
  intro i
  induction i with
  | zero => intro hi; have := h 0 hi; omega
  | succ i ih =>
    intro hi
    have h1 := ih (by omega)
    have h2 := (h (i + 1) hi).2.2 (by omega)
    simp only [Nat.add_sub_cancel] at h2
    omega
theorem fds_len {xs : List Int} (h : fdsRow xs) : xs.length ≤ 4 := by
  rcases Nat.lt_or_ge 4 xs.length with hl | hl
  · have h1 := fds_ge h 4 hl
    have h2 := h 4 hl
    omega
  · exact hl

def rowTo (o : Int) (xs : List Int) (n : Nat) : Prop := ∀ i (h : i < xs.length), i < n → argMay xs[i] ∧ (o = 1 → xs[i] < 4 ∧ (0 < i → xs[i - 1] < xs[i]))
def rowIn (o : Int) (xs : List Int) : Prop := (o = 0 ∧ rowArgs 1 xs) ∨ (o = 1 ∧ fdsRow xs) ∨ (o = 2 ∧ rowArgs 4 xs)
instance (o : Int) : DecidablePred (rowIn o) := fun xs => inferInstanceAs (Decidable ((o = 0 ∧ rowArgs 1 xs) ∨ (o = 1 ∧ fdsRow xs) ∨ (o = 2 ∧ rowArgs 4 xs)))
theorem rowTo_step {o : Int} {xs : List Int} {i : Nat} (hi : i < xs.length) (h : rowTo o xs i) (h1 : argMay xs[i]) (h2 : o = 1 → xs[i] < 4 ∧ (0 < i → xs[i - 1] < xs[i])) : rowTo o xs (i + 1) := fun j hj hlt => by
  by_cases e : j = i
  · subst e; exact ⟨h1, h2⟩
  · exact h j hj (by omega)
theorem rowTo_zero (o : Int) (xs : List Int) : rowTo o xs 0 := fun j hj h => by omega
theorem rowIn_at {o : Int} {xs : List Int} (h : rowIn o xs) {i : Nat} (hi : i < xs.length) : argMay xs[i] ∧ (o = 1 → xs[i] < 4 ∧ (0 < i → xs[i - 1] < xs[i])) := by
  rcases h with ⟨rfl, h⟩ | ⟨rfl, h⟩ | ⟨rfl, h⟩
  · exact ⟨h.2 _ (List.getElem_mem hi), fun e => by omega⟩
  · have := h i hi; exact ⟨⟨by omega, by omega⟩, fun _ => this.2⟩
  · exact ⟨h.2 _ (List.getElem_mem hi), fun e => by omega⟩
theorem rowIn_iff {o m : Int} {xs : List Int} {i : Nat} (hi : xs.length ≤ i) (h : rowTo o xs i) (hm : (o = 0 ∧ m = 1) ∨ (o = 1 ∧ m = 4) ∨ (o = 2 ∧ m = 4)) : rowIn o xs ↔ (xs.length : Int) ≤ m := by
  have hall : allOf argMay xs := fun x hx => by
    obtain ⟨j, hj, rfl⟩ := List.getElem_of_mem hx
    exact (h j hj (by omega)).1
  constructor
  · rintro (⟨rfl, k⟩ | ⟨rfl, k⟩ | ⟨rfl, k⟩)
    · have := k.1; omega
    · have := fds_len k; omega
    · have := k.1; omega
  · intro hl
    rcases hm with ⟨rfl, rfl⟩ | ⟨rfl, rfl⟩ | ⟨rfl, rfl⟩
    · exact .inl ⟨rfl, hl, hall⟩
    · exact .inr (.inl ⟨rfl, fun j hj => by have := h j hj (by omega); exact ⟨this.1.1, (this.2 rfl).1, (this.2 rfl).2⟩⟩)
    · exact .inr (.inr ⟨rfl, hl, hall⟩)

theorem c_rowMay (o : Int) (xs : List Int) (z : Bool) (h : lenOK xs) (ho : o = 0 ∨ o = 1 ∨ o = 2) : PCall tab 157 [.int .i64 o, .vs (xs.map encInt) z] (.bool (decide (rowIn o xs))) := by
  unfold lenOK at h
  refine PCall.of (F := m157) rfl rfl rfl rfl ?_
  have key : ∃ m : Int, ((o = 0 ∧ m = 1) ∨ (o = 1 ∧ m = 4) ∨ (o = 2 ∧ m = 4)) ∧ [[AV.int IntKind.i64 1], [AV.int IntKind.i64 4], [AV.int IntKind.i64 4]][o.toNat]? = some [.int .i64 m] ∧ (∀ h, [[AV.int IntKind.i64 1], [AV.int IntKind.i64 4], [AV.int IntKind.i64 4]][o.toNat]'h = [.int .i64 m]) ∧ 0 ≤ o ∧ o < 3 := by
    rcases ho with rfl | rfl | rfl
    · exact ⟨1, by omega, rfl, fun _ => rfl, by omega, by omega⟩
    · exact ⟨4, by omega, rfl, fun _ => rfl, by omega, by omega⟩
    · exact ⟨4, by omega, rfl, fun _ => rfl, by omega, by omega⟩
  obtain ⟨m, hm, hg, hE, ho0, ho3⟩ := key
  simp -implicitDefEqProofs [m157, ho0, ho3, hE, List.replicate]
  refine loop_by (fun k E T => ∃ i : Nat, i + k = xs.length ∧ E.get 0 = .a (.int .i64 o) ∧ E.get 1 = .a (.vs (xs.map encInt) z) ∧ E.get 5 = .a (.int .i64 m) ∧ E.get 6 = .a (.int .i64 i) ∧ rowTo o xs i) ?_ xs.length ⟨0, by simp [rowTo_zero]⟩
  rintro k E T ⟨i, hi, h0, h1, h5, h6, hr⟩
  by_cases hlt : i < xs.length
  · have g1 := List.getElem?_eq_getElem hlt
    have nope : ¬ (argMay xs[i] ∧ (o = 1 → xs[i] < 4 ∧ (0 < i → xs[i - 1] < xs[i]))) → ¬ rowIn o xs := fun hh hr => hh (rowIn_at hr hlt)
    simp -implicitDefEqProofs [h0, h1, h5, h6, hlt, g1]
    by_cases hi0 : 0 < i
    · have e0 : IntKind.wrap .i64 ((i : Int) - 1) = ((i - 1 : Nat) : Int) := by rw [wrap_of (by omega) (by omega)]; omega
      have hlt2 : i - 1 < xs.length := by omega
      have g2 := List.getElem?_eq_getElem hlt2
      repeat' (first
        | (with_reducible refine guard_by (fun hb => ?_) (fun hb => ?_) <;> rw [hb] <;> (try simp at hb) <;> simp -implicitDefEqProofs [hb, h0, h1, h5, h6, hlt, g1, hi0, e0, hlt2, g2])
        | (with_reducible refine cond_by (fun hb => ?_) (fun hb => ?_) <;> rw [hb] <;> (try simp at hb) <;> simp -implicitDefEqProofs [hb, h0, h1, h5, h6, hlt, g1, hi0, e0, hlt2, g2])
        | (refine CallT.bool2 rfl (c_upTo1 _ _ _) (fun hb => ?_) (fun hb => ?_) <;> simp -implicitDefEqProofs [hb, h0, h1, h5, h6, hlt, g1, hi0, e0, hlt2, g2]))
      all_goals (try (have e1 : o = 1 := (by omega); subst e1))
      all_goals (first
        | (refine ⟨k - 1, by omega, i + 1, by omega, wrap_nat (by omega), rowTo_step hlt hr ⟨?_, ?_⟩ (fun e => ?_)⟩ <;> omega)
        | (refine ⟨k - 1, by omega, i + 1, by omega, rfl, wrap_nat (by omega), rowTo_step hlt hr ⟨?_, ?_⟩ (fun e => ?_)⟩ <;> omega)
        | (refine nope (fun hh => ?_); have h7 := hh.2 rfl; have h8 := hh.1; have h9 := h7.2; simp only [argMay] at h8; omega)
        | (refine nope (fun hh => ?_); have h8 := hh.1; simp only [argMay] at h8; omega))
    · repeat' (first
        | (with_reducible refine guard_by (fun hb => ?_) (fun hb => ?_) <;> rw [hb] <;> (try simp at hb) <;> simp -implicitDefEqProofs [hb, h0, h1, h5, h6, hlt, g1, hi0])
        | (with_reducible refine cond_by (fun hb => ?_) (fun hb => ?_) <;> rw [hb] <;> (try simp at hb) <;> simp -implicitDefEqProofs [hb, h0, h1, h5, h6, hlt, g1, hi0])
        | (refine CallT.bool2 rfl (c_upTo1 _ _ _) (fun hb => ?_) (fun hb => ?_) <;> simp -implicitDefEqProofs [hb, h0, h1, h5, h6, hlt, g1, hi0]))
      all_goals (try (have e1 : o = 1 := (by omega); subst e1))
      all_goals (first
        | (refine ⟨k - 1, by omega, i + 1, by omega, wrap_nat (by omega), rowTo_step hlt hr ⟨?_, ?_⟩ (fun e => ?_)⟩ <;> omega)
        | (refine ⟨k - 1, by omega, i + 1, by omega, rfl, wrap_nat (by omega), rowTo_step hlt hr ⟨?_, ?_⟩ (fun e => ?_)⟩ <;> omega)
        | (refine nope (fun hh => ?_); have h7 := hh.2 rfl; have h8 := hh.1; have h9 := h7.2; simp only [argMay] at h8; omega)
        | (refine nope (fun hh => ?_); have h8 := hh.1; simp only [argMay] at h8; omega))
  · simp -implicitDefEqProofs [h0, h1, h5, h6, hlt]
    rw [rowIn_iff (by omega) hr hm]

theorem rowsTo_step {p : List Int → Prop} {s : State} {i : Nat} (h : rowsTo p s i) (h1 : p (s.row i)) : rowsTo p s (i + 1) := fun j hj hlt => by
  by_cases e : j = i
  · subst e; exact h1
  · exact h j hj (by omega)

theorem c_StateMay (o : Int) (s : State) (z : Bool) (h : okS s) : PCall tab 128 [.int .i64 o, .agg (encState z s)] (.bool (decide (stateMay o s))) := by
  have hiff : stateMay o s ↔ (o = 0 ∨ o = 1 ∨ o = 2) ∧ ∀ i, i < 4 → rowIn o (s.row i) := by
    constructor
    · rintro (⟨rfl, k⟩ | ⟨rfl, k⟩ | ⟨rfl, k⟩)
      · exact ⟨by omega, fun i hi => .inl ⟨rfl, rowsOK_iff (p := rowArgs 1).1 k i hi⟩⟩
      · exact ⟨by omega, fun i hi => .inr (.inl ⟨rfl, rowsOK_iff.1 k i hi⟩)⟩
      · exact ⟨by omega, fun i hi => .inr (.inr ⟨rfl, rowsOK_iff (p := rowArgs 4).1 k i hi⟩)⟩
    · rintro ⟨k1 | k1 | k1, k2⟩
      · subst k1; exact .inl ⟨rfl, rowsOK_iff (p := rowArgs 1).2 fun i hi => by rcases k2 i hi with k | k | k <;> first | exact k.2 | (have := k.1; omega)⟩
      · subst k1; exact .inr (.inl ⟨rfl, rowsOK_iff (p := fdsRow).2 fun i hi => by rcases k2 i hi with k | k | k <;> first | exact k.2 | (have := k.1; omega)⟩)
      · subst k1; exact .inr (.inr ⟨rfl, rowsOK_iff (p := rowArgs 4).2 fun i hi => by rcases k2 i hi with k | k | k <;> first | exact k.2 | (have := k.1; omega)⟩)
  refine PCall.dec hiff ?_
  haveI : Decidable ((o = 0 ∨ o = 1 ∨ o = 2) ∧ ∀ i, i < 4 → rowIn o (s.row i)) := inferInstance
  refine PCall.of (F := m128) rfl rfl rfl rfl ?_
  simp -implicitDefEqProofs [m128]
  refine loop_by (fun k E T => ∃ i : Nat, i + k = 4 ∧ E.get 0 = .a (.int .i64 o) ∧ E.get 3 = .lp 0 0 ∧ E.get 5 = .a (.int .i64 i) ∧ E.var 0 = some ((encState z s).map .a) ∧ (0 < i → o = 0 ∨ o = 1 ∨ o = 2) ∧ rowsTo (rowIn o) s i) ?_ 4 ⟨0, by simp [rowsTo]⟩
  rintro k E T ⟨i, hi, h0, h3, h5, v0, hoi, hr⟩
  by_cases hlt : i < 4
  · have gi : (i : Int) < 4 := by omega
    by_cases ho : o = 0 ∨ o = 1 ∨ o = 2
    · have ho0 : ¬ o < 0 := by omega
      have ho2 : ¬ 2 < o := by omega
      have e4 : i = 0 ∨ i = 1 ∨ i = 2 ∨ i = 3 := by omega
      obtain ⟨l0, l1, l2, l3⟩ := h
      rcases e4 with rfl | rfl | rfl | rfl <;> simp -implicitDefEqProofs [h0, h3, h5, v0, ho0, ho2]
      · refine CallT.bool2 (by simp) (c_rowMay o s.r0 false l0 ho) (fun hb => ?_) (fun hb => ?_) <;> simp -implicitDefEqProofs [hb, h0, h3, h5, v0]
        · refine ⟨k - 1, by omega, 1, by omega, rfl, fun _ => ho, rowsTo_step (i := 0) hr hb⟩
        · first | exact fun _ => ⟨0, by omega, hb⟩ | (intro _ hh; exact absurd (hh 0 (by omega)) hb)
      · refine CallT.bool2 (by simp) (c_rowMay o s.r1 false l1 ho) (fun hb => ?_) (fun hb => ?_) <;> simp -implicitDefEqProofs [hb, h0, h3, h5, v0]
        · refine ⟨k - 1, by omega, 2, by omega, rfl, fun _ => ho, rowsTo_step (i := 1) hr hb⟩
        · first | exact fun _ => ⟨1, by omega, hb⟩ | (intro _ hh; exact absurd (hh 1 (by omega)) hb)
      · refine CallT.bool2 (by simp) (c_rowMay o s.r2 false l2 ho) (fun hb => ?_) (fun hb => ?_) <;> simp -implicitDefEqProofs [hb, h0, h3, h5, v0]
        · refine ⟨k - 1, by omega, 3, by omega, rfl, fun _ => ho, rowsTo_step (i := 2) hr hb⟩
        · first | exact fun _ => ⟨2, by omega, hb⟩ | (intro _ hh; exact absurd (hh 2 (by omega)) hb)
      · refine CallT.bool2 (by simp) (c_rowMay o s.r3 false l3 ho) (fun hb => ?_) (fun hb => ?_) <;> simp -implicitDefEqProofs [hb, h0, h3, h5, v0]
        · refine ⟨k - 1, by omega, 4, by omega, rfl, fun _ => ho, rowsTo_step (i := 3) hr hb⟩
        · first | exact fun _ => ⟨3, by omega, hb⟩ | (intro _ hh; exact absurd (hh 3 (by omega)) hb)
    · have : o < 0 ∨ 2 < o := by omega
      simp -implicitDefEqProofs [h0, h3, h5, v0, gi]
      repeat' (first
        | (with_reducible refine guard_by (fun hb => ?_) (fun hb => ?_) <;> rw [hb] <;> (try simp at hb) <;> simp -implicitDefEqProofs [hb, h0, h3, h5, v0, gi])
        | (with_reducible refine cond_by (fun hb => ?_) (fun hb => ?_) <;> rw [hb] <;> (try simp at hb) <;> simp -implicitDefEqProofs [hb, h0, h3, h5, v0, gi]))
      all_goals (first | omega | (intros; omega))
  · have gi : ¬ (i : Int) < 4 := by omega
    simp -implicitDefEqProofs [h0, h3, h5, v0, gi]
    exact ⟨hoi (by omega), fun j hj => hr j hj (by omega)⟩

end Go.Ab

namespace Go.Ab

def cursorIn : Option Ring → Int → Bool
  | some r, x => decide (r.head ≤ x ∧ x ≤ r.tail)
  | none, _ => false
def cursorsIn (rs : List Ring) (cs : List Int) : Prop := ∀ i (h : i < cs.length), cursorIn rs[i]? cs[i] = true
def cursorsTo (rs : List Ring) (cs : List Int) (n : Nat) : Prop := ∀ i (h : i < cs.length), i < n → cursorIn rs[i]? cs[i] = true
instance (rs : List Ring) (cs : List Int) : Decidable (cursorsIn rs cs) := inferInstanceAs (Decidable (∀ i (h : i < cs.length), cursorIn rs[i]? cs[i] = true))
theorem cursorsTo_step {rs : List Ring} {cs : List Int} {i : Nat} (hi : i < cs.length) (h : cursorsTo rs cs i) (h1 : cursorIn rs[i]? cs[i] = true) : cursorsTo rs cs (i + 1) := fun j hj hlt => by
  by_cases e : j = i
  · subst e; exact h1
  · exact h j hj (by omega)
theorem cursorsTo_zero (rs : List Ring) (cs : List Int) : cursorsTo rs cs 0 := fun j hj h => by omega
theorem cursorsTo_all {rs : List Ring} {cs : List Int} {i : Nat} (hi : cs.length ≤ i) (h : cursorsTo rs cs i) : cursorsIn rs cs := fun j hj => h j hj (by omega)

def lockIn (c : Config) (x : Int) : Prop := 0 ≤ x ∧ x ≤ c.threads
instance (c : Config) : DecidablePred (lockIn c) := fun x => inferInstanceAs (Decidable (0 ≤ x ∧ x ≤ c.threads))
def replicaIn (c : Config) (rs : List Ring) (x : Replica) : Prop := stateMay c.object x.state ∧ (x.cursors.length : Int) = c.logs ∧ (x.locks.length : Int) = c.logs ∧ allOf (lockIn c) x.locks ∧ cursorsIn rs x.cursors
instance (c : Config) (rs : List Ring) : DecidablePred (replicaIn c rs) := fun x => inferInstanceAs (Decidable (_ ∧ _ ∧ _ ∧ _ ∧ _))
def numIn (x : Int) : Prop := 0 ≤ x ∧ x ≤ 1048576
instance : DecidablePred numIn := fun x => inferInstanceAs (Decidable (0 ≤ x ∧ x ≤ 1048576))
def thrIn (c : Config) (x : Int) : Prop := threadIn x c.threads
instance (c : Config) : DecidablePred (thrIn c) := fun x => inferInstanceAs (Decidable (threadIn x c.threads))
@[reducible] def atNums (c : Config) (t : Thread) : Prop := 0 ≤ t.step ∧ t.step ≤ 19 ∧ opMay t.op ∧ 0 ≤ t.log ∧ t.log < c.logs ∧ 0 ≤ t.seen ∧ t.seen ≤ 1048576 ∧ (t.batch.length : Int) ≤ c.threads ∧ 0 ≤ t.at_ ∧ t.at_ ≤ (t.batch.length : Int) ∧ (t.tails.length : Int) ≤ c.logs
def atIn (c : Config) (t : Thread) : Prop := atNums c t ∧ allOf (thrIn c) t.batch ∧ allOf numIn t.tails
instance (c : Config) : DecidablePred (atIn c) := fun x => inferInstanceAs (Decidable (_ ∧ _ ∧ _))
def evIn (c : Config) (e : Event) : Prop := threadIn e.thread c.threads ∧ opMay e.op
instance (c : Config) : DecidablePred (evIn c) := fun x => inferInstanceAs (Decidable (_ ∧ _))

theorem c_llock (c : Config) (x : Int) : PCall tab 104 [.int .i64 x, .vp [encConfig c] 0 0] (.bool (decide (lockIn c x))) := by
  refine PCall.of (F := m104) rfl rfl rfl rfl ?_
  simp -implicitDefEqProofs [m104]
  repeat' (first
    | (with_reducible refine guard_by (fun hb => ?_) (fun hb => ?_) <;> rw [hb] <;> (try simp at hb) <;> simp -implicitDefEqProofs [hb])
    | (with_reducible refine cond_by (fun hb => ?_) (fun hb => ?_) <;> rw [hb] <;> (try simp at hb) <;> simp -implicitDefEqProofs [hb]))
  all_goals simp only [lockIn]
  all_goals (first | omega | (intros; omega) | (rw [Bool.eq_iff_iff]; simp only [Bool.and_eq_true, decide_eq_true_eq] <;> omega) | (simp_all; done))

theorem c_levent (c : Config) (e : Event) : PCall tab 50 [.agg (encConfig c), .agg (encEvent e)] (.bool (decide (evIn c e))) := by
  refine PCall.of (F := m50) rfl rfl rfl rfl ?_
  simp -implicitDefEqProofs [m50]
  repeat' (first
    | (with_reducible refine guard_by (fun hb => ?_) (fun hb => ?_) <;> rw [hb] <;> (try simp at hb) <;> simp -implicitDefEqProofs [hb])
    | (with_reducible refine cond_by (fun hb => ?_) (fun hb => ?_) <;> rw [hb] <;> (try simp at hb) <;> simp -implicitDefEqProofs [hb])
    | (refine CallT.bool2 rfl (c_lthread c e.thread) (fun hb => ?_) (fun hb => ?_) <;> simp -implicitDefEqProofs [hb])
    | (refine CallT.bool2 rfl (c_operMay e.op) (fun hb => ?_) (fun hb => ?_) <;> simp -implicitDefEqProofs [hb]))
  all_goals simp only [evIn]
  all_goals (first | (simp_all; done) | (simp only [threadIn, opMay] at *; omega))

theorem c_lat (c : Config) (t : Thread) (z : Bool) (h : okTh t) : PCall tab 48 [.agg (encConfig c), .agg (encThread z t)] (.bool (decide (atIn c t))) := by
  obtain ⟨h1, h2⟩ := h
  have hba : ∀ z, PCall tab 106 [.vs (t.batch.map encInt) z, .fn (.func 101) [.agg (encConfig c)] []] (.bool (decide (allOf (thrIn c) t.batch))) := fun z => by
    rw [← all_is]; exact c_allint t.batch z h1 _ _ [.agg (encConfig c)] [] (fun s _ => c_lthread c s) (fun s => by simp) (fun d => by simp) (by simp)
  have hta : ∀ z, PCall tab 106 [.vs (t.tails.map encInt) z, .fn (.func 112) [] []] (.bool (decide (allOf numIn t.tails))) := fun z => by
    rw [← all_is]; exact c_allint t.tails z h2 _ _ [] [] (fun s _ => c_number s) (fun s => by simp) (fun d => by simp) (by simp)
  refine PCall.of (F := m48) rfl rfl rfl rfl ?_
  simp -implicitDefEqProofs [m48]
  repeat' (first
    | (with_reducible refine guard_by (fun hb => ?_) (fun hb => ?_) <;> rw [hb] <;> (try simp at hb) <;> simp -implicitDefEqProofs [hb])
    | (with_reducible refine cond_by (fun hb => ?_) (fun hb => ?_) <;> rw [hb] <;> (try simp at hb) <;> simp -implicitDefEqProofs [hb])
    | (refine CallT.bool2 rfl (c_operMay t.op) (fun hb => ?_) (fun hb => ?_) <;> simp -implicitDefEqProofs [hb])
    | (refine CallT.bool2 rfl (c_number t.seen) (fun hb => ?_) (fun hb => ?_) <;> simp -implicitDefEqProofs [hb])
    | ((refine CallT.bool2 ?_ (hba false) (fun hb => ?_) (fun hb => ?_); focus (simp; done)) <;> simp -implicitDefEqProofs [hb])
    | ((refine CallT.bool2 ?_ (hta false) (fun hb => ?_) (fun hb => ?_); focus (simp; done)) <;> simp -implicitDefEqProofs [hb]))
  all_goals simp only [atIn, atNums, opMay]
  all_goals (try simp only [opMay] at *)
  all_goals (first | omega | (intros; omega) | (refine ⟨⟨?_, ?_⟩, ?_⟩ <;> first | omega | assumption) | (simp_all; done) | (simp_all; omega))

theorem c_lreplica (c : Config) (x : Replica) (rs : List Ring) (z z1 z2 : Bool) (h : okP' x) (hrs : (rs.length : Int) = c.logs) : PCall tab 45 [.agg (encConfig c), .agg (encReplica z x), .vs (rs.map (encRing z1)) z2] (.bool (decide (replicaIn c rs x))) := by
  obtain ⟨h1, h2, h3⟩ := h
  have h2' := h2
  unfold lenOK at h2'
  have hl : ∀ z, PCall tab 106 [.vs (x.locks.map encInt) z, .fn (.func 104) [] [.vp [encConfig c] 0 0]] (.bool (decide (allOf (lockIn c) x.locks))) := fun z => by
    rw [← all_is]; exact c_allint x.locks z h3 _ _ [] [.vp [encConfig c] 0 0] (fun s _ => c_llock c s) (fun s => by simp) (fun d => by simp) (by simp)
  refine PCall.of (F := m45) rfl rfl rfl rfl ?_
  simp -implicitDefEqProofs [m45]
  repeat' (first
    | (with_reducible refine guard_by (fun hb => ?_) (fun hb => ?_) <;> rw [hb] <;> (try simp at hb) <;> simp -implicitDefEqProofs [hb])
    | (with_reducible refine cond_by (fun hb => ?_) (fun hb => ?_) <;> rw [hb] <;> (try simp at hb) <;> simp -implicitDefEqProofs [hb])
    | ((refine CallT.bool2 ?_ (c_objMay c.object x.state false h1) (fun hb => ?_) (fun hb => ?_); focus (simp; done)) <;> simp -implicitDefEqProofs [hb])
    | ((refine CallT.bool2 ?_ (hl false) (fun hb => ?_) (fun hb => ?_); focus (simp; done)) <;> simp -implicitDefEqProofs [hb]))
  all_goals (try (first | exact fun hh => hb hh.1 | exact fun hh => hb hh.2.2.2.1 | (intro hh; have h5 := hh.2.1; have h6 := hh.2.2.1; omega)))
  refine loop_by (fun k E T => ∃ i : Nat, i + k = x.cursors.length ∧ E.get 2 = .a (.vs (rs.map (encRing z1)) z2) ∧ E.get 44 = .a (.vs (x.cursors.map encInt) z) ∧ E.get 45 = .a (.int .i64 x.cursors.length) ∧ E.get 46 = .a (.int .i64 i) ∧ cursorsTo rs x.cursors i) ?_ x.cursors.length ⟨0, by simp [cursorsTo_zero]⟩
  rintro k E T ⟨i, hi, e2, e44, e45, e46, hc⟩
  by_cases hlt : i < x.cursors.length
  · have g1 := List.getElem?_eq_getElem hlt
    have hlt2 : i < rs.length := by omega
    have g2 := List.getElem?_eq_getElem hlt2
    simp -implicitDefEqProofs [e2, e44, e45, e46, hlt, g1, hlt2, g2]
    repeat' (first
      | (with_reducible refine guard_by (fun hb => ?_) (fun hb => ?_) <;> rw [hb] <;> (try simp at hb) <;> simp -implicitDefEqProofs [hb, e2, e44, e45, e46, hlt, g1, hlt2, g2])
      | (with_reducible refine cond_by (fun hb => ?_) (fun hb => ?_) <;> rw [hb] <;> (try simp at hb) <;> simp -implicitDefEqProofs [hb, e2, e44, e45, e46, hlt, g1, hlt2, g2]))
    all_goals (first
      | (refine ⟨k - 1, by omega, i + 1, by omega, wrap_nat (by omega), cursorsTo_step hlt hc ?_⟩; rw [g2]; simp only [cursorIn, decide_eq_true_eq]; omega)
      | (intro hh; have := hh.2.2.2.2 i hlt; rw [g2] at this; simp only [cursorIn, decide_eq_true_eq] at this; omega))
  · simp -implicitDefEqProofs [e2, e44, e45, e46, hlt]
    exact ⟨by assumption, by omega, by omega, by assumption, cursorsTo_all (by omega) hc⟩

end Go.Ab

namespace Go.Ab

theorem c_lCopyRing (r : Ring) (z : Bool) (h : lenOK r.slots) : PCall tab 51 [.agg (encRing z r)] (.agg (encRing true r)) := by
  unfold lenOK at h
  refine PCall.of (F := m51) rfl rfl rfl ?_ ?_
  · simp [okT, okP, okC, List.all_map, flatV]
  have hr : r.slots.length * 40 ≤ 140737488355328 := by omega
  simp -implicitDefEqProofs [m51, hr]

end Go.Ab

namespace Go.Ab

theorem ok_ring (r : Ring) : okT (.agg (encRing true r)) = true := by simp [okT, okP, okC, List.all_map, flatV]
theorem ok_replica (r : Replica) : okT (.agg (encReplica true r)) = true := by simp [okT, okP, okC, List.all_map, flatV]
theorem ok_thread (r : Thread) : okT (.agg (encThread true r)) = true := by simp [okT, okP, okC, List.all_map, flatV]

end Go.Ab

namespace Go.Ab

@[reducible] def noMachine : Machine := ⟨⟨0, 0, 0, 0, 0⟩, [], [], [], []⟩

theorem ok_rings (l : List Ring) : okC 8 (.vs (l.map (encRing true)) true) = true := by simp [okC, List.all_map, flatV]
theorem ok_replicas (l : List Replica) : okC 8 (.vs (l.map (encReplica true)) true) = true := by simp [okC, List.all_map, flatV]
theorem ok_threads (l : List Thread) : okC 8 (.vs (l.map (encThread true)) true) = true := by simp [okC, List.all_map, flatV]
theorem ok_events (l : List Event) : okC 8 (.vs (l.map encEvent) true) = true := by simp [okC, List.all_map, flatV]
theorem ok_machine (m : Machine) (k : IntKind) (n : Int) : okT (.tup [.agg (encMachine true m), .int k n]) = true := by simp [okT, okP, ok_rings, ok_replicas, ok_threads, ok_events]; simp [okC, flatV]

theorem c_Num (e : Int) : PCall tab 14 [.int .i64 e] (.int .i64 e) := by
  refine PCall.of (F := m14) rfl rfl rfl rfl ?_
  simp -implicitDefEqProofs [m14]
  trace_state

end Go.Ab

namespace Go.Ab

end Go.Ab

namespace Go.Ab

end Go.Ab

namespace Go.Ab

end Go.Ab

namespace Go.Ab

/-- so far: of these four roots the content is another one of the same kind, all else stayed -/
structure Sp (T T' : TH) (r1 r2 r3 r4 : Nat) (rs : List Ring) (ps : List Replica) (ts : List Thread) : Prop where
  next : T'.next = T.next
  other : ∀ k, k ≠ r1 → k ≠ r2 → k ≠ r3 → k ≠ r4 → T'.get k = T.get k
  g1 : T'.get r1 = .tree (rs.map (encRing true)) true []
  g2 : T'.get r2 = .tree (ps.map (encReplica true)) true []
  g3 : T'.get r3 = .tree (ts.map (encThread true)) true []
  o1 : ∀ x ∈ rs, okR x
  o2 : ∀ x ∈ ps, okP' x
  o3 : ∀ x ∈ ts, okTh x

end Go.Ab

namespace Go.Ab

theorem fzC_sl (T : TH) (d r : Nat) (p : Path) (g i n : Nat) : fzC T d (.sl r p g i n true) = if (T.get r).valid p g = true then match T.get r with
      | .tree rows z _ => match p.getLast? with
        | none => if okC d (.vs rows z) then some (unz d (.vs rows z)) else none
        | some (i, j) => match nodeA rows p.dropLast with
          | some rp => match cellOf rp i j with
            | some (.vs rows' z') => if okC d (.vs rows' z') then some (unz d (.vs rows' z')) else none
            | _ => none
          | none => none
      | _ => none
    else none := rfl
theorem fzC_part (T : TH) (d r : Nat) (p : Path) (g i n : Nat) : fzC T d (.sl r p g i n false) = if (T.get r).valid p g = true then match T.get r with
      | .tree rows _ _ => match nodeA rows p with
        | some rp => if n = 0 then some (.vs [] false) else if i + n ≤ rp.length ∧ okC d (.vs ((rp.drop i).take n) true) = true then some (unz d (.vs ((rp.drop i).take n) true)) else none
        | none => none
      | _ => none
    else none := rfl
theorem fzT_part (T : TH) (r : Nat) (p : Path) (g i n : Nat) : fzT T (.sl r p g i n false) = fzC T 11 (.sl r p g i n false) := rfl
attribute [simp] fzC_part fzT_part
theorem fzT_sl (T : TH) (r : Nat) (p : Path) (g i n : Nat) : fzT T (.sl r p g i n true) = fzC T 11 (.sl r p g i n true) := rfl
attribute [simp] fzC_sl fzT_sl

@[simp] theorem unz_int (d : Nat) (k : IntKind) (n : Int) : unz d (.int k n) = .int k n := by cases d <;> rfl
@[simp] theorem unz_bool (d : Nat) (b : Bool) : unz d (.bool b) = .bool b := by cases d <;> rfl
@[simp] theorem unz_vs (d : Nat) (rows : List (List AV)) (z : Bool) : unz (d + 1) (.vs rows z) = .vs (rows.map fun row => row.map (unz d)) false := by conv => lhs; unfold unz
@[simp] theorem okC_int (d : Nat) (k : IntKind) (n : Int) : okC d (.int k n) = true := by cases d <;> rfl
@[simp] theorem okC_bool (d : Nat) (b : Bool) : okC d (.bool b) = true := by cases d <;> rfl
@[simp] theorem okC_vs (d : Nat) (rows : List (List AV)) (z : Bool) : okC (d + 1) (.vs rows z) = rows.all fun row => row.all (okC d) := by conv => lhs; unfold okC

theorem unz_ints (d : Nat) (xs : List Int) (z : Bool) : unz (d + 1) (.vs (xs.map encInt) z) = .vs (xs.map encInt) false := by simp
theorem unz_slots (d : Nat) (xs : List Slot) (z : Bool) : unz (d + 1) (.vs (xs.map encSlot) z) = .vs (xs.map encSlot) false := by simp
theorem unz_events (d : Nat) (xs : List Event) (z : Bool) : unz (d + 1) (.vs (xs.map encEvent) z) = .vs (xs.map encEvent) false := by simp
theorem unz_rings (d : Nat) (xs : List Ring) (z z' : Bool) : unz (d + 2) (.vs (xs.map (encRing z)) z') = .vs (xs.map (encRing false)) false := by simp
theorem unz_replicas (d : Nat) (xs : List Replica) (z z' : Bool) : unz (d + 2) (.vs (xs.map (encReplica z)) z') = .vs (xs.map (encReplica false)) false := by simp
theorem unz_threads (d : Nat) (xs : List Thread) (z z' : Bool) : unz (d + 2) (.vs (xs.map (encThread z)) z') = .vs (xs.map (encThread false)) false := by simp
theorem okC_ints (d : Nat) (xs : List Int) (z : Bool) : okC (d + 1) (.vs (xs.map encInt) z) = true := by simp
theorem okC_slots (d : Nat) (xs : List Slot) (z : Bool) : okC (d + 1) (.vs (xs.map encSlot) z) = true := by simp
theorem okC_events (d : Nat) (xs : List Event) (z : Bool) : okC (d + 1) (.vs (xs.map encEvent) z) = true := by simp
theorem okC_rings (d : Nat) (xs : List Ring) (z z' : Bool) : okC (d + 2) (.vs (xs.map (encRing z)) z') = true := by simp
theorem okC_replicas (d : Nat) (xs : List Replica) (z z' : Bool) : okC (d + 2) (.vs (xs.map (encReplica z)) z') = true := by simp
theorem okC_threads (d : Nat) (xs : List Thread) (z z' : Bool) : okC (d + 2) (.vs (xs.map (encThread z)) z') = true := by simp

attribute [simp high] unz_ints unz_slots unz_events unz_rings unz_replicas unz_threads okC_ints okC_slots okC_events okC_rings okC_replicas okC_threads

end Go.Ab

namespace Go.Ab

theorem c_threadMay13 (c : Config) (t : Thread) (z : Bool) (h : okTh t) (hc : cfgMay c) : PCall tab 78 [.agg (encConfig c), .agg (encThread z t)] (.bool (decide (atIn c t))) := by
  obtain ⟨h1, h2⟩ := h
  unfold lenOK at h1 h2
  have w1 : IntKind.wrap .i64 (c.logs - 1) = c.logs - 1 := by have := hc.2.2.1; exact wrap_of (by omega) (by omega)
  have w2 : IntKind.wrap .i64 (c.threads - 1) = c.threads - 1 := by have := hc.2.2.2.1; exact wrap_of (by omega) (by omega)
  refine PCall.of (F := m78) rfl rfl rfl rfl ?_
  simp -implicitDefEqProofs [m78]
  repeat' (first
    | (with_reducible refine guard_by (fun hb => ?_) (fun hb => ?_) <;> rw [hb] <;> (try simp at hb) <;> simp -implicitDefEqProofs [hb, w1, w2])
    | (with_reducible refine cond_by (fun hb => ?_) (fun hb => ?_) <;> rw [hb] <;> (try simp at hb) <;> simp -implicitDefEqProofs [hb, w1, w2])
    | (refine CallT.bool2 rfl (c_upTo13 t.step 0 19) (fun hb => ?_) (fun hb => ?_) <;> simp -implicitDefEqProofs [hb, w1, w2])
    | (refine CallT.bool2 rfl (c_OperMay t.op) (fun hb => ?_) (fun hb => ?_) <;> simp -implicitDefEqProofs [hb, w1, w2])
    | (refine CallT.bool2 rfl (c_upTo13 t.log 0 _) (fun hb => ?_) (fun hb => ?_) <;> simp -implicitDefEqProofs [hb, w1, w2])
    | (refine CallT.bool2 rfl (c_upTo13 t.seen 0 1048576) (fun hb => ?_) (fun hb => ?_) <;> simp -implicitDefEqProofs [hb, w1, w2])
    | (refine CallT.bool2 rfl (c_upTo13 t.at_ 0 _) (fun hb => ?_) (fun hb => ?_) <;> simp -implicitDefEqProofs [hb, w1, w2]))
  all_goals (try (first | exact fun hh => hb hh.1.2.2.1 | (intro hh; have h5 := hh.1; simp only [atNums, opMay] at h5; omega) | (exact fun hh => by have h5 := hh.1; simp only [atNums] at h5; omega)))
  refine loop_by (fun k E T => ∃ i : Nat, i + k = t.batch.length ∧ E.get 2 = .lp 0 0 ∧ E.get 3 = .lp 1 0 ∧ E.get 5 = .a (.int .i64 i) ∧ E.var 0 = some ((encConfig c).map .a) ∧ E.var 1 = some ((encThread z t).map .a) ∧ allOf (thrIn c) (t.batch.take i)) ?_ t.batch.length ⟨0, by simp [allOf]⟩
  rintro k E T ⟨i, hi, e2, e3, e5, v0, v1, ha⟩
  by_cases hlt : i < t.batch.length
  · have g1 := List.getElem?_eq_getElem hlt
    simp -implicitDefEqProofs [e2, e3, e5, v0, v1, hlt, g1, w2]
    repeat' (first
      | (with_reducible refine guard_by (fun hb => ?_) (fun hb => ?_) <;> rw [hb] <;> (try simp at hb) <;> simp -implicitDefEqProofs [hb, e2, e3, e5, v0, v1, hlt, g1, w2])
      | (with_reducible refine cond_by (fun hb => ?_) (fun hb => ?_) <;> rw [hb] <;> (try simp at hb) <;> simp -implicitDefEqProofs [hb, e2, e3, e5, v0, v1, hlt, g1, w2])
      | (refine CallT.bool2 rfl (c_upTo13 t.batch[i] 0 (c.threads - 1)) (fun hb => ?_) (fun hb => ?_) <;> simp -implicitDefEqProofs [hb, e2, e3, e5, v0, v1, hlt, g1, w2]))
    all_goals (first
      | (refine ⟨k - 1, by omega, i + 1, by omega, wrap_nat (by omega), (allOf_take hlt).2 ⟨ha, ?_⟩⟩; simp only [thrIn, threadIn]; omega)
      | (intro hh; have h5 := hh.2.1 _ (List.getElem_mem hlt); simp only [thrIn, threadIn] at h5; omega))
  · have ha' := (allOf_of (by omega)).1 ha
    simp -implicitDefEqProofs [e2, e3, e5, v0, v1, hlt]
    refine loop_by (fun k E T => ∃ i : Nat, i + k = t.tails.length ∧ E.get 2 = .lp 0 0 ∧ E.get 3 = .lp 1 0 ∧ E.get 6 = .a (.int .i64 i) ∧ E.var 0 = some ((encConfig c).map .a) ∧ E.var 1 = some ((encThread z t).map .a) ∧ allOf numIn (t.tails.take i)) ?_ t.tails.length ⟨0, by simp [allOf, e2, e3, v0, v1]⟩
    clear e2 e3 e5 v0 v1 E T hi hlt ha i k
    rintro k E T ⟨i, hi, e2, e3, e5, v0, v1, ha⟩
    by_cases hlt : i < t.tails.length
    · have g1 := List.getElem?_eq_getElem hlt
      simp -implicitDefEqProofs [e2, e3, e5, v0, v1, hlt, g1]
      repeat' (first
        | (with_reducible refine guard_by (fun hb => ?_) (fun hb => ?_) <;> rw [hb] <;> (try simp at hb) <;> simp -implicitDefEqProofs [hb, e2, e3, e5, v0, v1, hlt, g1])
        | (with_reducible refine cond_by (fun hb => ?_) (fun hb => ?_) <;> rw [hb] <;> (try simp at hb) <;> simp -implicitDefEqProofs [hb, e2, e3, e5, v0, v1, hlt, g1])
        | (refine CallT.bool2 rfl (c_upTo13 t.tails[i] 0 1048576) (fun hb => ?_) (fun hb => ?_) <;> simp -implicitDefEqProofs [hb, e2, e3, e5, v0, v1, hlt, g1]))
      all_goals (first
        | (refine ⟨k - 1, by omega, i + 1, by omega, wrap_nat (by omega), (allOf_take hlt).2 ⟨ha, ?_⟩⟩; simp only [numIn]; omega)
        | (intro hh; have h5 := hh.2.2 _ (List.getElem_mem hlt); simp only [numIn] at h5; omega))
    · have ha'' := (allOf_of (by omega)).1 ha
      simp -implicitDefEqProofs [e2, e3, e5, v0, v1, hlt]
      refine ⟨?_, ha', ha''⟩
      simp only [atNums]
      refine ⟨by omega, by omega, by assumption, by omega, by omega, by omega, by omega, by omega, by omega, by omega, by omega⟩

theorem c_replicaMay13 (m : Machine) (x : Replica) (z z1 : Bool) (h : okP' x) (hrs : (m.rings.length : Int) = m.config.logs) : PCall tab 77 [.agg (encMachine z1 m), .agg (encReplica z x)] (.bool (decide (replicaIn m.config m.rings x))) := by
  obtain ⟨h1, h2, h3⟩ := h
  have h2' := h2
  unfold lenOK at h2'
  refine PCall.of (F := m77) rfl rfl rfl rfl ?_
  simp -implicitDefEqProofs [m77]
  repeat' (first
    | (with_reducible refine guard_by (fun hb => ?_) (fun hb => ?_) <;> rw [hb] <;> (try simp at hb) <;> simp -implicitDefEqProofs [hb])
    | (with_reducible refine cond_by (fun hb => ?_) (fun hb => ?_) <;> rw [hb] <;> (try simp at hb) <;> simp -implicitDefEqProofs [hb])
    | ((refine CallT.bool2 ?_ (c_StateMay m.config.object x.state false h1) (fun hb => ?_) (fun hb => ?_); focus (simp; done)) <;> simp -implicitDefEqProofs [hb]))
  all_goals (try (first | exact fun hh => hb hh.1 | (intro hh; have h5 := hh.2.1; have h6 := hh.2.2.1; omega)))
  refine loop_by (fun k E T => ∃ i : Nat, i + k = x.cursors.length ∧ E.get 2 = .lp 0 0 ∧ E.get 3 = .lp 1 0 ∧ E.get 5 = .a (.int .i64 i) ∧ E.var 0 = some ((encMachine z1 m).map .a) ∧ E.var 1 = some ((encReplica z x).map .a) ∧ cursorsTo m.rings x.cursors i ∧ allOf (lockIn m.config) (x.locks.take i)) ?_ x.cursors.length ⟨0, by simp [allOf, cursorsTo_zero]⟩
  rintro k E T ⟨i, hi, e2, e3, e5, v0, v1, hc, ha⟩
  by_cases hlt : i < x.cursors.length
  · have g1 := List.getElem?_eq_getElem hlt
    have hlt2 : i < m.rings.length := by omega
    have g2 := List.getElem?_eq_getElem hlt2
    have hlt3 : i < x.locks.length := by omega
    have g3 := List.getElem?_eq_getElem hlt3
    have hli : (i : Int) < m.config.logs := by omega
    simp -implicitDefEqProofs [e2, e3, e5, v0, v1, hlt, g1, hlt2, g2, hlt3, g3, hli]
    repeat' (first
      | (with_reducible refine guard_by (fun hb => ?_) (fun hb => ?_) <;> rw [hb] <;> (try simp at hb) <;> simp -implicitDefEqProofs [hb, e2, e3, e5, v0, v1, hlt, g1, hlt2, g2, hlt3, g3, hli])
      | (with_reducible refine cond_by (fun hb => ?_) (fun hb => ?_) <;> rw [hb] <;> (try simp at hb) <;> simp -implicitDefEqProofs [hb, e2, e3, e5, v0, v1, hlt, g1, hlt2, g2, hlt3, g3, hli])
      | (refine CallT.bool2 rfl (c_upTo13 x.cursors[i] m.rings[i].head m.rings[i].tail) (fun hb => ?_) (fun hb => ?_) <;> simp -implicitDefEqProofs [hb, e2, e3, e5, v0, v1, hlt, g1, hlt2, g2, hlt3, g3, hli])
      | (refine CallT.bool2 rfl (c_upTo13 x.locks[i] 0 m.config.threads) (fun hb => ?_) (fun hb => ?_) <;> simp -implicitDefEqProofs [hb, e2, e3, e5, v0, v1, hlt, g1, hlt2, g2, hlt3, g3, hli]))
    all_goals (first
      | (refine ⟨k - 1, by omega, i + 1, by omega, wrap_nat (by omega), cursorsTo_step hlt hc ?_, (allOf_take hlt3).2 ⟨ha, by assumption⟩⟩; rw [g2]; simp only [cursorIn, decide_eq_true_eq]; omega)
      | (intro hh; have h5 := hh.2.2.2.2 i hlt; rw [g2] at h5; simp only [cursorIn, decide_eq_true_eq] at h5; omega)
      | (intro hh; have h5 := hh.2.2.2.1 _ (List.getElem_mem hlt3); simp only [lockIn] at h5; omega))
  · have hli : ¬ (i : Int) < m.config.logs := by omega
    simp -implicitDefEqProofs [e2, e3, e5, v0, v1, hlt, hli]
    exact ⟨by assumption, by omega, by omega, (allOf_of (by omega)).1 ha, cursorsTo_all (by omega) hc⟩

@[reducible] def macNums (m : Machine) : Prop := (m.rings.length : Int) = m.config.logs ∧ (m.replicas.length : Int) = m.config.replicas ∧ (m.threads.length : Int) = m.config.threads ∧ m.history.length ≤ 64
def machineMay (m : Machine) : Prop := cfgMay m.config ∧ macNums m ∧ allOf (ringIn m.config) m.rings ∧ allOf (replicaIn m.config m.rings) m.replicas ∧ allOf (atIn m.config) m.threads ∧ allOf (evIn m.config) m.history
instance (c : Config) : DecidablePred (ringIn c) := fun r => inferInstanceAs (Decidable (ringOK r ∧ (r.slots.length : Int) = c.slots ∧ r.fence ≤ c.threads ∧ allOf (slotIn c) r.slots))
instance : DecidablePred machineMay := fun m => inferInstanceAs (Decidable (_ ∧ _ ∧ _ ∧ _ ∧ _ ∧ _))

theorem c_May1 (m : Machine) (x : Replica) (z : Bool) (h : okP' x) (hrs : (m.rings.length : Int) = m.config.logs) : PCall tab 44 [.agg (encReplica z x), .vp [encConfig m.config] 0 0, .vp [encMachine false m] 0 0] (.bool (decide (replicaIn m.config m.rings x))) := by
  refine PCall.of (F := m44) rfl rfl rfl rfl ?_
  simp -implicitDefEqProofs [m44]
  refine CallT.bool2 (by simp) (c_lreplica m.config x m.rings false false false h hrs) (fun hb => ?_) (fun hb => ?_) <;> simp -implicitDefEqProofs [hb]

theorem c_startMay (m : Machine) (h : okM m) : PCall tab 15 [.agg (encMachine false m)] (.bool (decide (machineMay m))) := by
  obtain ⟨⟨l1, o1⟩, ⟨l2, o2⟩, ⟨l3, o3⟩, l4⟩ := h
  have hr : PCall tab 42 [.vs (m.rings.map (encRing false)) false, .fn (.func 43) [.agg (encConfig m.config)] []] (.bool (decide (allOf (ringIn m.config) m.rings))) := by
    rw [← all_is]; exact c_allRing m.rings false l1 _ _ [.agg (encConfig m.config)] [] (fun s hs => c_lring m.config s false (o1 s hs)) (fun s => by simp) (fun d => by simp) (by simp)
  have hp : (m.rings.length : Int) = m.config.logs → PCall tab 46 [.vs (m.replicas.map (encReplica false)) false, .fn (.func 44) [] [.vp [encConfig m.config] 0 0, .vp [encMachine false m] 0 0]] (.bool (decide (allOf (replicaIn m.config m.rings) m.replicas))) := fun hrs => by
    rw [← all_is]; exact c_allReplica m.replicas false l2 _ _ [] [.vp [encConfig m.config] 0 0, .vp [encMachine false m] 0 0] (fun s hs => c_May1 m s false (o2 s hs) hrs) (fun s => by simp) (fun d => by simp) (by simp)
  have ht : PCall tab 47 [.vs (m.threads.map (encThread false)) false, .fn (.func 48) [.agg (encConfig m.config)] []] (.bool (decide (allOf (atIn m.config) m.threads))) := by
    rw [← all_is]; exact c_allThread m.threads false l3 _ _ [.agg (encConfig m.config)] [] (fun s hs => c_lat m.config s false (o3 s hs)) (fun s => by simp) (fun d => by simp) (by simp)
  have he : PCall tab 49 [.vs (m.history.map encEvent) false, .fn (.func 50) [.agg (encConfig m.config)] []] (.bool (decide (allOf (evIn m.config) m.history))) := by
    rw [← all_is]; exact c_allEvent m.history false l4 _ _ [.agg (encConfig m.config)] [] (fun s hs => c_levent m.config s) (fun s => by simp) (fun d => by simp) (by simp)
  refine PCall.of (F := m15) rfl rfl rfl rfl ?_
  simp -implicitDefEqProofs [m15]
  repeat' (first
    | (with_reducible refine guard_by (fun hb => ?_) (fun hb => ?_) <;> rw [hb] <;> (try simp at hb) <;> simp -implicitDefEqProofs [hb])
    | (with_reducible refine cond_by (fun hb => ?_) (fun hb => ?_) <;> rw [hb] <;> (try simp at hb) <;> simp -implicitDefEqProofs [hb])
    | (refine CallT.bool2 rfl (c_cfgMay m.config) (fun hb => ?_) (fun hb => ?_) <;> simp -implicitDefEqProofs [hb])
    | ((refine CallT.bool2 ?_ (hr) (fun hb => ?_) (fun hb => ?_); focus (simp; done)) <;> simp -implicitDefEqProofs [hb])
    | ((refine CallT.bool2 ?_ (hp (by assumption)) (fun hb => ?_) (fun hb => ?_); focus (simp; done)) <;> simp -implicitDefEqProofs [hb])
    | ((refine CallT.bool2 ?_ (ht) (fun hb => ?_) (fun hb => ?_); focus (simp; done)) <;> simp -implicitDefEqProofs [hb])
    | ((refine CallT.bool2 ?_ (he) (fun hb => ?_) (fun hb => ?_); focus (simp; done)) <;> simp -implicitDefEqProofs [hb]))
  all_goals (first
    | exact fun hh => hb hh.1
    | exact fun hh => hb hh.2.2.1
    | exact fun hh => hb hh.2.2.2.1
    | exact fun hh => hb hh.2.2.2.2.1
    | exact fun hh => hb hh.2.2.2.2.2
    | (intro hh; have h5 := hh.2.1; simp only [macNums] at h5; omega)
    | exact ⟨by assumption, ⟨by omega, by omega, by omega, by omega⟩, by assumption, by assumption, by assumption, by assumption⟩)

theorem c_May13 (m : Machine) (h : okM m) (hin : ∀ r ∈ m.rings, inR r.head) : PCall tab 32 [.agg (encMachine false m)] (.bool (decide (machineMay m))) := by
  obtain ⟨⟨l1, o1⟩, ⟨l2, o2⟩, ⟨l3, o3⟩, l4⟩ := h
  unfold lenOK at l1 l2 l3 l4
  refine PCall.of (F := m32) rfl rfl rfl rfl ?_
  simp -implicitDefEqProofs [m32]
  repeat' (first
    | (with_reducible refine guard_by (fun hb => ?_) (fun hb => ?_) <;> rw [hb] <;> (try simp at hb) <;> simp -implicitDefEqProofs [hb])
    | (with_reducible refine cond_by (fun hb => ?_) (fun hb => ?_) <;> rw [hb] <;> (try simp at hb) <;> simp -implicitDefEqProofs [hb])
    | (refine CallT.bool2 rfl (c_ConfigMay m.config) (fun hb => ?_) (fun hb => ?_) <;> simp -implicitDefEqProofs [hb]))
  all_goals (try (first | exact fun hh => hb hh.1 | (intro hh; have h5 := hh.2.1; simp only [macNums] at h5; omega)))
  have hcfg : cfgMay m.config := by assumption
  have w2 : IntKind.wrap .i64 (m.config.threads - 1) = m.config.threads - 1 := by have := hcfg.2.2.2.1; exact wrap_of (by omega) (by omega)
  have hnum : macNums m := ⟨by omega, by omega, by omega, by omega⟩
  refine loop_by (fun k E T => ∃ i : Nat, i + k = m.rings.length ∧ E.get 1 = .lp 0 0 ∧ E.get 3 = .lp 1 0 ∧ E.get 4 = .a (.int .i64 i) ∧ E.var 0 = some ((encMachine false m).map .a) ∧ E.var 1 = some ((encConfig m.config).map .a) ∧ allOf (ringIn m.config) (m.rings.take i)) ?_ m.rings.length ⟨0, by simp [allOf]⟩
  rintro k E T ⟨i, hi, e1, e3, e5, v0, v1, ha⟩
  by_cases hlt : i < m.rings.length
  · have g1 := List.getElem?_eq_getElem hlt
    have hli : (i : Int) < m.config.logs := by omega
    simp -implicitDefEqProofs [e1, e3, e5, v0, v1, hlt, g1, hli, w2]
    repeat' (first
      | (with_reducible refine guard_by (fun hb => ?_) (fun hb => ?_) <;> rw [hb] <;> (try simp at hb) <;> simp -implicitDefEqProofs [hb, e1, e3, e5, v0, v1, hlt, g1, hli, w2])
      | (with_reducible refine cond_by (fun hb => ?_) (fun hb => ?_) <;> rw [hb] <;> (try simp at hb) <;> simp -implicitDefEqProofs [hb, e1, e3, e5, v0, v1, hlt, g1, hli, w2])
      | ((refine CallT.bool2 ?_ (c_ringMay13 m.config m.rings[i] false false (o1 _ (List.getElem_mem hlt)) (hin _ (List.getElem_mem hlt))) (fun hb => ?_) (fun hb => ?_); focus (simp [e1, e3, e5, v0, v1, hlt, g1, hli, w2]; done)) <;> simp -implicitDefEqProofs [hb, e1, e3, e5, v0, v1, hlt, g1, hli, w2]))
    all_goals (first
      | exact ⟨k - 1, by omega, i + 1, by omega, wrap_nat (by omega), (allOf_take hlt).2 ⟨ha, by assumption⟩⟩
      | exact fun hh => hb (hh.2.2.1 _ (List.getElem_mem hlt)))
  · have hli : ¬ (i : Int) < m.config.logs := by omega
    have a_rings := (allOf_of (by omega)).1 ha
    simp -implicitDefEqProofs [e1, e3, e5, v0, v1, hlt, hli]
    refine loop_by (fun k E T => ∃ i : Nat, i + k = m.replicas.length ∧ E.get 1 = .lp 0 0 ∧ E.get 3 = .lp 1 0 ∧ E.get 5 = .a (.int .i64 i) ∧ E.var 0 = some ((encMachine false m).map .a) ∧ E.var 1 = some ((encConfig m.config).map .a) ∧ allOf (replicaIn m.config m.rings) (m.replicas.take i)) ?_ m.replicas.length ⟨0, by simp [allOf, e1, e3, v0, v1]⟩
    clear e1 e3 e5 v0 v1 E T hi hlt hli ha i k
    rintro k E T ⟨i, hi, e1, e3, e5, v0, v1, ha⟩
    by_cases hlt : i < m.replicas.length
    · have g1 := List.getElem?_eq_getElem hlt
      have hli : (i : Int) < m.config.replicas := by omega
      simp -implicitDefEqProofs [e1, e3, e5, v0, v1, hlt, g1, hli, w2]
      repeat' (first
        | (with_reducible refine guard_by (fun hb => ?_) (fun hb => ?_) <;> rw [hb] <;> (try simp at hb) <;> simp -implicitDefEqProofs [hb, e1, e3, e5, v0, v1, hlt, g1, hli, w2])
        | (with_reducible refine cond_by (fun hb => ?_) (fun hb => ?_) <;> rw [hb] <;> (try simp at hb) <;> simp -implicitDefEqProofs [hb, e1, e3, e5, v0, v1, hlt, g1, hli, w2])
        | ((refine CallT.bool2 ?_ (c_replicaMay13 m m.replicas[i] false false (o2 _ (List.getElem_mem hlt)) hnum.1) (fun hb => ?_) (fun hb => ?_); focus (simp [e1, e3, e5, v0, v1, hlt, g1, hli, w2]; done)) <;> simp -implicitDefEqProofs [hb, e1, e3, e5, v0, v1, hlt, g1, hli, w2]))
      all_goals (first
        | exact ⟨k - 1, by omega, i + 1, by omega, wrap_nat (by omega), (allOf_take hlt).2 ⟨ha, by assumption⟩⟩
        | exact fun hh => hb (hh.2.2.2.1 _ (List.getElem_mem hlt)))
    · have hli : ¬ (i : Int) < m.config.replicas := by omega
      have a_replicas := (allOf_of (by omega)).1 ha
      simp -implicitDefEqProofs [e1, e3, e5, v0, v1, hlt, hli]
      refine loop_by (fun k E T => ∃ i : Nat, i + k = m.threads.length ∧ E.get 1 = .lp 0 0 ∧ E.get 3 = .lp 1 0 ∧ E.get 6 = .a (.int .i64 i) ∧ E.var 0 = some ((encMachine false m).map .a) ∧ E.var 1 = some ((encConfig m.config).map .a) ∧ allOf (atIn m.config) (m.threads.take i)) ?_ m.threads.length ⟨0, by simp [allOf, e1, e3, v0, v1]⟩
      clear e1 e3 e5 v0 v1 E T hi hlt hli ha i k
      rintro k E T ⟨i, hi, e1, e3, e5, v0, v1, ha⟩
      by_cases hlt : i < m.threads.length
      · have g1 := List.getElem?_eq_getElem hlt
        have hli : (i : Int) < m.config.threads := by omega
        simp -implicitDefEqProofs [e1, e3, e5, v0, v1, hlt, g1, hli, w2]
        repeat' (first
          | (with_reducible refine guard_by (fun hb => ?_) (fun hb => ?_) <;> rw [hb] <;> (try simp at hb) <;> simp -implicitDefEqProofs [hb, e1, e3, e5, v0, v1, hlt, g1, hli, w2])
          | (with_reducible refine cond_by (fun hb => ?_) (fun hb => ?_) <;> rw [hb] <;> (try simp at hb) <;> simp -implicitDefEqProofs [hb, e1, e3, e5, v0, v1, hlt, g1, hli, w2])
          | ((refine CallT.bool2 ?_ (c_threadMay13 m.config m.threads[i] false (o3 _ (List.getElem_mem hlt)) hcfg) (fun hb => ?_) (fun hb => ?_); focus (simp [e1, e3, e5, v0, v1, hlt, g1, hli, w2]; done)) <;> simp -implicitDefEqProofs [hb, e1, e3, e5, v0, v1, hlt, g1, hli, w2]))
        all_goals (first
          | exact ⟨k - 1, by omega, i + 1, by omega, wrap_nat (by omega), (allOf_take hlt).2 ⟨ha, by assumption⟩⟩
          | exact fun hh => hb (hh.2.2.2.2.1 _ (List.getElem_mem hlt)))
      · have hli : ¬ (i : Int) < m.config.threads := by omega
        have a_threads := (allOf_of (by omega)).1 ha
        simp -implicitDefEqProofs [e1, e3, e5, v0, v1, hlt, hli]
        refine loop_by (fun k E T => ∃ i : Nat, i + k = m.history.length ∧ E.get 1 = .lp 0 0 ∧ E.get 3 = .lp 1 0 ∧ E.get 7 = .a (.int .i64 i) ∧ E.var 0 = some ((encMachine false m).map .a) ∧ E.var 1 = some ((encConfig m.config).map .a) ∧ allOf (evIn m.config) (m.history.take i)) ?_ m.history.length ⟨0, by simp [allOf, e1, e3, v0, v1]⟩
        clear e1 e3 e5 v0 v1 E T hi hlt hli ha i k
        rintro k E T ⟨i, hi, e1, e3, e5, v0, v1, ha⟩
        by_cases hlt : i < m.history.length
        · have g1 := List.getElem?_eq_getElem hlt
          have hli : (i : Int) < m.history.length := by omega
          simp -implicitDefEqProofs [e1, e3, e5, v0, v1, hlt, g1, hli, w2]
          repeat' (first
            | (with_reducible refine guard_by (fun hb => ?_) (fun hb => ?_) <;> rw [hb] <;> (try simp at hb) <;> simp -implicitDefEqProofs [hb, e1, e3, e5, v0, v1, hlt, g1, hli, w2])
            | (with_reducible refine cond_by (fun hb => ?_) (fun hb => ?_) <;> rw [hb] <;> (try simp at hb) <;> simp -implicitDefEqProofs [hb, e1, e3, e5, v0, v1, hlt, g1, hli, w2])
            | (refine CallT.bool2 rfl (c_upTo13 m.history[i].thread 0 (m.config.threads - 1)) (fun hb => ?_) (fun hb => ?_) <;> simp -implicitDefEqProofs [hb, e1, e3, e5, v0, v1, hlt, g1, hli, w2])
            | (refine CallT.bool2 rfl (c_OperMay m.history[i].op) (fun hb => ?_) (fun hb => ?_) <;> simp -implicitDefEqProofs [hb, e1, e3, e5, v0, v1, hlt, g1, hli, w2]))
          all_goals (first
            | exact ⟨k - 1, by omega, i + 1, by omega, wrap_nat (by omega), (allOf_take hlt).2 ⟨ha, by assumption⟩⟩
            | exact ⟨k - 1, by omega, i + 1, by omega, wrap_nat (by omega), (allOf_take hlt).2 ⟨ha, by (refine ⟨?_, by assumption⟩; simp only [threadIn]; omega)⟩⟩
            | (intro hh; have h5 := hh.2.2.2.2.2 _ (List.getElem_mem hlt); have h6 := h5.1; simp only [threadIn] at h6; omega)
            | (intro hh; exact hb (hh.2.2.2.2.2 _ (List.getElem_mem hlt)).2))
        · have hli : ¬ (i : Int) < m.history.length := by omega
          have a_history := (allOf_of (by omega)).1 ha
          simp -implicitDefEqProofs [e1, e3, e5, v0, v1, hlt, hli]
          exact ⟨hcfg, hnum, a_rings, a_replicas, a_threads, a_history⟩

end Go.Ab

namespace Go.Ab

theorem PCall.ofB {M : FuncId → Option MFunc} {k : FuncId} {F : MFunc} {ts : List AV} {tr : AV} (hM : M k = some F.b) (hne : ∀ z, ts ≠ [.vs [] z]) (hn : ts.length = F.nargs) (hfree : ts.all AV.free = true) (hok : okT tr = true)
    (h : wpc M F.body (startT (ts.map .a)) TH.none (FinT F.res fun v T1 => outT T1 v = some tr)) : PCall M k ts tr := PCall.body (F := F.b) hM rfl (.inr hne) hn hfree hok h

theorem c_Cloneint (xs : List Int) (z : Bool) (h : lenOK xs) : PCall tab 153 [.vs (xs.map encInt) z] (.vs (xs.map encInt) true) := by
  unfold lenOK at h
  cases xs with
  | nil => exact PCall.both (n := 1) (F := m153.b) rfl rfl rfl rfl rfl (.inl rfl) ⟨_, _, _, rfl⟩
  | cons x xs =>
    refine PCall.ofB (F := m153) rfl (by simp) rfl rfl (by simp [okT, okP, okC, List.all_map, flatV]) ?_
    simp only [List.length_cons] at h
    have hr : (xs.length + 1) * 8 ≤ 140737488355328 := by omega
    simp -implicitDefEqProofs [m153, hr]

theorem c_CloneSlot (xs : List Slot) (z : Bool) (h : lenOK xs) : PCall tab 150 [.vs (xs.map encSlot) z] (.vs (xs.map encSlot) true) := by
  unfold lenOK at h
  cases xs with
  | nil => exact PCall.both (n := 1) (F := m150.b) rfl rfl rfl rfl rfl (.inl rfl) ⟨_, _, _, rfl⟩
  | cons x xs =>
    refine PCall.ofB (F := m150) rfl (by simp) rfl rfl (by simp [okT, okP, okC, List.all_map, flatV]) ?_
    simp only [List.length_cons] at h
    have hr : (xs.length + 1) * 40 ≤ 140737488355328 := by omega
    simp -implicitDefEqProofs [m150, hr]

theorem c_CloneEvent (xs : List Event) (z : Bool) (h : lenOK xs) : PCall tab 121 [.vs (xs.map encEvent) z] (.vs (xs.map encEvent) true) := by
  unfold lenOK at h
  cases xs with
  | nil => exact PCall.both (n := 1) (F := m121.b) rfl rfl rfl rfl rfl (.inl rfl) ⟨_, _, _, rfl⟩
  | cons x xs =>
    refine PCall.ofB (F := m121) rfl (by simp) rfl rfl (by simp [okT, okP, okC, List.all_map, flatV]) ?_
    simp only [List.length_cons] at h
    have hr : (xs.length + 1) * 48 ≤ 140737488355328 := by omega
    simp -implicitDefEqProofs [m121, hr]

theorem okT_ints (xs : List Int) (z : Bool) : okT (.vs (xs.map encInt) z) = true := by simp [okT, okP, okC, List.all_map, flatV]
theorem okT_slots (xs : List Slot) (z : Bool) : okT (.vs (xs.map encSlot) z) = true := by simp [okT, okP, okC, List.all_map, flatV]
theorem okT_events (xs : List Event) (z : Bool) : okT (.vs (xs.map encEvent) z) = true := by simp [okT, okP, okC, List.all_map, flatV]
theorem ok_state (r : State) : okT (.agg (encState true r)) = true := by simp [okT, okP, okC, List.all_map, flatV]

theorem c_ringCopy (r : Ring) (z : Bool) (h : okR r) : PCall tab 116 [.agg (encRing z r)] (.agg (encRing true r)) := by
  refine PCall.of (F := m116) rfl rfl rfl (ok_ring r) ?_
  simp -implicitDefEqProofs [m116]
  refine CallT.pure (c_CloneSlot r.slots false h) (by simp) (okT_slots _ _) ?_
  simp -implicitDefEqProofs

theorem c_storeCopy (s : State) (z : Bool) (h : okS s) : PCall tab 152 [.agg (encState z s)] (.agg (encState true s)) := by
  obtain ⟨h0, h1, h2, h3⟩ := h
  refine PCall.of (F := m152) rfl rfl rfl (ok_state s) ?_
  simp -implicitDefEqProofs [m152]
  refine WCT.unroll ?_
  simp -implicitDefEqProofs
  refine CallT.pure (c_Cloneint s.r0 false h0) (by simp) (okT_ints _ _) ?_
  simp -implicitDefEqProofs
  refine WCT.unroll ?_
  simp -implicitDefEqProofs
  refine CallT.pure (c_Cloneint s.r1 false h1) (by simp) (okT_ints _ _) ?_
  simp -implicitDefEqProofs
  refine WCT.unroll ?_
  simp -implicitDefEqProofs
  refine CallT.pure (c_Cloneint s.r2 false h2) (by simp) (okT_ints _ _) ?_
  simp -implicitDefEqProofs
  refine WCT.unroll ?_
  simp -implicitDefEqProofs
  refine CallT.pure (c_Cloneint s.r3 false h3) (by simp) (okT_ints _ _) ?_
  simp -implicitDefEqProofs
  refine WCT.unroll ?_
  simp -implicitDefEqProofs

theorem c_replica (r : Replica) (z : Bool) (h : okP' r) : PCall tab 118 [.agg (encReplica z r)] (.agg (encReplica true r)) := by
  obtain ⟨h0, h1, h2⟩ := h
  refine PCall.of (F := m118) rfl rfl rfl (ok_replica r) ?_
  simp -implicitDefEqProofs [m118]
  refine CallT.pure (c_storeCopy r.state false h0) (by simp) (ok_state _) ?_
  simp -implicitDefEqProofs
  refine CallT.pure (c_Cloneint r.cursors false h1) (by simp) (okT_ints _ _) ?_
  simp -implicitDefEqProofs
  refine CallT.pure (c_Cloneint r.locks false h2) (by simp) (okT_ints _ _) ?_
  simp -implicitDefEqProofs

theorem c_thread (r : Thread) (z : Bool) (h : okTh r) : PCall tab 120 [.agg (encThread z r)] (.agg (encThread true r)) := by
  obtain ⟨h1, h2⟩ := h
  refine PCall.of (F := m120) rfl rfl rfl (ok_thread r) ?_
  simp -implicitDefEqProofs [m120]
  refine CallT.pure (c_Cloneint r.batch false h1) (by simp) (okT_ints _ _) ?_
  simp -implicitDefEqProofs
  refine CallT.pure (c_Cloneint r.tails false h2) (by simp) (okT_ints _ _) ?_
  simp -implicitDefEqProofs

end Go.Ab

namespace Go.Ab

def mix {α : Type} (f g : α → List AV) (xs : List α) (i : Nat) : List (List AV) := (xs.take i).map f ++ (xs.drop i).map g
theorem mix_len {α : Type} (f g : α → List AV) (xs : List α) (i : Nat) : (mix f g xs i).length = xs.length := by
  simp only [mix, List.length_append, List.length_map, List.length_take, List.length_drop]; omega
theorem mix_zero {α : Type} (f g : α → List AV) (xs : List α) : mix f g xs 0 = xs.map g := by simp [mix]
theorem mix_all {α : Type} (f g : α → List AV) (xs : List α) {i : Nat} (h : xs.length ≤ i) : mix f g xs i = xs.map f := by
  simp [mix, List.take_of_length_le h, List.drop_of_length_le h]
theorem mix_get {α : Type} (f g : α → List AV) (xs : List α) {i : Nat} (h : i < xs.length) : (mix f g xs i)[i]? = some (g xs[i]) := by
  unfold mix
  rw [List.getElem?_append_right (by simp; omega)]
  simp only [List.length_map, List.length_take]
  rw [show i - min i xs.length = 0 by omega, List.drop_eq_getElem_cons h]
  rfl
theorem mix_set {α : Type} (f g : α → List AV) (xs : List α) {i : Nat} (h : i < xs.length) : (mix f g xs i).set i (f xs[i]) = mix f g xs (i + 1) := by
  unfold mix
  rw [List.set_append_right _ _ (by simp; omega)]
  simp only [List.length_map, List.length_take]
  rw [show i - min i xs.length = 0 by omega, List.drop_eq_getElem_cons h, List.take_add_one, List.getElem?_eq_getElem h]
  simp only [List.map_cons, List.set_cons_zero, List.map_append, Option.toList_some, List.map_nil, List.append_assoc, List.cons_append, List.nil_append]
theorem mix_row {α : Type} (f g : α → List AV) (xs : List α) (i sz : Nat) (hf : ∀ x, (f x).length = sz) (hg : ∀ x, (g x).length = sz) (h : 0 < xs.length) : ∃ row, (mix f g xs i)[0]? = some row ∧ row.length = sz := by
  have hl := mix_len f g xs i
  refine ⟨(mix f g xs i)[0]'(by omega), List.getElem?_eq_getElem _, ?_⟩
  have hm : (mix f g xs i)[0]'(by omega) ∈ mix f g xs i := List.getElem_mem _
  unfold mix at hm
  rcases List.mem_append.1 hm with hm | hm <;> (obtain ⟨x, _, e⟩ := List.mem_map.1 hm; unfold mix; rw [← e]; first | exact hf x | exact hg x)

def markRow {α : Type} (f : Bool → α → List AV) (z : Bool) : α → List AV := (fun row : List AV => row.map markCell) ∘ f z

theorem c_CloneRing (T : TH) (rs : List Ring) (z z2 : Bool) (hne : rs ≠ []) (hl : lenOK rs) (K : TV → TH → Prop) (hK : K (.sl T.next [] 0 0 rs.length true) (T.new (.tree (rs.map (markRow encRing z)) true []))) : CallT tab false 149 [.a (.vs (rs.map (encRing z)) z2)] T K := by
  unfold lenOK at hl
  cases rs with
  | nil => exact absurd rfl hne
  | cons x xs =>
    refine CallT.body (F := m149) rfl rfl rfl rfl ?_
    simp only [List.length_cons] at hl
    have hr : (xs.length + 1) * 48 ≤ 140737488355328 := by omega
    simp -implicitDefEqProofs [m149, hr]
    unfold markRow at hK
    simpa using hK

theorem c_copiedRing (rs : List Ring) (z : Bool) (hne : rs ≠ []) (hl : lenOK rs) (ho : ∀ r ∈ rs, okR r) : PCall tab 115 [.vs (rs.map (encRing false)) z, .fn (.func 116) [] []] (.vs (rs.map (encRing true)) true) := by
  have hl' := hl
  unfold lenOK at hl
  have hpos : 0 < rs.length := List.length_pos_iff.2 hne
  refine PCall.of (F := m115) rfl rfl rfl (by have := ok_rings rs; simp only [okT, okP]; exact this) ?_
  simp -implicitDefEqProofs [m115]
  refine c_CloneRing _ rs false _ hne hl' _ ?_
  simp -implicitDefEqProofs
  refine loop_by (fun k E T => ∃ i : Nat, i + k = rs.length ∧ 0 < T.next ∧ T.get 0 = .tree (mix (encRing true) (markRow encRing false) rs i) true [] ∧ E.get 1 = .a (.fn (.func 116) [] []) ∧ E.get 5 = .sl 0 [] 0 0 rs.length true ∧ E.get 10 = .sl 0 [] 0 0 rs.length true ∧ E.get 11 = .a (.int .i64 rs.length) ∧ E.get 12 = .a (.int .i64 i)) ?_ rs.length ⟨0, by simp [mix_zero]⟩
  rintro k E T ⟨i, hi, hnx, hT, e1, e5, e10, e11, e12⟩
  by_cases hlt : i < rs.length
  · have hlen := mix_len (encRing true) (markRow encRing false) rs i
    obtain ⟨row0, g0, l0⟩ := mix_row (encRing true) (markRow encRing false) rs i 4 (fun _ => rfl) (fun _ => rfl) hpos
    have g1 : (mix (encRing true) (markRow encRing false) rs i)[i]? = some ((encRing false rs[i]).map markCell) := mix_get _ _ _ hlt
    have hs := mix_set (encRing true) (markRow encRing false) rs hlt
    generalize mix (encRing true) (markRow encRing false) rs i = R at *
    have hltR : i < R.length := by omega
    have hne0 : ¬ T.next = 0 := by omega
    have hne1 : ¬ 0 = T.next := by omega
    obtain ⟨_, gE⟩ := List.getElem?_eq_some_iff.1 g1
    obtain ⟨h0R, g0E⟩ := List.getElem?_eq_some_iff.1 g0
    have l0E : (R[0]'h0R).length = 4 := by rw [g0E]; exact l0
    simp -implicitDefEqProofs [hT, e1, e5, e10, e11, e12, hlt, hltR, gE, h0R, l0E, hne0, hne1]
    refine CallT.pure (c_ringCopy rs[i] false (ho _ (List.getElem_mem hlt))) (by simp) (ok_ring _) ?_
    simp -implicitDefEqProofs [hT, e1, e5, e10, e11, e12, hlt, hltR, gE, h0R, l0E, hne0, hne1]
    exact ⟨k - 1, by omega, i + 1, by omega, hs, wrap_nat (by omega)⟩
  · rw [mix_all _ _ _ (by omega)] at hT
    simp -implicitDefEqProofs [hT, e1, e5, e10, e11, e12, hlt]

theorem c_CloneReplica (T : TH) (rs : List Replica) (z z2 : Bool) (hne : rs ≠ []) (hl : lenOK rs) (K : TV → TH → Prop) (hK : K (.sl T.next [] 0 0 rs.length true) (T.new (.tree (rs.map (markRow encReplica z)) true []))) : CallT tab false 151 [.a (.vs (rs.map (encReplica z)) z2)] T K := by
  unfold lenOK at hl
  cases rs with
  | nil => exact absurd rfl hne
  | cons x xs =>
    refine CallT.body (F := m151) rfl rfl rfl rfl ?_
    simp only [List.length_cons] at hl
    have hr : (xs.length + 1) * 144 ≤ 140737488355328 := by omega
    simp -implicitDefEqProofs [m151, hr]
    unfold markRow at hK
    simpa using hK

theorem c_copiedReplica (rs : List Replica) (z : Bool) (hne : rs ≠ []) (hl : lenOK rs) (ho : ∀ r ∈ rs, okP' r) : PCall tab 117 [.vs (rs.map (encReplica false)) z, .fn (.func 118) [] []] (.vs (rs.map (encReplica true)) true) := by
  have hl' := hl
  unfold lenOK at hl
  have hpos : 0 < rs.length := List.length_pos_iff.2 hne
  refine PCall.of (F := m117) rfl rfl rfl (by have := ok_replicas rs; simp only [okT, okP]; exact this) ?_
  simp -implicitDefEqProofs [m117]
  refine c_CloneReplica _ rs false _ hne hl' _ ?_
  simp -implicitDefEqProofs
  refine loop_by (fun k E T => ∃ i : Nat, i + k = rs.length ∧ 0 < T.next ∧ T.get 0 = .tree (mix (encReplica true) (markRow encReplica false) rs i) true [] ∧ E.get 1 = .a (.fn (.func 118) [] []) ∧ E.get 5 = .sl 0 [] 0 0 rs.length true ∧ E.get 10 = .sl 0 [] 0 0 rs.length true ∧ E.get 11 = .a (.int .i64 rs.length) ∧ E.get 12 = .a (.int .i64 i)) ?_ rs.length ⟨0, by simp [mix_zero]⟩
  rintro k E T ⟨i, hi, hnx, hT, e1, e5, e10, e11, e12⟩
  by_cases hlt : i < rs.length
  · have hlen := mix_len (encReplica true) (markRow encReplica false) rs i
    obtain ⟨row0, g0, l0⟩ := mix_row (encReplica true) (markRow encReplica false) rs i 6 (fun _ => rfl) (fun _ => rfl) hpos
    have g1 : (mix (encReplica true) (markRow encReplica false) rs i)[i]? = some ((encReplica false rs[i]).map markCell) := mix_get _ _ _ hlt
    have hs := mix_set (encReplica true) (markRow encReplica false) rs hlt
    generalize mix (encReplica true) (markRow encReplica false) rs i = R at *
    have hltR : i < R.length := by omega
    have hne0 : ¬ T.next = 0 := by omega
    have hne1 : ¬ 0 = T.next := by omega
    have hn1 : ¬ 0 = T.next + 1 := by omega
    have hm1 : ¬ T.next + 1 = 0 := by omega
    have hn2 : ¬ 0 = T.next + 1 + 1 := by omega
    have hm2 : ¬ T.next + 1 + 1 = 0 := by omega
    have hn3 : ¬ 0 = T.next + 1 + 1 + 1 := by omega
    have hm3 : ¬ T.next + 1 + 1 + 1 = 0 := by omega
    have hn4 : ¬ 0 = T.next + 1 + 1 + 1 + 1 := by omega
    have hm4 : ¬ T.next + 1 + 1 + 1 + 1 = 0 := by omega
    have hn5 : ¬ 0 = T.next + 1 + 1 + 1 + 1 + 1 := by omega
    have hm5 : ¬ T.next + 1 + 1 + 1 + 1 + 1 = 0 := by omega
    obtain ⟨_, gE⟩ := List.getElem?_eq_some_iff.1 g1
    obtain ⟨h0R, g0E⟩ := List.getElem?_eq_some_iff.1 g0
    have l0E : (R[0]'h0R).length = 6 := by rw [g0E]; exact l0
    simp -implicitDefEqProofs [hT, e1, e5, e10, e11, e12, hlt, hltR, gE, h0R, l0E, hne0, hne1, hn1, hm1, hn2, hm2, hn3, hm3, hn4, hm4, hn5, hm5]
    refine CallT.pure (c_replica rs[i] false (ho _ (List.getElem_mem hlt))) (by simp) (ok_replica _) ?_
    simp -implicitDefEqProofs [hT, e1, e5, e10, e11, e12, hlt, hltR, gE, h0R, l0E, hne0, hne1, hn1, hm1, hn2, hm2, hn3, hm3, hn4, hm4, hn5, hm5]
    exact ⟨k - 1, by omega, i + 1, by omega, hs, wrap_nat (by omega)⟩
  · rw [mix_all _ _ _ (by omega)] at hT
    simp -implicitDefEqProofs [hT, e1, e5, e10, e11, e12, hlt]

theorem c_CloneThread (T : TH) (rs : List Thread) (z z2 : Bool) (hne : rs ≠ []) (hl : lenOK rs) (K : TV → TH → Prop) (hK : K (.sl T.next [] 0 0 rs.length true) (T.new (.tree (rs.map (markRow encThread z)) true []))) : CallT tab false 154 [.a (.vs (rs.map (encThread z)) z2)] T K := by
  unfold lenOK at hl
  cases rs with
  | nil => exact absurd rfl hne
  | cons x xs =>
    refine CallT.body (F := m154) rfl rfl rfl rfl ?_
    simp only [List.length_cons] at hl
    have hr : (xs.length + 1) * 120 ≤ 140737488355328 := by omega
    simp -implicitDefEqProofs [m154, hr]
    unfold markRow at hK
    simpa using hK

theorem c_copiedThread (rs : List Thread) (z : Bool) (hne : rs ≠ []) (hl : lenOK rs) (ho : ∀ r ∈ rs, okTh r) : PCall tab 119 [.vs (rs.map (encThread false)) z, .fn (.func 120) [] []] (.vs (rs.map (encThread true)) true) := by
  have hl' := hl
  unfold lenOK at hl
  have hpos : 0 < rs.length := List.length_pos_iff.2 hne
  refine PCall.of (F := m119) rfl rfl rfl (by have := ok_threads rs; simp only [okT, okP]; exact this) ?_
  simp -implicitDefEqProofs [m119]
  refine c_CloneThread _ rs false _ hne hl' _ ?_
  simp -implicitDefEqProofs
  refine loop_by (fun k E T => ∃ i : Nat, i + k = rs.length ∧ 0 < T.next ∧ T.get 0 = .tree (mix (encThread true) (markRow encThread false) rs i) true [] ∧ E.get 1 = .a (.fn (.func 120) [] []) ∧ E.get 5 = .sl 0 [] 0 0 rs.length true ∧ E.get 10 = .sl 0 [] 0 0 rs.length true ∧ E.get 11 = .a (.int .i64 rs.length) ∧ E.get 12 = .a (.int .i64 i)) ?_ rs.length ⟨0, by simp [mix_zero]⟩
  rintro k E T ⟨i, hi, hnx, hT, e1, e5, e10, e11, e12⟩
  by_cases hlt : i < rs.length
  · have hlen := mix_len (encThread true) (markRow encThread false) rs i
    obtain ⟨row0, g0, l0⟩ := mix_row (encThread true) (markRow encThread false) rs i 12 (fun _ => rfl) (fun _ => rfl) hpos
    have g1 : (mix (encThread true) (markRow encThread false) rs i)[i]? = some ((encThread false rs[i]).map markCell) := mix_get _ _ _ hlt
    have hs := mix_set (encThread true) (markRow encThread false) rs hlt
    generalize mix (encThread true) (markRow encThread false) rs i = R at *
    have hltR : i < R.length := by omega
    have hne0 : ¬ T.next = 0 := by omega
    have hne1 : ¬ 0 = T.next := by omega
    have hn1 : ¬ 0 = T.next + 1 := by omega
    have hm1 : ¬ T.next + 1 = 0 := by omega
    obtain ⟨_, gE⟩ := List.getElem?_eq_some_iff.1 g1
    obtain ⟨h0R, g0E⟩ := List.getElem?_eq_some_iff.1 g0
    have l0E : (R[0]'h0R).length = 12 := by rw [g0E]; exact l0
    simp -implicitDefEqProofs [hT, e1, e5, e10, e11, e12, hlt, hltR, gE, h0R, l0E, hne0, hne1, hn1, hm1]
    refine CallT.pure (c_thread rs[i] false (ho _ (List.getElem_mem hlt))) (by simp) (ok_thread _) ?_
    simp -implicitDefEqProofs [hT, e1, e5, e10, e11, e12, hlt, hltR, gE, h0R, l0E, hne0, hne1, hn1, hm1]
    exact ⟨k - 1, by omega, i + 1, by omega, hs, wrap_nat (by omega)⟩
  · rw [mix_all _ _ _ (by omega)] at hT
    simp -implicitDefEqProofs [hT, e1, e5, e10, e11, e12, hlt]

end Go.Ab

namespace Go.Ab

theorem ok_mach (m : Machine) : okT (.agg (encMachine true m)) = true := by simp [okT, okP, ok_rings, ok_replicas, ok_threads, ok_events]
theorem okT_rings (l : List Ring) : okT (.vs (l.map (encRing true)) true) = true := by have := ok_rings l; simp only [okT, okP]; exact this
theorem okT_replicas (l : List Replica) : okT (.vs (l.map (encReplica true)) true) = true := by have := ok_replicas l; simp only [okT, okP]; exact this
theorem okT_threads (l : List Thread) : okT (.vs (l.map (encThread true)) true) = true := by have := ok_threads l; simp only [okT, okP]; exact this

/-- a machine with rings, replicas and threads -/
def wholeM (m : Machine) : Prop := m.rings ≠ [] ∧ m.replicas ≠ [] ∧ m.threads ≠ []

theorem whole_of {m : Machine} (h : machineMay m) : wholeM m := by
  obtain ⟨h1, h2, _⟩ := h
  obtain ⟨_, h3, h4, h5, _⟩ := h1
  refine ⟨fun e => ?_, fun e => ?_, fun e => ?_⟩ <;> (simp only [macNums, e, List.length_nil] at h2; simp only [logsMay] at h4; omega)

theorem c_startCopy (m : Machine) (h : okM m) (hw : wholeM m) : PCall tab 55 [.agg (encMachine false m)] (.agg (encMachine true m)) := by
  obtain ⟨⟨l1, o1⟩, ⟨l2, o2⟩, ⟨l3, o3⟩, l4⟩ := h
  refine PCall.of (F := m55) rfl rfl rfl (ok_mach m) ?_
  simp -implicitDefEqProofs [m55]
  refine CallT.pure (c_copiedRing m.rings false hw.1 l1 o1) (by simp) (okT_rings _) ?_
  simp -implicitDefEqProofs
  refine CallT.pure (c_copiedReplica m.replicas false hw.2.1 l2 o2) (by simp) (okT_replicas _) ?_
  simp -implicitDefEqProofs
  refine CallT.pure (c_copiedThread m.threads false hw.2.2 l3 o3) (by simp) (okT_threads _) ?_
  simp -implicitDefEqProofs
  refine CallT.pure (c_CloneEvent m.history false l4) (by simp) (okT_events _ _) ?_
  simp -implicitDefEqProofs

end Go.Ab

namespace Go.Ab

/-- a slice that grows: nil, or a root between two numbers -/
def GrowL (T : TH) (v : TV) (rows : List (List AV)) (lo hi : Nat) : Prop := (rows = [] ∧ v = .a .nils) ∨ ∃ r log, lo ≤ r ∧ r < hi ∧ v = .sl r [] log.length 0 rows.length true ∧ T.get r = .tree rows true log
theorem GrowL.keep {T T' : TH} {v : TV} {rows : List (List AV)} {lo hi : Nat} (h : GrowL T v rows lo hi) (hk : ∀ r, lo ≤ r → r < hi → T'.get r = T.get r) : GrowL T' v rows lo hi := by
  rcases h with h | ⟨r, log, h1, h2, h3, h4⟩
  · exact .inl h
  · exact .inr ⟨r, log, h1, h2, h3, by rw [hk r h1 h2]; exact h4⟩
/-- the first so many -/
def firsts {α : Type} (f : α → List AV) (xs : List α) (i : Nat) : List (List AV) := (xs.take i).map f
theorem firsts_succ {α : Type} (f : α → List AV) {xs : List α} {i : Nat} (h : i < xs.length) : firsts f xs (i + 1) = firsts f xs i ++ [f xs[i]] := by
  unfold firsts
  rw [List.take_add_one, List.getElem?_eq_getElem h, List.map_append]; rfl
theorem firsts_len {α : Type} (f : α → List AV) {xs : List α} {i : Nat} (h : i ≤ xs.length) : (firsts f xs i).length = i := by
  unfold firsts
  rw [List.length_map, List.length_take]; omega
theorem firsts_all {α : Type} (f : α → List AV) {xs : List α} {i : Nat} (h : xs.length ≤ i) : firsts f xs i = xs.map f := by
  unfold firsts
  rw [List.take_of_length_le h]
theorem firsts_row {α : Type} (f : α → List AV) (xs : List α) (i sz : Nat) (hf : ∀ x, (f x).length = sz) : ∀ row ∈ firsts f xs i, row.length = sz := by
  intro row h
  obtain ⟨x, _, rfl⟩ := List.mem_map.1 h
  exact hf x

def CpR (m : Machine) (k : Nat) (E : TE) (T : TH) : Prop := ∃ (i : Nat) (v5 : TV), i + k = m.rings.length ∧ 1 ≤ T.next ∧ T.get 0 = .tree (m.history.map encEvent) true [] ∧ GrowL T v5 (firsts (encRing true) m.rings i) 1 T.next ∧ E.get 1 = .lp 0 0 ∧ E.get 2 = .lp 1 0 ∧ E.get 3 = .lp 2 0 ∧ E.get 4 = .a (.int .i64 i) ∧ 3 ≤ E.ln ∧ E.var 0 = some ((encMachine false m).map .a) ∧ (∃ w, w.length = 9 ∧ E.var 1 = some w) ∧ E.var 2 = some [.a (.int .i64 m.config.object), .a (.int .i64 m.config.replicas), .a (.int .i64 m.config.logs), .a (.int .i64 m.config.threads), .a (.int .i64 m.config.slots), v5, .a .nils, .a .nils, .sl 0 [] 0 0 m.history.length true]
def CpP (m : Machine) (v5 : TV) (n5 : Nat) (k : Nat) (E : TE) (T : TH) : Prop := ∃ (i : Nat) (v6 : TV), i + k = m.replicas.length ∧ 1 ≤ n5 ∧ n5 ≤ T.next ∧ T.get 0 = .tree (m.history.map encEvent) true [] ∧ GrowL T v5 (m.rings.map (encRing true)) 1 n5 ∧ GrowL T v6 (firsts (encReplica true) m.replicas i) n5 T.next ∧ E.get 1 = .lp 0 0 ∧ E.get 2 = .lp 1 0 ∧ E.get 3 = .lp 2 0 ∧ E.get 5 = .a (.int .i64 i) ∧ 3 ≤ E.ln ∧ E.var 0 = some ((encMachine false m).map .a) ∧ (∃ w, w.length = 9 ∧ E.var 1 = some w) ∧ E.var 2 = some [.a (.int .i64 m.config.object), .a (.int .i64 m.config.replicas), .a (.int .i64 m.config.logs), .a (.int .i64 m.config.threads), .a (.int .i64 m.config.slots), v5, v6, .a .nils, .sl 0 [] 0 0 m.history.length true]
def CpT (m : Machine) (v5 v6 : TV) (n5 n6 : Nat) (k : Nat) (E : TE) (T : TH) : Prop := ∃ (i : Nat) (v7 : TV), i + k = m.threads.length ∧ 1 ≤ n5 ∧ n5 ≤ n6 ∧ n6 ≤ T.next ∧ T.get 0 = .tree (m.history.map encEvent) true [] ∧ GrowL T v5 (m.rings.map (encRing true)) 1 n5 ∧ GrowL T v6 (m.replicas.map (encReplica true)) n5 n6 ∧ GrowL T v7 (firsts (encThread true) m.threads i) n6 T.next ∧ E.get 1 = .lp 0 0 ∧ E.get 2 = .lp 1 0 ∧ E.get 3 = .lp 2 0 ∧ E.get 7 = .a (.int .i64 i) ∧ 3 ≤ E.ln ∧ E.var 0 = some ((encMachine false m).map .a) ∧ (∃ w, w.length = 9 ∧ E.var 1 = some w) ∧ E.var 2 = some [.a (.int .i64 m.config.object), .a (.int .i64 m.config.replicas), .a (.int .i64 m.config.logs), .a (.int .i64 m.config.threads), .a (.int .i64 m.config.slots), v5, v6, v7, .sl 0 [] 0 0 m.history.length true]

theorem c_lCopyState (s : State) (z : Bool) (h : okS s) : PCall tab 52 [.agg (encState z s)] (.agg (encState true s)) := by
  obtain ⟨h0, h1, h2, h3⟩ := h
  unfold lenOK at h0 h1 h2 h3
  refine PCall.of (F := m52) rfl rfl rfl (ok_state s) ?_
  have b0 : s.r0.length * 8 ≤ 140737488355328 := by omega
  have b1 : s.r1.length * 8 ≤ 140737488355328 := by omega
  have b2 : s.r2.length * 8 ≤ 140737488355328 := by omega
  have b3 : s.r3.length * 8 ≤ 140737488355328 := by omega
  simp -implicitDefEqProofs [m52]
  refine WCT.unroll ?_
  simp -implicitDefEqProofs [b0]
  refine WCT.unroll ?_
  simp -implicitDefEqProofs [b1]
  refine WCT.unroll ?_
  simp -implicitDefEqProofs [b2]
  refine WCT.unroll ?_
  simp -implicitDefEqProofs [b3]
  refine WCT.unroll ?_
  simp -implicitDefEqProofs

set_option maxHeartbeats 4000000 in
theorem c_lCopyMachine (m : Machine) (h : okM m) : PCall tab 16 [.agg (encMachine false m)] (.agg (encMachine true m)) := by
  obtain ⟨⟨l1, o1⟩, ⟨l2, o2⟩, ⟨l3, o3⟩, l4⟩ := h
  unfold lenOK at l1 l2 l3 l4
  have bh : m.history.length * 48 ≤ 140737488355328 := by omega
  refine PCall.of (F := m16) rfl rfl rfl (ok_mach m) ?_
  simp -implicitDefEqProofs [m16, bh]
  refine loop_by (CpR m) ?_ m.rings.length ⟨0, .a .nils, by simp, by simp, by simp, .inl ⟨rfl, rfl⟩, by simp, by simp, by simp, by simp, by simp, by simp, ⟨[.a (.int .i64 0), .a (.int .i64 0), .a (.int .i64 0), .a (.int .i64 0), .a (.int .i64 0), .a .nils, .a .nils, .a .nils, .a .nils], rfl, by simp⟩, by simp⟩
  rintro k E T ⟨i, v5, hi, hn, hT0, hL, e1, e2, e3, e4, eln, v0, v1, v2⟩
  by_cases hlt : i < m.rings.length
  · rcases hL with ⟨hr, rfl⟩ | ⟨r, log, hr1, hr2, rfl, hTr⟩
    · have t0 : True := trivial
      have n0a : ¬ 0 = T.next := by omega
      have n0b : ¬ T.next = 0 := by omega
      have n1a : ¬ 0 = T.next + 1 := by omega
      have n1b : ¬ T.next + 1 = 0 := by omega
      have n2a : ¬ 0 = T.next + 1 + 1 := by omega
      have n2b : ¬ T.next + 1 + 1 = 0 := by omega
      have n3a : ¬ 0 = T.next + 1 + 1 + 1 := by omega
      have n3b : ¬ T.next + 1 + 1 + 1 = 0 := by omega
      have n4a : ¬ 0 = T.next + 1 + 1 + 1 + 1 := by omega
      have n4b : ¬ T.next + 1 + 1 + 1 + 1 = 0 := by omega
      have q0a : ¬ E.ln = 0 := by omega
      have q0b : ¬ 0 = E.ln := by omega
      have q1a : ¬ E.ln = 1 := by omega
      have q1b : ¬ 1 = E.ln := by omega
      have q2a : ¬ E.ln = 2 := by omega
      have q2b : ¬ 2 = E.ln := by omega
      have hi0 : i = 0 := by have h9 := firsts_len (encRing true) (Nat.le_of_lt hlt); rw [hr] at h9; exact h9.symm
      subst hi0
      have g1 := List.getElem?_eq_getElem hlt
      have hz := o1 _ (List.getElem_mem hlt)
      have bo : (0 + 1) * 48 ≤ 140737488355328 := by omega
      have hsucc := firsts_succ (encRing true) hlt
      rw [hr] at hsucc
      simp -implicitDefEqProofs [e1, e2, e3, e4, v0, v2, hlt, g1, List.replicate, hT0, n0a, n0b, n1a, n1b, n2a, n2b, n3a, n3b, n4a, n4b, q0a, q0b, q1a, q1b, q2a, q2b]
      refine CallT.pure (c_lCopyRing m.rings[0] false hz) (by simp) (ok_ring _) ?_
      simp -implicitDefEqProofs [e1, e2, e3, e4, v0, v2, hlt, g1, List.replicate, hT0, n0a, n0b, n1a, n1b, n2a, n2b, n3a, n3b, n4a, n4b, q0a, q0b, q1a, q1b, q2a, q2b]
      obtain ⟨w, hw, hv1⟩ := v1
      refine ⟨k - 1, by omega, 0 + 1, .sl (T.next + 1 + 1) [] 0 0 1 true, by omega, by first | (simp; done) | (simp; omega), by simp [e1, e2, e3, e4, v0, v2, hlt, g1, List.replicate, hT0, n0a, n0b, n1a, n1b, n2a, n2b, n3a, n3b, n4a, n4b, q0a, q0b, q1a, q1b, q2a, q2b], by rw [hsucc]; exact .inr ⟨T.next + 1 + 1, [], by omega, by simp, by simp, by simp⟩, by simp [e1], by simp [e2], by simp [e3], by first | (simp; done) | (simp; exact wrap_nat (by omega)), by first | (simp; done) | (simp; omega), by simp [e1, e2, e3, e4, v0, v2, hlt, g1, List.replicate, hT0, n0a, n0b, n1a, n1b, n2a, n2b, n3a, n3b, n4a, n4b, q0a, q0b, q1a, q1b, q2a, q2b], ⟨w, hw, by simp [hv1, e1, e2, e3, e4, v0, v2, hlt, g1, List.replicate, hT0, n0a, n0b, n1a, n1b, n2a, n2b, n3a, n3b, n4a, n4b, q0a, q0b, q1a, q1b, q2a, q2b]⟩, by simp [e1, e2, e3, e4, v0, v2, hlt, g1, List.replicate, hT0, n0a, n0b, n1a, n1b, n2a, n2b, n3a, n3b, n4a, n4b, q0a, q0b, q1a, q1b, q2a, q2b]⟩
    · have t0 : True := trivial
      have n0a : ¬ 0 = T.next := by omega
      have n0b : ¬ T.next = 0 := by omega
      have n1a : ¬ 0 = T.next + 1 := by omega
      have n1b : ¬ T.next + 1 = 0 := by omega
      have n2a : ¬ 0 = T.next + 1 + 1 := by omega
      have n2b : ¬ T.next + 1 + 1 = 0 := by omega
      have n3a : ¬ 0 = T.next + 1 + 1 + 1 := by omega
      have n3b : ¬ T.next + 1 + 1 + 1 = 0 := by omega
      have n4a : ¬ 0 = T.next + 1 + 1 + 1 + 1 := by omega
      have n4b : ¬ T.next + 1 + 1 + 1 + 1 = 0 := by omega
      have q0a : ¬ E.ln = 0 := by omega
      have q0b : ¬ 0 = E.ln := by omega
      have q1a : ¬ E.ln = 1 := by omega
      have q1b : ¬ 1 = E.ln := by omega
      have q2a : ¬ E.ln = 2 := by omega
      have q2b : ¬ 2 = E.ln := by omega
      have g1 := List.getElem?_eq_getElem hlt
      have hz := o1 _ (List.getElem_mem hlt)
      have bo : (i + 1) * 48 ≤ 140737488355328 := by omega
      have hsucc := firsts_succ (encRing true) hlt
      have hRl := firsts_len (encRing true) (Nat.le_of_lt hlt)
      have hRa := firsts_row (encRing true) m.rings i 4 (fun _ => rfl)
      have m0a : ¬ r = T.next := by omega
      have m0b : ¬ T.next = r := by omega
      have m1a : ¬ r = T.next + 1 := by omega
      have m1b : ¬ T.next + 1 = r := by omega
      have m2a : ¬ r = T.next + 1 + 1 := by omega
      have m2b : ¬ T.next + 1 + 1 = r := by omega
      have m3a : ¬ r = T.next + 1 + 1 + 1 := by omega
      have m3b : ¬ T.next + 1 + 1 + 1 = r := by omega
      have m4a : ¬ r = T.next + 1 + 1 + 1 + 1 := by omega
      have m4b : ¬ T.next + 1 + 1 + 1 + 1 = r := by omega
      have r0a : ¬ r = 0 := by omega
      have r0b : ¬ 0 = r := by omega
      generalize firsts (encRing true) m.rings i = R at *
      have hRt : (∀ (x : List AV), x ∈ R → x.length = 4) = True := eq_true hRa
      simp -implicitDefEqProofs [e1, e2, e3, e4, v0, v2, hlt, g1, List.replicate, hT0, n0a, n0b, n1a, n1b, n2a, n2b, n3a, n3b, n4a, n4b, q0a, q0b, q1a, q1b, q2a, q2b, m0a, m0b, m1a, m1b, m2a, m2b, m3a, m3b, m4a, m4b, r0a, r0b, hTr, hRl, bo, hRt]
      refine CallT.pure (c_lCopyRing m.rings[i] false hz) (by simp) (ok_ring _) ?_
      simp -implicitDefEqProofs [e1, e2, e3, e4, v0, v2, hlt, g1, List.replicate, hT0, n0a, n0b, n1a, n1b, n2a, n2b, n3a, n3b, n4a, n4b, q0a, q0b, q1a, q1b, q2a, q2b, m0a, m0b, m1a, m1b, m2a, m2b, m3a, m3b, m4a, m4b, r0a, r0b, hTr, hRl, bo, hRt]
      obtain ⟨w, hw, hv1⟩ := v1
      refine ⟨k - 1, by omega, i + 1, .sl r [] (log.length + 1) 0 (i + 1) true, by omega, by first | (simp; done) | (simp; omega), by simp [e1, e2, e3, e4, v0, v2, hlt, g1, List.replicate, hT0, n0a, n0b, n1a, n1b, n2a, n2b, n3a, n3b, n4a, n4b, q0a, q0b, q1a, q1b, q2a, q2b, m0a, m0b, m1a, m1b, m2a, m2b, m3a, m3b, m4a, m4b, r0a, r0b, hTr, hRl, bo, hRt], by rw [hsucc]; exact .inr ⟨r, [] :: log, by omega, by first | (simp; done) | (simp; omega), by simp [hRl], by simp [e1, e2, e3, e4, v0, v2, hlt, g1, List.replicate, hT0, n0a, n0b, n1a, n1b, n2a, n2b, n3a, n3b, n4a, n4b, q0a, q0b, q1a, q1b, q2a, q2b, m0a, m0b, m1a, m1b, m2a, m2b, m3a, m3b, m4a, m4b, r0a, r0b, hTr, hRl, bo, hRt]⟩, by simp [e1], by simp [e2], by simp [e3], by first | (simp; done) | (simp; exact wrap_nat (by omega)), by first | (simp; done) | (simp; omega), by simp [e1, e2, e3, e4, v0, v2, hlt, g1, List.replicate, hT0, n0a, n0b, n1a, n1b, n2a, n2b, n3a, n3b, n4a, n4b, q0a, q0b, q1a, q1b, q2a, q2b, m0a, m0b, m1a, m1b, m2a, m2b, m3a, m3b, m4a, m4b, r0a, r0b, hTr, hRl, bo, hRt], ⟨w, hw, by simp [hv1, e1, e2, e3, e4, v0, v2, hlt, g1, List.replicate, hT0, n0a, n0b, n1a, n1b, n2a, n2b, n3a, n3b, n4a, n4b, q0a, q0b, q1a, q1b, q2a, q2b, m0a, m0b, m1a, m1b, m2a, m2b, m3a, m3b, m4a, m4b, r0a, r0b, hTr, hRl, bo, hRt]⟩, by simp [e1, e2, e3, e4, v0, v2, hlt, g1, List.replicate, hT0, n0a, n0b, n1a, n1b, n2a, n2b, n3a, n3b, n4a, n4b, q0a, q0b, q1a, q1b, q2a, q2b, m0a, m0b, m1a, m1b, m2a, m2b, m3a, m3b, m4a, m4b, r0a, r0b, hTr, hRl, bo, hRt]⟩
  · rw [firsts_all _ (by omega)] at hL
    simp -implicitDefEqProofs [e1, e2, e3, e4, v0, v2, hlt]
    refine loop_by (CpP m v5 T.next) ?_ m.replicas.length ⟨0, .a .nils, by simp, by omega, by simp, by simp [hT0], hL, .inl ⟨rfl, rfl⟩, by simp [e1], by simp [e2], by simp [e3], by simp, by first | (simp; done) | (simp; omega), by simp [v0], by simpa using v1, by simp [v2]⟩
    generalize T.next = n5 at *
    clear hi hT0 hL e1 e2 e3 e4 eln v0 v1 v2 hlt i k E T
    rintro k E T ⟨i, v6, hi, hn5, hn, hT0, hL5, hL, e1, e2, e3, e4, eln, v0, v1, v2⟩
    by_cases hlt : i < m.replicas.length
    · rcases hL with ⟨hr, rfl⟩ | ⟨r, log, hr1, hr2, rfl, hTr⟩
      · have t0 : True := trivial
        have n0a : ¬ 0 = T.next := by omega
        have n0b : ¬ T.next = 0 := by omega
        have n1a : ¬ 0 = T.next + 1 := by omega
        have n1b : ¬ T.next + 1 = 0 := by omega
        have n2a : ¬ 0 = T.next + 1 + 1 := by omega
        have n2b : ¬ T.next + 1 + 1 = 0 := by omega
        have n3a : ¬ 0 = T.next + 1 + 1 + 1 := by omega
        have n3b : ¬ T.next + 1 + 1 + 1 = 0 := by omega
        have n4a : ¬ 0 = T.next + 1 + 1 + 1 + 1 := by omega
        have n4b : ¬ T.next + 1 + 1 + 1 + 1 = 0 := by omega
        have n5a : ¬ 0 = T.next + 1 + 1 + 1 + 1 + 1 := by omega
        have n5b : ¬ T.next + 1 + 1 + 1 + 1 + 1 = 0 := by omega
        have n6a : ¬ 0 = T.next + 1 + 1 + 1 + 1 + 1 + 1 := by omega
        have n6b : ¬ T.next + 1 + 1 + 1 + 1 + 1 + 1 = 0 := by omega
        have n7a : ¬ 0 = T.next + 1 + 1 + 1 + 1 + 1 + 1 + 1 := by omega
        have n7b : ¬ T.next + 1 + 1 + 1 + 1 + 1 + 1 + 1 = 0 := by omega
        have n8a : ¬ 0 = T.next + 1 + 1 + 1 + 1 + 1 + 1 + 1 + 1 := by omega
        have n8b : ¬ T.next + 1 + 1 + 1 + 1 + 1 + 1 + 1 + 1 = 0 := by omega
        have n9a : ¬ 0 = T.next + 1 + 1 + 1 + 1 + 1 + 1 + 1 + 1 + 1 := by omega
        have n9b : ¬ T.next + 1 + 1 + 1 + 1 + 1 + 1 + 1 + 1 + 1 = 0 := by omega
        have q0a : ¬ E.ln = 0 := by omega
        have q0b : ¬ 0 = E.ln := by omega
        have q1a : ¬ E.ln = 1 := by omega
        have q1b : ¬ 1 = E.ln := by omega
        have q2a : ¬ E.ln = 2 := by omega
        have q2b : ¬ 2 = E.ln := by omega
        have hi0 : i = 0 := by have h9 := firsts_len (encReplica true) (Nat.le_of_lt hlt); rw [hr] at h9; exact h9.symm
        subst hi0
        have g1 := List.getElem?_eq_getElem hlt
        have hz := o2 _ (List.getElem_mem hlt)
        have bo : (0 + 1) * 144 ≤ 140737488355328 := by omega
        have hsucc := firsts_succ (encReplica true) hlt
        have b1 : m.replicas[0].cursors.length * 8 ≤ 140737488355328 := by have h8 := hz.2.1; unfold lenOK at h8; omega
        have b2 : m.replicas[0].locks.length * 8 ≤ 140737488355328 := by have h8 := hz.2.2; unfold lenOK at h8; omega
        rw [hr] at hsucc
        simp -implicitDefEqProofs [e1, e2, e3, e4, v0, v2, hlt, g1, List.replicate, hT0, n0a, n0b, n1a, n1b, n2a, n2b, n3a, n3b, n4a, n4b, n5a, n5b, n6a, n6b, n7a, n7b, n8a, n8b, n9a, n9b, q0a, q0b, q1a, q1b, q2a, q2b, b1, b2]
        refine CallT.pure (c_lCopyState m.replicas[0].state false hz.1) (by simp) (ok_state _) ?_
        simp -implicitDefEqProofs [e1, e2, e3, e4, v0, v2, hlt, g1, List.replicate, hT0, n0a, n0b, n1a, n1b, n2a, n2b, n3a, n3b, n4a, n4b, n5a, n5b, n6a, n6b, n7a, n7b, n8a, n8b, n9a, n9b, q0a, q0b, q1a, q1b, q2a, q2b, b1, b2]
        obtain ⟨w, hw, hv1⟩ := v1
        refine ⟨k - 1, by omega, 0 + 1, .sl (T.next + 1 + 1 + 1 + 1 + 1 + 1 + 1) [] 0 0 1 true, by omega, by omega, by first | (simp; done) | (simp; omega), by simp [e1, e2, e3, e4, v0, v2, hlt, g1, List.replicate, hT0, n0a, n0b, n1a, n1b, n2a, n2b, n3a, n3b, n4a, n4b, n5a, n5b, n6a, n6b, n7a, n7b, n8a, n8b, n9a, n9b, q0a, q0b, q1a, q1b, q2a, q2b, b1, b2], hL5.keep (fun r h1 h2 => by simp only [TH.get_put, TH.get_new, TH.next_new, TH.next_put]; repeat (rw [if_neg (by omega)])), by rw [hsucc]; exact .inr ⟨T.next + 1 + 1 + 1 + 1 + 1 + 1 + 1, [], by omega, by simp, by simp, by simp⟩, by simp [e1], by simp [e2], by simp [e3], by first | (simp; done) | (simp; exact wrap_nat (by omega)), by first | (simp; done) | (simp; omega), by simp [e1, e2, e3, e4, v0, v2, hlt, g1, List.replicate, hT0, n0a, n0b, n1a, n1b, n2a, n2b, n3a, n3b, n4a, n4b, n5a, n5b, n6a, n6b, n7a, n7b, n8a, n8b, n9a, n9b, q0a, q0b, q1a, q1b, q2a, q2b, b1, b2], ⟨w, hw, by simp [hv1, e1, e2, e3, e4, v0, v2, hlt, g1, List.replicate, hT0, n0a, n0b, n1a, n1b, n2a, n2b, n3a, n3b, n4a, n4b, n5a, n5b, n6a, n6b, n7a, n7b, n8a, n8b, n9a, n9b, q0a, q0b, q1a, q1b, q2a, q2b, b1, b2]⟩, by simp [e1, e2, e3, e4, v0, v2, hlt, g1, List.replicate, hT0, n0a, n0b, n1a, n1b, n2a, n2b, n3a, n3b, n4a, n4b, n5a, n5b, n6a, n6b, n7a, n7b, n8a, n8b, n9a, n9b, q0a, q0b, q1a, q1b, q2a, q2b, b1, b2]⟩
      · have t0 : True := trivial
        have n0a : ¬ 0 = T.next := by omega
        have n0b : ¬ T.next = 0 := by omega
        have n1a : ¬ 0 = T.next + 1 := by omega
        have n1b : ¬ T.next + 1 = 0 := by omega
        have n2a : ¬ 0 = T.next + 1 + 1 := by omega
        have n2b : ¬ T.next + 1 + 1 = 0 := by omega
        have n3a : ¬ 0 = T.next + 1 + 1 + 1 := by omega
        have n3b : ¬ T.next + 1 + 1 + 1 = 0 := by omega
        have n4a : ¬ 0 = T.next + 1 + 1 + 1 + 1 := by omega
        have n4b : ¬ T.next + 1 + 1 + 1 + 1 = 0 := by omega
        have n5a : ¬ 0 = T.next + 1 + 1 + 1 + 1 + 1 := by omega
        have n5b : ¬ T.next + 1 + 1 + 1 + 1 + 1 = 0 := by omega
        have n6a : ¬ 0 = T.next + 1 + 1 + 1 + 1 + 1 + 1 := by omega
        have n6b : ¬ T.next + 1 + 1 + 1 + 1 + 1 + 1 = 0 := by omega
        have n7a : ¬ 0 = T.next + 1 + 1 + 1 + 1 + 1 + 1 + 1 := by omega
        have n7b : ¬ T.next + 1 + 1 + 1 + 1 + 1 + 1 + 1 = 0 := by omega
        have n8a : ¬ 0 = T.next + 1 + 1 + 1 + 1 + 1 + 1 + 1 + 1 := by omega
        have n8b : ¬ T.next + 1 + 1 + 1 + 1 + 1 + 1 + 1 + 1 = 0 := by omega
        have n9a : ¬ 0 = T.next + 1 + 1 + 1 + 1 + 1 + 1 + 1 + 1 + 1 := by omega
        have n9b : ¬ T.next + 1 + 1 + 1 + 1 + 1 + 1 + 1 + 1 + 1 = 0 := by omega
        have q0a : ¬ E.ln = 0 := by omega
        have q0b : ¬ 0 = E.ln := by omega
        have q1a : ¬ E.ln = 1 := by omega
        have q1b : ¬ 1 = E.ln := by omega
        have q2a : ¬ E.ln = 2 := by omega
        have q2b : ¬ 2 = E.ln := by omega
        have g1 := List.getElem?_eq_getElem hlt
        have hz := o2 _ (List.getElem_mem hlt)
        have bo : (i + 1) * 144 ≤ 140737488355328 := by omega
        have hsucc := firsts_succ (encReplica true) hlt
        have b1 : m.replicas[i].cursors.length * 8 ≤ 140737488355328 := by have h8 := hz.2.1; unfold lenOK at h8; omega
        have b2 : m.replicas[i].locks.length * 8 ≤ 140737488355328 := by have h8 := hz.2.2; unfold lenOK at h8; omega
        have hRl := firsts_len (encReplica true) (Nat.le_of_lt hlt)
        have hRa := firsts_row (encReplica true) m.replicas i 6 (fun _ => rfl)
        have m0a : ¬ r = T.next := by omega
        have m0b : ¬ T.next = r := by omega
        have m1a : ¬ r = T.next + 1 := by omega
        have m1b : ¬ T.next + 1 = r := by omega
        have m2a : ¬ r = T.next + 1 + 1 := by omega
        have m2b : ¬ T.next + 1 + 1 = r := by omega
        have m3a : ¬ r = T.next + 1 + 1 + 1 := by omega
        have m3b : ¬ T.next + 1 + 1 + 1 = r := by omega
        have m4a : ¬ r = T.next + 1 + 1 + 1 + 1 := by omega
        have m4b : ¬ T.next + 1 + 1 + 1 + 1 = r := by omega
        have m5a : ¬ r = T.next + 1 + 1 + 1 + 1 + 1 := by omega
        have m5b : ¬ T.next + 1 + 1 + 1 + 1 + 1 = r := by omega
        have m6a : ¬ r = T.next + 1 + 1 + 1 + 1 + 1 + 1 := by omega
        have m6b : ¬ T.next + 1 + 1 + 1 + 1 + 1 + 1 = r := by omega
        have m7a : ¬ r = T.next + 1 + 1 + 1 + 1 + 1 + 1 + 1 := by omega
        have m7b : ¬ T.next + 1 + 1 + 1 + 1 + 1 + 1 + 1 = r := by omega
        have m8a : ¬ r = T.next + 1 + 1 + 1 + 1 + 1 + 1 + 1 + 1 := by omega
        have m8b : ¬ T.next + 1 + 1 + 1 + 1 + 1 + 1 + 1 + 1 = r := by omega
        have m9a : ¬ r = T.next + 1 + 1 + 1 + 1 + 1 + 1 + 1 + 1 + 1 := by omega
        have m9b : ¬ T.next + 1 + 1 + 1 + 1 + 1 + 1 + 1 + 1 + 1 = r := by omega
        have r0a : ¬ r = 0 := by omega
        have r0b : ¬ 0 = r := by omega
        generalize firsts (encReplica true) m.replicas i = R at *
        have hRt : (∀ (x : List AV), x ∈ R → x.length = 6) = True := eq_true hRa
        simp -implicitDefEqProofs [e1, e2, e3, e4, v0, v2, hlt, g1, List.replicate, hT0, n0a, n0b, n1a, n1b, n2a, n2b, n3a, n3b, n4a, n4b, n5a, n5b, n6a, n6b, n7a, n7b, n8a, n8b, n9a, n9b, q0a, q0b, q1a, q1b, q2a, q2b, b1, b2, m0a, m0b, m1a, m1b, m2a, m2b, m3a, m3b, m4a, m4b, m5a, m5b, m6a, m6b, m7a, m7b, m8a, m8b, m9a, m9b, r0a, r0b, hTr, hRl, bo, hRt]
        refine CallT.pure (c_lCopyState m.replicas[i].state false hz.1) (by simp) (ok_state _) ?_
        simp -implicitDefEqProofs [e1, e2, e3, e4, v0, v2, hlt, g1, List.replicate, hT0, n0a, n0b, n1a, n1b, n2a, n2b, n3a, n3b, n4a, n4b, n5a, n5b, n6a, n6b, n7a, n7b, n8a, n8b, n9a, n9b, q0a, q0b, q1a, q1b, q2a, q2b, b1, b2, m0a, m0b, m1a, m1b, m2a, m2b, m3a, m3b, m4a, m4b, m5a, m5b, m6a, m6b, m7a, m7b, m8a, m8b, m9a, m9b, r0a, r0b, hTr, hRl, bo, hRt]
        obtain ⟨w, hw, hv1⟩ := v1
        refine ⟨k - 1, by omega, i + 1, .sl r [] (log.length + 1) 0 (i + 1) true, by omega, by omega, by first | (simp; done) | (simp; omega), by simp [e1, e2, e3, e4, v0, v2, hlt, g1, List.replicate, hT0, n0a, n0b, n1a, n1b, n2a, n2b, n3a, n3b, n4a, n4b, n5a, n5b, n6a, n6b, n7a, n7b, n8a, n8b, n9a, n9b, q0a, q0b, q1a, q1b, q2a, q2b, b1, b2, m0a, m0b, m1a, m1b, m2a, m2b, m3a, m3b, m4a, m4b, m5a, m5b, m6a, m6b, m7a, m7b, m8a, m8b, m9a, m9b, r0a, r0b, hTr, hRl, bo, hRt], hL5.keep (fun r h1 h2 => by simp only [TH.get_put, TH.get_new, TH.next_new, TH.next_put]; repeat (rw [if_neg (by omega)])), by rw [hsucc]; exact .inr ⟨r, [] :: log, by omega, by first | (simp; done) | (simp; omega), by simp [hRl], by simp [e1, e2, e3, e4, v0, v2, hlt, g1, List.replicate, hT0, n0a, n0b, n1a, n1b, n2a, n2b, n3a, n3b, n4a, n4b, n5a, n5b, n6a, n6b, n7a, n7b, n8a, n8b, n9a, n9b, q0a, q0b, q1a, q1b, q2a, q2b, b1, b2, m0a, m0b, m1a, m1b, m2a, m2b, m3a, m3b, m4a, m4b, m5a, m5b, m6a, m6b, m7a, m7b, m8a, m8b, m9a, m9b, r0a, r0b, hTr, hRl, bo, hRt]⟩, by simp [e1], by simp [e2], by simp [e3], by first | (simp; done) | (simp; exact wrap_nat (by omega)), by first | (simp; done) | (simp; omega), by simp [e1, e2, e3, e4, v0, v2, hlt, g1, List.replicate, hT0, n0a, n0b, n1a, n1b, n2a, n2b, n3a, n3b, n4a, n4b, n5a, n5b, n6a, n6b, n7a, n7b, n8a, n8b, n9a, n9b, q0a, q0b, q1a, q1b, q2a, q2b, b1, b2, m0a, m0b, m1a, m1b, m2a, m2b, m3a, m3b, m4a, m4b, m5a, m5b, m6a, m6b, m7a, m7b, m8a, m8b, m9a, m9b, r0a, r0b, hTr, hRl, bo, hRt], ⟨w, hw, by simp [hv1, e1, e2, e3, e4, v0, v2, hlt, g1, List.replicate, hT0, n0a, n0b, n1a, n1b, n2a, n2b, n3a, n3b, n4a, n4b, n5a, n5b, n6a, n6b, n7a, n7b, n8a, n8b, n9a, n9b, q0a, q0b, q1a, q1b, q2a, q2b, b1, b2, m0a, m0b, m1a, m1b, m2a, m2b, m3a, m3b, m4a, m4b, m5a, m5b, m6a, m6b, m7a, m7b, m8a, m8b, m9a, m9b, r0a, r0b, hTr, hRl, bo, hRt]⟩, by simp [e1, e2, e3, e4, v0, v2, hlt, g1, List.replicate, hT0, n0a, n0b, n1a, n1b, n2a, n2b, n3a, n3b, n4a, n4b, n5a, n5b, n6a, n6b, n7a, n7b, n8a, n8b, n9a, n9b, q0a, q0b, q1a, q1b, q2a, q2b, b1, b2, m0a, m0b, m1a, m1b, m2a, m2b, m3a, m3b, m4a, m4b, m5a, m5b, m6a, m6b, m7a, m7b, m8a, m8b, m9a, m9b, r0a, r0b, hTr, hRl, bo, hRt]⟩
    · rw [firsts_all _ (by omega)] at hL
      simp -implicitDefEqProofs [e1, e2, e3, e4, v0, v2, hlt]
      refine loop_by (CpT m v5 v6 n5 T.next) ?_ m.threads.length ⟨0, .a .nils, by simp, by omega, by omega, by simp, by simp [hT0], hL5, hL, .inl ⟨rfl, rfl⟩, by simp [e1], by simp [e2], by simp [e3], by simp, by simp; omega, by simp [v0], by simpa using v1, by simp [v2]⟩
      generalize T.next = n6 at *
      clear hi hT0 hL hL5 e1 e2 e3 e4 eln v0 v1 v2 hlt i k E T
      rintro k E T ⟨i, v7, hi, hn5, hn6, hn, hT0, hL5, hL6, hL, e1, e2, e3, e4, eln, v0, v1, v2⟩
      by_cases hlt : i < m.threads.length
      · rcases hL with ⟨hr, rfl⟩ | ⟨r, log, hr1, hr2, rfl, hTr⟩
        · have t0 : True := trivial
          have n0a : ¬ 0 = T.next := by omega
          have n0b : ¬ T.next = 0 := by omega
          have n1a : ¬ 0 = T.next + 1 := by omega
          have n1b : ¬ T.next + 1 = 0 := by omega
          have n2a : ¬ 0 = T.next + 1 + 1 := by omega
          have n2b : ¬ T.next + 1 + 1 = 0 := by omega
          have n3a : ¬ 0 = T.next + 1 + 1 + 1 := by omega
          have n3b : ¬ T.next + 1 + 1 + 1 = 0 := by omega
          have n4a : ¬ 0 = T.next + 1 + 1 + 1 + 1 := by omega
          have n4b : ¬ T.next + 1 + 1 + 1 + 1 = 0 := by omega
          have n5a : ¬ 0 = T.next + 1 + 1 + 1 + 1 + 1 := by omega
          have n5b : ¬ T.next + 1 + 1 + 1 + 1 + 1 = 0 := by omega
          have q0a : ¬ E.ln = 0 := by omega
          have q0b : ¬ 0 = E.ln := by omega
          have q1a : ¬ E.ln = 1 := by omega
          have q1b : ¬ 1 = E.ln := by omega
          have q2a : ¬ E.ln = 2 := by omega
          have q2b : ¬ 2 = E.ln := by omega
          have hi0 : i = 0 := by have h9 := firsts_len (encThread true) (Nat.le_of_lt hlt); rw [hr] at h9; exact h9.symm
          subst hi0
          have g1 := List.getElem?_eq_getElem hlt
          have hz := o3 _ (List.getElem_mem hlt)
          have bo : (0 + 1) * 120 ≤ 140737488355328 := by omega
          have hsucc := firsts_succ (encThread true) hlt
          have b1 : m.threads[0].batch.length * 8 ≤ 140737488355328 := by have h8 := hz.1; unfold lenOK at h8; omega
          have b2 : m.threads[0].tails.length * 8 ≤ 140737488355328 := by have h8 := hz.2; unfold lenOK at h8; omega
          rw [hr] at hsucc
          simp -implicitDefEqProofs [e1, e2, e3, e4, v0, v2, hlt, g1, List.replicate, hT0, n0a, n0b, n1a, n1b, n2a, n2b, n3a, n3b, n4a, n4b, n5a, n5b, q0a, q0b, q1a, q1b, q2a, q2b, b1, b2]
          obtain ⟨w, hw, hv1⟩ := v1
          refine ⟨k - 1, by omega, 0 + 1, .sl (T.next + 1 + 1 + 1) [] 0 0 1 true, by omega, by omega, by omega, by first | (simp; done) | (simp; omega), by simp [e1, e2, e3, e4, v0, v2, hlt, g1, List.replicate, hT0, n0a, n0b, n1a, n1b, n2a, n2b, n3a, n3b, n4a, n4b, n5a, n5b, q0a, q0b, q1a, q1b, q2a, q2b, b1, b2], hL5.keep (fun r h1 h2 => by simp only [TH.get_put, TH.get_new, TH.next_new, TH.next_put]; repeat (rw [if_neg (by omega)])), hL6.keep (fun r h1 h2 => by simp only [TH.get_put, TH.get_new, TH.next_new, TH.next_put]; repeat (rw [if_neg (by omega)])), by rw [hsucc]; exact .inr ⟨T.next + 1 + 1 + 1, [], by omega, by simp, by simp, by simp⟩, by simp [e1], by simp [e2], by simp [e3], by first | (simp; done) | (simp; exact wrap_nat (by omega)), by first | (simp; done) | (simp; omega), by simp [e1, e2, e3, e4, v0, v2, hlt, g1, List.replicate, hT0, n0a, n0b, n1a, n1b, n2a, n2b, n3a, n3b, n4a, n4b, n5a, n5b, q0a, q0b, q1a, q1b, q2a, q2b, b1, b2], ⟨w, hw, by simp [hv1, e1, e2, e3, e4, v0, v2, hlt, g1, List.replicate, hT0, n0a, n0b, n1a, n1b, n2a, n2b, n3a, n3b, n4a, n4b, n5a, n5b, q0a, q0b, q1a, q1b, q2a, q2b, b1, b2]⟩, by simp [e1, e2, e3, e4, v0, v2, hlt, g1, List.replicate, hT0, n0a, n0b, n1a, n1b, n2a, n2b, n3a, n3b, n4a, n4b, n5a, n5b, q0a, q0b, q1a, q1b, q2a, q2b, b1, b2]⟩
        · have t0 : True := trivial
          have n0a : ¬ 0 = T.next := by omega
          have n0b : ¬ T.next = 0 := by omega
          have n1a : ¬ 0 = T.next + 1 := by omega
          have n1b : ¬ T.next + 1 = 0 := by omega
          have n2a : ¬ 0 = T.next + 1 + 1 := by omega
          have n2b : ¬ T.next + 1 + 1 = 0 := by omega
          have n3a : ¬ 0 = T.next + 1 + 1 + 1 := by omega
          have n3b : ¬ T.next + 1 + 1 + 1 = 0 := by omega
          have n4a : ¬ 0 = T.next + 1 + 1 + 1 + 1 := by omega
          have n4b : ¬ T.next + 1 + 1 + 1 + 1 = 0 := by omega
          have n5a : ¬ 0 = T.next + 1 + 1 + 1 + 1 + 1 := by omega
          have n5b : ¬ T.next + 1 + 1 + 1 + 1 + 1 = 0 := by omega
          have q0a : ¬ E.ln = 0 := by omega
          have q0b : ¬ 0 = E.ln := by omega
          have q1a : ¬ E.ln = 1 := by omega
          have q1b : ¬ 1 = E.ln := by omega
          have q2a : ¬ E.ln = 2 := by omega
          have q2b : ¬ 2 = E.ln := by omega
          have g1 := List.getElem?_eq_getElem hlt
          have hz := o3 _ (List.getElem_mem hlt)
          have bo : (i + 1) * 120 ≤ 140737488355328 := by omega
          have hsucc := firsts_succ (encThread true) hlt
          have b1 : m.threads[i].batch.length * 8 ≤ 140737488355328 := by have h8 := hz.1; unfold lenOK at h8; omega
          have b2 : m.threads[i].tails.length * 8 ≤ 140737488355328 := by have h8 := hz.2; unfold lenOK at h8; omega
          have hRl := firsts_len (encThread true) (Nat.le_of_lt hlt)
          have hRa := firsts_row (encThread true) m.threads i 12 (fun _ => rfl)
          have m0a : ¬ r = T.next := by omega
          have m0b : ¬ T.next = r := by omega
          have m1a : ¬ r = T.next + 1 := by omega
          have m1b : ¬ T.next + 1 = r := by omega
          have m2a : ¬ r = T.next + 1 + 1 := by omega
          have m2b : ¬ T.next + 1 + 1 = r := by omega
          have m3a : ¬ r = T.next + 1 + 1 + 1 := by omega
          have m3b : ¬ T.next + 1 + 1 + 1 = r := by omega
          have m4a : ¬ r = T.next + 1 + 1 + 1 + 1 := by omega
          have m4b : ¬ T.next + 1 + 1 + 1 + 1 = r := by omega
          have m5a : ¬ r = T.next + 1 + 1 + 1 + 1 + 1 := by omega
          have m5b : ¬ T.next + 1 + 1 + 1 + 1 + 1 = r := by omega
          have r0a : ¬ r = 0 := by omega
          have r0b : ¬ 0 = r := by omega
          generalize firsts (encThread true) m.threads i = R at *
          have hRt : (∀ (x : List AV), x ∈ R → x.length = 12) = True := eq_true hRa
          simp -implicitDefEqProofs [e1, e2, e3, e4, v0, v2, hlt, g1, List.replicate, hT0, n0a, n0b, n1a, n1b, n2a, n2b, n3a, n3b, n4a, n4b, n5a, n5b, q0a, q0b, q1a, q1b, q2a, q2b, b1, b2, m0a, m0b, m1a, m1b, m2a, m2b, m3a, m3b, m4a, m4b, m5a, m5b, r0a, r0b, hTr, hRl, bo, hRt]
          obtain ⟨w, hw, hv1⟩ := v1
          refine ⟨k - 1, by omega, i + 1, .sl r [] (log.length + 1) 0 (i + 1) true, by omega, by omega, by omega, by first | (simp; done) | (simp; omega), by simp [e1, e2, e3, e4, v0, v2, hlt, g1, List.replicate, hT0, n0a, n0b, n1a, n1b, n2a, n2b, n3a, n3b, n4a, n4b, n5a, n5b, q0a, q0b, q1a, q1b, q2a, q2b, b1, b2, m0a, m0b, m1a, m1b, m2a, m2b, m3a, m3b, m4a, m4b, m5a, m5b, r0a, r0b, hTr, hRl, bo, hRt], hL5.keep (fun r h1 h2 => by simp only [TH.get_put, TH.get_new, TH.next_new, TH.next_put]; repeat (rw [if_neg (by omega)])), hL6.keep (fun r h1 h2 => by simp only [TH.get_put, TH.get_new, TH.next_new, TH.next_put]; repeat (rw [if_neg (by omega)])), by rw [hsucc]; exact .inr ⟨r, [] :: log, by omega, by first | (simp; done) | (simp; omega), by simp [hRl], by simp [e1, e2, e3, e4, v0, v2, hlt, g1, List.replicate, hT0, n0a, n0b, n1a, n1b, n2a, n2b, n3a, n3b, n4a, n4b, n5a, n5b, q0a, q0b, q1a, q1b, q2a, q2b, b1, b2, m0a, m0b, m1a, m1b, m2a, m2b, m3a, m3b, m4a, m4b, m5a, m5b, r0a, r0b, hTr, hRl, bo, hRt]⟩, by simp [e1], by simp [e2], by simp [e3], by first | (simp; done) | (simp; exact wrap_nat (by omega)), by first | (simp; done) | (simp; omega), by simp [e1, e2, e3, e4, v0, v2, hlt, g1, List.replicate, hT0, n0a, n0b, n1a, n1b, n2a, n2b, n3a, n3b, n4a, n4b, n5a, n5b, q0a, q0b, q1a, q1b, q2a, q2b, b1, b2, m0a, m0b, m1a, m1b, m2a, m2b, m3a, m3b, m4a, m4b, m5a, m5b, r0a, r0b, hTr, hRl, bo, hRt], ⟨w, hw, by simp [hv1, e1, e2, e3, e4, v0, v2, hlt, g1, List.replicate, hT0, n0a, n0b, n1a, n1b, n2a, n2b, n3a, n3b, n4a, n4b, n5a, n5b, q0a, q0b, q1a, q1b, q2a, q2b, b1, b2, m0a, m0b, m1a, m1b, m2a, m2b, m3a, m3b, m4a, m4b, m5a, m5b, r0a, r0b, hTr, hRl, bo, hRt]⟩, by simp [e1, e2, e3, e4, v0, v2, hlt, g1, List.replicate, hT0, n0a, n0b, n1a, n1b, n2a, n2b, n3a, n3b, n4a, n4b, n5a, n5b, q0a, q0b, q1a, q1b, q2a, q2b, b1, b2, m0a, m0b, m1a, m1b, m2a, m2b, m3a, m3b, m4a, m4b, m5a, m5b, r0a, r0b, hTr, hRl, bo, hRt]⟩
      · rw [firsts_all _ (by omega)] at hL
        obtain ⟨w, hw, hv1⟩ := v1
        rcases hL5 with ⟨h5, rfl⟩ | ⟨r5, log5, h51, h52, rfl, h53⟩ <;> rcases hL6 with ⟨h6, rfl⟩ | ⟨r6, log6, h61, h62, rfl, h63⟩ <;> rcases hL with ⟨h7, rfl⟩ | ⟨r7, log7, h71, h72, rfl, h73⟩
        · have t0 : True := trivial
          simp -implicitDefEqProofs [e1, e2, e3, e4, v0, v2, hlt, hT0, hv1, hw, h5, h6, h7]
        · have t0 : True := trivial
          have z7a : ¬ r7 = 0 := by omega
          have z7b : ¬ 0 = r7 := by omega
          simp -implicitDefEqProofs [e1, e2, e3, e4, v0, v2, hlt, hT0, hv1, hw, h5, h6, h73, z7a, z7b]
        · have t0 : True := trivial
          have z6a : ¬ r6 = 0 := by omega
          have z6b : ¬ 0 = r6 := by omega
          simp -implicitDefEqProofs [e1, e2, e3, e4, v0, v2, hlt, hT0, hv1, hw, h5, h63, h7, z6a, z6b]
        · have t0 : True := trivial
          have z6a : ¬ r6 = 0 := by omega
          have z6b : ¬ 0 = r6 := by omega
          have z67 : ¬ r6 = r7 := by omega
          have z7a : ¬ r7 = 0 := by omega
          have z7b : ¬ 0 = r7 := by omega
          have z76 : ¬ r7 = r6 := by omega
          simp -implicitDefEqProofs [e1, e2, e3, e4, v0, v2, hlt, hT0, hv1, hw, h5, h63, h73, z6a, z6b, z67, z7a, z7b, z76]
        · have t0 : True := trivial
          have z5a : ¬ r5 = 0 := by omega
          have z5b : ¬ 0 = r5 := by omega
          simp -implicitDefEqProofs [e1, e2, e3, e4, v0, v2, hlt, hT0, hv1, hw, h53, h6, h7, z5a, z5b]
        · have t0 : True := trivial
          have z5a : ¬ r5 = 0 := by omega
          have z5b : ¬ 0 = r5 := by omega
          have z57 : ¬ r5 = r7 := by omega
          have z7a : ¬ r7 = 0 := by omega
          have z7b : ¬ 0 = r7 := by omega
          have z75 : ¬ r7 = r5 := by omega
          simp -implicitDefEqProofs [e1, e2, e3, e4, v0, v2, hlt, hT0, hv1, hw, h53, h6, h73, z5a, z5b, z57, z7a, z7b, z75]
        · have t0 : True := trivial
          have z5a : ¬ r5 = 0 := by omega
          have z5b : ¬ 0 = r5 := by omega
          have z56 : ¬ r5 = r6 := by omega
          have z6a : ¬ r6 = 0 := by omega
          have z6b : ¬ 0 = r6 := by omega
          have z65 : ¬ r6 = r5 := by omega
          simp -implicitDefEqProofs [e1, e2, e3, e4, v0, v2, hlt, hT0, hv1, hw, h53, h63, h7, z5a, z5b, z56, z6a, z6b, z65]
        · have t0 : True := trivial
          have z5a : ¬ r5 = 0 := by omega
          have z5b : ¬ 0 = r5 := by omega
          have z56 : ¬ r5 = r6 := by omega
          have z57 : ¬ r5 = r7 := by omega
          have z6a : ¬ r6 = 0 := by omega
          have z6b : ¬ 0 = r6 := by omega
          have z65 : ¬ r6 = r5 := by omega
          have z67 : ¬ r6 = r7 := by omega
          have z7a : ¬ r7 = 0 := by omega
          have z7b : ¬ 0 = r7 := by omega
          have z75 : ¬ r7 = r5 := by omega
          have z76 : ¬ r7 = r6 := by omega
          simp -implicitDefEqProofs [e1, e2, e3, e4, v0, v2, hlt, hT0, hv1, hw, h53, h63, h73, z5a, z5b, z56, z57, z6a, z6b, z65, z67, z7a, z7b, z75, z76]

end Go.Ab

namespace Go.Ab

end Go.Ab

namespace Go.Ab

def isReplica (m : Machine) (r : Int) : Prop := 0 ≤ r ∧ r < m.replicas.length
def isLog (m : Machine) (g : Int) : Prop := 0 ≤ g ∧ g < m.rings.length
instance (m : Machine) (r : Int) : Decidable (isReplica m r) := inferInstanceAs (Decidable (_ ∧ _))
instance (m : Machine) (g : Int) : Decidable (isLog m g) := inferInstanceAs (Decidable (_ ∧ _))
@[reducible] def thereP (m : Machine) (r g : Int) : Prop := machineMay m ∧ isReplica m r ∧ isLog m g
@[reducible] def thread0P (c : Config) (t : Int) : Prop := 0 ≤ t ∧ t < c.threads

theorem c_There (m : Machine) (r g : Int) (h : okM m) : PCall tab 53 [.vp [encMachine false m] 0 0, .int .i64 r, .int .i64 g] (.bool (decide (thereP m r g))) := by
  refine PCall.of (F := m53) rfl rfl rfl rfl ?_
  simp -implicitDefEqProofs [m53]
  repeat' (first
    | (with_reducible refine guard_by (fun hb => ?_) (fun hb => ?_) <;> rw [hb] <;> (try simp at hb) <;> simp -implicitDefEqProofs [hb])
    | (with_reducible refine cond_by (fun hb => ?_) (fun hb => ?_) <;> rw [hb] <;> (try simp at hb) <;> simp -implicitDefEqProofs [hb])
    | ((refine CallT.bool2 ?_ (c_startMay m h) (fun hb => ?_) (fun hb => ?_); focus (simp; done)) <;> simp -implicitDefEqProofs [hb]))
  all_goals simp only [thereP, isReplica, isLog]
  all_goals (first | omega | (intro hh; omega) | exact fun hh => hb hh.1 | (intro hh; have h5 := hh.2.1; omega) | (intro hh; have h5 := hh.2.2; omega) | exact ⟨by assumption, ⟨by omega, by omega⟩, by omega, by omega⟩ | (rw [Bool.eq_iff_iff]; simp_all; done) | (simp_all; done))

theorem c_cfgThread (c : Config) (t : Int) : PCall tab 54 [.agg (encConfig c), .int .i64 t] (.bool (decide (cfgMay c ∧ 0 ≤ t ∧ t < c.threads))) := by
  refine PCall.of (F := m54) rfl rfl rfl rfl ?_
  simp -implicitDefEqProofs [m54]
  repeat' (first
    | (with_reducible refine guard_by (fun hb => ?_) (fun hb => ?_) <;> rw [hb] <;> (try simp at hb) <;> simp -implicitDefEqProofs [hb])
    | (with_reducible refine cond_by (fun hb => ?_) (fun hb => ?_) <;> rw [hb] <;> (try simp at hb) <;> simp -implicitDefEqProofs [hb])
    | (refine CallT.bool2 rfl (c_cfgMay c) (fun hb => ?_) (fun hb => ?_) <;> simp -implicitDefEqProofs [hb]))
  all_goals (first | omega | exact fun hh => hb hh.1 | (intro hh; omega) | exact ⟨by assumption, by omega, by omega⟩ | (rw [Bool.eq_iff_iff]; simp_all; done) | (simp_all; done))

theorem modify_of {α : Type} {l : List α} {i : Nat} {f : α → α} {p : α} (h : l[i]? = some p) : l.modify i f = l.set i (f p) := by
  induction l generalizing i with
  | nil => simp at h
  | cons x l ih =>
    cases i with
    | zero => simp only [List.getElem?_cons_zero, Option.some.injEq] at h; subst h; rfl
    | succ i => simp only [List.getElem?_cons_succ] at h; simp only [List.modify_succ_cons, List.set_cons_succ, ih h]


theorem ok_mach1 (m : Machine) (n : Int) : okT (.tup [.agg (encMachine true m), .int .i64 n]) = true := ok_machine m .i64 n
end Go.Ab

namespace Go.Ab

theorem c_cfgReplica (c : Config) (t : Int) (h : cfgMay c ∧ 0 ≤ t ∧ t < c.threads) : PCall tab 70 [.agg (encConfig c), .int .i64 t] (.tup [.int .i64 (Int.tmod t c.replicas), .int .i64 0]) := by
  have hr : ¬ c.replicas = 0 := by have := h.1.2.1; omega
  refine PCall.of (F := m70) rfl rfl rfl rfl ?_
  simp -implicitDefEqProofs [m70]
  refine CallT.bool2 rfl (c_cfgThread c t) (fun hb => ?_) (fun hb => absurd h hb)
  simp -implicitDefEqProofs [hr]
@[reducible] def waitT (c : Config) (r g : Int) (i : Int) (t : Thread) : Prop := Int.tmod i c.replicas = r ∧ t.log = g ∧ t.posted = true ∧ updates t.op
def waits (m : Machine) (r g : Int) (i : Nat) : Bool := match m.threads[i]? with
  | some t => decide (waitT m.config r g i t)
  | none => false
def wsTo (m : Machine) (r g : Int) (i : Nat) : List Int := ((List.range i).filter (waits m r g)).map (fun j : Nat => (j : Int))
def waitM (m : Machine) (r g : Int) : List Int × Int := if thereP m r g then (wsTo m r g m.threads.length, 0) else ([], 1600)
theorem waitM_yes {m : Machine} {r g : Int} (h : thereP m r g) : waitM m r g = (wsTo m r g m.threads.length, 0) := if_pos h
theorem waitM_no {m : Machine} {r g : Int} (h : ¬ thereP m r g) : waitM m r g = ([], 1600) := if_neg h
theorem wsTo_yes {m : Machine} {r g : Int} {i : Nat} (hi : i < m.threads.length) (h : waitT m.config r g i m.threads[i]) : wsTo m r g (i + 1) = wsTo m r g i ++ [(i : Int)] := by
  have hw : waits m r g i = true := by unfold waits; rw [List.getElem?_eq_getElem hi]; simpa using h
  unfold wsTo
  rw [List.range_succ, List.filter_append, List.map_append, List.filter_cons_of_pos hw]
  rfl
theorem wsTo_no {m : Machine} {r g : Int} {i : Nat} (hi : i < m.threads.length) (h : ¬ waitT m.config r g i m.threads[i]) : wsTo m r g (i + 1) = wsTo m r g i := by
  have hw : ¬ waits m r g i = true := by unfold waits; rw [List.getElem?_eq_getElem hi]; simpa using h
  unfold wsTo
  rw [List.range_succ, List.filter_append, List.map_append, List.filter_cons_of_neg hw]
  simp
theorem wsTo_len (m : Machine) (r g : Int) (i : Nat) : (wsTo m r g i).length ≤ i := by
  unfold wsTo
  rw [List.length_map]
  exact Nat.le_trans (List.length_filter_le _ _) (by simp)
theorem ok_waits (l : List Int) (n : Int) : okT (.tup [.vs (l.map encInt) true, .int .i64 n]) = true := by simp [okT, okP, okC, List.all_map, flatV]

def WtI (m : Machine) (r g : Int) (k : Nat) (E : TE) (T : TH) : Prop := ∃ (i : Nat), i + k = m.threads.length ∧ 1 ≤ T.next ∧ T.get 0 = .raw ((encMachine false m).map .a) ∧ GrowL T (E.get 8) ((wsTo m r g i).map encInt) 1 T.next ∧ E.get 1 = .a (.int .i64 r) ∧ E.get 2 = .a (.int .i64 g) ∧ E.get 3 = .pt 0 [] 0 0 0 ∧ E.get 18 = .a (.vs (m.threads.map (encThread false)) false) ∧ E.get 19 = .a (.int .i64 m.threads.length) ∧ E.get 20 = .a (.int .i64 i)
def WtJ (m : Machine) (r g : Int) (k : Nat) (E : TE) (T : TH) : Prop := ∃ (i : Nat), i + k = m.threads.length ∧ GrowL T (E.get 8) ((wsTo m r g i).map encInt) 0 T.next ∧ E.get 1 = .a (.int .i64 r) ∧ E.get 2 = .a (.int .i64 g) ∧ E.get 3 = .lp 0 0 ∧ E.get 9 = .a (.int .i64 i) ∧ 1 ≤ E.ln ∧ E.var 0 = some ((encMachine false m).map .a)

set_option maxHeartbeats 1000000 in
theorem c_Waiting (m : Machine) (r g : Int) (h : okM m) : PCall tab 27 [.agg (encMachine false m), .int .i64 r, .int .i64 g] (.tup [.vs ((waitM m r g).1.map encInt) true, .int .i64 (waitM m r g).2]) := by
  by_cases hall : thereP m r g
  · rw [waitM_yes hall]
    have hall' := hall
    obtain ⟨h1, hr, hg⟩ := hall
    have hc := h1.1
    have hn := h1.2.1
    simp only [macNums] at hn
    have hl3 : m.threads.length ≤ 4 := by have := hc.2.2.2.1; omega
    have hrn : ¬ m.config.replicas = 0 := by have := hc.2.1; omega
    refine PCall.of (F := m27) rfl rfl rfl (ok_waits _ _) ?_
    simp -implicitDefEqProofs [m27]
    refine CallT.bool2 (by simp) (c_There m r g h) (fun hb => ?_) (fun hb => absurd hall' hb)
    simp -implicitDefEqProofs
    refine loop_by (WtI m r g) ?_ m.threads.length ⟨0, by simp, by simp, by simp, .inl ⟨rfl, by simp⟩, by simp, by simp, by simp, by simp, by simp, by simp⟩
    rintro k E T ⟨i, hi, hn1, hT0, hL, e1, e2, e3, e18, e19, e20⟩
    by_cases hlt : i < m.threads.length
    · have g1 := List.getElem?_eq_getElem hlt
      have z1 : ¬ 0 = T.next := by omega
      have z2 : ¬ T.next = 0 := by omega
      have hwl := wsTo_len m r g i
      have bo : ((wsTo m r g i).length + 1) * 8 ≤ 140737488355328 := by omega
      simp -implicitDefEqProofs [e1, e2, e3, e18, e19, e20, hT0, hlt, g1, z1, z2, List.replicate]
      refine CallT.pure (c_cfgReplica m.config i ⟨hc, by omega, by omega⟩) (by simp [e1, e2, e3, e18, e19, e20, hT0, hlt, g1, z1, z2, List.replicate]) rfl ?_
      simp -implicitDefEqProofs [e1, e2, e3, e18, e19, e20, hT0, hlt, g1, z1, z2, List.replicate]
      repeat' (first
        | (with_reducible refine guard_by (fun hb => ?_) (fun hb => ?_) <;> rw [hb] <;> (try simp at hb) <;> simp -implicitDefEqProofs [hb, e1, e2, e3, e18, e19, e20, hT0, hlt, g1, z1, z2, List.replicate])
        | (with_reducible refine cond_by (fun hb => ?_) (fun hb => ?_) <;> rw [hb] <;> (try simp at hb) <;> simp -implicitDefEqProofs [hb, e1, e2, e3, e18, e19, e20, hT0, hlt, g1, z1, z2, List.replicate])
        | (refine CallT.bool2 rfl (c_updates m.threads[i].op) (fun hb => ?_) (fun hb => ?_) <;> simp -implicitDefEqProofs [hb, e1, e2, e3, e18, e19, e20, hT0, hlt, g1, z1, z2, List.replicate]))
      all_goals (try (
        have hno : ¬ waitT m.config r g i m.threads[i] := by
          intro hh; obtain ⟨h5, h6, h7, h8⟩ := hh; first | exact hb h8 | omega | (rw [h7] at hb; cases hb) | simp_all
        refine ⟨k - 1, by omega, ?_⟩
        rw [← wsTo_no hlt hno] at hL
        exact ⟨i + 1, by omega, hn1, hT0, by simpa using hL, by simp [e1], by simp [e2], by simp [e3], by simp [e18], by simp [e19], by first | (simp; done) | (simp; exact wrap_nat (by omega))⟩))
      have hyes : waitT m.config r g i m.threads[i] := ⟨by omega, by omega, by assumption, by assumption⟩
      have hsucc := wsTo_yes hlt hyes
      rcases hL with ⟨hw0, e8⟩ | ⟨j, log, hj1, hj2, e8, hTj⟩
      · have hw1 : wsTo m r g i = [] := by simpa using hw0
        rw [hw1] at hsucc
        simp -implicitDefEqProofs [e1, e2, e3, e18, e19, e20, hT0, hlt, g1, z1, z2, List.replicate, e8]
        refine ⟨k - 1, by omega, i + 1, by omega, by first | (simp; done) | (simp; omega), by simp [hT0, z1, z2], by simp only [hsucc, List.map_append]; exact .inr ⟨T.next + 1, [], by omega, by simp, by simp, by simp⟩, by simp [e1], by simp [e2], by simp [e3], by simp [e18], by simp [e19], by first | (simp; done) | (simp; exact wrap_nat (by omega))⟩
      · have y1 : ¬ j = T.next := by omega
        have y2 : ¬ T.next = j := by omega
        have y3 : ¬ T.next + 1 = j := by omega
        have y4 : ¬ j = T.next + 1 := by omega
        have y5 : ¬ j + 1 = 0 := by omega
        have y6 : ¬ j = 0 := by omega
        have y7 : ¬ 0 = j := by omega
        have hRl : ((wsTo m r g i).map encInt).length = (wsTo m r g i).length := List.length_map _
        simp -implicitDefEqProofs [e1, e2, e3, e18, e19, e20, hT0, hlt, g1, z1, z2, List.replicate, e8, hTj, y1, y2, y3, y4, y6, y7, bo]
        refine ⟨k - 1, by omega, i + 1, by omega, by first | (simp; done) | (simp; omega), by simp [hT0, y1, y2, y3, y4, y6, y7, z1, z2], by simp only [hsucc, List.map_append]; exact .inr ⟨j, [] :: log, by omega, by first | (simp; done) | (simp; omega), by simp, by simp [y1, y2, y3, y4]⟩, by simp [e1], by simp [e2], by simp [e3], by simp [e18], by simp [e19], by first | (simp; done) | (simp; exact wrap_nat (by omega))⟩
    · have hie : i = m.threads.length := by omega
      subst hie
      have hct : True := trivial
      rcases hL with ⟨hw0, e8⟩ | ⟨j, log, hj1, hj2, e8, hTj⟩
      · simp -implicitDefEqProofs [e1, e2, e3, e18, e19, e20, hT0, hlt, List.replicate, e8]
        simpa using hw0
      · simp -implicitDefEqProofs [e1, e2, e3, e18, e19, e20, hT0, hlt, List.replicate, e8, hTj]
  · rw [waitM_no hall]
    refine PCall.of (F := m27) rfl rfl rfl (ok_waits _ _) ?_
    simp -implicitDefEqProofs [m27]
    refine CallT.bool2 (by simp) (c_There m r g h) (fun hb => absurd hb hall) (fun hb => ?_)
    simp -implicitDefEqProofs

end Go.Ab

namespace Go.Ab


@[reducible] def atP (m : Machine) (t : Int) : Prop := machineMay m ∧ thread0P m.config t
theorem c_boardThread (m : Machine) (t : Int) (h : okM m) : PCall tab 68 [.vp [encMachine false m] 0 0, .int .i64 t] (.bool (decide (atP m t))) := by
  refine PCall.of (F := m68) rfl rfl rfl rfl ?_
  simp -implicitDefEqProofs [m68]
  refine CallT.bool2 (by simp) (c_startMay m h) (fun hb => ?_) (fun hb => ?_)
  · simp -implicitDefEqProofs
    refine CallT.bool2 rfl (c_cfgThread m.config t) (fun hb2 => ?_) (fun hb2 => ?_)
    · simp -implicitDefEqProofs
      exact ⟨hb, hb2.2⟩
    · simp -implicitDefEqProofs
      exact fun hh h2 => by
        rcases Int.lt_or_le t m.config.threads with h3 | h3
        · exact absurd ⟨hb.1, h2, h3⟩ hb2
        · exact h3
  · simp -implicitDefEqProofs
    exact fun hh => absurd hh hb

end Go.Ab

namespace Go.Ab

def unpost (x : Thread) : Thread := { x with posted := false }
def clearP (ws : List Int) (l : List Thread) : List Thread := ws.foldl (fun l w => l.modify w.toNat unpost) l
theorem clearP_len (ws : List Int) : ∀ (l : List Thread), (clearP ws l).length = l.length := by
  induction ws with
  | nil => intro l; rfl
  | cons w ws ih => intro l; show (clearP ws (l.modify w.toNat unpost)).length = _; rw [ih]; simp
theorem clearP_succ {ws : List Int} {i : Nat} (h : i < ws.length) (l : List Thread) : clearP (ws.take (i + 1)) l = (clearP (ws.take i) l).modify ws[i].toNat unpost := by
  unfold clearP
  rw [List.take_add_one, List.getElem?_eq_getElem h, List.foldl_append]
  rfl
theorem modify_comm {l : List Thread} {i j : Nat} {f g : Thread → Thread} (h : ∀ x, f (g x) = g (f x)) : (l.modify i f).modify j g = (l.modify j g).modify i f := by
  apply List.ext_getElem?
  intro k
  simp only [List.getElem?_modify]
  cases l[k]? with
  | none => by_cases e1 : i = k <;> by_cases e2 : j = k <;> simp [e1, e2]
  | some x => by_cases e1 : i = k <;> by_cases e2 : j = k <;> simp [e1, e2, h]
theorem clearP_modify (ws : List Int) {i : Nat} {f : Thread → Thread} (h : ∀ x, f (unpost x) = unpost (f x)) : ∀ (l : List Thread), clearP ws (l.modify i f) = (clearP ws l).modify i f := by
  induction ws with
  | nil => intro l; rfl
  | cons w ws ih =>
    intro l
    show clearP ws ((l.modify i f).modify w.toNat unpost) = (clearP ws (l.modify w.toNat unpost)).modify i f
    rw [modify_comm h, ih]
theorem clearP_batch (ws : List Int) : ∀ (l : List Thread) (i : Nat), ((clearP ws l)[i]?.map (·.batch)) = l[i]?.map (·.batch) := by
  induction ws with
  | nil => intro l i; rfl
  | cons w ws ih =>
    intro l i
    show ((clearP ws (l.modify w.toNat unpost))[i]?.map (·.batch)) = _
    rw [ih, List.getElem?_modify]
    cases l[i]? with
    | none => by_cases e : w.toNat = i <;> simp [e]
    | some x => by_cases e : w.toNat = i <;> simp [e, unpost]

theorem wsTo_mem {m : Machine} {r g : Int} {n : Nat} {w : Int} (h : w ∈ wsTo m r g n) : 0 ≤ w ∧ w < n := by
  unfold wsTo at h
  obtain ⟨j, hj, rfl⟩ := List.mem_map.1 h
  have := List.mem_range.1 (List.mem_filter.1 hj).1
  omega

def ownOf (m : Machine) (t : Int) : Int := Int.tmod t m.config.replicas
def logOfT (m : Machine) (t : Nat) : Int := (m.threads[t]?.map (·.log)).getD 0
def stepOfT (m : Machine) (t : Nat) : Int := (m.threads[t]?.map (·.step)).getD 0
def batchFor (m : Machine) (t : Int) : List Int := wsTo m (ownOf m t) (logOfT m t.toNat) m.threads.length
def setBatch (ws : List Int) (x : Thread) : Thread := { x with batch := ws }
def setLoad (s : Int) (x : Thread) : Thread := { x with at_ := 0, step := s }
def takeM (m : Machine) (t : Int) : Machine := { m with threads := (clearP (batchFor m t) (m.threads.modify t.toNat (setBatch (batchFor m t)))).modify t.toNat (setLoad (if batchFor m t = [] then 9 else 4)) }
def takeM' (m : Machine) (t : Int) (ws : List Int) (x : Int) : Machine := { m with threads := (clearP ws (m.threads.modify t.toNat (setBatch ws))).modify t.toNat (setLoad x) }
theorem takeM_eq {m : Machine} {t : Int} {ws : List Int} (h : batchFor m t = ws) : takeM m t = takeM' m t ws (if ws = [] then 9 else 4) := by subst h; rfl
@[reducible] def collP (m : Machine) (t : Int) : Prop := atP m t ∧ stepOfT m t.toNat = 3
def collM (m : Machine) (t : Int) : Machine × Int := if collP m t then (takeM m t, 0) else (noMachine, 1700)
theorem collM_yes {m : Machine} {t : Int} (h : collP m t) : collM m t = (takeM m t, 0) := if_pos h
theorem collM_no {m : Machine} {t : Int} (h : ¬ collP m t) : collM m t = (noMachine, 1700) := if_neg h

theorem own_there {m : Machine} {t : Int} (h : atP m t) : thereP m (ownOf m t) (logOfT m t.toNat) := by
  obtain ⟨h1, h2, h3⟩ := h
  have hc := h1.1
  have hn := h1.2.1
  simp only [macNums] at hn
  have hr := hc.2.1
  have hi : t.toNat < m.threads.length := by omega
  have hat := h1.2.2.2.2.1 _ (List.getElem_mem hi)
  have hnum := hat.1
  simp only [atNums] at hnum
  have hlg : logOfT m t.toNat = m.threads[t.toNat].log := by simp [logOfT, hi]
  refine ⟨h1, ⟨?_, ?_⟩, ?_, ?_⟩
  · exact Int.tmod_nonneg _ h2
  · have := Int.tmod_lt_of_pos t (show 0 < m.config.replicas by omega)
    unfold ownOf
    omega
  · rw [hlg]; omega
  · rw [hlg]; omega

def TkI (m : Machine) (t : Int) (ws : List Int) (k : Nat) (E : TE) (T : TH) : Prop := ∃ (i : Nat) (L : List Thread), i + k = ws.length ∧ L = clearP (ws.take i) (m.threads.modify t.toNat (setBatch ws)) ∧ T.get 1 = .tree (m.rings.map (encRing true)) true [] ∧ T.get 2 = .tree (m.replicas.map (encReplica true)) true [] ∧ T.get 3 = .tree (L.map (encThread true)) true [[(t.toNat, 6)]] ∧ T.get 4 = .tree (m.history.map encEvent) true [] ∧
  T.get 5 = .raw [.a (.int .i64 m.config.object), .a (.int .i64 m.config.replicas), .a (.int .i64 m.config.logs), .a (.int .i64 m.config.threads), .a (.int .i64 m.config.slots), .sl 1 [] 0 0 m.rings.length true, .sl 2 [] 0 0 m.replicas.length true, .sl 3 [] 0 0 m.threads.length true, .sl 4 [] 0 0 m.history.length true] ∧
  E.get 0 = .pt 5 [] 0 0 0 ∧ E.get 4 = .pt 3 [] 0 t.toNat 0 ∧ E.get 42 = .sl 3 [(t.toNat, 6)] 1 0 ws.length true ∧ E.get 43 = .a (.int .i64 ws.length) ∧ E.get 44 = .a (.int .i64 i)

set_option maxHeartbeats 1000000 in
theorem c_Collect (m : Machine) (t : Int) (h : okM m) : PCall tab 33 [.agg (encMachine false m), .int .i64 t] (.tup [.agg (encMachine true (collM m t).1), .int .i64 (collM m t).2]) := by
  by_cases hall : collP m t
  · rw [collM_yes hall]
    have hall' := hall
    obtain ⟨⟨h1, ht⟩, hs⟩ := hall
    have hc := h1.1
    have hn := h1.2.1
    simp only [macNums] at hn
    have hrn : ¬ m.config.replicas = 0 := by have := hc.2.1; omega
    have ht0 := ht.1
    have ht1 : t < m.threads.length := by have := ht.2; omega
    have hi : t.toNat < m.threads.length := by omega
    have z0 : 0 < m.threads.length := by omega
    have hst : m.threads[t.toNat].step = 3 := by have := hs; simpa [stepOfT, hi] using this
    have hlg : logOfT m t.toNat = m.threads[t.toNat].log := by simp [logOfT, hi]
    have hthere := own_there ⟨h1, ht⟩
    rw [hlg] at hthere
    have hwm := waitM_yes hthere
    have hbf : batchFor m t = wsTo m (ownOf m t) m.threads[t.toNat].log m.threads.length := by unfold batchFor; rw [hlg]
    have hmem : ∀ w ∈ batchFor m t, 0 ≤ w ∧ w < m.threads.length := fun w hw => by unfold batchFor at hw; exact wsTo_mem hw
    have hbl : (batchFor m t).length ≤ 4 := by have := wsTo_len m (ownOf m t) (logOfT m t.toNat) m.threads.length; have := hc.2.2.2.1; unfold batchFor; omega
    rw [← hbf] at hwm
    obtain ⟨ws, hbf'⟩ : ∃ ws, batchFor m t = ws := ⟨_, rfl⟩
    rw [hbf'] at hwm hbf hmem hbl
    unfold ownOf at *
    refine PCall.of (F := m33) rfl rfl rfl (ok_mach1 _ _) ?_
    simp -implicitDefEqProofs [m33]
    refine CallT.bool2 (by simp) (c_boardThread m t h) (fun hb => ?_) (fun hb => absurd ⟨h1, ht⟩ hb)
    simp -implicitDefEqProofs [ht0, ht1, hi, z0, hst]
    refine CallT.pure (c_startCopy m h (whole_of h1)) (by simp) (ok_mach _) ?_
    simp -implicitDefEqProofs
    refine CallT.body (F := m81) rfl rfl rfl rfl ?_
    simp -implicitDefEqProofs [m81, ht0, ht1, hi, z0]
    refine CallT.pure (c_cfgReplica m.config t ⟨hc, ht.1, ht.2⟩) rfl rfl ?_
    simp -implicitDefEqProofs [ht0, ht1, hi, z0]
    refine CallT.pure (c_Waiting m (t.tmod m.config.replicas) m.threads[t.toNat].log h) (by simp) (ok_waits _ _) ?_
    rw [hwm]
    simp -implicitDefEqProofs [ht0, ht1, hi, z0]
    refine loop_by (TkI m t ws) ?_ ws.length ⟨0, m.threads.modify t.toNat (setBatch ws), by simp, rfl, by simp, by simp, ?_, by simp, by simp, by simp, by simp, by simp, by simp, by simp⟩
    · rintro k E T ⟨i, L, hik, hL, hT1, hT2, hT3, hT4, hT5, e0, e4, e42, e43, e44⟩
      have hLl : L.length = m.threads.length := by rw [hL, clearP_len, List.length_modify]
      have hLb : L[t.toNat]?.map (·.batch) = some ws := by rw [hL, clearP_batch, List.getElem?_modify_eq, List.getElem?_eq_getElem hi]; rfl
      have hiL : t.toNat < L.length := by omega
      have hLb2 : L[t.toNat].batch = ws := by rw [List.getElem?_eq_getElem hiL] at hLb; simpa using hLb
      have gL := List.getElem?_eq_getElem hiL
      by_cases hlt : i < ws.length
      · have g1 := List.getElem?_eq_getElem hlt
        have hw := hmem _ (List.getElem_mem hlt)
        have hw0 := hw.1
        have hw1 := hw.2
        have hwn : ws[i].toNat < L.length := by omega
        have zL : 0 < L.length := by omega
        have hwn' : ws[i].toNat < m.threads.length := by omega
        have zw : 0 < ws.length := by omega
        simp -implicitDefEqProofs [e0, e4, e42, e43, e44, hT1, hT2, hT3, hT4, hT5, hlt, g1, hw0, hw1, hwn', z0, hi, zw, hLb2, hLl]
        refine ⟨k - 1, by omega, i + 1, L.modify ws[i].toNat unpost, by omega, by rw [clearP_succ hlt, hL], by simp [hT1], by simp [hT2], ?_, by simp [hT4], by simp [hT5], by simp [e0], by simp [e4], by simp [e42], by simp [e43], by first | (simp; done) | (simp; exact wrap_nat (by omega))⟩
        rw [modify_of (List.getElem?_eq_getElem hwn)]
        simp [encThread, unpost]
      · simp -implicitDefEqProofs [e0, e4, e42, e43, e44, hT1, hT2, hT3, hT4, hT5, hlt, z0, hi, hLb2, hLl]
        have hL' : clearP ws (m.threads.modify t.toNat (setBatch ws)) = L := by rw [hL, List.take_of_length_le (by omega)]
        have hfin : ∀ x : Int, (takeM' m t ws x) = { m with threads := L.set t.toNat (setLoad x L[t.toNat]) } := fun x => by unfold takeM'; rw [hL', modify_of (List.getElem?_eq_getElem hiL)]
        rw [takeM_eq hbf', hfin]
        by_cases hws : ws = []
        · have hw0 : ws.length = 0 := by rw [hws]; rfl
          simp -implicitDefEqProofs [e0, e4, e42, e43, e44, hT1, hT2, hT3, hT4, hT5, hlt, z0, hi, hLb2, hLl, hw0, hws]
          all_goals simp [encThread, setLoad, hLb2, hws]
        · have hw0 : ¬ ws.length = 0 := fun e => hws (List.length_eq_zero_iff.1 e)
          have hw1 : ((ws.length : Int) == 0) = false := by simp [hw0]
          simp -implicitDefEqProofs [e0, e4, e42, e43, e44, hT1, hT2, hT3, hT4, hT5, hlt, z0, hi, hLb2, hLl, hw1, hws]
          all_goals simp [encThread, setLoad, hLb2, hws]
    · rw [modify_of (List.getElem?_eq_getElem hi)]
      simp [encThread, setBatch]
  · rw [collM_no hall]
    refine PCall.of (F := m33) rfl rfl rfl (ok_mach1 _ _) ?_
    simp -implicitDefEqProofs [m33]
    refine CallT.bool2 (by simp) (c_boardThread m t h) (fun hb => ?_) (fun hb => ?_)
    · obtain ⟨h1, ht⟩ := hb
      have hn := h1.2.1
      simp only [macNums] at hn
      have ht0 := ht.1
      have ht1 : t < m.threads.length := by have := ht.2; omega
      have hi : t.toNat < m.threads.length := by omega
      have z0 : 0 < m.threads.length := by omega
      have hst : ¬ m.threads[t.toNat].step = 3 := fun e => hall ⟨⟨h1, ht⟩, by simpa [stepOfT, hi] using e⟩
      simp -implicitDefEqProofs [ht0, ht1, hi, z0, hst]
    · simp -implicitDefEqProofs

end Go.Ab

namespace Go.Ab

theorem c_there13 (m : Machine) (r g t : Int) (h : okM m) (hin : ∀ r ∈ m.rings, inR r.head) : PCall tab 57 [.agg (encMachine false m), .int .i64 r, .int .i64 g, .int .i64 t] (.bool (decide (thereP m r g ∧ thread0P m.config t))) := by
  refine PCall.of (F := m57) rfl rfl rfl rfl ?_
  simp -implicitDefEqProofs [m57]
  by_cases hm : machineMay m
  · have hc := hm.1
    have hn := hm.2.1
    simp only [macNums] at hn
    have w1 : IntKind.wrap .i64 (m.config.replicas - 1) = m.config.replicas - 1 := by have := hc.2.1; exact wrap_of (by omega) (by omega)
    have w2 : IntKind.wrap .i64 (m.config.logs - 1) = m.config.logs - 1 := by have := hc.2.2.1; exact wrap_of (by omega) (by omega)
    have w3 : IntKind.wrap .i64 (m.config.threads - 1) = m.config.threads - 1 := by have := hc.2.2.2.1; exact wrap_of (by omega) (by omega)
    repeat' (first
      | (with_reducible refine guard_by (fun hb => ?_) (fun hb => ?_) <;> rw [hb] <;> (try simp at hb) <;> simp -implicitDefEqProofs [hb, w1, w2, w3])
      | (with_reducible refine cond_by (fun hb => ?_) (fun hb => ?_) <;> rw [hb] <;> (try simp at hb) <;> simp -implicitDefEqProofs [hb, w1, w2, w3])
      | ((refine CallT.bool2 ?_ (c_May13 m h hin) (fun hb => ?_) (fun hb => ?_); focus (simp [w1, w2, w3]; done)) <;> simp -implicitDefEqProofs [hb, w1, w2, w3])
      | (refine CallT.bool2 rfl (c_upTo13 r 0 _) (fun hb => ?_) (fun hb => ?_) <;> simp -implicitDefEqProofs [hb, w1, w2, w3])
      | (refine CallT.bool2 rfl (c_upTo13 g 0 _) (fun hb => ?_) (fun hb => ?_) <;> simp -implicitDefEqProofs [hb, w1, w2, w3])
      | (refine CallT.bool2 rfl (c_upTo13 t 0 _) (fun hb => ?_) (fun hb => ?_) <;> simp -implicitDefEqProofs [hb, w1, w2, w3]))
    all_goals simp only [thereP, isReplica, isLog, thread0P]
    all_goals (first | (intro hh; omega) | exact ⟨⟨hm, ⟨by omega, by omega⟩, by omega, by omega⟩, by omega, by omega⟩ | (exfalso; exact hb hm) | (intro h5 h6 h7 h8 h9; omega) | (intros; omega) | omega | trace_state)
  · repeat' (first
      | (with_reducible refine guard_by (fun hb => ?_) (fun hb => ?_) <;> rw [hb] <;> (try simp at hb) <;> simp -implicitDefEqProofs [hb])
      | (with_reducible refine cond_by (fun hb => ?_) (fun hb => ?_) <;> rw [hb] <;> (try simp at hb) <;> simp -implicitDefEqProofs [hb])
      | ((refine CallT.bool2 ?_ (c_May13 m h hin) (fun hb => ?_) (fun hb => ?_); focus (simp; done)) <;> simp -implicitDefEqProofs [hb]))
    all_goals (first | exact absurd hb hm | exact fun hh => absurd hh hm | (intro hh; exact absurd hh.1.1 hm) | trace_state)

end Go.Ab

namespace Go.Ab

set_option maxHeartbeats 1000000 in
theorem c_Waiting13 (m : Machine) (r g : Int) (h : okM m) (hin : ∀ r ∈ m.rings, inR r.head) : PCall tab 28 [.agg (encMachine false m), .int .i64 r, .int .i64 g] (.tup [.vs ((waitM m r g).1.map encInt) true, .int .i64 (waitM m r g).2]) := by
  by_cases hall : thereP m r g
  · rw [waitM_yes hall]
    have hall' := hall
    obtain ⟨h1, hr, hg⟩ := hall
    have hc := h1.1
    have hn := h1.2.1
    simp only [macNums] at hn
    have hl3 : m.threads.length ≤ 4 := by have := hc.2.2.2.1; omega
    have hrn : ¬ m.config.replicas = 0 := by have := hc.2.1; omega
    refine PCall.of (F := m28) rfl rfl rfl (ok_waits _ _) ?_
    simp -implicitDefEqProofs [m28]
    refine CallT.bool2 (by simp) (c_there13 m r g 0 h hin) (fun hb => ?_) (fun hb => absurd ⟨hall', by have := hc.2.2.2.1; simp only [thread0P]; omega⟩ hb)
    simp -implicitDefEqProofs
    refine loop_by (WtJ m r g) ?_ m.threads.length ⟨0, by simp, .inl ⟨rfl, by simp⟩, by simp, by simp, by simp, by simp, by simp, by simp⟩
    rintro k E T ⟨i, hi, hL, e1, e2, e3, e9, eln, v0⟩
    by_cases hlt : i < m.threads.length
    · have g1 := List.getElem?_eq_getElem hlt
      have hct : (i : Int) < m.config.threads := by omega
      have q0 : ¬ E.ln = 0 := by omega
      have q1 : ¬ 0 = E.ln := by omega
      have hwl := wsTo_len m r g i
      have bo : ((wsTo m r g i).length + 1) * 8 ≤ 140737488355328 := by omega
      simp -implicitDefEqProofs [e1, e2, e3, e9, v0, hlt, g1, hct, hrn, q0, q1, List.replicate]
      repeat' (first
        | (with_reducible refine guard_by (fun hb => ?_) (fun hb => ?_) <;> rw [hb] <;> (try simp at hb) <;> simp -implicitDefEqProofs [hb, e1, e2, e3, e9, v0, hlt, g1, hct, hrn, q0, q1, List.replicate])
        | (with_reducible refine cond_by (fun hb => ?_) (fun hb => ?_) <;> rw [hb] <;> (try simp at hb) <;> simp -implicitDefEqProofs [hb, e1, e2, e3, e9, v0, hlt, g1, hct, hrn, q0, q1, List.replicate])
        | (refine CallT.bool2 rfl (c_Updates1 m.threads[i].op) (fun hb => ?_) (fun hb => ?_) <;> simp -implicitDefEqProofs [hb, e1, e2, e3, e9, v0, hlt, g1, hct, hrn, q0, q1, List.replicate]))
      all_goals (try (
        have hno : ¬ waitT m.config r g i m.threads[i] := by
          intro hh; obtain ⟨h5, h6, h7, h8⟩ := hh; first | exact hb h8 | omega | (rw [h7] at hb; cases hb) | simp_all
        refine ⟨k - 1, by omega, ?_⟩
        rw [← wsTo_no hlt hno] at hL
        exact ⟨i + 1, by omega, by simpa using hL, by simp [e1], by simp [e2], by simp [e3], by first | (simp; done) | (simp; exact wrap_nat (by omega)), by first | (simp; done) | (simp; omega), by simp [v0, q0, q1]⟩))
      have hyes : waitT m.config r g i m.threads[i] := ⟨by omega, by omega, by assumption, by assumption⟩
      have hsucc := wsTo_yes hlt hyes
      rcases hL with ⟨hw0, e8⟩ | ⟨j, log, hj1, hj2, e8, hTj⟩
      · have hw1 : wsTo m r g i = [] := by simpa using hw0
        rw [hw1] at hsucc
        simp -implicitDefEqProofs [e1, e2, e3, e9, v0, hlt, g1, hct, hrn, q0, q1, List.replicate, e8]
        refine ⟨k - 1, by omega, i + 1, by omega, by simp only [hsucc, List.map_append]; exact .inr ⟨T.next + 1, [], by omega, by simp, by simp, by simp⟩, by simp [e1], by simp [e2], by simp [e3], by first | (simp; done) | (simp; exact wrap_nat (by omega)), by first | (simp; done) | (simp; omega), by simp [v0, q0, q1]⟩
      · have y1 : ¬ j = T.next := by omega
        have y2 : ¬ T.next = j := by omega
        have y3 : ¬ T.next + 1 = j := by omega
        have y4 : ¬ j = T.next + 1 := by omega
        have y5 : ¬ j + 1 = 0 := by omega
        have y6 : True := trivial
        have y7 : True := trivial
        have hRl : ((wsTo m r g i).map encInt).length = (wsTo m r g i).length := List.length_map _
        simp -implicitDefEqProofs [e1, e2, e3, e9, v0, hlt, g1, hct, hrn, q0, q1, List.replicate, e8, hTj, y1, y2, y3, y4, y6, y7, bo]
        refine ⟨k - 1, by omega, i + 1, by omega, by simp only [hsucc, List.map_append]; exact .inr ⟨j, [] :: log, by omega, by first | (simp; done) | (simp; omega), by simp, by simp [y1, y2, y3, y4]⟩, by simp [e1], by simp [e2], by simp [e3], by first | (simp; done) | (simp; exact wrap_nat (by omega)), by first | (simp; done) | (simp; omega), by simp [v0, q0, q1]⟩
    · have hie : i = m.threads.length := by omega
      subst hie
      have hct : ¬ (m.threads.length : Int) < m.config.threads := by omega
      rcases hL with ⟨hw0, e8⟩ | ⟨j, log, hj1, hj2, e8, hTj⟩
      · simp -implicitDefEqProofs [e1, e2, e3, e9, v0, hlt, hct, hrn, List.replicate, e8]
        simpa using hw0
      · simp -implicitDefEqProofs [e1, e2, e3, e9, v0, hlt, hct, hrn, List.replicate, e8, hTj]
  · rw [waitM_no hall]
    refine PCall.of (F := m28) rfl rfl rfl (ok_waits _ _) ?_
    simp -implicitDefEqProofs [m28]
    refine CallT.bool2 (by simp) (c_there13 m r g 0 h hin) (fun hb => absurd hb.1 hall) (fun hb => ?_)
    simp -implicitDefEqProofs

end Go.Ab

namespace Go.Ab

end Go.Ab

namespace Go.Ab

end Go.Ab

namespace Go.Ab

def saysYes : Option (AV × AH) → Bool
  | some (.bool true, _) => true
  | _ => false

theorem saysYes_of {x : Option (AV × AH)} (h : saysYes x = true) : ∃ H, x = some (.bool true, H) := by
  unfold saysYes at h
  split at h
  · exact ⟨_, rfl⟩
  · cases h

theorem PCall.closed {M : FuncId → Option MFunc} {k : FuncId} {F : MFunc} (n : Nat) (hM : M k = some F) (hp : F.pure = true) (hb : F.both = false) (h : saysYes (evalF (eval M n) n F [] { objs := .nil, next := 0, lo := 0 }) = true) : PCall M k [] (.bool true) := by
  intro args H hw ht
  obtain ⟨H1, h1⟩ := saysYes_of h
  refine ⟨.bool true, H, ⟨n + 1, ?_⟩, hw, Nat.le_refl _, rfl, fun _ _ => rfl, [],   .one (.cell (by simp) (.flat rfl .nil)), by simp, by simp⟩
  simp only [eval, hM, hp, hb, if_true, pureB, Bool.false_eq_true, if_false]
  unfold pureC
  rw [ht]
  simp only [h1]
  rfl

end Go.Ab

namespace Go.Ab

end Go.Ab

namespace Go.Ab

theorem okM_no : okM noMachine := by unfold okM lenOK; simp
end Go.Ab

namespace Go.Ab

end Go.Ab

namespace Go.Ab

theorem clearP_ok {ws : List Int} : ∀ {l : List Thread}, (∀ x ∈ l, okTh x) → ∀ x ∈ clearP ws l, okTh x := by
  induction ws with
  | nil => intro l h; exact h
  | cons w ws ih =>
    intro l h
    refine ih (l := l.modify w.toNat unpost) fun x hx => ?_
    obtain ⟨i, hi, rfl⟩ := List.getElem_of_mem hx
    have hi' : i < l.length := by simpa using hi
    simp only [List.getElem_modify]
    have hx := h _ (List.getElem_mem hi')
    split
    · exact hx
    · exact hx
theorem modify_ok {l : List Thread} {i : Nat} {f : Thread → Thread} (h : ∀ x ∈ l, okTh x) (hf : ∀ x, okTh x → okTh (f x)) : ∀ x ∈ l.modify i f, okTh x := by
  intro x hx
  obtain ⟨j, hj, rfl⟩ := List.getElem_of_mem hx
  have hj' : j < l.length := by simpa using hj
  simp only [List.getElem_modify]
  split
  · exact hf _ (h _ (List.getElem_mem hj'))
  · exact h _ (List.getElem_mem hj')
theorem okM_take {m : Machine} (h : okM m) (t : Int) : okM (takeM m t) := by
  obtain ⟨h1, h2, ⟨l3, o3⟩, h4⟩ := h
  have hb : lenOK (batchFor m t) := by
    have := wsTo_len m (ownOf m t) (logOfT m t.toNat) m.threads.length
    unfold lenOK at *
    unfold batchFor
    omega
  refine ⟨h1, h2, ⟨?_, ?_⟩, h4⟩
  · unfold takeM lenOK at *
    simp only [List.length_modify, clearP_len]
    exact l3
  · exact modify_ok (clearP_ok (modify_ok o3 fun x hx => ⟨hb, hx.2⟩)) fun x hx => hx
theorem okM_coll {m : Machine} (h : okM m) (t : Int) : okM (collM m t).1 := by
  unfold collM
  split
  · exact okM_take h t
  · exact okM_no

theorem c_awake17 : PCall tab 35 [] (.bool true) := PCall.closed 60 rfl rfl rfl (by kernel_rfl)

end Go.Ab

namespace Go.Ab

theorem clearP_get {ws : List Int} : ∀ {l : List Thread} {i : Nat} {x : Thread}, (clearP ws l)[i]? = some x → ∃ y, l[i]? = some y ∧ (x = y ∨ x = unpost y) ∧ ((i : Int) ∈ ws → x.posted = false) := by
  induction ws with
  | nil => intro l i x h; exact ⟨x, h, .inl rfl, fun hm => by cases hm⟩
  | cons w ws ih =>
    intro l i x h
    obtain ⟨y, h1, h2, h3⟩ := ih (l := l.modify w.toNat unpost) h
    rw [List.getElem?_modify] at h1
    cases hy : l[i]? with
    | none => rw [hy] at h1; split at h1 <;> simp at h1
    | some z =>
      rw [hy] at h1
      by_cases e : w.toNat = i
      · simp only [if_pos e, Option.map_eq_map, Option.map_some, Option.some.injEq] at h1
        subst h1
        refine ⟨z, rfl, .inr ?_, fun _ => ?_⟩
        · rcases h2 with rfl | rfl <;> rfl
        · rcases h2 with rfl | rfl <;> rfl
      · simp only [if_neg e, Option.map_eq_map, Option.map_some, Option.some.injEq, id_eq] at h1
        subst h1
        refine ⟨z, rfl, h2, fun hm => ?_⟩
        rcases List.mem_cons.1 hm with rfl | hm
        · exact absurd (by simp) e
        · exact h3 hm

theorem wsTo_in {m : Machine} {r g : Int} {n i : Nat} (hi : i < n) (hw : waits m r g i = true) : (i : Int) ∈ wsTo m r g n := by
  unfold wsTo
  exact List.mem_map.2 ⟨i, List.mem_filter.2 ⟨List.mem_range.2 hi, hw⟩, rfl⟩

/-- what a thread is behind a batch that was taken -/
theorem takeM_thread {m : Machine} {t : Int} {i : Nat} {x : Thread} (h : (takeM m t).threads[i]? = some x) : ∃ y, m.threads[i]? = some y ∧ x.op = y.op ∧ x.log = y.log ∧ x.seen = y.seen ∧ x.tails = y.tails ∧ ((i : Int) ∈ batchFor m t → x.posted = false) ∧ (x.posted = true → y.posted = true) ∧
    (i ≠ t.toNat → x.step = y.step ∧ x.batch = y.batch ∧ x.at_ = y.at_) ∧ (i = t.toNat → (x.step = 9 ∨ x.step = 4) ∧ x.batch = batchFor m t ∧ x.at_ = 0) := by
  unfold takeM at h
  simp only [List.getElem?_modify] at h
  cases hc : (clearP (batchFor m t) (m.threads.modify t.toNat (setBatch (batchFor m t))))[i]? with
  | none => rw [hc] at h; split at h <;> simp at h
  | some z =>
    rw [hc] at h
    obtain ⟨y, h1, h2, h3⟩ := clearP_get hc
    rw [List.getElem?_modify] at h1
    cases hy : m.threads[i]? with
    | none => rw [hy] at h1; split at h1 <;> simp at h1
    | some u =>
      rw [hy] at h1
      refine ⟨u, rfl, ?_⟩
      by_cases e : t.toNat = i
      · simp only [if_pos e, Option.map_eq_map, Option.map_some, Option.some.injEq] at h h1
        subst h1
        have hz : z.op = u.op ∧ z.log = u.log ∧ z.seen = u.seen ∧ z.tails = u.tails ∧ z.batch = batchFor m t ∧ (z.posted = true → u.posted = true) := by
          rcases h2 with rfl | rfl
          · exact ⟨rfl, rfl, rfl, rfl, rfl, fun h => h⟩
          · exact ⟨rfl, rfl, rfl, rfl, rfl, fun h => by cases h⟩
        subst h
        refine ⟨hz.1, hz.2.1, hz.2.2.1, hz.2.2.2.1, h3, hz.2.2.2.2.2, fun hne => absurd e.symm hne, fun _ => ⟨?_, hz.2.2.2.2.1, rfl⟩⟩
        simp only [setLoad]
        split
        · exact .inl rfl
        · exact .inr rfl
      · simp only [if_neg e, Option.map_eq_map, Option.map_some, Option.some.injEq, id_eq] at h h1
        subst h1
        subst h
        have hz : z.op = u.op ∧ z.log = u.log ∧ z.seen = u.seen ∧ z.tails = u.tails ∧ (z.posted = true → u.posted = true) ∧ z.step = u.step ∧ z.batch = u.batch ∧ z.at_ = u.at_ := by
          rcases h2 with rfl | rfl
          · exact ⟨rfl, rfl, rfl, rfl, fun h => h, rfl, rfl, rfl⟩
          · exact ⟨rfl, rfl, rfl, rfl, fun h => (by cases h), rfl, rfl, rfl⟩
        exact ⟨hz.1, hz.2.1, hz.2.2.1, hz.2.2.2.1, h3, hz.2.2.2.2.1, fun _ => hz.2.2.2.2.2, fun e2 => absurd e2.symm e⟩

theorem takeM_len (m : Machine) (t : Int) : (takeM m t).threads.length = m.threads.length := by
  unfold takeM
  simp only [List.length_modify, clearP_len]

theorem takeM_rest (m : Machine) (t : Int) : wsTo (takeM m t) (ownOf m t) (logOfT m t.toNat) (takeM m t).threads.length = [] := by
  unfold wsTo
  rw [List.map_eq_nil_iff, List.filter_eq_nil_iff]
  intro i hi hw
  have hlt := List.mem_range.1 hi
  rw [takeM_len] at hlt
  unfold waits at hw
  cases hx : (takeM m t).threads[i]? with
  | none => rw [hx] at hw; cases hw
  | some x =>
    rw [hx] at hw
    simp only [decide_eq_true_eq] at hw
    obtain ⟨w1, w2, w3, w4⟩ := hw
    obtain ⟨y, h1, h2, h3, _, _, h4, h5, _⟩ := takeM_thread hx
    have hw' : waits m (ownOf m t) (logOfT m t.toNat) i = true := by
      unfold waits
      rw [h1]
      simp only [decide_eq_true_eq]
      exact ⟨w1, by rw [← h3]; exact w2, h5 w3, by rw [← h2]; exact w4⟩
    have := h4 (wsTo_in hlt hw')
    rw [w3] at this
    cases this

theorem takeM_may {m : Machine} {t : Int} (h : machineMay m) (ht : thread0P m.config t) : machineMay (takeM m t) := by
  obtain ⟨h1, h2, h3, h4, h5, h6⟩ := h
  have h2' := h2
  simp only [macNums] at h2'
  refine ⟨h1, ?_, h3, h4, ?_, h6⟩
  · simp only [macNums, takeM_len]; exact h2'
  · intro x hx
    obtain ⟨i, hi, rfl⟩ := List.getElem_of_mem hx
    obtain ⟨y, k1, k2, k3, k4, k5, _, _, k6, k7⟩ := takeM_thread (List.getElem?_eq_getElem hi)
    have hy := h5 y (List.mem_of_getElem? k1)
    obtain ⟨y1, y2, y3⟩ := hy
    simp only [atNums] at y1
    by_cases e : i = t.toNat
    · obtain ⟨e1, e2, e3⟩ := k7 e
      have hb : (batchFor m t).length ≤ m.threads.length := wsTo_len _ _ _ _
      refine ⟨?_, ?_, by rw [k5]; exact y3⟩
      · show atNums m.config (takeM m t).threads[i]
        simp only [atNums]
        rw [k2, k3, k4, k5, e2, e3]
        refine ⟨by omega, by omega, y1.2.2.1, by omega, by omega, by omega, by omega, ?_, by omega, by omega, by omega⟩
        show ((batchFor m t).length : Int) ≤ m.config.threads
        omega
      · rw [e2]
        intro w hw
        have := wsTo_mem hw
        simp only [thrIn, threadIn]
        show 0 ≤ w ∧ w < m.config.threads
        omega
    · obtain ⟨e1, e2, e3⟩ := k6 e
      refine ⟨?_, by rw [e2]; exact y2, by rw [k5]; exact y3⟩
      show atNums m.config (takeM m t).threads[i]
      simp only [atNums]
      rw [k2, k3, k4, k5, e1, e2, e3]
      exact y1

end Go.Ab

namespace Go.Ab

structure TkB (m : Machine) (ths : List Thread) (ws : List Int) (t : Int) (k : Nat) (E : TE) (T : TH) : Prop where
  h : ∃ (i : Nat) (L : List Thread), i + k = ws.length ∧ L = clearP (ws.take i) m.threads ∧ T.get 8 = .tree (L.map (encThread true)) true [] ∧ E.get 13 = .a (.int .i64 i)
  q0 : T.get 0 = .tree (m.rings.map (encRing true)) true []
  q1 : T.get 1 = .tree (m.replicas.map (encReplica true)) true []
  q2 : T.get 2 = .tree (ths.map (encThread true)) true []
  q3 : T.get 3 = .tree (m.history.map encEvent) true []
  q4 : T.get 4 = .tree (ws.map encInt) true []
  q6 : T.get 6 = .tree (m.rings.map (encRing true)) true []
  q7 : T.get 7 = .tree (m.replicas.map (encReplica true)) true []
  q9 : T.get 9 = .tree (m.history.map encEvent) true []
  n : 10 ≤ T.next
  v1 : E.var 1 = some [.a (.int .i64 m.config.object), .a (.int .i64 m.config.replicas), .a (.int .i64 m.config.logs), .a (.int .i64 m.config.threads), .a (.int .i64 m.config.slots), .sl 0 [] 0 0 m.rings.length true, .sl 1 [] 0 0 m.replicas.length true, .sl 2 [] 0 0 m.threads.length true, .sl 3 [] 0 0 m.history.length true]
  v2 : E.var 2 = some [.a (.int .i64 m.config.object), .a (.int .i64 m.config.replicas), .a (.int .i64 m.config.logs), .a (.int .i64 m.config.threads), .a (.int .i64 m.config.slots), .sl 6 [] 0 0 m.rings.length true, .sl 7 [] 0 0 m.replicas.length true, .sl 8 [] 0 0 m.threads.length true, .sl 9 [] 0 0 m.history.length true]
  e1 : E.get 1 = .a (.int .i64 t)
  e5 : E.get 5 = .lp 1 0
  e8 : E.get 8 = .sl 4 [] 0 0 ws.length true
  e12 : E.get 12 = .lp 2 0

theorem CallT.sure {M : FuncId → Option MFunc} {q : Bool} {k : FuncId} {args : List TV} {ts : List AV} {T : TH} {K : TV → TH → Prop} {p : Prop} [Decidable p] (hp : p) (ht : mapO (fzT T) args = some ts) (hc : PCall M k ts (.bool (decide p))) (h1 : K (.a (.bool true)) T) : CallT M q k args T K :=
  CallT.bool2 ht hc (fun _ => h1) (fun h => absurd hp h)

set_option maxHeartbeats 8000000 in
theorem l_BatchAll (m : Machine) (t : Int) (h : okM m) (hin : ∀ r ∈ m.rings, inR r.head) (_ : inR t) : CallT tab false 9 [.a (.agg (encMachine false m)), .a (.int .i64 t)] TH.none (fun v _ => v = .a (.bool true)) := by
  refine CallT.body (F := m9) rfl rfl rfl rfl ?_
  simp -implicitDefEqProofs [m9]
  refine CallT.pure c_awake17 rfl rfl ?_
  simp -implicitDefEqProofs
  have oa := okM_coll h t
  refine CallT.pure (c_Collect m t h) (by simp) (ok_mach1 _ _) ?_
  by_cases hall : collP m t
  · have hp := collM_yes hall
    rw [hp] at oa ⊢
    obtain ⟨⟨h1, ht⟩, hs⟩ := hall
    have hc := h1.1
    have hn := h1.2.1
    simp only [macNums] at hn
    have hrn : ¬ m.config.replicas = 0 := by have := hc.2.1; omega
    have hr1 : 1 ≤ m.config.replicas := by have := hc.2.1; omega
    have ht0 := ht.1
    have ht1 : t < m.threads.length := by have := ht.2; omega
    have hi : t.toNat < m.threads.length := by omega
    have z0 : 0 < m.threads.length := by omega
    have hlg : logOfT m t.toNat = m.threads[t.toNat].log := by simp [logOfT, hi]
    have hthere := own_there ⟨h1, ht⟩
    rw [hlg] at hthere
    have hwm := waitM_yes hthere
    have hbf : batchFor m t = wsTo m (ownOf m t) m.threads[t.toNat].log m.threads.length := by unfold batchFor; rw [hlg]
    have hmem : ∀ w ∈ batchFor m t, 0 ≤ w ∧ w < m.threads.length := fun w hw => by unfold batchFor at hw; exact wsTo_mem hw
    have hbl : (batchFor m t).length ≤ 4 := by have := wsTo_len m (ownOf m t) (logOfT m t.toNat) m.threads.length; have := hc.2.2.2.1; unfold batchFor; omega
    have hmay := takeM_may h1 ht
    have hrest := takeM_rest m t
    have hlen := takeM_len m t
    obtain ⟨ws, hws⟩ : ∃ ws, batchFor m t = ws := ⟨_, rfl⟩
    have htk := takeM_eq hws
    obtain ⟨ths, hths⟩ : ∃ ths, (takeM m t).threads = ths := ⟨_, rfl⟩
    have hA : takeM m t = { m with threads := ths } := by rw [← hths]; rfl
    rw [hths] at hlen
    have hi' : t.toNat < ths.length := by omega
    have hbt : ths[t.toNat].batch = ws := by
      obtain ⟨y, _, _, _, _, _, _, _, _, k7⟩ := takeM_thread (m := m) (t := t) (i := t.toNat) (x := ths[t.toNat]) (by rw [hths]; exact List.getElem?_eq_getElem hi')
      rw [(k7 rfl).2.1, hws]
    rw [hlg] at hrest
    have hthere2 : thereP (takeM m t) (ownOf m t) m.threads[t.toNat].log := by
      refine ⟨hmay, ?_, ?_⟩
      · exact hthere.2.1
      · exact hthere.2.2
    have hwm2 := waitM_yes hthere2
    rw [hrest] at hwm2
    rw [hA] at oa hwm2 hmay ⊢
    rw [hws] at hmem hbl hbf
    rw [← hbf] at hwm
    have hin2 : ∀ r ∈ ({ m with threads := ths } : Machine).rings, inR r.head := hin
    unfold ownOf at *
    have nt : ¬ t < 0 := by omega
    have nl : ¬ (m.threads.length : Int) ≤ t := by omega
    have nl' : ¬ (ths.length : Int) ≤ t := by omega
    have ht1' : t < ths.length := by omega
    have z0' : 0 < ths.length := by omega
    have nr : ¬ m.config.replicas < 1 := by omega
    simp -implicitDefEqProofs
    refine CallT.pure (c_Num 0) rfl rfl ?_
    simp -implicitDefEqProofs [nt, nl, nl', ht0, ht1, ht1', hi, hi', z0, z0', nr, hrn]
    refine CallT.pure (c_Waiting13 m (t.tmod m.config.replicas) m.threads[t.toNat].log h hin) (by simp) (ok_waits _ _) ?_
    rw [hwm]
    simp -implicitDefEqProofs [nt, nl, nl', ht0, ht1, ht1', hi, hi', z0, z0', nr, hrn]
    refine CallT.pure (c_Waiting13 _ (t.tmod m.config.replicas) m.threads[t.toNat].log oa hin2) (by simp) (ok_waits _ _) ?_
    rw [hwm2]
    simp -implicitDefEqProofs [nt, nl, nl', ht0, ht1, ht1', hi, hi', z0, z0', nr, hrn]
    refine CallT.bool2 (by simp [hi', hbt, z0']) (c_SameInts ws ws false false (by unfold lenOK; omega)) (fun hb => ?_) (fun hb => absurd rfl hb)
    simp -implicitDefEqProofs
    refine CallT.pure (c_lCopyMachine m h) (by simp) (ok_mach m) ?_
    simp -implicitDefEqProofs
    refine loop_by (TkB m ths ws t) ?_ ws.length ⟨⟨0, m.threads, by simp, rfl, by simp, by simp⟩, by simp, by simp, by simp, by simp, by simp, by simp, by simp, by simp, by simp, by simp [hlen], by simp, by simp, by simp, by simp, by simp⟩
    rintro k E T ⟨⟨i, L, hik, hL, q8, e13⟩, q0, q1, q2, q3, q4, q6, q7, q9, hnx, v1, v2, e1, e5, e8, e12⟩
    have hLl : L.length = m.threads.length := by rw [hL, clearP_len]
    by_cases hlt : i < ws.length
    · have g1 := List.getElem?_eq_getElem hlt
      have hw := hmem _ (List.getElem_mem hlt)
      have hw0 := hw.1
      have hw1 := hw.2
      have hwn : ws[i].toNat < L.length := by omega
      have hwn' : ws[i].toNat < m.threads.length := by omega
      have zw : 0 < ws.length := by omega
      simp -implicitDefEqProofs [e1, e5, e8, e12, e13, v1, v2, q0, q1, q2, q3, q4, q6, q7, q8, q9, hlt, g1, hw0, hw1, hwn', z0, hi, zw, hLl]
      refine ⟨k - 1, by omega, ⟨i + 1, L.modify ws[i].toNat unpost, by omega, by rw [clearP_succ hlt, hL], ?_, by first | (simp; done) | (simp; exact wrap_nat (by omega))⟩, by simp [q0], by simp [q1], by simp [q2], by simp [q3], by simp [q4], by simp [q6], by simp [q7], by simp [q9], by simp [hnx], by simp [v1], by simp [v2], by simp [e1], by simp [e5], by simp [e8], by simp [e12]⟩
      rw [modify_of (List.getElem?_eq_getElem hwn)]
      simp [encThread, unpost]
    · have hiL : t.toNat < L.length := by omega
      have hL' : clearP ws m.threads = L := by rw [hL, List.take_of_length_le (by omega)]
      have hfin : ∀ x : Int, takeM' m t ws x = { m with threads := L.set t.toNat (setLoad x (setBatch ws L[t.toNat])) } := fun x => by
        unfold takeM'
        rw [clearP_modify (f := setBatch ws) ws (fun _ => rfl), hL', modify_of (List.getElem?_eq_getElem hiL), modify_of (p := setBatch ws L[t.toNat]) (by rw [List.getElem?_set_self hiL]), List.set_set]
      rw [hfin] at htk
      have hths2 : ths = L.set t.toNat (setLoad (if ws = [] then 9 else 4) (setBatch ws L[t.toNat])) := by rw [← hths, htk]
      have hb8 : ws.length * 8 ≤ 140737488355328 := by omega
      have u0a : ¬ T.next = 0 := by omega
      have u0b : ¬ 0 = T.next := by omega
      have u1a : ¬ T.next = 1 := by omega
      have u1b : ¬ 1 = T.next := by omega
      have u2a : ¬ T.next = 2 := by omega
      have u2b : ¬ 2 = T.next := by omega
      have u3a : ¬ T.next = 3 := by omega
      have u3b : ¬ 3 = T.next := by omega
      have u4a : ¬ T.next = 4 := by omega
      have u4b : ¬ 4 = T.next := by omega
      have u5a : ¬ T.next = 5 := by omega
      have u5b : ¬ 5 = T.next := by omega
      have u6a : ¬ T.next = 6 := by omega
      have u6b : ¬ 6 = T.next := by omega
      have u7a : ¬ T.next = 7 := by omega
      have u7b : ¬ 7 = T.next := by omega
      have u8a : ¬ T.next = 8 := by omega
      have u8b : ¬ 8 = T.next := by omega
      have u9a : ¬ T.next = 9 := by omega
      have u9b : ¬ 9 = T.next := by omega
      have hw2 : (L.map (encThread true)).set t.toNat [.int .i64 (if ws = [] then 9 else 4), .int .i64 L[t.toNat].op.code, .int .i64 L[t.toNat].op.row, .int .i64 L[t.toNat].op.arg, .int .i64 L[t.toNat].log, .int .i64 L[t.toNat].seen, .vs (ws.map encInt) true, .int .i64 0, .bool L[t.toNat].posted, .bool L[t.toNat].ready, .int .i64 L[t.toNat].answer, .vs (L[t.toNat].tails.map encInt) true] = ths.map (encThread true) := by
        rw [hths2, List.map_set]; rfl
      by_cases hwe : ws = []
      · have hw0 : ws.length = 0 := by rw [hwe]; rfl
        rw [if_pos hwe] at hw2
        simp -implicitDefEqProofs [e1, e5, e8, e12, e13, v1, v2, q0, q1, q2, q3, q4, q6, q7, q8, q9, q8, hlt, z0, hi, ht0, ht1, hLl, hw0, hb8, u0a, u0b, u1a, u1b, u2a, u2b, u3a, u3b, u4a, u4b, u5a, u5b, u6a, u6b, u7a, u7b, u8a, u8b, u9a, u9b]
        rw [hw2]
        refine CallT.sure rfl (by simp [e1, e5, e8, e12, e13, v1, v2, q0, q1, q2, q3, q4, q6, q7, q8, q9, u0a, u0b, u1a, u1b, u2a, u2b, u3a, u3b, u4a, u4b, u5a, u5b, u6a, u6b, u7a, u7b, u8a, u8b, u9a, u9b, hlen]) (c_SameMachine ({ m with threads := ths } : Machine) ({ m with threads := ths } : Machine) false false oa) ?_
        simp -implicitDefEqProofs
      · have hw0 : ¬ ws.length = 0 := fun e => hwe (List.length_eq_zero_iff.1 e)
        have hw1 : ((ws.length : Int) == 0) = false := by simp [hw0]
        rw [if_neg hwe] at hw2
        simp -implicitDefEqProofs [e1, e5, e8, e12, e13, v1, v2, q0, q1, q2, q3, q4, q6, q7, q8, q9, q8, hlt, z0, hi, ht0, ht1, hLl, hw1, hb8, u0a, u0b, u1a, u1b, u2a, u2b, u3a, u3b, u4a, u4b, u5a, u5b, u6a, u6b, u7a, u7b, u8a, u8b, u9a, u9b]
        rw [hw2]
        refine CallT.sure rfl (by simp [e1, e5, e8, e12, e13, v1, v2, q0, q1, q2, q3, q4, q6, q7, q8, q9, u0a, u0b, u1a, u1b, u2a, u2b, u3a, u3b, u4a, u4b, u5a, u5b, u6a, u6b, u7a, u7b, u8a, u8b, u9a, u9b, hlen]) (c_SameMachine ({ m with threads := ths } : Machine) ({ m with threads := ths } : Machine) false false oa) ?_
        simp -implicitDefEqProofs
  · have hp := collM_no hall
    rw [hp] at oa ⊢
    simp -implicitDefEqProofs
    refine CallT.pure (c_Num 1700) rfl rfl ?_
    simp -implicitDefEqProofs
    refine CallT.bool2 (by simp) (c_SameMachine noMachine noMachine false false oa) (fun hb => ?_) (fun hb => absurd rfl hb)
    simp -implicitDefEqProofs

end Go.Ab

namespace Go.Ab
open Go.RowKit Go.ChangeShapes

theorem law_eval {M : FuncId → Option MFunc} {k : FuncId} {ts : List AV} (h : CallT M false k (ts.map .a) TH.none fun v _ => v = .a (.bool true)) : ∃ n H', eval M n k ts AH.zero = some (.bool true, H') := by
  obtain ⟨r, H', ⟨n, hev⟩, v, A', T', _, hv, _, rfl⟩ := h _ AH.zero ts HR.none (VRL.atoms ts)
  cases hv
  exact ⟨n, H', hev⟩

theorem i64_range {n : Int} (h : (Lit.int .i64 n).wf = true) : -9223372036854775808 ≤ n ∧ n < 9223372036854775808 := by
  simp only [Lit.wf, Bool.and_eq_true, decide_eq_true_eq] at h
  have e1 : IntKind.i64.min = -9223372036854775808 := by decide
  have e2 : IntKind.i64.max = 9223372036854775807 := by decide
  omega

def wfI (n : Int) : Prop := (Lit.int .i64 n).wf = true
def rangeOp (o : Op) : Prop := wfI o.code ∧ wfI o.row ∧ wfI o.arg
def rangeS (s : Slot) : Prop := rangeOp s.op ∧ wfI s.thread ∧ wfI s.bit
def rangeR (r : Ring) : Prop := wfI r.head ∧ wfI r.tail ∧ wfI r.fence ∧ (∀ s ∈ r.slots, rangeS s)
def rangeI (l : List Int) : Prop := ∀ x ∈ l, wfI x
def rangeP (p : Replica) : Prop := (rangeI p.state.r0 ∧ rangeI p.state.r1 ∧ rangeI p.state.r2 ∧ rangeI p.state.r3) ∧ rangeI p.cursors ∧ rangeI p.locks
def rangeT (t : Thread) : Prop := wfI t.step ∧ rangeOp t.op ∧ wfI t.log ∧ wfI t.seen ∧ rangeI t.batch ∧ wfI t.at_ ∧ wfI t.answer ∧ rangeI t.tails
def rangeC (c : Config) : Prop := wfI c.object ∧ wfI c.replicas ∧ wfI c.logs ∧ wfI c.threads ∧ wfI c.slots
def rangeE (e : Event) : Prop := wfI e.thread ∧ rangeOp e.op ∧ wfI e.answer
/-- what a machine that is handed in is known to be -/
def rangeM (m : Machine) : Prop := rangeC m.config ∧ (∀ r ∈ m.rings, rangeR r) ∧ (∀ p ∈ m.replicas, rangeP p) ∧ (∀ t ∈ m.threads, rangeT t) ∧ (∀ e ∈ m.history, rangeE e)
theorem rangeM_heads {m : Machine} (h : rangeM m) : ∀ r ∈ m.rings, inR r.head := fun r hr => i64_range (h.2.1 r hr).1

end Go.Ab

namespace Go.Proofs.YtooniglinjigdaaGreat
open Go.ChangeShapes Go.WideShapes Go.ChangeAt Go.RowKit Go.Ab

mutual
theorem tame_of {H : Type} : ∀ (d : DataW H), Rows.uptoBulk d ≤ 1048576 → tame d = true
  | .lit l, h => by
    cases l
    case string bytes => simp only [Rows.uptoBulk] at h; simp only [tame, decide_eq_true_eq]; omega
    all_goals rfl
  | .nil, _ => rfl
  | .ptr _, _ => rfl
  | .slice es sp, h => by
    simp only [Rows.uptoBulk] at h
    obtain ⟨h1, h2⟩ := tameL_of es (by omega)
    simp only [tame, Bool.and_eq_true, decide_eq_true_eq]
    exact ⟨by omega, h1⟩
  | .agg ps, h => by
    simp only [Rows.uptoBulk] at h
    exact (tameL_of ps (by omega)).1
  | .iface _ _, _ => rfl
  | .map _, _ => rfl
  | .held _, _ => rfl
theorem tameL_of {H : Type} : ∀ (l : List (DataW H)), Rows.uptoBulkAll l ≤ 1048576 → tameL l = true ∧ l.length ≤ Rows.uptoBulkAll l
  | [], _ => ⟨rfl, by simp⟩
  | d :: r, h => by
    simp only [Rows.uptoBulkAll] at h ⊢
    obtain ⟨h1, h2⟩ := tameL_of r (by omega)
    have h3 := tame_of d (by omega)
    have h4 := bulk_pos d
    exact ⟨by simp only [tameL, h3, h1, Bool.and_self], by simp only [List.length_cons]; omega⟩
theorem bulk_pos {H : Type} : ∀ (d : DataW H), 1 ≤ Rows.uptoBulk d
  | .lit l => by cases l <;> simp [Rows.uptoBulk]
  | .nil => by simp [Rows.uptoBulk]
  | .ptr _ => by simp only [Rows.uptoBulk]; omega
  | .slice _ _ => by simp only [Rows.uptoBulk]; omega
  | .agg _ => by simp only [Rows.uptoBulk]; omega
  | .iface _ _ => by simp only [Rows.uptoBulk]; omega
  | .map _ => by simp only [Rows.uptoBulk]; omega
  | .held _ => by simp [Rows.uptoBulk]
end

theorem own : ownKnob Go.Proofs.Tryz.prog.godebug = none := by kernel_rfl
theorem laidOut : laidOutB Go.Proofs.Tryz.prog = true := by kernel_rfl

section
variable (W : World)
theorem dec_i : DecS Go.Proofs.Tryz.prog W 3 encInt wfI := Dec.s (Dec.int Go.Proofs.Tryz.underlying3)
theorem dec_b : DecS Go.Proofs.Tryz.prog W 4 (fun b : Bool => [.bool b]) (fun _ => True) := Dec.s (Dec.bool Go.Proofs.Tryz.underlying4)
theorem dec_ints : DecS Go.Proofs.Tryz.prog W 40 (fun l : List Int => [.vs (l.map encInt) false]) (fun l => rangeI l ∧ lenOK l) := DecS.slice (sz := 1) Go.Proofs.Tryz.underlying40 (by kernel_rfl) (by omega) (dec_i W)
theorem dec_op : DecS Go.Proofs.Tryz.prog W 37 encOp rangeOp :=
  @DecS.struct _ _ _ _ 3 _ _ _ _ _ _ Go.Proofs.Tryz.underlying37 (by kernel_rfl) (@DecFS.cons _ _ _ _ _ 1 _ _ _ _ _ _ _ (by rfl) (by kernel_rfl) (dec_i W) (@DecFS.cons _ _ _ _ _ 1 _ _ _ _ _ _ _ (by rfl) (by kernel_rfl) (dec_i W) (@DecFS.cons _ _ _ _ _ 1 _ _ _ _ _ _ _ (by rfl) (by kernel_rfl) (dec_i W) (@DecFS.nil _ _ 3))))
    (fun a => ⟨a.1, a.2.1, a.2.2.1⟩) (fun a h => ⟨⟨h.1, h.2.1, h.2.2.1⟩, rfl⟩)
theorem dec_config : DecS Go.Proofs.Tryz.prog W 24 encConfig rangeC :=
  @DecS.struct _ _ _ _ 5 _ _ _ _ _ _ Go.Proofs.Tryz.underlying24 (by kernel_rfl) (@DecFS.cons _ _ _ _ _ 1 _ _ _ _ _ _ _ (by rfl) (by kernel_rfl) (dec_i W) (@DecFS.cons _ _ _ _ _ 1 _ _ _ _ _ _ _ (by rfl) (by kernel_rfl) (dec_i W) (@DecFS.cons _ _ _ _ _ 1 _ _ _ _ _ _ _ (by rfl) (by kernel_rfl) (dec_i W) (@DecFS.cons _ _ _ _ _ 1 _ _ _ _ _ _ _ (by rfl) (by kernel_rfl) (dec_i W) (@DecFS.cons _ _ _ _ _ 1 _ _ _ _ _ _ _ (by rfl) (by kernel_rfl) (dec_i W) (@DecFS.nil _ _ 5))))))
    (fun a => ⟨a.1, a.2.1, a.2.2.1, a.2.2.2.1, a.2.2.2.2.1⟩) (fun a h => ⟨⟨h.1, h.2.1, h.2.2.1, h.2.2.2.1, h.2.2.2.2.1⟩, rfl⟩)
theorem dec_slot : DecS Go.Proofs.Tryz.prog W 39 encSlot rangeS :=
  @DecS.struct _ _ _ _ 5 _ _ _ _ _ _ Go.Proofs.Tryz.underlying39 (by kernel_rfl) (@DecFS.cons _ _ _ _ _ 3 _ _ _ _ _ _ _ (by rfl) (by kernel_rfl) (dec_op W) (@DecFS.cons _ _ _ _ _ 1 _ _ _ _ _ _ _ (by rfl) (by kernel_rfl) (dec_i W) (@DecFS.cons _ _ _ _ _ 1 _ _ _ _ _ _ _ (by rfl) (by kernel_rfl) (dec_i W) (@DecFS.nil _ _ 5))))
    (fun a => ⟨a.1, a.2.1, a.2.2.1⟩) (fun a h => ⟨⟨h.1, h.2.1, h.2.2.1⟩, rfl⟩)
theorem dec_slots : DecS Go.Proofs.Tryz.prog W 33 (fun l : List Slot => [.vs (l.map encSlot) false]) (fun l => (∀ s ∈ l, rangeS s) ∧ lenOK l) := DecS.slice (sz := 5) Go.Proofs.Tryz.underlying33 (by kernel_rfl) (by omega) (dec_slot W)
theorem dec_ring : DecS Go.Proofs.Tryz.prog W 35 (encRing false) (fun r => rangeR r ∧ okR r) :=
  @DecS.struct _ _ _ _ 4 _ _ _ _ _ _ Go.Proofs.Tryz.underlying35 (by kernel_rfl) (@DecFS.cons _ _ _ _ _ 1 _ _ _ _ _ _ _ (by rfl) (by kernel_rfl) (dec_i W) (@DecFS.cons _ _ _ _ _ 1 _ _ _ _ _ _ _ (by rfl) (by kernel_rfl) (dec_i W) (@DecFS.cons _ _ _ _ _ 1 _ _ _ _ _ _ _ (by rfl) (by kernel_rfl) (dec_i W) (@DecFS.cons _ _ _ _ _ 1 _ _ _ _ _ _ _ (by rfl) (by kernel_rfl) (dec_slots W) (@DecFS.nil _ _ 4)))))
    (fun a => ⟨a.1, a.2.1, a.2.2.1, a.2.2.2.1⟩) (fun a h => ⟨⟨⟨h.1, h.2.1, h.2.2.1, h.2.2.2.1.1⟩, h.2.2.2.1.2⟩, rfl⟩)
theorem dec_rings : DecS Go.Proofs.Tryz.prog W 25 (fun l : List Ring => [.vs (l.map (encRing false)) false]) (fun l => (∀ s ∈ l, rangeR s ∧ okR s) ∧ lenOK l) := DecS.slice (sz := 4) Go.Proofs.Tryz.underlying25 (by kernel_rfl) (by omega) (dec_ring W)
theorem dec_rows : DecS Go.Proofs.Tryz.prog W 41 (fun l : List (List Int) => (l.map fun l : List Int => [AV.vs (l.map encInt) false]).flatten) (fun l => (∀ a ∈ l, rangeI a ∧ lenOK a) ∧ l.length = 4) := DecS.array (sz := 1) Go.Proofs.Tryz.underlying41 (by kernel_rfl) (by kernel_rfl) (dec_ints W)
theorem dec_state : DecS Go.Proofs.Tryz.prog W 43 (encState false) (fun s => (rangeI s.r0 ∧ rangeI s.r1 ∧ rangeI s.r2 ∧ rangeI s.r3) ∧ okS s) :=
  @DecS.struct _ _ _ _ 4 _ _ _ _ _ _ Go.Proofs.Tryz.underlying43 (by kernel_rfl) (@DecFS.cons _ _ _ _ _ 4 _ _ _ _ _ _ _ (by rfl) (by kernel_rfl) (dec_rows W) (@DecFS.nil _ _ 4))
    (fun a => match a.1 with | [a0, a1, a2, a3] => ⟨a0, a1, a2, a3⟩ | _ => ⟨[], [], [], []⟩)
    (fun a h => by
      obtain ⟨l, _⟩ := a
      obtain ⟨⟨h1, h2⟩, _⟩ := h
      simp only at h1 h2
      match l, h2 with
      | [a0, a1, a2, a3], _ =>
        have k0 := h1 a0 (by simp)
        have k1 := h1 a1 (by simp)
        have k2 := h1 a2 (by simp)
        have k3 := h1 a3 (by simp)
        exact ⟨⟨⟨k0.1, k1.1, k2.1, k3.1⟩, k0.2, k1.2, k2.2, k3.2⟩, rfl⟩)
theorem dec_replica : DecS Go.Proofs.Tryz.prog W 45 (encReplica false) (fun p => rangeP p ∧ okP' p) :=
  @DecS.struct _ _ _ _ 6 _ _ _ _ _ _ Go.Proofs.Tryz.underlying45 (by kernel_rfl) (@DecFS.cons _ _ _ _ _ 4 _ _ _ _ _ _ _ (by rfl) (by kernel_rfl) (dec_state W) (@DecFS.cons _ _ _ _ _ 1 _ _ _ _ _ _ _ (by rfl) (by kernel_rfl) (dec_ints W) (@DecFS.cons _ _ _ _ _ 1 _ _ _ _ _ _ _ (by rfl) (by kernel_rfl) (dec_ints W) (@DecFS.nil _ _ 6))))
    (fun a => ⟨a.1, a.2.1, a.2.2.1⟩) (fun a h => ⟨⟨⟨h.1.1, h.2.1.1, h.2.2.1.1⟩, h.1.2, h.2.1.2, h.2.2.1.2⟩, rfl⟩)
theorem dec_replicas : DecS Go.Proofs.Tryz.prog W 26 (fun l : List Replica => [.vs (l.map (encReplica false)) false]) (fun l => (∀ s ∈ l, rangeP s ∧ okP' s) ∧ lenOK l) := DecS.slice (sz := 6) Go.Proofs.Tryz.underlying26 (by kernel_rfl) (by omega) (dec_replica W)
theorem dec_thread : DecS Go.Proofs.Tryz.prog W 47 (encThread false) (fun t => rangeT t ∧ okTh t) :=
  @DecS.struct _ _ _ _ 12 _ _ _ _ _ _ Go.Proofs.Tryz.underlying47 (by kernel_rfl) (@DecFS.cons _ _ _ _ _ 1 _ _ _ _ _ _ _ (by rfl) (by kernel_rfl) (dec_i W) (@DecFS.cons _ _ _ _ _ 3 _ _ _ _ _ _ _ (by rfl) (by kernel_rfl) (dec_op W) (@DecFS.cons _ _ _ _ _ 1 _ _ _ _ _ _ _ (by rfl) (by kernel_rfl) (dec_i W) (@DecFS.cons _ _ _ _ _ 1 _ _ _ _ _ _ _ (by rfl) (by kernel_rfl) (dec_i W) (@DecFS.cons _ _ _ _ _ 1 _ _ _ _ _ _ _ (by rfl) (by kernel_rfl) (dec_ints W) (@DecFS.cons _ _ _ _ _ 1 _ _ _ _ _ _ _ (by rfl) (by kernel_rfl) (dec_i W) (@DecFS.cons _ _ _ _ _ 1 _ _ _ _ _ _ _ (by rfl) (by kernel_rfl) (dec_b W) (@DecFS.cons _ _ _ _ _ 1 _ _ _ _ _ _ _ (by rfl) (by kernel_rfl) (dec_b W) (@DecFS.cons _ _ _ _ _ 1 _ _ _ _ _ _ _ (by rfl) (by kernel_rfl) (dec_i W) (@DecFS.cons _ _ _ _ _ 1 _ _ _ _ _ _ _ (by rfl) (by kernel_rfl) (dec_ints W) (@DecFS.nil _ _ 12)))))))))))
    (fun a => ⟨a.1, a.2.1, a.2.2.1, a.2.2.2.1, a.2.2.2.2.1, a.2.2.2.2.2.1, a.2.2.2.2.2.2.1, a.2.2.2.2.2.2.2.1, a.2.2.2.2.2.2.2.2.1, a.2.2.2.2.2.2.2.2.2.1⟩)
    (fun a h => by
      obtain ⟨h1, h2, h3, h4, h5, h6, h7, h8, h9, h10, _⟩ := h
      exact ⟨⟨⟨h1, h2, h3, h4, h5.1, h6, h9, h10.1⟩, h5.2, h10.2⟩, rfl⟩)
theorem dec_threads : DecS Go.Proofs.Tryz.prog W 27 (fun l : List Thread => [.vs (l.map (encThread false)) false]) (fun l => (∀ s ∈ l, rangeT s ∧ okTh s) ∧ lenOK l) := DecS.slice (sz := 12) Go.Proofs.Tryz.underlying27 (by kernel_rfl) (by omega) (dec_thread W)
theorem dec_event : DecS Go.Proofs.Tryz.prog W 49 encEvent rangeE :=
  @DecS.struct _ _ _ _ 6 _ _ _ _ _ _ Go.Proofs.Tryz.underlying49 (by kernel_rfl) (@DecFS.cons _ _ _ _ _ 1 _ _ _ _ _ _ _ (by rfl) (by kernel_rfl) (dec_i W) (@DecFS.cons _ _ _ _ _ 1 _ _ _ _ _ _ _ (by rfl) (by kernel_rfl) (dec_b W) (@DecFS.cons _ _ _ _ _ 3 _ _ _ _ _ _ _ (by rfl) (by kernel_rfl) (dec_op W) (@DecFS.cons _ _ _ _ _ 1 _ _ _ _ _ _ _ (by rfl) (by kernel_rfl) (dec_i W) (@DecFS.nil _ _ 6)))))
    (fun a => ⟨a.1, a.2.1, a.2.2.1, a.2.2.2.1⟩) (fun a h => ⟨⟨h.1, h.2.2.1, h.2.2.2.1⟩, rfl⟩)
theorem dec_events : DecS Go.Proofs.Tryz.prog W 28 (fun l : List Ab.Event => [.vs (l.map encEvent) false]) (fun l => (∀ s ∈ l, rangeE s) ∧ lenOK l) := DecS.slice (sz := 6) Go.Proofs.Tryz.underlying28 (by kernel_rfl) (by omega) (dec_event W)
theorem dec_machine : DecS Go.Proofs.Tryz.prog W 30 (encMachine false) (fun m => rangeM m ∧ okM m) :=
  @DecS.struct _ _ _ _ 9 _ _ _ _ _ _ Go.Proofs.Tryz.underlying30 (by kernel_rfl) (@DecFS.cons _ _ _ _ _ 5 _ _ _ _ _ _ _ (by rfl) (by kernel_rfl) (dec_config W) (@DecFS.cons _ _ _ _ _ 1 _ _ _ _ _ _ _ (by rfl) (by kernel_rfl) (dec_rings W) (@DecFS.cons _ _ _ _ _ 1 _ _ _ _ _ _ _ (by rfl) (by kernel_rfl) (dec_replicas W) (@DecFS.cons _ _ _ _ _ 1 _ _ _ _ _ _ _ (by rfl) (by kernel_rfl) (dec_threads W) (@DecFS.cons _ _ _ _ _ 1 _ _ _ _ _ _ _ (by rfl) (by kernel_rfl) (dec_events W) (@DecFS.nil _ _ 9))))))
    (fun a => ⟨a.1, a.2.1, a.2.2.1, a.2.2.2.1, a.2.2.2.2.1⟩)
    (fun a h => by
      obtain ⟨h1, h2, h3, h4, h5, _⟩ := h
      exact ⟨⟨⟨h1, fun r hr => (h2.1 r hr).1, fun r hr => (h3.1 r hr).1, fun r hr => (h4.1 r hr).1, h5.1⟩, ⟨h2.2, fun r hr => (h2.1 r hr).2⟩, ⟨h3.2, fun r hr => (h3.1 r hr).2⟩, ⟨h4.2, fun r hr => (h4.1 r hr).2⟩, h5.2⟩, rfl⟩)
end

end Go.Proofs.YtooniglinjigdaaGreat
