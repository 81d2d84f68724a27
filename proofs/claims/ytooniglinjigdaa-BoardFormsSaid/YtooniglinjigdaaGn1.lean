/-
  A new machine, by value, as the document's answer has it.
  and what goes with it.
  Conditions: none.
-/
import Derived.Test.YtooniglinjigdaaGn0
import Derived.Test.YtooniglinjigdaaGd
import Derived.KernelRfl
import Derived.Test.YtooniglinjigdaaGb
import Derived.Test.YtooniglinjigdaaRows

set_option linter.unusedSimpArgs false
set_option linter.unusedVariables false

namespace Go.Ab

def newM (c : Config) : Machine × Int := if cfgMay c then (machine0 c, 0) else (noMachine, 1400)
theorem newM_yes {c : Config} (h : cfgMay c) : newM c = (machine0 c, 0) := if_pos h
theorem newM_no {c : Config} (h : ¬ cfgMay c) : newM c = (noMachine, 1400) := if_neg h

theorem c_newStart (c : Config) : PCall tab 9 [.agg (encConfig c)] (.tup [.agg (encMachine true (newM c).1), .int .i64 (newM c).2]) := by
  by_cases h : cfgMay c
  · rw [newM_yes h]; exact c_startNew c h
  · rw [newM_no h]; exact c_startNo c h

theorem c_NewRing1 (k : Int) (hk : slotsMay k) : PCall tab 38 [.int .i64 k] (.tup [.agg (encRing true (ring0 k)), .int .i64 0]) := by
  refine PCall.of (F := m38) rfl rfl rfl ?_ ?_
  · simp [okT, okP, okC, List.all_map, flatV]
  simp -implicitDefEqProofs [m38]
  refine CallT.bool2 rfl (c_SlotsMay _) (fun hb => ?_) (fun hb => absurd hk hb)
  have h1 : 0 ≤ k := by simp only [slotsMay] at hk; omega
  have h2 : k * 40 ≤ 140737488355328 := by simp only [slotsMay] at hk; omega
  have h3 : k ≤ 140737488355328 := by omega
  simp -implicitDefEqProofs [h1, h2, h3]

theorem c_New13 (c : Config) : PCall tab 10 [.agg (encConfig c)] (.tup [.agg (encMachine true (newM c).1), .int .i64 (newM c).2]) := by
  by_cases h : cfgMay c
  · rw [newM_yes h]
    have hc := h
    obtain ⟨h1, h2, h3, h4, h5, h6⟩ := h
    have t1 : 0 ≤ c.threads := by omega
    have t2 : c.threads * 120 ≤ 140737488355328 := by omega
    have t3 : c.threads ≤ 140737488355328 := by omega
    have hs := c_NewRing1 c.slots h5
    have l1 : c.logs = 1 ∨ c.logs = 2 := by simp only [logsMay] at h3; omega
    have l2 : c.replicas = 1 ∨ c.replicas = 2 := by omega
    refine PCall.of (F := m10) rfl rfl rfl (ok_machine _ _ _) ?_
    rcases l1 with l1 | l1 <;> rcases l2 with l2 | l2
    all_goals
      simp -implicitDefEqProofs [m10]
      refine CallT.bool2 rfl (c_ConfigMay c) (fun hb => ?_) (fun hb => absurd hc hb)
      simp -implicitDefEqProofs [l1, l2, t1, t2, t3]
      repeat' (first
        | (with_reducible refine WCT.unroll ?_; simp -implicitDefEqProofs [l1, l2, List.replicate])
        | (refine CallT.pure hs rfl (by simp [okT, okP, okC, List.all_map, flatV]) ?_; simp -implicitDefEqProofs [l1, l2, List.replicate]))
  · rw [newM_no h]
    refine PCall.of (F := m10) rfl rfl rfl (ok_machine _ _ _) ?_
    simp -implicitDefEqProofs [m10]
    refine CallT.bool2 rfl (c_ConfigMay c) (fun hb => absurd hb h) (fun hb => ?_)
    simp -implicitDefEqProofs

theorem okM_new {c : Config} (h : cfgMay c) : okM (machine0 c) := by
  obtain ⟨h1, h2, h3, h4, h5, h6⟩ := h
  have e3 : c.logs ≤ 16 := by simp only [logsMay] at h3; omega
  have e5 : c.slots ≤ 1048576 := by simp only [slotsMay] at h5; omega
  unfold okM okR okP' okS okTh lenOK
  simp only [List.length_replicate, List.mem_replicate, List.length_nil]
  refine ⟨⟨by omega, ?_⟩, ⟨by omega, ?_⟩, ⟨by omega, ?_⟩, by omega⟩
  · rintro r ⟨_, rfl⟩
    simp only [List.length_replicate]; omega
  · rintro r ⟨_, rfl⟩
    simp only [List.length_replicate, List.length_nil]; omega
  · rintro r ⟨_, rfl⟩
    simp only [List.length_nil]; omega
theorem okM_nothing : okM noMachine := by unfold okM lenOK; simp
theorem okM_newM (c : Config) : okM (newM c).1 := by
  unfold newM
  split
  · rename_i h; exact okM_new h
  · exact okM_nothing

theorem may_new {c : Config} (h : cfgMay c) : machineMay (machine0 c) := by
  have hc := h
  obtain ⟨h1, h2, h3, h4, h5, h6⟩ := h
  simp only [logsMay] at h3
  have h5' := h5
  simp only [slotsMay] at h5'
  refine ⟨hc, ⟨by simp; omega, by simp; omega, by simp; omega, by simp⟩, ?_, ?_, ?_, ?_⟩
  · intro r hr
    obtain ⟨_, rfl⟩ := List.mem_replicate.1 hr
    have hl : ((List.replicate c.slots.toNat slot0).length : Int) = c.slots := by simp; omega
    refine ⟨⟨⟨by simp, by simp, by simp, by simp; omega, by simp, by simp, ?_⟩, ?_⟩, hl, by show (0 : Int) ≤ c.threads; omega, ?_⟩
    · show slotsMay ((List.replicate c.slots.toNat slot0).length : Int)
      rw [hl]; exact h5
    · intro s hs
      obtain ⟨_, rfl⟩ := List.mem_replicate.1 hs
      decide
    · intro s hs
      obtain ⟨_, rfl⟩ := List.mem_replicate.1 hs
      exact ⟨by decide, by show (0 : Int) < c.threads; omega⟩
  · intro p hp
    obtain ⟨_, rfl⟩ := List.mem_replicate.1 hp
    have hl : ((List.replicate c.logs.toNat (0 : Int)).length : Int) = c.logs := by simp; omega
    refine ⟨?_, hl, hl, ?_, ?_⟩
    · simp only [objIs] at h1
      have : c.object = 0 ∨ c.object = 1 ∨ c.object = 2 := by omega
      rcases this with e | e | e
      · refine .inl ⟨e, ?_, ?_, ?_, ?_⟩ <;> exact ⟨by simp, by simp [allOf]⟩
      · refine .inr (.inl ⟨e, ?_, ?_, ?_, ?_⟩) <;> exact fun i hi => by simp at hi
      · refine .inr (.inr ⟨e, ?_, ?_, ?_, ?_⟩) <;> exact ⟨by simp, by simp [allOf]⟩
    · intro x hx
      obtain ⟨_, rfl⟩ := List.mem_replicate.1 hx
      simp only [lockIn]; omega
    · intro i hi
      have hi' : i < c.logs.toNat := by simpa using hi
      have e1 : (machine0 c).rings[i]? = some (ring0 c.slots) := by simp [hi']
      rw [e1]
      simp [cursorIn]
  · intro t ht
    obtain ⟨_, rfl⟩ := List.mem_replicate.1 ht
    refine ⟨?_, by simp [allOf], by simp [allOf]⟩
    refine ⟨by decide, by decide, by decide, by decide, ?_, by decide, by decide, ?_, by decide, by decide, ?_⟩
    · show (0 : Int) < c.logs; omega
    · show (0 : Int) ≤ c.threads; omega
    · show (0 : Int) ≤ c.logs; omega
  · intro e he
    cases he


end Go.Ab

namespace Go.Ab

def newTh (c : Config) (o : Op) : Thread := { step := if o.code = 2 then 11 else if o.code = 3 then 17 else 1, op := o, log := if o.code = 3 then 0 else o.row.tmod c.logs, seen := 0, batch := [], at_ := 0, posted := false, ready := false, answer := 0, tails := [] }
def callTo (m : Machine) (t : Int) (o : Op) : Machine := { m with threads := m.threads.set t.toNat (newTh m.config o), history := m.history ++ [⟨t, true, o, 0⟩] }
def busyTo (ths : List Thread) (i : Nat) : Nat := ((ths.take i).filter fun x => decide (x.step ≠ 0)).length
theorem busyTo_succ {ths : List Thread} {i : Nat} (hi : i < ths.length) : busyTo ths (i + 1) = busyTo ths i + (if ths[i].step = 0 then 0 else 1) := by
  unfold busyTo
  rw [List.take_add_one, List.getElem?_eq_getElem hi, List.filter_append, List.length_append]
  by_cases h : ths[i].step = 0 <;> simp [h]
theorem busyTo_le (ths : List Thread) (i : Nat) : busyTo ths i ≤ i := by
  unfold busyTo
  exact Nat.le_trans (List.length_filter_le _ _) (by simp; omega)
@[reducible] def mayCall (m : Machine) (o : Op) : Prop := machineMay m ∧ opMay o
@[reducible] def inM (m : Machine) (t : Int) : Prop := 0 ≤ t ∧ t < m.config.threads
def idleT (m : Machine) (t : Int) : Prop := ∃ h : t.toNat < m.threads.length, (m.threads[t.toNat]'h).step = 0
instance (m : Machine) (t : Int) : Decidable (idleT m t) := if h : t.toNat < m.threads.length then decidable_of_iff ((m.threads[t.toNat]'h).step = 0) ⟨fun e => ⟨h, e⟩, fun ⟨_, e⟩ => e⟩ else isFalse (fun ⟨h', _⟩ => h h')
def roomM (m : Machine) : Prop := m.history.length + 2 + busyTo m.threads m.threads.length ≤ 64
instance (m : Machine) : Decidable (roomM m) := inferInstanceAs (Decidable (_ ≤ _))
def callM (m : Machine) (t : Int) (o : Op) : Machine × Int :=
  if ¬ mayCall m o then (noMachine, 2300) else if ¬ inM m t then (noMachine, 2301) else if ¬ idleT m t then (noMachine, 2302) else if ¬ roomM m then (noMachine, 2303) else (callTo m t o, 0)

structure CmI (m : Machine) (t : Int) (o : Op) (k : Nat) (E : TE) (T : TH) : Prop where
  h : ∃ i : Nat, i + k = m.threads.length ∧ E.get 8 = .a (.int .i64 ((m.history.length : Int) + 2 + busyTo m.threads i)) ∧ E.get 9 = .a (.int .i64 i)
  t0 : T = TH.none
  e1 : E.get 1 = .a (.int .i64 t)
  e3 : E.get 3 = .lp 0 0
  e5 : E.get 5 = .lp 1 0
  e6 : E.get 6 = .lp 2 0
  ln : E.ln = 3
  v0 : E.var 0 = some ((encMachine false m).map .a)
  v1 : E.var 1 = some ((encOp o).map .a)
  v2 : E.var 2 = some [.a (.int .i64 0), .a (.int .i64 0), .a (.int .i64 0), .a (.int .i64 0), .a (.int .i64 0), .a .nils, .a .nils, .a .nils, .a .nils]

set_option maxHeartbeats 4000000 in
theorem c_Call13 (m : Machine) (t : Int) (o : Op) (h : okM m) (hin : ∀ r ∈ m.rings, inR r.head) : PCall tab 24 [.agg (encMachine false m), .int .i64 t, .agg (encOp o)] (.tup [.agg (encMachine true (callM m t o).1), .int .i64 (callM m t o).2]) := by
  refine PCall.of (F := m24) rfl rfl rfl (ok_mach1 _ _) ?_
  simp -implicitDefEqProofs [m24]
  have hA : callM m t o = callM m t o := rfl
  by_cases ha : mayCall m o
  · obtain ⟨h1, ho⟩ := ha
    have hc := h1.1
    have hn := h1.2.1
    simp only [macNums] at hn
    refine CallT.bool2 (by simp) (c_May13 m h hin) (fun hb => ?_) (fun hb => absurd h1 hb)
    simp -implicitDefEqProofs
    refine CallT.bool2 (by simp) (c_OperMay o) (fun hb => ?_) (fun hb => absurd ho hb)
    simp -implicitDefEqProofs
    by_cases hb : inM m t
    · have ht0 := hb.1
      have ht1 := hb.2
      have ht2 : t < m.threads.length := by omega
      have hi : t.toNat < m.threads.length := by omega
      have z0 : 0 < m.threads.length := by omega
      have n1 : ¬ t < 0 := by omega
      have n2 : ¬ m.config.threads ≤ t := by omega
      by_cases hs : m.threads[t.toNat].step = 0
      · have hid : idleT m t := ⟨hi, hs⟩
        have hh : (m.history.length : Int) ≤ 64 := by omega
        simp -implicitDefEqProofs [n1, n2, ht0, ht1, ht2, hi, z0, hs]
        have hrw : m.config.logs ≠ 0 := by have := hc.2.2.1; simp only [logsMay] at this; omega
        refine loop_by (CmI m t o) ?_ m.threads.length ⟨⟨0, by simp, by simp [busyTo]; exact wrap_of (by omega) (by omega), by simp⟩, by simp, by simp, by simp, by simp, by simp, by simp, by simp, by simp, by simp⟩
        rintro k E T ⟨⟨i, hik, e8, e9⟩, rfl, e1, e3, e5, e6, ln, v0, v1, v2⟩
        have hbl := busyTo_le m.threads i
        by_cases hlt : i < m.threads.length
        · have g1 := List.getElem?_eq_getElem hlt
          have hlt' : (i : Int) < m.config.threads := by omega
          have hsu := busyTo_succ hlt
          by_cases hz : m.threads[i].step = 0
          · simp -implicitDefEqProofs [e1, e3, e5, e6, e8, e9, ln, v0, v1, v2, hlt, hlt', g1, hz]
            refine ⟨k - 1, by omega, ⟨i + 1, by omega, by simp [e8, hsu, hz], by first | (simp; done) | (simp; exact wrap_nat (by omega))⟩, by simp, by simp [e1], by simp [e3], by simp [e5], by simp [e6], by simp [ln], by simp [v0], by simp [v1], by simp [v2]⟩
          · have hw : IntKind.wrap .i64 ((m.history.length : Int) + 2 + busyTo m.threads i + 1) = (m.history.length : Int) + 2 + busyTo m.threads i + 1 := wrap_of (by omega) (by omega)
            simp -implicitDefEqProofs [e1, e3, e5, e6, e8, e9, ln, v0, v1, v2, hlt, hlt', g1, hz]
            refine ⟨k - 1, by omega, ⟨i + 1, by omega, by simp [hw, hsu, hz]; omega, by first | (simp; done) | (simp; exact wrap_nat (by omega))⟩, by simp, by simp [e1], by simp [e3], by simp [e5], by simp [e6], by simp [ln], by simp [v0], by simp [v1], by simp [v2]⟩
        · have hil : i = m.threads.length := by omega
          have hlt' : ¬ (i : Int) < m.config.threads := by omega
          subst hil
          by_cases hroom : roomM m
          · have hcm : callM m t o = (callTo m t o, 0) := by unfold callM; rw [if_neg (not_not_intro ⟨h1, ho⟩), if_neg (not_not_intro hb), if_neg (not_not_intro hid), if_neg (not_not_intro hroom)]
            rw [hcm]
            have hr1 : (m.history.length : Int) + 2 + busyTo m.threads m.threads.length ≤ 64 := by unfold roomM at hroom; omega
            have hr2 : ¬ (64 < (m.history.length : Int) + 2 + busyTo m.threads m.threads.length) := by omega
            simp -implicitDefEqProofs [e1, e3, e5, e6, e8, e9, ln, v0, v1, v2, hlt', hr1, hr2]
            refine CallT.pure (c_Copy13 m h) (by simp) (ok_mach _) ?_
            have hb48 : (m.history.length + 1) * 48 ≤ 140737488355328 := by omega
            by_cases c2 : o.code = 2
            · have c3 : ¬ o.code = 3 := by omega
              simp -implicitDefEqProofs [e1, e3, e5, e6, e8, e9, ln, v0, v1, v2, c2, c3, ht0, ht1, ht2, hi, z0, hrw, hb48]
              simp [callTo, newTh, encThread, c2]
            · by_cases c3 : o.code = 3
              · simp -implicitDefEqProofs [e1, e3, e5, e6, e8, e9, ln, v0, v1, v2, c2, c3, ht0, ht1, ht2, hi, z0, hrw, hb48]
                simp [callTo, newTh, encThread, c2, c3]
              · simp -implicitDefEqProofs [e1, e3, e5, e6, e8, e9, ln, v0, v1, v2, c2, c3, ht0, ht1, ht2, hi, z0, hrw, hb48]
                simp [callTo, newTh, encThread, c2, c3]
          · have hcm : callM m t o = (noMachine, 2303) := by unfold callM; rw [if_neg (not_not_intro ⟨h1, ho⟩), if_neg (not_not_intro hb), if_neg (not_not_intro hid), if_pos hroom]
            rw [hcm]
            have hr1 : ¬ (m.history.length : Int) + 2 + busyTo m.threads m.threads.length ≤ 64 := by unfold roomM at hroom; omega
            have hr2 : 64 < (m.history.length : Int) + 2 + busyTo m.threads m.threads.length := by omega
            simp -implicitDefEqProofs [e1, e3, e5, e6, e8, e9, ln, v0, v1, v2, hlt', hr1, hr2]
      · have hid : ¬ idleT m t := fun ⟨_, e⟩ => hs e
        have hcm : callM m t o = (noMachine, 2302) := by unfold callM; rw [if_neg (not_not_intro ⟨h1, ho⟩), if_neg (not_not_intro hb), if_pos hid]
        rw [hcm]
        simp -implicitDefEqProofs [n1, n2, ht0, ht1, ht2, hi, z0, hs]
    · have hcm : callM m t o = (noMachine, 2301) := by unfold callM; rw [if_neg (not_not_intro ⟨h1, ho⟩), if_pos hb]
      rw [hcm]
      by_cases n1 : t < 0
      · simp -implicitDefEqProofs [n1]
      · have n2 : m.config.threads ≤ t := by
          rcases Int.lt_or_le t m.config.threads with h3 | h3
          · exact absurd ⟨by omega, h3⟩ hb
          · exact h3
        simp -implicitDefEqProofs [n1, n2]
  · have hcm : callM m t o = (noMachine, 2300) := if_pos ha
    rw [hcm]
    refine CallT.bool2 (by simp) (c_May13 m h hin) (fun hb => ?_) (fun hb => ?_)
    · simp -implicitDefEqProofs
      refine CallT.bool2 (by simp) (c_OperMay o) (fun hb2 => absurd ⟨hb, hb2⟩ ha) (fun hb2 => ?_)
      simp -implicitDefEqProofs
    · simp -implicitDefEqProofs

theorem callM_yes {m : Machine} {t : Int} {o : Op} (h1 : machineMay m) (h2 : opMay o) (h3 : inM m t) (h4 : idleT m t) (h5 : roomM m) : callM m t o = (callTo m t o, 0) := by
  unfold callM; rw [if_neg (not_not_intro ⟨h1, h2⟩), if_neg (not_not_intro h3), if_neg (not_not_intro h4), if_neg (not_not_intro h5)]

end Go.Ab

namespace Go.Ab

theorem okM_no : okM noMachine := by unfold okM lenOK; simp
theorem okM_setThread {m : Machine} (h : okM m) (t : Nat) {f : Thread → Thread} (hf : ∀ x, okTh x → okTh (f x)) : okM (setThread m t f) := by
  obtain ⟨h1, h2, ⟨l3, o3⟩, h4⟩ := h
  refine ⟨h1, h2, ⟨by unfold setThread lenOK at *; simpa using l3, fun p hp => ?_⟩, h4⟩
  unfold setThread at hp
  obtain ⟨i, hi, rfl⟩ := List.getElem_of_mem hp
  have hi' : i < m.threads.length := by simpa using hi
  have ho := o3 _ (List.getElem_mem hi')
  simp only [List.getElem_modify]
  split
  · exact hf _ ho
  · exact ho
theorem okM_post {m : Machine} (h : okM m) (t : Int) : okM (postM m t).1 := by
  unfold postM
  split
  · exact okM_setThread h _ fun _ hx => hx
  · exact okM_no
theorem ok_waitM {m : Machine} (h : okM m) (r g : Int) : lenOK (waitM m r g).1 := by
  unfold waitM lenOK
  split
  · have := wsTo_len m r g m.threads.length
    have h3 := h.2.2.1.1
    unfold lenOK at h3
    simp only
    omega
  · simp


theorem okM_call {m : Machine} (h : okM m) (t : Int) (o : Op) : okM (callM m t o).1 := by
  unfold callM
  split
  · exact okM_no
  · split
    · exact okM_no
    · split
      · exact okM_no
      · split
        · exact okM_no
        · rename_i hr
          have hr := Classical.not_not.1 hr
          unfold roomM at hr
          obtain ⟨h1, h2, ⟨l3, o3⟩, h4⟩ := h
          refine ⟨h1, h2, ⟨by unfold callTo lenOK at *; simpa using l3, fun p hp => ?_⟩, by unfold callTo lenOK at *; simp; omega⟩
          unfold callTo at hp
          rcases List.mem_or_eq_of_mem_set hp with h5 | rfl
          · exact o3 _ h5
          · unfold okTh newTh lenOK; simp

def begunM : Machine := machine0 ⟨2, 2, 2, 4, 8⟩
theorem begun_cfg : cfgMay ⟨2, 2, 2, 4, 8⟩ := by decide
theorem begun_is : begunM.config = ⟨2, 2, 2, 4, 8⟩ ∧ begunM.rings.length = 2 ∧ begunM.replicas.length = 2 ∧ begunM.threads.length = 4 ∧ okM begunM ∧ machineMay begunM := ⟨rfl, rfl, rfl, rfl, okM_new begun_cfg, may_new begun_cfg⟩

end Go.Ab

namespace Go.Ab

theorem emod_toNat (x : Int) (a b : Nat) (ha : 0 < a) (hb : 0 < b) (hd : b ∣ a) : (x % (a : Int)).toNat % b = (x % (b : Int)).toNat := by
  have h1 : 0 ≤ x % (a : Int) := Int.emod_nonneg _ (by omega)
  have h2 : 0 ≤ x % (b : Int) := Int.emod_nonneg _ (by omega)
  have h3 : (((x % (a : Int)).toNat % b : Nat) : Int) = x % (b : Int) := by
    rw [Int.natCast_emod, Int.toNat_of_nonneg h1]
    exact Int.emod_emod_of_dvd x (Int.natCast_dvd_natCast.2 hd)
  omega

theorem and_lit (k : Nat) (hk : k ≤ 62) (x : Int) : abin .and (.int .i64 x) (.int .i64 ((2 ^ k - 1 : Nat) : Int)) = some (.int .i64 (x % ((2 ^ k : Nat) : Int))) := by
  have hp : (2 : Nat) ^ k ≤ 2 ^ 62 := Nat.pow_le_pow_right (by omega) hk
  have hpos : 0 < (2 : Nat) ^ k := Nat.pow_pos (by omega)
  have e2 : (BitVec.ofInt IntKind.i64.bits x &&& BitVec.ofInt IntKind.i64.bits (((2 ^ k - 1 : Nat) : Int))).toNat = (x % ((2 ^ k : Nat) : Int)).toNat := by
    rw [BitVec.toNat_and, BitVec.toNat_ofInt, BitVec.toNat_ofInt]
    have hb : IntKind.i64.bits = 64 := rfl
    rw [hb]
    have e3 : ((((2 ^ k - 1 : Nat) : Int)) % ((2 ^ 64 : Nat) : Int)).toNat = 2 ^ k - 1 := by omega
    rw [e3, Nat.and_two_pow_sub_one_eq_mod]
    exact emod_toNat x (2 ^ 64) (2 ^ k) (by omega) hpos (Nat.pow_dvd_pow 2 (by omega))
  have h1 : 0 ≤ x % ((2 ^ k : Nat) : Int) := Int.emod_nonneg _ (by omega)
  have h2 : x % ((2 ^ k : Nat) : Int) < ((2 ^ k : Nat) : Int) := Int.emod_lt_of_pos _ (by omega)
  simp only [abin, ne_eq, not_true_eq_false, if_false]
  rw [e2, Int.toNat_of_nonneg h1, wrap_of (by omega) (by omega)]

theorem and_1 (x : Int) : abin .and (.int .i64 x) (.int .i64 1) = some (.int .i64 (x % 2)) := and_lit 1 (by omega) x
theorem and_3 (x : Int) : abin .and (.int .i64 x) (.int .i64 3) = some (.int .i64 (x % 4)) := and_lit 2 (by omega) x
theorem and_7 (x : Int) : abin .and (.int .i64 x) (.int .i64 7) = some (.int .i64 (x % 8)) := and_lit 3 (by omega) x
theorem and_15 (x : Int) : abin .and (.int .i64 x) (.int .i64 15) = some (.int .i64 (x % 16)) := and_lit 4 (by omega) x
theorem and_31 (x : Int) : abin .and (.int .i64 x) (.int .i64 31) = some (.int .i64 (x % 32)) := and_lit 5 (by omega) x
theorem and_255 (x : Int) : abin .and (.int .i64 x) (.int .i64 255) = some (.int .i64 (x % 256)) := and_lit 8 (by omega) x
theorem and_1023 (x : Int) : abin .and (.int .i64 x) (.int .i64 1023) = some (.int .i64 (x % 1024)) := and_lit 10 (by omega) x

theorem mask_1 (x : Int) : IntKind.wrap .i64 (((x % 2 ^ IntKind.i64.bits).toNat &&& 1 % 2 ^ IntKind.i64.bits : Nat) : Int) = x % 2 := by have := and_1 x; simpa using this
theorem mask_3 (x : Int) : IntKind.wrap .i64 (((x % 2 ^ IntKind.i64.bits).toNat &&& 3 % 2 ^ IntKind.i64.bits : Nat) : Int) = x % 4 := by have := and_3 x; simpa using this
theorem mask_7 (x : Int) : IntKind.wrap .i64 (((x % 2 ^ IntKind.i64.bits).toNat &&& 7 % 2 ^ IntKind.i64.bits : Nat) : Int) = x % 8 := by have := and_7 x; simpa using this
theorem mask_15 (x : Int) : IntKind.wrap .i64 (((x % 2 ^ IntKind.i64.bits).toNat &&& 15 % 2 ^ IntKind.i64.bits : Nat) : Int) = x % 16 := by have := and_15 x; simpa using this
theorem mask_31 (x : Int) : IntKind.wrap .i64 (((x % 2 ^ IntKind.i64.bits).toNat &&& 31 % 2 ^ IntKind.i64.bits : Nat) : Int) = x % 32 := by have := and_31 x; simpa using this
theorem mask_255 (x : Int) : IntKind.wrap .i64 (((x % 2 ^ IntKind.i64.bits).toNat &&& 255 % 2 ^ IntKind.i64.bits : Nat) : Int) = x % 256 := by have := and_255 x; simpa using this
theorem mask_1023 (x : Int) : IntKind.wrap .i64 (((x % 2 ^ IntKind.i64.bits).toNat &&& 1023 % 2 ^ IntKind.i64.bits : Nat) : Int) = x % 1024 := by have := and_1023 x; simpa using this
theorem wrap_u64 (n : Int) : IntKind.wrap .u64 n = n % 18446744073709551616 := by
  have : IntKind.wrap .u64 n = if (false && decide (n % 18446744073709551616 ≥ 9223372036854775808)) = true then n % 18446744073709551616 - 18446744073709551616 else n % 18446744073709551616 := rfl
  rw [this]; simp

end Go.Ab

namespace Go.Ab

def saysYes : Option (AV × AH) → Bool
  | some (.bool true, _) => true
  | _ => false

theorem saysYes_of {x : Option (AV × AH)} (h : saysYes x = true) : ∃ H, x = some (.bool true, H) := by
  unfold saysYes at h
  split at h
  · exact ⟨_, rfl⟩
  · cases h

theorem PCall.closed {M : FuncId → Option MFunc} {k : FuncId} {F : MFunc} (n : Nat) (hM : M k = some F) (hp : F.pure = true) (hb : F.both = false) (h : saysYes (evalF (eval M n) n F [] { objs := .nil, next := 0, lo := 0 }) = true) : PCall M k [] (.bool true) := by
  intro args H hw ht
  obtain ⟨H1, h1⟩ := saysYes_of h
  refine ⟨.bool true, H, ⟨n + 1, ?_⟩, hw, Nat.le_refl _, rfl, fun _ _ => rfl, [],   .one (.cell (by simp) (.flat rfl .nil)), by simp, by simp⟩
  simp only [eval, hM, hp, hb, if_true, pureB, Bool.false_eq_true, if_false]
  unfold pureC
  rw [ht]
  simp only [h1]
  rfl

end Go.Ab

namespace Go.Ab

theorem c_awake16 : PCall tab 22 [] (.bool true) := PCall.closed 60 rfl rfl rfl (by kernel_rfl)
theorem c_begun16 : PCall tab 23 [] (.agg (encMachine true begunM)) := by
  refine PCall.of (F := m23) rfl rfl rfl (ok_mach _) ?_
  simp -implicitDefEqProofs [m23]
  refine CallT.pure (c_New13 ⟨2, 2, 2, 4, 8⟩) rfl (ok_mach1 _ _) ?_
  rw [newM_yes begun_cfg]
  rw [show machine0 ⟨2, 2, 2, 4, 8⟩ = begunM from rfl]
  simp -implicitDefEqProofs

def lookM : Machine := (callM begunM 0 ⟨2, 0, 0⟩).1
def postedM : Machine := (postM lookM 0).1
theorem looks1 : callM begunM 0 ⟨2, 0, 0⟩ = (lookM, (callM begunM 0 ⟨2, 0, 0⟩).2) := rfl
theorem looks2 : (postM lookM 0).2 = 0 := by decide +kernel
theorem looks3 : waitM postedM 0 0 = ([], 0) := by decide +kernel
theorem looks4 : lookM.rings.length = 2 ∧ lookM.replicas.length = 2 ∧ lookM.threads.length = 4 ∧ lookM.history.length = 1 := by decide +kernel
theorem looks5 : postedM.rings.length = 2 ∧ postedM.replicas.length = 2 ∧ postedM.threads.length = 4 ∧ postedM.history.length = 1 := by decide +kernel
theorem looks6 : begunM.history.length = 0 := rfl

set_option maxRecDepth 20000 in
set_option maxHeartbeats 4000000 in
theorem l_BoardForms (which x : Int) (_ : inR which) (_ : inR x) : CallT tab false 7 [.a (.int .i64 which), .a (.int .i64 x)] TH.none (fun v _ => v = .a (.bool true)) := by
  obtain ⟨b1, b2, b3, b4, b5, b6⟩ := begun_is
  have b7 := looks6
  have hbeg := c_begun16
  have okL : okM lookM := okM_call b5 _ _
  have okP : okM postedM := okM_post okL _
  have k2 : postM lookM 0 = (postedM, 0) := Prod.ext rfl looks2
  have k3 := looks3
  obtain ⟨p1, p2, p3, p4⟩ := looks4
  obtain ⟨q1, q2, q3, q4⟩ := looks5
  obtain ⟨kn, k1⟩ : ∃ n, callM begunM 0 ⟨2, 0, 0⟩ = (lookM, n) := ⟨_, looks1⟩
  generalize postedM = P at *
  generalize lookM = Lo at *
  generalize begunM = B at *
  have hin : ∀ r ∈ B.rings, inR r.head := fun r hr => by have := (b6.2.2.1 r hr).1.1; simp only [ringNums] at this; unfold inR; omega
  refine CallT.body (F := m7) rfl rfl rfl rfl ?_
  simp -implicitDefEqProofs [m7]
  refine CallT.pure c_awake16 rfl rfl ?_
  have hd : IntKind.wrap .i64 (1 + x % 1024) = 1 + x % 1024 := wrap_of (by omega) (by omega)
  simp -implicitDefEqProofs [mask_1023, hd]
  obtain ⟨d, hdd⟩ : ∃ d, 1 + x % 1024 = d := ⟨_, rfl⟩
  have hd1 : 1 ≤ d := by omega
  have hd2 : d ≤ 1024 := by omega
  rw [hdd]
  have n1 : IntKind.wrap .i64 (-d) = -d := wrap_of (by omega) (by omega)
  have n2 : IntKind.wrap .i64 (1 + d) = 1 + d := wrap_of (by omega) (by omega)
  have n3 : IntKind.wrap .i64 (3 + d) = 3 + d := wrap_of (by omega) (by omega)
  obtain ⟨w, hw⟩ : ∃ w, which % 2 = w := ⟨_, rfl⟩
  have hw2 : w = 0 ∨ w = 1 := by omega
  refine CallT.pure hbeg rfl (ok_mach _) ?_
  simp -implicitDefEqProofs
  have bad : okM { B with config := { B.config with logs := 1 } } := b5
  have badno : ¬ machineMay { B with config := { B.config with logs := 1 } } := fun e => by have := e.2.1; simp only [macNums] at this; omega
  have pb := postM_no (m := { B with config := { B.config with logs := 1 } }) (t := 0) (fun e => badno e.1)
  have wb := waitM_no (m := { B with config := { B.config with logs := 1 } }) (r := 0) (g := 0) (fun e => badno e.1)
  refine CallT.pure (c_Post { B with config := { B.config with logs := 1 } } 0 bad) (by simp) (ok_mach1 _ _) ?_
  rw [pb]
  simp -implicitDefEqProofs
  --GEN
  rcases hw2 with rfl | rfl
  · refine CallT.pure hbeg rfl (ok_mach _) ?_
    simp -implicitDefEqProofs [mask_1, hw, n1, n2, n3]
    have pa := postM_no (m := B) (t := (-d)) (fun e => by have e1 := e.2.1; have e2 := e.2.2; rw [b1] at e2; simp only at e2; omega)
    refine CallT.pure (c_Post B (-d) b5) (by simp) (ok_mach1 _ _) ?_
    rw [pa]
    simp -implicitDefEqProofs
    refine CallT.pure (c_Waiting { B with config := { B.config with logs := 1 } } 0 0 bad) (by simp) (ok_waits _ _) ?_
    rw [wb]
    simp -implicitDefEqProofs
    refine CallT.pure hbeg rfl (ok_mach _) ?_
    simp -implicitDefEqProofs [mask_1, hw, n1, n2, n3]
    have wr := waitM_no (m := B) (r := (-d)) (g := 0) (fun e => by have e1 := e.2.1.1; have e2 := e.2.1.2; omega)
    refine CallT.pure (c_Waiting B (-d) 0 b5) (by simp) (ok_waits _ _) ?_
    rw [wr]
    simp -implicitDefEqProofs
    refine CallT.pure hbeg rfl (ok_mach _) ?_
    simp -implicitDefEqProofs [mask_1, hw, n1, n2, n3]
    have wg := waitM_no (m := B) (r := 0) (g := (-d)) (fun e => by have e1 := e.2.2.1; have e2 := e.2.2.2; omega)
    refine CallT.pure (c_Waiting B 0 (-d) b5) (by simp) (ok_waits _ _) ?_
    rw [wg]
    simp -implicitDefEqProofs
    refine CallT.pure hbeg rfl (ok_mach _) ?_
    simp -implicitDefEqProofs
    refine CallT.pure (c_Call13 B 0 ⟨2, 0, 0⟩ b5 hin) (by simp) (ok_mach1 _ _) ?_
    rw [k1]
    simp -implicitDefEqProofs
    refine CallT.pure (c_Post Lo 0 okL) (by simp) (ok_mach1 _ _) ?_
    rw [k2]
    simp -implicitDefEqProofs
    refine CallT.pure (c_Waiting P 0 0 okP) (by simp) (ok_waits _ _) ?_
    rw [k3]
    simp -implicitDefEqProofs
    refine CallT.pure (c_Num 1600) rfl rfl ?_
    simp -implicitDefEqProofs
    refine CallT.pure (c_Num 1600) rfl rfl ?_
    simp -implicitDefEqProofs
    refine CallT.pure (c_Num 1600) rfl rfl ?_
    simp -implicitDefEqProofs
    refine CallT.pure (c_Num 1600) rfl rfl ?_
    simp -implicitDefEqProofs
    refine CallT.pure (c_Num 1600) rfl rfl ?_
    simp -implicitDefEqProofs
    refine CallT.pure (c_Num 0) rfl rfl ?_
    simp -implicitDefEqProofs
    refine CallT.pure (c_Num 0) rfl rfl ?_
    simp -implicitDefEqProofs
  · refine CallT.pure hbeg rfl (ok_mach _) ?_
    simp -implicitDefEqProofs [mask_1, hw, n1, n2, n3]
    have pa := postM_no (m := B) (t := (3 + d)) (fun e => by have e1 := e.2.1; have e2 := e.2.2; rw [b1] at e2; simp only at e2; omega)
    refine CallT.pure (c_Post B (3 + d) b5) (by simp) (ok_mach1 _ _) ?_
    rw [pa]
    simp -implicitDefEqProofs
    refine CallT.pure (c_Waiting { B with config := { B.config with logs := 1 } } 0 0 bad) (by simp) (ok_waits _ _) ?_
    rw [wb]
    simp -implicitDefEqProofs
    refine CallT.pure hbeg rfl (ok_mach _) ?_
    simp -implicitDefEqProofs [mask_1, hw, n1, n2, n3]
    have wr := waitM_no (m := B) (r := (1 + d)) (g := 0) (fun e => by have e1 := e.2.1.1; have e2 := e.2.1.2; omega)
    refine CallT.pure (c_Waiting B (1 + d) 0 b5) (by simp) (ok_waits _ _) ?_
    rw [wr]
    simp -implicitDefEqProofs
    refine CallT.pure hbeg rfl (ok_mach _) ?_
    simp -implicitDefEqProofs [mask_1, hw, n1, n2, n3]
    have wg := waitM_no (m := B) (r := 0) (g := (1 + d)) (fun e => by have e1 := e.2.2.1; have e2 := e.2.2.2; omega)
    refine CallT.pure (c_Waiting B 0 (1 + d) b5) (by simp) (ok_waits _ _) ?_
    rw [wg]
    simp -implicitDefEqProofs
    refine CallT.pure hbeg rfl (ok_mach _) ?_
    simp -implicitDefEqProofs
    refine CallT.pure (c_Call13 B 0 ⟨2, 0, 0⟩ b5 hin) (by simp) (ok_mach1 _ _) ?_
    rw [k1]
    simp -implicitDefEqProofs
    refine CallT.pure (c_Post Lo 0 okL) (by simp) (ok_mach1 _ _) ?_
    rw [k2]
    simp -implicitDefEqProofs
    refine CallT.pure (c_Waiting P 0 0 okP) (by simp) (ok_waits _ _) ?_
    rw [k3]
    simp -implicitDefEqProofs
    refine CallT.pure (c_Num 1600) rfl rfl ?_
    simp -implicitDefEqProofs
    refine CallT.pure (c_Num 1600) rfl rfl ?_
    simp -implicitDefEqProofs
    refine CallT.pure (c_Num 1600) rfl rfl ?_
    simp -implicitDefEqProofs
    refine CallT.pure (c_Num 1600) rfl rfl ?_
    simp -implicitDefEqProofs
    refine CallT.pure (c_Num 1600) rfl rfl ?_
    simp -implicitDefEqProofs
    refine CallT.pure (c_Num 0) rfl rfl ?_
    simp -implicitDefEqProofs
    refine CallT.pure (c_Num 0) rfl rfl ?_
    simp -implicitDefEqProofs

end Go.Ab

namespace Go.Ab
open Go.RowKit Go.ChangeShapes

theorem law_eval {M : FuncId → Option MFunc} {k : FuncId} {ts : List AV} (h : CallT M false k (ts.map .a) TH.none fun v _ => v = .a (.bool true)) : ∃ n H', eval M n k ts AH.zero = some (.bool true, H') := by
  obtain ⟨r, H', ⟨n, hev⟩, v, A', T', _, hv, _, rfl⟩ := h _ AH.zero ts HR.none (VRL.atoms ts)
  cases hv
  exact ⟨n, H', hev⟩

theorem i64_range {n : Int} (h : (Lit.int .i64 n).wf = true) : -9223372036854775808 ≤ n ∧ n < 9223372036854775808 := by
  simp only [Lit.wf, Bool.and_eq_true, decide_eq_true_eq] at h
  have e1 : IntKind.i64.min = -9223372036854775808 := by decide
  have e2 : IntKind.i64.max = 9223372036854775807 := by decide
  omega

def wfI (n : Int) : Prop := (Lit.int .i64 n).wf = true
def rangeOp (o : Op) : Prop := wfI o.code ∧ wfI o.row ∧ wfI o.arg
def rangeS (s : Slot) : Prop := rangeOp s.op ∧ wfI s.thread ∧ wfI s.bit
def rangeR (r : Ring) : Prop := wfI r.head ∧ wfI r.tail ∧ wfI r.fence ∧ (∀ s ∈ r.slots, rangeS s)
def rangeI (l : List Int) : Prop := ∀ x ∈ l, wfI x
def rangeP (p : Replica) : Prop := (rangeI p.state.r0 ∧ rangeI p.state.r1 ∧ rangeI p.state.r2 ∧ rangeI p.state.r3) ∧ rangeI p.cursors ∧ rangeI p.locks
def rangeT (t : Thread) : Prop := wfI t.step ∧ rangeOp t.op ∧ wfI t.log ∧ wfI t.seen ∧ rangeI t.batch ∧ wfI t.at_ ∧ wfI t.answer ∧ rangeI t.tails
def rangeC (c : Config) : Prop := wfI c.object ∧ wfI c.replicas ∧ wfI c.logs ∧ wfI c.threads ∧ wfI c.slots
def rangeE (e : Event) : Prop := wfI e.thread ∧ rangeOp e.op ∧ wfI e.answer
/-- what a machine that is handed in is known to be -/
def rangeM (m : Machine) : Prop := rangeC m.config ∧ (∀ r ∈ m.rings, rangeR r) ∧ (∀ p ∈ m.replicas, rangeP p) ∧ (∀ t ∈ m.threads, rangeT t) ∧ (∀ e ∈ m.history, rangeE e)
theorem rangeM_heads {m : Machine} (h : rangeM m) : ∀ r ∈ m.rings, inR r.head := fun r hr => i64_range (h.2.1 r hr).1

end Go.Ab

namespace Go.Proofs.Ytooniglinjigdaa
open Go.ChangeShapes Go.WideShapes Go.ChangeAt Go.RowKit Go.Ab

mutual
theorem tame_of {H : Type} : ∀ (d : DataW H), Rows.uptoBulk d ≤ 1048576 → tame d = true
  | .lit l, h => by
    cases l
    case string bytes => simp only [Rows.uptoBulk] at h; simp only [tame, decide_eq_true_eq]; omega
    all_goals rfl
  | .nil, _ => rfl
  | .ptr _, _ => rfl
  | .slice es sp, h => by
    simp only [Rows.uptoBulk] at h
    obtain ⟨h1, h2⟩ := tameL_of es (by omega)
    simp only [tame, Bool.and_eq_true, decide_eq_true_eq]
    exact ⟨by omega, h1⟩
  | .agg ps, h => by
    simp only [Rows.uptoBulk] at h
    exact (tameL_of ps (by omega)).1
  | .iface _ _, _ => rfl
  | .map _, _ => rfl
  | .held _, _ => rfl
theorem tameL_of {H : Type} : ∀ (l : List (DataW H)), Rows.uptoBulkAll l ≤ 1048576 → tameL l = true ∧ l.length ≤ Rows.uptoBulkAll l
  | [], _ => ⟨rfl, by simp⟩
  | d :: r, h => by
    simp only [Rows.uptoBulkAll] at h ⊢
    obtain ⟨h1, h2⟩ := tameL_of r (by omega)
    have h3 := tame_of d (by omega)
    have h4 := bulk_pos d
    exact ⟨by simp only [tameL, h3, h1, Bool.and_self], by simp only [List.length_cons]; omega⟩
theorem bulk_pos {H : Type} : ∀ (d : DataW H), 1 ≤ Rows.uptoBulk d
  | .lit l => by cases l <;> simp [Rows.uptoBulk]
  | .nil => by simp [Rows.uptoBulk]
  | .ptr _ => by simp only [Rows.uptoBulk]; omega
  | .slice _ _ => by simp only [Rows.uptoBulk]; omega
  | .agg _ => by simp only [Rows.uptoBulk]; omega
  | .iface _ _ => by simp only [Rows.uptoBulk]; omega
  | .map _ => by simp only [Rows.uptoBulk]; omega
  | .held _ => by simp [Rows.uptoBulk]
end

theorem own : ownKnob Go.Proofs.Try.prog.godebug = none := by kernel_rfl
theorem laidOut : laidOutB Go.Proofs.Try.prog = true := by kernel_rfl

section
variable (W : World)
theorem dec_i : DecS Go.Proofs.Try.prog W 3 encInt wfI := Dec.s (Dec.int Go.Proofs.Try.underlying3)
theorem dec_b : DecS Go.Proofs.Try.prog W 4 (fun b : Bool => [.bool b]) (fun _ => True) := Dec.s (Dec.bool Go.Proofs.Try.underlying4)
theorem dec_ints : DecS Go.Proofs.Try.prog W 47 (fun l : List Int => [.vs (l.map encInt) false]) (fun l => rangeI l ∧ lenOK l) := DecS.slice (sz := 1) Go.Proofs.Try.underlying47 (by kernel_rfl) (by omega) (dec_i W)
theorem dec_op : DecS Go.Proofs.Try.prog W 57 encOp rangeOp :=
  @DecS.struct _ _ _ _ 3 _ _ _ _ _ _ Go.Proofs.Try.underlying57 (by kernel_rfl) (@DecFS.cons _ _ _ _ _ 1 _ _ _ _ _ _ _ (by rfl) (by kernel_rfl) (dec_i W) (@DecFS.cons _ _ _ _ _ 1 _ _ _ _ _ _ _ (by rfl) (by kernel_rfl) (dec_i W) (@DecFS.cons _ _ _ _ _ 1 _ _ _ _ _ _ _ (by rfl) (by kernel_rfl) (dec_i W) (@DecFS.nil _ _ 3))))
    (fun a => ⟨a.1, a.2.1, a.2.2.1⟩) (fun a h => ⟨⟨h.1, h.2.1, h.2.2.1⟩, rfl⟩)
theorem dec_config : DecS Go.Proofs.Try.prog W 23 encConfig rangeC :=
  @DecS.struct _ _ _ _ 5 _ _ _ _ _ _ Go.Proofs.Try.underlying23 (by kernel_rfl) (@DecFS.cons _ _ _ _ _ 1 _ _ _ _ _ _ _ (by rfl) (by kernel_rfl) (dec_i W) (@DecFS.cons _ _ _ _ _ 1 _ _ _ _ _ _ _ (by rfl) (by kernel_rfl) (dec_i W) (@DecFS.cons _ _ _ _ _ 1 _ _ _ _ _ _ _ (by rfl) (by kernel_rfl) (dec_i W) (@DecFS.cons _ _ _ _ _ 1 _ _ _ _ _ _ _ (by rfl) (by kernel_rfl) (dec_i W) (@DecFS.cons _ _ _ _ _ 1 _ _ _ _ _ _ _ (by rfl) (by kernel_rfl) (dec_i W) (@DecFS.nil _ _ 5))))))
    (fun a => ⟨a.1, a.2.1, a.2.2.1, a.2.2.2.1, a.2.2.2.2.1⟩) (fun a h => ⟨⟨h.1, h.2.1, h.2.2.1, h.2.2.2.1, h.2.2.2.2.1⟩, rfl⟩)
theorem dec_slot : DecS Go.Proofs.Try.prog W 113 encSlot rangeS :=
  @DecS.struct _ _ _ _ 5 _ _ _ _ _ _ Go.Proofs.Try.underlying113 (by kernel_rfl) (@DecFS.cons _ _ _ _ _ 3 _ _ _ _ _ _ _ (by rfl) (by kernel_rfl) (dec_op W) (@DecFS.cons _ _ _ _ _ 1 _ _ _ _ _ _ _ (by rfl) (by kernel_rfl) (dec_i W) (@DecFS.cons _ _ _ _ _ 1 _ _ _ _ _ _ _ (by rfl) (by kernel_rfl) (dec_i W) (@DecFS.nil _ _ 5))))
    (fun a => ⟨a.1, a.2.1, a.2.2.1⟩) (fun a h => ⟨⟨h.1, h.2.1, h.2.2.1⟩, rfl⟩)
theorem dec_slots : DecS Go.Proofs.Try.prog W 44 (fun l : List Slot => [.vs (l.map encSlot) false]) (fun l => (∀ s ∈ l, rangeS s) ∧ lenOK l) := DecS.slice (sz := 5) Go.Proofs.Try.underlying44 (by kernel_rfl) (by omega) (dec_slot W)
theorem dec_ring : DecS Go.Proofs.Try.prog W 46 (encRing false) (fun r => rangeR r ∧ okR r) :=
  @DecS.struct _ _ _ _ 4 _ _ _ _ _ _ Go.Proofs.Try.underlying46 (by kernel_rfl) (@DecFS.cons _ _ _ _ _ 1 _ _ _ _ _ _ _ (by rfl) (by kernel_rfl) (dec_i W) (@DecFS.cons _ _ _ _ _ 1 _ _ _ _ _ _ _ (by rfl) (by kernel_rfl) (dec_i W) (@DecFS.cons _ _ _ _ _ 1 _ _ _ _ _ _ _ (by rfl) (by kernel_rfl) (dec_i W) (@DecFS.cons _ _ _ _ _ 1 _ _ _ _ _ _ _ (by rfl) (by kernel_rfl) (dec_slots W) (@DecFS.nil _ _ 4)))))
    (fun a => ⟨a.1, a.2.1, a.2.2.1, a.2.2.2.1⟩) (fun a h => ⟨⟨⟨h.1, h.2.1, h.2.2.1, h.2.2.2.1.1⟩, h.2.2.2.1.2⟩, rfl⟩)
theorem dec_rings : DecS Go.Proofs.Try.prog W 24 (fun l : List Ring => [.vs (l.map (encRing false)) false]) (fun l => (∀ s ∈ l, rangeR s ∧ okR s) ∧ lenOK l) := DecS.slice (sz := 4) Go.Proofs.Try.underlying24 (by kernel_rfl) (by omega) (dec_ring W)
theorem dec_rows : DecS Go.Proofs.Try.prog W 49 (fun l : List (List Int) => (l.map fun l : List Int => [AV.vs (l.map encInt) false]).flatten) (fun l => (∀ a ∈ l, rangeI a ∧ lenOK a) ∧ l.length = 4) := DecS.array (sz := 1) Go.Proofs.Try.underlying49 (by kernel_rfl) (by kernel_rfl) (dec_ints W)
theorem dec_state : DecS Go.Proofs.Try.prog W 51 (encState false) (fun s => (rangeI s.r0 ∧ rangeI s.r1 ∧ rangeI s.r2 ∧ rangeI s.r3) ∧ okS s) :=
  @DecS.struct _ _ _ _ 4 _ _ _ _ _ _ Go.Proofs.Try.underlying51 (by kernel_rfl) (@DecFS.cons _ _ _ _ _ 4 _ _ _ _ _ _ _ (by rfl) (by kernel_rfl) (dec_rows W) (@DecFS.nil _ _ 4))
    (fun a => match a.1 with | [a0, a1, a2, a3] => ⟨a0, a1, a2, a3⟩ | _ => ⟨[], [], [], []⟩)
    (fun a h => by
      obtain ⟨l, _⟩ := a
      obtain ⟨⟨h1, h2⟩, _⟩ := h
      simp only at h1 h2
      match l, h2 with
      | [a0, a1, a2, a3], _ =>
        have k0 := h1 a0 (by simp)
        have k1 := h1 a1 (by simp)
        have k2 := h1 a2 (by simp)
        have k3 := h1 a3 (by simp)
        exact ⟨⟨⟨k0.1, k1.1, k2.1, k3.1⟩, k0.2, k1.2, k2.2, k3.2⟩, rfl⟩)
theorem dec_replica : DecS Go.Proofs.Try.prog W 53 (encReplica false) (fun p => rangeP p ∧ okP' p) :=
  @DecS.struct _ _ _ _ 6 _ _ _ _ _ _ Go.Proofs.Try.underlying53 (by kernel_rfl) (@DecFS.cons _ _ _ _ _ 4 _ _ _ _ _ _ _ (by rfl) (by kernel_rfl) (dec_state W) (@DecFS.cons _ _ _ _ _ 1 _ _ _ _ _ _ _ (by rfl) (by kernel_rfl) (dec_ints W) (@DecFS.cons _ _ _ _ _ 1 _ _ _ _ _ _ _ (by rfl) (by kernel_rfl) (dec_ints W) (@DecFS.nil _ _ 6))))
    (fun a => ⟨a.1, a.2.1, a.2.2.1⟩) (fun a h => ⟨⟨⟨h.1.1, h.2.1.1, h.2.2.1.1⟩, h.1.2, h.2.1.2, h.2.2.1.2⟩, rfl⟩)
theorem dec_replicas : DecS Go.Proofs.Try.prog W 25 (fun l : List Replica => [.vs (l.map (encReplica false)) false]) (fun l => (∀ s ∈ l, rangeP s ∧ okP' s) ∧ lenOK l) := DecS.slice (sz := 6) Go.Proofs.Try.underlying25 (by kernel_rfl) (by omega) (dec_replica W)
theorem dec_thread : DecS Go.Proofs.Try.prog W 59 (encThread false) (fun t => rangeT t ∧ okTh t) :=
  @DecS.struct _ _ _ _ 12 _ _ _ _ _ _ Go.Proofs.Try.underlying59 (by kernel_rfl) (@DecFS.cons _ _ _ _ _ 1 _ _ _ _ _ _ _ (by rfl) (by kernel_rfl) (dec_i W) (@DecFS.cons _ _ _ _ _ 3 _ _ _ _ _ _ _ (by rfl) (by kernel_rfl) (dec_op W) (@DecFS.cons _ _ _ _ _ 1 _ _ _ _ _ _ _ (by rfl) (by kernel_rfl) (dec_i W) (@DecFS.cons _ _ _ _ _ 1 _ _ _ _ _ _ _ (by rfl) (by kernel_rfl) (dec_i W) (@DecFS.cons _ _ _ _ _ 1 _ _ _ _ _ _ _ (by rfl) (by kernel_rfl) (dec_ints W) (@DecFS.cons _ _ _ _ _ 1 _ _ _ _ _ _ _ (by rfl) (by kernel_rfl) (dec_i W) (@DecFS.cons _ _ _ _ _ 1 _ _ _ _ _ _ _ (by rfl) (by kernel_rfl) (dec_b W) (@DecFS.cons _ _ _ _ _ 1 _ _ _ _ _ _ _ (by rfl) (by kernel_rfl) (dec_b W) (@DecFS.cons _ _ _ _ _ 1 _ _ _ _ _ _ _ (by rfl) (by kernel_rfl) (dec_i W) (@DecFS.cons _ _ _ _ _ 1 _ _ _ _ _ _ _ (by rfl) (by kernel_rfl) (dec_ints W) (@DecFS.nil _ _ 12)))))))))))
    (fun a => ⟨a.1, a.2.1, a.2.2.1, a.2.2.2.1, a.2.2.2.2.1, a.2.2.2.2.2.1, a.2.2.2.2.2.2.1, a.2.2.2.2.2.2.2.1, a.2.2.2.2.2.2.2.2.1, a.2.2.2.2.2.2.2.2.2.1⟩)
    (fun a h => by
      obtain ⟨h1, h2, h3, h4, h5, h6, h7, h8, h9, h10, _⟩ := h
      exact ⟨⟨⟨h1, h2, h3, h4, h5.1, h6, h9, h10.1⟩, h5.2, h10.2⟩, rfl⟩)
theorem dec_threads : DecS Go.Proofs.Try.prog W 26 (fun l : List Thread => [.vs (l.map (encThread false)) false]) (fun l => (∀ s ∈ l, rangeT s ∧ okTh s) ∧ lenOK l) := DecS.slice (sz := 12) Go.Proofs.Try.underlying26 (by kernel_rfl) (by omega) (dec_thread W)
theorem dec_event : DecS Go.Proofs.Try.prog W 93 encEvent rangeE :=
  @DecS.struct _ _ _ _ 6 _ _ _ _ _ _ Go.Proofs.Try.underlying93 (by kernel_rfl) (@DecFS.cons _ _ _ _ _ 1 _ _ _ _ _ _ _ (by rfl) (by kernel_rfl) (dec_i W) (@DecFS.cons _ _ _ _ _ 1 _ _ _ _ _ _ _ (by rfl) (by kernel_rfl) (dec_b W) (@DecFS.cons _ _ _ _ _ 3 _ _ _ _ _ _ _ (by rfl) (by kernel_rfl) (dec_op W) (@DecFS.cons _ _ _ _ _ 1 _ _ _ _ _ _ _ (by rfl) (by kernel_rfl) (dec_i W) (@DecFS.nil _ _ 6)))))
    (fun a => ⟨a.1, a.2.1, a.2.2.1, a.2.2.2.1⟩) (fun a h => ⟨⟨h.1, h.2.2.1, h.2.2.2.1⟩, rfl⟩)
theorem dec_events : DecS Go.Proofs.Try.prog W 27 (fun l : List Ab.Event => [.vs (l.map encEvent) false]) (fun l => (∀ s ∈ l, rangeE s) ∧ lenOK l) := DecS.slice (sz := 6) Go.Proofs.Try.underlying27 (by kernel_rfl) (by omega) (dec_event W)
theorem dec_machine : DecS Go.Proofs.Try.prog W 29 (encMachine false) (fun m => rangeM m ∧ okM m) :=
  @DecS.struct _ _ _ _ 9 _ _ _ _ _ _ Go.Proofs.Try.underlying29 (by kernel_rfl) (@DecFS.cons _ _ _ _ _ 5 _ _ _ _ _ _ _ (by rfl) (by kernel_rfl) (dec_config W) (@DecFS.cons _ _ _ _ _ 1 _ _ _ _ _ _ _ (by rfl) (by kernel_rfl) (dec_rings W) (@DecFS.cons _ _ _ _ _ 1 _ _ _ _ _ _ _ (by rfl) (by kernel_rfl) (dec_replicas W) (@DecFS.cons _ _ _ _ _ 1 _ _ _ _ _ _ _ (by rfl) (by kernel_rfl) (dec_threads W) (@DecFS.cons _ _ _ _ _ 1 _ _ _ _ _ _ _ (by rfl) (by kernel_rfl) (dec_events W) (@DecFS.nil _ _ 9))))))
    (fun a => ⟨a.1, a.2.1, a.2.2.1, a.2.2.2.1, a.2.2.2.2.1⟩)
    (fun a h => by
      obtain ⟨h1, h2, h3, h4, h5, _⟩ := h
      exact ⟨⟨⟨h1, fun r hr => (h2.1 r hr).1, fun r hr => (h3.1 r hr).1, fun r hr => (h4.1 r hr).1, h5.1⟩, ⟨h2.2, fun r hr => (h2.1 r hr).2⟩, ⟨h3.2, fun r hr => (h3.1 r hr).2⟩, ⟨h4.2, fun r hr => (h4.1 r hr).2⟩, h5.2⟩, rfl⟩)
end

end Go.Proofs.Ytooniglinjigdaa
