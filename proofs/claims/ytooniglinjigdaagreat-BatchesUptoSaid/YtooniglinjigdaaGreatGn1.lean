/-
  Who waits, by value.
  and what goes with it.
  Conditions: none.
-/
import Derived.Test.YtooniglinjigdaaGreatGn0
import Derived.Test.YtooniglinjigdaaGreatGd
import Derived.KernelRfl
import Derived.Test.YtooniglinjigdaaGreatGb
import Derived.Test.YtooniglinjigdaaGreatRows

set_option linter.unusedSimpArgs false
set_option linter.unusedVariables false

namespace Go.Ab

theorem c_cfgReplica (c : Config) (t : Int) (h : cfgMay c ∧ 0 ≤ t ∧ t < c.threads) : PCall tab 70 [.agg (encConfig c), .int .i64 t] (.tup [.int .i64 (Int.tmod t c.replicas), .int .i64 0]) := by
  have hr : ¬ c.replicas = 0 := by have := h.1.2.1; omega
  refine PCall.of (F := m70) rfl rfl rfl rfl ?_
  simp -implicitDefEqProofs [m70]
  refine CallT.bool2 rfl (c_cfgThread c t) (fun hb => ?_) (fun hb => absurd h hb)
  simp -implicitDefEqProofs [hr]
theorem c_cfgReplicaNo (c : Config) (t : Int) (h : ¬ (cfgMay c ∧ 0 ≤ t ∧ t < c.threads)) : PCall tab 70 [.agg (encConfig c), .int .i64 t] (.tup [.int .i64 0, .int .i64 1300]) := by
  refine PCall.of (F := m70) rfl rfl rfl rfl ?_
  simp -implicitDefEqProofs [m70]
  refine CallT.bool2 rfl (c_cfgThread c t) (fun hb => absurd hb h) (fun hb => ?_)
  simp -implicitDefEqProofs

@[reducible] def waitT (c : Config) (r g : Int) (i : Int) (t : Thread) : Prop := Int.tmod i c.replicas = r ∧ t.log = g ∧ t.posted = true ∧ updates t.op
def waits (m : Machine) (r g : Int) (i : Nat) : Bool := match m.threads[i]? with
  | some t => decide (waitT m.config r g i t)
  | none => false
def wsTo (m : Machine) (r g : Int) (i : Nat) : List Int := ((List.range i).filter (waits m r g)).map (fun j : Nat => (j : Int))
def waitM (m : Machine) (r g : Int) : List Int × Int := if thereP m r g then (wsTo m r g m.threads.length, 0) else ([], 1600)
theorem waitM_yes {m : Machine} {r g : Int} (h : thereP m r g) : waitM m r g = (wsTo m r g m.threads.length, 0) := if_pos h
theorem waitM_no {m : Machine} {r g : Int} (h : ¬ thereP m r g) : waitM m r g = ([], 1600) := if_neg h
theorem wsTo_yes {m : Machine} {r g : Int} {i : Nat} (hi : i < m.threads.length) (h : waitT m.config r g i m.threads[i]) : wsTo m r g (i + 1) = wsTo m r g i ++ [(i : Int)] := by
  have hw : waits m r g i = true := by unfold waits; rw [List.getElem?_eq_getElem hi]; simpa using h
  unfold wsTo
  rw [List.range_succ, List.filter_append, List.map_append, List.filter_cons_of_pos hw]
  rfl
theorem wsTo_no {m : Machine} {r g : Int} {i : Nat} (hi : i < m.threads.length) (h : ¬ waitT m.config r g i m.threads[i]) : wsTo m r g (i + 1) = wsTo m r g i := by
  have hw : ¬ waits m r g i = true := by unfold waits; rw [List.getElem?_eq_getElem hi]; simpa using h
  unfold wsTo
  rw [List.range_succ, List.filter_append, List.map_append, List.filter_cons_of_neg hw]
  simp
theorem wsTo_len (m : Machine) (r g : Int) (i : Nat) : (wsTo m r g i).length ≤ i := by
  unfold wsTo
  rw [List.length_map]
  exact Nat.le_trans (List.length_filter_le _ _) (by simp)
theorem ok_waits (l : List Int) (n : Int) : okT (.tup [.vs (l.map encInt) true, .int .i64 n]) = true := by simp [okT, okP, okC, List.all_map, flatV]

def WtI (m : Machine) (r g : Int) (k : Nat) (E : TE) (T : TH) : Prop := ∃ (i : Nat), i + k = m.threads.length ∧ 1 ≤ T.next ∧ T.get 0 = .raw ((encMachine false m).map .a) ∧ GrowL T (E.get 8) ((wsTo m r g i).map encInt) 1 T.next ∧ E.get 1 = .a (.int .i64 r) ∧ E.get 2 = .a (.int .i64 g) ∧ E.get 3 = .pt 0 [] 0 0 0 ∧ E.get 18 = .a (.vs (m.threads.map (encThread false)) false) ∧ E.get 19 = .a (.int .i64 m.threads.length) ∧ E.get 20 = .a (.int .i64 i)
def WtJ (m : Machine) (r g : Int) (k : Nat) (E : TE) (T : TH) : Prop := ∃ (i : Nat), i + k = m.threads.length ∧ GrowL T (E.get 8) ((wsTo m r g i).map encInt) 0 T.next ∧ E.get 1 = .a (.int .i64 r) ∧ E.get 2 = .a (.int .i64 g) ∧ E.get 3 = .lp 0 0 ∧ E.get 9 = .a (.int .i64 i) ∧ 1 ≤ E.ln ∧ E.var 0 = some ((encMachine false m).map .a)

set_option maxHeartbeats 1000000 in
theorem c_Waiting (m : Machine) (r g : Int) (h : okM m) : PCall tab 27 [.agg (encMachine false m), .int .i64 r, .int .i64 g] (.tup [.vs ((waitM m r g).1.map encInt) true, .int .i64 (waitM m r g).2]) := by
  by_cases hall : thereP m r g
  · rw [waitM_yes hall]
    have hall' := hall
    obtain ⟨h1, hr, hg⟩ := hall
    have hc := h1.1
    have hn := h1.2.1
    simp only [macNums] at hn
    have hl3 : m.threads.length ≤ 4 := by have := hc.2.2.2.1; omega
    have hrn : ¬ m.config.replicas = 0 := by have := hc.2.1; omega
    refine PCall.of (F := m27) rfl rfl rfl (ok_waits _ _) ?_
    simp -implicitDefEqProofs [m27]
    refine CallT.bool2 (by simp) (c_There m r g h) (fun hb => ?_) (fun hb => absurd hall' hb)
    simp -implicitDefEqProofs
    refine loop_by (WtI m r g) ?_ m.threads.length ⟨0, by simp, by simp, by simp, .inl ⟨rfl, by simp⟩, by simp, by simp, by simp, by simp, by simp, by simp⟩
    rintro k E T ⟨i, hi, hn1, hT0, hL, e1, e2, e3, e18, e19, e20⟩
    by_cases hlt : i < m.threads.length
    · have g1 := List.getElem?_eq_getElem hlt
      have z1 : ¬ 0 = T.next := by omega
      have z2 : ¬ T.next = 0 := by omega
      have hwl := wsTo_len m r g i
      have bo : ((wsTo m r g i).length + 1) * 8 ≤ 140737488355328 := by omega
      simp -implicitDefEqProofs [e1, e2, e3, e18, e19, e20, hT0, hlt, g1, z1, z2, List.replicate]
      refine CallT.pure (c_cfgReplica m.config i ⟨hc, by omega, by omega⟩) (by simp [e1, e2, e3, e18, e19, e20, hT0, hlt, g1, z1, z2, List.replicate]) rfl ?_
      simp -implicitDefEqProofs [e1, e2, e3, e18, e19, e20, hT0, hlt, g1, z1, z2, List.replicate]
      repeat' (first
        | (with_reducible refine guard_by (fun hb => ?_) (fun hb => ?_) <;> rw [hb] <;> (try simp at hb) <;> simp -implicitDefEqProofs [hb, e1, e2, e3, e18, e19, e20, hT0, hlt, g1, z1, z2, List.replicate])
        | (with_reducible refine cond_by (fun hb => ?_) (fun hb => ?_) <;> rw [hb] <;> (try simp at hb) <;> simp -implicitDefEqProofs [hb, e1, e2, e3, e18, e19, e20, hT0, hlt, g1, z1, z2, List.replicate])
        | (refine CallT.bool2 rfl (c_updates m.threads[i].op) (fun hb => ?_) (fun hb => ?_) <;> simp -implicitDefEqProofs [hb, e1, e2, e3, e18, e19, e20, hT0, hlt, g1, z1, z2, List.replicate]))
      all_goals (try (
        have hno : ¬ waitT m.config r g i m.threads[i] := by
          intro hh; obtain ⟨h5, h6, h7, h8⟩ := hh; first | exact hb h8 | omega | (rw [h7] at hb; cases hb) | simp_all
        refine ⟨k - 1, by omega, ?_⟩
        rw [← wsTo_no hlt hno] at hL
        exact ⟨i + 1, by omega, hn1, hT0, by simpa using hL, by simp [e1], by simp [e2], by simp [e3], by simp [e18], by simp [e19], by first | (simp; done) | (simp; exact wrap_nat (by omega))⟩))
      have hyes : waitT m.config r g i m.threads[i] := ⟨by omega, by omega, by assumption, by assumption⟩
      have hsucc := wsTo_yes hlt hyes
      rcases hL with ⟨hw0, e8⟩ | ⟨j, log, hj1, hj2, e8, hTj⟩
      · have hw1 : wsTo m r g i = [] := by simpa using hw0
        rw [hw1] at hsucc
        simp -implicitDefEqProofs [e1, e2, e3, e18, e19, e20, hT0, hlt, g1, z1, z2, List.replicate, e8]
        refine ⟨k - 1, by omega, i + 1, by omega, by first | (simp; done) | (simp; omega), by simp [hT0, z1, z2], by simp only [hsucc, List.map_append]; exact .inr ⟨T.next + 1, [], by omega, by simp, by simp, by simp⟩, by simp [e1], by simp [e2], by simp [e3], by simp [e18], by simp [e19], by first | (simp; done) | (simp; exact wrap_nat (by omega))⟩
      · have y1 : ¬ j = T.next := by omega
        have y2 : ¬ T.next = j := by omega
        have y3 : ¬ T.next + 1 = j := by omega
        have y4 : ¬ j = T.next + 1 := by omega
        have y5 : ¬ j + 1 = 0 := by omega
        have y6 : ¬ j = 0 := by omega
        have y7 : ¬ 0 = j := by omega
        have hRl : ((wsTo m r g i).map encInt).length = (wsTo m r g i).length := List.length_map _
        simp -implicitDefEqProofs [e1, e2, e3, e18, e19, e20, hT0, hlt, g1, z1, z2, List.replicate, e8, hTj, y1, y2, y3, y4, y6, y7, bo]
        refine ⟨k - 1, by omega, i + 1, by omega, by first | (simp; done) | (simp; omega), by simp [hT0, y1, y2, y3, y4, y6, y7, z1, z2], by simp only [hsucc, List.map_append]; exact .inr ⟨j, [] :: log, by omega, by first | (simp; done) | (simp; omega), by simp, by simp [y1, y2, y3, y4]⟩, by simp [e1], by simp [e2], by simp [e3], by simp [e18], by simp [e19], by first | (simp; done) | (simp; exact wrap_nat (by omega))⟩
    · have hie : i = m.threads.length := by omega
      subst hie
      have hct : True := trivial
      rcases hL with ⟨hw0, e8⟩ | ⟨j, log, hj1, hj2, e8, hTj⟩
      · simp -implicitDefEqProofs [e1, e2, e3, e18, e19, e20, hT0, hlt, List.replicate, e8]
        simpa using hw0
      · simp -implicitDefEqProofs [e1, e2, e3, e18, e19, e20, hT0, hlt, List.replicate, e8, hTj]
  · rw [waitM_no hall]
    refine PCall.of (F := m27) rfl rfl rfl (ok_waits _ _) ?_
    simp -implicitDefEqProofs [m27]
    refine CallT.bool2 (by simp) (c_There m r g h) (fun hb => absurd hb hall) (fun hb => ?_)
    simp -implicitDefEqProofs

set_option maxHeartbeats 1000000 in
theorem c_Waiting13 (m : Machine) (r g : Int) (h : okM m) (hin : ∀ r ∈ m.rings, inR r.head) : PCall tab 28 [.agg (encMachine false m), .int .i64 r, .int .i64 g] (.tup [.vs ((waitM m r g).1.map encInt) true, .int .i64 (waitM m r g).2]) := by
  by_cases hall : thereP m r g
  · rw [waitM_yes hall]
    have hall' := hall
    obtain ⟨h1, hr, hg⟩ := hall
    have hc := h1.1
    have hn := h1.2.1
    simp only [macNums] at hn
    have hl3 : m.threads.length ≤ 4 := by have := hc.2.2.2.1; omega
    have hrn : ¬ m.config.replicas = 0 := by have := hc.2.1; omega
    refine PCall.of (F := m28) rfl rfl rfl (ok_waits _ _) ?_
    simp -implicitDefEqProofs [m28]
    refine CallT.bool2 (by simp) (c_there13 m r g 0 h hin) (fun hb => ?_) (fun hb => absurd ⟨hall', by have := hc.2.2.2.1; simp only [thread0P]; omega⟩ hb)
    simp -implicitDefEqProofs
    refine loop_by (WtJ m r g) ?_ m.threads.length ⟨0, by simp, .inl ⟨rfl, by simp⟩, by simp, by simp, by simp, by simp, by simp, by simp⟩
    rintro k E T ⟨i, hi, hL, e1, e2, e3, e9, eln, v0⟩
    by_cases hlt : i < m.threads.length
    · have g1 := List.getElem?_eq_getElem hlt
      have hct : (i : Int) < m.config.threads := by omega
      have q0 : ¬ E.ln = 0 := by omega
      have q1 : ¬ 0 = E.ln := by omega
      have hwl := wsTo_len m r g i
      have bo : ((wsTo m r g i).length + 1) * 8 ≤ 140737488355328 := by omega
      simp -implicitDefEqProofs [e1, e2, e3, e9, v0, hlt, g1, hct, hrn, q0, q1, List.replicate]
      repeat' (first
        | (with_reducible refine guard_by (fun hb => ?_) (fun hb => ?_) <;> rw [hb] <;> (try simp at hb) <;> simp -implicitDefEqProofs [hb, e1, e2, e3, e9, v0, hlt, g1, hct, hrn, q0, q1, List.replicate])
        | (with_reducible refine cond_by (fun hb => ?_) (fun hb => ?_) <;> rw [hb] <;> (try simp at hb) <;> simp -implicitDefEqProofs [hb, e1, e2, e3, e9, v0, hlt, g1, hct, hrn, q0, q1, List.replicate])
        | (refine CallT.bool2 rfl (c_Updates1 m.threads[i].op) (fun hb => ?_) (fun hb => ?_) <;> simp -implicitDefEqProofs [hb, e1, e2, e3, e9, v0, hlt, g1, hct, hrn, q0, q1, List.replicate]))
      all_goals (try (
        have hno : ¬ waitT m.config r g i m.threads[i] := by
          intro hh; obtain ⟨h5, h6, h7, h8⟩ := hh; first | exact hb h8 | omega | (rw [h7] at hb; cases hb) | simp_all
        refine ⟨k - 1, by omega, ?_⟩
        rw [← wsTo_no hlt hno] at hL
        exact ⟨i + 1, by omega, by simpa using hL, by simp [e1], by simp [e2], by simp [e3], by first | (simp; done) | (simp; exact wrap_nat (by omega)), by first | (simp; done) | (simp; omega), by simp [v0, q0, q1]⟩))
      have hyes : waitT m.config r g i m.threads[i] := ⟨by omega, by omega, by assumption, by assumption⟩
      have hsucc := wsTo_yes hlt hyes
      rcases hL with ⟨hw0, e8⟩ | ⟨j, log, hj1, hj2, e8, hTj⟩
      · have hw1 : wsTo m r g i = [] := by simpa using hw0
        rw [hw1] at hsucc
        simp -implicitDefEqProofs [e1, e2, e3, e9, v0, hlt, g1, hct, hrn, q0, q1, List.replicate, e8]
        refine ⟨k - 1, by omega, i + 1, by omega, by simp only [hsucc, List.map_append]; exact .inr ⟨T.next + 1, [], by omega, by simp, by simp, by simp⟩, by simp [e1], by simp [e2], by simp [e3], by first | (simp; done) | (simp; exact wrap_nat (by omega)), by first | (simp; done) | (simp; omega), by simp [v0, q0, q1]⟩
      · have y1 : ¬ j = T.next := by omega
        have y2 : ¬ T.next = j := by omega
        have y3 : ¬ T.next + 1 = j := by omega
        have y4 : ¬ j = T.next + 1 := by omega
        have y5 : ¬ j + 1 = 0 := by omega
        have y6 : True := trivial
        have y7 : True := trivial
        have hRl : ((wsTo m r g i).map encInt).length = (wsTo m r g i).length := List.length_map _
        simp -implicitDefEqProofs [e1, e2, e3, e9, v0, hlt, g1, hct, hrn, q0, q1, List.replicate, e8, hTj, y1, y2, y3, y4, y6, y7, bo]
        refine ⟨k - 1, by omega, i + 1, by omega, by simp only [hsucc, List.map_append]; exact .inr ⟨j, [] :: log, by omega, by first | (simp; done) | (simp; omega), by simp, by simp [y1, y2, y3, y4]⟩, by simp [e1], by simp [e2], by simp [e3], by first | (simp; done) | (simp; exact wrap_nat (by omega)), by first | (simp; done) | (simp; omega), by simp [v0, q0, q1]⟩
    · have hie : i = m.threads.length := by omega
      subst hie
      have hct : ¬ (m.threads.length : Int) < m.config.threads := by omega
      rcases hL with ⟨hw0, e8⟩ | ⟨j, log, hj1, hj2, e8, hTj⟩
      · simp -implicitDefEqProofs [e1, e2, e3, e9, v0, hlt, hct, hrn, List.replicate, e8]
        simpa using hw0
      · simp -implicitDefEqProofs [e1, e2, e3, e9, v0, hlt, hct, hrn, List.replicate, e8, hTj]
  · rw [waitM_no hall]
    refine PCall.of (F := m28) rfl rfl rfl (ok_waits _ _) ?_
    simp -implicitDefEqProofs [m28]
    refine CallT.bool2 (by simp) (c_there13 m r g 0 h hin) (fun hb => absurd hb.1 hall) (fun hb => ?_)
    simp -implicitDefEqProofs

end Go.Ab

namespace Go.Ab


def setThread (m : Machine) (t : Nat) (f : Thread → Thread) : Machine := { m with threads := m.threads.modify t f }
theorem setThread_of {m : Machine} {t : Nat} (hi : t < m.threads.length) (f : Thread → Thread) : setThread m t f = { m with threads := m.threads.set t (f m.threads[t]) } := by unfold setThread; rw [modify_of (List.getElem?_eq_getElem hi)]
@[reducible] def atP (m : Machine) (t : Int) : Prop := machineMay m ∧ thread0P m.config t
def postM (m : Machine) (t : Int) : Machine × Int := if atP m t then (setThread m t.toNat fun x => { x with posted := true, ready := false }, 0) else (noMachine, 1600)
theorem postM_yes {m : Machine} {t : Int} (h : atP m t) : postM m t = (setThread m t.toNat fun x => { x with posted := true, ready := false }, 0) := if_pos h
theorem postM_no {m : Machine} {t : Int} (h : ¬ atP m t) : postM m t = (noMachine, 1600) := if_neg h
theorem there00 {m : Machine} (h : machineMay m) : thereP m 0 0 := by
  have hc := h.1
  have hn := h.2.1
  simp only [macNums] at hn
  have h3 := hc.2.1
  have h4 := hc.2.2.1
  exact ⟨h, ⟨by omega, by omega⟩, by omega, by omega⟩

theorem c_boardThread (m : Machine) (t : Int) (h : okM m) : PCall tab 68 [.vp [encMachine false m] 0 0, .int .i64 t] (.bool (decide (atP m t))) := by
  refine PCall.of (F := m68) rfl rfl rfl rfl ?_
  simp -implicitDefEqProofs [m68]
  refine CallT.bool2 (by simp) (c_startMay m h) (fun hb => ?_) (fun hb => ?_)
  · simp -implicitDefEqProofs
    refine CallT.bool2 rfl (c_cfgThread m.config t) (fun hb2 => ?_) (fun hb2 => ?_)
    · simp -implicitDefEqProofs
      exact ⟨hb, hb2.2⟩
    · simp -implicitDefEqProofs
      exact fun hh h2 => by
        rcases Int.lt_or_le t m.config.threads with h3 | h3
        · exact absurd ⟨hb.1, h2, h3⟩ hb2
        · exact h3
  · simp -implicitDefEqProofs
    exact fun hh => absurd hh hb

theorem c_Post (m : Machine) (t : Int) (h : okM m) : PCall tab 25 [.agg (encMachine false m), .int .i64 t] (.tup [.agg (encMachine true (postM m t).1), .int .i64 (postM m t).2]) := by
  by_cases hall : atP m t
  · rw [postM_yes hall]
    have hall' := hall
    obtain ⟨h1, ht⟩ := hall
    have ht0 := ht.1
    have ht1 : t < m.threads.length := by have := ht.2; have hn := h1.2.1; simp only [macNums] at hn; omega
    have hi : t.toNat < m.threads.length := by omega
    have z0 : 0 < m.threads.length := by omega
    rw [setThread_of hi]
    refine PCall.of (F := m25) rfl rfl rfl (ok_mach1 _ _) ?_
    simp -implicitDefEqProofs [m25]
    refine CallT.bool2 (by simp) (c_boardThread m t h) (fun hb => ?_) (fun hb => absurd hall' hb)
    simp -implicitDefEqProofs
    refine CallT.pure (c_startCopy m h (whole_of h1)) (by simp) (ok_mach _) ?_
    simp -implicitDefEqProofs
    refine CallT.body (F := m69) rfl rfl rfl rfl ?_
    simp -implicitDefEqProofs [m69, ht0, ht1, hi, z0]
    all_goals simp [encThread]
  · rw [postM_no hall]
    refine PCall.of (F := m25) rfl rfl rfl (ok_mach1 _ _) ?_
    simp -implicitDefEqProofs [m25]
    refine CallT.bool2 (by simp) (c_boardThread m t h) (fun hb => absurd hb hall) (fun hb => ?_)
    simp -implicitDefEqProofs

theorem c_Post13 (m : Machine) (t : Int) (h : okM m) (hin : ∀ r ∈ m.rings, inR r.head) : PCall tab 26 [.agg (encMachine false m), .int .i64 t] (.tup [.agg (encMachine true (postM m t).1), .int .i64 (postM m t).2]) := by
  by_cases hall : atP m t
  · rw [postM_yes hall]
    have hall' := hall
    obtain ⟨h1, ht⟩ := hall
    have ht0 := ht.1
    have ht1 : t < m.threads.length := by have := ht.2; have hn := h1.2.1; simp only [macNums] at hn; omega
    have hi : t.toNat < m.threads.length := by omega
    have z0 : 0 < m.threads.length := by omega
    rw [setThread_of hi]
    refine PCall.of (F := m26) rfl rfl rfl (ok_mach1 _ _) ?_
    simp -implicitDefEqProofs [m26]
    refine CallT.bool2 (by simp) (c_there13 m 0 0 t h hin) (fun hb => ?_) (fun hb => absurd ⟨there00 h1, ht⟩ hb)
    simp -implicitDefEqProofs
    refine CallT.pure (c_Copy13 m h) (by simp) (ok_mach _) ?_
    simp -implicitDefEqProofs [ht0, ht1, hi, z0]
    all_goals simp [encThread]
  · rw [postM_no hall]
    refine PCall.of (F := m26) rfl rfl rfl (ok_mach1 _ _) ?_
    simp -implicitDefEqProofs [m26]
    refine CallT.bool2 (by simp) (c_there13 m 0 0 t h hin) (fun hb => absurd ⟨hb.1.1, hb.2⟩ hall) (fun hb => ?_)
    simp -implicitDefEqProofs

end Go.Ab

namespace Go.Ab

def unpost (x : Thread) : Thread := { x with posted := false }
def clearP (ws : List Int) (l : List Thread) : List Thread := ws.foldl (fun l w => l.modify w.toNat unpost) l
theorem clearP_len (ws : List Int) : ∀ (l : List Thread), (clearP ws l).length = l.length := by
  induction ws with
  | nil => intro l; rfl
  | cons w ws ih => intro l; show (clearP ws (l.modify w.toNat unpost)).length = _; rw [ih]; simp
theorem clearP_succ {ws : List Int} {i : Nat} (h : i < ws.length) (l : List Thread) : clearP (ws.take (i + 1)) l = (clearP (ws.take i) l).modify ws[i].toNat unpost := by
  unfold clearP
  rw [List.take_add_one, List.getElem?_eq_getElem h, List.foldl_append]
  rfl
theorem modify_comm {l : List Thread} {i j : Nat} {f g : Thread → Thread} (h : ∀ x, f (g x) = g (f x)) : (l.modify i f).modify j g = (l.modify j g).modify i f := by
  apply List.ext_getElem?
  intro k
  simp only [List.getElem?_modify]
  cases l[k]? with
  | none => by_cases e1 : i = k <;> by_cases e2 : j = k <;> simp [e1, e2]
  | some x => by_cases e1 : i = k <;> by_cases e2 : j = k <;> simp [e1, e2, h]
theorem clearP_modify (ws : List Int) {i : Nat} {f : Thread → Thread} (h : ∀ x, f (unpost x) = unpost (f x)) : ∀ (l : List Thread), clearP ws (l.modify i f) = (clearP ws l).modify i f := by
  induction ws with
  | nil => intro l; rfl
  | cons w ws ih =>
    intro l
    show clearP ws ((l.modify i f).modify w.toNat unpost) = (clearP ws (l.modify w.toNat unpost)).modify i f
    rw [modify_comm h, ih]
theorem clearP_batch (ws : List Int) : ∀ (l : List Thread) (i : Nat), ((clearP ws l)[i]?.map (·.batch)) = l[i]?.map (·.batch) := by
  induction ws with
  | nil => intro l i; rfl
  | cons w ws ih =>
    intro l i
    show ((clearP ws (l.modify w.toNat unpost))[i]?.map (·.batch)) = _
    rw [ih, List.getElem?_modify]
    cases l[i]? with
    | none => by_cases e : w.toNat = i <;> simp [e]
    | some x => by_cases e : w.toNat = i <;> simp [e, unpost]

theorem wsTo_mem {m : Machine} {r g : Int} {n : Nat} {w : Int} (h : w ∈ wsTo m r g n) : 0 ≤ w ∧ w < n := by
  unfold wsTo at h
  obtain ⟨j, hj, rfl⟩ := List.mem_map.1 h
  have := List.mem_range.1 (List.mem_filter.1 hj).1
  omega

def ownOf (m : Machine) (t : Int) : Int := Int.tmod t m.config.replicas
def logOfT (m : Machine) (t : Nat) : Int := (m.threads[t]?.map (·.log)).getD 0
def stepOfT (m : Machine) (t : Nat) : Int := (m.threads[t]?.map (·.step)).getD 0
def batchFor (m : Machine) (t : Int) : List Int := wsTo m (ownOf m t) (logOfT m t.toNat) m.threads.length
def setBatch (ws : List Int) (x : Thread) : Thread := { x with batch := ws }
def setLoad (s : Int) (x : Thread) : Thread := { x with at_ := 0, step := s }
def takeM (m : Machine) (t : Int) : Machine := { m with threads := (clearP (batchFor m t) (m.threads.modify t.toNat (setBatch (batchFor m t)))).modify t.toNat (setLoad (if batchFor m t = [] then 9 else 4)) }
def takeM' (m : Machine) (t : Int) (ws : List Int) (x : Int) : Machine := { m with threads := (clearP ws (m.threads.modify t.toNat (setBatch ws))).modify t.toNat (setLoad x) }
theorem takeM_eq {m : Machine} {t : Int} {ws : List Int} (h : batchFor m t = ws) : takeM m t = takeM' m t ws (if ws = [] then 9 else 4) := by subst h; rfl
@[reducible] def collP (m : Machine) (t : Int) : Prop := atP m t ∧ stepOfT m t.toNat = 3
def collM (m : Machine) (t : Int) : Machine × Int := if collP m t then (takeM m t, 0) else (noMachine, 1700)
theorem collM_yes {m : Machine} {t : Int} (h : collP m t) : collM m t = (takeM m t, 0) := if_pos h
theorem collM_no {m : Machine} {t : Int} (h : ¬ collP m t) : collM m t = (noMachine, 1700) := if_neg h

theorem own_there {m : Machine} {t : Int} (h : atP m t) : thereP m (ownOf m t) (logOfT m t.toNat) := by
  obtain ⟨h1, h2, h3⟩ := h
  have hc := h1.1
  have hn := h1.2.1
  simp only [macNums] at hn
  have hr := hc.2.1
  have hi : t.toNat < m.threads.length := by omega
  have hat := h1.2.2.2.2.1 _ (List.getElem_mem hi)
  have hnum := hat.1
  simp only [atNums] at hnum
  have hlg : logOfT m t.toNat = m.threads[t.toNat].log := by simp [logOfT, hi]
  refine ⟨h1, ⟨?_, ?_⟩, ?_, ?_⟩
  · exact Int.tmod_nonneg _ h2
  · have := Int.tmod_lt_of_pos t (show 0 < m.config.replicas by omega)
    unfold ownOf
    omega
  · rw [hlg]; omega
  · rw [hlg]; omega

def TkI (m : Machine) (t : Int) (ws : List Int) (k : Nat) (E : TE) (T : TH) : Prop := ∃ (i : Nat) (L : List Thread), i + k = ws.length ∧ L = clearP (ws.take i) (m.threads.modify t.toNat (setBatch ws)) ∧ T.get 1 = .tree (m.rings.map (encRing true)) true [] ∧ T.get 2 = .tree (m.replicas.map (encReplica true)) true [] ∧ T.get 3 = .tree (L.map (encThread true)) true [[(t.toNat, 6)]] ∧ T.get 4 = .tree (m.history.map encEvent) true [] ∧
  T.get 5 = .raw [.a (.int .i64 m.config.object), .a (.int .i64 m.config.replicas), .a (.int .i64 m.config.logs), .a (.int .i64 m.config.threads), .a (.int .i64 m.config.slots), .sl 1 [] 0 0 m.rings.length true, .sl 2 [] 0 0 m.replicas.length true, .sl 3 [] 0 0 m.threads.length true, .sl 4 [] 0 0 m.history.length true] ∧
  E.get 0 = .pt 5 [] 0 0 0 ∧ E.get 4 = .pt 3 [] 0 t.toNat 0 ∧ E.get 42 = .sl 3 [(t.toNat, 6)] 1 0 ws.length true ∧ E.get 43 = .a (.int .i64 ws.length) ∧ E.get 44 = .a (.int .i64 i)

set_option maxHeartbeats 1000000 in
theorem c_Collect (m : Machine) (t : Int) (h : okM m) : PCall tab 33 [.agg (encMachine false m), .int .i64 t] (.tup [.agg (encMachine true (collM m t).1), .int .i64 (collM m t).2]) := by
  by_cases hall : collP m t
  · rw [collM_yes hall]
    have hall' := hall
    obtain ⟨⟨h1, ht⟩, hs⟩ := hall
    have hc := h1.1
    have hn := h1.2.1
    simp only [macNums] at hn
    have hrn : ¬ m.config.replicas = 0 := by have := hc.2.1; omega
    have ht0 := ht.1
    have ht1 : t < m.threads.length := by have := ht.2; omega
    have hi : t.toNat < m.threads.length := by omega
    have z0 : 0 < m.threads.length := by omega
    have hst : m.threads[t.toNat].step = 3 := by have := hs; simpa [stepOfT, hi] using this
    have hlg : logOfT m t.toNat = m.threads[t.toNat].log := by simp [logOfT, hi]
    have hthere := own_there ⟨h1, ht⟩
    rw [hlg] at hthere
    have hwm := waitM_yes hthere
    have hbf : batchFor m t = wsTo m (ownOf m t) m.threads[t.toNat].log m.threads.length := by unfold batchFor; rw [hlg]
    have hmem : ∀ w ∈ batchFor m t, 0 ≤ w ∧ w < m.threads.length := fun w hw => by unfold batchFor at hw; exact wsTo_mem hw
    have hbl : (batchFor m t).length ≤ 4 := by have := wsTo_len m (ownOf m t) (logOfT m t.toNat) m.threads.length; have := hc.2.2.2.1; unfold batchFor; omega
    rw [← hbf] at hwm
    obtain ⟨ws, hbf'⟩ : ∃ ws, batchFor m t = ws := ⟨_, rfl⟩
    rw [hbf'] at hwm hbf hmem hbl
    unfold ownOf at *
    refine PCall.of (F := m33) rfl rfl rfl (ok_mach1 _ _) ?_
    simp -implicitDefEqProofs [m33]
    refine CallT.bool2 (by simp) (c_boardThread m t h) (fun hb => ?_) (fun hb => absurd ⟨h1, ht⟩ hb)
    simp -implicitDefEqProofs [ht0, ht1, hi, z0, hst]
    refine CallT.pure (c_startCopy m h (whole_of h1)) (by simp) (ok_mach _) ?_
    simp -implicitDefEqProofs
    refine CallT.body (F := m81) rfl rfl rfl rfl ?_
    simp -implicitDefEqProofs [m81, ht0, ht1, hi, z0]
    refine CallT.pure (c_cfgReplica m.config t ⟨hc, ht.1, ht.2⟩) rfl rfl ?_
    simp -implicitDefEqProofs [ht0, ht1, hi, z0]
    refine CallT.pure (c_Waiting m (t.tmod m.config.replicas) m.threads[t.toNat].log h) (by simp) (ok_waits _ _) ?_
    rw [hwm]
    simp -implicitDefEqProofs [ht0, ht1, hi, z0]
    refine loop_by (TkI m t ws) ?_ ws.length ⟨0, m.threads.modify t.toNat (setBatch ws), by simp, rfl, by simp, by simp, ?_, by simp, by simp, by simp, by simp, by simp, by simp, by simp⟩
    · rintro k E T ⟨i, L, hik, hL, hT1, hT2, hT3, hT4, hT5, e0, e4, e42, e43, e44⟩
      have hLl : L.length = m.threads.length := by rw [hL, clearP_len, List.length_modify]
      have hLb : L[t.toNat]?.map (·.batch) = some ws := by rw [hL, clearP_batch, List.getElem?_modify_eq, List.getElem?_eq_getElem hi]; rfl
      have hiL : t.toNat < L.length := by omega
      have hLb2 : L[t.toNat].batch = ws := by rw [List.getElem?_eq_getElem hiL] at hLb; simpa using hLb
      have gL := List.getElem?_eq_getElem hiL
      by_cases hlt : i < ws.length
      · have g1 := List.getElem?_eq_getElem hlt
        have hw := hmem _ (List.getElem_mem hlt)
        have hw0 := hw.1
        have hw1 := hw.2
        have hwn : ws[i].toNat < L.length := by omega
        have zL : 0 < L.length := by omega
        have hwn' : ws[i].toNat < m.threads.length := by omega
        have zw : 0 < ws.length := by omega
        simp -implicitDefEqProofs [e0, e4, e42, e43, e44, hT1, hT2, hT3, hT4, hT5, hlt, g1, hw0, hw1, hwn', z0, hi, zw, hLb2, hLl]
        refine ⟨k - 1, by omega, i + 1, L.modify ws[i].toNat unpost, by omega, by rw [clearP_succ hlt, hL], by simp [hT1], by simp [hT2], ?_, by simp [hT4], by simp [hT5], by simp [e0], by simp [e4], by simp [e42], by simp [e43], by first | (simp; done) | (simp; exact wrap_nat (by omega))⟩
        rw [modify_of (List.getElem?_eq_getElem hwn)]
        simp [encThread, unpost]
      · simp -implicitDefEqProofs [e0, e4, e42, e43, e44, hT1, hT2, hT3, hT4, hT5, hlt, z0, hi, hLb2, hLl]
        have hL' : clearP ws (m.threads.modify t.toNat (setBatch ws)) = L := by rw [hL, List.take_of_length_le (by omega)]
        have hfin : ∀ x : Int, (takeM' m t ws x) = { m with threads := L.set t.toNat (setLoad x L[t.toNat]) } := fun x => by unfold takeM'; rw [hL', modify_of (List.getElem?_eq_getElem hiL)]
        rw [takeM_eq hbf', hfin]
        by_cases hws : ws = []
        · have hw0 : ws.length = 0 := by rw [hws]; rfl
          simp -implicitDefEqProofs [e0, e4, e42, e43, e44, hT1, hT2, hT3, hT4, hT5, hlt, z0, hi, hLb2, hLl, hw0, hws]
          all_goals simp [encThread, setLoad, hLb2, hws]
        · have hw0 : ¬ ws.length = 0 := fun e => hws (List.length_eq_zero_iff.1 e)
          have hw1 : ((ws.length : Int) == 0) = false := by simp [hw0]
          simp -implicitDefEqProofs [e0, e4, e42, e43, e44, hT1, hT2, hT3, hT4, hT5, hlt, z0, hi, hLb2, hLl, hw1, hws]
          all_goals simp [encThread, setLoad, hLb2, hws]
    · rw [modify_of (List.getElem?_eq_getElem hi)]
      simp [encThread, setBatch]
  · rw [collM_no hall]
    refine PCall.of (F := m33) rfl rfl rfl (ok_mach1 _ _) ?_
    simp -implicitDefEqProofs [m33]
    refine CallT.bool2 (by simp) (c_boardThread m t h) (fun hb => ?_) (fun hb => ?_)
    · obtain ⟨h1, ht⟩ := hb
      have hn := h1.2.1
      simp only [macNums] at hn
      have ht0 := ht.1
      have ht1 : t < m.threads.length := by have := ht.2; omega
      have hi : t.toNat < m.threads.length := by omega
      have z0 : 0 < m.threads.length := by omega
      have hst : ¬ m.threads[t.toNat].step = 3 := fun e => hall ⟨⟨h1, ht⟩, by simpa [stepOfT, hi] using e⟩
      simp -implicitDefEqProofs [ht0, ht1, hi, z0, hst]
    · simp -implicitDefEqProofs

end Go.Ab

namespace Go.Ab

def TkJ (m : Machine) (ws : List Int) (t1 : TV) (k : Nat) (E : TE) (T : TH) : Prop := ∃ (i : Nat) (L : List Thread), i + k = ws.length ∧ L = clearP (ws.take i) m.threads ∧ T.get 0 = .tree (m.rings.map (encRing true)) true [] ∧ T.get 1 = .tree (m.replicas.map (encReplica true)) true [] ∧ T.get 2 = .tree (L.map (encThread true)) true [] ∧ T.get 3 = .tree (m.history.map encEvent) true [] ∧ T.get 4 = .tree (ws.map encInt) true [] ∧
  E.var 2 = some [.a (.int .i64 m.config.object), .a (.int .i64 m.config.replicas), .a (.int .i64 m.config.logs), .a (.int .i64 m.config.threads), .a (.int .i64 m.config.slots), .sl 0 [] 0 0 m.rings.length true, .sl 1 [] 0 0 m.replicas.length true, .sl 2 [] 0 0 m.threads.length true, .sl 3 [] 0 0 m.history.length true] ∧ (∃ w, w.length = 9 ∧ E.var 1 = some w) ∧ 3 ≤ E.ln ∧
  E.get 1 = t1 ∧ E.get 4 = .lp 1 0 ∧ E.get 6 = .lp 2 0 ∧ E.get 7 = .sl 4 [] 0 0 ws.length true ∧ E.get 9 = .a (.int .i64 i)

set_option maxHeartbeats 1000000 in
theorem c_Collect13 (m : Machine) (t : Int) (h : okM m) (hin : ∀ r ∈ m.rings, inR r.head) : PCall tab 34 [.agg (encMachine false m), .int .i64 t] (.tup [.agg (encMachine true (collM m t).1), .int .i64 (collM m t).2]) := by
  by_cases hall : collP m t
  · rw [collM_yes hall]
    have hall' := hall
    obtain ⟨⟨h1, ht⟩, hs⟩ := hall
    have hc := h1.1
    have hn := h1.2.1
    simp only [macNums] at hn
    have hrn : ¬ m.config.replicas = 0 := by have := hc.2.1; omega
    have ht0 := ht.1
    have ht1 : t < m.threads.length := by have := ht.2; omega
    have hi : t.toNat < m.threads.length := by omega
    have z0 : 0 < m.threads.length := by omega
    have hst : m.threads[t.toNat].step = 3 := by have := hs; simpa [stepOfT, hi] using this
    have hlg : logOfT m t.toNat = m.threads[t.toNat].log := by simp [logOfT, hi]
    have hthere := own_there ⟨h1, ht⟩
    rw [hlg] at hthere
    have hwm := waitM_yes hthere
    have hbf : batchFor m t = wsTo m (ownOf m t) m.threads[t.toNat].log m.threads.length := by unfold batchFor; rw [hlg]
    have hmem : ∀ w ∈ batchFor m t, 0 ≤ w ∧ w < m.threads.length := fun w hw => by unfold batchFor at hw; exact wsTo_mem hw
    have hbl : (batchFor m t).length ≤ 4 := by have := wsTo_len m (ownOf m t) (logOfT m t.toNat) m.threads.length; have := hc.2.2.2.1; unfold batchFor; omega
    rw [← hbf] at hwm
    obtain ⟨ws, hbf'⟩ : ∃ ws, batchFor m t = ws := ⟨_, rfl⟩
    rw [hbf'] at hwm hbf hmem hbl
    unfold ownOf at *
    refine PCall.of (F := m34) rfl rfl rfl (ok_mach1 _ _) ?_
    simp -implicitDefEqProofs [m34]
    refine CallT.bool2 (by simp) (c_there13 m 0 0 t h hin) (fun hb => ?_) (fun hb => absurd ⟨there00 h1, ht⟩ hb)
    simp -implicitDefEqProofs [ht0, ht1, hi, z0, hst]
    refine CallT.pure (c_Copy13 m h) (by simp) (ok_mach _) ?_
    simp -implicitDefEqProofs [ht0, ht1, hi, z0, hrn]
    refine CallT.pure (c_Waiting13 m (t.tmod m.config.replicas) m.threads[t.toNat].log h hin) (by simp) (ok_waits _ _) ?_
    rw [hwm]
    simp -implicitDefEqProofs [ht0, ht1, hi, z0]
    refine loop_by (TkJ m ws (.a (.int .i64 t))) ?_ ws.length ⟨0, m.threads, by simp, rfl, by simp, by simp, by simp, by simp, by simp, by simp, ⟨[.a (.int .i64 0), .a (.int .i64 0), .a (.int .i64 0), .a (.int .i64 0), .a (.int .i64 0), .a .nils, .a .nils, .a .nils, .a .nils], rfl, by simp⟩, by simp, by simp, by simp, by simp, by simp, by simp⟩
    rintro k E T ⟨i, L, hik, hL, hT0, hT1, hT2, hT3, hT4, v2, ⟨w, hw, hv1⟩, hln, e1, e4, e6, e7, e9⟩
    have hLl : L.length = m.threads.length := by rw [hL, clearP_len]
    by_cases hlt : i < ws.length
    · have g1 := List.getElem?_eq_getElem hlt
      have hw := hmem _ (List.getElem_mem hlt)
      have hw0 := hw.1
      have hw1 := hw.2
      have hwn : ws[i].toNat < L.length := by omega
      have hwn' : ws[i].toNat < m.threads.length := by omega
      have zw : 0 < ws.length := by omega
      simp -implicitDefEqProofs [e6, e7, e9, v2, hT0, hT1, hT2, hT3, hT4, hlt, g1, hw0, hw1, hwn', z0, hi, zw, hLl]
      refine ⟨k - 1, by omega, i + 1, L.modify ws[i].toNat unpost, by omega, by rw [clearP_succ hlt, hL], by simp [hT0], by simp [hT1], ?_, by simp [hT3], by simp [hT4], by simp [v2], ⟨w, by assumption, by simp [hv1]⟩, by simp [hln], by simp [e1], by simp [e4], by simp [e6], by simp [e7], by first | (simp; done) | (simp; exact wrap_nat (by omega))⟩
      rw [modify_of (List.getElem?_eq_getElem hwn)]
      simp [encThread, unpost]
    · have hiL : t.toNat < L.length := by omega
      have hL' : clearP ws m.threads = L := by rw [hL, List.take_of_length_le (by omega)]
      have hfin : ∀ x : Int, (takeM' m t ws x) = { m with threads := L.set t.toNat (setLoad x (setBatch ws L[t.toNat])) } := fun x => by
        unfold takeM'
        rw [clearP_modify (f := setBatch ws) ws (fun _ => rfl), hL', modify_of (List.getElem?_eq_getElem hiL), modify_of (p := setBatch ws L[t.toNat]) (by rw [List.getElem?_set_self hiL]), List.set_set]
      rw [takeM_eq hbf', hfin]
      by_cases hws : ws = []
      · have hw0 : ws.length = 0 := by rw [hws]; rfl
        simp -implicitDefEqProofs [e6, e7, e9, v2, hT0, hT1, hT2, hT3, hT4, e1, e4, hv1, hw, hlt, z0, hi, ht0, ht1, hLl, hw0, hws]
        all_goals simp [encThread, setLoad, setBatch, hws]
      · have hw0 : ¬ ws.length = 0 := fun e => hws (List.length_eq_zero_iff.1 e)
        have hw1 : ((ws.length : Int) == 0) = false := by simp [hw0]
        simp -implicitDefEqProofs [e6, e7, e9, v2, hT0, hT1, hT2, hT3, hT4, e1, e4, hv1, hw, hlt, z0, hi, ht0, ht1, hLl, hw1, hws]
        all_goals simp [encThread, setLoad, setBatch, hws]
  · rw [collM_no hall]
    refine PCall.of (F := m34) rfl rfl rfl (ok_mach1 _ _) ?_
    simp -implicitDefEqProofs [m34]
    refine CallT.bool2 (by simp) (c_there13 m 0 0 t h hin) (fun hb => ?_) (fun hb => ?_)
    · obtain ⟨⟨h1, _⟩, ht⟩ := hb
      have hn := h1.2.1
      simp only [macNums] at hn
      have ht0 := ht.1
      have ht1 : t < m.threads.length := by have := ht.2; omega
      have hi : t.toNat < m.threads.length := by omega
      have z0 : 0 < m.threads.length := by omega
      have hst : ¬ m.threads[t.toNat].step = 3 := fun e => hall ⟨⟨h1, ht⟩, by simpa [stepOfT, hi] using e⟩
      simp -implicitDefEqProofs [ht0, ht1, hi, z0, hst]
    · simp -implicitDefEqProofs

end Go.Ab

namespace Go.Ab

def saysYes : Option (AV × AH) → Bool
  | some (.bool true, _) => true
  | _ => false

theorem saysYes_of {x : Option (AV × AH)} (h : saysYes x = true) : ∃ H, x = some (.bool true, H) := by
  unfold saysYes at h
  split at h
  · exact ⟨_, rfl⟩
  · cases h

theorem PCall.closed {M : FuncId → Option MFunc} {k : FuncId} {F : MFunc} (n : Nat) (hM : M k = some F) (hp : F.pure = true) (hb : F.both = false) (h : saysYes (evalF (eval M n) n F [] { objs := .nil, next := 0, lo := 0 }) = true) : PCall M k [] (.bool true) := by
  intro args H hw ht
  obtain ⟨H1, h1⟩ := saysYes_of h
  refine ⟨.bool true, H, ⟨n + 1, ?_⟩, hw, Nat.le_refl _, rfl, fun _ _ => rfl, [],   .one (.cell (by simp) (.flat rfl .nil)), by simp, by simp⟩
  simp only [eval, hM, hp, hb, if_true, pureB, Bool.false_eq_true, if_false]
  unfold pureC
  rw [ht]
  simp only [h1]
  rfl

end Go.Ab

namespace Go.Ab

theorem okM_no : okM noMachine := by unfold okM lenOK; simp
theorem okM_setLock {m : Machine} (h : okM m) (r g : Nat) (x : Int) : okM (setLock m r g x) := by
  obtain ⟨h1, ⟨l2, o2⟩, h3, h4⟩ := h
  refine ⟨h1, ⟨by unfold setLock lenOK at *; simpa using l2, fun p hp => ?_⟩, h3, h4⟩
  unfold setLock at hp
  obtain ⟨i, hi, rfl⟩ := List.getElem_of_mem hp
  have hi' : i < m.replicas.length := by simpa using hi
  have ho := o2 _ (List.getElem_mem hi')
  simp only [List.getElem_modify]
  split
  · exact ⟨ho.1, ho.2.1, by have := ho.2.2; unfold lenOK at *; simpa using this⟩
  · exact ho
theorem okM_try {m : Machine} (h : okM m) (r g t : Int) : okM (tryM m r g t).1 := by
  unfold tryM
  split
  · simp only; split
    · exact okM_setLock h _ _ _
    · exact h
  · exact okM_no
theorem okM_free {m : Machine} (h : okM m) (r g : Int) : okM (freeM m r g).1 := by
  unfold freeM
  split
  · exact okM_setLock h _ _ _
  · exact okM_no

theorem c_awake15 : PCall tab 23 [] (.bool true) := PCall.closed 60 rfl rfl rfl (by kernel_rfl)

set_option maxHeartbeats 2000000 in
theorem l_Locks (m : Machine) (r g t : Int) (h : okM m) (hin : ∀ r ∈ m.rings, inR r.head) (_ : inR r) (_ : inR g) (_ : inR t) : CallT tab false 4 [.a (.agg (encMachine false m)), .a (.int .i64 r), .a (.int .i64 g), .a (.int .i64 t)] TH.none (fun v _ => v = .a (.bool true)) := by
  refine CallT.body (F := m4) rfl rfl rfl rfl ?_
  simp -implicitDefEqProofs [m4]
  refine CallT.pure (c_lCopyMachine m h) (by simp) (ok_mach m) ?_
  simp -implicitDefEqProofs
  refine CallT.pure (c_Try m r g t h) (by simp) (ok_mach2 _ _ _ _) ?_
  simp -implicitDefEqProofs
  refine CallT.pure (c_Try13 m r g t h hin) (by simp) (ok_mach2 _ _ _ _) ?_
  simp -implicitDefEqProofs
  refine CallT.pure (c_Free m r g h) (by simp) (ok_mach1 _ _) ?_
  simp -implicitDefEqProofs
  refine CallT.pure (c_Free13 m r g h hin) (by simp) (ok_mach1 _ _) ?_
  have oa := okM_try h r g t
  have oc := okM_free h r g
  generalize tryM m r g t = A at *
  generalize freeM m r g = C at *
  simp -implicitDefEqProofs
  refine CallT.bool2 (by simp) (c_SameMachine A.1 A.1 false false oa) (fun hb => ?_) (fun hb => absurd rfl hb)
  simp -implicitDefEqProofs
  refine CallT.pure (c_Num A.2.2) (by simp) rfl ?_
  simp -implicitDefEqProofs
  refine CallT.bool2 (by simp) (c_SameMachine C.1 C.1 false false oc) (fun hb => ?_) (fun hb => absurd rfl hb)
  simp -implicitDefEqProofs
  refine CallT.pure (c_Num C.2) (by simp) rfl ?_
  simp -implicitDefEqProofs
  refine c_SpoilMachine _ A.1.config 4 5 6 7 (by omega) (by omega) (by omega) (by omega) (by omega) (by omega) A.1 oa (by simp) (by simp) (by simp) (by simp) _ (fun T1 hn1 ho1 => ?_)
  have p0 := ho1 0 (by omega) (by omega) (by omega) (by omega)
  have p1 := ho1 1 (by omega) (by omega) (by omega) (by omega)
  have p2 := ho1 2 (by omega) (by omega) (by omega) (by omega)
  have p3 := ho1 3 (by omega) (by omega) (by omega) (by omega)
  have p12 := ho1 12 (by omega) (by omega) (by omega) (by omega)
  have p13 := ho1 13 (by omega) (by omega) (by omega) (by omega)
  have p14 := ho1 14 (by omega) (by omega) (by omega) (by omega)
  have p15 := ho1 15 (by omega) (by omega) (by omega) (by omega)
  simp at p0 p1 p2 p3 p12 p13 p14 p15
  clear ho1 hn1
  simp -implicitDefEqProofs
  refine c_SpoilMachine T1 C.1.config 12 13 14 15 (by omega) (by omega) (by omega) (by omega) (by omega) (by omega) C.1 oc p12 p13 p14 p15 _ (fun T2 hn2 ho2 => ?_)
  have g0 := ho2 0 (by omega) (by omega) (by omega) (by omega)
  have g1 := ho2 1 (by omega) (by omega) (by omega) (by omega)
  have g2 := ho2 2 (by omega) (by omega) (by omega) (by omega)
  have g3 := ho2 3 (by omega) (by omega) (by omega) (by omega)
  rw [p0] at g0; rw [p1] at g1; rw [p2] at g2; rw [p3] at g3
  clear ho2 hn2 p0 p1 p2 p3 p12 p13 p14 p15
  simp -implicitDefEqProofs
  refine CallT.bool2 (by simp -implicitDefEqProofs [g0, g1, g2, g3]) (c_SameMachine m m false false h) (fun hb => ?_) (fun hb => absurd rfl hb)
  simp -implicitDefEqProofs
  refine CallT.pure c_awake15 rfl rfl ?_
  simp -implicitDefEqProofs

end Go.Ab

namespace Go.Ab

theorem okM_setThread {m : Machine} (h : okM m) (t : Nat) {f : Thread → Thread} (hf : ∀ x, okTh x → okTh (f x)) : okM (setThread m t f) := by
  obtain ⟨h1, h2, ⟨l3, o3⟩, h4⟩ := h
  refine ⟨h1, h2, ⟨by unfold setThread lenOK at *; simpa using l3, fun p hp => ?_⟩, h4⟩
  unfold setThread at hp
  obtain ⟨i, hi, rfl⟩ := List.getElem_of_mem hp
  have hi' : i < m.threads.length := by simpa using hi
  have ho := o3 _ (List.getElem_mem hi')
  simp only [List.getElem_modify]
  split
  · exact hf _ ho
  · exact ho
theorem okM_post {m : Machine} (h : okM m) (t : Int) : okM (postM m t).1 := by
  unfold postM
  split
  · exact okM_setThread h _ fun _ hx => hx
  · exact okM_no
theorem ok_waitM {m : Machine} (h : okM m) (r g : Int) : lenOK (waitM m r g).1 := by
  unfold waitM lenOK
  split
  · have := wsTo_len m r g m.threads.length
    have h3 := h.2.2.1.1
    unfold lenOK at h3
    simp only
    omega
  · simp

theorem c_awake16 : PCall tab 31 [] (.bool true) := PCall.closed 60 rfl rfl rfl (by kernel_rfl)

set_option maxHeartbeats 2000000 in
theorem l_Boards (m : Machine) (r g t : Int) (h : okM m) (hin : ∀ r ∈ m.rings, inR r.head) (_ : inR r) (_ : inR g) (_ : inR t) : CallT tab false 6 [.a (.agg (encMachine false m)), .a (.int .i64 r), .a (.int .i64 g), .a (.int .i64 t)] TH.none (fun v _ => v = .a (.bool true)) := by
  refine CallT.body (F := m6) rfl rfl rfl rfl ?_
  simp -implicitDefEqProofs [m6]
  refine CallT.pure (c_lCopyMachine m h) (by simp) (ok_mach m) ?_
  simp -implicitDefEqProofs
  refine CallT.pure (c_Post m t h) (by simp) (ok_mach1 _ _) ?_
  simp -implicitDefEqProofs
  refine CallT.pure (c_Post13 m t h hin) (by simp) (ok_mach1 _ _) ?_
  simp -implicitDefEqProofs
  refine CallT.pure (c_Waiting m r g h) (by simp) (ok_waits _ _) ?_
  simp -implicitDefEqProofs
  refine CallT.pure (c_Waiting13 m r g h hin) (by simp) (ok_waits _ _) ?_
  have oa := okM_post h t
  have oc := ok_waitM h r g
  generalize postM m t = A at *
  generalize waitM m r g = C at *
  simp -implicitDefEqProofs
  refine CallT.bool2 (by simp) (c_SameMachine A.1 A.1 false false oa) (fun hb => ?_) (fun hb => absurd rfl hb)
  simp -implicitDefEqProofs
  refine CallT.pure (c_Num A.2) (by simp) rfl ?_
  simp -implicitDefEqProofs
  refine CallT.bool2 (by simp) (c_SameInts C.1 C.1 false false oc) (fun hb => ?_) (fun hb => absurd rfl hb)
  simp -implicitDefEqProofs
  refine CallT.pure (c_Num C.2) (by simp) rfl ?_
  simp -implicitDefEqProofs
  refine c_SpoilMachine _ A.1.config 4 5 6 7 (by omega) (by omega) (by omega) (by omega) (by omega) (by omega) A.1 oa (by simp) (by simp) (by simp) (by simp) _ (fun T1 hn1 ho1 => ?_)
  have p0 := ho1 0 (by omega) (by omega) (by omega) (by omega)
  have p1 := ho1 1 (by omega) (by omega) (by omega) (by omega)
  have p2 := ho1 2 (by omega) (by omega) (by omega) (by omega)
  have p3 := ho1 3 (by omega) (by omega) (by omega) (by omega)
  have p12 := ho1 12 (by omega) (by omega) (by omega) (by omega)
  simp at p0 p1 p2 p3 p12
  clear ho1 hn1
  simp -implicitDefEqProofs
  refine c_SpoilInts T1 12 [] 0 _ [] true [] C.1 oc p12 rfl (by rw [p12]; rfl) _ (fun T2 ys _ t2 => ?_)
  have g0 := t2.2 0
  have g1 := t2.2 1
  have g2 := t2.2 2
  have g3 := t2.2 3
  rw [p0, if_neg (by omega)] at g0; rw [p1, if_neg (by omega)] at g1; rw [p2, if_neg (by omega)] at g2; rw [p3, if_neg (by omega)] at g3
  clear t2 p0 p1 p2 p3 p12
  simp -implicitDefEqProofs
  refine CallT.bool2 (by simp -implicitDefEqProofs [g0, g1, g2, g3]) (c_SameMachine m m false false h) (fun hb => ?_) (fun hb => absurd rfl hb)
  simp -implicitDefEqProofs
  refine CallT.pure c_awake16 rfl rfl ?_
  simp -implicitDefEqProofs

end Go.Ab

namespace Go.Ab

theorem clearP_ok {ws : List Int} : ∀ {l : List Thread}, (∀ x ∈ l, okTh x) → ∀ x ∈ clearP ws l, okTh x := by
  induction ws with
  | nil => intro l h; exact h
  | cons w ws ih =>
    intro l h
    refine ih (l := l.modify w.toNat unpost) fun x hx => ?_
    obtain ⟨i, hi, rfl⟩ := List.getElem_of_mem hx
    have hi' : i < l.length := by simpa using hi
    simp only [List.getElem_modify]
    have hx := h _ (List.getElem_mem hi')
    split
    · exact hx
    · exact hx
theorem modify_ok {l : List Thread} {i : Nat} {f : Thread → Thread} (h : ∀ x ∈ l, okTh x) (hf : ∀ x, okTh x → okTh (f x)) : ∀ x ∈ l.modify i f, okTh x := by
  intro x hx
  obtain ⟨j, hj, rfl⟩ := List.getElem_of_mem hx
  have hj' : j < l.length := by simpa using hj
  simp only [List.getElem_modify]
  split
  · exact hf _ (h _ (List.getElem_mem hj'))
  · exact h _ (List.getElem_mem hj')
theorem okM_take {m : Machine} (h : okM m) (t : Int) : okM (takeM m t) := by
  obtain ⟨h1, h2, ⟨l3, o3⟩, h4⟩ := h
  have hb : lenOK (batchFor m t) := by
    have := wsTo_len m (ownOf m t) (logOfT m t.toNat) m.threads.length
    unfold lenOK at *
    unfold batchFor
    omega
  refine ⟨h1, h2, ⟨?_, ?_⟩, h4⟩
  · unfold takeM lenOK at *
    simp only [List.length_modify, clearP_len]
    exact l3
  · exact modify_ok (clearP_ok (modify_ok o3 fun x hx => ⟨hb, hx.2⟩)) fun x hx => hx
theorem okM_coll {m : Machine} (h : okM m) (t : Int) : okM (collM m t).1 := by
  unfold collM
  split
  · exact okM_take h t
  · exact okM_no

theorem c_awake17 : PCall tab 35 [] (.bool true) := PCall.closed 60 rfl rfl rfl (by kernel_rfl)

set_option maxHeartbeats 2000000 in
theorem l_Batches (m : Machine) (t : Int) (h : okM m) (hin : ∀ r ∈ m.rings, inR r.head) (_ : inR t) : CallT tab false 8 [.a (.agg (encMachine false m)), .a (.int .i64 t)] TH.none (fun v _ => v = .a (.bool true)) := by
  refine CallT.body (F := m8) rfl rfl rfl rfl ?_
  simp -implicitDefEqProofs [m8]
  refine CallT.pure (c_lCopyMachine m h) (by simp) (ok_mach m) ?_
  simp -implicitDefEqProofs
  refine CallT.pure (c_Collect m t h) (by simp) (ok_mach1 _ _) ?_
  simp -implicitDefEqProofs
  refine CallT.pure (c_Collect13 m t h hin) (by simp) (ok_mach1 _ _) ?_
  have oa := okM_coll h t
  generalize collM m t = A at *
  simp -implicitDefEqProofs
  refine CallT.bool2 (by simp) (c_SameMachine A.1 A.1 false false oa) (fun hb => ?_) (fun hb => absurd rfl hb)
  simp -implicitDefEqProofs
  refine CallT.pure (c_Num A.2) (by simp) rfl ?_
  simp -implicitDefEqProofs
  refine c_SpoilMachine _ A.1.config 4 5 6 7 (by omega) (by omega) (by omega) (by omega) (by omega) (by omega) A.1 oa (by simp) (by simp) (by simp) (by simp) _ (fun T1 hn1 ho1 => ?_)
  have p0 := ho1 0 (by omega) (by omega) (by omega) (by omega)
  have p1 := ho1 1 (by omega) (by omega) (by omega) (by omega)
  have p2 := ho1 2 (by omega) (by omega) (by omega) (by omega)
  have p3 := ho1 3 (by omega) (by omega) (by omega) (by omega)
  simp at p0 p1 p2 p3
  clear ho1 hn1
  simp -implicitDefEqProofs
  refine CallT.bool2 (by simp -implicitDefEqProofs [p0, p1, p2, p3]) (c_SameMachine m m false false h) (fun hb => ?_) (fun hb => absurd rfl hb)
  simp -implicitDefEqProofs
  refine CallT.pure c_awake17 rfl rfl ?_
  simp -implicitDefEqProofs

end Go.Ab

namespace Go.Ab
open Go.RowKit Go.ChangeShapes

theorem law_eval {M : FuncId → Option MFunc} {k : FuncId} {ts : List AV} (h : CallT M false k (ts.map .a) TH.none fun v _ => v = .a (.bool true)) : ∃ n H', eval M n k ts AH.zero = some (.bool true, H') := by
  obtain ⟨r, H', ⟨n, hev⟩, v, A', T', _, hv, _, rfl⟩ := h _ AH.zero ts HR.none (VRL.atoms ts)
  cases hv
  exact ⟨n, H', hev⟩

theorem i64_range {n : Int} (h : (Lit.int .i64 n).wf = true) : -9223372036854775808 ≤ n ∧ n < 9223372036854775808 := by
  simp only [Lit.wf, Bool.and_eq_true, decide_eq_true_eq] at h
  have e1 : IntKind.i64.min = -9223372036854775808 := by decide
  have e2 : IntKind.i64.max = 9223372036854775807 := by decide
  omega

def wfI (n : Int) : Prop := (Lit.int .i64 n).wf = true
def rangeOp (o : Op) : Prop := wfI o.code ∧ wfI o.row ∧ wfI o.arg
def rangeS (s : Slot) : Prop := rangeOp s.op ∧ wfI s.thread ∧ wfI s.bit
def rangeR (r : Ring) : Prop := wfI r.head ∧ wfI r.tail ∧ wfI r.fence ∧ (∀ s ∈ r.slots, rangeS s)
def rangeI (l : List Int) : Prop := ∀ x ∈ l, wfI x
def rangeP (p : Replica) : Prop := (rangeI p.state.r0 ∧ rangeI p.state.r1 ∧ rangeI p.state.r2 ∧ rangeI p.state.r3) ∧ rangeI p.cursors ∧ rangeI p.locks
def rangeT (t : Thread) : Prop := wfI t.step ∧ rangeOp t.op ∧ wfI t.log ∧ wfI t.seen ∧ rangeI t.batch ∧ wfI t.at_ ∧ wfI t.answer ∧ rangeI t.tails
def rangeC (c : Config) : Prop := wfI c.object ∧ wfI c.replicas ∧ wfI c.logs ∧ wfI c.threads ∧ wfI c.slots
def rangeE (e : Event) : Prop := wfI e.thread ∧ rangeOp e.op ∧ wfI e.answer
/-- what a machine that is handed in is known to be -/
def rangeM (m : Machine) : Prop := rangeC m.config ∧ (∀ r ∈ m.rings, rangeR r) ∧ (∀ p ∈ m.replicas, rangeP p) ∧ (∀ t ∈ m.threads, rangeT t) ∧ (∀ e ∈ m.history, rangeE e)
theorem rangeM_heads {m : Machine} (h : rangeM m) : ∀ r ∈ m.rings, inR r.head := fun r hr => i64_range (h.2.1 r hr).1

end Go.Ab

namespace Go.Proofs.YtooniglinjigdaaGreat
open Go.ChangeShapes Go.WideShapes Go.ChangeAt Go.RowKit Go.Ab

mutual
theorem tame_of {H : Type} : ∀ (d : DataW H), Rows.uptoBulk d ≤ 1048576 → tame d = true
  | .lit l, h => by
    cases l
    case string bytes => simp only [Rows.uptoBulk] at h; simp only [tame, decide_eq_true_eq]; omega
    all_goals rfl
  | .nil, _ => rfl
  | .ptr _, _ => rfl
  | .slice es sp, h => by
    simp only [Rows.uptoBulk] at h
    obtain ⟨h1, h2⟩ := tameL_of es (by omega)
    simp only [tame, Bool.and_eq_true, decide_eq_true_eq]
    exact ⟨by omega, h1⟩
  | .agg ps, h => by
    simp only [Rows.uptoBulk] at h
    exact (tameL_of ps (by omega)).1
  | .iface _ _, _ => rfl
  | .map _, _ => rfl
  | .held _, _ => rfl
theorem tameL_of {H : Type} : ∀ (l : List (DataW H)), Rows.uptoBulkAll l ≤ 1048576 → tameL l = true ∧ l.length ≤ Rows.uptoBulkAll l
  | [], _ => ⟨rfl, by simp⟩
  | d :: r, h => by
    simp only [Rows.uptoBulkAll] at h ⊢
    obtain ⟨h1, h2⟩ := tameL_of r (by omega)
    have h3 := tame_of d (by omega)
    have h4 := bulk_pos d
    exact ⟨by simp only [tameL, h3, h1, Bool.and_self], by simp only [List.length_cons]; omega⟩
theorem bulk_pos {H : Type} : ∀ (d : DataW H), 1 ≤ Rows.uptoBulk d
  | .lit l => by cases l <;> simp [Rows.uptoBulk]
  | .nil => by simp [Rows.uptoBulk]
  | .ptr _ => by simp only [Rows.uptoBulk]; omega
  | .slice _ _ => by simp only [Rows.uptoBulk]; omega
  | .agg _ => by simp only [Rows.uptoBulk]; omega
  | .iface _ _ => by simp only [Rows.uptoBulk]; omega
  | .map _ => by simp only [Rows.uptoBulk]; omega
  | .held _ => by simp [Rows.uptoBulk]
end

theorem own : ownKnob Go.Proofs.Tryz.prog.godebug = none := by kernel_rfl
theorem laidOut : laidOutB Go.Proofs.Tryz.prog = true := by kernel_rfl

section
variable (W : World)
theorem dec_i : DecS Go.Proofs.Tryz.prog W 3 encInt wfI := Dec.s (Dec.int Go.Proofs.Tryz.underlying3)
theorem dec_b : DecS Go.Proofs.Tryz.prog W 4 (fun b : Bool => [.bool b]) (fun _ => True) := Dec.s (Dec.bool Go.Proofs.Tryz.underlying4)
theorem dec_ints : DecS Go.Proofs.Tryz.prog W 40 (fun l : List Int => [.vs (l.map encInt) false]) (fun l => rangeI l ∧ lenOK l) := DecS.slice (sz := 1) Go.Proofs.Tryz.underlying40 (by kernel_rfl) (by omega) (dec_i W)
theorem dec_op : DecS Go.Proofs.Tryz.prog W 37 encOp rangeOp :=
  @DecS.struct _ _ _ _ 3 _ _ _ _ _ _ Go.Proofs.Tryz.underlying37 (by kernel_rfl) (@DecFS.cons _ _ _ _ _ 1 _ _ _ _ _ _ _ (by rfl) (by kernel_rfl) (dec_i W) (@DecFS.cons _ _ _ _ _ 1 _ _ _ _ _ _ _ (by rfl) (by kernel_rfl) (dec_i W) (@DecFS.cons _ _ _ _ _ 1 _ _ _ _ _ _ _ (by rfl) (by kernel_rfl) (dec_i W) (@DecFS.nil _ _ 3))))
    (fun a => ⟨a.1, a.2.1, a.2.2.1⟩) (fun a h => ⟨⟨h.1, h.2.1, h.2.2.1⟩, rfl⟩)
theorem dec_config : DecS Go.Proofs.Tryz.prog W 24 encConfig rangeC :=
  @DecS.struct _ _ _ _ 5 _ _ _ _ _ _ Go.Proofs.Tryz.underlying24 (by kernel_rfl) (@DecFS.cons _ _ _ _ _ 1 _ _ _ _ _ _ _ (by rfl) (by kernel_rfl) (dec_i W) (@DecFS.cons _ _ _ _ _ 1 _ _ _ _ _ _ _ (by rfl) (by kernel_rfl) (dec_i W) (@DecFS.cons _ _ _ _ _ 1 _ _ _ _ _ _ _ (by rfl) (by kernel_rfl) (dec_i W) (@DecFS.cons _ _ _ _ _ 1 _ _ _ _ _ _ _ (by rfl) (by kernel_rfl) (dec_i W) (@DecFS.cons _ _ _ _ _ 1 _ _ _ _ _ _ _ (by rfl) (by kernel_rfl) (dec_i W) (@DecFS.nil _ _ 5))))))
    (fun a => ⟨a.1, a.2.1, a.2.2.1, a.2.2.2.1, a.2.2.2.2.1⟩) (fun a h => ⟨⟨h.1, h.2.1, h.2.2.1, h.2.2.2.1, h.2.2.2.2.1⟩, rfl⟩)
theorem dec_slot : DecS Go.Proofs.Tryz.prog W 39 encSlot rangeS :=
  @DecS.struct _ _ _ _ 5 _ _ _ _ _ _ Go.Proofs.Tryz.underlying39 (by kernel_rfl) (@DecFS.cons _ _ _ _ _ 3 _ _ _ _ _ _ _ (by rfl) (by kernel_rfl) (dec_op W) (@DecFS.cons _ _ _ _ _ 1 _ _ _ _ _ _ _ (by rfl) (by kernel_rfl) (dec_i W) (@DecFS.cons _ _ _ _ _ 1 _ _ _ _ _ _ _ (by rfl) (by kernel_rfl) (dec_i W) (@DecFS.nil _ _ 5))))
    (fun a => ⟨a.1, a.2.1, a.2.2.1⟩) (fun a h => ⟨⟨h.1, h.2.1, h.2.2.1⟩, rfl⟩)
theorem dec_slots : DecS Go.Proofs.Tryz.prog W 33 (fun l : List Slot => [.vs (l.map encSlot) false]) (fun l => (∀ s ∈ l, rangeS s) ∧ lenOK l) := DecS.slice (sz := 5) Go.Proofs.Tryz.underlying33 (by kernel_rfl) (by omega) (dec_slot W)
theorem dec_ring : DecS Go.Proofs.Tryz.prog W 35 (encRing false) (fun r => rangeR r ∧ okR r) :=
  @DecS.struct _ _ _ _ 4 _ _ _ _ _ _ Go.Proofs.Tryz.underlying35 (by kernel_rfl) (@DecFS.cons _ _ _ _ _ 1 _ _ _ _ _ _ _ (by rfl) (by kernel_rfl) (dec_i W) (@DecFS.cons _ _ _ _ _ 1 _ _ _ _ _ _ _ (by rfl) (by kernel_rfl) (dec_i W) (@DecFS.cons _ _ _ _ _ 1 _ _ _ _ _ _ _ (by rfl) (by kernel_rfl) (dec_i W) (@DecFS.cons _ _ _ _ _ 1 _ _ _ _ _ _ _ (by rfl) (by kernel_rfl) (dec_slots W) (@DecFS.nil _ _ 4)))))
    (fun a => ⟨a.1, a.2.1, a.2.2.1, a.2.2.2.1⟩) (fun a h => ⟨⟨⟨h.1, h.2.1, h.2.2.1, h.2.2.2.1.1⟩, h.2.2.2.1.2⟩, rfl⟩)
theorem dec_rings : DecS Go.Proofs.Tryz.prog W 25 (fun l : List Ring => [.vs (l.map (encRing false)) false]) (fun l => (∀ s ∈ l, rangeR s ∧ okR s) ∧ lenOK l) := DecS.slice (sz := 4) Go.Proofs.Tryz.underlying25 (by kernel_rfl) (by omega) (dec_ring W)
theorem dec_rows : DecS Go.Proofs.Tryz.prog W 41 (fun l : List (List Int) => (l.map fun l : List Int => [AV.vs (l.map encInt) false]).flatten) (fun l => (∀ a ∈ l, rangeI a ∧ lenOK a) ∧ l.length = 4) := DecS.array (sz := 1) Go.Proofs.Tryz.underlying41 (by kernel_rfl) (by kernel_rfl) (dec_ints W)
theorem dec_state : DecS Go.Proofs.Tryz.prog W 43 (encState false) (fun s => (rangeI s.r0 ∧ rangeI s.r1 ∧ rangeI s.r2 ∧ rangeI s.r3) ∧ okS s) :=
  @DecS.struct _ _ _ _ 4 _ _ _ _ _ _ Go.Proofs.Tryz.underlying43 (by kernel_rfl) (@DecFS.cons _ _ _ _ _ 4 _ _ _ _ _ _ _ (by rfl) (by kernel_rfl) (dec_rows W) (@DecFS.nil _ _ 4))
    (fun a => match a.1 with | [a0, a1, a2, a3] => ⟨a0, a1, a2, a3⟩ | _ => ⟨[], [], [], []⟩)
    (fun a h => by
      obtain ⟨l, _⟩ := a
      obtain ⟨⟨h1, h2⟩, _⟩ := h
      simp only at h1 h2
      match l, h2 with
      | [a0, a1, a2, a3], _ =>
        have k0 := h1 a0 (by simp)
        have k1 := h1 a1 (by simp)
        have k2 := h1 a2 (by simp)
        have k3 := h1 a3 (by simp)
        exact ⟨⟨⟨k0.1, k1.1, k2.1, k3.1⟩, k0.2, k1.2, k2.2, k3.2⟩, rfl⟩)
theorem dec_replica : DecS Go.Proofs.Tryz.prog W 45 (encReplica false) (fun p => rangeP p ∧ okP' p) :=
  @DecS.struct _ _ _ _ 6 _ _ _ _ _ _ Go.Proofs.Tryz.underlying45 (by kernel_rfl) (@DecFS.cons _ _ _ _ _ 4 _ _ _ _ _ _ _ (by rfl) (by kernel_rfl) (dec_state W) (@DecFS.cons _ _ _ _ _ 1 _ _ _ _ _ _ _ (by rfl) (by kernel_rfl) (dec_ints W) (@DecFS.cons _ _ _ _ _ 1 _ _ _ _ _ _ _ (by rfl) (by kernel_rfl) (dec_ints W) (@DecFS.nil _ _ 6))))
    (fun a => ⟨a.1, a.2.1, a.2.2.1⟩) (fun a h => ⟨⟨⟨h.1.1, h.2.1.1, h.2.2.1.1⟩, h.1.2, h.2.1.2, h.2.2.1.2⟩, rfl⟩)
theorem dec_replicas : DecS Go.Proofs.Tryz.prog W 26 (fun l : List Replica => [.vs (l.map (encReplica false)) false]) (fun l => (∀ s ∈ l, rangeP s ∧ okP' s) ∧ lenOK l) := DecS.slice (sz := 6) Go.Proofs.Tryz.underlying26 (by kernel_rfl) (by omega) (dec_replica W)
theorem dec_thread : DecS Go.Proofs.Tryz.prog W 47 (encThread false) (fun t => rangeT t ∧ okTh t) :=
  @DecS.struct _ _ _ _ 12 _ _ _ _ _ _ Go.Proofs.Tryz.underlying47 (by kernel_rfl) (@DecFS.cons _ _ _ _ _ 1 _ _ _ _ _ _ _ (by rfl) (by kernel_rfl) (dec_i W) (@DecFS.cons _ _ _ _ _ 3 _ _ _ _ _ _ _ (by rfl) (by kernel_rfl) (dec_op W) (@DecFS.cons _ _ _ _ _ 1 _ _ _ _ _ _ _ (by rfl) (by kernel_rfl) (dec_i W) (@DecFS.cons _ _ _ _ _ 1 _ _ _ _ _ _ _ (by rfl) (by kernel_rfl) (dec_i W) (@DecFS.cons _ _ _ _ _ 1 _ _ _ _ _ _ _ (by rfl) (by kernel_rfl) (dec_ints W) (@DecFS.cons _ _ _ _ _ 1 _ _ _ _ _ _ _ (by rfl) (by kernel_rfl) (dec_i W) (@DecFS.cons _ _ _ _ _ 1 _ _ _ _ _ _ _ (by rfl) (by kernel_rfl) (dec_b W) (@DecFS.cons _ _ _ _ _ 1 _ _ _ _ _ _ _ (by rfl) (by kernel_rfl) (dec_b W) (@DecFS.cons _ _ _ _ _ 1 _ _ _ _ _ _ _ (by rfl) (by kernel_rfl) (dec_i W) (@DecFS.cons _ _ _ _ _ 1 _ _ _ _ _ _ _ (by rfl) (by kernel_rfl) (dec_ints W) (@DecFS.nil _ _ 12)))))))))))
    (fun a => ⟨a.1, a.2.1, a.2.2.1, a.2.2.2.1, a.2.2.2.2.1, a.2.2.2.2.2.1, a.2.2.2.2.2.2.1, a.2.2.2.2.2.2.2.1, a.2.2.2.2.2.2.2.2.1, a.2.2.2.2.2.2.2.2.2.1⟩)
    (fun a h => by
      obtain ⟨h1, h2, h3, h4, h5, h6, h7, h8, h9, h10, _⟩ := h
      exact ⟨⟨⟨h1, h2, h3, h4, h5.1, h6, h9, h10.1⟩, h5.2, h10.2⟩, rfl⟩)
theorem dec_threads : DecS Go.Proofs.Tryz.prog W 27 (fun l : List Thread => [.vs (l.map (encThread false)) false]) (fun l => (∀ s ∈ l, rangeT s ∧ okTh s) ∧ lenOK l) := DecS.slice (sz := 12) Go.Proofs.Tryz.underlying27 (by kernel_rfl) (by omega) (dec_thread W)
theorem dec_event : DecS Go.Proofs.Tryz.prog W 49 encEvent rangeE :=
  @DecS.struct _ _ _ _ 6 _ _ _ _ _ _ Go.Proofs.Tryz.underlying49 (by kernel_rfl) (@DecFS.cons _ _ _ _ _ 1 _ _ _ _ _ _ _ (by rfl) (by kernel_rfl) (dec_i W) (@DecFS.cons _ _ _ _ _ 1 _ _ _ _ _ _ _ (by rfl) (by kernel_rfl) (dec_b W) (@DecFS.cons _ _ _ _ _ 3 _ _ _ _ _ _ _ (by rfl) (by kernel_rfl) (dec_op W) (@DecFS.cons _ _ _ _ _ 1 _ _ _ _ _ _ _ (by rfl) (by kernel_rfl) (dec_i W) (@DecFS.nil _ _ 6)))))
    (fun a => ⟨a.1, a.2.1, a.2.2.1, a.2.2.2.1⟩) (fun a h => ⟨⟨h.1, h.2.2.1, h.2.2.2.1⟩, rfl⟩)
theorem dec_events : DecS Go.Proofs.Tryz.prog W 28 (fun l : List Ab.Event => [.vs (l.map encEvent) false]) (fun l => (∀ s ∈ l, rangeE s) ∧ lenOK l) := DecS.slice (sz := 6) Go.Proofs.Tryz.underlying28 (by kernel_rfl) (by omega) (dec_event W)
theorem dec_machine : DecS Go.Proofs.Tryz.prog W 30 (encMachine false) (fun m => rangeM m ∧ okM m) :=
  @DecS.struct _ _ _ _ 9 _ _ _ _ _ _ Go.Proofs.Tryz.underlying30 (by kernel_rfl) (@DecFS.cons _ _ _ _ _ 5 _ _ _ _ _ _ _ (by rfl) (by kernel_rfl) (dec_config W) (@DecFS.cons _ _ _ _ _ 1 _ _ _ _ _ _ _ (by rfl) (by kernel_rfl) (dec_rings W) (@DecFS.cons _ _ _ _ _ 1 _ _ _ _ _ _ _ (by rfl) (by kernel_rfl) (dec_replicas W) (@DecFS.cons _ _ _ _ _ 1 _ _ _ _ _ _ _ (by rfl) (by kernel_rfl) (dec_threads W) (@DecFS.cons _ _ _ _ _ 1 _ _ _ _ _ _ _ (by rfl) (by kernel_rfl) (dec_events W) (@DecFS.nil _ _ 9))))))
    (fun a => ⟨a.1, a.2.1, a.2.2.1, a.2.2.2.1, a.2.2.2.2.1⟩)
    (fun a h => by
      obtain ⟨h1, h2, h3, h4, h5, _⟩ := h
      exact ⟨⟨⟨h1, fun r hr => (h2.1 r hr).1, fun r hr => (h3.1 r hr).1, fun r hr => (h4.1 r hr).1, h5.1⟩, ⟨h2.2, fun r hr => (h2.1 r hr).2⟩, ⟨h3.2, fun r hr => (h3.1 r hr).2⟩, ⟨h4.2, fun r hr => (h4.1 r hr).2⟩, h5.2⟩, rfl⟩)
end

end Go.Proofs.YtooniglinjigdaaGreat
