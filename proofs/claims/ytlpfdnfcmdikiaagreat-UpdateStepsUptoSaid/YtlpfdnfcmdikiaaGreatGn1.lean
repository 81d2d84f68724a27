/-
  A claimer's steps, by value: the program's: all of them.
  and what goes with it.
  Conditions: none.
-/
import Derived.Test.YtlpfdnfcmdikiaaGreatGn0
import Derived.Test.YtlpfdnfcmdikiaaGreatGb
import Derived.Test.YtlpfdnfcmdikiaaGreatRows

set_option linter.unusedSimpArgs false
set_option linter.unusedVariables false

namespace Go.Ab

set_option maxHeartbeats 4000000 in
theorem x_claimDoes (m : Machine) (t : Int) (h : okM m) (hat : atP m t) (T : TH) (hT : StT T m t (ownOf m t)) (K : TV → TH → Prop) (hyes : (claimM m t).2 = 0 → ∀ T1,DnT T1 (claimM m t).1 t (ownOf m t) → K (.a (.bool true)) T1) (hno : ¬ (claimM m t).2 = 0 → ∀ T1,K (.a (.bool false)) T1) : CallT tab false 43 [.pt 5 [] 0 0 0] T K := by
 obtain ⟨r,log,hi,hri,hj,hk,hlk,hrm,et,hlg,hown,hlog,hA,hF⟩ := wk h hat
 have hT0 := hT
 obtain ⟨t1,t2,t3,t4,t5,nx⟩ := hT
 have hn0 : ¬ T.next = 0 ∧ ¬ T.next = 1 ∧ ¬ T.next = 2 ∧ ¬ T.next = 3 ∧ ¬ T.next = 4 ∧ ¬ T.next = 5 := by omega
 have hF := And.intro hF (And.intro t1 (And.intro t2 (And.intro t3 (And.intro t4 (And.intro t5 hn0)))))
 by_cases hb : m.threads[t.toNat].batch = []
 ·have hl : ¬ claimP m t := fun e => e.2 (by rw [et]; exact hb)
  rw [claimM_no hl] at hno
  refine CallT.body (F := m43) rfl rfl rfl rfl ?_
  simp -implicitDefEqProofs [m43,hF,hb]
  refine CallT.bodyQ (F := m71) rfl rfl rfl rfl rfl ?_
  simp -implicitDefEqProofs [m71,hF,hb]
  exact hno (by decide) _
 ·have hl : claimP m t := ⟨hat,by rw [et]; exact hb⟩
  have zb : 0 < m.threads[t.toNat].batch.length := Nat.pos_of_ne_zero fun e => hb (List.length_eq_zero_iff.1 e)
  have zc : (0 : Int) < m.threads[t.toNat].batch.length := by omega
  rw [claimM_yes hl] at hyes hno
  by_cases s4 : (thrAt m t.toNat).step = 4
  ·rw [s4] at hyes hno
   rw [et] at s4
   have e4 : ((4 : Int) == m.threads[t.toNat].step) = true := by simp [s4]
   refine CallT.body (F := m43) rfl rfl rfl rfl ?_
   simp -implicitDefEqProofs [m43,hF,zb,zc,e4]
   refine CallT.bodyQ (F := m71) rfl rfl rfl rfl rfl ?_
   simp -implicitDefEqProofs [m71,hF,zb,zc,e4]
   refine CallT.body (F := m72) rfl rfl rfl rfl ?_
   simp -implicitDefEqProofs [m72,hF,zb,zc,e4]
   refine CallT.bodyQ (F := m71) rfl rfl rfl rfl rfl ?_
   simp -implicitDefEqProofs [m71,hF,zb,zc,e4]
   refine x_load m t h hl _ ⟨by simp [hF],by simp [hF],by simp [hF],by simp [hF],by simp [hF],by simp; omega⟩ _ (fun he T1 hd => ?_) (fun he T1 => ?_)
   ·simp -implicitDefEqProofs
    exact hyes he T1 hd
   ·simp -implicitDefEqProofs
    exact hno he T1
  by_cases s5 : (thrAt m t.toNat).step = 5
  ·rw [s5] at hyes hno
   rw [et] at s4 s5
   have e4 : ((4 : Int) == m.threads[t.toNat].step) = false := by simp [s5]
   have e5 : ((5 : Int) == m.threads[t.toNat].step) = true := by simp [s5]
   refine CallT.body (F := m43) rfl rfl rfl rfl ?_
   simp -implicitDefEqProofs [m43,hF,zb,zc,e4,e5]
   refine CallT.bodyQ (F := m71) rfl rfl rfl rfl rfl ?_
   simp -implicitDefEqProofs [m71,hF,zb,zc,e4,e5]
   refine CallT.body (F := m72) rfl rfl rfl rfl ?_
   simp -implicitDefEqProofs [m72,hF,zb,zc,e4,e5]
   refine CallT.bodyQ (F := m71) rfl rfl rfl rfl rfl ?_
   simp -implicitDefEqProofs [m71,hF,zb,zc,e4,e5]
   refine x_room m t h hl _ ⟨by simp [hF],by simp [hF],by simp [hF],by simp [hF],by simp [hF],by simp; omega⟩ _ (fun he T1 hd => ?_) (fun he T1 => ?_)
   ·simp -implicitDefEqProofs
    exact hyes he T1 hd
   ·simp -implicitDefEqProofs
    exact hno he T1
  by_cases s6 : (thrAt m t.toNat).step = 6
  ·rw [s6] at hyes hno
   rw [et] at s4 s5 s6
   have e4 : ((4 : Int) == m.threads[t.toNat].step) = false := by simp [s6]
   have e5 : ((5 : Int) == m.threads[t.toNat].step) = false := by simp [s6]
   have e6 : ((6 : Int) == m.threads[t.toNat].step) = true := by simp [s6]
   refine CallT.body (F := m43) rfl rfl rfl rfl ?_
   simp -implicitDefEqProofs [m43,hF,zb,zc,e4,e5,e6]
   refine CallT.bodyQ (F := m71) rfl rfl rfl rfl rfl ?_
   simp -implicitDefEqProofs [m71,hF,zb,zc,e4,e5,e6]
   refine CallT.body (F := m72) rfl rfl rfl rfl ?_
   simp -implicitDefEqProofs [m72,hF,zb,zc,e4,e5,e6]
   refine CallT.bodyQ (F := m71) rfl rfl rfl rfl rfl ?_
   simp -implicitDefEqProofs [m71,hF,zb,zc,e4,e5,e6]
   refine x_claim m t h hl _ ⟨by simp [hF],by simp [hF],by simp [hF],by simp [hF],by simp [hF],by simp; omega⟩ _ (fun he T1 hd => ?_) (fun he T1 => ?_)
   ·simp -implicitDefEqProofs
    exact hyes he T1 hd
   ·simp -implicitDefEqProofs
    exact hno he T1
  by_cases s7 : (thrAt m t.toNat).step = 7
  ·rw [s7] at hyes hno
   rw [et] at s4 s5 s6 s7
   have e4 : ((4 : Int) == m.threads[t.toNat].step) = false := by simp [s7]
   have e5 : ((5 : Int) == m.threads[t.toNat].step) = false := by simp [s7]
   have e6 : ((6 : Int) == m.threads[t.toNat].step) = false := by simp [s7]
   have e7 : ((7 : Int) == m.threads[t.toNat].step) = true := by simp [s7]
   refine CallT.body (F := m43) rfl rfl rfl rfl ?_
   simp -implicitDefEqProofs [m43,hF,zb,zc,e4,e5,e6,e7]
   refine CallT.bodyQ (F := m71) rfl rfl rfl rfl rfl ?_
   simp -implicitDefEqProofs [m71,hF,zb,zc,e4,e5,e6,e7]
   refine CallT.body (F := m72) rfl rfl rfl rfl ?_
   simp -implicitDefEqProofs [m72,hF,zb,zc,e4,e5,e6,e7]
   refine CallT.bodyQ (F := m71) rfl rfl rfl rfl rfl ?_
   simp -implicitDefEqProofs [m71,hF,zb,zc,e4,e5,e6,e7]
   refine x_publish m t h hl _ ⟨by simp [hF],by simp [hF],by simp [hF],by simp [hF],by simp [hF],by simp; omega⟩ _ (fun he T1 hd => ?_) (fun he T1 => ?_)
   ·simp -implicitDefEqProofs
    exact hyes he T1 hd
   ·simp -implicitDefEqProofs
    exact hno he T1
  rw [show claimX m t (thrAt m t.toNat) (ringAt m (thrAt m t.toNat).log.toNat) (thrAt m t.toNat).step = (noMachine,1900) by simp [claimX,s4,s5,s6,s7]] at hno
  rw [et] at s4 s5 s6 s7
  have e4 : ((4 : Int) == m.threads[t.toNat].step) = false := by simp; omega
  have e5 : ((5 : Int) == m.threads[t.toNat].step) = false := by simp; omega
  have e6 : ((6 : Int) == m.threads[t.toNat].step) = false := by simp; omega
  have e7 : ((7 : Int) == m.threads[t.toNat].step) = false := by simp; omega
  refine CallT.body (F := m43) rfl rfl rfl rfl ?_
  simp -implicitDefEqProofs [m43,hF,zb,zc,e4,e5,e6,e7]
  refine CallT.bodyQ (F := m71) rfl rfl rfl rfl rfl ?_
  simp -implicitDefEqProofs [m71,hF,zb,zc,e4,e5,e6,e7]
  refine CallT.body (F := m72) rfl rfl rfl rfl ?_
  simp -implicitDefEqProofs [m72,hF,zb,zc,e4,e5,e6,e7]
  refine CallT.bodyQ (F := m71) rfl rfl rfl rfl rfl ?_
  simp -implicitDefEqProofs [m71,hF,zb,zc,e4,e5,e6,e7]
  exact hno (by decide) _

end Go.Ab

namespace Go.Ab

end Go.Ab

namespace Go.Ab

end Go.Ab

namespace Go.Ab

end Go.Ab

namespace Go.Ab

theorem thrLock9 {m : Machine} {t x : Int} {r g : Nat} (hi : t.toNat < m.threads.length) : (setThread (setLock m r g x) t.toNat fun y => { y with batch := [],at_ := 0,step := 10 }) = { m with replicas := (setLock m r g x).replicas,threads := m.threads.set t.toNat { m.threads[t.toNat] with batch := [],at_ := 0,step := 10 } } := by
 rw [setThread_of (m := setLock m r g x) hi]; rfl

end Go.Ab

namespace Go.Ab

theorem stepPost_of {m : Machine} {t s : Int} (f : Thread → Thread) (hi : t.toNat < m.threads.length) : stepM (setThread m t.toNat f) t s = { m with threads := m.threads.set t.toNat { f m.threads[t.toNat] with step := s } } := by
 rw [setThread_of hi]
 have h2 : t.toNat < (m.threads.set t.toNat (f m.threads[t.toNat])).length := by simpa using hi
 have := stepM_of (m := { m with threads := m.threads.set t.toNat (f m.threads[t.toNat]) }) (t := t) h2 s
 rw [this]
 simp only [List.set_set,List.getElem_set_self]

set_option maxHeartbeats 4000000 in
theorem c_Upd_1 (m : Machine) (t : Int) (h : okM m) (hl : updP m t) (hs : (thrAt m t.toNat).step = 1) : PCall tab 31 [.agg (encMachine false m),.int .i64 t] (.tup [.agg (encMachine true (stepM (postM m t).1 t 2,(0 : Int)).1),.int .i64 (stepM (postM m t).1 t 2,(0 : Int)).2]) := by
 obtain ⟨hat,hup⟩ := hl
 obtain ⟨r,log,hi,hri,hj,hk,hlk,hrm,et,hlg,hown,hlog,hA,hF⟩ := wk h hat
 have h1 := hat.1
 have hc := h1.1
 have hn := h1.2.1
 have ht0 := hat.2.1
 have ht1 := hF.1.2.1
 rw [et] at hup
 have elk : lockAt m r.toNat log.toNat = m.replicas[r.toNat].locks[log.toNat] := by simp [lockAt,hri,hlk]
 rw [et] at hs
 have e1 : ((1 : Int) == m.threads[t.toNat].step) = true := by simp [hs]
 rw [postM_yes hat,stepPost_of _ hi]
 refine PCall.of (F := m31) rfl rfl rfl (ok_mach1 _ _) ?_
 simp -implicitDefEqProofs [m31]
 refine CallT.body (F := m42) rfl rfl rfl rfl ?_
 simp -implicitDefEqProofs [m42]
 refine CallT.bool2 (by simp) (c_boardThread m t h) (fun hb => ?_) (fun hb => absurd hat hb)
 simp -implicitDefEqProofs
 refine CallT.pure (c_cfgReplica m.config t ⟨hc,hat.2.1,hat.2.2⟩) (by simp) rfl ?_
 simp -implicitDefEqProofs [hF]
 refine CallT.pure (c_startCopy m h (whole_of h1)) (by simp) (ok_mach _) ?_
 simp -implicitDefEqProofs
 refine CallT.bodyQ (F := m71) rfl rfl rfl rfl rfl ?_
 simp -implicitDefEqProofs [m71,hF,sT,sP,sI,-List.map_set,e1]
 refine CallT.bool2 (by simp [hF]) (c_updates m.threads[t.toNat].op) (fun hb2 => ?_) (fun hb2 => absurd hup hb2)
 simp -implicitDefEqProofs [hF,sT,sP,sI,-List.map_set,e1]
 refine CallT.body (F := m72) rfl rfl rfl rfl ?_
 simp -implicitDefEqProofs [m72,hF,sT,sP,sI,-List.map_set,e1]
 refine CallT.bodyQ (F := m71) rfl rfl rfl rfl rfl ?_
 simp -implicitDefEqProofs [m71,hF,sT,sP,sI,-List.map_set,e1]
 refine CallT.body (F := m73) rfl rfl rfl rfl ?_
 simp -implicitDefEqProofs [m73,hF,sT,sP,sI,-List.map_set,e1]
 refine CallT.body (F := m109) rfl rfl rfl rfl ?_
 simp -implicitDefEqProofs [m109,hF,sT,sP,sI,-List.map_set,e1]
 refine CallT.body (F := m110) rfl rfl rfl rfl ?_
 simp -implicitDefEqProofs [m110,hF,sT,sP,sI,-List.map_set,e1]
 refine CallT.bodyQ (F := m71) rfl rfl rfl rfl rfl ?_
 simp -implicitDefEqProofs [m71,hF,sT,sP,sI,-List.map_set,e1]

set_option maxHeartbeats 4000000 in
theorem c_Upd_2 (m : Machine) (t : Int) (h : okM m) (hl : updP m t) (hs : (thrAt m t.toNat).step = 2) : PCall tab 31 [.agg (encMachine false m),.int .i64 t] (.tup [.agg (encMachine true (if ownLock m t = 0 then stepM (setLock m (ownOf m t).toNat (thrAt m t.toNat).log.toNat (t + 1)) t 3 else stepM m t 10,(0 : Int)).1),.int .i64 (if ownLock m t = 0 then stepM (setLock m (ownOf m t).toNat (thrAt m t.toNat).log.toNat (t + 1)) t 3 else stepM m t 10,(0 : Int)).2]) := by
 obtain ⟨hat,hup⟩ := hl
 obtain ⟨r,log,hi,hri,hj,hk,hlk,hrm,et,hlg,hown,hlog,hA,hF⟩ := wk h hat
 have h1 := hat.1
 have hc := h1.1
 have hn := h1.2.1
 have ht0 := hat.2.1
 have ht1 := hF.1.2.1
 rw [et] at hup
 have elk : lockAt m r.toNat log.toNat = m.replicas[r.toNat].locks[log.toNat] := by simp [lockAt,hri,hlk]
 rw [et] at hs
 have e1 : ((1 : Int) == m.threads[t.toNat].step) = false := by simp [hs]
 have e2 : ((2 : Int) == m.threads[t.toNat].step) = true := by simp [hs]
 rw [show ownLock m t = m.replicas[r.toNat].locks[log.toNat] by unfold ownLock; rw [et,hlg,hrm]; exact elk]
 rw [et,hlg,hrm]
 refine PCall.of (F := m31) rfl rfl rfl (ok_mach1 _ _) ?_
 simp -implicitDefEqProofs [m31]
 by_cases hf : m.replicas[r.toNat].locks[log.toNat] = 0
 ·rw [if_pos hf,stepLock_of hi hri]
  refine CallT.body (F := m42) rfl rfl rfl rfl ?_
  simp -implicitDefEqProofs [m42]
  refine CallT.bool2 (by simp) (c_boardThread m t h) (fun hb => ?_) (fun hb => absurd hat hb)
  simp -implicitDefEqProofs
  refine CallT.pure (c_cfgReplica m.config t ⟨hc,hat.2.1,hat.2.2⟩) (by simp) rfl ?_
  simp -implicitDefEqProofs [hF]
  refine CallT.pure (c_startCopy m h (whole_of h1)) (by simp) (ok_mach _) ?_
  simp -implicitDefEqProofs
  refine CallT.bodyQ (F := m71) rfl rfl rfl rfl rfl ?_
  simp -implicitDefEqProofs [m71,hF,sT,sP,sI,-List.map_set,e1,e2,hf]
  refine CallT.bool2 (by simp [hF]) (c_updates m.threads[t.toNat].op) (fun hb2 => ?_) (fun hb2 => absurd hup hb2)
  simp -implicitDefEqProofs [hF,sT,sP,sI,-List.map_set,e1,e2,hf]
  refine CallT.body (F := m72) rfl rfl rfl rfl ?_
  simp -implicitDefEqProofs [m72,hF,sT,sP,sI,-List.map_set,e1,e2,hf]
  refine CallT.bodyQ (F := m71) rfl rfl rfl rfl rfl ?_
  simp -implicitDefEqProofs [m71,hF,sT,sP,sI,-List.map_set,e1,e2,hf]
  refine CallT.body (F := m74) rfl rfl rfl rfl ?_
  simp -implicitDefEqProofs [m74,hF,sT,sP,sI,-List.map_set,e1,e2,hf]
  refine CallT.body (F := m111) rfl rfl rfl rfl ?_
  simp -implicitDefEqProofs [m111,hF,sT,sP,sI,-List.map_set,e1,e2,hf]
  refine CallT.bodyQ (F := m71) rfl rfl rfl rfl rfl ?_
  simp -implicitDefEqProofs [m71,hF,sT,sP,sI,-List.map_set,e1,e2,hf]
  refine CallT.body (F := m139) rfl rfl rfl rfl ?_
  simp -implicitDefEqProofs [m139,hF,sT,sP,sI,-List.map_set,e1,e2,hf]
  refine CallT.body (F := m110) rfl rfl rfl rfl ?_
  simp -implicitDefEqProofs [m110,hF,sT,sP,sI,-List.map_set,e1,e2,hf]
  refine CallT.bodyQ (F := m71) rfl rfl rfl rfl rfl ?_
  simp -implicitDefEqProofs [m71,hF,sT,sP,sI,-List.map_set,e1,e2,hf]
 ·rw [if_neg hf,stepM_of hi]
  have bf : (m.replicas[r.toNat].locks[log.toNat] != 0) = true := by simp [hf]
  refine CallT.body (F := m42) rfl rfl rfl rfl ?_
  simp -implicitDefEqProofs [m42]
  refine CallT.bool2 (by simp) (c_boardThread m t h) (fun hb => ?_) (fun hb => absurd hat hb)
  simp -implicitDefEqProofs
  refine CallT.pure (c_cfgReplica m.config t ⟨hc,hat.2.1,hat.2.2⟩) (by simp) rfl ?_
  simp -implicitDefEqProofs [hF]
  refine CallT.pure (c_startCopy m h (whole_of h1)) (by simp) (ok_mach _) ?_
  simp -implicitDefEqProofs
  refine CallT.bodyQ (F := m71) rfl rfl rfl rfl rfl ?_
  simp -implicitDefEqProofs [m71,hF,sT,sP,sI,-List.map_set,e1,e2,hf]
  refine CallT.bool2 (by simp [hF]) (c_updates m.threads[t.toNat].op) (fun hb2 => ?_) (fun hb2 => absurd hup hb2)
  simp -implicitDefEqProofs [hF,sT,sP,sI,-List.map_set,e1,e2,hf]
  refine CallT.body (F := m72) rfl rfl rfl rfl ?_
  simp -implicitDefEqProofs [m72,hF,sT,sP,sI,-List.map_set,e1,e2,hf]
  refine CallT.bodyQ (F := m71) rfl rfl rfl rfl rfl ?_
  simp -implicitDefEqProofs [m71,hF,sT,sP,sI,-List.map_set,e1,e2,hf]
  refine CallT.body (F := m74) rfl rfl rfl rfl ?_
  simp -implicitDefEqProofs [m74,hF,sT,sP,sI,-List.map_set,e1,e2,hf]
  refine CallT.body (F := m111) rfl rfl rfl rfl ?_
  simp -implicitDefEqProofs [m111,hF,sT,sP,sI,-List.map_set,e1,e2,hf]
  refine CallT.bodyQ (F := m71) rfl rfl rfl rfl rfl ?_
  simp -implicitDefEqProofs [m71,hF,sT,sP,sI,-List.map_set,e1,e2,hf]
  refine CallT.body (F := m139) rfl rfl rfl rfl ?_
  simp -implicitDefEqProofs [m139,hF,sT,sP,sI,-List.map_set,e1,e2,hf]
  refine CallT.body (F := m110) rfl rfl rfl rfl ?_
  simp -implicitDefEqProofs [m110,hF,sT,sP,sI,-List.map_set,e1,e2,hf]
  refine CallT.bodyQ (F := m71) rfl rfl rfl rfl rfl ?_
  simp -implicitDefEqProofs [m71,hF,sT,sP,sI,-List.map_set,e1,e2,hf]

set_option maxHeartbeats 4000000 in
theorem c_Upd_3 (m : Machine) (t : Int) (h : okM m) (hl : updP m t) (hs : (thrAt m t.toNat).step = 3) : PCall tab 31 [.agg (encMachine false m),.int .i64 t] (.tup [.agg (encMachine false (collM m t).1),.int .i64 (collM m t).2]) := by
 obtain ⟨hat,hup⟩ := hl
 obtain ⟨r,log,hi,hri,hj,hk,hlk,hrm,et,hlg,hown,hlog,hA,hF⟩ := wk h hat
 have h1 := hat.1
 have hc := h1.1
 have hn := h1.2.1
 have ht0 := hat.2.1
 have ht1 := hF.1.2.1
 rw [et] at hup
 have elk : lockAt m r.toNat log.toNat = m.replicas[r.toNat].locks[log.toNat] := by simp [lockAt,hri,hlk]
 rw [et] at hs
 have e1 : ((1 : Int) == m.threads[t.toNat].step) = false := by simp [hs]
 have e2 : ((2 : Int) == m.threads[t.toNat].step) = false := by simp [hs]
 have e3 : ((3 : Int) == m.threads[t.toNat].step) = true := by simp [hs]
 rw [collM_yes ⟨hat,by unfold stepOfT; rw [List.getElem?_eq_getElem hi]; exact hs⟩]
 refine PCall.ofZ (F := m31) rfl rfl rfl ?_
 simp -implicitDefEqProofs [m31]
 refine CallT.body (F := m42) rfl rfl rfl rfl ?_
 simp -implicitDefEqProofs [m42]
 refine CallT.bool2 (by simp) (c_boardThread m t h) (fun hb => ?_) (fun hb => absurd hat hb)
 simp -implicitDefEqProofs
 refine CallT.pure (c_cfgReplica m.config t ⟨hc,hat.2.1,hat.2.2⟩) (by simp) rfl ?_
 simp -implicitDefEqProofs [hF]
 refine CallT.pure (c_startCopy m h (whole_of h1)) (by simp) (ok_mach _) ?_
 simp -implicitDefEqProofs
 refine CallT.bodyQ (F := m71) rfl rfl rfl rfl rfl ?_
 simp -implicitDefEqProofs [m71,hF,sT,sP,sI,-List.map_set,e1,e2,e3]
 refine CallT.bool2 (by simp [hF]) (c_updates m.threads[t.toNat].op) (fun hb2 => ?_) (fun hb2 => absurd hup hb2)
 simp -implicitDefEqProofs [hF,sT,sP,sI,-List.map_set,e1,e2,e3]
 refine CallT.body (F := m72) rfl rfl rfl rfl ?_
 simp -implicitDefEqProofs [m72,hF,sT,sP,sI,-List.map_set,e1,e2,e3]
 refine CallT.bodyQ (F := m71) rfl rfl rfl rfl rfl ?_
 simp -implicitDefEqProofs [m71,hF,sT,sP,sI,-List.map_set,e1,e2,e3]
 refine CallT.body (F := m75) rfl rfl rfl rfl ?_
 simp -implicitDefEqProofs [m75,hF,sT,sP,sI,-List.map_set,e1,e2,e3]
 refine x_Take m t r h h1 hat.2 _ ⟨by simp,by simp,by simp,by simp,by simp,by simp⟩ _ (fun v T1 hd => ?_)
 obtain ⟨⟨R1,L1,u1,v1,z1⟩,⟨R2,L2,u2,v2,z2⟩,⟨R3,L3,u3,v3,z3⟩,⟨q,n1,n2,n3,n4,u4,q1,q2,q3,u5⟩⟩ := hd
 have q1s := Ne.symm q1
 have q2s := Ne.symm q2
 have q3s := Ne.symm q3
 simp -implicitDefEqProofs [u1,u2,u3,u4,u5,v1,v2,v3,q1,q2,q3,q1s,q2s,q3s,unzT,unzP,okT,okP]
 exact ⟨⟨z1.1,z2.1,z3.1⟩,z1.2,z2.2,z3.2⟩

set_option maxHeartbeats 4000000 in
theorem c_Upd_c (m : Machine) (t : Int) (h : okM m) (hl : updP m t) (hs : (thrAt m t.toNat).step = 4 ∨ (thrAt m t.toNat).step = 5 ∨ (thrAt m t.toNat).step = 6 ∨ (thrAt m t.toNat).step = 7) : PCall tab 31 [.agg (encMachine false m),.int .i64 t] (.tup [.agg (encMachine false (if (claimM m t).2 = 0 then claimM m t else (noMachine,2000)).1),.int .i64 (if (claimM m t).2 = 0 then claimM m t else (noMachine,2000)).2]) := by
 obtain ⟨hat,hup⟩ := hl
 obtain ⟨r,log,hi,hri,hj,hk,hlk,hrm,et,hlg,hown,hlog,hA,hF⟩ := wk h hat
 have h1 := hat.1
 have hc := h1.1
 have hn := h1.2.1
 have ht0 := hat.2.1
 have ht1 := hF.1.2.1
 rw [et] at hup
 have elk : lockAt m r.toNat log.toNat = m.replicas[r.toNat].locks[log.toNat] := by simp [lockAt,hri,hlk]
 rw [et] at hs
 have hs1 : ((1 : Int) == m.threads[t.toNat].step) = false ∧ ((2 : Int) == m.threads[t.toNat].step) = false ∧ ((3 : Int) == m.threads[t.toNat].step) = false := by refine ⟨?_, ?_, ?_⟩ <;> simp <;> omega
 refine PCall.ofZ (F := m31) rfl rfl rfl ?_
 simp -implicitDefEqProofs [m31]
 refine CallT.body (F := m42) rfl rfl rfl rfl ?_
 simp -implicitDefEqProofs [m42]
 refine CallT.bool2 (by simp) (c_boardThread m t h) (fun hb => ?_) (fun hb => absurd hat hb)
 simp -implicitDefEqProofs
 refine CallT.pure (c_cfgReplica m.config t ⟨hc,hat.2.1,hat.2.2⟩) (by simp) rfl ?_
 simp -implicitDefEqProofs [hF]
 refine CallT.pure (c_startCopy m h (whole_of h1)) (by simp) (ok_mach _) ?_
 simp -implicitDefEqProofs
 refine CallT.bodyQ (F := m71) rfl rfl rfl rfl rfl ?_
 simp -implicitDefEqProofs [m71,hF,sT,sP,sI,-List.map_set,hs1]
 refine CallT.bool2 (by simp [hF]) (c_updates m.threads[t.toNat].op) (fun hb2 => ?_) (fun hb2 => absurd hup hb2)
 simp -implicitDefEqProofs [hF,sT,sP,sI,-List.map_set,hs1]
 refine CallT.body (F := m72) rfl rfl rfl rfl ?_
 simp -implicitDefEqProofs [m72,hF,sT,sP,sI,-List.map_set,hs1]
 refine CallT.bodyQ (F := m71) rfl rfl rfl rfl rfl ?_
 have hs4 : ∀ (f : TV) (l : List (Int × TV)),([((4 : Int),f),(5,f),(6,f),(7,f)] ++ l).find? (fun p => p.1 == m.threads[t.toNat].step) = some (m.threads[t.toNat].step,f) := fun f l => by rcases hs with e | e | e | e <;> simp [e]
 simp only [List.cons_append,List.nil_append] at hs4
 simp -implicitDefEqProofs [m71,hs4,hF,sT,sP,sI,-List.map_set,hs1]
 refine CallT.body (F := m76) rfl rfl rfl rfl ?_
 simp -implicitDefEqProofs [m76,hF,sT,sP,sI,-List.map_set,hs1]
 refine x_claimDoes m t h hat _ (hrm ▸ ⟨by simp,by simp,by simp,by simp,by simp,by simp⟩) _ (fun he T1 hd => ?_) (fun he T1 => ?_)
 ·rw [if_pos he]
  generalize claimM m t = A at he hd ⊢
  obtain ⟨D,e0⟩ := A
  dsimp only at he hd ⊢
  subst he
  obtain ⟨⟨R1,L1,u1,v1,z1⟩,⟨R2,L2,u2,v2,z2⟩,⟨R3,L3,u3,v3,z3⟩,⟨q,n1,n2,n3,n4,u4,q1,q2,q3,u5⟩⟩ := hd
  have q1s := Ne.symm q1
  have q2s := Ne.symm q2
  have q3s := Ne.symm q3
  simp -implicitDefEqProofs [u1,u2,u3,u4,u5,v1,v2,v3,q1,q2,q3,q1s,q2s,q3s,unzT,unzP,okT,okP]
  exact ⟨⟨z1.1,z2.1,z3.1⟩,z1.2,z2.2,z3.2⟩
 ·rw [if_neg he]
  simp -implicitDefEqProofs [unzT,unzP,okT,okP]

set_option maxHeartbeats 4000000 in
theorem c_Upd_8 (m : Machine) (t : Int) (h : okM m) (hl : updP m t) (hs : (thrAt m t.toNat).step = 8) : PCall tab 31 [.agg (encMachine false m),.int .i64 t] (.tup [.agg (encMachine false (if (thrAt m t.toNat).seen + (thrAt m t.toNat).batch.length ≤ ownCur m t then stepM m t 9 else (oneM m (ownOf m t) (thrAt m t.toNat).log).1,(0 : Int)).1),.int .i64 (if (thrAt m t.toNat).seen + (thrAt m t.toNat).batch.length ≤ ownCur m t then stepM m t 9 else (oneM m (ownOf m t) (thrAt m t.toNat).log).1,(0 : Int)).2]) := by
 obtain ⟨hat,hup⟩ := hl
 obtain ⟨r,log,hi,hri,hj,hk,hlk,hrm,et,hlg,hown,hlog,hA,hF⟩ := wk h hat
 have h1 := hat.1
 have hc := h1.1
 have hn := h1.2.1
 have ht0 := hat.2.1
 have ht1 := hF.1.2.1
 rw [et] at hup
 have elk : lockAt m r.toNat log.toNat = m.replicas[r.toNat].locks[log.toNat] := by simp [lockAt,hri,hlk]
 rw [et] at hs
 have e1 : ((1 : Int) == m.threads[t.toNat].step) = false := by simp [hs]
 have e2 : ((2 : Int) == m.threads[t.toNat].step) = false := by simp [hs]
 have e3 : ((3 : Int) == m.threads[t.toNat].step) = false := by simp [hs]
 have e4 : ((4 : Int) == m.threads[t.toNat].step) = false := by simp [hs]
 have e5 : ((5 : Int) == m.threads[t.toNat].step) = false := by simp [hs]
 have e6 : ((6 : Int) == m.threads[t.toNat].step) = false := by simp [hs]
 have e7 : ((7 : Int) == m.threads[t.toNat].step) = false := by simp [hs]
 have e8 : ((8 : Int) == m.threads[t.toNat].step) = true := by simp [hs]
 have hth := (h1.2.2.2.2.1 _ (List.getElem_mem hi)).1
 simp only [atNums] at hth
 have w1 : IntKind.wrap .i64 (m.threads[t.toNat].seen + m.threads[t.toNat].batch.length) = m.threads[t.toNat].seen + m.threads[t.toNat].batch.length := wrap_of (by omega) (by have := hc.2.2.2.1; omega)
 rw [show ownCur m t = m.replicas[r.toNat].cursors[log.toNat] by unfold ownCur; rw [et,hlg,hrm]; exact curAt_of hA,et,hlg,hrm]
 refine PCall.ofZ (F := m31) rfl rfl rfl ?_
 simp -implicitDefEqProofs [m31]
 by_cases hf : m.threads[t.toNat].seen + m.threads[t.toNat].batch.length ≤ m.replicas[r.toNat].cursors[log.toNat]
 ·rw [if_pos hf,stepM_of hi]
  refine CallT.body (F := m42) rfl rfl rfl rfl ?_
  simp -implicitDefEqProofs [m42]
  refine CallT.bool2 (by simp) (c_boardThread m t h) (fun hb => ?_) (fun hb => absurd hat hb)
  simp -implicitDefEqProofs
  refine CallT.pure (c_cfgReplica m.config t ⟨hc,hat.2.1,hat.2.2⟩) (by simp) rfl ?_
  simp -implicitDefEqProofs [hF]
  refine CallT.pure (c_startCopy m h (whole_of h1)) (by simp) (ok_mach _) ?_
  simp -implicitDefEqProofs
  refine CallT.bodyQ (F := m71) rfl rfl rfl rfl rfl ?_
  simp -implicitDefEqProofs [m71,hF,sT,sP,sI,-List.map_set,e1,e2,e3,e4,e5,e6,e7,e8,w1,hf]
  refine CallT.bool2 (by simp [hF]) (c_updates m.threads[t.toNat].op) (fun hb2 => ?_) (fun hb2 => absurd hup hb2)
  simp -implicitDefEqProofs [hF,sT,sP,sI,-List.map_set,e1,e2,e3,e4,e5,e6,e7,e8,w1,hf]
  refine CallT.body (F := m72) rfl rfl rfl rfl ?_
  simp -implicitDefEqProofs [m72,hF,sT,sP,sI,-List.map_set,e1,e2,e3,e4,e5,e6,e7,e8,w1,hf]
  refine CallT.bodyQ (F := m71) rfl rfl rfl rfl rfl ?_
  simp -implicitDefEqProofs [m71,hF,sT,sP,sI,-List.map_set,e1,e2,e3,e4,e5,e6,e7,e8,w1,hf]
  refine CallT.body (F := m77) rfl rfl rfl rfl ?_
  simp -implicitDefEqProofs [m77,hF,sT,sP,sI,-List.map_set,e1,e2,e3,e4,e5,e6,e7,e8,w1,hf]
  refine CallT.bodyQ (F := m71) rfl rfl rfl rfl rfl ?_
  simp -implicitDefEqProofs [m71,hF,sT,sP,sI,-List.map_set,e1,e2,e3,e4,e5,e6,e7,e8,w1,hf]
  refine CallT.bodyQ (F := m113) rfl rfl rfl rfl rfl ?_
  simp -implicitDefEqProofs [m113,hF,sT,sP,sI,-List.map_set,e1,e2,e3,e4,e5,e6,e7,e8,w1,hf]
  refine CallT.bodyQ (F := m71) rfl rfl rfl rfl rfl ?_
  simp -implicitDefEqProofs [m71,hF,sT,sP,sI,-List.map_set,e1,e2,e3,e4,e5,e6,e7,e8,w1,hf]
  refine CallT.body (F := m110) rfl rfl rfl rfl ?_
  simp -implicitDefEqProofs [m110,hF,sT,sP,sI,-List.map_set,e1,e2,e3,e4,e5,e6,e7,e8,w1,hf]
  refine CallT.bodyQ (F := m71) rfl rfl rfl rfl rfl ?_
  simp -implicitDefEqProofs [m71,hF,sT,sP,sI,-List.map_set,e1,e2,e3,e4,e5,e6,e7,e8,w1,hf]
  simp -implicitDefEqProofs [unzT,unzP,okT,okP,hF,sT,sP,sI,-List.map_set,e1,e2,e3,e4,e5,e6,e7,e8,w1,hf]
 ·rw [if_neg hf]
  refine CallT.body (F := m42) rfl rfl rfl rfl ?_
  simp -implicitDefEqProofs [m42]
  refine CallT.bool2 (by simp) (c_boardThread m t h) (fun hb => ?_) (fun hb => absurd hat hb)
  simp -implicitDefEqProofs
  refine CallT.pure (c_cfgReplica m.config t ⟨hc,hat.2.1,hat.2.2⟩) (by simp) rfl ?_
  simp -implicitDefEqProofs [hF]
  refine CallT.pure (c_startCopy m h (whole_of h1)) (by simp) (ok_mach _) ?_
  simp -implicitDefEqProofs
  refine CallT.bodyQ (F := m71) rfl rfl rfl rfl rfl ?_
  simp -implicitDefEqProofs [m71,hF,sT,sP,sI,-List.map_set,e1,e2,e3,e4,e5,e6,e7,e8,w1,hf]
  refine CallT.bool2 (by simp [hF]) (c_updates m.threads[t.toNat].op) (fun hb2 => ?_) (fun hb2 => absurd hup hb2)
  simp -implicitDefEqProofs [hF,sT,sP,sI,-List.map_set,e1,e2,e3,e4,e5,e6,e7,e8,w1,hf]
  refine CallT.body (F := m72) rfl rfl rfl rfl ?_
  simp -implicitDefEqProofs [m72,hF,sT,sP,sI,-List.map_set,e1,e2,e3,e4,e5,e6,e7,e8,w1,hf]
  refine CallT.bodyQ (F := m71) rfl rfl rfl rfl rfl ?_
  simp -implicitDefEqProofs [m71,hF,sT,sP,sI,-List.map_set,e1,e2,e3,e4,e5,e6,e7,e8,w1,hf]
  refine CallT.body (F := m77) rfl rfl rfl rfl ?_
  simp -implicitDefEqProofs [m77,hF,sT,sP,sI,-List.map_set,e1,e2,e3,e4,e5,e6,e7,e8,w1,hf]
  refine CallT.bodyQ (F := m71) rfl rfl rfl rfl rfl ?_
  simp -implicitDefEqProofs [m71,hF,sT,sP,sI,-List.map_set,e1,e2,e3,e4,e5,e6,e7,e8,w1,hf]
  refine CallT.bodyQ (F := m113) rfl rfl rfl rfl rfl ?_
  simp -implicitDefEqProofs [m113,hF,sT,sP,sI,-List.map_set,e1,e2,e3,e4,e5,e6,e7,e8,w1,hf]
  refine CallT.bodyQ (F := m71) rfl rfl rfl rfl rfl ?_
  simp -implicitDefEqProofs [m71,hF,sT,sP,sI,-List.map_set,e1,e2,e3,e4,e5,e6,e7,e8,w1,hf]
  refine CallT.body (F := m114) rfl rfl rfl rfl ?_
  simp -implicitDefEqProofs [m114,hF,sT,sP,sI,-List.map_set,e1,e2,e3,e4,e5,e6,e7,e8,w1,hf]
  refine CallT.bodyQ (F := m71) rfl rfl rfl rfl rfl ?_
  simp -implicitDefEqProofs [m71,hF,sT,sP,sI,-List.map_set,e1,e2,e3,e4,e5,e6,e7,e8,w1,hf]
  refine x_Next m r log t r h ⟨h1,hown,hlog⟩ _ ⟨by simp,by simp,by simp,by simp,by simp,by simp⟩ _ (fun b T1 hd => ?_)
  obtain ⟨⟨R1,L1,u1,v1,z1⟩,⟨R2,L2,u2,v2,z2⟩,⟨R3,L3,u3,v3,z3⟩,⟨q,n1,n2,n3,n4,u4,q1,q2,q3,u5⟩⟩ := hd
  have q1s := Ne.symm q1
  have q2s := Ne.symm q2
  have q3s := Ne.symm q3
  simp -implicitDefEqProofs [u1,u2,u3,u4,u5,v1,v2,v3,q1,q2,q3,q1s,q2s,q3s,unzT,unzP,okT,okP]
  exact ⟨⟨z1.1,z2.1,z3.1⟩,z1.2,z2.2,z3.2⟩

set_option maxHeartbeats 4000000 in
theorem c_Upd_9 (m : Machine) (t : Int) (h : okM m) (hl : updP m t) (hs : (thrAt m t.toNat).step = 9) : PCall tab 31 [.agg (encMachine false m),.int .i64 t] (.tup [.agg (encMachine true (setThread (setLock m (ownOf m t).toNat (thrAt m t.toNat).log.toNat 0) t.toNat fun y => { y with batch := [],at_ := 0,step := 10 },(0 : Int)).1),.int .i64 (setThread (setLock m (ownOf m t).toNat (thrAt m t.toNat).log.toNat 0) t.toNat fun y => { y with batch := [],at_ := 0,step := 10 },(0 : Int)).2]) := by
 obtain ⟨hat,hup⟩ := hl
 obtain ⟨r,log,hi,hri,hj,hk,hlk,hrm,et,hlg,hown,hlog,hA,hF⟩ := wk h hat
 have h1 := hat.1
 have hc := h1.1
 have hn := h1.2.1
 have ht0 := hat.2.1
 have ht1 := hF.1.2.1
 rw [et] at hup
 have elk : lockAt m r.toNat log.toNat = m.replicas[r.toNat].locks[log.toNat] := by simp [lockAt,hri,hlk]
 rw [et] at hs
 have e1 : ((1 : Int) == m.threads[t.toNat].step) = false := by simp [hs]
 have e2 : ((2 : Int) == m.threads[t.toNat].step) = false := by simp [hs]
 have e3 : ((3 : Int) == m.threads[t.toNat].step) = false := by simp [hs]
 have e4 : ((4 : Int) == m.threads[t.toNat].step) = false := by simp [hs]
 have e5 : ((5 : Int) == m.threads[t.toNat].step) = false := by simp [hs]
 have e6 : ((6 : Int) == m.threads[t.toNat].step) = false := by simp [hs]
 have e7 : ((7 : Int) == m.threads[t.toNat].step) = false := by simp [hs]
 have e8 : ((8 : Int) == m.threads[t.toNat].step) = false := by simp [hs]
 have e9 : ((9 : Int) == m.threads[t.toNat].step) = true := by simp [hs]
 rw [et,hlg,hrm,thrLock9 hi,setLock_of hri]
 refine PCall.of (F := m31) rfl rfl rfl (ok_mach1 _ _) ?_
 simp -implicitDefEqProofs [m31]
 refine CallT.body (F := m42) rfl rfl rfl rfl ?_
 simp -implicitDefEqProofs [m42]
 refine CallT.bool2 (by simp) (c_boardThread m t h) (fun hb => ?_) (fun hb => absurd hat hb)
 simp -implicitDefEqProofs
 refine CallT.pure (c_cfgReplica m.config t ⟨hc,hat.2.1,hat.2.2⟩) (by simp) rfl ?_
 simp -implicitDefEqProofs [hF]
 refine CallT.pure (c_startCopy m h (whole_of h1)) (by simp) (ok_mach _) ?_
 simp -implicitDefEqProofs
 refine CallT.bodyQ (F := m71) rfl rfl rfl rfl rfl ?_
 simp -implicitDefEqProofs [m71,hF,sT,sP,sI,-List.map_set,e1,e2,e3,e4,e5,e6,e7,e8,e9]
 refine CallT.bool2 (by simp [hF]) (c_updates m.threads[t.toNat].op) (fun hb2 => ?_) (fun hb2 => absurd hup hb2)
 simp -implicitDefEqProofs [hF,sT,sP,sI,-List.map_set,e1,e2,e3,e4,e5,e6,e7,e8,e9]
 refine CallT.body (F := m72) rfl rfl rfl rfl ?_
 simp -implicitDefEqProofs [m72,hF,sT,sP,sI,-List.map_set,e1,e2,e3,e4,e5,e6,e7,e8,e9]
 refine CallT.bodyQ (F := m71) rfl rfl rfl rfl rfl ?_
 simp -implicitDefEqProofs [m71,hF,sT,sP,sI,-List.map_set,e1,e2,e3,e4,e5,e6,e7,e8,e9]
 refine CallT.body (F := m78) rfl rfl rfl rfl ?_
 simp -implicitDefEqProofs [m78,hF,sT,sP,sI,-List.map_set,e1,e2,e3,e4,e5,e6,e7,e8,e9]
 refine CallT.body (F := m115) rfl rfl rfl rfl ?_
 simp -implicitDefEqProofs [m115,hF,sT,sP,sI,-List.map_set,e1,e2,e3,e4,e5,e6,e7,e8,e9]
 refine CallT.bodyQ (F := m71) rfl rfl rfl rfl rfl ?_
 simp -implicitDefEqProofs [m71,hF,sT,sP,sI,-List.map_set,e1,e2,e3,e4,e5,e6,e7,e8,e9]
 refine CallT.body (F := m141) rfl rfl rfl rfl ?_
 simp -implicitDefEqProofs [m141,hF,sT,sP,sI,-List.map_set,e1,e2,e3,e4,e5,e6,e7,e8,e9]
 refine CallT.bodyQ (F := m71) rfl rfl rfl rfl rfl ?_
 simp -implicitDefEqProofs [m71,hF,sT,sP,sI,-List.map_set,e1,e2,e3,e4,e5,e6,e7,e8,e9]
 all_goals simp [encThread]

set_option maxHeartbeats 4000000 in
theorem c_Upd_10 (m : Machine) (t : Int) (h : okM m) (hl : updP m t) (hs : (thrAt m t.toNat).step = 10) : PCall tab 31 [.agg (encMachine false m),.int .i64 t] (.tup [.agg (encMachine true (if (thrAt m t.toNat).ready = true then finishM m t 2000 else (stepM m t 2,0)).1),.int .i64 (if (thrAt m t.toNat).ready = true then finishM m t 2000 else (stepM m t 2,0)).2]) := by
 obtain ⟨hat,hup⟩ := hl
 obtain ⟨r,log,hi,hri,hj,hk,hlk,hrm,et,hlg,hown,hlog,hA,hF⟩ := wk h hat
 have h1 := hat.1
 have hc := h1.1
 have hn := h1.2.1
 have ht0 := hat.2.1
 have ht1 := hF.1.2.1
 rw [et] at hup
 have elk : lockAt m r.toNat log.toNat = m.replicas[r.toNat].locks[log.toNat] := by simp [lockAt,hri,hlk]
 rw [et] at hs
 have e1 : ((1 : Int) == m.threads[t.toNat].step) = false := by simp [hs]
 have e2 : ((2 : Int) == m.threads[t.toNat].step) = false := by simp [hs]
 have e3 : ((3 : Int) == m.threads[t.toNat].step) = false := by simp [hs]
 have e4 : ((4 : Int) == m.threads[t.toNat].step) = false := by simp [hs]
 have e5 : ((5 : Int) == m.threads[t.toNat].step) = false := by simp [hs]
 have e6 : ((6 : Int) == m.threads[t.toNat].step) = false := by simp [hs]
 have e7 : ((7 : Int) == m.threads[t.toNat].step) = false := by simp [hs]
 have e8 : ((8 : Int) == m.threads[t.toNat].step) = false := by simp [hs]
 have e9 : ((9 : Int) == m.threads[t.toNat].step) = false := by simp [hs]
 have e10 : ((10 : Int) == m.threads[t.toNat].step) = true := by simp [hs]
 rw [et]
 refine PCall.of (F := m31) rfl rfl rfl (ok_mach1 _ _) ?_
 simp -implicitDefEqProofs [m31]
 by_cases hr : m.threads[t.toNat].ready = true
 ·rw [if_pos hr]
  by_cases hh : 64 ≤ m.history.length
  ·have hh2 : (64 : Int) ≤ m.history.length := by omega
   rw [show finishM m t 2000 = (noMachine,2000) from if_pos hh]
   refine CallT.body (F := m42) rfl rfl rfl rfl ?_
   simp -implicitDefEqProofs [m42]
   refine CallT.bool2 (by simp) (c_boardThread m t h) (fun hb => ?_) (fun hb => absurd hat hb)
   simp -implicitDefEqProofs
   refine CallT.pure (c_cfgReplica m.config t ⟨hc,hat.2.1,hat.2.2⟩) (by simp) rfl ?_
   simp -implicitDefEqProofs [hF]
   refine CallT.pure (c_startCopy m h (whole_of h1)) (by simp) (ok_mach _) ?_
   simp -implicitDefEqProofs
   refine CallT.bodyQ (F := m71) rfl rfl rfl rfl rfl ?_
   simp -implicitDefEqProofs [m71,hF,sT,sP,sI,-List.map_set,e1,e2,e3,e4,e5,e6,e7,e8,e9,e10,hr]
   refine CallT.bool2 (by simp [hF]) (c_updates m.threads[t.toNat].op) (fun hb2 => ?_) (fun hb2 => absurd hup hb2)
   simp -implicitDefEqProofs [hF,sT,sP,sI,-List.map_set,e1,e2,e3,e4,e5,e6,e7,e8,e9,e10,hr]
   refine CallT.body (F := m72) rfl rfl rfl rfl ?_
   simp -implicitDefEqProofs [m72,hF,sT,sP,sI,-List.map_set,e1,e2,e3,e4,e5,e6,e7,e8,e9,e10,hr]
   refine CallT.bodyQ (F := m71) rfl rfl rfl rfl rfl ?_
   simp -implicitDefEqProofs [m71,hF,sT,sP,sI,-List.map_set,e1,e2,e3,e4,e5,e6,e7,e8,e9,e10,hr]
   refine CallT.body (F := m79) rfl rfl rfl rfl ?_
   simp -implicitDefEqProofs [m79,hF,sT,sP,sI,-List.map_set,e1,e2,e3,e4,e5,e6,e7,e8,e9,e10,hr]
   refine CallT.bodyQ (F := m71) rfl rfl rfl rfl rfl ?_
   simp -implicitDefEqProofs [m71,hF,sT,sP,sI,-List.map_set,e1,e2,e3,e4,e5,e6,e7,e8,e9,e10,hr]
   refine CallT.body (F := m116) rfl rfl rfl rfl ?_
   simp -implicitDefEqProofs [m116,hF,sT,sP,sI,-List.map_set,e1,e2,e3,e4,e5,e6,e7,e8,e9,e10,hr]
   simp -implicitDefEqProofs [hh2,hF,sT,sP,sI,-List.map_set,e1,e2,e3,e4,e5,e6,e7,e8,e9,e10,hr]
  ·have hh2 : ¬ (64 : Int) ≤ m.history.length := by omega
   have hb48 : (m.history.length + 1) * 48 ≤ 140737488355328 := by omega
   rw [show finishM m t 2000 = (doneM m t,0) from if_neg hh,doneM_of hi]
   refine CallT.body (F := m42) rfl rfl rfl rfl ?_
   simp -implicitDefEqProofs [m42]
   refine CallT.bool2 (by simp) (c_boardThread m t h) (fun hb => ?_) (fun hb => absurd hat hb)
   simp -implicitDefEqProofs
   refine CallT.pure (c_cfgReplica m.config t ⟨hc,hat.2.1,hat.2.2⟩) (by simp) rfl ?_
   simp -implicitDefEqProofs [hF]
   refine CallT.pure (c_startCopy m h (whole_of h1)) (by simp) (ok_mach _) ?_
   simp -implicitDefEqProofs
   refine CallT.bodyQ (F := m71) rfl rfl rfl rfl rfl ?_
   simp -implicitDefEqProofs [m71,hF,sT,sP,sI,-List.map_set,e1,e2,e3,e4,e5,e6,e7,e8,e9,e10,hr]
   refine CallT.bool2 (by simp [hF]) (c_updates m.threads[t.toNat].op) (fun hb2 => ?_) (fun hb2 => absurd hup hb2)
   simp -implicitDefEqProofs [hF,sT,sP,sI,-List.map_set,e1,e2,e3,e4,e5,e6,e7,e8,e9,e10,hr]
   refine CallT.body (F := m72) rfl rfl rfl rfl ?_
   simp -implicitDefEqProofs [m72,hF,sT,sP,sI,-List.map_set,e1,e2,e3,e4,e5,e6,e7,e8,e9,e10,hr]
   refine CallT.bodyQ (F := m71) rfl rfl rfl rfl rfl ?_
   simp -implicitDefEqProofs [m71,hF,sT,sP,sI,-List.map_set,e1,e2,e3,e4,e5,e6,e7,e8,e9,e10,hr]
   refine CallT.body (F := m79) rfl rfl rfl rfl ?_
   simp -implicitDefEqProofs [m79,hF,sT,sP,sI,-List.map_set,e1,e2,e3,e4,e5,e6,e7,e8,e9,e10,hr]
   refine CallT.bodyQ (F := m71) rfl rfl rfl rfl rfl ?_
   simp -implicitDefEqProofs [m71,hF,sT,sP,sI,-List.map_set,e1,e2,e3,e4,e5,e6,e7,e8,e9,e10,hr]
   refine CallT.body (F := m116) rfl rfl rfl rfl ?_
   simp -implicitDefEqProofs [m116,hF,sT,sP,sI,-List.map_set,e1,e2,e3,e4,e5,e6,e7,e8,e9,e10,hr]
   simp -implicitDefEqProofs [hh2,hF,sT,sP,sI,-List.map_set,e1,e2,e3,e4,e5,e6,e7,e8,e9,e10,hr]
   refine CallT.bodyQ (F := m71) rfl rfl rfl rfl rfl ?_
   simp -implicitDefEqProofs [m71,hF,sT,sP,sI,-List.map_set,e1,e2,e3,e4,e5,e6,e7,e8,e9,e10,hr]
   simp -implicitDefEqProofs [hh2,hb48,hF,sT,sP,sI,-List.map_set,e1,e2,e3,e4,e5,e6,e7,e8,e9,e10,hr]
   simp [encThread]
 ·have hr2 : m.threads[t.toNat].ready = false := by simpa using hr
  rw [if_neg hr,stepM_of hi]
  refine CallT.body (F := m42) rfl rfl rfl rfl ?_
  simp -implicitDefEqProofs [m42]
  refine CallT.bool2 (by simp) (c_boardThread m t h) (fun hb => ?_) (fun hb => absurd hat hb)
  simp -implicitDefEqProofs
  refine CallT.pure (c_cfgReplica m.config t ⟨hc,hat.2.1,hat.2.2⟩) (by simp) rfl ?_
  simp -implicitDefEqProofs [hF]
  refine CallT.pure (c_startCopy m h (whole_of h1)) (by simp) (ok_mach _) ?_
  simp -implicitDefEqProofs
  refine CallT.bodyQ (F := m71) rfl rfl rfl rfl rfl ?_
  simp -implicitDefEqProofs [m71,hF,sT,sP,sI,-List.map_set,e1,e2,e3,e4,e5,e6,e7,e8,e9,e10,hr2]
  refine CallT.bool2 (by simp [hF]) (c_updates m.threads[t.toNat].op) (fun hb2 => ?_) (fun hb2 => absurd hup hb2)
  simp -implicitDefEqProofs [hF,sT,sP,sI,-List.map_set,e1,e2,e3,e4,e5,e6,e7,e8,e9,e10,hr2]
  refine CallT.body (F := m72) rfl rfl rfl rfl ?_
  simp -implicitDefEqProofs [m72,hF,sT,sP,sI,-List.map_set,e1,e2,e3,e4,e5,e6,e7,e8,e9,e10,hr2]
  refine CallT.bodyQ (F := m71) rfl rfl rfl rfl rfl ?_
  simp -implicitDefEqProofs [m71,hF,sT,sP,sI,-List.map_set,e1,e2,e3,e4,e5,e6,e7,e8,e9,e10,hr2]
  refine CallT.body (F := m79) rfl rfl rfl rfl ?_
  simp -implicitDefEqProofs [m79,hF,sT,sP,sI,-List.map_set,e1,e2,e3,e4,e5,e6,e7,e8,e9,e10,hr2]
  refine CallT.bodyQ (F := m71) rfl rfl rfl rfl rfl ?_
  simp -implicitDefEqProofs [m71,hF,sT,sP,sI,-List.map_set,e1,e2,e3,e4,e5,e6,e7,e8,e9,e10,hr2]
  refine CallT.body (F := m110) rfl rfl rfl rfl ?_
  simp -implicitDefEqProofs [m110,hF,sT,sP,sI,-List.map_set,e1,e2,e3,e4,e5,e6,e7,e8,e9,e10,hr2]
  refine CallT.bodyQ (F := m71) rfl rfl rfl rfl rfl ?_
  simp -implicitDefEqProofs [m71,hF,sT,sP,sI,-List.map_set,e1,e2,e3,e4,e5,e6,e7,e8,e9,e10,hr2]

set_option maxHeartbeats 4000000 in
theorem c_Upd_no (m : Machine) (t : Int) (h : okM m) (hl : updP m t) (s1 : ¬ (thrAt m t.toNat).step = 1) (s2 : ¬ (thrAt m t.toNat).step = 2) (s3 : ¬ (thrAt m t.toNat).step = 3) (s4 : ¬ (thrAt m t.toNat).step = 4) (s5 : ¬ (thrAt m t.toNat).step = 5) (s6 : ¬ (thrAt m t.toNat).step = 6) (s7 : ¬ (thrAt m t.toNat).step = 7) (s8 : ¬ (thrAt m t.toNat).step = 8) (s9 : ¬ (thrAt m t.toNat).step = 9) (s10 : ¬ (thrAt m t.toNat).step = 10) : PCall tab 31 [.agg (encMachine false m),.int .i64 t] (.tup [.agg (encMachine true ((noMachine,2000) : Machine × Int).1),.int .i64 ((noMachine,2000) : Machine × Int).2]) := by
 obtain ⟨hat,hup⟩ := hl
 obtain ⟨r,log,hi,hri,hj,hk,hlk,hrm,et,hlg,hown,hlog,hA,hF⟩ := wk h hat
 have h1 := hat.1
 have hc := h1.1
 have hn := h1.2.1
 have ht0 := hat.2.1
 have ht1 := hF.1.2.1
 rw [et] at hup
 have elk : lockAt m r.toNat log.toNat = m.replicas[r.toNat].locks[log.toNat] := by simp [lockAt,hri,hlk]
 rw [et] at s1 s2 s3 s4 s5 s6 s7 s8 s9 s10
 have e1 : ((1 : Int) == m.threads[t.toNat].step) = false := by simp; omega
 have e2 : ((2 : Int) == m.threads[t.toNat].step) = false := by simp; omega
 have e3 : ((3 : Int) == m.threads[t.toNat].step) = false := by simp; omega
 have e4 : ((4 : Int) == m.threads[t.toNat].step) = false := by simp; omega
 have e5 : ((5 : Int) == m.threads[t.toNat].step) = false := by simp; omega
 have e6 : ((6 : Int) == m.threads[t.toNat].step) = false := by simp; omega
 have e7 : ((7 : Int) == m.threads[t.toNat].step) = false := by simp; omega
 have e8 : ((8 : Int) == m.threads[t.toNat].step) = false := by simp; omega
 have e9 : ((9 : Int) == m.threads[t.toNat].step) = false := by simp; omega
 have e10 : ((10 : Int) == m.threads[t.toNat].step) = false := by simp; omega
 refine PCall.of (F := m31) rfl rfl rfl (ok_mach1 _ _) ?_
 simp -implicitDefEqProofs [m31]
 refine CallT.body (F := m42) rfl rfl rfl rfl ?_
 simp -implicitDefEqProofs [m42]
 refine CallT.bool2 (by simp) (c_boardThread m t h) (fun hb => ?_) (fun hb => absurd hat hb)
 simp -implicitDefEqProofs
 refine CallT.pure (c_cfgReplica m.config t ⟨hc,hat.2.1,hat.2.2⟩) (by simp) rfl ?_
 simp -implicitDefEqProofs [hF]
 refine CallT.pure (c_startCopy m h (whole_of h1)) (by simp) (ok_mach _) ?_
 simp -implicitDefEqProofs
 refine CallT.bodyQ (F := m71) rfl rfl rfl rfl rfl ?_
 simp -implicitDefEqProofs [m71,hF,sT,sP,sI,-List.map_set,e1,e2,e3,e4,e5,e6,e7,e8,e9,e10]
 refine CallT.bool2 (by simp [hF]) (c_updates m.threads[t.toNat].op) (fun hb2 => ?_) (fun hb2 => absurd hup hb2)
 simp -implicitDefEqProofs [hF,sT,sP,sI,-List.map_set,e1,e2,e3,e4,e5,e6,e7,e8,e9,e10]
 refine CallT.body (F := m72) rfl rfl rfl rfl ?_
 simp -implicitDefEqProofs [m72,hF,sT,sP,sI,-List.map_set,e1,e2,e3,e4,e5,e6,e7,e8,e9,e10]
 refine CallT.bodyQ (F := m71) rfl rfl rfl rfl rfl ?_
 simp -implicitDefEqProofs [m71,hF,sT,sP,sI,-List.map_set,e1,e2,e3,e4,e5,e6,e7,e8,e9,e10]

theorem c_UpdateStep (m : Machine) (t : Int) (h : okM m) : PCall tab 31 [.agg (encMachine false m),.int .i64 t] (.tup [.agg (encMachine false (updM m t).1),.int .i64 (updM m t).2]) := by
 by_cases hl : updP m t
 ·rw [updM_yes hl]
  by_cases s1 : (thrAt m t.toNat).step = 1
  ·rw [s1]; exact (c_Upd_1 m t h hl s1).mach1Z
  by_cases s2 : (thrAt m t.toNat).step = 2
  ·rw [s2]; exact (c_Upd_2 m t h hl s2).mach1Z
  by_cases s3 : (thrAt m t.toNat).step = 3
  ·rw [s3]; exact c_Upd_3 m t h hl s3
  by_cases s4 : (thrAt m t.toNat).step = 4
  ·rw [s4]; exact c_Upd_c m t h hl (by omega)
  by_cases s5 : (thrAt m t.toNat).step = 5
  ·rw [s5]; exact c_Upd_c m t h hl (by omega)
  by_cases s6 : (thrAt m t.toNat).step = 6
  ·rw [s6]; exact c_Upd_c m t h hl (by omega)
  by_cases s7 : (thrAt m t.toNat).step = 7
  ·rw [s7]; exact c_Upd_c m t h hl (by omega)
  by_cases s8 : (thrAt m t.toNat).step = 8
  ·rw [s8]; exact c_Upd_8 m t h hl s8
  by_cases s9 : (thrAt m t.toNat).step = 9
  ·rw [s9]; exact (c_Upd_9 m t h hl s9).mach1Z
  by_cases s10 : (thrAt m t.toNat).step = 10
  ·rw [s10]; exact (c_Upd_10 m t h hl s10).mach1Z
  rw [show updX m t (thrAt m t.toNat) (ownCur m t) (ownLock m t) (thrAt m t.toNat).step = (noMachine,2000) by simp [updX,s1,s2,s3,s4,s5,s6,s7,s8,s9,s10]]
  exact (c_Upd_no m t h hl s1 s2 s3 s4 s5 s6 s7 s8 s9 s10).mach1Z
 ·rw [updM_no hl]
  refine PCall.mach1Z ?_
  by_cases hat : atP m t
  ·obtain ⟨r,log,hi,hri,hj,hk,hlk,hrm,et,hlg,hown,hlog,hA,hF⟩ := wk h hat
   have hc := hat.1.1
   have h1 := hat.1
   have hup : ¬ updates m.threads[t.toNat].op := fun e => hl ⟨hat,by rw [et]; exact e⟩
   refine PCall.of (F := m31) rfl rfl rfl (ok_mach1 _ _) ?_
   simp -implicitDefEqProofs [m31]
   refine CallT.body (F := m42) rfl rfl rfl rfl ?_
   simp -implicitDefEqProofs [m42]
   refine CallT.bool2 (by simp) (c_boardThread m t h) (fun hb => ?_) (fun hb => absurd hat hb)
   simp -implicitDefEqProofs
   refine CallT.pure (c_cfgReplica m.config t ⟨hc,hat.2.1,hat.2.2⟩) (by simp) rfl ?_
   simp -implicitDefEqProofs [hF]
   refine CallT.pure (c_startCopy m h (whole_of h1)) (by simp) (ok_mach _) ?_
   simp -implicitDefEqProofs
   refine CallT.bodyQ (F := m71) rfl rfl rfl rfl rfl ?_
   simp -implicitDefEqProofs [m71,hF,sT,sP,sI,-List.map_set]
   refine CallT.bool2 (by simp [hF]) (c_updates m.threads[t.toNat].op) (fun hb2 => absurd hb2 hup) (fun hb2 => ?_)
   simp -implicitDefEqProofs
  ·refine PCall.of (F := m31) rfl rfl rfl (ok_mach1 _ _) ?_
   simp -implicitDefEqProofs [m31]
   refine CallT.body (F := m42) rfl rfl rfl rfl ?_
   simp -implicitDefEqProofs [m42]
   refine CallT.bool2 (by simp) (c_boardThread m t h) (fun hb => absurd hb hat) (fun hb => ?_)
   simp -implicitDefEqProofs

end Go.Ab

namespace Go.Ab


end Go.Ab

namespace Go.Ab

theorem c_awake20 : PCall tab 33 [] (.bool true) := PCall.closed 60 rfl rfl rfl (by kernel_rfl)

end Go.Ab

namespace Go.Ab

end Go.Ab

namespace Go.Ab

theorem thr_set20 {m : Machine} {t : Nat} (f : Thread → Thread) (hi : t < m.threads.length) : ∃ h : t < (setThread m t f).threads.length,(setThread m t f).threads[t] = f m.threads[t] := by
 have e := setThread_of hi f
 rw [e]
 exact ⟨by simpa using hi,by simp⟩
theorem thr_one20 {m : Machine} {r g : Int} (h : thereP m r g) {t : Nat} (hi : t < m.threads.length) : ∃ h : t < (oneM m r g).1.threads.length,((oneM m r g).1.threads[t]).step = m.threads[t].step := by
 rw [oneM_yes h]
 split
 ·unfold nextM
  dsimp only
  split
  ·refine ⟨by simpa using hi, ?_⟩
   simp only [List.getElem_modify]
   split <;> rfl
  ·exact ⟨hi,rfl⟩
 ·exact ⟨hi,rfl⟩

/-- the steps that may follow an update's step -/
def updRel (a b : Int) : Prop := (a = 1 ∧ b = 2) ∨ (a = 2 ∧ (b = 3 ∨ b = 10)) ∨ (a = 3 ∧ (b = 4 ∨ b = 9)) ∨ (a = 4 ∧ (b = 4 ∨ b = 5 ∨ b = 6)) ∨ (a = 5 ∧ (b = 5 ∨ b = 4)) ∨ (a = 6 ∧ (b = 7 ∨ b = 4)) ∨ (a = 7 ∧ (b = 7 ∨ b = 8)) ∨ (a = 8 ∧ (b = 8 ∨ b = 9)) ∨ (a = 9 ∧ b = 10) ∨ (a = 10 ∧ (b = 2 ∨ b = 0))
structure UpdOK (m : Machine) (t : Int) (D : Machine) : Prop where
 p : updP m t
 step : ∃ (h1 : t.toNat < m.threads.length) (h2 : t.toNat < D.threads.length),updRel m.threads[t.toNat].step D.threads[t.toNat].step ∧ (m.threads[t.toNat].step = 10 → D.threads[t.toNat].step = 0 → D.history.length = m.history.length + 1)

/-- a claimer's steps: where they lead -/
theorem claim_to {m : Machine} {t : Int} (hl : claimP m t) (he : (claimM m t).2 = 0) : ∃ (h1 : t.toNat < m.threads.length) (h2 : t.toNat < (claimM m t).1.threads.length), updRel m.threads[t.toNat].step ((claimM m t).1.threads[t.toNat]).step ∧ m.threads[t.toNat].step ≠ 10 := by
  obtain ⟨hi, ht0, ht1, hlog, hown⟩ := at_thr hl.1
  have et := thrAt_of hi
  have ht : ∀ w : Nat, (w : Int) < m.replicas.length → thereP m w (thrAt m t.toNat).log := fun w hw => ⟨hl.1.1, ⟨by omega, hw⟩, by rw [et]; exact hlog⟩
  have hto : thereP m (ownOf m t) (thrAt m t.toNat).log := ⟨hl.1.1, hown, by rw [et]; exact hlog⟩
  revert he
  rw [claimM_yes hl]
  generalize hs : (thrAt m t.toNat).step = s
  rw [et] at hs
  have st : ∀ (D : Machine) (f : Thread → Thread), D.threads = (setThread m t.toNat f).threads → updRel s (f m.threads[t.toNat]).step → s ≠ 10 → ∃ (h1 : t.toNat < m.threads.length) (h2 : t.toNat < D.threads.length), updRel m.threads[t.toNat].step (D.threads[t.toNat]).step ∧ m.threads[t.toNat].step ≠ 10 := fun D f hD hr hn => by
    obtain ⟨k1, k2⟩ := thr_set20 f hi
    have k3 : t.toNat < D.threads.length := by rw [hD]; exact k1
    have k4 : D.threads[t.toNat] = f m.threads[t.toNat] := by simp only [hD]; exact k2
    exact ⟨hi, k3, by rw [k4, hs]; exact hr, by rw [hs]; exact hn⟩
  have one : ∀ w, thereP m w (thrAt m t.toNat).log → updRel s s → s ≠ 10 → ∃ (h1 : t.toNat < m.threads.length) (h2 : t.toNat < (oneM m w (thrAt m t.toNat).log).1.threads.length), updRel m.threads[t.toNat].step (((oneM m w (thrAt m t.toNat).log).1.threads[t.toNat])).step ∧ m.threads[t.toNat].step ≠ 10 := fun w hw hr hn => by
    obtain ⟨k1, k2⟩ := thr_one20 hw hi
    exact ⟨hi, k1, by rw [k2, hs]; exact hr, by rw [hs]; exact hn⟩
  unfold claimX
  by_cases s4 : s = 4
  · rw [if_pos s4]; intro _
    unfold loadX
    split
    · exact one _ hto (by unfold updRel; omega) (by omega)
    · exact st _ _ rfl (by dsimp only; unfold updRel; split <;> omega) (by omega)
  rw [if_neg s4]
  by_cases s5 : s = 5
  · rw [if_pos s5]; intro _
    dsimp only
    unfold spaceM spaceW
    split
    · exact st _ (fun x => { x with step := 4 }) rfl (by dsimp only; unfold updRel; omega) (by omega)
    · split
      · refine one _ (ht _ ?_) (by unfold updRel; omega) (by omega)
        have hn := hl.1.1.2.1
        simp only [macNums] at hn
        have := hl.1.1.1.2.1
        unfold leastR; split
        · rename_i h2; have := h2.1; dsimp only; omega
        · dsimp only; omega
      · exact ⟨hi, hi, by rw [hs]; unfold updRel; omega, by rw [hs]; omega⟩
  rw [if_neg s5]
  by_cases s6 : s = 6
  · rw [if_pos s6]; intro _
    unfold reserveX
    split
    · exact st _ (fun x => { x with step := 4 }) rfl (by dsimp only; unfold updRel; omega) (by omega)
    · exact st _ (fun y => { y with step := 7, at_ := 0 }) rfl (by dsimp only; unfold updRel; omega) (by omega)
  rw [if_neg s6]
  by_cases s7 : s = 7
  · rw [if_pos s7]
    unfold publishX
    split
    · intro he; exact absurd he (by decide)
    · split
      · intro he; exact absurd he (by decide)
      · intro _
        refine st _ (fun y => { y with at_ := (thrAt m t.toNat).at_ + 1, step := if (thrAt m t.toNat).at_ + 1 = (thrAt m t.toNat).batch.length then 8 else y.step }) rfl ?_ (by omega)
        dsimp only
        rw [hs]
        unfold updRel
        split <;> omega
  rw [if_neg s7]
  intro he; exact absurd he (by decide)

theorem upd_ok (m : Machine) (t : Int) : ((updM m t).2 = 0 ∧ UpdOK m t (updM m t).1) ∨ (updM m t).1 = noMachine ∧ (updM m t).2 ≠ 0 := by
 by_cases hl : updP m t
 ·rw [updM_yes hl]
  obtain ⟨hi,ht0,ht1,hlog,hown⟩ := at_thr hl.1
  have et := thrAt_of hi
  have ht : thereP m (ownOf m t) (thrAt m t.toNat).log := ⟨hl.1.1,hown,by rw [et]; exact hlog⟩
  generalize hs : (thrAt m t.toNat).step = s
  rw [et] at hs
  have st : ∀ (D : Machine) (f : Thread → Thread),D.threads = (setThread m t.toNat f).threads → updRel s (f m.threads[t.toNat]).step → (f m.threads[t.toNat]).step ≠ 0 → UpdOK m t D := fun D f hD hr hn => by
   obtain ⟨k1,k2⟩ := thr_set20 f hi
   have k3 : t.toNat < D.threads.length := by rw [hD]; exact k1
   have k4 : D.threads[t.toNat] = f m.threads[t.toNat] := by simp only [hD]; exact k2
   exact ⟨hl,hi,k3,by rw [k4,hs]; exact hr,fun _ e => by rw [k4] at e; exact absurd e hn⟩
  unfold updX
  by_cases s1 : s = 1
  ·rw [if_pos s1]; left
   rw [postM_yes hl.1]
   refine ⟨rfl, ?_⟩
   dsimp only
   unfold stepM
   refine st _ (fun x => { x with posted := true,ready := false,step := 2 }) ?_ (by dsimp only; unfold updRel; omega) (by dsimp only; decide)
   unfold setThread; dsimp only; rw [List.modify_modify_eq]; rfl
  rw [if_neg s1]
  by_cases s2 : s = 2
  ·rw [if_pos s2]; left
   refine ⟨rfl, ?_⟩
   dsimp only
   split
   ·exact st _ (fun x => { x with step := 3 }) rfl (by dsimp only; unfold updRel; omega) (by dsimp only; decide)
   ·exact st _ (fun x => { x with step := 10 }) rfl (by dsimp only; unfold updRel; omega) (by dsimp only; decide)
  rw [if_neg s2]
  by_cases s3 : s = 3
  ·rw [if_pos s3]; left
   rw [collM_yes ⟨hl.1,by unfold stepOfT; rw [List.getElem?_eq_getElem hi]; rw [← hs] at s3; exact s3⟩]
   refine ⟨rfl, ?_⟩
   have k1 : t.toNat < (takeM m t).threads.length := by unfold takeM; simpa [clearP_len] using hi
   have k3 : ((takeM m t).threads[t.toNat]?).map (·.step) = some (if batchFor m t = [] then 9 else 4) := by
    have k4 : t.toNat < (clearP (batchFor m t) (m.threads.modify t.toNat (setBatch (batchFor m t)))).length := by simpa [clearP_len] using hi
    show (((clearP (batchFor m t) (m.threads.modify t.toNat (setBatch (batchFor m t)))).modify t.toNat (setLoad (if batchFor m t = [] then 9 else 4)))[t.toNat]?).map (·.step) = _
    rw [List.getElem?_modify_eq,List.getElem?_eq_getElem k4]
    rfl
   rw [List.getElem?_eq_getElem k1] at k3
   have k2 : ((takeM m t).threads[t.toNat]).step = if batchFor m t = [] then 9 else 4 := by simpa using k3
   exact ⟨hl,hi,k1,by rw [k2,hs]; unfold updRel; split <;> omega,fun e => by omega⟩
  rw [if_neg s3]
  by_cases s4 : s = 4 ∨ s = 5 ∨ s = 6 ∨ s = 7
  ·rw [if_pos s4]
   by_cases he : (claimM m t).2 = 0
   ·left
    rw [if_pos he]
    have hc : claimP m t := by
     by_cases hc : claimP m t
     ·exact hc
     ·rw [claimM_no hc] at he; exact absurd he (by decide)
    obtain ⟨k1,k2,k3,k4⟩ := claim_to hc he
    exact ⟨he,hl,k1,k2,k3,fun e => absurd e k4⟩
   ·right; rw [if_neg he]; exact ⟨rfl,by decide⟩
  rw [if_neg s4]
  by_cases s8 : s = 8
  ·rw [if_pos s8]; left
   refine ⟨rfl, ?_⟩
   dsimp only
   split
   ·exact st _ (fun x => { x with step := 9 }) rfl (by dsimp only; unfold updRel; omega) (by dsimp only; decide)
   ·obtain ⟨k1,k2⟩ := thr_one20 ht hi
    exact ⟨hl,hi,k1,by rw [k2,hs]; unfold updRel; omega,fun e => by omega⟩
  rw [if_neg s8]
  by_cases s9 : s = 9
  ·rw [if_pos s9]; left
   exact ⟨rfl,st _ (fun y => { y with batch := [],at_ := 0,step := 10 }) rfl (by dsimp only; unfold updRel; omega) (by dsimp only; decide)⟩
  rw [if_neg s9]
  by_cases s10 : s = 10
  ·rw [if_pos s10]
   split
   ·by_cases hh : 64 ≤ m.history.length
    ·right; rw [show finishM m t 2000 = (noMachine,2000) from if_pos hh]; exact ⟨rfl,by decide⟩
    ·left
     rw [show finishM m t 2000 = (doneM m t,0) from if_neg hh,doneM_of hi]
     exact ⟨rfl,hl,hi,by simpa using hi,by simp [hs,updRel,s10],fun _ _ => by simp⟩
   ·left
    exact ⟨rfl,st _ (fun x => { x with step := 2 }) rfl (by dsimp only; unfold updRel; omega) (by dsimp only; decide)⟩
  rw [if_neg s10]
  exact .inr ⟨rfl,by decide⟩
 ·right; rw [updM_no hl]; exact ⟨rfl,by decide⟩

set_option maxHeartbeats 4000000 in
theorem l_UpdateSteps (m : Machine) (t : Int) (h : okM m) (hin : ∀ r ∈ m.rings,inR r.head) (_ : inR t) : CallT tab false 12 [.a (.agg (encMachine false m)),.a (.int .i64 t)] TH.none (fun v _ => v = .a (.bool true)) := by
 have hP := c_UpdateStep m t h
 have hk := upd_ok m t
 generalize updM m t = A at *
 obtain ⟨D,e⟩ := A
 dsimp only at hP hk
 refine CallT.body (F := m12) rfl rfl rfl rfl ?_
 simp -implicitDefEqProofs [m12]
 refine CallT.pure c_awake20 rfl rfl ?_
 simp -implicitDefEqProofs
 refine CallT.pure hP (by simp) (ok_mach1F _ _) ?_
 simp -implicitDefEqProofs
 refine CallT.pure (c_Num e) (by simp) rfl ?_
 rcases hk with ⟨rfl,hk⟩ | ⟨rfl,hk⟩
 ·obtain ⟨hl,hi,hi2,hrel,hh⟩ := hk
  have hn := hl.1.1.2.1
  simp only [macNums] at hn
  have ht0 := hl.1.2.1
  have ht1 : t < m.threads.length := by have := hl.1.2.2; omega
  have ht2 : t < D.threads.length := by omega
  have n1 : ¬ t < 0 := by omega
  have n2 : ¬ (m.threads.length : Int) ≤ t := by omega
  have n3 : ¬ (D.threads.length : Int) ≤ t := by omega
  have z0 : 0 < m.threads.length := by omega
  have z1 : 0 < D.threads.length := by omega
  have gt := List.getElem?_eq_getElem hi
  have gd := List.getElem?_eq_getElem hi2
  have wh : IntKind.wrap .i64 ((m.history.length : Int) + 1) = (m.history.length : Int) + 1 := wrap_of (by omega) (by omega)
  have hF := And.intro ht0 (And.intro ht1 (And.intro ht2 (And.intro n1 (And.intro n2 (And.intro n3 (And.intro z0 (And.intro z1 (And.intro hi (And.intro hi2 (And.intro gt (And.intro gd wh)))))))))))
  unfold updRel at hrel
  rcases hrel with ⟨a,b⟩ | ⟨a,b | b⟩ | ⟨a,b | b⟩ | ⟨a,b | b | b⟩ | ⟨a,b | b⟩ | ⟨a,b | b⟩ | ⟨a,b | b⟩ | ⟨a,b | b⟩ | ⟨a,b⟩ | ⟨a,b | b⟩
  all_goals simp -implicitDefEqProofs [hF,a,b,hh]
 ·have b1 : (e != 0) = true := by simp [hk]
  simp -implicitDefEqProofs [b1]
  refine CallT.bool2 (by simp) (c_SameMachine noMachine noMachine false false okM_no18) (fun hb => ?_) (fun hb => absurd rfl hb)
  simp -implicitDefEqProofs

end Go.Ab

namespace Go.Ab
open Go.RowKit Go.ChangeShapes

theorem law_eval {M : FuncId → Option MFunc} {k : FuncId} {ts : List AV} (h : CallT M false k (ts.map .a) TH.none fun v _ => v = .a (.bool true)) : ∃ n H',eval M n k ts AH.zero = some (.bool true,H') := by
 obtain ⟨r,H',⟨n,hev⟩,v,A',T',_,hv,_,rfl⟩ := h _ AH.zero ts HR.none (VRL.atoms ts)
 cases hv
 exact ⟨n,H',hev⟩

theorem i64_range {n : Int} (h : (Lit.int .i64 n).wf = true) : -9223372036854775808 ≤ n ∧ n < 9223372036854775808 := by
 simp only [Lit.wf,Bool.and_eq_true,decide_eq_true_eq] at h
 have e1 : IntKind.i64.min = -9223372036854775808 := by decide
 have e2 : IntKind.i64.max = 9223372036854775807 := by decide
 omega

def wfI (n : Int) : Prop := (Lit.int .i64 n).wf = true
def rangeOp (o : Op) : Prop := wfI o.code ∧ wfI o.row ∧ wfI o.arg
def rangeS (s : Slot) : Prop := rangeOp s.op ∧ wfI s.thread ∧ wfI s.bit
def rangeR (r : Ring) : Prop := wfI r.head ∧ wfI r.tail ∧ wfI r.fence ∧ (∀ s ∈ r.slots,rangeS s)
def rangeI (l : List Int) : Prop := ∀ x ∈ l,wfI x
def rangeP (p : Replica) : Prop := (rangeI p.state.r0 ∧ rangeI p.state.r1 ∧ rangeI p.state.r2 ∧ rangeI p.state.r3) ∧ rangeI p.cursors ∧ rangeI p.locks
def rangeT (t : Thread) : Prop := wfI t.step ∧ rangeOp t.op ∧ wfI t.log ∧ wfI t.seen ∧ rangeI t.batch ∧ wfI t.at_ ∧ wfI t.answer ∧ rangeI t.tails
def rangeC (c : Config) : Prop := wfI c.object ∧ wfI c.replicas ∧ wfI c.logs ∧ wfI c.threads ∧ wfI c.slots
def rangeE (e : Event) : Prop := wfI e.thread ∧ rangeOp e.op ∧ wfI e.answer
/-- what a machine that is handed in is known to be -/
def rangeM (m : Machine) : Prop := rangeC m.config ∧ (∀ r ∈ m.rings, rangeR r) ∧ (∀ p ∈ m.replicas, rangeP p) ∧ (∀ t ∈ m.threads, rangeT t) ∧ (∀ e ∈ m.history, rangeE e)
theorem rangeM_heads {m : Machine} (h : rangeM m) : ∀ r ∈ m.rings,inR r.head := fun r hr => i64_range (h.2.1 r hr).1

end Go.Ab

namespace Go.Proofs.YtlpfdnfcmdikiaaGreat
open Go.ChangeShapes Go.WideShapes Go.ChangeAt Go.RowKit Go.Ab

mutual
theorem tame_of {H : Type} : ∀ (d : DataW H),Rows.uptoBulk d ≤ 1048576 → tame d = true
 | .lit l,h => by
  cases l
  case string bytes => simp only [Rows.uptoBulk] at h; simp only [tame,decide_eq_true_eq]; omega
  all_goals rfl
 | .nil,_ => rfl
 | .ptr _,_ => rfl
 | .slice es sp,h => by
  simp only [Rows.uptoBulk] at h
  obtain ⟨h1,h2⟩ := tameL_of es (by omega)
  simp only [tame,Bool.and_eq_true,decide_eq_true_eq]
  exact ⟨by omega,h1⟩
 | .agg ps,h => by
  simp only [Rows.uptoBulk] at h
  exact (tameL_of ps (by omega)).1
 | .iface _ _,_ => rfl
 | .map _,_ => rfl
 | .held _,_ => rfl
theorem tameL_of {H : Type} : ∀ (l : List (DataW H)),Rows.uptoBulkAll l ≤ 1048576 → tameL l = true ∧ l.length ≤ Rows.uptoBulkAll l
 | [],_ => ⟨rfl,by simp⟩
 | d :: r,h => by
  simp only [Rows.uptoBulkAll] at h ⊢
  obtain ⟨h1,h2⟩ := tameL_of r (by omega)
  have h3 := tame_of d (by omega)
  have h4 := bulk_pos d
  exact ⟨by simp only [tameL,h3,h1,Bool.and_self],by simp only [List.length_cons]; omega⟩
theorem bulk_pos {H : Type} : ∀ (d : DataW H),1 ≤ Rows.uptoBulk d
 | .lit l => by cases l <;> simp [Rows.uptoBulk]
 | .nil => by simp [Rows.uptoBulk]
 | .ptr _ => by simp only [Rows.uptoBulk]; omega
 | .slice _ _ => by simp only [Rows.uptoBulk]; omega
 | .agg _ => by simp only [Rows.uptoBulk]; omega
 | .iface _ _ => by simp only [Rows.uptoBulk]; omega
 | .map _ => by simp only [Rows.uptoBulk]; omega
 | .held _ => by simp [Rows.uptoBulk]
end

theorem own : ownKnob Go.Proofs.Tryz.prog.godebug = none := by kernel_rfl
theorem laidOut : laidOutB Go.Proofs.Tryz.prog = true := by kernel_rfl

section
variable (W : World)
theorem dec_i : DecS Go.Proofs.Tryz.prog W 3 encInt wfI := Dec.s (Dec.int Go.Proofs.Tryz.underlying3)
theorem dec_b : DecS Go.Proofs.Tryz.prog W 4 (fun b : Bool => [.bool b]) (fun _ => True) := Dec.s (Dec.bool Go.Proofs.Tryz.underlying4)
theorem dec_ints : DecS Go.Proofs.Tryz.prog W 44 (fun l : List Int => [.vs (l.map encInt) false]) (fun l => rangeI l ∧ lenOK l) := DecS.slice (sz := 1) Go.Proofs.Tryz.underlying44 (by kernel_rfl) (by omega) (dec_i W)
theorem dec_op : DecS Go.Proofs.Tryz.prog W 43 encOp rangeOp :=
 @DecS.struct _ _ _ _ 3 _ _ _ _ _ _ Go.Proofs.Tryz.underlying43 (by kernel_rfl) (@DecFS.cons _ _ _ _ _ 1 _ _ _ _ _ _ _ (by rfl) (by kernel_rfl) (dec_i W) (@DecFS.cons _ _ _ _ _ 1 _ _ _ _ _ _ _ (by rfl) (by kernel_rfl) (dec_i W) (@DecFS.cons _ _ _ _ _ 1 _ _ _ _ _ _ _ (by rfl) (by kernel_rfl) (dec_i W) (@DecFS.nil _ _ 3))))
  (fun a => ⟨a.1,a.2.1,a.2.2.1⟩) (fun a h => ⟨⟨h.1,h.2.1,h.2.2.1⟩,rfl⟩)
theorem dec_config : DecS Go.Proofs.Tryz.prog W 23 encConfig rangeC :=
 @DecS.struct _ _ _ _ 5 _ _ _ _ _ _ Go.Proofs.Tryz.underlying23 (by kernel_rfl) (@DecFS.cons _ _ _ _ _ 1 _ _ _ _ _ _ _ (by rfl) (by kernel_rfl) (dec_i W) (@DecFS.cons _ _ _ _ _ 1 _ _ _ _ _ _ _ (by rfl) (by kernel_rfl) (dec_i W) (@DecFS.cons _ _ _ _ _ 1 _ _ _ _ _ _ _ (by rfl) (by kernel_rfl) (dec_i W) (@DecFS.cons _ _ _ _ _ 1 _ _ _ _ _ _ _ (by rfl) (by kernel_rfl) (dec_i W) (@DecFS.cons _ _ _ _ _ 1 _ _ _ _ _ _ _ (by rfl) (by kernel_rfl) (dec_i W) (@DecFS.nil _ _ 5))))))
  (fun a => ⟨a.1,a.2.1,a.2.2.1,a.2.2.2.1,a.2.2.2.2.1⟩) (fun a h => ⟨⟨h.1,h.2.1,h.2.2.1,h.2.2.2.1,h.2.2.2.2.1⟩,rfl⟩)
theorem dec_slot : DecS Go.Proofs.Tryz.prog W 51 encSlot rangeS :=
 @DecS.struct _ _ _ _ 5 _ _ _ _ _ _ Go.Proofs.Tryz.underlying51 (by kernel_rfl) (@DecFS.cons _ _ _ _ _ 3 _ _ _ _ _ _ _ (by rfl) (by kernel_rfl) (dec_op W) (@DecFS.cons _ _ _ _ _ 1 _ _ _ _ _ _ _ (by rfl) (by kernel_rfl) (dec_i W) (@DecFS.cons _ _ _ _ _ 1 _ _ _ _ _ _ _ (by rfl) (by kernel_rfl) (dec_i W) (@DecFS.nil _ _ 5))))
  (fun a => ⟨a.1,a.2.1,a.2.2.1⟩) (fun a h => ⟨⟨h.1,h.2.1,h.2.2.1⟩,rfl⟩)
theorem dec_slots : DecS Go.Proofs.Tryz.prog W 47 (fun l : List Slot => [.vs (l.map encSlot) false]) (fun l => (∀ s ∈ l,rangeS s) ∧ lenOK l) := DecS.slice (sz := 5) Go.Proofs.Tryz.underlying47 (by kernel_rfl) (by omega) (dec_slot W)
theorem dec_ring : DecS Go.Proofs.Tryz.prog W 49 (encRing false) (fun r => rangeR r ∧ okR r) :=
 @DecS.struct _ _ _ _ 4 _ _ _ _ _ _ Go.Proofs.Tryz.underlying49 (by kernel_rfl) (@DecFS.cons _ _ _ _ _ 1 _ _ _ _ _ _ _ (by rfl) (by kernel_rfl) (dec_i W) (@DecFS.cons _ _ _ _ _ 1 _ _ _ _ _ _ _ (by rfl) (by kernel_rfl) (dec_i W) (@DecFS.cons _ _ _ _ _ 1 _ _ _ _ _ _ _ (by rfl) (by kernel_rfl) (dec_i W) (@DecFS.cons _ _ _ _ _ 1 _ _ _ _ _ _ _ (by rfl) (by kernel_rfl) (dec_slots W) (@DecFS.nil _ _ 4)))))
  (fun a => ⟨a.1,a.2.1,a.2.2.1,a.2.2.2.1⟩) (fun a h => ⟨⟨⟨h.1,h.2.1,h.2.2.1,h.2.2.2.1.1⟩,h.2.2.2.1.2⟩,rfl⟩)
theorem dec_rings : DecS Go.Proofs.Tryz.prog W 24 (fun l : List Ring => [.vs (l.map (encRing false)) false]) (fun l => (∀ s ∈ l,rangeR s ∧ okR s) ∧ lenOK l) := DecS.slice (sz := 4) Go.Proofs.Tryz.underlying24 (by kernel_rfl) (by omega) (dec_ring W)
theorem dec_rows : DecS Go.Proofs.Tryz.prog W 62 (fun l : List (List Int) => (l.map fun l : List Int => [AV.vs (l.map encInt) false]).flatten) (fun l => (∀ a ∈ l,rangeI a ∧ lenOK a) ∧ l.length = 4) := DecS.array (sz := 1) Go.Proofs.Tryz.underlying62 (by kernel_rfl) (by kernel_rfl) (dec_ints W)
theorem dec_state : DecS Go.Proofs.Tryz.prog W 64 (encState false) (fun s => (rangeI s.r0 ∧ rangeI s.r1 ∧ rangeI s.r2 ∧ rangeI s.r3) ∧ okS s) :=
 @DecS.struct _ _ _ _ 4 _ _ _ _ _ _ Go.Proofs.Tryz.underlying64 (by kernel_rfl) (@DecFS.cons _ _ _ _ _ 4 _ _ _ _ _ _ _ (by rfl) (by kernel_rfl) (dec_rows W) (@DecFS.nil _ _ 4))
  (fun a => match a.1 with | [a0,a1,a2,a3] => ⟨a0,a1,a2,a3⟩ | _ => ⟨[],[],[],[]⟩)
  (fun a h => by
   obtain ⟨l,_⟩ := a
   obtain ⟨⟨h1,h2⟩,_⟩ := h
   simp only at h1 h2
   match l,h2 with
   | [a0,a1,a2,a3],_ =>
    have k0 := h1 a0 (by simp)
    have k1 := h1 a1 (by simp)
    have k2 := h1 a2 (by simp)
    have k3 := h1 a3 (by simp)
    exact ⟨⟨⟨k0.1,k1.1,k2.1,k3.1⟩,k0.2,k1.2,k2.2,k3.2⟩,rfl⟩)
theorem dec_replica : DecS Go.Proofs.Tryz.prog W 66 (encReplica false) (fun p => rangeP p ∧ okP' p) :=
 @DecS.struct _ _ _ _ 6 _ _ _ _ _ _ Go.Proofs.Tryz.underlying66 (by kernel_rfl) (@DecFS.cons _ _ _ _ _ 4 _ _ _ _ _ _ _ (by rfl) (by kernel_rfl) (dec_state W) (@DecFS.cons _ _ _ _ _ 1 _ _ _ _ _ _ _ (by rfl) (by kernel_rfl) (dec_ints W) (@DecFS.cons _ _ _ _ _ 1 _ _ _ _ _ _ _ (by rfl) (by kernel_rfl) (dec_ints W) (@DecFS.nil _ _ 6))))
  (fun a => ⟨a.1,a.2.1,a.2.2.1⟩) (fun a h => ⟨⟨⟨h.1.1,h.2.1.1,h.2.2.1.1⟩,h.1.2,h.2.1.2,h.2.2.1.2⟩,rfl⟩)
theorem dec_replicas : DecS Go.Proofs.Tryz.prog W 25 (fun l : List Replica => [.vs (l.map (encReplica false)) false]) (fun l => (∀ s ∈ l,rangeP s ∧ okP' s) ∧ lenOK l) := DecS.slice (sz := 6) Go.Proofs.Tryz.underlying25 (by kernel_rfl) (by omega) (dec_replica W)
theorem dec_thread : DecS Go.Proofs.Tryz.prog W 46 (encThread false) (fun t => rangeT t ∧ okTh t) :=
 @DecS.struct _ _ _ _ 12 _ _ _ _ _ _ Go.Proofs.Tryz.underlying46 (by kernel_rfl) (@DecFS.cons _ _ _ _ _ 1 _ _ _ _ _ _ _ (by rfl) (by kernel_rfl) (dec_i W) (@DecFS.cons _ _ _ _ _ 3 _ _ _ _ _ _ _ (by rfl) (by kernel_rfl) (dec_op W) (@DecFS.cons _ _ _ _ _ 1 _ _ _ _ _ _ _ (by rfl) (by kernel_rfl) (dec_i W) (@DecFS.cons _ _ _ _ _ 1 _ _ _ _ _ _ _ (by rfl) (by kernel_rfl) (dec_i W) (@DecFS.cons _ _ _ _ _ 1 _ _ _ _ _ _ _ (by rfl) (by kernel_rfl) (dec_ints W) (@DecFS.cons _ _ _ _ _ 1 _ _ _ _ _ _ _ (by rfl) (by kernel_rfl) (dec_i W) (@DecFS.cons _ _ _ _ _ 1 _ _ _ _ _ _ _ (by rfl) (by kernel_rfl) (dec_b W) (@DecFS.cons _ _ _ _ _ 1 _ _ _ _ _ _ _ (by rfl) (by kernel_rfl) (dec_b W) (@DecFS.cons _ _ _ _ _ 1 _ _ _ _ _ _ _ (by rfl) (by kernel_rfl) (dec_i W) (@DecFS.cons _ _ _ _ _ 1 _ _ _ _ _ _ _ (by rfl) (by kernel_rfl) (dec_ints W) (@DecFS.nil _ _ 12)))))))))))
  (fun a => ⟨a.1,a.2.1,a.2.2.1,a.2.2.2.1,a.2.2.2.2.1,a.2.2.2.2.2.1,a.2.2.2.2.2.2.1,a.2.2.2.2.2.2.2.1,a.2.2.2.2.2.2.2.2.1,a.2.2.2.2.2.2.2.2.2.1⟩)
  (fun a h => by
   obtain ⟨h1,h2,h3,h4,h5,h6,h7,h8,h9,h10,_⟩ := h
   exact ⟨⟨⟨h1,h2,h3,h4,h5.1,h6,h9,h10.1⟩,h5.2,h10.2⟩,rfl⟩)
theorem dec_threads : DecS Go.Proofs.Tryz.prog W 26 (fun l : List Thread => [.vs (l.map (encThread false)) false]) (fun l => (∀ s ∈ l,rangeT s ∧ okTh s) ∧ lenOK l) := DecS.slice (sz := 12) Go.Proofs.Tryz.underlying26 (by kernel_rfl) (by omega) (dec_thread W)
theorem dec_event : DecS Go.Proofs.Tryz.prog W 76 encEvent rangeE :=
 @DecS.struct _ _ _ _ 6 _ _ _ _ _ _ Go.Proofs.Tryz.underlying76 (by kernel_rfl) (@DecFS.cons _ _ _ _ _ 1 _ _ _ _ _ _ _ (by rfl) (by kernel_rfl) (dec_i W) (@DecFS.cons _ _ _ _ _ 1 _ _ _ _ _ _ _ (by rfl) (by kernel_rfl) (dec_b W) (@DecFS.cons _ _ _ _ _ 3 _ _ _ _ _ _ _ (by rfl) (by kernel_rfl) (dec_op W) (@DecFS.cons _ _ _ _ _ 1 _ _ _ _ _ _ _ (by rfl) (by kernel_rfl) (dec_i W) (@DecFS.nil _ _ 6)))))
  (fun a => ⟨a.1,a.2.1,a.2.2.1,a.2.2.2.1⟩) (fun a h => ⟨⟨h.1,h.2.2.1,h.2.2.2.1⟩,rfl⟩)
theorem dec_events : DecS Go.Proofs.Tryz.prog W 27 (fun l : List Ab.Event => [.vs (l.map encEvent) false]) (fun l => (∀ s ∈ l,rangeE s) ∧ lenOK l) := DecS.slice (sz := 6) Go.Proofs.Tryz.underlying27 (by kernel_rfl) (by omega) (dec_event W)
theorem dec_machine : DecS Go.Proofs.Tryz.prog W 29 (encMachine false) (fun m => rangeM m ∧ okM m) :=
 @DecS.struct _ _ _ _ 9 _ _ _ _ _ _ Go.Proofs.Tryz.underlying29 (by kernel_rfl) (@DecFS.cons _ _ _ _ _ 5 _ _ _ _ _ _ _ (by rfl) (by kernel_rfl) (dec_config W) (@DecFS.cons _ _ _ _ _ 1 _ _ _ _ _ _ _ (by rfl) (by kernel_rfl) (dec_rings W) (@DecFS.cons _ _ _ _ _ 1 _ _ _ _ _ _ _ (by rfl) (by kernel_rfl) (dec_replicas W) (@DecFS.cons _ _ _ _ _ 1 _ _ _ _ _ _ _ (by rfl) (by kernel_rfl) (dec_threads W) (@DecFS.cons _ _ _ _ _ 1 _ _ _ _ _ _ _ (by rfl) (by kernel_rfl) (dec_events W) (@DecFS.nil _ _ 9))))))
  (fun a => ⟨a.1,a.2.1,a.2.2.1,a.2.2.2.1,a.2.2.2.2.1⟩)
  (fun a h => by
   obtain ⟨h1,h2,h3,h4,h5,_⟩ := h
   exact ⟨⟨⟨h1,fun r hr => (h2.1 r hr).1,fun r hr => (h3.1 r hr).1,fun r hr => (h4.1 r hr).1,h5.1⟩,⟨h2.2,fun r hr => (h2.1 r hr).2⟩,⟨h3.2,fun r hr => (h3.1 r hr).2⟩,⟨h4.2,fun r hr => (h4.1 r hr).2⟩,h5.2⟩,rfl⟩)
end

end Go.Proofs.YtlpfdnfcmdikiaaGreat
