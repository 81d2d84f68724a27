/-
  A claimer's steps, by value: the program's.
  and what goes with it.
  Conditions: none.
-/
import Derived.Test.YtlpfdnfcmdikiaaGreatGn0
import Derived.Test.YtlpfdnfcmdikiaaGreatGb
import Derived.Test.YtlpfdnfcmdikiaaGreatRows

set_option linter.unusedSimpArgs false
set_option linter.unusedVariables false

namespace Go.Ab

set_option maxHeartbeats 4000000 in
theorem x_load (m : Machine) (t : Int) (h : okM m) (hl : claimP m t) (T : TH) (hT : StT T m t (ownOf m t)) (K : TV → TH → Prop) (hyes : (loadX m t (thrAt m t.toNat) (ringAt m (thrAt m t.toNat).log.toNat)).2 = 0 → ∀ T1,DnT T1 (loadX m t (thrAt m t.toNat) (ringAt m (thrAt m t.toNat).log.toNat)).1 t (ownOf m t) → K (.a (.bool true)) T1) (hno : ¬ (loadX m t (thrAt m t.toNat) (ringAt m (thrAt m t.toNat).log.toNat)).2 = 0 → ∀ T1,K (.a (.bool false)) T1) : CallT tab false 95 [.ag [.pt 5 [] 0 0 0]] T K := by
 obtain ⟨hat,hbn⟩ := hl
 obtain ⟨r,log,hi,hri,hj,hk,hlk,hrm,et,hlg,hown,hlog,hA,hF⟩ := wk h hat
 have h1 := hat.1
 have hc := h1.1
 have hn := h1.2.1
 have ht0 := hat.2.1
 have ht1 := hF.1.2.1
 rw [et] at hbn
 have hb1 : ((m.threads[t.toNat].batch.length : Int) == 0) = false := by simp [hbn]
 have hth := (h1.2.2.2.2.1 _ (List.getElem_mem hi)).1
 simp only [atNums] at hth
 have hq := hA.ring.1.1
 simp only [ringNums,slotsMay] at hq
 have w1 : IntKind.wrap .i64 (m.rings[log.toNat].tail + m.threads[t.toNat].batch.length) = m.rings[log.toNat].tail + m.threads[t.toNat].batch.length := wrap_of (by omega) (by have := hc.2.2.2.1; omega)
 have w2 : IntKind.wrap .i64 (m.rings[log.toNat].head + m.rings[log.toNat].slots.length) = m.rings[log.toNat].head + m.rings[log.toNat].slots.length := wrap_of (by omega) (by omega)
 have er := ringAt_of hj
 have hF := And.intro hF (And.intro hbn (And.intro hb1 (And.intro w1 w2)))
 have hT0 := hT
 obtain ⟨t1,t2,t3,t4,t5,nx⟩ := hT
 rw [hrm] at t5 hT0
 have hn0 : ¬ T.next = 0 ∧ ¬ T.next = 1 ∧ ¬ T.next = 2 ∧ ¬ T.next = 3 ∧ ¬ T.next = 4 ∧ ¬ T.next = 5 ∧ ¬ 1 = T.next ∧ ¬ 2 = T.next ∧ ¬ 3 = T.next := by omega
 have hF := And.intro hF (And.intro t1 (And.intro t2 (And.intro t3 (And.intro t4 (And.intro t5 hn0)))))
 rw [show ringAt m (thrAt m t.toNat).log.toNat = m.rings[log.toNat] by rw [et,hlg]; exact er,et] at hyes hno
 obtain ⟨D,hD⟩ : ∃ D,loadX m t m.threads[t.toNat] m.rings[log.toNat] = D := ⟨_,rfl⟩
 rw [hD] at hyes hno
 unfold loadX at hD
 by_cases hf : m.rings[log.toNat].fence = 0
 ·have bf : (m.rings[log.toNat].fence != 0) = false := by simp [hf]
  rw [if_neg (not_not_intro hf),seenM_of hi] at hD
  subst hD
  by_cases hq2 : m.rings[log.toNat].head + m.rings[log.toNat].slots.length < m.rings[log.toNat].tail + m.threads[t.toNat].batch.length
  ·rw [if_pos hq2] at hyes
   refine CallT.body (F := m95) rfl rfl rfl rfl ?_
   simp -implicitDefEqProofs [m95,hF,sT,sR,sP,sI,-List.map_set,bf,hq2]
   refine CallT.bodyQ (F := m130) rfl rfl rfl rfl rfl ?_
   simp -implicitDefEqProofs [m130,hF,sT,sR,sP,sI,-List.map_set,bf,hq2]
   refine CallT.bodyQ (F := m71) rfl rfl rfl rfl rfl ?_
   simp -implicitDefEqProofs [m71,hF,sT,sR,sP,sI,-List.map_set,bf,hq2]
   refine CallT.bodyQ (F := m71) rfl rfl rfl rfl rfl ?_
   simp -implicitDefEqProofs [m71,hF,sT,sR,sP,sI,-List.map_set,bf,hq2]
   refine hyes rfl _ (StT.dn ?_)
   exact ⟨by simp [t1,hn0,sR,-List.map_set],by simp [t2,hn0],by simp [t3,hn0,hlg,sT,-List.map_set],by simp [t4,hn0],by simp [t5,hn0,hrm],by simp; omega⟩
  ·rw [if_neg hq2] at hyes
   refine CallT.body (F := m95) rfl rfl rfl rfl ?_
   simp -implicitDefEqProofs [m95,hF,sT,sR,sP,sI,-List.map_set,bf,hq2]
   refine CallT.bodyQ (F := m130) rfl rfl rfl rfl rfl ?_
   simp -implicitDefEqProofs [m130,hF,sT,sR,sP,sI,-List.map_set,bf,hq2]
   refine CallT.bodyQ (F := m71) rfl rfl rfl rfl rfl ?_
   simp -implicitDefEqProofs [m71,hF,sT,sR,sP,sI,-List.map_set,bf,hq2]
   refine CallT.bodyQ (F := m71) rfl rfl rfl rfl rfl ?_
   simp -implicitDefEqProofs [m71,hF,sT,sR,sP,sI,-List.map_set,bf,hq2]
   refine hyes rfl _ (StT.dn ?_)
   exact ⟨by simp [t1,hn0,sR,-List.map_set],by simp [t2,hn0],by simp [t3,hn0,hlg,sT,-List.map_set],by simp [t4,hn0],by simp [t5,hn0,hrm],by simp; omega⟩
 ·have bf : (m.rings[log.toNat].fence != 0) = true := by simp [hf]
  rw [if_pos hf,hrm,hlg] at hD
  subst hD
  refine CallT.body (F := m95) rfl rfl rfl rfl ?_
  simp -implicitDefEqProofs [m95,hF,sT,sR,sP,sI,-List.map_set,bf]
  refine CallT.bodyQ (F := m130) rfl rfl rfl rfl rfl ?_
  simp -implicitDefEqProofs [m130,hF,sT,sR,sP,sI,-List.map_set,bf]
  refine CallT.bodyQ (F := m71) rfl rfl rfl rfl rfl ?_
  simp -implicitDefEqProofs [m71,hF,sT,sR,sP,sI,-List.map_set,bf]
  refine CallT.bodyQ (F := m71) rfl rfl rfl rfl rfl ?_
  simp -implicitDefEqProofs [m71,hF,sT,sR,sP,sI,-List.map_set,bf]
  refine CallT.body (F := m114) rfl rfl rfl rfl ?_
  simp -implicitDefEqProofs [m114,hF,sT,sR,sP,sI,-List.map_set,bf]
  refine CallT.bodyQ (F := m71) rfl rfl rfl rfl rfl ?_
  simp -implicitDefEqProofs [m71,hF,sT,sR,sP,sI,-List.map_set,bf]
  refine x_Next m r log t r h ⟨h1,hown,hlog⟩ T hT0 _ (fun b T1 hd => ?_)
  simp -implicitDefEqProofs
  exact hyes rfl _ (hrm ▸ hd)

set_option maxHeartbeats 4000000 in
theorem x_claim (m : Machine) (t : Int) (h : okM m) (hl : claimP m t) (T : TH) (hT : StT T m t (ownOf m t)) (K : TV → TH → Prop) (hyes : (reserveX m t (thrAt m t.toNat) (ringAt m (thrAt m t.toNat).log.toNat)).2 = 0 → ∀ T1,DnT T1 (reserveX m t (thrAt m t.toNat) (ringAt m (thrAt m t.toNat).log.toNat)).1 t (ownOf m t) → K (.a (.bool true)) T1) (hno : ¬ (reserveX m t (thrAt m t.toNat) (ringAt m (thrAt m t.toNat).log.toNat)).2 = 0 → ∀ T1,K (.a (.bool false)) T1) : CallT tab false 97 [.ag [.pt 5 [] 0 0 0]] T K := by
 obtain ⟨hat,hbn⟩ := hl
 obtain ⟨r,log,hi,hri,hj,hk,hlk,hrm,et,hlg,hown,hlog,hA,hF⟩ := wk h hat
 have h1 := hat.1
 have hc := h1.1
 have hn := h1.2.1
 have ht0 := hat.2.1
 have ht1 := hF.1.2.1
 rw [et] at hbn
 have hb1 : ((m.threads[t.toNat].batch.length : Int) == 0) = false := by simp [hbn]
 have hth := (h1.2.2.2.2.1 _ (List.getElem_mem hi)).1
 simp only [atNums] at hth
 have hq := hA.ring.1.1
 simp only [ringNums,slotsMay] at hq
 have w1 : IntKind.wrap .i64 (m.rings[log.toNat].tail + m.threads[t.toNat].batch.length) = m.rings[log.toNat].tail + m.threads[t.toNat].batch.length := wrap_of (by omega) (by have := hc.2.2.2.1; omega)
 have w2 : IntKind.wrap .i64 (m.rings[log.toNat].head + m.rings[log.toNat].slots.length) = m.rings[log.toNat].head + m.rings[log.toNat].slots.length := wrap_of (by omega) (by omega)
 have er := ringAt_of hj
 have hF := And.intro hF (And.intro hbn (And.intro hb1 (And.intro w1 w2)))
 have hT0 := hT
 obtain ⟨t1,t2,t3,t4,t5,nx⟩ := hT
 rw [hrm] at t5 hT0
 have hn0 : ¬ T.next = 0 ∧ ¬ T.next = 1 ∧ ¬ T.next = 2 ∧ ¬ T.next = 3 ∧ ¬ T.next = 4 ∧ ¬ T.next = 5 ∧ ¬ 1 = T.next ∧ ¬ 2 = T.next ∧ ¬ 3 = T.next := by omega
 have hF := And.intro hF (And.intro t1 (And.intro t2 (And.intro t3 (And.intro t4 (And.intro t5 hn0)))))
 rw [show ringAt m (thrAt m t.toNat).log.toNat = m.rings[log.toNat] by rw [et,hlg]; exact er,et] at hyes hno
 obtain ⟨D,hD⟩ : ∃ D,reserveX m t m.threads[t.toNat] m.rings[log.toNat] = D := ⟨_,rfl⟩
 rw [hD] at hyes hno
 unfold reserveX at hD
 have hR := c_ringReserve m.rings[log.toNat] m.threads[t.toNat].batch.length hA.ol ⟨by omega,by omega⟩
 generalize reserveM m.rings[log.toNat] m.threads[t.toNat].batch.length = rm at hR hD
 obtain ⟨R1,a1,e1⟩ := rm
 dsimp only at hR hD
 rw [hlg] at hD
 by_cases he : e1 = 0
 ·by_cases hf : m.rings[log.toNat].tail = m.threads[t.toNat].seen
  ·subst he
   have bf : (m.rings[log.toNat].tail != m.threads[t.toNat].seen) = false := by simp [hf]
   rw [if_neg (fun e => e.elim (fun e => e hf) (fun e => e rfl)),ringThr_of hi hj] at hD
   subst hD
   refine CallT.body (F := m97) rfl rfl rfl rfl ?_
   simp -implicitDefEqProofs [m97,hF,sT,sR,sP,sI,-List.map_set]
   refine CallT.bodyQ (F := m130) rfl rfl rfl rfl rfl ?_
   simp -implicitDefEqProofs [m130,hF,sT,sR,sP,sI,-List.map_set]
   refine CallT.bodyQ (F := m71) rfl rfl rfl rfl rfl ?_
   simp -implicitDefEqProofs [m71,hF,sT,sR,sP,sI,-List.map_set]
   refine CallT.bodyQ (F := m71) rfl rfl rfl rfl rfl ?_
   simp -implicitDefEqProofs [m71,hF,sT,sR,sP,sI,-List.map_set]
   refine CallT.pure hR (by simp [hF]) (ok_ring3 _ _ _ _) ?_
   simp -implicitDefEqProofs [hF,sT,sR,sP,sI,-List.map_set,bf]
   refine CallT.body (F := m110) rfl rfl rfl rfl ?_
   simp -implicitDefEqProofs [m110,hF,sT,sR,sP,sI,-List.map_set,bf]
   refine CallT.bodyQ (F := m71) rfl rfl rfl rfl rfl ?_
   simp -implicitDefEqProofs [m71,hF,sT,sR,sP,sI,-List.map_set,bf]
   exact hyes rfl _ ⟨⟨_,[[(log.toNat,3)]],by simp [t1,hn0,sR,-List.map_set],rfl,rowZ_rings _ true⟩,⟨_,[],by simp [t2,hn0],rfl,rowZ_reps _ true⟩,⟨_,[],by simp [t3,hn0,hlg,sT,-List.map_set],rfl,rowZ_thrs _ true⟩,⟨4,m.rings.length,m.replicas.length,m.threads.length,m.history.length,by simp [t4,hn0],by omega,by omega,by omega,by simp [t5,hn0,hrm]⟩⟩
  ·subst he
   have bf : (m.rings[log.toNat].tail != m.threads[t.toNat].seen) = true := by simp [hf]
   rw [if_pos (.inl hf),stepM_of hi] at hD
   subst hD
   refine CallT.body (F := m97) rfl rfl rfl rfl ?_
   simp -implicitDefEqProofs [m97,hF,sT,sR,sP,sI,-List.map_set,bf]
   refine CallT.bodyQ (F := m130) rfl rfl rfl rfl rfl ?_
   simp -implicitDefEqProofs [m130,hF,sT,sR,sP,sI,-List.map_set,bf]
   refine CallT.bodyQ (F := m71) rfl rfl rfl rfl rfl ?_
   simp -implicitDefEqProofs [m71,hF,sT,sR,sP,sI,-List.map_set,bf]
   refine CallT.bodyQ (F := m71) rfl rfl rfl rfl rfl ?_
   simp -implicitDefEqProofs [m71,hF,sT,sR,sP,sI,-List.map_set,bf]
   refine CallT.pure hR (by simp [hF]) (ok_ring3 _ _ _ _) ?_
   simp -implicitDefEqProofs [hF,sT,sR,sP,sI,-List.map_set,bf]
   refine CallT.body (F := m110) rfl rfl rfl rfl ?_
   simp -implicitDefEqProofs [m110,hF,sT,sR,sP,sI,-List.map_set,bf]
   refine CallT.bodyQ (F := m71) rfl rfl rfl rfl rfl ?_
   simp -implicitDefEqProofs [m71,hF,sT,sR,sP,sI,-List.map_set,bf]
   refine hyes rfl _ (StT.dn ?_)
   exact ⟨by simp [t1,hn0,sR,-List.map_set],by simp [t2,hn0],by simp [t3,hn0,hlg,sT,-List.map_set],by simp [t4,hn0],by simp [t5,hn0,hrm],by simp; omega⟩
 ·have bf : (e1 != 0) = true := by simp [he]
  rw [if_pos (.inr he),stepM_of hi] at hD
  subst hD
  refine CallT.body (F := m97) rfl rfl rfl rfl ?_
  simp -implicitDefEqProofs [m97,hF,sT,sR,sP,sI,-List.map_set,bf]
  refine CallT.bodyQ (F := m130) rfl rfl rfl rfl rfl ?_
  simp -implicitDefEqProofs [m130,hF,sT,sR,sP,sI,-List.map_set,bf]
  refine CallT.bodyQ (F := m71) rfl rfl rfl rfl rfl ?_
  simp -implicitDefEqProofs [m71,hF,sT,sR,sP,sI,-List.map_set,bf]
  refine CallT.bodyQ (F := m71) rfl rfl rfl rfl rfl ?_
  simp -implicitDefEqProofs [m71,hF,sT,sR,sP,sI,-List.map_set,bf]
  refine CallT.pure hR (by simp [hF]) (ok_ring3 _ _ _ _) ?_
  simp -implicitDefEqProofs [hF,sT,sR,sP,sI,-List.map_set,bf]
  refine CallT.body (F := m110) rfl rfl rfl rfl ?_
  simp -implicitDefEqProofs [m110,hF,sT,sR,sP,sI,-List.map_set,bf]
  refine CallT.bodyQ (F := m71) rfl rfl rfl rfl rfl ?_
  simp -implicitDefEqProofs [m71,hF,sT,sR,sP,sI,-List.map_set,bf]
  refine hyes rfl _ (StT.dn ?_)
  exact ⟨by simp [t1,hn0,sR,-List.map_set],by simp [t2,hn0],by simp [t3,hn0,hlg,sT,-List.map_set],by simp [t4,hn0],by simp [t5,hn0,hrm],by simp; omega⟩

set_option maxHeartbeats 4000000 in
theorem x_publish (m : Machine) (t : Int) (h : okM m) (hl : claimP m t) (T : TH) (hT : StT T m t (ownOf m t)) (K : TV → TH → Prop) (hyes : (publishX m t (thrAt m t.toNat) (ringAt m (thrAt m t.toNat).log.toNat) ((thrAt m t.toNat).batch.getD (thrAt m t.toNat).at_.toNat 0)).2 = 0 → ∀ T1,DnT T1 (publishX m t (thrAt m t.toNat) (ringAt m (thrAt m t.toNat).log.toNat) ((thrAt m t.toNat).batch.getD (thrAt m t.toNat).at_.toNat 0)).1 t (ownOf m t) → K (.a (.bool true)) T1) (hno : ¬ (publishX m t (thrAt m t.toNat) (ringAt m (thrAt m t.toNat).log.toNat) ((thrAt m t.toNat).batch.getD (thrAt m t.toNat).at_.toNat 0)).2 = 0 → ∀ T1,K (.a (.bool false)) T1) : CallT tab false 98 [.ag [.pt 5 [] 0 0 0]] T K := by
 obtain ⟨hat,hbn⟩ := hl
 obtain ⟨r,log,hi,hri,hj,hk,hlk,hrm,et,hlg,hown,hlog,hA,hF⟩ := wk h hat
 have h1 := hat.1
 have hc := h1.1
 have hn := h1.2.1
 have ht0 := hat.2.1
 have ht1 := hF.1.2.1
 rw [et] at hbn
 have hb1 : ((m.threads[t.toNat].batch.length : Int) == 0) = false := by simp [hbn]
 have hth := (h1.2.2.2.2.1 _ (List.getElem_mem hi)).1
 simp only [atNums] at hth
 have hq := hA.ring.1.1
 simp only [ringNums,slotsMay] at hq
 have w1 : IntKind.wrap .i64 (m.rings[log.toNat].tail + m.threads[t.toNat].batch.length) = m.rings[log.toNat].tail + m.threads[t.toNat].batch.length := wrap_of (by omega) (by have := hc.2.2.2.1; omega)
 have w2 : IntKind.wrap .i64 (m.rings[log.toNat].head + m.rings[log.toNat].slots.length) = m.rings[log.toNat].head + m.rings[log.toNat].slots.length := wrap_of (by omega) (by omega)
 have er := ringAt_of hj
 have hF := And.intro hF (And.intro hbn (And.intro hb1 (And.intro w1 w2)))
 have hT0 := hT
 obtain ⟨t1,t2,t3,t4,t5,nx⟩ := hT
 rw [hrm] at t5 hT0
 have hn0 : ¬ T.next = 0 ∧ ¬ T.next = 1 ∧ ¬ T.next = 2 ∧ ¬ T.next = 3 ∧ ¬ T.next = 4 ∧ ¬ T.next = 5 ∧ ¬ 1 = T.next ∧ ¬ 2 = T.next ∧ ¬ 3 = T.next := by omega
 have hF := And.intro hF (And.intro t1 (And.intro t2 (And.intro t3 (And.intro t4 (And.intro t5 hn0)))))
 rw [show ringAt m (thrAt m t.toNat).log.toNat = m.rings[log.toNat] by rw [et,hlg]; exact er,et] at hyes hno
 obtain ⟨D,hD⟩ : ∃ D,publishX m t m.threads[t.toNat] m.rings[log.toNat] (m.threads[t.toNat].batch.getD m.threads[t.toNat].at_.toNat 0) = D := ⟨_,rfl⟩
 rw [hD] at hyes hno
 unfold publishX at hD
 have ha0 : 0 ≤ m.threads[t.toNat].at_ := by omega
 by_cases hf : (m.threads[t.toNat].batch.length : Int) ≤ m.threads[t.toNat].at_
 ·rw [if_pos hf] at hD
  subst hD
  refine CallT.body (F := m98) rfl rfl rfl rfl ?_
  simp -implicitDefEqProofs [m98,hF,sT,sR,sP,sI,-List.map_set,hf]
  refine CallT.bodyQ (F := m130) rfl rfl rfl rfl rfl ?_
  simp -implicitDefEqProofs [m130,hF,sT,sR,sP,sI,-List.map_set,hf]
  refine CallT.bodyQ (F := m71) rfl rfl rfl rfl rfl ?_
  simp -implicitDefEqProofs [m71,hF,sT,sR,sP,sI,-List.map_set,hf]
  refine CallT.bodyQ (F := m71) rfl rfl rfl rfl rfl ?_
  simp -implicitDefEqProofs [m71,hF,sT,sR,sP,sI,-List.map_set,hf]
  exact hno (by decide) _
 ·rw [if_neg hf] at hD
  have hai : m.threads[t.toNat].at_.toNat < m.threads[t.toNat].batch.length := by omega
  have ha1 : m.threads[t.toNat].at_ < m.threads[t.toNat].batch.length := by omega
  have hag := List.getElem?_eq_getElem hai
  have zb : 0 < m.threads[t.toNat].batch.length := by omega
  have hw := (h1.2.2.2.2.1 _ (List.getElem_mem hi)).2.1 _ (List.getElem_mem hai)
  rw [show m.threads[t.toNat].batch.getD m.threads[t.toNat].at_.toNat 0 = m.threads[t.toNat].batch[m.threads[t.toNat].at_.toNat] by simp [List.getD,hag]] at hD
  obtain ⟨who,hwho⟩ : ∃ who,m.threads[t.toNat].batch[m.threads[t.toNat].at_.toNat] = who := ⟨_,rfl⟩
  rw [hwho] at hw hD
  have hw0 := hw.1
  have hw1 : who < m.threads.length := by have := hw.2; omega
  have hwi : who.toNat < m.threads.length := by omega
  have gw := List.getElem?_eq_getElem hwi
  have w3 : IntKind.wrap .i64 (m.threads[t.toNat].seen + m.threads[t.toNat].at_) = m.threads[t.toNat].seen + m.threads[t.toNat].at_ := wrap_of (by omega) (by have := hc.2.2.2.1; omega)
  have w4 : IntKind.wrap .i64 (m.threads[t.toNat].at_ + 1) = m.threads[t.toNat].at_ + 1 := wrap_of (by omega) (by have := hc.2.2.2.1; omega)
  rw [thrAt_of hwi,hlg] at hD
  have hP := c_ringPublish m.rings[log.toNat] (m.threads[t.toNat].seen + m.threads[t.toNat].at_) m.threads[who.toNat].op who hA.ol
  generalize publishM m.rings[log.toNat] (m.threads[t.toNat].seen + m.threads[t.toNat].at_) m.threads[who.toNat].op who = pm at hP hD
  obtain ⟨R1,e1⟩ := pm
  dsimp only at hP hD
  by_cases he : e1 = 0
  ·subst he
   rw [if_neg (fun e => e rfl),ringThr_of hi hj] at hD
   by_cases hlast : m.threads[t.toNat].at_ + 1 = m.threads[t.toNat].batch.length
   ·have el : (m.threads[t.toNat].at_ + 1 == (m.threads[t.toNat].batch.length : Int)) = true := by simp [hlast]
    rw [if_pos hlast] at hD
    subst hD
    refine CallT.body (F := m98) rfl rfl rfl rfl ?_
    simp -implicitDefEqProofs [m98,hF,sT,sR,sP,sI,-List.map_set,hf,ha0,ha1,hai,hag,zb,hwho,hw0,hw1,hwi,gw,w3,w4,el]
    refine CallT.bodyQ (F := m130) rfl rfl rfl rfl rfl ?_
    simp -implicitDefEqProofs [m130,hF,sT,sR,sP,sI,-List.map_set,hf,ha0,ha1,hai,hag,zb,hwho,hw0,hw1,hwi,gw,w3,w4,el]
    refine CallT.bodyQ (F := m71) rfl rfl rfl rfl rfl ?_
    simp -implicitDefEqProofs [m71,hF,sT,sR,sP,sI,-List.map_set,hf,ha0,ha1,hai,hag,zb,hwho,hw0,hw1,hwi,gw,w3,w4,el]
    refine CallT.bodyQ (F := m71) rfl rfl rfl rfl rfl ?_
    simp -implicitDefEqProofs [m71,hF,sT,sR,sP,sI,-List.map_set,hf,ha0,ha1,hai,hag,zb,hwho,hw0,hw1,hwi,gw,w3,w4,el]
    refine CallT.pure hP (by simp [hF,gw]) (ok_ring2 _ _ _) ?_
    simp -implicitDefEqProofs [hF,sT,sR,sP,sI,-List.map_set,hf,ha0,ha1,hai,hag,zb,hwho,hw0,hw1,hwi,gw,w3,w4,el]
    refine CallT.body (F := m110) rfl rfl rfl rfl ?_
    simp -implicitDefEqProofs [m110,hF,sT,sR,sP,sI,-List.map_set,hf,ha0,ha1,hai,hag,zb,hwho,hw0,hw1,hwi,gw,w3,w4,el]
    refine CallT.bodyQ (F := m71) rfl rfl rfl rfl rfl ?_
    simp -implicitDefEqProofs [m71,hF,sT,sR,sP,sI,-List.map_set,hf,ha0,ha1,hai,hag,zb,hwho,hw0,hw1,hwi,gw,w3,w4,el]
    exact hyes rfl _ ⟨⟨_,[[(log.toNat,3)]],by simp [t1,hn0,sR,-List.map_set],rfl,rowZ_rings _ true⟩,⟨_,[],by simp [t2,hn0],rfl,rowZ_reps _ true⟩,⟨_,[],by simp [t3,hn0,hlg,sT,-List.map_set],rfl,rowZ_thrs _ true⟩,⟨4,m.rings.length,m.replicas.length,m.threads.length,m.history.length,by simp [t4,hn0],by omega,by omega,by omega,by simp [t5,hn0,hrm]⟩⟩
   ·have el : (m.threads[t.toNat].at_ + 1 == (m.threads[t.toNat].batch.length : Int)) = false := by simp [hlast]
    rw [if_neg hlast] at hD
    subst hD
    refine CallT.body (F := m98) rfl rfl rfl rfl ?_
    simp -implicitDefEqProofs [m98,hF,sT,sR,sP,sI,-List.map_set,hf,ha0,ha1,hai,hag,zb,hwho,hw0,hw1,hwi,gw,w3,w4,el]
    refine CallT.bodyQ (F := m130) rfl rfl rfl rfl rfl ?_
    simp -implicitDefEqProofs [m130,hF,sT,sR,sP,sI,-List.map_set,hf,ha0,ha1,hai,hag,zb,hwho,hw0,hw1,hwi,gw,w3,w4,el]
    refine CallT.bodyQ (F := m71) rfl rfl rfl rfl rfl ?_
    simp -implicitDefEqProofs [m71,hF,sT,sR,sP,sI,-List.map_set,hf,ha0,ha1,hai,hag,zb,hwho,hw0,hw1,hwi,gw,w3,w4,el]
    refine CallT.bodyQ (F := m71) rfl rfl rfl rfl rfl ?_
    simp -implicitDefEqProofs [m71,hF,sT,sR,sP,sI,-List.map_set,hf,ha0,ha1,hai,hag,zb,hwho,hw0,hw1,hwi,gw,w3,w4,el]
    refine CallT.pure hP (by simp [hF,gw]) (ok_ring2 _ _ _) ?_
    simp -implicitDefEqProofs [hF,sT,sR,sP,sI,-List.map_set,hf,ha0,ha1,hai,hag,zb,hwho,hw0,hw1,hwi,gw,w3,w4,el]
    exact hyes rfl _ ⟨⟨_,[[(log.toNat,3)]],by simp [t1,hn0,sR,-List.map_set],rfl,rowZ_rings _ true⟩,⟨_,[],by simp [t2,hn0],rfl,rowZ_reps _ true⟩,⟨_,[],by simp [t3,hn0,hlg,sT,-List.map_set],rfl,rowZ_thrs _ true⟩,⟨4,m.rings.length,m.replicas.length,m.threads.length,m.history.length,by simp [t4,hn0],by omega,by omega,by omega,by simp [t5,hn0,hrm]⟩⟩
  ·rw [if_pos he] at hD
   subst hD
   have b1 : (e1 != 0) = true := by simp [he]
   refine CallT.body (F := m98) rfl rfl rfl rfl ?_
   simp -implicitDefEqProofs [m98,hF,sT,sR,sP,sI,-List.map_set,hf,ha0,ha1,hai,hag,zb,hwho,hw0,hw1,hwi,gw,w3,w4,b1]
   refine CallT.bodyQ (F := m130) rfl rfl rfl rfl rfl ?_
   simp -implicitDefEqProofs [m130,hF,sT,sR,sP,sI,-List.map_set,hf,ha0,ha1,hai,hag,zb,hwho,hw0,hw1,hwi,gw,w3,w4,b1]
   refine CallT.bodyQ (F := m71) rfl rfl rfl rfl rfl ?_
   simp -implicitDefEqProofs [m71,hF,sT,sR,sP,sI,-List.map_set,hf,ha0,ha1,hai,hag,zb,hwho,hw0,hw1,hwi,gw,w3,w4,b1]
   refine CallT.bodyQ (F := m71) rfl rfl rfl rfl rfl ?_
   simp -implicitDefEqProofs [m71,hF,sT,sR,sP,sI,-List.map_set,hf,ha0,ha1,hai,hag,zb,hwho,hw0,hw1,hwi,gw,w3,w4,b1]
   refine CallT.pure hP (by simp [hF,gw]) (ok_ring2 _ _ _) ?_
   simp -implicitDefEqProofs [hF,sT,sR,sP,sI,-List.map_set,hf,ha0,ha1,hai,hag,zb,hwho,hw0,hw1,hwi,gw,w3,w4,b1]
   exact hno (by decide) _

end Go.Ab

namespace Go.Ab

theorem cur_in {m : Machine} {r g : Int} (ht : thereP m r g) (h : okM m) : (m.rings[g.toNat]'(at_of h ht).hg).head ≤ (m.replicas[r.toNat]'(at_of h ht).hr).cursors[g.toNat]'(at_of h ht).hc ∧ (m.replicas[r.toNat]'(at_of h ht).hr).cursors[g.toNat]'(at_of h ht).hc ≤ (m.rings[g.toNat]'(at_of h ht).hg).tail := by
 have hA := at_of h ht
 obtain ⟨hi,hpi,hpl,hpc⟩ := replica_there ht.1 ht.2.1
 have hcu := hpi.2.2.2.2 _ hA.hc
 have hg := hA.hg
 rw [List.getElem?_eq_getElem hg] at hcu
 simpa only [cursorIn,decide_eq_true_eq] using hcu

end Go.Ab

namespace Go.Ab

set_option maxHeartbeats 4000000 in
theorem x_room (m : Machine) (t : Int) (h : okM m) (hl : claimP m t) (T : TH) (hT : StT T m t (ownOf m t)) (K : TV → TH → Prop) (hyes : (spaceM m t,(0 : Int)).2 = 0 → ∀ T1,DnT T1 (spaceM m t,(0 : Int)).1 t (ownOf m t) → K (.a (.bool true)) T1) (hno : ¬ (spaceM m t,(0 : Int)).2 = 0 → ∀ T1,K (.a (.bool false)) T1) : CallT tab false 96 [.ag [.pt 5 [] 0 0 0]] T K := by
 obtain ⟨hat,hbn⟩ := hl
 obtain ⟨r,log,hi,hri,hj,hk,hlk,hrm,et,hlg,hown,hlog,hA,hF⟩ := wk h hat
 have h1 := hat.1
 have hc := h1.1
 have hn := h1.2.1
 have ht0 := hat.2.1
 have ht1 := hF.1.2.1
 rw [et] at hbn
 have hb1 : ((m.threads[t.toNat].batch.length : Int) == 0) = false := by simp [hbn]
 have hth := (h1.2.2.2.2.1 _ (List.getElem_mem hi)).1
 simp only [atNums] at hth
 have hq := hA.ring.1.1
 simp only [ringNums,slotsMay] at hq
 have w1 : IntKind.wrap .i64 (m.rings[log.toNat].tail + m.threads[t.toNat].batch.length) = m.rings[log.toNat].tail + m.threads[t.toNat].batch.length := wrap_of (by omega) (by have := hc.2.2.2.1; omega)
 have w2 : IntKind.wrap .i64 (m.rings[log.toNat].head + m.rings[log.toNat].slots.length) = m.rings[log.toNat].head + m.rings[log.toNat].slots.length := wrap_of (by omega) (by omega)
 have er := ringAt_of hj
 have hF := And.intro hF (And.intro hbn (And.intro hb1 (And.intro w1 w2)))
 have hT0 := hT
 obtain ⟨t1,t2,t3,t4,t5,nx⟩ := hT
 rw [hrm] at t5 hT0
 have hn0 : ¬ T.next = 0 ∧ ¬ T.next = 1 ∧ ¬ T.next = 2 ∧ ¬ T.next = 3 ∧ ¬ T.next = 4 ∧ ¬ T.next = 5 ∧ ¬ 1 = T.next ∧ ¬ 2 = T.next ∧ ¬ 3 = T.next := by omega
 have hF := And.intro hF (And.intro t1 (And.intro t2 (And.intro t3 (And.intro t4 (And.intro t5 hn0)))))
 have ht : thereP m 0 log := ⟨h1,⟨by omega,by have := hc.2.1; omega⟩,hlog⟩
 have hA0 := at_of h ht
 have hcu := cur_in ht h
 have ec0 := curAt_of hA0
 have k0 := hA0.hr
 have kc0 := hA0.hc
 have cu0 := hA0.cur
 simp only [Int.toNat_zero] at k0 kc0 ec0 hcu cu0
 have gr0 := List.getElem?_eq_getElem k0
 have gc0 := List.getElem?_eq_getElem kc0
 have kd0 : log < m.replicas[0].cursors.length := by omega
 have zc0 : 0 < m.replicas[0].cursors.length := by omega
 obtain ⟨_,_,hpl0,_⟩ := replica_there h1 ht.2.1
 have hlk0 : log.toNat < m.replicas[0].locks.length := by have := hpl0; simp only [Int.toNat_zero] at this; omega
 have hle0 : log < m.replicas[0].locks.length := by omega
 have zl0 : 0 < m.replicas[0].locks.length := by omega
 have glk0 := List.getElem?_eq_getElem hlk0
 have elk0 : lockAt m 0 log.toNat = m.replicas[0].locks[log.toNat] := by simp [lockAt,k0,hlk0]
 have hFr := fun a => c_ringFree m.rings[log.toNat] a hA.ol hA.ring.1
 have hyes := hyes rfl
 unfold spaceM at hyes
 rw [et,hlg] at hyes
 have zz : (0 : Int) < m.replicas.length := by omega
 clear hno
 have hF := And.intro hF (And.intro k0 (And.intro kc0 (And.intro gr0 (And.intro gc0 (And.intro kd0 (And.intro zc0 zz))))))
 by_cases h2 : m.config.replicas = 2
 ·have d1 : (1 : Int) < m.replicas.length := by omega
  have d2 : ¬ (2 : Int) < m.replicas.length := by omega
  have ht' : thereP m 1 log := ⟨h1,⟨by omega,by omega⟩,hlog⟩
  have hB := at_of h ht'
  have hcv := cur_in ht' h
  have ec1 := curAt_of hB
  have k1 := hB.hr
  have kc1 := hB.hc
  have cu1 := hB.cur
  obtain ⟨_,_,hpl1,_⟩ := replica_there h1 ht'.2.1
  simp only [show (1 : Int).toNat = 1 from rfl] at k1 kc1 ec1 hcv cu1 hpl1
  have gr1 := List.getElem?_eq_getElem k1
  have gc1 := List.getElem?_eq_getElem kc1
  have kd1 : log < m.replicas[1].cursors.length := by omega
  have zc1 : 0 < m.replicas[1].cursors.length := by omega
  have hlk1 : log.toNat < m.replicas[1].locks.length := by omega
  have hle1 : log < m.replicas[1].locks.length := by omega
  have zl1 : 0 < m.replicas[1].locks.length := by omega
  have glk1 := List.getElem?_eq_getElem hlk1
  have elk1 : lockAt m 1 log.toNat = m.replicas[1].locks[log.toNat] := by simp [lockAt,k1,hlk1]
  have hF := And.intro hF (And.intro d1 (And.intro d2 (And.intro k1 (And.intro kc1 (And.intro gr1 (And.intro gc1 (And.intro kd1 zc1)))))))
  by_cases hlt : m.replicas[1].cursors[log.toNat] < m.replicas[0].cursors[log.toNat]
  ·rw [leastR_two h2 (by rw [ec0,ec1]; exact hlt),ec1] at hyes
   have hLs := c_Least2 m.replicas[0].cursors[log.toNat] m.replicas[1].cursors[log.toNat] cu0.1 cu1.1
   rw [if_pos hlt] at hLs
   have hIx := c_Index2b m.replicas[0].cursors[log.toNat] m.replicas[1].cursors[log.toNat] (by omega)
   unfold spaceW at hyes
   rw [er,hrm] at hyes
   refine CallT.body (F := m96) rfl rfl rfl rfl ?_
   simp -implicitDefEqProofs [m96,hF,sT,sR,sP,sI,-List.map_set]
   refine CallT.bodyQ (F := m71) rfl rfl rfl rfl rfl ?_
   simp -implicitDefEqProofs [m71,hF,sT,sR,sP,sI,-List.map_set]
   refine WCT.unroll ?_
   simp -implicitDefEqProofs [hF,sT,sR,sP,sI,-List.map_set]
   refine WCT.unroll ?_
   simp -implicitDefEqProofs [hF,sT,sR,sP,sI,-List.map_set]
   refine WCT.unroll ?_
   simp -implicitDefEqProofs [hF,sT,sR,sP,sI,-List.map_set]
   refine CallT.pure hLs (by simp [hn0]) rfl ?_
   simp -implicitDefEqProofs [hF,sT,sR,sP,sI,-List.map_set]
   refine CallT.bodyQ (F := m130) rfl rfl rfl rfl rfl ?_
   simp -implicitDefEqProofs [m130,hF,sT,sR,sP,sI,-List.map_set]
   refine CallT.bodyQ (F := m71) rfl rfl rfl rfl rfl ?_
   simp -implicitDefEqProofs [m71,hF,sT,sR,sP,sI,-List.map_set]
   by_cases hh : m.rings[log.toNat].head < m.replicas[1].cursors[log.toNat]
   ·rw [if_pos hh,ringStep_of hi hj] at hyes
    simp -implicitDefEqProofs [hF,sT,sR,sP,sI,-List.map_set,hh]
    refine CallT.pure (hFr m.replicas[1].cursors[log.toNat] (by omega) (by omega)) (by simp [hF]) (ok_ring2 _ _ _) ?_
    simp -implicitDefEqProofs [hF,sT,sR,sP,sI,-List.map_set,hh]
    refine CallT.body (F := m110) rfl rfl rfl rfl ?_
    simp -implicitDefEqProofs [m110,hF,sT,sR,sP,sI,-List.map_set,hh]
    refine CallT.bodyQ (F := m71) rfl rfl rfl rfl rfl ?_
    simp -implicitDefEqProofs [m71,hF,sT,sR,sP,sI,-List.map_set,hh]
    exact hyes _ ⟨⟨_,[[(log.toNat,3)]],by simp [t1,hn0,sR,-List.map_set],rfl,rowZ_rings _ true⟩,⟨_,[],by simp [t2,hn0],rfl,rowZ_reps _ true⟩,⟨_,[],by simp [t3,hn0,hlg,sT,-List.map_set],rfl,rowZ_thrs _ true⟩,⟨4,m.rings.length,m.replicas.length,m.threads.length,m.history.length,by simp [t4,hn0],by omega,by omega,by omega,by simp [t5,hn0,hrm]⟩⟩
   ·rw [if_neg hh] at hyes
    simp -implicitDefEqProofs [hF,sT,sR,sP,sI,-List.map_set,hh]
    refine CallT.pure hIx (by simp [hn0]) rfl ?_
    simp -implicitDefEqProofs [hF,sT,sR,sP,sI,-List.map_set,hh]
    by_cases hw : (1 : Int) = r
    ·have bw : ((1 : Int) == r) = true := by simp [hw]
     rw [if_pos (.inl hw)] at hyes
     simp -implicitDefEqProofs [hF,sT,sR,sP,sI,-List.map_set,hh,bw]
     refine x_Next m 1 log t r h ht' _ ⟨by simp [t1,hn0,sR,-List.map_set],by simp [t2,hn0],by simp [t3,hn0,hlg,sT,-List.map_set],by simp [t4,hn0],by simp [t5,hn0,hrm],by simp; omega⟩ _ (fun b T1 hd => ?_)
     simp -implicitDefEqProofs
     exact hyes _ (hrm ▸ hd)
    ·have bw : ((1 : Int) == r) = false := by simp [hw]
     simp -implicitDefEqProofs [hF,sT,sR,sP,sI,-List.map_set,hh,bw]
     refine CallT.bodyQ (F := m134) rfl rfl rfl rfl rfl ?_
     simp -implicitDefEqProofs [m134,hF,sT,sR,sP,sI,-List.map_set,hh,bw,hlk1,hle1,zl1,glk1]
     refine CallT.bodyQ (F := m71) rfl rfl rfl rfl rfl ?_
     simp -implicitDefEqProofs [m71,hF,sT,sR,sP,sI,-List.map_set,hh,bw,hlk1,hle1,zl1,glk1]
     by_cases hkk : m.replicas[1].locks[log.toNat] = 0
     ·have bk : (m.replicas[1].locks[log.toNat] == 0) = true := by simp [hkk]
      rw [if_pos (.inr (by rw [elk1]; exact hkk))] at hyes
      simp -implicitDefEqProofs [hF,sT,sR,sP,sI,-List.map_set,bk]
      refine x_Next m 1 log t r h ht' _ ⟨by simp [t1,hn0,sR,-List.map_set],by simp [t2,hn0],by simp [t3,hn0,hlg,sT,-List.map_set],by simp [t4,hn0],by simp [t5,hn0,hrm],by simp; omega⟩ _ (fun b T1 hd => ?_)
      simp -implicitDefEqProofs
      exact hyes _ (hrm ▸ hd)
     ·have bk : (m.replicas[1].locks[log.toNat] == 0) = false := by simp [hkk]
      rw [if_neg (fun e => e.elim hw (fun e => hkk (by rw [← elk1]; exact e)))] at hyes
      simp -implicitDefEqProofs [hF,sT,sR,sP,sI,-List.map_set,bk]
      refine hyes _ (StT.dn ?_)
      exact ⟨by simp [t1,hn0,sR,-List.map_set],by simp [t2,hn0],by simp [t3,hn0,hlg,sT,-List.map_set],by simp [t4,hn0],by simp [t5,hn0,hrm],by simp; omega⟩
  ·rw [leastR_one (by rw [ec0,ec1]; exact fun e => hlt e.2),ec0] at hyes
   have hLs := c_Least2 m.replicas[0].cursors[log.toNat] m.replicas[1].cursors[log.toNat] cu0.1 cu1.1
   rw [if_neg hlt] at hLs
   have hIx := c_Index2a m.replicas[0].cursors[log.toNat] m.replicas[1].cursors[log.toNat]
   unfold spaceW at hyes
   rw [er,hrm] at hyes
   refine CallT.body (F := m96) rfl rfl rfl rfl ?_
   simp -implicitDefEqProofs [m96,hF,sT,sR,sP,sI,-List.map_set]
   refine CallT.bodyQ (F := m71) rfl rfl rfl rfl rfl ?_
   simp -implicitDefEqProofs [m71,hF,sT,sR,sP,sI,-List.map_set]
   refine WCT.unroll ?_
   simp -implicitDefEqProofs [hF,sT,sR,sP,sI,-List.map_set]
   refine WCT.unroll ?_
   simp -implicitDefEqProofs [hF,sT,sR,sP,sI,-List.map_set]
   refine WCT.unroll ?_
   simp -implicitDefEqProofs [hF,sT,sR,sP,sI,-List.map_set]
   refine CallT.pure hLs (by simp [hn0]) rfl ?_
   simp -implicitDefEqProofs [hF,sT,sR,sP,sI,-List.map_set]
   refine CallT.bodyQ (F := m130) rfl rfl rfl rfl rfl ?_
   simp -implicitDefEqProofs [m130,hF,sT,sR,sP,sI,-List.map_set]
   refine CallT.bodyQ (F := m71) rfl rfl rfl rfl rfl ?_
   simp -implicitDefEqProofs [m71,hF,sT,sR,sP,sI,-List.map_set]
   by_cases hh : m.rings[log.toNat].head < m.replicas[0].cursors[log.toNat]
   ·rw [if_pos hh,ringStep_of hi hj] at hyes
    simp -implicitDefEqProofs [hF,sT,sR,sP,sI,-List.map_set,hh]
    refine CallT.pure (hFr m.replicas[0].cursors[log.toNat] (by omega) (by omega)) (by simp [hF]) (ok_ring2 _ _ _) ?_
    simp -implicitDefEqProofs [hF,sT,sR,sP,sI,-List.map_set,hh]
    refine CallT.body (F := m110) rfl rfl rfl rfl ?_
    simp -implicitDefEqProofs [m110,hF,sT,sR,sP,sI,-List.map_set,hh]
    refine CallT.bodyQ (F := m71) rfl rfl rfl rfl rfl ?_
    simp -implicitDefEqProofs [m71,hF,sT,sR,sP,sI,-List.map_set,hh]
    exact hyes _ ⟨⟨_,[[(log.toNat,3)]],by simp [t1,hn0,sR,-List.map_set],rfl,rowZ_rings _ true⟩,⟨_,[],by simp [t2,hn0],rfl,rowZ_reps _ true⟩,⟨_,[],by simp [t3,hn0,hlg,sT,-List.map_set],rfl,rowZ_thrs _ true⟩,⟨4,m.rings.length,m.replicas.length,m.threads.length,m.history.length,by simp [t4,hn0],by omega,by omega,by omega,by simp [t5,hn0,hrm]⟩⟩
   ·rw [if_neg hh] at hyes
    simp -implicitDefEqProofs [hF,sT,sR,sP,sI,-List.map_set,hh]
    refine CallT.pure hIx (by simp [hn0]) rfl ?_
    simp -implicitDefEqProofs [hF,sT,sR,sP,sI,-List.map_set,hh]
    by_cases hw : (0 : Int) = r
    ·have bw : ((0 : Int) == r) = true := by simp [hw]
     rw [if_pos (.inl hw)] at hyes
     simp -implicitDefEqProofs [hF,sT,sR,sP,sI,-List.map_set,hh,bw]
     refine x_Next m 0 log t r h ht _ ⟨by simp [t1,hn0,sR,-List.map_set],by simp [t2,hn0],by simp [t3,hn0,hlg,sT,-List.map_set],by simp [t4,hn0],by simp [t5,hn0,hrm],by simp; omega⟩ _ (fun b T1 hd => ?_)
     simp -implicitDefEqProofs
     exact hyes _ (hrm ▸ hd)
    ·have bw : ((0 : Int) == r) = false := by simp [hw]
     simp -implicitDefEqProofs [hF,sT,sR,sP,sI,-List.map_set,hh,bw]
     refine CallT.bodyQ (F := m134) rfl rfl rfl rfl rfl ?_
     simp -implicitDefEqProofs [m134,hF,sT,sR,sP,sI,-List.map_set,hh,bw,hlk0,hle0,zl0,glk0]
     refine CallT.bodyQ (F := m71) rfl rfl rfl rfl rfl ?_
     simp -implicitDefEqProofs [m71,hF,sT,sR,sP,sI,-List.map_set,hh,bw,hlk0,hle0,zl0,glk0]
     by_cases hkk : m.replicas[0].locks[log.toNat] = 0
     ·have bk : (m.replicas[0].locks[log.toNat] == 0) = true := by simp [hkk]
      rw [if_pos (.inr (by rw [elk0]; exact hkk))] at hyes
      simp -implicitDefEqProofs [hF,sT,sR,sP,sI,-List.map_set,bk]
      refine x_Next m 0 log t r h ht _ ⟨by simp [t1,hn0,sR,-List.map_set],by simp [t2,hn0],by simp [t3,hn0,hlg,sT,-List.map_set],by simp [t4,hn0],by simp [t5,hn0,hrm],by simp; omega⟩ _ (fun b T1 hd => ?_)
      simp -implicitDefEqProofs
      exact hyes _ (hrm ▸ hd)
     ·have bk : (m.replicas[0].locks[log.toNat] == 0) = false := by simp [hkk]
      rw [if_neg (fun e => e.elim hw (fun e => hkk (by rw [← elk0]; exact e)))] at hyes
      simp -implicitDefEqProofs [hF,sT,sR,sP,sI,-List.map_set,bk]
      refine hyes _ (StT.dn ?_)
      exact ⟨by simp [t1,hn0,sR,-List.map_set],by simp [t2,hn0],by simp [t3,hn0,hlg,sT,-List.map_set],by simp [t4,hn0],by simp [t5,hn0,hrm],by simp; omega⟩
 ·have d1 : ¬ (1 : Int) < m.replicas.length := by have := hc.2.1; omega
  rw [leastR_one (fun e => h2 e.1),ec0] at hyes
  have hLs := c_Least1 m.replicas[0].cursors[log.toNat] cu0.1
  have hIx := c_Index1 m.replicas[0].cursors[log.toNat]
  unfold spaceW at hyes
  rw [er,hrm] at hyes
  refine CallT.body (F := m96) rfl rfl rfl rfl ?_
  simp -implicitDefEqProofs [m96,hF,sT,sR,sP,sI,-List.map_set,d1]
  refine CallT.bodyQ (F := m71) rfl rfl rfl rfl rfl ?_
  simp -implicitDefEqProofs [m71,hF,sT,sR,sP,sI,-List.map_set,d1]
  refine WCT.unroll ?_
  simp -implicitDefEqProofs [hF,sT,sR,sP,sI,-List.map_set,d1]
  refine WCT.unroll ?_
  simp -implicitDefEqProofs [hF,sT,sR,sP,sI,-List.map_set,d1]
  refine CallT.pure hLs (by simp [hn0]) rfl ?_
  simp -implicitDefEqProofs [hF,sT,sR,sP,sI,-List.map_set,d1]
  refine CallT.bodyQ (F := m130) rfl rfl rfl rfl rfl ?_
  simp -implicitDefEqProofs [m130,hF,sT,sR,sP,sI,-List.map_set,d1]
  refine CallT.bodyQ (F := m71) rfl rfl rfl rfl rfl ?_
  simp -implicitDefEqProofs [m71,hF,sT,sR,sP,sI,-List.map_set,d1]
  by_cases hh : m.rings[log.toNat].head < m.replicas[0].cursors[log.toNat]
  ·rw [if_pos hh,ringStep_of hi hj] at hyes
   simp -implicitDefEqProofs [hF,sT,sR,sP,sI,-List.map_set,d1,hh]
   refine CallT.pure (hFr m.replicas[0].cursors[log.toNat] (by omega) (by omega)) (by simp [hF]) (ok_ring2 _ _ _) ?_
   simp -implicitDefEqProofs [hF,sT,sR,sP,sI,-List.map_set,d1,hh]
   refine CallT.body (F := m110) rfl rfl rfl rfl ?_
   simp -implicitDefEqProofs [m110,hF,sT,sR,sP,sI,-List.map_set,d1,hh]
   refine CallT.bodyQ (F := m71) rfl rfl rfl rfl rfl ?_
   simp -implicitDefEqProofs [m71,hF,sT,sR,sP,sI,-List.map_set,d1,hh]
   exact hyes _ ⟨⟨_,[[(log.toNat,3)]],by simp [t1,hn0,sR,-List.map_set],rfl,rowZ_rings _ true⟩,⟨_,[],by simp [t2,hn0],rfl,rowZ_reps _ true⟩,⟨_,[],by simp [t3,hn0,hlg,sT,-List.map_set],rfl,rowZ_thrs _ true⟩,⟨4,m.rings.length,m.replicas.length,m.threads.length,m.history.length,by simp [t4,hn0],by omega,by omega,by omega,by simp [t5,hn0,hrm]⟩⟩
  ·rw [if_neg hh] at hyes
   simp -implicitDefEqProofs [hF,sT,sR,sP,sI,-List.map_set,d1,hh]
   refine CallT.pure hIx (by simp [hn0]) rfl ?_
   simp -implicitDefEqProofs [hF,sT,sR,sP,sI,-List.map_set,d1,hh]
   by_cases hw : (0 : Int) = r
   ·have bw : ((0 : Int) == r) = true := by simp [hw]
    rw [if_pos (.inl hw)] at hyes
    simp -implicitDefEqProofs [hF,sT,sR,sP,sI,-List.map_set,d1,hh,bw]
    refine x_Next m 0 log t r h ht _ ⟨by simp [t1,hn0,sR,-List.map_set],by simp [t2,hn0],by simp [t3,hn0,hlg,sT,-List.map_set],by simp [t4,hn0],by simp [t5,hn0,hrm],by simp; omega⟩ _ (fun b T1 hd => ?_)
    simp -implicitDefEqProofs
    exact hyes _ (hrm ▸ hd)
   ·have bw : ((0 : Int) == r) = false := by simp [hw]
    simp -implicitDefEqProofs [hF,sT,sR,sP,sI,-List.map_set,d1,hh,bw]
    refine CallT.bodyQ (F := m134) rfl rfl rfl rfl rfl ?_
    simp -implicitDefEqProofs [m134,hF,sT,sR,sP,sI,-List.map_set,d1,hh,bw,hlk0,hle0,zl0,glk0]
    refine CallT.bodyQ (F := m71) rfl rfl rfl rfl rfl ?_
    simp -implicitDefEqProofs [m71,hF,sT,sR,sP,sI,-List.map_set,d1,hh,bw,hlk0,hle0,zl0,glk0]
    by_cases hkk : m.replicas[0].locks[log.toNat] = 0
    ·have bk : (m.replicas[0].locks[log.toNat] == 0) = true := by simp [hkk]
     rw [if_pos (.inr (by rw [elk0]; exact hkk))] at hyes
     simp -implicitDefEqProofs [hF,sT,sR,sP,sI,-List.map_set,d1,bk]
     refine x_Next m 0 log t r h ht _ ⟨by simp [t1,hn0,sR,-List.map_set],by simp [t2,hn0],by simp [t3,hn0,hlg,sT,-List.map_set],by simp [t4,hn0],by simp [t5,hn0,hrm],by simp; omega⟩ _ (fun b T1 hd => ?_)
     simp -implicitDefEqProofs
     exact hyes _ (hrm ▸ hd)
    ·have bk : (m.replicas[0].locks[log.toNat] == 0) = false := by simp [hkk]
     rw [if_neg (fun e => e.elim hw (fun e => hkk (by rw [← elk0]; exact e)))] at hyes
     simp -implicitDefEqProofs [hF,sT,sR,sP,sI,-List.map_set,d1,bk]
     refine hyes _ (StT.dn ?_)
     exact ⟨by simp [t1,hn0,sR,-List.map_set],by simp [t2,hn0],by simp [t3,hn0,hlg,sT,-List.map_set],by simp [t4,hn0],by simp [t5,hn0,hrm],by simp; omega⟩

end Go.Ab

namespace Go.Ab


end Go.Ab

namespace Go.Ab

end Go.Ab

namespace Go.Ab

set_option maxHeartbeats 4000000 in
theorem x_claimDoes (m : Machine) (t : Int) (h : okM m) (hat : atP m t) (T : TH) (hT : StT T m t (ownOf m t)) (K : TV → TH → Prop) (hyes : (claimM m t).2 = 0 → ∀ T1,DnT T1 (claimM m t).1 t (ownOf m t) → K (.a (.bool true)) T1) (hno : ¬ (claimM m t).2 = 0 → ∀ T1,K (.a (.bool false)) T1) : CallT tab false 43 [.pt 5 [] 0 0 0] T K := by
 obtain ⟨r,log,hi,hri,hj,hk,hlk,hrm,et,hlg,hown,hlog,hA,hF⟩ := wk h hat
 have hT0 := hT
 obtain ⟨t1,t2,t3,t4,t5,nx⟩ := hT
 have hn0 : ¬ T.next = 0 ∧ ¬ T.next = 1 ∧ ¬ T.next = 2 ∧ ¬ T.next = 3 ∧ ¬ T.next = 4 ∧ ¬ T.next = 5 := by omega
 have hF := And.intro hF (And.intro t1 (And.intro t2 (And.intro t3 (And.intro t4 (And.intro t5 hn0)))))
 by_cases hb : m.threads[t.toNat].batch = []
 ·have hl : ¬ claimP m t := fun e => e.2 (by rw [et]; exact hb)
  rw [claimM_no hl] at hno
  refine CallT.body (F := m43) rfl rfl rfl rfl ?_
  simp -implicitDefEqProofs [m43,hF,hb]
  refine CallT.bodyQ (F := m71) rfl rfl rfl rfl rfl ?_
  simp -implicitDefEqProofs [m71,hF,hb]
  exact hno (by decide) _
 ·have hl : claimP m t := ⟨hat,by rw [et]; exact hb⟩
  have zb : 0 < m.threads[t.toNat].batch.length := Nat.pos_of_ne_zero fun e => hb (List.length_eq_zero_iff.1 e)
  have zc : (0 : Int) < m.threads[t.toNat].batch.length := by omega
  rw [claimM_yes hl] at hyes hno
  by_cases s4 : (thrAt m t.toNat).step = 4
  ·rw [s4] at hyes hno
   rw [et] at s4
   have e4 : ((4 : Int) == m.threads[t.toNat].step) = true := by simp [s4]
   refine CallT.body (F := m43) rfl rfl rfl rfl ?_
   simp -implicitDefEqProofs [m43,hF,zb,zc,e4]
   refine CallT.bodyQ (F := m71) rfl rfl rfl rfl rfl ?_
   simp -implicitDefEqProofs [m71,hF,zb,zc,e4]
   refine CallT.body (F := m72) rfl rfl rfl rfl ?_
   simp -implicitDefEqProofs [m72,hF,zb,zc,e4]
   refine CallT.bodyQ (F := m71) rfl rfl rfl rfl rfl ?_
   simp -implicitDefEqProofs [m71,hF,zb,zc,e4]
   refine x_load m t h hl _ ⟨by simp [hF],by simp [hF],by simp [hF],by simp [hF],by simp [hF],by simp; omega⟩ _ (fun he T1 hd => ?_) (fun he T1 => ?_)
   ·simp -implicitDefEqProofs
    exact hyes he T1 hd
   ·simp -implicitDefEqProofs
    exact hno he T1
  by_cases s5 : (thrAt m t.toNat).step = 5
  ·rw [s5] at hyes hno
   rw [et] at s4 s5
   have e4 : ((4 : Int) == m.threads[t.toNat].step) = false := by simp [s5]
   have e5 : ((5 : Int) == m.threads[t.toNat].step) = true := by simp [s5]
   refine CallT.body (F := m43) rfl rfl rfl rfl ?_
   simp -implicitDefEqProofs [m43,hF,zb,zc,e4,e5]
   refine CallT.bodyQ (F := m71) rfl rfl rfl rfl rfl ?_
   simp -implicitDefEqProofs [m71,hF,zb,zc,e4,e5]
   refine CallT.body (F := m72) rfl rfl rfl rfl ?_
   simp -implicitDefEqProofs [m72,hF,zb,zc,e4,e5]
   refine CallT.bodyQ (F := m71) rfl rfl rfl rfl rfl ?_
   simp -implicitDefEqProofs [m71,hF,zb,zc,e4,e5]
   refine x_room m t h hl _ ⟨by simp [hF],by simp [hF],by simp [hF],by simp [hF],by simp [hF],by simp; omega⟩ _ (fun he T1 hd => ?_) (fun he T1 => ?_)
   ·simp -implicitDefEqProofs
    exact hyes he T1 hd
   ·simp -implicitDefEqProofs
    exact hno he T1
  by_cases s6 : (thrAt m t.toNat).step = 6
  ·rw [s6] at hyes hno
   rw [et] at s4 s5 s6
   have e4 : ((4 : Int) == m.threads[t.toNat].step) = false := by simp [s6]
   have e5 : ((5 : Int) == m.threads[t.toNat].step) = false := by simp [s6]
   have e6 : ((6 : Int) == m.threads[t.toNat].step) = true := by simp [s6]
   refine CallT.body (F := m43) rfl rfl rfl rfl ?_
   simp -implicitDefEqProofs [m43,hF,zb,zc,e4,e5,e6]
   refine CallT.bodyQ (F := m71) rfl rfl rfl rfl rfl ?_
   simp -implicitDefEqProofs [m71,hF,zb,zc,e4,e5,e6]
   refine CallT.body (F := m72) rfl rfl rfl rfl ?_
   simp -implicitDefEqProofs [m72,hF,zb,zc,e4,e5,e6]
   refine CallT.bodyQ (F := m71) rfl rfl rfl rfl rfl ?_
   simp -implicitDefEqProofs [m71,hF,zb,zc,e4,e5,e6]
   refine x_claim m t h hl _ ⟨by simp [hF],by simp [hF],by simp [hF],by simp [hF],by simp [hF],by simp; omega⟩ _ (fun he T1 hd => ?_) (fun he T1 => ?_)
   ·simp -implicitDefEqProofs
    exact hyes he T1 hd
   ·simp -implicitDefEqProofs
    exact hno he T1
  by_cases s7 : (thrAt m t.toNat).step = 7
  ·rw [s7] at hyes hno
   rw [et] at s4 s5 s6 s7
   have e4 : ((4 : Int) == m.threads[t.toNat].step) = false := by simp [s7]
   have e5 : ((5 : Int) == m.threads[t.toNat].step) = false := by simp [s7]
   have e6 : ((6 : Int) == m.threads[t.toNat].step) = false := by simp [s7]
   have e7 : ((7 : Int) == m.threads[t.toNat].step) = true := by simp [s7]
   refine CallT.body (F := m43) rfl rfl rfl rfl ?_
   simp -implicitDefEqProofs [m43,hF,zb,zc,e4,e5,e6,e7]
   refine CallT.bodyQ (F := m71) rfl rfl rfl rfl rfl ?_
   simp -implicitDefEqProofs [m71,hF,zb,zc,e4,e5,e6,e7]
   refine CallT.body (F := m72) rfl rfl rfl rfl ?_
   simp -implicitDefEqProofs [m72,hF,zb,zc,e4,e5,e6,e7]
   refine CallT.bodyQ (F := m71) rfl rfl rfl rfl rfl ?_
   simp -implicitDefEqProofs [m71,hF,zb,zc,e4,e5,e6,e7]
   refine x_publish m t h hl _ ⟨by simp [hF],by simp [hF],by simp [hF],by simp [hF],by simp [hF],by simp; omega⟩ _ (fun he T1 hd => ?_) (fun he T1 => ?_)
   ·simp -implicitDefEqProofs
    exact hyes he T1 hd
   ·simp -implicitDefEqProofs
    exact hno he T1
  rw [show claimX m t (thrAt m t.toNat) (ringAt m (thrAt m t.toNat).log.toNat) (thrAt m t.toNat).step = (noMachine,1900) by simp [claimX,s4,s5,s6,s7]] at hno
  rw [et] at s4 s5 s6 s7
  have e4 : ((4 : Int) == m.threads[t.toNat].step) = false := by simp; omega
  have e5 : ((5 : Int) == m.threads[t.toNat].step) = false := by simp; omega
  have e6 : ((6 : Int) == m.threads[t.toNat].step) = false := by simp; omega
  have e7 : ((7 : Int) == m.threads[t.toNat].step) = false := by simp; omega
  refine CallT.body (F := m43) rfl rfl rfl rfl ?_
  simp -implicitDefEqProofs [m43,hF,zb,zc,e4,e5,e6,e7]
  refine CallT.bodyQ (F := m71) rfl rfl rfl rfl rfl ?_
  simp -implicitDefEqProofs [m71,hF,zb,zc,e4,e5,e6,e7]
  refine CallT.body (F := m72) rfl rfl rfl rfl ?_
  simp -implicitDefEqProofs [m72,hF,zb,zc,e4,e5,e6,e7]
  refine CallT.bodyQ (F := m71) rfl rfl rfl rfl rfl ?_
  simp -implicitDefEqProofs [m71,hF,zb,zc,e4,e5,e6,e7]
  exact hno (by decide) _

theorem claim_err (m : Machine) (t : Int) (he : ¬ (claimM m t).2 = 0) : claimM m t = (noMachine,1900) := by
 by_cases hl : claimP m t
 ·rw [claimM_yes hl] at he ⊢
  revert he
  unfold claimX loadX reserveX publishX
  repeat' split
  all_goals first | (intro he; exact absurd rfl he) | (intro _; rfl)
 ·exact claimM_no hl

set_option maxHeartbeats 4000000 in
theorem c_ClaimStep (m : Machine) (t : Int) (h : okM m) : PCall tab 17 [.agg (encMachine false m),.int .i64 t] (.tup [.agg (encMachine false (claimM m t).1),.int .i64 (claimM m t).2]) := by
 by_cases hat : atP m t
 ·have hc := hat.1.1
  have h1 := hat.1
  have herr : ¬ (claimM m t).2 = 0 → claimM m t = (noMachine,1900) := claim_err m t
  refine PCall.ofZ (F := m17) rfl rfl rfl ?_
  simp -implicitDefEqProofs [m17]
  refine CallT.body (F := m42) rfl rfl rfl rfl ?_
  simp -implicitDefEqProofs [m42]
  refine CallT.bool2 (by simp) (c_boardThread m t h) (fun hb => ?_) (fun hb => absurd hat hb)
  simp -implicitDefEqProofs
  refine CallT.pure (c_cfgReplica m.config t ⟨hc,hat.2.1,hat.2.2⟩) (by simp) rfl ?_
  rw [show t.tmod m.config.replicas = ownOf m t from rfl]
  simp -implicitDefEqProofs
  refine CallT.pure (c_startCopy m h (whole_of h1)) (by simp) (ok_mach _) ?_
  simp -implicitDefEqProofs
  refine x_claimDoes m t h hat _ ⟨by simp,by simp,by simp,by simp,by simp,by simp⟩ _ (fun he T1 hd => ?_) (fun he T1 => ?_)
  ·generalize claimM m t = A at he hd ⊢
   obtain ⟨D,e⟩ := A
   dsimp only at he hd ⊢
   subst he
   obtain ⟨⟨R1,L1,u1,v1,z1⟩,⟨R2,L2,u2,v2,z2⟩,⟨R3,L3,u3,v3,z3⟩,⟨q,n1,n2,n3,n4,u4,q1,q2,q3,u5⟩⟩ := hd
   have q1s := Ne.symm q1
   have q2s := Ne.symm q2
   have q3s := Ne.symm q3
   simp -implicitDefEqProofs [u1,u2,u3,u4,u5,v1,v2,v3,q1,q2,q3,q1s,q2s,q3s,unzT,unzP,okT,okP]
   exact ⟨⟨z1.1,z2.1,z3.1⟩,z1.2,z2.2,z3.2⟩
  ·rw [herr he]
   simp -implicitDefEqProofs [unzT,unzP,okT,okP]
 ·rw [claimM_no fun e => hat e.1]
  refine PCall.mach1Z ?_
  refine PCall.of (F := m17) rfl rfl rfl (ok_mach1 _ _) ?_
  simp -implicitDefEqProofs [m17]
  refine CallT.body (F := m42) rfl rfl rfl rfl ?_
  simp -implicitDefEqProofs [m42]
  refine CallT.bool2 (by simp) (c_boardThread m t h) (fun hb => absurd hb hat) (fun hb => ?_)
  simp -implicitDefEqProofs

end Go.Ab

namespace Go.Ab

theorem c_awake19 : PCall tab 22 [] (.bool true) := PCall.closed 60 rfl rfl rfl (by kernel_rfl)

end Go.Ab

namespace Go.Ab

end Go.Ab

namespace Go.Ab

theorem thr_one19 {m : Machine} {r g : Int} (h : thereP m r g) {t : Nat} (hi : t < m.threads.length) : (oneM m r g).1.rings = m.rings ∧ (oneM m r g).1.threads.length = m.threads.length ∧ ∃ h : t < (oneM m r g).1.threads.length,((oneM m r g).1.threads[t]).step = m.threads[t].step := by
 rw [oneM_yes h]
 split
 ·unfold nextM
  dsimp only
  split
  ·refine ⟨rfl,by simp,by simpa using hi, ?_⟩
   simp only [List.getElem_modify]
   split <;> rfl
  ·exact ⟨rfl,rfl,hi,rfl⟩
 ·exact ⟨rfl,rfl,hi,rfl⟩

structure FencedOK (m : Machine) (t : Int) (D : Machine) : Prop where
 rings : D.rings = m.rings
 thrs : D.threads.length = m.threads.length
 step : ∃ h : t.toNat < D.threads.length,D.threads[t.toNat].step = 4

theorem fenced {m : Machine} {t : Int} (hf : (ringAt m (thrAt m t.toNat).log.toNat).fence ≠ 0) (h5 : (thrAt m t.toNat).step ≠ 5) (h7 : (thrAt m t.toNat).step ≠ 7) : ((claimM m t).2 = 0 ∧ FencedOK m t (claimM m t).1) ∨ claimM m t = (noMachine,1900) := by
 by_cases hl : claimP m t
 ·rw [claimM_yes hl]
  obtain ⟨hi,ht0,ht1,hlog,hown⟩ := at_thr hl.1
  have et := thrAt_of hi
  have ht : thereP m (ownOf m t) (thrAt m t.toNat).log := ⟨hl.1.1,hown,by rw [et]; exact hlog⟩
  unfold claimX
  by_cases s4 : (thrAt m t.toNat).step = 4
  ·rw [if_pos s4]
   left
   unfold loadX
   rw [if_pos hf]
   obtain ⟨k1,k2,k3,k4⟩ := thr_one19 ht hi
   exact ⟨rfl,k1,k2,k3,by rw [k4,← et]; exact s4⟩
  rw [if_neg s4,if_neg h5]
  by_cases s6 : (thrAt m t.toNat).step = 6
  ·rw [if_pos s6]
   left
   unfold reserveX
   have hc : (ringAt m (thrAt m t.toNat).log.toNat).tail ≠ (thrAt m t.toNat).seen ∨ (reserveM (ringAt m (thrAt m t.toNat).log.toNat) (thrAt m t.toNat).batch.length).2.2 ≠ 0 := by
    right
    unfold reserveM
    split
    ·rw [if_neg (fun e => hf e.1)]
     decide
    ·decide
   rw [if_pos hc]
   refine ⟨rfl,rfl,by unfold stepM setThread; simp, ?_⟩
   rw [stepM_of hi]
   exact ⟨by simpa using hi,by simp⟩
  rw [if_neg s6,if_neg h7]
  exact .inr rfl
 ·exact .inr (claimM_no hl)

set_option maxRecDepth 20000 in
set_option maxHeartbeats 8000000 in
theorem l_ClaimFenced (m : Machine) (t fe : Int) (h : okM m) (hin : ∀ r ∈ m.rings,inR r.head) (_ : inR t) (_ : inR fe) : CallT tab false 6 [.a (.agg (encMachine false m)),.a (.int .i64 t),.a (.int .i64 fe)] TH.none (fun v _ => v = .a (.bool true)) := by
 refine CallT.body (F := m6) rfl rfl rfl rfl ?_
 simp -implicitDefEqProofs [m6]
 refine CallT.pure c_awake19 rfl rfl ?_
 simp -implicitDefEqProofs
 refine CallT.bool2 (by simp) (c_May13 m h hin) (fun hm => ?_) (fun hm => ?_)
 ·by_cases n1 : t < 0
  ·simp -implicitDefEqProofs [n1]
  by_cases n2 : (m.threads.length : Int) ≤ t
  ·simp -implicitDefEqProofs [n1,n2]
  have hn := hm.2.1
  simp only [macNums] at hn
  have hat : atP m t := ⟨hm,by omega,by omega⟩
  obtain ⟨r,log,hi,hri,hj,hk,hlk,hrm,et,hlg,hown,hlog,hA,hF⟩ := wk h hat
  by_cases s7 : m.threads[t.toNat].step = 7
  ·have e7 : (m.threads[t.toNat].step == 7) = true := by simp [s7]
   simp -implicitDefEqProofs [n1,n2,hF,e7]
  by_cases s5 : m.threads[t.toNat].step = 5
  ·have e7 : (m.threads[t.toNat].step == 7) = false := by simp [s7]
   have e5 : (m.threads[t.toNat].step == 5) = true := by simp [s5]
   simp -implicitDefEqProofs [n1,n2,hF,e7,e5]
  have e7 : (m.threads[t.toNat].step == 7) = false := by simp [s7]
  have e5 : (m.threads[t.toNat].step == 5) = false := by simp [s5]
  have hct := hm.1.2.2.2.1
  have wt : IntKind.wrap .u64 m.config.threads = m.config.threads := by rw [wrap_u64]; omega
  have wm : Int.tmod (fe % 18446744073709551616) m.config.threads = fe % 18446744073709551616 % m.config.threads := Int.tmod_eq_emod_of_nonneg (by omega)
  have q0 : 0 ≤ fe % 18446744073709551616 % m.config.threads := Int.emod_nonneg _ (by omega)
  have q1 : fe % 18446744073709551616 % m.config.threads < m.config.threads := Int.emod_lt_of_pos _ (by omega)
  obtain ⟨f,hf⟩ : ∃ f,fe % 18446744073709551616 % m.config.threads = f := ⟨_,rfl⟩
  rw [hf] at q0 q1 wm
  have wf : IntKind.wrap .i64 f = f := wrap_of (by omega) (by omega)
  have wg : IntKind.wrap .i64 (1 + f) = 1 + f := wrap_of (by omega) (by omega)
  have nz : ¬ m.config.threads = 0 := by omega
  obtain ⟨X,hX⟩ : ∃ X,({ m with rings := m.rings.set log.toNat { m.rings[log.toNat] with fence := 1 + f } } : Machine) = X := ⟨_,rfl⟩
  have hX2 : X = setRing m log.toNat { m.rings[log.toNat] with fence := 1 + f } := by rw [setRing_of hj]; exact hX.symm
  have okX : okM X := by rw [hX2]; exact okM_ring h _ hA.ol
  have hjX : log.toNat < X.rings.length := by rw [← hX]; simpa using hj
  have eX : X.rings[log.toNat] = { m.rings[log.toNat] with fence := 1 + f } := by simp only [← hX,List.getElem_set_self]
  have tX : thrAt X t.toNat = m.threads[t.toNat] := by rw [← et,← hX]; rfl
  have rX : ringAt X (thrAt X t.toNat).log.toNat = { m.rings[log.toNat] with fence := 1 + f } := by rw [tX,hlg,ringAt_of hjX,eX]
  have hfen := fenced (m := X) (t := t) (by rw [rX]; show 1 + f ≠ 0; omega) (by rw [tX]; exact s5) (by rw [tX]; exact s7)
  have hS := c_ClaimStep X t okX
  generalize claimM X t = A at hfen hS
  obtain ⟨D,e⟩ := A
  dsimp only at hfen hS
  have hG := And.intro hF (And.intro n1 (And.intro n2 (And.intro e7 (And.intro e5 (And.intro wt (And.intro wm (And.intro wf (And.intro wg nz))))))))
  simp -implicitDefEqProofs [hG]
  refine CallT.pure (c_lCopyMachine m h) (by simp) (ok_mach m) ?_
  simp -implicitDefEqProofs [hG,wrap_u64,sR,-List.map_set]
  rw [← hX] at hS
  refine CallT.pure hS (by simp -implicitDefEqProofs [sR,-List.map_set]) (ok_mach1F _ _) ?_
  simp -implicitDefEqProofs [hG,sR,-List.map_set]
  refine CallT.pure (c_Num e) (by simp) rfl ?_
  rcases hfen with ⟨rfl,hfen⟩ | hfen
  ·obtain ⟨f1,f2,f3,f4⟩ := hfen
   have gd := List.getElem?_eq_getElem f3
   have z1 : log < (D.rings.length : Int) := by rw [f1,← hX]; simp; exact hlog.2
   have z2 : t < (D.threads.length : Int) := by rw [f2,← hX]; simp; have := hF.1.2.1; omega
   have z3 : log.toNat < D.rings.length := by rw [f1]; exact hjX
   have z4 := List.getElem?_eq_getElem z3
   have e6 : D.rings[log.toNat] = { m.rings[log.toNat] with fence := 1 + f } := by
    have e7 : D.rings[log.toNat]? = some { m.rings[log.toNat] with fence := 1 + f } := by rw [f1]; exact (List.getElem?_eq_getElem hjX).trans (congrArg some eX)
    rw [z4] at e7
    exact Option.some.inj e7
   have z5 : 0 < D.threads.length := by omega
   have z6 : 0 < D.rings.length := by omega
   have hH := And.intro f3 (And.intro gd (And.intro z1 (And.intro z2 (And.intro z3 (And.intro z4 (And.intro z5 (And.intro z6 e6)))))))
   have hSr := c_SameRing { m.rings[log.toNat] with fence := 1 + f } { m.rings[log.toNat] with fence := 1 + f } false false hA.ol
   simp -implicitDefEqProofs [hG,hH,f4,sR,-List.map_set]
   refine CallT.bool2 (by simp -implicitDefEqProofs [hG,hH,sR,-List.map_set]) hSr (fun hb => ?_) (fun hb => absurd rfl hb)
   simp -implicitDefEqProofs [hG,hH,f4,sR,-List.map_set]
  ·cases hfen
   simp -implicitDefEqProofs
   refine CallT.bool2 (by simp) (c_SameMachine noMachine noMachine false false okM_no18) (fun hb => ?_) (fun hb => absurd rfl hb)
   simp -implicitDefEqProofs
 ·simp -implicitDefEqProofs

end Go.Ab

namespace Go.Ab
open Go.RowKit Go.ChangeShapes

theorem law_eval {M : FuncId → Option MFunc} {k : FuncId} {ts : List AV} (h : CallT M false k (ts.map .a) TH.none fun v _ => v = .a (.bool true)) : ∃ n H',eval M n k ts AH.zero = some (.bool true,H') := by
 obtain ⟨r,H',⟨n,hev⟩,v,A',T',_,hv,_,rfl⟩ := h _ AH.zero ts HR.none (VRL.atoms ts)
 cases hv
 exact ⟨n,H',hev⟩

theorem i64_range {n : Int} (h : (Lit.int .i64 n).wf = true) : -9223372036854775808 ≤ n ∧ n < 9223372036854775808 := by
 simp only [Lit.wf,Bool.and_eq_true,decide_eq_true_eq] at h
 have e1 : IntKind.i64.min = -9223372036854775808 := by decide
 have e2 : IntKind.i64.max = 9223372036854775807 := by decide
 omega

def wfI (n : Int) : Prop := (Lit.int .i64 n).wf = true
def rangeOp (o : Op) : Prop := wfI o.code ∧ wfI o.row ∧ wfI o.arg
def rangeS (s : Slot) : Prop := rangeOp s.op ∧ wfI s.thread ∧ wfI s.bit
def rangeR (r : Ring) : Prop := wfI r.head ∧ wfI r.tail ∧ wfI r.fence ∧ (∀ s ∈ r.slots,rangeS s)
def rangeI (l : List Int) : Prop := ∀ x ∈ l,wfI x
def rangeP (p : Replica) : Prop := (rangeI p.state.r0 ∧ rangeI p.state.r1 ∧ rangeI p.state.r2 ∧ rangeI p.state.r3) ∧ rangeI p.cursors ∧ rangeI p.locks
def rangeT (t : Thread) : Prop := wfI t.step ∧ rangeOp t.op ∧ wfI t.log ∧ wfI t.seen ∧ rangeI t.batch ∧ wfI t.at_ ∧ wfI t.answer ∧ rangeI t.tails
def rangeC (c : Config) : Prop := wfI c.object ∧ wfI c.replicas ∧ wfI c.logs ∧ wfI c.threads ∧ wfI c.slots
def rangeE (e : Event) : Prop := wfI e.thread ∧ rangeOp e.op ∧ wfI e.answer
/-- what a machine that is handed in is known to be -/
def rangeM (m : Machine) : Prop := rangeC m.config ∧ (∀ r ∈ m.rings, rangeR r) ∧ (∀ p ∈ m.replicas, rangeP p) ∧ (∀ t ∈ m.threads, rangeT t) ∧ (∀ e ∈ m.history, rangeE e)
theorem rangeM_heads {m : Machine} (h : rangeM m) : ∀ r ∈ m.rings,inR r.head := fun r hr => i64_range (h.2.1 r hr).1

end Go.Ab

namespace Go.Proofs.YtlpfdnfcmdikiaaGreat
open Go.ChangeShapes Go.WideShapes Go.ChangeAt Go.RowKit Go.Ab

mutual
theorem tame_of {H : Type} : ∀ (d : DataW H),Rows.uptoBulk d ≤ 1048576 → tame d = true
 | .lit l,h => by
  cases l
  case string bytes => simp only [Rows.uptoBulk] at h; simp only [tame,decide_eq_true_eq]; omega
  all_goals rfl
 | .nil,_ => rfl
 | .ptr _,_ => rfl
 | .slice es sp,h => by
  simp only [Rows.uptoBulk] at h
  obtain ⟨h1,h2⟩ := tameL_of es (by omega)
  simp only [tame,Bool.and_eq_true,decide_eq_true_eq]
  exact ⟨by omega,h1⟩
 | .agg ps,h => by
  simp only [Rows.uptoBulk] at h
  exact (tameL_of ps (by omega)).1
 | .iface _ _,_ => rfl
 | .map _,_ => rfl
 | .held _,_ => rfl
theorem tameL_of {H : Type} : ∀ (l : List (DataW H)),Rows.uptoBulkAll l ≤ 1048576 → tameL l = true ∧ l.length ≤ Rows.uptoBulkAll l
 | [],_ => ⟨rfl,by simp⟩
 | d :: r,h => by
  simp only [Rows.uptoBulkAll] at h ⊢
  obtain ⟨h1,h2⟩ := tameL_of r (by omega)
  have h3 := tame_of d (by omega)
  have h4 := bulk_pos d
  exact ⟨by simp only [tameL,h3,h1,Bool.and_self],by simp only [List.length_cons]; omega⟩
theorem bulk_pos {H : Type} : ∀ (d : DataW H),1 ≤ Rows.uptoBulk d
 | .lit l => by cases l <;> simp [Rows.uptoBulk]
 | .nil => by simp [Rows.uptoBulk]
 | .ptr _ => by simp only [Rows.uptoBulk]; omega
 | .slice _ _ => by simp only [Rows.uptoBulk]; omega
 | .agg _ => by simp only [Rows.uptoBulk]; omega
 | .iface _ _ => by simp only [Rows.uptoBulk]; omega
 | .map _ => by simp only [Rows.uptoBulk]; omega
 | .held _ => by simp [Rows.uptoBulk]
end

theorem own : ownKnob Go.Proofs.Tryz.prog.godebug = none := by kernel_rfl
theorem laidOut : laidOutB Go.Proofs.Tryz.prog = true := by kernel_rfl

section
variable (W : World)
theorem dec_i : DecS Go.Proofs.Tryz.prog W 3 encInt wfI := Dec.s (Dec.int Go.Proofs.Tryz.underlying3)
theorem dec_b : DecS Go.Proofs.Tryz.prog W 4 (fun b : Bool => [.bool b]) (fun _ => True) := Dec.s (Dec.bool Go.Proofs.Tryz.underlying4)
theorem dec_ints : DecS Go.Proofs.Tryz.prog W 44 (fun l : List Int => [.vs (l.map encInt) false]) (fun l => rangeI l ∧ lenOK l) := DecS.slice (sz := 1) Go.Proofs.Tryz.underlying44 (by kernel_rfl) (by omega) (dec_i W)
theorem dec_op : DecS Go.Proofs.Tryz.prog W 43 encOp rangeOp :=
 @DecS.struct _ _ _ _ 3 _ _ _ _ _ _ Go.Proofs.Tryz.underlying43 (by kernel_rfl) (@DecFS.cons _ _ _ _ _ 1 _ _ _ _ _ _ _ (by rfl) (by kernel_rfl) (dec_i W) (@DecFS.cons _ _ _ _ _ 1 _ _ _ _ _ _ _ (by rfl) (by kernel_rfl) (dec_i W) (@DecFS.cons _ _ _ _ _ 1 _ _ _ _ _ _ _ (by rfl) (by kernel_rfl) (dec_i W) (@DecFS.nil _ _ 3))))
  (fun a => ⟨a.1,a.2.1,a.2.2.1⟩) (fun a h => ⟨⟨h.1,h.2.1,h.2.2.1⟩,rfl⟩)
theorem dec_config : DecS Go.Proofs.Tryz.prog W 23 encConfig rangeC :=
 @DecS.struct _ _ _ _ 5 _ _ _ _ _ _ Go.Proofs.Tryz.underlying23 (by kernel_rfl) (@DecFS.cons _ _ _ _ _ 1 _ _ _ _ _ _ _ (by rfl) (by kernel_rfl) (dec_i W) (@DecFS.cons _ _ _ _ _ 1 _ _ _ _ _ _ _ (by rfl) (by kernel_rfl) (dec_i W) (@DecFS.cons _ _ _ _ _ 1 _ _ _ _ _ _ _ (by rfl) (by kernel_rfl) (dec_i W) (@DecFS.cons _ _ _ _ _ 1 _ _ _ _ _ _ _ (by rfl) (by kernel_rfl) (dec_i W) (@DecFS.cons _ _ _ _ _ 1 _ _ _ _ _ _ _ (by rfl) (by kernel_rfl) (dec_i W) (@DecFS.nil _ _ 5))))))
  (fun a => ⟨a.1,a.2.1,a.2.2.1,a.2.2.2.1,a.2.2.2.2.1⟩) (fun a h => ⟨⟨h.1,h.2.1,h.2.2.1,h.2.2.2.1,h.2.2.2.2.1⟩,rfl⟩)
theorem dec_slot : DecS Go.Proofs.Tryz.prog W 51 encSlot rangeS :=
 @DecS.struct _ _ _ _ 5 _ _ _ _ _ _ Go.Proofs.Tryz.underlying51 (by kernel_rfl) (@DecFS.cons _ _ _ _ _ 3 _ _ _ _ _ _ _ (by rfl) (by kernel_rfl) (dec_op W) (@DecFS.cons _ _ _ _ _ 1 _ _ _ _ _ _ _ (by rfl) (by kernel_rfl) (dec_i W) (@DecFS.cons _ _ _ _ _ 1 _ _ _ _ _ _ _ (by rfl) (by kernel_rfl) (dec_i W) (@DecFS.nil _ _ 5))))
  (fun a => ⟨a.1,a.2.1,a.2.2.1⟩) (fun a h => ⟨⟨h.1,h.2.1,h.2.2.1⟩,rfl⟩)
theorem dec_slots : DecS Go.Proofs.Tryz.prog W 47 (fun l : List Slot => [.vs (l.map encSlot) false]) (fun l => (∀ s ∈ l,rangeS s) ∧ lenOK l) := DecS.slice (sz := 5) Go.Proofs.Tryz.underlying47 (by kernel_rfl) (by omega) (dec_slot W)
theorem dec_ring : DecS Go.Proofs.Tryz.prog W 49 (encRing false) (fun r => rangeR r ∧ okR r) :=
 @DecS.struct _ _ _ _ 4 _ _ _ _ _ _ Go.Proofs.Tryz.underlying49 (by kernel_rfl) (@DecFS.cons _ _ _ _ _ 1 _ _ _ _ _ _ _ (by rfl) (by kernel_rfl) (dec_i W) (@DecFS.cons _ _ _ _ _ 1 _ _ _ _ _ _ _ (by rfl) (by kernel_rfl) (dec_i W) (@DecFS.cons _ _ _ _ _ 1 _ _ _ _ _ _ _ (by rfl) (by kernel_rfl) (dec_i W) (@DecFS.cons _ _ _ _ _ 1 _ _ _ _ _ _ _ (by rfl) (by kernel_rfl) (dec_slots W) (@DecFS.nil _ _ 4)))))
  (fun a => ⟨a.1,a.2.1,a.2.2.1,a.2.2.2.1⟩) (fun a h => ⟨⟨⟨h.1,h.2.1,h.2.2.1,h.2.2.2.1.1⟩,h.2.2.2.1.2⟩,rfl⟩)
theorem dec_rings : DecS Go.Proofs.Tryz.prog W 24 (fun l : List Ring => [.vs (l.map (encRing false)) false]) (fun l => (∀ s ∈ l,rangeR s ∧ okR s) ∧ lenOK l) := DecS.slice (sz := 4) Go.Proofs.Tryz.underlying24 (by kernel_rfl) (by omega) (dec_ring W)
theorem dec_rows : DecS Go.Proofs.Tryz.prog W 62 (fun l : List (List Int) => (l.map fun l : List Int => [AV.vs (l.map encInt) false]).flatten) (fun l => (∀ a ∈ l,rangeI a ∧ lenOK a) ∧ l.length = 4) := DecS.array (sz := 1) Go.Proofs.Tryz.underlying62 (by kernel_rfl) (by kernel_rfl) (dec_ints W)
theorem dec_state : DecS Go.Proofs.Tryz.prog W 64 (encState false) (fun s => (rangeI s.r0 ∧ rangeI s.r1 ∧ rangeI s.r2 ∧ rangeI s.r3) ∧ okS s) :=
 @DecS.struct _ _ _ _ 4 _ _ _ _ _ _ Go.Proofs.Tryz.underlying64 (by kernel_rfl) (@DecFS.cons _ _ _ _ _ 4 _ _ _ _ _ _ _ (by rfl) (by kernel_rfl) (dec_rows W) (@DecFS.nil _ _ 4))
  (fun a => match a.1 with | [a0,a1,a2,a3] => ⟨a0,a1,a2,a3⟩ | _ => ⟨[],[],[],[]⟩)
  (fun a h => by
   obtain ⟨l,_⟩ := a
   obtain ⟨⟨h1,h2⟩,_⟩ := h
   simp only at h1 h2
   match l,h2 with
   | [a0,a1,a2,a3],_ =>
    have k0 := h1 a0 (by simp)
    have k1 := h1 a1 (by simp)
    have k2 := h1 a2 (by simp)
    have k3 := h1 a3 (by simp)
    exact ⟨⟨⟨k0.1,k1.1,k2.1,k3.1⟩,k0.2,k1.2,k2.2,k3.2⟩,rfl⟩)
theorem dec_replica : DecS Go.Proofs.Tryz.prog W 66 (encReplica false) (fun p => rangeP p ∧ okP' p) :=
 @DecS.struct _ _ _ _ 6 _ _ _ _ _ _ Go.Proofs.Tryz.underlying66 (by kernel_rfl) (@DecFS.cons _ _ _ _ _ 4 _ _ _ _ _ _ _ (by rfl) (by kernel_rfl) (dec_state W) (@DecFS.cons _ _ _ _ _ 1 _ _ _ _ _ _ _ (by rfl) (by kernel_rfl) (dec_ints W) (@DecFS.cons _ _ _ _ _ 1 _ _ _ _ _ _ _ (by rfl) (by kernel_rfl) (dec_ints W) (@DecFS.nil _ _ 6))))
  (fun a => ⟨a.1,a.2.1,a.2.2.1⟩) (fun a h => ⟨⟨⟨h.1.1,h.2.1.1,h.2.2.1.1⟩,h.1.2,h.2.1.2,h.2.2.1.2⟩,rfl⟩)
theorem dec_replicas : DecS Go.Proofs.Tryz.prog W 25 (fun l : List Replica => [.vs (l.map (encReplica false)) false]) (fun l => (∀ s ∈ l,rangeP s ∧ okP' s) ∧ lenOK l) := DecS.slice (sz := 6) Go.Proofs.Tryz.underlying25 (by kernel_rfl) (by omega) (dec_replica W)
theorem dec_thread : DecS Go.Proofs.Tryz.prog W 46 (encThread false) (fun t => rangeT t ∧ okTh t) :=
 @DecS.struct _ _ _ _ 12 _ _ _ _ _ _ Go.Proofs.Tryz.underlying46 (by kernel_rfl) (@DecFS.cons _ _ _ _ _ 1 _ _ _ _ _ _ _ (by rfl) (by kernel_rfl) (dec_i W) (@DecFS.cons _ _ _ _ _ 3 _ _ _ _ _ _ _ (by rfl) (by kernel_rfl) (dec_op W) (@DecFS.cons _ _ _ _ _ 1 _ _ _ _ _ _ _ (by rfl) (by kernel_rfl) (dec_i W) (@DecFS.cons _ _ _ _ _ 1 _ _ _ _ _ _ _ (by rfl) (by kernel_rfl) (dec_i W) (@DecFS.cons _ _ _ _ _ 1 _ _ _ _ _ _ _ (by rfl) (by kernel_rfl) (dec_ints W) (@DecFS.cons _ _ _ _ _ 1 _ _ _ _ _ _ _ (by rfl) (by kernel_rfl) (dec_i W) (@DecFS.cons _ _ _ _ _ 1 _ _ _ _ _ _ _ (by rfl) (by kernel_rfl) (dec_b W) (@DecFS.cons _ _ _ _ _ 1 _ _ _ _ _ _ _ (by rfl) (by kernel_rfl) (dec_b W) (@DecFS.cons _ _ _ _ _ 1 _ _ _ _ _ _ _ (by rfl) (by kernel_rfl) (dec_i W) (@DecFS.cons _ _ _ _ _ 1 _ _ _ _ _ _ _ (by rfl) (by kernel_rfl) (dec_ints W) (@DecFS.nil _ _ 12)))))))))))
  (fun a => ⟨a.1,a.2.1,a.2.2.1,a.2.2.2.1,a.2.2.2.2.1,a.2.2.2.2.2.1,a.2.2.2.2.2.2.1,a.2.2.2.2.2.2.2.1,a.2.2.2.2.2.2.2.2.1,a.2.2.2.2.2.2.2.2.2.1⟩)
  (fun a h => by
   obtain ⟨h1,h2,h3,h4,h5,h6,h7,h8,h9,h10,_⟩ := h
   exact ⟨⟨⟨h1,h2,h3,h4,h5.1,h6,h9,h10.1⟩,h5.2,h10.2⟩,rfl⟩)
theorem dec_threads : DecS Go.Proofs.Tryz.prog W 26 (fun l : List Thread => [.vs (l.map (encThread false)) false]) (fun l => (∀ s ∈ l,rangeT s ∧ okTh s) ∧ lenOK l) := DecS.slice (sz := 12) Go.Proofs.Tryz.underlying26 (by kernel_rfl) (by omega) (dec_thread W)
theorem dec_event : DecS Go.Proofs.Tryz.prog W 76 encEvent rangeE :=
 @DecS.struct _ _ _ _ 6 _ _ _ _ _ _ Go.Proofs.Tryz.underlying76 (by kernel_rfl) (@DecFS.cons _ _ _ _ _ 1 _ _ _ _ _ _ _ (by rfl) (by kernel_rfl) (dec_i W) (@DecFS.cons _ _ _ _ _ 1 _ _ _ _ _ _ _ (by rfl) (by kernel_rfl) (dec_b W) (@DecFS.cons _ _ _ _ _ 3 _ _ _ _ _ _ _ (by rfl) (by kernel_rfl) (dec_op W) (@DecFS.cons _ _ _ _ _ 1 _ _ _ _ _ _ _ (by rfl) (by kernel_rfl) (dec_i W) (@DecFS.nil _ _ 6)))))
  (fun a => ⟨a.1,a.2.1,a.2.2.1,a.2.2.2.1⟩) (fun a h => ⟨⟨h.1,h.2.2.1,h.2.2.2.1⟩,rfl⟩)
theorem dec_events : DecS Go.Proofs.Tryz.prog W 27 (fun l : List Ab.Event => [.vs (l.map encEvent) false]) (fun l => (∀ s ∈ l,rangeE s) ∧ lenOK l) := DecS.slice (sz := 6) Go.Proofs.Tryz.underlying27 (by kernel_rfl) (by omega) (dec_event W)
theorem dec_machine : DecS Go.Proofs.Tryz.prog W 29 (encMachine false) (fun m => rangeM m ∧ okM m) :=
 @DecS.struct _ _ _ _ 9 _ _ _ _ _ _ Go.Proofs.Tryz.underlying29 (by kernel_rfl) (@DecFS.cons _ _ _ _ _ 5 _ _ _ _ _ _ _ (by rfl) (by kernel_rfl) (dec_config W) (@DecFS.cons _ _ _ _ _ 1 _ _ _ _ _ _ _ (by rfl) (by kernel_rfl) (dec_rings W) (@DecFS.cons _ _ _ _ _ 1 _ _ _ _ _ _ _ (by rfl) (by kernel_rfl) (dec_replicas W) (@DecFS.cons _ _ _ _ _ 1 _ _ _ _ _ _ _ (by rfl) (by kernel_rfl) (dec_threads W) (@DecFS.cons _ _ _ _ _ 1 _ _ _ _ _ _ _ (by rfl) (by kernel_rfl) (dec_events W) (@DecFS.nil _ _ 9))))))
  (fun a => ⟨a.1,a.2.1,a.2.2.1,a.2.2.2.1,a.2.2.2.2.1⟩)
  (fun a h => by
   obtain ⟨h1,h2,h3,h4,h5,_⟩ := h
   exact ⟨⟨⟨h1,fun r hr => (h2.1 r hr).1,fun r hr => (h3.1 r hr).1,fun r hr => (h4.1 r hr).1,h5.1⟩,⟨h2.2,fun r hr => (h2.1 r hr).2⟩,⟨h3.2,fun r hr => (h3.1 r hr).2⟩,⟨h4.2,fun r hr => (h4.1 r hr).2⟩,h5.2⟩,rfl⟩)
end

end Go.Proofs.YtlpfdnfcmdikiaaGreat
