/-
  What the steps of scans turn: the machine behind each of them, as a function.
  and what goes with it.
  Conditions: none.
-/
import Derived.Test.YtbgkjaicehonfaaGreatGn0
import Derived.Test.YtbgkjaicehonfaaGreatGb
import Derived.Test.YtbgkjaicehonfaaGreatRows

set_option linter.unusedSimpArgs false
set_option linter.unusedVariables false

namespace Go.Ab

@[reducible] def scanP (m:Machine) (t:Int):Prop:=atP m t∧(thrAt m t.toNat).op.code=3
def fenceX (m:Machine) (t:Int) (x:Thread) (r:Ring):Machine × Int:=
 if (x.tails.length:Int)≠x.log then (noMachine,2200)
 else if r.fence≠0 then (m,0)
 else (setThread (setRing m x.log.toNat { r with fence:=t+1 }) t.toNat fun y=>{ y with tails:=y.tails++[r.tail],log:=if x.log+1=m.config.logs then 0 else x.log+1,step:=if x.log+1=m.config.logs then 18 else y.step },0)
def gatherX (m:Machine) (t:Int) (x:Thread) (c lk:Int):Machine × Int:=
 if (x.tails.length:Int)≠m.config.logs then (noMachine,2200)
 else if c<x.tails.getD x.log.toNat 0 then (if lk=0 then (oneM m (ownOf m t) x.log).1 else m,0)
 else if x.log+1=m.config.logs then (setThread m t.toNat fun y=>{ y with answer:=tellS m.config.object (stAt m (ownOf m t).toNat),log:=0,step:=19 },0)
 else (setThread m t.toNat fun y=>{ y with log:=x.log+1 },0)
def openX (m:Machine) (t:Int) (x:Thread) (r:Ring):Machine × Int:=
 if x.log+1=m.config.logs then finishM (setRing m x.log.toNat { r with fence:=0 }) t 2200
 else (setThread (setRing m x.log.toNat { r with fence:=0 }) t.toNat fun y=>{ y with log:=x.log+1 },0)
def scanX (m:Machine) (t:Int) (x:Thread) (r:Ring) (c lk:Int) (s:Int):Machine × Int:=
 if s=17 then fenceX m t x r else if s=18 then gatherX m t x c lk else if s=19 then openX m t x r else (noMachine,2200)
def scanM (m:Machine) (t:Int):Machine × Int:=if scanP m t then scanX m t (thrAt m t.toNat) (ownRing m t) (ownCur m t) (ownLock m t) (thrAt m t.toNat).step else (noMachine,2200)
theorem scanM_yes {m:Machine} {t:Int} (h:scanP m t):scanM m t=scanX m t (thrAt m t.toNat) (ownRing m t) (ownCur m t) (ownLock m t) (thrAt m t.toNat).step:=if_pos h
theorem scanM_no {m:Machine} {t:Int} (h:¬ scanP m t):scanM m t=(noMachine,2200):=if_neg h
theorem scan_err (m:Machine) (t:Int) (he:¬ (scanM m t).2=0):scanM m t=(noMachine,2200):=by
 by_cases hl:scanP m t
 ·rw[scanM_yes hl] at he ⊢
  revert he
  unfold scanX fenceX gatherX openX finishM
  repeat' split
  all_goals first|(intro he;exact absurd rfl he)|(intro _;rfl)
 ·exact scanM_no hl

end Go.Ab

namespace Go.Ab

theorem ringThr22 {m:Machine} {g:Nat} {t:Int} (hg:g<m.rings.length) (hi:t.toNat<m.threads.length) (R:Ring) (f:Thread→Thread):setThread (setRing m g R) t.toNat f={ m with rings:=m.rings.set g R,threads:=m.threads.set t.toNat (f m.threads[t.toNat]) }:=by
 rw[setRing_of hg];exact setThread_of (m:={ m with rings:=m.rings.set g R }) hi f

theorem sZ (l:List Thread) (i:Nat):(l.map (encThread true)).set i [.int .i64 0,.int .i64 0,.int .i64 0,.int .i64 0,.int .i64 0,.int .i64 0,.vs [] true,.int .i64 0,.bool false,.bool false,.int .i64 0,.vs [] true]=(l.set i idle0).map (encThread true):=by rw[List.map_set];rfl

structure DnH (T:TH) (D:Machine) (t r:Int):Prop where
 t1:∃ R L,T.get 1=.tree R true L∧(TO.tree R true L).valid [] 0=true∧RowZ R (D.rings.map (encRing false))
 t2:∃ R L,T.get 2=.tree R true L∧(TO.tree R true L).valid [] 0=true∧RowZ R (D.replicas.map (encReplica false))
 t3:∃ R L,T.get 3=.tree R true L∧(TO.tree R true L).valid [] 0=true∧RowZ R (D.threads.map (encThread false))
 t5:∃ q g L n1 n2 n3 n4,T.get q=.tree (D.history.map encEvent) true L∧(TO.tree (D.history.map encEvent) true L).valid [] g=true∧q≠1∧q≠2∧q≠3∧T.get 5=.raw [.a (.int .i64 D.config.object),.a (.int .i64 D.config.replicas),.a (.int .i64 D.config.logs),.a (.int .i64 D.config.threads),.a (.int .i64 D.config.slots),.sl 1 [] 0 0 n1 true,.sl 2 [] 0 0 n2 true,.sl 3 [] 0 0 n3 true,.sl q [] g 0 n4 true,.a (.int .i64 t),.a (.int .i64 r)]
theorem DnT.h {T:TH} {D:Machine} {t r:Int} (h:DnT T D t r):DnH T D t r:=by
 obtain⟨t1,t2,t3,⟨q,n1,n2,n3,n4,t4,q1,q2,q3,t5⟩⟩:=h
 exact⟨t1,t2,t3,⟨q,0,[],n1,n2,n3,n4,t4,rfl,q1,q2,q3,t5⟩⟩

set_option maxRecDepth 20000 in
set_option maxHeartbeats 8000000 in
theorem x_fence (m:Machine) (t:Int) (h:okM m) (hl:scanP m t) (T:TH) (hT:StT T m t (ownOf m t)) (K:TV→TH→Prop) (hyes:(fenceX m t (thrAt m t.toNat) (ownRing m t)).2=0→∀ T1,DnH T1 (fenceX m t (thrAt m t.toNat) (ownRing m t)).1 t (ownOf m t)→K (.a (.bool true)) T1) (hno:¬ (fenceX m t (thrAt m t.toNat) (ownRing m t)).2=0→∀ T1,K (.a (.bool false)) T1):CallT tab false 30 [.ag [.pt 5 [] 0 0 0]] T K:=by
 obtain⟨hat,hcode⟩:=hl
 obtain⟨r,log,hi,hri,hj,hk,hlk,hrm,et,hlg,hown,hlog,hA,hF⟩:=wk h hat
 have h1:=hat.1
 have hc:=h1.1
 have hn:=h1.2.1
 have ht0:=hat.2.1
 have ht1:=hF.1.2.1
 have hl1:=hc.2.2.1
 have hl2:(m.rings.length:Int)=m.config.logs:=hn.1
 have wl:IntKind.wrap .i64 (log+1)=log+1:=wrap_of (by have:=hlog.1;omega) (by have:=hlog.2;omega)
 have nl:¬ m.config.logs=0:=by omega
 have hF:=And.intro hF (And.intro wl nl)
 have hT0:=hT
 obtain⟨t1,t2,t3,t4,t5,nx⟩:=hT
 rw[hrm] at t5 hT0
 have hn0:¬ T.next=0∧¬ T.next=1∧¬ T.next=2∧¬ T.next=3∧¬ T.next=4∧¬ T.next=5∧¬ 1=T.next∧¬ 2=T.next∧¬ 3=T.next:=by omega
 have hF:=And.intro hF (And.intro t1 (And.intro t2 (And.intro t3 (And.intro t4 (And.intro t5 hn0)))))
 rw[show ownRing m t=m.rings[log.toNat] by unfold ownRing;rw[et,hlg];exact ringAt_of hj,et] at hyes hno
 obtain⟨D,hD⟩:∃ D,fenceX m t m.threads[t.toNat] m.rings[log.toNat]=D:=⟨_,rfl⟩
 rw[hD] at hyes hno
 unfold fenceX at hD
 rw[hlg] at hD
 by_cases tl:(m.threads[t.toNat].tails.length:Int)=log
 ·rw[if_neg (not_not_intro tl)] at hD
  by_cases hf:m.rings[log.toNat].fence=0
  ·have bf:(m.rings[log.toNat].fence != 0)=false:=by simp[hf]
   have rm:(m.threads[t.toNat].tails.length+1)*8≤140737488355328:=by have:=hlog.2;omega
   rw[if_neg (not_not_intro hf),ringThr22 hj hi] at hD
   obtain⟨ts,hts⟩:∃ ts,m.threads[t.toNat].tails++[m.rings[log.toNat].tail]=ts:=⟨_,rfl⟩
   have kts:List.map encInt m.threads[t.toNat].tails++[[AV.int .i64 m.rings[log.toNat].tail]]=List.map encInt ts:=by rw[← hts];simp
   by_cases e:log+1=m.config.logs
   ·have tm:Int.tmod (log+1) m.config.logs=0:=by rw[e];exact Int.tmod_self
    simp only[if_pos e,hts] at hD
    subst hD
    refine CallT.body (F:=m30) rfl rfl rfl rfl ?_
    simp -implicitDefEqProofs[m30,hF,sT,sR,sP,sI,-List.map_set,tl,bf,rm,tm,kts]
    refine CallT.bodyQ (F:=m59) rfl rfl rfl rfl rfl ?_
    simp -implicitDefEqProofs[m59,hF,sT,sR,sP,sI,-List.map_set,tl,bf,rm,tm,kts]
    refine CallT.bodyQ (F:=m28) rfl rfl rfl rfl rfl ?_
    simp -implicitDefEqProofs[m28,hF,sT,sR,sP,sI,-List.map_set,tl,bf,rm,tm,kts]
    refine CallT.bodyQ (F:=m28) rfl rfl rfl rfl rfl ?_
    simp -implicitDefEqProofs[m28,hF,sT,sR,sP,sI,-List.map_set,tl,bf,rm,tm,kts]
    refine CallT.body (F:=m60) rfl rfl rfl rfl ?_
    simp -implicitDefEqProofs[m60,hF,sT,sR,sP,sI,-List.map_set,tl,bf,rm,tm,kts]
    refine CallT.bodyQ (F:=m28) rfl rfl rfl rfl rfl ?_
    simp -implicitDefEqProofs[m28,hF,sT,sR,sP,sI,-List.map_set,tl,bf,rm,tm,kts]
    refine CallT.body (F:=m61) rfl rfl rfl rfl ?_
    simp -implicitDefEqProofs[m61,hF,sT,sR,sP,sI,-List.map_set,tl,bf,rm,tm,kts]
    refine CallT.bodyQ (F:=m28) rfl rfl rfl rfl rfl ?_
    simp -implicitDefEqProofs[m28,hF,sT,sR,sP,sI,-List.map_set,tl,bf,rm,tm,kts]
    exact hyes rfl _ ⟨⟨_,[],by simp[t1,hn0,sR,-List.map_set],rfl,rowZ_rings _ true⟩,⟨_,[],by simp[t2,hn0],rfl,rowZ_reps _ true⟩,⟨_,[[(t.toNat,11)]],by simp[t3,hn0,hlg,sT,-List.map_set],rfl,rowZ_thrs _ true⟩,⟨4,0,[],m.rings.length,m.replicas.length,m.threads.length,m.history.length,by simp[t4,hn0],rfl,by omega,by omega,by omega,by simp[t5,hn0,hrm]⟩⟩
   ·have tm:Int.tmod (log+1) m.config.logs=log+1:=Int.tmod_eq_of_lt (by have:=hlog.1;omega) (by have:=hlog.2;omega)
    have bz:(log+1==0)=false:=by have:=hlog.1;simp;omega
    simp only[if_neg e,hts] at hD
    subst hD
    refine CallT.body (F:=m30) rfl rfl rfl rfl ?_
    simp -implicitDefEqProofs[m30,hF,sT,sR,sP,sI,-List.map_set,tl,bf,rm,tm,kts,bz]
    refine CallT.bodyQ (F:=m59) rfl rfl rfl rfl rfl ?_
    simp -implicitDefEqProofs[m59,hF,sT,sR,sP,sI,-List.map_set,tl,bf,rm,tm,kts,bz]
    refine CallT.bodyQ (F:=m28) rfl rfl rfl rfl rfl ?_
    simp -implicitDefEqProofs[m28,hF,sT,sR,sP,sI,-List.map_set,tl,bf,rm,tm,kts,bz]
    refine CallT.bodyQ (F:=m28) rfl rfl rfl rfl rfl ?_
    simp -implicitDefEqProofs[m28,hF,sT,sR,sP,sI,-List.map_set,tl,bf,rm,tm,kts,bz]
    refine CallT.body (F:=m60) rfl rfl rfl rfl ?_
    simp -implicitDefEqProofs[m60,hF,sT,sR,sP,sI,-List.map_set,tl,bf,rm,tm,kts,bz]
    refine CallT.bodyQ (F:=m28) rfl rfl rfl rfl rfl ?_
    simp -implicitDefEqProofs[m28,hF,sT,sR,sP,sI,-List.map_set,tl,bf,rm,tm,kts,bz]
    exact hyes rfl _ ⟨⟨_,[],by simp[t1,hn0,sR,-List.map_set],rfl,rowZ_rings _ true⟩,⟨_,[],by simp[t2,hn0],rfl,rowZ_reps _ true⟩,⟨_,[[(t.toNat,11)]],by simp[t3,hn0,hlg,sT,-List.map_set],rfl,rowZ_thrs _ true⟩,⟨4,0,[],m.rings.length,m.replicas.length,m.threads.length,m.history.length,by simp[t4,hn0],rfl,by omega,by omega,by omega,by simp[t5,hn0,hrm]⟩⟩
  ·have bf:(m.rings[log.toNat].fence != 0)=true:=by simp[hf]
   rw[if_pos hf] at hD
   subst hD
   refine CallT.body (F:=m30) rfl rfl rfl rfl ?_
   simp -implicitDefEqProofs[m30,hF,sT,sR,sP,sI,-List.map_set,tl,bf]
   refine CallT.bodyQ (F:=m59) rfl rfl rfl rfl rfl ?_
   simp -implicitDefEqProofs[m59,hF,sT,sR,sP,sI,-List.map_set,tl,bf]
   refine CallT.bodyQ (F:=m28) rfl rfl rfl rfl rfl ?_
   simp -implicitDefEqProofs[m28,hF,sT,sR,sP,sI,-List.map_set,tl,bf]
   refine CallT.bodyQ (F:=m28) rfl rfl rfl rfl rfl ?_
   simp -implicitDefEqProofs[m28,hF,sT,sR,sP,sI,-List.map_set,tl,bf]
   exact hyes rfl _ (DnT.h (hrm ▸ hT0.dn))
 ·have bt:((m.threads[t.toNat].tails.length:Int) != log)=true:=by simp[tl]
  rw[if_pos tl] at hD
  subst hD
  refine CallT.body (F:=m30) rfl rfl rfl rfl ?_
  simp -implicitDefEqProofs[m30,hF,sT,sR,sP,sI,-List.map_set,tl,bt]
  refine CallT.bodyQ (F:=m59) rfl rfl rfl rfl rfl ?_
  simp -implicitDefEqProofs[m59,hF,sT,sR,sP,sI,-List.map_set,tl,bt]
  refine CallT.bodyQ (F:=m28) rfl rfl rfl rfl rfl ?_
  simp -implicitDefEqProofs[m28,hF,sT,sR,sP,sI,-List.map_set,tl,bt]
  refine CallT.bodyQ (F:=m28) rfl rfl rfl rfl rfl ?_
  simp -implicitDefEqProofs[m28,hF,sT,sR,sP,sI,-List.map_set,tl,bt]
  exact hno (by decide) _

set_option maxRecDepth 20000 in
set_option maxHeartbeats 8000000 in
theorem x_open (m:Machine) (t:Int) (h:okM m) (hl:scanP m t) (T:TH) (hT:StT T m t (ownOf m t)) (K:TV→TH→Prop) (hyes:(openX m t (thrAt m t.toNat) (ownRing m t)).2=0→∀ T1,DnH T1 (openX m t (thrAt m t.toNat) (ownRing m t)).1 t (ownOf m t)→K (.a (.bool true)) T1) (hno:¬ (openX m t (thrAt m t.toNat) (ownRing m t)).2=0→∀ T1,K (.a (.bool false)) T1):CallT tab false 32 [.ag [.pt 5 [] 0 0 0]] T K:=by
 obtain⟨hat,hcode⟩:=hl
 obtain⟨r,log,hi,hri,hj,hk,hlk,hrm,et,hlg,hown,hlog,hA,hF⟩:=wk h hat
 have h1:=hat.1
 have hc:=h1.1
 have hn:=h1.2.1
 have ht0:=hat.2.1
 have ht1:=hF.1.2.1
 have hl1:=hc.2.2.1
 have hl2:(m.rings.length:Int)=m.config.logs:=hn.1
 have wl:IntKind.wrap .i64 (log+1)=log+1:=wrap_of (by have:=hlog.1;omega) (by have:=hlog.2;omega)
 have nl:¬ m.config.logs=0:=by omega
 have hF:=And.intro hF (And.intro wl nl)
 have hT0:=hT
 obtain⟨t1,t2,t3,t4,t5,nx⟩:=hT
 rw[hrm] at t5 hT0
 have hn0:¬ T.next=0∧¬ T.next=1∧¬ T.next=2∧¬ T.next=3∧¬ T.next=4∧¬ T.next=5∧¬ 1=T.next∧¬ 2=T.next∧¬ 3=T.next:=by omega
 have hF:=And.intro hF (And.intro t1 (And.intro t2 (And.intro t3 (And.intro t4 (And.intro t5 hn0)))))
 rw[show ownRing m t=m.rings[log.toNat] by unfold ownRing;rw[et,hlg];exact ringAt_of hj,et] at hyes hno
 obtain⟨D,hD⟩:∃ D,openX m t m.threads[t.toNat] m.rings[log.toNat]=D:=⟨_,rfl⟩
 rw[hD] at hyes hno
 unfold openX at hD
 rw[hlg] at hD
 by_cases e:log+1=m.config.logs
 ·have tm:Int.tmod (log+1) m.config.logs=0:=by rw[e];exact Int.tmod_self
  rw[if_pos e,setRing_of hj] at hD
  by_cases hh:64≤m.history.length
  ·have hh2:(64:Int)≤m.history.length:=by omega
   rw[show ∀ M:Machine,M.history=m.history→finishM M t 2200=(noMachine,2200) from fun M hM=>if_pos (by rw[hM];exact hh)] at hD
   ·subst hD
    refine CallT.body (F:=m32) rfl rfl rfl rfl ?_
    simp -implicitDefEqProofs[m32,hF,sT,sR,sP,sI,-List.map_set,tm,hh2]
    refine CallT.bodyQ (F:=m59) rfl rfl rfl rfl rfl ?_
    simp -implicitDefEqProofs[m59,hF,sT,sR,sP,sI,-List.map_set,tm,hh2]
    refine CallT.bodyQ (F:=m28) rfl rfl rfl rfl rfl ?_
    simp -implicitDefEqProofs[m28,hF,sT,sR,sP,sI,-List.map_set,tm,hh2]
    refine CallT.body (F:=m60) rfl rfl rfl rfl ?_
    simp -implicitDefEqProofs[m60,hF,sT,sR,sP,sI,-List.map_set,tm,hh2]
    refine CallT.bodyQ (F:=m28) rfl rfl rfl rfl rfl ?_
    simp -implicitDefEqProofs[m28,hF,sT,sR,sP,sI,-List.map_set,tm,hh2]
    refine CallT.body (F:=m66) rfl rfl rfl rfl ?_
    simp -implicitDefEqProofs[m66,hF,sT,sR,sP,sI,-List.map_set,tm,hh2]
    exact hno (by decide) _
   ·rfl
  ·have hh2:¬ (64:Int)≤m.history.length:=by omega
   have hb48:(m.history.length+1)*48≤140737488355328:=by omega
   rw[show ∀ M:Machine,M.history=m.history→finishM M t 2200=(doneM M t,0) from fun M hM=>if_neg (by rw[hM];exact hh)] at hD
   ·rw[doneM_of (m:={ m with rings:=m.rings.set log.toNat { m.rings[log.toNat] with fence:=0 } }) hi] at hD
    subst hD
    refine CallT.body (F:=m32) rfl rfl rfl rfl ?_
    simp -implicitDefEqProofs[m32,hF,sT,sR,sP,sI,-List.map_set,tm,hh2,hb48]
    refine CallT.bodyQ (F:=m59) rfl rfl rfl rfl rfl ?_
    simp -implicitDefEqProofs[m59,hF,sT,sR,sP,sI,-List.map_set,tm,hh2,hb48]
    refine CallT.bodyQ (F:=m28) rfl rfl rfl rfl rfl ?_
    simp -implicitDefEqProofs[m28,hF,sT,sR,sP,sI,-List.map_set,tm,hh2,hb48]
    refine CallT.body (F:=m60) rfl rfl rfl rfl ?_
    simp -implicitDefEqProofs[m60,hF,sT,sR,sP,sI,-List.map_set,tm,hh2,hb48]
    refine CallT.bodyQ (F:=m28) rfl rfl rfl rfl rfl ?_
    simp -implicitDefEqProofs[m28,hF,sT,sR,sP,sI,-List.map_set,tm,hh2,hb48]
    refine CallT.body (F:=m66) rfl rfl rfl rfl ?_
    simp -implicitDefEqProofs[m66,hF,sT,sR,sP,sI,-List.map_set,tm,hh2,hb48]
    refine CallT.bodyQ (F:=m28) rfl rfl rfl rfl rfl ?_
    simp -implicitDefEqProofs[m28,hF,sT,sR,sP,sI,-List.map_set,tm,hh2,hb48]
    refine hyes rfl _ ⟨⟨_,[],by simp[t1,hn0,sR,-List.map_set],rfl,rowZ_rings _ true⟩,⟨_,[],by simp[t2,hn0],rfl,rowZ_reps _ true⟩,⟨_,[[(t.toNat,11)],[(t.toNat,6)]],by simp[t3,hn0,hlg,sT,sZ,-List.map_set],rfl,rowZ_thrs _ true⟩,⟨4,1,[[]],m.rings.length,m.replicas.length,m.threads.length,m.history.length+1,by simp[t4,hn0],rfl,by omega,by omega,by omega,by simp[t5,hn0,hrm]⟩⟩
   ·rfl
 ·have tm:Int.tmod (log+1) m.config.logs=log+1:=Int.tmod_eq_of_lt (by have:=hlog.1;omega) (by have:=hlog.2;omega)
  have bz:(log+1==0)=false:=by have:=hlog.1;simp;omega
  rw[if_neg e,ringThr22 hj hi] at hD
  subst hD
  refine CallT.body (F:=m32) rfl rfl rfl rfl ?_
  simp -implicitDefEqProofs[m32,hF,sT,sR,sP,sI,-List.map_set,tm,bz]
  refine CallT.bodyQ (F:=m59) rfl rfl rfl rfl rfl ?_
  simp -implicitDefEqProofs[m59,hF,sT,sR,sP,sI,-List.map_set,tm,bz]
  refine CallT.bodyQ (F:=m28) rfl rfl rfl rfl rfl ?_
  simp -implicitDefEqProofs[m28,hF,sT,sR,sP,sI,-List.map_set,tm,bz]
  refine CallT.body (F:=m60) rfl rfl rfl rfl ?_
  simp -implicitDefEqProofs[m60,hF,sT,sR,sP,sI,-List.map_set,tm,bz]
  refine CallT.bodyQ (F:=m28) rfl rfl rfl rfl rfl ?_
  simp -implicitDefEqProofs[m28,hF,sT,sR,sP,sI,-List.map_set,tm,bz]
  exact hyes rfl _ ⟨⟨_,[],by simp[t1,hn0,sR,-List.map_set],rfl,rowZ_rings _ true⟩,⟨_,[],by simp[t2,hn0],rfl,rowZ_reps _ true⟩,⟨_,[],by simp[t3,hn0,hlg,sT,-List.map_set],rfl,rowZ_thrs _ true⟩,⟨4,0,[],m.rings.length,m.replicas.length,m.threads.length,m.history.length,by simp[t4,hn0],rfl,by omega,by omega,by omega,by simp[t5,hn0,hrm]⟩⟩

set_option maxRecDepth 20000 in
set_option maxHeartbeats 8000000 in
theorem x_gather (m:Machine) (t:Int) (h:okM m) (hl:scanP m t) (T:TH) (hT:StT T m t (ownOf m t)) (K:TV→TH→Prop) (hyes:(gatherX m t (thrAt m t.toNat) (ownCur m t) (ownLock m t)).2=0→∀ T1,DnH T1 (gatherX m t (thrAt m t.toNat) (ownCur m t) (ownLock m t)).1 t (ownOf m t)→K (.a (.bool true)) T1) (hno:¬ (gatherX m t (thrAt m t.toNat) (ownCur m t) (ownLock m t)).2=0→∀ T1,K (.a (.bool false)) T1):CallT tab false 31 [.ag [.pt 5 [] 0 0 0]] T K:=by
 obtain⟨hat,hcode⟩:=hl
 obtain⟨r,log,hi,hri,hj,hk,hlk,hrm,et,hlg,hown,hlog,hA,hF⟩:=wk h hat
 have h1:=hat.1
 have hc:=h1.1
 have hn:=h1.2.1
 have ht0:=hat.2.1
 have ht1:=hF.1.2.1
 have hl1:=hc.2.2.1
 have hl2:(m.rings.length:Int)=m.config.logs:=hn.1
 have wl:IntKind.wrap .i64 (log+1)=log+1:=wrap_of (by have:=hlog.1;omega) (by have:=hlog.2;omega)
 have nl:¬ m.config.logs=0:=by omega
 have hF:=And.intro hF (And.intro wl nl)
 have hT0:=hT
 obtain⟨t1,t2,t3,t4,t5,nx⟩:=hT
 rw[hrm] at t5 hT0
 have hn0:¬ T.next=0∧¬ T.next=1∧¬ T.next=2∧¬ T.next=3∧¬ T.next=4∧¬ T.next=5∧¬ 1=T.next∧¬ 2=T.next∧¬ 3=T.next:=by omega
 have hF:=And.intro hF (And.intro t1 (And.intro t2 (And.intro t3 (And.intro t4 (And.intro t5 hn0)))))
 have elk:lockAt m r.toNat log.toNat=m.replicas[r.toNat].locks[log.toNat]:=by simp[lockAt,hri,hlk]
 rw[show ownCur m t=m.replicas[r.toNat].cursors[log.toNat] by unfold ownCur;rw[et,hlg,hrm];exact curAt_of hA,show ownLock m t=m.replicas[r.toNat].locks[log.toNat] by unfold ownLock;rw[et,hlg,hrm];exact elk,et] at hyes hno
 obtain⟨D,hD⟩:∃ D,gatherX m t m.threads[t.toNat] m.replicas[r.toNat].cursors[log.toNat] m.replicas[r.toNat].locks[log.toNat]=D:=⟨_,rfl⟩
 rw[hD] at hyes hno
 unfold gatherX at hD
 rw[hlg,hrm] at hD
 by_cases tl:(m.threads[t.toNat].tails.length:Int)=m.config.logs
 ·rw[if_neg (not_not_intro tl)] at hD
  have hl3:log<m.config.logs:=by have:=hlog.2;omega
  have hti:log.toNat<m.threads[t.toNat].tails.length:=by have:=hlog.1;omega
  have hti2:log<(m.threads[t.toNat].tails.length:Int):=by omega
  have gti:=List.getElem?_eq_getElem hti
  have zti:0<m.threads[t.toNat].tails.length:=by omega
  rw[show m.threads[t.toNat].tails.getD log.toNat 0=m.threads[t.toNat].tails[log.toNat] by rw[List.getD_eq_getElem?_getD,gti];rfl] at hD
  have hF:=And.intro hF (And.intro tl (And.intro hl3 (And.intro hti (And.intro gti zti))))
  by_cases hcu:m.replicas[r.toNat].cursors[log.toNat]<m.threads[t.toNat].tails[log.toNat]
  ·rw[if_pos hcu] at hD
   by_cases hf:m.replicas[r.toNat].locks[log.toNat]=0
   ·rw[if_pos hf] at hD
    subst hD
    refine CallT.body (F:=m31) rfl rfl rfl rfl ?_
    simp -implicitDefEqProofs[m31,hF,sT,sR,sP,sI,-List.map_set,hcu,hf]
    refine CallT.bodyQ (F:=m28) rfl rfl rfl rfl rfl ?_
    simp -implicitDefEqProofs[m28,hF,sT,sR,sP,sI,-List.map_set,hcu,hf]
    refine CallT.bodyQ (F:=m62) rfl rfl rfl rfl rfl ?_
    simp -implicitDefEqProofs[m62,hF,sT,sR,sP,sI,-List.map_set,hcu,hf]
    refine CallT.bodyQ (F:=m28) rfl rfl rfl rfl rfl ?_
    simp -implicitDefEqProofs[m28,hF,sT,sR,sP,sI,-List.map_set,hcu,hf]
    refine CallT.bodyQ (F:=m63) rfl rfl rfl rfl rfl ?_
    simp -implicitDefEqProofs[m63,hF,sT,sR,sP,sI,-List.map_set,hcu,hf]
    refine CallT.bodyQ (F:=m28) rfl rfl rfl rfl rfl ?_
    simp -implicitDefEqProofs[m28,hF,sT,sR,sP,sI,-List.map_set,hcu,hf]
    refine CallT.body (F:=m64) rfl rfl rfl rfl ?_
    simp -implicitDefEqProofs[m64,hF,sT,sR,sP,sI,-List.map_set,hcu,hf]
    refine CallT.bodyQ (F:=m28) rfl rfl rfl rfl rfl ?_
    simp -implicitDefEqProofs[m28,hF,sT,sR,sP,sI,-List.map_set,hcu,hf]
    refine x_Next m r log t r h ⟨h1,hown,hlog⟩ _ ⟨by simp[t1,hn0],by simp[t2,hn0],by simp[t3,hn0],by simp[t4,hn0],by simp[t5,hn0,hrm],nx⟩ _ (fun b T1 hd=>?_)
    simp -implicitDefEqProofs
    exact hyes rfl _ (DnT.h (hrm ▸ hd))
   ·rw[if_neg hf] at hD
    subst hD
    refine CallT.body (F:=m31) rfl rfl rfl rfl ?_
    simp -implicitDefEqProofs[m31,hF,sT,sR,sP,sI,-List.map_set,hcu,hf]
    refine CallT.bodyQ (F:=m28) rfl rfl rfl rfl rfl ?_
    simp -implicitDefEqProofs[m28,hF,sT,sR,sP,sI,-List.map_set,hcu,hf]
    refine CallT.bodyQ (F:=m62) rfl rfl rfl rfl rfl ?_
    simp -implicitDefEqProofs[m62,hF,sT,sR,sP,sI,-List.map_set,hcu,hf]
    refine CallT.bodyQ (F:=m28) rfl rfl rfl rfl rfl ?_
    simp -implicitDefEqProofs[m28,hF,sT,sR,sP,sI,-List.map_set,hcu,hf]
    refine CallT.bodyQ (F:=m63) rfl rfl rfl rfl rfl ?_
    simp -implicitDefEqProofs[m63,hF,sT,sR,sP,sI,-List.map_set,hcu,hf]
    refine CallT.bodyQ (F:=m28) rfl rfl rfl rfl rfl ?_
    simp -implicitDefEqProofs[m28,hF,sT,sR,sP,sI,-List.map_set,hcu,hf]
    exact hyes rfl _ (DnT.h (hrm ▸ hT0.dn))
  ·rw[if_neg hcu] at hD
   by_cases e:log+1=m.config.logs
   ·have tm:Int.tmod (log+1) m.config.logs=0:=by rw[e];exact Int.tmod_self
    rw[et] at hcode
    have hop:m.threads[t.toNat].op=scanOp:=by
     have ho:=(h1.2.2.2.2.1 _ (List.getElem_mem hi)).1.2.2.1.2.2.2.2
     obtain⟨a1,a2⟩:m.threads[t.toNat].op.arg=0∧m.threads[t.toNat].op.row=0:=by omega
     generalize m.threads[t.toNat].op=o at *
     obtain⟨x1,x2,x3⟩:=o
     simp_all
    have hO:=c_objScan m.config.object m.replicas[r.toNat].state hA.os hA.st
    rw[← hop] at hO
    rw[if_pos e,setThread_of hi,stAt_of hA] at hD
    generalize tellS m.config.object m.replicas[r.toNat].state=an at hO hD
    subst hD
    refine CallT.body (F:=m31) rfl rfl rfl rfl ?_
    simp -implicitDefEqProofs[m31,hF,sT,sR,sP,sI,-List.map_set,hcu,tm]
    refine CallT.bodyQ (F:=m28) rfl rfl rfl rfl rfl ?_
    simp -implicitDefEqProofs[m28,hF,sT,sR,sP,sI,-List.map_set,hcu,tm]
    refine CallT.bodyQ (F:=m62) rfl rfl rfl rfl rfl ?_
    simp -implicitDefEqProofs[m62,hF,sT,sR,sP,sI,-List.map_set,hcu,tm]
    refine CallT.bodyQ (F:=m28) rfl rfl rfl rfl rfl ?_
    simp -implicitDefEqProofs[m28,hF,sT,sR,sP,sI,-List.map_set,hcu,tm]
    refine CallT.body (F:=m60) rfl rfl rfl rfl ?_
    simp -implicitDefEqProofs[m60,hF,sT,sR,sP,sI,-List.map_set,hcu,tm]
    refine CallT.bodyQ (F:=m28) rfl rfl rfl rfl rfl ?_
    simp -implicitDefEqProofs[m28,hF,sT,sR,sP,sI,-List.map_set,hcu,tm]
    refine CallT.body (F:=m61) rfl rfl rfl rfl ?_
    simp -implicitDefEqProofs[m61,hF,sT,sR,sP,sI,-List.map_set,hcu,tm]
    refine CallT.bodyQ (F:=m28) rfl rfl rfl rfl rfl ?_
    simp -implicitDefEqProofs[m28,hF,sT,sR,sP,sI,-List.map_set,hcu,tm]
    refine CallT.body (F:=m65) rfl rfl rfl rfl ?_
    simp -implicitDefEqProofs[m65,hF,sT,sR,sP,sI,-List.map_set,hcu,tm]
    refine CallT.bodyQ (F:=m28) rfl rfl rfl rfl rfl ?_
    simp -implicitDefEqProofs[m28,hF,sT,sR,sP,sI,-List.map_set,hcu,tm]
    refine CallT.pure hO (by simp[hF]) (ok_st3 _ _ _) ?_
    simp -implicitDefEqProofs[hF,sT,-List.map_set]
    exact hyes rfl _ ⟨⟨_,[],by simp[t1,hn0,sR,-List.map_set],rfl,rowZ_rings _ true⟩,⟨_,[],by simp[t2,hn0],rfl,rowZ_reps _ true⟩,⟨_,[],by simp[t3,hn0,hlg,sT,-List.map_set],rfl,rowZ_thrs _ true⟩,⟨4,0,[],m.rings.length,m.replicas.length,m.threads.length,m.history.length,by simp[t4,hn0],rfl,by omega,by omega,by omega,by simp[t5,hn0,hrm]⟩⟩
   ·have tm:Int.tmod (log+1) m.config.logs=log+1:=Int.tmod_eq_of_lt (by have:=hlog.1;omega) (by have:=hlog.2;omega)
    have bz:(log+1==0)=false:=by have:=hlog.1;simp;omega
    rw[if_neg e,setThread_of hi] at hD
    subst hD
    refine CallT.body (F:=m31) rfl rfl rfl rfl ?_
    simp -implicitDefEqProofs[m31,hF,sT,sR,sP,sI,-List.map_set,hcu,tm,bz]
    refine CallT.bodyQ (F:=m28) rfl rfl rfl rfl rfl ?_
    simp -implicitDefEqProofs[m28,hF,sT,sR,sP,sI,-List.map_set,hcu,tm,bz]
    refine CallT.bodyQ (F:=m62) rfl rfl rfl rfl rfl ?_
    simp -implicitDefEqProofs[m62,hF,sT,sR,sP,sI,-List.map_set,hcu,tm,bz]
    refine CallT.bodyQ (F:=m28) rfl rfl rfl rfl rfl ?_
    simp -implicitDefEqProofs[m28,hF,sT,sR,sP,sI,-List.map_set,hcu,tm,bz]
    refine CallT.body (F:=m60) rfl rfl rfl rfl ?_
    simp -implicitDefEqProofs[m60,hF,sT,sR,sP,sI,-List.map_set,hcu,tm,bz]
    refine CallT.bodyQ (F:=m28) rfl rfl rfl rfl rfl ?_
    simp -implicitDefEqProofs[m28,hF,sT,sR,sP,sI,-List.map_set,hcu,tm,bz]
    exact hyes rfl _ ⟨⟨_,[],by simp[t1,hn0,sR,-List.map_set],rfl,rowZ_rings _ true⟩,⟨_,[],by simp[t2,hn0],rfl,rowZ_reps _ true⟩,⟨_,[],by simp[t3,hn0,hlg,sT,-List.map_set],rfl,rowZ_thrs _ true⟩,⟨4,0,[],m.rings.length,m.replicas.length,m.threads.length,m.history.length,by simp[t4,hn0],rfl,by omega,by omega,by omega,by simp[t5,hn0,hrm]⟩⟩
 ·have bt:((m.threads[t.toNat].tails.length:Int) != m.config.logs)=true:=by simp[tl]
  rw[if_pos tl] at hD
  subst hD
  refine CallT.body (F:=m31) rfl rfl rfl rfl ?_
  simp -implicitDefEqProofs[m31,hF,sT,sR,sP,sI,-List.map_set,bt]
  refine CallT.bodyQ (F:=m28) rfl rfl rfl rfl rfl ?_
  simp -implicitDefEqProofs[m28,hF,sT,sR,sP,sI,-List.map_set,bt]
  exact hno (by decide) _

set_option maxRecDepth 20000 in
set_option maxHeartbeats 8000000 in
theorem c_ScanStep (m:Machine) (t:Int) (h:okM m):PCall tab 12 [.agg (encMachine false m),.int .i64 t] (.tup [.agg (encMachine false (scanM m t).1),.int .i64 (scanM m t).2]):=by
 by_cases hat:atP m t
 ·have hc:=hat.1.1
  have h1:=hat.1
  obtain⟨r,log,hi,hri,hj,hk,hlk,hrm,et,hlg,hown,hlog,hA,hF⟩:=wk h hat
  have ht1:=hF.1.2.1
  by_cases hcode:(thrAt m t.toNat).op.code=3
  ·have hl:scanP m t:=⟨hat,hcode⟩
   have herr:=scan_err m t
   have b2:(m.threads[t.toNat].op.code != 3)=false:=by rw[et] at hcode;simp[hcode]
   by_cases s17:(thrAt m t.toNat).step=17
   ·have hX:fenceX m t (thrAt m t.toNat) (ownRing m t)=scanM m t:=by rw[scanM_yes hl,s17];rfl
    rw[et] at s17
    have e17:((17:Int)==m.threads[t.toNat].step)=true:=by simp[s17]
    refine PCall.ofZ (F:=m12) rfl rfl rfl ?_
    simp -implicitDefEqProofs[m12]
    refine CallT.body (F:=m27) rfl rfl rfl rfl ?_
    simp -implicitDefEqProofs[m27]
    refine CallT.bool2 (by simp) (c_boardThread m t h) (fun hb=>?_) (fun hb=>absurd hat hb)
    simp -implicitDefEqProofs
    refine CallT.pure (c_cfgReplica m.config t ⟨hc,hat.2.1,hat.2.2⟩) (by simp) rfl ?_
    rw[show t.tmod m.config.replicas=ownOf m t from rfl]
    simp -implicitDefEqProofs
    refine CallT.pure (c_startCopy m h (whole_of h1)) (by simp) (ok_mach _) ?_
    simp -implicitDefEqProofs
    refine CallT.bodyQ (F:=m28) rfl rfl rfl rfl rfl ?_
    simp -implicitDefEqProofs[m28,hF.1,b2,e17]
    refine CallT.body (F:=m29) rfl rfl rfl rfl ?_
    simp -implicitDefEqProofs[m29,hF.1,b2,e17]
    refine CallT.bodyQ (F:=m28) rfl rfl rfl rfl rfl ?_
    simp -implicitDefEqProofs[m28,hF.1,b2,e17]
    refine x_fence m t h hl _ ⟨by simp,by simp,by simp,by simp,by simp,by simp⟩ _ (fun he T1 hd=>?_) (fun he T1=>?_)
    ·rw[hX] at he hd
     generalize scanM m t=A at he hd ⊢
     obtain⟨D,e⟩:=A
     dsimp only at he hd ⊢
     subst he
     obtain⟨⟨R1,L1,u1,v1,z1⟩,⟨R2,L2,u2,v2,z2⟩,⟨R3,L3,u3,v3,z3⟩,⟨q,g4,L4,n1,n2,n3,n4,u4,v4,q1,q2,q3,u5⟩⟩:=hd
     have q1s:=Ne.symm q1
     have q2s:=Ne.symm q2
     have q3s:=Ne.symm q3
     simp -implicitDefEqProofs[u1,u2,u3,u4,u5,v1,v2,v3,v4,q1,q2,q3,q1s,q2s,q3s,unzT,unzP,okT,okP]
     exact⟨⟨z1.1,z2.1,z3.1⟩,z1.2,z2.2,z3.2⟩
    ·rw[hX] at he
     rw[herr he]
     simp -implicitDefEqProofs[unzT,unzP,okT,okP]
   by_cases s18:(thrAt m t.toNat).step=18
   ·have hX:gatherX m t (thrAt m t.toNat) (ownCur m t) (ownLock m t)=scanM m t:=by rw[scanM_yes hl,s18];rfl
    rw[et] at s18
    have e17:((17:Int)==m.threads[t.toNat].step)=false:=by simp[s18]
    have e18:((18:Int)==m.threads[t.toNat].step)=true:=by simp[s18]
    refine PCall.ofZ (F:=m12) rfl rfl rfl ?_
    simp -implicitDefEqProofs[m12]
    refine CallT.body (F:=m27) rfl rfl rfl rfl ?_
    simp -implicitDefEqProofs[m27]
    refine CallT.bool2 (by simp) (c_boardThread m t h) (fun hb=>?_) (fun hb=>absurd hat hb)
    simp -implicitDefEqProofs
    refine CallT.pure (c_cfgReplica m.config t ⟨hc,hat.2.1,hat.2.2⟩) (by simp) rfl ?_
    rw[show t.tmod m.config.replicas=ownOf m t from rfl]
    simp -implicitDefEqProofs
    refine CallT.pure (c_startCopy m h (whole_of h1)) (by simp) (ok_mach _) ?_
    simp -implicitDefEqProofs
    refine CallT.bodyQ (F:=m28) rfl rfl rfl rfl rfl ?_
    simp -implicitDefEqProofs[m28,hF.1,b2,e17,e18]
    refine CallT.body (F:=m29) rfl rfl rfl rfl ?_
    simp -implicitDefEqProofs[m29,hF.1,b2,e17,e18]
    refine CallT.bodyQ (F:=m28) rfl rfl rfl rfl rfl ?_
    simp -implicitDefEqProofs[m28,hF.1,b2,e17,e18]
    refine x_gather m t h hl _ ⟨by simp,by simp,by simp,by simp,by simp,by simp⟩ _ (fun he T1 hd=>?_) (fun he T1=>?_)
    ·rw[hX] at he hd
     generalize scanM m t=A at he hd ⊢
     obtain⟨D,e⟩:=A
     dsimp only at he hd ⊢
     subst he
     obtain⟨⟨R1,L1,u1,v1,z1⟩,⟨R2,L2,u2,v2,z2⟩,⟨R3,L3,u3,v3,z3⟩,⟨q,g4,L4,n1,n2,n3,n4,u4,v4,q1,q2,q3,u5⟩⟩:=hd
     have q1s:=Ne.symm q1
     have q2s:=Ne.symm q2
     have q3s:=Ne.symm q3
     simp -implicitDefEqProofs[u1,u2,u3,u4,u5,v1,v2,v3,v4,q1,q2,q3,q1s,q2s,q3s,unzT,unzP,okT,okP]
     exact⟨⟨z1.1,z2.1,z3.1⟩,z1.2,z2.2,z3.2⟩
    ·rw[hX] at he
     rw[herr he]
     simp -implicitDefEqProofs[unzT,unzP,okT,okP]
   by_cases s19:(thrAt m t.toNat).step=19
   ·have hX:openX m t (thrAt m t.toNat) (ownRing m t)=scanM m t:=by rw[scanM_yes hl,s19];rfl
    rw[et] at s19
    have e17:((17:Int)==m.threads[t.toNat].step)=false:=by simp[s19]
    have e18:((18:Int)==m.threads[t.toNat].step)=false:=by simp[s19]
    have e19:((19:Int)==m.threads[t.toNat].step)=true:=by simp[s19]
    refine PCall.ofZ (F:=m12) rfl rfl rfl ?_
    simp -implicitDefEqProofs[m12]
    refine CallT.body (F:=m27) rfl rfl rfl rfl ?_
    simp -implicitDefEqProofs[m27]
    refine CallT.bool2 (by simp) (c_boardThread m t h) (fun hb=>?_) (fun hb=>absurd hat hb)
    simp -implicitDefEqProofs
    refine CallT.pure (c_cfgReplica m.config t ⟨hc,hat.2.1,hat.2.2⟩) (by simp) rfl ?_
    rw[show t.tmod m.config.replicas=ownOf m t from rfl]
    simp -implicitDefEqProofs
    refine CallT.pure (c_startCopy m h (whole_of h1)) (by simp) (ok_mach _) ?_
    simp -implicitDefEqProofs
    refine CallT.bodyQ (F:=m28) rfl rfl rfl rfl rfl ?_
    simp -implicitDefEqProofs[m28,hF.1,b2,e17,e18,e19]
    refine CallT.body (F:=m29) rfl rfl rfl rfl ?_
    simp -implicitDefEqProofs[m29,hF.1,b2,e17,e18,e19]
    refine CallT.bodyQ (F:=m28) rfl rfl rfl rfl rfl ?_
    simp -implicitDefEqProofs[m28,hF.1,b2,e17,e18,e19]
    refine x_open m t h hl _ ⟨by simp,by simp,by simp,by simp,by simp,by simp⟩ _ (fun he T1 hd=>?_) (fun he T1=>?_)
    ·rw[hX] at he hd
     generalize scanM m t=A at he hd ⊢
     obtain⟨D,e⟩:=A
     dsimp only at he hd ⊢
     subst he
     obtain⟨⟨R1,L1,u1,v1,z1⟩,⟨R2,L2,u2,v2,z2⟩,⟨R3,L3,u3,v3,z3⟩,⟨q,g4,L4,n1,n2,n3,n4,u4,v4,q1,q2,q3,u5⟩⟩:=hd
     have q1s:=Ne.symm q1
     have q2s:=Ne.symm q2
     have q3s:=Ne.symm q3
     simp -implicitDefEqProofs[u1,u2,u3,u4,u5,v1,v2,v3,v4,q1,q2,q3,q1s,q2s,q3s,unzT,unzP,okT,okP]
     exact⟨⟨z1.1,z2.1,z3.1⟩,z1.2,z2.2,z3.2⟩
    ·rw[hX] at he
     rw[herr he]
     simp -implicitDefEqProofs[unzT,unzP,okT,okP]
   rw[show scanM m t=(noMachine,2200) by rw[scanM_yes hl];simp[scanX,s17,s18,s19]]
   rw[et] at s17 s18 s19
   have e17:((17:Int)==m.threads[t.toNat].step)=false:=by simp;omega
   have e18:((18:Int)==m.threads[t.toNat].step)=false:=by simp;omega
   have e19:((19:Int)==m.threads[t.toNat].step)=false:=by simp;omega
   refine PCall.ofZ (F:=m12) rfl rfl rfl ?_
   simp -implicitDefEqProofs[m12]
   refine CallT.body (F:=m27) rfl rfl rfl rfl ?_
   simp -implicitDefEqProofs[m27]
   refine CallT.bool2 (by simp) (c_boardThread m t h) (fun hb=>?_) (fun hb=>absurd hat hb)
   simp -implicitDefEqProofs
   refine CallT.pure (c_cfgReplica m.config t ⟨hc,hat.2.1,hat.2.2⟩) (by simp) rfl ?_
   rw[show t.tmod m.config.replicas=ownOf m t from rfl]
   simp -implicitDefEqProofs
   refine CallT.pure (c_startCopy m h (whole_of h1)) (by simp) (ok_mach _) ?_
   simp -implicitDefEqProofs
   refine CallT.bodyQ (F:=m28) rfl rfl rfl rfl rfl ?_
   simp -implicitDefEqProofs[m28,hF.1,b2,e17,e18,e19]
   refine CallT.body (F:=m29) rfl rfl rfl rfl ?_
   simp -implicitDefEqProofs[m29,hF.1,b2,e17,e18,e19]
   refine CallT.bodyQ (F:=m28) rfl rfl rfl rfl rfl ?_
   simp -implicitDefEqProofs[m28,hF.1,b2,e17,e18,e19]
   simp -implicitDefEqProofs[unzT,unzP,okT,okP]
  ·rw[scanM_no fun e=>hcode e.2]
   have b2:(m.threads[t.toNat].op.code != 3)=true:=by rw[et] at hcode;simp[hcode]
   refine PCall.ofZ (F:=m12) rfl rfl rfl ?_
   simp -implicitDefEqProofs[m12]
   refine CallT.body (F:=m27) rfl rfl rfl rfl ?_
   simp -implicitDefEqProofs[m27]
   refine CallT.bool2 (by simp) (c_boardThread m t h) (fun hb=>?_) (fun hb=>absurd hat hb)
   simp -implicitDefEqProofs
   refine CallT.pure (c_cfgReplica m.config t ⟨hc,hat.2.1,hat.2.2⟩) (by simp) rfl ?_
   rw[show t.tmod m.config.replicas=ownOf m t from rfl]
   simp -implicitDefEqProofs
   refine CallT.pure (c_startCopy m h (whole_of h1)) (by simp) (ok_mach _) ?_
   simp -implicitDefEqProofs
   refine CallT.bodyQ (F:=m28) rfl rfl rfl rfl rfl ?_
   simp -implicitDefEqProofs[m28,hF.1,b2]
   simp -implicitDefEqProofs[unzT,unzP,okT,okP]
 ·rw[scanM_no fun e=>hat e.1]
  refine PCall.mach1Z ?_
  refine PCall.of (F:=m12) rfl rfl rfl (ok_mach1 _ _) ?_
  simp -implicitDefEqProofs[m12]
  refine CallT.body (F:=m27) rfl rfl rfl rfl ?_
  simp -implicitDefEqProofs[m27]
  refine CallT.bool2 (by simp) (c_boardThread m t h) (fun hb=>absurd hb hat) (fun hb=>?_)
  simp -implicitDefEqProofs

end Go.Ab

namespace Go.Ab

theorem c_awake22:PCall tab 9 [] (.bool true):=PCall.closed 60 rfl rfl rfl (by kernel_rfl)

end Go.Ab

namespace Go.Ab

def scanRel (a b:Int):Prop:=(a=17∧b=17)∨(a=17∧b=18)∨(a=18∧b=18)∨(a=18∧b=19)∨(a=19∧b=19)∨(a=19∧b=0)
def FenceAlone (R S:List Ring):Prop:=R.length=S.length∧∀ (g:Nat) (h1:g<R.length) (h2:g<S.length),∃ f,R[g]={ S[g] with fence:=f }
theorem FenceAlone.refl (R:List Ring):FenceAlone R R:=⟨rfl,fun g h1 _=>⟨R[g].fence,rfl⟩⟩
theorem FenceAlone.set {R:List Ring} {g:Nat} (hg:g<R.length) (f:Int):FenceAlone (R.set g { R[g] with fence:=f }) R:=by
 refine⟨by simp,fun k h1 h2=>?_⟩
 rw[List.getElem_set]
 split
 ·rename_i e;subst e;exact⟨f,rfl⟩
 ·exact⟨R[k].fence,rfl⟩
structure ScanOK (m:Machine) (t:Int) (D:Machine):Prop where
 p:scanP m t
 rings:FenceAlone D.rings m.rings
 thrs:D.threads.length=m.threads.length
 step:∃ (h1:t.toNat<m.threads.length) (h2:t.toNat<D.threads.length),scanRel m.threads[t.toNat].step D.threads[t.toNat].step∧(D.threads[t.toNat].step=0→D.history.length=m.history.length+1)

end Go.Ab

namespace Go.Ab

theorem c_begun22:PCall tab 10 [] (.agg (encMachine true begunM)):=by
 refine PCall.of (F:=m10) rfl rfl rfl (ok_mach _) ?_
 simp -implicitDefEqProofs[m10]
 refine CallT.pure (c_New13 ⟨2,2,2,4,8⟩) rfl (ok_mach1 _ _) ?_
 rw[newM_yes begun_cfg]
 rw[show machine0 ⟨2,2,2,4,8⟩=begunM from rfl]
 simp -implicitDefEqProofs

end Go.Ab

namespace Go.Ab

def begun1S:Machine:=callTo begunM 0 ⟨3,0,0⟩
def begun2S:Machine:=callTo begun1S 1 ⟨3,0,0⟩
def scansF (m:Machine):List Machine:=[0,1].filterMap fun t:Nat=>if (thrAt m t).step=0 then none else some (scanM m t).1
def fenceRel (t was is:Int):Prop:=is=was∧was=0∨is=was∧was≠0∨was=0∧is=t+1∨was=t+1∧is=0
instance (t was is:Int):Decidable (fenceRel t was is):=inferInstanceAs (Decidable (_∨_))
def fenceOK (L:List Machine) (A:Machine) (t:Nat):Prop:=(thrAt A t).step=0∨(scanM A t).2=0∧(scanM A t).1∈L∧fenceRel t (ringAt A 0).fence (ringAt (scanM A t).1 0).fence∧fenceRel t (ringAt A 1).fence (ringAt (scanM A t).1 1).fence∧((thrAt (scanM A t).1 t).step=18→(ringAt (scanM A t).1 0).fence=t+1∧(ringAt (scanM A t).1 1).fence=t+1)
instance (L:List Machine) (A:Machine) (t:Nat):Decidable (fenceOK L A t):=inferInstanceAs (Decidable (_∨_))
def fenceL:List Machine:=closeL scansF 16 [begun2S]
def allOK (L:List Machine):Prop:=∀ A∈L,okM A∧A.threads.length=4∧A.rings.length=2∧fenceOK L A 0∧fenceOK L A 1
instance (L:List Machine):Decidable (allOK L):=inferInstanceAs (Decidable (∀ A∈L,_))
theorem fence_all:allOK fenceL:=by decide +kernel
theorem fence_first:begun2S∈fenceL:=by decide +kernel
theorem fence_calls:okM begunM∧headsIn begunM∧okM begun1S∧headsIn begun1S∧callM begunM 0 ⟨3,0,0⟩=(begun1S,0)∧callM begun1S 1 ⟨3,0,0⟩=(begun2S,0):=by decide +kernel

theorem c_called22:∃ P:Machine,P.threads.length=4∧PCall tab 14 [] (.agg (encMachine false P)):=by
 have hC:=c_Call13F begunM 0 ⟨0,0,7⟩ fence_calls.1 fence_calls.2.1
 have hl:(callM begunM 0 ⟨0,0,7⟩).1.threads.length=4:=by decide +kernel
 generalize callM begunM 0 ⟨0,0,7⟩=A at *
 obtain⟨P,e⟩:=A
 refine⟨P,hl, ?_⟩
 have hbeg:=c_begun22
 generalize begunM=B at *
 refine PCall.of (F:=m14) rfl rfl rfl (ok_machF _) ?_
 simp -implicitDefEqProofs[m14]
 refine CallT.pure hbeg rfl (ok_mach _) ?_
 simp -implicitDefEqProofs
 refine CallT.pure hC (by simp) (ok_mach1F _ _) ?_
 simp -implicitDefEqProofs

structure SfI (rows:List Int) (L:List Machine) (k:Nat) (E:TE) (T:TH):Prop where
 h:∃ (i b:Nat) (A:Machine),i+k=rows.length∧i≤60∧A∈L∧MF b T A∧E.var 0=some (mCz b A)∧E.get 5=.a (.int .i64 i)
 ln:1≤E.ln
 e0:E.get 0=.a (.vs (rows.map encInt) false)
 e3:E.get 3=.lp 0 0
structure SfG (rows:List Int) (A B:Machine) (i t b c v:Nat) (k:Nat) (E:TE) (T:TH):Prop where
 h:∃ g:Nat,g+k=2∧E.get 9=.a (.int .i64 g)
 qA:MF b T A
 qB:MF c T B
 v0:E.var 0=some (mCz b A)
 v7:E.var v=some (mCz c B)
 ln:v<E.ln
 e0:E.get 0=.a (.vs (rows.map encInt) false)
 e3:E.get 3=.lp 0 0
 e5:E.get 5=.a (.int .i64 i)
 e6:E.get 6=.a (.int .i64 t)
 e7:E.get 7=.lp v 0

set_option maxRecDepth 20000 in
set_option maxHeartbeats 8000000 in
theorem l_ScanFences (rows:List Int) (hr1:∀ x∈rows,inR x) (hr2:rows.length≤9223372036854775807):CallT tab false 3 [.a (.vs (rows.map encInt) false)] TH.none (fun v _=>v=.a (.bool true)):=by
 have hbeg:=c_begun22.machZ
 obtain⟨P,lP,hcl⟩:=c_called22
 obtain⟨h0,h0',h1,h1',k0,k1⟩:=fence_calls
 have hC0:=c_Call13F begunM 0 ⟨3,0,0⟩ h0 h0'
 have hC1:=c_Call13F begun1S 1 ⟨3,0,0⟩ h1 h1'
 rw[k0] at hC0
 rw[k1] at hC1
 have hF:=fence_first
 have hA:=fence_all
 have hB0:begunM.config=⟨2,2,2,4,8⟩:=rfl
 generalize fenceL=L at *
 generalize begun2S=B2 at *
 generalize begun1S=B1 at *
 generalize begunM=B0 at *
 refine CallT.body (F:=m3) rfl rfl rfl rfl ?_
 simp -implicitDefEqProofs[m3]
 refine CallT.pure c_awake22 rfl rfl ?_
 simp -implicitDefEqProofs
 refine CallT.pure hbeg rfl (ok_machF _) ?_
 simp -implicitDefEqProofs
 refine WCT.unroll ?_
 simp -implicitDefEqProofs
 refine CallT.pure hC0 (by simp) (ok_mach1F _ _) ?_
 simp -implicitDefEqProofs
 refine WCT.unroll ?_
 simp -implicitDefEqProofs
 refine CallT.pure hC1 (by simp) (ok_mach1F _ _) ?_
 simp -implicitDefEqProofs
 refine WCT.unroll ?_
 simp -implicitDefEqProofs
 refine loop_by (SfI rows L) ?_ rows.length ⟨⟨0,8,B2,by simp,by simp,hF,⟨by simp,by simp,by simp,by simp,by simp⟩,by simp[mCz],by simp⟩,by simp,by simp,by simp⟩
 clear h0 h0' h1 h1' k0 k1 hC0 hC1 hF hbeg hB0
 rintro k E T ⟨⟨i,b,A,hik,hi60,hAL,⟨q0,q1,q2,q3,hn⟩,v0,e5⟩,ln,e0,e3⟩
 unfold mCz at v0
 have l0:¬ E.ln=0:=by omega
 have l0':¬ 0=E.ln:=by omega
 by_cases hlt:i<rows.length∧i<60
 ·obtain⟨hi1,hi2⟩:=hlt
  have g1:=List.getElem?_eq_getElem hi1
  have hi6:(i:Int)<60:=by omega
  have z0:0<rows.length:=by omega
  obtain⟨okA,lT,lR,f0,f1⟩:=hA A hAL
  obtain⟨t,ht,ht2,hfe⟩:∃ t:Nat,rows[i] % 2=(t:Int)∧t<2∧fenceOK L A t:=by
   rcases (by omega:rows[i] % 2=0∨rows[i] % 2=1) with h|h
   ·exact⟨0,h,by omega,f0⟩
   ·exact⟨1,h,by omega,f1⟩
  have tT:t<A.threads.length:=by omega
  have z4:0<A.threads.length:=by omega
  have gt:=List.getElem?_eq_getElem tT
  have wi:IntKind.wrap .i64 ((i:Int)+1)=((i+1:Nat):Int):=wrap_nat (by omega)
  have hX:=And.intro e0 (And.intro e3 (And.intro e5 (And.intro v0 (And.intro hi1 (And.intro hi6 (And.intro g1 (And.intro z0 (And.intro ht (And.intro l0 (And.intro l0' (And.intro tT (And.intro z4 gt))))))))))))
  have hQ:=And.intro q0 (And.intro q1 (And.intro q2 q3))
  by_cases hz:A.threads[t].step=0
  ·simp -implicitDefEqProofs[hX,hQ,hz,mask_1,wi]
   exact⟨k - 1,by omega,⟨⟨i+1,b,A,by omega,by omega,hAL,⟨q0,q1,q2,q3,hn⟩,by simp[v0,mCz],by simp⟩,by simp[ln],by simp[e0],by simp[e3]⟩⟩
  ·obtain⟨s2,sL,r0,r1,s18⟩:=hfe.resolve_left (by rw[thrAt_of tT];exact hz)
   have hS:=c_ScanStep A t okA
   rw[s2] at hS
   obtain⟨okB,lTB,lRB,_,_⟩:=hA _ sL
   generalize (scanM A t).1=B at *
   have hzb:(A.threads[t].step==0)=false:=by simpa using hz
   simp -implicitDefEqProofs[hX,hQ,hz,hzb,mask_1]
   refine CallT.pure hS (by simp[hX,hQ]) (ok_mach1F _ _) ?_
   simp -implicitDefEqProofs[hX,hQ]
   refine CallT.pure (c_Num 0) rfl rfl ?_
   simp -implicitDefEqProofs[hX,hQ,lTB,lRB]
   have hU:(¬ b=T.next∧¬ b=T.next+1∧¬ b=T.next+1+1∧¬ b=T.next+1+1+1)∧(¬ b+1=T.next∧¬ b+1=T.next+1∧¬ b+1=T.next+1+1∧¬ b+1=T.next+1+1+1)∧(¬ b+2=T.next∧¬ b+2=T.next+1∧¬ b+2=T.next+1+1∧¬ b+2=T.next+1+1+1)∧(¬ b+3=T.next∧¬ b+3=T.next+1∧¬ b+3=T.next+1+1∧¬ b+3=T.next+1+1+1) ∧
    (¬ T.next=b∧¬ T.next+1=b∧¬ T.next+1+1=b∧¬ T.next+1+1+1=b)∧(¬ T.next=b+1∧¬ T.next+1=b+1∧¬ T.next+1+1=b+1∧¬ T.next+1+1+1=b+1)∧(¬ T.next=b+2∧¬ T.next+1=b+2∧¬ T.next+1+1=b+2∧¬ T.next+1+1+1=b+2)∧(¬ T.next=b+3∧¬ T.next+1=b+3∧¬ T.next+1+1=b+3∧¬ T.next+1+1+1=b+3):=by omega
   refine loop_by (SfG rows A B i t b T.next E.ln) ?_ 2 ⟨⟨0,by simp,by simp⟩,⟨by simp[hQ,hU],by simp[hQ,hU],by simp[hQ,hU],by simp[hQ,hU],by simp;omega⟩,⟨by simp,by simp,by simp,by simp,by simp⟩,by simp[hX,mCz],by simp[hX,mCz,lTB,lRB],by simp,by simp[hX],by simp[hX],by simp[hX],by simp[hX],by simp⟩
   have hE1:¬ E.ln=0:=l0
   have hE2:¬ 0=E.ln:=l0'
   generalize E.ln=v at hE1 hE2 ⊢
   generalize T.next=c at *
   clear hU hQ hX q0 q1 q2 q3 hn v0 e5 ln e0 e3 l0 l0' hS hfe f0 f1 E T
   rintro k2 E T ⟨⟨g,hgk,e9⟩,⟨q0,q1,q2,q3,hn⟩,⟨p0,p1,p2,p3,pn⟩,v0,v7,ln,e0,e3,e5,e6,e7⟩
   unfold mCz at v0 v7
   have hQ:=And.intro q0 (And.intro q1 (And.intro q2 (And.intro q3 (And.intro p0 (And.intro p1 (And.intro p2 p3))))))
   have hX:=And.intro e0 (And.intro e3 (And.intro e5 (And.intro e6 (And.intro e7 (And.intro e9 (And.intro v0 (And.intro v7 (And.intro hE1 hE2))))))))
   have w1:IntKind.wrap .i64 ((t:Int)+1)=(t:Int)+1:=wrap_of (by omega) (by omega)
   by_cases hg:g<2
   ·have gi:(g:Int)<2:=by omega
    have zA:g<A.rings.length:=by omega
    have zB:g<B.rings.length:=by omega
    have gA:=List.getElem?_eq_getElem zA
    have gB:=List.getElem?_eq_getElem zB
    have yA:0<A.rings.length:=by omega
    have yB:0<B.rings.length:=by omega
    have hr:fenceRel t A.rings[g].fence B.rings[g].fence:=by
     have e:g=0∨g=1:=by omega
     rcases e with rfl|rfl
     ·rw[ringAt_of zA,ringAt_of zB] at r0;exact r0
     ·rw[ringAt_of zA,ringAt_of zB] at r1;exact r1
    have wg:IntKind.wrap .i64 ((g:Int)+1)=((g+1:Nat):Int):=wrap_nat (by omega)
    have n1:((t:Int)+1 != 0)=true:=by simp;omega
    have n2:((t:Int)+1==0)=false:=by simp;omega
    have n3:(0 != (t:Int)+1)=true:=by simp;omega
    have hG:=And.intro gi (And.intro zA (And.intro zB (And.intro gA (And.intro gB (And.intro yA (And.intro yB (And.intro wg (And.intro w1 (And.intro n1 (And.intro n2 n3))))))))))
    rcases hr with ⟨a,z⟩|⟨a,z⟩|⟨a,z⟩|⟨a,z⟩
    ·rw[z] at a
     simp -implicitDefEqProofs[hX,hQ,hG,a,z]
     exact⟨k2 - 1,by omega,⟨⟨g+1,by omega,by simp⟩,⟨q0,q1,q2,q3,hn⟩,⟨p0,p1,p2,p3,pn⟩,by simp[v0,mCz],by simp[v7,mCz],by simp[ln],by simp[e0],by simp[e3],by simp[e5],by simp[e6],by simp[e7]⟩⟩
    ·have z1:(A.rings[g].fence != 0)=true:=by simpa using z
     have z2:(A.rings[g].fence==0)=false:=by simpa using z
     simp -implicitDefEqProofs[hX,hQ,hG,a,z1,z2]
     exact⟨k2 - 1,by omega,⟨⟨g+1,by omega,by simp⟩,⟨q0,q1,q2,q3,hn⟩,⟨p0,p1,p2,p3,pn⟩,by simp[v0,mCz],by simp[v7,mCz],by simp[ln],by simp[e0],by simp[e3],by simp[e5],by simp[e6],by simp[e7]⟩⟩
    ·simp -implicitDefEqProofs[hX,hQ,hG,a,z]
     exact⟨k2 - 1,by omega,⟨⟨g+1,by omega,by simp⟩,⟨q0,q1,q2,q3,hn⟩,⟨p0,p1,p2,p3,pn⟩,by simp[v0,mCz],by simp[v7,mCz],by simp[ln],by simp[e0],by simp[e3],by simp[e5],by simp[e6],by simp[e7]⟩⟩
    ·simp -implicitDefEqProofs[hX,hQ,hG,a,z]
     exact⟨k2 - 1,by omega,⟨⟨g+1,by omega,by simp⟩,⟨q0,q1,q2,q3,hn⟩,⟨p0,p1,p2,p3,pn⟩,by simp[v0,mCz],by simp[v7,mCz],by simp[ln],by simp[e0],by simp[e3],by simp[e5],by simp[e6],by simp[e7]⟩⟩
   ·have gi:¬ (g:Int)<2:=by omega
    have zT:t<B.threads.length:=by omega
    have yT:0<B.threads.length:=by omega
    have z0B:0<B.rings.length:=by omega
    have z1B:1<B.rings.length:=by omega
    have gT:=List.getElem?_eq_getElem zT
    have g0:=List.getElem?_eq_getElem z0B
    have g1B:=List.getElem?_eq_getElem z1B
    rw[thrAt_of zT,ringAt_of z0B,ringAt_of z1B] at s18
    have hG:=And.intro gi (And.intro zT (And.intro yT (And.intro z0B (And.intro z1B (And.intro gT (And.intro g0 (And.intro g1B (And.intro w1 (And.intro wi lRB)))))))))
    by_cases h18:B.threads[t].step=18
    ·obtain⟨f0,f1⟩:=s18 h18
     simp -implicitDefEqProofs[hX,hQ,hG,h18,f0,f1]
     exact⟨k - 1,by omega,⟨⟨i+1,c,B,by omega,by omega,sL,⟨p0,p1,p2,p3,pn⟩,by simp[mCz,lTB,lRB],by simp⟩,by simp;omega,by simp[e0],by simp[e3]⟩⟩
    ·have b18:(B.threads[t].step==18)=false:=by simpa using h18
     simp -implicitDefEqProofs[hX,hQ,hG,b18]
     exact⟨k - 1,by omega,⟨⟨i+1,c,B,by omega,by omega,sL,⟨p0,p1,p2,p3,pn⟩,by simp[mCz,lTB,lRB],by simp⟩,by simp;omega,by simp[e0],by simp[e3]⟩⟩
 ·have hex:¬ (i<rows.length)∨(i<rows.length∧¬ (i:Int)<60):=by omega
  rcases hex with hx|⟨hx,hx6⟩
  ·simp -implicitDefEqProofs[e0,e3,e5,v0,hx]
   refine CallT.pure hcl rfl (ok_machF _) ?_
   simp -implicitDefEqProofs[lP]
  ·simp -implicitDefEqProofs[e0,e3,e5,v0,hx,hx6]
   refine CallT.pure hcl rfl (ok_machF _) ?_
   simp -implicitDefEqProofs[lP]

end Go.Ab

namespace Go.Ab
open Go.RowKit Go.ChangeShapes

theorem law_eval {M:FuncId→Option MFunc} {k:FuncId} {ts:List AV} (h:CallT M false k (ts.map .a) TH.none fun v _=>v=.a (.bool true)):∃ n H',eval M n k ts AH.zero=some (.bool true,H'):=by
 obtain⟨r,H',⟨n,hev⟩,v,A',T',_,hv,_,rfl⟩:=h _ AH.zero ts HR.none (VRL.atoms ts)
 cases hv
 exact⟨n,H',hev⟩

theorem i64_range {n:Int} (h:(Lit.int .i64 n).wf=true):-9223372036854775808≤n∧n<9223372036854775808:=by
 simp only[Lit.wf,Bool.and_eq_true,decide_eq_true_eq] at h
 have e1:IntKind.i64.min=-9223372036854775808:=by decide
 have e2:IntKind.i64.max=9223372036854775807:=by decide
 omega

end Go.Ab

namespace Go.Proofs.YtbgkjaicehonfaaGreat
open Go.ChangeShapes Go.WideShapes Go.ChangeAt Go.RowKit Go.Ab

mutual
theorem tame_of {H:Type}:∀ (d:DataW H),Rows.uptoBulk d≤1048576→tame d=true
 | .lit l,h=>by
  cases l
  case string bytes=>simp only[Rows.uptoBulk] at h;simp only[tame,decide_eq_true_eq];omega
  all_goals rfl
 | .nil,_=>rfl
 | .ptr _,_=>rfl
 | .slice es sp,h=>by
  simp only[Rows.uptoBulk] at h
  obtain⟨h1,h2⟩:=tameL_of es (by omega)
  simp only[tame,Bool.and_eq_true,decide_eq_true_eq]
  exact⟨by omega,h1⟩
 | .agg ps,h=>by
  simp only[Rows.uptoBulk] at h
  exact (tameL_of ps (by omega)).1
 | .iface _ _,_=>rfl
 | .map _,_=>rfl
 | .held _,_=>rfl
theorem tameL_of {H:Type}:∀ (l:List (DataW H)),Rows.uptoBulkAll l≤1048576→tameL l=true∧l.length≤Rows.uptoBulkAll l
 | [],_=>⟨rfl,by simp⟩
 | d::r,h=>by
  simp only[Rows.uptoBulkAll] at h ⊢
  obtain⟨h1,h2⟩:=tameL_of r (by omega)
  have h3:=tame_of d (by omega)
  have h4:=bulk_pos d
  exact⟨by simp only[tameL,h3,h1,Bool.and_self],by simp only[List.length_cons];omega⟩
theorem bulk_pos {H:Type}:∀ (d:DataW H),1≤Rows.uptoBulk d
 | .lit l=>by cases l<;>simp[Rows.uptoBulk]
 | .nil=>by simp[Rows.uptoBulk]
 | .ptr _=>by simp only[Rows.uptoBulk];omega
 | .slice _ _=>by simp only[Rows.uptoBulk];omega
 | .agg _=>by simp only[Rows.uptoBulk];omega
 | .iface _ _=>by simp only[Rows.uptoBulk];omega
 | .map _=>by simp only[Rows.uptoBulk];omega
 | .held _=>by simp[Rows.uptoBulk]
end

theorem own:ownKnob Go.Proofs.Tryz.prog.godebug=none:=by kernel_rfl
theorem laidOut:laidOutB Go.Proofs.Tryz.prog=true:=by kernel_rfl

section
variable (W:World)
end

end Go.Proofs.YtbgkjaicehonfaaGreat
