/-
  A thread at its step in memory, by value; replaying an entry there.
  and what goes with it.
  Conditions: none.
-/
import Derived.Test.YtbgkjaicehonfaaGreatGn0
import Derived.Test.YtbgkjaicehonfaaGreatGb
import Derived.Test.YtbgkjaicehonfaaGreatRows

set_option linter.unusedSimpArgs false
set_option linter.unusedVariables false

namespace Go.Ab

structure StT (T:TH) (m:Machine) (t r:Int):Prop where
 t1:T.get 1=.tree (m.rings.map (encRing true)) true []
 t2:T.get 2=.tree (m.replicas.map (encReplica true)) true []
 t3:T.get 3=.tree (m.threads.map (encThread true)) true []
 t4:T.get 4=.tree (m.history.map encEvent) true []
 t5:T.get 5=.raw [.a (.int .i64 m.config.object),.a (.int .i64 m.config.replicas),.a (.int .i64 m.config.logs),.a (.int .i64 m.config.threads),.a (.int .i64 m.config.slots),.sl 1 [] 0 0 m.rings.length true,.sl 2 [] 0 0 m.replicas.length true,.sl 3 [] 0 0 m.threads.length true,.sl 4 [] 0 0 m.history.length true,.a (.int .i64 t),.a (.int .i64 r)]
 nx:5<T.next

def RowZ (rows ts:List (List AV)):Prop:=(∀ x∈rows,∀ y∈x,okC 7 y=true)∧(rows.map fun row=>row.map (unz 7))=ts
structure DnT (T:TH) (D:Machine) (t r:Int):Prop where
 t1:∃ R L,T.get 1=.tree R true L∧(TO.tree R true L).valid [] 0=true∧RowZ R (D.rings.map (encRing false))
 t2:∃ R L,T.get 2=.tree R true L∧(TO.tree R true L).valid [] 0=true∧RowZ R (D.replicas.map (encReplica false))
 t3:∃ R L,T.get 3=.tree R true L∧(TO.tree R true L).valid [] 0=true∧RowZ R (D.threads.map (encThread false))
 t5:∃ q n1 n2 n3 n4,T.get q=.tree (D.history.map encEvent) true []∧q≠1∧q≠2∧q≠3∧T.get 5=.raw [.a (.int .i64 D.config.object),.a (.int .i64 D.config.replicas),.a (.int .i64 D.config.logs),.a (.int .i64 D.config.threads),.a (.int .i64 D.config.slots),.sl 1 [] 0 0 n1 true,.sl 2 [] 0 0 n2 true,.sl 3 [] 0 0 n3 true,.sl q [] 0 0 n4 true,.a (.int .i64 t),.a (.int .i64 r)]

theorem rowZ_rings (rs:List Ring) (z:Bool):RowZ (rs.map (encRing z)) (rs.map (encRing false)):=⟨okC_ring _ _,by rw[List.map_map,unz_ringF]⟩
theorem rowZ_reps (rs:List Replica) (z:Bool):RowZ (rs.map (encReplica z)) (rs.map (encReplica false)):=⟨okC_rep _ _,by rw[List.map_map,unz_rep]⟩
theorem rowZ_thrs (rs:List Thread) (z:Bool):RowZ (rs.map (encThread z)) (rs.map (encThread false)):=⟨okC_thr _ _,by rw[List.map_map,unz_thr]⟩
theorem StT.dn {T:TH} {m:Machine} {t r:Int} (h:StT T m t r):DnT T m t r:=⟨⟨_,_,h.t1,rfl,rowZ_rings _ _⟩,⟨_,_,h.t2,rfl,rowZ_reps _ _⟩,⟨_,_,h.t3,rfl,rowZ_thrs _ _⟩,⟨4,_,_,_,_,h.t4,by omega,by omega,by omega,h.t5⟩⟩

set_option maxHeartbeats 4000000 in
theorem x_Next (m:Machine) (r g t own:Int) (h:okM m) (hall:thereP m r g) (T:TH) (hT:StT T m t own) (K:TV→TH→Prop)
  (hK:∀ b T',DnT T' (oneM m r g).1 t own→K (.a (.bool b)) T'):CallT tab false 93 [.pt 5 [] 0 0 0,.int .i64 r |> .a,.a (.int .i64 g)] T K:=by
 rw[oneM_yes hall] at hK
 have hA:=at_of h hall
 have hE:=entry_of hA
 have hY:=entry_is hA
 obtain⟨h1,hr,hg⟩:=hall
 have hi:=hA.hr
 have hj:=hA.hg
 have hk:=hA.hc
 have hr0:=hr.1
 have hr1:=hr.2
 have hg0:=hg.1
 have hg1:=hg.2
 have hg2:g<(m.replicas[r.toNat]'hi).cursors.length:=by omega
 have z0:0<m.replicas.length:=by omega
 have z1:0<(m.replicas[r.toNat]'hi).cursors.length:=by omega
 have z2:0<m.rings.length:=by omega
 obtain⟨t1,t2,t3,t4,t5,nx⟩:=hT
 have hq:¬ T.next=0∧¬ T.next=1∧¬ T.next=2∧¬ T.next=3∧¬ T.next=4∧¬ T.next=5:=by omega
 refine CallT.body (F:=m93) rfl rfl rfl rfl ?_
 simp -implicitDefEqProofs[m93,hr0,hr1,hi,hj,hk,hg0,hg1,hg2,z0,z1,z2,t1,t2,t3,t4,t5]
 have gj:=List.getElem?_eq_getElem hj
 have gi:=List.getElem?_eq_getElem hi
 refine CallT.pure (c_Entry m.rings[g.toNat] (m.replicas[r.toNat].cursors[g.toNat]) hA.ol) (by simp[gj,t1,t2,t3,t4,t5]) (ok_slot1 _ _) ?_
 rw[← hE]
 generalize entryAt m r.toNat g.toNat=en at hY hK ⊢
 obtain⟨s,e⟩:=en
 simp -implicitDefEqProofs
 by_cases he:e=0
 ·subst he
  obtain⟨hs,ht0,ht1,hcu⟩:=hY rfl
  dsimp only at hs ht0 ht1 hK
  rw[if_pos rfl] at hK
  have hc3:s.op.code≠3:=by have:=hs.1.2;omega
  have htl:s.thread.toNat<m.threads.length:=by have:=h1.2.1.2.2.1;omega
  have ht2:s.thread<m.threads.length:=by omega
  have z3:0<m.threads.length:=by omega
  have gt:=List.getElem?_eq_getElem htl
  have hcur:=hA.cur
  have w1:IntKind.wrap .i64 (m.replicas[r.toNat].cursors[g.toNat]+1)=m.replicas[r.toNat].cursors[g.toNat]+1:=wrap_of (by omega) (by omega)
  simp -implicitDefEqProofs[hr0,hr1,hi,hj,hk,hg0,hg1,hg2,z0,z1,z2,t1,t2,t3,t4,t5]
  refine CallT.pure (c_objApply m.config.object m.replicas[r.toNat].state s.op hA.os hc3) (by simp[gi,t1,t2,t3,t4,t5]) (ok_st3 _ _ _) ?_
  rw[applyM_yes hA.st hs.1.1]
  rw[nextM_of hA s] at hK
  generalize turnS m.config.object m.replicas[r.toNat].state s.op=tr at hK ⊢
  obtain⟨st2,an⟩:=tr
  by_cases hown:s.thread.tmod m.config.replicas=r
  ·have hown2:s.thread.tmod m.config.replicas=(r.toNat:Int):=by omega
   rw[if_pos hown2,modify_of gt] at hK
   simp -implicitDefEqProofs[hr0,hr1,hi,hj,hk,hg0,hg1,hg2,z0,z1,z2,gi,gj,w1,t1,t2,t3,t4,t5,hq]
   refine CallT.pure (c_cfgReplica m.config s.thread ⟨h1.1,ht0,ht1⟩) rfl rfl ?_
   simp -implicitDefEqProofs[hown,htl,ht2,ht0,z3,gt,t1,t2,t3,t4,t5,hq]
   refine hK true _ ⟨⟨m.rings.map (encRing true),[],by simp[t1,hq],rfl,rowZ_rings _ _⟩,⟨_,_,by rw[TH.get_put,if_neg (by decide),TH.get_put,if_neg (by decide),TH.get_put,if_pos rfl],rfl, ?_⟩,⟨_,_,by rw[TH.get_put,if_pos rfl],rfl, ?_⟩,⟨4,m.rings.length,m.replicas.length,m.threads.length,m.history.length,by simp[t4,hq],by omega,by omega,by omega,by simp[t5,hq]⟩⟩
   ·refine⟨okC_set (okC_rep _ _) (by simp[okC_ints 6,okC_iset 5]), ?_⟩
    rw[List.map_set,List.map_map,unz_rep]
    simp[encReplica,unz_intF]
   ·refine⟨okC_set (okC_thr _ _) (by simp[okC_ints 6,okC,flatV]), ?_⟩
    rw[List.map_set,List.map_map,unz_thr]
    simp[encThread]
  ·have hown2:¬ s.thread.tmod m.config.replicas=(r.toNat:Int):=by omega
   rw[if_neg hown2] at hK
   simp -implicitDefEqProofs[hr0,hr1,hi,hj,hk,hg0,hg1,hg2,z0,z1,z2,gi,gj,w1,t1,t2,t3,t4,t5,hq]
   refine CallT.pure (c_cfgReplica m.config s.thread ⟨h1.1,ht0,ht1⟩) rfl rfl ?_
   simp -implicitDefEqProofs[hown,t1,t2,t3,t4,t5,hq]
   refine hK true _ ⟨⟨m.rings.map (encRing true),[],by simp[t1,hq],rfl,rowZ_rings _ _⟩,⟨_,_,by rw[TH.get_put,if_pos rfl],rfl, ?_⟩,⟨m.threads.map (encThread true),[],by simp[t3,hq],rfl,rowZ_thrs _ _⟩,⟨4,m.rings.length,m.replicas.length,m.threads.length,m.history.length,by simp[t4,hq],by omega,by omega,by omega,by simp[t5,hq]⟩⟩
   refine⟨okC_set (okC_rep _ _) (by simp[okC_ints 6,okC_iset 5]), ?_⟩
   rw[List.map_set,List.map_map,unz_rep]
   simp[encReplica,unz_intF]
 ·rw[if_neg he] at hK
  simp -implicitDefEqProofs[he]
  exact hK _ _ (StT.dn ⟨t1,t2,t3,t4,t5,nx⟩)

end Go.Ab

namespace Go.Ab

theorem ok_ints (xs:List Int):okT (.vs (xs.map encInt) false)=true:=by simp[okT,okP,okC,List.all_map,flatV]
def catS (s:State):List Int:=s.r0++(s.r1++(s.r2++s.r3))

theorem unz7_int:((fun row:List AV=>row.map (unz 7)) ∘ encInt)=encInt:=by funext x;rfl

set_option maxHeartbeats 4000000 in
theorem c_Concat (s:State) (h:s.r0.length+s.r1.length+s.r2.length+s.r3.length≤1048576):PCall tab 176 [.vs [[.vs (s.r0.map encInt) false],[.vs (s.r1.map encInt) false],[.vs (s.r2.map encInt) false],[.vs (s.r3.map encInt) false]] false] (.vs ((catS s).map encInt) false):=by
 obtain⟨r0,r1,r2,r3⟩:=s
 dsimp only[catS] at *
 have w0:IntKind.wrap .i64 (r0.length:Int)=r0.length:=wrap_of (by omega) (by omega)
 have w1:IntKind.wrap .i64 ((r0.length:Int)+r1.length)=(r0.length:Int)+r1.length:=wrap_of (by omega) (by omega)
 have w2:IntKind.wrap .i64 ((r0.length:Int)+r1.length+r2.length)=(r0.length:Int)+r1.length+r2.length:=wrap_of (by omega) (by omega)
 have w3:IntKind.wrap .i64 ((r0.length:Int)+r1.length+r2.length+r3.length)=(r0.length:Int)+r1.length+r2.length+r3.length:=wrap_of (by omega) (by omega)
 have n0:¬ (r0.length:Int)<0:=by omega
 have n1:¬ (r0.length:Int)+r1.length<0:=by omega
 have n2:¬ (r0.length:Int)+r1.length+r2.length<0:=by omega
 have n3:¬ (r0.length:Int)+r1.length+r2.length+r3.length<0:=by omega
 have hW:=And.intro w0 (And.intro w1 (And.intro w2 (And.intro w3 (And.intro n0 (And.intro n1 (And.intro n2 n3))))))
 refine PCall.ofZ (F:=m176) rfl rfl rfl ?_
 simp -implicitDefEqProofs[m176]
 refine WCT.unroll ?_
 simp -implicitDefEqProofs[hW]
 refine WCT.unroll ?_
 simp -implicitDefEqProofs[hW]
 refine WCT.unroll ?_
 simp -implicitDefEqProofs[hW]
 refine WCT.unroll ?_
 simp -implicitDefEqProofs[hW]
 refine WCT.unroll ?_
 simp -implicitDefEqProofs[hW]
 refine CallT.grow rfl ⟨by omega,by omega⟩ (fun hz=>?_) (fun hz=>?_)
 ·obtain rfl:r0=[]:=List.length_eq_zero_iff.1 (by omega)
  obtain rfl:r1=[]:=List.length_eq_zero_iff.1 (by omega)
  obtain rfl:r2=[]:=List.length_eq_zero_iff.1 (by omega)
  obtain rfl:r3=[]:=List.length_eq_zero_iff.1 (by omega)
  simp -implicitDefEqProofs
  refine WCT.unroll ?_
  simp -implicitDefEqProofs[unzT,unzP,okT,okP]
  refine WCT.unroll ?_
  simp -implicitDefEqProofs[unzT,unzP,okT,okP]
  refine WCT.unroll ?_
  simp -implicitDefEqProofs[unzT,unzP,okT,okP]
  refine WCT.unroll ?_
  simp -implicitDefEqProofs[unzT,unzP,okT,okP]
  refine WCT.unroll ?_
  simp -implicitDefEqProofs[unzT,unzP,okT,okP]
 ·clear hW w0 w1 w2 w3 n0 n1 n2 n3
  rcases r0 with _|⟨a,l⟩
  ·rcases r1 with _|⟨a,l⟩
   ·rcases r2 with _|⟨a,l⟩
    ·rcases r3 with _|⟨a,l⟩
     ·simp at hz
     ·simp only[List.length_cons] at h
      have k0:(l.length+1)*8≤140737488355328:=by omega
      simp -implicitDefEqProofs
      refine WCT.unroll ?_
      simp -implicitDefEqProofs[k0]
      refine WCT.unroll ?_
      simp -implicitDefEqProofs[k0]
      refine WCT.unroll ?_
      simp -implicitDefEqProofs[k0]
      refine WCT.unroll ?_
      simp -implicitDefEqProofs[k0]
      refine WCT.unroll ?_
      simp -implicitDefEqProofs[unzT,unzP,okT,okP,unz7_int]
    ·simp only[List.length_cons] at h
     have k0:(l.length+1)*8≤140737488355328:=by omega
     have k1:(l.length+1+r3.length)*8≤140737488355328:=by omega
     simp -implicitDefEqProofs
     refine WCT.unroll ?_
     simp -implicitDefEqProofs[k0,k1]
     refine WCT.unroll ?_
     simp -implicitDefEqProofs[k0,k1]
     refine WCT.unroll ?_
     simp -implicitDefEqProofs[k0,k1]
     refine WCT.unroll ?_
     simp -implicitDefEqProofs[k0,k1]
     refine WCT.unroll ?_
     simp -implicitDefEqProofs[unzT,unzP,okT,okP,unz7_int]
   ·simp only[List.length_cons] at h
    have k0:(l.length+1)*8≤140737488355328:=by omega
    have k1:(l.length+1+r2.length)*8≤140737488355328:=by omega
    have k2:(l.length+1+r2.length+r3.length)*8≤140737488355328:=by omega
    simp -implicitDefEqProofs
    refine WCT.unroll ?_
    simp -implicitDefEqProofs[k0,k1,k2]
    refine WCT.unroll ?_
    simp -implicitDefEqProofs[k0,k1,k2]
    refine WCT.unroll ?_
    simp -implicitDefEqProofs[k0,k1,k2]
    refine WCT.unroll ?_
    simp -implicitDefEqProofs[k0,k1,k2]
    refine WCT.unroll ?_
    simp -implicitDefEqProofs[unzT,unzP,okT,okP,unz7_int]
  ·simp only[List.length_cons] at h
   have k0:(l.length+1)*8≤140737488355328:=by omega
   have k1:(l.length+1+r1.length)*8≤140737488355328:=by omega
   have k2:(l.length+1+r1.length+r2.length)*8≤140737488355328:=by omega
   have k3:(l.length+1+r1.length+r2.length+r3.length)*8≤140737488355328:=by omega
   simp -implicitDefEqProofs
   refine WCT.unroll ?_
   simp -implicitDefEqProofs[k0,k1,k2,k3]
   refine WCT.unroll ?_
   simp -implicitDefEqProofs[k0,k1,k2,k3]
   refine WCT.unroll ?_
   simp -implicitDefEqProofs[k0,k1,k2,k3]
   refine WCT.unroll ?_
   simp -implicitDefEqProofs[k0,k1,k2,k3]
   refine WCT.unroll ?_
   simp -implicitDefEqProofs[unzT,unzP,okT,okP,unz7_int]

theorem catS_len (s:State):((catS s).length:Int)=manyIn s:=by simp[catS,manyIn];omega
theorem row_small {k:Int} {s:State} (h:stateMay k s):s.r0.length+s.r1.length+s.r2.length+s.r3.length≤16:=by
 rcases h with ⟨_,h0,h1,h2,h3⟩|⟨_,h0,h1,h2,h3⟩|⟨_,h0,h1,h2,h3⟩
 ·have:=h0.1;have:=h1.1;have:=h2.1;have:=h3.1;omega
 ·have:=fds_len h0;have:=fds_len h1;have:=fds_len h2;have:=fds_len h3;omega
 ·have:=h0.1;have:=h1.1;have:=h2.1;have:=h3.1;omega

def SmI (xs:List Int) (k:Nat) (E:TE) (T:TH):Prop:=∃ (i:Nat),i+k=xs.length∧E.get 3=.a (.int .i64 (sumW (xs.take i)))∧E.get 6=.a (.vs (xs.map encInt) false)∧E.get 7=.a (.int .i64 xs.length)∧E.get 8=.a (.int .i64 i)
theorem sumW_succ {xs:List Int} {j:Nat} (h:j<xs.length):sumW (xs.take (j+1))=IntKind.wrap .i64 (sumW (xs.take j)+xs[j]):=by
 unfold sumW
 rw[List.take_succ_eq_append_getElem h,List.foldl_append]
 rfl

set_option maxHeartbeats 2000000 in
theorem c_sum (xs:List Int) (h:xs.length≤1048576):PCall tab 175 [.vs (xs.map encInt) false] (.int .i64 (sumW xs)):=by
 refine PCall.of (F:=m175) rfl rfl rfl rfl ?_
 simp -implicitDefEqProofs[m175]
 refine loop_by (SmI xs) ?_ xs.length ⟨0,by simp,by simp[sumW],by simp,by simp,by simp⟩
 rintro k E T ⟨i,hi,e3,e6,e7,e8⟩
 by_cases hlt:i<xs.length
 ·have g1:=List.getElem?_eq_getElem hlt
  have w1:IntKind.wrap .i64 ((i:Int)+1)=(i:Int)+1:=wrap_of (by omega) (by omega)
  simp -implicitDefEqProofs[e3,e6,e7,e8,hlt,g1,w1]
  exact⟨k - 1,by omega,i+1,by omega,by rw[sumW_succ hlt];simp,by simp[e6],by simp[e7],by simp⟩
 ·obtain rfl:i=xs.length:=by omega
  simp -implicitDefEqProofs[e3,e6,e7,e8]

theorem c_Many (s:State) (j:Nat) (h:s.r0.length+s.r1.length+s.r2.length+s.r3.length≤1048576):PCall tab 179 [.vp [encState false s] 0 0] (.int .i64 (manyIn s)):=by
 refine PCall.of (F:=m179) rfl rfl rfl rfl ?_
 simp -implicitDefEqProofs[m179]
 refine CallT.pure (c_Concat s h) (by simp) (ok_ints _) ?_
 simp -implicitDefEqProofs[← catS_len]

end Go.Ab

namespace Go.Ab

@[reducible] def scanOp:Op:=⟨3,0,0⟩
theorem scan_may:opMay scanOp:=by decide

set_option maxHeartbeats 4000000 in
theorem c_storeScan (s:State) (h:okS s) (hq:storeMay s):PCall tab 156 [.agg (encState false s),.agg (encOp scanOp)] (.tup [.agg (encState false s),.int .i64 (sumW (catS s)),.int .i64 0]):=by
 have hs:=row_small (k:=0) (.inl ⟨rfl,hq⟩)
 have hl:(catS s).length≤1048576:=by simp only[catS,List.length_append];omega
 have hC:=c_Concat s (by omega)
 have hS:=c_sum (catS s) hl
 generalize hcat:catS s=xs at hC hS ⊢
 obtain⟨r0,r1,r2,r3⟩:=s
 dsimp only at hC
 refine PCall.ofZ (F:=m156) rfl rfl rfl ?_
 simp -implicitDefEqProofs[m156]
 refine CallT.bool2 (by simp) (c_storeMay ⟨r0,r1,r2,r3⟩ false h) (fun hb=>?_) (fun hb=>absurd hq hb)
 simp -implicitDefEqProofs
 refine CallT.bool2 (by simp) (c_operMay scanOp) (fun hb2=>?_) (fun hb2=>absurd scan_may hb2)
 simp -implicitDefEqProofs
 refine CallT.pure (c_storeCopy ⟨r0,r1,r2,r3⟩ false h) (by simp) (ok_state _) ?_
 clear hb hb2 hq
 rcases r0 with _|⟨x,l⟩
 ·simp -implicitDefEqProofs
  refine CallT.pure hC (by simp) (ok_ints _) ?_
  simp -implicitDefEqProofs
  refine CallT.pure hS (by simp) rfl ?_
  simp -implicitDefEqProofs[unzT,unzP,okT,okP]
 ·simp -implicitDefEqProofs
  refine CallT.pure hC (by simp) (ok_ints _) ?_
  simp -implicitDefEqProofs
  refine CallT.pure hS (by simp) rfl ?_
  simp -implicitDefEqProofs[unzT,unzP,okT,okP]

set_option maxHeartbeats 4000000 in
theorem c_fdsScan (s:State) (h:okS s) (hq:rowsOK fdsRow s):PCall tab 157 [.agg (encState false s),.agg (encOp scanOp)] (.tup [.agg (encState false s),.int .i64 (manyIn s),.int .i64 0]):=by
 have hs:=row_small (k:=1) (.inr (.inl ⟨rfl,hq⟩))
 have hM:=c_Many s 0 (by omega)
 generalize manyIn s=x at hM ⊢
 refine PCall.ofZ (F:=m157) rfl rfl rfl ?_
 simp -implicitDefEqProofs[m157]
 refine CallT.bool2 (by simp) (c_fdsMay s false h) (fun hb=>?_) (fun hb=>absurd hq hb)
 simp -implicitDefEqProofs
 refine CallT.bool2 (by simp) (c_operMay scanOp) (fun hb2=>?_) (fun hb2=>absurd scan_may hb2)
 simp -implicitDefEqProofs
 refine CallT.pure (c_storeCopy s false h) (by simp) (ok_state _) ?_
 simp -implicitDefEqProofs
 refine CallT.pure hM (by simp) rfl ?_
 simp -implicitDefEqProofs[unzT,unzP,okT,okP]

set_option maxHeartbeats 4000000 in
theorem c_queueScan (s:State) (h:okS s) (hq:queueMay s):PCall tab 158 [.agg (encState false s),.agg (encOp scanOp)] (.tup [.agg (encState false s),.int .i64 (manyIn s),.int .i64 0]):=by
 have hs:=row_small (k:=2) (.inr (.inr ⟨rfl,hq⟩))
 have hM:=c_Many s 0 (by omega)
 generalize manyIn s=x at hM ⊢
 refine PCall.ofZ (F:=m158) rfl rfl rfl ?_
 simp -implicitDefEqProofs[m158]
 refine CallT.bool2 (by simp) (c_queueMay s false h) (fun hb=>?_) (fun hb=>absurd hq hb)
 simp -implicitDefEqProofs
 refine CallT.bool2 (by simp) (c_operMay scanOp) (fun hb2=>?_) (fun hb2=>absurd scan_may hb2)
 simp -implicitDefEqProofs
 refine CallT.pure (c_storeCopy s false h) (by simp) (ok_state _) ?_
 simp -implicitDefEqProofs
 refine CallT.pure hM (by simp) rfl ?_
 simp -implicitDefEqProofs[unzT,unzP,okT,okP]

theorem c_scanstore (s:State) (h:okS s) (hq:storeMay s):PCall tab 128 [.agg (encTurn s scanOp)] (.tup [.agg (encState false s),.int .i64 (sumW (catS s)),.int .i64 0]):=by
 have hS:=c_storeScan s h hq
 generalize sumW (catS s)=x at hS ⊢
 refine PCall.ofZ (F:=m128) rfl rfl rfl ?_
 simp -implicitDefEqProofs[m128]
 refine CallT.pure hS (by simp) (ok_st3 _ _ _) ?_
 simp -implicitDefEqProofs[unzT,unzP,okT,okP]
theorem c_scanfds (s:State) (h:okS s) (hq:rowsOK fdsRow s):PCall tab 129 [.agg (encTurn s scanOp)] (.tup [.agg (encState false s),.int .i64 (manyIn s),.int .i64 0]):=by
 have hS:=c_fdsScan s h hq
 generalize manyIn s=x at hS ⊢
 refine PCall.ofZ (F:=m129) rfl rfl rfl ?_
 simp -implicitDefEqProofs[m129]
 refine CallT.pure hS (by simp) (ok_st3 _ _ _) ?_
 simp -implicitDefEqProofs[unzT,unzP,okT,okP]
theorem c_scanqueue (s:State) (h:okS s) (hq:queueMay s):PCall tab 130 [.agg (encTurn s scanOp)] (.tup [.agg (encState false s),.int .i64 (manyIn s),.int .i64 0]):=by
 have hS:=c_queueScan s h hq
 generalize manyIn s=x at hS ⊢
 refine PCall.ofZ (F:=m130) rfl rfl rfl ?_
 simp -implicitDefEqProofs[m130]
 refine CallT.pure hS (by simp) (ok_st3 _ _ _) ?_
 simp -implicitDefEqProofs[unzT,unzP,okT,okP]
def tellS (k:Int) (s:State):Int:=if k=0 then sumW (catS s) else manyIn s
set_option maxHeartbeats 2000000 in
theorem c_objScan (k:Int) (s:State) (h:okS s) (hs:stateMay k s):PCall tab 94 [.int .i64 k,.agg (encState false s),.agg (encOp scanOp)] (.tup [.agg (encState false s),.int .i64 (tellS k s),.int .i64 0]):=by
 have hi:objIs k:=by rcases hs with h|h|h<;>(have:=h.1;simp only[objIs];omega)
 refine PCall.ofZ (F:=m94) rfl rfl rfl ?_
 simp -implicitDefEqProofs[m94]
 refine CallT.bool2 rfl (c_objIs k) (fun hb=>?_) (fun hb=>absurd hi hb)
 rcases hs with ⟨rfl,hs⟩|⟨rfl,hs⟩|⟨rfl,hs⟩
 ·have hS:=c_scanstore s h hs
  rw[show tellS 0 s=sumW (catS s) from rfl]
  generalize sumW (catS s)=x at hS ⊢
  simp -implicitDefEqProofs
  refine CallT.pure hS (by simp) (ok_st3 _ _ _) ?_
  simp -implicitDefEqProofs[unzT,unzP,okT,okP]
 ·have hS:=c_scanfds s h hs
  rw[show tellS 1 s=manyIn s from rfl]
  generalize manyIn s=x at hS ⊢
  simp -implicitDefEqProofs
  refine CallT.pure hS (by simp) (ok_st3 _ _ _) ?_
  simp -implicitDefEqProofs[unzT,unzP,okT,okP]
 ·have hS:=c_scanqueue s h hs
  rw[show tellS 2 s=manyIn s from rfl]
  generalize manyIn s=x at hS ⊢
  simp -implicitDefEqProofs
  refine CallT.pure hS (by simp) (ok_st3 _ _ _) ?_
  simp -implicitDefEqProofs[unzT,unzP,okT,okP]

end Go.Ab

namespace Go.Ab

@[reducible] def scanP (m:Machine) (t:Int):Prop:=atP m t∧(thrAt m t.toNat).op.code=3
def fenceX (m:Machine) (t:Int) (x:Thread) (r:Ring):Machine × Int:=
 if (x.tails.length:Int)≠x.log then (noMachine,2200)
 else if r.fence≠0 then (m,0)
 else (setThread (setRing m x.log.toNat { r with fence:=t+1 }) t.toNat fun y=>{ y with tails:=y.tails++[r.tail],log:=if x.log+1=m.config.logs then 0 else x.log+1,step:=if x.log+1=m.config.logs then 18 else y.step },0)
def gatherX (m:Machine) (t:Int) (x:Thread) (c lk:Int):Machine × Int:=
 if (x.tails.length:Int)≠m.config.logs then (noMachine,2200)
 else if c<x.tails.getD x.log.toNat 0 then (if lk=0 then (oneM m (ownOf m t) x.log).1 else m,0)
 else if x.log+1=m.config.logs then (setThread m t.toNat fun y=>{ y with answer:=tellS m.config.object (stAt m (ownOf m t).toNat),log:=0,step:=19 },0)
 else (setThread m t.toNat fun y=>{ y with log:=x.log+1 },0)
def openX (m:Machine) (t:Int) (x:Thread) (r:Ring):Machine × Int:=
 if x.log+1=m.config.logs then finishM (setRing m x.log.toNat { r with fence:=0 }) t 2200
 else (setThread (setRing m x.log.toNat { r with fence:=0 }) t.toNat fun y=>{ y with log:=x.log+1 },0)
def scanX (m:Machine) (t:Int) (x:Thread) (r:Ring) (c lk:Int) (s:Int):Machine × Int:=
 if s=17 then fenceX m t x r else if s=18 then gatherX m t x c lk else if s=19 then openX m t x r else (noMachine,2200)
def scanM (m:Machine) (t:Int):Machine × Int:=if scanP m t then scanX m t (thrAt m t.toNat) (ownRing m t) (ownCur m t) (ownLock m t) (thrAt m t.toNat).step else (noMachine,2200)
theorem scanM_yes {m:Machine} {t:Int} (h:scanP m t):scanM m t=scanX m t (thrAt m t.toNat) (ownRing m t) (ownCur m t) (ownLock m t) (thrAt m t.toNat).step:=if_pos h
theorem scanM_no {m:Machine} {t:Int} (h:¬ scanP m t):scanM m t=(noMachine,2200):=if_neg h
theorem scan_err (m:Machine) (t:Int) (he:¬ (scanM m t).2=0):scanM m t=(noMachine,2200):=by
 by_cases hl:scanP m t
 ·rw[scanM_yes hl] at he ⊢
  revert he
  unfold scanX fenceX gatherX openX finishM
  repeat' split
  all_goals first|(intro he;exact absurd rfl he)|(intro _;rfl)
 ·exact scanM_no hl

end Go.Ab

namespace Go.Ab

theorem ringThr22 {m:Machine} {g:Nat} {t:Int} (hg:g<m.rings.length) (hi:t.toNat<m.threads.length) (R:Ring) (f:Thread→Thread):setThread (setRing m g R) t.toNat f={ m with rings:=m.rings.set g R,threads:=m.threads.set t.toNat (f m.threads[t.toNat]) }:=by
 rw[setRing_of hg];exact setThread_of (m:={ m with rings:=m.rings.set g R }) hi f

theorem sZ (l:List Thread) (i:Nat):(l.map (encThread true)).set i [.int .i64 0,.int .i64 0,.int .i64 0,.int .i64 0,.int .i64 0,.int .i64 0,.vs [] true,.int .i64 0,.bool false,.bool false,.int .i64 0,.vs [] true]=(l.set i idle0).map (encThread true):=by rw[List.map_set];rfl

structure DnH (T:TH) (D:Machine) (t r:Int):Prop where
 t1:∃ R L,T.get 1=.tree R true L∧(TO.tree R true L).valid [] 0=true∧RowZ R (D.rings.map (encRing false))
 t2:∃ R L,T.get 2=.tree R true L∧(TO.tree R true L).valid [] 0=true∧RowZ R (D.replicas.map (encReplica false))
 t3:∃ R L,T.get 3=.tree R true L∧(TO.tree R true L).valid [] 0=true∧RowZ R (D.threads.map (encThread false))
 t5:∃ q g L n1 n2 n3 n4,T.get q=.tree (D.history.map encEvent) true L∧(TO.tree (D.history.map encEvent) true L).valid [] g=true∧q≠1∧q≠2∧q≠3∧T.get 5=.raw [.a (.int .i64 D.config.object),.a (.int .i64 D.config.replicas),.a (.int .i64 D.config.logs),.a (.int .i64 D.config.threads),.a (.int .i64 D.config.slots),.sl 1 [] 0 0 n1 true,.sl 2 [] 0 0 n2 true,.sl 3 [] 0 0 n3 true,.sl q [] g 0 n4 true,.a (.int .i64 t),.a (.int .i64 r)]
theorem DnT.h {T:TH} {D:Machine} {t r:Int} (h:DnT T D t r):DnH T D t r:=by
 obtain⟨t1,t2,t3,⟨q,n1,n2,n3,n4,t4,q1,q2,q3,t5⟩⟩:=h
 exact⟨t1,t2,t3,⟨q,0,[],n1,n2,n3,n4,t4,rfl,q1,q2,q3,t5⟩⟩

set_option maxRecDepth 20000 in
set_option maxHeartbeats 8000000 in
theorem x_fence (m:Machine) (t:Int) (h:okM m) (hl:scanP m t) (T:TH) (hT:StT T m t (ownOf m t)) (K:TV→TH→Prop) (hyes:(fenceX m t (thrAt m t.toNat) (ownRing m t)).2=0→∀ T1,DnH T1 (fenceX m t (thrAt m t.toNat) (ownRing m t)).1 t (ownOf m t)→K (.a (.bool true)) T1) (hno:¬ (fenceX m t (thrAt m t.toNat) (ownRing m t)).2=0→∀ T1,K (.a (.bool false)) T1):CallT tab false 30 [.ag [.pt 5 [] 0 0 0]] T K:=by
 obtain⟨hat,hcode⟩:=hl
 obtain⟨r,log,hi,hri,hj,hk,hlk,hrm,et,hlg,hown,hlog,hA,hF⟩:=wk h hat
 have h1:=hat.1
 have hc:=h1.1
 have hn:=h1.2.1
 have ht0:=hat.2.1
 have ht1:=hF.1.2.1
 have hl1:=hc.2.2.1
 have hl2:(m.rings.length:Int)=m.config.logs:=hn.1
 have wl:IntKind.wrap .i64 (log+1)=log+1:=wrap_of (by have:=hlog.1;omega) (by have:=hlog.2;omega)
 have nl:¬ m.config.logs=0:=by omega
 have hF:=And.intro hF (And.intro wl nl)
 have hT0:=hT
 obtain⟨t1,t2,t3,t4,t5,nx⟩:=hT
 rw[hrm] at t5 hT0
 have hn0:¬ T.next=0∧¬ T.next=1∧¬ T.next=2∧¬ T.next=3∧¬ T.next=4∧¬ T.next=5∧¬ 1=T.next∧¬ 2=T.next∧¬ 3=T.next:=by omega
 have hF:=And.intro hF (And.intro t1 (And.intro t2 (And.intro t3 (And.intro t4 (And.intro t5 hn0)))))
 rw[show ownRing m t=m.rings[log.toNat] by unfold ownRing;rw[et,hlg];exact ringAt_of hj,et] at hyes hno
 obtain⟨D,hD⟩:∃ D,fenceX m t m.threads[t.toNat] m.rings[log.toNat]=D:=⟨_,rfl⟩
 rw[hD] at hyes hno
 unfold fenceX at hD
 rw[hlg] at hD
 by_cases tl:(m.threads[t.toNat].tails.length:Int)=log
 ·rw[if_neg (not_not_intro tl)] at hD
  by_cases hf:m.rings[log.toNat].fence=0
  ·have bf:(m.rings[log.toNat].fence != 0)=false:=by simp[hf]
   have rm:(m.threads[t.toNat].tails.length+1)*8≤140737488355328:=by have:=hlog.2;omega
   rw[if_neg (not_not_intro hf),ringThr22 hj hi] at hD
   obtain⟨ts,hts⟩:∃ ts,m.threads[t.toNat].tails++[m.rings[log.toNat].tail]=ts:=⟨_,rfl⟩
   have kts:List.map encInt m.threads[t.toNat].tails++[[AV.int .i64 m.rings[log.toNat].tail]]=List.map encInt ts:=by rw[← hts];simp
   by_cases e:log+1=m.config.logs
   ·have tm:Int.tmod (log+1) m.config.logs=0:=by rw[e];exact Int.tmod_self
    simp only[if_pos e,hts] at hD
    subst hD
    refine CallT.body (F:=m30) rfl rfl rfl rfl ?_
    simp -implicitDefEqProofs[m30,hF,sT,sR,sP,sI,-List.map_set,tl,bf,rm,tm,kts]
    refine CallT.bodyQ (F:=m59) rfl rfl rfl rfl rfl ?_
    simp -implicitDefEqProofs[m59,hF,sT,sR,sP,sI,-List.map_set,tl,bf,rm,tm,kts]
    refine CallT.bodyQ (F:=m28) rfl rfl rfl rfl rfl ?_
    simp -implicitDefEqProofs[m28,hF,sT,sR,sP,sI,-List.map_set,tl,bf,rm,tm,kts]
    refine CallT.bodyQ (F:=m28) rfl rfl rfl rfl rfl ?_
    simp -implicitDefEqProofs[m28,hF,sT,sR,sP,sI,-List.map_set,tl,bf,rm,tm,kts]
    refine CallT.body (F:=m60) rfl rfl rfl rfl ?_
    simp -implicitDefEqProofs[m60,hF,sT,sR,sP,sI,-List.map_set,tl,bf,rm,tm,kts]
    refine CallT.bodyQ (F:=m28) rfl rfl rfl rfl rfl ?_
    simp -implicitDefEqProofs[m28,hF,sT,sR,sP,sI,-List.map_set,tl,bf,rm,tm,kts]
    refine CallT.body (F:=m61) rfl rfl rfl rfl ?_
    simp -implicitDefEqProofs[m61,hF,sT,sR,sP,sI,-List.map_set,tl,bf,rm,tm,kts]
    refine CallT.bodyQ (F:=m28) rfl rfl rfl rfl rfl ?_
    simp -implicitDefEqProofs[m28,hF,sT,sR,sP,sI,-List.map_set,tl,bf,rm,tm,kts]
    exact hyes rfl _ ⟨⟨_,[],by simp[t1,hn0,sR,-List.map_set],rfl,rowZ_rings _ true⟩,⟨_,[],by simp[t2,hn0],rfl,rowZ_reps _ true⟩,⟨_,[[(t.toNat,11)]],by simp[t3,hn0,hlg,sT,-List.map_set],rfl,rowZ_thrs _ true⟩,⟨4,0,[],m.rings.length,m.replicas.length,m.threads.length,m.history.length,by simp[t4,hn0],rfl,by omega,by omega,by omega,by simp[t5,hn0,hrm]⟩⟩
   ·have tm:Int.tmod (log+1) m.config.logs=log+1:=Int.tmod_eq_of_lt (by have:=hlog.1;omega) (by have:=hlog.2;omega)
    have bz:(log+1==0)=false:=by have:=hlog.1;simp;omega
    simp only[if_neg e,hts] at hD
    subst hD
    refine CallT.body (F:=m30) rfl rfl rfl rfl ?_
    simp -implicitDefEqProofs[m30,hF,sT,sR,sP,sI,-List.map_set,tl,bf,rm,tm,kts,bz]
    refine CallT.bodyQ (F:=m59) rfl rfl rfl rfl rfl ?_
    simp -implicitDefEqProofs[m59,hF,sT,sR,sP,sI,-List.map_set,tl,bf,rm,tm,kts,bz]
    refine CallT.bodyQ (F:=m28) rfl rfl rfl rfl rfl ?_
    simp -implicitDefEqProofs[m28,hF,sT,sR,sP,sI,-List.map_set,tl,bf,rm,tm,kts,bz]
    refine CallT.bodyQ (F:=m28) rfl rfl rfl rfl rfl ?_
    simp -implicitDefEqProofs[m28,hF,sT,sR,sP,sI,-List.map_set,tl,bf,rm,tm,kts,bz]
    refine CallT.body (F:=m60) rfl rfl rfl rfl ?_
    simp -implicitDefEqProofs[m60,hF,sT,sR,sP,sI,-List.map_set,tl,bf,rm,tm,kts,bz]
    refine CallT.bodyQ (F:=m28) rfl rfl rfl rfl rfl ?_
    simp -implicitDefEqProofs[m28,hF,sT,sR,sP,sI,-List.map_set,tl,bf,rm,tm,kts,bz]
    exact hyes rfl _ ⟨⟨_,[],by simp[t1,hn0,sR,-List.map_set],rfl,rowZ_rings _ true⟩,⟨_,[],by simp[t2,hn0],rfl,rowZ_reps _ true⟩,⟨_,[[(t.toNat,11)]],by simp[t3,hn0,hlg,sT,-List.map_set],rfl,rowZ_thrs _ true⟩,⟨4,0,[],m.rings.length,m.replicas.length,m.threads.length,m.history.length,by simp[t4,hn0],rfl,by omega,by omega,by omega,by simp[t5,hn0,hrm]⟩⟩
  ·have bf:(m.rings[log.toNat].fence != 0)=true:=by simp[hf]
   rw[if_pos hf] at hD
   subst hD
   refine CallT.body (F:=m30) rfl rfl rfl rfl ?_
   simp -implicitDefEqProofs[m30,hF,sT,sR,sP,sI,-List.map_set,tl,bf]
   refine CallT.bodyQ (F:=m59) rfl rfl rfl rfl rfl ?_
   simp -implicitDefEqProofs[m59,hF,sT,sR,sP,sI,-List.map_set,tl,bf]
   refine CallT.bodyQ (F:=m28) rfl rfl rfl rfl rfl ?_
   simp -implicitDefEqProofs[m28,hF,sT,sR,sP,sI,-List.map_set,tl,bf]
   refine CallT.bodyQ (F:=m28) rfl rfl rfl rfl rfl ?_
   simp -implicitDefEqProofs[m28,hF,sT,sR,sP,sI,-List.map_set,tl,bf]
   exact hyes rfl _ (DnT.h (hrm ▸ hT0.dn))
 ·have bt:((m.threads[t.toNat].tails.length:Int) != log)=true:=by simp[tl]
  rw[if_pos tl] at hD
  subst hD
  refine CallT.body (F:=m30) rfl rfl rfl rfl ?_
  simp -implicitDefEqProofs[m30,hF,sT,sR,sP,sI,-List.map_set,tl,bt]
  refine CallT.bodyQ (F:=m59) rfl rfl rfl rfl rfl ?_
  simp -implicitDefEqProofs[m59,hF,sT,sR,sP,sI,-List.map_set,tl,bt]
  refine CallT.bodyQ (F:=m28) rfl rfl rfl rfl rfl ?_
  simp -implicitDefEqProofs[m28,hF,sT,sR,sP,sI,-List.map_set,tl,bt]
  refine CallT.bodyQ (F:=m28) rfl rfl rfl rfl rfl ?_
  simp -implicitDefEqProofs[m28,hF,sT,sR,sP,sI,-List.map_set,tl,bt]
  exact hno (by decide) _

set_option maxRecDepth 20000 in
set_option maxHeartbeats 8000000 in
theorem x_open (m:Machine) (t:Int) (h:okM m) (hl:scanP m t) (T:TH) (hT:StT T m t (ownOf m t)) (K:TV→TH→Prop) (hyes:(openX m t (thrAt m t.toNat) (ownRing m t)).2=0→∀ T1,DnH T1 (openX m t (thrAt m t.toNat) (ownRing m t)).1 t (ownOf m t)→K (.a (.bool true)) T1) (hno:¬ (openX m t (thrAt m t.toNat) (ownRing m t)).2=0→∀ T1,K (.a (.bool false)) T1):CallT tab false 32 [.ag [.pt 5 [] 0 0 0]] T K:=by
 obtain⟨hat,hcode⟩:=hl
 obtain⟨r,log,hi,hri,hj,hk,hlk,hrm,et,hlg,hown,hlog,hA,hF⟩:=wk h hat
 have h1:=hat.1
 have hc:=h1.1
 have hn:=h1.2.1
 have ht0:=hat.2.1
 have ht1:=hF.1.2.1
 have hl1:=hc.2.2.1
 have hl2:(m.rings.length:Int)=m.config.logs:=hn.1
 have wl:IntKind.wrap .i64 (log+1)=log+1:=wrap_of (by have:=hlog.1;omega) (by have:=hlog.2;omega)
 have nl:¬ m.config.logs=0:=by omega
 have hF:=And.intro hF (And.intro wl nl)
 have hT0:=hT
 obtain⟨t1,t2,t3,t4,t5,nx⟩:=hT
 rw[hrm] at t5 hT0
 have hn0:¬ T.next=0∧¬ T.next=1∧¬ T.next=2∧¬ T.next=3∧¬ T.next=4∧¬ T.next=5∧¬ 1=T.next∧¬ 2=T.next∧¬ 3=T.next:=by omega
 have hF:=And.intro hF (And.intro t1 (And.intro t2 (And.intro t3 (And.intro t4 (And.intro t5 hn0)))))
 rw[show ownRing m t=m.rings[log.toNat] by unfold ownRing;rw[et,hlg];exact ringAt_of hj,et] at hyes hno
 obtain⟨D,hD⟩:∃ D,openX m t m.threads[t.toNat] m.rings[log.toNat]=D:=⟨_,rfl⟩
 rw[hD] at hyes hno
 unfold openX at hD
 rw[hlg] at hD
 by_cases e:log+1=m.config.logs
 ·have tm:Int.tmod (log+1) m.config.logs=0:=by rw[e];exact Int.tmod_self
  rw[if_pos e,setRing_of hj] at hD
  by_cases hh:64≤m.history.length
  ·have hh2:(64:Int)≤m.history.length:=by omega
   rw[show ∀ M:Machine,M.history=m.history→finishM M t 2200=(noMachine,2200) from fun M hM=>if_pos (by rw[hM];exact hh)] at hD
   ·subst hD
    refine CallT.body (F:=m32) rfl rfl rfl rfl ?_
    simp -implicitDefEqProofs[m32,hF,sT,sR,sP,sI,-List.map_set,tm,hh2]
    refine CallT.bodyQ (F:=m59) rfl rfl rfl rfl rfl ?_
    simp -implicitDefEqProofs[m59,hF,sT,sR,sP,sI,-List.map_set,tm,hh2]
    refine CallT.bodyQ (F:=m28) rfl rfl rfl rfl rfl ?_
    simp -implicitDefEqProofs[m28,hF,sT,sR,sP,sI,-List.map_set,tm,hh2]
    refine CallT.body (F:=m60) rfl rfl rfl rfl ?_
    simp -implicitDefEqProofs[m60,hF,sT,sR,sP,sI,-List.map_set,tm,hh2]
    refine CallT.bodyQ (F:=m28) rfl rfl rfl rfl rfl ?_
    simp -implicitDefEqProofs[m28,hF,sT,sR,sP,sI,-List.map_set,tm,hh2]
    refine CallT.body (F:=m66) rfl rfl rfl rfl ?_
    simp -implicitDefEqProofs[m66,hF,sT,sR,sP,sI,-List.map_set,tm,hh2]
    exact hno (by decide) _
   ·rfl
  ·have hh2:¬ (64:Int)≤m.history.length:=by omega
   have hb48:(m.history.length+1)*48≤140737488355328:=by omega
   rw[show ∀ M:Machine,M.history=m.history→finishM M t 2200=(doneM M t,0) from fun M hM=>if_neg (by rw[hM];exact hh)] at hD
   ·rw[doneM_of (m:={ m with rings:=m.rings.set log.toNat { m.rings[log.toNat] with fence:=0 } }) hi] at hD
    subst hD
    refine CallT.body (F:=m32) rfl rfl rfl rfl ?_
    simp -implicitDefEqProofs[m32,hF,sT,sR,sP,sI,-List.map_set,tm,hh2,hb48]
    refine CallT.bodyQ (F:=m59) rfl rfl rfl rfl rfl ?_
    simp -implicitDefEqProofs[m59,hF,sT,sR,sP,sI,-List.map_set,tm,hh2,hb48]
    refine CallT.bodyQ (F:=m28) rfl rfl rfl rfl rfl ?_
    simp -implicitDefEqProofs[m28,hF,sT,sR,sP,sI,-List.map_set,tm,hh2,hb48]
    refine CallT.body (F:=m60) rfl rfl rfl rfl ?_
    simp -implicitDefEqProofs[m60,hF,sT,sR,sP,sI,-List.map_set,tm,hh2,hb48]
    refine CallT.bodyQ (F:=m28) rfl rfl rfl rfl rfl ?_
    simp -implicitDefEqProofs[m28,hF,sT,sR,sP,sI,-List.map_set,tm,hh2,hb48]
    refine CallT.body (F:=m66) rfl rfl rfl rfl ?_
    simp -implicitDefEqProofs[m66,hF,sT,sR,sP,sI,-List.map_set,tm,hh2,hb48]
    refine CallT.bodyQ (F:=m28) rfl rfl rfl rfl rfl ?_
    simp -implicitDefEqProofs[m28,hF,sT,sR,sP,sI,-List.map_set,tm,hh2,hb48]
    refine hyes rfl _ ⟨⟨_,[],by simp[t1,hn0,sR,-List.map_set],rfl,rowZ_rings _ true⟩,⟨_,[],by simp[t2,hn0],rfl,rowZ_reps _ true⟩,⟨_,[[(t.toNat,11)],[(t.toNat,6)]],by simp[t3,hn0,hlg,sT,sZ,-List.map_set],rfl,rowZ_thrs _ true⟩,⟨4,1,[[]],m.rings.length,m.replicas.length,m.threads.length,m.history.length+1,by simp[t4,hn0],rfl,by omega,by omega,by omega,by simp[t5,hn0,hrm]⟩⟩
   ·rfl
 ·have tm:Int.tmod (log+1) m.config.logs=log+1:=Int.tmod_eq_of_lt (by have:=hlog.1;omega) (by have:=hlog.2;omega)
  have bz:(log+1==0)=false:=by have:=hlog.1;simp;omega
  rw[if_neg e,ringThr22 hj hi] at hD
  subst hD
  refine CallT.body (F:=m32) rfl rfl rfl rfl ?_
  simp -implicitDefEqProofs[m32,hF,sT,sR,sP,sI,-List.map_set,tm,bz]
  refine CallT.bodyQ (F:=m59) rfl rfl rfl rfl rfl ?_
  simp -implicitDefEqProofs[m59,hF,sT,sR,sP,sI,-List.map_set,tm,bz]
  refine CallT.bodyQ (F:=m28) rfl rfl rfl rfl rfl ?_
  simp -implicitDefEqProofs[m28,hF,sT,sR,sP,sI,-List.map_set,tm,bz]
  refine CallT.body (F:=m60) rfl rfl rfl rfl ?_
  simp -implicitDefEqProofs[m60,hF,sT,sR,sP,sI,-List.map_set,tm,bz]
  refine CallT.bodyQ (F:=m28) rfl rfl rfl rfl rfl ?_
  simp -implicitDefEqProofs[m28,hF,sT,sR,sP,sI,-List.map_set,tm,bz]
  exact hyes rfl _ ⟨⟨_,[],by simp[t1,hn0,sR,-List.map_set],rfl,rowZ_rings _ true⟩,⟨_,[],by simp[t2,hn0],rfl,rowZ_reps _ true⟩,⟨_,[],by simp[t3,hn0,hlg,sT,-List.map_set],rfl,rowZ_thrs _ true⟩,⟨4,0,[],m.rings.length,m.replicas.length,m.threads.length,m.history.length,by simp[t4,hn0],rfl,by omega,by omega,by omega,by simp[t5,hn0,hrm]⟩⟩

set_option maxRecDepth 20000 in
set_option maxHeartbeats 8000000 in
theorem x_gather (m:Machine) (t:Int) (h:okM m) (hl:scanP m t) (T:TH) (hT:StT T m t (ownOf m t)) (K:TV→TH→Prop) (hyes:(gatherX m t (thrAt m t.toNat) (ownCur m t) (ownLock m t)).2=0→∀ T1,DnH T1 (gatherX m t (thrAt m t.toNat) (ownCur m t) (ownLock m t)).1 t (ownOf m t)→K (.a (.bool true)) T1) (hno:¬ (gatherX m t (thrAt m t.toNat) (ownCur m t) (ownLock m t)).2=0→∀ T1,K (.a (.bool false)) T1):CallT tab false 31 [.ag [.pt 5 [] 0 0 0]] T K:=by
 obtain⟨hat,hcode⟩:=hl
 obtain⟨r,log,hi,hri,hj,hk,hlk,hrm,et,hlg,hown,hlog,hA,hF⟩:=wk h hat
 have h1:=hat.1
 have hc:=h1.1
 have hn:=h1.2.1
 have ht0:=hat.2.1
 have ht1:=hF.1.2.1
 have hl1:=hc.2.2.1
 have hl2:(m.rings.length:Int)=m.config.logs:=hn.1
 have wl:IntKind.wrap .i64 (log+1)=log+1:=wrap_of (by have:=hlog.1;omega) (by have:=hlog.2;omega)
 have nl:¬ m.config.logs=0:=by omega
 have hF:=And.intro hF (And.intro wl nl)
 have hT0:=hT
 obtain⟨t1,t2,t3,t4,t5,nx⟩:=hT
 rw[hrm] at t5 hT0
 have hn0:¬ T.next=0∧¬ T.next=1∧¬ T.next=2∧¬ T.next=3∧¬ T.next=4∧¬ T.next=5∧¬ 1=T.next∧¬ 2=T.next∧¬ 3=T.next:=by omega
 have hF:=And.intro hF (And.intro t1 (And.intro t2 (And.intro t3 (And.intro t4 (And.intro t5 hn0)))))
 have elk:lockAt m r.toNat log.toNat=m.replicas[r.toNat].locks[log.toNat]:=by simp[lockAt,hri,hlk]
 rw[show ownCur m t=m.replicas[r.toNat].cursors[log.toNat] by unfold ownCur;rw[et,hlg,hrm];exact curAt_of hA,show ownLock m t=m.replicas[r.toNat].locks[log.toNat] by unfold ownLock;rw[et,hlg,hrm];exact elk,et] at hyes hno
 obtain⟨D,hD⟩:∃ D,gatherX m t m.threads[t.toNat] m.replicas[r.toNat].cursors[log.toNat] m.replicas[r.toNat].locks[log.toNat]=D:=⟨_,rfl⟩
 rw[hD] at hyes hno
 unfold gatherX at hD
 rw[hlg,hrm] at hD
 by_cases tl:(m.threads[t.toNat].tails.length:Int)=m.config.logs
 ·rw[if_neg (not_not_intro tl)] at hD
  have hl3:log<m.config.logs:=by have:=hlog.2;omega
  have hti:log.toNat<m.threads[t.toNat].tails.length:=by have:=hlog.1;omega
  have hti2:log<(m.threads[t.toNat].tails.length:Int):=by omega
  have gti:=List.getElem?_eq_getElem hti
  have zti:0<m.threads[t.toNat].tails.length:=by omega
  rw[show m.threads[t.toNat].tails.getD log.toNat 0=m.threads[t.toNat].tails[log.toNat] by rw[List.getD_eq_getElem?_getD,gti];rfl] at hD
  have hF:=And.intro hF (And.intro tl (And.intro hl3 (And.intro hti (And.intro gti zti))))
  by_cases hcu:m.replicas[r.toNat].cursors[log.toNat]<m.threads[t.toNat].tails[log.toNat]
  ·rw[if_pos hcu] at hD
   by_cases hf:m.replicas[r.toNat].locks[log.toNat]=0
   ·rw[if_pos hf] at hD
    subst hD
    refine CallT.body (F:=m31) rfl rfl rfl rfl ?_
    simp -implicitDefEqProofs[m31,hF,sT,sR,sP,sI,-List.map_set,hcu,hf]
    refine CallT.bodyQ (F:=m28) rfl rfl rfl rfl rfl ?_
    simp -implicitDefEqProofs[m28,hF,sT,sR,sP,sI,-List.map_set,hcu,hf]
    refine CallT.bodyQ (F:=m62) rfl rfl rfl rfl rfl ?_
    simp -implicitDefEqProofs[m62,hF,sT,sR,sP,sI,-List.map_set,hcu,hf]
    refine CallT.bodyQ (F:=m28) rfl rfl rfl rfl rfl ?_
    simp -implicitDefEqProofs[m28,hF,sT,sR,sP,sI,-List.map_set,hcu,hf]
    refine CallT.bodyQ (F:=m63) rfl rfl rfl rfl rfl ?_
    simp -implicitDefEqProofs[m63,hF,sT,sR,sP,sI,-List.map_set,hcu,hf]
    refine CallT.bodyQ (F:=m28) rfl rfl rfl rfl rfl ?_
    simp -implicitDefEqProofs[m28,hF,sT,sR,sP,sI,-List.map_set,hcu,hf]
    refine CallT.body (F:=m64) rfl rfl rfl rfl ?_
    simp -implicitDefEqProofs[m64,hF,sT,sR,sP,sI,-List.map_set,hcu,hf]
    refine CallT.bodyQ (F:=m28) rfl rfl rfl rfl rfl ?_
    simp -implicitDefEqProofs[m28,hF,sT,sR,sP,sI,-List.map_set,hcu,hf]
    refine x_Next m r log t r h ⟨h1,hown,hlog⟩ _ ⟨by simp[t1,hn0],by simp[t2,hn0],by simp[t3,hn0],by simp[t4,hn0],by simp[t5,hn0,hrm],nx⟩ _ (fun b T1 hd=>?_)
    simp -implicitDefEqProofs
    exact hyes rfl _ (DnT.h (hrm ▸ hd))
   ·rw[if_neg hf] at hD
    subst hD
    refine CallT.body (F:=m31) rfl rfl rfl rfl ?_
    simp -implicitDefEqProofs[m31,hF,sT,sR,sP,sI,-List.map_set,hcu,hf]
    refine CallT.bodyQ (F:=m28) rfl rfl rfl rfl rfl ?_
    simp -implicitDefEqProofs[m28,hF,sT,sR,sP,sI,-List.map_set,hcu,hf]
    refine CallT.bodyQ (F:=m62) rfl rfl rfl rfl rfl ?_
    simp -implicitDefEqProofs[m62,hF,sT,sR,sP,sI,-List.map_set,hcu,hf]
    refine CallT.bodyQ (F:=m28) rfl rfl rfl rfl rfl ?_
    simp -implicitDefEqProofs[m28,hF,sT,sR,sP,sI,-List.map_set,hcu,hf]
    refine CallT.bodyQ (F:=m63) rfl rfl rfl rfl rfl ?_
    simp -implicitDefEqProofs[m63,hF,sT,sR,sP,sI,-List.map_set,hcu,hf]
    refine CallT.bodyQ (F:=m28) rfl rfl rfl rfl rfl ?_
    simp -implicitDefEqProofs[m28,hF,sT,sR,sP,sI,-List.map_set,hcu,hf]
    exact hyes rfl _ (DnT.h (hrm ▸ hT0.dn))
  ·rw[if_neg hcu] at hD
   by_cases e:log+1=m.config.logs
   ·have tm:Int.tmod (log+1) m.config.logs=0:=by rw[e];exact Int.tmod_self
    rw[et] at hcode
    have hop:m.threads[t.toNat].op=scanOp:=by
     have ho:=(h1.2.2.2.2.1 _ (List.getElem_mem hi)).1.2.2.1.2.2.2.2
     obtain⟨a1,a2⟩:m.threads[t.toNat].op.arg=0∧m.threads[t.toNat].op.row=0:=by omega
     generalize m.threads[t.toNat].op=o at *
     obtain⟨x1,x2,x3⟩:=o
     simp_all
    have hO:=c_objScan m.config.object m.replicas[r.toNat].state hA.os hA.st
    rw[← hop] at hO
    rw[if_pos e,setThread_of hi,stAt_of hA] at hD
    generalize tellS m.config.object m.replicas[r.toNat].state=an at hO hD
    subst hD
    refine CallT.body (F:=m31) rfl rfl rfl rfl ?_
    simp -implicitDefEqProofs[m31,hF,sT,sR,sP,sI,-List.map_set,hcu,tm]
    refine CallT.bodyQ (F:=m28) rfl rfl rfl rfl rfl ?_
    simp -implicitDefEqProofs[m28,hF,sT,sR,sP,sI,-List.map_set,hcu,tm]
    refine CallT.bodyQ (F:=m62) rfl rfl rfl rfl rfl ?_
    simp -implicitDefEqProofs[m62,hF,sT,sR,sP,sI,-List.map_set,hcu,tm]
    refine CallT.bodyQ (F:=m28) rfl rfl rfl rfl rfl ?_
    simp -implicitDefEqProofs[m28,hF,sT,sR,sP,sI,-List.map_set,hcu,tm]
    refine CallT.body (F:=m60) rfl rfl rfl rfl ?_
    simp -implicitDefEqProofs[m60,hF,sT,sR,sP,sI,-List.map_set,hcu,tm]
    refine CallT.bodyQ (F:=m28) rfl rfl rfl rfl rfl ?_
    simp -implicitDefEqProofs[m28,hF,sT,sR,sP,sI,-List.map_set,hcu,tm]
    refine CallT.body (F:=m61) rfl rfl rfl rfl ?_
    simp -implicitDefEqProofs[m61,hF,sT,sR,sP,sI,-List.map_set,hcu,tm]
    refine CallT.bodyQ (F:=m28) rfl rfl rfl rfl rfl ?_
    simp -implicitDefEqProofs[m28,hF,sT,sR,sP,sI,-List.map_set,hcu,tm]
    refine CallT.body (F:=m65) rfl rfl rfl rfl ?_
    simp -implicitDefEqProofs[m65,hF,sT,sR,sP,sI,-List.map_set,hcu,tm]
    refine CallT.bodyQ (F:=m28) rfl rfl rfl rfl rfl ?_
    simp -implicitDefEqProofs[m28,hF,sT,sR,sP,sI,-List.map_set,hcu,tm]
    refine CallT.pure hO (by simp[hF]) (ok_st3 _ _ _) ?_
    simp -implicitDefEqProofs[hF,sT,-List.map_set]
    exact hyes rfl _ ⟨⟨_,[],by simp[t1,hn0,sR,-List.map_set],rfl,rowZ_rings _ true⟩,⟨_,[],by simp[t2,hn0],rfl,rowZ_reps _ true⟩,⟨_,[],by simp[t3,hn0,hlg,sT,-List.map_set],rfl,rowZ_thrs _ true⟩,⟨4,0,[],m.rings.length,m.replicas.length,m.threads.length,m.history.length,by simp[t4,hn0],rfl,by omega,by omega,by omega,by simp[t5,hn0,hrm]⟩⟩
   ·have tm:Int.tmod (log+1) m.config.logs=log+1:=Int.tmod_eq_of_lt (by have:=hlog.1;omega) (by have:=hlog.2;omega)
    have bz:(log+1==0)=false:=by have:=hlog.1;simp;omega
    rw[if_neg e,setThread_of hi] at hD
    subst hD
    refine CallT.body (F:=m31) rfl rfl rfl rfl ?_
    simp -implicitDefEqProofs[m31,hF,sT,sR,sP,sI,-List.map_set,hcu,tm,bz]
    refine CallT.bodyQ (F:=m28) rfl rfl rfl rfl rfl ?_
    simp -implicitDefEqProofs[m28,hF,sT,sR,sP,sI,-List.map_set,hcu,tm,bz]
    refine CallT.bodyQ (F:=m62) rfl rfl rfl rfl rfl ?_
    simp -implicitDefEqProofs[m62,hF,sT,sR,sP,sI,-List.map_set,hcu,tm,bz]
    refine CallT.bodyQ (F:=m28) rfl rfl rfl rfl rfl ?_
    simp -implicitDefEqProofs[m28,hF,sT,sR,sP,sI,-List.map_set,hcu,tm,bz]
    refine CallT.body (F:=m60) rfl rfl rfl rfl ?_
    simp -implicitDefEqProofs[m60,hF,sT,sR,sP,sI,-List.map_set,hcu,tm,bz]
    refine CallT.bodyQ (F:=m28) rfl rfl rfl rfl rfl ?_
    simp -implicitDefEqProofs[m28,hF,sT,sR,sP,sI,-List.map_set,hcu,tm,bz]
    exact hyes rfl _ ⟨⟨_,[],by simp[t1,hn0,sR,-List.map_set],rfl,rowZ_rings _ true⟩,⟨_,[],by simp[t2,hn0],rfl,rowZ_reps _ true⟩,⟨_,[],by simp[t3,hn0,hlg,sT,-List.map_set],rfl,rowZ_thrs _ true⟩,⟨4,0,[],m.rings.length,m.replicas.length,m.threads.length,m.history.length,by simp[t4,hn0],rfl,by omega,by omega,by omega,by simp[t5,hn0,hrm]⟩⟩
 ·have bt:((m.threads[t.toNat].tails.length:Int) != m.config.logs)=true:=by simp[tl]
  rw[if_pos tl] at hD
  subst hD
  refine CallT.body (F:=m31) rfl rfl rfl rfl ?_
  simp -implicitDefEqProofs[m31,hF,sT,sR,sP,sI,-List.map_set,bt]
  refine CallT.bodyQ (F:=m28) rfl rfl rfl rfl rfl ?_
  simp -implicitDefEqProofs[m28,hF,sT,sR,sP,sI,-List.map_set,bt]
  exact hno (by decide) _

set_option maxRecDepth 20000 in
set_option maxHeartbeats 8000000 in
theorem c_ScanStep (m:Machine) (t:Int) (h:okM m):PCall tab 12 [.agg (encMachine false m),.int .i64 t] (.tup [.agg (encMachine false (scanM m t).1),.int .i64 (scanM m t).2]):=by
 by_cases hat:atP m t
 ·have hc:=hat.1.1
  have h1:=hat.1
  obtain⟨r,log,hi,hri,hj,hk,hlk,hrm,et,hlg,hown,hlog,hA,hF⟩:=wk h hat
  have ht1:=hF.1.2.1
  by_cases hcode:(thrAt m t.toNat).op.code=3
  ·have hl:scanP m t:=⟨hat,hcode⟩
   have herr:=scan_err m t
   have b2:(m.threads[t.toNat].op.code != 3)=false:=by rw[et] at hcode;simp[hcode]
   by_cases s17:(thrAt m t.toNat).step=17
   ·have hX:fenceX m t (thrAt m t.toNat) (ownRing m t)=scanM m t:=by rw[scanM_yes hl,s17];rfl
    rw[et] at s17
    have e17:((17:Int)==m.threads[t.toNat].step)=true:=by simp[s17]
    refine PCall.ofZ (F:=m12) rfl rfl rfl ?_
    simp -implicitDefEqProofs[m12]
    refine CallT.body (F:=m27) rfl rfl rfl rfl ?_
    simp -implicitDefEqProofs[m27]
    refine CallT.bool2 (by simp) (c_boardThread m t h) (fun hb=>?_) (fun hb=>absurd hat hb)
    simp -implicitDefEqProofs
    refine CallT.pure (c_cfgReplica m.config t ⟨hc,hat.2.1,hat.2.2⟩) (by simp) rfl ?_
    rw[show t.tmod m.config.replicas=ownOf m t from rfl]
    simp -implicitDefEqProofs
    refine CallT.pure (c_startCopy m h (whole_of h1)) (by simp) (ok_mach _) ?_
    simp -implicitDefEqProofs
    refine CallT.bodyQ (F:=m28) rfl rfl rfl rfl rfl ?_
    simp -implicitDefEqProofs[m28,hF.1,b2,e17]
    refine CallT.body (F:=m29) rfl rfl rfl rfl ?_
    simp -implicitDefEqProofs[m29,hF.1,b2,e17]
    refine CallT.bodyQ (F:=m28) rfl rfl rfl rfl rfl ?_
    simp -implicitDefEqProofs[m28,hF.1,b2,e17]
    refine x_fence m t h hl _ ⟨by simp,by simp,by simp,by simp,by simp,by simp⟩ _ (fun he T1 hd=>?_) (fun he T1=>?_)
    ·rw[hX] at he hd
     generalize scanM m t=A at he hd ⊢
     obtain⟨D,e⟩:=A
     dsimp only at he hd ⊢
     subst he
     obtain⟨⟨R1,L1,u1,v1,z1⟩,⟨R2,L2,u2,v2,z2⟩,⟨R3,L3,u3,v3,z3⟩,⟨q,g4,L4,n1,n2,n3,n4,u4,v4,q1,q2,q3,u5⟩⟩:=hd
     have q1s:=Ne.symm q1
     have q2s:=Ne.symm q2
     have q3s:=Ne.symm q3
     simp -implicitDefEqProofs[u1,u2,u3,u4,u5,v1,v2,v3,v4,q1,q2,q3,q1s,q2s,q3s,unzT,unzP,okT,okP]
     exact⟨⟨z1.1,z2.1,z3.1⟩,z1.2,z2.2,z3.2⟩
    ·rw[hX] at he
     rw[herr he]
     simp -implicitDefEqProofs[unzT,unzP,okT,okP]
   by_cases s18:(thrAt m t.toNat).step=18
   ·have hX:gatherX m t (thrAt m t.toNat) (ownCur m t) (ownLock m t)=scanM m t:=by rw[scanM_yes hl,s18];rfl
    rw[et] at s18
    have e17:((17:Int)==m.threads[t.toNat].step)=false:=by simp[s18]
    have e18:((18:Int)==m.threads[t.toNat].step)=true:=by simp[s18]
    refine PCall.ofZ (F:=m12) rfl rfl rfl ?_
    simp -implicitDefEqProofs[m12]
    refine CallT.body (F:=m27) rfl rfl rfl rfl ?_
    simp -implicitDefEqProofs[m27]
    refine CallT.bool2 (by simp) (c_boardThread m t h) (fun hb=>?_) (fun hb=>absurd hat hb)
    simp -implicitDefEqProofs
    refine CallT.pure (c_cfgReplica m.config t ⟨hc,hat.2.1,hat.2.2⟩) (by simp) rfl ?_
    rw[show t.tmod m.config.replicas=ownOf m t from rfl]
    simp -implicitDefEqProofs
    refine CallT.pure (c_startCopy m h (whole_of h1)) (by simp) (ok_mach _) ?_
    simp -implicitDefEqProofs
    refine CallT.bodyQ (F:=m28) rfl rfl rfl rfl rfl ?_
    simp -implicitDefEqProofs[m28,hF.1,b2,e17,e18]
    refine CallT.body (F:=m29) rfl rfl rfl rfl ?_
    simp -implicitDefEqProofs[m29,hF.1,b2,e17,e18]
    refine CallT.bodyQ (F:=m28) rfl rfl rfl rfl rfl ?_
    simp -implicitDefEqProofs[m28,hF.1,b2,e17,e18]
    refine x_gather m t h hl _ ⟨by simp,by simp,by simp,by simp,by simp,by simp⟩ _ (fun he T1 hd=>?_) (fun he T1=>?_)
    ·rw[hX] at he hd
     generalize scanM m t=A at he hd ⊢
     obtain⟨D,e⟩:=A
     dsimp only at he hd ⊢
     subst he
     obtain⟨⟨R1,L1,u1,v1,z1⟩,⟨R2,L2,u2,v2,z2⟩,⟨R3,L3,u3,v3,z3⟩,⟨q,g4,L4,n1,n2,n3,n4,u4,v4,q1,q2,q3,u5⟩⟩:=hd
     have q1s:=Ne.symm q1
     have q2s:=Ne.symm q2
     have q3s:=Ne.symm q3
     simp -implicitDefEqProofs[u1,u2,u3,u4,u5,v1,v2,v3,v4,q1,q2,q3,q1s,q2s,q3s,unzT,unzP,okT,okP]
     exact⟨⟨z1.1,z2.1,z3.1⟩,z1.2,z2.2,z3.2⟩
    ·rw[hX] at he
     rw[herr he]
     simp -implicitDefEqProofs[unzT,unzP,okT,okP]
   by_cases s19:(thrAt m t.toNat).step=19
   ·have hX:openX m t (thrAt m t.toNat) (ownRing m t)=scanM m t:=by rw[scanM_yes hl,s19];rfl
    rw[et] at s19
    have e17:((17:Int)==m.threads[t.toNat].step)=false:=by simp[s19]
    have e18:((18:Int)==m.threads[t.toNat].step)=false:=by simp[s19]
    have e19:((19:Int)==m.threads[t.toNat].step)=true:=by simp[s19]
    refine PCall.ofZ (F:=m12) rfl rfl rfl ?_
    simp -implicitDefEqProofs[m12]
    refine CallT.body (F:=m27) rfl rfl rfl rfl ?_
    simp -implicitDefEqProofs[m27]
    refine CallT.bool2 (by simp) (c_boardThread m t h) (fun hb=>?_) (fun hb=>absurd hat hb)
    simp -implicitDefEqProofs
    refine CallT.pure (c_cfgReplica m.config t ⟨hc,hat.2.1,hat.2.2⟩) (by simp) rfl ?_
    rw[show t.tmod m.config.replicas=ownOf m t from rfl]
    simp -implicitDefEqProofs
    refine CallT.pure (c_startCopy m h (whole_of h1)) (by simp) (ok_mach _) ?_
    simp -implicitDefEqProofs
    refine CallT.bodyQ (F:=m28) rfl rfl rfl rfl rfl ?_
    simp -implicitDefEqProofs[m28,hF.1,b2,e17,e18,e19]
    refine CallT.body (F:=m29) rfl rfl rfl rfl ?_
    simp -implicitDefEqProofs[m29,hF.1,b2,e17,e18,e19]
    refine CallT.bodyQ (F:=m28) rfl rfl rfl rfl rfl ?_
    simp -implicitDefEqProofs[m28,hF.1,b2,e17,e18,e19]
    refine x_open m t h hl _ ⟨by simp,by simp,by simp,by simp,by simp,by simp⟩ _ (fun he T1 hd=>?_) (fun he T1=>?_)
    ·rw[hX] at he hd
     generalize scanM m t=A at he hd ⊢
     obtain⟨D,e⟩:=A
     dsimp only at he hd ⊢
     subst he
     obtain⟨⟨R1,L1,u1,v1,z1⟩,⟨R2,L2,u2,v2,z2⟩,⟨R3,L3,u3,v3,z3⟩,⟨q,g4,L4,n1,n2,n3,n4,u4,v4,q1,q2,q3,u5⟩⟩:=hd
     have q1s:=Ne.symm q1
     have q2s:=Ne.symm q2
     have q3s:=Ne.symm q3
     simp -implicitDefEqProofs[u1,u2,u3,u4,u5,v1,v2,v3,v4,q1,q2,q3,q1s,q2s,q3s,unzT,unzP,okT,okP]
     exact⟨⟨z1.1,z2.1,z3.1⟩,z1.2,z2.2,z3.2⟩
    ·rw[hX] at he
     rw[herr he]
     simp -implicitDefEqProofs[unzT,unzP,okT,okP]
   rw[show scanM m t=(noMachine,2200) by rw[scanM_yes hl];simp[scanX,s17,s18,s19]]
   rw[et] at s17 s18 s19
   have e17:((17:Int)==m.threads[t.toNat].step)=false:=by simp;omega
   have e18:((18:Int)==m.threads[t.toNat].step)=false:=by simp;omega
   have e19:((19:Int)==m.threads[t.toNat].step)=false:=by simp;omega
   refine PCall.ofZ (F:=m12) rfl rfl rfl ?_
   simp -implicitDefEqProofs[m12]
   refine CallT.body (F:=m27) rfl rfl rfl rfl ?_
   simp -implicitDefEqProofs[m27]
   refine CallT.bool2 (by simp) (c_boardThread m t h) (fun hb=>?_) (fun hb=>absurd hat hb)
   simp -implicitDefEqProofs
   refine CallT.pure (c_cfgReplica m.config t ⟨hc,hat.2.1,hat.2.2⟩) (by simp) rfl ?_
   rw[show t.tmod m.config.replicas=ownOf m t from rfl]
   simp -implicitDefEqProofs
   refine CallT.pure (c_startCopy m h (whole_of h1)) (by simp) (ok_mach _) ?_
   simp -implicitDefEqProofs
   refine CallT.bodyQ (F:=m28) rfl rfl rfl rfl rfl ?_
   simp -implicitDefEqProofs[m28,hF.1,b2,e17,e18,e19]
   refine CallT.body (F:=m29) rfl rfl rfl rfl ?_
   simp -implicitDefEqProofs[m29,hF.1,b2,e17,e18,e19]
   refine CallT.bodyQ (F:=m28) rfl rfl rfl rfl rfl ?_
   simp -implicitDefEqProofs[m28,hF.1,b2,e17,e18,e19]
   simp -implicitDefEqProofs[unzT,unzP,okT,okP]
  ·rw[scanM_no fun e=>hcode e.2]
   have b2:(m.threads[t.toNat].op.code != 3)=true:=by rw[et] at hcode;simp[hcode]
   refine PCall.ofZ (F:=m12) rfl rfl rfl ?_
   simp -implicitDefEqProofs[m12]
   refine CallT.body (F:=m27) rfl rfl rfl rfl ?_
   simp -implicitDefEqProofs[m27]
   refine CallT.bool2 (by simp) (c_boardThread m t h) (fun hb=>?_) (fun hb=>absurd hat hb)
   simp -implicitDefEqProofs
   refine CallT.pure (c_cfgReplica m.config t ⟨hc,hat.2.1,hat.2.2⟩) (by simp) rfl ?_
   rw[show t.tmod m.config.replicas=ownOf m t from rfl]
   simp -implicitDefEqProofs
   refine CallT.pure (c_startCopy m h (whole_of h1)) (by simp) (ok_mach _) ?_
   simp -implicitDefEqProofs
   refine CallT.bodyQ (F:=m28) rfl rfl rfl rfl rfl ?_
   simp -implicitDefEqProofs[m28,hF.1,b2]
   simp -implicitDefEqProofs[unzT,unzP,okT,okP]
 ·rw[scanM_no fun e=>hat e.1]
  refine PCall.mach1Z ?_
  refine PCall.of (F:=m12) rfl rfl rfl (ok_mach1 _ _) ?_
  simp -implicitDefEqProofs[m12]
  refine CallT.body (F:=m27) rfl rfl rfl rfl ?_
  simp -implicitDefEqProofs[m27]
  refine CallT.bool2 (by simp) (c_boardThread m t h) (fun hb=>absurd hb hat) (fun hb=>?_)
  simp -implicitDefEqProofs

end Go.Ab

namespace Go.Ab

theorem c_awake22:PCall tab 9 [] (.bool true):=PCall.closed 60 rfl rfl rfl (by kernel_rfl)

end Go.Ab

namespace Go.Ab

theorem c_begun22:PCall tab 10 [] (.agg (encMachine true begunM)):=by
 refine PCall.of (F:=m10) rfl rfl rfl (ok_mach _) ?_
 simp -implicitDefEqProofs[m10]
 refine CallT.pure (c_New13 ⟨2,2,2,4,8⟩) rfl (ok_mach1 _ _) ?_
 rw[newM_yes begun_cfg]
 rw[show machine0 ⟨2,2,2,4,8⟩=begunM from rfl]
 simp -implicitDefEqProofs

def scannerM:Machine:=callTo begunM 1 ⟨3,0,0⟩
theorem scanner_call:callM begunM 1 ⟨3,0,0⟩=(scannerM,0):=
 callM_yes begun_is.2.2.2.2.2 (by decide) ⟨by decide,by decide⟩ ⟨by decide,rfl⟩ (by decide +kernel)
theorem scanner_is:scannerM.config=⟨2,2,2,4,8⟩∧scannerM.replicas.length=2∧scannerM.threads.length=4∧scannerM.rings.length=2∧scannerM.threads[1]? = some ⟨17,⟨3,0,0⟩,0,0,[],0,false,false,0,[]⟩:=⟨rfl,rfl,rfl,rfl,rfl⟩

theorem scan_no17 {X:Machine} {t:Int} (h1:(thrAt X t.toNat).step=17) (h2:((thrAt X t.toNat).tails.length:Int)≠(thrAt X t.toNat).log):scanM X t=(noMachine,2200):=by
 by_cases hl:scanP X t
 ·rw[scanM_yes hl,h1]
  exact if_pos h2
 ·exact scanM_no hl
theorem scan_no18 {X:Machine} {t:Int} (h1:(thrAt X t.toNat).step=18) (h2:((thrAt X t.toNat).tails.length:Int)≠X.config.logs):scanM X t=(noMachine,2200):=by
 by_cases hl:scanP X t
 ·rw[scanM_yes hl,h1]
  exact if_pos h2
 ·exact scanM_no hl
theorem scan_nostep {X:Machine} {t:Int} (h1:(thrAt X t.toNat).step<17):scanM X t=(noMachine,2200):=by
 by_cases hl:scanP X t
 ·rw[scanM_yes hl]
  unfold scanX
  rw[if_neg (by omega),if_neg (by omega),if_neg (by omega)]
 ·exact scanM_no hl
theorem thr_at22 {m:Machine} (f:Thread→Thread) (h:1<m.threads.length):thrAt (setThread m 1 f) 1=f m.threads[1]:=by
 have h2:1<(setThread m 1 f).threads.length:=by unfold setThread;simpa using h
 rw[thrAt_of h2]
 have e:=setThread_of h f
 simp only[e,List.getElem_set_self]
theorem sT0 (l:List Thread) (i:Nat) (a b c d e f k r s:Int) (p q:Bool) (g:List Int) :
  (l.map (encThread true)).set i [.int .i64 a,.int .i64 b,.int .i64 c,.int .i64 d,.int .i64 e,.int .i64 f,.vs (g.map encInt) true,.int .i64 k,.bool p,.bool q,.int .i64 r,.vs [[.int .i64 s]] true]=(l.set i ⟨a,⟨b,c,d⟩,e,f,g,k,p,q,r,[s]⟩).map (encThread true):=by rw[List.map_set];rfl

set_option maxRecDepth 20000 in
set_option maxHeartbeats 4000000 in
theorem l_ScanForms (which x:Int) (_:inR which) (_:inR x):CallT tab false 6 [.a (.int .i64 which),.a (.int .i64 x)] TH.none (fun v _=>v=.a (.bool true)):=by
 obtain⟨b1,b2,b3,b4,b5,b6⟩:=begun_is
 have hin:∀ r∈begunM.rings,inR r.head:=fun r hr=>by have:=(b6.2.2.1 r hr).1.1;simp only[ringNums] at this;unfold inR;omega
 refine CallT.body (F:=m6) rfl rfl rfl rfl ?_
 simp -implicitDefEqProofs[m6]
 refine CallT.pure c_awake22 rfl rfl ?_
 have hd:IntKind.wrap .i64 (1+x % 1024)=1+x % 1024:=wrap_of (by omega) (by omega)
 have ht:Int.tmod (which % 18446744073709551616) 8=which % 18446744073709551616 % 8:=Int.tmod_eq_emod_of_nonneg (by omega)
 simp -implicitDefEqProofs[mask_1023,hd]
 obtain⟨d,hdd⟩:∃ d,1+x % 1024=d:=⟨_,rfl⟩
 have hd1:1≤d:=by omega
 have hd2:d≤1024:=by omega
 rw[hdd]
 refine CallT.pure c_begun22 rfl (ok_mach _) ?_
 simp -implicitDefEqProofs
 have okL:=okM_call b5 1 ⟨3,0,0⟩
 have hC:=c_Call13 begunM 1 ⟨3,0,0⟩ b5 hin
 rw[scanner_call] at hC okL
 refine CallT.pure hC (by simp) (ok_mach1 _ _) ?_
 obtain⟨c1,c2,c3,c4,c5⟩:=scanner_is
 generalize scannerM=M at *
 obtain⟨w,hw⟩:∃ w,which % 18446744073709551616 % 8=w:=⟨_,rfl⟩
 have hw8:w=0∨w=1∨w=2∨w=3∨w=4∨w=5∨w=6∨w=7:=by omega
 have n1:IntKind.wrap .i64 (-d)=-d:=wrap_of (by omega) (by omega)
 have n3:IntKind.wrap .i64 (3+d)=3+d:=wrap_of (by omega) (by omega)
 have n5:IntKind.wrap .i64 (1+x % 16)=1+x % 16:=wrap_of (by omega) (by omega)
 have z1:(1:Int)<M.threads.length:=by omega
 have z2:1<M.threads.length:=by omega
 have z3:0<M.threads.length:=by omega
 have g1:=List.getElem?_eq_getElem z2
 have e1:M.threads[1]=⟨17,⟨3,0,0⟩,0,0,[],0,false,false,0,[]⟩:=Option.some.inj (g1.symm.trans c5)
 have hF:=And.intro z1 (And.intro z2 (And.intro z3 (And.intro g1 (And.intro n1 (And.intro n3 n5)))))
 have hSm:=c_SameMachine noMachine noMachine false false okM_no18
 have thr:=fun (f:Thread→Thread)=>thr_at22 (m:=M) f z2
 have st:=fun (f:Thread→Thread)=>setThread_of (m:=M) (t:=1) z2 f
 simp -implicitDefEqProofs[wrap_u64,ht,hw]
 rcases hw8 with rfl|rfl|rfl|rfl|rfl|rfl|rfl|rfl
 ·simp -implicitDefEqProofs[hF,mask_15,sT,sT0,-List.map_set]
  have hS:=c_ScanStep M (-d) okL
  rw[scanM_no fun e=>by have e1:=e.1.2.1;omega] at hS
  refine CallT.pure hS (by simp -implicitDefEqProofs[hF,sT,sT0,-List.map_set]) (ok_mach1F _ _) ?_
  simp -implicitDefEqProofs
  refine CallT.bool2 (by simp) hSm (fun hb=>?_) (fun hb=>absurd rfl hb)
  simp -implicitDefEqProofs
  refine CallT.pure (c_Num 2200) rfl rfl ?_
  simp -implicitDefEqProofs
 ·simp -implicitDefEqProofs[hF,mask_15,sT,sT0,-List.map_set]
  have hS:=c_ScanStep M (3+d) okL
  rw[scanM_no fun e=>by have e1:=e.1.2.2;rw[c1] at e1;simp only at e1;omega] at hS
  refine CallT.pure hS (by simp -implicitDefEqProofs[hF,sT,sT0,-List.map_set]) (ok_mach1F _ _) ?_
  simp -implicitDefEqProofs
  refine CallT.bool2 (by simp) hSm (fun hb=>?_) (fun hb=>absurd rfl hb)
  simp -implicitDefEqProofs
  refine CallT.pure (c_Num 2200) rfl rfl ?_
  simp -implicitDefEqProofs
 ·simp -implicitDefEqProofs[hF,mask_15,sT,sT0,-List.map_set]
  have hS:=c_ScanStep (setThread M 1 fun y=>{ y with step:=0 }) 1 (okM_setThread okL 1 (fun _ hx=>hx))
  rw[scan_nostep (by rw[show (1:Int).toNat=1 from rfl,thr,e1];show (0:Int)<17;decide),st] at hS
  refine CallT.pure hS (by simp -implicitDefEqProofs[hF,sT,sT0,-List.map_set]) (ok_mach1F _ _) ?_
  simp -implicitDefEqProofs
  refine CallT.bool2 (by simp) hSm (fun hb=>?_) (fun hb=>absurd rfl hb)
  simp -implicitDefEqProofs
  refine CallT.pure (c_Num 2200) rfl rfl ?_
  simp -implicitDefEqProofs
 ·simp -implicitDefEqProofs[hF,mask_15,sT,sT0,-List.map_set]
  have hS:=c_ScanStep (setThread M 1 fun y=>{ y with tails:=[0] }) 1 (okM_setThread okL 1 (fun _ hx=>⟨hx.1,by simp[lenOK]⟩))
  rw[scan_no17 (by rw[show (1:Int).toNat=1 from rfl,thr,e1]) (by rw[show (1:Int).toNat=1 from rfl,thr,e1];show (1:Int)≠0;decide),st] at hS
  refine CallT.pure hS (by simp -implicitDefEqProofs[hF,sT,sT0,-List.map_set]) (ok_mach1F _ _) ?_
  simp -implicitDefEqProofs
  refine CallT.bool2 (by simp) hSm (fun hb=>?_) (fun hb=>absurd rfl hb)
  simp -implicitDefEqProofs
  refine CallT.pure (c_Num 2200) rfl rfl ?_
  simp -implicitDefEqProofs
 ·simp -implicitDefEqProofs[hF,mask_15,sT,sT0,-List.map_set]
  have hS:=c_ScanStep (setThread M 1 fun y=>{ y with log:=1 }) 1 (okM_setThread okL 1 (fun _ hx=>hx))
  rw[scan_no17 (by rw[show (1:Int).toNat=1 from rfl,thr,e1]) (by rw[show (1:Int).toNat=1 from rfl,thr,e1];show (0:Int)≠1;decide),st] at hS
  refine CallT.pure hS (by simp -implicitDefEqProofs[hF,sT,sT0,-List.map_set]) (ok_mach1F _ _) ?_
  simp -implicitDefEqProofs
  refine CallT.bool2 (by simp) hSm (fun hb=>?_) (fun hb=>absurd rfl hb)
  simp -implicitDefEqProofs
  refine CallT.pure (c_Num 2200) rfl rfl ?_
  simp -implicitDefEqProofs
 ·simp -implicitDefEqProofs[hF,mask_15,sT,sT0,-List.map_set]
  have hS:=c_ScanStep (setThread M 1 fun y=>{ y with step:=18 }) 1 (okM_setThread okL 1 (fun _ hx=>hx))
  rw[scan_no18 (by rw[show (1:Int).toNat=1 from rfl,thr,e1]) (by rw[show (1:Int).toNat=1 from rfl,thr,e1,show (setThread M 1 fun y=>{ y with step:=18 }).config=M.config from rfl,c1];show (0:Int)≠2;decide),st] at hS
  refine CallT.pure hS (by simp -implicitDefEqProofs[hF,sT,sT0,-List.map_set]) (ok_mach1F _ _) ?_
  simp -implicitDefEqProofs
  refine CallT.bool2 (by simp) hSm (fun hb=>?_) (fun hb=>absurd rfl hb)
  simp -implicitDefEqProofs
  refine CallT.pure (c_Num 2200) rfl rfl ?_
  simp -implicitDefEqProofs
 ·simp -implicitDefEqProofs[hF,mask_15,sT,sT0,-List.map_set]
  have hS:=c_ScanStep (setThread M 1 fun y=>{ y with step:=1+x % 16 }) 1 (okM_setThread okL 1 (fun _ hx=>hx))
  rw[scan_nostep (by rw[show (1:Int).toNat=1 from rfl,thr,e1];show 1+x % 16<17;omega),st] at hS
  refine CallT.pure hS (by simp -implicitDefEqProofs[hF,sT,sT0,-List.map_set]) (ok_mach1F _ _) ?_
  simp -implicitDefEqProofs
  refine CallT.bool2 (by simp) hSm (fun hb=>?_) (fun hb=>absurd rfl hb)
  simp -implicitDefEqProofs
  refine CallT.pure (c_Num 2200) rfl rfl ?_
  simp -implicitDefEqProofs
 ·simp -implicitDefEqProofs[hF,mask_15,sT,sT0,-List.map_set]
  have hS:=c_ScanStep (setThread M 1 fun y=>{ y with op:=⟨0,0,0⟩ }) 1 (okM_setThread okL 1 (fun _ hx=>hx))
  rw[scanM_no (fun e=>by have:=e.2;rw[show (1:Int).toNat=1 from rfl,thr,e1] at this;exact absurd this (by show ¬ (0:Int)=3;decide)),st] at hS
  refine CallT.pure hS (by simp -implicitDefEqProofs[hF,sT,sT0,-List.map_set]) (ok_mach1F _ _) ?_
  simp -implicitDefEqProofs
  refine CallT.bool2 (by simp) hSm (fun hb=>?_) (fun hb=>absurd rfl hb)
  simp -implicitDefEqProofs
  refine CallT.pure (c_Num 2200) rfl rfl ?_
  simp -implicitDefEqProofs

end Go.Ab

namespace Go.Ab
open Go.RowKit Go.ChangeShapes

theorem law_eval {M:FuncId→Option MFunc} {k:FuncId} {ts:List AV} (h:CallT M false k (ts.map .a) TH.none fun v _=>v=.a (.bool true)):∃ n H',eval M n k ts AH.zero=some (.bool true,H'):=by
 obtain⟨r,H',⟨n,hev⟩,v,A',T',_,hv,_,rfl⟩:=h _ AH.zero ts HR.none (VRL.atoms ts)
 cases hv
 exact⟨n,H',hev⟩

theorem i64_range {n:Int} (h:(Lit.int .i64 n).wf=true):-9223372036854775808≤n∧n<9223372036854775808:=by
 simp only[Lit.wf,Bool.and_eq_true,decide_eq_true_eq] at h
 have e1:IntKind.i64.min=-9223372036854775808:=by decide
 have e2:IntKind.i64.max=9223372036854775807:=by decide
 omega

end Go.Ab

namespace Go.Proofs.YtbgkjaicehonfaaGreat
open Go.ChangeShapes Go.WideShapes Go.ChangeAt Go.RowKit Go.Ab

mutual
theorem tame_of {H:Type}:∀ (d:DataW H),Rows.uptoBulk d≤1048576→tame d=true
 | .lit l,h=>by
  cases l
  case string bytes=>simp only[Rows.uptoBulk] at h;simp only[tame,decide_eq_true_eq];omega
  all_goals rfl
 | .nil,_=>rfl
 | .ptr _,_=>rfl
 | .slice es sp,h=>by
  simp only[Rows.uptoBulk] at h
  obtain⟨h1,h2⟩:=tameL_of es (by omega)
  simp only[tame,Bool.and_eq_true,decide_eq_true_eq]
  exact⟨by omega,h1⟩
 | .agg ps,h=>by
  simp only[Rows.uptoBulk] at h
  exact (tameL_of ps (by omega)).1
 | .iface _ _,_=>rfl
 | .map _,_=>rfl
 | .held _,_=>rfl
theorem tameL_of {H:Type}:∀ (l:List (DataW H)),Rows.uptoBulkAll l≤1048576→tameL l=true∧l.length≤Rows.uptoBulkAll l
 | [],_=>⟨rfl,by simp⟩
 | d::r,h=>by
  simp only[Rows.uptoBulkAll] at h ⊢
  obtain⟨h1,h2⟩:=tameL_of r (by omega)
  have h3:=tame_of d (by omega)
  have h4:=bulk_pos d
  exact⟨by simp only[tameL,h3,h1,Bool.and_self],by simp only[List.length_cons];omega⟩
theorem bulk_pos {H:Type}:∀ (d:DataW H),1≤Rows.uptoBulk d
 | .lit l=>by cases l<;>simp[Rows.uptoBulk]
 | .nil=>by simp[Rows.uptoBulk]
 | .ptr _=>by simp only[Rows.uptoBulk];omega
 | .slice _ _=>by simp only[Rows.uptoBulk];omega
 | .agg _=>by simp only[Rows.uptoBulk];omega
 | .iface _ _=>by simp only[Rows.uptoBulk];omega
 | .map _=>by simp only[Rows.uptoBulk];omega
 | .held _=>by simp[Rows.uptoBulk]
end

theorem own:ownKnob Go.Proofs.Tryz.prog.godebug=none:=by kernel_rfl
theorem laidOut:laidOutB Go.Proofs.Tryz.prog=true:=by kernel_rfl

section
variable (W:World)
end

end Go.Proofs.YtbgkjaicehonfaaGreat
