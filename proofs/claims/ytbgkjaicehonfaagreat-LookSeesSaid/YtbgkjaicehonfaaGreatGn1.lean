/-
  Who waits, by value.
  and what goes with it.
  Conditions: none.
-/
import Derived.Test.YtbgkjaicehonfaaGreatGn0
import Derived.Test.YtbgkjaicehonfaaGreatGy
import Derived.KernelRfl
import Derived.Test.YtbgkjaicehonfaaGreatGb
import Derived.Test.YtbgkjaicehonfaaGreatRows

set_option linter.unusedSimpArgs false
set_option linter.unusedVariables false

namespace Go.Ab

theorem c_cfgReplica (c:Config) (t:Int) (h:cfgMay c∧0≤t∧t<c.threads):PCall tab 57 [.agg (encConfig c),.int .i64 t] (.tup [.int .i64 (Int.tmod t c.replicas),.int .i64 0]):=by
 have hr:¬ c.replicas=0:=by have:=h.1.2.1;omega
 refine PCall.of (F:=m57) rfl rfl rfl rfl ?_
 simp -implicitDefEqProofs[m57]
 refine CallT.bool2 rfl (c_cfgThread c t) (fun hb=>?_) (fun hb=>absurd h hb)
 simp -implicitDefEqProofs[hr]
@[reducible] def waitT (c:Config) (r g:Int) (i:Int) (t:Thread):Prop:=Int.tmod i c.replicas=r∧t.log=g∧t.posted=true∧updates t.op
def waits (m:Machine) (r g:Int) (i:Nat):Bool:=match m.threads[i]? with
 | some t=>decide (waitT m.config r g i t)
 | none=>false
def wsTo (m:Machine) (r g:Int) (i:Nat):List Int:=((List.range i).filter (waits m r g)).map (fun j:Nat=>(j:Int))
def waitM (m:Machine) (r g:Int):List Int × Int:=if thereP m r g then (wsTo m r g m.threads.length,0) else ([],1600)
theorem waitM_yes {m:Machine} {r g:Int} (h:thereP m r g):waitM m r g=(wsTo m r g m.threads.length,0):=if_pos h
theorem waitM_no {m:Machine} {r g:Int} (h:¬ thereP m r g):waitM m r g=([],1600):=if_neg h
theorem wsTo_yes {m:Machine} {r g:Int} {i:Nat} (hi:i<m.threads.length) (h:waitT m.config r g i m.threads[i]):wsTo m r g (i+1)=wsTo m r g i++[(i:Int)]:=by
 have hw:waits m r g i=true:=by unfold waits;rw[List.getElem?_eq_getElem hi];simpa using h
 unfold wsTo
 rw[List.range_succ,List.filter_append,List.map_append,List.filter_cons_of_pos hw]
 rfl
theorem wsTo_no {m:Machine} {r g:Int} {i:Nat} (hi:i<m.threads.length) (h:¬ waitT m.config r g i m.threads[i]):wsTo m r g (i+1)=wsTo m r g i:=by
 have hw:¬ waits m r g i=true:=by unfold waits;rw[List.getElem?_eq_getElem hi];simpa using h
 unfold wsTo
 rw[List.range_succ,List.filter_append,List.map_append,List.filter_cons_of_neg hw]
 simp
theorem wsTo_len (m:Machine) (r g:Int) (i:Nat):(wsTo m r g i).length≤i:=by
 unfold wsTo
 rw[List.length_map]
 exact Nat.le_trans (List.length_filter_le _ _) (by simp)
theorem ok_waits (l:List Int) (n:Int):okT (.tup [.vs (l.map encInt) true,.int .i64 n])=true:=by simp[okT,okP,okC,List.all_map,flatV]

def WtJ (m:Machine) (r g:Int) (k:Nat) (E:TE) (T:TH):Prop:=∃ (i:Nat),i+k=m.threads.length∧GrowL T (E.get 8) ((wsTo m r g i).map encInt) 0 T.next∧E.get 1=.a (.int .i64 r)∧E.get 2=.a (.int .i64 g)∧E.get 3=.lp 0 0∧E.get 9=.a (.int .i64 i)∧1≤E.ln∧E.var 0=some ((encMachine false m).map .a)

end Go.Ab

namespace Go.Ab

def nextM (m:Machine) (r g:Nat) (s:Slot):Machine:=
 { m with
   replicas:=m.replicas.modify r fun p=>{ p with state:=(turnS m.config.object p.state s.op).1,cursors:=p.cursors.modify g (·+1) }
   threads:=if s.thread.tmod m.config.replicas=r then m.threads.modify s.thread.toNat fun t=>{ t with answer:=(turnS m.config.object ((m.replicas[r]?.map (·.state)).getD noState) s.op).2,ready:=true } else m.threads }
def curAt (m:Machine) (r g:Nat):Int:=((m.replicas[r]?.map fun p=>p.cursors[g]?.getD 0)).getD 0
def ringAt (m:Machine) (g:Nat):Ring:=m.rings[g]?.getD ⟨0,0,0,[]⟩
def entryAt (m:Machine) (r g:Nat):Slot × Int:=entryM (ringAt m g) (curAt m r g)
def oneM (m:Machine) (r g:Int):Machine × Bool × Int:=if thereP m r g then (if (entryAt m r.toNat g.toNat).2=0 then (nextM m r.toNat g.toNat (entryAt m r.toNat g.toNat).1,true,0) else (m,false,0)) else (noMachine,false,1800)
theorem oneM_no {m:Machine} {r g:Int} (h:¬ thereP m r g):oneM m r g=(noMachine,false,1800):=if_neg h
theorem oneM_yes {m:Machine} {r g:Int} (h:thereP m r g):oneM m r g=if (entryAt m r.toNat g.toNat).2=0 then (nextM m r.toNat g.toNat (entryAt m r.toNat g.toNat).1,true,0) else (m,false,0):=if_pos h

theorem ok_slot1 (s:Slot) (e:Int):okT (.tup [.agg (encSlot s),.int .i64 e])=true:=rfl

structure At (m:Machine) (r g:Nat):Prop where
 hr:r<m.replicas.length
 hg:g<m.rings.length
 hc:g<m.replicas[r].cursors.length
 st:stateMay m.config.object m.replicas[r].state
 os:okS m.replicas[r].state
 ring:ringIn m.config m.rings[g]
 ol:lenOK m.rings[g].slots
 cur:0≤m.replicas[r].cursors[g]∧m.replicas[r].cursors[g]≤1048576

theorem at_of {m:Machine} {r g:Int} (h:okM m) (ht:thereP m r g):At m r.toNat g.toNat:=by
 obtain⟨h1,hr,hg⟩:=ht
 obtain⟨hi,hpi,hpl,hpc⟩:=replica_there h1 hr
 have hgl:g.toNat<m.rings.length:=by have:=hg.1;have:=hg.2;omega
 have hgc:g.toNat<m.replicas[r.toNat].cursors.length:=by omega
 have hri:=h1.2.2.1 _ (List.getElem_mem hgl)
 have hcu:=hpi.2.2.2.2 _ hgc
 rw[List.getElem?_eq_getElem hgl] at hcu
 simp only[cursorIn,decide_eq_true_eq] at hcu
 have hn:=hri.1.1
 simp only[ringNums] at hn
 exact⟨hi,hgl,hgc,hpi.1,(h.2.1.2 _ (List.getElem_mem hi)).1,hri,h.1.2 _ (List.getElem_mem hgl),by omega,by omega⟩

theorem entry_of {m:Machine} {r g:Nat} (h:At m r g):entryAt m r g=entryM (m.rings[g]'h.hg) ((m.replicas[r]'h.hr).cursors[g]'h.hc):=by
 have e1:=List.getElem?_eq_getElem h.hr
 have e2:=List.getElem?_eq_getElem h.hg
 have e3:=List.getElem?_eq_getElem h.hc
 simp only[entryAt,ringAt,curAt,e1,e2,e3,Option.map_some,Option.getD_some]

theorem entry_is {m:Machine} {r g:Nat} (h:At m r g) (h0:(entryAt m r g).2=0):slotOK (entryAt m r g).1∧0≤(entryAt m r g).1.thread∧(entryAt m r g).1.thread<m.config.threads∧(m.replicas[r]'h.hr).cursors[g]'h.hc<(m.rings[g]'h.hg).tail:=by
 rw[entry_of h] at h0 ⊢
 unfold entryM at h0 ⊢
 rw[if_pos h.ring.1] at h0 ⊢
 by_cases he:hasEntry (m.rings[g]'h.hg) ((m.replicas[r]'h.hr).cursors[g]'h.hc)
 ·rw[if_pos he] at h0 ⊢
  obtain⟨_,_,_,_,g4,_⟩:=place_of h.ring.1 he.1 he.2.1
  have hm:slotAt (m.rings[g]'h.hg) ((m.replicas[r]'h.hr).cursors[g]'h.hc)∈(m.rings[g]'h.hg).slots:=by rw[← slotAt_of g4];exact List.getElem_mem _
  have h5:=h.ring.2.2.2 _ hm
  exact⟨h.ring.1.2 _ hm,h5.1,h5.2,he.2.1⟩
 ·rw[if_neg he] at h0;cases h0

def stAt (m:Machine) (r:Nat):State:=(m.replicas[r]?.map (·.state)).getD noState
theorem stAt_of {m:Machine} {r g:Nat} (h:At m r g):stAt m r=(m.replicas[r]'h.hr).state:=by
 have e1:=List.getElem?_eq_getElem h.hr
 simp only[stAt,e1,Option.map_some,Option.getD_some]
theorem curAt_of {m:Machine} {r g:Nat} (h:At m r g):curAt m r g=(m.replicas[r]'h.hr).cursors[g]'h.hc:=by
 have e1:=List.getElem?_eq_getElem h.hr
 have e3:=List.getElem?_eq_getElem h.hc
 simp only[curAt,e1,e3,Option.map_some,Option.getD_some]
theorem ringAt_of {m:Machine} {g:Nat} (h:g<m.rings.length):ringAt m g=m.rings[g]:=by
 have e1:=List.getElem?_eq_getElem h
 simp only[ringAt,e1,Option.getD_some]

end Go.Ab

namespace Go.Ab

def setThread (m:Machine) (t:Nat) (f:Thread→Thread):Machine:={ m with threads:=m.threads.modify t f }
theorem setThread_of {m:Machine} {t:Nat} (hi:t<m.threads.length) (f:Thread→Thread):setThread m t f={ m with threads:=m.threads.set t (f m.threads[t]) }:=by unfold setThread;rw[modify_of (List.getElem?_eq_getElem hi)]
@[reducible] def atP (m:Machine) (t:Int):Prop:=machineMay m∧thread0P m.config t
def postM (m:Machine) (t:Int):Machine × Int:=if atP m t then (setThread m t.toNat fun x=>{ x with posted:=true,ready:=false },0) else (noMachine,1600)
theorem postM_yes {m:Machine} {t:Int} (h:atP m t):postM m t=(setThread m t.toNat fun x=>{ x with posted:=true,ready:=false },0):=if_pos h
theorem postM_no {m:Machine} {t:Int} (h:¬ atP m t):postM m t=(noMachine,1600):=if_neg h
theorem there00 {m:Machine} (h:machineMay m):thereP m 0 0:=by
 have hc:=h.1
 have hn:=h.2.1
 simp only[macNums] at hn
 have h3:=hc.2.1
 have h4:=hc.2.2.1
 exact⟨h,⟨by omega,by omega⟩,by omega,by omega⟩

theorem c_boardThread (m:Machine) (t:Int) (h:okM m):PCall tab 56 [.vp [encMachine false m] 0 0,.int .i64 t] (.bool (decide (atP m t))):=by
 refine PCall.of (F:=m56) rfl rfl rfl rfl ?_
 simp -implicitDefEqProofs[m56]
 refine CallT.bool2 (by simp) (c_startMay m h) (fun hb=>?_) (fun hb=>?_)
 ·simp -implicitDefEqProofs
  refine CallT.bool2 rfl (c_cfgThread m.config t) (fun hb2=>?_) (fun hb2=>?_)
  ·simp -implicitDefEqProofs
   exact⟨hb,hb2.2⟩
  ·simp -implicitDefEqProofs
   exact fun hh h2=>by
    rcases Int.lt_or_le t m.config.threads with h3|h3
    ·exact absurd ⟨hb.1,h2,h3⟩ hb2
    ·exact h3
 ·simp -implicitDefEqProofs
  exact fun hh=>absurd hh hb

end Go.Ab

namespace Go.Ab

def unpost (x:Thread):Thread:={ x with posted:=false }
def clearP (ws:List Int) (l:List Thread):List Thread:=ws.foldl (fun l w=>l.modify w.toNat unpost) l
theorem clearP_len (ws:List Int):∀ (l:List Thread),(clearP ws l).length=l.length:=by
 induction ws with
 | nil=>intro l;rfl
 | cons w ws ih=>intro l;show (clearP ws (l.modify w.toNat unpost)).length=_;rw[ih];simp
theorem clearP_succ {ws:List Int} {i:Nat} (h:i<ws.length) (l:List Thread):clearP (ws.take (i+1)) l=(clearP (ws.take i) l).modify ws[i].toNat unpost:=by
 unfold clearP
 rw[List.take_add_one,List.getElem?_eq_getElem h,List.foldl_append]
 rfl
theorem modify_comm {l:List Thread} {i j:Nat} {f g:Thread→Thread} (h:∀ x,f (g x)=g (f x)):(l.modify i f).modify j g=(l.modify j g).modify i f:=by
 apply List.ext_getElem?
 intro k
 simp only[List.getElem?_modify]
 cases l[k]? with
 | none=>by_cases e1:i=k<;>by_cases e2:j=k<;>simp[e1,e2]
 | some x=>by_cases e1:i=k<;>by_cases e2:j=k<;>simp[e1,e2,h]
theorem clearP_modify (ws:List Int) {i:Nat} {f:Thread→Thread} (h:∀ x,f (unpost x)=unpost (f x)):∀ (l:List Thread),clearP ws (l.modify i f)=(clearP ws l).modify i f:=by
 induction ws with
 | nil=>intro l;rfl
 | cons w ws ih=>
  intro l
  show clearP ws ((l.modify i f).modify w.toNat unpost)=(clearP ws (l.modify w.toNat unpost)).modify i f
  rw[modify_comm h,ih]
theorem wsTo_mem {m:Machine} {r g:Int} {n:Nat} {w:Int} (h:w∈wsTo m r g n):0≤w∧w<n:=by
 unfold wsTo at h
 obtain⟨j,hj,rfl⟩:=List.mem_map.1 h
 have:=List.mem_range.1 (List.mem_filter.1 hj).1
 omega

def ownOf (m:Machine) (t:Int):Int:=Int.tmod t m.config.replicas
def logOfT (m:Machine) (t:Nat):Int:=(m.threads[t]?.map (·.log)).getD 0
def stepOfT (m:Machine) (t:Nat):Int:=(m.threads[t]?.map (·.step)).getD 0
def batchFor (m:Machine) (t:Int):List Int:=wsTo m (ownOf m t) (logOfT m t.toNat) m.threads.length
def setBatch (ws:List Int) (x:Thread):Thread:={ x with batch:=ws }
def setLoad (s:Int) (x:Thread):Thread:={ x with at_:=0,step:=s }
def takeM (m:Machine) (t:Int):Machine:={ m with threads:=(clearP (batchFor m t) (m.threads.modify t.toNat (setBatch (batchFor m t)))).modify t.toNat (setLoad (if batchFor m t=[] then 9 else 4)) }
def takeM' (m:Machine) (t:Int) (ws:List Int) (x:Int):Machine:={ m with threads:=(clearP ws (m.threads.modify t.toNat (setBatch ws))).modify t.toNat (setLoad x) }
theorem takeM_eq {m:Machine} {t:Int} {ws:List Int} (h:batchFor m t=ws):takeM m t=takeM' m t ws (if ws=[] then 9 else 4):=by subst h;rfl
@[reducible] def collP (m:Machine) (t:Int):Prop:=atP m t∧stepOfT m t.toNat=3
def collM (m:Machine) (t:Int):Machine × Int:=if collP m t then (takeM m t,0) else (noMachine,1700)
theorem collM_yes {m:Machine} {t:Int} (h:collP m t):collM m t=(takeM m t,0):=if_pos h
theorem collM_no {m:Machine} {t:Int} (h:¬ collP m t):collM m t=(noMachine,1700):=if_neg h

theorem own_there {m:Machine} {t:Int} (h:atP m t):thereP m (ownOf m t) (logOfT m t.toNat):=by
 obtain⟨h1,h2,h3⟩:=h
 have hc:=h1.1
 have hn:=h1.2.1
 simp only[macNums] at hn
 have hr:=hc.2.1
 have hi:t.toNat<m.threads.length:=by omega
 have hat:=h1.2.2.2.2.1 _ (List.getElem_mem hi)
 have hnum:=hat.1
 simp only[atNums] at hnum
 have hlg:logOfT m t.toNat=m.threads[t.toNat].log:=by simp[logOfT,hi]
 refine⟨h1,⟨?_, ?_⟩, ?_, ?_⟩
 ·exact Int.tmod_nonneg _ h2
 ·have:=Int.tmod_lt_of_pos t (show 0<m.config.replicas by omega)
  unfold ownOf
  omega
 ·rw[hlg];omega
 ·rw[hlg];omega

end Go.Ab

namespace Go.Ab

theorem nextM_of {m:Machine} {r g:Nat} (h:At m r g) (s:Slot):nextM m r g s =
  { m with
    replicas:=m.replicas.set r { m.replicas[r]'h.hr with state:=(turnS m.config.object (m.replicas[r]'h.hr).state s.op).1,cursors:=(m.replicas[r]'h.hr).cursors.set g ((m.replicas[r]'h.hr).cursors[g]'h.hc+1) }
    threads:=if s.thread.tmod m.config.replicas=r then m.threads.modify s.thread.toNat fun t=>{ t with answer:=(turnS m.config.object (m.replicas[r]'h.hr).state s.op).2,ready:=true } else m.threads }:=by
 have e1:=List.getElem?_eq_getElem h.hr
 have e3:=List.getElem?_eq_getElem h.hc
 unfold nextM
 rw[modify_of e1,modify_of e3,e1]
 rfl

theorem applyM_yes {k:Int} {s:State} {o:Op} {e:Int} (h1:stateMay k s) (h2:opMay o):applyM k s o e=((turnS k s o).1,(turnS k s o).2,0):=if_pos ⟨h1,h2⟩

theorem okC_set {n:Nat} {L:List (List AV)} {i:Nat} {c:List AV} (h1:∀ x∈L,∀ y∈x,okC n y=true) (h2:∀ y∈c,okC n y=true):∀ x∈L.set i c,∀ y∈x,okC n y=true:=fun x hx=>by
 rcases List.mem_or_eq_of_mem_set hx with hx|rfl
 ·exact h1 x hx
 ·exact h2
theorem okC_iset (n:Nat) (xs:List Int) (i:Nat) (v:Int) (z:Bool):okC (n+2) (.vs ((xs.map encInt).set i [.int .i64 v]) z)=true:=by
 have:(xs.map encInt).set i [.int .i64 v]=(xs.set i v).map encInt:=by rw[List.map_set]
 rw[this];exact okC_ints (n+1) _ z
theorem okC_rep (ps:List Replica) (z:Bool):∀ x∈ps.map (encReplica z),∀ y∈x,okC 7 y=true:=fun x hx=>by
 obtain⟨p,_,rfl⟩:=List.mem_map.1 hx
 simp[okC_ints 6]
theorem okC_thr (ts:List Thread) (z:Bool):∀ x∈ts.map (encThread z),∀ y∈x,okC 7 y=true:=fun x hx=>by
 obtain⟨t,_,rfl⟩:=List.mem_map.1 hx
 simp[okC_ints 6,okC,flatV]
theorem unz_intF:(fun row=>List.map (unz 6) row) ∘ encInt=encInt:=by funext n;rfl
theorem unz_rep (z:Bool):(fun row=>List.map (unz 7) row) ∘ encReplica z=encReplica false:=by
 funext p
 simp[unz_ints 5]
theorem unz_thr (z:Bool):(fun row=>List.map (unz 7) row) ∘ encThread z=encThread false:=by
 funext p
 simp[unz_ints 5]

end Go.Ab

namespace Go.Ab

@[reducible] def noRing:Ring:=⟨0,0,0,[]⟩
@[reducible] def canReserve (r:Ring) (n:Int):Prop:=r.fence=0∧r.tail+n≤r.head+r.slots.length∧r.tail+n≤1048576
def reserveM (r:Ring) (n:Int):Ring × Int × Int:=if ringOK r∧1≤n∧n≤r.slots.length then (if canReserve r n then ({ r with tail:=r.tail+n },r.tail,0) else (noRing,0,1001)) else (noRing,0,1000)
def publishM (r:Ring) (at_:Int) (o:Op) (t:Int):Ring × Int:=if ringOK r∧r.head≤at_∧at_<r.tail∧updates o∧threadIn t 4 then ({ r with slots:=r.slots.set (at_.tmod r.slots.length).toNat ⟨o,t,bitOf at_ r.slots.length⟩ },0) else (noRing,1000)
def freeToM (r:Ring) (h:Int):Ring × Int:=if ringOK r∧r.head≤h∧h≤r.tail then ({ r with head:=h },0) else (noRing,1000)

theorem ok_ring2 (r:Ring) (z:Bool) (e:Int):okT (.tup [.agg (encRing z r),.int .i64 e])=true:=by simp[okT,okP,okC,List.all_map,flatV]
theorem ok_ring1 (r:Ring) (z:Bool):okT (.agg (encRing z r))=true:=by simp[okT,okP,okC,List.all_map,flatV]

theorem c_FreeTo1 (r:Ring) (a:Int) (h:lenOK r.slots) (hr:inR r.head):PCall tab 133 [.agg (encRing false r),.int .i64 a] (.tup [.agg (encRing false (freeToM r a).1),.int .i64 (freeToM r a).2]):=by
 refine PCall.ofZ (F:=m133) rfl rfl rfl ?_
 simp -implicitDefEqProofs[m133]
 refine CallT.bool2 (by simp) (c_RingMay r false h hr) (fun hb=>?_) (fun hb=>?_)
 ·by_cases h1:r.head≤a
  ·by_cases h2:a≤r.tail
   ·have g1:¬ a<r.head:=by omega
    have g2:¬ r.tail<a:=by omega
    simp -implicitDefEqProofs[h1,h2,g1,g2]
    refine CallT.pure (c_CopyRing1 r false h) (by simp) (ok_ring1 _ _) ?_
    rw[freeToM,if_pos ⟨hb,h1,h2⟩]
    simp -implicitDefEqProofs[unzT,unzP,okT,okP]
   ·have g1:¬ a<r.head:=by omega
    have g2:r.tail<a:=by omega
    simp -implicitDefEqProofs[h1,h2,g1,g2]
    rw[freeToM,if_neg (fun hh=>h2 hh.2.2)]
    simp -implicitDefEqProofs[unzT,unzP,okT,okP]
  ·have g1:a<r.head:=by omega
   simp -implicitDefEqProofs[h1,g1]
   rw[freeToM,if_neg (fun hh=>h1 hh.2.1)]
   simp -implicitDefEqProofs[unzT,unzP,okT,okP]
 ·simp -implicitDefEqProofs
  rw[freeToM,if_neg (fun hh=>hb hh.1)]
  simp -implicitDefEqProofs[unzT,unzP,okT,okP]

theorem c_Reserve1 (r:Ring) (n:Int) (h:lenOK r.slots) (hr:inR r.head) (hn:inR n):PCall tab 103 [.agg (encRing false r),.int .i64 n] (.tup [.agg (encRing false (reserveM r n).1),.int .i64 (reserveM r n).2.1,.int .i64 (reserveM r n).2.2]):=by
 refine PCall.ofZ (F:=m103) rfl rfl rfl ?_
 simp -implicitDefEqProofs[m103]
 refine CallT.bool2 (by simp) (c_RingMay r false h hr) (fun hb=>?_) (fun hb=>?_)
 ·simp -implicitDefEqProofs
  refine CallT.bool2 (by simp) (c_upTo1 n 1 r.slots.length) (fun hb2=>?_) (fun hb2=>?_)
  ·have hq:=hb.1
   simp only[ringNums,slotsMay] at hq
   have w1:IntKind.wrap .i64 (r.tail+n)=r.tail+n:=wrap_of (by omega) (by omega)
   have w2:IntKind.wrap .i64 (r.head+r.slots.length)=r.head+r.slots.length:=wrap_of (by omega) (by omega)
   have e0:reserveM r n=if canReserve r n then ({ r with tail:=r.tail+n },r.tail,0) else (noRing,0,1001):=if_pos ⟨hb,hb2.1,hb2.2⟩
   rw[e0]
   by_cases h0:r.fence=0
   ·by_cases h1:r.tail+n≤r.head+r.slots.length
    ·have g1:¬ r.head+r.slots.length<r.tail+n:=by omega
     by_cases h2:r.tail+n≤1048576
     ·have g2:¬ 1048576<r.tail+n:=by omega
      rw[if_pos ⟨h0,h1,h2⟩]
      simp -implicitDefEqProofs[h0,w1,w2,g1,g2]
      refine CallT.pure (c_CopyRing1 r false h) (by simp[h0]) (ok_ring1 _ _) ?_
      simp -implicitDefEqProofs[h0,w1,unzT,unzP,okT,okP,pairT,stOf,ldOf,apartT]
     ·have g2:1048576<r.tail+n:=by omega
      rw[if_neg (fun hh=>h2 hh.2.2)]
      simp -implicitDefEqProofs[h0,w1,w2,g1,g2,unzT,unzP,okT,okP]
    ·have g1:r.head+r.slots.length<r.tail+n:=by omega
     rw[if_neg (fun hh=>h1 hh.2.1)]
     simp -implicitDefEqProofs[h0,w1,w2,g1,unzT,unzP,okT,okP]
   ·have b0:(r.fence != 0)=true:=by simp[h0]
    rw[if_neg (fun hh=>h0 hh.1)]
    simp -implicitDefEqProofs[h0,b0,unzT,unzP,okT,okP]
  ·simp -implicitDefEqProofs
   rw[reserveM,if_neg (fun hh=>hb2 ⟨hh.2.1,hh.2.2⟩)]
   simp -implicitDefEqProofs[unzT,unzP,okT,okP]
 ·simp -implicitDefEqProofs
  rw[reserveM,if_neg (fun hh=>hb hh.1)]
  simp -implicitDefEqProofs[unzT,unzP,okT,okP]

theorem okC_slots6 (xs:List Slot) (z:Bool):∀ x∈xs.map encSlot,∀ y∈x,okC 7 y=true:=fun x hx=>by
 obtain⟨s,_,rfl⟩:=List.mem_map.1 hx
 simp[okC,flatV]

theorem unz_slF7:(fun row=>List.map (unz 7) row) ∘ encSlot=encSlot:=by funext s;rfl

theorem c_Publish1 (r:Ring) (a:Int) (o:Op) (t:Int) (h:lenOK r.slots) (hr:inR r.head):PCall tab 104 [.agg (encRing false r),.int .i64 a,.agg (encOp o),.int .i64 t] (.tup [.agg (encRing false (publishM r a o t).1),.int .i64 (publishM r a o t).2]):=by
 refine PCall.ofZ (F:=m104) rfl rfl rfl ?_
 simp -implicitDefEqProofs[m104]
 refine CallT.bool2 (by simp) (c_RingMay r false h hr) (fun hb=>?_) (fun hb=>?_)
 ·by_cases h1:r.head≤a
  ·by_cases h2:a<r.tail
   ·have g1:¬ a<r.head:=by omega
    have g2:¬ r.tail≤a:=by omega
    obtain⟨p0,p1,p2,p3,p4,p5⟩:=place_of hb h1 h2
    simp -implicitDefEqProofs[h1,h2,g1,g2]
    refine CallT.bool2 (by simp) (c_Updates1 o) (fun hb2=>?_) (fun hb2=>?_)
    ·simp -implicitDefEqProofs
     refine CallT.bool2 rfl (c_threadMay1 t) (fun hb3=>?_) (fun hb3=>?_)
     ·simp -implicitDefEqProofs
      refine CallT.pure (c_CopyRing1 r false h) (by simp) (ok_ring1 _ _) ?_
      simp -implicitDefEqProofs
      refine CallT.pure (c_Bit1 a _ p0 hb.1.2.2.2.2.2.2) (by simp) rfl ?_
      rw[publishM,if_pos ⟨hb,h1,h2,hb2,hb3⟩]
      simp -implicitDefEqProofs[p1,p2,p3,p4,p5,unzT,unzP,okT,okP]
      refine⟨okC_set (okC_slots6 _ false) (by simp[okC,flatV]), ?_⟩
      rw[unz_slF7]
     ·simp -implicitDefEqProofs
      rw[publishM,if_neg (fun hh=>hb3 hh.2.2.2.2)]
      simp -implicitDefEqProofs[unzT,unzP,okT,okP]
    ·simp -implicitDefEqProofs
     rw[publishM,if_neg (fun hh=>hb2 hh.2.2.2.1)]
     simp -implicitDefEqProofs[unzT,unzP,okT,okP]
   ·have g1:¬ a<r.head:=by omega
    have g2:r.tail≤a:=by omega
    simp -implicitDefEqProofs[h1,h2,g1,g2]
    rw[publishM,if_neg (fun hh=>h2 hh.2.2.1)]
    simp -implicitDefEqProofs[unzT,unzP,okT,okP]
  ·have g1:a<r.head:=by omega
   simp -implicitDefEqProofs[h1,g1]
   rw[publishM,if_neg (fun hh=>h1 hh.2.1)]
   simp -implicitDefEqProofs[unzT,unzP,okT,okP]
 ·simp -implicitDefEqProofs
  rw[publishM,if_neg (fun hh=>hb hh.1)]
  simp -implicitDefEqProofs[unzT,unzP,okT,okP]

end Go.Ab

namespace Go.Ab

def stepM (m:Machine) (t s:Int):Machine:=setThread m t.toNat fun x=>{ x with step:=s }
def setRing (m:Machine) (g:Nat) (r:Ring):Machine:={ m with rings:=m.rings.modify g fun _=>r }
def thrAt (m:Machine) (t:Nat):Thread:=m.threads[t]?.getD ⟨0,⟨0,0,0⟩,0,0,[],0,false,false,0,[]⟩
def leastR (m:Machine) (g:Nat):Int × Nat:=if m.config.replicas=2∧curAt m 1 g<curAt m 0 g then (curAt m 1 g,1) else (curAt m 0 g,0)
def spaceW (m:Machine) (t log least:Int) (who:Nat):Machine:=
 if (ringAt m log.toNat).head<least then setRing (stepM m t 4) log.toNat { ringAt m log.toNat with head:=least }
 else if (who:Int)=ownOf m t∨lockAt m who log.toNat=0 then (oneM m who log).1
 else m
def spaceM (m:Machine) (t:Int):Machine:=spaceW m t (thrAt m t.toNat).log (leastR m (thrAt m t.toNat).log.toNat).1 (leastR m (thrAt m t.toNat).log.toNat).2
def seenM (m:Machine) (t x s:Int):Machine:=setThread m t.toNat fun y=>{ y with seen:=x,step:=s }
def loadX (m:Machine) (t:Int) (x:Thread) (r:Ring):Machine × Int:=
 if r.fence≠0 then ((oneM m (ownOf m t) x.log).1,0) else (seenM m t r.tail (if r.head+r.slots.length<r.tail+x.batch.length then 5 else 6),0)
def reserveX (m:Machine) (t:Int) (x:Thread) (r:Ring):Machine × Int:=
 if r.tail≠x.seen∨(reserveM r x.batch.length).2.2≠0 then (stepM m t 4,0)
 else (setRing (setThread m t.toNat fun y=>{ y with step:=7,at_:=0 }) x.log.toNat (reserveM r x.batch.length).1,0)
def publishX (m:Machine) (t:Int) (x:Thread) (r:Ring) (who:Int):Machine × Int:=
 if (x.batch.length:Int)≤x.at_ then (noMachine,1900)
 else if (publishM r (x.seen+x.at_) (thrAt m who.toNat).op who).2≠0 then (noMachine,1900)
 else (setRing (setThread m t.toNat fun y=>{ y with at_:=x.at_+1,step:=if x.at_+1=x.batch.length then 8 else y.step }) x.log.toNat (publishM r (x.seen+x.at_) (thrAt m who.toNat).op who).1,0)
def claimX (m:Machine) (t:Int) (x:Thread) (r:Ring) (s:Int):Machine × Int:=
 if s=4 then loadX m t x r else if s=5 then (spaceM m t,0) else if s=6 then reserveX m t x r else if s=7 then publishX m t x r (x.batch.getD x.at_.toNat 0) else (noMachine,1900)
@[reducible] def claimP (m:Machine) (t:Int):Prop:=atP m t∧(thrAt m t.toNat).batch≠[]
def claimM (m:Machine) (t:Int):Machine × Int:=if claimP m t then claimX m t (thrAt m t.toNat) (ringAt m (thrAt m t.toNat).log.toNat) (thrAt m t.toNat).step else (noMachine,1900)
theorem claimM_yes {m:Machine} {t:Int} (h:claimP m t):claimM m t=claimX m t (thrAt m t.toNat) (ringAt m (thrAt m t.toNat).log.toNat) (thrAt m t.toNat).step:=if_pos h
theorem claimM_no {m:Machine} {t:Int} (h:¬ claimP m t):claimM m t=(noMachine,1900):=if_neg h

theorem ringStep_of {m:Machine} {t s:Int} {g:Nat} (hi:t.toNat<m.threads.length) (hg:g<m.rings.length) (r:Ring):setRing (stepM m t s) g r={ m with rings:=m.rings.set g r,threads:=m.threads.set t.toNat { m.threads[t.toNat] with step:=s } }:=by
 unfold setRing stepM;rw[setThread_of hi];dsimp only;rw[modify_of (List.getElem?_eq_getElem hg)]
theorem ringThr_of {m:Machine} {t:Nat} {g:Nat} (hi:t<m.threads.length) (hg:g<m.rings.length) (r:Ring) (f:Thread→Thread):setRing (setThread m t f) g r={ m with rings:=m.rings.set g r,threads:=m.threads.set t (f m.threads[t]) }:=by
 unfold setRing;rw[setThread_of hi];dsimp only;rw[modify_of (List.getElem?_eq_getElem hg)]
theorem leastR_one {m:Machine} {g:Nat} (h:¬ (m.config.replicas=2∧curAt m 1 g<curAt m 0 g)):leastR m g=(curAt m 0 g,0):=if_neg h
theorem leastR_two {m:Machine} {g:Nat} (h:m.config.replicas=2) (h2:curAt m 1 g<curAt m 0 g):leastR m g=(curAt m 1 g,1):=if_pos ⟨h,h2⟩

end Go.Ab

namespace Go.Ab

theorem head_in {m:Machine} (hin:∀ r∈m.rings,inR r.head) {g:Nat} (h:g<m.rings.length):inR m.rings[g].head:=hin _ (List.getElem_mem h)

set_option maxHeartbeats 4000000 in
theorem c_One13 (m:Machine) (r g:Int) (h:okM m) (hin:∀ r∈m.rings,inR r.head):PCall tab 95 [.agg (encMachine false m),.int .i64 r,.int .i64 g] (.tup [.agg (encMachine false (oneM m r g).1),.bool (oneM m r g).2.1,.int .i64 (oneM m r g).2.2]):=by
 by_cases hall:thereP m r g
 ·rw[oneM_yes hall]
  have hA:=at_of h hall
  have hE:=entry_of hA
  have hY:=entry_is hA
  have hall':=hall
  obtain⟨h1,hr,hg⟩:=hall
  have hi:=hA.hr
  have hj:=hA.hg
  have hk:=hA.hc
  have hr0:=hr.1
  have hr1:=hr.2
  have hg0:=hg.1
  have hg1:=hg.2
  have hg2:g<m.replicas[r.toNat].cursors.length:=by omega
  have z0:0<m.replicas.length:=by omega
  have z1:0<m.replicas[r.toNat].cursors.length:=by omega
  have z2:0<m.rings.length:=by omega
  have hrn:¬ m.config.replicas=0:=by have:=h1.1.2.1;omega
  have gj:=List.getElem?_eq_getElem hj
  have gi:=List.getElem?_eq_getElem hi
  have gk:=List.getElem?_eq_getElem hk
  refine PCall.ofZ (F:=m95) rfl rfl rfl ?_
  simp -implicitDefEqProofs[m95]
  refine CallT.bool2 (by simp) (c_there13 m r g 0 h hin) (fun hb=>?_) (fun hb=>absurd ⟨hall',by have:=h1.1.2.2.2.1;simp only[thread0P];omega⟩ hb)
  simp -implicitDefEqProofs
  refine CallT.pure (c_Copy13 m h) (by simp) (ok_mach _) ?_
  simp -implicitDefEqProofs[hr0,hr1,hi,hj,hk,hg0,hg1,hg2,z0,z1,z2,gi,gj,gk]
  refine CallT.pure (c_Entry1 m.rings[g.toNat] (m.replicas[r.toNat].cursors[g.toNat]) hA.ol (head_in hin hj)) (by simp[gj]) (ok_slot1 _ _) ?_
  rw[← hE]
  generalize entryAt m r.toNat g.toNat=en at hY ⊢
  obtain⟨s,e⟩:=en
  simp -implicitDefEqProofs
  by_cases he:e=0
  ·subst he
   obtain⟨hs,ht0,ht1,hcu⟩:=hY rfl
   dsimp only at hs ht0 ht1
   have htl:s.thread.toNat<m.threads.length:=by have:=h1.2.1.2.2.1;omega
   have ht2:s.thread<m.threads.length:=by omega
   have z3:0<m.threads.length:=by omega
   have gt:=List.getElem?_eq_getElem htl
   have hcur:=hA.cur
   have w1:IntKind.wrap .i64 (m.replicas[r.toNat].cursors[g.toNat]+1)=m.replicas[r.toNat].cursors[g.toNat]+1:=wrap_of (by omega) (by omega)
   simp -implicitDefEqProofs[hr0,hr1,hi,hj,hk,hg0,hg1,hg2,z0,z1,z2,gi,gj,gk]
   refine CallT.pure (c_Apply1 m.config.object m.replicas[r.toNat].state s.op 1800 hA.os) (by simp[gi]) (ok_st3 _ _ _) ?_
   rw[applyM_yes hA.st hs.1.1,nextM_of hA s]
   generalize turnS m.config.object m.replicas[r.toNat].state s.op=tr
   obtain⟨st2,an⟩:=tr
   by_cases hown:s.thread.tmod m.config.replicas=r
   ·have hown2:s.thread.tmod m.config.replicas=(r.toNat:Int):=by omega
    rw[if_pos hown2,modify_of gt]
    simp -implicitDefEqProofs[hr0,hr1,hi,hj,hk,hg0,hg1,hg2,z0,z1,z2,gi,gj,gk,w1,hrn,hown,htl,ht2,ht0,z3,gt,unzT,unzP,okT,okP]
    refine⟨⟨okC_set (okC_rep _ _) ?_,okC_set (okC_thr _ _) ?_⟩, ?_, ?_⟩
    ·simp[okC_ints 5,okC_iset 5]
    ·simp[okC_ints 6,okC,flatV]
    ·rw[unz_rep,unz_intF];simp only[encReplica,List.map_set]
    ·rw[unz_thr]
   ·have hown2:¬ s.thread.tmod m.config.replicas=(r.toNat:Int):=by omega
    rw[if_neg hown2]
    simp -implicitDefEqProofs[hr0,hr1,hi,hj,hk,hg0,hg1,hg2,z0,z1,z2,gi,gj,gk,w1,hrn,hown,unzT,unzP,okT,okP]
    refine⟨okC_set (okC_rep _ _) ?_, ?_⟩
    ·simp[okC_ints 5,okC_iset 5]
    ·rw[unz_rep,unz_intF];simp only[encReplica,List.map_set]
  ·simp -implicitDefEqProofs[he,unzT,unzP,okT,okP]
 ·rw[oneM_no hall]
  refine PCall.ofZ (F:=m95) rfl rfl rfl ?_
  simp -implicitDefEqProofs[m95]
  refine CallT.bool2 (by simp) (c_there13 m r g 0 h hin) (fun hb=>absurd hb.1 hall) (fun hb=>?_)
  simp -implicitDefEqProofs[unzT,unzP,okT,okP]

end Go.Ab

namespace Go.Ab

def saysYes:Option (AV × AH)→Bool
 | some (.bool true,_)=>true
 | _=>false

theorem saysYes_of {x:Option (AV × AH)} (h:saysYes x=true):∃ H,x=some (.bool true,H):=by
 unfold saysYes at h
 split at h
 ·exact⟨_,rfl⟩
 ·cases h

theorem PCall.closed {M:FuncId→Option MFunc} {k:FuncId} {F:MFunc} (n:Nat) (hM:M k=some F) (hp:F.pure=true) (hb:F.both=false) (h:saysYes (evalF (eval M n) n F [] { objs:=.nil,next:=0,lo:=0 })=true):PCall M k [] (.bool true):=by
 intro args H hw ht
 obtain⟨H1,h1⟩:=saysYes_of h
 refine⟨.bool true,H,⟨n+1, ?_⟩,hw,Nat.le_refl _,rfl,fun _ _=>rfl,[],   .one (.cell (by simp) (.flat rfl .nil)),by simp,by simp⟩
 simp only[eval,hM,hp,hb,if_true,pureB,Bool.false_eq_true,if_false]
 unfold pureC
 rw[ht]
 simp only[h1]
 rfl

end Go.Ab

namespace Go.Ab

mutual
/-- the cells of the memory behind a value that is all its own, with the numbers of the arrays -/
def ownV (H : AH) : Nat → AV → Option (AV × List Nat)
  | 0, _ => none
  | d + 1, v => match v with
    | .bool b => some (.bool b, [])
    | .int k n => some (.int k n, [])
    | .str s => some (.str s, [])
    | .nils => some (.vs [] true, [])
    | .vs [] z => some (.vs [] z, [])
    | .sl b o sz len cap ex => if len = 0 then some (.vs [] (ex && cap == 0), []) else if cap = len then
        match H.read b o (len * sz) with
        | some cs => match ownVs H d cs with
          | some (ts, S) => some (.vs (rows sz ts len) true, b :: S)
          | none => none
        | none => none
      else none
    | _ => none
def ownVs (H : AH) : Nat → List AV → Option (List AV × List Nat)
  | 0, _ => none
  | _ + 1, [] => some ([], [])
  | d + 1, v :: vs => match ownV H d v, ownVs H d vs with
    | some (t, S1), some (ts, S2) => some (t :: ts, S1 ++ S2)
    | _, _ => none
end

def lfV (H:AH) (d:Nat) (v:AV):Option (AV × List Nat):=
 match v with
 | .agg cs=>(ownVs H d cs).map fun x=>(.agg x.1,x.2)
 | v=>ownV H d v

def lfVs (H:AH) (d:Nat):List AV→Option (List AV × List Nat)
 | []=>some ([],[])
 | v::vs=>match lfV H d v,lfVs H d vs with
  | some (t,S1),some (ts,S2)=>some (t::ts,S1++S2)
  | _,_=>none

def runTree (d:Nat):Option (AV × AH)→Option AV
 | some (.tup vs,H)=>match lfVs H d vs with
  | some (ts,S)=>if S.Nodup∧okT (.tup ts)=true then some (.tup ts) else none
  | none=>none
 | some (v,H)=>match lfV H d v with
  | some (t,S)=>if S.Nodup∧okT t=true then some t else none
  | none=>none
 | none=>none

theorem rows_back {sz:Nat}:∀ (n:Nat) (ts:List AV),ts.length=n*sz→(rows sz ts n).flatten=ts:=by
 intro n
 induction n with
 | zero=>intro ts h;simp at h;subst h;rfl
 | succ n ih=>
  intro ts h
  have hle:sz≤ts.length:=by rw[h,Nat.succ_mul];omega
  have e:rows sz ts (n+1)=ts.take sz::rows sz (ts.drop sz) n:=by
   unfold rows
   rw[List.range_succ_eq_map,List.map_cons,List.map_map]
   simp only[Nat.zero_mul,List.drop_zero,List.cons.injEq,true_and]
   apply List.map_congr_left
   intro i _
   simp only[Function.comp_apply,List.drop_drop,Nat.succ_mul]
   rw[Nat.add_comm]
  rw[e,List.flatten_cons,ih _ (by rw[List.length_drop,h,Nat.succ_mul];omega),List.take_append_drop]

theorem rows_each {sz:Nat} {n:Nat} {ts:List AV} (h:ts.length=n*sz):∀ row∈rows sz ts n,row.length=sz:=by
 intro row hr
 unfold rows at hr
 obtain⟨i,hi,rfl⟩:=List.mem_map.1 hr
 have hi':=List.mem_range.1 hi
 have:(i+1)*sz≤n*sz:=Nat.mul_le_mul_right _ hi'
 rw[Nat.succ_mul] at this
 rw[List.length_take,List.length_drop]
 omega

mutual
theorem ownV_own {H:AH}:∀ (d:Nat) (v:AV) {t:AV} {S:List Nat},ownV H d v=some (t,S)→Own H [v] [t] S
 | 0,_,_,_,h=>by simp[ownV] at h
 | d+1,v,t,S,h=>by
  unfold ownV at h
  split at h
  ·cases h;exact .flat rfl .nil
  ·cases h;exact .flat rfl .nil
  ·cases h;exact .flat rfl .nil
  ·cases h;exact .emp rfl (fun _=>rfl) .nil
  ·cases h;exact .emp rfl (fun e=>by subst e;rfl) .nil
  ·rename_i b o sz len cap ex
   split at h
   ·rename_i h0
    subst h0
    cases h
    refine .emp rfl (fun e=>?_) .nil
    simp only[Bool.and_eq_true,beq_iff_eq] at e
    obtain⟨rfl,rfl⟩:=e
    rfl
   ·rename_i h0
    split at h
    ·rename_i hc
     subst hc
     split at h
     ·rename_i cs hr
      split at h
      ·rename_i ts S1 h1
       cases h
       have ho:=ownVs_own d cs h1
       have hl:ts.length=cap*sz:=by
        rw[← ho.length]
        unfold AH.read at hr
        split at hr
        ·unfold slice at hr
         split at hr
         ·cases hr;rw[List.length_take,List.length_drop];omega
         ·cases hr
        ·cases hr
       have hlen:(rows sz ts cap).length=cap:=by simp[rows]
       have:=Own.sl (H:=H) (b:=b) (o:=o) (sz:=sz) (ex:=ex) (z:=true) (rows:=rows sz ts cap) (cs:=cs) (S1:=S1) (S2:=[]) (hs:=[]) (ts:=[])
        (fun e=>by rw[e] at hlen;simp at hlen;omega) (by rw[hlen];exact hr) (rows_each hl) (by rw[rows_back _ _ hl];exact ho) .nil
       rw[hlen] at this
       simpa using this
      ·cases h
     ·cases h
    ·cases h
  ·cases h
theorem ownVs_own {H:AH}:∀ (d:Nat) (vs:List AV) {ts:List AV} {S:List Nat},ownVs H d vs=some (ts,S)→Own H vs ts S
 | 0,_,_,_,h=>by simp[ownVs] at h
 | d+1,[],ts,S,h=>by simp only[ownVs,Option.some.injEq,Prod.mk.injEq] at h;obtain⟨rfl,rfl⟩:=h;exact .nil
 | d+1,v::vs,ts,S,h=>by
  simp only[ownVs] at h
  split at h
  ·rename_i t S1 ts2 S2 h1 h2
   cases h
   exact (ownV_own d v h1).append (ownVs_own d vs h2)
  ·cases h
end

theorem ownV_tup {H:AH} {d:Nat} {v t:AV} {S:List Nat} (h:ownV H d v=some (t,S)):∀ x,t≠.tup x:=by
 intro x
 cases d with
 | zero=>simp[ownV] at h
 | succ d=>
  unfold ownV at h
  split at h
  all_goals first
   | (cases h;done)
   | (cases h;simp;done)
   | skip
  split at h
  ·cases h;simp
  ·split at h
   ·split at h
    ·split at h
     ·cases h;simp
     ·cases h
    ·cases h
   ·cases h

theorem lfV_lf {H:AH} {d:Nat} {v t:AV} {S:List Nat} (h:lfV H d v=some (t,S)):Lf H v t S:=by
 unfold lfV at h
 split at h
 ·obtain⟨⟨ts,S1⟩,h1,h2⟩:=map_some h
  cases h2
  exact .agg (ownVs_own d _ h1)
 ·exact .cell (ownV_tup h) (ownV_own d _ h)

theorem lfVs_lf {H:AH} {d:Nat}:∀ {vs ts:List AV} {S:List Nat},lfVs H d vs=some (ts,S)→LfL H vs ts S
 | [],ts,S,h=>by simp only[lfVs,Option.some.injEq,Prod.mk.injEq] at h;obtain⟨rfl,rfl⟩:=h;exact .nil
 | v::vs,ts,S,h=>by
  simp only[lfVs] at h
  split at h
  ·rename_i t S1 ts2 S2 h1 h2
   cases h
   exact .cons (lfV_lf h1) (lfVs_lf h2)
  ·cases h

theorem runTree_lf {d:Nat} {x:Option (AV × AH)} {tr:AV} (h:runTree d x=some tr):∃ r H S,x=some (r,H)∧S.Nodup∧okT tr=true∧LfT H r tr S:=by
 unfold runTree at h
 split at h
 ·rename_i vs H
  split at h
  ·rename_i ts S h1
   split at h
   ·rename_i hh
    cases h
    exact⟨_,_,S,rfl,hh.1,hh.2,.tup (lfVs_lf h1)⟩
   ·cases h
  ·cases h
 ·rename_i v H _
  split at h
  ·rename_i t S h1
   split at h
   ·rename_i hh
    cases h
    exact⟨_,_,S,rfl,hh.1,hh.2,.one (lfV_lf h1)⟩
   ·cases h
  ·cases h
 ·cases h

theorem PCall.run {M:FuncId→Option MFunc} {k:FuncId} {F:MFunc} {ts:List AV} {tr:AV} (n d:Nat) (hM:M k=some F) (hp:F.pure=true) (hb:F.both=false) (h:runTree d (evalF (eval M n) n F ts { objs:=.nil,next:=0,lo:=0 })=some tr):PCall M k ts tr:=by
 intro args H hw ht
 obtain⟨r1,H1,S,k1',k2,hok,k3⟩:=runTree_lf h
 obtain⟨r,u,H',m1,m2,S',m3,m4⟩:=lift_LfT k3 hok k2 hw
 have hpc:pureC (Ab.evalF (eval M n) n F) args H=some (r,H'):=by
  simp only[pureC,ht,k1',m1,Option.map_some]
 have hlo:H'.lo=H.lo:=by
  obtain⟨_,_,_,_,_,_,h3⟩:=pureC_spec hpc
  exact (lift_G _ _ _ _ _ _ _ _ h3 hw).2
 refine⟨r,H',⟨n+1, ?_⟩,m2.wh,m2.next,hlo,m2.old,S',m3,m4⟩
 simp only[eval,hM,hp,hb,if_true,pureB,Bool.false_eq_true,if_false]
 exact hpc

end Go.Ab

namespace Go.Ab

theorem emod_toNat (x:Int) (a b:Nat) (ha:0<a) (hb:0<b) (hd:b ∣ a):(x % (a:Int)).toNat % b=(x % (b:Int)).toNat:=by
 have h1:0≤x % (a:Int):=Int.emod_nonneg _ (by omega)
 have h2:0≤x % (b:Int):=Int.emod_nonneg _ (by omega)
 have h3:(((x % (a:Int)).toNat % b:Nat):Int)=x % (b:Int):=by
  rw[Int.natCast_emod,Int.toNat_of_nonneg h1]
  exact Int.emod_emod_of_dvd x (Int.natCast_dvd_natCast.2 hd)
 omega

theorem and_lit (k:Nat) (hk:k≤62) (x:Int):abin .and (.int .i64 x) (.int .i64 ((2 ^ k - 1:Nat):Int))=some (.int .i64 (x % ((2 ^ k:Nat):Int))):=by
 have hp:(2:Nat) ^ k≤2 ^ 62:=Nat.pow_le_pow_right (by omega) hk
 have hpos:0<(2:Nat) ^ k:=Nat.pow_pos (by omega)
 have e2:(BitVec.ofInt IntKind.i64.bits x &&& BitVec.ofInt IntKind.i64.bits (((2 ^ k - 1:Nat):Int))).toNat=(x % ((2 ^ k:Nat):Int)).toNat:=by
  rw[BitVec.toNat_and,BitVec.toNat_ofInt,BitVec.toNat_ofInt]
  have hb:IntKind.i64.bits=64:=rfl
  rw[hb]
  have e3:((((2 ^ k - 1:Nat):Int)) % ((2 ^ 64:Nat):Int)).toNat=2 ^ k - 1:=by omega
  rw[e3,Nat.and_two_pow_sub_one_eq_mod]
  exact emod_toNat x (2 ^ 64) (2 ^ k) (by omega) hpos (Nat.pow_dvd_pow 2 (by omega))
 have h1:0≤x % ((2 ^ k:Nat):Int):=Int.emod_nonneg _ (by omega)
 have h2:x % ((2 ^ k:Nat):Int)<((2 ^ k:Nat):Int):=Int.emod_lt_of_pos _ (by omega)
 simp only[abin,ne_eq,not_true_eq_false,if_false]
 rw[e2,Int.toNat_of_nonneg h1,wrap_of (by omega) (by omega)]

theorem and_1 (x:Int):abin .and (.int .i64 x) (.int .i64 1)=some (.int .i64 (x % 2)):=and_lit 1 (by omega) x
theorem and_255 (x:Int):abin .and (.int .i64 x) (.int .i64 255)=some (.int .i64 (x % 256)):=and_lit 8 (by omega) x
theorem mask_1 (x:Int):IntKind.wrap .i64 (((x % 2 ^ IntKind.i64.bits).toNat &&& 1 % 2 ^ IntKind.i64.bits:Nat):Int)=x % 2:=by have:=and_1 x;simpa using this
theorem mask_255 (x:Int):IntKind.wrap .i64 (((x % 2 ^ IntKind.i64.bits).toNat &&& 255 % 2 ^ IntKind.i64.bits:Nat):Int)=x % 256:=by have:=and_255 x;simpa using this
end Go.Ab

namespace Go.Ab

end Go.Ab

namespace Go.Ab

theorem okM_no18:okM noMachine:=by unfold okM lenOK;simp
theorem ok_mach2F (m:Machine) (b:Bool) (n:Int):okT (.tup [.agg (encMachine false m),.bool b,.int .i64 n])=true:=by simp[okT,okP,okC,List.all_map,flatV]

end Go.Ab

namespace Go.Ab

theorem okM_setThread {m:Machine} (h:okM m) (t:Nat) {f:Thread→Thread} (hf:∀ x,okTh x→okTh (f x)):okM (setThread m t f):=by
 obtain⟨h1,h2,⟨l3,o3⟩,h4⟩:=h
 refine⟨h1,h2,⟨by unfold setThread lenOK at *;simpa using l3,fun x hx=>?_⟩,h4⟩
 unfold setThread at hx
 obtain⟨i,hi,rfl⟩:=List.getElem_of_mem hx
 have hi':i<m.threads.length:=by simpa using hi
 have ho:=o3 _ (List.getElem_mem hi')
 simp only[List.getElem_modify]
 split
 ·exact hf _ ho
 ·exact ho
theorem okM_step {m:Machine} (h:okM m) (t s:Int):okM (stepM m t s):=okM_setThread h _ fun _ hx=>hx

theorem c_stepped (m:Machine) (t s:Int) (h:okM m) (h0:0≤t) (h1:t<m.threads.length):PCall tab 68 [.agg (encMachine false m),.int .i64 t,.int .i64 s] (.agg (encMachine true (stepM m t s))):=by
 have hi:t.toNat<m.threads.length:=by omega
 have z0:0<m.threads.length:=by omega
 rw[stepM,setThread_of hi]
 refine PCall.of (F:=m68) rfl rfl rfl (ok_mach _) ?_
 simp -implicitDefEqProofs[m68]
 refine CallT.pure (c_Copy13 m h) (by simp) (ok_mach _) ?_
 simp -implicitDefEqProofs[h0,h1,hi,z0]
 all_goals simp[encThread]

theorem ok_machF (m:Machine):okT (.agg (encMachine false m))=true:=by simp[okT,okP,okC,List.all_map,flatV]

theorem c_replaying (m:Machine) (r g:Int) (h:okM m) (hin:∀ r∈m.rings,inR r.head):PCall tab 70 [.agg (encMachine false m),.int .i64 r,.int .i64 g] (.agg (encMachine false (oneM m r g).1)):=by
 have hOne:=c_One13 m r g h hin
 generalize oneM m r g=A at hOne ⊢
 refine PCall.ofZ (F:=m70) rfl rfl rfl ?_
 simp -implicitDefEqProofs[m70]
 refine CallT.pure hOne (by simp) (ok_mach2F _ _ _) ?_
 simp -implicitDefEqProofs[unzT,unzP,okT,okP]

end Go.Ab

namespace Go.Ab

@[reducible] def idle0:Thread:=⟨0,⟨0,0,0⟩,0,0,[],0,false,false,0,[]⟩
def doneM (m:Machine) (t:Int):Machine:={ m with threads:=m.threads.modify t.toNat fun _=>idle0,history:=m.history++[⟨t,false,(thrAt m t.toNat).op,(thrAt m t.toNat).answer⟩] }
def finishM (m:Machine) (t e:Int):Machine × Int:=if 64≤m.history.length then (noMachine,e) else (doneM m t,0)
def tellM (m:Machine) (t a:Int):Machine:=setThread m t.toNat fun y=>{ y with answer:=a }
@[reducible] def lookP (m:Machine) (t:Int):Prop:=atP m t∧(thrAt m t.toNat).op.code=2
def lookX (m:Machine) (t:Int) (x:Thread) (r:Ring) (c lk:Int) (s:Int):Machine × Int:=
 if s=11 then (seenM m t r.tail 12,0)
 else if s=12 then (stepM m t (if x.seen≤c then 16 else 13),0)
 else if s=13 then (if lk=0 then stepM (setLock m (ownOf m t).toNat x.log.toNat (t+1)) t 14 else stepM m t 12,0)
 else if s=14 then (if x.seen≤c then stepM m t 15 else (oneM m (ownOf m t) x.log).1,0)
 else if s=15 then (stepM (setLock m (ownOf m t).toNat x.log.toNat 0) t 12,0)
 else if s=16 then finishM (tellM m t (turnS m.config.object (stAt m (ownOf m t).toNat) x.op).2) t 2100
 else (noMachine,2100)
def ownCur (m:Machine) (t:Int):Int:=curAt m (ownOf m t).toNat (thrAt m t.toNat).log.toNat
def ownLock (m:Machine) (t:Int):Int:=lockAt m (ownOf m t).toNat (thrAt m t.toNat).log.toNat
def ownRing (m:Machine) (t:Int):Ring:=ringAt m (thrAt m t.toNat).log.toNat
def lookM (m:Machine) (t:Int):Machine × Int:=if lookP m t then lookX m t (thrAt m t.toNat) (ownRing m t) (ownCur m t) (ownLock m t) (thrAt m t.toNat).step else (noMachine,2100)
theorem lookM_yes {m:Machine} {t:Int} (h:lookP m t):lookM m t=lookX m t (thrAt m t.toNat) (ownRing m t) (ownCur m t) (ownLock m t) (thrAt m t.toNat).step:=if_pos h
theorem lookM_no {m:Machine} {t:Int} (h:¬ lookP m t):lookM m t=(noMachine,2100):=if_neg h

@[reducible] def updP (m:Machine) (t:Int):Prop:=atP m t∧updates (thrAt m t.toNat).op
def updX (m:Machine) (t:Int) (x:Thread) (c lk:Int) (s:Int):Machine × Int:=
 if s=1 then (stepM (postM m t).1 t 2,0)
 else if s=2 then (if lk=0 then stepM (setLock m (ownOf m t).toNat x.log.toNat (t+1)) t 3 else stepM m t 10,0)
 else if s=3 then collM m t
 else if s=4∨s=5∨s=6∨s=7 then (if (claimM m t).2=0 then claimM m t else (noMachine,2000))
 else if s=8 then (if x.seen+x.batch.length≤c then stepM m t 9 else (oneM m (ownOf m t) x.log).1,0)
 else if s=9 then (setThread (setLock m (ownOf m t).toNat x.log.toNat 0) t.toNat fun y=>{ y with batch:=[],at_:=0,step:=10 },0)
 else if s=10 then (if x.ready=true then finishM m t 2000 else (stepM m t 2,0))
 else (noMachine,2000)
def updM (m:Machine) (t:Int):Machine × Int:=if updP m t then updX m t (thrAt m t.toNat) (ownCur m t) (ownLock m t) (thrAt m t.toNat).step else (noMachine,2000)
theorem updM_yes {m:Machine} {t:Int} (h:updP m t):updM m t=updX m t (thrAt m t.toNat) (ownCur m t) (ownLock m t) (thrAt m t.toNat).step:=if_pos h
theorem updM_no {m:Machine} {t:Int} (h:¬ updP m t):updM m t=(noMachine,2000):=if_neg h

end Go.Ab

namespace Go.Ab

end Go.Ab

namespace Go.Ab

theorem okM_lock {m:Machine} (h:okM m) (r g:Nat) (x:Int):okM (setLock m r g x):=by
 obtain⟨h1,⟨l2,o2⟩,h3,h4⟩:=h
 refine⟨h1,⟨by unfold setLock lenOK at *;simpa using l2,fun x hx=>?_⟩,h3,h4⟩
 unfold setLock at hx
 obtain⟨i,hi,rfl⟩:=List.getElem_of_mem hx
 have hi':i<m.replicas.length:=by simpa using hi
 have ho:=o2 _ (List.getElem_mem hi')
 simp only[List.getElem_modify]
 split
 ·exact⟨ho.1,ho.2.1,by have:=ho.2.2;unfold lenOK at *;simpa using this⟩
 ·exact ho
theorem may_setThread {m:Machine} (h:machineMay m) (t:Nat) {f:Thread→Thread} (hf:∀ x,atIn m.config x→atIn m.config (f x)):machineMay (setThread m t f):=by
 obtain⟨c,n,r,p,th,e⟩:=h
 refine⟨c,by simp only[macNums,setThread,List.length_modify] at *;exact n,r,p,fun x hx=>?_,e⟩
 unfold setThread at hx
 obtain⟨i,hi,rfl⟩:=List.getElem_of_mem hx
 have hi':i<m.threads.length:=by simpa using hi
 have ho:=th _ (List.getElem_mem hi')
 simp only[List.getElem_modify]
 split
 ·exact hf _ ho
 ·exact ho
theorem may_step {m:Machine} (h:machineMay m) (t:Int) {s:Int} (h0:0≤s) (h1:s≤19):machineMay (stepM m t s):=may_setThread h _ fun _ hx=>⟨⟨h0,h1,hx.1.2.2⟩,hx.2⟩

end Go.Ab

namespace Go.Ab

theorem thrAt_of {m:Machine} {t:Nat} (h:t<m.threads.length):thrAt m t=m.threads[t]:=by
 have e1:=List.getElem?_eq_getElem h
 simp only[thrAt,e1,Option.getD_some]

theorem at_thr {m:Machine} {t:Int} (h:atP m t):∃ hi:t.toNat<m.threads.length,0≤t∧t<m.threads.length∧isLog m m.threads[t.toNat].log∧isReplica m (ownOf m t):=by
 have ht:=own_there h
 have hn:=h.1.2.1
 simp only[macNums] at hn
 have hi:t.toNat<m.threads.length:=by have:=h.2.1;have:=h.2.2;omega
 refine⟨hi,h.2.1,by have:=h.2.2;omega, ?_,ht.2.1⟩
 have:=ht.2.2
 unfold logOfT at this
 rw[List.getElem?_eq_getElem hi] at this
 exact this

end Go.Ab

namespace Go.Ab

theorem PCall.unz {M:FuncId→Option MFunc} {k:FuncId} {ts:List AV} {tr:AV} (h:PCall M k ts tr) (hok:okT tr=true):PCall M k ts (unzT tr):=fun args H hw ht=>by
 obtain⟨r,H',h1,h2,h3,h4,h5,S',h6,h7⟩:=h args H hw ht
 exact⟨r,H',h1,h2,h3,h4,h5,S',h6.unz hok,h7⟩
theorem ok_mach1F (m:Machine) (n:Int):okT (.tup [.agg (encMachine false m),.int .i64 n])=true:=by simp[okT,okP,okC,List.all_map,flatV]
theorem unz_mach (m:Machine):unzT (.agg (encMachine true m))=.agg (encMachine false m):=by simp[unzT,unzP,okT,okP]
theorem unz_mach1 (m:Machine) (n:Int):unzT (.tup [.agg (encMachine true m),.int .i64 n])=.tup [.agg (encMachine false m),.int .i64 n]:=by simp[unzT,unzP,okT,okP]
theorem PCall.machZ {M:FuncId→Option MFunc} {k:FuncId} {ts:List AV} {m:Machine} (h:PCall M k ts (.agg (encMachine true m))):PCall M k ts (.agg (encMachine false m)):=by rw[← unz_mach];exact h.unz (ok_mach m)
theorem PCall.mach1Z {M:FuncId→Option MFunc} {k:FuncId} {ts:List AV} {m:Machine} {n:Int} (h:PCall M k ts (.tup [.agg (encMachine true m),.int .i64 n])):PCall M k ts (.tup [.agg (encMachine false m),.int .i64 n]):=by rw[← unz_mach1];exact h.unz (ok_mach1 m n)

theorem unz_ringF (z:Bool):(fun row=>List.map (unz 7) row) ∘ encRing z=encRing false:=by
 funext p
 simp[unz_slF7]
theorem okC_ring (rs:List Ring) (z:Bool):∀ x∈rs.map (encRing z),∀ y∈x,okC 7 y=true:=fun x hx=>by
 obtain⟨p,_,rfl⟩:=List.mem_map.1 hx
 simp[okC,flatV]

theorem sT (z:Bool) (l:List Thread) (i:Nat) (a b c d e f:Int) (g:List Int) (k:Int) (p q:Bool) (r:Int) (s:List Int) :
  (l.map (encThread z)).set i [.int .i64 a,.int .i64 b,.int .i64 c,.int .i64 d,.int .i64 e,.int .i64 f,.vs (g.map encInt) z,.int .i64 k,.bool p,.bool q,.int .i64 r,.vs (s.map encInt) z]=(l.set i ⟨a,⟨b,c,d⟩,e,f,g,k,p,q,r,s⟩).map (encThread z):=by rw[List.map_set]
theorem sR (z:Bool) (l:List Ring) (i:Nat) (a b c:Int) (g:List Slot) :
  (l.map (encRing z)).set i [.int .i64 a,.int .i64 b,.int .i64 c,.vs (g.map encSlot) z]=(l.set i ⟨a,b,c,g⟩).map (encRing z):=by rw[List.map_set]
theorem sP (z:Bool) (l:List Replica) (i:Nat) (a b c d e f:List Int) :
  (l.map (encReplica z)).set i [.vs (a.map encInt) z,.vs (b.map encInt) z,.vs (c.map encInt) z,.vs (d.map encInt) z,.vs (e.map encInt) z,.vs (f.map encInt) z]=(l.set i ⟨⟨a,b,c,d⟩,e,f⟩).map (encReplica z):=by rw[List.map_set]
theorem sI (l:List Int) (i:Nat) (a:Int):(l.map encInt).set i [.int .i64 a]=(l.set i a).map encInt:=by rw[List.map_set]
theorem ring_last (rs:List Ring) (i:Nat) (r0 R:Ring):List.map (fun row=>List.map (unz 7) row) ((List.map (encRing true) (rs.set i r0)).set i [.int .i64 R.head,.int .i64 R.tail,.int .i64 R.fence,.vs (R.slots.map encSlot) false])=List.map (encRing false) (rs.set i R):=by
 simp[unz_ringF,unz_slF7]

end Go.Ab

namespace Go.Ab

theorem freeToM_yes {r:Ring} {a:Int} (h:ringOK r) (h1:r.head≤a) (h2:a≤r.tail):freeToM r a=({ r with head:=a },0):=if_pos ⟨h,h1,h2⟩
theorem cur_in {m:Machine} {r g:Int} (ht:thereP m r g) (h:okM m):(m.rings[g.toNat]'(at_of h ht).hg).head≤(m.replicas[r.toNat]'(at_of h ht).hr).cursors[g.toNat]'(at_of h ht).hc∧(m.replicas[r.toNat]'(at_of h ht).hr).cursors[g.toNat]'(at_of h ht).hc≤(m.rings[g.toNat]'(at_of h ht).hg).tail:=by
 have hA:=at_of h ht
 obtain⟨hi,hpi,hpl,hpc⟩:=replica_there ht.1 ht.2.1
 have hcu:=hpi.2.2.2.2 _ hA.hc
 have hg:=hA.hg
 rw[List.getElem?_eq_getElem hg] at hcu
 simpa only[cursorIn,decide_eq_true_eq] using hcu

set_option maxHeartbeats 4000000 in
theorem c_room (m:Machine) (t:Int) (h:okM m) (hin:∀ r∈m.rings,inR r.head) (hat:atP m t):PCall tab 102 [.agg (encMachine false m),.int .i64 t] (.agg (encMachine false (spaceM m t))):=by
 obtain⟨hi,ht0,ht1,hlog,hown⟩:=at_thr hat
 have h1:=hat.1
 have hc:=h1.1
 have hn:=h1.2.1
 simp only[macNums] at hn
 have hrn:¬ m.config.replicas=0:=by have:=hc.2.1;omega
 have z0:0<m.threads.length:=by omega
 have gt:=List.getElem?_eq_getElem hi
 have et:=thrAt_of hi
 have ht:thereP m 0 m.threads[t.toNat].log:=⟨h1,⟨by omega,by have:=hc.2.1;omega⟩,hlog⟩
 have hA:=at_of h ht
 have hcu:=cur_in ht h
 have er:=ringAt_of hA.hg
 have ec0:=curAt_of hA
 have hS:=c_stepped m t 4 h ht0 ht1
 rw[stepM,setThread_of hi] at hS
 unfold spaceM
 rw[et]
 generalize hlg:m.threads[t.toNat].log=log at *
 have hl0:=hlog.1
 have hl1:=hlog.2
 have hr0:=hA.hr
 have hk0:=hA.hc
 have hj:=hA.hg
 simp only[Int.toNat_zero] at hr0 hk0 ec0 hcu
 have hrep:=c_replaying m 0 log h hin
 have z3:0<m.rings.length:=by omega
 have z4:(0:Int)<m.replicas.length:=by omega
 have gr0:=List.getElem?_eq_getElem hr0
 have gk0:=List.getElem?_eq_getElem hk0
 have gj:=List.getElem?_eq_getElem hj
 have hk1:log<m.replicas[0].cursors.length:=by omega
 have hF:∀ a,m.rings[log.toNat].head≤a→a≤m.rings[log.toNat].tail→PCall tab 133 [.agg (encRing false m.rings[log.toNat]),.int .i64 a] (.tup [.agg (encRing false { m.rings[log.toNat] with head:=a }),.int .i64 0]):=fun a h1 h2=>by
  have:=c_FreeTo1 m.rings[log.toNat] a hA.ol (head_in hin hj)
  rwa [freeToM_yes hA.ring.1 h1 h2] at this
 obtain⟨_,_,hpl0,_⟩:=replica_there h1 ht.2.1
 have hlk0:log.toNat<m.replicas[0].locks.length:=by have:=hpl0;simp only[Int.toNat_zero] at this;omega
 have hlk0':log<m.replicas[0].locks.length:=by omega
 have glk0:=List.getElem?_eq_getElem hlk0
 have elk0:lockAt m 0 log.toNat=m.replicas[0].locks[log.toNat]:=by simp[lockAt,hr0,hlk0]
 have hL:log.toNat<m.rings.length:=hj
 by_cases h2:m.config.replicas=2
 ·have ht':thereP m 1 log:=⟨h1,⟨by omega,by omega⟩,hlog⟩
  have hB:=at_of h ht'
  have hcv:=cur_in ht' h
  have ec1:=curAt_of hB
  have hr1:=hB.hr
  have hm1:=hB.hc
  obtain⟨_,_,hpl1,_⟩:=replica_there h1 ht'.2.1
  simp only[show (1:Int).toNat=1 from rfl] at hr1 hm1 ec1 hcv hpl1
  have gr1:=List.getElem?_eq_getElem hr1
  have gk1:=List.getElem?_eq_getElem hm1
  have hm2:log<m.replicas[1].cursors.length:=by omega
  have z5:(1:Int)<m.replicas.length:=by omega
  have hlk1:log.toNat<m.replicas[1].locks.length:=by omega
  have hlk1':log<m.replicas[1].locks.length:=by omega
  have glk1:=List.getElem?_eq_getElem hlk1
  have elk1:lockAt m 1 log.toNat=m.replicas[1].locks[log.toNat]:=by simp[lockAt,hr1,hlk1]
  have hrep1:=c_replaying m 1 log h hin
  have d1:(1:Int)<m.config.replicas:=by omega
  have d2:¬ (2:Int)<m.config.replicas:=by omega
  by_cases hlt:m.replicas[1].cursors[log.toNat]<m.replicas[0].cursors[log.toNat]
  ·rw[leastR_two h2 (by rw[ec0,ec1];exact hlt),ec1]
   refine PCall.ofZ (F:=m102) rfl rfl rfl ?_
   have hS0:=And.intro hl0 (And.intro hl1 (And.intro hr0 (And.intro hk0 (And.intro hk1 (And.intro z3 (And.intro z4 (And.intro gr0 (And.intro gk0 (gj)))))))))
   have hS1:=And.intro d1 (And.intro d2 (And.intro hr1 (And.intro hm1 (And.intro hm2 (And.intro z5 (And.intro gr1 (gk1)))))))
   have hS2:=And.intro ht0 (And.intro ht1 (And.intro hi (And.intro z0 (gt))))
   simp -implicitDefEqProofs[m102,hS2,hlg,hS0,hS1]
   refine WCT.unroll ?_
   simp -implicitDefEqProofs[hlt,hlg,hS0,hS1]
   refine WCT.unroll ?_
   simp -implicitDefEqProofs[d1,d2]
   unfold spaceW
   rw[er,show ownOf m t=t.tmod m.config.replicas from rfl]
   by_cases hh:m.rings[log.toNat].head<m.replicas[1].cursors[log.toNat]
   ·rw[if_pos hh,ringStep_of hi hj]
    have hFF:=hF m.replicas[1].cursors[log.toNat] (by omega) (by omega)
    simp -implicitDefEqProofs[hh,hS2,hlg,hS0,hL,hrn,hS1]
    refine CallT.pure hS (by simp) (ok_mach _) ?_
    simp -implicitDefEqProofs[hS2,hlg,hS0,hL,hrn,hS1]
    refine CallT.pure hFF (by simp[gj]) (ok_ring2 _ _ _) ?_
    simp -implicitDefEqProofs[hS2,hlg,hS0,hL,hrn,hS1,unzT,unzP,okT,okP]
    refine⟨⟨okC_set (okC_ring _ _) (by simp[okC,flatV]),okC_set (okC_thr _ _) (by simp[okC_ints 6,okC,flatV])⟩, ?_, ?_⟩
    ·rw[unz_ringF]
    ·rw[unz_thr]<;>simp[encThread,hlg]
   ·rw[if_neg hh]
    by_cases hw:(1:Int)=t.tmod m.config.replicas
    ·rw[if_pos (.inl hw)]
     simp -implicitDefEqProofs[hh,← hw,hS2,hlg,hS0,hL,hrn,hS1]
     refine CallT.pure hrep1 (by simp) (ok_machF _) ?_
     simp -implicitDefEqProofs[unzT,unzP,okT,okP]
    ·by_cases hk:m.replicas[1].locks[log.toNat]=0
     ·rw[if_pos (.inr (by rw[elk1];exact hk))]
      simp -implicitDefEqProofs[hh,hw,hk,hlk1,hlk1',glk1,hS2,hlg,hS0,hL,hrn,hS1]
      refine CallT.pure hrep1 (by simp) (ok_machF _) ?_
      simp -implicitDefEqProofs[unzT,unzP,okT,okP]
     ·rw[if_neg (fun e=>e.elim hw (fun e=>hk (by rw[← elk1];exact e)))]
      simp -implicitDefEqProofs[hh,hw,hk,hlk1,hlk1',glk1,hS2,hlg,hS0,hL,hrn,hS1]
      refine CallT.pure (c_Copy13 m h) (by simp) (ok_mach _) ?_
      simp -implicitDefEqProofs[unzT,unzP,okT,okP]
  ·rw[leastR_one (by rw[ec0,ec1];exact fun e=>hlt e.2),ec0]
   refine PCall.ofZ (F:=m102) rfl rfl rfl ?_
   have hS0:=And.intro hl0 (And.intro hl1 (And.intro hr0 (And.intro hk0 (And.intro hk1 (And.intro z3 (And.intro z4 (And.intro gr0 (And.intro gk0 (gj)))))))))
   have hS1:=And.intro d1 (And.intro d2 (And.intro hr1 (And.intro hm1 (And.intro hm2 (And.intro z5 (And.intro gr1 (gk1)))))))
   have hS2:=And.intro ht0 (And.intro ht1 (And.intro hi (And.intro z0 (gt))))
   simp -implicitDefEqProofs[m102,hS2,hlg,hS0,hS1]
   refine WCT.unroll ?_
   simp -implicitDefEqProofs[hlt,hlg,hS0,hS1]
   refine WCT.unroll ?_
   simp -implicitDefEqProofs[d1,d2]
   unfold spaceW
   rw[er,show ownOf m t=t.tmod m.config.replicas from rfl]
   by_cases hh:m.rings[log.toNat].head<m.replicas[0].cursors[log.toNat]
   ·rw[if_pos hh,ringStep_of hi hj]
    have hFF:=hF m.replicas[0].cursors[log.toNat] (by omega) (by omega)
    simp -implicitDefEqProofs[hh,hS2,hlg,hS0,hL,hrn,hS1]
    refine CallT.pure hS (by simp) (ok_mach _) ?_
    simp -implicitDefEqProofs[hS2,hlg,hS0,hL,hrn,hS1]
    refine CallT.pure hFF (by simp[gj]) (ok_ring2 _ _ _) ?_
    simp -implicitDefEqProofs[hS2,hlg,hS0,hL,hrn,hS1,unzT,unzP,okT,okP]
    refine⟨⟨okC_set (okC_ring _ _) (by simp[okC,flatV]),okC_set (okC_thr _ _) (by simp[okC_ints 6,okC,flatV])⟩, ?_, ?_⟩
    ·rw[unz_ringF]
    ·rw[unz_thr]<;>simp[encThread,hlg]
   ·rw[if_neg hh]
    by_cases hw:(0:Int)=t.tmod m.config.replicas
    ·rw[if_pos (.inl hw)]
     simp -implicitDefEqProofs[hh,← hw,hS2,hlg,hS0,hL,hrn,hS1]
     refine CallT.pure hrep (by simp) (ok_machF _) ?_
     simp -implicitDefEqProofs[unzT,unzP,okT,okP]
    ·by_cases hk:m.replicas[0].locks[log.toNat]=0
     ·rw[if_pos (.inr (by rw[elk0];exact hk))]
      simp -implicitDefEqProofs[hh,hw,hk,hlk0,hlk0',glk0,hS2,hlg,hS0,hL,hrn,hS1]
      refine CallT.pure hrep (by simp) (ok_machF _) ?_
      simp -implicitDefEqProofs[unzT,unzP,okT,okP]
     ·rw[if_neg (fun e=>e.elim hw (fun e=>hk (by rw[← elk0];exact e)))]
      simp -implicitDefEqProofs[hh,hw,hk,hlk0,hlk0',glk0,hS2,hlg,hS0,hL,hrn,hS1]
      refine CallT.pure (c_Copy13 m h) (by simp) (ok_mach _) ?_
      simp -implicitDefEqProofs[unzT,unzP,okT,okP]
 ·have h2':m.config.replicas=1:=by have:=hc.2.1;omega
  rw[leastR_one (fun e=>h2 e.1),ec0]
  have d1:¬ (1:Int)<m.config.replicas:=by omega
  refine PCall.ofZ (F:=m102) rfl rfl rfl ?_
  have hS0:=And.intro hl0 (And.intro hl1 (And.intro hr0 (And.intro hk0 (And.intro hk1 (And.intro z3 (And.intro z4 (And.intro gr0 (And.intro gk0 (gj)))))))))
  have hS2:=And.intro ht0 (And.intro ht1 (And.intro hi (And.intro z0 (gt))))
  simp -implicitDefEqProofs[m102,hS2,hlg,hS0,d1]
  refine WCT.unroll ?_
  simp -implicitDefEqProofs[d1]
  unfold spaceW
  rw[er,show ownOf m t=t.tmod m.config.replicas from rfl]
  by_cases hh:m.rings[log.toNat].head<m.replicas[0].cursors[log.toNat]
  ·rw[if_pos hh,ringStep_of hi hj]
   have hFF:=hF m.replicas[0].cursors[log.toNat] (by omega) (by omega)
   simp -implicitDefEqProofs[hh,hS2,hlg,hS0,hL,hrn,d1]
   refine CallT.pure hS (by simp) (ok_mach _) ?_
   simp -implicitDefEqProofs[hS2,hlg,hS0,hL,hrn,d1]
   refine CallT.pure hFF (by simp[gj]) (ok_ring2 _ _ _) ?_
   simp -implicitDefEqProofs[hS2,hlg,hS0,hL,hrn,d1,unzT,unzP,okT,okP]
   refine⟨⟨okC_set (okC_ring _ _) (by simp[okC,flatV]),okC_set (okC_thr _ _) (by simp[okC_ints 6,okC,flatV])⟩, ?_, ?_⟩
   ·rw[unz_ringF]
   ·rw[unz_thr]<;>simp[encThread,hlg]
  ·rw[if_neg hh]
   by_cases hw:(0:Int)=t.tmod m.config.replicas
   ·rw[if_pos (.inl hw)]
    simp -implicitDefEqProofs[hh,← hw,hS2,hlg,hS0,hL,hrn,d1]
    refine CallT.pure hrep (by simp) (ok_machF _) ?_
    simp -implicitDefEqProofs[unzT,unzP,okT,okP]
   ·by_cases hk:m.replicas[0].locks[log.toNat]=0
    ·rw[if_pos (.inr (by rw[elk0];exact hk))]
     simp -implicitDefEqProofs[hh,hw,hk,hlk0,hlk0',glk0,hS2,hlg,hS0,hL,hrn,d1]
     refine CallT.pure hrep (by simp) (ok_machF _) ?_
     simp -implicitDefEqProofs[unzT,unzP,okT,okP]
    ·rw[if_neg (fun e=>e.elim hw (fun e=>hk (by rw[← elk0];exact e)))]
     simp -implicitDefEqProofs[hh,hw,hk,hlk0,hlk0',glk0,hS2,hlg,hS0,hL,hrn,d1]
     refine CallT.pure (c_Copy13 m h) (by simp) (ok_mach _) ?_
     simp -implicitDefEqProofs[unzT,unzP,okT,okP]

end Go.Ab

namespace Go.Ab

theorem doneM_of {m:Machine} {t:Int} (hi:t.toNat<m.threads.length):doneM m t={ m with threads:=m.threads.set t.toNat idle0,history:=m.history++[⟨t,false,m.threads[t.toNat].op,m.threads[t.toNat].answer⟩] }:=by
 unfold doneM;rw[modify_of (List.getElem?_eq_getElem hi),thrAt_of hi]

theorem c_done (m:Machine) (t:Int) (h:okM m) (hh:m.history.length≤64) (h0:0≤t) (h1:t<m.threads.length):PCall tab 100 [.agg (encMachine false m),.int .i64 t] (.agg (encMachine true (doneM m t))):=by
 have hi:t.toNat<m.threads.length:=by omega
 have z0:0<m.threads.length:=by omega
 have gt:=List.getElem?_eq_getElem hi
 have hb48:(m.history.length+1)*48≤140737488355328:=by omega
 rw[doneM_of hi]
 refine PCall.of (F:=m100) rfl rfl rfl (ok_mach _) ?_
 simp -implicitDefEqProofs[m100]
 refine CallT.pure (c_Copy13 m h) (by simp) (ok_mach _) ?_
 simp -implicitDefEqProofs[h0,h1,hi,z0,gt,hb48]
 all_goals simp[encThread]

theorem c_finished (m:Machine) (t e:Int) (h:okM m) (hh:m.history.length≤64) (h0:0≤t) (h1:t<m.threads.length):PCall tab 73 [.agg (encMachine false m),.int .i64 t,.int .i64 e] (.tup [.agg (encMachine true (finishM m t e).1),.int .i64 (finishM m t e).2]):=by
 have hD:=c_done m t h hh h0 h1
 unfold finishM
 generalize doneM m t=D at hD ⊢
 refine PCall.of (F:=m73) rfl rfl rfl (by split<;>exact ok_mach1 _ _) ?_
 simp -implicitDefEqProofs[m73]
 by_cases h2:64≤m.history.length
 ·have h3:(64:Int)≤m.history.length:=by omega
  simp -implicitDefEqProofs[h2,h3]
 ·have h3:¬ (64:Int)≤m.history.length:=by omega
  simp -implicitDefEqProofs[h2,h3]
  refine CallT.pure hD (by simp) (ok_mach _) ?_
  simp -implicitDefEqProofs

end Go.Ab

namespace Go.Ab

theorem wk {m:Machine} {t:Int} (h:okM m) (hat:atP m t):∃ (r log:Int) (hi:t.toNat<m.threads.length) (hri:r.toNat<m.replicas.length) (hj:log.toNat<m.rings.length) (hk:log.toNat<m.replicas[r.toNat].cursors.length) (hlk:log.toNat<m.replicas[r.toNat].locks.length),
  ownOf m t=r∧thrAt m t.toNat=m.threads[t.toNat]∧m.threads[t.toNat].log=log∧isReplica m r∧isLog m log∧At m r.toNat log.toNat ∧
  (0≤t∧t<m.threads.length∧t.toNat<m.threads.length∧0<m.threads.length∧m.threads[t.toNat]? = some m.threads[t.toNat]) ∧
  (¬ m.config.replicas=0∧t.tmod m.config.replicas=r∧m.threads[t.toNat].log=log∧0≤r∧r<m.replicas.length∧r.toNat<m.replicas.length∧0<m.replicas.length∧m.replicas[r.toNat]? = some m.replicas[r.toNat]) ∧
  (0≤log∧log<m.rings.length∧log.toNat<m.rings.length∧0<m.rings.length∧m.rings[log.toNat]? = some m.rings[log.toNat]) ∧
  (log.toNat<m.replicas[r.toNat].cursors.length∧log<m.replicas[r.toNat].cursors.length∧0<m.replicas[r.toNat].cursors.length∧m.replicas[r.toNat].cursors[log.toNat]? = some m.replicas[r.toNat].cursors[log.toNat]) ∧
  (log.toNat<m.replicas[r.toNat].locks.length∧log<m.replicas[r.toNat].locks.length∧0<m.replicas[r.toNat].locks.length∧m.replicas[r.toNat].locks[log.toNat]? = some m.replicas[r.toNat].locks[log.toNat]) ∧
  IntKind.wrap .i64 (t+1)=t+1:=by
 obtain⟨hi,ht0,ht1,hlog,hown⟩:=at_thr hat
 have h1:=hat.1
 have hc:=h1.1
 have hA:=at_of h ⟨h1,hown,hlog⟩
 obtain⟨hri,_,hpl,_⟩:=replica_there h1 hown
 have hk:=hA.hc
 have hj:=hA.hg
 have hl:=hlog
 have ho:=hown
 unfold isLog at hl
 unfold isReplica at ho
 have hlk:m.threads[t.toNat].log.toNat<m.replicas[(ownOf m t).toNat].locks.length:=by omega
 exact⟨_,_,hi,hri,hj,hk,hlk,rfl,thrAt_of hi,rfl,hown,hlog,hA,⟨ht0,ht1,hi,by omega,List.getElem?_eq_getElem hi⟩,⟨by have:=hc.2.1;omega,rfl,rfl,ho.1,ho.2,hri,by omega,List.getElem?_eq_getElem hri⟩,
  ⟨hl.1,hl.2,hj,by omega,List.getElem?_eq_getElem hj⟩,⟨hk,by omega,by omega,List.getElem?_eq_getElem hk⟩,⟨hlk,by omega,by omega,List.getElem?_eq_getElem hlk⟩,by have:=hc.2.2.2.1;have:=hat.2.2;exact wrap_of (by omega) (by omega)⟩

end Go.Ab

namespace Go.Ab

theorem seenM_of {m:Machine} {t:Int} (hi:t.toNat<m.threads.length) (x s:Int):seenM m t x s={ m with threads:=m.threads.set t.toNat { m.threads[t.toNat] with seen:=x,step:=s } }:=by unfold seenM;rw[setThread_of hi]
theorem stepM_of {m:Machine} {t:Int} (hi:t.toNat<m.threads.length) (s:Int):stepM m t s={ m with threads:=m.threads.set t.toNat { m.threads[t.toNat] with step:=s } }:=by unfold stepM;rw[setThread_of hi]
theorem tellM_of {m:Machine} {t:Int} (hi:t.toNat<m.threads.length) (a:Int):tellM m t a={ m with threads:=m.threads.set t.toNat { m.threads[t.toNat] with answer:=a } }:=by unfold tellM;rw[setThread_of hi]

end Go.Ab

namespace Go.Ab

set_option maxHeartbeats 4000000 in
theorem c_Claim13_4 (m:Machine) (t:Int) (h:okM m) (hin:∀ r∈m.rings,inR r.head) (hl:claimP m t) (hs:(thrAt m t.toNat).step=4):PCall tab 77 [.agg (encMachine false m),.int .i64 t] (.tup [.agg (encMachine false (loadX m t (thrAt m t.toNat) (ringAt m (thrAt m t.toNat).log.toNat)).1),.int .i64 (loadX m t (thrAt m t.toNat) (ringAt m (thrAt m t.toNat).log.toNat)).2]):=by
 obtain⟨hat,hbn⟩:=hl
 obtain⟨r,log,hi,hri,hj,hk,hlk,hrm,et,hlg,hown,hlog,hA,hF⟩:=wk h hat
 have h1:=hat.1
 have hc:=h1.1
 have hn:=h1.2.1
 have ht0:=hat.2.1
 have ht1:=hF.1.2.1
 rw[et] at hbn
 have hb1:((m.threads[t.toNat].batch.length:Int)==0)=false:=by simp[hbn]
 have hth:=(h1.2.2.2.2.1 _ (List.getElem_mem hi)).1
 simp only[atNums] at hth
 have hq:=hA.ring.1.1
 simp only[ringNums,slotsMay] at hq
 have w1:IntKind.wrap .i64 (m.rings[log.toNat].tail+m.threads[t.toNat].batch.length)=m.rings[log.toNat].tail+m.threads[t.toNat].batch.length:=wrap_of (by omega) (by have:=hc.2.2.2.1;omega)
 have w2:IntKind.wrap .i64 (m.rings[log.toNat].head+m.rings[log.toNat].slots.length)=m.rings[log.toNat].head+m.rings[log.toNat].slots.length:=wrap_of (by omega) (by omega)
 have er:=ringAt_of hj
 have hF:=And.intro hF (And.intro hbn (And.intro hb1 (And.intro w1 w2)))
 rw[et] at hs
 have e4:(m.threads[t.toNat].step==4)=true:=by simp[hs]
 rw[show ringAt m (thrAt m t.toNat).log.toNat=m.rings[log.toNat] by rw[et,hlg];exact er,et]
 obtain⟨D,hD⟩:∃ D,loadX m t m.threads[t.toNat] m.rings[log.toNat]=D:=⟨_,rfl⟩
 rw[hD]
 unfold loadX at hD
 refine PCall.ofZ (F:=m77) rfl rfl rfl ?_
 simp -implicitDefEqProofs[m77]
 refine CallT.bool2 (by simp) (c_there13 m 0 0 t h hin) (fun hb=>?_) (fun hb=>absurd ⟨there00 h1,hat.2⟩ hb)
 by_cases hf:m.rings[log.toNat].fence=0
 ·rw[if_neg (not_not_intro hf),seenM_of hi] at hD
  have hS:=c_stepped m t 6 h ht0 ht1
  rw[stepM_of hi] at hS
  by_cases hq2:m.rings[log.toNat].head+m.rings[log.toNat].slots.length<m.rings[log.toNat].tail+m.threads[t.toNat].batch.length
  all_goals
   simp only[hq2,if_true,if_false] at hD
   subst hD
   simp -implicitDefEqProofs[hF,sT,sR,-List.map_set,e4,hf,hq2]
   refine CallT.pure hS (by simp) (ok_mach _) ?_
   simp -implicitDefEqProofs[hF,sT,sR,-List.map_set,e4,hf,hq2,unzT,unzP,okT,okP]
   all_goals trace_state
 ·have hR:=c_replaying m r log h hin
  rw[if_pos hf,hrm,hlg] at hD
  subst hD
  have b0:(m.rings[log.toNat].fence != 0)=true:=by simp[hf]
  generalize (oneM m r log).1=D at hR ⊢
  simp -implicitDefEqProofs[hF,sT,sR,-List.map_set,e4,hf,b0]
  refine CallT.pure hR (by simp) (ok_machF _) ?_
  simp -implicitDefEqProofs[unzT,unzP,okT,okP]

set_option maxHeartbeats 4000000 in
theorem c_Claim13_5 (m:Machine) (t:Int) (h:okM m) (hin:∀ r∈m.rings,inR r.head) (hl:claimP m t) (hs:(thrAt m t.toNat).step=5):PCall tab 77 [.agg (encMachine false m),.int .i64 t] (.tup [.agg (encMachine false (spaceM m t,(0:Int)).1),.int .i64 (spaceM m t,(0:Int)).2]):=by
 obtain⟨hat,hbn⟩:=hl
 obtain⟨r,log,hi,hri,hj,hk,hlk,hrm,et,hlg,hown,hlog,hA,hF⟩:=wk h hat
 have h1:=hat.1
 have hc:=h1.1
 have hn:=h1.2.1
 have ht0:=hat.2.1
 have ht1:=hF.1.2.1
 rw[et] at hbn
 have hb1:((m.threads[t.toNat].batch.length:Int)==0)=false:=by simp[hbn]
 have hth:=(h1.2.2.2.2.1 _ (List.getElem_mem hi)).1
 simp only[atNums] at hth
 have hq:=hA.ring.1.1
 simp only[ringNums,slotsMay] at hq
 have w1:IntKind.wrap .i64 (m.rings[log.toNat].tail+m.threads[t.toNat].batch.length)=m.rings[log.toNat].tail+m.threads[t.toNat].batch.length:=wrap_of (by omega) (by have:=hc.2.2.2.1;omega)
 have w2:IntKind.wrap .i64 (m.rings[log.toNat].head+m.rings[log.toNat].slots.length)=m.rings[log.toNat].head+m.rings[log.toNat].slots.length:=wrap_of (by omega) (by omega)
 have er:=ringAt_of hj
 have hF:=And.intro hF (And.intro hbn (And.intro hb1 (And.intro w1 w2)))
 rw[et] at hs
 have e4:(m.threads[t.toNat].step==4)=false:=by simp[hs]
 have e5:(m.threads[t.toNat].step==5)=true:=by simp[hs]
 have hR:=c_room m t h hin hat
 generalize spaceM m t=D at hR ⊢
 refine PCall.ofZ (F:=m77) rfl rfl rfl ?_
 simp -implicitDefEqProofs[m77]
 refine CallT.bool2 (by simp) (c_there13 m 0 0 t h hin) (fun hb=>?_) (fun hb=>absurd ⟨there00 h1,hat.2⟩ hb)
 simp -implicitDefEqProofs[hF,sT,sR,-List.map_set,e4,e5]
 refine CallT.pure hR (by simp) (ok_machF _) ?_
 simp -implicitDefEqProofs[unzT,unzP,okT,okP]

set_option maxHeartbeats 4000000 in
theorem c_Claim13_6 (m:Machine) (t:Int) (h:okM m) (hin:∀ r∈m.rings,inR r.head) (hl:claimP m t) (hs:(thrAt m t.toNat).step=6):PCall tab 77 [.agg (encMachine false m),.int .i64 t] (.tup [.agg (encMachine false (reserveX m t (thrAt m t.toNat) (ringAt m (thrAt m t.toNat).log.toNat)).1),.int .i64 (reserveX m t (thrAt m t.toNat) (ringAt m (thrAt m t.toNat).log.toNat)).2]):=by
 obtain⟨hat,hbn⟩:=hl
 obtain⟨r,log,hi,hri,hj,hk,hlk,hrm,et,hlg,hown,hlog,hA,hF⟩:=wk h hat
 have h1:=hat.1
 have hc:=h1.1
 have hn:=h1.2.1
 have ht0:=hat.2.1
 have ht1:=hF.1.2.1
 rw[et] at hbn
 have hb1:((m.threads[t.toNat].batch.length:Int)==0)=false:=by simp[hbn]
 have hth:=(h1.2.2.2.2.1 _ (List.getElem_mem hi)).1
 simp only[atNums] at hth
 have hq:=hA.ring.1.1
 simp only[ringNums,slotsMay] at hq
 have w1:IntKind.wrap .i64 (m.rings[log.toNat].tail+m.threads[t.toNat].batch.length)=m.rings[log.toNat].tail+m.threads[t.toNat].batch.length:=wrap_of (by omega) (by have:=hc.2.2.2.1;omega)
 have w2:IntKind.wrap .i64 (m.rings[log.toNat].head+m.rings[log.toNat].slots.length)=m.rings[log.toNat].head+m.rings[log.toNat].slots.length:=wrap_of (by omega) (by omega)
 have er:=ringAt_of hj
 have hF:=And.intro hF (And.intro hbn (And.intro hb1 (And.intro w1 w2)))
 rw[et] at hs
 have e4:(m.threads[t.toNat].step==4)=false:=by simp[hs]
 have e5:(m.threads[t.toNat].step==5)=false:=by simp[hs]
 have e6:(m.threads[t.toNat].step==6)=true:=by simp[hs]
 rw[show ringAt m (thrAt m t.toNat).log.toNat=m.rings[log.toNat] by rw[et,hlg];exact er,et]
 obtain⟨D,hD⟩:∃ D,reserveX m t m.threads[t.toNat] m.rings[log.toNat]=D:=⟨_,rfl⟩
 rw[hD]
 unfold reserveX at hD
 rw[hlg] at hD
 have hR:=c_Reserve1 m.rings[log.toNat] m.threads[t.toNat].batch.length hA.ol (head_in hin hj) ⟨by omega,by omega⟩
 generalize reserveM m.rings[log.toNat] m.threads[t.toNat].batch.length=rm at hR hD
 obtain⟨R1,a1,e1⟩:=rm
 dsimp only at hR hD
 refine PCall.ofZ (F:=m77) rfl rfl rfl ?_
 simp -implicitDefEqProofs[m77]
 refine CallT.bool2 (by simp) (c_there13 m 0 0 t h hin) (fun hb=>?_) (fun hb=>absurd ⟨there00 h1,hat.2⟩ hb)
 have hS4:=c_stepped m t 4 h ht0 ht1
 have hS7:=c_stepped m t 7 h ht0 ht1
 rw[stepM_of hi] at hS7
 by_cases hf:m.rings[log.toNat].tail=m.threads[t.toNat].seen
 ·by_cases he:e1=0
  ·subst he
   rw[if_neg (fun e=>e.elim (fun e=>e hf) (fun e=>e rfl)),ringThr_of hi hj] at hD
   subst hD
   simp -implicitDefEqProofs[hF,sT,sR,-List.map_set,e4,e5,e6]
   refine CallT.pure hR (by simp[hF]) (by simp[okT,okP,okC,List.all_map,flatV]) ?_
   simp -implicitDefEqProofs[hF,sT,sR,-List.map_set,e4,e5,e6,hf]
   refine CallT.pure hS7 (by simp) (ok_mach _) ?_
   simp -implicitDefEqProofs[hF,sT,sR,-List.map_set,e4,e5,e6,hf,unzT,unzP,okT,okP]
   refine⟨okC_set (okC_ring _ _) (by simp[okC,flatV]), ?_⟩
   rw[ring_last]
  ·rw[if_pos (.inr he)] at hD
   subst hD
   generalize stepM m t 4=D at hS4 ⊢
   have b1:(e1 != 0)=true:=by simp[he]
   simp -implicitDefEqProofs[hF,sT,sR,-List.map_set,e4,e5,e6]
   refine CallT.pure hR (by simp[hF]) (by simp[okT,okP,okC,List.all_map,flatV]) ?_
   simp -implicitDefEqProofs[hF,sT,sR,-List.map_set,e4,e5,e6,hf,he,b1]
   refine CallT.pure hS4 (by simp) (ok_mach _) ?_
   simp -implicitDefEqProofs[unzT,unzP,okT,okP]
 ·rw[if_pos (.inl hf)] at hD
  subst hD
  generalize stepM m t 4=D at hS4 ⊢
  have b1:(m.rings[log.toNat].tail != m.threads[t.toNat].seen)=true:=by simp[hf]
  simp -implicitDefEqProofs[hF,sT,sR,-List.map_set,e4,e5,e6]
  refine CallT.pure hR (by simp[hF]) (by simp[okT,okP,okC,List.all_map,flatV]) ?_
  simp -implicitDefEqProofs[hF,sT,sR,-List.map_set,e4,e5,e6,hf,b1]
  refine CallT.pure hS4 (by simp) (ok_mach _) ?_
  simp -implicitDefEqProofs[unzT,unzP,okT,okP]

set_option maxHeartbeats 4000000 in
theorem c_Claim13_7 (m:Machine) (t:Int) (h:okM m) (hin:∀ r∈m.rings,inR r.head) (hl:claimP m t) (hs:(thrAt m t.toNat).step=7):PCall tab 77 [.agg (encMachine false m),.int .i64 t] (.tup [.agg (encMachine false (publishX m t (thrAt m t.toNat) (ringAt m (thrAt m t.toNat).log.toNat) ((thrAt m t.toNat).batch.getD (thrAt m t.toNat).at_.toNat 0)).1),.int .i64 (publishX m t (thrAt m t.toNat) (ringAt m (thrAt m t.toNat).log.toNat) ((thrAt m t.toNat).batch.getD (thrAt m t.toNat).at_.toNat 0)).2]):=by
 obtain⟨hat,hbn⟩:=hl
 obtain⟨r,log,hi,hri,hj,hk,hlk,hrm,et,hlg,hown,hlog,hA,hF⟩:=wk h hat
 have h1:=hat.1
 have hc:=h1.1
 have hn:=h1.2.1
 have ht0:=hat.2.1
 have ht1:=hF.1.2.1
 rw[et] at hbn
 have hb1:((m.threads[t.toNat].batch.length:Int)==0)=false:=by simp[hbn]
 have hth:=(h1.2.2.2.2.1 _ (List.getElem_mem hi)).1
 simp only[atNums] at hth
 have hq:=hA.ring.1.1
 simp only[ringNums,slotsMay] at hq
 have w1:IntKind.wrap .i64 (m.rings[log.toNat].tail+m.threads[t.toNat].batch.length)=m.rings[log.toNat].tail+m.threads[t.toNat].batch.length:=wrap_of (by omega) (by have:=hc.2.2.2.1;omega)
 have w2:IntKind.wrap .i64 (m.rings[log.toNat].head+m.rings[log.toNat].slots.length)=m.rings[log.toNat].head+m.rings[log.toNat].slots.length:=wrap_of (by omega) (by omega)
 have er:=ringAt_of hj
 have hF:=And.intro hF (And.intro hbn (And.intro hb1 (And.intro w1 w2)))
 rw[et] at hs
 have e4:(m.threads[t.toNat].step==4)=false:=by simp[hs]
 have e5:(m.threads[t.toNat].step==5)=false:=by simp[hs]
 have e6:(m.threads[t.toNat].step==6)=false:=by simp[hs]
 have e7:(m.threads[t.toNat].step==7)=true:=by simp[hs]
 rw[show ringAt m (thrAt m t.toNat).log.toNat=m.rings[log.toNat] by rw[et,hlg];exact er,et]
 obtain⟨D,hD⟩:∃ D,publishX m t m.threads[t.toNat] m.rings[log.toNat] (m.threads[t.toNat].batch.getD m.threads[t.toNat].at_.toNat 0)=D:=⟨_,rfl⟩
 rw[hD]
 unfold publishX at hD
 refine PCall.ofZ (F:=m77) rfl rfl rfl ?_
 simp -implicitDefEqProofs[m77]
 refine CallT.bool2 (by simp) (c_there13 m 0 0 t h hin) (fun hb=>?_) (fun hb=>absurd ⟨there00 h1,hat.2⟩ hb)
 have ha0:0≤m.threads[t.toNat].at_:=by omega
 by_cases hf:(m.threads[t.toNat].batch.length:Int)≤m.threads[t.toNat].at_
 ·rw[if_pos hf] at hD
  subst hD
  simp -implicitDefEqProofs[hF,sT,sR,-List.map_set,e4,e5,e6,e7,hf,unzT,unzP,okT,okP]
 ·rw[if_neg hf] at hD
  have hai:m.threads[t.toNat].at_.toNat<m.threads[t.toNat].batch.length:=by omega
  have ha1:m.threads[t.toNat].at_<m.threads[t.toNat].batch.length:=by omega
  have hag:=List.getElem?_eq_getElem hai
  have zb:0<m.threads[t.toNat].batch.length:=by omega
  have hw:=(h1.2.2.2.2.1 _ (List.getElem_mem hi)).2.1 _ (List.getElem_mem hai)
  rw[show m.threads[t.toNat].batch.getD m.threads[t.toNat].at_.toNat 0=m.threads[t.toNat].batch[m.threads[t.toNat].at_.toNat] by simp[List.getD,hag]] at hD
  obtain⟨who,hwho⟩:∃ who,m.threads[t.toNat].batch[m.threads[t.toNat].at_.toNat]=who:=⟨_,rfl⟩
  rw[hwho] at hw hD
  have hw0:=hw.1
  have hw1:who<m.threads.length:=by have:=hw.2;omega
  have hwi:who.toNat<m.threads.length:=by omega
  have gw:=List.getElem?_eq_getElem hwi
  have w3:IntKind.wrap .i64 (m.threads[t.toNat].seen+m.threads[t.toNat].at_)=m.threads[t.toNat].seen+m.threads[t.toNat].at_:=wrap_of (by omega) (by have:=hc.2.2.2.1;omega)
  have w4:IntKind.wrap .i64 (m.threads[t.toNat].at_+1)=m.threads[t.toNat].at_+1:=wrap_of (by omega) (by have:=hc.2.2.2.1;omega)
  rw[thrAt_of hwi,hlg] at hD
  have hP:=c_Publish1 m.rings[log.toNat] (m.threads[t.toNat].seen+m.threads[t.toNat].at_) m.threads[who.toNat].op who hA.ol (head_in hin hj)
  generalize publishM m.rings[log.toNat] (m.threads[t.toNat].seen+m.threads[t.toNat].at_) m.threads[who.toNat].op who=pm at hP hD
  obtain⟨R1,e1⟩:=pm
  dsimp only at hP hD
  by_cases he:e1=0
  ·subst he
   rw[if_neg (fun e=>e rfl),ringThr_of hi hj] at hD
   simp -implicitDefEqProofs[hF,sT,sR,-List.map_set,e4,e5,e6,e7,hf,ha0,ha1,hai,hag,zb,hwho,hw0,hw1,hwi,gw,w3]
   refine CallT.pure hP (by simp[hF,gw]) (ok_ring2 _ _ _) ?_
   simp -implicitDefEqProofs
   refine CallT.pure (c_Copy13 m h) (by simp) (ok_mach _) ?_
   by_cases hlast:m.threads[t.toNat].at_+1=m.threads[t.toNat].batch.length
   ·have el:(m.threads[t.toNat].at_+1==(m.threads[t.toNat].batch.length:Int))=true:=by simp[hlast]
    rw[if_pos hlast] at hD
    subst hD
    simp -implicitDefEqProofs[hF,sT,sR,-List.map_set,e4,e5,e6,e7,hf,el,w4,unzT,unzP,okT,okP]
    refine⟨okC_set (okC_ring _ _) (by simp[okC,flatV]), ?_⟩
    rw[ring_last]
   ·have el:(m.threads[t.toNat].at_+1==(m.threads[t.toNat].batch.length:Int))=false:=by simp[hlast]
    simp only[hlast,if_true,if_false] at hD
    subst hD
    simp -implicitDefEqProofs[hF,sT,sR,-List.map_set,e4,e5,e6,e7,hf,el,w4,unzT,unzP,okT,okP]
    refine⟨okC_set (okC_ring _ _) (by simp[okC,flatV]), ?_⟩
    rw[ring_last]
  ·rw[if_pos he] at hD
   subst hD
   have b1:(e1 != 0)=true:=by simp[he]
   simp -implicitDefEqProofs[hF,sT,sR,-List.map_set,e4,e5,e6,e7,hf,ha0,ha1,hai,hag,zb,hwho,hw0,hw1,hwi,gw,w3]
   refine CallT.pure hP (by simp[hF,gw]) (ok_ring2 _ _ _) ?_
   simp -implicitDefEqProofs[he,b1,unzT,unzP,okT,okP]

end Go.Ab

namespace Go.Ab

theorem c_Claim13_no (m:Machine) (t:Int) (h:okM m) (hin:∀ r∈m.rings,inR r.head) (hl:claimP m t) (s4:¬ (thrAt m t.toNat).step=4) (s5:¬ (thrAt m t.toNat).step=5) (s6:¬ (thrAt m t.toNat).step=6) (s7:¬ (thrAt m t.toNat).step=7) :
  PCall tab 77 [.agg (encMachine false m),.int .i64 t] (.tup [.agg (encMachine true noMachine),.int .i64 1900]):=by
 obtain⟨hat,hbn⟩:=hl
 obtain⟨hi,ht0,ht1,hlog,hown⟩:=at_thr hat
 have h1:=hat.1
 have z0:0<m.threads.length:=by omega
 have et:=thrAt_of hi
 rw[et] at hbn s4 s5 s6 s7
 have hb1:((m.threads[t.toNat].batch.length:Int)==0)=false:=by simp[hbn]
 have gt:=List.getElem?_eq_getElem hi
 have hj:m.threads[t.toNat].log.toNat<m.rings.length:=by have:=hlog.1;have:=hlog.2;omega
 have gj:=List.getElem?_eq_getElem hj
 have hl0:=hlog.1
 have hl1:=hlog.2
 have zj:0<m.rings.length:=by omega
 refine PCall.of (F:=m77) rfl rfl rfl (ok_mach1 _ _) ?_
 simp -implicitDefEqProofs[m77]
 refine CallT.bool2 (by simp) (c_there13 m 0 0 t h hin) (fun hb=>?_) (fun hb=>absurd ⟨there00 h1,hat.2⟩ hb)
 simp -implicitDefEqProofs[ht0,ht1,hi,z0,gt,hbn,hb1,hl0,hl1,hj,gj,zj,s4,s5,s6,s7]

theorem c_Claim13 (m:Machine) (t:Int) (h:okM m) (hin:∀ r∈m.rings,inR r.head):PCall tab 77 [.agg (encMachine false m),.int .i64 t] (.tup [.agg (encMachine false (claimM m t).1),.int .i64 (claimM m t).2]):=by
 by_cases hl:claimP m t
 ·rw[claimM_yes hl]
  by_cases s4:(thrAt m t.toNat).step=4
  ·rw[s4];exact c_Claim13_4 m t h hin hl s4
  by_cases s5:(thrAt m t.toNat).step=5
  ·rw[s5];exact c_Claim13_5 m t h hin hl s5
  by_cases s6:(thrAt m t.toNat).step=6
  ·rw[s6];exact c_Claim13_6 m t h hin hl s6
  by_cases s7:(thrAt m t.toNat).step=7
  ·rw[s7];exact c_Claim13_7 m t h hin hl s7
  rw[show claimX m t (thrAt m t.toNat) (ringAt m (thrAt m t.toNat).log.toNat) (thrAt m t.toNat).step=(noMachine,1900) by simp[claimX,s4,s5,s6,s7]]
  exact (c_Claim13_no m t h hin hl s4 s5 s6 s7).mach1Z
 ·rw[claimM_no hl]
  refine PCall.mach1Z ?_
  by_cases hat:atP m t
  ·obtain⟨hi,ht0,ht1,hlog,hown⟩:=at_thr hat
   have z0:0<m.threads.length:=by omega
   have hb0:m.threads[t.toNat].batch=[]:=Classical.byContradiction fun e=>hl ⟨hat,by rw[thrAt_of hi];exact e⟩
   refine PCall.of (F:=m77) rfl rfl rfl (ok_mach1 _ _) ?_
   simp -implicitDefEqProofs[m77]
   refine CallT.bool2 (by simp) (c_there13 m 0 0 t h hin) (fun hb=>?_) (fun hb=>absurd ⟨there00 hat.1,hat.2⟩ hb)
   simp -implicitDefEqProofs[ht0,ht1,hi,z0,hb0]
  ·refine PCall.of (F:=m77) rfl rfl rfl (ok_mach1 _ _) ?_
   simp -implicitDefEqProofs[m77]
   refine CallT.bool2 (by simp) (c_there13 m 0 0 t h hin) (fun hb=>absurd ⟨hb.1.1,hb.2⟩ hat) (fun hb=>?_)
   simp -implicitDefEqProofs

end Go.Ab

namespace Go.Ab

set_option maxHeartbeats 1000000 in
theorem c_Waiting13 (m:Machine) (r g:Int) (h:okM m) (hin:∀ r∈m.rings,inR r.head):PCall tab 101 [.agg (encMachine false m),.int .i64 r,.int .i64 g] (.tup [.vs ((waitM m r g).1.map encInt) true,.int .i64 (waitM m r g).2]):=by
 by_cases hall:thereP m r g
 ·rw[waitM_yes hall]
  have hall':=hall
  obtain⟨h1,hr,hg⟩:=hall
  have hc:=h1.1
  have hn:=h1.2.1
  simp only[macNums] at hn
  have hl3:m.threads.length≤4:=by have:=hc.2.2.2.1;omega
  have hrn:¬ m.config.replicas=0:=by have:=hc.2.1;omega
  refine PCall.of (F:=m101) rfl rfl rfl (ok_waits _ _) ?_
  simp -implicitDefEqProofs[m101]
  refine CallT.bool2 (by simp) (c_there13 m r g 0 h hin) (fun hb=>?_) (fun hb=>absurd ⟨hall',by have:=hc.2.2.2.1;simp only[thread0P];omega⟩ hb)
  simp -implicitDefEqProofs
  refine loop_by (WtJ m r g) ?_ m.threads.length ⟨0,by simp,.inl ⟨rfl,by simp⟩,by simp,by simp,by simp,by simp,by simp,by simp⟩
  rintro k E T ⟨i,hi,hL,e1,e2,e3,e9,eln,v0⟩
  by_cases hlt:i<m.threads.length
  ·have g1:=List.getElem?_eq_getElem hlt
   have hct:(i:Int)<m.config.threads:=by omega
   have q0:¬ E.ln=0:=by omega
   have q1:¬ 0=E.ln:=by omega
   have hwl:=wsTo_len m r g i
   have bo:((wsTo m r g i).length+1)*8≤140737488355328:=by omega
   simp -implicitDefEqProofs[e1,e2,e3,e9,v0,hlt,g1,hct,hrn,q0,q1,List.replicate]
   repeat' (first
    | (with_reducible refine guard_by (fun hb=>?_) (fun hb=>?_)<;>rw[hb]<;>(try simp at hb)<;>simp -implicitDefEqProofs[hb,e1,e2,e3,e9,v0,hlt,g1,hct,hrn,q0,q1,List.replicate])
    | (with_reducible refine cond_by (fun hb=>?_) (fun hb=>?_)<;>rw[hb]<;>(try simp at hb)<;>simp -implicitDefEqProofs[hb,e1,e2,e3,e9,v0,hlt,g1,hct,hrn,q0,q1,List.replicate])
    | (refine CallT.bool2 rfl (c_Updates1 m.threads[i].op) (fun hb=>?_) (fun hb=>?_)<;>simp -implicitDefEqProofs[hb,e1,e2,e3,e9,v0,hlt,g1,hct,hrn,q0,q1,List.replicate]))
   all_goals (try (
    have hno:¬ waitT m.config r g i m.threads[i]:=by
     intro hh;obtain⟨h5,h6,h7,h8⟩:=hh;first|exact hb h8|omega|(rw[h7] at hb;cases hb)|simp_all
    refine⟨k - 1,by omega, ?_⟩
    rw[← wsTo_no hlt hno] at hL
    exact⟨i+1,by omega,by simpa using hL,by simp[e1],by simp[e2],by simp[e3],by first|(simp;done)|(simp;exact wrap_nat (by omega)),by first|(simp;done)|(simp;omega),by simp[v0,q0,q1]⟩))
   have hyes:waitT m.config r g i m.threads[i]:=⟨by omega,by omega,by assumption,by assumption⟩
   have hsucc:=wsTo_yes hlt hyes
   rcases hL with ⟨hw0,e8⟩|⟨j,log,hj1,hj2,e8,hTj⟩
   ·have hw1:wsTo m r g i=[]:=by simpa using hw0
    rw[hw1] at hsucc
    simp -implicitDefEqProofs[e1,e2,e3,e9,v0,hlt,g1,hct,hrn,q0,q1,List.replicate,e8]
    refine⟨k - 1,by omega,i+1,by omega,by simp only[hsucc,List.map_append];exact .inr ⟨T.next+1,[],by omega,by simp,by simp,by simp⟩,by simp[e1],by simp[e2],by simp[e3],by first|(simp;done)|(simp;exact wrap_nat (by omega)),by first|(simp;done)|(simp;omega),by simp[v0,q0,q1]⟩
   ·have y1:¬ j=T.next:=by omega
    have y2:¬ T.next=j:=by omega
    have y3:¬ T.next+1=j:=by omega
    have y4:¬ j=T.next+1:=by omega
    have y5:¬ j+1=0:=by omega
    have y6:True:=trivial
    have y7:True:=trivial
    have hRl:((wsTo m r g i).map encInt).length=(wsTo m r g i).length:=List.length_map _
    simp -implicitDefEqProofs[e1,e2,e3,e9,v0,hlt,g1,hct,hrn,q0,q1,List.replicate,e8,hTj,y1,y2,y3,y4,y6,y7,bo]
    refine⟨k - 1,by omega,i+1,by omega,by simp only[hsucc,List.map_append];exact .inr ⟨j,[]::log,by omega,by first|(simp;done)|(simp;omega),by simp,by simp[y1,y2,y3,y4]⟩,by simp[e1],by simp[e2],by simp[e3],by first|(simp;done)|(simp;exact wrap_nat (by omega)),by first|(simp;done)|(simp;omega),by simp[v0,q0,q1]⟩
  ·have hie:i=m.threads.length:=by omega
   subst hie
   have hct:¬ (m.threads.length:Int)<m.config.threads:=by omega
   rcases hL with ⟨hw0,e8⟩|⟨j,log,hj1,hj2,e8,hTj⟩
   ·simp -implicitDefEqProofs[e1,e2,e3,e9,v0,hlt,hct,hrn,List.replicate,e8]
    simpa using hw0
   ·simp -implicitDefEqProofs[e1,e2,e3,e9,v0,hlt,hct,hrn,List.replicate,e8,hTj]
 ·rw[waitM_no hall]
  refine PCall.of (F:=m101) rfl rfl rfl (ok_waits _ _) ?_
  simp -implicitDefEqProofs[m101]
  refine CallT.bool2 (by simp) (c_there13 m r g 0 h hin) (fun hb=>absurd hb.1 hall) (fun hb=>?_)
  simp -implicitDefEqProofs

end Go.Ab

namespace Go.Ab

theorem c_Post13 (m:Machine) (t:Int) (h:okM m) (hin:∀ r∈m.rings,inR r.head):PCall tab 75 [.agg (encMachine false m),.int .i64 t] (.tup [.agg (encMachine true (postM m t).1),.int .i64 (postM m t).2]):=by
 by_cases hall:atP m t
 ·rw[postM_yes hall]
  have hall':=hall
  obtain⟨h1,ht⟩:=hall
  have ht0:=ht.1
  have ht1:t<m.threads.length:=by have:=ht.2;have hn:=h1.2.1;simp only[macNums] at hn;omega
  have hi:t.toNat<m.threads.length:=by omega
  have z0:0<m.threads.length:=by omega
  rw[setThread_of hi]
  refine PCall.of (F:=m75) rfl rfl rfl (ok_mach1 _ _) ?_
  simp -implicitDefEqProofs[m75]
  refine CallT.bool2 (by simp) (c_there13 m 0 0 t h hin) (fun hb=>?_) (fun hb=>absurd ⟨there00 h1,ht⟩ hb)
  simp -implicitDefEqProofs
  refine CallT.pure (c_Copy13 m h) (by simp) (ok_mach _) ?_
  simp -implicitDefEqProofs[ht0,ht1,hi,z0]
  all_goals simp[encThread]
 ·rw[postM_no hall]
  refine PCall.of (F:=m75) rfl rfl rfl (ok_mach1 _ _) ?_
  simp -implicitDefEqProofs[m75]
  refine CallT.bool2 (by simp) (c_there13 m 0 0 t h hin) (fun hb=>absurd ⟨hb.1.1,hb.2⟩ hall) (fun hb=>?_)
  simp -implicitDefEqProofs

end Go.Ab

namespace Go.Ab

def TkJ (m:Machine) (ws:List Int) (t1:TV) (k:Nat) (E:TE) (T:TH):Prop:=∃ (i:Nat) (L:List Thread),i+k=ws.length∧L=clearP (ws.take i) m.threads∧T.get 0=.tree (m.rings.map (encRing true)) true []∧T.get 1=.tree (m.replicas.map (encReplica true)) true []∧T.get 2=.tree (L.map (encThread true)) true []∧T.get 3=.tree (m.history.map encEvent) true []∧T.get 4=.tree (ws.map encInt) true [] ∧
 E.var 2=some [.a (.int .i64 m.config.object),.a (.int .i64 m.config.replicas),.a (.int .i64 m.config.logs),.a (.int .i64 m.config.threads),.a (.int .i64 m.config.slots),.sl 0 [] 0 0 m.rings.length true,.sl 1 [] 0 0 m.replicas.length true,.sl 2 [] 0 0 m.threads.length true,.sl 3 [] 0 0 m.history.length true]∧(∃ w,w.length=9∧E.var 1=some w)∧3≤E.ln ∧
 E.get 1=t1∧E.get 4=.lp 1 0∧E.get 6=.lp 2 0∧E.get 7=.sl 4 [] 0 0 ws.length true∧E.get 9=.a (.int .i64 i)

set_option maxHeartbeats 1000000 in
theorem c_Collect13 (m:Machine) (t:Int) (h:okM m) (hin:∀ r∈m.rings,inR r.head):PCall tab 76 [.agg (encMachine false m),.int .i64 t] (.tup [.agg (encMachine true (collM m t).1),.int .i64 (collM m t).2]):=by
 by_cases hall:collP m t
 ·rw[collM_yes hall]
  have hall':=hall
  obtain⟨⟨h1,ht⟩,hs⟩:=hall
  have hc:=h1.1
  have hn:=h1.2.1
  simp only[macNums] at hn
  have hrn:¬ m.config.replicas=0:=by have:=hc.2.1;omega
  have ht0:=ht.1
  have ht1:t<m.threads.length:=by have:=ht.2;omega
  have hi:t.toNat<m.threads.length:=by omega
  have z0:0<m.threads.length:=by omega
  have hst:m.threads[t.toNat].step=3:=by have:=hs;simpa [stepOfT,hi] using this
  have hlg:logOfT m t.toNat=m.threads[t.toNat].log:=by simp[logOfT,hi]
  have hthere:=own_there ⟨h1,ht⟩
  rw[hlg] at hthere
  have hwm:=waitM_yes hthere
  have hbf:batchFor m t=wsTo m (ownOf m t) m.threads[t.toNat].log m.threads.length:=by unfold batchFor;rw[hlg]
  have hmem:∀ w∈batchFor m t,0≤w∧w<m.threads.length:=fun w hw=>by unfold batchFor at hw;exact wsTo_mem hw
  have hbl:(batchFor m t).length≤4:=by have:=wsTo_len m (ownOf m t) (logOfT m t.toNat) m.threads.length;have:=hc.2.2.2.1;unfold batchFor;omega
  rw[← hbf] at hwm
  obtain⟨ws,hbf'⟩:∃ ws,batchFor m t=ws:=⟨_,rfl⟩
  rw[hbf'] at hwm hbf hmem hbl
  unfold ownOf at *
  refine PCall.of (F:=m76) rfl rfl rfl (ok_mach1 _ _) ?_
  simp -implicitDefEqProofs[m76]
  refine CallT.bool2 (by simp) (c_there13 m 0 0 t h hin) (fun hb=>?_) (fun hb=>absurd ⟨there00 h1,ht⟩ hb)
  simp -implicitDefEqProofs[ht0,ht1,hi,z0,hst]
  refine CallT.pure (c_Copy13 m h) (by simp) (ok_mach _) ?_
  simp -implicitDefEqProofs[ht0,ht1,hi,z0,hrn]
  refine CallT.pure (c_Waiting13 m (t.tmod m.config.replicas) m.threads[t.toNat].log h hin) (by simp) (ok_waits _ _) ?_
  rw[hwm]
  simp -implicitDefEqProofs[ht0,ht1,hi,z0]
  refine loop_by (TkJ m ws (.a (.int .i64 t))) ?_ ws.length ⟨0,m.threads,by simp,rfl,by simp,by simp,by simp,by simp,by simp,by simp,⟨[.a (.int .i64 0),.a (.int .i64 0),.a (.int .i64 0),.a (.int .i64 0),.a (.int .i64 0),.a .nils,.a .nils,.a .nils,.a .nils],rfl,by simp⟩,by simp,by simp,by simp,by simp,by simp,by simp⟩
  rintro k E T ⟨i,L,hik,hL,hT0,hT1,hT2,hT3,hT4,v2,⟨w,hw,hv1⟩,hln,e1,e4,e6,e7,e9⟩
  have hLl:L.length=m.threads.length:=by rw[hL,clearP_len]
  by_cases hlt:i<ws.length
  ·have g1:=List.getElem?_eq_getElem hlt
   have hw:=hmem _ (List.getElem_mem hlt)
   have hw0:=hw.1
   have hw1:=hw.2
   have hwn:ws[i].toNat<L.length:=by omega
   have hwn':ws[i].toNat<m.threads.length:=by omega
   have zw:0<ws.length:=by omega
   simp -implicitDefEqProofs[e6,e7,e9,v2,hT0,hT1,hT2,hT3,hT4,hlt,g1,hw0,hw1,hwn',z0,hi,zw,hLl]
   refine⟨k - 1,by omega,i+1,L.modify ws[i].toNat unpost,by omega,by rw[clearP_succ hlt,hL],by simp[hT0],by simp[hT1], ?_,by simp[hT3],by simp[hT4],by simp[v2],⟨w,by assumption,by simp[hv1]⟩,by simp[hln],by simp[e1],by simp[e4],by simp[e6],by simp[e7],by first|(simp;done)|(simp;exact wrap_nat (by omega))⟩
   rw[modify_of (List.getElem?_eq_getElem hwn)]
   simp[encThread,unpost]
  ·have hiL:t.toNat<L.length:=by omega
   have hL':clearP ws m.threads=L:=by rw[hL,List.take_of_length_le (by omega)]
   have hfin:∀ x:Int,(takeM' m t ws x)={ m with threads:=L.set t.toNat (setLoad x (setBatch ws L[t.toNat])) }:=fun x=>by
    unfold takeM'
    rw[clearP_modify (f:=setBatch ws) ws (fun _=>rfl),hL',modify_of (List.getElem?_eq_getElem hiL),modify_of (p:=setBatch ws L[t.toNat]) (by rw[List.getElem?_set_self hiL]),List.set_set]
   rw[takeM_eq hbf',hfin]
   by_cases hws:ws=[]
   ·have hw0:ws.length=0:=by rw[hws];rfl
    simp -implicitDefEqProofs[e6,e7,e9,v2,hT0,hT1,hT2,hT3,hT4,e1,e4,hv1,hw,hlt,z0,hi,ht0,ht1,hLl,hw0,hws]
    all_goals simp[encThread,setLoad,setBatch,hws]
   ·have hw0:¬ ws.length=0:=fun e=>hws (List.length_eq_zero_iff.1 e)
    have hw1:((ws.length:Int)==0)=false:=by simp[hw0]
    simp -implicitDefEqProofs[e6,e7,e9,v2,hT0,hT1,hT2,hT3,hT4,e1,e4,hv1,hw,hlt,z0,hi,ht0,ht1,hLl,hw1,hws]
    all_goals simp[encThread,setLoad,setBatch,hws]
 ·rw[collM_no hall]
  refine PCall.of (F:=m76) rfl rfl rfl (ok_mach1 _ _) ?_
  simp -implicitDefEqProofs[m76]
  refine CallT.bool2 (by simp) (c_there13 m 0 0 t h hin) (fun hb=>?_) (fun hb=>?_)
  ·obtain⟨⟨h1,_⟩,ht⟩:=hb
   have hn:=h1.2.1
   simp only[macNums] at hn
   have ht0:=ht.1
   have ht1:t<m.threads.length:=by have:=ht.2;omega
   have hi:t.toNat<m.threads.length:=by omega
   have z0:0<m.threads.length:=by omega
   have hst:¬ m.threads[t.toNat].step=3:=fun e=>hall ⟨⟨h1,ht⟩,by simpa [stepOfT,hi] using e⟩
   simp -implicitDefEqProofs[ht0,ht1,hi,z0,hst]
  ·simp -implicitDefEqProofs

end Go.Ab

namespace Go.Ab

theorem okM_post20 {m:Machine} (h:okM m) (t:Int):okM (postM m t).1:=by
 unfold postM
 split
 ·exact okM_setThread h _ fun _ hx=>hx
 ·exact okM_no18

theorem stepLock9 {m:Machine} {t x:Int} {r g:Nat} (hi:t.toNat<m.threads.length):stepM (setLock m r g x) t 10={ m with replicas:=(setLock m r g x).replicas,threads:=m.threads.set t.toNat { m.threads[t.toNat] with step:=10 } }:=by
 exact stepM_of (m:=setLock m r g x) hi 10
theorem thrLock9 {m:Machine} {t x:Int} {r g:Nat} (hi:t.toNat<m.threads.length):(setThread (setLock m r g x) t.toNat fun y=>{ y with batch:=[],at_:=0,step:=10 })={ m with replicas:=(setLock m r g x).replicas,threads:=m.threads.set t.toNat { m.threads[t.toNat] with batch:=[],at_:=0,step:=10 } }:=by
 rw[setThread_of (m:=setLock m r g x) hi];rfl

set_option maxHeartbeats 4000000 in
theorem c_Upd13_1 (m:Machine) (t:Int) (h:okM m) (hin:∀ r∈m.rings,inR r.head) (hl:updP m t) (hs:(thrAt m t.toNat).step=1):PCall tab 35 [.agg (encMachine false m),.int .i64 t] (.tup [.agg (encMachine true (stepM (postM m t).1 t 2,(0:Int)).1),.int .i64 (stepM (postM m t).1 t 2,(0:Int)).2]):=by
 obtain⟨hat,hup⟩:=hl
 obtain⟨r,log,hi,hri,hj,hk,hlk,hrm,et,hlg,hown,hlog,hA,hF⟩:=wk h hat
 have h1:=hat.1
 have hc:=h1.1
 have hn:=h1.2.1
 have ht0:=hat.2.1
 have ht1:=hF.1.2.1
 rw[et] at hup
 rw[et] at hs
 have e1:(m.threads[t.toNat].step==1)=true:=by simp[hs]
 have hP:=c_Post13 m t h hin
 have hS:=c_stepped (postM m t).1 t 2 (okM_post20 h t) ht0 (by rw[postM_yes hat];unfold setThread;simpa using ht1)
 generalize stepM (postM m t).1 t 2=D at hS ⊢
 generalize postM m t=B at hP hS
 obtain⟨B,e0⟩:=B
 refine PCall.of (F:=m35) rfl rfl rfl (ok_mach1 _ _) ?_
 simp -implicitDefEqProofs[m35]
 refine CallT.bool2 (by simp) (c_there13 m 0 0 t h hin) (fun hb=>?_) (fun hb=>absurd ⟨there00 h1,hat.2⟩ hb)
 simp -implicitDefEqProofs[hF]
 refine CallT.bool2 (by simp[hF]) (c_Updates1 m.threads[t.toNat].op) (fun hb2=>?_) (fun hb2=>absurd hup hb2)
 simp -implicitDefEqProofs[hF,sT,sP,-List.map_set,e1]
 refine CallT.pure hP (by simp) (ok_mach1 _ _) ?_
 simp -implicitDefEqProofs[hF,sT,sP,-List.map_set,e1]
 refine CallT.pure hS (by simp) (ok_mach _) ?_
 simp -implicitDefEqProofs

set_option maxHeartbeats 4000000 in
theorem c_Upd13_2 (m:Machine) (t:Int) (h:okM m) (hin:∀ r∈m.rings,inR r.head) (hl:updP m t) (hs:(thrAt m t.toNat).step=2):PCall tab 35 [.agg (encMachine false m),.int .i64 t] (.tup [.agg (encMachine true (if ownLock m t=0 then stepM (setLock m (ownOf m t).toNat (thrAt m t.toNat).log.toNat (t+1)) t 3 else stepM m t 10,(0:Int)).1),.int .i64 (if ownLock m t=0 then stepM (setLock m (ownOf m t).toNat (thrAt m t.toNat).log.toNat (t+1)) t 3 else stepM m t 10,(0:Int)).2]):=by
 obtain⟨hat,hup⟩:=hl
 obtain⟨r,log,hi,hri,hj,hk,hlk,hrm,et,hlg,hown,hlog,hA,hF⟩:=wk h hat
 have h1:=hat.1
 have hc:=h1.1
 have hn:=h1.2.1
 have ht0:=hat.2.1
 have ht1:=hF.1.2.1
 rw[et] at hup
 rw[et] at hs
 have e1:(m.threads[t.toNat].step==1)=false:=by simp[hs]
 have e2:(m.threads[t.toNat].step==2)=true:=by simp[hs]
 have hT:=c_Try13 m r log t h hin
 rw[tryM_yes ⟨⟨h1,hown,hlog⟩,hat.2⟩] at hT
 rw[show ownLock m t=lockAt m r.toNat log.toNat by unfold ownLock;rw[et,hlg,hrm]]
 rw[et,hlg,hrm]
 refine PCall.of (F:=m35) rfl rfl rfl (ok_mach1 _ _) ?_
 simp -implicitDefEqProofs[m35]
 refine CallT.bool2 (by simp) (c_there13 m 0 0 t h hin) (fun hb=>?_) (fun hb=>absurd ⟨there00 h1,hat.2⟩ hb)
 simp -implicitDefEqProofs[hF]
 refine CallT.bool2 (by simp[hF]) (c_Updates1 m.threads[t.toNat].op) (fun hb2=>?_) (fun hb2=>absurd hup hb2)
 by_cases hf:lockAt m r.toNat log.toNat=0
 ·rw[if_pos hf] at hT ⊢
  have hS:=c_stepped (setLock m r.toNat log.toNat (t+1)) t 3 (okM_lock h _ _ _) ht0 ht1
  generalize stepM (setLock m r.toNat log.toNat (t+1)) t 3=D at hS ⊢
  simp only[hf,decide_true] at hT
  generalize setLock m r.toNat log.toNat (t+1)=B at hS hT
  simp -implicitDefEqProofs[hF,sT,sP,-List.map_set,e1,e2]
  refine CallT.pure hT (by simp) (ok_mach2 _ _ _ _) ?_
  simp -implicitDefEqProofs[hF,sT,sP,-List.map_set,e1,e2]
  refine CallT.pure hS (by simp) (ok_mach _) ?_
  simp -implicitDefEqProofs
 ·rw[if_neg hf] at hT ⊢
  have hS:=c_stepped m t 10 h ht0 ht1
  generalize stepM m t 10=D at hS ⊢
  simp only[hf,decide_false] at hT
  simp -implicitDefEqProofs[hF,sT,sP,-List.map_set,e1,e2]
  refine CallT.pure hT (by simp) (ok_mach2 _ _ _ _) ?_
  simp -implicitDefEqProofs[hF,sT,sP,-List.map_set,e1,e2]
  refine CallT.pure hS (by simp) (ok_mach _) ?_
  simp -implicitDefEqProofs

set_option maxHeartbeats 4000000 in
theorem c_Upd13_3 (m:Machine) (t:Int) (h:okM m) (hin:∀ r∈m.rings,inR r.head) (hl:updP m t) (hs:(thrAt m t.toNat).step=3):PCall tab 35 [.agg (encMachine false m),.int .i64 t] (.tup [.agg (encMachine true (collM m t).1),.int .i64 (collM m t).2]):=by
 obtain⟨hat,hup⟩:=hl
 obtain⟨r,log,hi,hri,hj,hk,hlk,hrm,et,hlg,hown,hlog,hA,hF⟩:=wk h hat
 have h1:=hat.1
 have hc:=h1.1
 have hn:=h1.2.1
 have ht0:=hat.2.1
 have ht1:=hF.1.2.1
 rw[et] at hup
 rw[et] at hs
 have e1:(m.threads[t.toNat].step==1)=false:=by simp[hs]
 have e2:(m.threads[t.toNat].step==2)=false:=by simp[hs]
 have e3:(m.threads[t.toNat].step==3)=true:=by simp[hs]
 have hC:=c_Collect13 m t h hin
 generalize collM m t=D at hC ⊢
 obtain⟨D,e0⟩:=D
 refine PCall.of (F:=m35) rfl rfl rfl (ok_mach1 _ _) ?_
 simp -implicitDefEqProofs[m35]
 refine CallT.bool2 (by simp) (c_there13 m 0 0 t h hin) (fun hb=>?_) (fun hb=>absurd ⟨there00 h1,hat.2⟩ hb)
 simp -implicitDefEqProofs[hF]
 refine CallT.bool2 (by simp[hF]) (c_Updates1 m.threads[t.toNat].op) (fun hb2=>?_) (fun hb2=>absurd hup hb2)
 simp -implicitDefEqProofs[hF,sT,sP,-List.map_set,e1,e2,e3]
 refine CallT.pure hC (by simp) (ok_mach1 _ _) ?_
 simp -implicitDefEqProofs

set_option maxHeartbeats 4000000 in
theorem c_Upd13_4 (m:Machine) (t:Int) (h:okM m) (hin:∀ r∈m.rings,inR r.head) (hl:updP m t) (hs:(thrAt m t.toNat).step=4):PCall tab 35 [.agg (encMachine false m),.int .i64 t] (.tup [.agg (encMachine false (if (claimM m t).2=0 then claimM m t else (noMachine,2000)).1),.int .i64 (if (claimM m t).2=0 then claimM m t else (noMachine,2000)).2]):=by
 obtain⟨hat,hup⟩:=hl
 obtain⟨r,log,hi,hri,hj,hk,hlk,hrm,et,hlg,hown,hlog,hA,hF⟩:=wk h hat
 have h1:=hat.1
 have hc:=h1.1
 have hn:=h1.2.1
 have ht0:=hat.2.1
 have ht1:=hF.1.2.1
 rw[et] at hup
 rw[et] at hs
 have e1:(m.threads[t.toNat].step==1)=false:=by simp[hs]
 have e2:(m.threads[t.toNat].step==2)=false:=by simp[hs]
 have e3:(m.threads[t.toNat].step==3)=false:=by simp[hs]
 have e4:(m.threads[t.toNat].step==4)=true:=by simp[hs]
 have hC:=c_Claim13 m t h hin
 generalize claimM m t=D at hC ⊢
 obtain⟨D,e0⟩:=D
 dsimp only at hC ⊢
 refine PCall.ofZ (F:=m35) rfl rfl rfl ?_
 simp -implicitDefEqProofs[m35]
 refine CallT.bool2 (by simp) (c_there13 m 0 0 t h hin) (fun hb=>?_) (fun hb=>absurd ⟨there00 h1,hat.2⟩ hb)
 simp -implicitDefEqProofs[hF]
 refine CallT.bool2 (by simp[hF]) (c_Updates1 m.threads[t.toNat].op) (fun hb2=>?_) (fun hb2=>absurd hup hb2)
 by_cases he:e0=0
 ·rw[if_pos he]
  simp -implicitDefEqProofs[hF,sT,sP,-List.map_set,e1,e2,e3,e4]
  refine CallT.pure hC (by simp) (ok_mach1F _ _) ?_
  simp -implicitDefEqProofs[he,unzT,unzP,okT,okP]
 ·have b1:(e0 != 0)=true:=by simp[he]
  rw[if_neg he]
  simp -implicitDefEqProofs[hF,sT,sP,-List.map_set,e1,e2,e3,e4]
  refine CallT.pure hC (by simp) (ok_mach1F _ _) ?_
  simp -implicitDefEqProofs[he,b1,unzT,unzP,okT,okP]

set_option maxHeartbeats 4000000 in
theorem c_Upd13_5 (m:Machine) (t:Int) (h:okM m) (hin:∀ r∈m.rings,inR r.head) (hl:updP m t) (hs:(thrAt m t.toNat).step=5):PCall tab 35 [.agg (encMachine false m),.int .i64 t] (.tup [.agg (encMachine false (if (claimM m t).2=0 then claimM m t else (noMachine,2000)).1),.int .i64 (if (claimM m t).2=0 then claimM m t else (noMachine,2000)).2]):=by
 obtain⟨hat,hup⟩:=hl
 obtain⟨r,log,hi,hri,hj,hk,hlk,hrm,et,hlg,hown,hlog,hA,hF⟩:=wk h hat
 have h1:=hat.1
 have hc:=h1.1
 have hn:=h1.2.1
 have ht0:=hat.2.1
 have ht1:=hF.1.2.1
 rw[et] at hup
 rw[et] at hs
 have e1:(m.threads[t.toNat].step==1)=false:=by simp[hs]
 have e2:(m.threads[t.toNat].step==2)=false:=by simp[hs]
 have e3:(m.threads[t.toNat].step==3)=false:=by simp[hs]
 have e4:(m.threads[t.toNat].step==4)=false:=by simp[hs]
 have e5:(m.threads[t.toNat].step==5)=true:=by simp[hs]
 have hC:=c_Claim13 m t h hin
 generalize claimM m t=D at hC ⊢
 obtain⟨D,e0⟩:=D
 dsimp only at hC ⊢
 refine PCall.ofZ (F:=m35) rfl rfl rfl ?_
 simp -implicitDefEqProofs[m35]
 refine CallT.bool2 (by simp) (c_there13 m 0 0 t h hin) (fun hb=>?_) (fun hb=>absurd ⟨there00 h1,hat.2⟩ hb)
 simp -implicitDefEqProofs[hF]
 refine CallT.bool2 (by simp[hF]) (c_Updates1 m.threads[t.toNat].op) (fun hb2=>?_) (fun hb2=>absurd hup hb2)
 by_cases he:e0=0
 ·rw[if_pos he]
  simp -implicitDefEqProofs[hF,sT,sP,-List.map_set,e1,e2,e3,e4,e5]
  refine CallT.pure hC (by simp) (ok_mach1F _ _) ?_
  simp -implicitDefEqProofs[he,unzT,unzP,okT,okP]
 ·have b1:(e0 != 0)=true:=by simp[he]
  rw[if_neg he]
  simp -implicitDefEqProofs[hF,sT,sP,-List.map_set,e1,e2,e3,e4,e5]
  refine CallT.pure hC (by simp) (ok_mach1F _ _) ?_
  simp -implicitDefEqProofs[he,b1,unzT,unzP,okT,okP]

set_option maxHeartbeats 4000000 in
theorem c_Upd13_6 (m:Machine) (t:Int) (h:okM m) (hin:∀ r∈m.rings,inR r.head) (hl:updP m t) (hs:(thrAt m t.toNat).step=6):PCall tab 35 [.agg (encMachine false m),.int .i64 t] (.tup [.agg (encMachine false (if (claimM m t).2=0 then claimM m t else (noMachine,2000)).1),.int .i64 (if (claimM m t).2=0 then claimM m t else (noMachine,2000)).2]):=by
 obtain⟨hat,hup⟩:=hl
 obtain⟨r,log,hi,hri,hj,hk,hlk,hrm,et,hlg,hown,hlog,hA,hF⟩:=wk h hat
 have h1:=hat.1
 have hc:=h1.1
 have hn:=h1.2.1
 have ht0:=hat.2.1
 have ht1:=hF.1.2.1
 rw[et] at hup
 rw[et] at hs
 have e1:(m.threads[t.toNat].step==1)=false:=by simp[hs]
 have e2:(m.threads[t.toNat].step==2)=false:=by simp[hs]
 have e3:(m.threads[t.toNat].step==3)=false:=by simp[hs]
 have e4:(m.threads[t.toNat].step==4)=false:=by simp[hs]
 have e5:(m.threads[t.toNat].step==5)=false:=by simp[hs]
 have e6:(m.threads[t.toNat].step==6)=true:=by simp[hs]
 have hC:=c_Claim13 m t h hin
 generalize claimM m t=D at hC ⊢
 obtain⟨D,e0⟩:=D
 dsimp only at hC ⊢
 refine PCall.ofZ (F:=m35) rfl rfl rfl ?_
 simp -implicitDefEqProofs[m35]
 refine CallT.bool2 (by simp) (c_there13 m 0 0 t h hin) (fun hb=>?_) (fun hb=>absurd ⟨there00 h1,hat.2⟩ hb)
 simp -implicitDefEqProofs[hF]
 refine CallT.bool2 (by simp[hF]) (c_Updates1 m.threads[t.toNat].op) (fun hb2=>?_) (fun hb2=>absurd hup hb2)
 by_cases he:e0=0
 ·rw[if_pos he]
  simp -implicitDefEqProofs[hF,sT,sP,-List.map_set,e1,e2,e3,e4,e5,e6]
  refine CallT.pure hC (by simp) (ok_mach1F _ _) ?_
  simp -implicitDefEqProofs[he,unzT,unzP,okT,okP]
 ·have b1:(e0 != 0)=true:=by simp[he]
  rw[if_neg he]
  simp -implicitDefEqProofs[hF,sT,sP,-List.map_set,e1,e2,e3,e4,e5,e6]
  refine CallT.pure hC (by simp) (ok_mach1F _ _) ?_
  simp -implicitDefEqProofs[he,b1,unzT,unzP,okT,okP]

set_option maxHeartbeats 4000000 in
theorem c_Upd13_7 (m:Machine) (t:Int) (h:okM m) (hin:∀ r∈m.rings,inR r.head) (hl:updP m t) (hs:(thrAt m t.toNat).step=7):PCall tab 35 [.agg (encMachine false m),.int .i64 t] (.tup [.agg (encMachine false (if (claimM m t).2=0 then claimM m t else (noMachine,2000)).1),.int .i64 (if (claimM m t).2=0 then claimM m t else (noMachine,2000)).2]):=by
 obtain⟨hat,hup⟩:=hl
 obtain⟨r,log,hi,hri,hj,hk,hlk,hrm,et,hlg,hown,hlog,hA,hF⟩:=wk h hat
 have h1:=hat.1
 have hc:=h1.1
 have hn:=h1.2.1
 have ht0:=hat.2.1
 have ht1:=hF.1.2.1
 rw[et] at hup
 rw[et] at hs
 have e1:(m.threads[t.toNat].step==1)=false:=by simp[hs]
 have e2:(m.threads[t.toNat].step==2)=false:=by simp[hs]
 have e3:(m.threads[t.toNat].step==3)=false:=by simp[hs]
 have e4:(m.threads[t.toNat].step==4)=false:=by simp[hs]
 have e5:(m.threads[t.toNat].step==5)=false:=by simp[hs]
 have e6:(m.threads[t.toNat].step==6)=false:=by simp[hs]
 have e7:(m.threads[t.toNat].step==7)=true:=by simp[hs]
 have hC:=c_Claim13 m t h hin
 generalize claimM m t=D at hC ⊢
 obtain⟨D,e0⟩:=D
 dsimp only at hC ⊢
 refine PCall.ofZ (F:=m35) rfl rfl rfl ?_
 simp -implicitDefEqProofs[m35]
 refine CallT.bool2 (by simp) (c_there13 m 0 0 t h hin) (fun hb=>?_) (fun hb=>absurd ⟨there00 h1,hat.2⟩ hb)
 simp -implicitDefEqProofs[hF]
 refine CallT.bool2 (by simp[hF]) (c_Updates1 m.threads[t.toNat].op) (fun hb2=>?_) (fun hb2=>absurd hup hb2)
 by_cases he:e0=0
 ·rw[if_pos he]
  simp -implicitDefEqProofs[hF,sT,sP,-List.map_set,e1,e2,e3,e4,e5,e6,e7]
  refine CallT.pure hC (by simp) (ok_mach1F _ _) ?_
  simp -implicitDefEqProofs[he,unzT,unzP,okT,okP]
 ·have b1:(e0 != 0)=true:=by simp[he]
  rw[if_neg he]
  simp -implicitDefEqProofs[hF,sT,sP,-List.map_set,e1,e2,e3,e4,e5,e6,e7]
  refine CallT.pure hC (by simp) (ok_mach1F _ _) ?_
  simp -implicitDefEqProofs[he,b1,unzT,unzP,okT,okP]

set_option maxHeartbeats 4000000 in
theorem c_Upd13_8 (m:Machine) (t:Int) (h:okM m) (hin:∀ r∈m.rings,inR r.head) (hl:updP m t) (hs:(thrAt m t.toNat).step=8):PCall tab 35 [.agg (encMachine false m),.int .i64 t] (.tup [.agg (encMachine false (if (thrAt m t.toNat).seen+(thrAt m t.toNat).batch.length≤ownCur m t then stepM m t 9 else (oneM m (ownOf m t) (thrAt m t.toNat).log).1,(0:Int)).1),.int .i64 (if (thrAt m t.toNat).seen+(thrAt m t.toNat).batch.length≤ownCur m t then stepM m t 9 else (oneM m (ownOf m t) (thrAt m t.toNat).log).1,(0:Int)).2]):=by
 obtain⟨hat,hup⟩:=hl
 obtain⟨r,log,hi,hri,hj,hk,hlk,hrm,et,hlg,hown,hlog,hA,hF⟩:=wk h hat
 have h1:=hat.1
 have hc:=h1.1
 have hn:=h1.2.1
 have ht0:=hat.2.1
 have ht1:=hF.1.2.1
 rw[et] at hup
 rw[et] at hs
 have e1:(m.threads[t.toNat].step==1)=false:=by simp[hs]
 have e2:(m.threads[t.toNat].step==2)=false:=by simp[hs]
 have e3:(m.threads[t.toNat].step==3)=false:=by simp[hs]
 have e4:(m.threads[t.toNat].step==4)=false:=by simp[hs]
 have e5:(m.threads[t.toNat].step==5)=false:=by simp[hs]
 have e6:(m.threads[t.toNat].step==6)=false:=by simp[hs]
 have e7:(m.threads[t.toNat].step==7)=false:=by simp[hs]
 have e8:(m.threads[t.toNat].step==8)=true:=by simp[hs]
 have hth:=(h1.2.2.2.2.1 _ (List.getElem_mem hi)).1
 simp only[atNums] at hth
 have w1:IntKind.wrap .i64 (m.threads[t.toNat].seen+m.threads[t.toNat].batch.length)=m.threads[t.toNat].seen+m.threads[t.toNat].batch.length:=wrap_of (by omega) (by have:=hc.2.2.2.1;omega)
 have hS:=c_stepped m t 9 h ht0 ht1
 have hR:=c_replaying m r log h hin
 rw[show ownCur m t=m.replicas[r.toNat].cursors[log.toNat] by unfold ownCur;rw[et,hlg,hrm];exact curAt_of hA,et,hlg,hrm]
 refine PCall.ofZ (F:=m35) rfl rfl rfl ?_
 simp -implicitDefEqProofs[m35]
 refine CallT.bool2 (by simp) (c_there13 m 0 0 t h hin) (fun hb=>?_) (fun hb=>absurd ⟨there00 h1,hat.2⟩ hb)
 simp -implicitDefEqProofs[hF]
 refine CallT.bool2 (by simp[hF]) (c_Updates1 m.threads[t.toNat].op) (fun hb2=>?_) (fun hb2=>absurd hup hb2)
 by_cases hf:m.threads[t.toNat].seen+m.threads[t.toNat].batch.length≤m.replicas[r.toNat].cursors[log.toNat]
 ·rw[if_pos hf]
  generalize stepM m t 9=D at hS ⊢
  simp -implicitDefEqProofs[hF,sT,sP,-List.map_set,e1,e2,e3,e4,e5,e6,e7,e8,w1,hf]
  refine CallT.pure hS (by simp) (ok_mach _) ?_
  simp -implicitDefEqProofs[unzT,unzP,okT,okP]
 ·rw[if_neg hf]
  generalize (oneM m r log).1=D at hR ⊢
  simp -implicitDefEqProofs[hF,sT,sP,-List.map_set,e1,e2,e3,e4,e5,e6,e7,e8,w1,hf]
  refine CallT.pure hR (by simp) (ok_machF _) ?_
  simp -implicitDefEqProofs[unzT,unzP,okT,okP]

set_option maxHeartbeats 4000000 in
theorem c_Upd13_9 (m:Machine) (t:Int) (h:okM m) (hin:∀ r∈m.rings,inR r.head) (hl:updP m t) (hs:(thrAt m t.toNat).step=9):PCall tab 35 [.agg (encMachine false m),.int .i64 t] (.tup [.agg (encMachine true (setThread (setLock m (ownOf m t).toNat (thrAt m t.toNat).log.toNat 0) t.toNat fun y=>{ y with batch:=[],at_:=0,step:=10 },(0:Int)).1),.int .i64 (setThread (setLock m (ownOf m t).toNat (thrAt m t.toNat).log.toNat 0) t.toNat fun y=>{ y with batch:=[],at_:=0,step:=10 },(0:Int)).2]):=by
 obtain⟨hat,hup⟩:=hl
 obtain⟨r,log,hi,hri,hj,hk,hlk,hrm,et,hlg,hown,hlog,hA,hF⟩:=wk h hat
 have h1:=hat.1
 have hc:=h1.1
 have hn:=h1.2.1
 have ht0:=hat.2.1
 have ht1:=hF.1.2.1
 rw[et] at hup
 rw[et] at hs
 have e1:(m.threads[t.toNat].step==1)=false:=by simp[hs]
 have e2:(m.threads[t.toNat].step==2)=false:=by simp[hs]
 have e3:(m.threads[t.toNat].step==3)=false:=by simp[hs]
 have e4:(m.threads[t.toNat].step==4)=false:=by simp[hs]
 have e5:(m.threads[t.toNat].step==5)=false:=by simp[hs]
 have e6:(m.threads[t.toNat].step==6)=false:=by simp[hs]
 have e7:(m.threads[t.toNat].step==7)=false:=by simp[hs]
 have e8:(m.threads[t.toNat].step==8)=false:=by simp[hs]
 have e9:(m.threads[t.toNat].step==9)=true:=by simp[hs]
 have hS:=c_stepped m t 10 h ht0 ht1
 have hFr:=c_Free13 (stepM m t 10) r log (okM_step h _ _) hin
 rw[freeM_yes (show thereP (stepM m t 10) r log from ⟨may_step h1 t (by omega) (by omega),hown,hlog⟩)] at hFr
 rw[et,hlg,hrm]
 rw[show setLock (stepM m t 10) r.toNat log.toNat 0=stepM (setLock m r.toNat log.toNat 0) t 10 from rfl,stepLock9 hi] at hFr
 rw[thrLock9 hi]
 generalize stepM m t 10=B at hS hFr
 obtain⟨R,hR⟩:∃ R,(setLock m r.toNat log.toNat 0).replicas=R:=⟨_,rfl⟩
 rw[hR] at hFr ⊢
 refine PCall.of (F:=m35) rfl rfl rfl (ok_mach1 _ _) ?_
 simp -implicitDefEqProofs[m35]
 refine CallT.bool2 (by simp) (c_there13 m 0 0 t h hin) (fun hb=>?_) (fun hb=>absurd ⟨there00 h1,hat.2⟩ hb)
 simp -implicitDefEqProofs[hF]
 refine CallT.bool2 (by simp[hF]) (c_Updates1 m.threads[t.toNat].op) (fun hb2=>?_) (fun hb2=>absurd hup hb2)
 simp -implicitDefEqProofs[hF,sT,sP,-List.map_set,e1,e2,e3,e4,e5,e6,e7,e8,e9]
 refine CallT.pure hS (by simp) (ok_mach _) ?_
 simp -implicitDefEqProofs[hF,sT,sP,-List.map_set,e1,e2,e3,e4,e5,e6,e7,e8,e9]
 refine CallT.pure hFr (by simp) (ok_mach1 _ _) ?_
 simp -implicitDefEqProofs[hF,sT,sP,-List.map_set,e1,e2,e3,e4,e5,e6,e7,e8,e9]
 all_goals simp[encThread]

set_option maxHeartbeats 4000000 in
theorem c_Upd13_10 (m:Machine) (t:Int) (h:okM m) (hin:∀ r∈m.rings,inR r.head) (hl:updP m t) (hs:(thrAt m t.toNat).step=10):PCall tab 35 [.agg (encMachine false m),.int .i64 t] (.tup [.agg (encMachine true (if (thrAt m t.toNat).ready=true then finishM m t 2000 else (stepM m t 2,0)).1),.int .i64 (if (thrAt m t.toNat).ready=true then finishM m t 2000 else (stepM m t 2,0)).2]):=by
 obtain⟨hat,hup⟩:=hl
 obtain⟨r,log,hi,hri,hj,hk,hlk,hrm,et,hlg,hown,hlog,hA,hF⟩:=wk h hat
 have h1:=hat.1
 have hc:=h1.1
 have hn:=h1.2.1
 have ht0:=hat.2.1
 have ht1:=hF.1.2.1
 rw[et] at hup
 rw[et] at hs
 have e1:(m.threads[t.toNat].step==1)=false:=by simp[hs]
 have e2:(m.threads[t.toNat].step==2)=false:=by simp[hs]
 have e3:(m.threads[t.toNat].step==3)=false:=by simp[hs]
 have e4:(m.threads[t.toNat].step==4)=false:=by simp[hs]
 have e5:(m.threads[t.toNat].step==5)=false:=by simp[hs]
 have e6:(m.threads[t.toNat].step==6)=false:=by simp[hs]
 have e7:(m.threads[t.toNat].step==7)=false:=by simp[hs]
 have e8:(m.threads[t.toNat].step==8)=false:=by simp[hs]
 have e9:(m.threads[t.toNat].step==9)=false:=by simp[hs]
 have e10:(m.threads[t.toNat].step==10)=true:=by simp[hs]
 have hS:=c_stepped m t 2 h ht0 ht1
 have hQ:=c_finished m t 2000 h hn.2.2.2 ht0 ht1
 rw[et]
 refine PCall.of (F:=m35) rfl rfl rfl (ok_mach1 _ _) ?_
 simp -implicitDefEqProofs[m35]
 refine CallT.bool2 (by simp) (c_there13 m 0 0 t h hin) (fun hb=>?_) (fun hb=>absurd ⟨there00 h1,hat.2⟩ hb)
 simp -implicitDefEqProofs[hF]
 refine CallT.bool2 (by simp[hF]) (c_Updates1 m.threads[t.toNat].op) (fun hb2=>?_) (fun hb2=>absurd hup hb2)
 by_cases hf:m.threads[t.toNat].ready=true
 ·rw[if_pos hf]
  generalize finishM m t 2000=D at hQ ⊢
  simp -implicitDefEqProofs[hF,sT,sP,-List.map_set,e1,e2,e3,e4,e5,e6,e7,e8,e9,e10,hf]
  refine CallT.pure hQ (by simp) (ok_mach1 _ _) ?_
  simp -implicitDefEqProofs
 ·have hf2:m.threads[t.toNat].ready=false:=by simpa using hf
  rw[if_neg hf]
  generalize stepM m t 2=D at hS ⊢
  simp -implicitDefEqProofs[hF,sT,sP,-List.map_set,e1,e2,e3,e4,e5,e6,e7,e8,e9,e10,hf2]
  refine CallT.pure hS (by simp) (ok_mach _) ?_
  simp -implicitDefEqProofs

set_option maxHeartbeats 4000000 in
theorem c_Upd13_no (m:Machine) (t:Int) (h:okM m) (hin:∀ r∈m.rings,inR r.head) (hl:updP m t) (s1:¬ (thrAt m t.toNat).step=1) (s2:¬ (thrAt m t.toNat).step=2) (s3:¬ (thrAt m t.toNat).step=3) (s4:¬ (thrAt m t.toNat).step=4) (s5:¬ (thrAt m t.toNat).step=5) (s6:¬ (thrAt m t.toNat).step=6) (s7:¬ (thrAt m t.toNat).step=7) (s8:¬ (thrAt m t.toNat).step=8) (s9:¬ (thrAt m t.toNat).step=9) (s10:¬ (thrAt m t.toNat).step=10):PCall tab 35 [.agg (encMachine false m),.int .i64 t] (.tup [.agg (encMachine true ((noMachine,2000):Machine × Int).1),.int .i64 ((noMachine,2000):Machine × Int).2]):=by
 obtain⟨hat,hup⟩:=hl
 obtain⟨r,log,hi,hri,hj,hk,hlk,hrm,et,hlg,hown,hlog,hA,hF⟩:=wk h hat
 have h1:=hat.1
 have hc:=h1.1
 have hn:=h1.2.1
 have ht0:=hat.2.1
 have ht1:=hF.1.2.1
 rw[et] at hup
 rw[et] at s1 s2 s3 s4 s5 s6 s7 s8 s9 s10
 have e1:(m.threads[t.toNat].step==1)=false:=by simp[s1]
 have e2:(m.threads[t.toNat].step==2)=false:=by simp[s2]
 have e3:(m.threads[t.toNat].step==3)=false:=by simp[s3]
 have e4:(m.threads[t.toNat].step==4)=false:=by simp[s4]
 have e5:(m.threads[t.toNat].step==5)=false:=by simp[s5]
 have e6:(m.threads[t.toNat].step==6)=false:=by simp[s6]
 have e7:(m.threads[t.toNat].step==7)=false:=by simp[s7]
 have e8:(m.threads[t.toNat].step==8)=false:=by simp[s8]
 have e9:(m.threads[t.toNat].step==9)=false:=by simp[s9]
 have e10:(m.threads[t.toNat].step==10)=false:=by simp[s10]
 refine PCall.of (F:=m35) rfl rfl rfl (ok_mach1 _ _) ?_
 simp -implicitDefEqProofs[m35]
 refine CallT.bool2 (by simp) (c_there13 m 0 0 t h hin) (fun hb=>?_) (fun hb=>absurd ⟨there00 h1,hat.2⟩ hb)
 simp -implicitDefEqProofs[hF]
 refine CallT.bool2 (by simp[hF]) (c_Updates1 m.threads[t.toNat].op) (fun hb2=>?_) (fun hb2=>absurd hup hb2)
 simp -implicitDefEqProofs[hF,sT,sP,-List.map_set,e1,e2,e3,e4,e5,e6,e7,e8,e9,e10]

theorem c_Update13 (m:Machine) (t:Int) (h:okM m) (hin:∀ r∈m.rings,inR r.head):PCall tab 35 [.agg (encMachine false m),.int .i64 t] (.tup [.agg (encMachine false (updM m t).1),.int .i64 (updM m t).2]):=by
 by_cases hl:updP m t
 ·rw[updM_yes hl]
  by_cases s1:(thrAt m t.toNat).step=1
  ·rw[s1];exact (c_Upd13_1 m t h hin hl s1).mach1Z
  by_cases s2:(thrAt m t.toNat).step=2
  ·rw[s2];exact (c_Upd13_2 m t h hin hl s2).mach1Z
  by_cases s3:(thrAt m t.toNat).step=3
  ·rw[s3];exact (c_Upd13_3 m t h hin hl s3).mach1Z
  by_cases s4:(thrAt m t.toNat).step=4
  ·rw[s4];exact c_Upd13_4 m t h hin hl s4
  by_cases s5:(thrAt m t.toNat).step=5
  ·rw[s5];exact c_Upd13_5 m t h hin hl s5
  by_cases s6:(thrAt m t.toNat).step=6
  ·rw[s6];exact c_Upd13_6 m t h hin hl s6
  by_cases s7:(thrAt m t.toNat).step=7
  ·rw[s7];exact c_Upd13_7 m t h hin hl s7
  by_cases s8:(thrAt m t.toNat).step=8
  ·rw[s8];exact c_Upd13_8 m t h hin hl s8
  by_cases s9:(thrAt m t.toNat).step=9
  ·rw[s9];exact (c_Upd13_9 m t h hin hl s9).mach1Z
  by_cases s10:(thrAt m t.toNat).step=10
  ·rw[s10];exact (c_Upd13_10 m t h hin hl s10).mach1Z
  rw[show updX m t (thrAt m t.toNat) (ownCur m t) (ownLock m t) (thrAt m t.toNat).step=(noMachine,2000) by simp[updX,s1,s2,s3,s4,s5,s6,s7,s8,s9,s10]]
  exact (c_Upd13_no m t h hin hl s1 s2 s3 s4 s5 s6 s7 s8 s9 s10).mach1Z
 ·rw[updM_no hl]
  refine PCall.mach1Z ?_
  by_cases hat:atP m t
  ·obtain⟨hi,ht0,ht1,hlog,hown⟩:=at_thr hat
   have z0:0<m.threads.length:=by omega
   have hup:¬ updates m.threads[t.toNat].op:=fun e=>hl ⟨hat,by rw[thrAt_of hi];exact e⟩
   refine PCall.of (F:=m35) rfl rfl rfl (ok_mach1 _ _) ?_
   simp -implicitDefEqProofs[m35]
   refine CallT.bool2 (by simp) (c_there13 m 0 0 t h hin) (fun hb=>?_) (fun hb=>absurd ⟨there00 hat.1,hat.2⟩ hb)
   simp -implicitDefEqProofs[ht0,ht1,hi,z0]
   refine CallT.bool2 (by simp[ht0,ht1,hi,z0]) (c_Updates1 m.threads[t.toNat].op) (fun hb2=>absurd hb2 hup) (fun hb2=>?_)
   simp -implicitDefEqProofs
  ·refine PCall.of (F:=m35) rfl rfl rfl (ok_mach1 _ _) ?_
   simp -implicitDefEqProofs[m35]
   refine CallT.bool2 (by simp) (c_there13 m 0 0 t h hin) (fun hb=>absurd ⟨hb.1.1,hb.2⟩ hat) (fun hb=>?_)
   simp -implicitDefEqProofs

end Go.Ab

namespace Go.Ab

end Go.Ab

namespace Go.Ab

def newM (c:Config):Machine × Int:=if cfgMay c then (machine0 c,0) else (noMachine,1400)
theorem newM_yes {c:Config} (h:cfgMay c):newM c=(machine0 c,0):=if_pos h
theorem newM_no {c:Config} (h:¬ cfgMay c):newM c=(noMachine,1400):=if_neg h

theorem c_NewRing1 (k:Int) (hk:slotsMay k):PCall tab 48 [.int .i64 k] (.tup [.agg (encRing true (ring0 k)),.int .i64 0]):=by
 refine PCall.of (F:=m48) rfl rfl rfl ?_ ?_
 ·simp[okT,okP,okC,List.all_map,flatV]
 simp -implicitDefEqProofs[m48]
 refine CallT.bool2 rfl (c_SlotsMay _) (fun hb=>?_) (fun hb=>absurd hk hb)
 have h1:0≤k:=by simp only[slotsMay] at hk;omega
 have h2:k * 40≤140737488355328:=by simp only[slotsMay] at hk;omega
 have h3:k≤140737488355328:=by omega
 simp -implicitDefEqProofs[h1,h2,h3]

theorem c_New13 (c:Config):PCall tab 23 [.agg (encConfig c)] (.tup [.agg (encMachine true (newM c).1),.int .i64 (newM c).2]):=by
 by_cases h:cfgMay c
 ·rw[newM_yes h]
  have hc:=h
  obtain⟨h1,h2,h3,h4,h5,h6⟩:=h
  have t1:0≤c.threads:=by omega
  have t2:c.threads*120≤140737488355328:=by omega
  have t3:c.threads≤140737488355328:=by omega
  have hs:=c_NewRing1 c.slots h5
  have l1:c.logs=1∨c.logs=2:=by simp only[logsMay] at h3;omega
  have l2:c.replicas=1∨c.replicas=2:=by omega
  refine PCall.of (F:=m23) rfl rfl rfl (ok_machine _ _ _) ?_
  rcases l1 with l1|l1<;>rcases l2 with l2|l2
  all_goals
   simp -implicitDefEqProofs[m23]
   refine CallT.bool2 rfl (c_ConfigMay c) (fun hb=>?_) (fun hb=>absurd hc hb)
   simp -implicitDefEqProofs[l1,l2,t1,t2,t3]
   repeat' (first
    | (with_reducible refine WCT.unroll ?_;simp -implicitDefEqProofs[l1,l2,List.replicate])
    | (refine CallT.pure hs rfl (by simp[okT,okP,okC,List.all_map,flatV]) ?_;simp -implicitDefEqProofs[l1,l2,List.replicate]))
 ·rw[newM_no h]
  refine PCall.of (F:=m23) rfl rfl rfl (ok_machine _ _ _) ?_
  simp -implicitDefEqProofs[m23]
  refine CallT.bool2 rfl (c_ConfigMay c) (fun hb=>absurd hb h) (fun hb=>?_)
  simp -implicitDefEqProofs

end Go.Ab

namespace Go.Ab

def newTh (c:Config) (o:Op):Thread:={ step:=if o.code=2 then 11 else if o.code=3 then 17 else 1,op:=o,log:=if o.code=3 then 0 else o.row.tmod c.logs,seen:=0,batch:=[],at_:=0,posted:=false,ready:=false,answer:=0,tails:=[] }
def callTo (m:Machine) (t:Int) (o:Op):Machine:={ m with threads:=m.threads.set t.toNat (newTh m.config o),history:=m.history++[⟨t,true,o,0⟩] }
def busyTo (ths:List Thread) (i:Nat):Nat:=((ths.take i).filter fun x=>decide (x.step≠0)).length
theorem busyTo_succ {ths:List Thread} {i:Nat} (hi:i<ths.length):busyTo ths (i+1)=busyTo ths i+(if ths[i].step=0 then 0 else 1):=by
 unfold busyTo
 rw[List.take_add_one,List.getElem?_eq_getElem hi,List.filter_append,List.length_append]
 by_cases h:ths[i].step=0<;>simp[h]
theorem busyTo_le (ths:List Thread) (i:Nat):busyTo ths i≤i:=by
 unfold busyTo
 exact Nat.le_trans (List.length_filter_le _ _) (by simp;omega)
@[reducible] def mayCall (m:Machine) (o:Op):Prop:=machineMay m∧opMay o
@[reducible] def inM (m:Machine) (t:Int):Prop:=0≤t∧t<m.config.threads
def idleT (m:Machine) (t:Int):Prop:=∃ h:t.toNat<m.threads.length,(m.threads[t.toNat]'h).step=0
instance (m:Machine) (t:Int):Decidable (idleT m t):=if h:t.toNat<m.threads.length then decidable_of_iff ((m.threads[t.toNat]'h).step=0) ⟨fun e=>⟨h,e⟩,fun ⟨_,e⟩=>e⟩ else isFalse (fun ⟨h',_⟩=>h h')
def roomM (m:Machine):Prop:=m.history.length+2+busyTo m.threads m.threads.length≤64
instance (m:Machine):Decidable (roomM m):=inferInstanceAs (Decidable (_≤_))
def callM (m:Machine) (t:Int) (o:Op):Machine × Int:=
 if ¬ mayCall m o then (noMachine,2300) else if ¬ inM m t then (noMachine,2301) else if ¬ idleT m t then (noMachine,2302) else if ¬ roomM m then (noMachine,2303) else (callTo m t o,0)

structure CmI (m:Machine) (t:Int) (o:Op) (k:Nat) (E:TE) (T:TH):Prop where
 h:∃ i:Nat,i+k=m.threads.length∧E.get 8=.a (.int .i64 ((m.history.length:Int)+2+busyTo m.threads i))∧E.get 9=.a (.int .i64 i)
 t0:T=TH.none
 e1:E.get 1=.a (.int .i64 t)
 e3:E.get 3=.lp 0 0
 e5:E.get 5=.lp 1 0
 e6:E.get 6=.lp 2 0
 ln:E.ln=3
 v0:E.var 0=some ((encMachine false m).map .a)
 v1:E.var 1=some ((encOp o).map .a)
 v2:E.var 2=some [.a (.int .i64 0),.a (.int .i64 0),.a (.int .i64 0),.a (.int .i64 0),.a (.int .i64 0),.a .nils,.a .nils,.a .nils,.a .nils]

set_option maxHeartbeats 4000000 in
theorem c_Call13 (m:Machine) (t:Int) (o:Op) (h:okM m) (hin:∀ r∈m.rings,inR r.head):PCall tab 11 [.agg (encMachine false m),.int .i64 t,.agg (encOp o)] (.tup [.agg (encMachine true (callM m t o).1),.int .i64 (callM m t o).2]):=by
 refine PCall.of (F:=m11) rfl rfl rfl (ok_mach1 _ _) ?_
 simp -implicitDefEqProofs[m11]
 have hA:callM m t o=callM m t o:=rfl
 by_cases ha:mayCall m o
 ·obtain⟨h1,ho⟩:=ha
  have hc:=h1.1
  have hn:=h1.2.1
  simp only[macNums] at hn
  refine CallT.bool2 (by simp) (c_May13 m h hin) (fun hb=>?_) (fun hb=>absurd h1 hb)
  simp -implicitDefEqProofs
  refine CallT.bool2 (by simp) (c_OperMay o) (fun hb=>?_) (fun hb=>absurd ho hb)
  simp -implicitDefEqProofs
  by_cases hb:inM m t
  ·have ht0:=hb.1
   have ht1:=hb.2
   have ht2:t<m.threads.length:=by omega
   have hi:t.toNat<m.threads.length:=by omega
   have z0:0<m.threads.length:=by omega
   have n1:¬ t<0:=by omega
   have n2:¬ m.config.threads≤t:=by omega
   by_cases hs:m.threads[t.toNat].step=0
   ·have hid:idleT m t:=⟨hi,hs⟩
    have hh:(m.history.length:Int)≤64:=by omega
    simp -implicitDefEqProofs[n1,n2,ht0,ht1,ht2,hi,z0,hs]
    have hrw:m.config.logs≠0:=by have:=hc.2.2.1;simp only[logsMay] at this;omega
    refine loop_by (CmI m t o) ?_ m.threads.length ⟨⟨0,by simp,by simp[busyTo];exact wrap_of (by omega) (by omega),by simp⟩,by simp,by simp,by simp,by simp,by simp,by simp,by simp,by simp,by simp⟩
    rintro k E T ⟨⟨i,hik,e8,e9⟩,rfl,e1,e3,e5,e6,ln,v0,v1,v2⟩
    have hbl:=busyTo_le m.threads i
    by_cases hlt:i<m.threads.length
    ·have g1:=List.getElem?_eq_getElem hlt
     have hlt':(i:Int)<m.config.threads:=by omega
     have hsu:=busyTo_succ hlt
     by_cases hz:m.threads[i].step=0
     ·simp -implicitDefEqProofs[e1,e3,e5,e6,e8,e9,ln,v0,v1,v2,hlt,hlt',g1,hz]
      refine⟨k - 1,by omega,⟨i+1,by omega,by simp[e8,hsu,hz],by first|(simp;done)|(simp;exact wrap_nat (by omega))⟩,by simp,by simp[e1],by simp[e3],by simp[e5],by simp[e6],by simp[ln],by simp[v0],by simp[v1],by simp[v2]⟩
     ·have hw:IntKind.wrap .i64 ((m.history.length:Int)+2+busyTo m.threads i+1)=(m.history.length:Int)+2+busyTo m.threads i+1:=wrap_of (by omega) (by omega)
      simp -implicitDefEqProofs[e1,e3,e5,e6,e8,e9,ln,v0,v1,v2,hlt,hlt',g1,hz]
      refine⟨k - 1,by omega,⟨i+1,by omega,by simp[hw,hsu,hz];omega,by first|(simp;done)|(simp;exact wrap_nat (by omega))⟩,by simp,by simp[e1],by simp[e3],by simp[e5],by simp[e6],by simp[ln],by simp[v0],by simp[v1],by simp[v2]⟩
    ·have hil:i=m.threads.length:=by omega
     have hlt':¬ (i:Int)<m.config.threads:=by omega
     subst hil
     by_cases hroom:roomM m
     ·have hcm:callM m t o=(callTo m t o,0):=by unfold callM;rw[if_neg (not_not_intro ⟨h1,ho⟩),if_neg (not_not_intro hb),if_neg (not_not_intro hid),if_neg (not_not_intro hroom)]
      rw[hcm]
      have hr1:(m.history.length:Int)+2+busyTo m.threads m.threads.length≤64:=by unfold roomM at hroom;omega
      have hr2:¬ (64<(m.history.length:Int)+2+busyTo m.threads m.threads.length):=by omega
      simp -implicitDefEqProofs[e1,e3,e5,e6,e8,e9,ln,v0,v1,v2,hlt',hr1,hr2]
      refine CallT.pure (c_Copy13 m h) (by simp) (ok_mach _) ?_
      have hb48:(m.history.length+1)*48≤140737488355328:=by omega
      by_cases c2:o.code=2
      ·have c3:¬ o.code=3:=by omega
       simp -implicitDefEqProofs[e1,e3,e5,e6,e8,e9,ln,v0,v1,v2,c2,c3,ht0,ht1,ht2,hi,z0,hrw,hb48]
       simp[callTo,newTh,encThread,c2]
      ·by_cases c3:o.code=3
       ·simp -implicitDefEqProofs[e1,e3,e5,e6,e8,e9,ln,v0,v1,v2,c2,c3,ht0,ht1,ht2,hi,z0,hrw,hb48]
        simp[callTo,newTh,encThread,c2,c3]
       ·simp -implicitDefEqProofs[e1,e3,e5,e6,e8,e9,ln,v0,v1,v2,c2,c3,ht0,ht1,ht2,hi,z0,hrw,hb48]
        simp[callTo,newTh,encThread,c2,c3]
     ·have hcm:callM m t o=(noMachine,2303):=by unfold callM;rw[if_neg (not_not_intro ⟨h1,ho⟩),if_neg (not_not_intro hb),if_neg (not_not_intro hid),if_pos hroom]
      rw[hcm]
      have hr1:¬ (m.history.length:Int)+2+busyTo m.threads m.threads.length≤64:=by unfold roomM at hroom;omega
      have hr2:64<(m.history.length:Int)+2+busyTo m.threads m.threads.length:=by omega
      simp -implicitDefEqProofs[e1,e3,e5,e6,e8,e9,ln,v0,v1,v2,hlt',hr1,hr2]
   ·have hid:¬ idleT m t:=fun ⟨_,e⟩=>hs e
    have hcm:callM m t o=(noMachine,2302):=by unfold callM;rw[if_neg (not_not_intro ⟨h1,ho⟩),if_neg (not_not_intro hb),if_pos hid]
    rw[hcm]
    simp -implicitDefEqProofs[n1,n2,ht0,ht1,ht2,hi,z0,hs]
  ·have hcm:callM m t o=(noMachine,2301):=by unfold callM;rw[if_neg (not_not_intro ⟨h1,ho⟩),if_pos hb]
   rw[hcm]
   by_cases n1:t<0
   ·simp -implicitDefEqProofs[n1]
   ·have n2:m.config.threads≤t:=by
     rcases Int.lt_or_le t m.config.threads with h3|h3
     ·exact absurd ⟨by omega,h3⟩ hb
     ·exact h3
    simp -implicitDefEqProofs[n1,n2]
 ·have hcm:callM m t o=(noMachine,2300):=if_pos ha
  rw[hcm]
  refine CallT.bool2 (by simp) (c_May13 m h hin) (fun hb=>?_) (fun hb=>?_)
  ·simp -implicitDefEqProofs
   refine CallT.bool2 (by simp) (c_OperMay o) (fun hb2=>absurd ⟨hb,hb2⟩ ha) (fun hb2=>?_)
   simp -implicitDefEqProofs
  ·simp -implicitDefEqProofs

end Go.Ab

namespace Go.Ab

def begunM:Machine:=machine0 ⟨2,2,2,4,8⟩
theorem begun_cfg:cfgMay ⟨2,2,2,4,8⟩:=by decide
end Go.Ab

namespace Go.Ab

def mCz (b:Nat) (M:Machine):List TV:=[.a (.int .i64 M.config.object),.a (.int .i64 M.config.replicas),.a (.int .i64 M.config.logs),.a (.int .i64 M.config.threads),.a (.int .i64 M.config.slots),.sl b [] 0 0 M.rings.length true,.sl (b+1) [] 0 0 M.replicas.length true,.sl (b+2) [] 0 0 M.threads.length true,.sl (b+3) [] 0 0 M.history.length true]
structure MF (b:Nat) (T:TH) (M:Machine):Prop where
 q0:T.get b=.tree (M.rings.map (encRing false)) false []
 q1:T.get (b+1)=.tree (M.replicas.map (encReplica false)) false []
 q2:T.get (b+2)=.tree (M.threads.map (encThread false)) false []
 q3:T.get (b+3)=.tree (M.history.map encEvent) false []
 n:b+4≤T.next
instance (m:Machine):Decidable (okM m):=by unfold okM okR okP' okS okTh lenOK;infer_instance
def headsIn (m:Machine):Prop:=∀ r∈m.rings,inR r.head
instance (m:Machine):Decidable (headsIn m):=by unfold headsIn inR;infer_instance
theorem c_Call13F (m:Machine) (t:Int) (o:Op) (h:okM m) (hin:headsIn m):PCall tab 11 [.agg (encMachine false m),.int .i64 t,.agg (encOp o)] (.tup [.agg (encMachine false (callM m t o).1),.int .i64 (callM m t o).2]):=(c_Call13 m t o h hin).mach1Z

end Go.Ab

namespace Go.Ab

structure ArgF (f:Int→Int):Prop where
 r:∀ x,0≤x→x≤255→0≤f x∧f x≤255
 z:f 0=0
def opA (f:Int→Int) (o:Op):Op:={ o with arg:=f o.arg }
def slA (f:Int→Int) (s:Slot):Slot:={ s with op:=opA f s.op }
def rgA (f:Int→Int) (r:Ring):Ring:={ r with slots:=r.slots.map (slA f) }
def stA (f:Int→Int) (s:State):State:=⟨s.r0.map f,s.r1.map f,s.r2.map f,s.r3.map f⟩
def rpA (f:Int→Int) (p:Replica):Replica:={ p with state:=stA f p.state }
def thA (f:Int→Int) (x:Thread):Thread:={ x with op:=opA f x.op }
def evA (f:Int→Int) (e:Event):Event:={ e with op:=opA f e.op }
def mA (f:Int→Int) (m:Machine):Machine:=⟨m.config,m.rings.map (rgA f),m.replicas.map (rpA f),m.threads.map (thA f),m.history.map (evA f)⟩

section
variable {f:Int→Int} {m:Machine} {t:Int}

theorem modify_map {α β:Type} (φ:α→β) {g:α→α} {g':β→β} (h:∀ x,g' (φ x)=φ (g x)):∀ (l:List α) (i:Nat),(l.map φ).modify i g'=(l.modify i g).map φ
 | [],i=>by cases i<;>rfl
 | x::l,0=>by simp[h]
 | x::l,i+1=>by simp[modify_map φ h l i]
theorem allOf_map {α β:Type} {p:α→Prop} {q:β→Prop} {φ:α→β} (h:∀ x,p x→q (φ x)) {l:List α} (hl:allOf p l):allOf q (l.map φ):=by
 intro y hy
 obtain⟨x,hx,rfl⟩:=List.mem_map.1 hy
 exact h x (hl x hx)

theorem opA_may (hf:ArgF f) {o:Op} (h:opMay o):opMay (opA f o):=by
 obtain⟨a,b,c,d,e⟩:=h
 refine⟨a,b,(hf.r _ c d).1,(hf.r _ c d).2, ?_⟩
 rcases e with e|e|⟨e1,e2⟩|⟨e1,e2,e3⟩
 ·exact .inl e
 ·exact .inr (.inl e)
 ·exact .inr (.inr (.inl ⟨e1,by show f o.arg=0;rw[e2];exact hf.z⟩))
 ·exact .inr (.inr (.inr ⟨e1,by show f o.arg=0;rw[e2];exact hf.z,e3⟩))
theorem upd_A (hf:ArgF f) {o:Op} (h:updates o):updates (opA f o):=⟨opA_may hf h.1,h.2⟩
theorem slot_A (hf:ArgF f) {s:Slot} (h:slotOK s):slotOK (slA f s):=⟨upd_A hf h.1,h.2⟩
theorem nums_A {r:Ring} (h:ringNums r):ringNums (rgA f r):=by
 unfold rgA
 simp only[ringNums,List.length_map] at h ⊢
 exact h
theorem ring_A (hf:ArgF f) {r:Ring} (h:ringOK r):ringOK (rgA f r):=⟨nums_A h.1,allOf_map (fun _=>slot_A hf) h.2⟩
theorem ringIn_A (hf:ArgF f) {c:Config} {r:Ring} (h:ringIn c r):ringIn c (rgA f r):=by
 obtain⟨a,b,d,e⟩:=h
 exact⟨ring_A hf a,by unfold rgA;simpa using b,d,allOf_map (φ:=slA f) (p:=slotIn c) (q:=slotIn c) (fun _ hx=>hx) e⟩
theorem row_A (hf:ArgF f) {n:Int} {xs:List Int} (h:rowArgs n xs):rowArgs n (xs.map f):=⟨by simpa using h.1,allOf_map (fun x hx=>hf.r x hx.1 hx.2) h.2⟩
theorem state_A (hf:ArgF f) {o:Int} (ho:o=2) {s:State} (h:stateMay o s):stateMay o (stA f s):=by
 rcases h with h|h|h
 ·omega
 ·omega
 ·exact .inr (.inr ⟨ho,row_A hf h.2.1,row_A hf h.2.2.1,row_A hf h.2.2.2.1,row_A hf h.2.2.2.2⟩)
theorem cursor_A (o:Option Ring) (x:Int):cursorIn (o.map (rgA f)) x=cursorIn o x:=by cases o<;>rfl
theorem repl_A (hf:ArgF f) {c:Config} (hc:c.object=2) {rs:List Ring} {p:Replica} (h:replicaIn c rs p):replicaIn c (rs.map (rgA f)) (rpA f p):=by
 obtain⟨a,b,d,e,g⟩:=h
 refine⟨state_A hf hc a,b,d,e,fun i hi=>?_⟩
 rw[List.getElem?_map,cursor_A]
 exact g i hi
theorem may_A (hf:ArgF f) (ho:m.config.object=2) (h:machineMay m):machineMay (mA f m):=by
 obtain⟨c,n,r,p,th,e⟩:=h
 refine⟨c, ?_,allOf_map (fun _=>ringIn_A hf) r,allOf_map (fun _=>repl_A hf ho) p,allOf_map (fun x hx=>?_) th,allOf_map (fun x hx=>⟨hx.1,opA_may hf hx.2⟩) e⟩
 ·simp only[macNums,mA,List.length_map] at n ⊢
  exact n
 ·obtain⟨⟨a,b,o,d⟩,k,l⟩:=hx
  exact⟨⟨a,b,opA_may hf o,d⟩,k,l⟩
theorem okM_A (h:okM m):okM (mA f m):=by
 obtain⟨⟨a,b⟩,⟨c,d⟩,⟨e,g⟩,k⟩:=h
 unfold lenOK at *
 refine⟨⟨by simpa [mA,lenOK] using a,fun x hx=>?_⟩,⟨by simpa [mA,lenOK] using c,fun x hx=>?_⟩,⟨by simpa [mA,lenOK] using e,fun x hx=>?_⟩,by simpa [mA,lenOK] using k⟩
 ·obtain⟨y,hy,rfl⟩:=List.mem_map.1 hx
  have:=b y hy
  unfold okR lenOK at *
  simpa [rgA] using this
 ·obtain⟨y,hy,rfl⟩:=List.mem_map.1 hx
  obtain⟨h1,h2⟩:=d y hy
  refine⟨?_,h2⟩
  unfold okS lenOK at *
  simpa [rpA,stA] using h1
 ·obtain⟨y,hy,rfl⟩:=List.mem_map.1 hx
  exact g y hy
theorem heads_A (h:headsIn m):headsIn (mA f m):=by
 intro r hr
 obtain⟨y,hy,rfl⟩:=List.mem_map.1 hr
 exact h y hy

theorem thr_A (hf:ArgF f) (i:Nat):thrAt (mA f m) i=thA f (thrAt m i):=by
 unfold thrAt mA
 rw[List.getElem?_map]
 cases m.threads[i]? with
 | none=>simp[thA,opA,hf.z]
 | some x=>rfl
theorem ringAt_A (g:Nat):ringAt (mA f m) g=rgA f (ringAt m g):=by
 unfold ringAt mA
 rw[List.getElem?_map]
 cases m.rings[g]?<;>rfl
theorem cur_A (r g:Nat):curAt (mA f m) r g=curAt m r g:=by
 unfold curAt mA
 rw[List.getElem?_map]
 cases m.replicas[r]?<;>rfl
theorem lock_A (r g:Nat):lockAt (mA f m) r g=lockAt m r g:=by
 unfold lockAt mA
 rw[List.getElem?_map]
 cases m.replicas[r]?<;>rfl
theorem own_A:ownOf (mA f m) t=ownOf m t:=rfl
theorem ownCur_A (hf:ArgF f):ownCur (mA f m) t=ownCur m t:=by unfold ownCur;rw[thr_A hf,cur_A];rfl
theorem ownLock_A (hf:ArgF f):ownLock (mA f m) t=ownLock m t:=by unfold ownLock;rw[thr_A hf,lock_A];rfl
theorem ownRing_A (hf:ArgF f):ownRing (mA f m) t=rgA f (ownRing m t):=by unfold ownRing;rw[thr_A hf,ringAt_A];rfl
theorem at_A (hf:ArgF f) (ho:m.config.object=2) (h:atP m t):atP (mA f m) t:=⟨may_A hf ho h.1,h.2⟩
theorem there_A (hf:ArgF f) (ho:m.config.object=2) {r g:Int} (h:thereP m r g):thereP (mA f m) r g:=by
 refine⟨may_A hf ho h.1, ?_, ?_⟩
 ·have:=h.2.1;unfold isReplica mA at *;simpa using this
 ·have:=h.2.2;unfold isLog mA at *;simpa using this

theorem setThr_A {i:Nat} {g g':Thread→Thread} (h:∀ x,g' (thA f x)=thA f (g x)):setThread (mA f m) i g'=mA f (setThread m i g):=by
 unfold setThread mA
 simp only[modify_map (thA f) h]
theorem step_A (s:Int):stepM (mA f m) t s=mA f (stepM m t s):=setThr_A fun _=>rfl
theorem setLock_A (r g:Nat) (x:Int):setLock (mA f m) r g x=mA f (setLock m r g x):=by
 unfold setLock mA
 simp only[modify_map (rpA f) (g:=fun p=>{ p with locks:=p.locks.set g x }) (g':=fun p=>{ p with locks:=p.locks.set g x }) fun _=>rfl]
theorem setRing_A (g:Nat) (r:Ring):setRing (mA f m) g (rgA f r)=mA f (setRing m g r):=by
 unfold setRing mA
 simp only[modify_map (rgA f) (g:=fun _=>r) (g':=fun _=>rgA f r) fun _=>rfl]
theorem post_A (hf:ArgF f) (ho:m.config.object=2) (h:atP m t):(postM (mA f m) t).1=mA f (postM m t).1:=by
 unfold postM
 rw[if_pos h,if_pos (at_A hf ho h)]
 exact setThr_A fun _=>rfl
theorem waits_A (hf:ArgF f) (hm:machineMay m) (r g:Int) (i:Nat):waits (mA f m) r g i=waits m r g i:=by
 unfold waits mA
 rw[List.getElem?_map]
 cases e:m.threads[i]? with
 | none=>rfl
 | some x=>
  have ho:opMay x.op:=(hm.2.2.2.2.1 x (List.mem_of_getElem? e)).1.2.2.1
  show decide _=decide _
  rw[decide_eq_decide]
  exact⟨fun h=>⟨h.1,h.2.1,h.2.2.1,ho,h.2.2.2.2⟩,fun h=>⟨h.1,h.2.1,h.2.2.1,opA_may hf ho,h.2.2.2.2⟩⟩
theorem batch_A (hf:ArgF f) (hm:machineMay m):batchFor (mA f m) t=batchFor m t:=by
 unfold batchFor logOfT wsTo
 have e1:((mA f m).threads[t.toNat]?.map (·.log)).getD 0=(m.threads[t.toNat]?.map (·.log)).getD 0:=by
  unfold mA
  rw[List.getElem?_map]
  cases m.threads[t.toNat]?<;>rfl
 have e2:(mA f m).threads.length=m.threads.length:=by simp[mA]
 rw[e1,e2]
 congr 1
 exact List.filter_congr fun i _=>waits_A hf hm _ _ _
theorem clear_A:∀ (ws:List Int) (l:List Thread),clearP ws (l.map (thA f))=(clearP ws l).map (thA f)
 | [],l=>rfl
 | w::ws,l=>by
  show clearP ws ((l.map (thA f)).modify w.toNat unpost)=(clearP ws (l.modify w.toNat unpost)).map (thA f)
  rw[modify_map (thA f) (g:=unpost) (g':=unpost) fun _=>rfl,clear_A ws]
theorem take_A (hf:ArgF f) (hm:machineMay m):takeM (mA f m) t=mA f (takeM m t):=by
 unfold takeM
 rw[batch_A hf hm]
 unfold mA
 simp only
 rw[modify_map (thA f) (g:=setBatch (batchFor m t)) (g':=setBatch (batchFor m t)) fun _=>rfl,clear_A,modify_map (thA f) (g:=setLoad (if batchFor m t=[] then 9 else 4)) (g':=setLoad (if batchFor m t=[] then 9 else 4)) fun _=>rfl]
theorem coll_A (hf:ArgF f) (ho:m.config.object=2) (h:(collM m t).2=0):collM (mA f m) t=(mA f (collM m t).1,0):=by
 unfold collM at h ⊢
 by_cases hp:collP m t
 ·have hq:collP (mA f m) t:=by
   refine⟨at_A hf ho hp.1, ?_⟩
   have:=hp.2
   unfold stepOfT mA at *
   rw[List.getElem?_map]
   cases e:m.threads[t.toNat]?<;>rw[e] at this<;>exact this
  rw[if_pos hp,if_pos hq,take_A hf hp.1.1]
 ·rw[if_neg hp] at h;exact absurd h (by decide)

theorem slotAt_A (hf:ArgF f) (r:Ring) (a:Int):slotAt (rgA f r) a=slA f (slotAt r a):=by
 unfold slotAt rgA
 simp only[List.getD_eq_getElem?_getD,List.getElem?_map,List.length_map]
 cases r.slots[(a.tmod r.slots.length).toNat]? with
 | none=>simp[slA,opA,hf.z]
 | some x=>rfl
theorem entry_A (hf:ArgF f) {r:Ring} {a:Int} (hr:ringOK r):entryM (rgA f r) a=(slA f (entryM r a).1,(entryM r a).2):=by
 unfold entryM
 rw[if_pos hr,if_pos (ring_A hf hr)]
 have e:hasEntry (rgA f r) a↔hasEntry r a:=by
  unfold hasEntry
  rw[slotAt_A hf]
  simp only[rgA,List.length_map]
  exact Iff.rfl
 by_cases h:hasEntry r a
 ·rw[if_pos h,if_pos (e.2 h),slotAt_A hf]
 ·rw[if_neg h,if_neg (fun k=>h (e.1 k))]
  simp[slA,opA,hf.z]
def putsM (m:Machine):Prop:=∀ r∈m.rings,∀ s∈r.slots,s.op.code=0
instance (m:Machine):Decidable (putsM m):=inferInstanceAs (Decidable (∀ r∈m.rings,∀ s∈r.slots,s.op.code=0))
theorem turn_A (s:State) {o:Op} (ho:o.code=0):turnS 2 (stA f s) (opA f o)=(stA f (turnS 2 s o).1,(turnS 2 s o).2):=by
 have e1:(opA f o).code=0:=ho
 have e2:(opA f o).row=o.row:=rfl
 unfold turnS rowTurn
 simp only[ho,e1,e2,show ¬ (0:Int)=3 by decide,show ¬ (0:Int)=2 by decide,show ¬ (2:Int)=0 by decide,show ¬ (2:Int)=1 by decide,if_false,if_true]
 have g:∀ i,getRow (stA f s) i=(getRow s i).map f:=fun i=>by unfold getRow stA;split<;>(try split)<;>(try split)<;>rfl
 have q:∀ xs:List Int,queuePut (xs.map f) (opA f o).arg=((queuePut xs o.arg).1.map f,(queuePut xs o.arg).2):=fun xs=>by
  unfold queuePut
  rw[List.length_map]
  split
  ·rfl
  ·simp[opA]
 rw[g,q]
 refine Prod.ext ?_ rfl
 unfold putRow stA
 split<;>(try split)<;>(try split)<;>rfl
theorem next_A (ho:m.config.object=2) (r g:Nat) {s:Slot} (hs:s.op.code=0):nextM (mA f m) r g (slA f s)=mA f (nextM m r g s):=by
 have e1:(mA f m).config.object=2:=ho
 unfold nextM
 rw[e1,ho]
 have st:((mA f m).replicas[r]?.map (·.state)).getD noState=stA f ((m.replicas[r]?.map (·.state)).getD noState):=by
  unfold mA
  rw[List.getElem?_map]
  cases m.replicas[r]?<;>rfl
 rw[st,show (slA f s).op=opA f s.op from rfl,turn_A _ hs]
 unfold mA
 simp only
 rw[modify_map (rpA f) (g:=fun p=>{ p with state:=(turnS 2 p.state s.op).1,cursors:=p.cursors.modify g (·+1) }) (g':=fun p=>{ p with state:=(turnS 2 p.state (opA f s.op)).1,cursors:=p.cursors.modify g (·+1) }) fun x=>by
  show _=rpA f _
  unfold rpA
  simp only[turn_A x.state hs]]
 simp only[show (slA f s).thread=s.thread from rfl]
 split
 ·rw[modify_map (thA f) (g:=fun t=>{ t with answer:=(turnS 2 ((m.replicas[r]?.map (·.state)).getD noState) s.op).2,ready:=true }) (g':=fun t=>{ t with answer:=(turnS 2 ((m.replicas[r]?.map (·.state)).getD noState) s.op).2,ready:=true }) fun _=>rfl]
 ·rfl
theorem one_A (hf:ArgF f) (ho:m.config.object=2) (hp:putsM m) {r g:Int} (ht:thereP m r g):oneM (mA f m) r g=(mA f (oneM m r g).1,(oneM m r g).2):=by
 unfold oneM
 rw[if_pos ht,if_pos (there_A hf ho ht)]
 have hg:g.toNat<m.rings.length:=by have:=ht.2.2;unfold isLog at this;omega
 have hr:ringOK (ringAt m g.toNat):=by
  rw[ringAt_of hg]
  exact (ht.1.2.2.1 _ (List.getElem_mem hg)).1
 have ee:entryAt (mA f m) r.toNat g.toNat=(slA f (entryAt m r.toNat g.toNat).1,(entryAt m r.toNat g.toNat).2):=by
  unfold entryAt
  rw[ringAt_A,cur_A]
  exact entry_A hf hr
 rw[ee]
 have hc:(entryAt m r.toNat g.toNat).2=0→(entryAt m r.toNat g.toNat).1.op.code=0:=by
  intro h
  unfold entryAt entryM at h ⊢
  rw[if_pos hr] at h ⊢
  split at h
  ·rename_i hh
   rw[if_pos hh]
   unfold slotAt
   rw[List.getD_eq_getElem?_getD]
   cases e:(ringAt m g.toNat).slots[((curAt m r.toNat g.toNat).tmod (ringAt m g.toNat).slots.length).toNat]? with
   | none=>rfl
   | some x=>
    rw[ringAt_of hg] at e
    exact hp _ (List.getElem_mem hg) x (List.mem_of_getElem? e)
  ·cases h
 by_cases h0:(entryAt m r.toNat g.toNat).2=0
 ·rw[if_pos h0,if_pos h0,next_A ho _ _ (hc h0)]
 ·rw[if_neg h0,if_neg h0]
theorem res_A (hf:ArgF f) {r:Ring} {n:Int} (hr:ringOK r):reserveM (rgA f r) n=(rgA f (reserveM r n).1,(reserveM r n).2):=by
 have e:((rgA f r).slots.length:Int)=r.slots.length:=by simp[rgA]
 have e2:canReserve (rgA f r) n↔canReserve r n:=⟨fun k=>⟨k.1,by rw[← e];exact k.2.1,k.2.2⟩,fun k=>⟨k.1,by rw[e];exact k.2.1,k.2.2⟩⟩
 have e3:(ringOK (rgA f r)∧1≤n∧n≤(rgA f r).slots.length)↔(ringOK r∧1≤n∧n≤r.slots.length):=⟨fun k=>⟨hr,k.2.1,by rw[← e];exact k.2.2⟩,fun k=>⟨ring_A hf hr,k.2.1,by rw[e];exact k.2.2⟩⟩
 unfold reserveM
 by_cases h:ringOK r∧1≤n∧n≤r.slots.length
 ·rw[if_pos h,if_pos (e3.2 h)]
  by_cases h2:canReserve r n
  ·rw[if_pos h2,if_pos (e2.2 h2)];rfl
  ·rw[if_neg h2,if_neg (fun k=>h2 (e2.1 k))];rfl
 ·rw[if_neg h,if_neg (fun k=>h (e3.1 k))];rfl
theorem pub_A (hf:ArgF f) {r:Ring} {a w:Int} {o:Op} (hr:(publishM r a o w).2=0):publishM (rgA f r) a (opA f o) w=(rgA f (publishM r a o w).1,0):=by
 unfold publishM at hr ⊢
 split at hr
 ·rename_i h
  rw[if_pos h,if_pos ⟨ring_A hf h.1,h.2.1,h.2.2.1,upd_A hf h.2.2.2.1,h.2.2.2.2⟩]
  unfold rgA
  simp only[List.length_map,List.map_set]
  rfl
 ·exact absurd hr (by decide)
theorem fin_A (hf:ArgF f) {e:Int} (h:(finishM m t e).2=0) (he:e≠0):finishM (mA f m) t e=(mA f (finishM m t e).1,0):=by
 unfold finishM at h ⊢
 have el:(mA f m).history.length=m.history.length:=by simp[mA]
 rw[el]
 split at h
 ·exact absurd h he
 ·rename_i hh
  rw[if_neg hh,if_neg hh]
  refine Prod.ext ?_ rfl
  unfold doneM
  rw[thr_A hf]
  unfold mA
  simp only
  rw[modify_map (thA f) (g:=fun _=>idle0) (g':=fun _=>idle0) fun _=>by simp[thA,opA,hf.z]]
  simp[evA,thA]

end
end Go.Ab

namespace Go.Ab

theorem c_PickU (m:Machine) (t:Int) (h:okM m) (hin:∀ r∈m.rings,inR r.head) (hm:machineMay m) (h0:0≤t) (h1:t<m.threads.length) (hs:(thrAt m t.toNat).step≠0) (hu:(thrAt m t.toNat).op.code≠2) (hu3:(thrAt m t.toNat).op.code≠3) (he:(updM m t).2=0) :
  PCall tab 15 [.agg (encMachine false m),.int .i64 t] (.tup [.agg (encMachine false (updM m t).1),.int .i64 0]):=by
 refine PCall.of (F:=m15) rfl rfl rfl (ok_mach1F _ _) ?_
 have hU:=c_Update13 m t h hin
 rw[he] at hU
 have hi:t.toNat<m.threads.length:=by omega
 have z0:0<m.threads.length:=by omega
 have n1:¬ t<0:=by omega
 have n2:¬ (m.threads.length:Int)≤t:=by omega
 have hc:=hm.1
 have hcl:m.config.threads=m.threads.length:=by have:=hm.2.1;simp only[macNums] at this;omega
 have gi:=List.getElem?_eq_getElem hi
 rw[thrAt_of hi] at hs hu hu3
 generalize updM m t=A at *
 simp -implicitDefEqProofs[m15]
 refine CallT.bool2 (by simp) (c_May13 m h hin) (fun hb=>?_) (fun hb=>absurd hm hb)
 simp -implicitDefEqProofs[n1,n2,hcl,h0,h1,hi,z0,gi,hs,hu,hu3]
 refine CallT.pure hU (by simp -implicitDefEqProofs[n1,n2,hcl,h0,h1,hi,z0,gi,hs,hu,hu3]) (ok_mach1F _ _) ?_
 simp -implicitDefEqProofs

theorem c_PickI (m:Machine) (t:Int) (h:okM m) (hin:∀ r∈m.rings,inR r.head) (hm:machineMay m) (h0:0≤t) (h1:t<m.threads.length) (hs:(thrAt m t.toNat).step=0) :
  PCall tab 15 [.agg (encMachine false m),.int .i64 t] (.tup [.agg (encMachine true m),.int .i64 0]):=by
 refine PCall.of (F:=m15) rfl rfl rfl (ok_mach1 _ _) ?_
 have hi:t.toNat<m.threads.length:=by omega
 have z0:0<m.threads.length:=by omega
 have n1:¬ t<0:=by omega
 have n2:¬ (m.threads.length:Int)≤t:=by omega
 have hcl:m.config.threads=m.threads.length:=by have:=hm.2.1;simp only[macNums] at this;omega
 have gi:=List.getElem?_eq_getElem hi
 rw[thrAt_of hi] at hs
 simp -implicitDefEqProofs[m15]
 refine CallT.bool2 (by simp) (c_May13 m h hin) (fun hb=>?_) (fun hb=>absurd hm hb)
 simp -implicitDefEqProofs[n1,n2,hcl,h0,h1,hi,z0,gi,hs]
 refine CallT.pure (c_Copy13 m h) (by simp[hcl]) (ok_mach _) ?_
 simp -implicitDefEqProofs

def pickE (m:Machine) (t:Int):Machine:=if (thrAt m t.toNat).step=0 then m else (updM m t).1
def pickOK (m:Machine) (t:Int):Prop:=okM m∧headsIn m∧machineMay m∧(0≤t∧t<m.threads.length)∧((thrAt m t.toNat).step=0∨(thrAt m t.toNat).op.code≠2∧(thrAt m t.toNat).op.code≠3∧(updM m t).2=0)
instance (m:Machine) (t:Int):Decidable (pickOK m t):=inferInstanceAs (Decidable (_∧_))
theorem c_PickOK {m:Machine} {t:Int} (h:pickOK m t):PCall tab 15 [.agg (encMachine false m),.int .i64 t] (.tup [.agg (encMachine false (pickE m t)),.int .i64 0]):=by
 obtain⟨h1,h2,h3,⟨h4,h5⟩,h6⟩:=h
 unfold pickE
 by_cases hs:(thrAt m t.toNat).step=0
 ·rw[if_pos hs]
  exact (c_PickI m t h1 h2 h3 h4 h5 hs).mach1Z
 ·rw[if_neg hs]
  obtain⟨h7,h8,h9⟩:=h6.resolve_left hs
  exact c_PickU m t h1 h2 h3 h4 h5 hs h7 h8 h9
def callOK (m:Machine) (t:Int) (o:Op):Prop:=okM m∧headsIn m∧(callM m t o).2=0
instance (m:Machine) (t:Int) (o:Op):Decidable (callOK m t o):=inferInstanceAs (Decidable (_∧_))
theorem c_CallOK {m:Machine} {t:Int} {o:Op} (h:callOK m t o):PCall tab 11 [.agg (encMachine false m),.int .i64 t,.agg (encOp o)] (.tup [.agg (encMachine false (callM m t o).1),.int .i64 0]):=by
 have:=c_Call13F m t o h.1 h.2.1
 rwa [h.2.2] at this
def wideOK (m:Machine):Prop:=m.threads.length=4∧m.rings.length=2
instance (m:Machine):Decidable (wideOK m):=inferInstanceAs (Decidable (_∧_))

end Go.Ab

namespace Go.Ab

section
variable {f:Int→Int} {m:Machine} {t:Int}

theorem least_A (g:Nat):leastR (mA f m) g=leastR m g:=by
 unfold leastR
 simp only[cur_A]
 rfl
theorem claim_A (hf:ArgF f) (hk:okM m) (ho:m.config.object=2) (hp:putsM m) (h:(claimM m t).2=0):claimM (mA f m) t=(mA f (claimM m t).1,0):=by
 by_cases hc:claimP m t
 ·have hat:=hc.1
  have hc':claimP (mA f m) t:=⟨at_A hf ho hat,by rw[thr_A hf];exact hc.2⟩
  obtain⟨r,log,hi,hri,hj,hkc,hlk,hrm,et,hlg,hown,hlog,hA,hF⟩:=wk hk hat
  have hr:ringOK (ringAt m log.toNat):=by
   rw[ringAt_of hj]
   exact (hat.1.2.2.1 _ (List.getElem_mem hj)).1
  have ht:thereP m r log:=⟨hat.1,hown,hlog⟩
  rw[claimM_yes hc] at h ⊢
  rw[claimM_yes hc',thr_A hf]
  have e1:(thA f (thrAt m t.toNat)).log=log:=by rw[et];exact hlg
  have e2:(thrAt m t.toNat).log=log:=by rw[et];exact hlg
  rw[e1,ringAt_A]
  rw[e2] at h ⊢
  show claimX (mA f m) t (thA f (thrAt m t.toNat)) (rgA f (ringAt m log.toNat)) (thrAt m t.toNat).step=_
  generalize hx:thrAt m t.toNat=x at *
  unfold claimX at h ⊢
  by_cases s4:x.step=4
  ·rw[if_pos s4] at h ⊢
   rw[if_pos s4]
   unfold loadX
   show (if (ringAt m log.toNat).fence≠0 then _ else _)=_
   by_cases hfe:(ringAt m log.toNat).fence≠0
   ·rw[if_pos hfe,if_pos hfe,e1,e2,own_A,hrm,one_A hf ho hp ht]
   ·rw[if_neg hfe,if_neg hfe]
    unfold seenM
    rw[show (rgA f (ringAt m log.toNat)).slots.length=(ringAt m log.toNat).slots.length by simp[rgA],setThr_A (g:=fun y=>{ y with seen:=(ringAt m log.toNat).tail,step:=if (ringAt m log.toNat).head+(ringAt m log.toNat).slots.length<(ringAt m log.toNat).tail+x.batch.length then 5 else 6 }) (by intro y;rfl)]
  rw[if_neg s4] at h ⊢
  rw[if_neg s4]
  by_cases s5:x.step=5
  ·rw[if_pos s5] at h ⊢
   rw[if_pos s5]
   unfold spaceM
   rw[thr_A hf,hx,e1,e2,least_A]
   unfold spaceW
   rw[ringAt_A]
   show (if (ringAt m log.toNat).head<(leastR m log.toNat).1 then _ else _,(0:Int))=_
   by_cases hh:(ringAt m log.toNat).head<(leastR m log.toNat).1
   ·rw[if_pos hh,if_pos hh,step_A]
    refine Prod.ext ?_ rfl
    exact setRing_A _ { ringAt m log.toNat with head:=(leastR m log.toNat).1 }
   ·rw[if_neg hh,if_neg hh,lock_A,own_A]
    by_cases hw:((leastR m log.toNat).2:Int)=ownOf m t∨lockAt m (leastR m log.toNat).2 log.toNat=0
    ·rw[if_pos hw,if_pos hw]
     have hwho:thereP m ((leastR m log.toNat).2:Int) log:=by
      refine⟨hat.1, ?_,hlog⟩
      have hn:=hat.1.2.1.2.1
      have hcr:=hat.1.1.2.1
      unfold isReplica leastR
      split<;>constructor<;>simp only<;>omega
     rw[one_A hf ho hp hwho]
    ·rw[if_neg hw,if_neg hw]
  rw[if_neg s5] at h ⊢
  rw[if_neg s5]
  by_cases s6:x.step=6
  ·rw[if_pos s6] at h ⊢
   rw[if_pos s6]
   unfold reserveX
   rw[res_A hf hr]
   show (if (ringAt m log.toNat).tail≠x.seen∨(reserveM (ringAt m log.toNat) x.batch.length).2.2≠0 then _ else _)=_
   by_cases hq:(ringAt m log.toNat).tail≠x.seen∨(reserveM (ringAt m log.toNat) x.batch.length).2.2≠0
   ·rw[if_pos hq,if_pos hq,step_A]
   ·rw[if_neg hq,if_neg hq]
    refine Prod.ext ?_ rfl
    show setRing (setThread (mA f m) t.toNat _) (thA f x).log.toNat (rgA f _)=_
    rw[setThr_A (g:=fun y=>{ y with step:=7,at_:=0 }) (by intro y;rfl),setRing_A]
    rfl
  rw[if_neg s6] at h ⊢
  rw[if_neg s6]
  by_cases s7:x.step=7
  ·rw[if_pos s7] at h ⊢
   rw[if_pos s7]
   show publishX (mA f m) t (thA f x) (rgA f (ringAt m log.toNat)) (x.batch.getD x.at_.toNat 0)=_
   generalize x.batch.getD x.at_.toNat 0=who at *
   unfold publishX at h ⊢
   show (if (x.batch.length:Int)≤x.at_ then _ else _)=_
   split at h
   ·exact absurd h (by decide)
   ·rename_i hb
    rw[if_neg hb,if_neg hb]
    split at h
    ·exact absurd h (by decide)
    ·rename_i hpub
     have hp0:=Classical.not_not.1 hpub
     rw[thr_A hf,show (thA f (thrAt m who.toNat)).op=opA f (thrAt m who.toNat).op from rfl]
     have ep:=pub_A hf (r:=ringAt m log.toNat) (a:=(thA f x).seen+(thA f x).at_) (w:=who) (o:=(thrAt m who.toNat).op) hp0
     rw[ep]
     rw[if_neg (not_not_intro rfl),if_neg hpub]
     refine Prod.ext ?_ rfl
     show setRing (setThread (mA f m) t.toNat _) (thA f x).log.toNat (rgA f _)=_
     rw[setThr_A (g:=fun y=>{ y with at_:=x.at_+1,step:=if x.at_+1=x.batch.length then 8 else y.step }) (by intro y;rfl),setRing_A]
     rfl
  ·rw[if_neg s7] at h
   exact absurd h (by decide)
 ·rw[claimM_no hc] at h
  exact absurd h (by decide)

theorem updM_A (hf:ArgF f) (hk:okM m) (ho:m.config.object=2) (hp:putsM m) (h:(updM m t).2=0):updM (mA f m) t=(mA f (updM m t).1,0):=by
 by_cases hl:updP m t
 ·have hat:=hl.1
  have hl':updP (mA f m) t:=⟨at_A hf ho hat,by rw[thr_A hf];exact upd_A hf hl.2⟩
  obtain⟨r,log,hi,hri,hj,hkc,hlk,hrm,et,hlg,hown,hlog,hA,hF⟩:=wk hk hat
  have ht:thereP m r log:=⟨hat.1,hown,hlog⟩
  rw[updM_yes hl] at h ⊢
  rw[updM_yes hl',thr_A hf,ownCur_A hf,ownLock_A hf]
  have e2:(thrAt m t.toNat).log=log:=by rw[et];exact hlg
  show updX (mA f m) t (thA f (thrAt m t.toNat)) (ownCur m t) (ownLock m t) (thrAt m t.toNat).step=_
  generalize hx:thrAt m t.toNat=x at *
  have e1:(thA f x).log=log:=e2
  unfold updX at h ⊢
  by_cases s1:x.step=1
  ·rw[if_pos s1,if_pos s1,post_A hf ho hat,step_A]
  rw[if_neg s1] at h ⊢
  rw[if_neg s1]
  by_cases s2:x.step=2
  ·rw[if_pos s2,if_pos s2,own_A,e1,e2]
   by_cases hl:ownLock m t=0
   ·rw[if_pos hl,if_pos hl,setLock_A,step_A]
   ·rw[if_neg hl,if_neg hl,step_A]
  rw[if_neg s2] at h ⊢
  rw[if_neg s2]
  by_cases s3:x.step=3
  ·rw[if_pos s3] at h ⊢
   rw[if_pos s3]
   exact coll_A hf ho h
  rw[if_neg s3] at h ⊢
  rw[if_neg s3]
  by_cases s4:x.step=4∨x.step=5∨x.step=6∨x.step=7
  ·rw[if_pos s4] at h ⊢
   rw[if_pos s4]
   by_cases hc:(claimM m t).2=0
   ·rw[if_pos hc,claim_A hf hk ho hp hc]
    simp
   ·rw[if_neg hc] at h
    exact absurd h (by decide)
  rw[if_neg s4] at h ⊢
  rw[if_neg s4]
  by_cases s8:x.step=8
  ·rw[if_pos s8,if_pos s8,own_A,e1,e2,hrm]
   show (if x.seen+x.batch.length≤ownCur m t then _ else _,(0:Int))=_
   by_cases hq:x.seen+x.batch.length≤ownCur m t
   ·rw[if_pos hq,if_pos hq,step_A]
   ·rw[if_neg hq,if_neg hq,one_A hf ho hp ht]
  rw[if_neg s8] at h ⊢
  rw[if_neg s8]
  by_cases s9:x.step=9
  ·rw[if_pos s9,if_pos s9,own_A,e1,e2,setLock_A]
   refine Prod.ext ?_ rfl
   exact setThr_A fun _=>rfl
  rw[if_neg s9] at h ⊢
  rw[if_neg s9]
  by_cases s10:x.step=10
  ·rw[if_pos s10] at h ⊢
   rw[if_pos s10]
   show (if x.ready=true then _ else _)=_
   by_cases hr:x.ready=true
   ·rw[if_pos hr] at h ⊢
    rw[if_pos hr]
    exact fin_A hf h (by decide)
   ·rw[if_neg hr,if_neg hr,step_A]
  ·rw[if_neg s10] at h
   exact absurd h (by decide)
 ·rw[updM_no hl] at h
  exact absurd h (by decide)
theorem callM_A (hf:ArgF f) (ho:m.config.object=2) {o:Op} (h:(callM m t o).2=0):callM (mA f m) t (opA f o)=(mA f (callM m t o).1,0):=by
 unfold callM at h ⊢
 split at h
 ·exact absurd h (by decide)
 ·rename_i h1
  split at h
  ·exact absurd h (by decide)
  ·rename_i h2
   split at h
   ·exact absurd h (by decide)
   ·rename_i h3
    split at h
    ·exact absurd h (by decide)
    ·rename_i h4
     have k1:=Classical.not_not.1 h1
     have k2:=Classical.not_not.1 h2
     have k3:=Classical.not_not.1 h3
     have k4:=Classical.not_not.1 h4
     have j1:mayCall (mA f m) (opA f o):=⟨may_A hf ho k1.1,opA_may hf k1.2⟩
     have j3:idleT (mA f m) t:=by
      obtain⟨hl,e⟩:=k3
      refine⟨by simpa [mA] using hl, ?_⟩
      simp only[mA,List.getElem_map]
      exact e
     have j4:roomM (mA f m):=by
      unfold roomM busyTo at *
      have e1:(mA f m).history.length=m.history.length:=by simp[mA]
      have e2:(mA f m).threads.length=m.threads.length:=by simp[mA]
      rw[e1,e2]
      have e3:(((mA f m).threads.take m.threads.length).filter fun x=>decide (x.step≠0)).length=((m.threads.take m.threads.length).filter fun x=>decide (x.step≠0)).length:=by
       simp only[mA,← List.map_take,List.filter_map,List.length_map]
       rfl
      rw[e3]
      exact k4
     rw[if_neg h1,if_neg h2,if_neg h3,if_neg h4,if_neg (not_not_intro j1),if_neg (not_not_intro (show inM (mA f m) t from k2)),if_neg (not_not_intro j3),if_neg (not_not_intro j4)]
     refine Prod.ext ?_ rfl
     unfold callTo mA
     simp only[List.map_set,List.map_append,List.map_cons,List.map_nil]
     rfl

theorem pickE_A (hf:ArgF f) (hk:okM m) (ho:m.config.object=2) (hp:putsM m) (h:(thrAt m t.toNat).step=0∨(updM m t).2=0):pickE (mA f m) t=mA f (pickE m t):=by
 unfold pickE
 rw[thr_A hf]
 show (if (thrAt m t.toNat).step=0 then _ else _)=_
 by_cases hs:(thrAt m t.toNat).step=0
 ·rw[if_pos hs,if_pos hs]
 ·rw[if_neg hs,if_neg hs,updM_A hf hk ho hp (h.resolve_left hs)]
def putOK (m:Machine):Prop:=okM m∧m.config.object=2∧putsM m
instance (m:Machine):Decidable (putOK m):=inferInstanceAs (Decidable (_∧_))
theorem pickOK_A (hf:ArgF f) (hq:putOK m) (h:pickOK m t):pickOK (mA f m) t:=by
 obtain⟨h1,h2,h3,⟨h4,h5⟩,h6⟩:=h
 refine⟨okM_A h1,heads_A h2,may_A hf hq.2.1 h3,⟨h4,by simpa [mA] using h5⟩, ?_⟩
 rw[thr_A hf]
 rcases h6 with h6|⟨h7,h8,h9⟩
 ·exact .inl h6
 ·refine .inr ⟨h7,h8, ?_⟩
  rw[updM_A hf h1 hq.2.1 hq.2.2 h9]
theorem c_PickA (hf:ArgF f) (hq:putOK m) (h:pickOK m t):PCall tab 15 [.agg (encMachine false (mA f m)),.int .i64 t] (.tup [.agg (encMachine false (mA f (pickE m t))),.int .i64 0]):=by
 have:=c_PickOK (pickOK_A hf hq h)
 rwa [pickE_A hf hq.1 hq.2.1 hq.2.2 (by rcases h.2.2.2.2 with h|h;exact .inl h;exact .inr h.2.2)] at this
theorem c_CallA (hf:ArgF f) (hq:putOK m) {o:Op} (h:callOK m t o):PCall tab 11 [.agg (encMachine false (mA f m)),.int .i64 t,.agg (encOp (opA f o))] (.tup [.agg (encMachine false (mA f (callM m t o).1)),.int .i64 0]):=by
 have:=c_Call13F (mA f m) t (opA f o) (okM_A h.1) (heads_A h.2.1)
 rwa [callM_A hf hq.2.1 h.2.2] at this
theorem wide_A (h:wideOK m):wideOK (mA f m):=⟨by simpa [mA] using h.1,by simpa [mA] using h.2⟩

end
end Go.Ab

namespace Go.Ab

def quietC:MCode→Bool
 | .skip|.ret|.exit _=>true
 | .ops l=>l.all fun o=>!o.op.loud
 | .seq a b|.cond _ a b=>quietC a && quietC b
 | .block _ b=>quietC b
 | _=>false

section
variable {C:CallF} {e e':Env} {H H':AH}

theorem quiet_step {o:MOper} (hq:o.op.loud=false) (h:stepOper C e H o=some (e',H')):H'.lo=H.lo:=by
 unfold stepOper at h
 split at h
 ·split at h
  ·rename_i v e1 H1 hs
   cases h
   by_cases hc:∃ q f xs,o.op=.call q f xs
   ·obtain⟨q,f,xs,hop⟩:=hc
    rw[hop] at hs hq
    have hqt:q=true:=by simpa [MOp.loud] using hq
    subst hqt
    simp only[stepOp] at hs
    obtain⟨⟨r,H2⟩,h1,h2⟩:=map_some hs
    cases h2
    unfold callA at h1
    split at h1
    ·simp only[if_true] at h1
     unfold quietly at h1
     split at h1
     ·split at h1
      ·cases h1;rfl
      ·cases h1
     ·cases h1
    ·cases h1
   ·have hs':aop e H o.op=some (v,e1,H'):=by
     unfold stepOp at hs
     split at hs
     ·rename_i q f xs heq;exact absurd ⟨q,f,xs,heq⟩ hc
     ·exact hs
    exact (aop_calm hq (fun q f xs h=>hc ⟨q,f,xs,h⟩) hs').1.lo
  ·cases h
 ·cases h;rfl

theorem quiet_ops:∀ {l:List MOper} {e e':Env} {H H':AH},(l.all fun o=>!o.op.loud)=true→runOps C l e H=some (e',H')→H'.lo=H.lo
 | [],e,e',H,H',_,h=>by simp only[runOps,Option.some.injEq,Prod.mk.injEq] at h;rw[h.2]
 | o::l,e,e',H,H',hq,h=>by
  simp only[List.all_cons,Bool.and_eq_true,Bool.not_eq_true'] at hq
  simp only[runOps] at h
  split at h
  ·rename_i e1 H1 h1
   rw[quiet_ops (by simpa using hq.2) h,quiet_step hq.1 h1]
  ·cases h

theorem quiet_run {n:Nat}:∀ {c:MCode} {e e':Env} {H H':AH} {o:Out},quietC c=true→runCode C n c e H=some (o,e',H')→H'.lo=H.lo
 | .skip,e,e',H,H',o,_,h=>by simp only[runCode] at h;cases h;rfl
 | .ret,e,e',H,H',o,_,h=>by simp only[runCode] at h;cases h;rfl
 | .exit _,e,e',H,H',o,_,h=>by simp only[runCode] at h;cases h;rfl
 | .ops l,e,e',H,H',o,hq,h=>by
  simp only[runCode] at h
  split at h
  ·rename_i h1;cases h;exact quiet_ops hq h1
  ·cases h
 | .seq a b,e,e',H,H',o,hq,h=>by
  simp only[quietC,Bool.and_eq_true] at hq
  simp only[runCode] at h
  split at h
  ·rename_i h1;rw[quiet_run hq.2 h,quiet_run hq.1 h1]
  ·exact quiet_run hq.1 h
 | .cond c a b,e,e',H,H',o,hq,h=>by
  simp only[quietC,Bool.and_eq_true] at hq
  simp only[runCode] at h
  split at h
  ·exact quiet_run hq.1 h
  ·exact quiet_run hq.2 h
  ·cases h
 | .block id b,e,e',H,H',o,hq,h=>by
  simp only[quietC] at hq
  simp only[runCode] at h
  split at h
  ·rename_i h1;cases h;exact quiet_run hq h1
  ·exact quiet_run hq h
 | .draw ..,e,e',H,H',o,hq,h=>by simp[quietC] at hq
 | .loop _,e,e',H,H',o,hq,h=>by simp[quietC] at hq
 | .ext _,e,e',H,H',o,hq,h=>by simp[quietC] at hq
end

theorem CallT.bodyQ {M:FuncId→Option MFunc} {q:Bool} {k:FuncId} {F:MFunc} {args:List TV} {T:TH} {K:TV→TH→Prop} (hM:M k=some F) (hp:F.pure=false) (hq:quietC F.body=true) (hn:args.length=F.nargs) (hfree:args.all TV.free=true)
  (h:wpc M F.body (startT args) T (FinT F.res K)):CallT M q k args T K:=by
 cases q with
 | false=>exact CallT.body hM hp hn hfree h
 | true=>
  intro A H hargs hm hv
  have hw0:WH { H with lo:=H.next }:=⟨Nat.le_refl _,hm.wh.top⟩
  obtain⟨m0,g0⟩:=hm.hframe hw0 (fun _ _ _ _=>rfl)
  have hs:=start_SRT m0 (g0.list hv)
  obtain⟨n,o,e1,H1,hrun,A1,E1,T1,k1,k2,k3⟩:=wpc_sound h A _ _ hs
  have hlo:H1.lo=H.next:=quiet_run hq hrun
  have fin:Fin F.res (fun x H'=>H'.lo=H.next∧∃ v A' T',HR A' T' H'∧VR A' T' H' v x∧Gr A T { H with lo:=H.next } A' T' H'∧K v T') o e1 H1:=by
   have hfin:=FinT_sound k1 k3
   cases o with
   | exit id=>exact hfin
   | normal=>obtain⟨x,m1,_,v,m2,m3⟩:=hfin;exact⟨x,m1,hlo,v,A1,T1,k1.mem,m2,k2,m3⟩
   | ret=>obtain⟨x,m1,_,v,m2,m3⟩:=hfin;exact⟨x,m1,hlo,v,A1,T1,k1.mem,m2,k2,m3⟩
  obtain⟨r,H',hev,hl2,v,A',T',f1,f2,f3,f4⟩:=Ev.body hM hp (by rw[← hv.1];exact hn) (free_of hv hfree) ⟨n,o,e1,H1,hrun,fin⟩
  have hw':WH { H' with lo:=H.lo }:=⟨by have h1:=f1.wh.lo;have h2:=hm.wh.lo;show H.lo≤H'.next;omega,f1.wh.top⟩
  obtain⟨p1,p2⟩:=f1.hframe hw' (fun _ _ _ _=>rfl)
  refine⟨r,{ H' with lo:=H.lo }, ?_,v,A',T',p1,p2 _ _ f2,(g0.trans f3).trans p2,f4⟩
  unfold EvQ
  rw[if_pos rfl]
  exact⟨H',hev,by omega,rfl⟩

end Go.Ab

namespace Go.Ab

structure StT (T:TH) (m:Machine) (t r:Int):Prop where
 t1:T.get 1=.tree (m.rings.map (encRing true)) true []
 t2:T.get 2=.tree (m.replicas.map (encReplica true)) true []
 t3:T.get 3=.tree (m.threads.map (encThread true)) true []
 t4:T.get 4=.tree (m.history.map encEvent) true []
 t5:T.get 5=.raw [.a (.int .i64 m.config.object),.a (.int .i64 m.config.replicas),.a (.int .i64 m.config.logs),.a (.int .i64 m.config.threads),.a (.int .i64 m.config.slots),.sl 1 [] 0 0 m.rings.length true,.sl 2 [] 0 0 m.replicas.length true,.sl 3 [] 0 0 m.threads.length true,.sl 4 [] 0 0 m.history.length true,.a (.int .i64 t),.a (.int .i64 r)]
 nx:5<T.next

def RowZ (rows ts:List (List AV)):Prop:=(∀ x∈rows,∀ y∈x,okC 7 y=true)∧(rows.map fun row=>row.map (unz 7))=ts
structure DnT (T:TH) (D:Machine) (t r:Int):Prop where
 t1:∃ R L,T.get 1=.tree R true L∧(TO.tree R true L).valid [] 0=true∧RowZ R (D.rings.map (encRing false))
 t2:∃ R L,T.get 2=.tree R true L∧(TO.tree R true L).valid [] 0=true∧RowZ R (D.replicas.map (encReplica false))
 t3:∃ R L,T.get 3=.tree R true L∧(TO.tree R true L).valid [] 0=true∧RowZ R (D.threads.map (encThread false))
 t5:∃ q n1 n2 n3 n4,T.get q=.tree (D.history.map encEvent) true []∧q≠1∧q≠2∧q≠3∧T.get 5=.raw [.a (.int .i64 D.config.object),.a (.int .i64 D.config.replicas),.a (.int .i64 D.config.logs),.a (.int .i64 D.config.threads),.a (.int .i64 D.config.slots),.sl 1 [] 0 0 n1 true,.sl 2 [] 0 0 n2 true,.sl 3 [] 0 0 n3 true,.sl q [] 0 0 n4 true,.a (.int .i64 t),.a (.int .i64 r)]

theorem rowZ_rings (rs:List Ring) (z:Bool):RowZ (rs.map (encRing z)) (rs.map (encRing false)):=⟨okC_ring _ _,by rw[List.map_map,unz_ringF]⟩
theorem rowZ_reps (rs:List Replica) (z:Bool):RowZ (rs.map (encReplica z)) (rs.map (encReplica false)):=⟨okC_rep _ _,by rw[List.map_map,unz_rep]⟩
theorem rowZ_thrs (rs:List Thread) (z:Bool):RowZ (rs.map (encThread z)) (rs.map (encThread false)):=⟨okC_thr _ _,by rw[List.map_map,unz_thr]⟩
theorem StT.dn {T:TH} {m:Machine} {t r:Int} (h:StT T m t r):DnT T m t r:=⟨⟨_,_,h.t1,rfl,rowZ_rings _ _⟩,⟨_,_,h.t2,rfl,rowZ_reps _ _⟩,⟨_,_,h.t3,rfl,rowZ_thrs _ _⟩,⟨4,_,_,_,_,h.t4,by omega,by omega,by omega,h.t5⟩⟩

theorem stepLock_of {m:Machine} {t s x:Int} {r g:Nat} (hi:t.toNat<m.threads.length) (hr:r<m.replicas.length):stepM (setLock m r g x) t s={ m with replicas:=m.replicas.set r { m.replicas[r] with locks:=m.replicas[r].locks.set g x },threads:=m.threads.set t.toNat { m.threads[t.toNat] with step:=s } }:=by
 rw[setLock_of hr];exact stepM_of (m:={ m with replicas:=m.replicas.set r { m.replicas[r] with locks:=m.replicas[r].locks.set g x } }) hi s
theorem doneTell_of {m:Machine} {t a:Int} (hi:t.toNat<m.threads.length):doneM (tellM m t a) t={ m with threads:=m.threads.set t.toNat idle0,history:=m.history++[⟨t,false,m.threads[t.toNat].op,a⟩] }:=by
 rw[tellM_of hi]
 have h2:t.toNat<(m.threads.set t.toNat { m.threads[t.toNat] with answer:=a }).length:=by simpa using hi
 have:=doneM_of (m:={ m with threads:=m.threads.set t.toNat { m.threads[t.toNat] with answer:=a } }) (t:=t) h2
 rw[this]
 simp only[List.set_set,List.getElem_set_self]
set_option maxHeartbeats 4000000 in
theorem x_Next (m:Machine) (r g t own:Int) (h:okM m) (hall:thereP m r g) (T:TH) (hT:StT T m t own) (K:TV→TH→Prop)
  (hK:∀ b T',DnT T' (oneM m r g).1 t own→K (.a (.bool b)) T'):CallT tab false 93 [.pt 5 [] 0 0 0,.int .i64 r |> .a,.a (.int .i64 g)] T K:=by
 rw[oneM_yes hall] at hK
 have hA:=at_of h hall
 have hE:=entry_of hA
 have hY:=entry_is hA
 obtain⟨h1,hr,hg⟩:=hall
 have hi:=hA.hr
 have hj:=hA.hg
 have hk:=hA.hc
 have hr0:=hr.1
 have hr1:=hr.2
 have hg0:=hg.1
 have hg1:=hg.2
 have hg2:g<(m.replicas[r.toNat]'hi).cursors.length:=by omega
 have z0:0<m.replicas.length:=by omega
 have z1:0<(m.replicas[r.toNat]'hi).cursors.length:=by omega
 have z2:0<m.rings.length:=by omega
 obtain⟨t1,t2,t3,t4,t5,nx⟩:=hT
 have hq:¬ T.next=0∧¬ T.next=1∧¬ T.next=2∧¬ T.next=3∧¬ T.next=4∧¬ T.next=5:=by omega
 refine CallT.body (F:=m93) rfl rfl rfl rfl ?_
 simp -implicitDefEqProofs[m93,hr0,hr1,hi,hj,hk,hg0,hg1,hg2,z0,z1,z2,t1,t2,t3,t4,t5]
 have gj:=List.getElem?_eq_getElem hj
 have gi:=List.getElem?_eq_getElem hi
 refine CallT.pure (c_Entry m.rings[g.toNat] (m.replicas[r.toNat].cursors[g.toNat]) hA.ol) (by simp[gj,t1,t2,t3,t4,t5]) (ok_slot1 _ _) ?_
 rw[← hE]
 generalize entryAt m r.toNat g.toNat=en at hY hK ⊢
 obtain⟨s,e⟩:=en
 simp -implicitDefEqProofs
 by_cases he:e=0
 ·subst he
  obtain⟨hs,ht0,ht1,hcu⟩:=hY rfl
  dsimp only at hs ht0 ht1 hK
  rw[if_pos rfl] at hK
  have hc3:s.op.code≠3:=by have:=hs.1.2;omega
  have htl:s.thread.toNat<m.threads.length:=by have:=h1.2.1.2.2.1;omega
  have ht2:s.thread<m.threads.length:=by omega
  have z3:0<m.threads.length:=by omega
  have gt:=List.getElem?_eq_getElem htl
  have hcur:=hA.cur
  have w1:IntKind.wrap .i64 (m.replicas[r.toNat].cursors[g.toNat]+1)=m.replicas[r.toNat].cursors[g.toNat]+1:=wrap_of (by omega) (by omega)
  simp -implicitDefEqProofs[hr0,hr1,hi,hj,hk,hg0,hg1,hg2,z0,z1,z2,t1,t2,t3,t4,t5]
  refine CallT.pure (c_objApply m.config.object m.replicas[r.toNat].state s.op hA.os hc3) (by simp[gi,t1,t2,t3,t4,t5]) (ok_st3 _ _ _) ?_
  rw[applyM_yes hA.st hs.1.1]
  rw[nextM_of hA s] at hK
  generalize turnS m.config.object m.replicas[r.toNat].state s.op=tr at hK ⊢
  obtain⟨st2,an⟩:=tr
  by_cases hown:s.thread.tmod m.config.replicas=r
  ·have hown2:s.thread.tmod m.config.replicas=(r.toNat:Int):=by omega
   rw[if_pos hown2,modify_of gt] at hK
   simp -implicitDefEqProofs[hr0,hr1,hi,hj,hk,hg0,hg1,hg2,z0,z1,z2,gi,gj,w1,t1,t2,t3,t4,t5,hq]
   refine CallT.pure (c_cfgReplica m.config s.thread ⟨h1.1,ht0,ht1⟩) rfl rfl ?_
   simp -implicitDefEqProofs[hown,htl,ht2,ht0,z3,gt,t1,t2,t3,t4,t5,hq]
   refine hK true _ ⟨⟨m.rings.map (encRing true),[],by simp[t1,hq],rfl,rowZ_rings _ _⟩,⟨_,_,by rw[TH.get_put,if_neg (by decide),TH.get_put,if_neg (by decide),TH.get_put,if_pos rfl],rfl, ?_⟩,⟨_,_,by rw[TH.get_put,if_pos rfl],rfl, ?_⟩,⟨4,m.rings.length,m.replicas.length,m.threads.length,m.history.length,by simp[t4,hq],by omega,by omega,by omega,by simp[t5,hq]⟩⟩
   ·refine⟨okC_set (okC_rep _ _) (by simp[okC_ints 6,okC_iset 5]), ?_⟩
    rw[List.map_set,List.map_map,unz_rep]
    simp[encReplica,unz_intF]
   ·refine⟨okC_set (okC_thr _ _) (by simp[okC_ints 6,okC,flatV]), ?_⟩
    rw[List.map_set,List.map_map,unz_thr]
    simp[encThread]
  ·have hown2:¬ s.thread.tmod m.config.replicas=(r.toNat:Int):=by omega
   rw[if_neg hown2] at hK
   simp -implicitDefEqProofs[hr0,hr1,hi,hj,hk,hg0,hg1,hg2,z0,z1,z2,gi,gj,w1,t1,t2,t3,t4,t5,hq]
   refine CallT.pure (c_cfgReplica m.config s.thread ⟨h1.1,ht0,ht1⟩) rfl rfl ?_
   simp -implicitDefEqProofs[hown,t1,t2,t3,t4,t5,hq]
   refine hK true _ ⟨⟨m.rings.map (encRing true),[],by simp[t1,hq],rfl,rowZ_rings _ _⟩,⟨_,_,by rw[TH.get_put,if_pos rfl],rfl, ?_⟩,⟨m.threads.map (encThread true),[],by simp[t3,hq],rfl,rowZ_thrs _ _⟩,⟨4,m.rings.length,m.replicas.length,m.threads.length,m.history.length,by simp[t4,hq],by omega,by omega,by omega,by simp[t5,hq]⟩⟩
   refine⟨okC_set (okC_rep _ _) (by simp[okC_ints 6,okC_iset 5]), ?_⟩
   rw[List.map_set,List.map_map,unz_rep]
   simp[encReplica,unz_intF]
 ·rw[if_neg he] at hK
  simp -implicitDefEqProofs[he]
  exact hK _ _ (StT.dn ⟨t1,t2,t3,t4,t5,nx⟩)

end Go.Ab

namespace Go.Ab

set_option maxHeartbeats 4000000 in
theorem c_Look_11 (m:Machine) (t:Int) (h:okM m) (hl:lookP m t) (hs:(thrAt m t.toNat).step=11):PCall tab 21 [.agg (encMachine false m),.int .i64 t] (.tup [.agg (encMachine true (seenM m t (ownRing m t).tail 12,(0:Int)).1),.int .i64 (seenM m t (ownRing m t).tail 12,(0:Int)).2]):=by
 obtain⟨hat,hcode⟩:=hl
 obtain⟨r,log,hi,hri,hj,hk,hlk,hrm,et,hlg,hown,hlog,hA,hF⟩:=wk h hat
 have h1:=hat.1
 have hc:=h1.1
 have hn:=h1.2.1
 have ht0:=hat.2.1
 have ht1:=hF.1.2.1
 rw[et] at hcode
 have b2:(m.threads[t.toNat].op.code != 2)=false:=by simp[hcode]
 have elk:lockAt m r.toNat log.toNat=m.replicas[r.toNat].locks[log.toNat]:=by simp[lockAt,hri,hlk]
 rw[et] at hs
 have e11:((11:Int)==m.threads[t.toNat].step)=true:=by simp[hs]
 rw[seenM_of hi,show ownRing m t=m.rings[log.toNat] by unfold ownRing;rw[et,hlg];exact ringAt_of hj]
 refine PCall.of (F:=m21) rfl rfl rfl (ok_mach1 _ _) ?_
 simp -implicitDefEqProofs[m21]
 refine CallT.body (F:=m27) rfl rfl rfl rfl ?_
 simp -implicitDefEqProofs[m27]
 refine CallT.bool2 (by simp) (c_boardThread m t h) (fun hb=>?_) (fun hb=>absurd hat hb)
 simp -implicitDefEqProofs
 refine CallT.pure (c_cfgReplica m.config t ⟨hc,hat.2.1,hat.2.2⟩) (by simp) rfl ?_
 simp -implicitDefEqProofs[hF]
 refine CallT.pure (c_startCopy m h (whole_of h1)) (by simp) (ok_mach _) ?_
 simp -implicitDefEqProofs
 refine CallT.bodyQ (F:=m28) rfl rfl rfl rfl rfl ?_
 simp -implicitDefEqProofs[m28,hF,b2,sT,sP,sI,-List.map_set,e11]
 refine CallT.body (F:=m29) rfl rfl rfl rfl ?_
 simp -implicitDefEqProofs[m29,hF,b2,sT,sP,sI,-List.map_set,e11]
 refine CallT.bodyQ (F:=m28) rfl rfl rfl rfl rfl ?_
 simp -implicitDefEqProofs[m28,hF,b2,sT,sP,sI,-List.map_set,e11]
 refine CallT.body (F:=m41) rfl rfl rfl rfl ?_
 simp -implicitDefEqProofs[m41,hF,b2,sT,sP,sI,-List.map_set,e11]
 refine CallT.bodyQ (F:=m28) rfl rfl rfl rfl rfl ?_
 simp -implicitDefEqProofs[m28,hF,b2,sT,sP,sI,-List.map_set,e11]
 refine CallT.bodyQ (F:=m59) rfl rfl rfl rfl rfl ?_
 simp -implicitDefEqProofs[m59,hF,b2,sT,sP,sI,-List.map_set,e11]
 refine CallT.bodyQ (F:=m28) rfl rfl rfl rfl rfl ?_
 simp -implicitDefEqProofs[m28,hF,b2,sT,sP,sI,-List.map_set,e11]
 refine CallT.body (F:=m61) rfl rfl rfl rfl ?_
 simp -implicitDefEqProofs[m61,hF,b2,sT,sP,sI,-List.map_set,e11]
 refine CallT.bodyQ (F:=m28) rfl rfl rfl rfl rfl ?_
 simp -implicitDefEqProofs[m28,hF,b2,sT,sP,sI,-List.map_set,e11]

set_option maxHeartbeats 4000000 in
theorem c_Look_12 (m:Machine) (t:Int) (h:okM m) (hl:lookP m t) (hs:(thrAt m t.toNat).step=12):PCall tab 21 [.agg (encMachine false m),.int .i64 t] (.tup [.agg (encMachine true (stepM m t (if (thrAt m t.toNat).seen≤ownCur m t then 16 else 13),(0:Int)).1),.int .i64 (stepM m t (if (thrAt m t.toNat).seen≤ownCur m t then 16 else 13),(0:Int)).2]):=by
 obtain⟨hat,hcode⟩:=hl
 obtain⟨r,log,hi,hri,hj,hk,hlk,hrm,et,hlg,hown,hlog,hA,hF⟩:=wk h hat
 have h1:=hat.1
 have hc:=h1.1
 have hn:=h1.2.1
 have ht0:=hat.2.1
 have ht1:=hF.1.2.1
 rw[et] at hcode
 have b2:(m.threads[t.toNat].op.code != 2)=false:=by simp[hcode]
 have elk:lockAt m r.toNat log.toNat=m.replicas[r.toNat].locks[log.toNat]:=by simp[lockAt,hri,hlk]
 rw[et] at hs
 have e11:((11:Int)==m.threads[t.toNat].step)=false:=by simp[hs]
 have e12:((12:Int)==m.threads[t.toNat].step)=true:=by simp[hs]
 rw[show ownCur m t=m.replicas[r.toNat].cursors[log.toNat] by unfold ownCur;rw[et,hlg,hrm];exact curAt_of hA,et]
 refine PCall.of (F:=m21) rfl rfl rfl (ok_mach1 _ _) ?_
 simp -implicitDefEqProofs[m21]
 by_cases hf:m.threads[t.toNat].seen≤m.replicas[r.toNat].cursors[log.toNat]
 ·rw[if_pos hf,stepM_of hi]
  refine CallT.body (F:=m27) rfl rfl rfl rfl ?_
  simp -implicitDefEqProofs[m27]
  refine CallT.bool2 (by simp) (c_boardThread m t h) (fun hb=>?_) (fun hb=>absurd hat hb)
  simp -implicitDefEqProofs
  refine CallT.pure (c_cfgReplica m.config t ⟨hc,hat.2.1,hat.2.2⟩) (by simp) rfl ?_
  simp -implicitDefEqProofs[hF]
  refine CallT.pure (c_startCopy m h (whole_of h1)) (by simp) (ok_mach _) ?_
  simp -implicitDefEqProofs
  refine CallT.bodyQ (F:=m28) rfl rfl rfl rfl rfl ?_
  simp -implicitDefEqProofs[m28,hF,b2,sT,sP,sI,-List.map_set,e11,e12,hf]
  refine CallT.body (F:=m29) rfl rfl rfl rfl ?_
  simp -implicitDefEqProofs[m29,hF,b2,sT,sP,sI,-List.map_set,e11,e12,hf]
  refine CallT.bodyQ (F:=m28) rfl rfl rfl rfl rfl ?_
  simp -implicitDefEqProofs[m28,hF,b2,sT,sP,sI,-List.map_set,e11,e12,hf]
  refine CallT.body (F:=m42) rfl rfl rfl rfl ?_
  simp -implicitDefEqProofs[m42,hF,b2,sT,sP,sI,-List.map_set,e11,e12,hf]
  refine CallT.body (F:=m61) rfl rfl rfl rfl ?_
  simp -implicitDefEqProofs[m61,hF,b2,sT,sP,sI,-List.map_set,e11,e12,hf]
  refine CallT.bodyQ (F:=m28) rfl rfl rfl rfl rfl ?_
  simp -implicitDefEqProofs[m28,hF,b2,sT,sP,sI,-List.map_set,e11,e12,hf]
  refine CallT.body (F:=m78) rfl rfl rfl rfl ?_
  simp -implicitDefEqProofs[m78,hF,b2,sT,sP,sI,-List.map_set,e11,e12,hf]
  refine CallT.bodyQ (F:=m62) rfl rfl rfl rfl rfl ?_
  simp -implicitDefEqProofs[m62,hF,b2,sT,sP,sI,-List.map_set,e11,e12,hf]
  refine CallT.bodyQ (F:=m28) rfl rfl rfl rfl rfl ?_
  simp -implicitDefEqProofs[m28,hF,b2,sT,sP,sI,-List.map_set,e11,e12,hf]
  refine CallT.bodyQ (F:=m28) rfl rfl rfl rfl rfl ?_
  simp -implicitDefEqProofs[m28,hF,b2,sT,sP,sI,-List.map_set,e11,e12,hf]
  refine CallT.body (F:=m61) rfl rfl rfl rfl ?_
  simp -implicitDefEqProofs[m61,hF,b2,sT,sP,sI,-List.map_set,e11,e12,hf]
  refine CallT.bodyQ (F:=m28) rfl rfl rfl rfl rfl ?_
  simp -implicitDefEqProofs[m28,hF,b2,sT,sP,sI,-List.map_set,e11,e12,hf]
 ·rw[if_neg hf,stepM_of hi]
  refine CallT.body (F:=m27) rfl rfl rfl rfl ?_
  simp -implicitDefEqProofs[m27]
  refine CallT.bool2 (by simp) (c_boardThread m t h) (fun hb=>?_) (fun hb=>absurd hat hb)
  simp -implicitDefEqProofs
  refine CallT.pure (c_cfgReplica m.config t ⟨hc,hat.2.1,hat.2.2⟩) (by simp) rfl ?_
  simp -implicitDefEqProofs[hF]
  refine CallT.pure (c_startCopy m h (whole_of h1)) (by simp) (ok_mach _) ?_
  simp -implicitDefEqProofs
  refine CallT.bodyQ (F:=m28) rfl rfl rfl rfl rfl ?_
  simp -implicitDefEqProofs[m28,hF,b2,sT,sP,sI,-List.map_set,e11,e12,hf]
  refine CallT.body (F:=m29) rfl rfl rfl rfl ?_
  simp -implicitDefEqProofs[m29,hF,b2,sT,sP,sI,-List.map_set,e11,e12,hf]
  refine CallT.bodyQ (F:=m28) rfl rfl rfl rfl rfl ?_
  simp -implicitDefEqProofs[m28,hF,b2,sT,sP,sI,-List.map_set,e11,e12,hf]
  refine CallT.body (F:=m42) rfl rfl rfl rfl ?_
  simp -implicitDefEqProofs[m42,hF,b2,sT,sP,sI,-List.map_set,e11,e12,hf]
  refine CallT.body (F:=m61) rfl rfl rfl rfl ?_
  simp -implicitDefEqProofs[m61,hF,b2,sT,sP,sI,-List.map_set,e11,e12,hf]
  refine CallT.bodyQ (F:=m28) rfl rfl rfl rfl rfl ?_
  simp -implicitDefEqProofs[m28,hF,b2,sT,sP,sI,-List.map_set,e11,e12,hf]
  refine CallT.body (F:=m78) rfl rfl rfl rfl ?_
  simp -implicitDefEqProofs[m78,hF,b2,sT,sP,sI,-List.map_set,e11,e12,hf]
  refine CallT.bodyQ (F:=m62) rfl rfl rfl rfl rfl ?_
  simp -implicitDefEqProofs[m62,hF,b2,sT,sP,sI,-List.map_set,e11,e12,hf]
  refine CallT.bodyQ (F:=m28) rfl rfl rfl rfl rfl ?_
  simp -implicitDefEqProofs[m28,hF,b2,sT,sP,sI,-List.map_set,e11,e12,hf]
  refine CallT.bodyQ (F:=m28) rfl rfl rfl rfl rfl ?_
  simp -implicitDefEqProofs[m28,hF,b2,sT,sP,sI,-List.map_set,e11,e12,hf]

set_option maxHeartbeats 4000000 in
theorem c_Look_13 (m:Machine) (t:Int) (h:okM m) (hl:lookP m t) (hs:(thrAt m t.toNat).step=13):PCall tab 21 [.agg (encMachine false m),.int .i64 t] (.tup [.agg (encMachine true (if ownLock m t=0 then stepM (setLock m (ownOf m t).toNat (thrAt m t.toNat).log.toNat (t+1)) t 14 else stepM m t 12,(0:Int)).1),.int .i64 (if ownLock m t=0 then stepM (setLock m (ownOf m t).toNat (thrAt m t.toNat).log.toNat (t+1)) t 14 else stepM m t 12,(0:Int)).2]):=by
 obtain⟨hat,hcode⟩:=hl
 obtain⟨r,log,hi,hri,hj,hk,hlk,hrm,et,hlg,hown,hlog,hA,hF⟩:=wk h hat
 have h1:=hat.1
 have hc:=h1.1
 have hn:=h1.2.1
 have ht0:=hat.2.1
 have ht1:=hF.1.2.1
 rw[et] at hcode
 have b2:(m.threads[t.toNat].op.code != 2)=false:=by simp[hcode]
 have elk:lockAt m r.toNat log.toNat=m.replicas[r.toNat].locks[log.toNat]:=by simp[lockAt,hri,hlk]
 rw[et] at hs
 have e11:((11:Int)==m.threads[t.toNat].step)=false:=by simp[hs]
 have e12:((12:Int)==m.threads[t.toNat].step)=false:=by simp[hs]
 have e13:((13:Int)==m.threads[t.toNat].step)=true:=by simp[hs]
 rw[show ownLock m t=m.replicas[r.toNat].locks[log.toNat] by unfold ownLock;rw[et,hlg,hrm];exact elk]
 rw[et,hlg,hrm]
 refine PCall.of (F:=m21) rfl rfl rfl (ok_mach1 _ _) ?_
 simp -implicitDefEqProofs[m21]
 by_cases hf:m.replicas[r.toNat].locks[log.toNat]=0
 ·rw[if_pos hf,stepLock_of hi hri]
  refine CallT.body (F:=m27) rfl rfl rfl rfl ?_
  simp -implicitDefEqProofs[m27]
  refine CallT.bool2 (by simp) (c_boardThread m t h) (fun hb=>?_) (fun hb=>absurd hat hb)
  simp -implicitDefEqProofs
  refine CallT.pure (c_cfgReplica m.config t ⟨hc,hat.2.1,hat.2.2⟩) (by simp) rfl ?_
  simp -implicitDefEqProofs[hF]
  refine CallT.pure (c_startCopy m h (whole_of h1)) (by simp) (ok_mach _) ?_
  simp -implicitDefEqProofs
  refine CallT.bodyQ (F:=m28) rfl rfl rfl rfl rfl ?_
  simp -implicitDefEqProofs[m28,hF,b2,sT,sP,sI,-List.map_set,e11,e12,e13,hf]
  refine CallT.body (F:=m29) rfl rfl rfl rfl ?_
  simp -implicitDefEqProofs[m29,hF,b2,sT,sP,sI,-List.map_set,e11,e12,e13,hf]
  refine CallT.bodyQ (F:=m28) rfl rfl rfl rfl rfl ?_
  simp -implicitDefEqProofs[m28,hF,b2,sT,sP,sI,-List.map_set,e11,e12,e13,hf]
  refine CallT.body (F:=m43) rfl rfl rfl rfl ?_
  simp -implicitDefEqProofs[m43,hF,b2,sT,sP,sI,-List.map_set,e11,e12,e13,hf]
  refine CallT.body (F:=m79) rfl rfl rfl rfl ?_
  simp -implicitDefEqProofs[m79,hF,b2,sT,sP,sI,-List.map_set,e11,e12,e13,hf]
  refine CallT.bodyQ (F:=m28) rfl rfl rfl rfl rfl ?_
  simp -implicitDefEqProofs[m28,hF,b2,sT,sP,sI,-List.map_set,e11,e12,e13,hf]
  refine CallT.body (F:=m105) rfl rfl rfl rfl ?_
  simp -implicitDefEqProofs[m105,hF,b2,sT,sP,sI,-List.map_set,e11,e12,e13,hf]
  refine CallT.body (F:=m61) rfl rfl rfl rfl ?_
  simp -implicitDefEqProofs[m61,hF,b2,sT,sP,sI,-List.map_set,e11,e12,e13,hf]
  refine CallT.bodyQ (F:=m28) rfl rfl rfl rfl rfl ?_
  simp -implicitDefEqProofs[m28,hF,b2,sT,sP,sI,-List.map_set,e11,e12,e13,hf]
 ·rw[if_neg hf,stepM_of hi]
  have bf:(m.replicas[r.toNat].locks[log.toNat] != 0)=true:=by simp[hf]
  refine CallT.body (F:=m27) rfl rfl rfl rfl ?_
  simp -implicitDefEqProofs[m27]
  refine CallT.bool2 (by simp) (c_boardThread m t h) (fun hb=>?_) (fun hb=>absurd hat hb)
  simp -implicitDefEqProofs
  refine CallT.pure (c_cfgReplica m.config t ⟨hc,hat.2.1,hat.2.2⟩) (by simp) rfl ?_
  simp -implicitDefEqProofs[hF]
  refine CallT.pure (c_startCopy m h (whole_of h1)) (by simp) (ok_mach _) ?_
  simp -implicitDefEqProofs
  refine CallT.bodyQ (F:=m28) rfl rfl rfl rfl rfl ?_
  simp -implicitDefEqProofs[m28,hF,b2,sT,sP,sI,-List.map_set,e11,e12,e13,hf]
  refine CallT.body (F:=m29) rfl rfl rfl rfl ?_
  simp -implicitDefEqProofs[m29,hF,b2,sT,sP,sI,-List.map_set,e11,e12,e13,hf]
  refine CallT.bodyQ (F:=m28) rfl rfl rfl rfl rfl ?_
  simp -implicitDefEqProofs[m28,hF,b2,sT,sP,sI,-List.map_set,e11,e12,e13,hf]
  refine CallT.body (F:=m43) rfl rfl rfl rfl ?_
  simp -implicitDefEqProofs[m43,hF,b2,sT,sP,sI,-List.map_set,e11,e12,e13,hf]
  refine CallT.body (F:=m79) rfl rfl rfl rfl ?_
  simp -implicitDefEqProofs[m79,hF,b2,sT,sP,sI,-List.map_set,e11,e12,e13,hf]
  refine CallT.bodyQ (F:=m28) rfl rfl rfl rfl rfl ?_
  simp -implicitDefEqProofs[m28,hF,b2,sT,sP,sI,-List.map_set,e11,e12,e13,hf]
  refine CallT.body (F:=m105) rfl rfl rfl rfl ?_
  simp -implicitDefEqProofs[m105,hF,b2,sT,sP,sI,-List.map_set,e11,e12,e13,hf]
  refine CallT.body (F:=m61) rfl rfl rfl rfl ?_
  simp -implicitDefEqProofs[m61,hF,b2,sT,sP,sI,-List.map_set,e11,e12,e13,hf]
  refine CallT.bodyQ (F:=m28) rfl rfl rfl rfl rfl ?_
  simp -implicitDefEqProofs[m28,hF,b2,sT,sP,sI,-List.map_set,e11,e12,e13,hf]

set_option maxHeartbeats 4000000 in
theorem c_Look_14 (m:Machine) (t:Int) (h:okM m) (hl:lookP m t) (hs:(thrAt m t.toNat).step=14):PCall tab 21 [.agg (encMachine false m),.int .i64 t] (.tup [.agg (encMachine false (if (thrAt m t.toNat).seen≤ownCur m t then stepM m t 15 else (oneM m (ownOf m t) (thrAt m t.toNat).log).1,(0:Int)).1),.int .i64 (if (thrAt m t.toNat).seen≤ownCur m t then stepM m t 15 else (oneM m (ownOf m t) (thrAt m t.toNat).log).1,(0:Int)).2]):=by
 obtain⟨hat,hcode⟩:=hl
 obtain⟨r,log,hi,hri,hj,hk,hlk,hrm,et,hlg,hown,hlog,hA,hF⟩:=wk h hat
 have h1:=hat.1
 have hc:=h1.1
 have hn:=h1.2.1
 have ht0:=hat.2.1
 have ht1:=hF.1.2.1
 rw[et] at hcode
 have b2:(m.threads[t.toNat].op.code != 2)=false:=by simp[hcode]
 have elk:lockAt m r.toNat log.toNat=m.replicas[r.toNat].locks[log.toNat]:=by simp[lockAt,hri,hlk]
 rw[et] at hs
 have e11:((11:Int)==m.threads[t.toNat].step)=false:=by simp[hs]
 have e12:((12:Int)==m.threads[t.toNat].step)=false:=by simp[hs]
 have e13:((13:Int)==m.threads[t.toNat].step)=false:=by simp[hs]
 have e14:((14:Int)==m.threads[t.toNat].step)=true:=by simp[hs]
 rw[show ownCur m t=m.replicas[r.toNat].cursors[log.toNat] by unfold ownCur;rw[et,hlg,hrm];exact curAt_of hA,et,hlg,hrm]
 refine PCall.ofZ (F:=m21) rfl rfl rfl ?_
 simp -implicitDefEqProofs[m21]
 by_cases hf:m.threads[t.toNat].seen≤m.replicas[r.toNat].cursors[log.toNat]
 ·rw[if_pos hf,stepM_of hi]
  refine CallT.body (F:=m27) rfl rfl rfl rfl ?_
  simp -implicitDefEqProofs[m27]
  refine CallT.bool2 (by simp) (c_boardThread m t h) (fun hb=>?_) (fun hb=>absurd hat hb)
  simp -implicitDefEqProofs
  refine CallT.pure (c_cfgReplica m.config t ⟨hc,hat.2.1,hat.2.2⟩) (by simp) rfl ?_
  simp -implicitDefEqProofs[hF]
  refine CallT.pure (c_startCopy m h (whole_of h1)) (by simp) (ok_mach _) ?_
  simp -implicitDefEqProofs
  refine CallT.bodyQ (F:=m28) rfl rfl rfl rfl rfl ?_
  simp -implicitDefEqProofs[m28,hF,b2,sT,sP,sI,-List.map_set,e11,e12,e13,e14,hf]
  refine CallT.body (F:=m29) rfl rfl rfl rfl ?_
  simp -implicitDefEqProofs[m29,hF,b2,sT,sP,sI,-List.map_set,e11,e12,e13,e14,hf]
  refine CallT.bodyQ (F:=m28) rfl rfl rfl rfl rfl ?_
  simp -implicitDefEqProofs[m28,hF,b2,sT,sP,sI,-List.map_set,e11,e12,e13,e14,hf]
  refine CallT.body (F:=m44) rfl rfl rfl rfl ?_
  simp -implicitDefEqProofs[m44,hF,b2,sT,sP,sI,-List.map_set,e11,e12,e13,e14,hf]
  refine CallT.body (F:=m78) rfl rfl rfl rfl ?_
  simp -implicitDefEqProofs[m78,hF,b2,sT,sP,sI,-List.map_set,e11,e12,e13,e14,hf]
  refine CallT.bodyQ (F:=m62) rfl rfl rfl rfl rfl ?_
  simp -implicitDefEqProofs[m62,hF,b2,sT,sP,sI,-List.map_set,e11,e12,e13,e14,hf]
  refine CallT.bodyQ (F:=m28) rfl rfl rfl rfl rfl ?_
  simp -implicitDefEqProofs[m28,hF,b2,sT,sP,sI,-List.map_set,e11,e12,e13,e14,hf]
  refine CallT.bodyQ (F:=m28) rfl rfl rfl rfl rfl ?_
  simp -implicitDefEqProofs[m28,hF,b2,sT,sP,sI,-List.map_set,e11,e12,e13,e14,hf]
  refine CallT.body (F:=m61) rfl rfl rfl rfl ?_
  simp -implicitDefEqProofs[m61,hF,b2,sT,sP,sI,-List.map_set,e11,e12,e13,e14,hf]
  refine CallT.bodyQ (F:=m28) rfl rfl rfl rfl rfl ?_
  simp -implicitDefEqProofs[m28,hF,b2,sT,sP,sI,-List.map_set,e11,e12,e13,e14,hf]
  simp -implicitDefEqProofs[unzT,unzP,okT,okP,hF,b2,sT,sP,sI,-List.map_set,e11,e12,e13,e14,hf]
 ·rw[if_neg hf]
  refine CallT.body (F:=m27) rfl rfl rfl rfl ?_
  simp -implicitDefEqProofs[m27]
  refine CallT.bool2 (by simp) (c_boardThread m t h) (fun hb=>?_) (fun hb=>absurd hat hb)
  simp -implicitDefEqProofs
  refine CallT.pure (c_cfgReplica m.config t ⟨hc,hat.2.1,hat.2.2⟩) (by simp) rfl ?_
  simp -implicitDefEqProofs[hF]
  refine CallT.pure (c_startCopy m h (whole_of h1)) (by simp) (ok_mach _) ?_
  simp -implicitDefEqProofs
  refine CallT.bodyQ (F:=m28) rfl rfl rfl rfl rfl ?_
  simp -implicitDefEqProofs[m28,hF,b2,sT,sP,sI,-List.map_set,e11,e12,e13,e14,hf]
  refine CallT.body (F:=m29) rfl rfl rfl rfl ?_
  simp -implicitDefEqProofs[m29,hF,b2,sT,sP,sI,-List.map_set,e11,e12,e13,e14,hf]
  refine CallT.bodyQ (F:=m28) rfl rfl rfl rfl rfl ?_
  simp -implicitDefEqProofs[m28,hF,b2,sT,sP,sI,-List.map_set,e11,e12,e13,e14,hf]
  refine CallT.body (F:=m44) rfl rfl rfl rfl ?_
  simp -implicitDefEqProofs[m44,hF,b2,sT,sP,sI,-List.map_set,e11,e12,e13,e14,hf]
  refine CallT.body (F:=m78) rfl rfl rfl rfl ?_
  simp -implicitDefEqProofs[m78,hF,b2,sT,sP,sI,-List.map_set,e11,e12,e13,e14,hf]
  refine CallT.bodyQ (F:=m62) rfl rfl rfl rfl rfl ?_
  simp -implicitDefEqProofs[m62,hF,b2,sT,sP,sI,-List.map_set,e11,e12,e13,e14,hf]
  refine CallT.bodyQ (F:=m28) rfl rfl rfl rfl rfl ?_
  simp -implicitDefEqProofs[m28,hF,b2,sT,sP,sI,-List.map_set,e11,e12,e13,e14,hf]
  refine CallT.bodyQ (F:=m28) rfl rfl rfl rfl rfl ?_
  simp -implicitDefEqProofs[m28,hF,b2,sT,sP,sI,-List.map_set,e11,e12,e13,e14,hf]
  refine CallT.body (F:=m64) rfl rfl rfl rfl ?_
  simp -implicitDefEqProofs[m64,hF,b2,sT,sP,sI,-List.map_set,e11,e12,e13,e14,hf]
  refine CallT.bodyQ (F:=m28) rfl rfl rfl rfl rfl ?_
  simp -implicitDefEqProofs[m28,hF,b2,sT,sP,sI,-List.map_set,e11,e12,e13,e14,hf]
  refine x_Next m r log t r h ⟨h1,hown,hlog⟩ _ ⟨by simp,by simp,by simp,by simp,by simp,by simp⟩ _ (fun b T1 hd=>?_)
  obtain⟨⟨R1,L1,u1,v1,z1⟩,⟨R2,L2,u2,v2,z2⟩,⟨R3,L3,u3,v3,z3⟩,⟨q,n1,n2,n3,n4,u4,q1,q2,q3,u5⟩⟩:=hd
  have q1s:=Ne.symm q1
  have q2s:=Ne.symm q2
  have q3s:=Ne.symm q3
  simp -implicitDefEqProofs[u1,u2,u3,u4,u5,v1,v2,v3,q1,q2,q3,q1s,q2s,q3s,unzT,unzP,okT,okP,hF,b2,sT,sP,sI,-List.map_set,e11,e12,e13,e14,hf]
  exact⟨⟨z1.1,z2.1,z3.1⟩,z1.2,z2.2,z3.2⟩

set_option maxHeartbeats 4000000 in
theorem c_Look_15 (m:Machine) (t:Int) (h:okM m) (hl:lookP m t) (hs:(thrAt m t.toNat).step=15):PCall tab 21 [.agg (encMachine false m),.int .i64 t] (.tup [.agg (encMachine true (stepM (setLock m (ownOf m t).toNat (thrAt m t.toNat).log.toNat 0) t 12,(0:Int)).1),.int .i64 (stepM (setLock m (ownOf m t).toNat (thrAt m t.toNat).log.toNat 0) t 12,(0:Int)).2]):=by
 obtain⟨hat,hcode⟩:=hl
 obtain⟨r,log,hi,hri,hj,hk,hlk,hrm,et,hlg,hown,hlog,hA,hF⟩:=wk h hat
 have h1:=hat.1
 have hc:=h1.1
 have hn:=h1.2.1
 have ht0:=hat.2.1
 have ht1:=hF.1.2.1
 rw[et] at hcode
 have b2:(m.threads[t.toNat].op.code != 2)=false:=by simp[hcode]
 have elk:lockAt m r.toNat log.toNat=m.replicas[r.toNat].locks[log.toNat]:=by simp[lockAt,hri,hlk]
 rw[et] at hs
 have e11:((11:Int)==m.threads[t.toNat].step)=false:=by simp[hs]
 have e12:((12:Int)==m.threads[t.toNat].step)=false:=by simp[hs]
 have e13:((13:Int)==m.threads[t.toNat].step)=false:=by simp[hs]
 have e14:((14:Int)==m.threads[t.toNat].step)=false:=by simp[hs]
 have e15:((15:Int)==m.threads[t.toNat].step)=true:=by simp[hs]
 rw[et,hlg,hrm,stepLock_of hi hri]
 refine PCall.of (F:=m21) rfl rfl rfl (ok_mach1 _ _) ?_
 simp -implicitDefEqProofs[m21]
 refine CallT.body (F:=m27) rfl rfl rfl rfl ?_
 simp -implicitDefEqProofs[m27]
 refine CallT.bool2 (by simp) (c_boardThread m t h) (fun hb=>?_) (fun hb=>absurd hat hb)
 simp -implicitDefEqProofs
 refine CallT.pure (c_cfgReplica m.config t ⟨hc,hat.2.1,hat.2.2⟩) (by simp) rfl ?_
 simp -implicitDefEqProofs[hF]
 refine CallT.pure (c_startCopy m h (whole_of h1)) (by simp) (ok_mach _) ?_
 simp -implicitDefEqProofs
 refine CallT.bodyQ (F:=m28) rfl rfl rfl rfl rfl ?_
 simp -implicitDefEqProofs[m28,hF,b2,sT,sP,sI,-List.map_set,e11,e12,e13,e14,e15]
 refine CallT.body (F:=m29) rfl rfl rfl rfl ?_
 simp -implicitDefEqProofs[m29,hF,b2,sT,sP,sI,-List.map_set,e11,e12,e13,e14,e15]
 refine CallT.bodyQ (F:=m28) rfl rfl rfl rfl rfl ?_
 simp -implicitDefEqProofs[m28,hF,b2,sT,sP,sI,-List.map_set,e11,e12,e13,e14,e15]
 refine CallT.body (F:=m45) rfl rfl rfl rfl ?_
 simp -implicitDefEqProofs[m45,hF,b2,sT,sP,sI,-List.map_set,e11,e12,e13,e14,e15]
 refine CallT.body (F:=m80) rfl rfl rfl rfl ?_
 simp -implicitDefEqProofs[m80,hF,b2,sT,sP,sI,-List.map_set,e11,e12,e13,e14,e15]
 refine CallT.bodyQ (F:=m28) rfl rfl rfl rfl rfl ?_
 simp -implicitDefEqProofs[m28,hF,b2,sT,sP,sI,-List.map_set,e11,e12,e13,e14,e15]
 refine CallT.body (F:=m106) rfl rfl rfl rfl ?_
 simp -implicitDefEqProofs[m106,hF,b2,sT,sP,sI,-List.map_set,e11,e12,e13,e14,e15]
 refine CallT.body (F:=m61) rfl rfl rfl rfl ?_
 simp -implicitDefEqProofs[m61,hF,b2,sT,sP,sI,-List.map_set,e11,e12,e13,e14,e15]
 refine CallT.bodyQ (F:=m28) rfl rfl rfl rfl rfl ?_
 simp -implicitDefEqProofs[m28,hF,b2,sT,sP,sI,-List.map_set,e11,e12,e13,e14,e15]

set_option maxHeartbeats 4000000 in
theorem c_Look_16 (m:Machine) (t:Int) (h:okM m) (hl:lookP m t) (hs:(thrAt m t.toNat).step=16):PCall tab 21 [.agg (encMachine false m),.int .i64 t] (.tup [.agg (encMachine true (finishM (tellM m t (turnS m.config.object (stAt m (ownOf m t).toNat) (thrAt m t.toNat).op).2) t 2100).1),.int .i64 (finishM (tellM m t (turnS m.config.object (stAt m (ownOf m t).toNat) (thrAt m t.toNat).op).2) t 2100).2]):=by
 obtain⟨hat,hcode⟩:=hl
 obtain⟨r,log,hi,hri,hj,hk,hlk,hrm,et,hlg,hown,hlog,hA,hF⟩:=wk h hat
 have h1:=hat.1
 have hc:=h1.1
 have hn:=h1.2.1
 have ht0:=hat.2.1
 have ht1:=hF.1.2.1
 rw[et] at hcode
 have b2:(m.threads[t.toNat].op.code != 2)=false:=by simp[hcode]
 have elk:lockAt m r.toNat log.toNat=m.replicas[r.toNat].locks[log.toNat]:=by simp[lockAt,hri,hlk]
 rw[et] at hs
 have e11:((11:Int)==m.threads[t.toNat].step)=false:=by simp[hs]
 have e12:((12:Int)==m.threads[t.toNat].step)=false:=by simp[hs]
 have e13:((13:Int)==m.threads[t.toNat].step)=false:=by simp[hs]
 have e14:((14:Int)==m.threads[t.toNat].step)=false:=by simp[hs]
 have e15:((15:Int)==m.threads[t.toNat].step)=false:=by simp[hs]
 have e16:((16:Int)==m.threads[t.toNat].step)=true:=by simp[hs]
 have hc3:m.threads[t.toNat].op.code≠3:=by omega
 have hp:=c_objApply m.config.object m.replicas[r.toNat].state m.threads[t.toNat].op hA.os hc3
 rw[applyM_yes hA.st (h1.2.2.2.2.1 _ (List.getElem_mem hi)).1.2.2.1] at hp
 rw[et,hrm,stAt_of hA]
 generalize turnS m.config.object m.replicas[r.toNat].state m.threads[t.toNat].op=tr at hp ⊢
 obtain⟨st2,an⟩:=tr
 dsimp only at hp ⊢
 refine PCall.of (F:=m21) rfl rfl rfl (ok_mach1 _ _) ?_
 simp -implicitDefEqProofs[m21]
 by_cases hh:64≤m.history.length
 ·have hh2:(64:Int)≤m.history.length:=by omega
  rw[show finishM (tellM m t an) t 2100=(noMachine,2100) from if_pos hh]
  refine CallT.body (F:=m27) rfl rfl rfl rfl ?_
  simp -implicitDefEqProofs[m27]
  refine CallT.bool2 (by simp) (c_boardThread m t h) (fun hb=>?_) (fun hb=>absurd hat hb)
  simp -implicitDefEqProofs
  refine CallT.pure (c_cfgReplica m.config t ⟨hc,hat.2.1,hat.2.2⟩) (by simp) rfl ?_
  simp -implicitDefEqProofs[hF]
  refine CallT.pure (c_startCopy m h (whole_of h1)) (by simp) (ok_mach _) ?_
  simp -implicitDefEqProofs
  refine CallT.bodyQ (F:=m28) rfl rfl rfl rfl rfl ?_
  simp -implicitDefEqProofs[m28,hF,b2,sT,sP,sI,-List.map_set,e11,e12,e13,e14,e15,e16,hh]
  refine CallT.body (F:=m29) rfl rfl rfl rfl ?_
  simp -implicitDefEqProofs[m29,hF,b2,sT,sP,sI,-List.map_set,e11,e12,e13,e14,e15,e16,hh]
  refine CallT.bodyQ (F:=m28) rfl rfl rfl rfl rfl ?_
  simp -implicitDefEqProofs[m28,hF,b2,sT,sP,sI,-List.map_set,e11,e12,e13,e14,e15,e16,hh]
  refine CallT.body (F:=m46) rfl rfl rfl rfl ?_
  simp -implicitDefEqProofs[m46,hF,b2,sT,sP,sI,-List.map_set,e11,e12,e13,e14,e15,e16,hh]
  refine CallT.body (F:=m65) rfl rfl rfl rfl ?_
  simp -implicitDefEqProofs[m65,hF,b2,sT,sP,sI,-List.map_set,e11,e12,e13,e14,e15,e16,hh]
  refine CallT.bodyQ (F:=m28) rfl rfl rfl rfl rfl ?_
  simp -implicitDefEqProofs[m28,hF,b2,sT,sP,sI,-List.map_set,e11,e12,e13,e14,e15,e16,hh]
  refine CallT.pure hp (by simp[hF]) (ok_st3 _ _ _) ?_
  simp -implicitDefEqProofs[hF,b2,sT,sP,sI,-List.map_set,e11,e12,e13,e14,e15,e16,hh]
  refine CallT.body (F:=m66) rfl rfl rfl rfl ?_
  simp -implicitDefEqProofs[m66,hF,b2,sT,sP,sI,-List.map_set,e11,e12,e13,e14,e15,e16,hh]
  simp -implicitDefEqProofs[hh2,hF,b2,sT,sP,sI,-List.map_set,e11,e12,e13,e14,e15,e16,hh]
 ·have hh2:¬ (64:Int)≤m.history.length:=by omega
  have hb48:(m.history.length+1)*48≤140737488355328:=by omega
  rw[show finishM (tellM m t an) t 2100=(doneM (tellM m t an) t,0) from if_neg hh,doneTell_of hi]
  refine CallT.body (F:=m27) rfl rfl rfl rfl ?_
  simp -implicitDefEqProofs[m27]
  refine CallT.bool2 (by simp) (c_boardThread m t h) (fun hb=>?_) (fun hb=>absurd hat hb)
  simp -implicitDefEqProofs
  refine CallT.pure (c_cfgReplica m.config t ⟨hc,hat.2.1,hat.2.2⟩) (by simp) rfl ?_
  simp -implicitDefEqProofs[hF]
  refine CallT.pure (c_startCopy m h (whole_of h1)) (by simp) (ok_mach _) ?_
  simp -implicitDefEqProofs
  refine CallT.bodyQ (F:=m28) rfl rfl rfl rfl rfl ?_
  simp -implicitDefEqProofs[m28,hF,b2,sT,sP,sI,-List.map_set,e11,e12,e13,e14,e15,e16,hh]
  refine CallT.body (F:=m29) rfl rfl rfl rfl ?_
  simp -implicitDefEqProofs[m29,hF,b2,sT,sP,sI,-List.map_set,e11,e12,e13,e14,e15,e16,hh]
  refine CallT.bodyQ (F:=m28) rfl rfl rfl rfl rfl ?_
  simp -implicitDefEqProofs[m28,hF,b2,sT,sP,sI,-List.map_set,e11,e12,e13,e14,e15,e16,hh]
  refine CallT.body (F:=m46) rfl rfl rfl rfl ?_
  simp -implicitDefEqProofs[m46,hF,b2,sT,sP,sI,-List.map_set,e11,e12,e13,e14,e15,e16,hh]
  refine CallT.body (F:=m65) rfl rfl rfl rfl ?_
  simp -implicitDefEqProofs[m65,hF,b2,sT,sP,sI,-List.map_set,e11,e12,e13,e14,e15,e16,hh]
  refine CallT.bodyQ (F:=m28) rfl rfl rfl rfl rfl ?_
  simp -implicitDefEqProofs[m28,hF,b2,sT,sP,sI,-List.map_set,e11,e12,e13,e14,e15,e16,hh]
  refine CallT.pure hp (by simp[hF]) (ok_st3 _ _ _) ?_
  simp -implicitDefEqProofs[hF,b2,sT,sP,sI,-List.map_set,e11,e12,e13,e14,e15,e16,hh]
  refine CallT.body (F:=m66) rfl rfl rfl rfl ?_
  simp -implicitDefEqProofs[m66,hF,b2,sT,sP,sI,-List.map_set,e11,e12,e13,e14,e15,e16,hh]
  simp -implicitDefEqProofs[hh2,hF,b2,sT,sP,sI,-List.map_set,e11,e12,e13,e14,e15,e16,hh]
  refine CallT.bodyQ (F:=m28) rfl rfl rfl rfl rfl ?_
  simp -implicitDefEqProofs[m28,hF,b2,sT,sP,sI,-List.map_set,e11,e12,e13,e14,e15,e16,hh]
  simp -implicitDefEqProofs[hh2,hb48,hF,b2,sT,sP,sI,-List.map_set,e11,e12,e13,e14,e15,e16,hh]
  simp[encThread]

set_option maxHeartbeats 4000000 in
theorem c_Look_no (m:Machine) (t:Int) (h:okM m) (hl:lookP m t) (s11:¬ (thrAt m t.toNat).step=11) (s12:¬ (thrAt m t.toNat).step=12) (s13:¬ (thrAt m t.toNat).step=13) (s14:¬ (thrAt m t.toNat).step=14) (s15:¬ (thrAt m t.toNat).step=15) (s16:¬ (thrAt m t.toNat).step=16):PCall tab 21 [.agg (encMachine false m),.int .i64 t] (.tup [.agg (encMachine true ((noMachine,2100):Machine × Int).1),.int .i64 ((noMachine,2100):Machine × Int).2]):=by
 obtain⟨hat,hcode⟩:=hl
 obtain⟨r,log,hi,hri,hj,hk,hlk,hrm,et,hlg,hown,hlog,hA,hF⟩:=wk h hat
 have h1:=hat.1
 have hc:=h1.1
 have hn:=h1.2.1
 have ht0:=hat.2.1
 have ht1:=hF.1.2.1
 rw[et] at hcode
 have b2:(m.threads[t.toNat].op.code != 2)=false:=by simp[hcode]
 have elk:lockAt m r.toNat log.toNat=m.replicas[r.toNat].locks[log.toNat]:=by simp[lockAt,hri,hlk]
 rw[et] at s11 s12 s13 s14 s15 s16
 have e11:((11:Int)==m.threads[t.toNat].step)=false:=by simp;omega
 have e12:((12:Int)==m.threads[t.toNat].step)=false:=by simp;omega
 have e13:((13:Int)==m.threads[t.toNat].step)=false:=by simp;omega
 have e14:((14:Int)==m.threads[t.toNat].step)=false:=by simp;omega
 have e15:((15:Int)==m.threads[t.toNat].step)=false:=by simp;omega
 have e16:((16:Int)==m.threads[t.toNat].step)=false:=by simp;omega
 refine PCall.of (F:=m21) rfl rfl rfl (ok_mach1 _ _) ?_
 simp -implicitDefEqProofs[m21]
 refine CallT.body (F:=m27) rfl rfl rfl rfl ?_
 simp -implicitDefEqProofs[m27]
 refine CallT.bool2 (by simp) (c_boardThread m t h) (fun hb=>?_) (fun hb=>absurd hat hb)
 simp -implicitDefEqProofs
 refine CallT.pure (c_cfgReplica m.config t ⟨hc,hat.2.1,hat.2.2⟩) (by simp) rfl ?_
 simp -implicitDefEqProofs[hF]
 refine CallT.pure (c_startCopy m h (whole_of h1)) (by simp) (ok_mach _) ?_
 simp -implicitDefEqProofs
 refine CallT.bodyQ (F:=m28) rfl rfl rfl rfl rfl ?_
 simp -implicitDefEqProofs[m28,hF,b2,sT,sP,sI,-List.map_set,e11,e12,e13,e14,e15,e16]
 refine CallT.body (F:=m29) rfl rfl rfl rfl ?_
 simp -implicitDefEqProofs[m29,hF,b2,sT,sP,sI,-List.map_set,e11,e12,e13,e14,e15,e16]
 refine CallT.bodyQ (F:=m28) rfl rfl rfl rfl rfl ?_
 simp -implicitDefEqProofs[m28,hF,b2,sT,sP,sI,-List.map_set,e11,e12,e13,e14,e15,e16]

theorem c_LookStep (m:Machine) (t:Int) (h:okM m):PCall tab 21 [.agg (encMachine false m),.int .i64 t] (.tup [.agg (encMachine false (lookM m t).1),.int .i64 (lookM m t).2]):=by
 by_cases hl:lookP m t
 ·rw[lookM_yes hl]
  by_cases s11:(thrAt m t.toNat).step=11
  ·rw[s11,show lookX m t (thrAt m t.toNat) (ownRing m t) (ownCur m t) (ownLock m t) 11=_ from if_pos rfl];exact (c_Look_11 m t h hl s11).mach1Z
  by_cases s12:(thrAt m t.toNat).step=12
  ·rw[s12,show lookX m t (thrAt m t.toNat) (ownRing m t) (ownCur m t) (ownLock m t) 12=(stepM m t (if (thrAt m t.toNat).seen≤ownCur m t then 16 else 13),(0:Int)) from rfl];exact (c_Look_12 m t h hl s12).mach1Z
  by_cases s13:(thrAt m t.toNat).step=13
  ·rw[s13,show lookX m t (thrAt m t.toNat) (ownRing m t) (ownCur m t) (ownLock m t) 13=(if ownLock m t=0 then stepM (setLock m (ownOf m t).toNat (thrAt m t.toNat).log.toNat (t+1)) t 14 else stepM m t 12,(0:Int)) from rfl];exact (c_Look_13 m t h hl s13).mach1Z
  by_cases s14:(thrAt m t.toNat).step=14
  ·rw[s14,show lookX m t (thrAt m t.toNat) (ownRing m t) (ownCur m t) (ownLock m t) 14=(if (thrAt m t.toNat).seen≤ownCur m t then stepM m t 15 else (oneM m (ownOf m t) (thrAt m t.toNat).log).1,(0:Int)) from rfl];exact c_Look_14 m t h hl s14
  by_cases s15:(thrAt m t.toNat).step=15
  ·rw[s15,show lookX m t (thrAt m t.toNat) (ownRing m t) (ownCur m t) (ownLock m t) 15=(stepM (setLock m (ownOf m t).toNat (thrAt m t.toNat).log.toNat 0) t 12,(0:Int)) from rfl];exact (c_Look_15 m t h hl s15).mach1Z
  by_cases s16:(thrAt m t.toNat).step=16
  ·rw[s16,show lookX m t (thrAt m t.toNat) (ownRing m t) (ownCur m t) (ownLock m t) 16=finishM (tellM m t (turnS m.config.object (stAt m (ownOf m t).toNat) (thrAt m t.toNat).op).2) t 2100 from rfl];exact (c_Look_16 m t h hl s16).mach1Z
  rw[show lookX m t (thrAt m t.toNat) (ownRing m t) (ownCur m t) (ownLock m t) (thrAt m t.toNat).step=(noMachine,2100) by simp[lookX,s11,s12,s13,s14,s15,s16]]
  exact (c_Look_no m t h hl s11 s12 s13 s14 s15 s16).mach1Z
 ·rw[lookM_no hl]
  refine PCall.mach1Z ?_
  by_cases hat:atP m t
  ·obtain⟨hi,ht0,ht1,hlog,hown⟩:=at_thr hat
   have hc:=hat.1.1
   have h1:=hat.1
   have z0:0<m.threads.length:=by omega
   have hcode:¬ m.threads[t.toNat].op.code=2:=fun e=>hl ⟨hat,by rw[thrAt_of hi];exact e⟩
   have b2:(m.threads[t.toNat].op.code != 2)=true:=by simp[hcode]
   refine PCall.of (F:=m21) rfl rfl rfl (ok_mach1 _ _) ?_
   simp -implicitDefEqProofs[m21]
   refine CallT.body (F:=m27) rfl rfl rfl rfl ?_
   simp -implicitDefEqProofs[m27]
   refine CallT.bool2 (by simp) (c_boardThread m t h) (fun hb=>?_) (fun hb=>absurd hat hb)
   simp -implicitDefEqProofs
   refine CallT.pure (c_cfgReplica m.config t ⟨hc,hat.2.1,hat.2.2⟩) (by simp) rfl ?_
   simp -implicitDefEqProofs
   refine CallT.pure (c_startCopy m h (whole_of h1)) (by simp) (ok_mach _) ?_
   simp -implicitDefEqProofs
   refine CallT.bodyQ (F:=m28) rfl rfl rfl rfl rfl ?_
   simp -implicitDefEqProofs[m28,ht0,ht1,hi,z0,b2]
  ·refine PCall.of (F:=m21) rfl rfl rfl (ok_mach1 _ _) ?_
   simp -implicitDefEqProofs[m21]
   refine CallT.body (F:=m27) rfl rfl rfl rfl ?_
   simp -implicitDefEqProofs[m27]
   refine CallT.bool2 (by simp) (c_boardThread m t h) (fun hb=>absurd hb hat) (fun hb=>?_)
   simp -implicitDefEqProofs

end Go.Ab

namespace Go.Ab

theorem c_awake21:PCall tab 19 [] (.bool true):=PCall.closed 60 rfl rfl rfl (by kernel_rfl)

end Go.Ab

namespace Go.Ab

theorem c_begun21:PCall tab 20 [] (.agg (encMachine true begunM)):=by
 refine PCall.of (F:=m20) rfl rfl rfl (ok_mach _) ?_
 simp -implicitDefEqProofs[m20]
 refine CallT.pure (c_New13 ⟨2,2,2,4,8⟩) rfl (ok_mach1 _ _) ?_
 rw[newM_yes begun_cfg]
 rw[show machine0 ⟨2,2,2,4,8⟩=begunM from rfl]
 simp -implicitDefEqProofs

end Go.Ab

namespace Go.Ab

section
variable {f:Int→Int} {m:Machine} {t:Int}
theorem lookT_A (s:State) {o:Op} (ho:o.code=2):(turnS 2 (stA f s) (opA f o)).2=(turnS 2 s o).2:=by
 have e1:(opA f o).code=2:=ho
 have e2:(opA f o).row=o.row:=rfl
 unfold turnS
 simp only[ho,e1,e2,show ¬ (2:Int)=3 by decide,show ¬ (2:Int)=0 by decide,if_false,if_true]
 have g:∀ i,getRow (stA f s) i=(getRow s i).map f:=fun i=>by unfold getRow stA;split<;>(try split)<;>(try split)<;>rfl
 rw[g,List.length_map]
theorem st_A (hf:ArgF f) (r:Nat):stAt (mA f m) r=stA f (stAt m r):=by
 unfold stAt mA
 rw[List.getElem?_map]
 cases m.replicas[r]?<;>rfl
theorem look_A (hf:ArgF f) (hk:okM m) (ho:m.config.object=2) (hp:putsM m) (h:(lookM m t).2=0):lookM (mA f m) t=(mA f (lookM m t).1,0):=by
 by_cases hl:lookP m t
 ·have hat:=hl.1
  have hl':lookP (mA f m) t:=⟨at_A hf ho hat,by rw[thr_A hf];exact hl.2⟩
  obtain⟨r,log,hi,hri,hj,hkc,hlk,hrm,et,hlg,hown,hlog,hA,hF⟩:=wk hk hat
  have ht:thereP m r log:=⟨hat.1,hown,hlog⟩
  have hcode:=hl.2
  rw[lookM_yes hl] at h ⊢
  rw[lookM_yes hl',thr_A hf,ownCur_A hf,ownLock_A hf,ownRing_A hf]
  have e2:(thrAt m t.toNat).log=log:=by rw[et];exact hlg
  show lookX (mA f m) t (thA f (thrAt m t.toNat)) (rgA f (ownRing m t)) (ownCur m t) (ownLock m t) (thrAt m t.toNat).step=_
  generalize hx:thrAt m t.toNat=x at *
  have e1:(thA f x).log=log:=e2
  unfold lookX at h ⊢
  by_cases s1:x.step=11
  ·rw[if_pos s1,if_pos s1]
   refine Prod.ext ?_ rfl
   exact setThr_A fun _=>rfl
  rw[if_neg s1] at h ⊢
  rw[if_neg s1]
  by_cases s2:x.step=12
  ·rw[if_pos s2,if_pos s2]
   refine Prod.ext ?_ rfl
   exact step_A _
  rw[if_neg s2] at h ⊢
  rw[if_neg s2]
  by_cases s3:x.step=13
  ·rw[if_pos s3,if_pos s3,own_A,e1,e2]
   by_cases hl:ownLock m t=0
   ·rw[if_pos hl,if_pos hl,setLock_A,step_A]
   ·rw[if_neg hl,if_neg hl,step_A]
  rw[if_neg s3] at h ⊢
  rw[if_neg s3]
  by_cases s4:x.step=14
  ·rw[if_pos s4,if_pos s4,own_A,e1,e2,hrm]
   show (if x.seen≤ownCur m t then _ else _,(0:Int))=_
   by_cases hq:x.seen≤ownCur m t
   ·rw[if_pos hq,if_pos hq,step_A]
   ·rw[if_neg hq,if_neg hq,one_A hf ho hp ht]
  rw[if_neg s4] at h ⊢
  rw[if_neg s4]
  by_cases s5:x.step=15
  ·rw[if_pos s5,if_pos s5,own_A,e1,e2,setLock_A,step_A]
  rw[if_neg s5] at h ⊢
  rw[if_neg s5]
  by_cases s6:x.step=16
  ·rw[if_pos s6] at h ⊢
   rw[if_pos s6,own_A,st_A hf]
   rw[show (mA f m).config.object=2 from ho,show (thA f x).op=opA f x.op from rfl,lookT_A _ hcode]
   rw[ho] at h ⊢
   unfold tellM at h ⊢
   rw[setThr_A (g:=fun y=>{ y with answer:=(turnS 2 (stAt m (ownOf m t).toNat) x.op).2 }) (by intro y;rfl)]
   exact fin_A hf h (by decide)
  ·rw[if_neg s6] at h
   exact absurd h (by decide)
 ·rw[lookM_no hl] at h
  exact absurd h (by decide)
def lookOK (m:Machine) (t:Int):Prop:=putOK m∧(lookM m t).2=0
instance (m:Machine) (t:Int):Decidable (lookOK m t):=inferInstanceAs (Decidable (_∧_))
theorem c_LookA (hf:ArgF f) (h:lookOK m t):PCall tab 21 [.agg (encMachine false (mA f m)),.int .i64 t] (.tup [.agg (encMachine false (mA f (lookM m t).1)),.int .i64 0]):=by
 have:=c_LookStep (mA f m) t (okM_A h.1.1)
 rwa [look_A hf h.1.1 h.1.2.1 h.1.2.2 h.2] at this
end

def argX (xs:List Int) (k:Int):Int:=if k=1 then xs[0]?.getD 0 % 256 else if k=2 then xs[1]?.getD 0 % 256 else if k=3 then xs[2]?.getD 0 % 256 else 0
theorem argX_ok (xs:List Int):ArgF (argX xs):=by
 refine⟨fun x _ _=>?_,rfl⟩
 unfold argX
 split
 ·omega
 ·split
  ·omega
  ·split<;>omega
theorem argX_at {xs:List Int} {i:Nat} (hi:i<xs.length) (h3:i<3):argX xs ((i:Int)+1)=xs[i] % 256:=by
 rcases (by omega:i=0∨i=1∨i=2) with rfl|rfl|rfl<;>simp[argX,hi]
def opSee (i:Nat):Op:=⟨0,0,(i:Int)+1⟩
def pkN:Nat→Machine→Int→Machine
 | 0,m,_=>m
 | k+1,m,t=>pkN k (pickE m t) t
def pkS:Nat→Machine→Int→Bool
 | 0,_,_=>true
 | k+1,m,t=>decide (putOK m∧pickOK m t) && pkS k (pickE m t) t
def seenB (m:Machine) (t n:Nat):Bool:=decide ((wideOK m∧m.replicas.length=2∧m.history.length≤64)∧(thrAt m t).step=0∧((m.replicas[1]?.map (·.locks))=some [0,0])∧m.history[m.history.length - 1]? = some ⟨t,false,⟨2,0,0⟩,n⟩)
def runL:Nat→Machine→Nat→Nat→Bool
 | 0,m,t,n=>seenB m t n
 | k+1,m,t,n=>decide (m.threads.length=4) && if (thrAt m t).step=0 then seenB m t n else decide (lookOK m t) && runL k (lookM m t).1 t n
def looksB (m:Machine) (n t:Nat):Bool:=decide (putOK m∧callOK m t ⟨2,0,0⟩) && runL 12 (callM m t ⟨2,0,0⟩).1 t n
def seeB:Nat→Nat→Machine→Bool
 | 0,i,m=>looksB m i 1 && looksB m i 3
 | k+1,i,m=>(looksB m i 1 && looksB m i 3) && (decide (putOK m∧callOK m 0 (opSee i)) && pkS 10 (callM m 0 (opSee i)).1 0 && seeB k (i+1) (pkN 10 (callM m 0 (opSee i)).1 0))
theorem see_all:seeB 3 0 begunM=true:=by decide +kernel
theorem see_looks {k i:Nat} {m:Machine} (h:seeB k i m=true):looksB m i 1=true∧looksB m i 3=true:=by
 cases k<;>simp only[seeB,Bool.and_eq_true] at h
 ·exact h
 ·exact h.1
theorem see_next {k i:Nat} {m:Machine} (h:seeB (k+1) i m=true):(putOK m∧callOK m 0 (opSee i))∧pkS 10 (callM m 0 (opSee i)).1 0=true∧seeB k (i+1) (pkN 10 (callM m 0 (opSee i)).1 0)=true:=by
 simp only[seeB,Bool.and_eq_true,decide_eq_true_eq] at h
 exact⟨h.2.1.1,h.2.1.2,h.2.2⟩
theorem begun_A {f:Int→Int} (hf:ArgF f):mA f begunM=begunM:=by
 simp[mA,begunM,machine0,rgA,rpA,thA,stA,slA,opA,hf.z]

theorem c_called21:∃ P:Machine,P.threads.length=4∧PCall tab 22 [] (.agg (encMachine false P)):=by
 have hk:callOK begunM 0 ⟨0,0,7⟩∧(callM begunM 0 ⟨0,0,7⟩).1.threads.length=4:=by decide +kernel
 have hC:=c_CallOK hk.1
 refine⟨(callM begunM 0 ⟨0,0,7⟩).1,hk.2, ?_⟩
 generalize (callM begunM 0 ⟨0,0,7⟩).1=P at *
 have hbeg:=c_begun21
 generalize begunM=B at *
 refine PCall.of (F:=m22) rfl rfl rfl (ok_machF _) ?_
 simp -implicitDefEqProofs[m22]
 refine CallT.pure hbeg rfl (ok_mach _) ?_
 simp -implicitDefEqProofs
 refine CallT.pure hC (by simp) (ok_mach1F _ _) ?_
 simp -implicitDefEqProofs

structure SeA (xs:List Int) (x:Int) (k:Nat) (E:TE) (T:TH):Prop where
 h:∃ (i b:Nat) (A:Machine),i+k=3∧seeB k i A=true∧MF b T (mA (argX xs) A)∧E.var 0=some (mCz b (mA (argX xs) A))∧E.get 7=.a (.int .i64 i)∧E.get 6=.a (.int .i64 i)
 ln:1≤E.ln
 e0:E.get 0=.a (.vs (xs.map encInt) false)
 e1:E.get 1=.a (.int .i64 x)
 e5:E.get 5=.lp 0 0
structure SeP (xs:List Int) (x:Int) (n i v b:Nat) (A:Machine) (k:Nat) (E:TE) (T:TH):Prop where
 h:∃ (j c:Nat) (B:Machine),j+k=10∧pkS k B 0=true∧seeB n (i+1) (pkN k B 0)=true∧MF c T (mA (argX xs) B)∧E.var v=some (mCz c (mA (argX xs) B))∧E.get 10=.a (.int .i64 j)
 v0:E.var 0=some (mCz b (mA (argX xs) A))
 ln:v<E.ln
 e0:E.get 0=.a (.vs (xs.map encInt) false)
 e1:E.get 1=.a (.int .i64 x)
 e5:E.get 5=.lp 0 0
 e6:E.get 6=.a (.int .i64 i)
 e7:E.get 7=.a (.int .i64 i)
 e8:E.get 8=.lp v 0
structure SeY (xs:List Int) (x:Int) (i b:Nat) (A:Machine) (E:TE) (T:TH):Prop where
 q:MF b T (mA (argX xs) A)
 v0:E.var 0=some (mCz b (mA (argX xs) A))
 ln:1≤E.ln
 e5:E.get 5=.lp 0 0
 e1:E.get 1=.a (.int .i64 x)
 e6:E.get 6=.a (.int .i64 i)
structure SeS (xs:List Int) (n t v:Nat) (k:Nat) (E:TE) (T:TH):Prop where
 h:∃ (j c:Nat) (B:Machine),j+k=12∧runL k B t n=true∧MF c T (mA (argX xs) B)∧E.var v=some (mCz c (mA (argX xs) B))∧E.get 14=.a (.int .i64 j)
 ln:v<E.ln
 e6:E.get 6=.a (.int .i64 n)
 e11:E.get 11=.a (.int .i64 t)
 e12:E.get 12=.lp v 0
 e13:E.get 13=.a (.int .i64 0)
structure SeZ (xs:List Int) (n t v:Nat) (B:Machine) (E:TE) (T:TH):Prop where
 h:∃ c:Nat,MF c T (mA (argX xs) B)∧E.var v=some (mCz c (mA (argX xs) B))
 e6:E.get 6=.a (.int .i64 n)
 e11:E.get 11=.a (.int .i64 t)
 e12:E.get 12=.lp v 0
 e13:E.get 13=.a (.int .i64 0)

set_option maxRecDepth 20000 in
set_option maxHeartbeats 8000000 in
theorem l_LookSees (xs:List Int) (x:Int) (hr1:∀ x∈xs,inR x) (hr2:xs.length≤9223372036854775807) (_:inR x):CallT tab false 8 [.a (.vs (xs.map encInt) false),.a (.int .i64 x)] TH.none (fun v _=>v=.a (.bool true)):=by
 have hbeg:=c_begun21.machZ
 obtain⟨P,lP,hcl⟩:=c_called21
 have hA:=see_all
 have hf:=argX_ok xs
 rw[← begun_A hf] at hbeg
 generalize begunM=B0 at *
 refine CallT.body (F:=m8) rfl rfl rfl rfl ?_
 simp -implicitDefEqProofs[m8]
 refine CallT.pure c_awake21 rfl rfl ?_
 simp -implicitDefEqProofs
 refine CallT.pure hbeg rfl (ok_machF _) ?_
 simp -implicitDefEqProofs
 refine WCT.mono (Q:=fun o E T=>o=.exit 0∧∃ (i b:Nat) (A:Machine),(∃ k,seeB k i A=true)∧i≤3∧SeY xs x i b A E T) (loop_by (SeA xs x) ?_ 3 ⟨⟨0,0,B0,by simp,hA,⟨by simp,by simp,by simp,by simp,by simp⟩,by simp[mCz],by simp,by simp⟩,by simp,by simp,by simp,by simp⟩) ?_
 ·clear hA hbeg B0
  rintro k E T ⟨⟨i,b,A,hik,hB,⟨q0,q1,q2,q3,hn⟩,v0,e7,e6⟩,ln,e0,e1,e5⟩
  unfold mCz at v0
  have l0:¬ E.ln=0:=by omega
  have l0':¬ 0=E.ln:=by omega
  have hQ:=And.intro q0 (And.intro q1 (And.intro q2 q3))
  by_cases hlt:i<xs.length∧i<3
  ·obtain⟨hi1,hi2⟩:=hlt
   obtain⟨k,rfl⟩:∃ k',k=k'+1:=⟨k - 1,by omega⟩
   have g1:=List.getElem?_eq_getElem hi1
   have hi3:(i:Int)<3:=by omega
   have z0:0<xs.length:=by omega
   obtain⟨⟨hpt,hc⟩,hp,hnx⟩:=see_next hB
   have hC:=c_CallA hf hpt hc
   simp only[opA,opSee,argX_at hi1 hi2] at hC
   unfold opSee at hp hnx
   generalize (callM A 0 ⟨0,0,(i:Int)+1⟩).1=B at *
   have wi:IntKind.wrap .i64 ((i:Int)+1)=((i+1:Nat):Int):=wrap_nat (by omega)
   have hX:=And.intro e0 (And.intro e1 (And.intro e5 (And.intro e6 (And.intro e7 (And.intro v0 (And.intro hi1 (And.intro hi3 (And.intro g1 (And.intro z0 (And.intro l0 l0'))))))))))
   simp -implicitDefEqProofs[hX,mask_255]
   refine CallT.pure hC (by simp[hX,hQ]) (ok_mach1F _ _) ?_
   simp -implicitDefEqProofs[hX]
   refine WCT.mono (Q:=fun o E' T'=>o=.exit 2∧SeP xs x k i E.ln b A 0 E' T') (loop_by (SeP xs x k i E.ln b A) ?_ 10 ⟨⟨0,T.next,B,by simp,hp,hnx,⟨by simp,by simp,by simp,by simp,by simp⟩,by simp[mCz],by simp⟩,by simp[hX,mCz],by simp,by simp[hX],by simp[hX],by simp[hX],by simp[hX],by simp[hX],by simp⟩) ?_
   ·have hE1:¬ E.ln=0:=l0
    have hE2:¬ 0=E.ln:=l0'
    generalize E.ln=v at hE1 hE2 ⊢
    clear hX hQ hC hp hnx hpt hc B q0 q1 q2 q3 hn v0 e7 e6 ln e0 e1 e5 l0 l0' E T
    rintro k2 E T ⟨⟨j,c,B,hjk,hp,hnx,⟨q0,q1,q2,q3,hn⟩,v9,e10⟩,v0,ln,e0,e1,e5,e6,e7,e8⟩
    unfold mCz at v9
    have hQ:=And.intro q0 (And.intro q1 (And.intro q2 q3))
    cases k2 with
    | zero=>
     have hi:¬ (j:Int)<10:=by omega
     simp -implicitDefEqProofs[e8,e10,hi]
     exact⟨⟨j,c,B,by omega,hp,hnx,⟨q0,q1,q2,q3,hn⟩,by simp[v9,mCz],by simp[e10]⟩,by simp[v0],by simp[ln],by simp[e0],by simp[e1],by simp[e5],by simp[e6],by simp[e7],by simp[e8]⟩
    | succ k2=>
     simp only[pkS,pkN,Bool.and_eq_true,decide_eq_true_eq] at hp hnx
     have hi:(j:Int)<10:=by omega
     have hP:=c_PickA hf hp.1.1 hp.1.2
     have hp2:=hp.2
     generalize pickE B 0=D at *
     have wj:IntKind.wrap .i64 ((j:Int)+1)=((j+1:Nat):Int):=wrap_nat (by omega)
     simp -implicitDefEqProofs[e8,e10,v9,hi,hQ]
     refine CallT.pure hP (by simp[v9,hQ]) (ok_mach1F _ _) ?_
     simp -implicitDefEqProofs[e8,e10,v9,wj]
     exact⟨k2,by omega,⟨⟨j+1,T.next,D,by omega,hp2,hnx,⟨by simp,by simp,by simp,by simp,by simp⟩,by simp[mCz],by simp⟩,by simp[v0,hE1,hE2],by simp[ln],by simp[e0],by simp[e1],by simp[e5],by simp[e6],by simp[e7],by simp[e8]⟩⟩
   ·have hE1:¬ E.ln=0:=l0
    have hE2:¬ 0=E.ln:=l0'
    have hv1:1≤E.ln:=ln
    generalize E.ln=v at hE1 hE2 hv1 ⊢
    clear hX hQ hC hp hnx hpt hc B q0 q1 q2 q3 hn v0 e7 e6 ln e0 e1 e5 l0 l0' E T
    rintro o E T ⟨rfl,⟨j,c,B,hjk,hp,hnx,⟨q0,q1,q2,q3,hn⟩,v9,e10⟩,v0,ln,e0,e1,e5,e6,e7,e8⟩
    simp only[pkN] at hnx
    unfold mCz at v9 v0
    simp -implicitDefEqProofs[e6,e7,e8,e5,v9,v0,wi,hE1,hE2]
    exact⟨k,by omega,⟨⟨i+1,c,B,by omega,hnx,⟨q0,q1,q2,q3,hn⟩,by simp[mCz],by simp,by simp⟩,by simp;omega,by simp[e0],by simp[e1],by simp[e5]⟩⟩
  ·have hY:∀ E':TE,E'.var 0=some (mCz b (mA (argX xs) A))→1≤E'.ln→E'.get 5=.lp 0 0→E'.get 1=.a (.int .i64 x)→E'.get 6=.a (.int .i64 i)→∃ (i b:Nat) (A:Machine),(∃ k,seeB k i A=true)∧i≤3∧SeY xs x i b A E' T:=fun E' a1 a2 a3 a4 a5=>⟨i,b,A,⟨k,hB⟩,by omega,⟨q0,q1,q2,q3,hn⟩,a1,a2,a3,a4,a5⟩
   by_cases hx:i<xs.length
   ·have hx6:¬ (i:Int)<3:=by omega
    simp -implicitDefEqProofs[e0,e7,hx,hx6]
    exact hY _ (by simp[v0,mCz]) (by simp[ln]) (by simp[e5]) (by simp[e1]) (by simp[e6])
   ·simp -implicitDefEqProofs[e0,e7,hx]
    exact hY _ (by simp[v0,mCz]) (by simp[ln]) (by simp[e5]) (by simp[e1]) (by simp[e6])
 clear hA hbeg B0
 rintro o E T ⟨rfl,i,b,A,⟨k,hB⟩,hi6,⟨q0,q1,q2,q3,hn⟩,v0,ln,e5,e1,e6⟩
 have hT:=see_looks hB
 obtain⟨t,ht,ht2⟩:∃ t:Nat,IntKind.wrap .i64 (1+IntKind.wrap .i64 (2*(x % 2)))=(t:Int)∧(t=1∨t=3):=by
  rcases (by omega:x % 2=0∨x % 2=1) with h|h<;>rw[h]
  ·exact⟨1,rfl,.inl rfl⟩
  ·exact⟨3,rfl,.inr rfl⟩
 have hS:looksB A i t=true:=by
  rcases ht2 with rfl|rfl
  ·exact hT.1
  ·exact hT.2
 clear hT hB
 unfold looksB at hS
 simp only[Bool.and_eq_true,decide_eq_true_eq] at hS
 obtain⟨⟨hpt,hc⟩,hrun⟩:=hS
 have hC:=c_CallA hf hpt hc
 simp only[opA,hf.z] at hC
 clear hc hpt
 generalize (callM A t ⟨2,0,0⟩).1=B at *
 unfold mCz at v0
 have l0:¬ E.ln=0:=by omega
 have l0':¬ 0=E.ln:=by omega
 have hQ:=And.intro q0 (And.intro q1 (And.intro q2 q3))
 simp -implicitDefEqProofs[e1,e5,e6,v0,mask_1,ht]
 refine CallT.pure hC (by simp[v0,hQ]) (ok_mach1F _ _) ?_
 simp -implicitDefEqProofs[e1,e5,e6,v0,l0,l0']
 refine WCT.mono (Q:=fun o E' T'=>o=.exit 4∧∃ B,seenB B t i=true∧SeZ xs i t E.ln B E' T') (loop_by (SeS xs i t E.ln) ?_ 12 ⟨⟨0,T.next,B,by simp,hrun,⟨by simp,by simp,by simp,by simp,by simp⟩,by simp[mCz],by simp⟩,by simp,by simp[e6],by simp,by simp,by simp⟩) ?_
 ·have hE1:¬ E.ln=0:=l0
  have hE2:¬ 0=E.ln:=l0'
  generalize E.ln=v at hE1 hE2 ⊢
  clear hQ hC hrun B q0 q1 q2 q3 hn v0 ln e5 e1 e6 l0 l0' E T
  rintro k E T ⟨⟨j,c,B,hjk,hrun,⟨q0,q1,q2,q3,hn⟩,v9,e14⟩,ln,e6,e11,e12,e13⟩
  unfold mCz at v9
  have hQ:=And.intro q0 (And.intro q1 (And.intro q2 q3))
  have hend:seenB B t i=true→∀ E':TE,E'.var v=some (mCz c (mA (argX xs) B))→E'.get 6=.a (.int .i64 i)→E'.get 11=.a (.int .i64 t)→E'.get 12=.lp v 0→E'.get 13=.a (.int .i64 0)→∃ B,seenB B t i=true∧SeZ xs i t v B E' T:=fun h E' a1 a2 a3 a4 a5=>⟨B,h,⟨c,⟨q0,q1,q2,q3,hn⟩,a1⟩,a2,a3,a4,a5⟩
  have wj:IntKind.wrap .i64 ((j:Int)+1)=((j+1:Nat):Int):=wrap_nat (by omega)
  cases k with
  | zero=>
   simp only[runL] at hrun
   have hi:¬ (j:Int)<12:=by omega
   simp -implicitDefEqProofs[e12,e14,hi]
   exact hend hrun _ (by simp[v9,mCz]) (by simp[e6]) (by simp[e11]) (by simp[e12]) (by simp[e13])
  | succ k=>
   simp only[runL,Bool.and_eq_true,decide_eq_true_eq] at hrun
   obtain⟨hl,hr⟩:=hrun
   have hi:(j:Int)<12:=by omega
   have hlA:(mA (argX xs) B).threads.length=4:=by simpa [mA] using hl
   have zt:t<(mA (argX xs) B).threads.length:=by omega
   have zi:(t:Int)<(mA (argX xs) B).threads.length:=by omega
   have z4:(t:Int)<4:=by omega
   have z0:0<(mA (argX xs) B).threads.length:=by omega
   have gt:=List.getElem?_eq_getElem zt
   have es:((mA (argX xs) B).threads[t]).step=(thrAt B t).step:=by
    rw[← thrAt_of zt,thr_A hf];rfl
   have hG:=And.intro zt (And.intro zi (And.intro z4 (And.intro z0 (And.intro gt (And.intro hlA hi)))))
   by_cases hs:(thrAt B t).step=0
   ·rw[if_pos hs] at hr
    rw[hs] at es
    simp -implicitDefEqProofs[e11,e12,e14,v9,hQ,hG,es]
    exact hend hr _ (by simp[v9,mCz,hlA]) (by simp[e6]) (by simp[e11]) (by simp[e12]) (by simp[e13])
   ·rw[if_neg hs] at hr
    simp only[Bool.and_eq_true,decide_eq_true_eq] at hr
    have hS:=c_LookA hf hr.1
    have hrB:=hr.2
    generalize (lookM B t).1=D at *
    have hsb:((mA (argX xs) B).threads[t].step != 0)=true:=by rw[es];simpa using hs
    have hlv:¬ v=E.ln∧¬ E.ln=v:=by omega
    simp -implicitDefEqProofs[e11,e12,e14,v9,hQ,hG,hsb]
    refine CallT.pure hS (by simp[v9,hQ,hlA]) (ok_mach1F _ _) ?_
    simp -implicitDefEqProofs[e11,e12,e14,v9,hlv]
    refine CallT.pure (c_Num 0) rfl rfl ?_
    simp -implicitDefEqProofs[e11,e12,e14,v9,hlv,wj]
    exact⟨k,by omega,⟨⟨j+1,T.next,D,by omega,hrB,⟨by simp,by simp,by simp,by simp,by simp⟩,by simp[mCz,hlv],by simp⟩,by first|(simp;done)|(simp;omega),by simp[e6],by simp[e11],by simp[e12],by simp[e13]⟩⟩
 ·clear hQ hC hrun B q0 q1 q2 q3 hn v0 e5 e1 e6 l0 l0' T
  generalize E.ln=v
  rintro o E T ⟨rfl,B,htold,⟨c,⟨q0,q1,q2,q3,hn⟩,v9⟩,e6,e11,e12,e13⟩
  unfold mCz at v9
  unfold seenB at htold
  simp only[decide_eq_true_eq] at htold
  obtain⟨⟨hW,hP2,h64⟩,s0,hlk,hh⟩:=htold
  have hWA:=wide_A (f:=argX xs) hW
  have hPA:(mA (argX xs) B).replicas.length=2:=by simpa [mA] using hP2
  have hHA:(mA (argX xs) B).history[(mA (argX xs) B).history.length - 1]? = some ⟨t,false,⟨2,0,0⟩,i⟩:=by
   have el:(mA (argX xs) B).history.length=B.history.length:=by simp[mA]
   rw[el]
   simp only[mA,List.getElem?_map,hh,Option.map_some,evA,opA,hf.z]
  have hLk:((mA (argX xs) B).replicas[1]?.map (·.locks))=some [0,0]:=by
   rw[← hlk]
   simp only[mA,List.getElem?_map]
   cases B.replicas[1]?<;>rfl
  have hS0:(thrAt (mA (argX xs) B) t).step=0:=by rw[thr_A hf];exact s0
  have h64A:(mA (argX xs) B).history.length≤64:=by simpa [mA] using h64
  generalize mA (argX xs) B=Z at *
  have zt:t<Z.threads.length:=by have:=hWA.1;omega
  have zi:(t:Int)<Z.threads.length:=by omega
  have z4:(t:Int)<4:=by have:=hWA.1;omega
  have z0:0<Z.threads.length:=by omega
  have y1:1<Z.replicas.length:=by omega
  have gt:=List.getElem?_eq_getElem zt
  have gy:=List.getElem?_eq_getElem y1
  rw[thrAt_of zt] at hS0
  rw[gy] at hLk
  have hLk:Z.replicas[1].locks=[0,0]:=by simpa using hLk
  have hz:0<Z.history.length:=by
   have:=(List.getElem?_eq_some_iff.1 hHA).1
   omega
  have hz1:Z.history.length - 1<Z.history.length:=by omega
  have hzi:(Z.history.length:Int) - 1<Z.history.length:=by omega
  have hz2:¬ (Z.history.length:Int)=0:=by omega
  have hw1:IntKind.wrap .i64 ((Z.history.length:Int) - 1)=((Z.history.length - 1:Nat):Int):=by rw[wrap_of (by omega) (by omega)];omega
  have hz3:((Z.history.length:Int)==0)=false:=by rw[beq_eq_false_iff_ne];omega
  have hG:=And.intro z4 <| And.intro zt (And.intro zi (And.intro z0 (And.intro y1 (And.intro gt (And.intro gy (And.intro hWA.1 (And.intro hWA.2 (And.intro hPA (And.intro hz (And.intro hz1 (And.intro hz2 (And.intro hw1 (And.intro hHA (And.intro hz3 hzi))))))))))))))
  simp -implicitDefEqProofs[e6,e11,e12,e13,v9,q0,q1,q2,q3,hG,hS0,hLk]
  obtain⟨h1,h2⟩:=List.getElem?_eq_some_iff.1 hHA
  rw[h2]
  have y1i:(1:Int)<2:=by decide
  have zl:0<Z.replicas[1].locks.length:=by rw[hLk];decide
  simp -implicitDefEqProofs[e6,e11,e12,e13,v9,q0,q1,q2,q3,hG,hS0,hLk]
  refine CallT.pure hcl rfl (ok_machF _) ?_
  simp -implicitDefEqProofs[lP]

end Go.Ab

namespace Go.Ab
open Go.RowKit Go.ChangeShapes

theorem law_eval {M:FuncId→Option MFunc} {k:FuncId} {ts:List AV} (h:CallT M false k (ts.map .a) TH.none fun v _=>v=.a (.bool true)):∃ n H',eval M n k ts AH.zero=some (.bool true,H'):=by
 obtain⟨r,H',⟨n,hev⟩,v,A',T',_,hv,_,rfl⟩:=h _ AH.zero ts HR.none (VRL.atoms ts)
 cases hv
 exact⟨n,H',hev⟩

theorem i64_range {n:Int} (h:(Lit.int .i64 n).wf=true):-9223372036854775808≤n∧n<9223372036854775808:=by
 simp only[Lit.wf,Bool.and_eq_true,decide_eq_true_eq] at h
 have e1:IntKind.i64.min=-9223372036854775808:=by decide
 have e2:IntKind.i64.max=9223372036854775807:=by decide
 omega

end Go.Ab

namespace Go.Proofs.YtbgkjaicehonfaaGreat
open Go.ChangeShapes Go.WideShapes Go.ChangeAt Go.RowKit Go.Ab

mutual
theorem tame_of {H:Type}:∀ (d:DataW H),Rows.uptoBulk d≤1048576→tame d=true
 | .lit l,h=>by
  cases l
  case string bytes=>simp only[Rows.uptoBulk] at h;simp only[tame,decide_eq_true_eq];omega
  all_goals rfl
 | .nil,_=>rfl
 | .ptr _,_=>rfl
 | .slice es sp,h=>by
  simp only[Rows.uptoBulk] at h
  obtain⟨h1,h2⟩:=tameL_of es (by omega)
  simp only[tame,Bool.and_eq_true,decide_eq_true_eq]
  exact⟨by omega,h1⟩
 | .agg ps,h=>by
  simp only[Rows.uptoBulk] at h
  exact (tameL_of ps (by omega)).1
 | .iface _ _,_=>rfl
 | .map _,_=>rfl
 | .held _,_=>rfl
theorem tameL_of {H:Type}:∀ (l:List (DataW H)),Rows.uptoBulkAll l≤1048576→tameL l=true∧l.length≤Rows.uptoBulkAll l
 | [],_=>⟨rfl,by simp⟩
 | d::r,h=>by
  simp only[Rows.uptoBulkAll] at h ⊢
  obtain⟨h1,h2⟩:=tameL_of r (by omega)
  have h3:=tame_of d (by omega)
  have h4:=bulk_pos d
  exact⟨by simp only[tameL,h3,h1,Bool.and_self],by simp only[List.length_cons];omega⟩
theorem bulk_pos {H:Type}:∀ (d:DataW H),1≤Rows.uptoBulk d
 | .lit l=>by cases l<;>simp[Rows.uptoBulk]
 | .nil=>by simp[Rows.uptoBulk]
 | .ptr _=>by simp only[Rows.uptoBulk];omega
 | .slice _ _=>by simp only[Rows.uptoBulk];omega
 | .agg _=>by simp only[Rows.uptoBulk];omega
 | .iface _ _=>by simp only[Rows.uptoBulk];omega
 | .map _=>by simp only[Rows.uptoBulk];omega
 | .held _=>by simp[Rows.uptoBulk]
end

theorem own:ownKnob Go.Proofs.Tryz.prog.godebug=none:=by kernel_rfl
theorem laidOut:laidOutB Go.Proofs.Tryz.prog=true:=by kernel_rfl

section
variable (W:World)
end

end Go.Proofs.YtbgkjaicehonfaaGreat
