/-
  Functions of Go's library that are told by what they do: slices.Insert of one number (by the contracts of the shelf).
  Functions of Go's library that are told by what they do: slices.Delete of one number, slices.BinarySearch (by the contracts of the shelf).
  Conditions: none.
-/
import Derived.Test.YtbnmnlijdoabkaaGreatGb
import Derived.Shelf.Spec.SlicesInsertGrow
import Derived.Shelf.Slices.Cells
import Derived.Shelf.Slices.SearchI
import Derived.Shelf.Slices.Empties
import Derived.Shelf.Spec.SlicesGrow

set_option linter.unusedSimpArgs false
set_option linter.unusedVariables false

namespace Go.Ab
open Go.RowKit Go.Proofs Go.Shelf

section
variable {P:Program} {ρ:Ren} {w0:World} {ι:Io} {H:AH} {w:World}

def insF:MFunc:={ nargs:=3,res:=[.t 3],body:=.ext 1 }

theorem setCells_row (g:Nat) (T:TypeId):∀ (vs:List Value) (o:Nat) (cur:Array Value) (w:World),w.heap[g]? = some (.cells cur T (0,0))→o+vs.length≤cur.size →
  w.setCells g o vs=w.setRow g (cur.toList.take o++vs++cur.toList.drop (o+vs.length)).toArray
 | [],o,cur,w,hg,_=>by
  simp only[World.setCells,List.append_nil,List.length_nil,Nat.add_zero,List.take_append_drop,Array.toArray_toList]
  rw[setRow_self w g cur T (0,0) hg]
 | v::r,o,cur,w,hg,hl=>by
  have hl':o+1+r.length≤(cur.setIfInBounds o v).size:=by simp at hl ⊢;omega
  simp only[World.setCells]
  rw[setCell_eq_setRow w g o cur T (0,0) v hg,setCells_row g T r (o+1) (cur.setIfInBounds o v) _ (setRow_heap w g cur _ T _ hg) hl',setRow_setRow]
  congr 2
  have e:=list_seg_step cur.toList o v r (by simp at hl ⊢;omega)
  simpa [Array.toList_setIfInBounds] using e

theorem MR.sameW {lam:Lo} {L:Tr (List AV)} {ln:Nat} (h:MR w0 ι lam L ln H w) {w':World} (e1:w'.heap=w.heap) (e2:w'.os=w.os) (e3:w'.tape=w.tape) (e4:w'.output=w.output):MR w0 ι lam L ln H w':=by
 have e:w'={ w with drawn:=w'.drawn }:=by cases w;cases w';simp_all
 rw[e];exact { h with }
theorem FP.sameW {S:Prop} {lam lam':Lo} {L L':Tr (List AV)} {ln ln':Nat} {ι':Io} {H':AH} {w1 w1' w':World} (h:FP S ι lam L ln H w1 ι' lam' L' ln' H' w1') (e:w1.heap=w.heap) (e1:w'.heap=w1'.heap):FP S ι lam L ln H w ι' lam' L' ln' H' w':=by
 obtain⟨a1,a2,a3,a4,a5,a6,a7,a8,a9,b1,b2,b3,b4,b5,b6,b7⟩:=h
 rw[e] at a5 a6 a7 b5
 rw[← e1] at a6 a7
 exact⟨a1,a2,a3,a4,a5,a6,a7,a8,a9,b1,b2,b3,b4,b5,b6,b7⟩

def numV (n:Int):Value:=.int .i64 n

theorem VC.nums {ι:Io}:∀ (ns:List Int),VC w0 ι (ns.map fun n=>AV.int .i64 n) (ns.map numV)
 | []=>VC.nil
 | n::ns=>by
  have h:=VC.nums (ι:=ι) ns
  refine⟨VL.cons (.int _ _) h.1,fun c hc=>?_⟩
  rcases List.mem_cons.1 hc with rfl|hc
  ·rfl
  ·exact h.2 c hc

theorem numsOf_map:∀ {cs:List AV} {ns:List Int},numsOf cs=some ns→cs=ns.map fun n=>AV.int .i64 n
 | [],ns,h=>by simp only[numsOf,Option.some.injEq] at h;subst h;rfl
 | c::cs,ns,h=>by
  unfold numsOf at h
  split at h
  ·rename_i e;cases e
  ·rename_i n cs' e
   cases e
   obtain⟨ms,h1,rfl⟩:=map_some h
   rw[numsOf_map h1];rfl
  ·cases h

theorem VC.nums_inv {ι:Io}:∀ {ns:List Int} {cl:List Value},VC w0 ι (ns.map fun n=>AV.int .i64 n) cl→cl=ns.map numV
 | [],cl,h=>by have:=h.1.1;cases cl<;>simp_all
 | n::ns,cl,h=>by
  obtain⟨c,cl',rfl,h1,h2⟩:=h.1.inv_cons
  cases h1
  rw[VC.nums_inv (ns:=ns) ⟨h2,fun c hc=>h.2 c (by simp[hc])⟩]
  rfl

theorem land_new {ι1:Io} {H1:AH} (hM:MR w0 ι1 noL .nil 0 H1 w) (hfr:ι1 H1.next=none) {ns:List Int} {cc:Array Value} {T:TypeId} {W:World} {cap:Nat} (hW:W.heap=w.heap.push (.cells cc T)) (e2:W.os=w.os) (e3:W.tape=w.tape) (e4:W.output=w.output)
  (hv:cc.toList.take ns.length=ns.map numV) (hc1:ns.length≤cap) (hc2:cap≤cc.size) (hc3:cap≤9223372036854775807) :
  ∃ ι',V w0 ι' (layRow H1 ns).1 (.slice (some ⟨w.heap.size,0,none⟩) ns.length cap)∧MR w0 ι' noL .nil 0 (layRow H1 ns).2 W∧FP False ι1 noL .nil 0 H1 w ι' noL .nil 0 (layRow H1 ns).2 W:=by
 have key:=hM.alloc (T:=T) (cs:=ns.map fun n=>AV.int .i64 n) (cc:=cc) hfr (by simp;omega) (by rw[List.length_map,hv];exact VC.nums ns)
 refine⟨_, ?_,key.1.sameW hW e2 e3 e4,key.2.sameW rfl hW⟩
 refine .sl _ _ _ _ _ _ w.heap.size 0 cap none _ (by unfold Io.set;simp;rfl) (Nat.le_refl _) ⟨hc1,hc3⟩ (fun h=>by cases h) (fun p hp=>?_) (.inl rfl)
 cases hp
 exact⟨rfl,fun _=>rfl,by simp;omega⟩

theorem land_in {b:Nat} {p:Pl} (hM:MR w0 ι noL .nil 0 H w) (hfr:ι H.next=none) (hb:b<H.next) (hi:ι b=some (some p)) {ns:List Int} {cur new:Array Value} {T:TypeId} {W:World} {base cap:Nat} (hg:w.heap[p.blk]? = some (.cells cur T (0,0)))
  (ht:new.size=p.tot) (hW:W.heap=(w.setRow p.blk new).heap) (e2:W.os=w.os) (e3:W.tape=w.tape) (e4:W.output=w.output) (hv:(new.toList.drop base).take ns.length=ns.map numV) (hc1:ns.length≤cap) (hc2:base+cap≤p.tot) (hc3:cap≤9223372036854775807) :
  ∃ ι',V w0 ι' (layRow (H.put b .dead) ns).1 (.slice (some ⟨p.blk,base,none⟩) ns.length cap)∧MR w0 ι' noL .nil 0 (layRow (H.put b .dead) ns).2 W∧FP False ι noL .nil 0 H w ι' noL .nil 0 (layRow (H.put b .dead) ns).2 W:=by
 have key:=hM.regrow (cs:=ns.map fun n=>AV.int .i64 n) (new:=new) (base:=base) hfr hb hi hg ht (by simp;omega) (by rw[List.length_map,hv];exact VC.nums ns)
 refine⟨_, ?_,key.1.sameW hW e2 e3 e4,key.2.sameW rfl hW⟩
 refine .sl _ _ _ _ _ _ p.blk base cap none (some ⟨p.blk,base,p.tot⟩) (by unfold Io.set;simp[AH.put_next]) (Nat.le_refl _) ⟨hc1,hc3⟩ (fun h=>by cases h) (fun q hq=>?_) (.inl rfl)
 cases hq
 exact⟨rfl,fun _=>rfl,by simp;omega⟩

theorem row_inv (hm:MR w0 ι noL .nil 0 H w) {b o n cap:Nat} {ex:Bool} {c:Value} {cs:List AV} (hv:V w0 ι (.sl b o 1 n cap ex) c) (hr:H.read b o n=some cs) (hn:n≠0) :
  ∃ p cc T cap',b<H.next∧ι b=some (some p)∧w.heap[p.blk]? = some (.cells cc T (0,0))∧cc.size=p.tot∧c=.slice (some ⟨p.blk,p.base+o,none⟩) n cap'∧n≤cap'∧cap'≤9223372036854775807∧p.base+o+cap'≤p.tot∧VC w0 ι cs ((cc.toList.drop (p.base+o)).take n):=by
 unfold AH.read at hr
 split at hr
 ·rename_i xs hg
  obtain⟨hle,rfl⟩:=slice_spec hr
  have hlt:b<H.next:=by
   rcases Nat.lt_or_ge b H.next with g|g
   ·exact g
   ·rw[hm.top b g] at hg;cases hg
  cases hv with
  | sl _ _ _ _ _ _ g off cap' sp x hi hl hc hx hp hsp0=>
   cases x with
   | none=>rw[hm.alive b hlt hi] at hg;cases hg
   | some p=>
    obtain⟨rfl,p2,p3⟩:=hp p rfl
    have hsp:sp=none:=by
     rcases hsp0 with h|h
     ·exact h
     ·cases h.1
    subst hsp
    rw[p2 (by omega)]
    have ho:=hm.obj b p hlt hi
    rw[hg] at ho
    obtain⟨cc,T,f1,f2,f3,f4⟩:=ho
    refine⟨p,cc,T,cap',hlt,hi,f1,f2,rfl,by omega,hc.2,by omega, ?_⟩
    have:=(f4.drop o).take n
    have e:(((cc.toList.drop p.base).take xs.length).drop o).take n=(cc.toList.drop (p.base+o)).take n:=by
     rw[List.drop_take,List.take_take,List.drop_drop,Nat.min_eq_left (by omega)]
    rw[e] at this
    exact this
 ·cases hr

theorem own_inv (hm:MR w0 ι noL .nil 0 H w) {a:AV} {ca:Value} {ns:List Int} {H1:AH} (hv:V w0 ι a ca) (h:ownRow H a=some (ns,H1)) :
  (ns=[]∧H1=H∧∃ base,ca=.slice base 0 0)∨(∃ b o n cap ex p cc T cap',a=.sl b o 1 n cap ex∧n≠0∧ns.length=n∧H1=H.put b .dead∧b<H.next∧ι b=some (some p)∧w.heap[p.blk]? = some (.cells cc T (0,0))∧cc.size=p.tot ∧
   ca=.slice (some ⟨p.blk,p.base+o,none⟩) n cap'∧n≤cap'∧cap'≤9223372036854775807∧p.base+o+cap'≤p.tot∧(cc.toList.drop (p.base+o)).take n=ns.map numV):=by
 unfold ownRow at h
 split at h
 ·cases h
  cases hv
  exact .inl ⟨rfl,rfl,none,rfl⟩
 ·cases h
  cases hv with
  | vs0=>exact .inl ⟨rfl,rfl,none,rfl⟩
  | vs _ _ A cap sz cf hsp hl hc hv h1 hz hcap=>
   have:=hz rfl
   subst this
   exact .inl ⟨rfl,rfl,some A,rfl⟩
 ·rename_i b o sz n cap ex
  split at h
  ·rename_i hn
   split at h
   ·rename_i hh
    obtain⟨rfl,rfl⟩:=hh
    cases h
    subst hn
    cases hv with
    | sl _ _ _ _ _ _ g off cap' sp x hi hl hc hx hp hsp0=>
     rw[hx rfl]
     exact .inl ⟨rfl,rfl,_,rfl⟩
   ·cases h
  ·rename_i hn
   split at h
   ·rename_i hle
    obtain⟨rfl,hle⟩:=hle
    split at h
    ·rename_i cs hr
     obtain⟨ms,h1,h2⟩:=map_some h
     cases h2
     have hcs:=numsOf_map h1
     subst hcs
     obtain⟨p,cc,T,cap',g1,g2,g3,g4,g5,g6,g6',g7,g8⟩:=row_inv hm hv hr hn
     have g9:=VC.nums_inv g8
     have hlen:ns.length=n:=by
      have:=g8.1.1
      simp only[List.length_map,List.length_take,List.length_drop,Array.length_toList] at this
      omega
     exact .inr ⟨b,o,n,cap,ex,p,cc,T,cap',rfl,hn,hlen,rfl,g1,g2,g3,g4,g5,g6,g6',g7,g9⟩
    ·cases h
   ·cases h
 ·cases h

theorem row_cells {g k n:Nat} {cc:Array Value} {T:TypeId} {ns:List Int} (hg:w.heap[g]? = some (.cells cc T (0,0))) (h:(cc.toList.drop k).take n=ns.map numV) (hn:ns.length=n):∀ j v,(ns.map numV)[j]? = some v→w.cell? ⟨g,k+j,none⟩=some v:=by
 intro j v hj
 rw[← h,List.getElem?_take] at hj
 split at hj
 ·rw[List.getElem?_drop,Array.getElem?_toList] at hj
  rw[cell_of_block hg];exact hj
 ·cases hj

theorem list_end {c:List Value} {k n:Nat} {ns:List Int} {x:Int} (h:(c.drop k).take n=ns.map numV) (hn:ns.length=n) (hk:k+n+1≤c.length):((c.take (k+n)++[numV x]++c.drop (k+n+1)).drop k).take (n+1)=(ns++[x]).map numV:=by
 rw[List.map_append,← h]
 apply List.ext_getElem?
 intro j
 simp only[List.getElem?_take,List.getElem?_drop,List.getElem?_append,List.length_take,List.length_drop,List.length_append,List.map_cons,List.map_nil,List.length_singleton]
 repeat' split
 all_goals first
  | rfl
  | omega
  | (congr 1;omega)
  | (rw[List.getElem?_eq_none (by simp;omega)])
  | (have:k+j - min (k+n) c.length=j - min n (c.length - k):=by omega
     rw[this])

theorem list_mid {c:List Value} {k n i:Nat} {ns:List Int} {x:Int} (h:(c.drop k).take n=ns.map numV) (hn:ns.length=n) (hi:i<n) (hk:k+n+1≤c.length) :
  (((c.take (k+(i+1))++(ns.map numV).drop i++c.drop (k+(i+1)+(n - i))).take (k+i)++[numV x]++(c.take (k+(i+1))++(ns.map numV).drop i++c.drop (k+(i+1)+(n - i))).drop (k+i+1)).drop k).take (n+1)=(ns.take i++x::ns.drop i).map numV:=by
 rw[List.map_append,List.map_cons,List.map_take,List.map_drop,← h]
 apply List.ext_getElem?
 intro j
 simp only[List.getElem?_take,List.getElem?_drop,List.getElem?_append,List.getElem?_cons,List.length_take,List.length_drop,List.length_append,List.length_singleton]
 repeat' split
 all_goals first
  | rfl
  | omega
  | (congr 1;omega)
  | (rw[List.getElem?_eq_none (by simp;omega)])
  | skip

theorem alloc_setRow (w:World) (R R2:Array Value) (T:TypeId):((w.alloc (.cells R T)).setRow w.heap.size R2).heap=w.heap.push (.cells R2 T):=by
 show ((w.heap.push (.cells R T)).modify w.heap.size fun|.cells _ elem frozen=>.cells R2 elem frozen|o=>o)=_
 apply Array.ext
 ·simp
 ·intro k h1 h2
  simp only[Array.size_modify,Array.size_push] at h1
  rw[Array.getElem_modify]
  simp only[Array.getElem_push]
  split
  ·rename_i e;subst e;simp
  ·rename_i e;rw[dif_pos (by omega),dif_pos (by omega)]

theorem list_grow {R:List Value} {n i:Nat} {ns:List Int} {x:Int} (hn:ns.length=n) (hi:i<n) (hR:n+1≤R.length) (hRi:R.take i=(ns.map numV).take i) :
  ((R.take i++[numV x]++R.drop (i+1)).take (i+1)++(ns.map numV).drop i++(R.take i++[numV x]++R.drop (i+1)).drop (i+1+(n - i))).take (n+1)=(ns.take i++x::ns.drop i).map numV:=by
 rw[hRi,List.map_append,List.map_cons,List.map_take,List.map_drop]
 have e1:((ns.map numV).take i++[numV x]++R.drop (i+1)).take (i+1)=(ns.map numV).take i++[numV x]:=by
  rw[List.take_append_of_le_length (by simp;omega),List.take_of_length_le (by simp;omega)]
 rw[e1,List.take_append_of_le_length (by simp;omega),List.take_of_length_le (by simp;omega)]
 simp

set_option maxHeartbeats 1000000 in
theorem insert_sim (L:Lays2.n21 P ρ) (C:CallF) (n:Nat):CallSim P (ρ.f 21) (evalF C n insF):=by
 intro args H r H' h w0 ι w cargs hm hv hf
 obtain⟨k1,k2,o,e,k3,k4,k5⟩:=evalF_spec h
 match args,k1 with
 | [a,b,c],_=>
  simp only[insF,runCode] at k3
  obtain⟨⟨v,H2⟩,k6,k7⟩:=map_some k3
  cases k7
  have g0:(⟨initEnv [a,b,c] 0,.nil,0⟩:Env).get 0=a:=by unfold Env.get;rw[initEnv_get];rfl
  have g1:(⟨initEnv [a,b,c] 0,.nil,0⟩:Env).get 1=b:=by unfold Env.get;rw[initEnv_get];rfl
  have g2:(⟨initEnv [a,b,c] 0,.nil,0⟩:Env).get 2=c:=by unfold Env.get;rw[initEnv_get];rfl
  rw[g0,g1,g2] at k6
  obtain⟨ca,cs1,e1,va,hv1⟩:=hv.inv_cons
  obtain⟨cb,cs2,rfl,vb',hv2⟩:=hv1.inv_cons
  obtain⟨cc,cs3,rfl,vc',hv3⟩:=hv2.inv_cons
  have:=hv3.inv_nil
  subst this
  have hca:cargs=#[ca,cb,cc]:=by cases cargs;simp_all
  subst hca
  unfold extA at k6
  simp only at k6
  split at k6
  ·rename_i ns H1 i vb vo vcap vex hown _
   split at k6
   ·rename_i x hx
    split at k6
    ·rename_i hcond
     obtain⟨hi0,hi1,hns,hne⟩:=hcond
     cases vb'
     obtain⟨q,ccv,Tv,vcap',r1,r2,r3,r4,rfl,r6,r6',r7,r8⟩:=row_inv hm vc' hx (by omega)
     have r9:(ccv.toList.drop (q.base+vo)).take 1=[x].map numV:=VC.nums_inv (ns:=[x]) r8
     have hvs:=row_cells r3 r9 rfl
     have hrow:=Option.some.inj k6
     obtain⟨l,hl⟩:∃ l,ns.take i.toNat++x::ns.drop i.toNat=l:=⟨_,rfl⟩
     rw[hl] at hrow
     have hll:l.length=ns.length+1:=by rw[← hl];simp;omega
     have hv0:v=(layRow H1 l).1:=by rw[hrow]
     have hH2:H2=(layRow H1 l).2:=by rw[hrow]
     have hr:r=v:=by
      have h3:(Env.put ⟨initEnv [a,.int .i64 i,.sl vb vo 1 1 vcap vex] 0,.nil,0⟩ (some 3) v).get 3=v:=by unfold Env.get Env.put Env.set;rw[Tr.get_set_eq];rfl
      have h4:v.free=true:=by rw[hv0];rfl
      simp only[insF,resultsOf,List.mapM_cons,List.mapM_nil,resOf,Env.val,Env.raw,h3,h4,if_true] at k5
      exact (Option.some.inj k5).symm
     subst hr
     subst hv0
     subst hH2
     have h1x:∀ u ∈ [x].map numV,u.oneCell'=true:=fun u hu=>by simp at hu;subst hu;rfl
     rcases own_inv hm va hown with ⟨rfl,rfl,base,rfl⟩|⟨bb,o1,n1,cap1,ex1,p,cw,Tw,cap',rfl,hn0,hlen,rfl,hb,hib,hg,htot,rfl,hc1,hc3,hc2,hns'⟩
     ·have hi:i=((0:Nat):Int):=by simp at hi1;omega
      subst hi
      have hl1:l=[x]:=by rw[← hl];rfl
      subst hl1
      refine (Any2.slices_Insert_int_end_grow L base 0 0 q.blk (q.base+vo) 1 vcap' [] ([x].map numV) w (by omega) (Nat.le_refl _) (by omega) (by omega) rfl rfl (fun _=>rfl) (fun _ _ j v hj=>by simp at hj) hvs h1x).mono ?_
      rintro e' w' ⟨rfl,rfl⟩
      obtain⟨ι',d1,d2,d3⟩:=land_new (H1:=H1) hm (hf H1.next (Nat.le_refl _) (Nat.lt_succ_self _)) (ns:=[x]) (W:=w.drew.alloc (.cells (([]++[x].map numV).toArray++Builtin.zeroCells (Value.int .i64 0).cells (grownCap w (0+1) 0 (ρ.t 3) - (0+1))) (ρ.t 3))) (cap:=grownCap w (0+1) 0 (ρ.t 3)) rfl rfl rfl rfl (by simp) (grownCap_ge w _ _ _) (by
       have:=grownCap_ge w (0+1) 0 (ρ.t 3)
       simp only[Array.size_append,List.size_toArray,size_zeroCells]
       simp[Value.cells];omega) (by have:=grownCap_le_maxLen w (0+1) 0 (ρ.t 3) (by decide);unfold maxLen at this;omega)
      exact⟨_,ι',rfl,d1,d2,d3⟩
     ·have hnn:ns.length=n1:=hlen
      obtain⟨iN,hiN⟩:∃ iN:Nat,i=(iN:Int):=⟨i.toNat,by omega⟩
      subst hiN
      have hiN1:iN≤n1:=by omega
      have hcs:=row_cells hg hns' hlen
      have h1c:∀ u∈ns.map numV,u.oneCell'=true:=fun u hu=>by obtain⟨m,_,rfl⟩:=List.mem_map.1 hu;rfl
      have hsz:cw.toList.length=p.tot:=by simpa using htot
      by_cases hroom:n1+1≤cap'
      ·by_cases hie:iN=n1
       ·subst hie
        have hl1:l=ns++[x]:=by rw[← hl];simp[← hlen]
        subst hl1
        refine (Any2.slices_Insert_int_end_room L p.blk (p.base+o1) iN cap' q.blk (q.base+vo) 1 vcap' ([x].map numV) w (by omega) hroom hc3 rfl (fun j hj=>?_) (fun j hj=>?_) hvs h1x).mono ?_
        ·rw[cell_of_block hg,Array.getElem?_eq_getElem (by omega)];rfl
        ·simp[World.frozen?,hg]
        rintro e' w' ⟨rfl,rfl⟩
        obtain⟨ι',d1,d2,d3⟩:=land_in (W:=w.setCells p.blk (p.base+o1+iN) ([x].map numV)) (cap:=cap') (base:=p.base+o1) hm (hf H.next (Nat.le_refl _) (Nat.lt_succ_self _)) hb hib (ns:=ns++[x]) hg (new:=(cw.toList.take (p.base+o1+iN)++[numV x]++cw.toList.drop (p.base+o1+iN+1)).toArray) (by simp;omega)
         (by rw[setCells_row p.blk Tw _ _ cw w hg (by simp;omega)];rfl) (by rw[setCells_row p.blk Tw _ _ cw w hg (by simp;omega)];rfl) (by rw[setCells_row p.blk Tw _ _ cw w hg (by simp;omega)];rfl) (by rw[setCells_row p.blk Tw _ _ cw w hg (by simp;omega)];rfl)
         (by simp only[List.length_append,List.length_singleton,hlen];exact list_end hns' hlen (by omega)) (by simp;omega) (by omega) hc3
        rw[List.length_append,List.length_singleton,hlen] at d1
        exact⟨_,ι',rfl,d1,d2,d3⟩
       ·have hlt:iN<n1:=by omega
        have hl1:l=ns.take iN++x::ns.drop iN:=by rw[← hl];rfl
        have hqp:q.blk≠p.blk:=fun e0=>by
         have:=hm.inj vb bb q p r2 hib e0
         exact hne.elim (fun e1=>by rw[e1] at hlen;simp at hlen;omega) fun h=>h (by rw[this];rfl)
        refine (Any2.slices_Insert_int_shift L p.blk (p.base+o1) n1 cap' iN q.blk (q.base+vo) 1 vcap' (ns.map numV) ([x].map numV) w hlt (by omega) hroom hc3 hqp (by simp[hlen]) rfl hcs (fun j hj=>?_) (fun j hj=>?_) hvs h1c h1x Tv Tw ccv.size cw.size (by simp[World.shape?,r3]) (by simp[World.shape?,hg]) (by omega) (by simp[World.frozen?,r3]) (by simp[World.frozen?,r3])).mono ?_
        ·rw[cell_of_block hg,Array.getElem?_eq_getElem (by omega)];rfl
        ·simp[World.frozen?,hg]
        rintro e' w' ⟨rfl,rfl⟩
        have hg':w.drew.heap[p.blk]? = some (.cells cw Tw (0,0)):=hg
        have hdl:((ns.map numV).drop iN).length=n1 - iN:=by simp[hlen]
        have hst1:(w.drew.setCells p.blk (p.base+o1+(iN+1)) ((ns.map numV).drop iN)).setCells p.blk (p.base+o1+iN) ([x].map numV)=w.drew.setRow p.blk (((cw.toList.take (p.base+o1+(iN+1))++(ns.map numV).drop iN++cw.toList.drop (p.base+o1+(iN+1)+(n1 - iN))).take (p.base+o1+iN)++[numV x]++(cw.toList.take (p.base+o1+(iN+1))++(ns.map numV).drop iN++cw.toList.drop (p.base+o1+(iN+1)+(n1 - iN))).drop (p.base+o1+iN+1)).toArray):=by
         rw[setCells_row p.blk Tw _ _ cw w.drew hg' (by omega)]
         rw[setCells_row p.blk Tw _ _ _ _ (setRow_heap w.drew p.blk cw _ Tw (0,0) hg') (by simp;omega),setRow_setRow]
         rw[hdl]
         rfl
        rw[hst1]
        obtain⟨ι',d1,d2,d3⟩:=land_in (W:=w.drew.setRow p.blk (((cw.toList.take (p.base+o1+(iN+1))++(ns.map numV).drop iN++cw.toList.drop (p.base+o1+(iN+1)+(n1 - iN))).take (p.base+o1+iN)++[numV x]++(cw.toList.take (p.base+o1+(iN+1))++(ns.map numV).drop iN++cw.toList.drop (p.base+o1+(iN+1)+(n1 - iN))).drop (p.base+o1+iN+1)).toArray)) (cap:=cap') (base:=p.base+o1) hm (hf H.next (Nat.le_refl _) (Nat.lt_succ_self _)) hb hib (ns:=l) hg
         (new:=((cw.toList.take (p.base+o1+(iN+1))++(ns.map numV).drop iN++cw.toList.drop (p.base+o1+(iN+1)+(n1 - iN))).take (p.base+o1+iN)++[numV x]++(cw.toList.take (p.base+o1+(iN+1))++(ns.map numV).drop iN++cw.toList.drop (p.base+o1+(iN+1)+(n1 - iN))).drop (p.base+o1+iN+1)).toArray) (by simp;omega)
         rfl rfl rfl rfl (by rw[hll,hlen,hl1];exact list_mid hns' hlen hlt (by omega)) (by omega) (by omega) hc3
        rw[hll,hlen] at d1
        exact⟨_,ι',rfl,d1,d2,d3⟩
      ·obtain⟨f1,f2⟩:=hm.kill hb hib
       have hfr:(ι.set bb none) H.next=none:=by unfold Io.set;rw[if_neg (by omega)];exact hf H.next (Nat.le_refl _) (Nat.lt_succ_self _)
       have hbig:(n1+1)*8≤140737488355328:=by omega
       by_cases hie:iN=n1
       ·subst hie
        have hl1:l=ns++[x]:=by rw[← hl];simp[← hlen]
        refine (Any2.slices_Insert_int_end_grow L (some ⟨p.blk,p.base+o1,none⟩) iN cap' q.blk (q.base+vo) 1 vcap' (ns.map numV) ([x].map numV) w (by omega) (by omega) (by omega) hbig (by simp[hlen]) rfl (fun e0=>by cases e0) (fun a0 e0 j u hj=>by cases e0;rw[Addr.add_lit];exact hcs j u hj) hvs h1x).mono ?_
        rintro e' w' ⟨rfl,rfl⟩
        obtain⟨ι',d1,d2,d3⟩:=land_new (H1:=H.put bb .dead) f1 hfr (ns:=l) (W:=w.drew.alloc (.cells ((ns.map numV++[x].map numV).toArray++Builtin.zeroCells (Value.int .i64 0).cells (grownCap w (iN+1) cap' (ρ.t 3) - (iN+1))) (ρ.t 3))) (cap:=grownCap w (iN+1) cap' (ρ.t 3)) rfl rfl rfl rfl (by
          rw[hll,hlen,hl1,Array.toList_append,List.take_append_of_le_length (by simp[hlen]),List.take_of_length_le (by simp[hlen])];simp) (by rw[hll,hlen];exact grownCap_ge w _ _ _) (by
          have:=grownCap_ge w (iN+1) cap' (ρ.t 3)
          simp only[Array.size_append,List.size_toArray,size_zeroCells]
          simp[Value.cells,hlen];omega) (by have:=grownCap_le_maxLen w (iN+1) cap' (ρ.t 3) (by unfold maxLen;omega);unfold maxLen at this;omega)
        rw[hll,hlen] at d1
        exact⟨_,ι',rfl,d1,d2,f2.trans hf (fun st h1 h2=>by omega) d3⟩
       ·have hlt:iN<n1:=by omega
        have hl1:l=ns.take iN++x::ns.drop iN:=by rw[← hl];rfl
        refine (Any2.slices_Insert_int_grow L p.blk (p.base+o1) n1 cap' iN q.blk (q.base+vo) 1 vcap' (ns.map numV) ([x].map numV) w hlt (by omega) hc1 (by omega) hbig (by simp[hlen]) rfl hcs hvs h1c h1x).mono ?_
        rintro e' w' ⟨rfl,rfl⟩
        obtain⟨G,hG⟩:∃ G,grownCap w (n1+1) cap' (ρ.t 3)=G:=⟨_,rfl⟩
        have hG1:n1+1≤G:=by rw[← hG];exact grownCap_ge w _ _ _
        have hG2:G≤9223372036854775807:=by have:=grownCap_le_maxLen w (n1+1) cap' (ρ.t 3) (by unfold maxLen;omega);unfold maxLen at this;omega
        rw[hG]
        obtain⟨R,hR⟩:∃ R:Array Value,((ns.map numV).take iN).toArray++Builtin.zeroCells (Value.int .i64 0).cells (n1+1 - iN)++Builtin.zeroCells (Value.int .i64 0).cells (G - (n1+1))=R:=⟨_,rfl⟩
        have hRs:R.size=G:=by
         rw[← hR]
         simp only[Array.size_append,List.size_toArray,size_zeroCells]
         simp[Value.cells,hlen];omega
        have hRt:R.toList.take iN=(ns.map numV).take iN:=by
         rw[← hR,Array.toList_append,Array.toList_append,List.append_assoc,List.take_append_of_le_length (by simp[hlen];omega),List.take_of_length_le (by simp;omega)]
        rw[hR]
        have ha:(w.alloc (.cells R (ρ.t 3))).drew.heap[w.heap.size]? = some (.cells R (ρ.t 3) (0,0)):=heap_alloc_new w _
        have hRl:R.toList.length=G:=by simpa using hRs
        have hdl:((ns.map numV).drop iN).length=n1 - iN:=by simp[hlen]
        obtain⟨R1,hR1⟩:∃ R1:List Value,R.toList.take iN++[numV x]++R.toList.drop (iN+1)=R1:=⟨_,rfl⟩
        have hR1l:R1.length=G:=by rw[← hR1];simp[hRs];omega
        obtain⟨R2,hR2⟩:∃ R2:List Value,R1.take (iN+1)++(ns.map numV).drop iN++R1.drop (iN+1+(n1 - iN))=R2:=⟨_,rfl⟩
        have hW:((((w.alloc (.cells R (ρ.t 3))).drew.setCells w.heap.size iN ([x].map numV)).drew).setCells w.heap.size (iN+1) ((ns.map numV).drop iN)).heap=w.heap.push (.cells R2.toArray (ρ.t 3)):=by
         rw[setCells_row w.heap.size (ρ.t 3) ([x].map numV) iN R _ ha (by simp;omega)]
         have e1:R.toList.take iN++[x].map numV++R.toList.drop (iN+([x].map numV).length)=R1:=hR1
         rw[e1]
         have ha2:((w.alloc (.cells R (ρ.t 3))).drew.setRow w.heap.size R1.toArray).drew.heap[w.heap.size]? = some (.cells R1.toArray (ρ.t 3) (0,0)):=setRow_heap (w.alloc (.cells R (ρ.t 3))).drew w.heap.size R _ (ρ.t 3) (0,0) ha
         rw[setCells_row w.heap.size (ρ.t 3) ((ns.map numV).drop iN) (iN+1) R1.toArray _ ha2 (by rw[hdl];simp[hR1l];omega)]
         rw[hdl]
         have e0:∀ (u:World) (A B:Array Value),((u.setRow w.heap.size A).drew.setRow w.heap.size B).heap=(u.setRow w.heap.size B).heap:=fun u A B=>by
          show ((u.setRow w.heap.size A).setRow w.heap.size B).heap=_
          rw[setRow_setRow]
         rw[e0]
         show ((w.alloc (.cells R (ρ.t 3))).setRow w.heap.size _).heap=_
         rw[alloc_setRow,← hR2]
        have hR2l:R2.length=G:=by rw[← hR2];simp[hlen,hR1l];omega
        have hos:∀ u:World,∀ (vs:List Value) (oo:Nat),(u.setCells w.heap.size oo vs).os=u.os∧(u.setCells w.heap.size oo vs).tape=u.tape∧(u.setCells w.heap.size oo vs).output=u.output:=by
         intro u vs
         induction vs generalizing u with
         | nil=>intro oo;exact⟨rfl,rfl,rfl⟩
         | cons y ys ih=>intro oo;exact ih _ _
        obtain⟨ι',d1,d2,d3⟩:=land_new (H1:=H.put bb .dead) f1 hfr (ns:=l) (cc:=R2.toArray) (T:=ρ.t 3) (W:=((((w.alloc (.cells R (ρ.t 3))).drew.setCells w.heap.size iN ([x].map numV)).drew).setCells w.heap.size (iN+1) ((ns.map numV).drop iN))) (cap:=G) hW
         (by rw[(hos _ _ _).1];exact (hos (w.alloc (.cells R (ρ.t 3))).drew _ _).1) (by rw[(hos _ _ _).2.1];exact (hos (w.alloc (.cells R (ρ.t 3))).drew _ _).2.1) (by rw[(hos _ _ _).2.2];exact (hos (w.alloc (.cells R (ρ.t 3))).drew _ _).2.2)
         (by rw[hll,hlen,hl1];show R2.take (n1+1)=_;rw[← hR2,← hR1];exact list_grow hlen hlt (by omega) hRt) (by rw[hll,hlen];exact hG1) (by simp[hR2l]) hG2
        rw[hll,hlen] at d1
        exact⟨_,ι',rfl,d1,d2,f2.trans hf (fun st h1 h2=>by omega) d3⟩
    ·cases k6
   ·cases k6
  ·cases k6

end
end Go.Ab

namespace Go.Ab
open Go.RowKit Go.Proofs Go.Shelf

section
variable {P:Program} {ρ:Ren} {w0:World} {ι:Io} {H:AH} {w:World}

def delF:MFunc:={ nargs:=3,res:=[.t 3],body:=.ext 2 }
def growF:MFunc:={ nargs:=2,res:=[.t 3],body:=.ext 4 }
def bsF:MFunc:={ nargs:=2,res:=[.t 3],body:=.ext 3 }

theorem cells_getD {g k n:Nat} {cc:Array Value} {T:TypeId} {ns:List Int} (hg:w.heap[g]? = some (.cells cc T (0,0))) (h:(cc.toList.drop k).take n=ns.map numV) (hn:ns.length=n):∀ j,j<ns.length→w.cell? ⟨g,k+j,none⟩=some (.int .i64 (ns.getD j 0)):=by
 intro j hj
 refine row_cells hg h hn j _ ?_
 rw[List.getElem?_map,List.getElem?_eq_getElem hj]
 simp[numV,List.getD,List.getElem?_eq_getElem hj]

theorem list_del {c vs:List Value} {k m:Nat} {zs:List Int} (hv:vs.take m=zs.map numV) (hm:m≤vs.length) (hk:k+vs.length≤c.length):((c.take k++vs++c.drop (k+vs.length)).drop k).take m=zs.map numV:=by
 rw[← hv,List.append_assoc,List.drop_append_of_le_length (by simp;omega),List.drop_of_length_le (by simp;omega)]
 rw[List.nil_append,List.take_append_of_le_length hm]

set_option maxHeartbeats 1000000 in
theorem delete_sim (L:Lays2.n23 P ρ) (C:CallF) (n:Nat):CallSim P (ρ.f 23) (evalF C n delF):=by
 intro args H r H' h w0 ι w cargs hm hv hf
 obtain⟨k1,k2,o,e,k3,k4,k5⟩:=evalF_spec h
 match args,k1 with
 | [a,b,c],_=>
  simp only[delF,runCode] at k3
  obtain⟨⟨v,H2⟩,k6,k7⟩:=map_some k3
  cases k7
  have g0:(⟨initEnv [a,b,c] 0,.nil,0⟩:Env).get 0=a:=by unfold Env.get;rw[initEnv_get];rfl
  have g1:(⟨initEnv [a,b,c] 0,.nil,0⟩:Env).get 1=b:=by unfold Env.get;rw[initEnv_get];rfl
  have g2:(⟨initEnv [a,b,c] 0,.nil,0⟩:Env).get 2=c:=by unfold Env.get;rw[initEnv_get];rfl
  rw[g0,g1,g2] at k6
  obtain⟨ca,cs1,e1,va,hv1⟩:=hv.inv_cons
  obtain⟨cb,cs2,rfl,vb',hv2⟩:=hv1.inv_cons
  obtain⟨cc,cs3,rfl,vc',hv3⟩:=hv2.inv_cons
  have:=hv3.inv_nil
  subst this
  have hca:cargs=#[ca,cb,cc]:=by cases cargs;simp_all
  subst hca
  unfold extA at k6
  simp only at k6
  split at k6
  ·rename_i ns H1 i j hown _
   split at k6
   ·rename_i hcond
    obtain⟨hi0,hi1,rfl⟩:=hcond
    cases vb'
    cases vc'
    have hrow:=Option.some.inj k6
    obtain⟨l,hl⟩:∃ l,ns.take i.toNat++ns.drop (i.toNat+1)=l:=⟨_,rfl⟩
    rw[hl] at hrow
    have hv0:v=(layRow H1 l).1:=by rw[hrow]
    have hH2:H2=(layRow H1 l).2:=by rw[hrow]
    have hr:r=v:=by
     have h3:(Env.put ⟨initEnv [a,.int .i64 i,.int .i64 (i+1)] 0,.nil,0⟩ (some 3) v).get 3=v:=by unfold Env.get Env.put Env.set;rw[Tr.get_set_eq];rfl
     have h4:v.free=true:=by rw[hv0];rfl
     simp only[delF,resultsOf,List.mapM_cons,List.mapM_nil,resOf,Env.val,Env.raw,h3,h4,if_true] at k5
     exact (Option.some.inj k5).symm
    subst hr
    subst hv0
    subst hH2
    rcases own_inv hm va hown with ⟨rfl,rfl,base,rfl⟩|⟨bb,o1,n1,cap1,ex1,p,cw,Tw,cap',rfl,hn0,hlen,rfl,hb,hib,hg,htot,rfl,hc1,hc3,hc2,hns'⟩
    ·simp at hi1;omega
    ·obtain⟨iN,rfl⟩:∃ iN:Nat,i=(iN:Int):=⟨i.toNat,by omega⟩
     have hiN:iN<n1:=by omega
     have hl1:l=ns.take iN++ns.drop (iN+1):=by rw[← hl];rfl
     have hll:l.length=n1 - 1:=by rw[hl1];simp;omega
     have hsz:cw.toList.length=p.tot:=by simpa using htot
     have hc:=Any.slices_Delete_int_cells L p.blk (p.base+o1) n1 cap' iN (iN+1) ns w (by omega) (by omega) hc3 (by omega) (by omega) (cells_getD hg hns' hlen) (fun j hj=>by simp[World.frozen?,hg])
     rw[show n1 - (iN+1 - iN)=n1 - 1 by omega,show iN+1 - iN=1 by omega] at hc
     refine (hc).mono ?_
     rintro e' w' ⟨rfl,q,rfl⟩
     have htk:ns.take n1=ns:=List.take_of_length_le (by omega)
     rw[htk]
     obtain⟨vs,hvs⟩:∃ vs:List Value,(ns.take iN++ns.drop (iN+1)++List.replicate 1 0).map (Value.int .i64)=vs:=⟨_,rfl⟩
     rw[hvs]
     have hvl:vs.length=n1:=by rw[← hvs];simp;omega
     have hvt:vs.take (n1 - 1)=l.map numV:=by
      rw[← hvs,List.map_append,List.take_append_of_le_length (by simp;omega),List.take_of_length_le (by simp;omega),hl1]
      rfl
     have hg':(w.drewN q).heap[p.blk]? = some (.cells cw Tw (0,0)):=hg
     rw[setCells_row p.blk Tw vs _ cw _ hg' (by rw[hvl,htot];omega)]
     obtain⟨ι',d1,d2,d3⟩:=land_in (W:=(w.drewN q).setRow p.blk (cw.toList.take (p.base+o1)++vs++cw.toList.drop (p.base+o1+vs.length)).toArray) (cap:=cap') (base:=p.base+o1) hm (hf H.next (Nat.le_refl _) (Nat.lt_succ_self _)) hb hib (ns:=l) hg (new:=(cw.toList.take (p.base+o1)++vs++cw.toList.drop (p.base+o1+vs.length)).toArray) (by simp;omega)
      rfl rfl rfl rfl (by rw[hll];exact list_del hvt (by omega) (by omega)) (by omega) (by omega) hc3
     rw[hll] at d1
     exact⟨_,ι',rfl,d1,d2,d3⟩
   ·cases k6
  ·cases k6

set_option maxHeartbeats 1000000 in
theorem search_sim (L:Lays2.n25 P ρ) (C:CallF) (n:Nat):CallSim P (ρ.f 25) (evalF C n bsF):=by
 intro args H r H' h w0 ι w cargs hm hv hf
 obtain⟨k1,k2,o,e,k3,k4,k5⟩:=evalF_spec h
 match args,k1 with
 | [a,b],_=>
  simp only[bsF,runCode] at k3
  obtain⟨⟨v,H2⟩,k6,k7⟩:=map_some k3
  cases k7
  have g0:(⟨initEnv [a,b] 0,.nil,0⟩:Env).get 0=a:=by unfold Env.get;rw[initEnv_get];rfl
  have g1:(⟨initEnv [a,b] 0,.nil,0⟩:Env).get 1=b:=by unfold Env.get;rw[initEnv_get];rfl
  rw[g0,g1] at k6
  obtain⟨ca,cs1,e1,va,hv1⟩:=hv.inv_cons
  obtain⟨cb,cs2,rfl,vb',hv2⟩:=hv1.inv_cons
  have:=hv2.inv_nil
  subst this
  have hca:cargs=#[ca,cb]:=by cases cargs;simp_all
  subst hca
  unfold extA at k6
  simp only at k6
  split at k6
  ·rename_i ns H1 x hown _
   split at k6
   ·rename_i hcond
    obtain⟨hsrt,hns⟩:=hcond
    cases vb'
    have hrow:=Option.some.inj k6
    have hv0:v=.tup [.int .i64 (ns.countP (· < x):Nat),.bool (ns.contains x)]:=(congrArg Prod.fst hrow).symm
    have hH2:H2=H:=(congrArg Prod.snd hrow).symm
    have hr:r=v:=by
     have h3:(Env.put ⟨initEnv [a,.int .i64 x] 0,.nil,0⟩ (some 3) v).get 3=v:=by unfold Env.get Env.put Env.set;rw[Tr.get_set_eq];rfl
     have h4:v.free=true:=by rw[hv0];rfl
     simp only[bsF,resultsOf,List.mapM_cons,List.mapM_nil,resOf,Env.val,Env.raw,h3,h4,if_true] at k5
     exact (Option.some.inj k5).symm
    subst hr
    subst hv0
    subst hH2
    have hV:∀ (k:Int) (t:Bool),V w0 ι (.tup [.int .i64 k,.bool t]) (.tuple #[.int .i64 k,.bool t]):=fun k t=>.tup _ _ rfl (fun i hi=>by
     match i,hi with
     | 0,_=>exact .int _ _
     | 1,_=>exact .bool _)
    rcases own_inv hm va hown with ⟨rfl,rfl,base,rfl⟩|⟨bb,o1,n1,cap1,ex1,p,cw,Tw,cap',rfl,hn0,hlen,rfl,hb,hib,hg,htot,rfl,hc1,hc3,hc2,hns'⟩
    ·refine (Any.slices_BinarySearch_int_empty L base 0 x w).mono ?_
     rintro e' w' ⟨rfl,rfl⟩
     exact⟨_,ι,rfl,hV _ _,hm,FP.refl _ _ _ _ _ _⟩
    ·refine (Any.slices_BinarySearch_int L p.blk (p.base+o1) n1 cap' ns x w (by omega) (by omega) (cells_getD hg hns' hlen) (by rw[List.take_of_length_le (by omega)];exact hsrt)).mono ?_
     rintro e' w' ⟨rfl,q,rfl⟩
     rw[List.take_of_length_le (by omega)]
     exact⟨_,ι,rfl,hV _ _,hm.sameW rfl rfl rfl rfl,(FP.refl _ _ _ _ _ _).sameW rfl rfl⟩
   ·cases k6
  ·cases k6

set_option maxHeartbeats 1000000 in
theorem grow_sim (L:Lays8.n4 P ρ) (i0:TypeInfo) (hi0:P.info? (ρ.t 25)=some i0) (hz0:i0.zero=some (numV 0)) (hs0:i0.size=1) (hb0:i0.bytes≤64) (C:CallF) (n:Nat):CallSim P (ρ.f 4) (evalF C n growF):=by
 intro args H r H' h w0 ι w cargs hm hv hf
 obtain⟨k1,k2,o,e,k3,k4,k5⟩:=evalF_spec h
 match args,k1 with
 | [a,b],_=>
  simp only[growF,runCode] at k3
  obtain⟨⟨v,H2⟩,k6,k7⟩:=map_some k3
  cases k7
  have g0:(⟨initEnv [a,b] 0,.nil,0⟩:Env).get 0=a:=by unfold Env.get;rw[initEnv_get];rfl
  have g1:(⟨initEnv [a,b] 0,.nil,0⟩:Env).get 1=b:=by unfold Env.get;rw[initEnv_get];rfl
  rw[g0,g1] at k6
  obtain⟨ca,cs1,e1,va,hv1⟩:=hv.inv_cons
  obtain⟨cb,cs2,rfl,vb',hv2⟩:=hv1.inv_cons
  have:=hv2.inv_nil
  subst this
  have hca:cargs=#[ca,cb]:=by cases cargs;simp_all
  subst hca
  unfold extA at k6
  simp only at k6
  split at k6
  ·rename_i m _
   cases va
   cases vb'
   have fin:∀ {v:AV},v.free=true→resultsOf (Env.put ⟨initEnv [.nils,.int .i64 m] 0,.nil,0⟩ (some 3) v) H2 growF.res=some r→r=v:=by
    intro v h4 k5
    have h3:(Env.put ⟨initEnv [.nils,.int .i64 m] 0,.nil,0⟩ (some 3) v).get 3=v:=by unfold Env.get Env.put Env.set;rw[Tr.get_set_eq];rfl
    simp only[growF,resultsOf,List.mapM_cons,List.mapM_nil,resOf,Env.val,Env.raw,h3,h4,if_true] at k5
    exact (Option.some.inj k5).symm
   split at k6
   ·rename_i h0
    cases k6
    have hr:=fin (v:=.nils) rfl k5
    subst hr
    subst h0
    refine (Any8.slices_Grow_room L none 0 0 0 w (Nat.le_refl _) (by omega) (by omega) (by omega)).mono ?_
    rintro e' w' ⟨rfl,rfl⟩
    exact⟨_,ι,rfl,.nils,hm,FP.refl _ _ _ _ _ _⟩
   ·rename_i h0
    split at k6
    ·rename_i hcond
     cases k6
     have hr:=fin (v:=(layRow H []).1) rfl k5
     subst hr
     obtain⟨mN,rfl⟩:∃ mN:Nat,m=(mN:Int):=⟨m.toNat,by omega⟩
     have hc:=Any8.slices_Grow_grow L i0 _ hi0 hz0 (by omega) none 0 0 mN [] w (Nat.le_refl _) (by omega) (by rw[Nat.zero_add];have:mN*i0.bytes≤1048576*64:=Nat.mul_le_mul (by omega) hb0;omega) (by omega) (by simp) (fun _=>rfl) (fun a h=>by cases h)
     refine hc.mono ?_
     rintro e' w' ⟨rfl,rfl⟩
     obtain⟨ι',d1,d2,d3⟩:=land_new (H1:=H) (ns:=[]) (cap:=grownCap w (0+mN) 0 (ρ.t 25)) (W:=w.drew.alloc (.cells (([]:List Value).toArray++Builtin.zeroCells (numV 0).cells (0+mN - 0)++Builtin.zeroCells (numV 0).cells (grownCap w (0+mN) 0 (ρ.t 25) - (0+mN))) (ρ.t 25))) hm (hf H.next (Nat.le_refl _) (Nat.lt_succ_self _)) rfl rfl rfl rfl rfl (Nat.zero_le _) (by
      have:=grownCap_ge w (0+mN) 0 (ρ.t 25)
      simp only[Array.size_append,List.size_toArray,size_zeroCells]
      simp[numV,Value.cells];omega) (by have:=grownCap_le_maxLen w (0+mN) 0 (ρ.t 25) (by unfold maxLen;omega);unfold maxLen at this;omega)
     exact⟨_,ι',rfl,d1,d2,d3⟩
    ·cases k6
  ·cases k6

theorem grow_ok (L:Lays8.n4 P ρ) (i0:TypeInfo) (hi0:P.info? (ρ.t 25)=some i0) (hz0:i0.zero=some (numV 0)) (hs0:i0.size=1) (hb0:i0.bytes≤64):ExtOK P (ρ.f 4) growF:=by
 obtain⟨nm,hn,hf⟩:=L.f4
 exact⟨⟨_,hf,hn,rfl⟩,fun C n=>grow_sim L i0 hi0 hz0 hs0 hb0 C n⟩
theorem grow_fits (L:Lays8.n4 P ρ) (h1:(P.info? (ρ.t 25)).map (fun i=>(i.size,i.bytes))=some (1,8)) (h2:(P.info? (ρ.t 25)).bind (·.zero)=some (numV 0)):ExtOK P (ρ.f 4) growF:=by
 cases hi:P.info? (ρ.t 25) with
 | none=>rw[hi] at h1;cases h1
 | some i=>
  rw[hi] at h1 h2
  simp only[Option.map_some,Option.some.injEq,Prod.mk.injEq] at h1
  exact grow_ok L i hi h2 h1.1 (by omega)
theorem insert_ok (L:Lays2.n21 P ρ):ExtOK P (ρ.f 21) insF:=⟨⟨_,L.f21,by rfl,rfl⟩,fun C n=>insert_sim L C n⟩
theorem delete_ok (L:Lays2.n23 P ρ):ExtOK P (ρ.f 23) delF:=⟨⟨_,L.f23,by rfl,rfl⟩,fun C n=>delete_sim L C n⟩
theorem search_ok (L:Lays2.n25 P ρ):ExtOK P (ρ.f 25) bsF:=⟨⟨_,L.f25,by rfl,rfl⟩,fun C n=>search_sim L C n⟩

end
end Go.Ab
