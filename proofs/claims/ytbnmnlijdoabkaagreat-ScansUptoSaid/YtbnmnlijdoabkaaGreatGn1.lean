/-
  What operations turn, as the document's answer has it, by value: rows.
  and what goes with it.
  Conditions: none.
-/
import Derived.Test.YtbnmnlijdoabkaaGreatGn0
import Derived.Test.YtbnmnlijdoabkaaGreatGy
import Derived.KernelRfl
import Derived.Test.YtbnmnlijdoabkaaGreatGb
import Derived.Test.YtbnmnlijdoabkaaGreatRows

set_option linter.unusedSimpArgs false
set_option linter.unusedVariables false

namespace Go.Ab

theorem c_has (xs:List Int) (x:Int) (z:Bool) (h:lenOK xs):PCall tab 120 [.vs (xs.map encInt) z,.int .i64 x] (.bool (decide (x∈xs))):=by
 unfold lenOK at h
 refine PCall.of (F:=m120) rfl rfl rfl rfl ?_
 simp -implicitDefEqProofs[m120]
 refine loop_by (fun k E T=>∃ i:Nat,i+k=xs.length∧E.get 0=.a (.vs (xs.map encInt) z)∧E.get 1=.a (.int .i64 x)∧E.get 5=.a (.int .i64 i)∧x∉xs.take i) ?_ xs.length ⟨0,by simp⟩
 rintro k E T ⟨i,hi,h0,h1,h5,hno⟩
 by_cases hlt:i<xs.length
 ·have g1:=List.getElem?_eq_getElem hlt
  simp -implicitDefEqProofs[h0,h1,h5,hlt,g1]
  by_cases hx:xs[i]=x
  ·have:x∈xs:=by rw[← hx];exact List.getElem_mem hlt
   simp -implicitDefEqProofs[hx,this]
  ·simp -implicitDefEqProofs[hx,h0,h1,h5]
   refine⟨k - 1,by omega,i+1,by omega,wrap_nat (by omega), ?_⟩
   rw[List.take_add_one,g1]
   simp only[Option.toList_some,List.mem_append,List.mem_singleton,not_or]
   exact⟨hno,fun e=>hx e.symm⟩
 ·have e:xs.take i=xs:=List.take_of_length_le (by omega)
  rw[e] at hno
  simp -implicitDefEqProofs[h0,h1,h5,hlt,hno]

theorem c_first (xs:List Int) (z:Bool):PCall tab 79 [.vs (xs.map encInt) z] (.int .i64 (headOr xs)):=by
 refine PCall.of (F:=m79) rfl rfl rfl rfl ?_
 cases xs with
 | nil=>simp -implicitDefEqProofs[m79,headOr]
 | cons x l=>
  have hne:((l.length:Int)+1==0)=false:=by rw[beq_eq_false_iff_ne];omega
  have hp:(0:Int)<(l.length:Int)+1:=by omega
  simp -implicitDefEqProofs[m79,headOr,hne,hp]

@[reducible] def keeps (xs:List Int) (code x:Int) (i:Int):Prop:=(i=x∧code=0)∨(i≠x∧i∈xs)
def keepTo (xs:List Int) (code x:Int) (n:Nat):List Int:=((List.range n).map fun i:Nat=>(i:Int)).filter fun i=>decide (keeps xs code x i)
theorem keepTo_yes {xs:List Int} {code x:Int} {n:Nat} (h:keeps xs code x n):keepTo xs code x (n+1)=keepTo xs code x n++[(n:Int)]:=by
 unfold keepTo
 rw[List.range_succ,List.map_append,List.filter_append]
 simp[h]
theorem keepTo_no {xs:List Int} {code x:Int} {n:Nat} (h:¬ keeps xs code x n):keepTo xs code x (n+1)=keepTo xs code x n:=by
 unfold keepTo
 rw[List.range_succ,List.map_append,List.filter_append]
 simp[h]
theorem keepTo_len (xs:List Int) (code x:Int) (n:Nat):(keepTo xs code x n).length≤n:=by
 unfold keepTo
 have:=List.length_filter_le (fun i:Int=>decide (keeps xs code x i)) ((List.range n).map fun i:Nat=>(i:Int))
 simpa using this

theorem fds_cases {xs:List Int} (h:fdsRow xs):xs ∈ [[],[0],[1],[2],[3],[0,1],[0,2],[0,3],[1,2],[1,3],[2,3],[0,1,2],[0,1,3],[0,2,3],[1,2,3],[0,1,2,3]]:=by
 have hl:=fds_len h
 match xs,h,hl with
 | [],_,_=>simp
 | [a],h,_=>
  have h0:=h 0 (by simp)
  simp only[List.getElem_cons_zero] at h0
  have:a=0∨a=1∨a=2∨a=3:=by omega
  rcases this with rfl|rfl|rfl|rfl<;>simp
 | [a,b],h,_=>
  have h0:=h 0 (by simp)
  have h1:=h 1 (by simp)
  simp only[List.getElem_cons_zero,List.getElem_cons_succ,Nat.sub_self,Nat.lt_irrefl,false_implies,and_true,Nat.zero_lt_one,true_implies] at h0 h1
  have:(a=0∧b=1)∨(a=0∧b=2)∨(a=0∧b=3)∨(a=1∧b=2)∨(a=1∧b=3)∨(a=2∧b=3):=by omega
  rcases this with ⟨rfl,rfl⟩|⟨rfl,rfl⟩|⟨rfl,rfl⟩|⟨rfl,rfl⟩|⟨rfl,rfl⟩|⟨rfl,rfl⟩<;>simp
 | [a,b,c],h,_=>
  have h0:=h 0 (by simp)
  have h1:=h 1 (by simp)
  have h2:=(h 2 (by simp)).2.2 (by omega)
  have h3:=(h 2 (by simp)).2.1
  have h1':=h1.2.2 (by omega)
  simp only[List.getElem_cons_zero,List.getElem_cons_succ,Nat.sub_self,Nat.add_one_sub_one] at h0 h1' h2 h3
  have:(a=0∧b=1∧c=2)∨(a=0∧b=1∧c=3)∨(a=0∧b=2∧c=3)∨(a=1∧b=2∧c=3):=by omega
  rcases this with ⟨rfl,rfl,rfl⟩|⟨rfl,rfl,rfl⟩|⟨rfl,rfl,rfl⟩|⟨rfl,rfl,rfl⟩<;>simp
 | [a,b,c,d],h,_=>
  have h0:=(h 0 (by simp)).1
  have h1:=(h 1 (by simp)).2.2 (by omega)
  have h2:=(h 2 (by simp)).2.2 (by omega)
  have h3:=(h 3 (by simp)).2.2 (by omega)
  have h4:=(h 3 (by simp)).2.1
  simp only[List.getElem_cons_zero,List.getElem_cons_succ,Nat.sub_self,Nat.add_one_sub_one] at h0 h1 h2 h3 h4
  have:a=0∧b=1∧c=2∧d=3:=by omega
  obtain⟨rfl,rfl,rfl,rfl⟩:=this
  simp
 | a::b::c::d::e::l,_,hl=>simp at hl

def leastOut (xs:List Int):Int:=if 0∉xs then 0 else if 1∉xs then 1 else if 2∉xs then 2 else if 3∉xs then 3 else 4
theorem fdsTake_keep {xs:List Int} (h:fdsRow xs):fdsTake xs=if leastOut xs=4 then (xs,-1) else (keepTo xs 0 (leastOut xs) 4,leastOut xs):=by
 have:=fds_cases h
 simp only[List.mem_cons,List.not_mem_nil,or_false] at this
 rcases this with rfl|rfl|rfl|rfl|rfl|rfl|rfl|rfl|rfl|rfl|rfl|rfl|rfl|rfl|rfl|rfl<;>decide
theorem fdsFree_keep {xs:List Int} (h:fdsRow xs) (x:Int):fdsFree xs x=if x∈xs then (keepTo xs 1 x 4,1) else (xs,0):=by
 by_cases hx:x∈xs
 ·have hr:x=0∨x=1∨x=2∨x=3:=by
   obtain⟨i,hi,rfl⟩:=List.getElem_of_mem hx
   have:=h i hi
   omega
  have:=fds_cases h
  simp only[List.mem_cons,List.not_mem_nil,or_false] at this
  rcases hr with rfl|rfl|rfl|rfl<;>rcases this with rfl|rfl|rfl|rfl|rfl|rfl|rfl|rfl|rfl|rfl|rfl|rfl|rfl|rfl|rfl|rfl<;>first|decide|(exact absurd hx (by decide))
 ·rw[if_neg hx,fdsFree,if_neg hx]

end Go.Ab

namespace Go.Ab

theorem lenOK_fds {xs:List Int} (h:fdsRow xs):lenOK xs:=by have:=fds_len h;unfold lenOK;omega

def FrI (T0:TH) (r:Nat) (xs:List Int) (o:Op) (x:Int) (k:Nat) (E:TE) (T:TH):Prop:=
 ∃ (i:Nat),i+k=4∧T0.next≤T.next∧(∀ j,j<T0.next→T.get j=T0.get j)∧GrowL T (E.get 7) ((keepTo xs o.code x i).map encInt) T0.next T.next∧E.get 0=.sl r [] 0 0 xs.length true∧E.get 3=.lp 0 0∧E.get 6=.a (.int .i64 x)∧E.get 8=.a (.int .i64 i)∧1≤E.ln∧E.var 0=some ((encOp o).map .a)
def FsI (T0:TH) (r:Nat) (xs:List Int) (o:Op) (k:Nat) (E:TE) (T:TH):Prop:=
 ∃ (i:Nat),i+k=4∧T0=T∧(∀ j:Nat,j<i→(j:Int)∈xs)∧E.get 0=.sl r [] 0 0 xs.length true∧E.get 3=.lp 0 0∧E.get 6=.a (.int .i64 i)∧1≤E.ln∧E.var 0=some ((encOp o).map .a)

theorem least_of {xs:List Int} {i:Nat} (hi:i≤4) (h1:∀ j:Nat,j<i→(j:Int)∈xs) (h2:(i:Int)∉xs):leastOut xs=i:=by
 have:i=0∨i=1∨i=2∨i=3∨i=4:=by omega
 rcases this with rfl|rfl|rfl|rfl|rfl
 ·simp_all [leastOut]
 ·have a0:=h1 0 (by omega)
  simp_all [leastOut]
 ·have a0:=h1 0 (by omega)
  have a1:=h1 1 (by omega)
  simp_all [leastOut]
 ·have a0:=h1 0 (by omega)
  have a1:=h1 1 (by omega)
  have a2:=h1 2 (by omega)
  simp_all [leastOut]
 ·have a0:=h1 0 (by omega)
  have a1:=h1 1 (by omega)
  have a2:=h1 2 (by omega)
  have a3:=h1 3 (by omega)
  simp_all [leastOut]
theorem fds_in {xs:List Int} (h:fdsRow xs) {x:Int} (hx:x∈xs):0≤x∧x<4:=by
 obtain⟨i,hi,rfl⟩:=List.getElem_of_mem hx
 have:=h i hi
 omega

set_option maxHeartbeats 2000000 in
theorem c_fdsRow (T0:TH) (r:Nat) (xs:List Int) (o:Op) (K:TV→TH→Prop) (hr:r<T0.next) (hT:T0.get r=.tree (xs.map encInt) true []) (h:fdsRow xs) (hc:o.code=0∨o.code=1)
  (hK1:∀ a,rowTurn 1 xs o=(xs,a)→K (.tu [.sl r [] 0 0 xs.length true,.a (.int .i64 a)]) T0)
  (hK2:∀ T' ys a j log,rowTurn 1 xs o=(ys,a)→T0.next≤j→j<T'.next→T'.get j=.tree (ys.map encInt) true log→(∀ j,j<T0.next→T'.get j=T0.get j)→T0.next≤T'.next→K (.tu [.sl j [] log.length 0 ys.length true,.a (.int .i64 a)]) T')
  (hK3:∀ T' a,rowTurn 1 xs o=([],a)→(∀ j,j<T0.next→T'.get j=T0.get j)→T0.next≤T'.next→K (.a (.tup [.nils,.int .i64 a])) T') :
  CallT tab false 81 [.sl r [] 0 0 xs.length true,.a (.agg (encOp o))] T0 K:=by
 refine CallT.body (F:=m81) rfl rfl rfl rfl ?_
 obtain⟨code,row,arg⟩:=o
 dsimp only at hc
 rcases hc with rfl|rfl
 ·simp -implicitDefEqProofs[m81]
  refine loop_by (FsI T0 r xs ⟨0,row,arg⟩) ?_ 4 ⟨0,by simp,by simp,fun j hj=>by omega,by simp,by simp,by simp,by simp,by simp⟩
  rintro k E T ⟨i,hi,rfl,hall,e0,e3,e6,eln,v0⟩
  simp -implicitDefEqProofs[e0,e3,e6,v0]
  refine CallT.bool2 (by simp[e0,e6,hT]) (c_has xs i false (lenOK_fds h)) (fun hb=>?_) (fun hb=>?_)
  ·have hb4:=fds_in h hb
   simp -implicitDefEqProofs[e0,e3,e6,v0]
   refine⟨k - 1,by omega,i+1,by omega,rfl,fun j hj=>?_,by simp[e0],by simp[e3],by first|(simp;done)|(simp;exact wrap_nat (by omega)),by simp[eln],by simp[v0]⟩
   rcases Nat.lt_or_ge j i with h5|h5
   ·exact hall j h5
   ·have:j=i:=by omega
    subst this;exact hb
  ·have hle:=least_of (by omega) hall hb
   have htk:=fdsTake_keep h
   simp -implicitDefEqProofs[e0,e3,e6,v0]
   by_cases h4:i=4
   ·subst h4
    rw[hle] at htk
    simp -implicitDefEqProofs[e0,e3,e6,v0]
    exact hK1 (-1) (by simpa [rowTurn] using htk)
   ·have h4':¬ (i:Int)=4:=by omega
    rw[hle,if_neg h4'] at htk
    obtain⟨x,hx⟩:∃ x:Int,x=i:=⟨_,rfl⟩
    rw[← hx] at e6 htk
    have h4x:¬ x=4:=by omega
    clear hall hb hle
    simp -implicitDefEqProofs[e0,e3,e6,v0,h4',h4x,h4,← hx]
    refine loop_by (FrI T0 r xs ⟨0,row,arg⟩ x) ?_ 4 ⟨0,by simp,by simp,fun _ _=>by simp,.inl ⟨by simp[keepTo],by simp⟩,by simp[e0],by simp[e3],by simp[e6],by simp,by simp[eln],by simp[v0]⟩
    clear e0 e3 e6 eln v0
    rintro k E T ⟨i,hi,hn,hag,hL,e0,e3,e6,e8,eln,v0⟩
    have hTr:T.get r=.tree (xs.map encInt) true []:=by rw[hag r hr];exact hT
    try dsimp only at hL
    by_cases hlt:i<4
    ·have hlti:(i:Int)<4:=by omega
     have q0:¬ E.ln=0:=by omega
     have q1:¬ 0=E.ln:=by omega
     have hag1:∀ j2,j2<T0.next→¬ j2=T.next∧¬ T.next=j2∧¬ j2=T.next+1∧¬ T.next+1=j2:=fun j2 hj=>⟨by omega,by omega,by omega,by omega⟩
     have hwl:=keepTo_len xs 0 x i
     have bo:((keepTo xs 0 x i).length+1)*8≤140737488355328:=by omega
     by_cases hix:(i:Int)=x
     ·have hsucc:=keepTo_yes (xs:=xs) (code:=0) (x:=x) (n:=i) (.inl ⟨hix,rfl⟩)
      subst hix
      simp -implicitDefEqProofs[e0,e3,e6,e8,v0,hTr,hlt,q0,q1,List.replicate,hlti]
      rcases hL with ⟨hw0,e7⟩|⟨j,log,hj1,hj2,e7,hTj⟩
      ·have hw1:keepTo xs 0 i i=[]:=by simpa using hw0
       rw[hw1] at hsucc
       simp -implicitDefEqProofs[e0,e3,e6,e8,v0,hTr,hlt,q0,q1,List.replicate,e7]
       refine⟨k - 1,by omega,i+1,by omega,by first|(simp;done)|(simp;omega),fun j2 hj=>by simp[hag1 j2 hj,hag j2 hj],by simp only[hsucc,List.map_append];exact .inr ⟨T.next+1,[],by omega,by simp,by simp,by simp⟩,by simp[e0],by simp[e3],by simp[e6],by first|(simp;done)|(simp;exact wrap_nat (by omega)),by first|(simp;done)|(simp;omega),by simp[v0,q0,q1]⟩
      ·have y1:¬ j=T.next:=by omega
       have y2:¬ T.next=j:=by omega
       have y3:¬ T.next+1=j:=by omega
       have y4:¬ j=T.next+1:=by omega
       have y5:¬ j+1=0:=by omega
       have y6:¬ r=j:=by omega
       have y7:¬ j=r:=by omega
       have hRl:((keepTo xs 0 i i).map encInt).length=(keepTo xs 0 i i).length:=List.length_map _
       simp -implicitDefEqProofs[e0,e3,e6,e8,v0,hTr,hlt,q0,q1,List.replicate,e7,hTj,y1,y2,y3,y4,y6,y7,bo]
       have hag2:∀ j2,j2<T0.next→¬ j2=j∧¬ j=j2:=fun j2 hj=>⟨by omega,by omega⟩
       refine⟨k - 1,by omega,i+1,by omega,by first|(simp;done)|(simp;omega),fun j2 hj=>by simp[hag1 j2 hj,hag2 j2 hj,hag j2 hj],by simp only[hsucc,List.map_append];exact .inr ⟨j,[]::log,by omega,by first|(simp;done)|(simp;omega),by simp,by simp[y1,y2,y3,y4]⟩,by simp[e0],by simp[e3],by simp[e6],by first|(simp;done)|(simp;exact wrap_nat (by omega)),by first|(simp;done)|(simp;omega),by simp[v0,q0,q1]⟩
     ·simp -implicitDefEqProofs[e0,e3,e6,e8,v0,hTr,hlt,hix,q0,q1,List.replicate,hlti]
      refine CallT.bool2 (by simp[e0,e8,hTr]) (c_has xs i false (lenOK_fds h)) (fun hb=>?_) (fun hb=>?_)
      ·have hsucc:=keepTo_yes (xs:=xs) (code:=0) (x:=x) (n:=i) (.inr ⟨hix,hb⟩)
       simp -implicitDefEqProofs[e0,e3,e6,e8,v0,hTr,hlt,hix,q0,q1,List.replicate,hlti]
       rcases hL with ⟨hw0,e7⟩|⟨j,log,hj1,hj2,e7,hTj⟩
       ·have hw1:keepTo xs 0 x i=[]:=by simpa using hw0
        rw[hw1] at hsucc
        simp -implicitDefEqProofs[e0,e3,e6,e8,v0,hTr,hlt,hix,q0,q1,List.replicate,e7]
        refine⟨k - 1,by omega,i+1,by omega,by first|(simp;done)|(simp;omega),fun j2 hj=>by simp[hag1 j2 hj,hag j2 hj],by simp only[hsucc,List.map_append];exact .inr ⟨T.next+1,[],by omega,by simp,by simp,by simp⟩,by simp[e0],by simp[e3],by simp[e6],by first|(simp;done)|(simp;exact wrap_nat (by omega)),by first|(simp;done)|(simp;omega),by simp[v0,q0,q1]⟩
       ·have y1:¬ j=T.next:=by omega
        have y2:¬ T.next=j:=by omega
        have y3:¬ T.next+1=j:=by omega
        have y4:¬ j=T.next+1:=by omega
        have y5:¬ j+1=0:=by omega
        have y6:¬ r=j:=by omega
        have y7:¬ j=r:=by omega
        have hRl:((keepTo xs 0 x i).map encInt).length=(keepTo xs 0 x i).length:=List.length_map _
        simp -implicitDefEqProofs[e0,e3,e6,e8,v0,hTr,hlt,hix,q0,q1,List.replicate,e7,hTj,y1,y2,y3,y4,y6,y7,bo]
        have hag2:∀ j2,j2<T0.next→¬ j2=j∧¬ j=j2:=fun j2 hj=>⟨by omega,by omega⟩
        refine⟨k - 1,by omega,i+1,by omega,by first|(simp;done)|(simp;omega),fun j2 hj=>by simp[hag1 j2 hj,hag2 j2 hj,hag j2 hj],by simp only[hsucc,List.map_append];exact .inr ⟨j,[]::log,by omega,by first|(simp;done)|(simp;omega),by simp,by simp[y1,y2,y3,y4]⟩,by simp[e0],by simp[e3],by simp[e6],by first|(simp;done)|(simp;exact wrap_nat (by omega)),by first|(simp;done)|(simp;omega),by simp[v0,q0,q1]⟩
      ·have hno:¬ keeps xs 0 x i:=by rintro (⟨h5,_⟩|⟨_,h5⟩);exact hix h5;exact hb h5
       simp -implicitDefEqProofs[e0,e3,e6,e8,v0,hTr,hlt,hix,q0,q1,List.replicate,hlti]
       refine⟨k - 1,by omega, ?_⟩
       rw[← keepTo_no hno] at hL
       exact⟨i+1,by omega,by simpa using hn,by simpa using hag,by simpa using hL,by simp[e0],by simp[e3],by simp[e6],by first|(simp;done)|(simp;exact wrap_nat (by omega)),by first|(simp;done)|(simp;omega),by simp[v0,q0,q1]⟩
    ·have hie:i=4:=by omega
     subst hie
     have htk2:=(show rowTurn 1 xs ⟨0,row,arg⟩=(keepTo xs 0 x 4,x) by simpa [rowTurn] using htk)
     rcases hL with ⟨hw0,e7⟩|⟨j,log,hj1,hj2,e7,hTj⟩
     ·have hw1:keepTo xs 0 x 4=[]:=by simpa using hw0
      rw[hw1] at htk2
      simpa -implicitDefEqProofs[e0,e3,e6,e7,e8,v0] using hK3 T _ htk2 hag hn
     ·simpa -implicitDefEqProofs[e0,e3,e6,e7,e8,v0] using hK2 T _ _ j log htk2 hj1 hj2 hTj hag hn
 ·simp -implicitDefEqProofs[m81]
  refine CallT.bool2 (by simp[hT]) (c_has xs arg false (lenOK_fds h)) (fun hb=>?_) (fun hb=>?_)
  ·have htk:=fdsFree_keep h arg
   rw[if_pos hb] at htk
   simp -implicitDefEqProofs
   obtain⟨x,hx⟩:∃ x:Int,x=arg:=⟨_,rfl⟩
   rw[← hx] at htk
   refine loop_by (FrI T0 r xs ⟨1,row,arg⟩ x) ?_ 4 ⟨0,by simp,by simp,fun _ _=>by simp,.inl ⟨by simp[keepTo],by simp⟩,by simp,by simp,by simp[hx],by simp,by simp,by simp⟩
   rintro k E T ⟨i,hi,hn,hag,hL,e0,e3,e6,e8,eln,v0⟩
   have hTr:T.get r=.tree (xs.map encInt) true []:=by rw[hag r hr];exact hT
   try dsimp only at hL
   by_cases hlt:i<4
   ·have hlti:(i:Int)<4:=by omega
    have q0:¬ E.ln=0:=by omega
    have q1:¬ 0=E.ln:=by omega
    have hag1:∀ j2,j2<T0.next→¬ j2=T.next∧¬ T.next=j2∧¬ j2=T.next+1∧¬ T.next+1=j2:=fun j2 hj=>⟨by omega,by omega,by omega,by omega⟩
    have hwl:=keepTo_len xs 1 x i
    have bo:((keepTo xs 1 x i).length+1)*8≤140737488355328:=by omega
    by_cases hix:(i:Int)=x
    ·have hno:¬ keeps xs 1 x i:=by rintro (⟨_,h5⟩|⟨h5,_⟩);cases h5;exact h5 hix
     subst hix
     simp -implicitDefEqProofs[e0,e3,e6,e8,v0,hTr,hlt,q0,q1,List.replicate,hlti]
     refine⟨k - 1,by omega, ?_⟩
     rw[← keepTo_no hno] at hL
     exact⟨i+1,by omega,by simpa using hn,by simpa using hag,by simpa using hL,by simp[e0],by simp[e3],by simp[e6],by first|(simp;done)|(simp;exact wrap_nat (by omega)),by first|(simp;done)|(simp;omega),by simp[v0,q0,q1]⟩
    ·simp -implicitDefEqProofs[e0,e3,e6,e8,v0,hTr,hlt,hix,q0,q1,List.replicate,hlti]
     refine CallT.bool2 (by simp[e0,e8,hTr]) (c_has xs i false (lenOK_fds h)) (fun hb=>?_) (fun hb=>?_)
     ·have hsucc:=keepTo_yes (xs:=xs) (code:=1) (x:=x) (n:=i) (.inr ⟨hix,hb⟩)
      simp -implicitDefEqProofs[e0,e3,e6,e8,v0,hTr,hlt,hix,q0,q1,List.replicate,hlti]
      rcases hL with ⟨hw0,e7⟩|⟨j,log,hj1,hj2,e7,hTj⟩
      ·have hw1:keepTo xs 1 x i=[]:=by simpa using hw0
       rw[hw1] at hsucc
       simp -implicitDefEqProofs[e0,e3,e6,e8,v0,hTr,hlt,hix,q0,q1,List.replicate,e7]
       refine⟨k - 1,by omega,i+1,by omega,by first|(simp;done)|(simp;omega),fun j2 hj=>by simp[hag1 j2 hj,hag j2 hj],by simp only[hsucc,List.map_append];exact .inr ⟨T.next+1,[],by omega,by simp,by simp,by simp⟩,by simp[e0],by simp[e3],by simp[e6],by first|(simp;done)|(simp;exact wrap_nat (by omega)),by first|(simp;done)|(simp;omega),by simp[v0,q0,q1]⟩
      ·have y1:¬ j=T.next:=by omega
       have y2:¬ T.next=j:=by omega
       have y3:¬ T.next+1=j:=by omega
       have y4:¬ j=T.next+1:=by omega
       have y5:¬ j+1=0:=by omega
       have y6:¬ r=j:=by omega
       have y7:¬ j=r:=by omega
       have hRl:((keepTo xs 1 x i).map encInt).length=(keepTo xs 1 x i).length:=List.length_map _
       simp -implicitDefEqProofs[e0,e3,e6,e8,v0,hTr,hlt,hix,q0,q1,List.replicate,e7,hTj,y1,y2,y3,y4,y6,y7,bo]
       have hag2:∀ j2,j2<T0.next→¬ j2=j∧¬ j=j2:=fun j2 hj=>⟨by omega,by omega⟩
       refine⟨k - 1,by omega,i+1,by omega,by first|(simp;done)|(simp;omega),fun j2 hj=>by simp[hag1 j2 hj,hag2 j2 hj,hag j2 hj],by simp only[hsucc,List.map_append];exact .inr ⟨j,[]::log,by omega,by first|(simp;done)|(simp;omega),by simp,by simp[y1,y2,y3,y4]⟩,by simp[e0],by simp[e3],by simp[e6],by first|(simp;done)|(simp;exact wrap_nat (by omega)),by first|(simp;done)|(simp;omega),by simp[v0,q0,q1]⟩
     ·have hno:¬ keeps xs 1 x i:=by rintro (⟨h5,_⟩|⟨_,h5⟩);exact hix h5;exact hb h5
      simp -implicitDefEqProofs[e0,e3,e6,e8,v0,hTr,hlt,hix,q0,q1,List.replicate,hlti]
      refine⟨k - 1,by omega, ?_⟩
      rw[← keepTo_no hno] at hL
      exact⟨i+1,by omega,by simpa using hn,by simpa using hag,by simpa using hL,by simp[e0],by simp[e3],by simp[e6],by first|(simp;done)|(simp;exact wrap_nat (by omega)),by first|(simp;done)|(simp;omega),by simp[v0,q0,q1]⟩
   ·have hie:i=4:=by omega
    subst hie
    have htk2:=(show rowTurn 1 xs ⟨1,row,arg⟩=(keepTo xs 1 x 4,1) by simpa [rowTurn,← hx] using htk)
    rcases hL with ⟨hw0,e7⟩|⟨j,log,hj1,hj2,e7,hTj⟩
    ·have hw1:keepTo xs 1 x 4=[]:=by simpa using hw0
     rw[hw1] at htk2
     simpa -implicitDefEqProofs[e0,e3,e6,e7,e8,v0] using hK3 T _ htk2 hag hn
    ·simpa -implicitDefEqProofs[e0,e3,e6,e7,e8,v0] using hK2 T _ _ j log htk2 hj1 hj2 hTj hag hn
  ·have htk:=fdsFree_keep h arg
   rw[if_neg hb] at htk
   simp -implicitDefEqProofs
   exact hK1 0 (by simpa [rowTurn] using htk)

end Go.Ab

namespace Go.Ab

def sumTo (a:Int) (xs:List Int):Int:=xs.foldl (fun a x=>IntKind.wrap .i64 (a+x)) a
theorem sumTo_succ {a:Int} {xs:List Int} {j:Nat} (h:j<xs.length):sumTo a (xs.take (j+1))=IntKind.wrap .i64 (sumTo a (xs.take j)+xs[j]):=by
 unfold sumTo
 rw[List.take_add_one,List.getElem?_eq_getElem h,List.foldl_append]
 rfl
theorem sumW_of (a b c d:List Int):sumW (a++(b++(c++d)))=sumTo (sumTo (sumTo (sumTo 0 a) b) c) d:=by simp only[sumW,sumTo,List.foldl_append]

theorem nilOr:∀ (xs:List Int),xs=[]∨∃ x l,xs=x::l
 | []=>.inl rfl
 | x::l=>.inr ⟨x,l,rfl⟩
theorem nilOr2:∀ (xs:List Int),xs=[]∨(∃ x,xs=[x])∨∃ x y l,xs=x::y::l
 | []=>.inl rfl
 | [x]=>.inr (.inl ⟨x,rfl⟩)
 | x::y::l=>.inr (.inr ⟨x,y,l,rfl⟩)

def apT0 (r0 r1 r2 r3:List Int):TH:=(((TH.none.new (.tree (r0.map encInt) true [])).new (.tree (r1.map encInt) true [])).new (.tree (r2.map encInt) true [])).new (.tree (r3.map encInt) true [])
def ApI (k e:Int) (o:Op) (r0 r1 r2 r3:List Int) (i:Int) (row:List Int) (a many:Int) (m:Nat) (E:TE) (T:TH):Prop:=
 ∃ (j:Nat),j+m=row.length∧apT0 r0 r1 r2 r3=T∧E.get 0=.a (.int .i64 k)∧E.get 3=.a (.int .i64 e)∧E.get 5=.lp 0 0∧E.get 6=.lp 1 0∧E.get 8=.lp 2 0∧E.get 11=.lp 3 0∧E.get 12=.a (.int .i64 (sumTo a (row.take j)))∧E.get 13=.a (.int .i64 many)∧E.get 14=.a (.int .i64 i)∧E.get 15=.a (.int .i64 j)∧E.ln=4 ∧
  E.var 0=some [.a (.vs (r0.map encInt) false),.a (.vs (r1.map encInt) false),.a (.vs (r2.map encInt) false),.a (.vs (r3.map encInt) false)]∧E.var 1=some [.a (.int .i64 o.code),.a (.int .i64 o.row),.a (.int .i64 o.arg)]∧E.var 2=some [.a .nils,.a .nils,.a .nils,.a .nils]∧E.var 3=some [.sl 0 [] 0 0 r0.length true,.sl 1 [] 0 0 r1.length true,.sl 2 [] 0 0 r2.length true,.sl 3 [] 0 0 r3.length true]

set_option maxHeartbeats 8000000 in
theorem c_Apply1 (k:Int) (s:State) (o:Op) (e:Int) (h:okS s):PCall tab 31 [.int .i64 k,.agg (encState false s),.agg (encOp o),.int .i64 e] (.tup [.agg (encState false (applyM k s o e).1),.int .i64 (applyM k s o e).2.1,.int .i64 (applyM k s o e).2.2]):=by
 by_cases hall:stateMay k s∧opMay o
 ·rw[show applyM k s o e=((turnS k s o).1,(turnS k s o).2,0) from if_pos hall]
  obtain⟨hq,ho⟩:=hall
  have hrow:=row_cases ho
  have hcode:o.code=0∨o.code=1∨o.code=2∨o.code=3:=by have:=ho.2.2.2.2;omega
  obtain⟨code,row,arg⟩:=o
  obtain⟨r0,r1,r2,r3⟩:=s
  dsimp only at hrow hcode
  refine PCall.ofZ (F:=m31) rfl rfl rfl ?_
  simp -implicitDefEqProofs[m31]
  refine CallT.bool2 (by simp) (c_StateMay k ⟨r0,r1,r2,r3⟩ false h) (fun hb=>?_) (fun hb=>absurd hq hb)
  simp -implicitDefEqProofs
  refine CallT.bool2 (by simp) (c_OperMay ⟨code,row,arg⟩) (fun hb2=>?_) (fun hb2=>absurd ho hb2)
  simp -implicitDefEqProofs
  refine CallT.pure (c_CopyState1 ⟨r0,r1,r2,r3⟩ false h) (by simp) (ok_state _) ?_
  clear hb hb2 ho
  obtain⟨l0,l1,l2,l3⟩:=h
  simp only[lenOK] at l0 l1 l2 l3
  have w1:IntKind.wrap .i64 (r0.length:Int)=r0.length:=wrap_of (by omega) (by omega)
  have w2:IntKind.wrap .i64 ((r0.length:Int)+r1.length)=r0.length+r1.length:=wrap_of (by omega) (by omega)
  have w3:IntKind.wrap .i64 ((r0.length:Int)+r1.length+r2.length)=r0.length+r1.length+r2.length:=wrap_of (by omega) (by omega)
  have w4:IntKind.wrap .i64 ((r0.length:Int)+r1.length+r2.length+r3.length)=r0.length+r1.length+r2.length+r3.length:=wrap_of (by omega) (by omega)
  have hW:=And.intro w1 (And.intro w2 (And.intro w3 w4))
  simp -implicitDefEqProofs
  refine WCT.unroll ?_
  simp -implicitDefEqProofs[w1]
  refine loop_by (ApI k e ⟨code,row,arg⟩ r0 r1 r2 r3 0 r0 (0) ((r0.length:Int))) ?_ r0.length ⟨0,by simp,rfl,by simp[hW],by simp[hW],by simp[hW],by simp[hW],by simp[hW],by simp[hW],by simp[sumTo,hW],by simp[hW],by simp[hW],by simp,by simp[hW],by simp[hW],by simp[hW],by simp[hW],by simp[hW]⟩
  rintro m E T ⟨j,hj,rfl,e0,e3,e5,e6,e8,e11,e12,e13,e14,e15,eln,v0,v1,v2,v3⟩
  have hE:=And.intro e0 (And.intro e3 (And.intro e5 (And.intro e6 (And.intro e8 (And.intro e11 (And.intro e12 (And.intro e13 (And.intro e14 (And.intro e15 (And.intro eln (And.intro v0 (And.intro v1 (And.intro v2 (v3))))))))))))))
  by_cases hlt:j<r0.length
  ·have g1:=List.getElem?_eq_getElem hlt
   simp -implicitDefEqProofs[hE,hW,hlt,g1]
   exact⟨m - 1,by omega,j+1,by omega,rfl,by simp[e0],by simp[e3],by simp[e5],by simp[e6],by simp[e8],by simp[e11],by rw[sumTo_succ hlt];simp,by simp[e13],by simp[e14],by first|(simp;done)|(simp;exact wrap_nat (by omega)),by simp[eln],by simp[v0],by simp[v1],by simp[v2],by simp[v3]⟩
  rw[show r0.take j=r0 from List.take_of_length_le (by omega)] at e12
  have hE:=And.intro e0 (And.intro e3 (And.intro e5 (And.intro e6 (And.intro e8 (And.intro e11 (And.intro e12 (And.intro e13 (And.intro e14 (And.intro e15 (And.intro eln (And.intro v0 (And.intro v1 (And.intro v2 (v3))))))))))))))
  simp -implicitDefEqProofs[hE,hW,hlt]
  clear hj hlt
  refine WCT.unroll ?_
  simp -implicitDefEqProofs[hE,hW]
  refine loop_by (ApI k e ⟨code,row,arg⟩ r0 r1 r2 r3 1 r1 (sumTo (0) r0) ((r0.length:Int)+r1.length)) ?_ r1.length ⟨0,by simp,rfl,by simp[hE,hW],by simp[hE,hW],by simp[hE,hW],by simp[hE,hW],by simp[hE,hW],by simp[hE,hW],by simp[sumTo,hE,hW],by simp[hE,hW],by simp[hE,hW],by simp,by simp[hE,hW],by simp[hE,hW],by simp[hE,hW],by simp[hE,hW],by simp[hE,hW]⟩
  clear hE e0 e3 e5 e6 e8 e11 e12 e13 e14 e15 eln v0 v1 v2 v3
  rintro m E T ⟨j,hj,rfl,e0,e3,e5,e6,e8,e11,e12,e13,e14,e15,eln,v0,v1,v2,v3⟩
  have hE:=And.intro e0 (And.intro e3 (And.intro e5 (And.intro e6 (And.intro e8 (And.intro e11 (And.intro e12 (And.intro e13 (And.intro e14 (And.intro e15 (And.intro eln (And.intro v0 (And.intro v1 (And.intro v2 (v3))))))))))))))
  by_cases hlt:j<r1.length
  ·have g1:=List.getElem?_eq_getElem hlt
   simp -implicitDefEqProofs[hE,hW,hlt,g1]
   exact⟨m - 1,by omega,j+1,by omega,rfl,by simp[e0],by simp[e3],by simp[e5],by simp[e6],by simp[e8],by simp[e11],by rw[sumTo_succ hlt];simp,by simp[e13],by simp[e14],by first|(simp;done)|(simp;exact wrap_nat (by omega)),by simp[eln],by simp[v0],by simp[v1],by simp[v2],by simp[v3]⟩
  rw[show r1.take j=r1 from List.take_of_length_le (by omega)] at e12
  have hE:=And.intro e0 (And.intro e3 (And.intro e5 (And.intro e6 (And.intro e8 (And.intro e11 (And.intro e12 (And.intro e13 (And.intro e14 (And.intro e15 (And.intro eln (And.intro v0 (And.intro v1 (And.intro v2 (v3))))))))))))))
  simp -implicitDefEqProofs[hE,hW,hlt]
  clear hj hlt
  refine WCT.unroll ?_
  simp -implicitDefEqProofs[hE,hW]
  refine loop_by (ApI k e ⟨code,row,arg⟩ r0 r1 r2 r3 2 r2 (sumTo (sumTo (0) r0) r1) ((r0.length:Int)+r1.length+r2.length)) ?_ r2.length ⟨0,by simp,rfl,by simp[hE,hW],by simp[hE,hW],by simp[hE,hW],by simp[hE,hW],by simp[hE,hW],by simp[hE,hW],by simp[sumTo,hE,hW],by simp[hE,hW],by simp[hE,hW],by simp,by simp[hE,hW],by simp[hE,hW],by simp[hE,hW],by simp[hE,hW],by simp[hE,hW]⟩
  clear hE e0 e3 e5 e6 e8 e11 e12 e13 e14 e15 eln v0 v1 v2 v3
  rintro m E T ⟨j,hj,rfl,e0,e3,e5,e6,e8,e11,e12,e13,e14,e15,eln,v0,v1,v2,v3⟩
  have hE:=And.intro e0 (And.intro e3 (And.intro e5 (And.intro e6 (And.intro e8 (And.intro e11 (And.intro e12 (And.intro e13 (And.intro e14 (And.intro e15 (And.intro eln (And.intro v0 (And.intro v1 (And.intro v2 (v3))))))))))))))
  by_cases hlt:j<r2.length
  ·have g1:=List.getElem?_eq_getElem hlt
   simp -implicitDefEqProofs[hE,hW,hlt,g1]
   exact⟨m - 1,by omega,j+1,by omega,rfl,by simp[e0],by simp[e3],by simp[e5],by simp[e6],by simp[e8],by simp[e11],by rw[sumTo_succ hlt];simp,by simp[e13],by simp[e14],by first|(simp;done)|(simp;exact wrap_nat (by omega)),by simp[eln],by simp[v0],by simp[v1],by simp[v2],by simp[v3]⟩
  rw[show r2.take j=r2 from List.take_of_length_le (by omega)] at e12
  have hE:=And.intro e0 (And.intro e3 (And.intro e5 (And.intro e6 (And.intro e8 (And.intro e11 (And.intro e12 (And.intro e13 (And.intro e14 (And.intro e15 (And.intro eln (And.intro v0 (And.intro v1 (And.intro v2 (v3))))))))))))))
  simp -implicitDefEqProofs[hE,hW,hlt]
  clear hj hlt
  refine WCT.unroll ?_
  simp -implicitDefEqProofs[hE,hW]
  refine loop_by (ApI k e ⟨code,row,arg⟩ r0 r1 r2 r3 3 r3 (sumTo (sumTo (sumTo (0) r0) r1) r2) ((r0.length:Int)+r1.length+r2.length+r3.length)) ?_ r3.length ⟨0,by simp,rfl,by simp[hE,hW],by simp[hE,hW],by simp[hE,hW],by simp[hE,hW],by simp[hE,hW],by simp[hE,hW],by simp[sumTo,hE,hW],by simp[hE,hW],by simp[hE,hW],by simp,by simp[hE,hW],by simp[hE,hW],by simp[hE,hW],by simp[hE,hW],by simp[hE,hW]⟩
  clear hE e0 e3 e5 e6 e8 e11 e12 e13 e14 e15 eln v0 v1 v2 v3
  rintro m E T ⟨j,hj,rfl,e0,e3,e5,e6,e8,e11,e12,e13,e14,e15,eln,v0,v1,v2,v3⟩
  have hE:=And.intro e0 (And.intro e3 (And.intro e5 (And.intro e6 (And.intro e8 (And.intro e11 (And.intro e12 (And.intro e13 (And.intro e14 (And.intro e15 (And.intro eln (And.intro v0 (And.intro v1 (And.intro v2 (v3))))))))))))))
  by_cases hlt:j<r3.length
  ·have g1:=List.getElem?_eq_getElem hlt
   simp -implicitDefEqProofs[hE,hW,hlt,g1]
   exact⟨m - 1,by omega,j+1,by omega,rfl,by simp[e0],by simp[e3],by simp[e5],by simp[e6],by simp[e8],by simp[e11],by rw[sumTo_succ hlt];simp,by simp[e13],by simp[e14],by first|(simp;done)|(simp;exact wrap_nat (by omega)),by simp[eln],by simp[v0],by simp[v1],by simp[v2],by simp[v3]⟩
  rw[show r3.take j=r3 from List.take_of_length_le (by omega)] at e12
  have hE:=And.intro e0 (And.intro e3 (And.intro e5 (And.intro e6 (And.intro e8 (And.intro e11 (And.intro e12 (And.intro e13 (And.intro e14 (And.intro e15 (And.intro eln (And.intro v0 (And.intro v1 (And.intro v2 (v3))))))))))))))
  simp -implicitDefEqProofs[hE,hW,hlt]
  clear hj hlt
  refine WCT.unroll ?_
  simp -implicitDefEqProofs[hE,hW]
  have hst:(k=0∧storeMay ⟨r0,r1,r2,r3⟩)∨(k=1∧rowsOK fdsRow ⟨r0,r1,r2,r3⟩)∨(k=2∧queueMay ⟨r0,r1,r2,r3⟩):=hq
  clear hq
  have hk3:k=0∨¬ k=0:=by omega
  rcases hcode with hc|hc|hc|hc
  ·rcases hst with ⟨hk,q0,q1,q2,q3⟩|⟨hk,q0,q1,q2,q3⟩|⟨hk,q0,q1,q2,q3⟩
   ·rcases hrow with hr|hr|hr|hr
    ·simp -implicitDefEqProofs[hE,hW,apT0,hc,hk,hr]
     refine CallT.body (F:=m80) rfl rfl rfl rfl ?_
     simp -implicitDefEqProofs[m80,hE,hW,apT0,hc,hk,hr]
     refine CallT.pure (c_first r0 false) (by simp[apT0]) rfl ?_
     simp -implicitDefEqProofs[hE,hW,apT0,hc,hk,hr,turnS,rowTurn,getRow,putRow,queuePut,queueGet,headOr,unzT,unzP,okT,okP,manyIn]
    ·simp -implicitDefEqProofs[hE,hW,apT0,hc,hk,hr]
     refine CallT.body (F:=m80) rfl rfl rfl rfl ?_
     simp -implicitDefEqProofs[m80,hE,hW,apT0,hc,hk,hr]
     refine CallT.pure (c_first r1 false) (by simp[apT0]) rfl ?_
     simp -implicitDefEqProofs[hE,hW,apT0,hc,hk,hr,turnS,rowTurn,getRow,putRow,queuePut,queueGet,headOr,unzT,unzP,okT,okP,manyIn]
    ·simp -implicitDefEqProofs[hE,hW,apT0,hc,hk,hr]
     refine CallT.body (F:=m80) rfl rfl rfl rfl ?_
     simp -implicitDefEqProofs[m80,hE,hW,apT0,hc,hk,hr]
     refine CallT.pure (c_first r2 false) (by simp[apT0]) rfl ?_
     simp -implicitDefEqProofs[hE,hW,apT0,hc,hk,hr,turnS,rowTurn,getRow,putRow,queuePut,queueGet,headOr,unzT,unzP,okT,okP,manyIn]
    ·simp -implicitDefEqProofs[hE,hW,apT0,hc,hk,hr]
     refine CallT.body (F:=m80) rfl rfl rfl rfl ?_
     simp -implicitDefEqProofs[m80,hE,hW,apT0,hc,hk,hr]
     refine CallT.pure (c_first r3 false) (by simp[apT0]) rfl ?_
     simp -implicitDefEqProofs[hE,hW,apT0,hc,hk,hr,turnS,rowTurn,getRow,putRow,queuePut,queueGet,headOr,unzT,unzP,okT,okP,manyIn]
   ·rcases hrow with hr|hr|hr|hr
    ·simp -implicitDefEqProofs[hE,hW,apT0,hc,hk,hr]
     refine c_fdsRow _ 0 r0 ⟨0,0,arg⟩ _ (by simp[apT0]) (by simp[apT0]) q0 (by simp) (fun a hz=>?_) (fun T' ys a j2 log hz hj1 hj2 hTj hag hn=>?_) (fun T' a hz hag hn=>?_)
     ·simp -implicitDefEqProofs[hE,hW,apT0,hc,hk,hr,hz,turnS,getRow,putRow,queuePut,queueGet,headOr,unzT,unzP,okT,okP,manyIn]
     ·have g0:=hag 0 (by simp[apT0])
      have g1:=hag 1 (by simp[apT0])
      have g2:=hag 2 (by simp[apT0])
      have g3:=hag 3 (by simp[apT0])
      simp[apT0] at hj1
      simp[apT0] at g0 g1 g2 g3
      have n0:¬ 0=j2:=by omega
      have n1:¬ 1=j2:=by omega
      have n2:¬ 2=j2:=by omega
      have n3:¬ 3=j2:=by omega
      simp -implicitDefEqProofs[hE,hW,apT0,hc,hk,hr,hz,hTj,g0,g1,g2,g3,n0,n1,n2,n3,Ne.symm n0,Ne.symm n1,Ne.symm n2,Ne.symm n3,turnS,getRow,putRow,queuePut,queueGet,headOr,unzT,unzP,okT,okP,manyIn]
     ·have g0:=hag 0 (by simp[apT0])
      have g1:=hag 1 (by simp[apT0])
      have g2:=hag 2 (by simp[apT0])
      have g3:=hag 3 (by simp[apT0])
      simp[apT0] at g0 g1 g2 g3
      simp -implicitDefEqProofs[hE,hW,apT0,hc,hk,hr,hz,g0,g1,g2,g3,turnS,getRow,putRow,queuePut,queueGet,headOr,unzT,unzP,okT,okP,manyIn]
    ·simp -implicitDefEqProofs[hE,hW,apT0,hc,hk,hr]
     refine c_fdsRow _ 1 r1 ⟨0,1,arg⟩ _ (by simp[apT0]) (by simp[apT0]) q1 (by simp) (fun a hz=>?_) (fun T' ys a j2 log hz hj1 hj2 hTj hag hn=>?_) (fun T' a hz hag hn=>?_)
     ·simp -implicitDefEqProofs[hE,hW,apT0,hc,hk,hr,hz,turnS,getRow,putRow,queuePut,queueGet,headOr,unzT,unzP,okT,okP,manyIn]
     ·have g0:=hag 0 (by simp[apT0])
      have g1:=hag 1 (by simp[apT0])
      have g2:=hag 2 (by simp[apT0])
      have g3:=hag 3 (by simp[apT0])
      simp[apT0] at hj1
      simp[apT0] at g0 g1 g2 g3
      have n0:¬ 0=j2:=by omega
      have n1:¬ 1=j2:=by omega
      have n2:¬ 2=j2:=by omega
      have n3:¬ 3=j2:=by omega
      simp -implicitDefEqProofs[hE,hW,apT0,hc,hk,hr,hz,hTj,g0,g1,g2,g3,n0,n1,n2,n3,Ne.symm n0,Ne.symm n1,Ne.symm n2,Ne.symm n3,turnS,getRow,putRow,queuePut,queueGet,headOr,unzT,unzP,okT,okP,manyIn]
     ·have g0:=hag 0 (by simp[apT0])
      have g1:=hag 1 (by simp[apT0])
      have g2:=hag 2 (by simp[apT0])
      have g3:=hag 3 (by simp[apT0])
      simp[apT0] at g0 g1 g2 g3
      simp -implicitDefEqProofs[hE,hW,apT0,hc,hk,hr,hz,g0,g1,g2,g3,turnS,getRow,putRow,queuePut,queueGet,headOr,unzT,unzP,okT,okP,manyIn]
    ·simp -implicitDefEqProofs[hE,hW,apT0,hc,hk,hr]
     refine c_fdsRow _ 2 r2 ⟨0,2,arg⟩ _ (by simp[apT0]) (by simp[apT0]) q2 (by simp) (fun a hz=>?_) (fun T' ys a j2 log hz hj1 hj2 hTj hag hn=>?_) (fun T' a hz hag hn=>?_)
     ·simp -implicitDefEqProofs[hE,hW,apT0,hc,hk,hr,hz,turnS,getRow,putRow,queuePut,queueGet,headOr,unzT,unzP,okT,okP,manyIn]
     ·have g0:=hag 0 (by simp[apT0])
      have g1:=hag 1 (by simp[apT0])
      have g2:=hag 2 (by simp[apT0])
      have g3:=hag 3 (by simp[apT0])
      simp[apT0] at hj1
      simp[apT0] at g0 g1 g2 g3
      have n0:¬ 0=j2:=by omega
      have n1:¬ 1=j2:=by omega
      have n2:¬ 2=j2:=by omega
      have n3:¬ 3=j2:=by omega
      simp -implicitDefEqProofs[hE,hW,apT0,hc,hk,hr,hz,hTj,g0,g1,g2,g3,n0,n1,n2,n3,Ne.symm n0,Ne.symm n1,Ne.symm n2,Ne.symm n3,turnS,getRow,putRow,queuePut,queueGet,headOr,unzT,unzP,okT,okP,manyIn]
     ·have g0:=hag 0 (by simp[apT0])
      have g1:=hag 1 (by simp[apT0])
      have g2:=hag 2 (by simp[apT0])
      have g3:=hag 3 (by simp[apT0])
      simp[apT0] at g0 g1 g2 g3
      simp -implicitDefEqProofs[hE,hW,apT0,hc,hk,hr,hz,g0,g1,g2,g3,turnS,getRow,putRow,queuePut,queueGet,headOr,unzT,unzP,okT,okP,manyIn]
    ·simp -implicitDefEqProofs[hE,hW,apT0,hc,hk,hr]
     refine c_fdsRow _ 3 r3 ⟨0,3,arg⟩ _ (by simp[apT0]) (by simp[apT0]) q3 (by simp) (fun a hz=>?_) (fun T' ys a j2 log hz hj1 hj2 hTj hag hn=>?_) (fun T' a hz hag hn=>?_)
     ·simp -implicitDefEqProofs[hE,hW,apT0,hc,hk,hr,hz,turnS,getRow,putRow,queuePut,queueGet,headOr,unzT,unzP,okT,okP,manyIn]
     ·have g0:=hag 0 (by simp[apT0])
      have g1:=hag 1 (by simp[apT0])
      have g2:=hag 2 (by simp[apT0])
      have g3:=hag 3 (by simp[apT0])
      simp[apT0] at hj1
      simp[apT0] at g0 g1 g2 g3
      have n0:¬ 0=j2:=by omega
      have n1:¬ 1=j2:=by omega
      have n2:¬ 2=j2:=by omega
      have n3:¬ 3=j2:=by omega
      simp -implicitDefEqProofs[hE,hW,apT0,hc,hk,hr,hz,hTj,g0,g1,g2,g3,n0,n1,n2,n3,Ne.symm n0,Ne.symm n1,Ne.symm n2,Ne.symm n3,turnS,getRow,putRow,queuePut,queueGet,headOr,unzT,unzP,okT,okP,manyIn]
     ·have g0:=hag 0 (by simp[apT0])
      have g1:=hag 1 (by simp[apT0])
      have g2:=hag 2 (by simp[apT0])
      have g3:=hag 3 (by simp[apT0])
      simp[apT0] at g0 g1 g2 g3
      simp -implicitDefEqProofs[hE,hW,apT0,hc,hk,hr,hz,g0,g1,g2,g3,turnS,getRow,putRow,queuePut,queueGet,headOr,unzT,unzP,okT,okP,manyIn]
   ·rcases hrow with hr|hr|hr|hr
    ·by_cases hl:r0.length=4
     ·simp -implicitDefEqProofs[hE,hW,apT0,hc,hk,hr]
      refine CallT.body (F:=m82) rfl rfl rfl rfl ?_
      simp -implicitDefEqProofs[m82,hE,hW,apT0,hc,hk,hr,hl,turnS,rowTurn,getRow,putRow,queuePut,queueGet,headOr,unzT,unzP,okT,okP,manyIn]
     ·have hrr:(r0.length+1)*8≤140737488355328:=by omega
      have hr2:r0.length*8≤140737488355328:=by omega
      have hl1:r0.length≤4:=by have:=q0.1;dsimp only at this;omega
      rcases nilOr r0 with hR|⟨x,l,hR⟩
      ·simp -implicitDefEqProofs[hE,hW,apT0,hc,hk,hr,hR]
       refine CallT.body (F:=m82) rfl rfl rfl rfl ?_
       simp -implicitDefEqProofs[m82,hE,hW,apT0,hc,hk,hr,hR,turnS,rowTurn,getRow,putRow,queuePut,queueGet,headOr,unzT,unzP,okT,okP,manyIn]
      ·rw[hR,List.length_cons] at hl hrr hr2 hl1
       have hl2:¬ 4≤(l.length:Int)+1:=by omega
       have hl3:¬ (l.length:Int)+1=4:=by omega
       have hl4:¬ l.length=3:=by omega
       simp -implicitDefEqProofs[hE,hW,apT0,hc,hk,hr,hR]
       refine CallT.body (F:=m82) rfl rfl rfl rfl ?_
       simp -implicitDefEqProofs[m82,hE,hW,apT0,hc,hk,hr,hR,hl,hrr,hr2,hl2,hl3,hl4,turnS,rowTurn,getRow,putRow,queuePut,queueGet,headOr,unzT,unzP,okT,okP,manyIn]
    ·by_cases hl:r1.length=4
     ·simp -implicitDefEqProofs[hE,hW,apT0,hc,hk,hr]
      refine CallT.body (F:=m82) rfl rfl rfl rfl ?_
      simp -implicitDefEqProofs[m82,hE,hW,apT0,hc,hk,hr,hl,turnS,rowTurn,getRow,putRow,queuePut,queueGet,headOr,unzT,unzP,okT,okP,manyIn]
     ·have hrr:(r1.length+1)*8≤140737488355328:=by omega
      have hr2:r1.length*8≤140737488355328:=by omega
      have hl1:r1.length≤4:=by have:=q1.1;dsimp only at this;omega
      rcases nilOr r1 with hR|⟨x,l,hR⟩
      ·simp -implicitDefEqProofs[hE,hW,apT0,hc,hk,hr,hR]
       refine CallT.body (F:=m82) rfl rfl rfl rfl ?_
       simp -implicitDefEqProofs[m82,hE,hW,apT0,hc,hk,hr,hR,turnS,rowTurn,getRow,putRow,queuePut,queueGet,headOr,unzT,unzP,okT,okP,manyIn]
      ·rw[hR,List.length_cons] at hl hrr hr2 hl1
       have hl2:¬ 4≤(l.length:Int)+1:=by omega
       have hl3:¬ (l.length:Int)+1=4:=by omega
       have hl4:¬ l.length=3:=by omega
       simp -implicitDefEqProofs[hE,hW,apT0,hc,hk,hr,hR]
       refine CallT.body (F:=m82) rfl rfl rfl rfl ?_
       simp -implicitDefEqProofs[m82,hE,hW,apT0,hc,hk,hr,hR,hl,hrr,hr2,hl2,hl3,hl4,turnS,rowTurn,getRow,putRow,queuePut,queueGet,headOr,unzT,unzP,okT,okP,manyIn]
    ·by_cases hl:r2.length=4
     ·simp -implicitDefEqProofs[hE,hW,apT0,hc,hk,hr]
      refine CallT.body (F:=m82) rfl rfl rfl rfl ?_
      simp -implicitDefEqProofs[m82,hE,hW,apT0,hc,hk,hr,hl,turnS,rowTurn,getRow,putRow,queuePut,queueGet,headOr,unzT,unzP,okT,okP,manyIn]
     ·have hrr:(r2.length+1)*8≤140737488355328:=by omega
      have hr2:r2.length*8≤140737488355328:=by omega
      have hl1:r2.length≤4:=by have:=q2.1;dsimp only at this;omega
      rcases nilOr r2 with hR|⟨x,l,hR⟩
      ·simp -implicitDefEqProofs[hE,hW,apT0,hc,hk,hr,hR]
       refine CallT.body (F:=m82) rfl rfl rfl rfl ?_
       simp -implicitDefEqProofs[m82,hE,hW,apT0,hc,hk,hr,hR,turnS,rowTurn,getRow,putRow,queuePut,queueGet,headOr,unzT,unzP,okT,okP,manyIn]
      ·rw[hR,List.length_cons] at hl hrr hr2 hl1
       have hl2:¬ 4≤(l.length:Int)+1:=by omega
       have hl3:¬ (l.length:Int)+1=4:=by omega
       have hl4:¬ l.length=3:=by omega
       simp -implicitDefEqProofs[hE,hW,apT0,hc,hk,hr,hR]
       refine CallT.body (F:=m82) rfl rfl rfl rfl ?_
       simp -implicitDefEqProofs[m82,hE,hW,apT0,hc,hk,hr,hR,hl,hrr,hr2,hl2,hl3,hl4,turnS,rowTurn,getRow,putRow,queuePut,queueGet,headOr,unzT,unzP,okT,okP,manyIn]
    ·by_cases hl:r3.length=4
     ·simp -implicitDefEqProofs[hE,hW,apT0,hc,hk,hr]
      refine CallT.body (F:=m82) rfl rfl rfl rfl ?_
      simp -implicitDefEqProofs[m82,hE,hW,apT0,hc,hk,hr,hl,turnS,rowTurn,getRow,putRow,queuePut,queueGet,headOr,unzT,unzP,okT,okP,manyIn]
     ·have hrr:(r3.length+1)*8≤140737488355328:=by omega
      have hr2:r3.length*8≤140737488355328:=by omega
      have hl1:r3.length≤4:=by have:=q3.1;dsimp only at this;omega
      rcases nilOr r3 with hR|⟨x,l,hR⟩
      ·simp -implicitDefEqProofs[hE,hW,apT0,hc,hk,hr,hR]
       refine CallT.body (F:=m82) rfl rfl rfl rfl ?_
       simp -implicitDefEqProofs[m82,hE,hW,apT0,hc,hk,hr,hR,turnS,rowTurn,getRow,putRow,queuePut,queueGet,headOr,unzT,unzP,okT,okP,manyIn]
      ·rw[hR,List.length_cons] at hl hrr hr2 hl1
       have hl2:¬ 4≤(l.length:Int)+1:=by omega
       have hl3:¬ (l.length:Int)+1=4:=by omega
       have hl4:¬ l.length=3:=by omega
       simp -implicitDefEqProofs[hE,hW,apT0,hc,hk,hr,hR]
       refine CallT.body (F:=m82) rfl rfl rfl rfl ?_
       simp -implicitDefEqProofs[m82,hE,hW,apT0,hc,hk,hr,hR,hl,hrr,hr2,hl2,hl3,hl4,turnS,rowTurn,getRow,putRow,queuePut,queueGet,headOr,unzT,unzP,okT,okP,manyIn]
  ·rcases hst with ⟨hk,q0,q1,q2,q3⟩|⟨hk,q0,q1,q2,q3⟩|⟨hk,q0,q1,q2,q3⟩
   ·rcases hrow with hr|hr|hr|hr
    ·simp -implicitDefEqProofs[hE,hW,apT0,hc,hk,hr]
     refine CallT.body (F:=m80) rfl rfl rfl rfl ?_
     simp -implicitDefEqProofs[m80,hE,hW,apT0,hc,hk,hr]
     refine CallT.pure (c_first r0 false) (by simp[apT0]) rfl ?_
     simp -implicitDefEqProofs[hE,hW,apT0,hc,hk,hr,turnS,rowTurn,getRow,putRow,queuePut,queueGet,headOr,unzT,unzP,okT,okP,manyIn]
    ·simp -implicitDefEqProofs[hE,hW,apT0,hc,hk,hr]
     refine CallT.body (F:=m80) rfl rfl rfl rfl ?_
     simp -implicitDefEqProofs[m80,hE,hW,apT0,hc,hk,hr]
     refine CallT.pure (c_first r1 false) (by simp[apT0]) rfl ?_
     simp -implicitDefEqProofs[hE,hW,apT0,hc,hk,hr,turnS,rowTurn,getRow,putRow,queuePut,queueGet,headOr,unzT,unzP,okT,okP,manyIn]
    ·simp -implicitDefEqProofs[hE,hW,apT0,hc,hk,hr]
     refine CallT.body (F:=m80) rfl rfl rfl rfl ?_
     simp -implicitDefEqProofs[m80,hE,hW,apT0,hc,hk,hr]
     refine CallT.pure (c_first r2 false) (by simp[apT0]) rfl ?_
     simp -implicitDefEqProofs[hE,hW,apT0,hc,hk,hr,turnS,rowTurn,getRow,putRow,queuePut,queueGet,headOr,unzT,unzP,okT,okP,manyIn]
    ·simp -implicitDefEqProofs[hE,hW,apT0,hc,hk,hr]
     refine CallT.body (F:=m80) rfl rfl rfl rfl ?_
     simp -implicitDefEqProofs[m80,hE,hW,apT0,hc,hk,hr]
     refine CallT.pure (c_first r3 false) (by simp[apT0]) rfl ?_
     simp -implicitDefEqProofs[hE,hW,apT0,hc,hk,hr,turnS,rowTurn,getRow,putRow,queuePut,queueGet,headOr,unzT,unzP,okT,okP,manyIn]
   ·rcases hrow with hr|hr|hr|hr
    ·simp -implicitDefEqProofs[hE,hW,apT0,hc,hk,hr]
     refine c_fdsRow _ 0 r0 ⟨1,0,arg⟩ _ (by simp[apT0]) (by simp[apT0]) q0 (by simp) (fun a hz=>?_) (fun T' ys a j2 log hz hj1 hj2 hTj hag hn=>?_) (fun T' a hz hag hn=>?_)
     ·simp -implicitDefEqProofs[hE,hW,apT0,hc,hk,hr,hz,turnS,getRow,putRow,queuePut,queueGet,headOr,unzT,unzP,okT,okP,manyIn]
     ·have g0:=hag 0 (by simp[apT0])
      have g1:=hag 1 (by simp[apT0])
      have g2:=hag 2 (by simp[apT0])
      have g3:=hag 3 (by simp[apT0])
      simp[apT0] at hj1
      simp[apT0] at g0 g1 g2 g3
      have n0:¬ 0=j2:=by omega
      have n1:¬ 1=j2:=by omega
      have n2:¬ 2=j2:=by omega
      have n3:¬ 3=j2:=by omega
      simp -implicitDefEqProofs[hE,hW,apT0,hc,hk,hr,hz,hTj,g0,g1,g2,g3,n0,n1,n2,n3,Ne.symm n0,Ne.symm n1,Ne.symm n2,Ne.symm n3,turnS,getRow,putRow,queuePut,queueGet,headOr,unzT,unzP,okT,okP,manyIn]
     ·have g0:=hag 0 (by simp[apT0])
      have g1:=hag 1 (by simp[apT0])
      have g2:=hag 2 (by simp[apT0])
      have g3:=hag 3 (by simp[apT0])
      simp[apT0] at g0 g1 g2 g3
      simp -implicitDefEqProofs[hE,hW,apT0,hc,hk,hr,hz,g0,g1,g2,g3,turnS,getRow,putRow,queuePut,queueGet,headOr,unzT,unzP,okT,okP,manyIn]
    ·simp -implicitDefEqProofs[hE,hW,apT0,hc,hk,hr]
     refine c_fdsRow _ 1 r1 ⟨1,1,arg⟩ _ (by simp[apT0]) (by simp[apT0]) q1 (by simp) (fun a hz=>?_) (fun T' ys a j2 log hz hj1 hj2 hTj hag hn=>?_) (fun T' a hz hag hn=>?_)
     ·simp -implicitDefEqProofs[hE,hW,apT0,hc,hk,hr,hz,turnS,getRow,putRow,queuePut,queueGet,headOr,unzT,unzP,okT,okP,manyIn]
     ·have g0:=hag 0 (by simp[apT0])
      have g1:=hag 1 (by simp[apT0])
      have g2:=hag 2 (by simp[apT0])
      have g3:=hag 3 (by simp[apT0])
      simp[apT0] at hj1
      simp[apT0] at g0 g1 g2 g3
      have n0:¬ 0=j2:=by omega
      have n1:¬ 1=j2:=by omega
      have n2:¬ 2=j2:=by omega
      have n3:¬ 3=j2:=by omega
      simp -implicitDefEqProofs[hE,hW,apT0,hc,hk,hr,hz,hTj,g0,g1,g2,g3,n0,n1,n2,n3,Ne.symm n0,Ne.symm n1,Ne.symm n2,Ne.symm n3,turnS,getRow,putRow,queuePut,queueGet,headOr,unzT,unzP,okT,okP,manyIn]
     ·have g0:=hag 0 (by simp[apT0])
      have g1:=hag 1 (by simp[apT0])
      have g2:=hag 2 (by simp[apT0])
      have g3:=hag 3 (by simp[apT0])
      simp[apT0] at g0 g1 g2 g3
      simp -implicitDefEqProofs[hE,hW,apT0,hc,hk,hr,hz,g0,g1,g2,g3,turnS,getRow,putRow,queuePut,queueGet,headOr,unzT,unzP,okT,okP,manyIn]
    ·simp -implicitDefEqProofs[hE,hW,apT0,hc,hk,hr]
     refine c_fdsRow _ 2 r2 ⟨1,2,arg⟩ _ (by simp[apT0]) (by simp[apT0]) q2 (by simp) (fun a hz=>?_) (fun T' ys a j2 log hz hj1 hj2 hTj hag hn=>?_) (fun T' a hz hag hn=>?_)
     ·simp -implicitDefEqProofs[hE,hW,apT0,hc,hk,hr,hz,turnS,getRow,putRow,queuePut,queueGet,headOr,unzT,unzP,okT,okP,manyIn]
     ·have g0:=hag 0 (by simp[apT0])
      have g1:=hag 1 (by simp[apT0])
      have g2:=hag 2 (by simp[apT0])
      have g3:=hag 3 (by simp[apT0])
      simp[apT0] at hj1
      simp[apT0] at g0 g1 g2 g3
      have n0:¬ 0=j2:=by omega
      have n1:¬ 1=j2:=by omega
      have n2:¬ 2=j2:=by omega
      have n3:¬ 3=j2:=by omega
      simp -implicitDefEqProofs[hE,hW,apT0,hc,hk,hr,hz,hTj,g0,g1,g2,g3,n0,n1,n2,n3,Ne.symm n0,Ne.symm n1,Ne.symm n2,Ne.symm n3,turnS,getRow,putRow,queuePut,queueGet,headOr,unzT,unzP,okT,okP,manyIn]
     ·have g0:=hag 0 (by simp[apT0])
      have g1:=hag 1 (by simp[apT0])
      have g2:=hag 2 (by simp[apT0])
      have g3:=hag 3 (by simp[apT0])
      simp[apT0] at g0 g1 g2 g3
      simp -implicitDefEqProofs[hE,hW,apT0,hc,hk,hr,hz,g0,g1,g2,g3,turnS,getRow,putRow,queuePut,queueGet,headOr,unzT,unzP,okT,okP,manyIn]
    ·simp -implicitDefEqProofs[hE,hW,apT0,hc,hk,hr]
     refine c_fdsRow _ 3 r3 ⟨1,3,arg⟩ _ (by simp[apT0]) (by simp[apT0]) q3 (by simp) (fun a hz=>?_) (fun T' ys a j2 log hz hj1 hj2 hTj hag hn=>?_) (fun T' a hz hag hn=>?_)
     ·simp -implicitDefEqProofs[hE,hW,apT0,hc,hk,hr,hz,turnS,getRow,putRow,queuePut,queueGet,headOr,unzT,unzP,okT,okP,manyIn]
     ·have g0:=hag 0 (by simp[apT0])
      have g1:=hag 1 (by simp[apT0])
      have g2:=hag 2 (by simp[apT0])
      have g3:=hag 3 (by simp[apT0])
      simp[apT0] at hj1
      simp[apT0] at g0 g1 g2 g3
      have n0:¬ 0=j2:=by omega
      have n1:¬ 1=j2:=by omega
      have n2:¬ 2=j2:=by omega
      have n3:¬ 3=j2:=by omega
      simp -implicitDefEqProofs[hE,hW,apT0,hc,hk,hr,hz,hTj,g0,g1,g2,g3,n0,n1,n2,n3,Ne.symm n0,Ne.symm n1,Ne.symm n2,Ne.symm n3,turnS,getRow,putRow,queuePut,queueGet,headOr,unzT,unzP,okT,okP,manyIn]
     ·have g0:=hag 0 (by simp[apT0])
      have g1:=hag 1 (by simp[apT0])
      have g2:=hag 2 (by simp[apT0])
      have g3:=hag 3 (by simp[apT0])
      simp[apT0] at g0 g1 g2 g3
      simp -implicitDefEqProofs[hE,hW,apT0,hc,hk,hr,hz,g0,g1,g2,g3,turnS,getRow,putRow,queuePut,queueGet,headOr,unzT,unzP,okT,okP,manyIn]
   ·rcases hrow with hr|hr|hr|hr
    ·rcases nilOr2 r0 with hR|⟨x,hR⟩|⟨x,y,l,hR⟩
     ·simp -implicitDefEqProofs[hE,hW,apT0,hc,hk,hr,hR]
      refine CallT.body (F:=m82) rfl rfl rfl rfl ?_
      simp -implicitDefEqProofs[m82,hE,hW,apT0,hc,hk,hr,hR,turnS,rowTurn,getRow,putRow,queuePut,queueGet,headOr,unzT,unzP,okT,okP,manyIn]
     ·simp -implicitDefEqProofs[hE,hW,apT0,hc,hk,hr,hR]
      refine CallT.body (F:=m82) rfl rfl rfl rfl ?_
      simp -implicitDefEqProofs[m82,hE,hW,apT0,hc,hk,hr,hR,turnS,rowTurn,getRow,putRow,queuePut,queueGet,headOr,unzT,unzP,okT,okP,manyIn]
     ·have hne:((l.length:Int)+1+1==0)=false:=by rw[beq_eq_false_iff_ne];omega
      have hp:(0:Int)<(l.length:Int)+1+1:=by omega
      have hp1:1+(l.length+1)=l.length+1+1:=by omega
      have hlen:r0.length=l.length+1+1:=by rw[hR];rfl
      have hrr:(l.length+1)*8≤140737488355328:=by omega
      have htk:(l.map encInt).take l.length=l.map encInt:=List.take_of_length_le (by simp)
      simp -implicitDefEqProofs[hE,hW,apT0,hc,hk,hr,hR]
      refine CallT.body (F:=m82) rfl rfl rfl rfl ?_
      simp -implicitDefEqProofs[m82,hE,hW,apT0,hc,hk,hr,hR,hne,hp,hp1,hrr,htk,turnS,rowTurn,getRow,putRow,queuePut,queueGet,headOr,unzT,unzP,okT,okP,manyIn]
    ·rcases nilOr2 r1 with hR|⟨x,hR⟩|⟨x,y,l,hR⟩
     ·simp -implicitDefEqProofs[hE,hW,apT0,hc,hk,hr,hR]
      refine CallT.body (F:=m82) rfl rfl rfl rfl ?_
      simp -implicitDefEqProofs[m82,hE,hW,apT0,hc,hk,hr,hR,turnS,rowTurn,getRow,putRow,queuePut,queueGet,headOr,unzT,unzP,okT,okP,manyIn]
     ·simp -implicitDefEqProofs[hE,hW,apT0,hc,hk,hr,hR]
      refine CallT.body (F:=m82) rfl rfl rfl rfl ?_
      simp -implicitDefEqProofs[m82,hE,hW,apT0,hc,hk,hr,hR,turnS,rowTurn,getRow,putRow,queuePut,queueGet,headOr,unzT,unzP,okT,okP,manyIn]
     ·have hne:((l.length:Int)+1+1==0)=false:=by rw[beq_eq_false_iff_ne];omega
      have hp:(0:Int)<(l.length:Int)+1+1:=by omega
      have hp1:1+(l.length+1)=l.length+1+1:=by omega
      have hlen:r1.length=l.length+1+1:=by rw[hR];rfl
      have hrr:(l.length+1)*8≤140737488355328:=by omega
      have htk:(l.map encInt).take l.length=l.map encInt:=List.take_of_length_le (by simp)
      simp -implicitDefEqProofs[hE,hW,apT0,hc,hk,hr,hR]
      refine CallT.body (F:=m82) rfl rfl rfl rfl ?_
      simp -implicitDefEqProofs[m82,hE,hW,apT0,hc,hk,hr,hR,hne,hp,hp1,hrr,htk,turnS,rowTurn,getRow,putRow,queuePut,queueGet,headOr,unzT,unzP,okT,okP,manyIn]
    ·rcases nilOr2 r2 with hR|⟨x,hR⟩|⟨x,y,l,hR⟩
     ·simp -implicitDefEqProofs[hE,hW,apT0,hc,hk,hr,hR]
      refine CallT.body (F:=m82) rfl rfl rfl rfl ?_
      simp -implicitDefEqProofs[m82,hE,hW,apT0,hc,hk,hr,hR,turnS,rowTurn,getRow,putRow,queuePut,queueGet,headOr,unzT,unzP,okT,okP,manyIn]
     ·simp -implicitDefEqProofs[hE,hW,apT0,hc,hk,hr,hR]
      refine CallT.body (F:=m82) rfl rfl rfl rfl ?_
      simp -implicitDefEqProofs[m82,hE,hW,apT0,hc,hk,hr,hR,turnS,rowTurn,getRow,putRow,queuePut,queueGet,headOr,unzT,unzP,okT,okP,manyIn]
     ·have hne:((l.length:Int)+1+1==0)=false:=by rw[beq_eq_false_iff_ne];omega
      have hp:(0:Int)<(l.length:Int)+1+1:=by omega
      have hp1:1+(l.length+1)=l.length+1+1:=by omega
      have hlen:r2.length=l.length+1+1:=by rw[hR];rfl
      have hrr:(l.length+1)*8≤140737488355328:=by omega
      have htk:(l.map encInt).take l.length=l.map encInt:=List.take_of_length_le (by simp)
      simp -implicitDefEqProofs[hE,hW,apT0,hc,hk,hr,hR]
      refine CallT.body (F:=m82) rfl rfl rfl rfl ?_
      simp -implicitDefEqProofs[m82,hE,hW,apT0,hc,hk,hr,hR,hne,hp,hp1,hrr,htk,turnS,rowTurn,getRow,putRow,queuePut,queueGet,headOr,unzT,unzP,okT,okP,manyIn]
    ·rcases nilOr2 r3 with hR|⟨x,hR⟩|⟨x,y,l,hR⟩
     ·simp -implicitDefEqProofs[hE,hW,apT0,hc,hk,hr,hR]
      refine CallT.body (F:=m82) rfl rfl rfl rfl ?_
      simp -implicitDefEqProofs[m82,hE,hW,apT0,hc,hk,hr,hR,turnS,rowTurn,getRow,putRow,queuePut,queueGet,headOr,unzT,unzP,okT,okP,manyIn]
     ·simp -implicitDefEqProofs[hE,hW,apT0,hc,hk,hr,hR]
      refine CallT.body (F:=m82) rfl rfl rfl rfl ?_
      simp -implicitDefEqProofs[m82,hE,hW,apT0,hc,hk,hr,hR,turnS,rowTurn,getRow,putRow,queuePut,queueGet,headOr,unzT,unzP,okT,okP,manyIn]
     ·have hne:((l.length:Int)+1+1==0)=false:=by rw[beq_eq_false_iff_ne];omega
      have hp:(0:Int)<(l.length:Int)+1+1:=by omega
      have hp1:1+(l.length+1)=l.length+1+1:=by omega
      have hlen:r3.length=l.length+1+1:=by rw[hR];rfl
      have hrr:(l.length+1)*8≤140737488355328:=by omega
      have htk:(l.map encInt).take l.length=l.map encInt:=List.take_of_length_le (by simp)
      simp -implicitDefEqProofs[hE,hW,apT0,hc,hk,hr,hR]
      refine CallT.body (F:=m82) rfl rfl rfl rfl ?_
      simp -implicitDefEqProofs[m82,hE,hW,apT0,hc,hk,hr,hR,hne,hp,hp1,hrr,htk,turnS,rowTurn,getRow,putRow,queuePut,queueGet,headOr,unzT,unzP,okT,okP,manyIn]
  ·rcases hrow with hr|hr|hr|hr<;>rcases hk3 with hk|hk
   ·simp -implicitDefEqProofs[hE,hW,apT0,hc,hk,hr]
    refine CallT.pure (c_first r0 false) (by simp[apT0]) rfl ?_
    simp -implicitDefEqProofs[hE,hW,apT0,hc,hk,hr,turnS,rowTurn,getRow,putRow,queuePut,queueGet,headOr,unzT,unzP,okT,okP,manyIn]
   ·simp -implicitDefEqProofs[hE,hW,apT0,hc,hk,hr,turnS,rowTurn,getRow,putRow,queuePut,queueGet,headOr,unzT,unzP,okT,okP,manyIn]
   ·simp -implicitDefEqProofs[hE,hW,apT0,hc,hk,hr]
    refine CallT.pure (c_first r1 false) (by simp[apT0]) rfl ?_
    simp -implicitDefEqProofs[hE,hW,apT0,hc,hk,hr,turnS,rowTurn,getRow,putRow,queuePut,queueGet,headOr,unzT,unzP,okT,okP,manyIn]
   ·simp -implicitDefEqProofs[hE,hW,apT0,hc,hk,hr,turnS,rowTurn,getRow,putRow,queuePut,queueGet,headOr,unzT,unzP,okT,okP,manyIn]
   ·simp -implicitDefEqProofs[hE,hW,apT0,hc,hk,hr]
    refine CallT.pure (c_first r2 false) (by simp[apT0]) rfl ?_
    simp -implicitDefEqProofs[hE,hW,apT0,hc,hk,hr,turnS,rowTurn,getRow,putRow,queuePut,queueGet,headOr,unzT,unzP,okT,okP,manyIn]
   ·simp -implicitDefEqProofs[hE,hW,apT0,hc,hk,hr,turnS,rowTurn,getRow,putRow,queuePut,queueGet,headOr,unzT,unzP,okT,okP,manyIn]
   ·simp -implicitDefEqProofs[hE,hW,apT0,hc,hk,hr]
    refine CallT.pure (c_first r3 false) (by simp[apT0]) rfl ?_
    simp -implicitDefEqProofs[hE,hW,apT0,hc,hk,hr,turnS,rowTurn,getRow,putRow,queuePut,queueGet,headOr,unzT,unzP,okT,okP,manyIn]
   ·simp -implicitDefEqProofs[hE,hW,apT0,hc,hk,hr,turnS,rowTurn,getRow,putRow,queuePut,queueGet,headOr,unzT,unzP,okT,okP,manyIn]
  ·rcases hk3 with hk|hk
   ·simp -implicitDefEqProofs[hE,hW,apT0,hc,hk,sumW_of,turnS,rowTurn,getRow,putRow,queuePut,queueGet,headOr,unzT,unzP,okT,okP,manyIn]
   ·simp -implicitDefEqProofs[hE,hW,apT0,hc,hk,turnS,rowTurn,getRow,putRow,queuePut,queueGet,headOr,unzT,unzP,okT,okP,manyIn]
 ·rw[show applyM k s o e=(noState,0,e) from if_neg hall]
  refine PCall.ofZ (F:=m31) rfl rfl rfl ?_
  simp -implicitDefEqProofs[m31]
  refine CallT.bool2 (by simp) (c_StateMay k s false h) (fun hb=>?_) (fun hb=>?_)
  ·simp -implicitDefEqProofs
   refine CallT.bool2 (by simp) (c_OperMay o) (fun hb2=>absurd ⟨hb,hb2⟩ hall) (fun hb2=>?_)
   simp -implicitDefEqProofs[unzT,unzP,okT,okP]
  ·simp -implicitDefEqProofs[unzT,unzP,okT,okP]

end Go.Ab

namespace Go.Ab

theorem c_there13 (m:Machine) (r g t:Int) (h:okM m) (hin:∀ r∈m.rings,inR r.head):PCall tab 41 [.agg (encMachine false m),.int .i64 r,.int .i64 g,.int .i64 t] (.bool (decide (thereP m r g∧thread0P m.config t))):=by
 refine PCall.of (F:=m41) rfl rfl rfl rfl ?_
 simp -implicitDefEqProofs[m41]
 by_cases hm:machineMay m
 ·have hc:=hm.1
  have hn:=hm.2.1
  simp only[macNums] at hn
  have w1:IntKind.wrap .i64 (m.config.replicas - 1)=m.config.replicas - 1:=by have:=hc.2.1;exact wrap_of (by omega) (by omega)
  have w2:IntKind.wrap .i64 (m.config.logs - 1)=m.config.logs - 1:=by have:=hc.2.2.1;exact wrap_of (by omega) (by omega)
  have w3:IntKind.wrap .i64 (m.config.threads - 1)=m.config.threads - 1:=by have:=hc.2.2.2.1;exact wrap_of (by omega) (by omega)
  repeat' (first
   | (with_reducible refine guard_by (fun hb=>?_) (fun hb=>?_)<;>rw[hb]<;>(try simp at hb)<;>simp -implicitDefEqProofs[hb,w1,w2,w3])
   | (with_reducible refine cond_by (fun hb=>?_) (fun hb=>?_)<;>rw[hb]<;>(try simp at hb)<;>simp -implicitDefEqProofs[hb,w1,w2,w3])
   | ((refine CallT.bool2 ?_ (c_May13 m h hin) (fun hb=>?_) (fun hb=>?_);focus (simp[w1,w2,w3];done))<;>simp -implicitDefEqProofs[hb,w1,w2,w3])
   | (refine CallT.bool2 rfl (c_upTo13 r 0 _) (fun hb=>?_) (fun hb=>?_)<;>simp -implicitDefEqProofs[hb,w1,w2,w3])
   | (refine CallT.bool2 rfl (c_upTo13 g 0 _) (fun hb=>?_) (fun hb=>?_)<;>simp -implicitDefEqProofs[hb,w1,w2,w3])
   | (refine CallT.bool2 rfl (c_upTo13 t 0 _) (fun hb=>?_) (fun hb=>?_)<;>simp -implicitDefEqProofs[hb,w1,w2,w3]))
  all_goals simp only[thereP,isReplica,isLog,thread0P]
  all_goals (first|(intro hh;omega)|exact⟨⟨hm,⟨by omega,by omega⟩,by omega,by omega⟩,by omega,by omega⟩|(exfalso;exact hb hm)|(intro h5 h6 h7 h8 h9;omega)|(intros;omega)|omega|trace_state)
 ·repeat' (first
   | (with_reducible refine guard_by (fun hb=>?_) (fun hb=>?_)<;>rw[hb]<;>(try simp at hb)<;>simp -implicitDefEqProofs[hb])
   | (with_reducible refine cond_by (fun hb=>?_) (fun hb=>?_)<;>rw[hb]<;>(try simp at hb)<;>simp -implicitDefEqProofs[hb])
   | ((refine CallT.bool2 ?_ (c_May13 m h hin) (fun hb=>?_) (fun hb=>?_);focus (simp;done))<;>simp -implicitDefEqProofs[hb]))
  all_goals (first|exact absurd hb hm|exact fun hh=>absurd hh hm|(intro hh;exact absurd hh.1.1 hm)|trace_state)

end Go.Ab

namespace Go.Ab

def lockAt (m:Machine) (r g:Nat):Int:=((m.replicas[r]?.map fun p=>p.locks[g]?.getD 0)).getD 0

theorem replica_there {m:Machine} (hm:machineMay m) {r:Int} (hr:isReplica m r):∃ h:r.toNat<m.replicas.length,replicaIn m.config m.rings m.replicas[r.toNat]∧m.replicas[r.toNat].locks.length=m.rings.length∧m.replicas[r.toNat].cursors.length=m.rings.length:=by
 have hlt:r.toNat<m.replicas.length:=by have:=hr.1;have:=hr.2;omega
 have hp:=hm.2.2.2.1 _ (List.getElem_mem hlt)
 have hn:=hm.2.1
 simp only[macNums] at hn
 refine⟨hlt,hp, ?_, ?_⟩
 ·have:=hp.2.2.1;omega
 ·have:=hp.2.1;omega

end Go.Ab

namespace Go.Ab

theorem c_cfgReplica (c:Config) (t:Int) (h:cfgMay c∧0≤t∧t<c.threads):PCall tab 84 [.agg (encConfig c),.int .i64 t] (.tup [.int .i64 (Int.tmod t c.replicas),.int .i64 0]):=by
 have hr:¬ c.replicas=0:=by have:=h.1.2.1;omega
 refine PCall.of (F:=m84) rfl rfl rfl rfl ?_
 simp -implicitDefEqProofs[m84]
 refine CallT.bool2 rfl (c_cfgThread c t) (fun hb=>?_) (fun hb=>absurd h hb)
 simp -implicitDefEqProofs[hr]
@[reducible] def waitT (c:Config) (r g:Int) (i:Int) (t:Thread):Prop:=Int.tmod i c.replicas=r∧t.log=g∧t.posted=true∧updates t.op
def waits (m:Machine) (r g:Int) (i:Nat):Bool:=match m.threads[i]? with
 | some t=>decide (waitT m.config r g i t)
 | none=>false
end Go.Ab

namespace Go.Ab

def nextM (m:Machine) (r g:Nat) (s:Slot):Machine:=
 { m with
   replicas:=m.replicas.modify r fun p=>{ p with state:=(turnS m.config.object p.state s.op).1,cursors:=p.cursors.modify g (·+1) }
   threads:=if s.thread.tmod m.config.replicas=r then m.threads.modify s.thread.toNat fun t=>{ t with answer:=(turnS m.config.object ((m.replicas[r]?.map (·.state)).getD noState) s.op).2,ready:=true } else m.threads }
def curAt (m:Machine) (r g:Nat):Int:=((m.replicas[r]?.map fun p=>p.cursors[g]?.getD 0)).getD 0
def ringAt (m:Machine) (g:Nat):Ring:=m.rings[g]?.getD ⟨0,0,0,[]⟩
def entryAt (m:Machine) (r g:Nat):Slot × Int:=entryM (ringAt m g) (curAt m r g)
def oneM (m:Machine) (r g:Int):Machine × Bool × Int:=if thereP m r g then (if (entryAt m r.toNat g.toNat).2=0 then (nextM m r.toNat g.toNat (entryAt m r.toNat g.toNat).1,true,0) else (m,false,0)) else (noMachine,false,1800)
theorem oneM_no {m:Machine} {r g:Int} (h:¬ thereP m r g):oneM m r g=(noMachine,false,1800):=if_neg h
theorem oneM_yes {m:Machine} {r g:Int} (h:thereP m r g):oneM m r g=if (entryAt m r.toNat g.toNat).2=0 then (nextM m r.toNat g.toNat (entryAt m r.toNat g.toNat).1,true,0) else (m,false,0):=if_pos h

theorem ok_slot1 (s:Slot) (e:Int):okT (.tup [.agg (encSlot s),.int .i64 e])=true:=rfl

structure At (m:Machine) (r g:Nat):Prop where
 hr:r<m.replicas.length
 hg:g<m.rings.length
 hc:g<m.replicas[r].cursors.length
 st:stateMay m.config.object m.replicas[r].state
 os:okS m.replicas[r].state
 ring:ringIn m.config m.rings[g]
 ol:lenOK m.rings[g].slots
 cur:0≤m.replicas[r].cursors[g]∧m.replicas[r].cursors[g]≤1048576

theorem at_of {m:Machine} {r g:Int} (h:okM m) (ht:thereP m r g):At m r.toNat g.toNat:=by
 obtain⟨h1,hr,hg⟩:=ht
 obtain⟨hi,hpi,hpl,hpc⟩:=replica_there h1 hr
 have hgl:g.toNat<m.rings.length:=by have:=hg.1;have:=hg.2;omega
 have hgc:g.toNat<m.replicas[r.toNat].cursors.length:=by omega
 have hri:=h1.2.2.1 _ (List.getElem_mem hgl)
 have hcu:=hpi.2.2.2.2 _ hgc
 rw[List.getElem?_eq_getElem hgl] at hcu
 simp only[cursorIn,decide_eq_true_eq] at hcu
 have hn:=hri.1.1
 simp only[ringNums] at hn
 exact⟨hi,hgl,hgc,hpi.1,(h.2.1.2 _ (List.getElem_mem hi)).1,hri,h.1.2 _ (List.getElem_mem hgl),by omega,by omega⟩

theorem entry_of {m:Machine} {r g:Nat} (h:At m r g):entryAt m r g=entryM (m.rings[g]'h.hg) ((m.replicas[r]'h.hr).cursors[g]'h.hc):=by
 have e1:=List.getElem?_eq_getElem h.hr
 have e2:=List.getElem?_eq_getElem h.hg
 have e3:=List.getElem?_eq_getElem h.hc
 simp only[entryAt,ringAt,curAt,e1,e2,e3,Option.map_some,Option.getD_some]

theorem entry_is {m:Machine} {r g:Nat} (h:At m r g) (h0:(entryAt m r g).2=0):slotOK (entryAt m r g).1∧0≤(entryAt m r g).1.thread∧(entryAt m r g).1.thread<m.config.threads∧(m.replicas[r]'h.hr).cursors[g]'h.hc<(m.rings[g]'h.hg).tail:=by
 rw[entry_of h] at h0 ⊢
 unfold entryM at h0 ⊢
 rw[if_pos h.ring.1] at h0 ⊢
 by_cases he:hasEntry (m.rings[g]'h.hg) ((m.replicas[r]'h.hr).cursors[g]'h.hc)
 ·rw[if_pos he] at h0 ⊢
  obtain⟨_,_,_,_,g4,_⟩:=place_of h.ring.1 he.1 he.2.1
  have hm:slotAt (m.rings[g]'h.hg) ((m.replicas[r]'h.hr).cursors[g]'h.hc)∈(m.rings[g]'h.hg).slots:=by rw[← slotAt_of g4];exact List.getElem_mem _
  have h5:=h.ring.2.2.2 _ hm
  exact⟨h.ring.1.2 _ hm,h5.1,h5.2,he.2.1⟩
 ·rw[if_neg he] at h0;cases h0

def stAt (m:Machine) (r:Nat):State:=(m.replicas[r]?.map (·.state)).getD noState
theorem stAt_of {m:Machine} {r g:Nat} (h:At m r g):stAt m r=(m.replicas[r]'h.hr).state:=by
 have e1:=List.getElem?_eq_getElem h.hr
 simp only[stAt,e1,Option.map_some,Option.getD_some]
theorem curAt_of {m:Machine} {r g:Nat} (h:At m r g):curAt m r g=(m.replicas[r]'h.hr).cursors[g]'h.hc:=by
 have e1:=List.getElem?_eq_getElem h.hr
 have e3:=List.getElem?_eq_getElem h.hc
 simp only[curAt,e1,e3,Option.map_some,Option.getD_some]
theorem ringAt_of {m:Machine} {g:Nat} (h:g<m.rings.length):ringAt m g=m.rings[g]:=by
 have e1:=List.getElem?_eq_getElem h
 simp only[ringAt,e1,Option.getD_some]

end Go.Ab

namespace Go.Ab

theorem nextM_of {m:Machine} {r g:Nat} (h:At m r g) (s:Slot):nextM m r g s =
  { m with
    replicas:=m.replicas.set r { m.replicas[r]'h.hr with state:=(turnS m.config.object (m.replicas[r]'h.hr).state s.op).1,cursors:=(m.replicas[r]'h.hr).cursors.set g ((m.replicas[r]'h.hr).cursors[g]'h.hc+1) }
    threads:=if s.thread.tmod m.config.replicas=r then m.threads.modify s.thread.toNat fun t=>{ t with answer:=(turnS m.config.object (m.replicas[r]'h.hr).state s.op).2,ready:=true } else m.threads }:=by
 have e1:=List.getElem?_eq_getElem h.hr
 have e3:=List.getElem?_eq_getElem h.hc
 unfold nextM
 rw[modify_of e1,modify_of e3,e1]
 rfl

theorem applyM_yes {k:Int} {s:State} {o:Op} {e:Int} (h1:stateMay k s) (h2:opMay o):applyM k s o e=((turnS k s o).1,(turnS k s o).2,0):=if_pos ⟨h1,h2⟩

theorem okC_set {n:Nat} {L:List (List AV)} {i:Nat} {c:List AV} (h1:∀ x∈L,∀ y∈x,okC n y=true) (h2:∀ y∈c,okC n y=true):∀ x∈L.set i c,∀ y∈x,okC n y=true:=fun x hx=>by
 rcases List.mem_or_eq_of_mem_set hx with hx|rfl
 ·exact h1 x hx
 ·exact h2
theorem okC_iset (n:Nat) (xs:List Int) (i:Nat) (v:Int) (z:Bool):okC (n+2) (.vs ((xs.map encInt).set i [.int .i64 v]) z)=true:=by
 have:(xs.map encInt).set i [.int .i64 v]=(xs.set i v).map encInt:=by rw[List.map_set]
 rw[this];exact okC_ints (n+1) _ z
theorem okC_rep (ps:List Replica) (z:Bool):∀ x∈ps.map (encReplica z),∀ y∈x,okC 7 y=true:=fun x hx=>by
 obtain⟨p,_,rfl⟩:=List.mem_map.1 hx
 simp[okC_ints 6]
theorem okC_thr (ts:List Thread) (z:Bool):∀ x∈ts.map (encThread z),∀ y∈x,okC 7 y=true:=fun x hx=>by
 obtain⟨t,_,rfl⟩:=List.mem_map.1 hx
 simp[okC_ints 6,okC,flatV]
theorem unz_intF:(fun row=>List.map (unz 6) row) ∘ encInt=encInt:=by funext n;rfl
theorem unz_rep (z:Bool):(fun row=>List.map (unz 7) row) ∘ encReplica z=encReplica false:=by
 funext p
 simp[unz_ints 5]
theorem unz_thr (z:Bool):(fun row=>List.map (unz 7) row) ∘ encThread z=encThread false:=by
 funext p
 simp[unz_ints 5]

end Go.Ab

namespace Go.Ab

theorem unz_slF7:(fun row=>List.map (unz 7) row) ∘ encSlot=encSlot:=by funext s;rfl

end Go.Ab

namespace Go.Ab

theorem PCall.unz {M:FuncId→Option MFunc} {k:FuncId} {ts:List AV} {tr:AV} (h:PCall M k ts tr) (hok:okT tr=true):PCall M k ts (unzT tr):=fun args H hw ht=>by
 obtain⟨r,H',h1,h2,h3,h4,h5,S',h6,h7⟩:=h args H hw ht
 exact⟨r,H',h1,h2,h3,h4,h5,S',h6.unz hok,h7⟩
theorem ok_mach1F (m:Machine) (n:Int):okT (.tup [.agg (encMachine false m),.int .i64 n])=true:=by simp[okT,okP,okC,List.all_map,flatV]
theorem unz_mach1 (m:Machine) (n:Int):unzT (.tup [.agg (encMachine true m),.int .i64 n])=.tup [.agg (encMachine false m),.int .i64 n]:=by simp[unzT,unzP,okT,okP]
theorem PCall.mach1Z {M:FuncId→Option MFunc} {k:FuncId} {ts:List AV} {m:Machine} {n:Int} (h:PCall M k ts (.tup [.agg (encMachine true m),.int .i64 n])):PCall M k ts (.tup [.agg (encMachine false m),.int .i64 n]):=by rw[← unz_mach1];exact h.unz (ok_mach1 m n)

theorem unz_ringF (z:Bool):(fun row=>List.map (unz 7) row) ∘ encRing z=encRing false:=by
 funext p
 simp[unz_slF7]
theorem okC_ring (rs:List Ring) (z:Bool):∀ x∈rs.map (encRing z),∀ y∈x,okC 7 y=true:=fun x hx=>by
 obtain⟨p,_,rfl⟩:=List.mem_map.1 hx
 simp[okC,flatV]

theorem sT (z:Bool) (l:List Thread) (i:Nat) (a b c d e f:Int) (g:List Int) (k:Int) (p q:Bool) (r:Int) (s:List Int) :
  (l.map (encThread z)).set i [.int .i64 a,.int .i64 b,.int .i64 c,.int .i64 d,.int .i64 e,.int .i64 f,.vs (g.map encInt) z,.int .i64 k,.bool p,.bool q,.int .i64 r,.vs (s.map encInt) z]=(l.set i ⟨a,⟨b,c,d⟩,e,f,g,k,p,q,r,s⟩).map (encThread z):=by rw[List.map_set]
theorem sR (z:Bool) (l:List Ring) (i:Nat) (a b c:Int) (g:List Slot) :
  (l.map (encRing z)).set i [.int .i64 a,.int .i64 b,.int .i64 c,.vs (g.map encSlot) z]=(l.set i ⟨a,b,c,g⟩).map (encRing z):=by rw[List.map_set]
theorem sP (z:Bool) (l:List Replica) (i:Nat) (a b c d e f:List Int) :
  (l.map (encReplica z)).set i [.vs (a.map encInt) z,.vs (b.map encInt) z,.vs (c.map encInt) z,.vs (d.map encInt) z,.vs (e.map encInt) z,.vs (f.map encInt) z]=(l.set i ⟨⟨a,b,c,d⟩,e,f⟩).map (encReplica z):=by rw[List.map_set]
theorem sI (l:List Int) (i:Nat) (a:Int):(l.map encInt).set i [.int .i64 a]=(l.set i a).map encInt:=by rw[List.map_set]
end Go.Ab

namespace Go.Ab

def quietC:MCode→Bool
 | .skip|.ret|.exit _=>true
 | .ops l=>l.all fun o=>!o.op.loud
 | .seq a b|.cond _ a b=>quietC a && quietC b
 | .block _ b=>quietC b
 | _=>false

section
variable {C:CallF} {e e':Env} {H H':AH}

theorem quiet_step {o:MOper} (hq:o.op.loud=false) (h:stepOper C e H o=some (e',H')):H'.lo=H.lo:=by
 unfold stepOper at h
 split at h
 ·split at h
  ·rename_i v e1 H1 hs
   cases h
   by_cases hc:∃ q f xs,o.op=.call q f xs
   ·obtain⟨q,f,xs,hop⟩:=hc
    rw[hop] at hs hq
    have hqt:q=true:=by simpa [MOp.loud] using hq
    subst hqt
    simp only[stepOp] at hs
    obtain⟨⟨r,H2⟩,h1,h2⟩:=map_some hs
    cases h2
    unfold callA at h1
    split at h1
    ·simp only[if_true] at h1
     unfold quietly at h1
     split at h1
     ·split at h1
      ·cases h1;rfl
      ·cases h1
     ·cases h1
    ·cases h1
   ·have hs':aop e H o.op=some (v,e1,H'):=by
     unfold stepOp at hs
     split at hs
     ·rename_i q f xs heq;exact absurd ⟨q,f,xs,heq⟩ hc
     ·exact hs
    exact (aop_calm hq (fun q f xs h=>hc ⟨q,f,xs,h⟩) hs').1.lo
  ·cases h
 ·cases h;rfl

theorem quiet_ops:∀ {l:List MOper} {e e':Env} {H H':AH},(l.all fun o=>!o.op.loud)=true→runOps C l e H=some (e',H')→H'.lo=H.lo
 | [],e,e',H,H',_,h=>by simp only[runOps,Option.some.injEq,Prod.mk.injEq] at h;rw[h.2]
 | o::l,e,e',H,H',hq,h=>by
  simp only[List.all_cons,Bool.and_eq_true,Bool.not_eq_true'] at hq
  simp only[runOps] at h
  split at h
  ·rename_i e1 H1 h1
   rw[quiet_ops (by simpa using hq.2) h,quiet_step hq.1 h1]
  ·cases h

theorem quiet_run {n:Nat}:∀ {c:MCode} {e e':Env} {H H':AH} {o:Out},quietC c=true→runCode C n c e H=some (o,e',H')→H'.lo=H.lo
 | .skip,e,e',H,H',o,_,h=>by simp only[runCode] at h;cases h;rfl
 | .ret,e,e',H,H',o,_,h=>by simp only[runCode] at h;cases h;rfl
 | .exit _,e,e',H,H',o,_,h=>by simp only[runCode] at h;cases h;rfl
 | .ops l,e,e',H,H',o,hq,h=>by
  simp only[runCode] at h
  split at h
  ·rename_i h1;cases h;exact quiet_ops hq h1
  ·cases h
 | .seq a b,e,e',H,H',o,hq,h=>by
  simp only[quietC,Bool.and_eq_true] at hq
  simp only[runCode] at h
  split at h
  ·rename_i h1;rw[quiet_run hq.2 h,quiet_run hq.1 h1]
  ·exact quiet_run hq.1 h
 | .cond c a b,e,e',H,H',o,hq,h=>by
  simp only[quietC,Bool.and_eq_true] at hq
  simp only[runCode] at h
  split at h
  ·exact quiet_run hq.1 h
  ·exact quiet_run hq.2 h
  ·cases h
 | .block id b,e,e',H,H',o,hq,h=>by
  simp only[quietC] at hq
  simp only[runCode] at h
  split at h
  ·rename_i h1;cases h;exact quiet_run hq h1
  ·exact quiet_run hq h
 | .draw ..,e,e',H,H',o,hq,h=>by simp[quietC] at hq
 | .loop _,e,e',H,H',o,hq,h=>by simp[quietC] at hq
 | .ext _,e,e',H,H',o,hq,h=>by simp[quietC] at hq
end

theorem CallT.bodyQ {M:FuncId→Option MFunc} {q:Bool} {k:FuncId} {F:MFunc} {args:List TV} {T:TH} {K:TV→TH→Prop} (hM:M k=some F) (hp:F.pure=false) (hq:quietC F.body=true) (hn:args.length=F.nargs) (hfree:args.all TV.free=true)
  (h:wpc M F.body (startT args) T (FinT F.res K)):CallT M q k args T K:=by
 cases q with
 | false=>exact CallT.body hM hp hn hfree h
 | true=>
  intro A H hargs hm hv
  have hw0:WH { H with lo:=H.next }:=⟨Nat.le_refl _,hm.wh.top⟩
  obtain⟨m0,g0⟩:=hm.hframe hw0 (fun _ _ _ _=>rfl)
  have hs:=start_SRT m0 (g0.list hv)
  obtain⟨n,o,e1,H1,hrun,A1,E1,T1,k1,k2,k3⟩:=wpc_sound h A _ _ hs
  have hlo:H1.lo=H.next:=quiet_run hq hrun
  have fin:Fin F.res (fun x H'=>H'.lo=H.next∧∃ v A' T',HR A' T' H'∧VR A' T' H' v x∧Gr A T { H with lo:=H.next } A' T' H'∧K v T') o e1 H1:=by
   have hfin:=FinT_sound k1 k3
   cases o with
   | exit id=>exact hfin
   | normal=>obtain⟨x,m1,_,v,m2,m3⟩:=hfin;exact⟨x,m1,hlo,v,A1,T1,k1.mem,m2,k2,m3⟩
   | ret=>obtain⟨x,m1,_,v,m2,m3⟩:=hfin;exact⟨x,m1,hlo,v,A1,T1,k1.mem,m2,k2,m3⟩
  obtain⟨r,H',hev,hl2,v,A',T',f1,f2,f3,f4⟩:=Ev.body hM hp (by rw[← hv.1];exact hn) (free_of hv hfree) ⟨n,o,e1,H1,hrun,fin⟩
  have hw':WH { H' with lo:=H.lo }:=⟨by have h1:=f1.wh.lo;have h2:=hm.wh.lo;show H.lo≤H'.next;omega,f1.wh.top⟩
  obtain⟨p1,p2⟩:=f1.hframe hw' (fun _ _ _ _=>rfl)
  refine⟨r,{ H' with lo:=H.lo }, ?_,v,A',T',p1,p2 _ _ f2,(g0.trans f3).trans p2,f4⟩
  unfold EvQ
  rw[if_pos rfl]
  exact⟨H',hev,by omega,rfl⟩

end Go.Ab

namespace Go.Ab

def setThread (m:Machine) (t:Nat) (f:Thread→Thread):Machine:={ m with threads:=m.threads.modify t f }
theorem setThread_of {m:Machine} {t:Nat} (hi:t<m.threads.length) (f:Thread→Thread):setThread m t f={ m with threads:=m.threads.set t (f m.threads[t]) }:=by unfold setThread;rw[modify_of (List.getElem?_eq_getElem hi)]
@[reducible] def atP (m:Machine) (t:Int):Prop:=machineMay m∧thread0P m.config t
theorem there00 {m:Machine} (h:machineMay m):thereP m 0 0:=by
 have hc:=h.1
 have hn:=h.2.1
 simp only[macNums] at hn
 have h3:=hc.2.1
 have h4:=hc.2.2.1
 exact⟨h,⟨by omega,by omega⟩,by omega,by omega⟩

theorem c_boardThread (m:Machine) (t:Int) (h:okM m):PCall tab 83 [.vp [encMachine false m] 0 0,.int .i64 t] (.bool (decide (atP m t))):=by
 refine PCall.of (F:=m83) rfl rfl rfl rfl ?_
 simp -implicitDefEqProofs[m83]
 refine CallT.bool2 (by simp) (c_startMay m h) (fun hb=>?_) (fun hb=>?_)
 ·simp -implicitDefEqProofs
  refine CallT.bool2 rfl (c_cfgThread m.config t) (fun hb2=>?_) (fun hb2=>?_)
  ·simp -implicitDefEqProofs
   exact⟨hb,hb2.2⟩
  ·simp -implicitDefEqProofs
   exact fun hh h2=>by
    rcases Int.lt_or_le t m.config.threads with h3|h3
    ·exact absurd ⟨hb.1,h2,h3⟩ hb2
    ·exact h3
 ·simp -implicitDefEqProofs
  exact fun hh=>absurd hh hb

end Go.Ab

namespace Go.Ab

def ownOf (m:Machine) (t:Int):Int:=Int.tmod t m.config.replicas
def logOfT (m:Machine) (t:Nat):Int:=(m.threads[t]?.map (·.log)).getD 0
theorem own_there {m:Machine} {t:Int} (h:atP m t):thereP m (ownOf m t) (logOfT m t.toNat):=by
 obtain⟨h1,h2,h3⟩:=h
 have hc:=h1.1
 have hn:=h1.2.1
 simp only[macNums] at hn
 have hr:=hc.2.1
 have hi:t.toNat<m.threads.length:=by omega
 have hat:=h1.2.2.2.2.1 _ (List.getElem_mem hi)
 have hnum:=hat.1
 simp only[atNums] at hnum
 have hlg:logOfT m t.toNat=m.threads[t.toNat].log:=by simp[logOfT,hi]
 refine⟨h1,⟨?_, ?_⟩, ?_, ?_⟩
 ·exact Int.tmod_nonneg _ h2
 ·have:=Int.tmod_lt_of_pos t (show 0<m.config.replicas by omega)
  unfold ownOf
  omega
 ·rw[hlg];omega
 ·rw[hlg];omega

end Go.Ab

namespace Go.Ab

def setRing (m:Machine) (g:Nat) (r:Ring):Machine:={ m with rings:=m.rings.modify g fun _=>r }
def thrAt (m:Machine) (t:Nat):Thread:=m.threads[t]?.getD ⟨0,⟨0,0,0⟩,0,0,[],0,false,false,0,[]⟩
theorem setRing_of {m:Machine} {g:Nat} (hg:g<m.rings.length) (r:Ring):setRing m g r={ m with rings:=m.rings.set g r }:=by unfold setRing;rw[modify_of (List.getElem?_eq_getElem hg)]
end Go.Ab

namespace Go.Ab

theorem head_in {m:Machine} (hin:∀ r∈m.rings,inR r.head) {g:Nat} (h:g<m.rings.length):inR m.rings[g].head:=hin _ (List.getElem_mem h)

set_option maxHeartbeats 4000000 in
theorem c_One13 (m:Machine) (r g:Int) (h:okM m) (hin:∀ r∈m.rings,inR r.head):PCall tab 95 [.agg (encMachine false m),.int .i64 r,.int .i64 g] (.tup [.agg (encMachine false (oneM m r g).1),.bool (oneM m r g).2.1,.int .i64 (oneM m r g).2.2]):=by
 by_cases hall:thereP m r g
 ·rw[oneM_yes hall]
  have hA:=at_of h hall
  have hE:=entry_of hA
  have hY:=entry_is hA
  have hall':=hall
  obtain⟨h1,hr,hg⟩:=hall
  have hi:=hA.hr
  have hj:=hA.hg
  have hk:=hA.hc
  have hr0:=hr.1
  have hr1:=hr.2
  have hg0:=hg.1
  have hg1:=hg.2
  have hg2:g<m.replicas[r.toNat].cursors.length:=by omega
  have z0:0<m.replicas.length:=by omega
  have z1:0<m.replicas[r.toNat].cursors.length:=by omega
  have z2:0<m.rings.length:=by omega
  have hrn:¬ m.config.replicas=0:=by have:=h1.1.2.1;omega
  have gj:=List.getElem?_eq_getElem hj
  have gi:=List.getElem?_eq_getElem hi
  have gk:=List.getElem?_eq_getElem hk
  refine PCall.ofZ (F:=m95) rfl rfl rfl ?_
  simp -implicitDefEqProofs[m95]
  refine CallT.bool2 (by simp) (c_there13 m r g 0 h hin) (fun hb=>?_) (fun hb=>absurd ⟨hall',by have:=h1.1.2.2.2.1;simp only[thread0P];omega⟩ hb)
  simp -implicitDefEqProofs
  refine CallT.pure (c_Copy13 m h) (by simp) (ok_mach _) ?_
  simp -implicitDefEqProofs[hr0,hr1,hi,hj,hk,hg0,hg1,hg2,z0,z1,z2,gi,gj,gk]
  refine CallT.pure (c_Entry1 m.rings[g.toNat] (m.replicas[r.toNat].cursors[g.toNat]) hA.ol (head_in hin hj)) (by simp[gj]) (ok_slot1 _ _) ?_
  rw[← hE]
  generalize entryAt m r.toNat g.toNat=en at hY ⊢
  obtain⟨s,e⟩:=en
  simp -implicitDefEqProofs
  by_cases he:e=0
  ·subst he
   obtain⟨hs,ht0,ht1,hcu⟩:=hY rfl
   dsimp only at hs ht0 ht1
   have htl:s.thread.toNat<m.threads.length:=by have:=h1.2.1.2.2.1;omega
   have ht2:s.thread<m.threads.length:=by omega
   have z3:0<m.threads.length:=by omega
   have gt:=List.getElem?_eq_getElem htl
   have hcur:=hA.cur
   have w1:IntKind.wrap .i64 (m.replicas[r.toNat].cursors[g.toNat]+1)=m.replicas[r.toNat].cursors[g.toNat]+1:=wrap_of (by omega) (by omega)
   simp -implicitDefEqProofs[hr0,hr1,hi,hj,hk,hg0,hg1,hg2,z0,z1,z2,gi,gj,gk]
   refine CallT.pure (c_Apply1 m.config.object m.replicas[r.toNat].state s.op 1800 hA.os) (by simp[gi]) (ok_st3 _ _ _) ?_
   rw[applyM_yes hA.st hs.1.1,nextM_of hA s]
   generalize turnS m.config.object m.replicas[r.toNat].state s.op=tr
   obtain⟨st2,an⟩:=tr
   by_cases hown:s.thread.tmod m.config.replicas=r
   ·have hown2:s.thread.tmod m.config.replicas=(r.toNat:Int):=by omega
    rw[if_pos hown2,modify_of gt]
    simp -implicitDefEqProofs[hr0,hr1,hi,hj,hk,hg0,hg1,hg2,z0,z1,z2,gi,gj,gk,w1,hrn,hown,htl,ht2,ht0,z3,gt,unzT,unzP,okT,okP]
    refine⟨⟨okC_set (okC_rep _ _) ?_,okC_set (okC_thr _ _) ?_⟩, ?_, ?_⟩
    ·simp[okC_ints 5,okC_iset 5]
    ·simp[okC_ints 6,okC,flatV]
    ·rw[unz_rep,unz_intF];simp only[encReplica,List.map_set]
    ·rw[unz_thr]
   ·have hown2:¬ s.thread.tmod m.config.replicas=(r.toNat:Int):=by omega
    rw[if_neg hown2]
    simp -implicitDefEqProofs[hr0,hr1,hi,hj,hk,hg0,hg1,hg2,z0,z1,z2,gi,gj,gk,w1,hrn,hown,unzT,unzP,okT,okP]
    refine⟨okC_set (okC_rep _ _) ?_, ?_⟩
    ·simp[okC_ints 5,okC_iset 5]
    ·rw[unz_rep,unz_intF];simp only[encReplica,List.map_set]
  ·simp -implicitDefEqProofs[he,unzT,unzP,okT,okP]
 ·rw[oneM_no hall]
  refine PCall.ofZ (F:=m95) rfl rfl rfl ?_
  simp -implicitDefEqProofs[m95]
  refine CallT.bool2 (by simp) (c_there13 m r g 0 h hin) (fun hb=>absurd hb.1 hall) (fun hb=>?_)
  simp -implicitDefEqProofs[unzT,unzP,okT,okP]

end Go.Ab

namespace Go.Ab

def saysYes:Option (AV × AH)→Bool
 | some (.bool true,_)=>true
 | _=>false

theorem saysYes_of {x:Option (AV × AH)} (h:saysYes x=true):∃ H,x=some (.bool true,H):=by
 unfold saysYes at h
 split at h
 ·exact⟨_,rfl⟩
 ·cases h

theorem PCall.closed {M:FuncId→Option MFunc} {k:FuncId} {F:MFunc} (n:Nat) (hM:M k=some F) (hp:F.pure=true) (hb:F.both=false) (h:saysYes (evalF (eval M n) n F [] { objs:=.nil,next:=0,lo:=0 })=true):PCall M k [] (.bool true):=by
 intro args H hw ht
 obtain⟨H1,h1⟩:=saysYes_of h
 refine⟨.bool true,H,⟨n+1, ?_⟩,hw,Nat.le_refl _,rfl,fun _ _=>rfl,[],   .one (.cell (by simp) (.flat rfl .nil)),by simp,by simp⟩
 simp only[eval,hM,hp,hb,if_true,pureB,Bool.false_eq_true,if_false]
 unfold pureC
 rw[ht]
 simp only[h1]
 rfl

end Go.Ab

namespace Go.Ab

mutual
/-- the cells of the memory behind a value that is all its own, with the numbers of the arrays -/
def ownV (H : AH) : Nat → AV → Option (AV × List Nat)
  | 0, _ => none
  | d + 1, v => match v with
    | .bool b => some (.bool b, [])
    | .int k n => some (.int k n, [])
    | .str s => some (.str s, [])
    | .nils => some (.vs [] true, [])
    | .vs [] z => some (.vs [] z, [])
    | .sl b o sz len cap ex => if len = 0 then some (.vs [] (ex && cap == 0), []) else if cap = len then
        match H.read b o (len * sz) with
        | some cs => match ownVs H d cs with
          | some (ts, S) => some (.vs (rows sz ts len) true, b :: S)
          | none => none
        | none => none
      else none
    | _ => none
def ownVs (H : AH) : Nat → List AV → Option (List AV × List Nat)
  | 0, _ => none
  | _ + 1, [] => some ([], [])
  | d + 1, v :: vs => match ownV H d v, ownVs H d vs with
    | some (t, S1), some (ts, S2) => some (t :: ts, S1 ++ S2)
    | _, _ => none
end

def lfV (H:AH) (d:Nat) (v:AV):Option (AV × List Nat):=
 match v with
 | .agg cs=>(ownVs H d cs).map fun x=>(.agg x.1,x.2)
 | v=>ownV H d v

def lfVs (H:AH) (d:Nat):List AV→Option (List AV × List Nat)
 | []=>some ([],[])
 | v::vs=>match lfV H d v,lfVs H d vs with
  | some (t,S1),some (ts,S2)=>some (t::ts,S1++S2)
  | _,_=>none

def runTree (d:Nat):Option (AV × AH)→Option AV
 | some (.tup vs,H)=>match lfVs H d vs with
  | some (ts,S)=>if S.Nodup∧okT (.tup ts)=true then some (.tup ts) else none
  | none=>none
 | some (v,H)=>match lfV H d v with
  | some (t,S)=>if S.Nodup∧okT t=true then some t else none
  | none=>none
 | none=>none

theorem rows_back {sz:Nat}:∀ (n:Nat) (ts:List AV),ts.length=n*sz→(rows sz ts n).flatten=ts:=by
 intro n
 induction n with
 | zero=>intro ts h;simp at h;subst h;rfl
 | succ n ih=>
  intro ts h
  have hle:sz≤ts.length:=by rw[h,Nat.succ_mul];omega
  have e:rows sz ts (n+1)=ts.take sz::rows sz (ts.drop sz) n:=by
   unfold rows
   rw[List.range_succ_eq_map,List.map_cons,List.map_map]
   simp only[Nat.zero_mul,List.drop_zero,List.cons.injEq,true_and]
   apply List.map_congr_left
   intro i _
   simp only[Function.comp_apply,List.drop_drop,Nat.succ_mul]
   rw[Nat.add_comm]
  rw[e,List.flatten_cons,ih _ (by rw[List.length_drop,h,Nat.succ_mul];omega),List.take_append_drop]

theorem rows_each {sz:Nat} {n:Nat} {ts:List AV} (h:ts.length=n*sz):∀ row∈rows sz ts n,row.length=sz:=by
 intro row hr
 unfold rows at hr
 obtain⟨i,hi,rfl⟩:=List.mem_map.1 hr
 have hi':=List.mem_range.1 hi
 have:(i+1)*sz≤n*sz:=Nat.mul_le_mul_right _ hi'
 rw[Nat.succ_mul] at this
 rw[List.length_take,List.length_drop]
 omega

mutual
theorem ownV_own {H:AH}:∀ (d:Nat) (v:AV) {t:AV} {S:List Nat},ownV H d v=some (t,S)→Own H [v] [t] S
 | 0,_,_,_,h=>by simp[ownV] at h
 | d+1,v,t,S,h=>by
  unfold ownV at h
  split at h
  ·cases h;exact .flat rfl .nil
  ·cases h;exact .flat rfl .nil
  ·cases h;exact .flat rfl .nil
  ·cases h;exact .emp rfl (fun _=>rfl) .nil
  ·cases h;exact .emp rfl (fun e=>by subst e;rfl) .nil
  ·rename_i b o sz len cap ex
   split at h
   ·rename_i h0
    subst h0
    cases h
    refine .emp rfl (fun e=>?_) .nil
    simp only[Bool.and_eq_true,beq_iff_eq] at e
    obtain⟨rfl,rfl⟩:=e
    rfl
   ·rename_i h0
    split at h
    ·rename_i hc
     subst hc
     split at h
     ·rename_i cs hr
      split at h
      ·rename_i ts S1 h1
       cases h
       have ho:=ownVs_own d cs h1
       have hl:ts.length=cap*sz:=by
        rw[← ho.length]
        unfold AH.read at hr
        split at hr
        ·unfold slice at hr
         split at hr
         ·cases hr;rw[List.length_take,List.length_drop];omega
         ·cases hr
        ·cases hr
       have hlen:(rows sz ts cap).length=cap:=by simp[rows]
       have:=Own.sl (H:=H) (b:=b) (o:=o) (sz:=sz) (ex:=ex) (z:=true) (rows:=rows sz ts cap) (cs:=cs) (S1:=S1) (S2:=[]) (hs:=[]) (ts:=[])
        (fun e=>by rw[e] at hlen;simp at hlen;omega) (by rw[hlen];exact hr) (rows_each hl) (by rw[rows_back _ _ hl];exact ho) .nil
       rw[hlen] at this
       simpa using this
      ·cases h
     ·cases h
    ·cases h
  ·cases h
theorem ownVs_own {H:AH}:∀ (d:Nat) (vs:List AV) {ts:List AV} {S:List Nat},ownVs H d vs=some (ts,S)→Own H vs ts S
 | 0,_,_,_,h=>by simp[ownVs] at h
 | d+1,[],ts,S,h=>by simp only[ownVs,Option.some.injEq,Prod.mk.injEq] at h;obtain⟨rfl,rfl⟩:=h;exact .nil
 | d+1,v::vs,ts,S,h=>by
  simp only[ownVs] at h
  split at h
  ·rename_i t S1 ts2 S2 h1 h2
   cases h
   exact (ownV_own d v h1).append (ownVs_own d vs h2)
  ·cases h
end

theorem ownV_tup {H:AH} {d:Nat} {v t:AV} {S:List Nat} (h:ownV H d v=some (t,S)):∀ x,t≠.tup x:=by
 intro x
 cases d with
 | zero=>simp[ownV] at h
 | succ d=>
  unfold ownV at h
  split at h
  all_goals first
   | (cases h;done)
   | (cases h;simp;done)
   | skip
  split at h
  ·cases h;simp
  ·split at h
   ·split at h
    ·split at h
     ·cases h;simp
     ·cases h
    ·cases h
   ·cases h

theorem lfV_lf {H:AH} {d:Nat} {v t:AV} {S:List Nat} (h:lfV H d v=some (t,S)):Lf H v t S:=by
 unfold lfV at h
 split at h
 ·obtain⟨⟨ts,S1⟩,h1,h2⟩:=map_some h
  cases h2
  exact .agg (ownVs_own d _ h1)
 ·exact .cell (ownV_tup h) (ownV_own d _ h)

theorem lfVs_lf {H:AH} {d:Nat}:∀ {vs ts:List AV} {S:List Nat},lfVs H d vs=some (ts,S)→LfL H vs ts S
 | [],ts,S,h=>by simp only[lfVs,Option.some.injEq,Prod.mk.injEq] at h;obtain⟨rfl,rfl⟩:=h;exact .nil
 | v::vs,ts,S,h=>by
  simp only[lfVs] at h
  split at h
  ·rename_i t S1 ts2 S2 h1 h2
   cases h
   exact .cons (lfV_lf h1) (lfVs_lf h2)
  ·cases h

theorem runTree_lf {d:Nat} {x:Option (AV × AH)} {tr:AV} (h:runTree d x=some tr):∃ r H S,x=some (r,H)∧S.Nodup∧okT tr=true∧LfT H r tr S:=by
 unfold runTree at h
 split at h
 ·rename_i vs H
  split at h
  ·rename_i ts S h1
   split at h
   ·rename_i hh
    cases h
    exact⟨_,_,S,rfl,hh.1,hh.2,.tup (lfVs_lf h1)⟩
   ·cases h
  ·cases h
 ·rename_i v H _
  split at h
  ·rename_i t S h1
   split at h
   ·rename_i hh
    cases h
    exact⟨_,_,S,rfl,hh.1,hh.2,.one (lfV_lf h1)⟩
   ·cases h
  ·cases h
 ·cases h

theorem PCall.run {M:FuncId→Option MFunc} {k:FuncId} {F:MFunc} {ts:List AV} {tr:AV} (n d:Nat) (hM:M k=some F) (hp:F.pure=true) (hb:F.both=false) (h:runTree d (evalF (eval M n) n F ts { objs:=.nil,next:=0,lo:=0 })=some tr):PCall M k ts tr:=by
 intro args H hw ht
 obtain⟨r1,H1,S,k1',k2,hok,k3⟩:=runTree_lf h
 obtain⟨r,u,H',m1,m2,S',m3,m4⟩:=lift_LfT k3 hok k2 hw
 have hpc:pureC (Ab.evalF (eval M n) n F) args H=some (r,H'):=by
  simp only[pureC,ht,k1',m1,Option.map_some]
 have hlo:H'.lo=H.lo:=by
  obtain⟨_,_,_,_,_,_,h3⟩:=pureC_spec hpc
  exact (lift_G _ _ _ _ _ _ _ _ h3 hw).2
 refine⟨r,H',⟨n+1, ?_⟩,m2.wh,m2.next,hlo,m2.old,S',m3,m4⟩
 simp only[eval,hM,hp,hb,if_true,pureB,Bool.false_eq_true,if_false]
 exact hpc

end Go.Ab

namespace Go.Ab

end Go.Ab

namespace Go.Ab

end Go.Ab

namespace Go.Ab

theorem rowTurn_len (k:Int) (xs:List Int) (o:Op):(rowTurn k xs o).1.length≤xs.length+1:=by
 have hi:∀ x,(insAt x xs).length≤xs.length+1:=fun x=>by simp only[insAt,List.length_append,List.length_take,List.length_cons,List.length_drop];omega
 unfold rowTurn
 split
 ·dsimp only;split<;>simp
 ·split
  ·split
   ·unfold fdsTake;repeat' split
    all_goals (first|exact hi _|simp)
   ·unfold fdsFree;split
    ·simp only[List.length_append,List.length_take,List.length_drop];omega
    ·simp
  ·split
   ·unfold queuePut;split<;>simp
   ·unfold queueGet;simp;omega
theorem stateMay_len {k:Int} {s:State} (h:stateMay k s):s.r0.length≤4∧s.r1.length≤4∧s.r2.length≤4∧s.r3.length≤4:=by
 rcases h with ⟨_,q0,q1,q2,q3⟩|⟨_,q0,q1,q2,q3⟩|⟨_,q0,q1,q2,q3⟩
 ·have:=q0.1;have:=q1.1;have:=q2.1;have:=q3.1;omega
 ·exact⟨fds_len q0,fds_len q1,fds_len q2,fds_len q3⟩
 ·have:=q0.1;have:=q1.1;have:=q2.1;have:=q3.1;omega
theorem okS_turn {k:Int} {s:State} (h:stateMay k s) (o:Op):okS (turnS k s o).1:=by
 obtain⟨l0,l1,l2,l3⟩:=stateMay_len h
 have hl:=fun i=>rowTurn_len k (getRow s i) o
 have hg:∀ i,(getRow s i).length≤4:=fun i=>by unfold getRow;repeat' split
                                              all_goals assumption
 have hs:okS s:=⟨by unfold lenOK;omega,by unfold lenOK;omega,by unfold lenOK;omega,by unfold lenOK;omega⟩
 unfold turnS
 split
 ·exact hs
 ·split
  ·exact hs
  ·have h1:=hl o.row
   have h2:=hg o.row
   show okS (putRow s o.row (rowTurn k (getRow s o.row) o).1)
   unfold putRow
   split
   ·exact⟨by unfold lenOK;dsimp only;omega,by unfold lenOK;dsimp only;omega,by unfold lenOK;dsimp only;omega,by unfold lenOK;dsimp only;omega⟩
   ·split
    ·exact⟨by unfold lenOK;dsimp only;omega,by unfold lenOK;dsimp only;omega,by unfold lenOK;dsimp only;omega,by unfold lenOK;dsimp only;omega⟩
    ·split
     ·exact⟨by unfold lenOK;dsimp only;omega,by unfold lenOK;dsimp only;omega,by unfold lenOK;dsimp only;omega,by unfold lenOK;dsimp only;omega⟩
     ·exact⟨by unfold lenOK;dsimp only;omega,by unfold lenOK;dsimp only;omega,by unfold lenOK;dsimp only;omega,by unfold lenOK;dsimp only;omega⟩
theorem okM_next {m:Machine} {r g:Nat} (h:okM m) (hA:At m r g) (s:Slot):okM (nextM m r g s):=by
 rw[nextM_of hA s]
 obtain⟨h1,⟨l2,o2⟩,⟨l3,o3⟩,h4⟩:=h
 have hp:=o2 _ (List.getElem_mem hA.hr)
 refine⟨h1,⟨by unfold lenOK at *;simpa using l2,fun p hp'=>?_⟩,⟨?_,fun t ht=>?_⟩,h4⟩
 ·rcases List.mem_or_eq_of_mem_set hp' with hp'|rfl
  ·exact o2 p hp'
  ·exact⟨okS_turn hA.st _,by have:=hp.2.1;unfold lenOK at *;simpa using this,hp.2.2⟩
 ·split
  ·unfold lenOK at *;simpa using l3
  ·exact l3
 ·split at ht
  ·obtain⟨i,hi,rfl⟩:=List.getElem_of_mem ht
   have hi':i<m.threads.length:=by simpa using hi
   have ho:=o3 _ (List.getElem_mem hi')
   simp only[List.getElem_modify]
   split
   ·exact ho
   ·exact ho
  ·exact o3 t ht
theorem okM_no18:okM noMachine:=by unfold okM lenOK;simp
theorem okM_one {m:Machine} (h:okM m) (r g:Int):okM (oneM m r g).1:=by
 by_cases ht:thereP m r g
 ·rw[oneM_yes ht]
  split
  ·exact okM_next h (at_of h ht) _
  ·exact h
 ·rw[oneM_no ht];exact okM_no18
theorem ok_mach2F (m:Machine) (b:Bool) (n:Int):okT (.tup [.agg (encMachine false m),.bool b,.int .i64 n])=true:=by simp[okT,okP,okC,List.all_map,flatV]

end Go.Ab

namespace Go.Ab

theorem okM_setThread {m:Machine} (h:okM m) (t:Nat) {f:Thread→Thread} (hf:∀ x,okTh x→okTh (f x)):okM (setThread m t f):=by
 obtain⟨h1,h2,⟨l3,o3⟩,h4⟩:=h
 refine⟨h1,h2,⟨by unfold setThread lenOK at *;simpa using l3,fun x hx=>?_⟩,h4⟩
 unfold setThread at hx
 obtain⟨i,hi,rfl⟩:=List.getElem_of_mem hx
 have hi':i<m.threads.length:=by simpa using hi
 have ho:=o3 _ (List.getElem_mem hi')
 simp only[List.getElem_modify]
 split
 ·exact hf _ ho
 ·exact ho
theorem ok_machF (m:Machine):okT (.agg (encMachine false m))=true:=by simp[okT,okP,okC,List.all_map,flatV]

theorem c_replaying (m:Machine) (r g:Int) (h:okM m) (hin:∀ r∈m.rings,inR r.head):PCall tab 43 [.agg (encMachine false m),.int .i64 r,.int .i64 g] (.agg (encMachine false (oneM m r g).1)):=by
 have hOne:=c_One13 m r g h hin
 generalize oneM m r g=A at hOne ⊢
 refine PCall.ofZ (F:=m43) rfl rfl rfl ?_
 simp -implicitDefEqProofs[m43]
 refine CallT.pure hOne (by simp) (ok_mach2F _ _ _) ?_
 simp -implicitDefEqProofs[unzT,unzP,okT,okP]

end Go.Ab

namespace Go.Ab

theorem thrAt_of {m:Machine} {t:Nat} (h:t<m.threads.length):thrAt m t=m.threads[t]:=by
 have e1:=List.getElem?_eq_getElem h
 simp only[thrAt,e1,Option.getD_some]

theorem at_thr {m:Machine} {t:Int} (h:atP m t):∃ hi:t.toNat<m.threads.length,0≤t∧t<m.threads.length∧isLog m m.threads[t.toNat].log∧isReplica m (ownOf m t):=by
 have ht:=own_there h
 have hn:=h.1.2.1
 simp only[macNums] at hn
 have hi:t.toNat<m.threads.length:=by have:=h.2.1;have:=h.2.2;omega
 refine⟨hi,h.2.1,by have:=h.2.2;omega, ?_,ht.2.1⟩
 have:=ht.2.2
 unfold logOfT at this
 rw[List.getElem?_eq_getElem hi] at this
 exact this

end Go.Ab

namespace Go.Ab

@[reducible] def idle0:Thread:=⟨0,⟨0,0,0⟩,0,0,[],0,false,false,0,[]⟩
def doneM (m:Machine) (t:Int):Machine:={ m with threads:=m.threads.modify t.toNat fun _=>idle0,history:=m.history++[⟨t,false,(thrAt m t.toNat).op,(thrAt m t.toNat).answer⟩] }
def finishM (m:Machine) (t e:Int):Machine × Int:=if 64≤m.history.length then (noMachine,e) else (doneM m t,0)
def ownCur (m:Machine) (t:Int):Int:=curAt m (ownOf m t).toNat (thrAt m t.toNat).log.toNat
def ownLock (m:Machine) (t:Int):Int:=lockAt m (ownOf m t).toNat (thrAt m t.toNat).log.toNat
def ownRing (m:Machine) (t:Int):Ring:=ringAt m (thrAt m t.toNat).log.toNat
end Go.Ab

namespace Go.Ab

end Go.Ab

namespace Go.Ab

theorem okM_ring {m:Machine} (h:okM m) (g:Nat) {r:Ring} (hr:okR r):okM (setRing m g r):=by
 obtain⟨⟨l1,o1⟩,h2,h3,h4⟩:=h
 refine⟨⟨by unfold setRing lenOK at *;simpa using l1,fun x hx=>?_⟩,h2,h3,h4⟩
 unfold setRing at hx
 obtain⟨i,hi,rfl⟩:=List.getElem_of_mem hx
 have hi':i<m.rings.length:=by simpa using hi
 have ho:=o1 _ (List.getElem_mem hi')
 simp only[List.getElem_modify]
 split
 ·exact hr
 ·exact ho
theorem okM_finish {m:Machine} (h:okM m) (t e:Int):okM (finishM m t e).1:=by
 unfold finishM
 split
 ·exact okM_no18
 ·obtain⟨h1,h2,⟨l3,o3⟩,h4⟩:=h
  refine⟨h1,h2,⟨by unfold doneM lenOK at *;simpa using l3,fun x hx=>?_⟩,by unfold doneM lenOK at *;simp;omega⟩
  unfold doneM at hx
  obtain⟨i,hi,rfl⟩:=List.getElem_of_mem hx
  have hi':i<m.threads.length:=by simpa using hi
  have ho:=o3 _ (List.getElem_mem hi')
  simp only[List.getElem_modify]
  split
  ·simp[okTh,lenOK]
  ·exact ho
end Go.Ab

namespace Go.Ab

theorem doneM_of {m:Machine} {t:Int} (hi:t.toNat<m.threads.length):doneM m t={ m with threads:=m.threads.set t.toNat idle0,history:=m.history++[⟨t,false,m.threads[t.toNat].op,m.threads[t.toNat].answer⟩] }:=by
 unfold doneM;rw[modify_of (List.getElem?_eq_getElem hi),thrAt_of hi]

theorem c_done (m:Machine) (t:Int) (h:okM m) (hh:m.history.length≤64) (h0:0≤t) (h1:t<m.threads.length):PCall tab 96 [.agg (encMachine false m),.int .i64 t] (.agg (encMachine true (doneM m t))):=by
 have hi:t.toNat<m.threads.length:=by omega
 have z0:0<m.threads.length:=by omega
 have gt:=List.getElem?_eq_getElem hi
 have hb48:(m.history.length+1)*48≤140737488355328:=by omega
 rw[doneM_of hi]
 refine PCall.of (F:=m96) rfl rfl rfl (ok_mach _) ?_
 simp -implicitDefEqProofs[m96]
 refine CallT.pure (c_Copy13 m h) (by simp) (ok_mach _) ?_
 simp -implicitDefEqProofs[h0,h1,hi,z0,gt,hb48]
 all_goals simp[encThread]

theorem c_finished (m:Machine) (t e:Int) (h:okM m) (hh:m.history.length≤64) (h0:0≤t) (h1:t<m.threads.length):PCall tab 44 [.agg (encMachine false m),.int .i64 t,.int .i64 e] (.tup [.agg (encMachine true (finishM m t e).1),.int .i64 (finishM m t e).2]):=by
 have hD:=c_done m t h hh h0 h1
 unfold finishM
 generalize doneM m t=D at hD ⊢
 refine PCall.of (F:=m44) rfl rfl rfl (by split<;>exact ok_mach1 _ _) ?_
 simp -implicitDefEqProofs[m44]
 by_cases h2:64≤m.history.length
 ·have h3:(64:Int)≤m.history.length:=by omega
  simp -implicitDefEqProofs[h2,h3]
 ·have h3:¬ (64:Int)≤m.history.length:=by omega
  simp -implicitDefEqProofs[h2,h3]
  refine CallT.pure hD (by simp) (ok_mach _) ?_
  simp -implicitDefEqProofs

end Go.Ab

namespace Go.Ab

theorem wk {m:Machine} {t:Int} (h:okM m) (hat:atP m t):∃ (r log:Int) (hi:t.toNat<m.threads.length) (hri:r.toNat<m.replicas.length) (hj:log.toNat<m.rings.length) (hk:log.toNat<m.replicas[r.toNat].cursors.length) (hlk:log.toNat<m.replicas[r.toNat].locks.length),
  ownOf m t=r∧thrAt m t.toNat=m.threads[t.toNat]∧m.threads[t.toNat].log=log∧isReplica m r∧isLog m log∧At m r.toNat log.toNat ∧
  (0≤t∧t<m.threads.length∧t.toNat<m.threads.length∧0<m.threads.length∧m.threads[t.toNat]? = some m.threads[t.toNat]) ∧
  (¬ m.config.replicas=0∧t.tmod m.config.replicas=r∧m.threads[t.toNat].log=log∧0≤r∧r<m.replicas.length∧r.toNat<m.replicas.length∧0<m.replicas.length∧m.replicas[r.toNat]? = some m.replicas[r.toNat]) ∧
  (0≤log∧log<m.rings.length∧log.toNat<m.rings.length∧0<m.rings.length∧m.rings[log.toNat]? = some m.rings[log.toNat]) ∧
  (log.toNat<m.replicas[r.toNat].cursors.length∧log<m.replicas[r.toNat].cursors.length∧0<m.replicas[r.toNat].cursors.length∧m.replicas[r.toNat].cursors[log.toNat]? = some m.replicas[r.toNat].cursors[log.toNat]) ∧
  (log.toNat<m.replicas[r.toNat].locks.length∧log<m.replicas[r.toNat].locks.length∧0<m.replicas[r.toNat].locks.length∧m.replicas[r.toNat].locks[log.toNat]? = some m.replicas[r.toNat].locks[log.toNat]) ∧
  IntKind.wrap .i64 (t+1)=t+1:=by
 obtain⟨hi,ht0,ht1,hlog,hown⟩:=at_thr hat
 have h1:=hat.1
 have hc:=h1.1
 have hA:=at_of h ⟨h1,hown,hlog⟩
 obtain⟨hri,_,hpl,_⟩:=replica_there h1 hown
 have hk:=hA.hc
 have hj:=hA.hg
 have hl:=hlog
 have ho:=hown
 unfold isLog at hl
 unfold isReplica at ho
 have hlk:m.threads[t.toNat].log.toNat<m.replicas[(ownOf m t).toNat].locks.length:=by omega
 exact⟨_,_,hi,hri,hj,hk,hlk,rfl,thrAt_of hi,rfl,hown,hlog,hA,⟨ht0,ht1,hi,by omega,List.getElem?_eq_getElem hi⟩,⟨by have:=hc.2.1;omega,rfl,rfl,ho.1,ho.2,hri,by omega,List.getElem?_eq_getElem hri⟩,
  ⟨hl.1,hl.2,hj,by omega,List.getElem?_eq_getElem hj⟩,⟨hk,by omega,by omega,List.getElem?_eq_getElem hk⟩,⟨hlk,by omega,by omega,List.getElem?_eq_getElem hlk⟩,by have:=hc.2.2.2.1;have:=hat.2.2;exact wrap_of (by omega) (by omega)⟩

end Go.Ab

namespace Go.Ab

end Go.Ab

namespace Go.Ab

structure StT (T:TH) (m:Machine) (t r:Int):Prop where
 t1:T.get 1=.tree (m.rings.map (encRing true)) true []
 t2:T.get 2=.tree (m.replicas.map (encReplica true)) true []
 t3:T.get 3=.tree (m.threads.map (encThread true)) true []
 t4:T.get 4=.tree (m.history.map encEvent) true []
 t5:T.get 5=.raw [.a (.int .i64 m.config.object),.a (.int .i64 m.config.replicas),.a (.int .i64 m.config.logs),.a (.int .i64 m.config.threads),.a (.int .i64 m.config.slots),.sl 1 [] 0 0 m.rings.length true,.sl 2 [] 0 0 m.replicas.length true,.sl 3 [] 0 0 m.threads.length true,.sl 4 [] 0 0 m.history.length true,.a (.int .i64 t),.a (.int .i64 r)]
 nx:5<T.next

def RowZ (rows ts:List (List AV)):Prop:=(∀ x∈rows,∀ y∈x,okC 7 y=true)∧(rows.map fun row=>row.map (unz 7))=ts
structure DnT (T:TH) (D:Machine) (t r:Int):Prop where
 t1:∃ R L,T.get 1=.tree R true L∧(TO.tree R true L).valid [] 0=true∧RowZ R (D.rings.map (encRing false))
 t2:∃ R L,T.get 2=.tree R true L∧(TO.tree R true L).valid [] 0=true∧RowZ R (D.replicas.map (encReplica false))
 t3:∃ R L,T.get 3=.tree R true L∧(TO.tree R true L).valid [] 0=true∧RowZ R (D.threads.map (encThread false))
 t5:∃ q n1 n2 n3 n4,T.get q=.tree (D.history.map encEvent) true []∧q≠1∧q≠2∧q≠3∧T.get 5=.raw [.a (.int .i64 D.config.object),.a (.int .i64 D.config.replicas),.a (.int .i64 D.config.logs),.a (.int .i64 D.config.threads),.a (.int .i64 D.config.slots),.sl 1 [] 0 0 n1 true,.sl 2 [] 0 0 n2 true,.sl 3 [] 0 0 n3 true,.sl q [] 0 0 n4 true,.a (.int .i64 t),.a (.int .i64 r)]

theorem rowZ_rings (rs:List Ring) (z:Bool):RowZ (rs.map (encRing z)) (rs.map (encRing false)):=⟨okC_ring _ _,by rw[List.map_map,unz_ringF]⟩
theorem rowZ_reps (rs:List Replica) (z:Bool):RowZ (rs.map (encReplica z)) (rs.map (encReplica false)):=⟨okC_rep _ _,by rw[List.map_map,unz_rep]⟩
theorem rowZ_thrs (rs:List Thread) (z:Bool):RowZ (rs.map (encThread z)) (rs.map (encThread false)):=⟨okC_thr _ _,by rw[List.map_map,unz_thr]⟩
theorem StT.dn {T:TH} {m:Machine} {t r:Int} (h:StT T m t r):DnT T m t r:=⟨⟨_,_,h.t1,rfl,rowZ_rings _ _⟩,⟨_,_,h.t2,rfl,rowZ_reps _ _⟩,⟨_,_,h.t3,rfl,rowZ_thrs _ _⟩,⟨4,_,_,_,_,h.t4,by omega,by omega,by omega,h.t5⟩⟩

set_option maxHeartbeats 4000000 in
theorem x_Next (m:Machine) (r g t own:Int) (h:okM m) (hall:thereP m r g) (T:TH) (hT:StT T m t own) (K:TV→TH→Prop)
  (hK:∀ b T',DnT T' (oneM m r g).1 t own→K (.a (.bool b)) T'):CallT tab false 130 [.pt 5 [] 0 0 0,.int .i64 r |> .a,.a (.int .i64 g)] T K:=by
 rw[oneM_yes hall] at hK
 have hA:=at_of h hall
 have hE:=entry_of hA
 have hY:=entry_is hA
 obtain⟨h1,hr,hg⟩:=hall
 have hi:=hA.hr
 have hj:=hA.hg
 have hk:=hA.hc
 have hr0:=hr.1
 have hr1:=hr.2
 have hg0:=hg.1
 have hg1:=hg.2
 have hg2:g<(m.replicas[r.toNat]'hi).cursors.length:=by omega
 have z0:0<m.replicas.length:=by omega
 have z1:0<(m.replicas[r.toNat]'hi).cursors.length:=by omega
 have z2:0<m.rings.length:=by omega
 obtain⟨t1,t2,t3,t4,t5,nx⟩:=hT
 have hq:¬ T.next=0∧¬ T.next=1∧¬ T.next=2∧¬ T.next=3∧¬ T.next=4∧¬ T.next=5:=by omega
 refine CallT.body (F:=m130) rfl rfl rfl rfl ?_
 simp -implicitDefEqProofs[m130,hr0,hr1,hi,hj,hk,hg0,hg1,hg2,z0,z1,z2,t1,t2,t3,t4,t5]
 have gj:=List.getElem?_eq_getElem hj
 have gi:=List.getElem?_eq_getElem hi
 refine CallT.pure (c_Entry m.rings[g.toNat] (m.replicas[r.toNat].cursors[g.toNat]) hA.ol) (by simp[gj,t1,t2,t3,t4,t5]) (ok_slot1 _ _) ?_
 rw[← hE]
 generalize entryAt m r.toNat g.toNat=en at hY hK ⊢
 obtain⟨s,e⟩:=en
 simp -implicitDefEqProofs
 by_cases he:e=0
 ·subst he
  obtain⟨hs,ht0,ht1,hcu⟩:=hY rfl
  dsimp only at hs ht0 ht1 hK
  rw[if_pos rfl] at hK
  have hc3:s.op.code≠3:=by have:=hs.1.2;omega
  have htl:s.thread.toNat<m.threads.length:=by have:=h1.2.1.2.2.1;omega
  have ht2:s.thread<m.threads.length:=by omega
  have z3:0<m.threads.length:=by omega
  have gt:=List.getElem?_eq_getElem htl
  have hcur:=hA.cur
  have w1:IntKind.wrap .i64 (m.replicas[r.toNat].cursors[g.toNat]+1)=m.replicas[r.toNat].cursors[g.toNat]+1:=wrap_of (by omega) (by omega)
  simp -implicitDefEqProofs[hr0,hr1,hi,hj,hk,hg0,hg1,hg2,z0,z1,z2,t1,t2,t3,t4,t5]
  refine CallT.pure (c_objApply m.config.object m.replicas[r.toNat].state s.op hA.os hc3) (by simp[gi,t1,t2,t3,t4,t5]) (ok_st3 _ _ _) ?_
  rw[applyM_yes hA.st hs.1.1]
  rw[nextM_of hA s] at hK
  generalize turnS m.config.object m.replicas[r.toNat].state s.op=tr at hK ⊢
  obtain⟨st2,an⟩:=tr
  by_cases hown:s.thread.tmod m.config.replicas=r
  ·have hown2:s.thread.tmod m.config.replicas=(r.toNat:Int):=by omega
   rw[if_pos hown2,modify_of gt] at hK
   simp -implicitDefEqProofs[hr0,hr1,hi,hj,hk,hg0,hg1,hg2,z0,z1,z2,gi,gj,w1,t1,t2,t3,t4,t5,hq]
   refine CallT.pure (c_cfgReplica m.config s.thread ⟨h1.1,ht0,ht1⟩) rfl rfl ?_
   simp -implicitDefEqProofs[hown,htl,ht2,ht0,z3,gt,t1,t2,t3,t4,t5,hq]
   refine hK true _ ⟨⟨m.rings.map (encRing true),[],by simp[t1,hq],rfl,rowZ_rings _ _⟩,⟨_,_,by rw[TH.get_put,if_neg (by decide),TH.get_put,if_neg (by decide),TH.get_put,if_pos rfl],rfl, ?_⟩,⟨_,_,by rw[TH.get_put,if_pos rfl],rfl, ?_⟩,⟨4,m.rings.length,m.replicas.length,m.threads.length,m.history.length,by simp[t4,hq],by omega,by omega,by omega,by simp[t5,hq]⟩⟩
   ·refine⟨okC_set (okC_rep _ _) (by simp[okC_ints 6,okC_iset 5]), ?_⟩
    rw[List.map_set,List.map_map,unz_rep]
    simp[encReplica,unz_intF]
   ·refine⟨okC_set (okC_thr _ _) (by simp[okC_ints 6,okC,flatV]), ?_⟩
    rw[List.map_set,List.map_map,unz_thr]
    simp[encThread]
  ·have hown2:¬ s.thread.tmod m.config.replicas=(r.toNat:Int):=by omega
   rw[if_neg hown2] at hK
   simp -implicitDefEqProofs[hr0,hr1,hi,hj,hk,hg0,hg1,hg2,z0,z1,z2,gi,gj,w1,t1,t2,t3,t4,t5,hq]
   refine CallT.pure (c_cfgReplica m.config s.thread ⟨h1.1,ht0,ht1⟩) rfl rfl ?_
   simp -implicitDefEqProofs[hown,t1,t2,t3,t4,t5,hq]
   refine hK true _ ⟨⟨m.rings.map (encRing true),[],by simp[t1,hq],rfl,rowZ_rings _ _⟩,⟨_,_,by rw[TH.get_put,if_pos rfl],rfl, ?_⟩,⟨m.threads.map (encThread true),[],by simp[t3,hq],rfl,rowZ_thrs _ _⟩,⟨4,m.rings.length,m.replicas.length,m.threads.length,m.history.length,by simp[t4,hq],by omega,by omega,by omega,by simp[t5,hq]⟩⟩
   refine⟨okC_set (okC_rep _ _) (by simp[okC_ints 6,okC_iset 5]), ?_⟩
   rw[List.map_set,List.map_map,unz_rep]
   simp[encReplica,unz_intF]
 ·rw[if_neg he] at hK
  simp -implicitDefEqProofs[he]
  exact hK _ _ (StT.dn ⟨t1,t2,t3,t4,t5,nx⟩)

end Go.Ab

namespace Go.Ab

theorem ok_ints (xs:List Int):okT (.vs (xs.map encInt) false)=true:=by simp[okT,okP,okC,List.all_map,flatV]
def catS (s:State):List Int:=s.r0++(s.r1++(s.r2++s.r3))

theorem unz7_int:((fun row:List AV=>row.map (unz 7)) ∘ encInt)=encInt:=by funext x;rfl

set_option maxHeartbeats 4000000 in
theorem c_Concat (s:State) (h:s.r0.length+s.r1.length+s.r2.length+s.r3.length≤1048576):PCall tab 207 [.vs [[.vs (s.r0.map encInt) false],[.vs (s.r1.map encInt) false],[.vs (s.r2.map encInt) false],[.vs (s.r3.map encInt) false]] false] (.vs ((catS s).map encInt) false):=by
 obtain⟨r0,r1,r2,r3⟩:=s
 dsimp only[catS] at *
 have w0:IntKind.wrap .i64 (r0.length:Int)=r0.length:=wrap_of (by omega) (by omega)
 have w1:IntKind.wrap .i64 ((r0.length:Int)+r1.length)=(r0.length:Int)+r1.length:=wrap_of (by omega) (by omega)
 have w2:IntKind.wrap .i64 ((r0.length:Int)+r1.length+r2.length)=(r0.length:Int)+r1.length+r2.length:=wrap_of (by omega) (by omega)
 have w3:IntKind.wrap .i64 ((r0.length:Int)+r1.length+r2.length+r3.length)=(r0.length:Int)+r1.length+r2.length+r3.length:=wrap_of (by omega) (by omega)
 have n0:¬ (r0.length:Int)<0:=by omega
 have n1:¬ (r0.length:Int)+r1.length<0:=by omega
 have n2:¬ (r0.length:Int)+r1.length+r2.length<0:=by omega
 have n3:¬ (r0.length:Int)+r1.length+r2.length+r3.length<0:=by omega
 have hW:=And.intro w0 (And.intro w1 (And.intro w2 (And.intro w3 (And.intro n0 (And.intro n1 (And.intro n2 n3))))))
 refine PCall.ofZ (F:=m207) rfl rfl rfl ?_
 simp -implicitDefEqProofs[m207]
 refine WCT.unroll ?_
 simp -implicitDefEqProofs[hW]
 refine WCT.unroll ?_
 simp -implicitDefEqProofs[hW]
 refine WCT.unroll ?_
 simp -implicitDefEqProofs[hW]
 refine WCT.unroll ?_
 simp -implicitDefEqProofs[hW]
 refine WCT.unroll ?_
 simp -implicitDefEqProofs[hW]
 refine CallT.grow rfl ⟨by omega,by omega⟩ (fun hz=>?_) (fun hz=>?_)
 ·obtain rfl:r0=[]:=List.length_eq_zero_iff.1 (by omega)
  obtain rfl:r1=[]:=List.length_eq_zero_iff.1 (by omega)
  obtain rfl:r2=[]:=List.length_eq_zero_iff.1 (by omega)
  obtain rfl:r3=[]:=List.length_eq_zero_iff.1 (by omega)
  simp -implicitDefEqProofs
  refine WCT.unroll ?_
  simp -implicitDefEqProofs[unzT,unzP,okT,okP]
  refine WCT.unroll ?_
  simp -implicitDefEqProofs[unzT,unzP,okT,okP]
  refine WCT.unroll ?_
  simp -implicitDefEqProofs[unzT,unzP,okT,okP]
  refine WCT.unroll ?_
  simp -implicitDefEqProofs[unzT,unzP,okT,okP]
  refine WCT.unroll ?_
  simp -implicitDefEqProofs[unzT,unzP,okT,okP]
 ·clear hW w0 w1 w2 w3 n0 n1 n2 n3
  rcases r0 with _|⟨a,l⟩
  ·rcases r1 with _|⟨a,l⟩
   ·rcases r2 with _|⟨a,l⟩
    ·rcases r3 with _|⟨a,l⟩
     ·simp at hz
     ·simp only[List.length_cons] at h
      have k0:(l.length+1)*8≤140737488355328:=by omega
      simp -implicitDefEqProofs
      refine WCT.unroll ?_
      simp -implicitDefEqProofs[k0]
      refine WCT.unroll ?_
      simp -implicitDefEqProofs[k0]
      refine WCT.unroll ?_
      simp -implicitDefEqProofs[k0]
      refine WCT.unroll ?_
      simp -implicitDefEqProofs[k0]
      refine WCT.unroll ?_
      simp -implicitDefEqProofs[unzT,unzP,okT,okP,unz7_int]
    ·simp only[List.length_cons] at h
     have k0:(l.length+1)*8≤140737488355328:=by omega
     have k1:(l.length+1+r3.length)*8≤140737488355328:=by omega
     simp -implicitDefEqProofs
     refine WCT.unroll ?_
     simp -implicitDefEqProofs[k0,k1]
     refine WCT.unroll ?_
     simp -implicitDefEqProofs[k0,k1]
     refine WCT.unroll ?_
     simp -implicitDefEqProofs[k0,k1]
     refine WCT.unroll ?_
     simp -implicitDefEqProofs[k0,k1]
     refine WCT.unroll ?_
     simp -implicitDefEqProofs[unzT,unzP,okT,okP,unz7_int]
   ·simp only[List.length_cons] at h
    have k0:(l.length+1)*8≤140737488355328:=by omega
    have k1:(l.length+1+r2.length)*8≤140737488355328:=by omega
    have k2:(l.length+1+r2.length+r3.length)*8≤140737488355328:=by omega
    simp -implicitDefEqProofs
    refine WCT.unroll ?_
    simp -implicitDefEqProofs[k0,k1,k2]
    refine WCT.unroll ?_
    simp -implicitDefEqProofs[k0,k1,k2]
    refine WCT.unroll ?_
    simp -implicitDefEqProofs[k0,k1,k2]
    refine WCT.unroll ?_
    simp -implicitDefEqProofs[k0,k1,k2]
    refine WCT.unroll ?_
    simp -implicitDefEqProofs[unzT,unzP,okT,okP,unz7_int]
  ·simp only[List.length_cons] at h
   have k0:(l.length+1)*8≤140737488355328:=by omega
   have k1:(l.length+1+r1.length)*8≤140737488355328:=by omega
   have k2:(l.length+1+r1.length+r2.length)*8≤140737488355328:=by omega
   have k3:(l.length+1+r1.length+r2.length+r3.length)*8≤140737488355328:=by omega
   simp -implicitDefEqProofs
   refine WCT.unroll ?_
   simp -implicitDefEqProofs[k0,k1,k2,k3]
   refine WCT.unroll ?_
   simp -implicitDefEqProofs[k0,k1,k2,k3]
   refine WCT.unroll ?_
   simp -implicitDefEqProofs[k0,k1,k2,k3]
   refine WCT.unroll ?_
   simp -implicitDefEqProofs[k0,k1,k2,k3]
   refine WCT.unroll ?_
   simp -implicitDefEqProofs[unzT,unzP,okT,okP,unz7_int]

theorem catS_len (s:State):((catS s).length:Int)=manyIn s:=by simp[catS,manyIn];omega
theorem row_small {k:Int} {s:State} (h:stateMay k s):s.r0.length+s.r1.length+s.r2.length+s.r3.length≤16:=by
 rcases h with ⟨_,h0,h1,h2,h3⟩|⟨_,h0,h1,h2,h3⟩|⟨_,h0,h1,h2,h3⟩
 ·have:=h0.1;have:=h1.1;have:=h2.1;have:=h3.1;omega
 ·have:=fds_len h0;have:=fds_len h1;have:=fds_len h2;have:=fds_len h3;omega
 ·have:=h0.1;have:=h1.1;have:=h2.1;have:=h3.1;omega

def SmI (xs:List Int) (k:Nat) (E:TE) (T:TH):Prop:=∃ (i:Nat),i+k=xs.length∧E.get 3=.a (.int .i64 (sumW (xs.take i)))∧E.get 6=.a (.vs (xs.map encInt) false)∧E.get 7=.a (.int .i64 xs.length)∧E.get 8=.a (.int .i64 i)
theorem sumW_succ {xs:List Int} {j:Nat} (h:j<xs.length):sumW (xs.take (j+1))=IntKind.wrap .i64 (sumW (xs.take j)+xs[j]):=by
 unfold sumW
 rw[List.take_succ_eq_append_getElem h,List.foldl_append]
 rfl

set_option maxHeartbeats 2000000 in
theorem c_sum (xs:List Int) (h:xs.length≤1048576):PCall tab 206 [.vs (xs.map encInt) false] (.int .i64 (sumW xs)):=by
 refine PCall.of (F:=m206) rfl rfl rfl rfl ?_
 simp -implicitDefEqProofs[m206]
 refine loop_by (SmI xs) ?_ xs.length ⟨0,by simp,by simp[sumW],by simp,by simp,by simp⟩
 rintro k E T ⟨i,hi,e3,e6,e7,e8⟩
 by_cases hlt:i<xs.length
 ·have g1:=List.getElem?_eq_getElem hlt
  have w1:IntKind.wrap .i64 ((i:Int)+1)=(i:Int)+1:=wrap_of (by omega) (by omega)
  simp -implicitDefEqProofs[e3,e6,e7,e8,hlt,g1,w1]
  exact⟨k - 1,by omega,i+1,by omega,by rw[sumW_succ hlt];simp,by simp[e6],by simp[e7],by simp⟩
 ·obtain rfl:i=xs.length:=by omega
  simp -implicitDefEqProofs[e3,e6,e7,e8]

theorem c_Many (s:State) (j:Nat) (h:s.r0.length+s.r1.length+s.r2.length+s.r3.length≤1048576):PCall tab 210 [.vp [encState false s] 0 0] (.int .i64 (manyIn s)):=by
 refine PCall.of (F:=m210) rfl rfl rfl rfl ?_
 simp -implicitDefEqProofs[m210]
 refine CallT.pure (c_Concat s h) (by simp) (ok_ints _) ?_
 simp -implicitDefEqProofs[← catS_len]

end Go.Ab

namespace Go.Ab

@[reducible] def scanOp:Op:=⟨3,0,0⟩
theorem scan_may:opMay scanOp:=by decide

set_option maxHeartbeats 4000000 in
theorem c_storeScan (s:State) (h:okS s) (hq:storeMay s):PCall tab 191 [.agg (encState false s),.agg (encOp scanOp)] (.tup [.agg (encState false s),.int .i64 (sumW (catS s)),.int .i64 0]):=by
 have hs:=row_small (k:=0) (.inl ⟨rfl,hq⟩)
 have hl:(catS s).length≤1048576:=by simp only[catS,List.length_append];omega
 have hC:=c_Concat s (by omega)
 have hS:=c_sum (catS s) hl
 generalize hcat:catS s=xs at hC hS ⊢
 obtain⟨r0,r1,r2,r3⟩:=s
 dsimp only at hC
 refine PCall.ofZ (F:=m191) rfl rfl rfl ?_
 simp -implicitDefEqProofs[m191]
 refine CallT.bool2 (by simp) (c_storeMay ⟨r0,r1,r2,r3⟩ false h) (fun hb=>?_) (fun hb=>absurd hq hb)
 simp -implicitDefEqProofs
 refine CallT.bool2 (by simp) (c_operMay scanOp) (fun hb2=>?_) (fun hb2=>absurd scan_may hb2)
 simp -implicitDefEqProofs
 refine CallT.pure (c_storeCopy ⟨r0,r1,r2,r3⟩ false h) (by simp) (ok_state _) ?_
 clear hb hb2 hq
 rcases r0 with _|⟨x,l⟩
 ·simp -implicitDefEqProofs
  refine CallT.pure hC (by simp) (ok_ints _) ?_
  simp -implicitDefEqProofs
  refine CallT.pure hS (by simp) rfl ?_
  simp -implicitDefEqProofs[unzT,unzP,okT,okP]
 ·simp -implicitDefEqProofs
  refine CallT.pure hC (by simp) (ok_ints _) ?_
  simp -implicitDefEqProofs
  refine CallT.pure hS (by simp) rfl ?_
  simp -implicitDefEqProofs[unzT,unzP,okT,okP]

set_option maxHeartbeats 4000000 in
theorem c_fdsScan (s:State) (h:okS s) (hq:rowsOK fdsRow s):PCall tab 192 [.agg (encState false s),.agg (encOp scanOp)] (.tup [.agg (encState false s),.int .i64 (manyIn s),.int .i64 0]):=by
 have hs:=row_small (k:=1) (.inr (.inl ⟨rfl,hq⟩))
 have hM:=c_Many s 0 (by omega)
 generalize manyIn s=x at hM ⊢
 refine PCall.ofZ (F:=m192) rfl rfl rfl ?_
 simp -implicitDefEqProofs[m192]
 refine CallT.bool2 (by simp) (c_fdsMay s false h) (fun hb=>?_) (fun hb=>absurd hq hb)
 simp -implicitDefEqProofs
 refine CallT.bool2 (by simp) (c_operMay scanOp) (fun hb2=>?_) (fun hb2=>absurd scan_may hb2)
 simp -implicitDefEqProofs
 refine CallT.pure (c_storeCopy s false h) (by simp) (ok_state _) ?_
 simp -implicitDefEqProofs
 refine CallT.pure hM (by simp) rfl ?_
 simp -implicitDefEqProofs[unzT,unzP,okT,okP]

set_option maxHeartbeats 4000000 in
theorem c_queueScan (s:State) (h:okS s) (hq:queueMay s):PCall tab 193 [.agg (encState false s),.agg (encOp scanOp)] (.tup [.agg (encState false s),.int .i64 (manyIn s),.int .i64 0]):=by
 have hs:=row_small (k:=2) (.inr (.inr ⟨rfl,hq⟩))
 have hM:=c_Many s 0 (by omega)
 generalize manyIn s=x at hM ⊢
 refine PCall.ofZ (F:=m193) rfl rfl rfl ?_
 simp -implicitDefEqProofs[m193]
 refine CallT.bool2 (by simp) (c_queueMay s false h) (fun hb=>?_) (fun hb=>absurd hq hb)
 simp -implicitDefEqProofs
 refine CallT.bool2 (by simp) (c_operMay scanOp) (fun hb2=>?_) (fun hb2=>absurd scan_may hb2)
 simp -implicitDefEqProofs
 refine CallT.pure (c_storeCopy s false h) (by simp) (ok_state _) ?_
 simp -implicitDefEqProofs
 refine CallT.pure hM (by simp) rfl ?_
 simp -implicitDefEqProofs[unzT,unzP,okT,okP]

theorem c_scanstore (s:State) (h:okS s) (hq:storeMay s):PCall tab 163 [.agg (encTurn s scanOp)] (.tup [.agg (encState false s),.int .i64 (sumW (catS s)),.int .i64 0]):=by
 have hS:=c_storeScan s h hq
 generalize sumW (catS s)=x at hS ⊢
 refine PCall.ofZ (F:=m163) rfl rfl rfl ?_
 simp -implicitDefEqProofs[m163]
 refine CallT.pure hS (by simp) (ok_st3 _ _ _) ?_
 simp -implicitDefEqProofs[unzT,unzP,okT,okP]
theorem c_scanfds (s:State) (h:okS s) (hq:rowsOK fdsRow s):PCall tab 164 [.agg (encTurn s scanOp)] (.tup [.agg (encState false s),.int .i64 (manyIn s),.int .i64 0]):=by
 have hS:=c_fdsScan s h hq
 generalize manyIn s=x at hS ⊢
 refine PCall.ofZ (F:=m164) rfl rfl rfl ?_
 simp -implicitDefEqProofs[m164]
 refine CallT.pure hS (by simp) (ok_st3 _ _ _) ?_
 simp -implicitDefEqProofs[unzT,unzP,okT,okP]
theorem c_scanqueue (s:State) (h:okS s) (hq:queueMay s):PCall tab 165 [.agg (encTurn s scanOp)] (.tup [.agg (encState false s),.int .i64 (manyIn s),.int .i64 0]):=by
 have hS:=c_queueScan s h hq
 generalize manyIn s=x at hS ⊢
 refine PCall.ofZ (F:=m165) rfl rfl rfl ?_
 simp -implicitDefEqProofs[m165]
 refine CallT.pure hS (by simp) (ok_st3 _ _ _) ?_
 simp -implicitDefEqProofs[unzT,unzP,okT,okP]
def tellS (k:Int) (s:State):Int:=if k=0 then sumW (catS s) else manyIn s
theorem turnS_scan (k:Int) (s:State):turnS k s scanOp=(s,tellS k s):=by simp[turnS,tellS,catS]

set_option maxHeartbeats 2000000 in
theorem c_objScan (k:Int) (s:State) (h:okS s) (hs:stateMay k s):PCall tab 131 [.int .i64 k,.agg (encState false s),.agg (encOp scanOp)] (.tup [.agg (encState false s),.int .i64 (tellS k s),.int .i64 0]):=by
 have hi:objIs k:=by rcases hs with h|h|h<;>(have:=h.1;simp only[objIs];omega)
 refine PCall.ofZ (F:=m131) rfl rfl rfl ?_
 simp -implicitDefEqProofs[m131]
 refine CallT.bool2 rfl (c_objIs k) (fun hb=>?_) (fun hb=>absurd hi hb)
 rcases hs with ⟨rfl,hs⟩|⟨rfl,hs⟩|⟨rfl,hs⟩
 ·have hS:=c_scanstore s h hs
  rw[show tellS 0 s=sumW (catS s) from rfl]
  generalize sumW (catS s)=x at hS ⊢
  simp -implicitDefEqProofs
  refine CallT.pure hS (by simp) (ok_st3 _ _ _) ?_
  simp -implicitDefEqProofs[unzT,unzP,okT,okP]
 ·have hS:=c_scanfds s h hs
  rw[show tellS 1 s=manyIn s from rfl]
  generalize manyIn s=x at hS ⊢
  simp -implicitDefEqProofs
  refine CallT.pure hS (by simp) (ok_st3 _ _ _) ?_
  simp -implicitDefEqProofs[unzT,unzP,okT,okP]
 ·have hS:=c_scanqueue s h hs
  rw[show tellS 2 s=manyIn s from rfl]
  generalize manyIn s=x at hS ⊢
  simp -implicitDefEqProofs
  refine CallT.pure hS (by simp) (ok_st3 _ _ _) ?_
  simp -implicitDefEqProofs[unzT,unzP,okT,okP]

end Go.Ab

namespace Go.Ab

@[reducible] def scanP (m:Machine) (t:Int):Prop:=atP m t∧(thrAt m t.toNat).op.code=3
def fenceX (m:Machine) (t:Int) (x:Thread) (r:Ring):Machine × Int:=
 if (x.tails.length:Int)≠x.log then (noMachine,2200)
 else if r.fence≠0 then (m,0)
 else (setThread (setRing m x.log.toNat { r with fence:=t+1 }) t.toNat fun y=>{ y with tails:=y.tails++[r.tail],log:=if x.log+1=m.config.logs then 0 else x.log+1,step:=if x.log+1=m.config.logs then 18 else y.step },0)
def gatherX (m:Machine) (t:Int) (x:Thread) (c lk:Int):Machine × Int:=
 if (x.tails.length:Int)≠m.config.logs then (noMachine,2200)
 else if c<x.tails.getD x.log.toNat 0 then (if lk=0 then (oneM m (ownOf m t) x.log).1 else m,0)
 else if x.log+1=m.config.logs then (setThread m t.toNat fun y=>{ y with answer:=tellS m.config.object (stAt m (ownOf m t).toNat),log:=0,step:=19 },0)
 else (setThread m t.toNat fun y=>{ y with log:=x.log+1 },0)
def openX (m:Machine) (t:Int) (x:Thread) (r:Ring):Machine × Int:=
 if x.log+1=m.config.logs then finishM (setRing m x.log.toNat { r with fence:=0 }) t 2200
 else (setThread (setRing m x.log.toNat { r with fence:=0 }) t.toNat fun y=>{ y with log:=x.log+1 },0)
def scanX (m:Machine) (t:Int) (x:Thread) (r:Ring) (c lk:Int) (s:Int):Machine × Int:=
 if s=17 then fenceX m t x r else if s=18 then gatherX m t x c lk else if s=19 then openX m t x r else (noMachine,2200)
def scanM (m:Machine) (t:Int):Machine × Int:=if scanP m t then scanX m t (thrAt m t.toNat) (ownRing m t) (ownCur m t) (ownLock m t) (thrAt m t.toNat).step else (noMachine,2200)
theorem scanM_yes {m:Machine} {t:Int} (h:scanP m t):scanM m t=scanX m t (thrAt m t.toNat) (ownRing m t) (ownCur m t) (ownLock m t) (thrAt m t.toNat).step:=if_pos h
theorem scanM_no {m:Machine} {t:Int} (h:¬ scanP m t):scanM m t=(noMachine,2200):=if_neg h
theorem scan_err (m:Machine) (t:Int) (he:¬ (scanM m t).2=0):scanM m t=(noMachine,2200):=by
 by_cases hl:scanP m t
 ·rw[scanM_yes hl] at he ⊢
  revert he
  unfold scanX fenceX gatherX openX finishM
  repeat' split
  all_goals first|(intro he;exact absurd rfl he)|(intro _;rfl)
 ·exact scanM_no hl

end Go.Ab

namespace Go.Ab

theorem ringThr22 {m:Machine} {g:Nat} {t:Int} (hg:g<m.rings.length) (hi:t.toNat<m.threads.length) (R:Ring) (f:Thread→Thread):setThread (setRing m g R) t.toNat f={ m with rings:=m.rings.set g R,threads:=m.threads.set t.toNat (f m.threads[t.toNat]) }:=by
 rw[setRing_of hg];exact setThread_of (m:={ m with rings:=m.rings.set g R }) hi f

theorem sZ (l:List Thread) (i:Nat):(l.map (encThread true)).set i [.int .i64 0,.int .i64 0,.int .i64 0,.int .i64 0,.int .i64 0,.int .i64 0,.vs [] true,.int .i64 0,.bool false,.bool false,.int .i64 0,.vs [] true]=(l.set i idle0).map (encThread true):=by rw[List.map_set];rfl

structure DnH (T:TH) (D:Machine) (t r:Int):Prop where
 t1:∃ R L,T.get 1=.tree R true L∧(TO.tree R true L).valid [] 0=true∧RowZ R (D.rings.map (encRing false))
 t2:∃ R L,T.get 2=.tree R true L∧(TO.tree R true L).valid [] 0=true∧RowZ R (D.replicas.map (encReplica false))
 t3:∃ R L,T.get 3=.tree R true L∧(TO.tree R true L).valid [] 0=true∧RowZ R (D.threads.map (encThread false))
 t5:∃ q g L n1 n2 n3 n4,T.get q=.tree (D.history.map encEvent) true L∧(TO.tree (D.history.map encEvent) true L).valid [] g=true∧q≠1∧q≠2∧q≠3∧T.get 5=.raw [.a (.int .i64 D.config.object),.a (.int .i64 D.config.replicas),.a (.int .i64 D.config.logs),.a (.int .i64 D.config.threads),.a (.int .i64 D.config.slots),.sl 1 [] 0 0 n1 true,.sl 2 [] 0 0 n2 true,.sl 3 [] 0 0 n3 true,.sl q [] g 0 n4 true,.a (.int .i64 t),.a (.int .i64 r)]
theorem DnT.h {T:TH} {D:Machine} {t r:Int} (h:DnT T D t r):DnH T D t r:=by
 obtain⟨t1,t2,t3,⟨q,n1,n2,n3,n4,t4,q1,q2,q3,t5⟩⟩:=h
 exact⟨t1,t2,t3,⟨q,0,[],n1,n2,n3,n4,t4,rfl,q1,q2,q3,t5⟩⟩

set_option maxRecDepth 20000 in
set_option maxHeartbeats 8000000 in
theorem x_fence (m:Machine) (t:Int) (h:okM m) (hl:scanP m t) (T:TH) (hT:StT T m t (ownOf m t)) (K:TV→TH→Prop) (hyes:(fenceX m t (thrAt m t.toNat) (ownRing m t)).2=0→∀ T1,DnH T1 (fenceX m t (thrAt m t.toNat) (ownRing m t)).1 t (ownOf m t)→K (.a (.bool true)) T1) (hno:¬ (fenceX m t (thrAt m t.toNat) (ownRing m t)).2=0→∀ T1,K (.a (.bool false)) T1):CallT tab false 38 [.ag [.pt 5 [] 0 0 0]] T K:=by
 obtain⟨hat,hcode⟩:=hl
 obtain⟨r,log,hi,hri,hj,hk,hlk,hrm,et,hlg,hown,hlog,hA,hF⟩:=wk h hat
 have h1:=hat.1
 have hc:=h1.1
 have hn:=h1.2.1
 have ht0:=hat.2.1
 have ht1:=hF.1.2.1
 have hl1:=hc.2.2.1
 have hl2:(m.rings.length:Int)=m.config.logs:=hn.1
 have wl:IntKind.wrap .i64 (log+1)=log+1:=wrap_of (by have:=hlog.1;omega) (by have:=hlog.2;omega)
 have nl:¬ m.config.logs=0:=by omega
 have hF:=And.intro hF (And.intro wl nl)
 have hT0:=hT
 obtain⟨t1,t2,t3,t4,t5,nx⟩:=hT
 rw[hrm] at t5 hT0
 have hn0:¬ T.next=0∧¬ T.next=1∧¬ T.next=2∧¬ T.next=3∧¬ T.next=4∧¬ T.next=5∧¬ 1=T.next∧¬ 2=T.next∧¬ 3=T.next:=by omega
 have hF:=And.intro hF (And.intro t1 (And.intro t2 (And.intro t3 (And.intro t4 (And.intro t5 hn0)))))
 rw[show ownRing m t=m.rings[log.toNat] by unfold ownRing;rw[et,hlg];exact ringAt_of hj,et] at hyes hno
 obtain⟨D,hD⟩:∃ D,fenceX m t m.threads[t.toNat] m.rings[log.toNat]=D:=⟨_,rfl⟩
 rw[hD] at hyes hno
 unfold fenceX at hD
 rw[hlg] at hD
 by_cases tl:(m.threads[t.toNat].tails.length:Int)=log
 ·rw[if_neg (not_not_intro tl)] at hD
  by_cases hf:m.rings[log.toNat].fence=0
  ·have bf:(m.rings[log.toNat].fence != 0)=false:=by simp[hf]
   have rm:(m.threads[t.toNat].tails.length+1)*8≤140737488355328:=by have:=hlog.2;omega
   rw[if_neg (not_not_intro hf),ringThr22 hj hi] at hD
   obtain⟨ts,hts⟩:∃ ts,m.threads[t.toNat].tails++[m.rings[log.toNat].tail]=ts:=⟨_,rfl⟩
   have kts:List.map encInt m.threads[t.toNat].tails++[[AV.int .i64 m.rings[log.toNat].tail]]=List.map encInt ts:=by rw[← hts];simp
   by_cases e:log+1=m.config.logs
   ·have tm:Int.tmod (log+1) m.config.logs=0:=by rw[e];exact Int.tmod_self
    simp only[if_pos e,hts] at hD
    subst hD
    refine CallT.body (F:=m38) rfl rfl rfl rfl ?_
    simp -implicitDefEqProofs[m38,hF,sT,sR,sP,sI,-List.map_set,tl,bf,rm,tm,kts]
    refine CallT.bodyQ (F:=m86) rfl rfl rfl rfl rfl ?_
    simp -implicitDefEqProofs[m86,hF,sT,sR,sP,sI,-List.map_set,tl,bf,rm,tm,kts]
    refine CallT.bodyQ (F:=m36) rfl rfl rfl rfl rfl ?_
    simp -implicitDefEqProofs[m36,hF,sT,sR,sP,sI,-List.map_set,tl,bf,rm,tm,kts]
    refine CallT.bodyQ (F:=m36) rfl rfl rfl rfl rfl ?_
    simp -implicitDefEqProofs[m36,hF,sT,sR,sP,sI,-List.map_set,tl,bf,rm,tm,kts]
    refine CallT.body (F:=m87) rfl rfl rfl rfl ?_
    simp -implicitDefEqProofs[m87,hF,sT,sR,sP,sI,-List.map_set,tl,bf,rm,tm,kts]
    refine CallT.bodyQ (F:=m36) rfl rfl rfl rfl rfl ?_
    simp -implicitDefEqProofs[m36,hF,sT,sR,sP,sI,-List.map_set,tl,bf,rm,tm,kts]
    refine CallT.body (F:=m88) rfl rfl rfl rfl ?_
    simp -implicitDefEqProofs[m88,hF,sT,sR,sP,sI,-List.map_set,tl,bf,rm,tm,kts]
    refine CallT.bodyQ (F:=m36) rfl rfl rfl rfl rfl ?_
    simp -implicitDefEqProofs[m36,hF,sT,sR,sP,sI,-List.map_set,tl,bf,rm,tm,kts]
    exact hyes rfl _ ⟨⟨_,[],by simp[t1,hn0,sR,-List.map_set],rfl,rowZ_rings _ true⟩,⟨_,[],by simp[t2,hn0],rfl,rowZ_reps _ true⟩,⟨_,[[(t.toNat,11)]],by simp[t3,hn0,hlg,sT,-List.map_set],rfl,rowZ_thrs _ true⟩,⟨4,0,[],m.rings.length,m.replicas.length,m.threads.length,m.history.length,by simp[t4,hn0],rfl,by omega,by omega,by omega,by simp[t5,hn0,hrm]⟩⟩
   ·have tm:Int.tmod (log+1) m.config.logs=log+1:=Int.tmod_eq_of_lt (by have:=hlog.1;omega) (by have:=hlog.2;omega)
    have bz:(log+1==0)=false:=by have:=hlog.1;simp;omega
    simp only[if_neg e,hts] at hD
    subst hD
    refine CallT.body (F:=m38) rfl rfl rfl rfl ?_
    simp -implicitDefEqProofs[m38,hF,sT,sR,sP,sI,-List.map_set,tl,bf,rm,tm,kts,bz]
    refine CallT.bodyQ (F:=m86) rfl rfl rfl rfl rfl ?_
    simp -implicitDefEqProofs[m86,hF,sT,sR,sP,sI,-List.map_set,tl,bf,rm,tm,kts,bz]
    refine CallT.bodyQ (F:=m36) rfl rfl rfl rfl rfl ?_
    simp -implicitDefEqProofs[m36,hF,sT,sR,sP,sI,-List.map_set,tl,bf,rm,tm,kts,bz]
    refine CallT.bodyQ (F:=m36) rfl rfl rfl rfl rfl ?_
    simp -implicitDefEqProofs[m36,hF,sT,sR,sP,sI,-List.map_set,tl,bf,rm,tm,kts,bz]
    refine CallT.body (F:=m87) rfl rfl rfl rfl ?_
    simp -implicitDefEqProofs[m87,hF,sT,sR,sP,sI,-List.map_set,tl,bf,rm,tm,kts,bz]
    refine CallT.bodyQ (F:=m36) rfl rfl rfl rfl rfl ?_
    simp -implicitDefEqProofs[m36,hF,sT,sR,sP,sI,-List.map_set,tl,bf,rm,tm,kts,bz]
    exact hyes rfl _ ⟨⟨_,[],by simp[t1,hn0,sR,-List.map_set],rfl,rowZ_rings _ true⟩,⟨_,[],by simp[t2,hn0],rfl,rowZ_reps _ true⟩,⟨_,[[(t.toNat,11)]],by simp[t3,hn0,hlg,sT,-List.map_set],rfl,rowZ_thrs _ true⟩,⟨4,0,[],m.rings.length,m.replicas.length,m.threads.length,m.history.length,by simp[t4,hn0],rfl,by omega,by omega,by omega,by simp[t5,hn0,hrm]⟩⟩
  ·have bf:(m.rings[log.toNat].fence != 0)=true:=by simp[hf]
   rw[if_pos hf] at hD
   subst hD
   refine CallT.body (F:=m38) rfl rfl rfl rfl ?_
   simp -implicitDefEqProofs[m38,hF,sT,sR,sP,sI,-List.map_set,tl,bf]
   refine CallT.bodyQ (F:=m86) rfl rfl rfl rfl rfl ?_
   simp -implicitDefEqProofs[m86,hF,sT,sR,sP,sI,-List.map_set,tl,bf]
   refine CallT.bodyQ (F:=m36) rfl rfl rfl rfl rfl ?_
   simp -implicitDefEqProofs[m36,hF,sT,sR,sP,sI,-List.map_set,tl,bf]
   refine CallT.bodyQ (F:=m36) rfl rfl rfl rfl rfl ?_
   simp -implicitDefEqProofs[m36,hF,sT,sR,sP,sI,-List.map_set,tl,bf]
   exact hyes rfl _ (DnT.h (hrm ▸ hT0.dn))
 ·have bt:((m.threads[t.toNat].tails.length:Int) != log)=true:=by simp[tl]
  rw[if_pos tl] at hD
  subst hD
  refine CallT.body (F:=m38) rfl rfl rfl rfl ?_
  simp -implicitDefEqProofs[m38,hF,sT,sR,sP,sI,-List.map_set,tl,bt]
  refine CallT.bodyQ (F:=m86) rfl rfl rfl rfl rfl ?_
  simp -implicitDefEqProofs[m86,hF,sT,sR,sP,sI,-List.map_set,tl,bt]
  refine CallT.bodyQ (F:=m36) rfl rfl rfl rfl rfl ?_
  simp -implicitDefEqProofs[m36,hF,sT,sR,sP,sI,-List.map_set,tl,bt]
  refine CallT.bodyQ (F:=m36) rfl rfl rfl rfl rfl ?_
  simp -implicitDefEqProofs[m36,hF,sT,sR,sP,sI,-List.map_set,tl,bt]
  exact hno (by decide) _

set_option maxRecDepth 20000 in
set_option maxHeartbeats 8000000 in
theorem x_open (m:Machine) (t:Int) (h:okM m) (hl:scanP m t) (T:TH) (hT:StT T m t (ownOf m t)) (K:TV→TH→Prop) (hyes:(openX m t (thrAt m t.toNat) (ownRing m t)).2=0→∀ T1,DnH T1 (openX m t (thrAt m t.toNat) (ownRing m t)).1 t (ownOf m t)→K (.a (.bool true)) T1) (hno:¬ (openX m t (thrAt m t.toNat) (ownRing m t)).2=0→∀ T1,K (.a (.bool false)) T1):CallT tab false 40 [.ag [.pt 5 [] 0 0 0]] T K:=by
 obtain⟨hat,hcode⟩:=hl
 obtain⟨r,log,hi,hri,hj,hk,hlk,hrm,et,hlg,hown,hlog,hA,hF⟩:=wk h hat
 have h1:=hat.1
 have hc:=h1.1
 have hn:=h1.2.1
 have ht0:=hat.2.1
 have ht1:=hF.1.2.1
 have hl1:=hc.2.2.1
 have hl2:(m.rings.length:Int)=m.config.logs:=hn.1
 have wl:IntKind.wrap .i64 (log+1)=log+1:=wrap_of (by have:=hlog.1;omega) (by have:=hlog.2;omega)
 have nl:¬ m.config.logs=0:=by omega
 have hF:=And.intro hF (And.intro wl nl)
 have hT0:=hT
 obtain⟨t1,t2,t3,t4,t5,nx⟩:=hT
 rw[hrm] at t5 hT0
 have hn0:¬ T.next=0∧¬ T.next=1∧¬ T.next=2∧¬ T.next=3∧¬ T.next=4∧¬ T.next=5∧¬ 1=T.next∧¬ 2=T.next∧¬ 3=T.next:=by omega
 have hF:=And.intro hF (And.intro t1 (And.intro t2 (And.intro t3 (And.intro t4 (And.intro t5 hn0)))))
 rw[show ownRing m t=m.rings[log.toNat] by unfold ownRing;rw[et,hlg];exact ringAt_of hj,et] at hyes hno
 obtain⟨D,hD⟩:∃ D,openX m t m.threads[t.toNat] m.rings[log.toNat]=D:=⟨_,rfl⟩
 rw[hD] at hyes hno
 unfold openX at hD
 rw[hlg] at hD
 by_cases e:log+1=m.config.logs
 ·have tm:Int.tmod (log+1) m.config.logs=0:=by rw[e];exact Int.tmod_self
  rw[if_pos e,setRing_of hj] at hD
  by_cases hh:64≤m.history.length
  ·have hh2:(64:Int)≤m.history.length:=by omega
   rw[show ∀ M:Machine,M.history=m.history→finishM M t 2200=(noMachine,2200) from fun M hM=>if_pos (by rw[hM];exact hh)] at hD
   ·subst hD
    refine CallT.body (F:=m40) rfl rfl rfl rfl ?_
    simp -implicitDefEqProofs[m40,hF,sT,sR,sP,sI,-List.map_set,tm,hh2]
    refine CallT.bodyQ (F:=m86) rfl rfl rfl rfl rfl ?_
    simp -implicitDefEqProofs[m86,hF,sT,sR,sP,sI,-List.map_set,tm,hh2]
    refine CallT.bodyQ (F:=m36) rfl rfl rfl rfl rfl ?_
    simp -implicitDefEqProofs[m36,hF,sT,sR,sP,sI,-List.map_set,tm,hh2]
    refine CallT.body (F:=m87) rfl rfl rfl rfl ?_
    simp -implicitDefEqProofs[m87,hF,sT,sR,sP,sI,-List.map_set,tm,hh2]
    refine CallT.bodyQ (F:=m36) rfl rfl rfl rfl rfl ?_
    simp -implicitDefEqProofs[m36,hF,sT,sR,sP,sI,-List.map_set,tm,hh2]
    refine CallT.body (F:=m93) rfl rfl rfl rfl ?_
    simp -implicitDefEqProofs[m93,hF,sT,sR,sP,sI,-List.map_set,tm,hh2]
    exact hno (by decide) _
   ·rfl
  ·have hh2:¬ (64:Int)≤m.history.length:=by omega
   have hb48:(m.history.length+1)*48≤140737488355328:=by omega
   rw[show ∀ M:Machine,M.history=m.history→finishM M t 2200=(doneM M t,0) from fun M hM=>if_neg (by rw[hM];exact hh)] at hD
   ·rw[doneM_of (m:={ m with rings:=m.rings.set log.toNat { m.rings[log.toNat] with fence:=0 } }) hi] at hD
    subst hD
    refine CallT.body (F:=m40) rfl rfl rfl rfl ?_
    simp -implicitDefEqProofs[m40,hF,sT,sR,sP,sI,-List.map_set,tm,hh2,hb48]
    refine CallT.bodyQ (F:=m86) rfl rfl rfl rfl rfl ?_
    simp -implicitDefEqProofs[m86,hF,sT,sR,sP,sI,-List.map_set,tm,hh2,hb48]
    refine CallT.bodyQ (F:=m36) rfl rfl rfl rfl rfl ?_
    simp -implicitDefEqProofs[m36,hF,sT,sR,sP,sI,-List.map_set,tm,hh2,hb48]
    refine CallT.body (F:=m87) rfl rfl rfl rfl ?_
    simp -implicitDefEqProofs[m87,hF,sT,sR,sP,sI,-List.map_set,tm,hh2,hb48]
    refine CallT.bodyQ (F:=m36) rfl rfl rfl rfl rfl ?_
    simp -implicitDefEqProofs[m36,hF,sT,sR,sP,sI,-List.map_set,tm,hh2,hb48]
    refine CallT.body (F:=m93) rfl rfl rfl rfl ?_
    simp -implicitDefEqProofs[m93,hF,sT,sR,sP,sI,-List.map_set,tm,hh2,hb48]
    refine CallT.bodyQ (F:=m36) rfl rfl rfl rfl rfl ?_
    simp -implicitDefEqProofs[m36,hF,sT,sR,sP,sI,-List.map_set,tm,hh2,hb48]
    refine hyes rfl _ ⟨⟨_,[],by simp[t1,hn0,sR,-List.map_set],rfl,rowZ_rings _ true⟩,⟨_,[],by simp[t2,hn0],rfl,rowZ_reps _ true⟩,⟨_,[[(t.toNat,11)],[(t.toNat,6)]],by simp[t3,hn0,hlg,sT,sZ,-List.map_set],rfl,rowZ_thrs _ true⟩,⟨4,1,[[]],m.rings.length,m.replicas.length,m.threads.length,m.history.length+1,by simp[t4,hn0],rfl,by omega,by omega,by omega,by simp[t5,hn0,hrm]⟩⟩
   ·rfl
 ·have tm:Int.tmod (log+1) m.config.logs=log+1:=Int.tmod_eq_of_lt (by have:=hlog.1;omega) (by have:=hlog.2;omega)
  have bz:(log+1==0)=false:=by have:=hlog.1;simp;omega
  rw[if_neg e,ringThr22 hj hi] at hD
  subst hD
  refine CallT.body (F:=m40) rfl rfl rfl rfl ?_
  simp -implicitDefEqProofs[m40,hF,sT,sR,sP,sI,-List.map_set,tm,bz]
  refine CallT.bodyQ (F:=m86) rfl rfl rfl rfl rfl ?_
  simp -implicitDefEqProofs[m86,hF,sT,sR,sP,sI,-List.map_set,tm,bz]
  refine CallT.bodyQ (F:=m36) rfl rfl rfl rfl rfl ?_
  simp -implicitDefEqProofs[m36,hF,sT,sR,sP,sI,-List.map_set,tm,bz]
  refine CallT.body (F:=m87) rfl rfl rfl rfl ?_
  simp -implicitDefEqProofs[m87,hF,sT,sR,sP,sI,-List.map_set,tm,bz]
  refine CallT.bodyQ (F:=m36) rfl rfl rfl rfl rfl ?_
  simp -implicitDefEqProofs[m36,hF,sT,sR,sP,sI,-List.map_set,tm,bz]
  exact hyes rfl _ ⟨⟨_,[],by simp[t1,hn0,sR,-List.map_set],rfl,rowZ_rings _ true⟩,⟨_,[],by simp[t2,hn0],rfl,rowZ_reps _ true⟩,⟨_,[],by simp[t3,hn0,hlg,sT,-List.map_set],rfl,rowZ_thrs _ true⟩,⟨4,0,[],m.rings.length,m.replicas.length,m.threads.length,m.history.length,by simp[t4,hn0],rfl,by omega,by omega,by omega,by simp[t5,hn0,hrm]⟩⟩

set_option maxRecDepth 20000 in
set_option maxHeartbeats 8000000 in
theorem x_gather (m:Machine) (t:Int) (h:okM m) (hl:scanP m t) (T:TH) (hT:StT T m t (ownOf m t)) (K:TV→TH→Prop) (hyes:(gatherX m t (thrAt m t.toNat) (ownCur m t) (ownLock m t)).2=0→∀ T1,DnH T1 (gatherX m t (thrAt m t.toNat) (ownCur m t) (ownLock m t)).1 t (ownOf m t)→K (.a (.bool true)) T1) (hno:¬ (gatherX m t (thrAt m t.toNat) (ownCur m t) (ownLock m t)).2=0→∀ T1,K (.a (.bool false)) T1):CallT tab false 39 [.ag [.pt 5 [] 0 0 0]] T K:=by
 obtain⟨hat,hcode⟩:=hl
 obtain⟨r,log,hi,hri,hj,hk,hlk,hrm,et,hlg,hown,hlog,hA,hF⟩:=wk h hat
 have h1:=hat.1
 have hc:=h1.1
 have hn:=h1.2.1
 have ht0:=hat.2.1
 have ht1:=hF.1.2.1
 have hl1:=hc.2.2.1
 have hl2:(m.rings.length:Int)=m.config.logs:=hn.1
 have wl:IntKind.wrap .i64 (log+1)=log+1:=wrap_of (by have:=hlog.1;omega) (by have:=hlog.2;omega)
 have nl:¬ m.config.logs=0:=by omega
 have hF:=And.intro hF (And.intro wl nl)
 have hT0:=hT
 obtain⟨t1,t2,t3,t4,t5,nx⟩:=hT
 rw[hrm] at t5 hT0
 have hn0:¬ T.next=0∧¬ T.next=1∧¬ T.next=2∧¬ T.next=3∧¬ T.next=4∧¬ T.next=5∧¬ 1=T.next∧¬ 2=T.next∧¬ 3=T.next:=by omega
 have hF:=And.intro hF (And.intro t1 (And.intro t2 (And.intro t3 (And.intro t4 (And.intro t5 hn0)))))
 have elk:lockAt m r.toNat log.toNat=m.replicas[r.toNat].locks[log.toNat]:=by simp[lockAt,hri,hlk]
 rw[show ownCur m t=m.replicas[r.toNat].cursors[log.toNat] by unfold ownCur;rw[et,hlg,hrm];exact curAt_of hA,show ownLock m t=m.replicas[r.toNat].locks[log.toNat] by unfold ownLock;rw[et,hlg,hrm];exact elk,et] at hyes hno
 obtain⟨D,hD⟩:∃ D,gatherX m t m.threads[t.toNat] m.replicas[r.toNat].cursors[log.toNat] m.replicas[r.toNat].locks[log.toNat]=D:=⟨_,rfl⟩
 rw[hD] at hyes hno
 unfold gatherX at hD
 rw[hlg,hrm] at hD
 by_cases tl:(m.threads[t.toNat].tails.length:Int)=m.config.logs
 ·rw[if_neg (not_not_intro tl)] at hD
  have hl3:log<m.config.logs:=by have:=hlog.2;omega
  have hti:log.toNat<m.threads[t.toNat].tails.length:=by have:=hlog.1;omega
  have hti2:log<(m.threads[t.toNat].tails.length:Int):=by omega
  have gti:=List.getElem?_eq_getElem hti
  have zti:0<m.threads[t.toNat].tails.length:=by omega
  rw[show m.threads[t.toNat].tails.getD log.toNat 0=m.threads[t.toNat].tails[log.toNat] by rw[List.getD_eq_getElem?_getD,gti];rfl] at hD
  have hF:=And.intro hF (And.intro tl (And.intro hl3 (And.intro hti (And.intro gti zti))))
  by_cases hcu:m.replicas[r.toNat].cursors[log.toNat]<m.threads[t.toNat].tails[log.toNat]
  ·rw[if_pos hcu] at hD
   by_cases hf:m.replicas[r.toNat].locks[log.toNat]=0
   ·rw[if_pos hf] at hD
    subst hD
    refine CallT.body (F:=m39) rfl rfl rfl rfl ?_
    simp -implicitDefEqProofs[m39,hF,sT,sR,sP,sI,-List.map_set,hcu,hf]
    refine CallT.bodyQ (F:=m36) rfl rfl rfl rfl rfl ?_
    simp -implicitDefEqProofs[m36,hF,sT,sR,sP,sI,-List.map_set,hcu,hf]
    refine CallT.bodyQ (F:=m89) rfl rfl rfl rfl rfl ?_
    simp -implicitDefEqProofs[m89,hF,sT,sR,sP,sI,-List.map_set,hcu,hf]
    refine CallT.bodyQ (F:=m36) rfl rfl rfl rfl rfl ?_
    simp -implicitDefEqProofs[m36,hF,sT,sR,sP,sI,-List.map_set,hcu,hf]
    refine CallT.bodyQ (F:=m90) rfl rfl rfl rfl rfl ?_
    simp -implicitDefEqProofs[m90,hF,sT,sR,sP,sI,-List.map_set,hcu,hf]
    refine CallT.bodyQ (F:=m36) rfl rfl rfl rfl rfl ?_
    simp -implicitDefEqProofs[m36,hF,sT,sR,sP,sI,-List.map_set,hcu,hf]
    refine CallT.body (F:=m91) rfl rfl rfl rfl ?_
    simp -implicitDefEqProofs[m91,hF,sT,sR,sP,sI,-List.map_set,hcu,hf]
    refine CallT.bodyQ (F:=m36) rfl rfl rfl rfl rfl ?_
    simp -implicitDefEqProofs[m36,hF,sT,sR,sP,sI,-List.map_set,hcu,hf]
    refine x_Next m r log t r h ⟨h1,hown,hlog⟩ _ ⟨by simp[t1,hn0],by simp[t2,hn0],by simp[t3,hn0],by simp[t4,hn0],by simp[t5,hn0,hrm],nx⟩ _ (fun b T1 hd=>?_)
    simp -implicitDefEqProofs
    exact hyes rfl _ (DnT.h (hrm ▸ hd))
   ·rw[if_neg hf] at hD
    subst hD
    refine CallT.body (F:=m39) rfl rfl rfl rfl ?_
    simp -implicitDefEqProofs[m39,hF,sT,sR,sP,sI,-List.map_set,hcu,hf]
    refine CallT.bodyQ (F:=m36) rfl rfl rfl rfl rfl ?_
    simp -implicitDefEqProofs[m36,hF,sT,sR,sP,sI,-List.map_set,hcu,hf]
    refine CallT.bodyQ (F:=m89) rfl rfl rfl rfl rfl ?_
    simp -implicitDefEqProofs[m89,hF,sT,sR,sP,sI,-List.map_set,hcu,hf]
    refine CallT.bodyQ (F:=m36) rfl rfl rfl rfl rfl ?_
    simp -implicitDefEqProofs[m36,hF,sT,sR,sP,sI,-List.map_set,hcu,hf]
    refine CallT.bodyQ (F:=m90) rfl rfl rfl rfl rfl ?_
    simp -implicitDefEqProofs[m90,hF,sT,sR,sP,sI,-List.map_set,hcu,hf]
    refine CallT.bodyQ (F:=m36) rfl rfl rfl rfl rfl ?_
    simp -implicitDefEqProofs[m36,hF,sT,sR,sP,sI,-List.map_set,hcu,hf]
    exact hyes rfl _ (DnT.h (hrm ▸ hT0.dn))
  ·rw[if_neg hcu] at hD
   by_cases e:log+1=m.config.logs
   ·have tm:Int.tmod (log+1) m.config.logs=0:=by rw[e];exact Int.tmod_self
    rw[et] at hcode
    have hop:m.threads[t.toNat].op=scanOp:=by
     have ho:=(h1.2.2.2.2.1 _ (List.getElem_mem hi)).1.2.2.1.2.2.2.2
     obtain⟨a1,a2⟩:m.threads[t.toNat].op.arg=0∧m.threads[t.toNat].op.row=0:=by omega
     generalize m.threads[t.toNat].op=o at *
     obtain⟨x1,x2,x3⟩:=o
     simp_all
    have hO:=c_objScan m.config.object m.replicas[r.toNat].state hA.os hA.st
    rw[← hop] at hO
    rw[if_pos e,setThread_of hi,stAt_of hA] at hD
    generalize tellS m.config.object m.replicas[r.toNat].state=an at hO hD
    subst hD
    refine CallT.body (F:=m39) rfl rfl rfl rfl ?_
    simp -implicitDefEqProofs[m39,hF,sT,sR,sP,sI,-List.map_set,hcu,tm]
    refine CallT.bodyQ (F:=m36) rfl rfl rfl rfl rfl ?_
    simp -implicitDefEqProofs[m36,hF,sT,sR,sP,sI,-List.map_set,hcu,tm]
    refine CallT.bodyQ (F:=m89) rfl rfl rfl rfl rfl ?_
    simp -implicitDefEqProofs[m89,hF,sT,sR,sP,sI,-List.map_set,hcu,tm]
    refine CallT.bodyQ (F:=m36) rfl rfl rfl rfl rfl ?_
    simp -implicitDefEqProofs[m36,hF,sT,sR,sP,sI,-List.map_set,hcu,tm]
    refine CallT.body (F:=m87) rfl rfl rfl rfl ?_
    simp -implicitDefEqProofs[m87,hF,sT,sR,sP,sI,-List.map_set,hcu,tm]
    refine CallT.bodyQ (F:=m36) rfl rfl rfl rfl rfl ?_
    simp -implicitDefEqProofs[m36,hF,sT,sR,sP,sI,-List.map_set,hcu,tm]
    refine CallT.body (F:=m88) rfl rfl rfl rfl ?_
    simp -implicitDefEqProofs[m88,hF,sT,sR,sP,sI,-List.map_set,hcu,tm]
    refine CallT.bodyQ (F:=m36) rfl rfl rfl rfl rfl ?_
    simp -implicitDefEqProofs[m36,hF,sT,sR,sP,sI,-List.map_set,hcu,tm]
    refine CallT.body (F:=m92) rfl rfl rfl rfl ?_
    simp -implicitDefEqProofs[m92,hF,sT,sR,sP,sI,-List.map_set,hcu,tm]
    refine CallT.bodyQ (F:=m36) rfl rfl rfl rfl rfl ?_
    simp -implicitDefEqProofs[m36,hF,sT,sR,sP,sI,-List.map_set,hcu,tm]
    refine CallT.pure hO (by simp[hF]) (ok_st3 _ _ _) ?_
    simp -implicitDefEqProofs[hF,sT,-List.map_set]
    exact hyes rfl _ ⟨⟨_,[],by simp[t1,hn0,sR,-List.map_set],rfl,rowZ_rings _ true⟩,⟨_,[],by simp[t2,hn0],rfl,rowZ_reps _ true⟩,⟨_,[],by simp[t3,hn0,hlg,sT,-List.map_set],rfl,rowZ_thrs _ true⟩,⟨4,0,[],m.rings.length,m.replicas.length,m.threads.length,m.history.length,by simp[t4,hn0],rfl,by omega,by omega,by omega,by simp[t5,hn0,hrm]⟩⟩
   ·have tm:Int.tmod (log+1) m.config.logs=log+1:=Int.tmod_eq_of_lt (by have:=hlog.1;omega) (by have:=hlog.2;omega)
    have bz:(log+1==0)=false:=by have:=hlog.1;simp;omega
    rw[if_neg e,setThread_of hi] at hD
    subst hD
    refine CallT.body (F:=m39) rfl rfl rfl rfl ?_
    simp -implicitDefEqProofs[m39,hF,sT,sR,sP,sI,-List.map_set,hcu,tm,bz]
    refine CallT.bodyQ (F:=m36) rfl rfl rfl rfl rfl ?_
    simp -implicitDefEqProofs[m36,hF,sT,sR,sP,sI,-List.map_set,hcu,tm,bz]
    refine CallT.bodyQ (F:=m89) rfl rfl rfl rfl rfl ?_
    simp -implicitDefEqProofs[m89,hF,sT,sR,sP,sI,-List.map_set,hcu,tm,bz]
    refine CallT.bodyQ (F:=m36) rfl rfl rfl rfl rfl ?_
    simp -implicitDefEqProofs[m36,hF,sT,sR,sP,sI,-List.map_set,hcu,tm,bz]
    refine CallT.body (F:=m87) rfl rfl rfl rfl ?_
    simp -implicitDefEqProofs[m87,hF,sT,sR,sP,sI,-List.map_set,hcu,tm,bz]
    refine CallT.bodyQ (F:=m36) rfl rfl rfl rfl rfl ?_
    simp -implicitDefEqProofs[m36,hF,sT,sR,sP,sI,-List.map_set,hcu,tm,bz]
    exact hyes rfl _ ⟨⟨_,[],by simp[t1,hn0,sR,-List.map_set],rfl,rowZ_rings _ true⟩,⟨_,[],by simp[t2,hn0],rfl,rowZ_reps _ true⟩,⟨_,[],by simp[t3,hn0,hlg,sT,-List.map_set],rfl,rowZ_thrs _ true⟩,⟨4,0,[],m.rings.length,m.replicas.length,m.threads.length,m.history.length,by simp[t4,hn0],rfl,by omega,by omega,by omega,by simp[t5,hn0,hrm]⟩⟩
 ·have bt:((m.threads[t.toNat].tails.length:Int) != m.config.logs)=true:=by simp[tl]
  rw[if_pos tl] at hD
  subst hD
  refine CallT.body (F:=m39) rfl rfl rfl rfl ?_
  simp -implicitDefEqProofs[m39,hF,sT,sR,sP,sI,-List.map_set,bt]
  refine CallT.bodyQ (F:=m36) rfl rfl rfl rfl rfl ?_
  simp -implicitDefEqProofs[m36,hF,sT,sR,sP,sI,-List.map_set,bt]
  exact hno (by decide) _

set_option maxRecDepth 20000 in
set_option maxHeartbeats 8000000 in
theorem c_ScanStep (m:Machine) (t:Int) (h:okM m):PCall tab 11 [.agg (encMachine false m),.int .i64 t] (.tup [.agg (encMachine false (scanM m t).1),.int .i64 (scanM m t).2]):=by
 by_cases hat:atP m t
 ·have hc:=hat.1.1
  have h1:=hat.1
  obtain⟨r,log,hi,hri,hj,hk,hlk,hrm,et,hlg,hown,hlog,hA,hF⟩:=wk h hat
  have ht1:=hF.1.2.1
  by_cases hcode:(thrAt m t.toNat).op.code=3
  ·have hl:scanP m t:=⟨hat,hcode⟩
   have herr:=scan_err m t
   have b2:(m.threads[t.toNat].op.code != 3)=false:=by rw[et] at hcode;simp[hcode]
   by_cases s17:(thrAt m t.toNat).step=17
   ·have hX:fenceX m t (thrAt m t.toNat) (ownRing m t)=scanM m t:=by rw[scanM_yes hl,s17];rfl
    rw[et] at s17
    have e17:((17:Int)==m.threads[t.toNat].step)=true:=by simp[s17]
    refine PCall.ofZ (F:=m11) rfl rfl rfl ?_
    simp -implicitDefEqProofs[m11]
    refine CallT.body (F:=m35) rfl rfl rfl rfl ?_
    simp -implicitDefEqProofs[m35]
    refine CallT.bool2 (by simp) (c_boardThread m t h) (fun hb=>?_) (fun hb=>absurd hat hb)
    simp -implicitDefEqProofs
    refine CallT.pure (c_cfgReplica m.config t ⟨hc,hat.2.1,hat.2.2⟩) (by simp) rfl ?_
    rw[show t.tmod m.config.replicas=ownOf m t from rfl]
    simp -implicitDefEqProofs
    refine CallT.pure (c_startCopy m h (whole_of h1)) (by simp) (ok_mach _) ?_
    simp -implicitDefEqProofs
    refine CallT.bodyQ (F:=m36) rfl rfl rfl rfl rfl ?_
    simp -implicitDefEqProofs[m36,hF.1,b2,e17]
    refine CallT.body (F:=m37) rfl rfl rfl rfl ?_
    simp -implicitDefEqProofs[m37,hF.1,b2,e17]
    refine CallT.bodyQ (F:=m36) rfl rfl rfl rfl rfl ?_
    simp -implicitDefEqProofs[m36,hF.1,b2,e17]
    refine x_fence m t h hl _ ⟨by simp,by simp,by simp,by simp,by simp,by simp⟩ _ (fun he T1 hd=>?_) (fun he T1=>?_)
    ·rw[hX] at he hd
     generalize scanM m t=A at he hd ⊢
     obtain⟨D,e⟩:=A
     dsimp only at he hd ⊢
     subst he
     obtain⟨⟨R1,L1,u1,v1,z1⟩,⟨R2,L2,u2,v2,z2⟩,⟨R3,L3,u3,v3,z3⟩,⟨q,g4,L4,n1,n2,n3,n4,u4,v4,q1,q2,q3,u5⟩⟩:=hd
     have q1s:=Ne.symm q1
     have q2s:=Ne.symm q2
     have q3s:=Ne.symm q3
     simp -implicitDefEqProofs[u1,u2,u3,u4,u5,v1,v2,v3,v4,q1,q2,q3,q1s,q2s,q3s,unzT,unzP,okT,okP]
     exact⟨⟨z1.1,z2.1,z3.1⟩,z1.2,z2.2,z3.2⟩
    ·rw[hX] at he
     rw[herr he]
     simp -implicitDefEqProofs[unzT,unzP,okT,okP]
   by_cases s18:(thrAt m t.toNat).step=18
   ·have hX:gatherX m t (thrAt m t.toNat) (ownCur m t) (ownLock m t)=scanM m t:=by rw[scanM_yes hl,s18];rfl
    rw[et] at s18
    have e17:((17:Int)==m.threads[t.toNat].step)=false:=by simp[s18]
    have e18:((18:Int)==m.threads[t.toNat].step)=true:=by simp[s18]
    refine PCall.ofZ (F:=m11) rfl rfl rfl ?_
    simp -implicitDefEqProofs[m11]
    refine CallT.body (F:=m35) rfl rfl rfl rfl ?_
    simp -implicitDefEqProofs[m35]
    refine CallT.bool2 (by simp) (c_boardThread m t h) (fun hb=>?_) (fun hb=>absurd hat hb)
    simp -implicitDefEqProofs
    refine CallT.pure (c_cfgReplica m.config t ⟨hc,hat.2.1,hat.2.2⟩) (by simp) rfl ?_
    rw[show t.tmod m.config.replicas=ownOf m t from rfl]
    simp -implicitDefEqProofs
    refine CallT.pure (c_startCopy m h (whole_of h1)) (by simp) (ok_mach _) ?_
    simp -implicitDefEqProofs
    refine CallT.bodyQ (F:=m36) rfl rfl rfl rfl rfl ?_
    simp -implicitDefEqProofs[m36,hF.1,b2,e17,e18]
    refine CallT.body (F:=m37) rfl rfl rfl rfl ?_
    simp -implicitDefEqProofs[m37,hF.1,b2,e17,e18]
    refine CallT.bodyQ (F:=m36) rfl rfl rfl rfl rfl ?_
    simp -implicitDefEqProofs[m36,hF.1,b2,e17,e18]
    refine x_gather m t h hl _ ⟨by simp,by simp,by simp,by simp,by simp,by simp⟩ _ (fun he T1 hd=>?_) (fun he T1=>?_)
    ·rw[hX] at he hd
     generalize scanM m t=A at he hd ⊢
     obtain⟨D,e⟩:=A
     dsimp only at he hd ⊢
     subst he
     obtain⟨⟨R1,L1,u1,v1,z1⟩,⟨R2,L2,u2,v2,z2⟩,⟨R3,L3,u3,v3,z3⟩,⟨q,g4,L4,n1,n2,n3,n4,u4,v4,q1,q2,q3,u5⟩⟩:=hd
     have q1s:=Ne.symm q1
     have q2s:=Ne.symm q2
     have q3s:=Ne.symm q3
     simp -implicitDefEqProofs[u1,u2,u3,u4,u5,v1,v2,v3,v4,q1,q2,q3,q1s,q2s,q3s,unzT,unzP,okT,okP]
     exact⟨⟨z1.1,z2.1,z3.1⟩,z1.2,z2.2,z3.2⟩
    ·rw[hX] at he
     rw[herr he]
     simp -implicitDefEqProofs[unzT,unzP,okT,okP]
   by_cases s19:(thrAt m t.toNat).step=19
   ·have hX:openX m t (thrAt m t.toNat) (ownRing m t)=scanM m t:=by rw[scanM_yes hl,s19];rfl
    rw[et] at s19
    have e17:((17:Int)==m.threads[t.toNat].step)=false:=by simp[s19]
    have e18:((18:Int)==m.threads[t.toNat].step)=false:=by simp[s19]
    have e19:((19:Int)==m.threads[t.toNat].step)=true:=by simp[s19]
    refine PCall.ofZ (F:=m11) rfl rfl rfl ?_
    simp -implicitDefEqProofs[m11]
    refine CallT.body (F:=m35) rfl rfl rfl rfl ?_
    simp -implicitDefEqProofs[m35]
    refine CallT.bool2 (by simp) (c_boardThread m t h) (fun hb=>?_) (fun hb=>absurd hat hb)
    simp -implicitDefEqProofs
    refine CallT.pure (c_cfgReplica m.config t ⟨hc,hat.2.1,hat.2.2⟩) (by simp) rfl ?_
    rw[show t.tmod m.config.replicas=ownOf m t from rfl]
    simp -implicitDefEqProofs
    refine CallT.pure (c_startCopy m h (whole_of h1)) (by simp) (ok_mach _) ?_
    simp -implicitDefEqProofs
    refine CallT.bodyQ (F:=m36) rfl rfl rfl rfl rfl ?_
    simp -implicitDefEqProofs[m36,hF.1,b2,e17,e18,e19]
    refine CallT.body (F:=m37) rfl rfl rfl rfl ?_
    simp -implicitDefEqProofs[m37,hF.1,b2,e17,e18,e19]
    refine CallT.bodyQ (F:=m36) rfl rfl rfl rfl rfl ?_
    simp -implicitDefEqProofs[m36,hF.1,b2,e17,e18,e19]
    refine x_open m t h hl _ ⟨by simp,by simp,by simp,by simp,by simp,by simp⟩ _ (fun he T1 hd=>?_) (fun he T1=>?_)
    ·rw[hX] at he hd
     generalize scanM m t=A at he hd ⊢
     obtain⟨D,e⟩:=A
     dsimp only at he hd ⊢
     subst he
     obtain⟨⟨R1,L1,u1,v1,z1⟩,⟨R2,L2,u2,v2,z2⟩,⟨R3,L3,u3,v3,z3⟩,⟨q,g4,L4,n1,n2,n3,n4,u4,v4,q1,q2,q3,u5⟩⟩:=hd
     have q1s:=Ne.symm q1
     have q2s:=Ne.symm q2
     have q3s:=Ne.symm q3
     simp -implicitDefEqProofs[u1,u2,u3,u4,u5,v1,v2,v3,v4,q1,q2,q3,q1s,q2s,q3s,unzT,unzP,okT,okP]
     exact⟨⟨z1.1,z2.1,z3.1⟩,z1.2,z2.2,z3.2⟩
    ·rw[hX] at he
     rw[herr he]
     simp -implicitDefEqProofs[unzT,unzP,okT,okP]
   rw[show scanM m t=(noMachine,2200) by rw[scanM_yes hl];simp[scanX,s17,s18,s19]]
   rw[et] at s17 s18 s19
   have e17:((17:Int)==m.threads[t.toNat].step)=false:=by simp;omega
   have e18:((18:Int)==m.threads[t.toNat].step)=false:=by simp;omega
   have e19:((19:Int)==m.threads[t.toNat].step)=false:=by simp;omega
   refine PCall.ofZ (F:=m11) rfl rfl rfl ?_
   simp -implicitDefEqProofs[m11]
   refine CallT.body (F:=m35) rfl rfl rfl rfl ?_
   simp -implicitDefEqProofs[m35]
   refine CallT.bool2 (by simp) (c_boardThread m t h) (fun hb=>?_) (fun hb=>absurd hat hb)
   simp -implicitDefEqProofs
   refine CallT.pure (c_cfgReplica m.config t ⟨hc,hat.2.1,hat.2.2⟩) (by simp) rfl ?_
   rw[show t.tmod m.config.replicas=ownOf m t from rfl]
   simp -implicitDefEqProofs
   refine CallT.pure (c_startCopy m h (whole_of h1)) (by simp) (ok_mach _) ?_
   simp -implicitDefEqProofs
   refine CallT.bodyQ (F:=m36) rfl rfl rfl rfl rfl ?_
   simp -implicitDefEqProofs[m36,hF.1,b2,e17,e18,e19]
   refine CallT.body (F:=m37) rfl rfl rfl rfl ?_
   simp -implicitDefEqProofs[m37,hF.1,b2,e17,e18,e19]
   refine CallT.bodyQ (F:=m36) rfl rfl rfl rfl rfl ?_
   simp -implicitDefEqProofs[m36,hF.1,b2,e17,e18,e19]
   simp -implicitDefEqProofs[unzT,unzP,okT,okP]
  ·rw[scanM_no fun e=>hcode e.2]
   have b2:(m.threads[t.toNat].op.code != 3)=true:=by rw[et] at hcode;simp[hcode]
   refine PCall.ofZ (F:=m11) rfl rfl rfl ?_
   simp -implicitDefEqProofs[m11]
   refine CallT.body (F:=m35) rfl rfl rfl rfl ?_
   simp -implicitDefEqProofs[m35]
   refine CallT.bool2 (by simp) (c_boardThread m t h) (fun hb=>?_) (fun hb=>absurd hat hb)
   simp -implicitDefEqProofs
   refine CallT.pure (c_cfgReplica m.config t ⟨hc,hat.2.1,hat.2.2⟩) (by simp) rfl ?_
   rw[show t.tmod m.config.replicas=ownOf m t from rfl]
   simp -implicitDefEqProofs
   refine CallT.pure (c_startCopy m h (whole_of h1)) (by simp) (ok_mach _) ?_
   simp -implicitDefEqProofs
   refine CallT.bodyQ (F:=m36) rfl rfl rfl rfl rfl ?_
   simp -implicitDefEqProofs[m36,hF.1,b2]
   simp -implicitDefEqProofs[unzT,unzP,okT,okP]
 ·rw[scanM_no fun e=>hat e.1]
  refine PCall.mach1Z ?_
  refine PCall.of (F:=m11) rfl rfl rfl (ok_mach1 _ _) ?_
  simp -implicitDefEqProofs[m11]
  refine CallT.body (F:=m35) rfl rfl rfl rfl ?_
  simp -implicitDefEqProofs[m35]
  refine CallT.bool2 (by simp) (c_boardThread m t h) (fun hb=>absurd hb hat) (fun hb=>?_)
  simp -implicitDefEqProofs

end Go.Ab

namespace Go.Ab

theorem fin_log {m:Machine} {t e:Int} {f:Thread→Thread} (hi:t.toNat<m.threads.length) (h1:(f m.threads[t.toNat]).op=m.threads[t.toNat].op) (h2:(f m.threads[t.toNat]).answer=m.threads[t.toNat].answer):finishM (setThread m t.toNat f) t e=finishM m t e:=by
 have hi2:t.toNat<(setThread m t.toNat f).threads.length:=by unfold setThread;simpa using hi
 unfold finishM
 rw[doneM_of hi,doneM_of hi2]
 simp only[setThread_of hi]
 simp[h1,h2]

set_option maxRecDepth 20000 in
set_option maxHeartbeats 8000000 in
theorem c_Scan13 (m:Machine) (t:Int) (h:okM m) (hin:∀ r∈m.rings,inR r.head):PCall tab 12 [.agg (encMachine false m),.int .i64 t] (.tup [.agg (encMachine false (scanM m t).1),.int .i64 (scanM m t).2]):=by
 by_cases hat:atP m t
 ·obtain⟨r,log,hi,hri,hj,hk,hlk,hrm,et,hlg,hown,hlog,hA,hF⟩:=wk h hat
  have h1:=hat.1
  have hc:=h1.1
  have hn:=h1.2.1
  simp only[macNums] at hn
  have ht0:=hat.2.1
  have ht1:=hF.1.2.1
  have hl1:=hc.2.2.1
  simp only[logsMay] at hl1
  have hl2:(m.rings.length:Int)=m.config.logs:=hn.1
  have wl:IntKind.wrap .i64 (log+1)=log+1:=wrap_of (by have:=hlog.1;omega) (by have:=hlog.2;omega)
  have wk1:IntKind.wrap .i64 (m.config.logs - 1)=m.config.logs - 1:=wrap_of (by omega) (by omega)
  have nl:¬ m.config.logs=0:=by omega
  have hF:=And.intro hF (And.intro wl (And.intro wk1 nl))
  by_cases hcode:(thrAt m t.toNat).op.code=3
  ·have hl:scanP m t:=⟨hat,hcode⟩
   have elk:lockAt m r.toNat log.toNat=m.replicas[r.toNat].locks[log.toNat]:=by simp[lockAt,hri,hlk]
   obtain⟨D,hD⟩:∃ D,scanM m t=D:=⟨_,rfl⟩
   rw[hD]
   rw[scanM_yes hl,show ownRing m t=m.rings[log.toNat] by unfold ownRing;rw[et,hlg];exact ringAt_of hj,show ownCur m t=m.replicas[r.toNat].cursors[log.toNat] by unfold ownCur;rw[et,hlg,hrm];exact curAt_of hA,show ownLock m t=m.replicas[r.toNat].locks[log.toNat] by unfold ownLock;rw[et,hlg,hrm];exact elk,et] at hD
   unfold scanX at hD
   rw[et] at hcode
   have b3:(m.threads[t.toNat].op.code != 3)=false:=by simp[hcode]
   by_cases s17:m.threads[t.toNat].step=17
   ·have e17:(m.threads[t.toNat].step==17)=true:=by simp[s17]
    rw[if_pos s17] at hD
    unfold fenceX at hD
    rw[hlg] at hD
    by_cases tl:(m.threads[t.toNat].tails.length:Int)=log
    ·rw[if_neg (not_not_intro tl)] at hD
     have bl:((m.threads[t.toNat].tails.length:Int) != log)=false:=by simp[tl]
     by_cases hf:m.rings[log.toNat].fence=0
     ·have bf:(m.rings[log.toNat].fence != 0)=false:=by simp[hf]
      have rm:(m.threads[t.toNat].tails.length+1)*8≤140737488355328:=by have:=hlog.2;omega
      rw[if_neg (not_not_intro hf),ringThr22 hj hi] at hD
      obtain⟨ts,hts⟩:∃ ts,m.threads[t.toNat].tails++[m.rings[log.toNat].tail]=ts:=⟨_,rfl⟩
      have kts:List.map encInt m.threads[t.toNat].tails++[[AV.int .i64 m.rings[log.toNat].tail]]=List.map encInt ts:=by rw[← hts];simp
      by_cases e:log+1=m.config.logs
      ·have be:(log==m.config.logs - 1)=true:=by rw[beq_iff_eq];omega
       simp only[if_pos e,hts] at hD
       subst hD
       refine PCall.ofZ (F:=m12) rfl rfl rfl ?_
       simp -implicitDefEqProofs[m12]
       refine CallT.bool2 (by simp) (c_there13 m 0 0 t h hin) (fun hb=>?_) (fun hb=>absurd ⟨there00 h1,hat.2⟩ hb)
       simp -implicitDefEqProofs[hF,b3]
       refine CallT.pure (c_Copy13 m h) (by simp[hF]) (ok_mach _) ?_
       simp -implicitDefEqProofs[hF,b3,sT,sR,sP,sI,-List.map_set,e17,bl,bf,be,rm,kts,pairT,stOf,ldOf,apartT,isLpT]
       simp -implicitDefEqProofs[unzT,unzP,okT,okP,-List.map_set]
      ·have be:(log==m.config.logs - 1)=false:=by rw[beq_eq_false_iff_ne];omega
       simp only[if_neg e,hts] at hD
       subst hD
       refine PCall.ofZ (F:=m12) rfl rfl rfl ?_
       simp -implicitDefEqProofs[m12]
       refine CallT.bool2 (by simp) (c_there13 m 0 0 t h hin) (fun hb=>?_) (fun hb=>absurd ⟨there00 h1,hat.2⟩ hb)
       simp -implicitDefEqProofs[hF,b3]
       refine CallT.pure (c_Copy13 m h) (by simp[hF]) (ok_mach _) ?_
       simp -implicitDefEqProofs[hF,b3,sT,sR,sP,sI,-List.map_set,e17,bl,bf,be,rm,kts,pairT,stOf,ldOf,apartT,isLpT]
       simp -implicitDefEqProofs[unzT,unzP,okT,okP,-List.map_set]
     ·have bf:(m.rings[log.toNat].fence != 0)=true:=by simp[hf]
      rw[if_pos hf] at hD
      subst hD
      refine PCall.ofZ (F:=m12) rfl rfl rfl ?_
      simp -implicitDefEqProofs[m12]
      refine CallT.bool2 (by simp) (c_there13 m 0 0 t h hin) (fun hb=>?_) (fun hb=>absurd ⟨there00 h1,hat.2⟩ hb)
      simp -implicitDefEqProofs[hF,b3]
      refine CallT.pure (c_Copy13 m h) (by simp[hF]) (ok_mach _) ?_
      simp -implicitDefEqProofs[hF,b3,sT,sR,sP,sI,-List.map_set,e17,bl,bf,pairT,stOf,ldOf,apartT,isLpT]
      simp -implicitDefEqProofs[unzT,unzP,okT,okP,-List.map_set]
    ·have bl:((m.threads[t.toNat].tails.length:Int) != log)=true:=by simp[tl]
     rw[if_pos tl] at hD
     subst hD
     refine PCall.ofZ (F:=m12) rfl rfl rfl ?_
     simp -implicitDefEqProofs[m12]
     refine CallT.bool2 (by simp) (c_there13 m 0 0 t h hin) (fun hb=>?_) (fun hb=>absurd ⟨there00 h1,hat.2⟩ hb)
     simp -implicitDefEqProofs[hF,b3]
     refine CallT.pure (c_Copy13 m h) (by simp[hF]) (ok_mach _) ?_
     simp -implicitDefEqProofs[hF,b3,sT,sR,sP,sI,-List.map_set,e17,bl,pairT,stOf,ldOf,apartT,isLpT]
     simp -implicitDefEqProofs[unzT,unzP,okT,okP,-List.map_set]
   have e17:(m.threads[t.toNat].step==17)=false:=by simp[s17]
   rw[if_neg s17] at hD
   by_cases s18:m.threads[t.toNat].step=18
   ·have e18:(m.threads[t.toNat].step==18)=true:=by simp[s18]
    rw[if_pos s18] at hD
    unfold gatherX at hD
    rw[hlg,hrm] at hD
    by_cases tl:(m.threads[t.toNat].tails.length:Int)=m.config.logs
    ·rw[if_neg (not_not_intro tl)] at hD
     have bl:((m.threads[t.toNat].tails.length:Int) != m.config.logs)=false:=by simp[tl]
     have hl3:log<m.config.logs:=by have:=hlog.2;omega
     have hti:log.toNat<m.threads[t.toNat].tails.length:=by have:=hlog.1;omega
     have hti2:log<(m.threads[t.toNat].tails.length:Int):=by omega
     have gti:=List.getElem?_eq_getElem hti
     have zti:0<m.threads[t.toNat].tails.length:=by omega
     rw[show m.threads[t.toNat].tails.getD log.toNat 0=m.threads[t.toNat].tails[log.toNat] by rw[List.getD_eq_getElem?_getD,gti];rfl] at hD
     have hF:=And.intro hF (And.intro hl3 (And.intro hti (And.intro hti2 (And.intro gti zti))))
     by_cases hcu:m.replicas[r.toNat].cursors[log.toNat]<m.threads[t.toNat].tails[log.toNat]
     ·rw[if_pos hcu] at hD
      by_cases hf:m.replicas[r.toNat].locks[log.toNat]=0
      ·rw[if_pos hf] at hD
       have bf:(m.replicas[r.toNat].locks[log.toNat]==0)=true:=by simp[hf]
       have hR:=c_replaying m r log h hin
       generalize (oneM m r log).1=B at hR hD
       subst hD
       refine PCall.ofZ (F:=m12) rfl rfl rfl ?_
       simp -implicitDefEqProofs[m12]
       refine CallT.bool2 (by simp) (c_there13 m 0 0 t h hin) (fun hb=>?_) (fun hb=>absurd ⟨there00 h1,hat.2⟩ hb)
       simp -implicitDefEqProofs[hF,b3]
       refine CallT.pure (c_Copy13 m h) (by simp[hF]) (ok_mach _) ?_
       simp -implicitDefEqProofs[hF,b3,sT,sR,sP,sI,-List.map_set,e17,e18,bl,hcu,bf,pairT,stOf,ldOf,apartT,isLpT]
       refine CallT.pure hR (by simp -implicitDefEqProofs[hF,b3,sT,sR,sP,sI,-List.map_set,e17,e18,bl,hcu,bf]) (ok_machF _) ?_
       simp -implicitDefEqProofs[hF,b3,sT,sR,sP,sI,-List.map_set,e17,e18,bl,hcu,bf,pairT,stOf,ldOf,apartT,isLpT]
       simp -implicitDefEqProofs[unzT,unzP,okT,okP,-List.map_set]
      ·rw[if_neg hf] at hD
       have bf:(m.replicas[r.toNat].locks[log.toNat]==0)=false:=by simp[hf]
       subst hD
       refine PCall.ofZ (F:=m12) rfl rfl rfl ?_
       simp -implicitDefEqProofs[m12]
       refine CallT.bool2 (by simp) (c_there13 m 0 0 t h hin) (fun hb=>?_) (fun hb=>absurd ⟨there00 h1,hat.2⟩ hb)
       simp -implicitDefEqProofs[hF,b3]
       refine CallT.pure (c_Copy13 m h) (by simp[hF]) (ok_mach _) ?_
       simp -implicitDefEqProofs[hF,b3,sT,sR,sP,sI,-List.map_set,e17,e18,bl,hcu,bf,pairT,stOf,ldOf,apartT,isLpT]
       simp -implicitDefEqProofs[unzT,unzP,okT,okP,-List.map_set]
     ·rw[if_neg hcu] at hD
      by_cases e:log+1=m.config.logs
      ·have be:(log==m.config.logs - 1)=true:=by rw[beq_iff_eq];omega
       have hop:m.threads[t.toNat].op=scanOp:=by
        have ho:=(h1.2.2.2.2.1 _ (List.getElem_mem hi)).1.2.2.1.2.2.2.2
        obtain⟨a1,a2⟩:m.threads[t.toNat].op.arg=0∧m.threads[t.toNat].op.row=0:=by omega
        generalize m.threads[t.toNat].op=o at *
        obtain⟨x1,x2,x3⟩:=o
        simp_all
       have hO:=c_Apply1 m.config.object m.replicas[r.toNat].state m.threads[t.toNat].op 2200 hA.os
       rw[applyM_yes hA.st (h1.2.2.2.2.1 _ (List.getElem_mem hi)).1.2.2.1,hop,turnS_scan,← hop] at hO
       rw[if_pos e,setThread_of hi,stAt_of hA] at hD
       generalize tellS m.config.object m.replicas[r.toNat].state=an at hO hD
       subst hD
       refine PCall.ofZ (F:=m12) rfl rfl rfl ?_
       simp -implicitDefEqProofs[m12]
       refine CallT.bool2 (by simp) (c_there13 m 0 0 t h hin) (fun hb=>?_) (fun hb=>absurd ⟨there00 h1,hat.2⟩ hb)
       simp -implicitDefEqProofs[hF,b3]
       refine CallT.pure (c_Copy13 m h) (by simp[hF]) (ok_mach _) ?_
       simp -implicitDefEqProofs[hF,b3,sT,sR,sP,sI,-List.map_set,e17,e18,bl,hcu,be,pairT,stOf,ldOf,apartT,isLpT]
       refine CallT.pure hO (by simp -implicitDefEqProofs[hF,b3,sT,sR,sP,sI,-List.map_set,e17,e18,bl,hcu,be]) (ok_st3 _ _ _) ?_
       simp -implicitDefEqProofs[hF,b3,sT,sR,sP,sI,-List.map_set,e17,e18,bl,hcu,be,pairT,stOf,ldOf,apartT,isLpT]
       simp -implicitDefEqProofs[unzT,unzP,okT,okP,-List.map_set]
      ·have be:(log==m.config.logs - 1)=false:=by rw[beq_eq_false_iff_ne];omega
       rw[if_neg e,setThread_of hi] at hD
       subst hD
       refine PCall.ofZ (F:=m12) rfl rfl rfl ?_
       simp -implicitDefEqProofs[m12]
       refine CallT.bool2 (by simp) (c_there13 m 0 0 t h hin) (fun hb=>?_) (fun hb=>absurd ⟨there00 h1,hat.2⟩ hb)
       simp -implicitDefEqProofs[hF,b3]
       refine CallT.pure (c_Copy13 m h) (by simp[hF]) (ok_mach _) ?_
       simp -implicitDefEqProofs[hF,b3,sT,sR,sP,sI,-List.map_set,e17,e18,bl,hcu,be,pairT,stOf,ldOf,apartT,isLpT]
       simp -implicitDefEqProofs[unzT,unzP,okT,okP,-List.map_set]
    ·have bl:((m.threads[t.toNat].tails.length:Int) != m.config.logs)=true:=by simp[tl]
     rw[if_pos tl] at hD
     subst hD
     refine PCall.ofZ (F:=m12) rfl rfl rfl ?_
     simp -implicitDefEqProofs[m12]
     refine CallT.bool2 (by simp) (c_there13 m 0 0 t h hin) (fun hb=>?_) (fun hb=>absurd ⟨there00 h1,hat.2⟩ hb)
     simp -implicitDefEqProofs[hF,b3]
     refine CallT.pure (c_Copy13 m h) (by simp[hF]) (ok_mach _) ?_
     simp -implicitDefEqProofs[hF,b3,sT,sR,sP,sI,-List.map_set,e17,e18,bl,pairT,stOf,ldOf,apartT,isLpT]
     simp -implicitDefEqProofs[unzT,unzP,okT,okP,-List.map_set]
   have e18:(m.threads[t.toNat].step==18)=false:=by simp[s18]
   rw[if_neg s18] at hD
   by_cases s19:m.threads[t.toNat].step=19
   ·have e19:(m.threads[t.toNat].step==19)=true:=by simp[s19]
    rw[if_pos s19] at hD
    unfold openX at hD
    rw[hlg] at hD
    by_cases e:log+1=m.config.logs
    ·have be:(log==m.config.logs - 1)=true:=by rw[beq_iff_eq];omega
     rw[if_pos e,← fin_log (m:=setRing m log.toNat { m.rings[log.toNat] with fence:=0 }) (f:=fun y=>{ y with log:=log+1 }) hi rfl rfl,ringThr22 hj hi] at hD
     have okD:okM { m with rings:=m.rings.set log.toNat { m.rings[log.toNat] with fence:=0 },threads:=m.threads.set t.toNat { m.threads[t.toNat] with log:=log+1 } }:=by
      have hr1:lenOK m.rings[log.toNat].slots:=h.1.2 _ (List.getElem_mem hj)
      have:=okM_setThread (okM_ring h log.toNat (r:={ m.rings[log.toNat] with fence:=0 }) hr1) t.toNat (f:=fun y=>{ y with log:=log+1 }) (fun _ hx=>hx)
      rwa [ringThr22 hj hi] at this
     have hfi:=c_finished { m with rings:=m.rings.set log.toNat { m.rings[log.toNat] with fence:=0 },threads:=m.threads.set t.toNat { m.threads[t.toNat] with log:=log+1 } } t 2200 okD (by show m.history.length≤64;omega) ht0 (by simpa using ht1)
     rw[hD] at hfi
     refine PCall.ofZ (F:=m12) rfl rfl rfl ?_
     simp -implicitDefEqProofs[m12]
     refine CallT.bool2 (by simp) (c_there13 m 0 0 t h hin) (fun hb=>?_) (fun hb=>absurd ⟨there00 h1,hat.2⟩ hb)
     simp -implicitDefEqProofs[hF,b3]
     refine CallT.pure (c_Copy13 m h) (by simp[hF]) (ok_mach _) ?_
     simp -implicitDefEqProofs[hF,b3,sT,sR,sP,sI,-List.map_set,e17,e18,e19,be,pairT,stOf,ldOf,apartT,isLpT]
     refine CallT.pure hfi (by simp -implicitDefEqProofs[hF,b3,sT,sR,sP,sI,-List.map_set,e17,e18,e19,be]) (ok_mach1 _ _) ?_
     simp -implicitDefEqProofs[hF,b3,sT,sR,sP,sI,-List.map_set,e17,e18,e19,be,pairT,stOf,ldOf,apartT,isLpT]
     simp -implicitDefEqProofs[unzT,unzP,okT,okP,-List.map_set]
    ·have be:(log==m.config.logs - 1)=false:=by rw[beq_eq_false_iff_ne];omega
     rw[if_neg e,ringThr22 hj hi] at hD
     subst hD
     refine PCall.ofZ (F:=m12) rfl rfl rfl ?_
     simp -implicitDefEqProofs[m12]
     refine CallT.bool2 (by simp) (c_there13 m 0 0 t h hin) (fun hb=>?_) (fun hb=>absurd ⟨there00 h1,hat.2⟩ hb)
     simp -implicitDefEqProofs[hF,b3]
     refine CallT.pure (c_Copy13 m h) (by simp[hF]) (ok_mach _) ?_
     simp -implicitDefEqProofs[hF,b3,sT,sR,sP,sI,-List.map_set,e17,e18,e19,be,pairT,stOf,ldOf,apartT,isLpT]
     simp -implicitDefEqProofs[unzT,unzP,okT,okP,-List.map_set]
   have e19:(m.threads[t.toNat].step==19)=false:=by simp[s19]
   rw[if_neg s19] at hD
   subst hD
   refine PCall.ofZ (F:=m12) rfl rfl rfl ?_
   simp -implicitDefEqProofs[m12]
   refine CallT.bool2 (by simp) (c_there13 m 0 0 t h hin) (fun hb=>?_) (fun hb=>absurd ⟨there00 h1,hat.2⟩ hb)
   simp -implicitDefEqProofs[hF,b3]
   refine CallT.pure (c_Copy13 m h) (by simp[hF]) (ok_mach _) ?_
   simp -implicitDefEqProofs[hF,b3,sT,sR,sP,sI,-List.map_set,e17,e18,e19,pairT,stOf,ldOf,apartT,isLpT]
   simp -implicitDefEqProofs[unzT,unzP,okT,okP,-List.map_set]
  ·rw[scanM_no fun e=>hcode e.2]
   rw[et] at hcode
   have b3:(m.threads[t.toNat].op.code != 3)=true:=by simp[hcode]
   refine PCall.ofZ (F:=m12) rfl rfl rfl ?_
   simp -implicitDefEqProofs[m12]
   refine CallT.bool2 (by simp) (c_there13 m 0 0 t h hin) (fun hb=>?_) (fun hb=>absurd ⟨there00 h1,hat.2⟩ hb)
   simp -implicitDefEqProofs[hF,b3]
   simp -implicitDefEqProofs[unzT,unzP,okT,okP]
 ·rw[scanM_no fun e=>hat e.1]
  refine PCall.ofZ (F:=m12) rfl rfl rfl ?_
  simp -implicitDefEqProofs[m12]
  refine CallT.bool2 (by simp) (c_there13 m 0 0 t h hin) (fun hb=>absurd ⟨hb.1.1,hb.2⟩ hat) (fun hb=>?_)
  simp -implicitDefEqProofs[unzT,unzP,okT,okP]

end Go.Ab

namespace Go.Ab

theorem okM_tails {m:Machine} (h:okM m) {i:Nat} (hi:i<m.threads.length) {f:Thread→Thread} (hf:okTh (f m.threads[i])):okM (setThread m i f):=by
 rw[setThread_of hi]
 obtain⟨h1,h2,⟨l3,o3⟩,h4⟩:=h
 refine⟨h1,h2,⟨by unfold lenOK at *;simpa using l3,fun p hp=>?_⟩,h4⟩
 rcases List.mem_or_eq_of_mem_set hp with h5|rfl
 ·exact o3 _ h5
 ·exact hf
theorem okM_scan {m:Machine} (h:okM m) (t:Int):okM (scanM m t).1:=by
 by_cases hl:scanP m t
 ·rw[scanM_yes hl]
  obtain⟨r,log,hi,hri,hj,hk,hlk,hrm,et,hlg,hown,hlog,hA,hF⟩:=wk h hl.1
  have h1:=hl.1.1
  have hr1:lenOK m.rings[log.toNat].slots:=h.1.2 _ (List.getElem_mem hj)
  have hr:okR { m.rings[log.toNat] with fence:=t+1 }:=hr1
  have hr0:okR { m.rings[log.toNat] with fence:=0 }:=hr1
  have ho:=h.2.2.1.2 _ (List.getElem_mem hi)
  have eR:ownRing m t=m.rings[log.toNat]:=by unfold ownRing;rw[et,hlg];exact ringAt_of hj
  rw[eR,et]
  have hc:=h1.1.2.2.1
  have hn:=h1.2.1
  simp only[macNums,logsMay] at hn hc
  unfold scanX
  split
  ·unfold fenceX
   rw[hlg]
   split
   ·exact okM_no18
   ·rename_i htl
    split
    ·exact h
    ·refine okM_tails (m:=setRing m log.toNat _) (okM_ring h _ hr) (by unfold setRing;exact hi) ⟨ho.1, ?_⟩
     have htl:=Classical.not_not.1 htl
     have:=hlog.2
     show lenOK (m.threads[t.toNat].tails++[_])
     unfold lenOK
     simp only[List.length_append,List.length_cons,List.length_nil]
     omega
  ·split
   ·unfold gatherX
    split
    ·exact okM_no18
    ·split
     ·dsimp only
      split
      ·exact okM_one h _ _
      ·exact h
     ·split
      ·exact okM_setThread h _ fun _ hx=>hx
      ·exact okM_setThread h _ fun _ hx=>hx
   ·split
    ·unfold openX
     rw[hlg]
     split
     ·exact okM_finish (okM_ring h _ hr0) _ _
     ·exact okM_setThread (okM_ring h _ hr0) _ fun _ hx=>hx
    ·exact okM_no18
 ·rw[scanM_no hl];exact okM_no18

end Go.Ab

namespace Go.Ab

theorem c_awake22:PCall tab 16 [] (.bool true):=PCall.closed 60 rfl rfl rfl (by kernel_rfl)

end Go.Ab

namespace Go.Ab

set_option maxHeartbeats 2000000 in
theorem l_Scans (m:Machine) (t:Int) (h:okM m) (hin:∀ r∈m.rings,inR r.head) (_:inR t):CallT tab false 3 [.a (.agg (encMachine false m)),.a (.int .i64 t)] TH.none (fun v _=>v=.a (.bool true)):=by
 have oa:=okM_scan h t
 have hP:=c_ScanStep m t h
 have hR:=c_Scan13 m t h hin
 generalize scanM m t=A at *
 refine CallT.body (F:=m3) rfl rfl rfl rfl ?_
 simp -implicitDefEqProofs[m3]
 refine CallT.pure (c_lCopyMachine m h) (by simp) (ok_mach m) ?_
 simp -implicitDefEqProofs
 refine CallT.pure hP (by simp) (ok_mach1F _ _) ?_
 simp -implicitDefEqProofs
 refine CallT.pure hR (by simp) (ok_mach1F _ _) ?_
 simp -implicitDefEqProofs
 refine CallT.bool2 (by simp) (c_SameMachine A.1 A.1 false false oa) (fun hb=>?_) (fun hb=>absurd rfl hb)
 simp -implicitDefEqProofs
 refine CallT.pure (c_Num A.2) (by simp) rfl ?_
 simp -implicitDefEqProofs
 refine c_SpoilMachineZ false _ A.1.config 4 5 6 7 (by omega) (by omega) (by omega) (by omega) (by omega) (by omega) A.1 oa (by simp) (by simp) (by simp) (by simp) _ (fun T1 hn1 ho1=>?_)
 have p0:=ho1 0 (by omega) (by omega) (by omega) (by omega)
 have p1:=ho1 1 (by omega) (by omega) (by omega) (by omega)
 have p2:=ho1 2 (by omega) (by omega) (by omega) (by omega)
 have p3:=ho1 3 (by omega) (by omega) (by omega) (by omega)
 simp at p0 p1 p2 p3
 clear ho1 hn1
 simp -implicitDefEqProofs[p0,p1,p2,p3]
 refine CallT.bool2 (by simp[p0,p1,p2,p3]) (c_SameMachine m m false false h) (fun hb=>?_) (fun hb=>absurd rfl hb)
 simp -implicitDefEqProofs
 refine CallT.pure c_awake22 rfl rfl ?_
 simp -implicitDefEqProofs

end Go.Ab

namespace Go.Ab
open Go.RowKit Go.ChangeShapes

theorem law_eval {M:FuncId→Option MFunc} {k:FuncId} {ts:List AV} (h:CallT M false k (ts.map .a) TH.none fun v _=>v=.a (.bool true)):∃ n H',eval M n k ts AH.zero=some (.bool true,H'):=by
 obtain⟨r,H',⟨n,hev⟩,v,A',T',_,hv,_,rfl⟩:=h _ AH.zero ts HR.none (VRL.atoms ts)
 cases hv
 exact⟨n,H',hev⟩

theorem i64_range {n:Int} (h:(Lit.int .i64 n).wf=true):-9223372036854775808≤n∧n<9223372036854775808:=by
 simp only[Lit.wf,Bool.and_eq_true,decide_eq_true_eq] at h
 have e1:IntKind.i64.min=-9223372036854775808:=by decide
 have e2:IntKind.i64.max=9223372036854775807:=by decide
 omega

def wfI (n:Int):Prop:=(Lit.int .i64 n).wf=true
def rangeOp (o:Op):Prop:=wfI o.code∧wfI o.row∧wfI o.arg
def rangeS (s:Slot):Prop:=rangeOp s.op∧wfI s.thread∧wfI s.bit
def rangeR (r:Ring):Prop:=wfI r.head∧wfI r.tail∧wfI r.fence∧(∀ s∈r.slots,rangeS s)
def rangeI (l:List Int):Prop:=∀ x∈l,wfI x
def rangeP (p:Replica):Prop:=(rangeI p.state.r0∧rangeI p.state.r1∧rangeI p.state.r2∧rangeI p.state.r3)∧rangeI p.cursors∧rangeI p.locks
def rangeT (t:Thread):Prop:=wfI t.step∧rangeOp t.op∧wfI t.log∧wfI t.seen∧rangeI t.batch∧wfI t.at_∧wfI t.answer∧rangeI t.tails
def rangeC (c:Config):Prop:=wfI c.object∧wfI c.replicas∧wfI c.logs∧wfI c.threads∧wfI c.slots
def rangeE (e:Event):Prop:=wfI e.thread∧rangeOp e.op∧wfI e.answer
def rangeM (m:Machine):Prop:=rangeC m.config∧(∀ r∈m.rings,rangeR r)∧(∀ p∈m.replicas,rangeP p)∧(∀ t∈m.threads,rangeT t)∧(∀ e∈m.history,rangeE e)
theorem rangeM_heads {m:Machine} (h:rangeM m):∀ r∈m.rings,inR r.head:=fun r hr=>i64_range (h.2.1 r hr).1

end Go.Ab

namespace Go.Proofs.YtbnmnlijdoabkaaGreat
open Go.ChangeShapes Go.WideShapes Go.ChangeAt Go.RowKit Go.Ab

mutual
theorem tame_of {H:Type}:∀ (d:DataW H),Rows.uptoBulk d≤1048576→tame d=true
 | .lit l,h=>by
  cases l
  case string bytes=>simp only[Rows.uptoBulk] at h;simp only[tame,decide_eq_true_eq];omega
  all_goals rfl
 | .nil,_=>rfl
 | .ptr _,_=>rfl
 | .slice es sp,h=>by
  simp only[Rows.uptoBulk] at h
  obtain⟨h1,h2⟩:=tameL_of es (by omega)
  simp only[tame,Bool.and_eq_true,decide_eq_true_eq]
  exact⟨by omega,h1⟩
 | .agg ps,h=>by
  simp only[Rows.uptoBulk] at h
  exact (tameL_of ps (by omega)).1
 | .iface _ _,_=>rfl
 | .map _,_=>rfl
 | .held _,_=>rfl
theorem tameL_of {H:Type}:∀ (l:List (DataW H)),Rows.uptoBulkAll l≤1048576→tameL l=true∧l.length≤Rows.uptoBulkAll l
 | [],_=>⟨rfl,by simp⟩
 | d::r,h=>by
  simp only[Rows.uptoBulkAll] at h ⊢
  obtain⟨h1,h2⟩:=tameL_of r (by omega)
  have h3:=tame_of d (by omega)
  have h4:=bulk_pos d
  exact⟨by simp only[tameL,h3,h1,Bool.and_self],by simp only[List.length_cons];omega⟩
theorem bulk_pos {H:Type}:∀ (d:DataW H),1≤Rows.uptoBulk d
 | .lit l=>by cases l<;>simp[Rows.uptoBulk]
 | .nil=>by simp[Rows.uptoBulk]
 | .ptr _=>by simp only[Rows.uptoBulk];omega
 | .slice _ _=>by simp only[Rows.uptoBulk];omega
 | .agg _=>by simp only[Rows.uptoBulk];omega
 | .iface _ _=>by simp only[Rows.uptoBulk];omega
 | .map _=>by simp only[Rows.uptoBulk];omega
 | .held _=>by simp[Rows.uptoBulk]
end

theorem own:ownKnob Go.Proofs.Tryz.prog.godebug=none:=by kernel_rfl
theorem laidOut:laidOutB Go.Proofs.Tryz.prog=true:=by kernel_rfl

section
variable (W:World)
theorem dec_i:DecS Go.Proofs.Tryz.prog W 3 encInt wfI:=Dec.s (Dec.int Go.Proofs.Tryz.underlying3)
theorem dec_b:DecS Go.Proofs.Tryz.prog W 4 (fun b:Bool=>[.bool b]) (fun _=>True):=Dec.s (Dec.bool Go.Proofs.Tryz.underlying4)
theorem dec_ints:DecS Go.Proofs.Tryz.prog W 44 (fun l:List Int=>[.vs (l.map encInt) false]) (fun l=>rangeI l∧lenOK l):=DecS.slice (sz:=1) Go.Proofs.Tryz.underlying44 (by kernel_rfl) (by omega) (dec_i W)
theorem dec_op:DecS Go.Proofs.Tryz.prog W 43 encOp rangeOp:=
 @DecS.struct _ _ _ _ 3 _ _ _ _ _ _ Go.Proofs.Tryz.underlying43 (by kernel_rfl) (@DecFS.cons _ _ _ _ _ 1 _ _ _ _ _ _ _ (by rfl) (by kernel_rfl) (dec_i W) (@DecFS.cons _ _ _ _ _ 1 _ _ _ _ _ _ _ (by rfl) (by kernel_rfl) (dec_i W) (@DecFS.cons _ _ _ _ _ 1 _ _ _ _ _ _ _ (by rfl) (by kernel_rfl) (dec_i W) (@DecFS.nil _ _ 3))))
  (fun a=>⟨a.1,a.2.1,a.2.2.1⟩) (fun a h=>⟨⟨h.1,h.2.1,h.2.2.1⟩,rfl⟩)
theorem dec_config:DecS Go.Proofs.Tryz.prog W 23 encConfig rangeC:=
 @DecS.struct _ _ _ _ 5 _ _ _ _ _ _ Go.Proofs.Tryz.underlying23 (by kernel_rfl) (@DecFS.cons _ _ _ _ _ 1 _ _ _ _ _ _ _ (by rfl) (by kernel_rfl) (dec_i W) (@DecFS.cons _ _ _ _ _ 1 _ _ _ _ _ _ _ (by rfl) (by kernel_rfl) (dec_i W) (@DecFS.cons _ _ _ _ _ 1 _ _ _ _ _ _ _ (by rfl) (by kernel_rfl) (dec_i W) (@DecFS.cons _ _ _ _ _ 1 _ _ _ _ _ _ _ (by rfl) (by kernel_rfl) (dec_i W) (@DecFS.cons _ _ _ _ _ 1 _ _ _ _ _ _ _ (by rfl) (by kernel_rfl) (dec_i W) (@DecFS.nil _ _ 5))))))
  (fun a=>⟨a.1,a.2.1,a.2.2.1,a.2.2.2.1,a.2.2.2.2.1⟩) (fun a h=>⟨⟨h.1,h.2.1,h.2.2.1,h.2.2.2.1,h.2.2.2.2.1⟩,rfl⟩)
theorem dec_slot:DecS Go.Proofs.Tryz.prog W 51 encSlot rangeS:=
 @DecS.struct _ _ _ _ 5 _ _ _ _ _ _ Go.Proofs.Tryz.underlying51 (by kernel_rfl) (@DecFS.cons _ _ _ _ _ 3 _ _ _ _ _ _ _ (by rfl) (by kernel_rfl) (dec_op W) (@DecFS.cons _ _ _ _ _ 1 _ _ _ _ _ _ _ (by rfl) (by kernel_rfl) (dec_i W) (@DecFS.cons _ _ _ _ _ 1 _ _ _ _ _ _ _ (by rfl) (by kernel_rfl) (dec_i W) (@DecFS.nil _ _ 5))))
  (fun a=>⟨a.1,a.2.1,a.2.2.1⟩) (fun a h=>⟨⟨h.1,h.2.1,h.2.2.1⟩,rfl⟩)
theorem dec_slots:DecS Go.Proofs.Tryz.prog W 47 (fun l:List Slot=>[.vs (l.map encSlot) false]) (fun l=>(∀ s∈l,rangeS s)∧lenOK l):=DecS.slice (sz:=5) Go.Proofs.Tryz.underlying47 (by kernel_rfl) (by omega) (dec_slot W)
theorem dec_ring:DecS Go.Proofs.Tryz.prog W 49 (encRing false) (fun r=>rangeR r∧okR r):=
 @DecS.struct _ _ _ _ 4 _ _ _ _ _ _ Go.Proofs.Tryz.underlying49 (by kernel_rfl) (@DecFS.cons _ _ _ _ _ 1 _ _ _ _ _ _ _ (by rfl) (by kernel_rfl) (dec_i W) (@DecFS.cons _ _ _ _ _ 1 _ _ _ _ _ _ _ (by rfl) (by kernel_rfl) (dec_i W) (@DecFS.cons _ _ _ _ _ 1 _ _ _ _ _ _ _ (by rfl) (by kernel_rfl) (dec_i W) (@DecFS.cons _ _ _ _ _ 1 _ _ _ _ _ _ _ (by rfl) (by kernel_rfl) (dec_slots W) (@DecFS.nil _ _ 4)))))
  (fun a=>⟨a.1,a.2.1,a.2.2.1,a.2.2.2.1⟩) (fun a h=>⟨⟨⟨h.1,h.2.1,h.2.2.1,h.2.2.2.1.1⟩,h.2.2.2.1.2⟩,rfl⟩)
theorem dec_rings:DecS Go.Proofs.Tryz.prog W 24 (fun l:List Ring=>[.vs (l.map (encRing false)) false]) (fun l=>(∀ s∈l,rangeR s∧okR s)∧lenOK l):=DecS.slice (sz:=4) Go.Proofs.Tryz.underlying24 (by kernel_rfl) (by omega) (dec_ring W)
theorem dec_rows:DecS Go.Proofs.Tryz.prog W 57 (fun l:List (List Int)=>(l.map fun l:List Int=>[AV.vs (l.map encInt) false]).flatten) (fun l=>(∀ a∈l,rangeI a∧lenOK a)∧l.length=4):=DecS.array (sz:=1) Go.Proofs.Tryz.underlying57 (by kernel_rfl) (by kernel_rfl) (dec_ints W)
theorem dec_state:DecS Go.Proofs.Tryz.prog W 59 (encState false) (fun s=>(rangeI s.r0∧rangeI s.r1∧rangeI s.r2∧rangeI s.r3)∧okS s):=
 @DecS.struct _ _ _ _ 4 _ _ _ _ _ _ Go.Proofs.Tryz.underlying59 (by kernel_rfl) (@DecFS.cons _ _ _ _ _ 4 _ _ _ _ _ _ _ (by rfl) (by kernel_rfl) (dec_rows W) (@DecFS.nil _ _ 4))
  (fun a=>match a.1 with|[a0,a1,a2,a3]=>⟨a0,a1,a2,a3⟩|_=>⟨[],[],[],[]⟩)
  (fun a h=>by
   obtain⟨l,_⟩:=a
   obtain⟨⟨h1,h2⟩,_⟩:=h
   simp only at h1 h2
   match l,h2 with
   | [a0,a1,a2,a3],_=>
    have k0:=h1 a0 (by simp)
    have k1:=h1 a1 (by simp)
    have k2:=h1 a2 (by simp)
    have k3:=h1 a3 (by simp)
    exact⟨⟨⟨k0.1,k1.1,k2.1,k3.1⟩,k0.2,k1.2,k2.2,k3.2⟩,rfl⟩)
theorem dec_replica:DecS Go.Proofs.Tryz.prog W 61 (encReplica false) (fun p=>rangeP p∧okP' p):=
 @DecS.struct _ _ _ _ 6 _ _ _ _ _ _ Go.Proofs.Tryz.underlying61 (by kernel_rfl) (@DecFS.cons _ _ _ _ _ 4 _ _ _ _ _ _ _ (by rfl) (by kernel_rfl) (dec_state W) (@DecFS.cons _ _ _ _ _ 1 _ _ _ _ _ _ _ (by rfl) (by kernel_rfl) (dec_ints W) (@DecFS.cons _ _ _ _ _ 1 _ _ _ _ _ _ _ (by rfl) (by kernel_rfl) (dec_ints W) (@DecFS.nil _ _ 6))))
  (fun a=>⟨a.1,a.2.1,a.2.2.1⟩) (fun a h=>⟨⟨⟨h.1.1,h.2.1.1,h.2.2.1.1⟩,h.1.2,h.2.1.2,h.2.2.1.2⟩,rfl⟩)
theorem dec_replicas:DecS Go.Proofs.Tryz.prog W 25 (fun l:List Replica=>[.vs (l.map (encReplica false)) false]) (fun l=>(∀ s∈l,rangeP s∧okP' s)∧lenOK l):=DecS.slice (sz:=6) Go.Proofs.Tryz.underlying25 (by kernel_rfl) (by omega) (dec_replica W)
theorem dec_thread:DecS Go.Proofs.Tryz.prog W 46 (encThread false) (fun t=>rangeT t∧okTh t):=
 @DecS.struct _ _ _ _ 12 _ _ _ _ _ _ Go.Proofs.Tryz.underlying46 (by kernel_rfl) (@DecFS.cons _ _ _ _ _ 1 _ _ _ _ _ _ _ (by rfl) (by kernel_rfl) (dec_i W) (@DecFS.cons _ _ _ _ _ 3 _ _ _ _ _ _ _ (by rfl) (by kernel_rfl) (dec_op W) (@DecFS.cons _ _ _ _ _ 1 _ _ _ _ _ _ _ (by rfl) (by kernel_rfl) (dec_i W) (@DecFS.cons _ _ _ _ _ 1 _ _ _ _ _ _ _ (by rfl) (by kernel_rfl) (dec_i W) (@DecFS.cons _ _ _ _ _ 1 _ _ _ _ _ _ _ (by rfl) (by kernel_rfl) (dec_ints W) (@DecFS.cons _ _ _ _ _ 1 _ _ _ _ _ _ _ (by rfl) (by kernel_rfl) (dec_i W) (@DecFS.cons _ _ _ _ _ 1 _ _ _ _ _ _ _ (by rfl) (by kernel_rfl) (dec_b W) (@DecFS.cons _ _ _ _ _ 1 _ _ _ _ _ _ _ (by rfl) (by kernel_rfl) (dec_b W) (@DecFS.cons _ _ _ _ _ 1 _ _ _ _ _ _ _ (by rfl) (by kernel_rfl) (dec_i W) (@DecFS.cons _ _ _ _ _ 1 _ _ _ _ _ _ _ (by rfl) (by kernel_rfl) (dec_ints W) (@DecFS.nil _ _ 12)))))))))))
  (fun a=>⟨a.1,a.2.1,a.2.2.1,a.2.2.2.1,a.2.2.2.2.1,a.2.2.2.2.2.1,a.2.2.2.2.2.2.1,a.2.2.2.2.2.2.2.1,a.2.2.2.2.2.2.2.2.1,a.2.2.2.2.2.2.2.2.2.1⟩)
  (fun a h=>by
   obtain⟨h1,h2,h3,h4,h5,h6,h7,h8,h9,h10,_⟩:=h
   exact⟨⟨⟨h1,h2,h3,h4,h5.1,h6,h9,h10.1⟩,h5.2,h10.2⟩,rfl⟩)
theorem dec_threads:DecS Go.Proofs.Tryz.prog W 26 (fun l:List Thread=>[.vs (l.map (encThread false)) false]) (fun l=>(∀ s∈l,rangeT s∧okTh s)∧lenOK l):=DecS.slice (sz:=12) Go.Proofs.Tryz.underlying26 (by kernel_rfl) (by omega) (dec_thread W)
theorem dec_event:DecS Go.Proofs.Tryz.prog W 73 encEvent rangeE:=
 @DecS.struct _ _ _ _ 6 _ _ _ _ _ _ Go.Proofs.Tryz.underlying73 (by kernel_rfl) (@DecFS.cons _ _ _ _ _ 1 _ _ _ _ _ _ _ (by rfl) (by kernel_rfl) (dec_i W) (@DecFS.cons _ _ _ _ _ 1 _ _ _ _ _ _ _ (by rfl) (by kernel_rfl) (dec_b W) (@DecFS.cons _ _ _ _ _ 3 _ _ _ _ _ _ _ (by rfl) (by kernel_rfl) (dec_op W) (@DecFS.cons _ _ _ _ _ 1 _ _ _ _ _ _ _ (by rfl) (by kernel_rfl) (dec_i W) (@DecFS.nil _ _ 6)))))
  (fun a=>⟨a.1,a.2.1,a.2.2.1,a.2.2.2.1⟩) (fun a h=>⟨⟨h.1,h.2.2.1,h.2.2.2.1⟩,rfl⟩)
theorem dec_events:DecS Go.Proofs.Tryz.prog W 27 (fun l:List Ab.Event=>[.vs (l.map encEvent) false]) (fun l=>(∀ s∈l,rangeE s)∧lenOK l):=DecS.slice (sz:=6) Go.Proofs.Tryz.underlying27 (by kernel_rfl) (by omega) (dec_event W)
theorem dec_machine:DecS Go.Proofs.Tryz.prog W 29 (encMachine false) (fun m=>rangeM m∧okM m):=
 @DecS.struct _ _ _ _ 9 _ _ _ _ _ _ Go.Proofs.Tryz.underlying29 (by kernel_rfl) (@DecFS.cons _ _ _ _ _ 5 _ _ _ _ _ _ _ (by rfl) (by kernel_rfl) (dec_config W) (@DecFS.cons _ _ _ _ _ 1 _ _ _ _ _ _ _ (by rfl) (by kernel_rfl) (dec_rings W) (@DecFS.cons _ _ _ _ _ 1 _ _ _ _ _ _ _ (by rfl) (by kernel_rfl) (dec_replicas W) (@DecFS.cons _ _ _ _ _ 1 _ _ _ _ _ _ _ (by rfl) (by kernel_rfl) (dec_threads W) (@DecFS.cons _ _ _ _ _ 1 _ _ _ _ _ _ _ (by rfl) (by kernel_rfl) (dec_events W) (@DecFS.nil _ _ 9))))))
  (fun a=>⟨a.1,a.2.1,a.2.2.1,a.2.2.2.1,a.2.2.2.2.1⟩)
  (fun a h=>by
   obtain⟨h1,h2,h3,h4,h5,_⟩:=h
   exact⟨⟨⟨h1,fun r hr=>(h2.1 r hr).1,fun r hr=>(h3.1 r hr).1,fun r hr=>(h4.1 r hr).1,h5.1⟩,⟨h2.2,fun r hr=>(h2.1 r hr).2⟩,⟨h3.2,fun r hr=>(h3.1 r hr).2⟩,⟨h4.2,fun r hr=>(h4.1 r hr).2⟩,h5.2⟩,rfl⟩)
end

end Go.Proofs.YtbnmnlijdoabkaaGreat
