/-
  Calls of functions of Go's library that are told by what they do, by value.
  The data of the statements, told by value, and the rules that simp uses to step.
  Conditions: none.
-/
import Derived.Test.YtbnmnlijdoabkaaGreatGd
import Derived.Test.YtbnmnlijdoabkaaGreatGx

set_option linter.unusedSimpArgs false
set_option linter.unusedVariables false

namespace Go.Ab

def rowT (ns:List Int):List (List AV):=ns.map fun n=>[AV.int .i64 n]

def numRow:List (List AV)→Option (List Int)
 | []=>some []
 | [.int .i64 n]::rs=>(numRow rs).map (n::·)
 | _::_=>none

theorem numRow_rowT:∀ (ns:List Int),numRow (rowT ns)=some ns
 | []=>rfl
 | n::ns=>by
  show (numRow (rowT ns)).map (n::·)=_
  rw[numRow_rowT ns];rfl

theorem numRow_spec:∀ {rows:List (List AV)} {ns:List Int},numRow rows=some ns→rows=rowT ns
 | [],ns,h=>by simp only[numRow,Option.some.injEq] at h;subst h;rfl
 | r::rs,ns,h=>by
  unfold numRow at h
  split at h
  ·rename_i e;cases e
  ·rename_i n rs' e
   cases e
   obtain⟨ms,h1,rfl⟩:=map_some h
   rw[numRow_spec h1];rfl
  ·cases h

theorem rowT_length (ns:List Int):(rowT ns).length=ns.length:=by simp[rowT]
theorem rowT_flatten:∀ (ns:List Int),(rowT ns).flatten=ns.map fun n=>AV.int .i64 n
 | []=>rfl
 | n::ns=>by
  have:=rowT_flatten ns
  simp only[rowT,List.map_cons,List.flatten_cons] at this ⊢
  rw[this];rfl
theorem numsOf_ints:∀ (ns:List Int),numsOf (ns.map fun n=>AV.int .i64 n)=some ns
 | []=>rfl
 | n::ns=>by simp only[List.map_cons,numsOf,numsOf_ints ns,Option.map_some]

theorem own_row {H:AH} (hw:WH H) {h:AV} {ns:List Int} {z:Bool} {S:List Nat} (ho:Own H [h] [.vs (rowT ns) z] S) (hz:ns=[]→z=true) :
  ∃ H1,ownRow H h=some (ns,H1)∧(H1=H∨∃ b∈S,b<H.next∧H1=H.put b .dead)∧(∀ vb,ns≠[]→blkA h=some vb→vb∈S):=by
 by_cases hn:ns=[]
 ·subst hn
  have:=hz rfl
  subst this
  obtain⟨h0,h1⟩:=own_vs_nil ho
  have he:=h1 rfl
  refine⟨H, ?_,.inl rfl,fun vb hne=>absurd rfl hne⟩
  unfold empV at he
  split at he
  ·rfl
  ·rfl
  ·simp[ownRow]
  ·cases he
 ·have hne:rowT ns≠[]:=fun e=>by
   have:=congrArg List.length e
   rw[rowT_length] at this
   exact hn (List.length_eq_zero_iff.1 this)
  obtain⟨b,o,sz,ex,cs,S1,rfl,rfl,hr,hzs,h1⟩:=ho.inv hne
  have hsz:sz=1:=by
   cases ns with
   | nil=>exact absurd rfl hn
   | cons n ns=>have:=hzs [AV.int .i64 n] (by simp[rowT]);simpa using this.symm
  subst hsz
  rw[rowT_flatten] at h1
  obtain⟨rfl,rfl⟩:=own_flat h1 (by simp[flatV])
  rw[rowT_length] at hr ⊢
  have hb:b<H.next:=by
   obtain⟨xs,hg,_,_⟩:=read_some hr
   exact hw.lt hg (by simp)
  refine⟨H.put b .dead, ?_,.inr ⟨b,by simp,hb,rfl⟩,fun vb _ hvb=>by cases hvb;simp⟩
  have hl:ns.length≠0:=fun e=>hn (List.length_eq_zero_iff.1 e)
  rw[Nat.mul_one] at hr
  simp only[ownRow,if_neg hl,Nat.le_refl,and_self,if_true,hr,numsOf_ints,Option.map_some]

section
variable {M:FuncId→Option MFunc} {A:Anc} {T:TH} {H:AH} {E:TE} {e:Env}

theorem HR.hframe (hm:HR A T H) {H':AH} (hw:WH H') (hf:∀ r x,T.get r≠.dead→x∈A.S r→H'.get x=H.get x):HR A T H'∧Gr A T H A T H':=by
 have alive:∀ {o:TO} {p g},o.valid p g=true→o≠.dead:=fun h e=>by subst e;cases h
 have hg:Gr A T H A T H':=Gr.mk (Nat.le_refl _) (fun k hk hd=>⟨hd,Nat.le_refl _⟩) fun k hk p g hgl hv=>⟨hv,fun h=>⟨h,hm.follow h fun x hx=>hf k x (alive hv) hx⟩⟩
 refine⟨hm.change hw hg (fun k=>?_) hm.apart hm.top,hg⟩
 by_cases hd:T.get k=.dead
 ·exact .inr (.inl hd)
 ·exact .inl ⟨rfl,rfl,rfl,fun x hx=>hf k x hd hx⟩

theorem lay_row (hm:HR A T H) {H1:AH} {S:List Nat} (hS:∀ k x,T.get k≠.dead→x∈S→x∉A.S k) (h1:H1=H∨∃ b∈S,b<H.next∧H1=H.put b .dead) (ns:List Int) :
  ∃ A',HR A' (T.new (.tree (rowT ns) false [])) (layRow H1 ns).2∧Gr A T H A' (T.new (.tree (rowT ns) false [])) (layRow H1 ns).2∧VR A' (T.new (.tree (rowT ns) false [])) (layRow H1 ns).2 (.sl T.next [] 0 0 ns.length true) (layRow H1 ns).1:=by
 obtain⟨m1,m2⟩:HR A T H1∧Gr A T H A T H1:=by
  rcases h1 with rfl|⟨b,hb,hlt,rfl⟩
  ·exact⟨hm,Gr.refl⟩
  ·refine hm.hframe (hm.wh.put hlt _) fun r x hr hx=>?_
   rw[AH.get_put',if_neg]
   rintro rfl
   exact hS r b hr hb hx
 obtain⟨m3,m4⟩:=m1.hnew (.cells (ns.map fun n=>.int .i64 n))
 have hown:∃ F,Own (layRow H1 ns).2 [(layRow H1 ns).1] [.vs (rowT ns) false] F∧F.Nodup∧∀ x∈F,x=H1.next:=by
  by_cases hn:ns=[]
  ·subst hn
   exact⟨[],.emp rfl (fun e=>by cases e) .nil,by simp,by simp⟩
  ·have hne:rowT ns≠[]:=fun e=>by
    have:=congrArg List.length e
    rw[rowT_length] at this
    exact hn (List.length_eq_zero_iff.1 this)
   have:=Own.sl (H:=(layRow H1 ns).2) (b:=H1.next) (o:=0) (sz:=1) (ex:=false) (z:=false) (rows:=rowT ns) (cs:=ns.map fun n=>.int .i64 n) (S1:=[]) (S2:=[]) (hs:=[]) (ts:=[]) hne (by
    unfold AH.read layRow
    rw[AH.get_new_self]
    simp only[slice,rowT_length]
    rw[if_pos (by simp),List.drop_zero,List.take_of_length_le (by simp)]) (by
    intro row hr
    obtain⟨n,_,rfl⟩:=List.mem_map.1 hr
    rfl) (by rw[rowT_flatten];exact flat_own (by simp[flatV])) .nil
   rw[rowT_length] at this
   have this2:Own (layRow H1 ns).2 [AV.sl H1.next 0 1 ns.length ns.length false] [AV.vs (rowT ns) false] [H1.next]:=by simpa using this
   exact⟨[H1.next],this2,by simp,by simp⟩
 obtain⟨F,o1,o2,o3⟩:=hown
 obtain⟨A',k1,k2,k3,_⟩:=m3.addRoot (rows:=rowT ns) (z:=false) o1 o2 (fun k x hk hx hx'=>by
  have:=m1.Slt hk hx'
  rw[o3 x hx] at this
  omega)
 have:=new_slice (A':=A') (T':=T.new (.tree (rowT ns) false [])) (r:=T.next) (g:=0) (by rw[TH.next_new];exact Nat.lt_succ_self _) (by rw[TH.get_new,if_pos rfl]) k3 o1 (Nat.zero_le _)
 rw[rowT_length] at this
 exact⟨A',k1,m2.trans (m4.trans k2),this⟩

theorem WC.ext {k:Nat} {v:AV} {H':AH} {Q:Out→Env→AH→Prop} (h:extA k (e.get 0) (e.get 1) (e.get 2) H=some (v,H')) (hq:Q .normal (e.put (some 3) v) H'):WC M (.ext k) e H Q:=
 ⟨0,.normal,_,H',by simp only[runCode,h,Option.map_some],hq⟩

theorem WCT.ins {Q:Out→TE→TH→Prop} {rows:List (List AV)} {z z2:Bool} {T1:TH} {ns:List Int} {i x:Int} {r2 g:Nat} {log:List Path} (h0:outC T (E.get 0)=some (.vs rows z,T1)) (hn:numRow rows=some ns) (hz:ns=[]→z=true) (h1:E.get 1=.a (.int .i64 i))
  (h2:E.get 2=.sl r2 [] g 0 1 true) (hv:(T1.get r2).valid [] g=true) (h3:T1.get r2=.tree [[.int .i64 x]] z2 log) (hc:0≤i∧i≤ns.length∧ns.length<1048576)
  (hq:Q .normal (E.put (some 3) (.sl T1.next [] 0 0 (ns.take i.toNat++x::ns.drop i.toNat).length true)) (T1.new (.tree (rowT (ns.take i.toNat++x::ns.drop i.toNat)) false []))):WCT M (.ext 1) E T Q:=by
 intro A e H hs
 have hrows:=numRow_spec hn
 subst hrows
 obtain⟨A1,S,k1,k2⟩:=outC_sound hs.mem (hs.slot 0) h0
 obtain⟨H1,o1,o2,o3⟩:=own_row k1.mem.wh k2 hz
 have vb:=hs.slot 1
 rw[h1] at vb
 have vb:=vb.inv_a
 have vc:=k1.gr _ _ (hs.slot 2)
 rw[h2] at vc
 generalize hce:e.get 2=c at vc
 cases vc with
 | sl _ _ _ _ _ _ _ hlt hg hln hx=>
  obtain⟨_,hd,q1,q2,_⟩:=hx hv
  rw[followH_nil] at q1
  cases q1
  obtain⟨q2,_⟩:=q2 rfl
  obtain⟨w1,_⟩:=k1.mem.tree r2 _ _ _ h3
  obtain⟨b,o,sz,ex,cs,S1,w2,w3,w4,w5,w6⟩:=w1.inv (by simp)
  obtain⟨rfl,rfl⟩:=own_flat w6 (by simp[flatV])
  have hsz:sz=1:=by simpa using (w5 [.int .i64 x] (by simp)).symm
  subst hsz
  rw[w2] at q2
  subst q2
  have hb:b∈A1.S r2:=by rw[w3];simp
  have hal:T1.get r2≠.dead:=by rw[h3];simp
  obtain⟨A',m1,m2,m3⟩:=lay_row k1.mem k1.apart o2 (ns.take i.toNat++x::ns.drop i.toNat)
  refine WC.ext (v:=(layRow H1 (ns.take i.toNat++x::ns.drop i.toNat)).1) (H':=(layRow H1 (ns.take i.toNat++x::ns.drop i.toNat)).2) ?_ ⟨A',_,_,(hs.grow (k1.gr.trans m2) m1).put m3 (some 3),k1.gr.trans m2,hq⟩
  have w4':H.read b o 1=some [.int .i64 x]:=w4
  unfold extA
  simp only[o1,vb,hce,List.length_singleton,w4']
  have hbl:ns=[]∨blkA (e.get 0)≠some b:=by
   by_cases hn0:ns=[]
   ·exact .inl hn0
   ·exact .inr fun hbl=>k1.apart r2 b hal (o3 b hn0 hbl) hb
  rw[if_pos ⟨hc.1,hc.2.1,hc.2.2,hbl⟩]

theorem WCT.del {Q:Out→TE→TH→Prop} {rows:List (List AV)} {z:Bool} {T1:TH} {ns:List Int} {i j:Int} (h0:outC T (E.get 0)=some (.vs rows z,T1)) (hn:numRow rows=some ns) (hz:ns=[]→z=true) (h1:E.get 1=.a (.int .i64 i))
  (h2:E.get 2=.a (.int .i64 j)) (hc:0≤i∧i<ns.length∧j=i+1)
  (hq:Q .normal (E.put (some 3) (.sl T1.next [] 0 0 (ns.take i.toNat++ns.drop (i.toNat+1)).length true)) (T1.new (.tree (rowT (ns.take i.toNat++ns.drop (i.toNat+1))) false []))):WCT M (.ext 2) E T Q:=by
 intro A e H hs
 have hrows:=numRow_spec hn
 subst hrows
 obtain⟨A1,S,k1,k2⟩:=outC_sound hs.mem (hs.slot 0) h0
 obtain⟨H1,o1,o2,o3⟩:=own_row k1.mem.wh k2 hz
 have vb:=hs.slot 1
 rw[h1] at vb
 have vb:=vb.inv_a
 have vc:=hs.slot 2
 rw[h2] at vc
 have vc:=vc.inv_a
 obtain⟨A',m1,m2,m3⟩:=lay_row k1.mem k1.apart o2 (ns.take i.toNat++ns.drop (i.toNat+1))
 refine WC.ext (v:=(layRow H1 (ns.take i.toNat++ns.drop (i.toNat+1))).1) (H':=(layRow H1 (ns.take i.toNat++ns.drop (i.toNat+1))).2) ?_ ⟨A',_,_,(hs.grow (k1.gr.trans m2) m1).put m3 (some 3),k1.gr.trans m2,hq⟩
 unfold extA
 simp only[o1,vb,vc]
 rw[if_pos hc]

theorem WCT.bs {Q:Out→TE→TH→Prop} {rows:List (List AV)} {z:Bool} {T1:TH} {ns:List Int} {x:Int} (h0:outC T (E.get 0)=some (.vs rows z,T1)) (hn:numRow rows=some ns) (hz:ns=[]→z=true) (h1:E.get 1=.a (.int .i64 x))
  (hc:ns.Pairwise (·≤·)∧ns.length<1048576)
  (hq:Q .normal (E.put (some 3) (.a (.tup [.int .i64 (ns.countP (· < x):Nat),.bool (ns.contains x)]))) T):WCT M (.ext 3) E T Q:=by
 intro A e H hs
 have hrows:=numRow_spec hn
 subst hrows
 obtain⟨A1,S,k1,k2⟩:=outC_sound hs.mem (hs.slot 0) h0
 obtain⟨H1,o1,o2,o3⟩:=own_row k1.mem.wh k2 hz
 have vb:=hs.slot 1
 rw[h1] at vb
 have vb:=vb.inv_a
 refine WC.ext (v:=.tup [.int .i64 (ns.countP (· < x):Nat),.bool (ns.contains x)]) (H':=H) ?_ ⟨A,_,_,hs.put (.a _) (some 3),Gr.refl,hq⟩
 unfold extA
 simp only[o1,vb]
 rw[if_pos hc]

theorem WCT.grow {Q:Out→TE→TH→Prop} {n:Int} (h0:E.get 0=.a .nils) (h1:E.get 1=.a (.int .i64 n)) (hn:0≤n∧n≤1048576)
  (hq0:n=0→Q .normal (E.put (some 3) (.a .nils)) T) (hq:0<n→Q .normal (E.put (some 3) (.rs T.next 0 0 false)) (T.new (.raw []))):WCT M (.ext 4) E T Q:=by
 intro A e H hs
 have va:=hs.slot 0
 rw[h0] at va
 have va:=va.inv_a
 have vb:=hs.slot 1
 rw[h1] at vb
 have vb:=vb.inv_a
 by_cases hz:n=0
 ·refine WC.ext (v:=.nils) (H':=H) ?_ ⟨A,_,_,hs.put (.a _) (some 3),Gr.refl,hq0 hz⟩
  unfold extA
  simp only[va,vb]
  rw[if_pos hz]
 ·obtain⟨A',k1,k2,k3,_⟩:=hs.mem.newRoot (o:=.raw []) (ho:=.cells []) (hd:=.sl H.next 0 0 1 1 true) (F:=[H.next]) (fun x hx=>.inl (by simpa using hx)) (fun A' hg h1 h2=>
   .inr (.inl ⟨[],H.next,[],rfl,rfl,rfl,AH.get_new_self _ _,VRL.nil⟩))
  refine WC.ext (v:=.sl H.next 0 1 0 0 false) (H':=H.new (.cells [])) ?_ ⟨A',_,_,(hs.grow k2 k1).put (.rs _ _ _ _ _ (by rw[TH.next_new];omega) rfl fun _=>⟨by rw[TH.get_new,if_pos rfl];simp[TO.node,TO.rows,nodeA],H.next,0,by rw[followH_nil,k3],rfl,Nat.le_refl _⟩) (some 3),k2,hq (by omega)⟩
  unfold extA
  simp only[va,vb]
  rw[if_neg hz,if_pos (by omega)]
  rfl

theorem CallT.grow {k:FuncId} {n:Int} {K:TV→TH→Prop} (hM:M k=some growF) (hn:0≤n∧n≤1048576) (hq0:n=0→K (.a .nils) T) (hq:0<n→K (.rs T.next 0 0 false) (T.new (.raw []))):CallT M false k [.a .nils,.a (.int .i64 n)] T K:=by
 refine CallT.body hM rfl rfl rfl (show WCT M (.ext 4) _ _ _ from WCT.grow (n:=n) rfl rfl hn (fun h=>?_) (fun h=>?_))
 ·simp only[FinT,growF,resultsT,mapO,resOfT,valT,TE.raw,TE.get,TE.put,TE.set,Tr.get_set_eq,Option.getD_some,TV.free,AV.free,if_true]
  exact hq0 h
 ·simp only[FinT,growF,resultsT,mapO,resOfT,valT,TE.raw,TE.get,TE.put,TE.set,Tr.get_set_eq,Option.getD_some,TV.free,AV.free,if_true]
  exact hq h

theorem CallT.ins {k:FuncId} {a:TV} {K:TV→TH→Prop} {rows:List (List AV)} {z z2:Bool} {T1:TH} {ns:List Int} {i x:Int} {r2 g:Nat} {log:List Path} (hM:M k=some insF) (h0:outC T a=some (.vs rows z,T1)) (hf:a.free=true) (hn:numRow rows=some ns) (hz:ns=[]→z=true)
  (hv:(T1.get r2).valid [] g=true) (h3:T1.get r2=.tree [[.int .i64 x]] z2 log) (hc:0≤i∧i≤ns.length∧ns.length<1048576)
  (hq:K (.sl T1.next [] 0 0 (ns.take i.toNat++x::ns.drop i.toNat).length true) (T1.new (.tree (rowT (ns.take i.toNat++x::ns.drop i.toNat)) false []))):CallT M false k [a,.a (.int .i64 i),.sl r2 [] g 0 1 true] T K:=by
 refine CallT.body hM rfl rfl (by simp only[List.all_cons,List.all_nil,hf];rfl) (show WCT M (.ext 1) _ _ _ from WCT.ins (x:=x) (i:=i) (r2:=r2) (g:=g) h0 hn hz rfl rfl hv h3 hc ?_)
 simp only[FinT,insF,resultsT,mapO,resOfT,valT,TE.raw,TE.get,TE.put,TE.set,Tr.get_set_eq,Option.getD_some,TV.free,if_true]
 exact hq

theorem CallT.del {k:FuncId} {a:TV} {K:TV→TH→Prop} {rows:List (List AV)} {z:Bool} {T1:TH} {ns:List Int} {i j:Int} (hM:M k=some delF) (h0:outC T a=some (.vs rows z,T1)) (hf:a.free=true) (hn:numRow rows=some ns) (hz:ns=[]→z=true)
  (hc:0≤i∧i<ns.length∧j=i+1)
  (hq:K (.sl T1.next [] 0 0 (ns.take i.toNat++ns.drop (i.toNat+1)).length true) (T1.new (.tree (rowT (ns.take i.toNat++ns.drop (i.toNat+1))) false []))):CallT M false k [a,.a (.int .i64 i),.a (.int .i64 j)] T K:=by
 refine CallT.body hM rfl rfl (by simp only[List.all_cons,List.all_nil,hf];rfl) (show WCT M (.ext 2) _ _ _ from WCT.del (i:=i) (j:=j) h0 hn hz rfl rfl hc ?_)
 simp only[FinT,delF,resultsT,mapO,resOfT,valT,TE.raw,TE.get,TE.put,TE.set,Tr.get_set_eq,Option.getD_some,TV.free,if_true]
 exact hq

theorem CallT.bs {k:FuncId} {a:TV} {K:TV→TH→Prop} {rows:List (List AV)} {z:Bool} {T1:TH} {ns:List Int} {x:Int} (hM:M k=some bsF) (h0:outC T a=some (.vs rows z,T1)) (hf:a.free=true) (hn:numRow rows=some ns) (hz:ns=[]→z=true)
  (hc:ns.Pairwise (·≤·)∧ns.length<1048576)
  (hq:K (.a (.tup [.int .i64 (ns.countP (· < x):Nat),.bool (ns.contains x)])) T):CallT M false k [a,.a (.int .i64 x)] T K:=by
 refine CallT.body hM rfl rfl (by simp only[List.all_cons,List.all_nil,hf];rfl) (show WCT M (.ext 3) _ _ _ from WCT.bs (x:=x) h0 hn hz rfl hc ?_)
 simp only[FinT,bsF,resultsT,mapO,resOfT,valT,TE.raw,TE.get,TE.put,TE.set,Tr.get_set_eq,Option.getD_some,TV.free,AV.free,if_true]
 exact hq

def unzP:AV→AV
 | .agg ts=>.agg (ts.map (unz 8))
 | t=>unz 8 t
def unzT:AV→AV
 | .tup ts=>.tup (ts.map unzP)
 | t=>unzP t

theorem Own.unz {hs ts:List AV} {S:List Nat} (h:Own H hs ts S):∀ d,ts.all (okC d)=true→Own H hs (ts.map (Ab.unz d)) S:=by
 induction h with
 | nil=>intro d _;exact .nil
 | @flat v hs ts S hf _ ih=>
  intro d hd
  simp only[List.all_cons,Bool.and_eq_true] at hd
  rw[List.map_cons,unz_flat hf]
  exact .flat hf (ih d hd.2)
 | @emp v z hs ts S h0 hf _ ih=>
  intro d hd
  simp only[List.all_cons,Bool.and_eq_true] at hd
  cases d with
  | zero=>simp[okC] at hd
  | succ d=>
   rw[List.map_cons]
   exact .emp h0 (fun e=>by cases e) (ih _ hd.2)
 | mark hf _ ih=>intro d hd;simp only[List.all_cons,Bool.and_eq_true] at hd;cases d<;>simp[okC,flatV] at hd
 | hole _ ih=>intro d hd;simp only[List.all_cons,Bool.and_eq_true] at hd;cases d<;>simp[okC,flatV] at hd
 | cut _ _ _ _ _ _ _=>intro d hd;simp only[List.all_cons,Bool.and_eq_true] at hd;cases d<;>simp[okC,flatV] at hd
 | @sl b o sz ex z rows cs hs ts S1 S2 hne hr hz _ _ ih1 ih2=>
  intro d hd
  simp only[List.all_cons,Bool.and_eq_true] at hd
  cases d with
  | zero=>simp[okC] at hd
  | succ d=>
   have h1:rows.all (fun row=>row.all (okC d))=true:=hd.1
   have h2:=ih1 d (all_flatten h1)
   have e1:(rows.flatten).map (Ab.unz d)=(rows.map fun row=>row.map (Ab.unz d)).flatten:=by rw[List.map_flatten]
   rw[e1] at h2
   have:=Own.sl (H:=H) (b:=b) (o:=o) (sz:=sz) (ex:=ex) (z:=false) (rows:=rows.map fun row=>row.map (Ab.unz d)) (fun e=>hne (List.map_eq_nil_iff.1 e)) (by rw[List.length_map];exact hr) (by
    intro row hrow
    obtain⟨r0,h0,rfl⟩:=List.mem_map.1 hrow
    rw[List.length_map];exact hz r0 h0) h2 (ih2 _ hd.2)
   rw[List.length_map] at this
   exact this

theorem unz_notup {d:Nat} {t:AV} (h:∀ x,t≠.tup x):∀ x,Ab.unz d t≠.tup x:=by
 intro x
 cases t with
 | vs rows z=>cases d<;>(intro e;cases e)
 | tup ts=>exact absurd rfl (h ts)
 | _=>cases d<;>(intro e;cases e)

theorem Lf.unz {h t:AV} {S:List Nat} (hl:Lf H h t S) (hok:okP t=true):Lf H h (unzP t) S:=by
 cases hl with
 | agg ho=>exact .agg (ho.unz 8 hok)
 | cell hn ho=>
  have h8:okC 8 t=true:=by
   cases t with
   | agg ts=>cases ho with|flat hf=>simp[flatV] at hf
   | _=>exact hok
  have e:unzP t=Ab.unz 8 t:=by
   cases t with
   | agg ts=>simp[okC,flatV] at h8
   | _=>rfl
  rw[e]
  exact .cell (unz_notup hn) (by simpa using ho.unz 8 (by simpa using h8))

theorem LfT.unz {h t:AV} {S:List Nat} (hl:LfT H h t S) (hok:okT t=true):LfT H h (unzT t) S:=by
 cases hl with
 | tup hl=>
  have hok':(∀ x∈_,okP x=true):=List.all_eq_true.1 hok
  clear hok
  refine .tup ?_
  induction hl with
  | nil=>exact .nil
  | cons h1 _ ih=>exact .cons (h1.unz (hok' _ (by simp))) (ih fun x hx=>hok' x (by simp[hx]))
 | one hl=>
  have e:unzT t=unzP t:=by
   cases t with
   | tup ts=>
    cases hl with
    | cell hn ho=>exact absurd rfl (hn ts)
   | _=>rfl
  have hok':okP t=true:=by
   cases t with
   | tup ts=>
    cases hl with
    | cell hn ho=>exact absurd rfl (hn ts)
   | _=>exact hok
  rw[e]
  exact .one (hl.unz hok')

theorem PCall.bodyZ {k:FuncId} {F:MFunc} {ts:List AV} {tr:AV} (hM:M k=some F) (hp:F.pure=true) (hb:F.both=false) (hn:ts.length=F.nargs) (hfree:ts.all AV.free=true)
  (h:wpc M F.body (startT (ts.map .a)) TH.none (FinT F.res fun v T1=>∃ t,outT T1 v=some t∧okT t=true∧unzT t=tr)):PCall M k ts tr:=by
 intro args H hw ht
 have hs:=start_SRT HR.none (VRL.atoms (A:=⟨fun _=>.nils,fun _=>[]⟩) (T:=TH.none) (H:=AH.none) ts)
 have hbody:=WC.mono (wpc_sound h _ _ _ hs) (Q':=Fin F.res fun x H'=>∃ t S,okT t=true∧unzT t=tr∧S.Nodup∧LfT H' x t S) (by
  rintro o e1 H1 ⟨A1,E1,T1,k1,k2,k3⟩
  have hfin:=FinT_sound k1 k3
  cases o with
  | exit id=>exact hfin
  | normal=>obtain⟨x,m1,_,v,m2,t,m3,m4,m5⟩:=hfin;obtain⟨S,m6,m7⟩:=outT_sound k1.mem m2 m3;exact⟨x,m1,t,S,m4,m5,m6,m7⟩
  | ret=>obtain⟨x,m1,_,v,m2,t,m3,m4,m5⟩:=hfin;obtain⟨S,m6,m7⟩:=outT_sound k1.mem m2 m3;exact⟨x,m1,t,S,m4,m5,m6,m7⟩)
 obtain⟨r1,H1,⟨n,k1⟩,t,S,hok,htr,k2,k3⟩:=Pu.body hn hfree hbody
 obtain⟨r,u,H',m1,m2,S',m3,m4⟩:=lift_LfT k3 hok k2 hw
 have k1':Ab.evalF (eval M n) n F ts { objs:=.nil,next:=0,lo:=0 }=some (r1,H1):=k1
 have hpc:pureC (Ab.evalF (eval M n) n F) args H=some (r,H'):=by
  simp only[pureC,ht,k1',m1,Option.map_some]
 have hlo:H'.lo=H.lo:=by
  obtain⟨_,_,_,_,_,_,h3⟩:=pureC_spec hpc
  exact (lift_G _ _ _ _ _ _ _ _ h3 hw).2
 refine⟨r,H',⟨n+1, ?_⟩,m2.wh,m2.next,hlo,m2.old,S', ?_,m4⟩
 ·simp only[eval,hM,hp,if_true,pureB,hb,Bool.false_eq_true,if_false]
  exact hpc
 ·rw[← htr];exact m3.unz hok

end
end Go.Ab

namespace Go.Ab

def i64 (n:Int):AV:=.int .i64 n

structure Op where
 code:Int
 row:Int
 arg:Int
 deriving DecidableEq

structure Slot where
 op:Op
 thread:Int
 bit:Int
 deriving DecidableEq

structure Ring where
 head:Int
 tail:Int
 fence:Int
 slots:List Slot
 deriving DecidableEq

structure Config where
 object:Int
 replicas:Int
 logs:Int
 threads:Int
 slots:Int
 deriving DecidableEq

structure State where
 r0:List Int
 r1:List Int
 r2:List Int
 r3:List Int
 deriving DecidableEq

structure Replica where
 state:State
 cursors:List Int
 locks:List Int
 deriving DecidableEq

structure Thread where
 step:Int
 op:Op
 log:Int
 seen:Int
 batch:List Int
 at_:Int
 posted:Bool
 ready:Bool
 answer:Int
 tails:List Int
 deriving DecidableEq

structure Event where
 thread:Int
 call:Bool
 op:Op
 answer:Int
 deriving DecidableEq

structure Machine where
 config:Config
 rings:List Ring
 replicas:List Replica
 threads:List Thread
 history:List Event
 deriving DecidableEq

@[reducible] def encInt (n:Int):List AV:=[.int .i64 n]
@[reducible] def encOp (o:Op):List AV:=[.int .i64 o.code,.int .i64 o.row,.int .i64 o.arg]
@[reducible] def encSlot (s:Slot):List AV:=[.int .i64 s.op.code,.int .i64 s.op.row,.int .i64 s.op.arg,.int .i64 s.thread,.int .i64 s.bit]
@[reducible] def encRing (z:Bool) (r:Ring):List AV:=[.int .i64 r.head,.int .i64 r.tail,.int .i64 r.fence,.vs (r.slots.map encSlot) z]
@[reducible] def encConfig (c:Config):List AV:=[.int .i64 c.object,.int .i64 c.replicas,.int .i64 c.logs,.int .i64 c.threads,.int .i64 c.slots]
@[reducible] def encState (z:Bool) (s:State):List AV:=[.vs (s.r0.map encInt) z,.vs (s.r1.map encInt) z,.vs (s.r2.map encInt) z,.vs (s.r3.map encInt) z]
@[reducible] def encReplica (z:Bool) (r:Replica):List AV:=[.vs (r.state.r0.map encInt) z,.vs (r.state.r1.map encInt) z,.vs (r.state.r2.map encInt) z,.vs (r.state.r3.map encInt) z,.vs (r.cursors.map encInt) z,.vs (r.locks.map encInt) z]
@[reducible] def encThread (z:Bool) (t:Thread):List AV:=[.int .i64 t.step,.int .i64 t.op.code,.int .i64 t.op.row,.int .i64 t.op.arg,.int .i64 t.log,.int .i64 t.seen,.vs (t.batch.map encInt) z,.int .i64 t.at_,.bool t.posted,.bool t.ready,.int .i64 t.answer,.vs (t.tails.map encInt) z]
@[reducible] def encEvent (e:Event):List AV:=[.int .i64 e.thread,.bool e.call,.int .i64 e.op.code,.int .i64 e.op.row,.int .i64 e.op.arg,.int .i64 e.answer]
@[reducible] def encMachine (z:Bool) (m:Machine):List AV:=[.int .i64 m.config.object,.int .i64 m.config.replicas,.int .i64 m.config.logs,.int .i64 m.config.threads,.int .i64 m.config.slots,.vs (m.rings.map (encRing z)) z,.vs (m.replicas.map (encReplica z)) z,.vs (m.threads.map (encThread z)) z,.vs (m.history.map encEvent) z]

theorem TE.get_put (E:TE) (t k:Nat) (v:TV):(E.put (some t) v).get k=if t=k then v else E.get k:=by
 unfold TE.put TE.set TE.get;simp only[Tr.get_set];split<;>rfl
theorem TE.put_none (E:TE) (v:TV):E.put none v=E:=rfl
theorem TE.get_loc (E:TE) (cs:List TV) (k:Nat):(E.loc cs).get k=E.get k:=rfl
theorem TE.get_putL (E:TE) (st:Nat) (cs:List TV) (k:Nat):(E.putL st cs).get k=E.get k:=rfl
theorem TE.ln_put (E:TE) (t:Option Nat) (v:TV):(E.put t v).ln=E.ln:=by cases t<;>rfl
theorem TE.ln_loc (E:TE) (cs:List TV):(E.loc cs).ln=E.ln+1:=rfl
theorem TE.ln_putL (E:TE) (st:Nat) (cs:List TV):(E.putL st cs).ln=E.ln:=rfl

def TE.var (E:TE) (st:Nat):Option (List TV):=E.L.get st
theorem TE.var_put (E:TE) (t:Option Nat) (v:TV) (st:Nat):(E.put t v).var st=E.var st:=by cases t<;>rfl
theorem TE.var_loc (E:TE) (cs:List TV) (st:Nat):(E.loc cs).var st=if E.ln=st then some cs else E.var st:=by
 unfold TE.var TE.loc;simp only[Tr.get_set]
theorem TE.var_putL (E:TE) (k:Nat) (cs:List TV) (st:Nat):(E.putL k cs).var st=if k=st then some cs else E.var st:=by
 unfold TE.var TE.putL;simp only[Tr.get_set]

theorem startT_get (args:List TV) (k:Nat):(startT args).get k=(args[k]?).getD (.tu []):=by
 have key:∀ (args:List TV) (i k:Nat),((initT args i).get k).getD (.tu [])=if i≤k then (args[k - i]?).getD (.tu []) else .tu []:=by
  intro args
  induction args with
  | nil=>intro i k;simp[initT,Tr.get_nil]
  | cons v vs ih=>
   intro i k
   simp only[initT,Tr.get_set]
   by_cases h:i=k
   ·subst h;simp
   ·rw[if_neg h,ih (i+1) k]
    by_cases h2:i+1≤k
    ·rw[if_pos h2,if_pos (by omega)]
     rw[show k - i=(k - (i+1))+1 by omega,List.getElem?_cons_succ]
    ·rw[if_neg h2,if_neg (by omega)]
 have:=key args 0 k
 simp only[Nat.zero_le,if_true,Nat.sub_zero] at this
 exact this
theorem startT_ln (args:List TV):(startT args).ln=0:=rfl
theorem startT_var (args:List TV) (st:Nat):(startT args).var st=none:=Tr.get_nil st

theorem rdT_lp (E:TE) (T:TH) (st o n:Nat):rdT E T (.lp st o) n=match E.var st with
  | some cs=>sliceT cs o n
  | none=>none:=rfl
theorem stT_lp (E:TE) (T:TH) (st o:Nat) (cs:List TV):stT E T (.lp st o) cs=match E.var st with
  | some xs=>if o+cs.length≤xs.length then some (E.putL st (spliceT xs o cs),T) else none
  | none=>none:=rfl

theorem raw_t (E:TE) (t:Nat):E.raw (.t t)=E.get t:=rfl
theorem raw_c (E:TE) (v:AV):E.raw (.c v)=.a v:=rfl

theorem wrap_i64' (n:Int):IntKind.wrap .i64 n=if n % 18446744073709551616 ≥ 9223372036854775808 then n % 18446744073709551616 - 18446744073709551616 else n % 18446744073709551616:=by
 have:IntKind.wrap .i64 n=if (true && decide (n % 18446744073709551616 ≥ 9223372036854775808))=true then n % 18446744073709551616 - 18446744073709551616 else n % 18446744073709551616:=rfl
 rw[this]
 simp only[Bool.true_and,decide_eq_true_eq]

theorem wrap_of {n:Int} (h1:-9223372036854775808≤n) (h2:n<9223372036854775808):IntKind.wrap .i64 n=n:=by
 rw[wrap_i64']
 split<;>omega

attribute [simp] opT cutT opR opW blockT FinT resultsT resOfT mapO valT TV.free AV.free raw_t raw_c TE.get_put TE.put_none TE.get_loc TE.get_putL TE.ln_put TE.ln_loc TE.ln_putL TE.var_put TE.var_loc TE.var_putL startT_get startT_ln startT_var rdT_lp stT_lp
attribute [simp] abin aun aeqs outPs outL flatV AV.var AV.one AV.cells tvCells tvOne TV.atom mkAg mkTu mkFn sliceT spliceT offT natT boundT callee partsT fillT

@[simp] theorem outT_bool (T:TH) (b:Bool):outT T (.a (.bool b))=some (.bool b):=rfl
@[simp] theorem outT_int (T:TH) (k:IntKind) (n:Int):outT T (.a (.int k n))=some (.int k n):=rfl
@[simp] theorem outT_str (T:TH) (s:List UInt8):outT T (.a (.str s))=some (.str s):=rfl
@[simp] theorem outT_nils (T:TH):outT T (.a .nils)=some (.vs [] true):=rfl
@[simp] theorem outT_es (T:TH):outT T .es=some (.vs [] true):=rfl
@[simp] theorem outT_agg (T:TH) (vs:List AV):outT T (.a (.agg vs))=(outL T (vs.map .a)).map fun x=>.agg x.1:=by simp only[outT,outP,Option.map_map];rfl
@[simp] theorem outT_ag (T:TH) (vs:List TV):outT T (.ag vs)=(outL T vs).map fun x=>.agg x.1:=by simp only[outT,outP,Option.map_map];rfl
@[simp] theorem outT_tup (T:TH) (vs:List AV):outT T (.a (.tup vs))=(outPs T (vs.map .a)).map fun x=>.tup x.1:=rfl
@[simp] theorem outT_tu (T:TH) (vs:List TV):outT T (.tu vs)=(outPs T vs).map fun x=>.tup x.1:=rfl
@[simp] theorem outT_sl (T:TH) (r:Nat) (p:Path) (g i n:Nat) (w:Bool):outT T (.sl r p g i n w)=(if w=true then takeT T r p g else tailT T r p g i n).map (·.1):=rfl
@[simp] theorem outP_bool (T:TH) (b:Bool):outP T (.a (.bool b))=some (.bool b,T):=rfl
@[simp] theorem outP_int (T:TH) (k:IntKind) (n:Int):outP T (.a (.int k n))=some (.int k n,T):=rfl
@[simp] theorem outP_str (T:TH) (s:List UInt8):outP T (.a (.str s))=some (.str s,T):=rfl
@[simp] theorem outP_nils (T:TH):outP T (.a .nils)=some (.vs [] true,T):=rfl
@[simp] theorem outP_es (T:TH):outP T .es=some (.vs [] true,T):=rfl
@[simp] theorem outP_agg (T:TH) (vs:List AV):outP T (.a (.agg vs))=(outL T (vs.map .a)).map fun x=>(.agg x.1,x.2):=rfl
@[simp] theorem outP_ag (T:TH) (vs:List TV):outP T (.ag vs)=(outL T vs).map fun x=>(.agg x.1,x.2):=rfl
@[simp] theorem outP_sl (T:TH) (r:Nat) (p:Path) (g i n:Nat) (w:Bool):outP T (.sl r p g i n w)=if w=true then takeT T r p g else tailT T r p g i n:=rfl
@[simp] theorem outC_bool (T:TH) (b:Bool):outC T (.a (.bool b))=some (.bool b,T):=rfl
@[simp] theorem outC_int (T:TH) (k:IntKind) (n:Int):outC T (.a (.int k n))=some (.int k n,T):=rfl
@[simp] theorem outC_str (T:TH) (s:List UInt8):outC T (.a (.str s))=some (.str s,T):=rfl
@[simp] theorem outC_nils (T:TH):outC T (.a .nils)=some (.vs [] true,T):=rfl
@[simp] theorem outC_vs (T:TH) (z:Bool):outC T (.a (.vs [] z))=some (.vs [] z,T):=rfl
@[simp] theorem outC_es (T:TH):outC T .es=some (.vs [] true,T):=rfl
@[simp] theorem outC_sl (T:TH) (r:Nat) (p:Path) (g i n:Nat) (w:Bool):outC T (.sl r p g i n w)=if w=true then takeT T r p g else tailT T r p g i n:=rfl
@[simp] theorem rdT_vp (E:TE) (T:TH) (es:List (List AV)) (i o n:Nat):rdT E T (.a (.vp es i o)) n=match es[i]? with
  | some cs=>(sliceT cs o n).map fun l=>l.map .a
  | none=>none:=rfl

def stepK (M:FuncId→Option MFunc) (d:Option Nat) (l:List MOper) (Q:TE→TH→Prop) (x:Option (TV × TE × TH)):Prop:=
 match x with
 | some (v,E1,T1)=>wpo M l (E1.put d v) T1 Q
 | none=>False
def restK (M:FuncId→Option MFunc) (d:Option Nat) (l:List MOper) (Q:TE→TH→Prop) (E:TE) (v:TV) (T:TH):Prop:=wpo M l (E.put d v) T Q
def callK (M:FuncId→Option MFunc) (q:Bool) (d:Option Nat) (l:List MOper) (Q:TE→TH→Prop) (E:TE) (T:TH) (f:Option (FuncId × List TV × List TV)) (vs:Option (List TV)):Prop:=
 match f,vs with
 | some (k,first,cap),some vs=>CallT M q k (first++vs++cap) T (restK M d l Q E)
 | _,_=>False
def guardK (M:FuncId→Option MFunc) (v:TV) (w:Bool) (d:Option Nat) (mo:MOp) (l:List MOper) (Q:TE→TH→Prop) (E:TE) (T:TH):Prop:=
 match v with
 | .a (.bool b)=>if b=w then wpo M (⟨d,none,mo⟩::l) E T Q else wpo M l (E.put d (.tu [])) T Q
 | .tu _=>wpo M l (E.put d (.tu [])) T Q
 | _=>False
def seqK (M:FuncId→Option MFunc) (b:MCode) (Q:Out→TE→TH→Prop) (o:Out) (E:TE) (T:TH):Prop:=thenT (fun E' T'=>wpc M b E' T' Q) Q o E T
def condK (M:FuncId→Option MFunc) (v:TV) (a b:MCode) (E:TE) (T:TH) (Q:Out→TE→TH→Prop):Prop:=
 match v with
 | .a (.bool t)=>if t=true then wpc M a E T Q else wpc M b E T Q
 | _=>False

@[simp] theorem wpo_nil {M:FuncId→Option MFunc} {Q:TE→TH→Prop} {E:TE} {T:TH}:wpo M [] E T Q=Q E T:=rfl
@[simp] theorem wpo_call {M:FuncId→Option MFunc} {Q:TE→TH→Prop} {E:TE} {T:TH} {d:Option Nat} {q:Bool} {f:Opd} {ys:List Opd} {l:List MOper}:wpo M (⟨d,none,.call q f ys⟩::l) E T Q=callK M q d l Q E T (callee (E.raw f)) (mapO (valT E) ys):=rfl
@[simp] theorem wpo_guard {M:FuncId→Option MFunc} {Q:TE→TH→Prop} {E:TE} {T:TH} {d:Option Nat} {mo:MOp} {t:Nat} {w:Bool} {l:List MOper}:wpo M (⟨d,some (t,w),mo⟩::l) E T Q=guardK M (E.get t) w d mo l Q E T:=rfl
@[simp] theorem stepK_some {M:FuncId→Option MFunc} {d:Option Nat} {l:List MOper} {Q:TE→TH→Prop} {v:TV} {E1:TE} {T1:TH}:stepK M d l Q (some (v,E1,T1))=wpo M l (E1.put d v) T1 Q:=rfl
@[simp] theorem restK_eq {M:FuncId→Option MFunc} {d:Option Nat} {l:List MOper} {Q:TE→TH→Prop} {E:TE} {v:TV} {T:TH}:restK M d l Q E v T=wpo M l (E.put d v) T Q:=rfl
@[simp] theorem callK_some {M:FuncId→Option MFunc} {q:Bool} {d:Option Nat} {l:List MOper} {Q:TE→TH→Prop} {E:TE} {T:TH} {k:FuncId} {first cap vs:List TV}:callK M q d l Q E T (some (k,first,cap)) (some vs)=CallT M q k (first++vs++cap) T (restK M d l Q E):=rfl
@[simp] theorem seqK_normal {M:FuncId→Option MFunc} {b:MCode} {Q:Out→TE→TH→Prop} {E:TE} {T:TH}:seqK M b Q .normal E T=wpc M b E T Q:=rfl
@[simp] theorem seqK_exit {M:FuncId→Option MFunc} {b:MCode} {Q:Out→TE→TH→Prop} {E:TE} {T:TH} {id:Nat}:seqK M b Q (.exit id) E T=Q (.exit id) E T:=rfl
@[simp] theorem seqK_ret {M:FuncId→Option MFunc} {b:MCode} {Q:Out→TE→TH→Prop} {E:TE} {T:TH}:seqK M b Q .ret E T=Q .ret E T:=rfl
@[simp] theorem thenT_normal {k:TE→TH→Prop} {Q:Out→TE→TH→Prop} {E:TE} {T:TH}:thenT k Q .normal E T=k E T:=rfl
@[simp] theorem thenT_exit {k:TE→TH→Prop} {Q:Out→TE→TH→Prop} {E:TE} {T:TH} {id:Nat}:thenT k Q (.exit id) E T=Q (.exit id) E T:=rfl
@[simp] theorem thenT_ret {k:TE→TH→Prop} {Q:Out→TE→TH→Prop} {E:TE} {T:TH}:thenT k Q .ret E T=Q .ret E T:=rfl
@[simp] theorem wpc_skip {M:FuncId→Option MFunc} {Q:Out→TE→TH→Prop} {E:TE} {T:TH}:wpc M .skip E T Q=Q .normal E T:=rfl
@[simp] theorem wpc_ops {M:FuncId→Option MFunc} {Q:Out→TE→TH→Prop} {E:TE} {T:TH} {l:List MOper}:wpc M (.ops l) E T Q=wpo M l E T (Q .normal):=rfl
@[simp] theorem wpc_seq {M:FuncId→Option MFunc} {Q:Out→TE→TH→Prop} {E:TE} {T:TH} {a b:MCode}:wpc M (.seq a b) E T Q=wpc M a E T (seqK M b Q):=rfl
@[simp] theorem wpc_cond {M:FuncId→Option MFunc} {Q:Out→TE→TH→Prop} {E:TE} {T:TH} {c:Opd} {a b:MCode}:wpc M (.cond c a b) E T Q=condK M (E.raw c) a b E T Q:=rfl
@[simp] theorem wpc_block {M:FuncId→Option MFunc} {Q:Out→TE→TH→Prop} {E:TE} {T:TH} {id:Nat} {b:MCode}:wpc M (.block id b) E T Q=wpc M b E T (blockT id Q):=rfl
def drawK (Q:Out→TE→TH→Prop) (ok:List (TE × TH)→Bool) (alt:Prop) (x:Option (List (TE × TH))):Prop:=
 match x with
 | some S=>if ok S=true then match S.getLast? with
   | some (E',T')=>Q .normal E' T'
   | none=>False
  else False
 | none=>alt
@[simp] theorem drawK_none {Q:Out→TE→TH→Prop} {ok:List (TE × TH)→Bool} {alt:Prop}:drawK Q ok alt none=alt:=rfl
@[simp] theorem drawK_some {Q:Out→TE→TH→Prop} {ok:List (TE × TH)→Bool} {alt:Prop} {S:List (TE × TH)}:drawK Q ok alt (some S)=if ok S=true then match S.getLast? with
   | some (E',T')=>Q .normal E' T'
   | none=>False
  else False:=rfl
def trK (d:Option Nat) (E:TE) (T:TH) (l:List MOper) (x:Option (TV × TE × TH)):Option (List (TE × TH)):=
 match x with
 | some (v,E1,T1)=>(trT (E1.put d v) T1 l).map ((E,T)::·)
 | none=>none
@[simp] theorem trK_some {d:Option Nat} {E E1:TE} {T T1:TH} {v:TV} {l:List MOper}:trK d E T l (some (v,E1,T1))=(trT (E1.put d v) T1 l).map ((E,T)::·):=rfl
theorem wptr_nil {M:FuncId→Option MFunc} {E:TE} {T:TH} {K:List (TE × TH)→Prop}:wptr M [] E T K=K [(E,T)]:=rfl
def ptrK (M:FuncId→Option MFunc) (d:Option Nat) (E:TE) (T:TH) (l:List MOper) (K:List (TE × TH)→Prop) (x:Option (TV × TE × TH)):Prop:=
 match x with
 | some (v,E1,T1)=>wptr M l (E1.put d v) T1 fun S=>K ((E,T)::S)
 | none=>False
@[simp] theorem ptrK_some {M:FuncId→Option MFunc} {d:Option Nat} {E E1:TE} {T T1:TH} {v:TV} {l:List MOper} {K:List (TE × TH)→Prop}:ptrK M d E T l K (some (v,E1,T1))=wptr M l (E1.put d v) T1 fun S=>K ((E,T)::S):=rfl
theorem wptr_ldn {M:FuncId→Option MFunc} {E:TE} {T:TH} {K:List (TE × TH)→Prop} {d:Option Nat} {n:Nat} {a:Opd} {l:List MOper}:wptr M (⟨d,none,.ldn n a⟩::l) E T K=(True∧ptrK M d E T l K (opT E T (.ldn n a))):=by unfold wptr;rw[eq_self_iff_true];rfl
theorem wptr_ld1 {M:FuncId→Option MFunc} {E:TE} {T:TH} {K:List (TE × TH)→Prop} {d:Option Nat} {a:Opd} {l:List MOper}:wptr M (⟨d,none,.ld1 a⟩::l) E T K=(True∧ptrK M d E T l K (opT E T (.ld1 a))):=by unfold wptr;rw[eq_self_iff_true];rfl
theorem wptr_fld {M:FuncId→Option MFunc} {E:TE} {T:TH} {K:List (TE × TH)→Prop} {d:Option Nat} {n:Nat} {a:Opd} {l:List MOper}:wptr M (⟨d,none,.fld n a⟩::l) E T K=(True∧ptrK M d E T l K (opT E T (.fld n a))):=by unfold wptr;rw[eq_self_iff_true];rfl
theorem wptr_len {M:FuncId→Option MFunc} {E:TE} {T:TH} {K:List (TE × TH)→Prop} {d:Option Nat} {a:Opd} {l:List MOper}:wptr M (⟨d,none,.len a⟩::l) E T K=(True∧ptrK M d E T l K (opT E T (.len a))):=by unfold wptr;rw[eq_self_iff_true];rfl
theorem wptr_mv {M:FuncId→Option MFunc} {E:TE} {T:TH} {K:List (TE × TH)→Prop} {d:Option Nat} {a:Opd} {l:List MOper}:wptr M (⟨d,none,.mv a⟩::l) E T K=(True∧ptrK M d E T l K (opT E T (.mv a))):=by unfold wptr;rw[eq_self_iff_true];rfl
theorem wptr_allocL {M:FuncId→Option MFunc} {E:TE} {T:TH} {K:List (TE × TH)→Prop} {d:Option Nat} {z:List AV} {l:List MOper}:wptr M (⟨d,none,.allocL z⟩::l) E T K=(True∧ptrK M d E T l K (opT E T (.allocL z))):=by unfold wptr;rw[eq_self_iff_true];rfl
theorem wptr_stn {M:FuncId→Option MFunc} {E:TE} {T:TH} {K:List (TE × TH)→Prop} {d:Option Nat} {n:Nat} {a v:Opd} {l:List MOper}:wptr M (⟨d,none,.stn n a v⟩::l) E T K=(True∧ptrK M d E T l K (opT E T (.stn n a v))):=by unfold wptr;rw[eq_self_iff_true];rfl
theorem wptr_call {M:FuncId→Option MFunc} {E:TE} {T:TH} {K:List (TE × TH)→Prop} {d:Option Nat} {q:Bool} {f:Opd} {xs:List Opd} {l:List MOper} {k:FuncId} {first cap vs:List TV} (h1:callee (E.raw f)=some (k,first,cap)) (h2:mapO (valT E) xs=some vs)
  (h:CallT M q k (first++vs++cap) T fun v T1=>wptr M l (E.put d v) T1 fun S=>K ((E,T)::S)):wptr M (⟨d,none,.call q f xs⟩::l) E T K:=by
 unfold wptr
 refine⟨rfl, ?_⟩
 unfold wop
 simp only[h1,h2]
 exact h
@[simp] theorem trT_nil {E:TE} {T:TH}:trT E T []=some [(E,T)]:=rfl
@[simp] theorem trT_cons {E:TE} {T:TH} {d:Option Nat} {mo:MOp} {l:List MOper}:trT E T (⟨d,none,mo⟩::l)=trK d E T l (opT E T mo):=rfl
@[simp] theorem wpc_draw {M:FuncId→Option MFunc} {Q:Out→TE→TH→Prop} {E:TE} {T:TH} {l:List MOper} {chk:List (Nat × Nat)}:wpc M (.draw l chk) E T Q=drawK Q (fun S=>chk.all (pairT l S)) (DrawC M l chk E T Q) (trT E T l):=rfl
@[simp] theorem wpc_loop {M:FuncId→Option MFunc} {Q:Out→TE→TH→Prop} {E:TE} {T:TH} {b:MCode}:wpc M (.loop b) E T Q=WCT M (.loop b) E T Q:=rfl
@[simp] theorem wpc_exit {M:FuncId→Option MFunc} {Q:Out→TE→TH→Prop} {E:TE} {T:TH} {id:Nat}:wpc M (.exit id) E T Q=Q (.exit id) E T:=rfl
@[simp] theorem wpc_ret {M:FuncId→Option MFunc} {Q:Out→TE→TH→Prop} {E:TE} {T:TH}:wpc M .ret E T Q=Q .ret E T:=rfl

@[simp] theorem wpo_mv {M:FuncId→Option MFunc} {Q:TE→TH→Prop} {E:TE} {T:TH} {d:Option Nat} {dl:List MOper} {x:Opd}:wpo M (⟨d,none,.mv x⟩::dl) E T Q=stepK M d dl Q (opT E T (.mv x)):=rfl
@[simp] theorem wpo_pick {M:FuncId→Option MFunc} {Q:TE→TH→Prop} {E:TE} {T:TH} {d:Option Nat} {dl:List MOper} {c:Opd} {a:Opd} {b:Opd}:wpo M (⟨d,none,.pick c a b⟩::dl) E T Q=stepK M d dl Q (opT E T (.pick c a b)):=rfl
@[simp] theorem wpo_alloc {M:FuncId→Option MFunc} {Q:TE→TH→Prop} {E:TE} {T:TH} {d:Option Nat} {dl:List MOper} {z:List AV}:wpo M (⟨d,none,.alloc z⟩::dl) E T Q=stepK M d dl Q (opT E T (.alloc z)):=rfl
@[simp] theorem wpo_allocL {M:FuncId→Option MFunc} {Q:TE→TH→Prop} {E:TE} {T:TH} {d:Option Nat} {dl:List MOper} {z:List AV}:wpo M (⟨d,none,.allocL z⟩::dl) E T Q=stepK M d dl Q (opT E T (.allocL z)):=rfl
@[simp] theorem wpo_box {M:FuncId→Option MFunc} {Q:TE→TH→Prop} {E:TE} {T:TH} {d:Option Nat} {dl:List MOper} {x:Opd}:wpo M (⟨d,none,.box x⟩::dl) E T Q=stepK M d dl Q (opT E T (.box x)):=rfl
@[simp] theorem wpo_boxL {M:FuncId→Option MFunc} {Q:TE→TH→Prop} {E:TE} {T:TH} {d:Option Nat} {dl:List MOper} {x:Opd}:wpo M (⟨d,none,.boxL x⟩::dl) E T Q=stepK M d dl Q (opT E T (.boxL x)):=rfl
@[simp] theorem wpo_build {M:FuncId→Option MFunc} {Q:TE→TH→Prop} {E:TE} {T:TH} {d:Option Nat} {dl:List MOper} {z:List AV} {ps:List (Nat × Nat × Opd)}:wpo M (⟨d,none,.build z ps⟩::dl) E T Q=stepK M d dl Q (opT E T (.build z ps)):=rfl
@[simp] theorem wpo_bsl {M:FuncId→Option MFunc} {Q:TE→TH→Prop} {E:TE} {T:TH} {d:Option Nat} {dl:List MOper} {n:Nat} {m:Nat} {z:List AV} {ps:List (Nat × Opd)}:wpo M (⟨d,none,.bsl n m z ps⟩::dl) E T Q=stepK M d dl Q (opT E T (.bsl n m z ps)):=rfl
@[simp] theorem wpo_ld1 {M:FuncId→Option MFunc} {Q:TE→TH→Prop} {E:TE} {T:TH} {d:Option Nat} {dl:List MOper} {a:Opd}:wpo M (⟨d,none,.ld1 a⟩::dl) E T Q=stepK M d dl Q (opT E T (.ld1 a)):=rfl
@[simp] theorem wpo_ldn {M:FuncId→Option MFunc} {Q:TE→TH→Prop} {E:TE} {T:TH} {d:Option Nat} {dl:List MOper} {n:Nat} {a:Opd}:wpo M (⟨d,none,.ldn n a⟩::dl) E T Q=stepK M d dl Q (opT E T (.ldn n a)):=rfl
@[simp] theorem wpo_st1 {M:FuncId→Option MFunc} {Q:TE→TH→Prop} {E:TE} {T:TH} {d:Option Nat} {dl:List MOper} {a:Opd} {v:Opd}:wpo M (⟨d,none,.st1 a v⟩::dl) E T Q=stepK M d dl Q (opT E T (.st1 a v)):=rfl
@[simp] theorem wpo_stn {M:FuncId→Option MFunc} {Q:TE→TH→Prop} {E:TE} {T:TH} {d:Option Nat} {dl:List MOper} {n:Nat} {a:Opd} {v:Opd}:wpo M (⟨d,none,.stn n a v⟩::dl) E T Q=stepK M d dl Q (opT E T (.stn n a v)):=rfl
@[simp] theorem wpo_fld {M:FuncId→Option MFunc} {Q:TE→TH→Prop} {E:TE} {T:TH} {d:Option Nat} {dl:List MOper} {o:Nat} {a:Opd}:wpo M (⟨d,none,.fld o a⟩::dl) E T Q=stepK M d dl Q (opT E T (.fld o a)):=rfl
@[simp] theorem wpo_idx {M:FuncId→Option MFunc} {Q:TE→TH→Prop} {E:TE} {T:TH} {d:Option Nat} {dl:List MOper} {n:Nat} {x:Opd} {i:Opd}:wpo M (⟨d,none,.idx n x i⟩::dl) E T Q=stepK M d dl Q (opT E T (.idx n x i)):=rfl
@[simp] theorem wpo_idxa {M:FuncId→Option MFunc} {Q:TE→TH→Prop} {E:TE} {T:TH} {d:Option Nat} {dl:List MOper} {n:Nat} {m:Nat} {x:Opd} {i:Opd}:wpo M (⟨d,none,.idxa n m x i⟩::dl) E T Q=stepK M d dl Q (opT E T (.idxa n m x i)):=rfl
@[simp] theorem wpo_prj {M:FuncId→Option MFunc} {Q:TE→TH→Prop} {E:TE} {T:TH} {d:Option Nat} {dl:List MOper} {o:Nat} {n:Nat} {b:Bool} {x:Opd}:wpo M (⟨d,none,.prj o n b x⟩::dl) E T Q=stepK M d dl Q (opT E T (.prj o n b x)):=rfl
@[simp] theorem wpo_ixa {M:FuncId→Option MFunc} {Q:TE→TH→Prop} {E:TE} {T:TH} {d:Option Nat} {dl:List MOper} {n:Nat} {m:Nat} {b:Bool} {x:Opd} {i:Opd}:wpo M (⟨d,none,.ixa n m b x i⟩::dl) E T Q=stepK M d dl Q (opT E T (.ixa n m b x i)):=rfl
@[simp] theorem wpo_bin {M:FuncId→Option MFunc} {Q:TE→TH→Prop} {E:TE} {T:TH} {d:Option Nat} {dl:List MOper} {o:BinOp} {x:Opd} {y:Opd}:wpo M (⟨d,none,.bin o x y⟩::dl) E T Q=stepK M d dl Q (opT E T (.bin o x y)):=rfl
@[simp] theorem wpo_eqb {M:FuncId→Option MFunc} {Q:TE→TH→Prop} {E:TE} {T:TH} {d:Option Nat} {dl:List MOper} {n:Bool} {x:Opd} {y:Opd}:wpo M (⟨d,none,.eqb n x y⟩::dl) E T Q=stepK M d dl Q (opT E T (.eqb n x y)):=rfl
@[simp] theorem wpo_eqg {M:FuncId→Option MFunc} {Q:TE→TH→Prop} {E:TE} {T:TH} {d:Option Nat} {dl:List MOper} {n:Bool} {ks:List Bool} {x:Opd} {y:Opd}:wpo M (⟨d,none,.eqg n ks x y⟩::dl) E T Q=stepK M d dl Q (opT E T (.eqg n ks x y)):=rfl
@[simp] theorem wpo_isn {M:FuncId→Option MFunc} {Q:TE→TH→Prop} {E:TE} {T:TH} {d:Option Nat} {dl:List MOper} {n:Bool} {x:Opd}:wpo M (⟨d,none,.isn n x⟩::dl) E T Q=stepK M d dl Q (opT E T (.isn n x)):=rfl
@[simp] theorem wpo_un {M:FuncId→Option MFunc} {Q:TE→TH→Prop} {E:TE} {T:TH} {d:Option Nat} {dl:List MOper} {o:UnOp} {x:Opd}:wpo M (⟨d,none,.un o x⟩::dl) E T Q=stepK M d dl Q (opT E T (.un o x)):=rfl
@[simp] theorem wpo_conv {M:FuncId→Option MFunc} {Q:TE→TH→Prop} {E:TE} {T:TH} {d:Option Nat} {dl:List MOper} {k:IntKind} {x:Opd}:wpo M (⟨d,none,.conv k x⟩::dl) E T Q=stepK M d dl Q (opT E T (.conv k x)):=rfl
@[simp] theorem wpo_mkfn {M:FuncId→Option MFunc} {Q:TE→TH→Prop} {E:TE} {T:TH} {d:Option Nat} {dl:List MOper} {f:Fn} {a:List Opd} {c:List Opd}:wpo M (⟨d,none,.mkfn f a c⟩::dl) E T Q=stepK M d dl Q (opT E T (.mkfn f a c)):=rfl
@[simp] theorem wpo_ext {M:FuncId→Option MFunc} {Q:TE→TH→Prop} {E:TE} {T:TH} {d:Option Nat} {dl:List MOper} {i:Nat} {x:Opd}:wpo M (⟨d,none,.ext i x⟩::dl) E T Q=stepK M d dl Q (opT E T (.ext i x)):=rfl
@[simp] theorem wpo_len {M:FuncId→Option MFunc} {Q:TE→TH→Prop} {E:TE} {T:TH} {d:Option Nat} {dl:List MOper} {x:Opd}:wpo M (⟨d,none,.len x⟩::dl) E T Q=stepK M d dl Q (opT E T (.len x)):=rfl
@[simp] theorem wpo_slen {M:FuncId→Option MFunc} {Q:TE→TH→Prop} {E:TE} {T:TH} {d:Option Nat} {dl:List MOper} {x:Opd}:wpo M (⟨d,none,.slen x⟩::dl) E T Q=stepK M d dl Q (opT E T (.slen x)):=rfl
@[simp] theorem wpo_min2 {M:FuncId→Option MFunc} {Q:TE→TH→Prop} {E:TE} {T:TH} {d:Option Nat} {dl:List MOper} {x y:Opd}:wpo M (⟨d,none,.min2 x y⟩::dl) E T Q=stepK M d dl Q (opT E T (.min2 x y)):=rfl
@[simp] theorem wpo_capz {M:FuncId→Option MFunc} {Q:TE→TH→Prop} {E:TE} {T:TH} {d:Option Nat} {dl:List MOper} {x:Opd}:wpo M (⟨d,none,.capz x⟩::dl) E T Q=stepK M d dl Q (opT E T (.capz x)):=rfl
@[simp] theorem wpo_sla {M:FuncId→Option MFunc} {Q:TE→TH→Prop} {E:TE} {T:TH} {d:Option Nat} {dl:List MOper} {n:Nat} {x:Opd}:wpo M (⟨d,none,.sla n x⟩::dl) E T Q=stepK M d dl Q (opT E T (.sla n x)):=rfl
@[simp] theorem wpo_lenc {M:FuncId→Option MFunc} {Q:TE→TH→Prop} {E:TE} {T:TH} {d:Option Nat} {dl:List MOper} {n:Nat}:wpo M (⟨d,none,.lenc n⟩::dl) E T Q=stepK M d dl Q (opT E T (.lenc n)):=rfl
@[simp] theorem wpo_app {M:FuncId→Option MFunc} {Q:TE→TH→Prop} {E:TE} {T:TH} {d:Option Nat} {dl:List MOper} {n:Nat} {m:Nat} {q:Bool} {x:Opd} {y:Opd}:wpo M (⟨d,none,.app n m q x y⟩::dl) E T Q=stepK M d dl Q (opT E T (.app n m q x y)):=rfl
@[simp] theorem wpo_mksl {M:FuncId→Option MFunc} {Q:TE→TH→Prop} {E:TE} {T:TH} {d:Option Nat} {dl:List MOper} {n:Nat} {m:Nat} {z:List AV} {x:Opd} {y:Opd}:wpo M (⟨d,none,.mksl n m z x y⟩::dl) E T Q=stepK M d dl Q (opT E T (.mksl n m z x y)):=rfl
@[simp] theorem wpo_slc {M:FuncId→Option MFunc} {Q:TE→TH→Prop} {E:TE} {T:TH} {d:Option Nat} {dl:List MOper} {n:Nat} {x:Opd} {a:Option Opd} {b:Option Opd} {c:Option Opd}:wpo M (⟨d,none,.slc n x a b c⟩::dl) E T Q=stepK M d dl Q (opT E T (.slc n x a b c)):=rfl
@[simp] theorem wpo_mkmap {M:FuncId→Option MFunc} {Q:TE→TH→Prop} {E:TE} {T:TH} {d:Option Nat} {dl:List MOper}:wpo M (⟨d,none,.mkmap⟩::dl) E T Q=stepK M d dl Q (opT E T .mkmap):=rfl
@[simp] theorem wpo_mset {M:FuncId→Option MFunc} {Q:TE→TH→Prop} {E:TE} {T:TH} {d:Option Nat} {dl:List MOper} {m k v:Opd}:wpo M (⟨d,none,.mset m k v⟩::dl) E T Q=stepK M d dl Q (opT E T (.mset m k v)):=rfl
@[simp] theorem wpo_mget {M:FuncId→Option MFunc} {Q:TE→TH→Prop} {E:TE} {T:TH} {d:Option Nat} {dl:List MOper} {z:AV} {m k:Opd}:wpo M (⟨d,none,.mget z m k⟩::dl) E T Q=stepK M d dl Q (opT E T (.mget z m k)):=rfl
@[simp] theorem wpo_chk {M:FuncId→Option MFunc} {Q:TE→TH→Prop} {E:TE} {T:TH} {d:Option Nat} {dl:List MOper} {x:Opd}:wpo M (⟨d,none,.chk x⟩::dl) E T Q=stepK M d dl Q (opT E T (.chk x)):=rfl

attribute [simp] clo cloL
@[simp] theorem freeze_vs (H:AH) (d:Nat) (es:List (List AV)) (z:Bool):freeze H (d+1) (.vs es z)=some (.vs es false):=rfl
@[simp] theorem freeze_nils (H:AH) (d:Nat):freeze H (d+1) .nils=some (.vs [] false):=rfl
@[simp] theorem freeze_int (H:AH) (d:Nat) (k:IntKind) (n:Int):freeze H (d+1) (.int k n)=some (.int k n):=rfl
@[simp] theorem freeze_bool (H:AH) (d:Nat) (b:Bool):freeze H (d+1) (.bool b)=some (.bool b):=rfl
@[simp] theorem freeze_str (H:AH) (d:Nat) (s:List UInt8):freeze H (d+1) (.str s)=some (.str s):=rfl
@[simp] theorem freeze_vp (H:AH) (d:Nat) (es:List (List AV)) (i o:Nat):freeze H (d+1) (.vp es i o)=some (.vp es i o):=rfl
@[simp] theorem freeze_agg (H:AH) (d:Nat) (cs:List AV):freeze H (d+1) (.agg cs)=(mapO (freeze H d) cs).map .agg:=rfl
@[simp] theorem freeze_fn (H:AH) (d:Nat) (f:Fn) (a c:List AV):freeze H (d+1) (.fn f a c)=match mapO (freeze H d) a,mapO (freeze H d) c with
   | some a,some c=>some (.fn f a c)
   | _,_=>none:=rfl
@[simp] theorem fzT_a (T:TH) (v:AV):fzT T (.a v)=if clo v then freeze AH.none 12 v else none:=rfl
@[simp] theorem fzT_es (T:TH):fzT T .es=some (.vs [] false):=rfl
@[simp] theorem fzT_ag (T:TH) (cs:List TV):fzT T (.ag cs)=(mapO (fzC T 10) cs).map .agg:=rfl
@[simp] theorem fzT_rs (T:TH) (r j n:Nat) (w:Bool):fzT T (.rs r j n w)=if (T.get r).valid [] 0=true then match T.get r with
   | .raw cells=>if n=0 then some (.vs [] false) else (mapO (fzC T 10) ((cells.drop j).take n)).map fun ts=>.vs (ts.map fun c=>[c]) false
   | _=>none
  else none:=rfl
@[simp] theorem fzC_a (T:TH) (d:Nat) (v:AV):fzC T d (.a v)=if clo v then freeze AH.none (d+1) v else none:=rfl
@[simp] theorem fzC_es (T:TH) (d:Nat):fzC T d .es=some (.vs [] false):=rfl
@[simp] theorem fzT_fn (T:TH) (f:Fn) (a c:List TV):fzT T (.fn f a c)=match mapO (fzD T 9) a,mapO (fzD T 9) c with
  | some a,some c=>some (.fn f a c)
  | _,_=>none:=rfl
@[simp] theorem fzT_pt (T:TH) (r:Nat) (g j:Nat):fzT T (.pt r [] g 0 j)=if (T.get r).valid [] g=true then match T.get r with
   | .raw cells=>(mapO (fzC T 10) cells).map fun ts=>.vp [ts] 0 j
   | _=>none
  else none:=by simp[fzT]<;>rfl
@[simp] theorem fzD_pt (T:TH) (d r:Nat) (g j:Nat):fzD T d (.pt r [] g 0 j)=if (T.get r).valid [] g=true then match T.get r with
   | .raw cells=>(mapO (fzC T d) cells).map fun ts=>.vp [ts] 0 j
   | _=>none
  else none:=by simp[fzD]<;>rfl
@[simp] theorem fzD_a (T:TH) (d:Nat) (v:AV):fzD T d (.a v)=if clo v then freeze AH.none (d+2) v else none:=rfl
@[simp] theorem raw_valid (cells:List TV) (p:Path) (g:Nat):(TO.raw cells).valid p g=true:=rfl
@[simp] theorem tree_valid (rows:List (List AV)) (z:Bool) (log:List Path) (p:Path) (g:Nat):(TO.tree rows z log).valid p g=(log.take (log.length - g)).all fun q=>!q.isPrefixOf p:=rfl
attribute [simp] TH.get_new TH.get_put TH.next_new TH.next_put
@[simp] theorem none_next:TH.none.next=0:=rfl
@[simp] theorem none_get (r:Nat):TH.none.get r=.dead:=by unfold TH.get TH.none;rw[Tr.get_nil];rfl
@[simp] theorem rdT_pt (E:TE) (T:TH) (r:Nat) (p:Path) (g i j n:Nat):rdT E T (.pt r p g i j) n=if (T.get r).valid p g then match T.get r with
   | .raw cells=>if p=[]∧i=0 then sliceT cells j n else none
   | .tree rows _ log=>match nodeA rows p with
    | some rp=>match rp[i]? with
     | some row=>match sliceT row j n with
      | some cs=>liftCells r p log.length i j cs
      | none=>none
     | none=>none
    | none=>none
   | _=>none
  else none:=rfl
@[simp] theorem stT_pt (E:TE) (T:TH) (r:Nat) (p:Path) (g i j:Nat) (cs:List TV):stT E T (.pt r p g i j) cs=if (T.get r).valid p g=true then match T.get r with
   | .raw xs=>if p=[]∧i=0∧j+cs.length≤xs.length then some (E,T.put r (.raw (spliceT xs j cs))) else none
   | .tree _ _ _=>if cs=[] then none else (storeCells T r p i j cs).map fun T'=>(E,T')
   | _=>none
  else none:=rfl
@[simp] theorem resV_bool (T:TH) (b:Bool):resV T (.bool b)=(.a (.bool b),T):=rfl
@[simp] theorem resV_int (T:TH) (k:IntKind) (n:Int):resV T (.int k n)=(.a (.int k n),T):=rfl
@[simp] theorem resV_str (T:TH) (s:List UInt8):resV T (.str s)=(.a (.str s),T):=rfl

def MFunc.p (F:MFunc):MFunc:={ nargs:=F.nargs,res:=F.res,body:=F.body,pure:=true,both:=false }

def MFunc.b (F:MFunc):MFunc:={ nargs:=F.nargs,res:=F.res,body:=F.body,pure:=true,both:=true }

theorem PCall.of {M:FuncId→Option MFunc} {k:FuncId} {F:MFunc} {ts:List AV} {tr:AV} (hM:M k=some F.p) (hn:ts.length=F.nargs) (hfree:ts.all AV.free=true) (hok:okT tr=true)
  (h:wpc M F.body (startT (ts.map .a)) TH.none (FinT F.res fun v T1=>outT T1 v=some tr)):PCall M k ts tr:=PCall.body (F:=F.p) hM rfl (.inl rfl) hn hfree hok h

theorem PCall.ofZ {M:FuncId→Option MFunc} {k:FuncId} {F:MFunc} {ts:List AV} {tr:AV} (hM:M k=some F.p) (hn:ts.length=F.nargs) (hfree:ts.all AV.free=true)
  (h:wpc M F.body (startT (ts.map .a)) TH.none (FinT F.res fun v T1=>∃ t,outT T1 v=some t∧okT t=true∧unzT t=tr)):PCall M k ts tr:=PCall.bodyZ (F:=F.p) hM rfl rfl hn hfree h

theorem PCall.dec {M:FuncId→Option MFunc} {k:FuncId} {ts:List AV} {p q:Prop} [Decidable p] [Decidable q] (h:p↔q) (hc:PCall M k ts (.bool (decide q))):PCall M k ts (.bool (decide p)):=by
 rw[decide_eq_decide.2 h];exact hc

theorem WCT.unroll {M:FuncId→Option MFunc} {b:MCode} {Q:Out→TE→TH→Prop} {E:TE} {T:TH} (h:wpc M b E T (thenT (fun E' T'=>WCT M (.loop b) E' T' Q) Q)):WCT M (.loop b) E T Q:=by
 refine WCT.loop (WCT.mono (wpc_sound h) fun o E1 T1 hh=>?_)
 cases o<;>exact hh

theorem CallT.bool {M:FuncId→Option MFunc} {q:Bool} {k:FuncId} {args:List TV} {ts:List AV} {T:TH} {K:TV→TH→Prop} {p:Prop} [Decidable p] (hc:PCall M k ts (.bool (decide p))) (ht:mapO (fzT T) args=some ts) (h1:p→K (.a (.bool true)) T) (h2:¬ p→K (.a (.bool false)) T):CallT M q k args T K:=by
 refine CallT.pure hc ht rfl ?_
 by_cases hp:p
 ·rw[decide_eq_true hp];exact h1 hp
 ·rw[decide_eq_false hp];exact h2 hp

@[simp] theorem guardK_tu {M:FuncId→Option MFunc} {vs:List TV} {w:Bool} {d:Option Nat} {mo:MOp} {l:List MOper} {Q:TE→TH→Prop} {E:TE} {T:TH}:guardK M (.tu vs) w d mo l Q E T=wpo M l (E.put d (.tu [])) T Q:=rfl
@[simp] theorem guardK_tt {M:FuncId→Option MFunc} {b:Bool} {d:Option Nat} {mo:MOp} {l:List MOper} {Q:TE→TH→Prop} {E:TE} {T:TH} (h:b=true):guardK M (.a (.bool b)) true d mo l Q E T=wpo M (⟨d,none,mo⟩::l) E T Q:=by subst h;rfl
@[simp] theorem guardK_ff {M:FuncId→Option MFunc} {b:Bool} {d:Option Nat} {mo:MOp} {l:List MOper} {Q:TE→TH→Prop} {E:TE} {T:TH} (h:b=false):guardK M (.a (.bool b)) false d mo l Q E T=wpo M (⟨d,none,mo⟩::l) E T Q:=by subst h;rfl
@[simp] theorem guardK_tf {M:FuncId→Option MFunc} {b:Bool} {d:Option Nat} {mo:MOp} {l:List MOper} {Q:TE→TH→Prop} {E:TE} {T:TH} (h:b=true):guardK M (.a (.bool b)) false d mo l Q E T=wpo M l (E.put d (.tu [])) T Q:=by subst h;rfl
@[simp] theorem guardK_ft {M:FuncId→Option MFunc} {b:Bool} {d:Option Nat} {mo:MOp} {l:List MOper} {Q:TE→TH→Prop} {E:TE} {T:TH} (h:b=false):guardK M (.a (.bool b)) true d mo l Q E T=wpo M l (E.put d (.tu [])) T Q:=by subst h;rfl
@[simp] theorem condK_tt {M:FuncId→Option MFunc} {t:Bool} {a b:MCode} {E:TE} {T:TH} {Q:Out→TE→TH→Prop} (h:t=true):condK M (.a (.bool t)) a b E T Q=wpc M a E T Q:=by subst h;rfl
@[simp] theorem condK_ff {M:FuncId→Option MFunc} {t:Bool} {a b:MCode} {E:TE} {T:TH} {Q:Out→TE→TH→Prop} (h:t=false):condK M (.a (.bool t)) a b E T Q=wpc M b E T Q:=by subst h;rfl
theorem beq_int (a b:Int):(a==b)=decide (a=b):=by by_cases h:a=b<;>simp[h]
theorem bne_int (a b:Int):(a != b)=!decide (a=b):=by by_cases h:a=b<;>simp[h,bne]

theorem guard_by {M:FuncId→Option MFunc} {b w:Bool} {d:Option Nat} {mo:MOp} {l:List MOper} {Q:TE→TH→Prop} {E:TE} {T:TH} (h1:b=true→guardK M (.a (.bool b)) w d mo l Q E T) (h2:b=false→guardK M (.a (.bool b)) w d mo l Q E T):guardK M (.a (.bool b)) w d mo l Q E T:=by
 cases hb:b with
 | true=>rw[hb] at h1;exact h1 rfl
 | false=>rw[hb] at h2;exact h2 rfl
theorem cond_by {M:FuncId→Option MFunc} {t:Bool} {a b:MCode} {E:TE} {T:TH} {Q:Out→TE→TH→Prop} (h1:t=true→condK M (.a (.bool t)) a b E T Q) (h2:t=false→condK M (.a (.bool t)) a b E T Q):condK M (.a (.bool t)) a b E T Q:=by
 cases hb:t with
 | true=>rw[hb] at h1;exact h1 rfl
 | false=>rw[hb] at h2;exact h2 rfl

theorem CallT.bool2 {M:FuncId→Option MFunc} {q:Bool} {k:FuncId} {args:List TV} {ts:List AV} {T:TH} {K:TV→TH→Prop} {p:Prop} [Decidable p] (ht:mapO (fzT T) args=some ts) (hc:PCall M k ts (.bool (decide p))) (h1:p→K (.a (.bool true)) T) (h2:¬ p→K (.a (.bool false)) T):CallT M q k args T K:=CallT.bool hc ht h1 h2

attribute [simp] okZ unzZ storeCell storeCells toCell markCell logOf takeT tailT resC resL resP resPs resV cellOf setCell setA nodeA liftCell liftCells roomB rowsT
theorem rowLen_tree (rows:List (List AV)) (z:Bool) (log:List Path) (p:Path) (i:Nat):rowLen (.tree rows z log) p i=match nodeA rows p with
  | some rp=>(rp[i]?).map (·.length)
  | none=>none:=by
 unfold rowLen TO.node TO.rows;rfl
@[simp] theorem idxOK_tree (rows:List (List AV)) (z:Bool) (log:List Path) (p:Path) (g sz:Nat):idxOK (.tree rows z log) p g sz=((TO.tree rows z log).valid p g && ((match nodeA rows p with
  | some rp=>(rp[0]?).map (·.length)
  | none=>none)==some sz)):=by
 unfold idxOK;rw[rowLen_tree]
@[simp] theorem set_row_len (l:List (List AV)) (i:Nat) (a:List AV) (h:0<(l.set i a).length):((l.set i a)[0]'h).length=if i=0 then a.length else (l[0]'(by simpa using h)).length:=by
 rw[List.getElem_set];split<;>rfl
@[simp] theorem newRows_nils (T:TH) (sz:Nat):newRows T sz (.a .nils)=some ([],T):=rfl
@[simp] theorem newRows_es (T:TH) (sz:Nat):newRows T sz .es=some ([],T):=rfl
@[simp] theorem newRows_vs (T:TH) (sz:Nat) (es:List (List AV)) (z:Bool):newRows T sz (.a (.vs es z))=if es.all (fun row=>row.length==sz && row.all flatV) then some (es,T) else if es.all (fun row=>row.length==sz && row.all clo)=true then some (es.map fun row=>row.map markCell,T) else none:=rfl
@[simp] theorem newRows_sl (T:TH) (sz r:Nat) (p:Path) (g i n:Nat) (w:Bool):newRows T sz (.sl r p g i n w)=if (T.get r).valid p g=true then match T.get r with
   | .tree rows _ _=>match nodeA rows p with
    | some rp=>
     if i=0∧n=rp.length∧rp.all (fun row=>row.length==sz && row.all flatV)=true then some (rp,T)
     else if w=true∧p=[]∧rp.all (fun row=>row.length==sz)=true then some (rp,T.put r .dead)
     else if n≠0∧i+n≤rp.length∧((rp.drop i).take n).all (fun row=>row.length==sz && row.all flatV)=true then some ((rp.drop i).take n,T)
     else if n=0 then some ([],T)
     else none
    | none=>none
   | _=>none
  else none:=rfl
@[simp] theorem up_ne2 (n:Nat):(n+1+1=n)=False:=by simp only[eq_iff_iff,iff_false];omega
@[simp] theorem ne_up2 (n:Nat):(n=n+1+1)=False:=by simp only[eq_iff_iff,iff_false];omega
@[simp] theorem up_ne3 (n:Nat):(n+1+1+1=n)=False:=by simp only[eq_iff_iff,iff_false];omega
@[simp] theorem ne_up3 (n:Nat):(n=n+1+1+1)=False:=by simp only[eq_iff_iff,iff_false];omega
@[simp] theorem up_ne4 (n:Nat):(n+1+1+1+1=n)=False:=by simp only[eq_iff_iff,iff_false];omega
@[simp] theorem ne_up4 (n:Nat):(n=n+1+1+1+1)=False:=by simp only[eq_iff_iff,iff_false];omega
@[simp] theorem up_ne5 (n:Nat):(n+1+1+1+1+1=n)=False:=by simp only[eq_iff_iff,iff_false];omega
@[simp] theorem ne_up5 (n:Nat):(n=n+1+1+1+1+1)=False:=by simp only[eq_iff_iff,iff_false];omega
@[simp] theorem up_ne6 (n:Nat):(n+1+1+1+1+1+1=n)=False:=by simp only[eq_iff_iff,iff_false];omega
@[simp] theorem ne_up6 (n:Nat):(n=n+1+1+1+1+1+1)=False:=by simp only[eq_iff_iff,iff_false];omega
@[simp] theorem up_ne7 (n:Nat):(n+1+1+1+1+1+1+1=n)=False:=by simp only[eq_iff_iff,iff_false];omega
@[simp] theorem ne_up7 (n:Nat):(n=n+1+1+1+1+1+1+1)=False:=by simp only[eq_iff_iff,iff_false];omega
@[simp] theorem up_ne8 (n:Nat):(n+1+1+1+1+1+1+1+1=n)=False:=by simp only[eq_iff_iff,iff_false];omega
@[simp] theorem ne_up8 (n:Nat):(n=n+1+1+1+1+1+1+1+1)=False:=by simp only[eq_iff_iff,iff_false];omega
@[simp] theorem up_ne9 (n:Nat):(n+1+1+1+1+1+1+1+1+1=n)=False:=by simp only[eq_iff_iff,iff_false];omega
@[simp] theorem ne_up9 (n:Nat):(n=n+1+1+1+1+1+1+1+1+1)=False:=by simp only[eq_iff_iff,iff_false];omega
@[simp] theorem up_ne10 (n:Nat):(n+1+1+1+1+1+1+1+1+1+1=n)=False:=by simp only[eq_iff_iff,iff_false];omega
@[simp] theorem ne_up10 (n:Nat):(n=n+1+1+1+1+1+1+1+1+1+1)=False:=by simp only[eq_iff_iff,iff_false];omega
@[simp] theorem up_ne11 (n:Nat):(n+1+1+1+1+1+1+1+1+1+1+1=n)=False:=by simp only[eq_iff_iff,iff_false];omega
@[simp] theorem ne_up11 (n:Nat):(n=n+1+1+1+1+1+1+1+1+1+1+1)=False:=by simp only[eq_iff_iff,iff_false];omega
def appK (E:TE) (T:TH) (sz bytes:Nat) (q:Bool) (x:TV) (y:Option (List (List AV) × TH)):Option (TV × TE × TH):=
 match y with
 | some (new,T1)=>match x with
  | .a .nils|.a (.vs [] true)|.es=>if new.length*bytes≤roomB then some (.sl T1.next [] 0 0 new.length true,E,T1.new (.tree new true [])) else none
  | .sl r p g _ n w=>if q=false∧w=true∧p=[]∧(T1.get r).valid [] g=true then match T1.get r with
    | .tree rows true log=>if rows.all (fun row=>row.length==sz)=true∧(n+new.length)*bytes≤roomB then some (.sl r [] (log.length+1) 0 (n+new.length) true,E,T1.put r (.tree (rows++new) true ([]::log))) else none
    | _=>none
   else none
  | .rs r _ n w=>if q=false∧w=false∧n=0∧sz=1∧(T1.get r).valid [] 0=true then match T1.get r with
    | .raw []=>if new.length*bytes≤roomB then (match new with
     | []=>some (.rs r 0 0 false,E,T1)
     | _=>some (.sl r [] 1 0 new.length true,E,T1.put r (.tree new true [[]]))) else none
    | _=>none
   else none
  | _=>none
 | none=>none
@[simp] theorem appX_rs (E:TE) (T:TH) (sz bytes:Nat) (q:Bool) (r j n:Nat) (w:Bool) (y:TV):appX E T sz bytes q (.rs r j n w) y=appT E T sz bytes q (.rs r j n w) y:=rfl
@[simp] theorem appX_sl (E:TE) (T:TH) (sz bytes:Nat) (q:Bool) (r:Nat) (p:Path) (g i n:Nat) (w:Bool) (y:TV):appX E T sz bytes q (.sl r p g i n w) y=if p=[] then appT E T sz bytes q (.sl r p g i n w) y else if w=true then match takeT T r p g with
   | some (.vs rows z,T0)=>appT E (T0.new (.tree rows z [])) sz bytes q (.sl T0.next [] 0 0 rows.length true) y
   | _=>none
  else none:=rfl
@[simp] theorem appX_a (E:TE) (T:TH) (sz bytes:Nat) (q:Bool) (v:AV) (y:TV):appX E T sz bytes q (.a v) y=appT E T sz bytes q (.a v) y:=rfl
@[simp] theorem appX_es (E:TE) (T:TH) (sz bytes:Nat) (q:Bool) (y:TV):appX E T sz bytes q .es y=appT E T sz bytes q .es y:=rfl
@[simp] theorem appT_eq (E:TE) (T:TH) (sz bytes:Nat) (q:Bool) (x y:TV):appT E T sz bytes q x y=appK E T sz bytes q x (newRows T sz y):=by
 unfold appT appK;rfl
@[simp] theorem appT_es (E:TE) (T:TH) (sz bytes:Nat) (q:Bool) (new:List (List AV)) (T1:TH):appK E T sz bytes q .es (some (new,T1))=if new.length*bytes≤roomB then some (.sl T1.next [] 0 0 new.length true,E,T1.new (.tree new true [])) else none:=rfl
@[simp] theorem appT_nils (E:TE) (T:TH) (sz bytes:Nat) (q:Bool) (new:List (List AV)) (T1:TH):appK E T sz bytes q (.a .nils) (some (new,T1))=if new.length*bytes≤roomB then some (.sl T1.next [] 0 0 new.length true,E,T1.new (.tree new true [])) else none:=rfl
@[simp] theorem appT_rs (E:TE) (T:TH) (sz bytes:Nat) (q:Bool) (r j n:Nat) (w:Bool) (new:List (List AV)) (T1:TH):appK E T sz bytes q (.rs r j n w) (some (new,T1))=if q=false∧w=false∧n=0∧sz=1∧(T1.get r).valid [] 0=true then match T1.get r with
    | .raw []=>if new.length*bytes≤roomB then (match new with
     | []=>some (.rs r 0 0 false,E,T1)
     | _=>some (.sl r [] 1 0 new.length true,E,T1.put r (.tree new true [[]]))) else none
    | _=>none
   else none:=rfl
@[simp] theorem appT_sl (E:TE) (T:TH) (sz bytes:Nat) (q:Bool) (r:Nat) (p:Path) (g i n:Nat) (w:Bool) (new:List (List AV)) (T1:TH):appK E T sz bytes q (.sl r p g i n w) (some (new,T1))=if q=false∧w=true∧p=[]∧(T1.get r).valid [] g=true then match T1.get r with
    | .tree rows true log=>if rows.all (fun row=>row.length==sz)=true∧(n+new.length)*bytes≤roomB then some (.sl r [] (log.length+1) 0 (n+new.length) true,E,T1.put r (.tree (rows++new) true ([]::log))) else none
    | _=>none
   else none:=rfl

end Go.Ab
