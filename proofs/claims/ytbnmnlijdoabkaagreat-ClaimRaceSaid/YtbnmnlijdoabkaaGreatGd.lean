/-
  Arguments frozen, results laid anew: calls that see nothing but their arguments.
  Results laid into the caller's memory, append, and the rules to step through code by value.
  One operation that calls nothing, by value.
  Rules to step through code by value, and from a body to a call.
  Conditions: none.
-/
import Derived.Test.YtbnmnlijdoabkaaGreatGc

set_option linter.unusedSimpArgs false
set_option linter.unusedVariables false

namespace Go.Ab

theorem freeze_congr {H H':AH} (h:∀ b,H'.get b=H.get b):∀ (d:Nat) (v:AV),freeze H' d v=freeze H d v
 | 0,v=>rfl
 | d+1,v=>by
  have ih:freeze H' d=freeze H d:=funext fun v=>freeze_congr h d v
  cases v<;>try rfl
  ·rename_i b o
   show (match H'.get b with|.cells cs=>(mapO (freeze H' d) cs).map fun ts=>AV.vp [ts] 0 o|_=>none)=(match H.get b with|.cells cs=>(mapO (freeze H d) cs).map fun ts=>AV.vp [ts] 0 o|_=>none)
   rw[h,ih]
  ·rename_i b o sz len cap ex
   show (if len=0 then some (AV.vs [] false) else match H'.read b o (len*sz) with|some cs=>(mapO (freeze H' d) cs).map fun ts=>.vs (rows sz ts len) false|none=>none)=(if len=0 then some (AV.vs [] false) else match H.read b o (len*sz) with|some cs=>(mapO (freeze H d) cs).map fun ts=>.vs (rows sz ts len) false|none=>none)
   rw[AH.read_congr (h b),ih]
  ·rename_i f a c
   show (match mapO (freeze H' d) a,mapO (freeze H' d) c with|some a,some c=>some (AV.fn f a c)|_,_=>none)=(match mapO (freeze H d) a,mapO (freeze H d) c with|some a,some c=>some (AV.fn f a c)|_,_=>none)
   rw[ih]
  ·rename_i t v
   show (freeze H' d v).map (AV.ifc t)=(freeze H d v).map (AV.ifc t)
   rw[ih]
  ·rename_i cs
   show (mapO (freeze H' d) cs).map AV.agg=(mapO (freeze H d) cs).map AV.agg
   rw[ih]
  ·rename_i cs
   show (mapO (freeze H' d) cs).map AV.tup=(mapO (freeze H d) cs).map AV.tup
   rw[ih]

theorem mapO_congr {α β:Type} {f g:α→Option β}:∀ {l:List α},(∀ x∈l,f x=g x)→mapO f l=mapO g l
 | [],_=>rfl
 | x::l,h=>by simp only[mapO,h x (by simp),mapO_congr (l:=l) fun y hy=>h y (by simp[hy])]

theorem cloL_mem:∀ {l:List AV},cloL l=true→∀ x∈l,clo x=true
 | [],_,x,hx=>by simp at hx
 | v::l,h,x,hx=>by
  simp only[cloL,Bool.and_eq_true] at h
  rcases List.mem_cons.1 hx with rfl|hx
  ·exact h.1
  ·exact cloL_mem h.2 x hx

theorem freeze_clo {H H':AH}:∀ (d:Nat) (v:AV),clo v=true→freeze H' d v=freeze H d v
 | 0,v,_=>rfl
 | d+1,v,hc=>by
  cases v<;>(try rfl)<;>(try (simp[clo] at hc;done))
  ·rename_i f a c
   simp only[clo,Bool.and_eq_true] at hc
   show (match mapO (freeze H' d) a,mapO (freeze H' d) c with|some a,some c=>some (AV.fn f a c)|_,_=>none)=(match mapO (freeze H d) a,mapO (freeze H d) c with|some a,some c=>some (AV.fn f a c)|_,_=>none)
   rw[mapO_congr fun x hx=>freeze_clo d x (cloL_mem hc.1 x hx),mapO_congr fun x hx=>freeze_clo d x (cloL_mem hc.2 x hx)]
  ·rename_i t v
   show (freeze H' d v).map (AV.ifc t)=(freeze H d v).map (AV.ifc t)
   rw[freeze_clo d v (by simpa [clo] using hc)]
  ·rename_i cs
   show (mapO (freeze H' d) cs).map AV.agg=(mapO (freeze H d) cs).map AV.agg
   rw[mapO_congr fun x hx=>freeze_clo d x (cloL_mem (by simpa [clo] using hc) x hx)]
  ·rename_i cs
   show (mapO (freeze H' d) cs).map AV.tup=(mapO (freeze H d) cs).map AV.tup
   rw[mapO_congr fun x hx=>freeze_clo d x (cloL_mem (by simpa [clo] using hc) x hx)]

def fzC (T:TH) (d:Nat):TV→Option AV
 | .a v=>if clo v then freeze AH.none (d+1) v else none
 | .es=>some (.vs [] false)
 | .sl r p g i n w=>if (T.get r).valid p g=true then match T.get r with
   | .tree rows z _=>if w=true then match p.getLast? with
     | none=>if okC d (.vs rows z) then some (unz d (.vs rows z)) else if okZ d (.vs rows z) then some (unzZ d (.vs rows z)) else none
     | some (i,j)=>match nodeA rows p.dropLast with
      | some rp=>match cellOf rp i j with
       | some (.vs rows' z')=>if okC d (.vs rows' z') then some (unz d (.vs rows' z')) else none
       | _=>none
      | none=>none
    else match nodeA rows p with
     | some rp=>if n=0 then some (.vs [] false) else if i+n≤rp.length∧okC d (.vs ((rp.drop i).take n) true)=true then some (unz d (.vs ((rp.drop i).take n) true)) else none
     | none=>none
   | _=>none
  else none
 | _=>none

def fzD (T:TH) (d:Nat):TV→Option AV
 | .pt r p g i j=>if p=[]∧i=0∧(T.get r).valid p g=true then match T.get r with
   | .raw cells=>(mapO (fzC T d) cells).map fun ts=>.vp [ts] 0 j
   | _=>none
  else none
 | v=>fzC T (d+1) v

def fzT (T:TH):TV→Option AV
 | .ag cs=>(mapO (fzC T 10) cs).map .agg
 | .fn f a c=>match mapO (fzD T 9) a,mapO (fzD T 9) c with
  | some a,some c=>some (.fn f a c)
  | _,_=>none
 | .pt r p g i j=>if p=[]∧i=0∧(T.get r).valid p g=true then match T.get r with
   | .raw cells=>(mapO (fzC T 10) cells).map fun ts=>.vp [ts] 0 j
   | _=>none
  else none
 | .rs r j n _=>if (T.get r).valid [] 0=true then match T.get r with
   | .raw cells=>if n=0 then some (.vs [] false) else (mapO (fzC T 10) ((cells.drop j).take n)).map fun ts=>.vs (ts.map fun c=>[c]) false
   | _=>none
  else none
 | v=>fzC T 11 v

section
variable {A:Anc} {T:TH} {H:AH}

theorem Own.freeze1 {h t:AV} {S:List Nat} (ho:Own H [h] [t] S) {d:Nat} (hd:okC d t=true):freeze H (d+1) h=some (unz d t):=by
 have:=freeze_own ho d (by simp[hd])
 simp only[mapO,List.map_cons,List.map_nil] at this
 split at this
 ·rename_i y ys h1 h2
  cases this
  exact h1
 ·cases this

theorem Own.freeze1Z {h t:AV} {S:List Nat} (ho:Own H [h] [t] S) {d:Nat} (hd:okZ d t=true):freeze H (d+1) h=some (unzZ d t):=by
 have:=freeze_ownZ ho d (by simp[hd])
 simp only[mapO,List.map_cons,List.map_nil] at this
 split at this
 ·rename_i y ys h1 h2
  cases this
  exact h1
 ·cases this

theorem fzC_sound (hm:HR A T H) {d:Nat} {v:TV} {h t:AV} (hv:VR A T H v h) (ht:fzC T d v=some t):freeze H (d+1) h=some t:=by
 unfold fzC at ht
 split at ht
 ·rw[hv.inv_a]
  split at ht
  ·rename_i hc;rw[freeze_clo (H:=AH.none) (H':=H) (d+1) _ hc];exact ht
  ·cases ht
 ·cases ht
  cases hv with
  | es _ he=>
   unfold empV at he
   split at he
   ·rfl
   ·rfl
   ·rfl
   ·cases he
 ·rename_i r p g i0 n w
  split at ht
  ·rename_i hval
   cases hv with
   | sl _ _ _ _ _ _ _ hlt hg hln hx=>
    obtain⟨k1,hd,k2,k3,k4⟩:=hx hval
    split at ht
    ·rename_i rows z log hT
     split at ht
     ·rename_i hw
      obtain⟨rfl,rfl⟩:=k3 hw
      split at ht
      ·rename_i hp
       have hp:p=[]:=by simpa using hp
       subst hp
       split at ht
       ·rename_i hok
        cases ht
        rw[followH_nil] at k2
        cases k2
        exact (hm.tree _ rows z log hT).1.freeze1 hok
       ·split at ht
        ·rename_i hok
         cases ht
         rw[followH_nil] at k2
         cases k2
         exact (hm.tree _ rows z log hT).1.freeze1Z hok
        ·cases ht
      ·rename_i i j hp
       have hp2:p=p.dropLast++[(i,j)]:=by
        have h0:p≠[]:=fun e=>by subst e;simp at hp
        have h1:=List.dropLast_concat_getLast h0
        rw[List.getLast?_eq_some_getLast h0,Option.some.injEq] at hp
        rw[hp] at h1
        exact h1.symm
       split at ht
       ·rename_i rp hrp
        split at ht
        ·rename_i rows' z' hc
         split at ht
         ·rename_i hok
          cases ht
          obtain⟨hd,Sc,A',a1,a2,_⟩:=hm.detach hT hrp hc
          rw[hp2,a1] at k2
          cases k2
          exact a2.freeze1 hok
         ·cases ht
        ·cases ht
       ·cases ht
     ·split at ht
      ·rename_i rp hrp
       split at ht
       ·rename_i hn
        subst hn
        cases ht
        exact slen_zero_freeze hln d
       ·rename_i hn
        split at ht
        ·rename_i hh
         cases ht
         rcases k4 with k4|⟨b,o,sz,n0,cap0,ex0,cap,ex,rfl,rfl,_,_⟩
         ·exact absurd k4 hn
         obtain⟨z',S',m1,_⟩:=own_node p (hm.tree _ rows z log hT).1 hrp k2
         obtain⟨b',o',sz',ex',S2,e1,e2,_,_⟩:=sub_own (i:=i0) (n:=n) m1 hn hh.1
         cases e1
         rw[freeze_cap (c2:=n) (e2:=true)]
         exact (e2 true).freeze1 hh.2
        ·cases ht
      ·cases ht
    ·cases ht
  ·cases ht
 ·cases ht

theorem fzCs_sound (hm:HR A T H) {d:Nat}:∀ {vs:List TV} {hs ts:List AV},VRL A T H vs hs→mapO (fzC T d) vs=some ts→mapO (freeze H (d+1)) hs=some ts
 | [],hs,ts,hv,ht=>by simp only[mapO] at ht;cases ht;rw[hv.inv_nil];rfl
 | v::vs,hs,ts,hv,ht=>by
  obtain⟨h,hs',rfl,k1,k2⟩:=hv.inv_cons
  simp only[mapO] at ht
  split at ht
  ·rename_i y ys h1 h2
   cases ht
   simp only[mapO,fzC_sound hm k1 h1,fzCs_sound hm k2 h2]
  ·cases ht

theorem pt_freeze (hm:HR A T H) {r:Nat} {g j:Nat} {h:AV} (hv:VR A T H (.pt r [] g 0 j) h) (hval:(T.get r).valid [] g=true) {cells:List TV} (hT:T.get r=.raw cells) {d:Nat} {ts:List AV} (h1:mapO (fzC T d) cells=some ts):freeze H (d+2) h=some (.vp [ts] 0 j):=by
 cases hv with
 | pt _ _ _ _ _ _ hlt hg hp hx=>
  obtain⟨_,b,o,sz,n,cap,ex,hf,rfl⟩:=hx hval
  obtain⟨b',hs,m1,m2,m3,m4⟩:=hm.raw _ cells hT
  rw[m1,followH_nil] at hf
  cases hf
  show (match H.get b with|.cells cs=>(mapO (freeze H (d+1)) cs).map fun ts=>AV.vp [ts] 0 (0+0*cells.length+j)|_=>none)=_
  rw[m3]
  simp only[]
  rw[fzCs_sound hm m4 h1]
  simp

theorem fzD_sound (hm:HR A T H) {d:Nat} {v:TV} {h t:AV} (hv:VR A T H v h) (ht:fzD T d v=some t):freeze H (d+2) h=some t:=by
 unfold fzD at ht
 split at ht
 ·split at ht
  ·rename_i hc
   obtain⟨rfl,rfl,hval⟩:=hc
   split at ht
   ·rename_i cells hT
    obtain⟨ts,h1,rfl⟩:=map_some ht
    exact pt_freeze hm hv hval hT h1
   ·cases ht
  ·cases ht
 ·exact fzC_sound hm hv ht

theorem fzDs_sound (hm:HR A T H) {d:Nat}:∀ {vs:List TV} {hs ts:List AV},VRL A T H vs hs→mapO (fzD T d) vs=some ts→mapO (freeze H (d+2)) hs=some ts
 | [],hs,ts,hv,ht=>by simp only[mapO] at ht;cases ht;rw[hv.inv_nil];rfl
 | v::vs,hs,ts,hv,ht=>by
  obtain⟨h,hs',rfl,k1,k2⟩:=hv.inv_cons
  simp only[mapO] at ht
  split at ht
  ·rename_i y ys h1 h2
   cases ht
   simp only[mapO,fzD_sound hm k1 h1,fzDs_sound hm k2 h2]
  ·cases ht

theorem rows_one (ts:List AV):rows 1 ts ts.length=ts.map fun c=>[c]:=by
 apply List.ext_getElem
 ·simp[rows]
 ·intro i h1 h2
  have hi:i<ts.length:=by simpa [rows] using h1
  simp only[rows,List.getElem_map,List.getElem_range,Nat.mul_one]
  rw[List.drop_eq_getElem_cons hi]
  rfl

theorem fzT_sound (hm:HR A T H) {v:TV} {h t:AV} (hv:VR A T H v h) (ht:fzT T v=some t):freeze H deep h=some t:=by
 unfold fzT at ht
 split at ht
 ·obtain⟨ts,h1,rfl⟩:=map_some ht
  cases hv with
  | ag _ hs hl hv'=>
   show (mapO (freeze H 11) hs).map AV.agg=_
   rw[fzCs_sound hm ⟨hl,hv'⟩ h1];rfl
 ·split at ht
  ·rename_i a c h1 h2
   cases ht
   cases hv with
   | fn _ _ _ as' cs' l1 l2 v1 v2=>
    show (match mapO (freeze H 11) as',mapO (freeze H 11) cs' with|some a,some c=>some (AV.fn _ a c)|_,_=>none)=_
    rw[fzDs_sound hm ⟨l1,v1⟩ h1,fzDs_sound hm ⟨l2,v2⟩ h2]
  ·cases ht
 ·split at ht
  ·rename_i hc
   obtain⟨rfl,rfl,hval⟩:=hc
   split at ht
   ·rename_i cells hT
    obtain⟨ts,h1,rfl⟩:=map_some ht
    cases hv with
    | pt _ _ _ _ _ _ hlt hg hp hx=>
     obtain⟨_,b,o,sz,n,cap,ex,hf,rfl⟩:=hx hval
     obtain⟨b',hs,m1,m2,m3,m4⟩:=hm.raw _ cells hT
     rw[m1,followH_nil] at hf
     cases hf
     show (match H.get b with|.cells cs=>(mapO (freeze H 11) cs).map fun ts=>AV.vp [ts] 0 (0+0*cells.length+_)|_=>none)=_
     rw[m3]
     simp only[]
     rw[fzCs_sound hm m4 h1]
     simp
   ·cases ht
  ·cases ht
 ·rename_i r j n w
  split at ht
  ·rename_i hval
   split at ht
   ·rename_i cells hT
    cases hv with
    | rs _ _ _ _ _ hlt hln hx=>
     obtain⟨_,b,N,hf,rfl,hle⟩:=hx hval
     obtain⟨b',hs,m1,m2,m3,m4⟩:=hm.raw _ cells hT
     rw[m1,followH_nil] at hf
     cases hf
     split at ht
     ·rename_i h0
      cases ht
      subst h0
      rfl
     ·rename_i h0
      obtain⟨ts,h1,rfl⟩:=map_some ht
      have hl:hs.length=cells.length:=m4.1.symm
      have hrd:H.read b j (n*1)=some ((hs.drop j).take n):=by
       unfold AH.read
       rw[m3]
       simp only[slice,Nat.mul_one]
       rw[if_pos (by rw[hl];exact hle)]
      show (if n=0 then some (AV.vs [] false) else match H.read b j (n*1) with|some cs=>(mapO (freeze H 11) cs).map fun ts=>AV.vs (rows 1 ts n) false|none=>none)=_
      rw[if_neg h0,hrd]
      simp only[]
      have hsl:VRL A T H ((cells.drop j).take n) ((hs.drop j).take n):=m4.slice _ _
      rw[fzCs_sound hm hsl h1]
      have hk:=mapO_length h1
      have hk2:ts.length=n:=by rw[List.length_take,List.length_drop] at hk;omega
      rw[Option.map_some,← hk2,rows_one]
   ·cases ht
  ·cases ht
 ·exact fzC_sound hm hv ht

theorem fzTs_sound (hm:HR A T H):∀ {vs:List TV} {hs ts:List AV},VRL A T H vs hs→mapO (fzT T) vs=some ts→mapO (freeze H deep) hs=some ts
 | [],hs,ts,hv,ht=>by simp only[mapO] at ht;cases ht;rw[hv.inv_nil];rfl
 | v::vs,hs,ts,hv,ht=>by
  obtain⟨h,hs',rfl,k1,k2⟩:=hv.inv_cons
  simp only[mapO] at ht
  split at ht
  ·rename_i y ys h1 h2
   cases ht
   simp only[mapO,fzT_sound hm k1 h1,fzTs_sound hm k2 h2]
  ·cases ht

def okP:AV→Bool
 | .agg ts=>ts.all (okC 8)
 | t=>okC 8 t

def okT:AV→Bool
 | .tup ts=>ts.all okP
 | t=>okP t

inductive LfT (H:AH):AV→AV→List Nat→Prop
 | one {h t:AV} {S:List Nat} (h1:Lf H h t S):LfT H h t S
 | tup {hs ts:List AV} {S:List Nat} (h1:LfL H hs ts S):LfT H (.tup hs) (.tup ts) S

theorem okC_mono:∀ (d:Nat) (t:AV),okC d t=true→okC (d+1) t=true
 | d,t,h=>by
  cases t with
  | vs rows z=>
   cases d with
   | zero=>simp[okC] at h
   | succ d=>
    have h':rows.all (fun row=>row.all (okC d))=true:=h
    show rows.all (fun row=>row.all (okC (d+1)))=true
    simp only[List.all_eq_true] at h' ⊢
    exact fun row hr x hx=>okC_mono d x (h' row hr x hx)
  | _=>cases d<;>exact h

theorem all_mono {d:Nat} {ts:List AV} (h:ts.all (okC d)=true):ts.all (okC (d+1))=true:=by
 simp only[List.all_eq_true] at h ⊢
 exact fun x hx=>okC_mono d x (h x hx)

theorem lift_one {H1:AH} {d:Nat} {h:AV} {u u':List Nat} {H H':AH} {hs':List AV} (hl:liftL (lift H1 d) [h] u H=some (hs',u',H')):∃ h',hs'=[h']∧lift H1 d h u H=some (h',u',H'):=by
 simp only[liftL] at hl
 split at hl
 ·rename_i r u1 H2 h1
  cases hl
  exact⟨r,rfl,h1⟩
 ·cases hl

theorem lift_Lf {H1:AH} {h t:AV} {S:List Nat} (hl:Lf H1 h t S) (hok:okP t=true) (hn:S.Nodup) {u:List Nat} (hu:∀ x∈S,x∉u) {H:AH} (hw:WH H) :
  ∃ h' u' H',lift H1 11 h u H=some (h',u',H')∧Laid H H' S u u'∧∃ S',Lf H' h' t S'∧NewF H.next H'.next S':=by
 cases hl with
 | cell hnt ho=>
  have hok':[t].all (okC 10)=true:=by
   simp only[List.all_cons,List.all_nil,Bool.and_true]
   have h8:okC 8 t=true:=by
    cases t with
    | agg ts=>
     exfalso
     cases ho with
     | flat hf=>simp[flatV] at hf
    | _=>exact hok
   exact okC_mono 9 _ (okC_mono 8 _ h8)
  obtain⟨hs',u',H',k1,k2,S',k3,k4⟩:=lift_own ho 10 u H hok' hn hu hw
  obtain⟨h',rfl,k5⟩:=lift_one k1
  exact⟨h',u',H',k5,k2,S',.cell hnt k3,k4⟩
 | @agg hs ts _ ho=>
  have hok':ts.all (okC 9)=true:=all_mono (d:=8) hok
  obtain⟨hs',u',H',k1,k2,S',k3,k4⟩:=lift_own ho 9 u H hok' hn hu hw
  refine⟨.agg hs',u',H', ?_,k2,S',.agg k3,k4⟩
  show (match liftL (lift H1 10) hs u H with|some (rs,u',H')=>some (AV.agg rs,u',H')|none=>none)=_
  rw[k1]

theorem Own.frame_lt {H H':AH} {hs ts:List AV} {S:List Nat} {n m:Nat} (h:Own H hs ts S) (hn:NewF n m S) (hf:∀ x,x<m→H'.get x=H.get x):Own H' hs ts S:=h.frame fun x hx=>hf x (hn.2 x hx).2

theorem Lf.frame_lt {H H':AH} {h t:AV} {S:List Nat} {n m:Nat} (hl:Lf H h t S) (hn:NewF n m S) (hf:∀ x,x<m→H'.get x=H.get x):Lf H' h t S:=by
 cases hl with
 | cell hnt ho=>exact .cell hnt (ho.frame_lt hn hf)
 | agg ho=>exact .agg (ho.frame_lt hn hf)

theorem lift_LfL {H1:AH}:∀ {hs ts:List AV} {S:List Nat},LfL H1 hs ts S→ts.all okP=true→S.Nodup→∀ {u:List Nat},(∀ x∈S,x∉u)→∀ {H:AH},WH H →
  ∃ hs' u' H',liftL (lift H1 11) hs u H=some (hs',u',H')∧Laid H H' S u u'∧∃ S',LfL H' hs' ts S'∧NewF H.next H'.next S':=by
 intro hs ts S hl
 induction hl with
 | nil=>intro _ _ u _ H hw;exact⟨[],u,H,rfl,⟨hw,Nat.le_refl _,fun _ _=>rfl,fun x hx=>.inl hx⟩,[],.nil,by simp,by simp⟩
 | @cons h t hs ts S1 S2 h1 h2 ih=>
  intro hok hn u hu H hw
  simp only[List.all_cons,Bool.and_eq_true] at hok
  rw[List.nodup_append] at hn
  obtain⟨h',u1,H2,k1,k2,S1',k3,k4⟩:=lift_Lf h1 hok.1 hn.1 (fun x hx=>hu x (by simp[hx])) hw
  obtain⟨hs',u2,H3,m1,m2,S2',m3,m4⟩:=ih hok.2 hn.2.1 (u:=u1) (fun x hx hxu=>by
   rcases k2.used x hxu with g|g
   ·exact hu x (by simp[hx]) g
   ·exact hn.2.2 x g x hx rfl) k2.wh
  exact⟨h'::hs',u2,H3,by simp only[liftL,k1,m1],k2.trans m2,S1'++S2',.cons (k3.frame_lt k4 m2.old) m3,k4.append m4 k2.next m2.next⟩

theorem lift_LfT {H1:AH} {h t:AV} {S:List Nat} (hl:LfT H1 h t S) (hok:okT t=true) (hn:S.Nodup) {H:AH} (hw:WH H) :
  ∃ h' u' H',lift H1 deep h [] H=some (h',u',H')∧Laid H H' S [] u'∧∃ S',LfT H' h' t S'∧NewF H.next H'.next S':=by
 cases hl with
 | tup hl=>
  obtain⟨hs',u',H',k1,k2,S',k3,k4⟩:=lift_LfL hl hok hn (u:=[]) (by simp) hw
  refine⟨.tup hs',u',H', ?_,k2,S',.tup k3,k4⟩
  show (match liftL (lift H1 11) _ [] H with|some (rs,u',H')=>some (AV.tup rs,u',H')|none=>none)=_
  rw[k1]
 | one hl=>
  cases hl with
  | cell hnt ho=>
   have hok':[t].all (okC 11)=true:=by
    simp only[List.all_cons,List.all_nil,Bool.and_true]
    have h8:okC 8 t=true:=by
     cases t with
     | agg ts=>cases ho with|flat hf=>simp[flatV] at hf
     | tup ts=>exact absurd rfl (hnt ts)
     | _=>exact hok
    exact okC_mono 10 _ (okC_mono 9 _ (okC_mono 8 _ h8))
   obtain⟨hs',u',H',k1,k2,S',k3,k4⟩:=lift_own ho 11 [] H hok' hn (by simp) hw
   obtain⟨h',rfl,k5⟩:=lift_one k1
   exact⟨h',u',H',k5,k2,S',.one (.cell hnt k3),k4⟩
  | @agg hs ts _ ho=>
   have hok':ts.all (okC 10)=true:=all_mono (d:=9) (all_mono (d:=8) hok)
   obtain⟨hs',u',H',k1,k2,S',k3,k4⟩:=lift_own ho 10 [] H hok' hn (by simp) hw
   refine⟨.agg hs',u',H', ?_,k2,S',.one (.agg k3),k4⟩
   show (match liftL (lift H1 11) hs [] H with|some (rs,u',H')=>some (AV.agg rs,u',H')|none=>none)=_
   rw[k1]

def PCall (M:FuncId→Option MFunc) (k:FuncId) (ts:List AV) (tr:AV):Prop:=
 ∀ args H,WH H→mapO (freeze H deep) args=some ts→∃ r H',Ev M k args H r H'∧WH H'∧H.next≤H'.next∧H'.lo=H.lo∧(∀ x,x<H.next→H'.get x=H.get x)∧∃ S,LfT H' r tr S∧NewF H.next H'.next S

end
end Go.Ab

namespace Go.Ab

def mkTu (cs:List TV):TV:=
 match mapO TV.atom cs with
 | some vs=>.a (.tup vs)
 | none=>.tu cs

def resC (T:TH):AV→TV × TH
 | .vs rows z=>(.sl T.next [] 0 0 rows.length true,T.new (.tree rows z []))
 | v=>(.a v,T)

def resL (T:TH):List AV→List TV × TH
 | []=>([],T)
 | t::ts=>let x:=resC T t;let y:=resL x.2 ts;(x.1::y.1,y.2)

def resP (T:TH):AV→TV × TH
 | .agg ts=>let x:=resL T ts;(mkAg x.1,x.2)
 | t=>resC T t

def resPs (T:TH):List AV→List TV × TH
 | []=>([],T)
 | t::ts=>let x:=resP T t;let y:=resPs x.2 ts;(x.1::y.1,y.2)

def resV (T:TH):AV→TV × TH
 | .tup ts=>let x:=resPs T ts;(mkTu x.1,x.2)
 | t=>resP T t

def markCell (v:AV):AV:=if flatV v then v else .tup [v]

def newRows (T:TH) (sz:Nat):TV→Option (List (List AV) × TH)
 | .a .nils|.es=>some ([],T)
 | .a (.vs es _)=>if es.all (fun row=>row.length==sz && row.all flatV) then some (es,T) else if es.all (fun row=>row.length==sz && row.all clo)=true then some (es.map fun row=>row.map markCell,T) else none
 | .sl r p g i n w=>if (T.get r).valid p g=true then match T.get r with
   | .tree rows _ _=>match nodeA rows p with
    | some rp=>
     if i=0∧n=rp.length∧rp.all (fun row=>row.length==sz && row.all flatV)=true then some (rp,T)
     else if w=true∧p=[]∧rp.all (fun row=>row.length==sz)=true then some (rp,T.put r .dead)
     else if n≠0∧i+n≤rp.length∧((rp.drop i).take n).all (fun row=>row.length==sz && row.all flatV)=true then some ((rp.drop i).take n,T)
     else if n=0 then some ([],T)
     else none
    | none=>none
   | _=>none
  else none
 | _=>none

def appT (E:TE) (T:TH) (sz bytes:Nat) (q:Bool) (x y:TV):Option (TV × TE × TH):=
 match newRows T sz y with
 | some (new,T1)=>match x with
  | .a .nils|.a (.vs [] true)|.es=>if new.length*bytes≤roomB then some (.sl T1.next [] 0 0 new.length true,E,T1.new (.tree new true [])) else none
  | .sl r p g _ n w=>if q=false∧w=true∧p=[]∧(T1.get r).valid [] g=true then match T1.get r with
    | .tree rows true log=>if rows.all (fun row=>row.length==sz)=true∧(n+new.length)*bytes≤roomB then some (.sl r [] (log.length+1) 0 (n+new.length) true,E,T1.put r (.tree (rows++new) true ([]::log))) else none
    | _=>none
   else none
  | .rs r _ n w=>if q=false∧w=false∧n=0∧sz=1∧(T1.get r).valid [] 0=true then match T1.get r with
    | .raw []=>if new.length*bytes≤roomB then (match new with
     | []=>some (.rs r 0 0 false,E,T1)
     | _=>some (.sl r [] 1 0 new.length true,E,T1.put r (.tree new true [[]]))) else none
    | _=>none
   else none
  | _=>none
 | none=>none

def appX (E:TE) (T:TH) (sz bytes:Nat) (q:Bool) (x y:TV):Option (TV × TE × TH):=
 match x with
 | .sl r p g _ _ w=>if p=[] then appT E T sz bytes q x y else if w=true then match takeT T r p g with
   | some (.vs rows z,T0)=>appT E (T0.new (.tree rows z [])) sz bytes q (.sl T0.next [] 0 0 rows.length true) y
   | _=>none
  else none
 | x=>appT E T sz bytes q x y

def cutT (T:TH) (a v:TV):Option TH:=
 match a,v with
 | .pt r p g i j,.sl r' p' g' i' n' _=>if r=r'∧p'=p++[(i,j)]∧(T.get r).valid p g=true∧(T.get r).valid p' g'=true∧n'≠0 then match T.get r with
   | .tree rows z log=>match nodeA rows p with
    | some rp=>match cellOf rp i j with
     | some (.vs rows0 _)=>if i'+n'≤rows0.length then some ((T.put r (.tree (setA rows p i j (.tup [])) z ((p++[(i,j)])::log))).put r (.tree (setA (setA rows p i j (.tup [])) p i j (.ifc 0 (.vs ((rows0.drop i').take n') false))) z ((p++[(i,j)])::log))) else none
     | _=>none
    | none=>none
   | _=>none
  else none
 | _,_=>none

def opT (E:TE) (T:TH) (mo:MOp):Option (TV × TE × TH):=
 match mo with
 | .app sz bytes q x y=>if 0<sz then appX E T sz bytes q (E.raw x) (E.raw y) else none
 | .ldn n a=>if 0<n then (opR E T (.ldn n a)).map fun v=>(v,E,T) else none
 | .idx sz x i=>if 0<sz then (opR E T (.idx sz x i)).map fun v=>(v,E,T) else none
 | .slc sz x lo hi mx=>if 0<sz then (opR E T (.slc sz x lo hi mx)).map fun v=>(v,E,T) else none
 | .alloc z=>opW E T (.alloc z)
 | .allocL z=>opW E T (.allocL z)
 | .box x=>opW E T (.box x)
 | .boxL x=>opW E T (.boxL x)
 | .build z ps=>opW E T (.build z ps)
 | .bsl sz len z ps=>opW E T (.bsl sz len z ps)
 | .mksl sz b z l c=>opW E T (.mksl sz b z l c)
 | .st1 a v=>match opW E T (.st1 a v) with
  | some x=>some x
  | none=>(cutT T (E.raw a) (E.raw v)).map fun T'=>(.tu [],E,T')
 | .stn n a v=>opW E T (.stn n a v)
 | .mkmap=>opW E T .mkmap
 | .mset m k v=>opW E T (.mset m k v)
 | .mget z m k=>opW E T (.mget z m k)
 | mo=>(opR E T mo).map fun v=>(v,E,T)

section
variable {A:Anc} {T:TH} {H:AH} {E:TE} {e:Env}

theorem nodeA_setA_self:∀ (p:Path) (rows rp:List (List AV)) (i j:Nat) (t t':AV),nodeA rows p=some rp→cellOf rp i j=some t→nodeA (setA rows p i j t') p=some (setCell rp i j t')
 | [],rows,rp,i,j,t,t',h1,h2=>by
  simp only[nodeA,Option.some.injEq] at h1
  subst h1
  rfl
 | (i0,j0)::p,rows,rp,i,j,t,t',h1,h2=>by
  simp only[nodeA] at h1
  split at h1
  ·rename_i rows0 z0 hc
   simp only[setA,hc,nodeA]
   rw[cellOf_setCell hc,if_pos ⟨rfl,rfl⟩]
   exact nodeA_setA_self p rows0 rp i j t t' h1 h2
  ·cases h1

theorem Own.cut_of {b o sz n cap:Nat} {ex e1:Bool} {rs:List (List AV)} {z:Bool} {S:List Nat} (h:Own H [.sl b o sz n n e1] [.vs rs z] S) (hne:rs≠[]):Own H [.sl b o sz n cap ex] [.ifc 0 (.vs rs false)] S:=by
 obtain⟨b',o',sz',ex',cs,S1,k1,rfl,k3,k4,k5⟩:=h.inv hne
 cases k1
 simpa using Own.cut (cap:=cap) (ex:=ex) hne k3 k4 k5 Own.nil

theorem cutT_sound (h:SRT A E T e H) {a v:Opd} {T':TH} (hs:cutT T (E.raw a) (E.raw v)=some T'):OpTo A T e H (.st1 a v) (.tu []) E T':=by
 have ha:=h.opd a
 have hv:=h.opd v
 unfold cutT at hs
 split at hs
 ·rename_i r p g i j r' p' g' i' n' w e1 e2
  rw[e1] at ha;rw[e2] at hv
  split at hs
  ·rename_i hh
   obtain⟨rfl,rfl,hval,hval',hn0⟩:=hh
   split at hs
   ·rename_i rows z log hT
    split at hs
    ·rename_i rp hn
     split at hs
     ·rename_i rows0 z0 hc
      split at hs
      ·rename_i hle
       cases hs
       generalize hav:e.raw a=av at ha
       generalize hvv:e.raw v=vv at hv
       cases ha with
       | pt _ _ _ _ _ _ hr hg hp hx=>
        obtain⟨_,b,o,sz,n1,cap1,ex1,hf,rfl⟩:=hx hval
        cases hv with
        | sl _ _ _ _ _ _ _ hlt hg' hln hx'=>
         obtain⟨_,hd,k2,_,k4⟩:=hx' hval'
         obtain⟨hd2,Sc,A',a1,a2,a3,a4,a5,a6,a7,a8,a9⟩:=h.mem.detach hT hn hc
         rw[a1] at k2
         cases k2
         obtain⟨b2,o2,sz2,ex2,S',c1,c2,c3,c4⟩:=sub_own a2 hn0 hle
         rcases k4 with k4|⟨b3,o3,sz3,n3,cap3,ex3,cap,ex,k5,rfl,_,_⟩
         ·exact absurd k4 hn0
         rw[c1] at k5
         cases k5
         obtain⟨row,hi,hj⟩:=cellOf_some hc
         obtain⟨b',o',sz',cap',ex',cs,c,Sc',q1,q2,q3,q4,q5,q6⟩:=h.mem.node hT hn hi hj
         rw[hf] at q1
         cases q1
         have hne:(rows0.drop i').take n'≠[]:=fun e0=>by
          have:=congrArg List.length e0
          simp only[List.length_take,List.length_drop,List.length_nil] at this
          omega
         have hT1:(T.put r (.tree (setA rows p i j (.tup [])) z ((p++[(i,j)])::log))).get r=.tree (setA rows p i j (.tup [])) z ((p++[(i,j)])::log):=by rw[TH.get_put,if_pos rfl]
         have hn1:=nodeA_setA_self p rows rp i j _ (.tup []) hn hc
         have hc1:cellOf (setCell rp i j (.tup [])) i j=some (.tup []):=by rw[cellOf_setCell hc,if_pos ⟨rfl,rfl⟩]
         obtain⟨A2,m1,m2,m3,m4,m5,m6⟩:=a4.store hT1 hn1 hc1 (by rw[a8];exact hf) q2 ((c2 true).cut_of (cap:=cap) (ex:=ex) hne) (c4 a3) (fun k x hk hx=>a6 k x hk (c3 x hx))
         have hw:H.write b (o+i*sz+j) [.sl b2 (o2+i'*sz2) sz2 n' cap ex]=some (H.put b (.cells (cs.set (o+i*sz+j) (.sl b2 (o2+i'*sz2) sz2 n' cap ex)))):=by
          unfold AH.write
          rw[q2]
          simp only[]
          rw[if_pos (by simp only[List.length_singleton];omega)]
          congr 3
          unfold Ab.splice
          rw[List.set_eq_take_append_cons_drop,if_pos m5]
          simp
         exact⟨.tup [],e,_,by simp only[aop,hav,hvv,writeAt,hw,AV.one,if_true,Option.map_some],A2,h.grow (a5.trans m2) m1,.tu [] [] rfl (by simp),a5.trans m2⟩
      ·cases hs
     ·cases hs
    ·cases hs
   ·cases hs
  ·cases hs
 ·cases hs

theorem VRL.mkTu {cs:List TV} {hs:List AV} (k:VRL A T H cs hs):VR A T H (mkTu cs) (.tup hs):=by
 unfold Ab.mkTu
 split
 ·rename_i vs h;rw[VRL.of_atoms h k];exact .a _
 ·exact .tu cs hs k.1 k.2

theorem HR.hgrow (hm:HR A T H) {H':AH} (hw:WH H') (hf:∀ x,x<H.next→H'.get x=H.get x):HR A T H'∧Gr A T H A T H':=by
 have hf':∀ r x,T.get r≠.dead→x∈A.S r→H'.get x=H.get x:=fun r x hr hx=>hf x (hm.Slt hr hx)
 have alive:∀ {o:TO} {p g},o.valid p g=true→o≠.dead:=fun h e=>by subst e;cases h
 have hg:Gr A T H A T H':=Gr.mk (Nat.le_refl _) (fun k hk hd=>⟨hd,Nat.le_refl _⟩) fun k hk p g hgl hv=>⟨hv,fun h=>⟨h,hm.follow h fun x hx=>hf' k x (alive hv) hx⟩⟩
 refine⟨hm.change hw hg (fun k=>?_) hm.apart hm.top,hg⟩
 by_cases hd:T.get k=.dead
 ·exact .inr (.inl hd)
 ·exact .inl ⟨rfl,rfl,rfl,fun x hx=>hf' k x hd hx⟩

theorem HR.addRoot (hm:HR A T H) {rows:List (List AV)} {z:Bool} {hd:AV} {F:List Nat} (ho:Own H [hd] [.vs rows z] F) (hnd:F.Nodup) (hap:∀ k x,T.get k≠.dead→x∈F→x∉A.S k) :
  ∃ A',HR A' (T.new (.tree rows z [])) H∧Gr A T H A' (T.new (.tree rows z [])) H∧A'.hd T.next=hd∧(∀ k x,(T.new (.tree rows z [])).get k≠.dead→x∈A'.S k→(T.get k≠.dead∧x∈A.S k)∨x∈F):=by
 have hg:Gr A T H { hd:=fun k=>if T.next=k then hd else A.hd k,S:=fun k=>if T.next=k then F else A.S k } (T.new (.tree rows z [])) H:=by
  refine Gr.mk (Nat.le_succ _) (fun k hk hd'=>?_) fun k hk p g hgl hv=>?_
  ·rw[TH.get_new,if_neg (by omega)] at hd' ⊢;exact⟨hd',Nat.le_refl _⟩
  ·rw[TH.get_new,if_neg (by omega)] at hv ⊢
   simp only[if_neg (show ¬ T.next=k by omega)]
   exact⟨hv,fun h=>⟨h,by trivial⟩⟩
 refine⟨_,hm.change hm.wh hg (fun k=>?_) (fun k k' x h1 h2 hne hx=>?_) (fun k hk=>?_),hg,by simp,fun k x hk hx=>?_⟩
 ·by_cases e:T.next=k
  ·subst e;exact .inr (.inr (.inl ⟨rows,z,[],by rw[TH.get_new,if_pos rfl],by simpa using ho,by simpa using hnd⟩))
  ·by_cases hd':T.get k=.dead
   ·exact .inr (.inl (by rw[TH.get_new,if_neg e];exact hd'))
   ·exact .inl ⟨by rw[TH.get_new,if_neg e],by simp[e],by simp[e],fun _ _=>rfl⟩
 ·rw[TH.get_new] at h1 h2
  by_cases e:T.next=k
  ·subst e
   rw[if_neg hne] at h2
   simp only[if_true,if_neg hne] at hx ⊢
   exact hap k' x h2 hx
  ·rw[if_neg e] at h1
   simp only[if_neg e] at hx
   by_cases e':T.next=k'
   ·subst e'
    simp only[if_true]
    exact fun hx'=>hap k x h1 hx' hx
   ·rw[if_neg e'] at h2
    simp only[if_neg e']
    exact hm.apart k k' x h1 h2 hne hx
 ·rw[TH.next_new] at hk
  rw[TH.get_new,if_neg (by omega)];exact hm.top k (by omega)
 ·rw[TH.get_new] at hk
  simp only at hx
  split at hx
  ·exact .inr hx
  ·rename_i e;rw[if_neg e] at hk;exact .inl ⟨hk,hx⟩

theorem new_slice {A':Anc} {T':TH} {H':AH} {r:Nat} {rows:List (List AV)} {z:Bool} {log:List Path} {hd:AV} {S:List Nat} (hr:r<T'.next) (hT:T'.get r=.tree rows z log) (hh:A'.hd r=hd) (ho:Own H' [hd] [.vs rows z] S) {g:Nat} (hg:g≤log.length):VR A' T' H' (.sl r [] g 0 rows.length true) hd:=by
 cases ho with
 | flat hf=>simp[flatV] at hf
 | emp h0 _ _=>exact .sl _ _ _ _ _ _ _ hr (fun _=>by rw[hT];exact hg) h0 fun _=>⟨by rw[hT];simp[TO.node,TO.rows,nodeA],hd,by rw[followH_nil,hh],fun _=>⟨rfl,rfl⟩,.inl rfl⟩
 | sl=>exact .sl _ _ _ _ _ _ _ hr (fun _=>by rw[hT];exact hg) rfl fun _=>⟨by rw[hT];simp[TO.node,TO.rows,nodeA],_,by rw[followH_nil,hh],fun _=>⟨rfl,rfl⟩,.inr ⟨_,_,_,_,_,_,_,_,rfl,by rw[Nat.zero_mul,Nat.add_zero],Nat.le_refl _,Nat.zero_add _⟩⟩

structure Lays (A:Anc) (T:TH) (H:AH) (A':Anc) (T':TH) (S:List Nat):Prop where
 mem:HR A' T' H
 gr:Gr A T H A' T' H
 sub:∀ k x,T'.get k≠.dead→x∈A'.S k→(T.get k≠.dead∧x∈A.S k)∨x∈S

theorem resC_sound (hm:HR A T H) {h t:AV} {S:List Nat} (ho:Own H [h] [t] S) {d:Nat} (hok:okC d t=true) (hnd:S.Nodup) (hap:∀ k x,T.get k≠.dead→x∈S→x∉A.S k) :
  ∃ A',Lays A T H A' (resC T t).2 S∧VR A' (resC T t).2 H (resC T t).1 h:=by
 cases t with
 | vs rows z=>
  obtain⟨A',k1,k2,k3,k4⟩:=hm.addRoot ho hnd hap
  exact⟨A',⟨k1,k2,k4⟩,new_slice (by rw[resC];simp only[TH.next_new];omega) (by rw[resC];show (T.new _).get T.next=_;rw[TH.get_new,if_pos rfl]) k3 ho (Nat.zero_le _)⟩
 | bool|int|str=>
  cases ho with
  | flat hf=>exact⟨A,⟨hm,Gr.refl,fun k x h1 h2=>.inl ⟨h1,h2⟩⟩,.a _⟩
 | _=>cases d<;>simp[okC,flatV] at hok

theorem resL_sound:∀ {ts hs:List AV} {S:List Nat} {A:Anc} {T:TH},HR A T H→Own H hs ts S→∀ {d:Nat},ts.all (okC d)=true→S.Nodup→(∀ k x,T.get k≠.dead→x∈S→x∉A.S k) →
  ∃ A',Lays A T H A' (resL T ts).2 S∧VRL A' (resL T ts).2 H (resL T ts).1 hs
 | [],hs,S,A,T,hm,ho,d,hok,hnd,hap=>by
  cases ho
  exact⟨A,⟨hm,Gr.refl,fun k x h1 h2=>.inl ⟨h1,h2⟩⟩,VRL.nil⟩
 | t::ts,hs,S,A,T,hm,ho,d,hok,hnd,hap=>by
  simp only[List.all_cons,Bool.and_eq_true] at hok
  obtain⟨S1,S2,rfl,k1,k2⟩:=ho.split 1 (by simp)
  cases hs with
  | nil=>have:=ho.length;simp at this
  | cons h hs=>
   simp only[List.take_succ_cons,List.take_zero,List.drop_succ_cons,List.drop_zero] at k1 k2
   rw[List.nodup_append] at hnd
   obtain⟨A1,m1,m2⟩:=resC_sound hm k1 hok.1 hnd.1 (fun k x hk hx=>hap k x hk (by simp[hx]))
   obtain⟨A2,m3,m4⟩:=resL_sound m1.mem k2 hok.2 hnd.2.1 (fun k x hk hx hx'=>by
    rcases m1.sub k x hk hx' with ⟨g1,g2⟩|g
    ·exact hap k x g1 (by simp[hx]) g2
    ·exact hnd.2.2 x g x hx rfl)
   refine⟨A2,⟨m3.mem,m1.gr.trans m3.gr,fun k x hk hx=>?_⟩,VRL.cons (m3.gr _ _ m2) m4⟩
   rcases m3.sub k x hk hx with ⟨g1,g2⟩|g
   ·rcases m1.sub k x g1 g2 with g|g
    ·exact .inl g
    ·exact .inr (by simp[g])
   ·exact .inr (by simp[g])

theorem resP_sound (hm:HR A T H) {h t:AV} {S:List Nat} (ho:Lf H h t S) (hok:okP t=true) (hnd:S.Nodup) (hap:∀ k x,T.get k≠.dead→x∈S→x∉A.S k) :
  ∃ A',Lays A T H A' (resP T t).2 S∧VR A' (resP T t).2 H (resP T t).1 h:=by
 cases ho with
 | agg ho=>
  obtain⟨A',k1,k2⟩:=resL_sound hm ho hok hnd hap
  exact⟨A',k1,k2.mkAg⟩
 | cell hn ho=>
  have key:∀ {d},okC d t=true→resP T t=resC T t:=by
   intro d hd
   cases t with
   | agg ts=>cases d<;>simp[okC,flatV] at hd
   | _=>rfl
  have h8:okC 8 t=true:=by
   cases t with
   | agg ts=>cases ho with|flat hf=>simp[flatV] at hf
   | _=>exact hok
  rw[key h8]
  exact resC_sound hm ho h8 hnd hap

theorem resPs_sound {hs ts:List AV} {S:List Nat} (ho:LfL H hs ts S):∀ {A:Anc} {T:TH},HR A T H→ts.all okP=true→S.Nodup→(∀ k x,T.get k≠.dead→x∈S→x∉A.S k) →
  ∃ A',Lays A T H A' (resPs T ts).2 S∧VRL A' (resPs T ts).2 H (resPs T ts).1 hs:=by
 induction ho with
 | nil=>intro A T hm _ _ _;exact⟨A,⟨hm,Gr.refl,fun k x h1 h2=>.inl ⟨h1,h2⟩⟩,VRL.nil⟩
 | @cons h t hs ts S1 S2 h1 h2 ih=>
  intro A T hm hok hnd hap
  simp only[List.all_cons,Bool.and_eq_true] at hok
  rw[List.nodup_append] at hnd
  obtain⟨A1,m1,m2⟩:=resP_sound hm h1 hok.1 hnd.1 (fun k x hk hx=>hap k x hk (by simp[hx]))
  obtain⟨A2,m3,m4⟩:=ih m1.mem hok.2 hnd.2.1 (fun k x hk hx hx'=>by
   rcases m1.sub k x hk hx' with ⟨g1,g2⟩|g
   ·exact hap k x g1 (by simp[hx]) g2
   ·exact hnd.2.2 x g x hx rfl)
  refine⟨A2,⟨m3.mem,m1.gr.trans m3.gr,fun k x hk hx=>?_⟩,VRL.cons (m3.gr _ _ m2) m4⟩
  rcases m3.sub k x hk hx with ⟨g1,g2⟩|g
  ·rcases m1.sub k x g1 g2 with g|g
   ·exact .inl g
   ·exact .inr (by simp[g])
  ·exact .inr (by simp[g])

theorem resV_sound (hm:HR A T H) {h t:AV} {S:List Nat} (ho:LfT H h t S) (hok:okT t=true) (hnd:S.Nodup) (hap:∀ k x,T.get k≠.dead→x∈S→x∉A.S k) :
  ∃ A',Lays A T H A' (resV T t).2 S∧VR A' (resV T t).2 H (resV T t).1 h:=by
 cases ho with
 | tup ho=>
  obtain⟨A',k1,k2⟩:=resPs_sound ho hm hok hnd hap
  exact⟨A',k1,k2.mkTu⟩
 | one ho=>
  have key:(∀ x,t≠.tup x)→resV T t=resP T t∧okP t=true:=by
   intro hn
   cases t with
   | tup ts=>exact absurd rfl (hn ts)
   | _=>exact⟨rfl,hok⟩
  have hn:∀ x,t≠.tup x:=by
   cases ho with
   | cell hn _=>exact hn
   | agg=>simp
  rw[(key hn).1]
  exact resP_sound hm ho (key hn).2 hnd hap

theorem own_flat {hs ts:List AV} {S:List Nat} (h:Own H hs ts S) (hf:ts.all flatV=true):hs=ts∧S=[]:=by
 induction h with
 | nil=>exact⟨rfl,rfl⟩
 | flat h0 _ ih=>
  simp only[List.all_cons,Bool.and_eq_true] at hf
  obtain⟨rfl,rfl⟩:=ih hf.2
  exact⟨rfl,rfl⟩
 | emp=>simp[flatV] at hf
 | mark=>simp[flatV] at hf
 | hole=>simp[flatV] at hf
 | sl=>simp[flatV] at hf
 | cut=>simp[flatV] at hf

theorem flat_own:∀ {ts:List AV},ts.all flatV=true→Own H ts ts []
 | [],_=>.nil
 | t::ts,h=>by
  simp only[List.all_cons,Bool.and_eq_true] at h
  exact .flat h.1 (flat_own h.2)

theorem elems_zero {v:AV} {sz:Nat} (h:slenV v=some 0):elemsOf H sz v=some []:=by
 cases v<;>simp[slenV] at h<;>simp[elemsOf,h]

theorem own_elems {h:AV} {rp:List (List AV)} {z:Bool} {S:List Nat} (ho:Own H [h] [.vs rp z] S) {sz:Nat} (hz:∀ row∈rp,row.length=sz):∃ cs S1,elemsOf H sz h=some cs∧Own H cs rp.flatten S1∧(∀ x∈S1,x∈S)∧(S.Nodup→S1.Nodup):=by
 cases ho with
 | flat hf=>simp[flatV] at hf
 | emp h0 _ h1=>
  cases h1
  exact⟨[],[],elems_zero h0,.nil,by simp,by simp⟩
 | sl hne hr hz' h1 h2=>
  cases h2
  rename_i b o sz' ex cs S1
  have hsz:sz'=sz:=by
   obtain⟨row,hrow⟩:=List.exists_mem_of_ne_nil _ hne
   rw[← hz' row hrow,hz row hrow]
  subst hsz
  refine⟨cs,S1, ?_,h1,fun x hx=>by simp[hx],fun hn=>by simp only[List.append_nil,List.nodup_cons] at hn;exact hn.2⟩
  simp only[elemsOf]
  rw[if_neg (fun e=>hne (List.length_eq_zero_iff.1 e)),if_pos trivial,hr]

theorem mark_own:∀ {es:List AV},es.all clo=true→Own H es (es.map markCell) []
 | [],_=>.nil
 | v::es,h=>by
  simp only[List.all_cons,Bool.and_eq_true] at h
  simp only[List.map_cons]
  by_cases hf:flatV v=true
  ·rw[show markCell v=v by unfold markCell;rw[if_pos hf]];exact .flat hf (mark_own h.2)
  ·rw[show markCell v=.tup [v] by unfold markCell;rw[if_neg hf]];exact .mark h.1 (mark_own h.2)

theorem newRows_sound (hm:HR A T H) {sz:Nat} {y:TV} {hy:AV} (hv:VR A T H y hy) {new:List (List AV)} {T1:TH} (hr:newRows T sz y=some (new,T1)) :
  ∃ cs F,elemsOf H sz hy=some cs∧Own H cs new.flatten F∧(∀ row∈new,row.length=sz)∧F.Nodup∧HR A T1 H∧Gr A T H A T1 H∧(∀ k x,T1.get k≠.dead→x∈F→x∉A.S k)∧(∀ x∈F,x<H.next):=by
 have flats:∀ {es:List (List AV)},es.all (fun row=>row.length==sz && row.all flatV)=true→es.flatten.all flatV=true∧(∀ row∈es,row.length=sz)∧es.all (·.length==sz)=true:=by
  intro es h
  simp only[List.all_eq_true,Bool.and_eq_true,beq_iff_eq] at h
  refine⟨?_,fun row hrow=>(h row hrow).1, ?_⟩
  ·simp only[List.all_eq_true,List.mem_flatten]
   rintro x ⟨row,h1,h2⟩
   exact (h row h1).2 x h2
  ·simp only[List.all_eq_true,beq_iff_eq];exact fun row hrow=>(h row hrow).1
 unfold newRows at hr
 split at hr
 ·cases hr
  rw[hv.inv_a]
  exact⟨[],[],rfl,.nil,by simp,by simp,hm,Gr.refl,by simp,by simp⟩
 ·cases hr
  cases hv with
  | es _ he=>
   refine⟨[],[], ?_,.nil,by simp,by simp,hm,Gr.refl,by simp,by simp⟩
   unfold empV at he
   split at he<;>first|rfl|cases he
 ·rw[hv.inv_a]
  split at hr
  ·rename_i hall
   cases hr
   obtain⟨f1,f2,f3⟩:=flats hall
   exact⟨_,[],by simp only[elemsOf];rw[if_pos f3],flat_own f1,f2,by simp,hm,Gr.refl,by simp,by simp⟩
  ·split at hr
   ·rename_i hall
    cases hr
    simp only[List.all_eq_true,beq_iff_eq,Bool.and_eq_true] at hall
    refine⟨_,[],by simp only[elemsOf];rw[if_pos (by simpa using fun row h=>(hall row h).1)], ?_,fun row hrow=>?_,by simp,hm,Gr.refl,by simp,by simp⟩
    ·rw[← List.map_flatten]
     refine mark_own ?_
     simp only[List.all_eq_true,List.mem_flatten]
     rintro x ⟨row,h1,h2⟩
     exact (hall row h1).2 x h2
    ·obtain⟨r0,h1,rfl⟩:=List.mem_map.1 hrow
     rw[List.length_map];exact (hall r0 h1).1
   ·cases hr
 ·split at hr
  ·rename_i hval
   cases hv with
   | sl _ _ _ _ _ _ _ hlt hg hln hx=>
    obtain⟨k1,hd,k2,k3,k4⟩:=hx hval
    split at hr
    ·rename_i rows z log hT
     split at hr
     ·rename_i rp hrp
      split at hr
      ·rename_i hc
       obtain⟨rfl,hn,hall⟩:=hc
       cases hr
       obtain⟨f1,f2,f3⟩:=flats hall
       have ho:=(hm.tree _ rows z log hT).1
       obtain⟨z',S',o1,o2⟩:=own_node _ ho hrp k2

       obtain⟨cs,S1,e1,e2,e3,_⟩:=own_elems o1 f2
       obtain⟨rfl,rfl⟩:=own_flat e2 f1
       refine⟨new.flatten,[], ?_,flat_own f1,f2,by simp,hm,Gr.refl,by simp,by simp⟩
       rcases k4 with rfl|⟨b,o,sz',n0,cap0,ex0,cap,ex,rfl,k5,k6⟩
       ·have:new=[]:=List.length_eq_zero_iff.1 hn.symm
        subst this
        exact elems_zero hln
       ·have e1':=e1
        rw[k5]
        by_cases h0:new=[]
        ·subst h0
         simp only[List.length_nil] at hn
         subst hn
         rfl
        ·obtain⟨b2,o2',sz2,ex2,cs2,S2,g1,_⟩:=o1.inv h0
         cases g1
         have hne:new.length≠0:=fun e=>h0 (List.length_eq_zero_iff.1 e)
         simp only[elemsOf] at e1' ⊢
         rw[if_neg hne] at e1'
         rw[hn,if_neg hne]
         simpa using e1'
      ·split at hr
       ·rename_i hc
        obtain⟨rfl,rfl,hall⟩:=hc
        cases hr
        obtain⟨rfl,rfl⟩:=k3 rfl
        simp only[nodeA,Option.some.injEq] at hrp
        subst hrp
        rw[followH_nil] at k2
        cases k2
        obtain⟨m1,m2⟩:=hm.tree _ rows z log hT
        obtain⟨cs,S1,e1,e2,e3,e4⟩:=own_elems m1 (sz:=sz) (fun row hrow=>by
         simp only[List.all_eq_true,beq_iff_eq] at hall;exact hall row hrow)
        obtain⟨g1,g2⟩:=hm.kill _ hlt
        refine⟨cs,S1,e1,e2,fun row hrow=>by simp only[List.all_eq_true,beq_iff_eq] at hall;exact hall row hrow,e4 m2,g1,g2,fun k x hk hx=>?_,fun x hx=>hm.Slt (by rw[hT];simp) (e3 x hx)⟩
        rw[TH.get_put] at hk
        split at hk
        ·exact absurd rfl hk
        ·rename_i hne;exact hm.apart _ k x (by rw[hT];simp) hk hne (e3 x hx)
       ·split at hr
        ·rename_i hc
         obtain⟨hn,hin,hall⟩:=hc
         cases hr
         obtain⟨f1,f2,f3⟩:=flats hall
         rename_i r p g i n w _ _ _ _
         have ho:=(hm.tree _ rows z log hT).1
         rcases k4 with rfl|⟨b,o,sz',n0,cap0,ex0,cap,ex,rfl,rfl,k6,k7⟩
         ·exact absurd rfl hn
         obtain⟨z',S',o1,o2⟩:=own_node _ ho hrp k2
         obtain⟨b',o',sz2,ex',S2,q1,q2,_,_⟩:=sub_own (i:=i) (n:=n) o1 hn hin
         cases q1
         obtain⟨cs,S1,e1,e2,e3,_⟩:=own_elems (q2 ex) f2
         obtain⟨rfl,rfl⟩:=own_flat e2 f1
         refine⟨_,[], ?_,flat_own f1,f2,by simp,hm,Gr.refl,by simp,by simp⟩
         simp only[elemsOf] at e1 ⊢
         rw[if_neg hn] at e1 ⊢
         exact e1
        ·split at hr
         ·rename_i hn
          subst hn
          cases hr
          exact⟨[],[],elems_zero hln,.nil,by simp,by simp,hm,Gr.refl,by simp,by simp⟩
         ·cases hr
     ·cases hr
    ·cases hr
  ·cases hr
 ·cases hr

theorem HR.reroot (hm:HR A T H) {r:Nat} (hT:T.get r≠.dead) {H':AH} {rows':List (List AV)} {z':Bool} {log:List Path} (hlog:(T.get r).glen≤log.length) (hw:WH H') (hkeep:∀ k x,k≠r→T.get k≠.dead→x∈A.S k→H'.get x=H.get x)
  {hd:AV} {F:List Nat} (ho:Own H' [hd] [.vs rows' z'] F) (hnd:F.Nodup) (hap:∀ k x,k≠r→T.get k≠.dead→x∈F→x∉A.S k) :
  ∃ A',HR A' (T.put r (.tree rows' z' ([]::log))) H'∧Gr A T H A' (T.put r (.tree rows' z' ([]::log))) H'∧A'.hd r=hd:=by
 have hlt:=hm.lt hT
 have alive:∀ {o:TO} {p g},o.valid p g=true→o≠.dead:=fun h e=>by subst e;cases h
 have hg:Gr A T H { hd:=fun k=>if r=k then hd else A.hd k,S:=fun k=>if r=k then F else A.S k } (T.put r (.tree rows' z' ([]::log))) H':=by
  refine Gr.mk (Nat.le_refl _) (fun k hk hd'=>?_) fun k hk p g hgl hv=>?_
  ·rw[TH.get_put] at hd' ⊢
   split
   ·rename_i e;subst e;exact⟨hT,Nat.le_succ_of_le hlog⟩
   ·rename_i e;rw[if_neg e] at hd';exact⟨hd',Nat.le_refl _⟩
  ·rw[TH.get_put] at hv ⊢
   split
   ·rename_i e
    subst e
    rw[if_pos rfl] at hv
    exfalso
    simp only[TO.valid,List.length_cons] at hv
    rw[show log.length+1 - g=(log.length - g)+1 by omega,List.take_succ_cons,List.all_cons,Bool.and_eq_true] at hv
    have:=hv.1
    simp at this
   ·rename_i e
    rw[if_neg e] at hv
    simp only[if_neg e]
    exact⟨hv,fun h=>⟨h,hm.follow h fun x hx=>hkeep k x (fun e'=>e e'.symm) (alive hv) hx⟩⟩
 refine⟨_,hm.change hw hg (fun k=>?_) (fun k k' x h1 h2 hne hx=>?_) (fun k hk=>?_),hg,by simp⟩
 ·by_cases e:r=k
  ·subst e;exact .inr (.inr (.inl ⟨rows',z',_,by rw[TH.get_put,if_pos rfl],by simpa using ho,by simpa using hnd⟩))
  ·by_cases hd':T.get k=.dead
   ·exact .inr (.inl (by rw[TH.get_put,if_neg e];exact hd'))
   ·exact .inl ⟨by rw[TH.get_put,if_neg e],by simp[e],by simp[e],fun x hx=>hkeep k x (fun e'=>e e'.symm) hd' hx⟩
 ·rw[TH.get_put] at h1 h2
  by_cases e:r=k
  ·subst e
   rw[if_neg hne] at h2
   simp only[if_true,if_neg hne] at hx ⊢
   exact hap k' x (fun e'=>hne e'.symm) h2 hx
  ·rw[if_neg e] at h1
   simp only[if_neg e] at hx
   by_cases e':r=k'
   ·subst e'
    simp only[if_true]
    exact fun hx'=>hap k x (fun e2=>e e2.symm) h1 hx' hx
   ·rw[if_neg e'] at h2
    simp only[if_neg e']
    exact hm.apart k k' x h1 h2 hne hx
 ·rw[TH.get_put];split
  ·rename_i e;subst e;exact absurd hk (by simp only[TH.next_put];omega)
  ·exact hm.top k hk

end
end Go.Ab

namespace Go.Ab

section
variable {A:Anc} {T:TH} {H:AH} {E:TE} {e:Env}

theorem own_vs_nil {h:AV} {z:Bool} {S:List Nat} (ho:Own H [h] [.vs [] z] S):slenV h=some 0∧(z=true→empV h=true):=by
 cases ho with
 | flat hf=>simp[flatV] at hf
 | emp h0 hz hnil=>exact⟨h0,hz⟩
 | sl hne=>exact absurd rfl hne

theorem appT_sound' (h:SRT A E T e H) {sz bytes:Nat} {q:Bool} {x y:Opd} (hpos:0<sz) {X:Unit→TV} (hX:VR A T H (X ()) (e.raw x)) {v:TV} {E':TE} {T':TH} (ho:appT E T sz bytes q (X ()) (E.raw y)=some (v,E',T')):OpTo A T e H (.app sz bytes q x y) v E' T':=by
 unfold appT at ho
 split at ho
 ·rename_i new T1 hnew
  obtain⟨cs,F,e1,e2,e3,e4,e5,e6,e7,e8⟩:=newRows_sound h.mem (h.opd y) hnew
  have hcl:cs.length=new.length*sz:=by rw[e2.length,flat_len e3]
  have hm:cs.length / sz=new.length:=by rw[hcl];exact Nat.mul_div_cancel _ hpos
  have hx:=e6 _ _ hX
  have nil_of:new.length=0→new=[]:=fun hh=>List.length_eq_zero_iff.1 hh
  have F_nil:new=[]→cs=[]∧F=[]:=fun hh=>by
   subst hh
   have:cs=[]:=by cases cs with|nil=>rfl|cons _ _=>simp at hcl
   subst this
   cases e2
   exact⟨rfl,rfl⟩

  have fresh:∀ {hx:AV},e.raw x=hx→empV hx=true→new.length*bytes≤roomB→OpTo A T e H (.app sz bytes q x y) (.sl T1.next [] 0 0 new.length true) E (T1.new (.tree new true [])):=by
   intro hx hxe hemp hroom
   by_cases h0:new=[]
   ·obtain⟨rfl,rfl⟩:=F_nil h0
    subst h0
    obtain⟨A',k1,k2,k3,_⟩:=e5.addRoot (rows:=[]) (z:=true) (hd:=hx) (F:=[]) (.emp (empV_len hemp) (fun _=>hemp) .nil) (by simp) (by simp)
    refine⟨hx,e,H, ?_,A',h.grow (e6.trans k2) k1,new_slice (by rw[TH.next_new];omega) (by rw[TH.get_new,if_pos rfl]) k3 (.emp (empV_len hemp) (fun _=>hemp) .nil) (Nat.le_refl _),e6.trans k2⟩
    have:appA H sz bytes q hx (e.raw y)=some (hx,H):=by
     unfold appA
     rw[e1]
     simp only[List.length_nil,Nat.zero_div,if_true]
     unfold empV at hemp
     split at hemp<;>first|rfl|cases hemp
    simp only[aop,hxe,this,Option.map_some]
   ·have hne:¬ new.length=0:=fun hh=>h0 (nil_of hh)
    have hw:=e5.wh.new (.cells cs)
    have hown:Own (H.new (.cells cs)) [.sl H.next 0 sz new.length new.length false] [.vs new true] (H.next::F):=by
     have:=Own.sl (H:=H.new (.cells cs)) (b:=H.next) (o:=0) (sz:=sz) (ex:=false) (z:=true) (rows:=new) (cs:=cs) (S1:=F) (S2:=[]) (hs:=[]) (ts:=[]) h0 (by
      unfold AH.read
      rw[AH.get_new_self]
      simp only[slice]
      rw[if_pos (by omega),List.drop_zero,List.take_of_length_le (by omega)]) e3 (e2.frame fun x hx=>by rw[AH.get_new,if_neg];have:=e8 x hx;omega) .nil
     simpa using this
    obtain⟨A',k1,k2,k3,_⟩:=e5.newRoot (o:=.tree new true []) (ho:=.cells cs) (hd:=.sl H.next 0 sz new.length new.length false) (F:=H.next::F)
     (fun x hx=>by
      rcases List.mem_cons.1 hx with rfl|hx
      ·exact .inl rfl
      ·exact .inr ⟨e8 x hx,fun k hk=>e7 k x hk hx⟩)
     (fun A' _ _ _=>.inl ⟨_,_,_,rfl,hown,by rw[List.nodup_cons];exact⟨fun hh=>by have:=e8 _ hh;omega,e4⟩⟩)
    refine⟨.sl H.next 0 sz new.length new.length false,e,H.new (.cells cs), ?_,A',h.grow (e6.trans k2) k1,new_slice (by rw[TH.next_new];omega) (by rw[TH.get_new,if_pos rfl]) k3 hown (Nat.le_refl _),e6.trans k2⟩
    have:appA H sz bytes q hx (e.raw y)=some (.sl H.next 0 sz new.length new.length false,H.new (.cells cs)):=by
     unfold appA
     rw[e1]
     simp only[hm]
     rw[if_neg hne]
     unfold empV at hemp
     split at hemp
     ·simp only[List.length_nil,Nat.zero_div,Nat.zero_add,List.nil_append];rw[if_pos hroom]
     ·simp only[List.length_nil,Nat.zero_div,Nat.zero_add,List.nil_append];rw[if_pos hroom]
     ·simp only[List.length_nil,Nat.zero_div,Nat.zero_add,List.nil_append,and_self,if_true];rw[if_pos hroom]
     ·cases hemp
    simp only[aop,hxe,this,Option.map_some]
  split at ho
  ·rename_i hxe
   split at ho
   ·rename_i hroom;cases ho
    rw[hxe] at hx
    exact fresh hx.inv_a rfl hroom
   ·cases ho
  ·rename_i hxe
   split at ho
   ·rename_i hroom;cases ho
    rw[hxe] at hx
    exact fresh hx.inv_a rfl hroom
   ·cases ho
  ·rename_i hxe
   split at ho
   ·rename_i hroom;cases ho
    rw[hxe] at hx
    cases hx with
    | es _ he=>exact fresh rfl he hroom
   ·cases ho
  ·rename_i r p g i0 n w hxe
   rw[hxe] at hx
   split at ho
   ·rename_i hc
    obtain⟨rfl,rfl,rfl,hval⟩:=hc
    split at ho
    ·rename_i rows log hT
     split at ho
     ·rename_i hcond
      obtain⟨hall,hroom⟩:=hcond
      cases ho
      simp only[List.all_eq_true,beq_iff_eq] at hall
      cases hx with
      | sl _ _ _ _ _ _ hxv hlt hg hln hx=>
       obtain⟨_,hd,k2,k3,_⟩:=hx hval
       rw[followH_nil] at k2
       cases k2
       obtain⟨hxe2,rfl⟩:=k3 rfl
       obtain⟨m1,m2⟩:=e5.tree r rows true log hT
       have hal:T1.get r≠.dead:=by rw[hT];simp
       have hglen:(T1.get r).glen≤log.length:=by rw[hT];exact Nat.le_refl _
       have hap:∀ k x,k≠r→T1.get k≠.dead→x∈A.S r→x∉A.S k:=fun k x hk hd hx=>e5.apart r k x hal hd (fun e'=>hk e'.symm) hx

       have fin:∀ {H2:AH} {hd2:AV} {F2:List Nat},appA H sz bytes false (e.raw x) (e.raw y)=some (hd2,H2)→WH H2→(∀ k x,k≠r→T1.get k≠.dead→x∈A.S k→H2.get x=H.get x)→Own H2 [hd2] [.vs (rows++new) true] F2→F2.Nodup →
         (∀ k x,k≠r→T1.get k≠.dead→x∈F2→x∉A.S k)→n=rows.length→OpTo A T e H (.app sz bytes false x y) (.sl r [] (log.length+1) 0 (n+new.length) true) E (T1.put r (.tree (rows++new) true ([]::log))):=by
        intro H2 hd2 F2 ha hw hk ho2 hn2 hap2 hn
        obtain⟨A',a1,a2,a3⟩:=e5.reroot hal hglen hw hk ho2 hn2 hap2
        refine⟨hd2,e,H2,by simp only[aop,ha,Option.map_some],A',h.grow (e6.trans a2) a1, ?_,e6.trans a2⟩
        have hns:=new_slice (A':=A') (T':=T1.put r (.tree (rows++new) true ([]::log))) (H':=H2) (r:=r) (g:=log.length+1) (by rw[TH.next_put];exact hlt) (by rw[TH.get_put,if_pos rfl]) a3 ho2 (by simp)
        rwa [List.length_append,← hn] at hns
       cases hrows:rows with
       | nil=>
        subst hrows
        rw[← hxe2] at m1
        obtain⟨h0,hz⟩:=own_vs_nil m1
        ·
         have hemp:=hz rfl
         have hn0:n=0:=by rw[h0] at hln;cases hln;rfl
         subst hn0
         by_cases hnew0:new=[]
         ·obtain⟨rfl,rfl⟩:=F_nil hnew0
          subst hnew0
          refine fin (hd2:=e.raw x) (F2:=[]) ?_ e5.wh (fun _ _ _ _ _=>rfl) (.emp h0 hz .nil) (by simp) (by simp) rfl
          unfold appA
          rw[e1]
          simp only[List.length_nil,Nat.zero_div,if_true]
          generalize e.raw x=hxx at hemp
          unfold empV at hemp
          split at hemp<;>first|rfl|cases hemp
         ·have hne:¬ new.length=0:=fun hh=>hnew0 (nil_of hh)
          refine fin (hd2:=.sl H.next 0 sz new.length new.length false) (H2:=H.new (.cells cs)) (F2:=H.next::F) ?_ (e5.wh.new _) (fun k x _ hk hx=>by rw[AH.get_new,if_neg];have:=e5.Slt hk hx;omega) ?_ ?_ ?_ rfl
          ·unfold appA
           rw[e1]
           simp only[hm]
           rw[if_neg hne]
           generalize e.raw x=hxx at hemp
           simp only[Nat.zero_add] at hroom
           unfold empV at hemp
           split at hemp
           ·simp only[List.length_nil,Nat.zero_div,Nat.zero_add,List.nil_append];rw[if_pos hroom]
           ·simp only[List.length_nil,Nat.zero_div,Nat.zero_add,List.nil_append];rw[if_pos hroom]
           ·simp only[List.length_nil,Nat.zero_div,Nat.zero_add,List.nil_append,and_self,if_true];rw[if_pos hroom]
           ·cases hemp
          ·have:=Own.sl (H:=H.new (.cells cs)) (b:=H.next) (o:=0) (sz:=sz) (ex:=false) (z:=true) (rows:=new) (cs:=cs) (S1:=F) (S2:=[]) (hs:=[]) (ts:=[]) hnew0 (by
            unfold AH.read
            rw[AH.get_new_self]
            simp only[slice]
            rw[if_pos (by omega),List.drop_zero,List.take_of_length_le (by omega)]) e3 (e2.frame fun x hx=>by rw[AH.get_new,if_neg];have:=e8 x hx;omega) .nil
           simpa using this
          ·rw[List.nodup_cons];exact⟨fun hh=>by have:=e8 _ hh;omega,e4⟩
          ·intro k x hk hd hx
           rcases List.mem_cons.1 hx with rfl|hx
           ·exact fun hx'=>by have:=e5.Slt hd hx';omega
           ·exact e7 k x hd hx
       | cons r0 rs=>
        rw[← hrows]
        have hne0:rows≠[]:=by rw[hrows];simp
        rw[← hxe2] at m1
        obtain⟨b,o,sz',ex,ws,S1,hxx,hS,hrd,hz',ho1⟩:=m1.inv hne0
        have hsz:sz'=sz:=by
         obtain⟨row,hrow⟩:=List.exists_mem_of_ne_nil _ hne0
         rw[← hz' row hrow,hall row hrow]
        subst hsz
        have hn:n=rows.length:=by rw[hxx] at hln;cases hln;rfl
        have hwl:ws.length=rows.length*sz':=by rw[ho1.length,flat_len hz']
        have hL:rows.length≠0:=fun hh=>hne0 (List.length_eq_zero_iff.1 hh)
        rw[hS,List.nodup_cons] at m2
        have hbS:b∈A.S r:=by rw[hS];simp
        have hbn:b<H.next:=e5.Slt hal hbS
        by_cases hnew0:new=[]
        ·obtain⟨rfl,rfl⟩:=F_nil hnew0
         subst hnew0
         refine fin (hd2:=e.raw x) (F2:=A.S r) ?_ e5.wh (fun _ _ _ _ _=>rfl) (by rw[List.append_nil];exact m1) (by rw[hS,List.nodup_cons];exact m2) hap hn
         unfold appA
         rw[e1]
         simp only[List.length_nil,Nat.zero_div,if_true]
         rw[hxx]
        ·have hne:¬ new.length=0:=fun hh=>hnew0 (nil_of hh)
         have hdisj:∀ x,x∈S1→x∉F:=fun x hx hx'=>e7 r x hal hx' (by rw[hS];simp[hx])
         have hbF:b∉F:=fun hh=>e7 r b hal hh hbS
         have happ:appA H sz' bytes false (e.raw x) (e.raw y)=some (.sl H.next 0 sz' (rows.length+new.length) (rows.length+new.length) false,(if ex=true then H else H.put b .dead).new (.cells (ws++cs))):=by
          unfold appA
          rw[e1]
          simp only[hm]
          rw[if_neg hne,hxx]
          simp only[]
          rw[if_neg (fun hh=>hL hh.2),if_neg (by simp),if_neg (by omega),hrd]
          have hdiv:ws.length / sz'=rows.length:=by rw[hwl];exact Nat.mul_div_cancel _ hpos
          have hroom':(rows.length+new.length)*bytes≤roomB:=by rw[← hn];exact hroom
          cases ex with
          | true=>simp only[if_true,hdiv];rw[if_pos hroom']
          | false=>simp only[Bool.false_eq_true,if_false,hdiv];rw[if_pos hroom'];rfl
         have hget:∀ x,x≠b→x<H.next→((if ex=true then H else H.put b .dead).new (.cells (ws++cs))).get x=H.get x:=by
          intro x hxb hxn
          cases ex with
          | true=>simp only[if_true];rw[AH.get_new,if_neg (by omega)]
          | false=>simp only[Bool.false_eq_true,if_false];rw[AH.get_new,if_neg (show ¬ (H.put b .dead).next=x by show ¬ H.next=x;omega),AH.get_put',if_neg (fun e'=>hxb e'.symm)]
         have hself:((if ex=true then H else H.put b .dead).new (.cells (ws++cs))).get H.next=.cells (ws++cs):=by
          cases ex with
          | true=>exact AH.get_new_self _ _
          | false=>exact AH.get_new_self (H.put b .dead) _
         have hS1n:∀ x∈S1,x<H.next∧x≠b:=fun x hx=>⟨e5.Slt hal (by rw[hS];simp[hx]),fun e'=>m2.1 (by subst e';exact hx)⟩
         refine fin happ ?_ ?_ (F2:=H.next::(S1++F)) ?_ ?_ ?_ hn
         ·cases ex with
          | true=>exact e5.wh.new _
          | false=>exact (e5.wh.put hbn _).new _
         ·intro k x hk hd hx
          exact hget x (fun e'=>by subst e';exact hap k x hk hd hbS hx) (e5.Slt hd hx)
         ·have:=Own.sl (H:=(if ex=true then H else H.put b .dead).new (.cells (ws++cs))) (b:=H.next) (o:=0) (sz:=sz') (ex:=false) (z:=true) (rows:=rows++new) (cs:=ws++cs) (S1:=S1++F) (S2:=[]) (hs:=[]) (ts:=[]) (by simp[hne0]) (by
           unfold AH.read
           rw[hself]
           simp only[slice]
           have:(ws++cs).length=(rows++new).length*sz':=by rw[List.length_append,List.length_append,hwl,hcl,Nat.add_mul]
           rw[if_pos (by omega),List.drop_zero,List.take_of_length_le (by omega)])
           (fun row hrow=>by
            rcases List.mem_append.1 hrow with hh|hh
            ·exact hz' row hh
            ·exact e3 row hh) (by
            rw[List.flatten_append]
            exact (ho1.frame fun x hx=>hget x (hS1n x hx).2 (hS1n x hx).1).append (e2.frame fun x hx=>hget x (fun e'=>hbF (by subst e';exact hx)) (e8 x hx))) .nil
          simpa using this
         ·rw[List.nodup_cons,List.nodup_append]
          refine⟨fun hh=>?_,m2.2,e4,fun x hx y hy e'=>by subst e';exact hdisj x hx hy⟩
          rcases List.mem_append.1 hh with hh|hh
          ·have:=(hS1n _ hh).1;omega
          ·have:=e8 _ hh;omega
         ·intro k x hk hd hx
          rcases List.mem_cons.1 hx with rfl|hx
          ·exact fun hx'=>by have:=e5.Slt hd hx';omega
          ·rcases List.mem_append.1 hx with hx|hx
           ·exact hap k x hk hd (by rw[hS];simp[hx])
           ·exact e7 k x hd hx
     ·cases ho
    ·cases ho
   ·cases ho
  ·rename_i r j0 n w hxe
   rw[hxe] at hx
   split at ho
   ·rename_i hc
    obtain⟨rfl,rfl,rfl,rfl,hval⟩:=hc
    split at ho
    ·rename_i hT
     split at ho
     ·rename_i hroom
      cases hx with
      | rs _ _ _ _ _ hlt hln hx=>
       obtain⟨hnd,b,N,k2,hxx,hle⟩:=hx hval
       obtain⟨b',hs,m1,m2,m3,m4⟩:=e5.raw r [] hT
       have k20:=k2
       rw[m1,followH_nil] at k2
       cases k2
       have hs0:hs=[]:=m4.inv_nil
       subst hs0
       have hal:T1.get r≠.dead:=by rw[hT];simp
       have hbS:b∈A.S r:=by rw[m2];simp
       have hbn:b<H.next:=e5.Slt hal hbS
       have hj:j0=0:=by simp at hle;omega
       subst hj
       split at ho
       ·cases ho
        obtain⟨rfl,rfl⟩:=F_nil rfl
        refine⟨e.raw x,e,H, ?_,A,h.grow e6 e5,.rs _ _ _ _ _ hlt hln fun _=>⟨hnd,b,_,k20,hxx,hle⟩,e6⟩
        have:appA H 1 bytes false (e.raw x) (e.raw y)=some (e.raw x,H):=by
         unfold appA
         rw[e1,hxx]
         simp
        simp only[aop,this,Option.map_some]
       ·rename_i new0 hne0
        cases ho
        have hnew0:new≠[]:=fun e=>hne0 e
        have hne:¬ new.length=0:=fun hh=>hnew0 (nil_of hh)
        have hget:∀ x,x≠b→x<H.next→((H.put b .dead).new (.cells cs)).get x=H.get x:=by
         intro x hxb hxn
         rw[AH.get_new,if_neg (show ¬ (H.put b .dead).next=x by show ¬ H.next=x;omega),AH.get_put',if_neg (fun e'=>hxb e'.symm)]
        have hbF:b∉F:=fun hh=>e7 r b hal hh hbS
        have happ:appA H 1 bytes false (e.raw x) (e.raw y)=some (.sl H.next 0 1 new.length new.length false,(H.put b .dead).new (.cells cs)):=by
         unfold appA
         rw[e1]
         simp only[hm]
         rw[if_neg hne,hxx]
         have hrd:H.read b 0 0=some []:=by unfold AH.read;rw[m3];rfl
         simp only[Nat.zero_mul,hrd,List.length_nil,Nat.zero_div,Nat.zero_add,List.nil_append]
         rw[if_neg (by simp),if_neg (by simp),if_neg (by omega),if_neg (by simp),if_neg (by simp),if_pos hroom]
         rfl
        have ho2:Own ((H.put b .dead).new (.cells cs)) [.sl H.next 0 1 new.length new.length false] [.vs new true] (H.next::F):=by
         have:=Own.sl (H:=(H.put b .dead).new (.cells cs)) (b:=H.next) (o:=0) (sz:=1) (ex:=false) (z:=true) (rows:=new) (cs:=cs) (S1:=F) (S2:=[]) (hs:=[]) (ts:=[]) hnew0 (by
          unfold AH.read
          rw[show ((H.put b .dead).new (.cells cs)).get H.next=.cells cs from AH.get_new_self (H.put b .dead) _]
          simp only[slice]
          rw[if_pos (by omega),List.drop_zero,List.take_of_length_le (by omega)]) e3 (e2.frame fun x hx=>hget x (fun e'=>hbF (by subst e';exact hx)) (e8 x hx)) .nil
         simpa using this
        obtain⟨A',a1,a2,a3⟩:=e5.reroot (r:=r) (log:=[]) hal (by rw[hT];exact Nat.le_refl _) ((e5.wh.put hbn _).new _)
         (fun k x hk hd hx=>hget x (fun e'=>by subst e';exact e5.apart r k x hal hd (fun e''=>hk e''.symm) hbS hx) (e5.Slt hd hx)) ho2
         (by rw[List.nodup_cons];exact⟨fun hh=>by have:=e8 _ hh;omega,e4⟩)
         (fun k x hk hd hx=>by
          rcases List.mem_cons.1 hx with rfl|hx
          ·exact fun hx'=>by have:=e5.Slt hd hx';omega
          ·exact e7 k x hd hx)
        refine⟨.sl H.next 0 1 new.length new.length false,e,_,by simp only[aop,happ,Option.map_some],A',h.grow (e6.trans a2) a1, ?_,e6.trans a2⟩
        exact new_slice (A':=A') (T':=T1.put r (.tree new true [[]])) (r:=r) (g:=1) (by rw[TH.next_put];exact hlt) (by rw[TH.get_put,if_pos rfl]) a3 ho2 (by simp)
     ·cases ho
    ·cases ho
   ·cases ho
  ·cases ho
 ·cases ho

theorem appT_sound (h:SRT A E T e H) {sz bytes:Nat} {q:Bool} {x y:Opd} (hpos:0<sz) {xv:TV} (hX:VR A T H xv (e.raw x)) {v:TV} {E':TE} {T':TH} (ho:appT E T sz bytes q xv (E.raw y)=some (v,E',T')):OpTo A T e H (.app sz bytes q x y) v E' T':=appT_sound' h hpos (X:=fun _=>xv) hX ho

theorem appX_sound (h:SRT A E T e H) {sz bytes:Nat} {q:Bool} {x y:Opd} (hpos:0<sz) {xv:TV} (hX:VR A T H xv (e.raw x)) {v:TV} {E':TE} {T':TH} (ho:appX E T sz bytes q xv (E.raw y)=some (v,E',T')):OpTo A T e H (.app sz bytes q x y) v E' T':=by
 unfold appX at ho
 split at ho
 ·split at ho
  ·exact appT_sound h hpos hX ho
  ·split at ho
   ·rename_i hw
    subst hw
    split at ho
    ·rename_i rows z T0 ht
     obtain⟨A1,S,k1,k2⟩:=takeT_sound h.mem hX ht
     obtain⟨A2,m1,m2,m3,_⟩:=k1.mem.addRoot k2 k1.nd k1.apart
     have hv:=new_slice (T':=T0.new (.tree rows z [])) (g:=0) (by rw[TH.next_new];omega) (by rw[TH.get_new,if_pos rfl]) m3 k2 (Nat.le_refl _)
     obtain⟨x',e',H',j1,A3,j2,j3,j4⟩:=appT_sound (h.grow (k1.gr.trans m2) m1) hpos hv ho
     exact⟨x',e',H',j1,A3,j2,j3,(k1.gr.trans m2).trans j4⟩
    ·cases ho
   ·cases ho
 ·exact appT_sound h hpos hX ho

theorem opT_sound (h:SRT A E T e H) {mo:MOp} {v:TV} {E':TE} {T':TH} (ho:opT E T mo=some (v,E',T')):OpTo A T e H mo v E' T':=by
 have rd:∀ {mo:MOp},(opR E T mo).map (fun v=>(v,E,T))=some (v,E',T')→(∀ n a,mo=.ldn n a→0<n)→(∀ sz x i,mo=.idx sz x i→0<sz)→(∀ sz x lo hi mx,mo=.slc sz x lo hi mx→0<sz)→OpTo A T e H mo v E' T':=by
  intro mo hr h1 h2 h3
  obtain⟨w,k1,k2⟩:=map_some hr
  cases k2
  obtain⟨x,k3,k4⟩:=opR_sound h k1 h1 h2 h3
  exact⟨x,e,H,k3,A,h,k4,Gr.refl⟩
 cases mo
 case app sz bytes q x y=>
  simp only[opT] at ho
  split at ho
  ·rename_i hp;exact appX_sound h hp (h.opd x) ho
  ·cases ho
 case ldn n a=>
  simp only[opT] at ho
  split at ho
  ·rename_i hp;exact rd ho (fun n' a' e'=>by cases e';exact hp) (fun _ _ _ e'=>by cases e') (fun _ _ _ _ _ e'=>by cases e')
  ·cases ho
 case idx sz x i=>
  simp only[opT] at ho
  split at ho
  ·rename_i hp;exact rd ho (fun n' a' e'=>by cases e') (fun _ _ _ e'=>by cases e';exact hp) (fun _ _ _ _ _ e'=>by cases e')
  ·cases ho
 case slc sz x lo hi mx=>
  simp only[opT] at ho
  split at ho
  ·rename_i hp;exact rd ho (fun n' a' e'=>by cases e') (fun _ _ _ e'=>by cases e') (fun _ _ _ _ _ e'=>by cases e';exact hp)
  ·cases ho
 case st1 a x=>
  simp only[opT] at ho
  split at ho
  ·rename_i y hy;cases ho;exact opW_sound h hy
  ·obtain⟨T1,h1,h2⟩:=map_some ho
   cases h2
   exact cutT_sound h h1
 all_goals simp only[opT] at ho
 all_goals first
  | exact opW_sound h ho
  | exact rd ho (fun _ _ e'=>by cases e') (fun _ _ _ e'=>by cases e') (fun _ _ _ _ _ e'=>by cases e')

end
end Go.Ab

namespace Go.Ab

def EvQ (M:FuncId→Option MFunc) (q:Bool) (k:FuncId) (args:List AV) (H:AH) (h:AV) (H':AH):Prop:=
 if q=true then ∃ H1,Ev M k args { H with lo:=H.next } h H1∧H.next≤H1.lo∧H'={ H1 with lo:=H.lo } else Ev M k args H h H'

def CallT (M:FuncId→Option MFunc) (q:Bool) (k:FuncId) (args:List TV) (T:TH) (K:TV→TH→Prop):Prop:=
 ∀ A H hargs,HR A T H→VRL A T H args hargs→∃ h H',EvQ M q k hargs H h H'∧∃ v A' T',HR A' T' H'∧VR A' T' H' v h∧Gr A T H A' T' H'∧K v T'

def callee:TV→Option (FuncId × List TV × List TV)
 | .a (.fn (.func k) first cap)=>some (k,first.map .a,cap.map .a)
 | .fn (.func k) first cap=>some (k,first,cap)
 | _=>none

def wop (M:FuncId→Option MFunc) (mo:MOp) (E:TE) (T:TH) (K:TV→TE→TH→Prop):Prop:=
 match mo with
 | .call q f as=>match callee (E.raw f),mapO (valT E) as with
  | some (k,first,cap),some vs=>CallT M q k (first++vs++cap) T fun v T1=>K v E T1
  | _,_=>False
 | mo=>match opT E T mo with
  | some (v,E1,T1)=>K v E1 T1
  | none=>False

def wpo (M:FuncId→Option MFunc):List MOper→TE→TH→(TE→TH→Prop)→Prop
 | [],E,T,Q=>Q E T
 | o::l,E,T,Q=>match o.guard with
  | none=>wop M o.op E T fun v E1 T1=>wpo M l (E1.put o.dst v) T1 Q
  | some (t,w)=>match E.get t with
   | .a (.bool b)=>if b=w then wop M o.op E T fun v E1 T1=>wpo M l (E1.put o.dst v) T1 Q else wpo M l (E.put o.dst (.tu [])) T Q
   | .tu _=>wpo M l (E.put o.dst (.tu [])) T Q
   | _=>False

def trT (E:TE) (T:TH):List MOper→Option (List (TE × TH))
 | []=>some [(E,T)]
 | o::l=>match o.guard with
  | none=>match opT E T o.op with
   | some (v,E1,T1)=>(trT (E1.put o.dst v) T1 l).map ((E,T)::·)
   | none=>none
  | some _=>none

def apartT:TV→TV→Bool
 | .lp x _,.lp y _=>x != y
 | .lp ..,.a (.vp ..)|.lp ..,.pt ..|.pt ..,.a (.vp ..)|.pt ..,.lp ..=>true
 | _,_=>false

def isLpT:TV→Bool
 | .lp ..=>true
 | _=>false

def pairT (l:List MOper) (S:List (TE × TH)) (p:Nat × Nat):Bool:=
 match l[p.1]?,l[p.2]?,S[p.1]?,S[p.2]? with
 | some os,some oj,some (Es,_),some (Ej,_)=>decide (p.2<p.1) && match stOf os.op,ldOf oj.op with
  | some (a,_),some (b,_)=>apartT (Es.raw a) (Ej.raw b)
  | none,some (b,_)=>isLpT (Ej.raw b)
  | _,_=>false
 | _,_,_,_=>false

def wptr (M:FuncId→Option MFunc):List MOper→TE→TH→(List (TE × TH)→Prop)→Prop
 | [],E,T,K=>K [(E,T)]
 | o::l,E,T,K=>o.guard=none∧wop M o.op E T fun v E1 T1=>wptr M l (E1.put o.dst v) T1 fun S=>K ((E,T)::S)

def DrawC (M:FuncId→Option MFunc) (l:List MOper) (chk:List (Nat × Nat)) (E:TE) (T:TH) (Q:Out→TE→TH→Prop):Prop:=
 wptr M l E T fun S=>chk.all (pairT l S)=true∧match S.getLast? with
  | some (E',T')=>Q .normal E' T'
  | none=>False

def wpc (M:FuncId→Option MFunc):MCode→TE→TH→(Out→TE→TH→Prop)→Prop
 | .skip,E,T,Q=>Q .normal E T
 | .ops l,E,T,Q=>wpo M l E T (Q .normal)
 | .draw l chk,E,T,Q=>match trT E T l with
  | some S=>if chk.all (pairT l S)=true then match S.getLast? with
    | some (E',T')=>Q .normal E' T'
    | none=>False
   else False
  | none=>DrawC M l chk E T Q
 | .seq a b,E,T,Q=>wpc M a E T (thenT (fun E' T'=>wpc M b E' T' Q) Q)
 | .cond c a b,E,T,Q=>match E.raw c with
  | .a (.bool t)=>if t=true then wpc M a E T Q else wpc M b E T Q
  | _=>False
 | .block id b,E,T,Q=>wpc M b E T (blockT id Q)
 | .loop b,E,T,Q=>WCT M (.loop b) E T Q
 | .exit id,E,T,Q=>Q (.exit id) E T
 | .ret,E,T,Q=>Q .ret E T
 | .ext k,E,T,Q=>WCT M (.ext k) E T Q

section
variable {M:FuncId→Option MFunc} {A:Anc} {T:TH} {H:AH} {E:TE} {e:Env}

theorem callee_sound {v:TV} {h:AV} (hv:VR A T H v h) {k:FuncId} {first cap:List TV} (hc:callee v=some (k,first,cap)):∃ f c,h=.fn (.func k) f c∧VRL A T H first f∧VRL A T H cap c:=by
 unfold callee at hc
 split at hc
 ·cases hc;rw[hv.inv_a];exact⟨_,_,rfl,VRL.atoms _,VRL.atoms _⟩
 ·cases hc
  cases hv with
  | fn _ _ _ as' cs' h1 h2 v1 v2=>exact⟨as',cs',rfl,⟨h1,v1⟩,⟨h2,v2⟩⟩
 ·cases hc

theorem WO.callQ {d:Option Nat} {g:Option (Nat × Bool)} {q:Bool} {f:Opd} {as:List Opd} {l:List MOper} {Q:Env→AH→Prop} {k:FuncId} {first cap vs:List AV} {r:AV} {H1:AH} (hw:wantedA e ⟨d,g,.call q f as⟩=true) (hf:e.val f=some (.fn (.func k) first cap)) (ha:as.mapM e.val=some vs)
  (hc:EvQ M q k (first++vs++cap) H r H1) (h:WO M l (e.put d r) H1 Q):WO M (⟨d,g,.call q f as⟩::l) e H Q:=by
 cases q with
 | false=>exact WO.call hw hf ha hc h
 | true=>
  unfold EvQ at hc
  rw[if_pos rfl] at hc
  obtain⟨H2,h1,h2,rfl⟩:=hc
  exact WO.qcall hw hf ha h1 h2 h

theorem WOT.op {o:MOper} {l:List MOper} {Q:TE→TH→Prop} (hw:∀ A e H,SRT A E T e H→wantedA e o=true) (h:wop M o.op E T fun v E1 T1=>WOT M l (E1.put o.dst v) T1 Q):WOT M (o::l) E T Q:=by
 intro A e H hs
 obtain⟨d,g,mo⟩:=o
 have hw':=hw A e H hs
 by_cases hcall:∃ q f as,mo=.call q f as
 ·obtain⟨q,f,as,rfl⟩:=hcall
  simp only[wop] at h
  split at h
  ·rename_i k first cap vs h1 h2
   obtain⟨f',c',k1,k2,k3⟩:=callee_sound (hs.opd f) h1
   obtain⟨ys,k4,k5⟩:=valsT_sound hs h2
   obtain⟨x,H1,m1,v,A1,T1,m2,m3,m4,m5⟩:=h A H _ hs.mem ((k2.append k5).append k3)
   refine WO.callQ hw' (f:=f) (first:=f') (cap:=c') (k:=k) ?_ k4 m1 ?_
   ·unfold Env.val;rw[k1];rfl
   ·have hs1:=(hs.grow m4 m2).put m3 d
    refine WO.mono (m5 A1 _ H1 hs1) ?_
    rintro e2 H2 ⟨A2,E2,T2,n1,n2,n3⟩
    exact⟨A2,E2,T2,n1,m4.trans n2,n3⟩
  ·exact h.elim
 ·have hop:∃ v E1 T1,opT E T mo=some (v,E1,T1)∧WOT M l (E1.put d v) T1 Q:=by
   unfold wop at h
   split at h
   ·rename_i q f as heq;exact absurd ⟨q,f,as,heq⟩ hcall
   ·split at h
    ·rename_i v E1 T1 h1;exact⟨v,E1,T1,h1,h⟩
    ·exact h.elim
  obtain⟨v,E1,T1,h1,h2⟩:=hop
  obtain⟨x,e1,H1,k1,A1,k2,k3,k4⟩:=opT_sound hs h1
  refine WO.op hw' k1 ?_
  have hs1:=k2.put k3 d
  refine WO.mono (h2 A1 _ H1 hs1) ?_
  rintro e2 H2 ⟨A2,E2,T2,n1,n2,n3⟩
  exact⟨A2,E2,T2,n1,k4.trans n2,n3⟩

theorem WOT.skip {o:MOper} {l:List MOper} {Q:TE→TH→Prop} (hw:∀ A e H,SRT A E T e H→wantedA e o=false) (h:WOT M l (E.put o.dst (.tu [])) T Q):WOT M (o::l) E T Q:=by
 intro A e H hs
 refine WO.skip (hw A e H hs) ?_
 exact h A _ H (hs.put (.tu [] [] rfl (by simp)) o.dst)

theorem wop_mono {mo:MOp} {K K':TV→TE→TH→Prop} (h:wop M mo E T K) (hk:∀ v E T,K v E T→K' v E T):wop M mo E T K':=by
 unfold wop at h ⊢
 split at h
 ·split at h
  ·rename_i k first cap vs h1 h2
   intro A H hargs hm hv
   obtain⟨x,H1,m1,v,A1,T1,m2,m3,m4,m5⟩:=h A H hargs hm hv
   exact⟨x,H1,m1,v,A1,T1,m2,m3,m4,hk _ _ _ m5⟩
  ·exact h.elim
 ·split at h
  ·exact hk _ _ _ h
  ·exact h.elim

theorem wpo_sound:∀ {l:List MOper} {E:TE} {T:TH} {Q:TE→TH→Prop},wpo M l E T Q→WOT M l E T Q
 | [],E,T,Q,h=>WOT.nil h
 | o::l,E,T,Q,h=>by
  unfold wpo at h
  split at h
  ·rename_i hg
   exact WOT.op (fun A e H hs=>by unfold wantedA;rw[hg]) (wop_mono h fun v E1 T1 hh=>wpo_sound hh)
  ·rename_i t w hg
   split at h
   ·rename_i b hb
    have hget:∀ A e H,SRT A E T e H→e.get t=.bool b:=fun A e H hs=>by have:=hs.slot t;rw[hb] at this;exact this.inv_a
    split at h
    ·rename_i hbw
     exact WOT.op (fun A e H hs=>by unfold wantedA;rw[hg];simp only[hget A e H hs,hbw,beq_self_eq_true]) (wop_mono h fun v E1 T1 hh=>wpo_sound hh)
    ·rename_i hbw
     exact WOT.skip (fun A e H hs=>by unfold wantedA;rw[hg];simp only[hget A e H hs];simpa using hbw) (wpo_sound h)
   ·rename_i vs hb
    refine WOT.skip (fun A e H hs=>?_) (wpo_sound h)
    have:=hs.slot t
    rw[hb] at this
    unfold wantedA
    rw[hg]
    cases hx:e.get t<;>rw[hx] at this<;>cases this
    simp only[hx]
   ·exact h.elim

theorem trT_sound:∀ {l:List MOper} {E:TE} {T:TH} {ST:List (TE × TH)},trT E T l=some ST→∀ {A:Anc} {e:Env} {H:AH},SRT A E T e H →
  ∃ S,(∀ C,runTr C l e H=some S)∧ST.length=S.length∧∀ (k:Nat) Ek Tk,ST[k]? = some (Ek,Tk)→∃ ek Hk Ak,S[k]? = some (ek,Hk)∧SRT Ak Ek Tk ek Hk∧Gr A T H Ak Tk Hk
 | [],E,T,ST,h,A,e,H,hs=>by
  simp only[trT,Option.some.injEq] at h
  subst h
  refine⟨[(e,H)],fun C=>rfl,rfl,fun k Ek Tk hk=>?_⟩
  cases k with
  | zero=>simp only[List.getElem?_cons_zero,Option.some.injEq,Prod.mk.injEq] at hk;obtain⟨rfl,rfl⟩:=hk;exact⟨e,H,A,rfl,hs,Gr.refl⟩
  | succ k=>simp at hk
 | o::l,E,T,ST,h,A,e,H,hs=>by
  obtain⟨d,g,mo⟩:=o
  simp only[trT] at h
  split at h
  ·split at h
   ·rename_i v E1 T1 h1
    obtain⟨ST',h2,rfl⟩:=map_some h
    obtain⟨x,e1,H1,k1,A1,k2,k3,k4⟩:=opT_sound hs h1
    obtain⟨S',m1,m2,m3⟩:=trT_sound h2 (k2.put k3 d)
    refine⟨(e,H)::S',fun C=>?_,by simp[m2],fun k Ek Tk hk=>?_⟩
    ·have hstep:stepOper C e H ⟨d,none,mo⟩=some (e1.put d x,H1):=by
      have hw:wantedA e ⟨d,none,mo⟩=true:=rfl
      simp only[stepOper,hw,if_true]
      have:stepOp C e H mo=some (x,e1,H1):=by
       unfold stepOp
       split
       ·simp[aop] at k1
       ·exact k1
      rw[this]
     simp only[runTr,hstep,m1 C,Option.map_some]
    ·cases k with
     | zero=>simp only[List.getElem?_cons_zero,Option.some.injEq,Prod.mk.injEq] at hk;obtain⟨rfl,rfl⟩:=hk;exact⟨e,H,A,rfl,hs,Gr.refl⟩
     | succ k=>
      obtain⟨ek,Hk,Ak,n1,n2,n3⟩:=m3 k Ek Tk (by simpa using hk)
      exact⟨ek,Hk,Ak,by simpa using n1,n2,k4.trans n3⟩
   ·cases h
  ·cases h

theorem apartT_sound {A1 A2:Anc} {T1 T2:TH} {H1 H2:AH} {a b:TV} {x y:AV} (ha:VR A1 T1 H1 a x) (hb:VR A2 T2 H2 b y) (h:apartT a b=true) (n m:Nat):apartA x n y m=true:=by
 unfold apartT at h
 split at h
 ·cases ha;cases hb;simp only[apartA,h,Bool.true_or]
 ·cases ha;rw[hb.inv_a];rfl
 ·cases ha
  cases hb with
  | pt _ _ _ _ _ _ _ _ hp=>obtain⟨b,o,rfl⟩:=hp;rfl
 ·rw[hb.inv_a]
  cases ha with
  | pt _ _ _ _ _ _ _ _ hp=>obtain⟨b,o,rfl⟩:=hp;rfl
 ·cases hb
  cases ha with
  | pt _ _ _ _ _ _ _ _ hp=>obtain⟨b,o,rfl⟩:=hp;rfl
 ·cases h

theorem isLpT_sound {A:Anc} {T:TH} {H:AH} {a:TV} {x:AV} (h:VR A T H a x) (ha:isLpT a=true):isLp x=true:=by
 cases a<;>first|(cases h;rfl)|cases ha

theorem WCT.draw {l:List MOper} {chk:List (Nat × Nat)} {Q:Out→TE→TH→Prop} {ST:List (TE × TH)} {E':TE} {T':TH} (h1:trT E T l=some ST) (h2:chk.all (pairT l ST)=true) (h3:ST.getLast? = some (E',T')) (h:Q .normal E' T'):WCT M (.draw l chk) E T Q:=by
 intro A e H hs
 obtain⟨S,k1,k2,k3⟩:=trT_sound h1 hs
 have hlast:∃ e' H' A',S.getLast? = some (e',H')∧SRT A' E' T' e' H'∧Gr A T H A' T' H':=by
  rw[List.getLast?_eq_getElem?] at h3 ⊢
  obtain⟨e',H',A',m1,m2,m3⟩:=k3 _ _ _ h3
  exact⟨e',H',A',by rw[← k2];exact m1,m2,m3⟩
 obtain⟨e',H',A',m1,m2,m3⟩:=hlast
 refine WC.draw (n:=0) (k1 _) ?_ m1 ⟨A',E',T',m2,m3,h⟩
 simp only[List.all_eq_true] at h2 ⊢
 intro p hp
 have hp':=h2 p hp
 unfold pairT at hp'
 split at hp'
 ·rename_i os oj Es Ts Ej Tj e1 e2 e3 e4
  simp only[Bool.and_eq_true,decide_eq_true_eq] at hp'
  obtain⟨hlt,hp'⟩:=hp'
  split at hp'
  ·rename_i a n b m g1 g2
   obtain⟨es,Hs,As,n1,n2,n3⟩:=k3 _ _ _ e3
   obtain⟨ej,Hj,Aj,n4,n5,n6⟩:=k3 _ _ _ e4
   unfold pairOk
   simp only[e1,e2,n1,n4,g1,g2,apartT_sound (n2.opd a) (n5.opd b) hp',hlt,decide_true,Bool.true_or,Bool.and_self,Bool.or_true]
  ·rename_i b m g1 g2
   obtain⟨es,Hs,As,n1,n2,n3⟩:=k3 _ _ _ e3
   obtain⟨ej,Hj,Aj,n4,n5,n6⟩:=k3 _ _ _ e4
   unfold pairOk
   simp only[e1,e2,n1,n4,g1,g2,isLpT_sound (n5.opd b) hp',hlt,decide_true,Bool.true_or,Bool.and_self,Bool.or_true]
  ·cases hp'
 ·cases hp'

theorem wptr_sound:∀ {l:List MOper} {E:TE} {T:TH} {K:List (TE × TH)→Prop},wptr M l E T K→∀ {A:Anc} {e:Env} {H:AH},SRT A E T e H →
  ∃ n S ST,runTr (eval M n) l e H=some S∧K ST∧ST.length=S.length∧∀ (k:Nat) Ek Tk,ST[k]? = some (Ek,Tk)→∃ ek Hk Ak,S[k]? = some (ek,Hk)∧SRT Ak Ek Tk ek Hk∧Gr A T H Ak Tk Hk
 | [],E,T,K,h,A,e,H,hs=>by
  refine⟨0,[(e,H)],[(E,T)],rfl,h,rfl,fun k Ek Tk hk=>?_⟩
  cases k with
  | zero=>simp only[List.getElem?_cons_zero,Option.some.injEq,Prod.mk.injEq] at hk;obtain⟨rfl,rfl⟩:=hk;exact⟨e,H,A,rfl,hs,Gr.refl⟩
  | succ k=>simp at hk
 | o::l,E,T,K,h,A,e,H,hs=>by
  obtain⟨d,g,mo⟩:=o
  obtain⟨hg,h⟩:=h
  simp only at hg
  subst hg
  have key:∃ (n1:Nat) (x:TV) (H1:AH) (v:TV) (A1:Anc) (E1:TE) (T1:TH) (e1:Env),stepOper (eval M n1) e H ⟨d,none,mo⟩=some (e1,H1)∧SRT A1 (E1.put d v) T1 e1 H1∧Gr A T H A1 T1 H1∧wptr M l (E1.put d v) T1 (fun S=>K ((E,T)::S))∧x=v:=by
   by_cases hcall:∃ q f xs,mo=.call q f xs
   ·obtain⟨q,f,xs,rfl⟩:=hcall
    simp only[wop] at h
    split at h
    ·rename_i k first cap vs h1 h2
     obtain⟨f',c',k1,k2,k3⟩:=callee_sound (hs.opd f) h1
     obtain⟨ys,k4,k5⟩:=valsT_sound hs h2
     obtain⟨x,H1,m1,v,A1,T1,m2,m3,m4,m5⟩:=h A H _ hs.mem ((k2.append k5).append k3)
     have hw:WO M [⟨d,none,.call q f xs⟩] e H (fun e' H'=>e'=e.put d x∧H'=H1):=
      WO.callQ rfl (f:=f) (first:=f') (cap:=c') (k:=k) (by unfold Env.val;rw[k1];rfl) k4 m1 ⟨0,_,_,rfl,rfl,rfl⟩
     obtain⟨n1,e',H',hrun,he,hH⟩:=hw
     subst he hH
     simp only[runOps] at hrun
     split at hrun
     ·rename_i e2 H2 hst
      cases hrun
      exact⟨n1,v,_,v,A1,E,T1,_,hst,(hs.grow m4 m2).put m3 d,m4,m5,rfl⟩
     ·cases hrun
    ·exact h.elim
   ·have hop:∃ v E1 T1,opT E T mo=some (v,E1,T1)∧wptr M l (E1.put d v) T1 (fun S=>K ((E,T)::S)):=by
     unfold wop at h
     split at h
     ·rename_i q f xs heq;exact absurd ⟨q,f,xs,heq⟩ hcall
     ·split at h
      ·rename_i v E1 T1 h1;exact⟨v,E1,T1,h1,h⟩
      ·exact h.elim
    obtain⟨v,E1,T1,h1,h2⟩:=hop
    obtain⟨x,e1,H1,k1,A1,k2,k3,k4⟩:=opT_sound hs h1
    refine⟨0,v,H1,v,A1,E1,T1,e1.put d x, ?_,k2.put k3 d,k4,h2,rfl⟩
    have hst:stepOp (eval M 0) e H mo=some (x,e1,H1):=by
     unfold stepOp
     split
     ·simp[aop] at k1
     ·exact k1
    simp only[stepOper,wantedA,if_true,hst]
  obtain⟨n1,_,H1,v,A1,E1,T1,e1,hst,hs1,hgr,hw,_⟩:=key
  obtain⟨n2,S,ST,r2,k2,l2,rel⟩:=wptr_sound hw hs1
  refine⟨max n1 n2,(e,H)::S,(E,T)::ST, ?_,k2,by simp[l2],fun k Ek Tk hk=>?_⟩
  ·simp only[runTr,stepOper_mono (eval_mono M (Nat.le_max_left n1 n2)) hst,runTr_mono (eval_mono M (Nat.le_max_right n1 n2)) r2,Option.map_some]
  ·cases k with
   | zero=>simp only[List.getElem?_cons_zero,Option.some.injEq,Prod.mk.injEq] at hk;obtain⟨rfl,rfl⟩:=hk;exact⟨e,H,A,rfl,hs,Gr.refl⟩
   | succ k=>
    obtain⟨ek,Hk,Ak,n3,n4,n5⟩:=rel k Ek Tk (by simpa using hk)
    exact⟨ek,Hk,Ak,by simpa using n3,n4,hgr.trans n5⟩

theorem WCT.drawC {l:List MOper} {chk:List (Nat × Nat)} {Q:Out→TE→TH→Prop} (h:DrawC M l chk E T Q):WCT M (.draw l chk) E T Q:=by
 intro A e H hs
 obtain⟨n,S,ST,k1,⟨h2,h3⟩,k2,k3⟩:=wptr_sound h hs
 split at h3
 ·rename_i E' T' hl
  have hlast:∃ e' H' A',S.getLast? = some (e',H')∧SRT A' E' T' e' H'∧Gr A T H A' T' H':=by
   rw[List.getLast?_eq_getElem?] at hl ⊢
   obtain⟨e',H',A',m1,m2,m3⟩:=k3 _ _ _ hl
   exact⟨e',H',A',by rw[← k2];exact m1,m2,m3⟩
  obtain⟨e',H',A',m1,m2,m3⟩:=hlast
  refine WC.draw (n:=n) k1 ?_ m1 ⟨A',E',T',m2,m3,h3⟩
  simp only[List.all_eq_true] at h2 ⊢
  intro p hp
  have hp':=h2 p hp
  unfold pairT at hp'
  split at hp'
  ·rename_i os oj Es Ts Ej Tj e1 e2 e3 e4
   simp only[Bool.and_eq_true,decide_eq_true_eq] at hp'
   obtain⟨hlt,hp'⟩:=hp'
   split at hp'
   ·rename_i a n b m g1 g2
    obtain⟨es,Hs,As,n1,n2,n3⟩:=k3 _ _ _ e3
    obtain⟨ej,Hj,Aj,n4,n5,n6⟩:=k3 _ _ _ e4
    unfold pairOk
    simp only[e1,e2,n1,n4,g1,g2,apartT_sound (n2.opd a) (n5.opd b) hp',hlt,decide_true,Bool.true_or,Bool.and_self,Bool.or_true]
   ·rename_i b m g1 g2
    obtain⟨es,Hs,As,n1,n2,n3⟩:=k3 _ _ _ e3
    obtain⟨ej,Hj,Aj,n4,n5,n6⟩:=k3 _ _ _ e4
    unfold pairOk
    simp only[e1,e2,n1,n4,g1,g2,isLpT_sound (n5.opd b) hp',hlt,decide_true,Bool.true_or,Bool.and_self,Bool.or_true]
   ·cases hp'
  ·cases hp'
 ·exact h3.elim

theorem wpc_sound:∀ {c:MCode} {E:TE} {T:TH} {Q:Out→TE→TH→Prop},wpc M c E T Q→WCT M c E T Q
 | .skip,E,T,Q,h=>WCT.skip h
 | .ops l,E,T,Q,h=>WCT.ops (wpo_sound h)
 | .draw l chk,E,T,Q,h=>by
  unfold wpc at h
  split at h
  ·rename_i S h1
   split at h
   ·rename_i h2
    split at h
    ·rename_i E' T' h3;exact WCT.draw h1 h2 h3 h
    ·exact h.elim
   ·exact h.elim
  ·exact WCT.drawC h
 | .seq a b,E,T,Q,h=>WCT.seq (WCT.mono (wpc_sound (c:=a) h) fun o E1 T1 hh=>by
   cases o with
   | normal=>exact wpc_sound (c:=b) hh
   | exit id=>exact hh
   | ret=>exact hh)
 | .cond c a b,E,T,Q,h=>by
  unfold wpc at h
  split at h
  ·rename_i t ht
   refine WCT.cond ht ?_
   cases t with
   | true=>exact wpc_sound (c:=a) h
   | false=>exact wpc_sound (c:=b) h
  ·exact h.elim
 | .block id b,E,T,Q,h=>WCT.block (wpc_sound (c:=b) h)
 | .loop b,E,T,Q,h=>h
 | .exit id,E,T,Q,h=>WCT.exit h
 | .ret,E,T,Q,h=>WCT.ret h
 | .ext k,E,T,Q,h=>h

theorem loop_by {b:MCode} {Q:Out→TE→TH→Prop} (I:Nat→TE→TH→Prop) (hb:∀ k E T,I k E T→wpc M b E T (thenT (fun E' T'=>∃ k',k'<k∧I k' E' T') Q)):∀ (k:Nat) {E:TE} {T:TH},I k E T→WCT M (.loop b) E T Q:=by
 intro k
 induction k using Nat.strongRecOn with
 | _ k ih=>
  intro E T hI
  refine WCT.loop (WCT.mono (wpc_sound (hb k E T hI)) fun o E1 T1 hh=>?_)
  cases o with
  | normal=>obtain⟨k',h1,h2⟩:=hh;exact ih k' h1 h2
  | exit id=>exact hh
  | ret=>exact hh

def initT (args:List TV) (i:Nat):Tr TV:=
 match args with
 | []=>.nil
 | v::rest=>(initT rest (i+1)).set i v

def startT (args:List TV):TE:={ m:=initT args 0,L:=.nil,ln:=0 }

def resOfT (E:TE) (T:TH):MRes→Option TV
 | .t t=>valT E (.t t)
 | .c1 t=>match rdT E T (E.get t) 1 with
  | some [v]=>some v
  | _=>none
 | .cn t n=>if 0<n then (rdT E T (E.get t) n).map mkAg else none

def resultsT (E:TE) (T:TH) (l:List MRes):Option TV:=
 match mapO (resOfT E T) l with
 | some [v]=>some v
 | some vs=>some (mkTu vs)
 | none=>none

def FinT (res:List MRes) (K:TV→TH→Prop):Out→TE→TH→Prop
 | .exit _,_,_=>False
 | _,E,T=>match resultsT E T res with
  | some v=>K v T
  | none=>False

theorem initT_get:∀ (args:List TV) (hs:List AV) (i t:Nat),VRL A T H args hs→VR A T H (((initT args i).get t).getD (.tu [])) (((initEnv hs i).get t).getD (.tup []))
 | [],hs,i,t,hv=>by
  rw[hv.inv_nil]
  simp only[initT,initEnv,Tr.get_nil,Option.getD_none]
  exact .tu [] [] rfl (by simp)
 | v::vs,hs,i,t,hv=>by
  obtain⟨h,hs',rfl,k1,k2⟩:=hv.inv_cons
  simp only[initT,initEnv,Tr.get_set]
  split
  ·exact k1
  ·exact initT_get vs hs' (i+1) t k2

theorem start_SRT (hm:HR A T H) {args:List TV} {hs:List AV} (hv:VRL A T H args hs):SRT A (startT args) T (start hs) H:=
 ⟨hm,fun t=>initT_get args hs 0 t hv,rfl,fun st cells h=>by simp[startT,Tr.get_nil] at h⟩

theorem resOfT_sound (h:SRT A E T e H) {m:MRes} {v:TV} (hr:resOfT E T m=some v):∃ x,resOf e H m=some x∧VR A T H v x:=by
 cases m with
 | t t=>exact valT_sound h hr
 | c1 t=>
  simp only[resOfT] at hr
  split at hr
  ·rename_i u hu
   cases hr
   obtain⟨hs,k1,k2⟩:=rdT_sound h (h.slot t) hu (by omega)
   obtain⟨x,xs,rfl,k3,k4⟩:=k2.inv_cons
   have:=k4.inv_nil
   subst this
   exact⟨x,by simp only[resOf,k1],k3⟩
  ·cases hr
 | cn t n=>
  simp only[resOfT] at hr
  split at hr
  ·rename_i hn
   obtain⟨vs,k0,rfl⟩:=map_some hr
   obtain⟨hs,k1,k2⟩:=rdT_sound h (h.slot t) k0 hn
   exact⟨.agg hs,by simp only[resOf,k1,Option.map_some],k2.mkAg⟩
  ·cases hr

theorem resOfsT_sound (h:SRT A E T e H):∀ {l:List MRes} {vs:List TV},mapO (resOfT E T) l=some vs→∃ xs,mapO (resOf e H) l=some xs∧VRL A T H vs xs
 | [],vs,hr=>by simp only[mapO] at hr;cases hr;exact⟨[],rfl,VRL.nil⟩
 | m::l,vs,hr=>by
  simp only[mapO] at hr
  split at hr
  ·rename_i v vs' h1 h2
   cases hr
   obtain⟨x,k1,k2⟩:=resOfT_sound h h1
   obtain⟨xs,k3,k4⟩:=resOfsT_sound h h2
   exact⟨x::xs,by simp only[mapO,k1,k3],VRL.cons k2 k4⟩
  ·cases hr

theorem resultsT_sound (h:SRT A E T e H) {l:List MRes} {v:TV} (hr:resultsT E T l=some v):∃ x,resultsOf e H l=some x∧VR A T H v x:=by
 unfold resultsT at hr
 split at hr
 ·rename_i w hw
  cases hr
  obtain⟨xs,k1,k2⟩:=resOfsT_sound h hw
  obtain⟨x,xs',rfl,k3,k4⟩:=k2.inv_cons
  have:=k4.inv_nil
  subst this
  exact⟨x,by unfold resultsOf;rw[mapM_val,k1],k3⟩
 ·rename_i vs hne hw
  cases hr
  obtain⟨xs,k1,k2⟩:=resOfsT_sound h hw
  refine⟨.tup xs, ?_,k2.mkTu⟩
  unfold resultsOf
  rw[mapM_val,k1]
  cases xs with
  | nil=>rfl
  | cons x xs=>
   cases xs with
   | nil=>
    exfalso
    have:=k2.1
    cases vs with
    | nil=>simp at this
    | cons u us=>
     cases us with
     | nil=>exact hne u rfl
     | cons _ _=>simp at this
   | cons y ys=>rfl
 ·cases hr

theorem FinT_sound {res:List MRes} {K:TV→TH→Prop} {o:Out} (h:SRT A E T e H) (hf:FinT res K o E T):Fin res (fun x H'=>H'=H∧∃ v,VR A T H v x∧K v T) o e H:=by
 cases o with
 | exit id=>exact hf
 | normal=>
  simp only[FinT] at hf
  split at hf
  ·rename_i v hv
   obtain⟨x,k1,k2⟩:=resultsT_sound h hv
   exact⟨x,k1,rfl,v,k2,hf⟩
  ·exact hf.elim
 | ret=>
  simp only[FinT] at hf
  split at hf
  ·rename_i v hv
   obtain⟨x,k1,k2⟩:=resultsT_sound h hv
   exact⟨x,k1,rfl,v,k2,hf⟩
  ·exact hf.elim

theorem free_of:∀ {args:List TV} {hs:List AV},VRL A T H args hs→args.all TV.free=true→hs.all AV.free=true
 | [],hs,hv,hf=>by rw[hv.inv_nil];rfl
 | v::vs,hs,hv,hf=>by
  obtain⟨h,hs',rfl,k1,k2⟩:=hv.inv_cons
  simp only[List.all_cons,Bool.and_eq_true] at hf ⊢
  exact⟨k1.free hf.1,free_of k2 hf.2⟩

theorem CallT.body {k:FuncId} {F:MFunc} {args:List TV} {K:TV→TH→Prop} (hM:M k=some F) (hp:F.pure=false) (hn:args.length=F.nargs) (hfree:args.all TV.free=true) (h:wpc M F.body (startT args) T (FinT F.res K)):CallT M false k args T K:=by
 intro A H hargs hm hv
 have hs:=start_SRT hm hv
 have:=WC.mono (wpc_sound h A _ H hs) (Q':=Fin F.res fun x H'=>∃ v A' T',HR A' T' H'∧VR A' T' H' v x∧Gr A T H A' T' H'∧K v T') (by
  rintro o e1 H1 ⟨A1,E1,T1,k1,k2,k3⟩
  have hfin:=FinT_sound k1 k3
  cases o with
  | exit id=>exact hfin
  | normal=>obtain⟨x,m1,_,v,m2,m3⟩:=hfin;exact⟨x,m1,v,A1,T1,k1.mem,m2,k2,m3⟩
  | ret=>obtain⟨x,m1,_,v,m2,m3⟩:=hfin;exact⟨x,m1,v,A1,T1,k1.mem,m2,k2,m3⟩)
 obtain⟨r,H',h1,h2⟩:=Ev.body hM hp (by rw[← hv.1];exact hn) (free_of hv hfree) this
 exact⟨r,H',h1,h2⟩

def TH.none:TH:={ objs:=.nil,next:=0 }

theorem HR.none:HR ⟨fun _=>.nils,fun _=>[]⟩ TH.none AH.none where
 wh:=⟨Nat.le_refl _,fun b _=>by unfold AH.get AH.none;rw[Tr.get_nil];rfl⟩
 tree:=fun r rows z log h=>by unfold TH.get TH.none at h;rw[Tr.get_nil] at h;cases h
 raw:=fun r cells h=>by unfold TH.get TH.none at h;rw[Tr.get_nil] at h;cases h
 mapo:=fun r cells h=>by unfold TH.get TH.none at h;rw[Tr.get_nil] at h;cases h
 apart:=fun r r' x h1=>by unfold TH.get TH.none at h1;rw[Tr.get_nil] at h1;exact absurd rfl h1
 top:=fun r _=>by unfold TH.get TH.none;rw[Tr.get_nil];rfl

theorem outT_sound {A:Anc} {T:TH} {H:AH} (hm:HR A T H) {v:TV} {x t:AV} (hv:VR A T H v x) (ht:outT T v=some t):∃ S,S.Nodup∧LfT H x t S:=by
 have pairs:∀ {vs:List TV} {hs:List AV} {t:AV},VRL A T H vs hs→(outPs T vs).map (fun x=>AV.tup x.1)=some t→∃ S,S.Nodup∧LfT H (.tup hs) t S:=by
  intro vs hs t hvs hh
  obtain⟨⟨ts,T1⟩,h1,h2⟩:=map_some hh
  cases h2
  obtain⟨A',S,k1,k2⟩:=outPs_sound hm hvs h1
  exact⟨S,k1.nd,.tup k2⟩
 unfold outT at ht
 split at ht
 ·cases hv with
  | tu _ hs hl hv'=>exact pairs ⟨hl,hv'⟩ ht
 ·rw[hv.inv_a];exact pairs (VRL.atoms _) ht
 ·obtain⟨⟨t1,T1⟩,h1,h2⟩:=map_some ht
  cases h2
  obtain⟨A',S,k1,k2⟩:=outP_sound hm hv h1
  exact⟨S,k1.nd,.one k2⟩

theorem PCall.body {k:FuncId} {F:MFunc} {ts:List AV} {tr:AV} (hM:M k=some F) (hp:F.pure=true) (hb:F.both=false∨∀ z,ts≠[.vs [] z]) (hn:ts.length=F.nargs) (hfree:ts.all AV.free=true) (hok:okT tr=true)
  (h:wpc M F.body (startT (ts.map .a)) TH.none (FinT F.res fun v T1=>outT T1 v=some tr)):PCall M k ts tr:=by
 intro args H hw ht
 have hs:=start_SRT HR.none (VRL.atoms (A:=⟨fun _=>.nils,fun _=>[]⟩) (T:=TH.none) (H:=AH.none) ts)
 have hbody:=WC.mono (wpc_sound h _ _ _ hs) (Q':=Fin F.res fun x H'=>∃ S,S.Nodup∧LfT H' x tr S) (by
  rintro o e1 H1 ⟨A1,E1,T1,k1,k2,k3⟩
  have hfin:=FinT_sound k1 k3
  cases o with
  | exit id=>exact hfin
  | normal=>obtain⟨x,m1,_,v,m2,m3⟩:=hfin;exact⟨x,m1,outT_sound k1.mem m2 m3⟩
  | ret=>obtain⟨x,m1,_,v,m2,m3⟩:=hfin;exact⟨x,m1,outT_sound k1.mem m2 m3⟩)
 obtain⟨r1,H1,⟨n,k1⟩,S,k2,k3⟩:=Pu.body hn hfree hbody
 obtain⟨r,u,H',m1,m2,S',m3,m4⟩:=lift_LfT k3 hok k2 hw
 have k1':Ab.evalF (eval M n) n F ts { objs:=.nil,next:=0,lo:=0 }=some (r1,H1):=k1
 have hpc:pureC (Ab.evalF (eval M n) n F) args H=some (r,H'):=by
  simp only[pureC,ht,k1',m1,Option.map_some]
 have hlo:H'.lo=H.lo:=by
  obtain⟨_,_,_,_,_,_,h3⟩:=pureC_spec hpc
  exact (lift_G _ _ _ _ _ _ _ _ h3 hw).2
 refine⟨r,H',⟨n+1, ?_⟩,m2.wh,m2.next,hlo,m2.old,S',m3,m4⟩
 simp only[eval,hM,hp,if_true,pureB]
 split
 ·rename_i hb'
  rcases hb with hb|hb
  ·rw[hb] at hb';cases hb'
  ·unfold bothC
   rw[ht]
   split
   ·rename_i z heq;cases heq;exact absurd rfl (hb z)
   ·exact hpc
 ·exact hpc

theorem PCall.both {k:FuncId} {F:MFunc} {z:Bool} {n:Nat} {r1 r2:AV} {H1 H2:AH} (hM:M k=some F) (hp:F.pure=true) (hb:F.both=true)
  (h1:Ab.evalF (eval M n) n F [.nils] { objs:=.nil,next:=0,lo:=0 }=some (r1,H1)) (h2:Ab.evalF (eval M n) n F [.sl 0 0 1 0 0 false] { objs:=.nil,next:=1,lo:=0 }=some (r2,H2)) (e1:r1=.nils∨∃ b o sz,r1=.sl b o sz 0 0 true) (e2:∃ b o sz,r2=.sl b o sz 0 0 true):PCall M k [.vs [] z] (.vs [] true):=by
 intro args H hw ht
 have l1:lift H1 deep r1 [] H=some (.vs [] true,[],H):=by
  rcases e1 with rfl|⟨b,o,sz,rfl⟩<;>rfl
 have l2:lift H2 deep r2 [] H=some (.vs [] true,[],H):=by
  obtain⟨b,o,sz,rfl⟩:=e2;rfl
 refine⟨.vs [] true,H,⟨n+1, ?_⟩,hw,Nat.le_refl _,rfl,fun _ _=>rfl,[],.one (.cell (by simp) (.emp rfl (fun _=>rfl) .nil)),by simp,by simp⟩
 simp only[eval,hM,hp,hb,if_true,pureB]
 unfold bothC
 rw[ht]
 simp only[h1,h2,l1,l2,emptyA,Bool.and_self,if_true]

theorem CallT.pure {q:Bool} {k:FuncId} {args:List TV} {ts:List AV} {tr:AV} {K:TV→TH→Prop} (hc:PCall M k ts tr) (ht:mapO (fzT T) args=some ts) (hok:okT tr=true) (h:K (resV T tr).1 (resV T tr).2):CallT M q k args T K:=by
 intro A H hargs hm hv
 have hfz:=fzTs_sound hm hv ht
 have fin:∀ {r:AV} {H':AH},WH H'→H.next≤H'.next→(∀ x,x<H.next→H'.get x=H.get x)→(∃ S,LfT H' r tr S∧NewF H.next H'.next S)→∃ v A' T',HR A' T' H'∧VR A' T' H' v r∧Gr A T H A' T' H'∧K v T':=by
  rintro r H' k2 k3 k5 ⟨S,k6,k7⟩
  obtain⟨g1,g2⟩:=hm.hgrow k2 k5
  obtain⟨A',m1,m2⟩:=resV_sound g1 k6 hok k7.1 (fun k x hk hx hx'=>by have:=hm.Slt hk hx';have:=k7.2 x hx;omega)
  exact⟨_,A',_,m1.mem,m2,g2.trans m1.gr,h⟩
 cases q with
 | false=>
  obtain⟨r,H',k1,k2,k3,k4,k5,k6⟩:=hc hargs H hm.wh hfz
  exact⟨r,H',k1,fin k2 k3 k5 k6⟩
 | true=>
  have hfz':mapO (freeze { H with lo:=H.next } deep) hargs=some ts:=by
   rw[← hfz];exact mapO_congr fun x _=>freeze_congr (H:=H) (H':={ H with lo:=H.next }) (fun _=>rfl) deep x
  obtain⟨r,H',k1,k2,k3,k4,k5,k6⟩:=hc hargs { H with lo:=H.next } ⟨Nat.le_refl _,hm.wh.2⟩ hfz'
  refine⟨r,{ H' with lo:=H.lo }, ?_,fin (H':={ H' with lo:=H.lo }) ⟨?_,k2.2⟩ k3 k5 ?_⟩
  ·unfold EvQ
   rw[if_pos rfl]
   exact⟨H',k1,by rw[k4];exact Nat.le_refl _,rfl⟩
  ·show H.lo≤H'.next
   have:=hm.wh.1
   have k3':H.next≤H'.next:=k3
   omega
  ·obtain⟨S,h1,h2⟩:=k6
   refine⟨S, ?_,h2⟩

   have key:∀ {hs ts:List AV} {S:List Nat},Own H' hs ts S→Own { H' with lo:=H.lo } hs ts S:=fun ho=>ho.frame fun _ _=>rfl
   have kl:∀ {h t:AV} {S:List Nat},Lf H' h t S→Lf { H' with lo:=H.lo } h t S:=fun hl=>by
    cases hl with
    | cell hn ho=>exact .cell hn (key ho)
    | agg ho=>exact .agg (key ho)
   cases h1 with
   | one hl=>exact .one (kl hl)
   | tup hl=>
    refine .tup ?_
    clear h2 k1 hc h hok fin
    induction hl with
    | nil=>exact .nil
    | cons a _ ih=>exact .cons (kl a) ih

end
end Go.Ab
