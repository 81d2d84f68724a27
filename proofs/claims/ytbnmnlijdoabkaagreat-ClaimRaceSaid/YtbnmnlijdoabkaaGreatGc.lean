/-
  Memory that is a tree: the cells of slices that nobody else sees, told by value, with the numbers of all arrays in it.
  and what goes with it.
  Conditions: none.
-/
import Derived.Test.YtbnmnlijdoabkaaGreatGb

set_option linter.unusedSimpArgs false
set_option linter.unusedVariables false

namespace Go.Ab

def flatV:AV→Bool
 | .bool _|.int ..|.str _=>true
 | _=>false

mutual
/-- nothing of the machine's own memory in it -/
def clo : AV → Bool
  | .bool _ | .int .. | .str _ | .nilp | .nils | .nilm | .nilf | .nili | .vs .. | .vp .. => true
  | .fn _ a c => cloL a && cloL c
  | .ifc _ v => clo v
  | .agg cs => cloL cs
  | .tup cs => cloL cs
  | _ => false
def cloL : List AV → Bool
  | [] => true
  | v :: vs => clo v && cloL vs
end

def empV:AV→Bool
 | .nils|.vs [] true|.sl _ _ _ 0 0 true=>true
 | _=>false

def slenV:AV→Option Nat
 | .nils=>some 0
 | .vs es _=>some es.length
 | .sl _ _ _ n _ _=>some n
 | _=>none

theorem empV_len {v:AV} (h:empV v=true):slenV v=some 0:=by
 unfold empV at h;split at h<;>first|rfl|cases h

inductive Own (H:AH):List AV→List AV→List Nat→Prop where
 | nil:Own H [] [] []
 | flat {v:AV} {hs ts:List AV} {S:List Nat} (hf:flatV v=true) (h:Own H hs ts S):Own H (v::hs) (v::ts) S
 | emp {v:AV} {z:Bool} {hs ts:List AV} {S:List Nat} (h0:slenV v=some 0) (hf:z=true→empV v=true) (h:Own H hs ts S):Own H (v::hs) (.vs [] z::ts) S
 | mark {v:AV} {hs ts:List AV} {S:List Nat} (hf:clo v=true) (h:Own H hs ts S):Own H (v::hs) (.tup [v]::ts) S
 | hole {v:AV} {hs ts:List AV} {S:List Nat} (h:Own H hs ts S):Own H (v::hs) (.tup []::ts) S
 | sl {b o sz:Nat} {ex z:Bool} {rows:List (List AV)} {cs hs ts:List AV} {S1 S2:List Nat} (hne:rows≠[]) (hr:H.read b o (rows.length*sz)=some cs) (hz:∀ row∈rows,row.length=sz)
   (h1:Own H cs rows.flatten S1) (h:Own H hs ts S2):Own H (.sl b o sz rows.length rows.length ex::hs) (.vs rows z::ts) (b::S1++S2)
 | cut {b o sz cap:Nat} {ex:Bool} {rows:List (List AV)} {cs hs ts:List AV} {S1 S2:List Nat} (hne:rows≠[]) (hr:H.read b o (rows.length*sz)=some cs) (hz:∀ row∈rows,row.length=sz)
   (h1:Own H cs rows.flatten S1) (h:Own H hs ts S2):Own H (.sl b o sz rows.length cap ex::hs) (.ifc 0 (.vs rows false)::ts) (b::S1++S2)

theorem Own.length {H:AH} {hs ts:List AV} {S:List Nat} (h:Own H hs ts S):hs.length=ts.length:=by
 induction h with
 | nil=>rfl
 | flat _ _ ih=>simp[ih]
 | emp _ _ _ ih=>simp[ih]
 | mark _ _ ih=>simp[ih]
 | hole _ ih=>simp[ih]
 | sl _ _ _ _ _ _ ih=>simp[ih]
 | cut _ _ _ _ _ _ ih=>simp[ih]

theorem AH.read_congr {H H':AH} {b o n:Nat} (h:H'.get b=H.get b):H'.read b o n=H.read b o n:=by unfold AH.read;rw[h]

theorem Own.frame {H H':AH} {hs ts:List AV} {S:List Nat} (h:Own H hs ts S) (hf:∀ b∈S,H'.get b=H.get b):Own H' hs ts S:=by
 induction h with
 | nil=>exact .nil
 | flat h0 _ ih=>exact .flat h0 (ih hf)
 | emp h0 h0' _ ih=>exact .emp h0 h0' (ih hf)
 | mark h0 _ ih=>exact .mark h0 (ih hf)
 | hole _ ih=>exact .hole (ih hf)
 | sl hne hr hz _ _ ih1 ih2=>
  refine .sl hne (by rw[AH.read_congr (hf _ (by simp))];exact hr) hz (ih1 fun b hb=>hf b ?_) (ih2 fun b hb=>hf b ?_)<;>simp[hb]
 | cut hne hr hz _ _ ih1 ih2=>
  refine .cut hne (by rw[AH.read_congr (hf _ (by simp))];exact hr) hz (ih1 fun b hb=>hf b ?_) (ih2 fun b hb=>hf b ?_)<;>simp[hb]

theorem Own.lt {H:AH} (hw:WH H) {hs ts:List AV} {S:List Nat} (h:Own H hs ts S):∀ b∈S,b<H.next:=by
 induction h with
 | nil=>simp
 | flat _ _ ih=>exact ih
 | emp _ _ _ ih=>exact ih
 | mark _ _ ih=>exact ih
 | hole _ ih=>exact ih
 | sl hne hr hz _ _ ih1 ih2|cut hne hr hz _ _ ih1 ih2=>
  intro b hb
  simp only[List.cons_append,List.mem_cons,List.mem_append] at hb
  rcases hb with rfl|hb|hb
  ·unfold AH.read at hr
   split at hr
   ·rename_i cs hg;exact hw.lt hg (by simp)
   ·cases hr
  ·exact ih1 b hb
  ·exact ih2 b hb

theorem Own.append {H:AH} {hs ts hs' ts':List AV} {S S':List Nat} (h:Own H hs ts S) (k:Own H hs' ts' S'):Own H (hs++hs') (ts++ts') (S++S'):=by
 induction h with
 | nil=>simpa using k
 | flat h0 _ ih=>exact .flat h0 ih
 | emp h0 h0' _ ih=>exact .emp h0 h0' ih
 | mark h0 _ ih=>exact .mark h0 ih
 | hole _ ih=>exact .hole ih
 | sl hne hr hz h1 _ _ ih2=>simpa using Own.sl hne hr hz h1 ih2
 | cut hne hr hz h1 _ _ ih2=>simpa using Own.cut hne hr hz h1 ih2

theorem Own.split {H:AH} {hs ts:List AV} {S:List Nat} (h:Own H hs ts S):∀ (n:Nat),n≤ts.length→∃ S1 S2,S=S1++S2∧Own H (hs.take n) (ts.take n) S1∧Own H (hs.drop n) (ts.drop n) S2:=by
 induction h with
 | nil=>intro n hn;exact⟨[],[],rfl,by simpa using Own.nil,by simpa using Own.nil⟩
 | flat h0 h ih=>
  intro n hn
  cases n with
  | zero=>exact⟨[],_,rfl,by simpa using Own.nil,by simpa using Own.flat h0 h⟩
  | succ n=>
   obtain⟨S1,S2,rfl,k1,k2⟩:=ih n (by simpa using hn)
   exact⟨S1,S2,rfl,by simpa using Own.flat h0 k1,by simpa using k2⟩
 | emp h0 h0' h ih=>
  intro n hn
  cases n with
  | zero=>exact⟨[],_,rfl,by simpa using Own.nil,by simpa using Own.emp h0 h0' h⟩
  | succ n=>
   obtain⟨S1,S2,rfl,k1,k2⟩:=ih n (by simpa using hn)
   exact⟨S1,S2,rfl,by simpa using Own.emp h0 h0' k1,by simpa using k2⟩
 | mark h0 h ih=>
  intro n hn
  cases n with
  | zero=>exact⟨[],_,rfl,by simpa using Own.nil,by simpa using Own.mark h0 h⟩
  | succ n=>
   obtain⟨S1,S2,rfl,k1,k2⟩:=ih n (by simpa using hn)
   exact⟨S1,S2,rfl,by simpa using Own.mark h0 k1,by simpa using k2⟩
 | hole h ih=>
  intro n hn
  cases n with
  | zero=>exact⟨[],_,rfl,by simpa using Own.nil,by simpa using Own.hole h⟩
  | succ n=>
   obtain⟨S1,S2,rfl,k1,k2⟩:=ih n (by simpa using hn)
   exact⟨S1,S2,rfl,by simpa using Own.hole k1,by simpa using k2⟩
 | sl hne hr hz h1 h _ ih=>
  intro n hn
  cases n with
  | zero=>exact⟨[],_,rfl,by simpa using Own.nil,by simpa using Own.sl hne hr hz h1 h⟩
  | succ n=>
   obtain⟨S1,S2,rfl,k1,k2⟩:=ih n (by simpa using hn)
   exact⟨_,S2,by rw[← List.append_assoc],by simpa using Own.sl hne hr hz h1 k1,by simpa using k2⟩
 | cut hne hr hz h1 h _ ih=>
  intro n hn
  cases n with
  | zero=>exact⟨[],_,rfl,by simpa using Own.nil,by simpa using Own.cut hne hr hz h1 h⟩
  | succ n=>
   obtain⟨S1,S2,rfl,k1,k2⟩:=ih n (by simpa using hn)
   exact⟨_,S2,by rw[← List.append_assoc],by simpa using Own.cut hne hr hz h1 k1,by simpa using k2⟩

theorem Own.at {H:AH} {hs ts:List AV} {S:List Nat} (h:Own H hs ts S) {k:Nat} {t:AV} (ht:ts[k]? = some t) :
  ∃ c S1 Sc S2,hs[k]? = some c∧S=S1++Sc++S2∧Own H [c] [t] Sc∧Own H (hs.take k) (ts.take k) S1∧Own H (hs.drop (k+1)) (ts.drop (k+1)) S2:=by
 obtain⟨hlt,e⟩:=List.getElem?_eq_some_iff.1 ht
 obtain⟨S1,S',rfl,h1,h2⟩:=h.split k (by omega)
 obtain⟨Sc,S2,rfl,h3,h4⟩:=h2.split 1 (by simp;omega)
 have hl:=h.length
 have e1:hs.drop k=hs[k]::hs.drop (k+1):=List.drop_eq_getElem_cons (by omega)
 have e2:ts.drop k=ts[k]::ts.drop (k+1):=List.drop_eq_getElem_cons (by omega)
 rw[e1,e2] at h3 h4
 simp only[List.take_succ_cons,List.take_zero] at h3
 refine⟨hs[k],S1,Sc,S2,List.getElem?_eq_getElem (by omega),by simp, ?_,h1,by simpa using h4⟩
 rw[← e];exact h3

theorem take_set_drop {α:Type} (l:List α) (k:Nat) (x:α) (h:k<l.length):l.set k x=l.take k++x::l.drop (k+1):=by
 rw[List.set_eq_take_append_cons_drop,if_pos h]

theorem Own.put {H:AH} {hs ts:List AV} {k:Nat} {S1 Sc S2:List Nat} {c t:AV} (hk:k<ts.length) (hkh:k<hs.length) (h1:Own H (hs.take k) (ts.take k) S1) (hc:Own H [c] [t] Sc) (h2:Own H (hs.drop (k+1)) (ts.drop (k+1)) S2) :
  Own H (hs.set k c) (ts.set k t) (S1++Sc++S2):=by
 rw[take_set_drop _ _ _ hk,take_set_drop _ _ _ hkh,List.append_assoc]
 exact h1.append (hc.append h2)

end Go.Ab

namespace Go.Ab

abbrev Path:=List (Nat × Nat)

def cellOf (rows:List (List AV)) (i j:Nat):Option AV:=
 match rows[i]? with
 | some row=>row[j]?
 | none=>none

def setCell (rows:List (List AV)) (i j:Nat) (t:AV):List (List AV):=
 match rows[i]? with
 | some row=>rows.set i (row.set j t)
 | none=>rows

def nodeA:List (List AV)→Path→Option (List (List AV))
 | rows,[]=>some rows
 | rows,(i,j)::p=>match cellOf rows i j with
  | some (.vs rows' _)=>nodeA rows' p
  | _=>none

def setA:List (List AV)→Path→Nat→Nat→AV→List (List AV)
 | rows,[],i,j,t=>setCell rows i j t
 | rows,(i0,j0)::p,i,j,t=>match cellOf rows i0 j0 with
  | some (.vs rows' z)=>setCell rows i0 j0 (.vs (setA rows' p i j t) z)
  | _=>rows

def followH (H:AH):AV→Path→Option AV
 | h,[]=>some h
 | .sl b o sz _ _ _,(i,j)::p=>match H.get b with
  | .cells cs=>match cs[o+i*sz+j]? with
   | some h'=>followH H h' p
   | none=>none
  | _=>none
 | _,_::_=>none

theorem cellOf_some {rows:List (List AV)} {i j:Nat} {t:AV} (h:cellOf rows i j=some t):∃ row,rows[i]? = some row∧row[j]? = some t:=by
 unfold cellOf at h;split at h
 ·rename_i row hr;exact⟨row,hr,h⟩
 ·cases h

theorem flat_len {rows:List (List AV)} {sz:Nat} (hz:∀ row∈rows,row.length=sz):rows.flatten.length=rows.length*sz:=by
 induction rows with
 | nil=>simp
 | cons r rows ih=>simp only[List.flatten_cons,List.length_append,List.length_cons,hz r (by simp),ih fun row h=>hz row (by simp[h]),Nat.succ_mul];omega

theorem flat_get {rows:List (List AV)} {sz i j:Nat} {row:List AV} {t:AV} (hz:∀ row∈rows,row.length=sz) (hr:rows[i]? = some row) (hj:row[j]? = some t):rows.flatten[i*sz+j]? = some t:=by
 induction rows generalizing i with
 | nil=>simp at hr
 | cons r rows ih=>
  have hrl:=hz r (by simp)
  cases i with
  | zero=>
   simp only[List.getElem?_cons_zero,Option.some.injEq] at hr;subst hr
   have:=(List.getElem?_eq_some_iff.1 hj).1
   rw[List.flatten_cons,Nat.zero_mul,Nat.zero_add,List.getElem?_append_left this,hj]
  | succ i=>
   rw[List.flatten_cons,List.getElem?_append_right (by rw[hrl,Nat.succ_mul];omega),hrl]
   have:=ih (i:=i) (fun row h=>hz row (by simp[h])) (by simpa using hr)
   rw[← this];congr 1;rw[Nat.succ_mul];omega

theorem flat_set {rows:List (List AV)} {sz i j:Nat} {row:List AV} {t:AV} (hz:∀ row∈rows,row.length=sz) (hr:rows[i]? = some row) (hj:j<row.length):(rows.set i (row.set j t)).flatten=rows.flatten.set (i*sz+j) t:=by
 induction rows generalizing i with
 | nil=>simp at hr
 | cons r rows ih=>
  have hrl:=hz r (by simp)
  cases i with
  | zero=>
   simp only[List.getElem?_cons_zero,Option.some.injEq] at hr;subst hr
   rw[List.set_cons_zero,List.flatten_cons,List.flatten_cons,Nat.zero_mul,Nat.zero_add,List.set_append_left _ _ hj]
  | succ i=>
   rw[List.set_cons_succ,List.flatten_cons,List.flatten_cons,List.set_append_right _ _ (by rw[hrl,Nat.succ_mul];omega),ih (fun row h=>hz row (by simp[h])) (by simpa using hr),hrl]
   congr 2;rw[Nat.succ_mul];omega

theorem setCell_of {rows:List (List AV)} {i j:Nat} {row:List AV} {t:AV} (hr:rows[i]? = some row):setCell rows i j t=rows.set i (row.set j t):=by unfold setCell;rw[hr]

theorem setCell_length {rows:List (List AV)} {i j:Nat} {t:AV}:(setCell rows i j t).length=rows.length:=by
 unfold setCell;split<;>simp

theorem setCell_ne {rows:List (List AV)} {i j:Nat} {row:List AV} {t:AV} (hr:rows[i]? = some row):setCell rows i j t≠[]:=by
 intro e
 have:=congrArg List.length e
 rw[setCell_length] at this
 cases rows<;>simp_all

theorem setCell_rows {rows:List (List AV)} {i j sz:Nat} {t:AV} (hz:∀ row∈rows,row.length=sz):∀ row∈setCell rows i j t,row.length=sz:=by
 unfold setCell;split
 ·rename_i row hr
  intro row' h
  rcases List.mem_or_eq_of_mem_set h with h|rfl
  ·exact hz _ h
  ·rw[List.length_set];exact hz _ (List.mem_of_getElem? hr)
 ·exact hz

theorem Own.inv {H:AH} {h:AV} {rows:List (List AV)} {z:Bool} {S:List Nat} (ho:Own H [h] [.vs rows z] S) (hne:rows≠[]) :
  ∃ b o sz ex cs S1,h=.sl b o sz rows.length rows.length ex∧S=b::S1∧H.read b o (rows.length*sz)=some cs∧(∀ row∈rows,row.length=sz)∧Own H cs rows.flatten S1:=by
 cases ho with
 | flat hf=>simp[flatV] at hf
 | emp h0=>exact absurd rfl hne
 | sl hn hr hz h1 h2=>
  cases h2
  exact⟨_,_,_,_,_,_,rfl,by simp,hr,hz,h1⟩

theorem read_some {H:AH} {b o n:Nat} {ws:List AV} (h:H.read b o n=some ws):∃ cs,H.get b=.cells cs∧o+n≤cs.length∧ws=(cs.drop o).take n:=by
 unfold AH.read at h
 split at h
 ·rename_i cs hg
  obtain⟨h1,h2⟩:=slice_spec h
  exact⟨cs,hg,h1,h2⟩
 ·cases h

theorem idx_lt {n sz i j:Nat} (hi:i<n) (hj:j<sz):i*sz+j<n*sz:=by
 have:(i+1)*sz≤n*sz:=Nat.mul_le_mul_right _ hi
 rw[Nat.succ_mul] at this;omega

theorem idx_inj {sz i j i' j':Nat} (hj:j<sz) (hj':j'<sz) (h:i*sz+j=i'*sz+j'):i=i'∧j=j':=by
 have h1:(i*sz+j) / sz=i:=by
  rw[Nat.mul_comm,Nat.mul_add_div (by omega),Nat.div_eq_of_lt hj,Nat.add_zero]
 have h2:(i'*sz+j') / sz=i':=by
  rw[Nat.mul_comm,Nat.mul_add_div (by omega),Nat.div_eq_of_lt hj',Nat.add_zero]
 have:i=i':=by rw[← h1,← h2,h]
 subst this
 exact⟨rfl,by omega⟩

theorem Own.beside {H:AH} {hs ts:List AV} {k k2:Nat} {Sa Sb:List Nat} {t2:AV} (h1:Own H (hs.take k) (ts.take k) Sa) (h2:Own H (hs.drop (k+1)) (ts.drop (k+1)) Sb) (hne:k2≠k) (ht:ts[k2]? = some t2) :
  ∃ c2 Sc2,hs[k2]? = some c2∧Own H [c2] [t2] Sc2∧∀ x∈Sc2,x∈Sa∨x∈Sb:=by
 rcases Nat.lt_or_ge k2 k with hlt|hge
 ·obtain⟨c,S1,Sc,S2,a1,rfl,a3,_,_⟩:=h1.at (k:=k2) (t:=t2) (by rw[List.getElem?_take,if_pos hlt,ht])
  rw[List.getElem?_take,if_pos hlt] at a1
  exact⟨c,Sc,a1,a3,fun x hx=>.inl (by simp[hx])⟩
 ·obtain⟨c,S1,Sc,S2,a1,rfl,a3,_,_⟩:=h2.at (k:=k2 - (k+1)) (t:=t2) (by rw[List.getElem?_drop,← ht];congr 1;omega)
  rw[List.getElem?_drop] at a1
  exact⟨c,Sc,by rw[← a1];congr 1;omega,a3,fun x hx=>.inr (by simp[hx])⟩

theorem follow_frame {H H':AH}:∀ (p:Path) {h:AV} {rows:List (List AV)} {z:Bool} {S:List Nat},Own H [h] [.vs rows z] S→(∀ b∈S,H'.get b=H.get b)→nodeA rows p≠none→followH H' h p=followH H h p
 | [],h,rows,z,S,ho,hf,hn=>by cases h<;>rfl
 | (i,j)::p,h,rows,z,S,ho,hf,hn=>by
  simp only[nodeA] at hn
  split at hn
  ·rename_i rows' z' hc
   obtain⟨row,hr,hj⟩:=cellOf_some hc
   obtain⟨b,o,sz,ex,ws,S1,rfl,rfl,hrd,hz,h1⟩:=ho.inv (fun e=>by subst e;simp at hr)
   obtain⟨cs,hg,hle,rfl⟩:=read_some hrd
   simp only[followH,hf b (by simp),hg]
   obtain⟨c,Sa,Sc,Sb,k1,rfl,k2,_,_⟩:=h1.at (flat_get hz hr hj)
   have hjz:j<sz:=by rw[← hz row (List.mem_of_getElem? hr)];exact (List.getElem?_eq_some_iff.1 hj).1
   have hlt:=idx_lt (List.getElem?_eq_some_iff.1 hr).1 hjz
   have k1':cs[o+i*sz+j]? = some c:=by
    rw[List.getElem?_take,if_pos hlt,List.getElem?_drop] at k1
    rw[← k1];congr 1;omega
   rw[k1']
   exact follow_frame p k2 (fun b hb=>hf b (by simp[hb])) hn
  ·exact absurd rfl hn

theorem zoom {H:AH}:∀ (p:Path) {h:AV} {rows rp:List (List AV)} {z:Bool} {S:List Nat} {i j:Nat} {row:List AV} {t:AV},Own H [h] [.vs rows z] S→S.Nodup→nodeA rows p=some rp→rp[i]? = some row→row[j]? = some t →
  ∃ b o sz cap ex cs c Sc,followH H h p=some (.sl b o sz rp.length cap ex)∧H.get b=.cells cs∧(∀ row∈rp,row.length=sz)∧o+rp.length*sz≤cs.length∧cs[o+i*sz+j]? = some c∧Own H [c] [t] Sc∧b∉Sc∧b∈S∧(∀ x∈Sc,x∈S)∧Sc.Nodup ∧
   ∀ (H':AH) (c' t':AV) (Sc':List Nat),H'.get b=.cells (cs.set (o+i*sz+j) c')→Own H' [c'] [t'] Sc'→Sc'.Nodup→(∀ x∈Sc',x∈Sc∨x∉S)→(∀ x∈S,x≠b→x∉Sc→H'.get x=H.get x) →
    (∃ S',Own H' [h] [.vs (setA rows p i j t') z] S'∧S'.Nodup∧(∀ x∈S',x∈S∨x∈Sc')∧(∀ x∈S',x∈Sc→x∈Sc'))∧∀ p2,¬ (p++[(i,j)]) <+: p2→nodeA rows p2≠none→followH H' h p2=followH H h p2
 | [],h,rows,rp,z,S,i,j,row,t,ho,hnd,hn,hr,hj=>by
  simp only[nodeA,Option.some.injEq] at hn
  subst hn
  obtain⟨b,o,sz,ex,ws,S1,rfl,rfl,hrd,hz,h1⟩:=ho.inv (fun e=>by subst e;simp at hr)
  obtain⟨cs,hg,hle,rfl⟩:=read_some hrd
  obtain⟨c,Sa,Sc,Sb,k1,rfl,k2,k3,k4⟩:=h1.at (flat_get hz hr hj)
  have hjr:j<row.length:=(List.getElem?_eq_some_iff.1 hj).1
  have hjz:j<sz:=by rw[← hz row (List.mem_of_getElem? hr)];exact hjr
  have hlt:=idx_lt (List.getElem?_eq_some_iff.1 hr).1 hjz
  have k1':cs[o+i*sz+j]? = some c:=by
   rw[List.getElem?_take,if_pos hlt,List.getElem?_drop] at k1
   rw[← k1];congr 1;omega
  simp only[List.nodup_cons,List.nodup_append,List.mem_append] at hnd
  obtain⟨hb,⟨hna,hnc,hdac⟩,hnb,hdb⟩:=hnd
  refine⟨b,o,sz,_,ex,cs,c,Sc,rfl,hg,hz,hle,k1',k2,fun h=>hb (.inl (.inr h)),by simp,fun x hx=>by simp[hx],hnc,fun H' c' t' Sc' hg' ho' hnd' hsub hfr=>⟨?_,fun p2 hp2 hn2=>?_⟩⟩
  ·refine⟨b::(Sa++Sc'++Sb), ?_, ?_, ?_, ?_⟩
   ·have hrd':H'.read b o ((setCell rows i j t').length*sz)=some (((cs.drop o).take (rows.length*sz)).set (i*sz+j) c'):=by
     unfold AH.read
     rw[hg',setCell_length]
     simp only[slice]
     rw[if_pos (by rw[List.length_set];exact hle)]
     congr 1
     rw[show o+i*sz+j=o+(i*sz+j) by omega,List.drop_set,if_neg (by omega),show o+(i*sz+j) - o=i*sz+j by omega,List.take_set]
    have hb1:∀ x,x∈Sa∨x∈Sb→H'.get x=H.get x:=fun x hx=>by
     refine hfr x ?_ ?_ ?_
     ·rcases hx with hx|hx<;>simp[hx]
     ·rintro rfl
      rcases hx with hx|hx
      ·exact hb (.inl (.inl hx))
      ·exact hb (.inr hx)
     ·intro hxc
      rcases hx with hx|hx
      ·exact hdac x hx x hxc rfl
      ·exact hdb x (.inr hxc) x hx rfl
    have hlw:i*sz+j<((cs.drop o).take (rows.length*sz)).length:=by rw[List.length_take,List.length_drop];omega
    have:=Own.put (H:=H') (c:=c') (t:=t') (by rw[flat_len hz];exact hlt) hlw (k3.frame fun x hx=>hb1 x (.inl hx)) ho' (k4.frame fun x hx=>hb1 x (.inr hx))
    rw[← flat_set hz hr hjr,← setCell_of hr] at this
    simp only[setA]
    rw[← setCell_length (rows:=rows) (i:=i) (j:=j) (t:=t')]
    simpa using Own.sl (z:=z) (ex:=ex) (setCell_ne hr) hrd' (setCell_rows hz) this Own.nil
   ·have hfresh:∀ x,x∈Sc'→x≠b∧x∉Sa∧x∉Sb:=fun x hx=>by
     rcases hsub x hx with h|h
     ·exact⟨fun e=>hb (by subst e;exact .inl (.inr h)),fun e=>hdac x e x h rfl,fun e=>hdb x (.inr h) x e rfl⟩
     ·simp only[List.mem_cons,List.mem_append,not_or] at h
      exact⟨h.1,h.2.1.1,h.2.2⟩
    simp only[List.nodup_cons,List.nodup_append,List.mem_append]
    refine⟨?_,⟨hna,hnd', ?_⟩,hnb, ?_⟩
    ·rintro ((h|h)|h)
     ·exact hb (.inl (.inl h))
     ·exact (hfresh _ h).1 rfl
     ·exact hb (.inr h)
    ·rintro x hx y hy rfl;exact (hfresh x hy).2.1 hx
    ·rintro x (hx|hx) y hy rfl
     ·exact hdb x (.inl hx) x hy rfl
     ·exact (hfresh x hx).2.2 hy
   ·intro x hx
    simp only[List.mem_cons,List.mem_append] at hx
    rcases hx with rfl|(hx|hx)|hx
    ·simp
    ·simp[hx]
    ·exact .inr hx
    ·simp[hx]
   ·intro x hx hxc
    simp only[List.mem_cons,List.mem_append] at hx
    rcases hx with rfl|(hx|hx)|hx
    ·exact absurd (.inl (.inr hxc)) hb
    ·exact absurd rfl (hdac x hx x hxc)
    ·exact hx
    ·exact absurd rfl (hdb x (.inr hxc) x hx)
  ·cases p2 with
   | nil=>rfl
   | cons q p2=>
    obtain⟨i2,j2⟩:=q
    simp only[nodeA] at hn2
    split at hn2
    ·rename_i rows2 z2 hc2
     obtain⟨row2,hr2,hj2⟩:=cellOf_some hc2
     have hjz2:j2<sz:=by rw[← hz row2 (List.mem_of_getElem? hr2)];exact (List.getElem?_eq_some_iff.1 hj2).1
     have hne:i*sz+j≠i2*sz+j2:=fun e=>by
      obtain⟨rfl,rfl⟩:=idx_inj hjz hjz2 e
      exact hp2 (by simp)
     simp only[followH,hg,hg']
     rw[List.getElem?_set_ne (by omega)]
     have hlt2:=idx_lt (List.getElem?_eq_some_iff.1 hr2).1 hjz2
     obtain⟨c2,Sc2,m1,m3,m4⟩:=k3.beside k4 (k2:=i2*sz+j2) (fun e=>hne e.symm) (flat_get hz hr2 hj2)
     have m1':cs[o+i2*sz+j2]? = some c2:=by
      rw[List.getElem?_take,if_pos hlt2,List.getElem?_drop] at m1
      rw[← m1];congr 1;omega
     rw[m1']
     simp only[]
     refine follow_frame p2 m3 (fun x hx=>?_) hn2
     refine hfr x ?_ ?_ ?_
     ·rcases m4 x hx with hx|hx<;>simp[hx]
     ·rintro rfl
      rcases m4 _ hx with hx|hx
      ·exact hb (.inl (.inl hx))
      ·exact hb (.inr hx)
     ·intro hxc
      rcases m4 x hx with hx|hx
      ·exact hdac x hx x hxc rfl
      ·exact hdb x (.inr hxc) x hx rfl
    ·exact absurd rfl hn2
 | (i0,j0)::p,h,rows,rp,z,S,i,j,row,t,ho,hnd,hn,hr,hj=>by
  simp only[nodeA] at hn
  split at hn
  ·rename_i rows0 z0 hc0
   obtain⟨row0,hr0,hj0⟩:=cellOf_some hc0
   obtain⟨b0,o0,sz0,ex0,ws0,S1,rfl,rfl,hrd,hz,h1⟩:=ho.inv (fun e=>by subst e;simp at hr0)
   obtain⟨cs0,hg,hle,rfl⟩:=read_some hrd
   obtain⟨c0,Sa,Sc0,Sb,k1,rfl,k2,k3,k4⟩:=h1.at (flat_get hz hr0 hj0)
   have hjr:j0<row0.length:=(List.getElem?_eq_some_iff.1 hj0).1
   have hjz:j0<sz0:=by rw[← hz row0 (List.mem_of_getElem? hr0)];exact hjr
   have hlt:=idx_lt (List.getElem?_eq_some_iff.1 hr0).1 hjz
   have k1':cs0[o0+i0*sz0+j0]? = some c0:=by
    rw[List.getElem?_take,if_pos hlt,List.getElem?_drop] at k1
    rw[← k1];congr 1;omega
   simp only[List.nodup_cons,List.nodup_append,List.mem_append] at hnd
   obtain⟨hb,⟨hna,hnc,hdac⟩,hnb,hdb⟩:=hnd
   obtain⟨b,o,sz,cap,ex,cs,c,Sc,q1,q2,q3,q4,q5,q6,q7,q8,q9,q9',q10⟩:=zoom p k2 hnc hn hr hj
   have hbne:b≠b0:=fun e=>hb (by subst e;exact .inl (.inr q8))
   refine⟨b,o,sz,cap,ex,cs,c,Sc, ?_,q2,q3,q4,q5,q6,q7,by simp[q8],fun x hx=>by simp[q9 x hx],q9',fun H' c' t' Sc' hg' ho' hnd' hsub hfr=>?_⟩
   ·simp only[followH,hg,k1',q1]
   ·have hout:∀ x,x∈Sa∨x∈Sb→x∉Sc0:=fun x hx hxc=>by
     rcases hx with hx|hx
     ·exact hdac x hx x hxc rfl
     ·exact hdb x (.inr hxc) x hx rfl
    have hb1:∀ x,x∈Sa∨x∈Sb→H'.get x=H.get x:=fun x hx=>by
     refine hfr x (by rcases hx with hx|hx<;>simp[hx]) (fun e=>hout x hx (by subst e;exact q8)) (fun hxc=>hout x hx (q9 x hxc))
    have hb0:H'.get b0=H.get b0:=hfr b0 (by simp) (fun e=>hbne e.symm) (fun hxc=>hb (.inl (.inr (q9 _ hxc))))
    obtain⟨⟨S',r1,r2,r3,r3'⟩,r4⟩:=q10 H' c' t' Sc' hg' ho' hnd' (fun x hx=>(hsub x hx).imp id fun h=>fun hx'=>h (by simp[hx'])) (fun x hx h1 h2=>hfr x (by simp[hx]) h1 h2)
    have hS':∀ x∈S',x∈Sc0∨(x≠b0∧x∉Sa∧x∉Sb):=fun x hx=>by
     rcases r3 x hx with h|h
     ·exact .inl h
     ·rcases hsub x h with h|h
      ·exact .inl (q9 x h)
      ·simp only[List.mem_cons,List.mem_append,not_or] at h
       exact .inr ⟨h.1,h.2.1.1,h.2.2⟩
    refine⟨⟨b0::(Sa++S'++Sb), ?_, ?_, ?_, ?_⟩,fun p2 hp2 hn2=>?_⟩
    ·have hlw:i0*sz0+j0<((cs0.drop o0).take (rows.length*sz0)).length:=by rw[List.length_take,List.length_drop];omega
     have:=Own.put (H:=H') (c:=c0) (t:=.vs (setA rows0 p i j t') z0) (by rw[flat_len hz];exact hlt) hlw (k3.frame fun x hx=>hb1 x (.inl hx)) r1 (k4.frame fun x hx=>hb1 x (.inr hx))
     rw[← flat_set hz hr0 hjr,← setCell_of hr0] at this
     have e1:((cs0.drop o0).take (rows.length*sz0)).set (i0*sz0+j0) c0=(cs0.drop o0).take (rows.length*sz0):=by
      obtain⟨hl,e⟩:=List.getElem?_eq_some_iff.1 k1
      rw[← e];exact List.set_getElem_self hl
     rw[e1] at this
     have hrd':H'.read b0 o0 ((setCell rows i0 j0 (.vs (setA rows0 p i j t') z0)).length*sz0)=some ((cs0.drop o0).take (rows.length*sz0)):=by
      rw[setCell_length,AH.read_congr hb0];exact hrd
     simp only[setA,hc0]
     rw[← setCell_length (rows:=rows) (i:=i0) (j:=j0) (t:=.vs (setA rows0 p i j t') z0)]
     simpa using Own.sl (z:=z) (ex:=ex0) (setCell_ne hr0) hrd' (setCell_rows hz) this Own.nil
    ·simp only[List.nodup_cons,List.nodup_append,List.mem_append]
     refine⟨?_,⟨hna,r2, ?_⟩,hnb, ?_⟩
     ·rintro ((h|h)|h)
      ·exact hb (.inl (.inl h))
      ·rcases hS' _ h with h|h
       ·exact hb (.inl (.inr h))
       ·exact h.1 rfl
      ·exact hb (.inr h)
     ·rintro x hx y hy rfl
      rcases hS' _ hy with h|h
      ·exact hdac x hx x h rfl
      ·exact h.2.1 hx
     ·rintro x (hx|hx) y hy rfl
      ·exact hdb x (.inl hx) x hy rfl
      ·rcases hS' _ hx with h|h
       ·exact hdb x (.inr h) x hy rfl
       ·exact h.2.2 hy
    ·intro x hx
     simp only[List.mem_cons,List.mem_append] at hx
     rcases hx with rfl|(hx|hx)|hx
     ·simp
     ·simp[hx]
     ·rcases r3 x hx with h|h
      ·simp[h]
      ·exact .inr h
     ·simp[hx]
    ·intro x hx hxc
     simp only[List.mem_cons,List.mem_append] at hx
     rcases hx with rfl|(hx|hx)|hx
     ·exact absurd (.inl (.inr (q9 _ hxc))) hb
     ·exact absurd (q9 _ hxc) (hout x (.inl hx))
     ·exact r3' x hx hxc
     ·exact absurd (q9 _ hxc) (hout x (.inr hx))
    ·cases p2 with
     | nil=>rfl
     | cons q p2=>
      obtain⟨i2,j2⟩:=q
      simp only[nodeA] at hn2
      split at hn2
      ·rename_i rows2 z2 hc2
       obtain⟨row2,hr2,hj2⟩:=cellOf_some hc2
       have hjz2:j2<sz0:=by rw[← hz row2 (List.mem_of_getElem? hr2)];exact (List.getElem?_eq_some_iff.1 hj2).1
       simp only[followH,hg,hb0]
       by_cases he:i0*sz0+j0=i2*sz0+j2
       ·obtain⟨rfl,rfl⟩:=idx_inj hjz hjz2 he
        rw[hc0] at hc2
        cases hc2
        rw[k1']
        exact r4 p2 (fun hpre=>hp2 (by simpa using hpre)) hn2
       ·have hlt2:=idx_lt (List.getElem?_eq_some_iff.1 hr2).1 hjz2
        obtain⟨c2,Sc2,m1,m3,m4⟩:=k3.beside k4 (k2:=i2*sz0+j2) (fun e=>he e.symm) (flat_get hz hr2 hj2)
        have m1':cs0[o0+i2*sz0+j2]? = some c2:=by
         rw[List.getElem?_take,if_pos hlt2,List.getElem?_drop] at m1
         rw[← m1];congr 1;omega
        rw[m1']
        exact follow_frame p2 m3 (fun x hx=>hb1 x (m4 x hx)) hn2
      ·exact absurd rfl hn2
  ·cases hn

end Go.Ab

namespace Go.Ab

inductive TV where
 | a (v:AV)
 | es
 | lp (st o:Nat)
 | pt (r:Nat) (p:Path) (g i j:Nat)
 | sl (r:Nat) (p:Path) (g i n:Nat) (w:Bool)
 | ag (cs:List TV)
 | tu (vs:List TV)
 | fn (f:Fn) (first cap:List TV)
 | mp (r:Nat)
 | rs (r j n:Nat) (w:Bool)
 deriving Inhabited

inductive TO where
 | tree (rows:List (List AV)) (z:Bool) (log:List Path)
 | raw (cells:List TV)
 | mapo (es:List (Int × TV))
 | dead
 deriving Inhabited

structure TH where
 objs:Tr TO
 next:Nat

def TH.get (T:TH) (r:Nat):TO:=(T.objs.get r).getD .dead
def TH.put (T:TH) (r:Nat) (o:TO):TH:={ T with objs:=T.objs.set r o }
def TH.new (T:TH) (o:TO):TH:={ objs:=T.objs.set T.next o,next:=T.next+1 }

theorem TH.get_put (T:TH) (r:Nat) (o:TO) (k:Nat):(T.put r o).get k=if r=k then o else T.get k:=by
 unfold TH.get TH.put;simp only[Tr.get_set];split<;>rfl
theorem TH.get_new (T:TH) (o:TO) (k:Nat):(T.new o).get k=if T.next=k then o else T.get k:=by
 unfold TH.get TH.new;simp only[Tr.get_set];split<;>rfl
theorem TH.next_put (T:TH) (r:Nat) (o:TO):(T.put r o).next=T.next:=rfl
theorem TH.next_new (T:TH) (o:TO):(T.new o).next=T.next+1:=rfl

structure TE where
 m:Tr TV
 L:Tr (List TV)
 ln:Nat

def TE.get (E:TE) (t:Nat):TV:=(E.m.get t).getD (.tu [])
def TE.set (E:TE) (t:Nat) (v:TV):TE:={ E with m:=E.m.set t v }
def TE.put (E:TE) (t:Option Nat) (v:TV):TE:=match t with|some t=>E.set t v|none=>E
def TE.loc (E:TE) (cs:List TV):TE:={ E with L:=E.L.set E.ln cs,ln:=E.ln+1 }
def TE.putL (E:TE) (st:Nat) (cs:List TV):TE:={ E with L:=E.L.set st cs }
def TE.raw (E:TE):Opd→TV
 | .t t=>E.get t
 | .c v=>.a v

def TO.glen:TO→Nat
 | .tree _ _ log=>log.length
 | _=>0

def TO.rows:TO→Option (List (List AV))
 | .tree rows _ _=>some rows
 | .raw cells=>some [cells.map fun _=>.nilp]
 | .mapo es=>some [es.map fun _=>.nilp]
 | .dead=>none

def TO.valid:TO→Path→Nat→Bool
 | .tree _ _ log,p,g=>(log.take (log.length - g)).all fun q=>!q.isPrefixOf p
 | .raw _,_,_=>true
 | .mapo _,_,_=>true
 | .dead,_,_=>false

def TO.node (o:TO) (p:Path):Option (List (List AV)):=
 match o.rows with
 | some rows=>nodeA rows p
 | none=>none

structure Anc where
 hd:Nat→AV
 S:Nat→List Nat

inductive VR (A:Anc) (T:TH) (H:AH):TV→AV→Prop where
 | a (v:AV):VR A T H (.a v) v
 | es (h:AV) (he:empV h=true):VR A T H .es h
 | lp (st o:Nat):VR A T H (.lp st o) (.lp st o)
 | pt (r:Nat) (p:Path) (g i j:Nat) (h:AV) (hr:r<T.next) (hg:T.get r≠.dead→g≤(T.get r).glen) (hp:∃ b o,h=.ptr b o)
   (hv:(T.get r).valid p g=true→(T.get r).node p≠none∧∃ b o sz n cap ex,followH H (A.hd r) p=some (.sl b o sz n cap ex)∧h=.ptr b (o+i*sz+j)):VR A T H (.pt r p g i j) h
 | sl (r:Nat) (p:Path) (g i n:Nat) (w:Bool) (h:AV) (hr:r<T.next) (hg:T.get r≠.dead→g≤(T.get r).glen) (hn:slenV h=some n)
   (hv:(T.get r).valid p g=true→(T.get r).node p≠none∧∃ hd,followH H (A.hd r) p=some hd∧(w=true→h=hd∧i=0)∧(n=0∨∃ b o sz n0 cap0 ex0 cap ex,hd=.sl b o sz n0 cap0 ex0∧h=.sl b (o+i*sz) sz n cap ex∧n≤cap∧i+cap=cap0)):VR A T H (.sl r p g i n w) h
 | ag (cs:List TV) (hs:List AV) (hl:cs.length=hs.length) (hv:∀ (k:Nat) c h,cs[k]? = some c→hs[k]? = some h→VR A T H c h):VR A T H (.ag cs) (.agg hs)
 | tu (cs:List TV) (hs:List AV) (hl:cs.length=hs.length) (hv:∀ (k:Nat) c h,cs[k]? = some c→hs[k]? = some h→VR A T H c h):VR A T H (.tu cs) (.tup hs)
 | fn (f:Fn) (as cs:List TV) (as' cs':List AV) (h1:as.length=as'.length) (h2:cs.length=cs'.length) (hv1:∀ (k:Nat) c h,as[k]? = some c→as'[k]? = some h→VR A T H c h) (hv2:∀ (k:Nat) c h,cs[k]? = some c→cs'[k]? = some h→VR A T H c h):VR A T H (.fn f as cs) (.fn f as' cs')
 | mp (r:Nat) (h:AV) (hr:r<T.next) (hp:∃ b,h=.mp b) (hv:(T.get r).valid [] 0=true→(T.get r).node []≠none∧followH H (A.hd r) []=some h):VR A T H (.mp r) h
 | rs (r j n:Nat) (w:Bool) (h:AV) (hr:r<T.next) (hl:slenV h=some n) (hv:(T.get r).valid [] 0=true→(T.get r).node []≠none∧∃ b N,followH H (A.hd r) []=some (.sl b 0 N 1 1 true)∧h=.sl b j 1 n n w∧j+n≤N):VR A T H (.rs r j n w) h

def VRL (A:Anc) (T:TH) (H:AH) (cs:List TV) (hs:List AV):Prop:=cs.length=hs.length∧∀ (k:Nat) c h,cs[k]? = some c→hs[k]? = some h→VR A T H c h

def MRel (A:Anc) (T:TH) (H:AH) (es:List (Int × TV)) (hs:List (AV × AV)):Prop:=hs.length=es.length∧∀ (k:Nat) n c,es[k]? = some (n,c)→∃ h,hs[k]? = some (.int .i64 n,h)∧VR A T H c h

structure HR (A:Anc) (T:TH) (H:AH):Prop where
 wh:WH H
 tree:∀ r rows z log,T.get r=.tree rows z log→Own H [A.hd r] [.vs rows z] (A.S r)∧(A.S r).Nodup
 raw:∀ r cells,T.get r=.raw cells→∃ b hs,A.hd r=.sl b 0 cells.length 1 1 true∧A.S r=[b]∧H.get b=.cells hs∧VRL A T H cells hs
 mapo:∀ r es,T.get r=.mapo es→∃ b hs,A.hd r=.mp b∧A.S r=[b]∧H.get b=.map hs∧MRel A T H es hs
 apart:∀ r r' x,T.get r≠.dead→T.get r'≠.dead→r≠r'→x∈A.S r→x∉A.S r'
 top:∀ r,T.next≤r→T.get r=.dead

def Gr (A:Anc) (T:TH) (H:AH) (A':Anc) (T':TH) (H':AH):Prop:=∀ v h,VR A T H v h→VR A' T' H' v h

theorem Gr.refl {A:Anc} {T:TH} {H:AH}:Gr A T H A T H:=fun _ _ h=>h
theorem Gr.trans {A A1 A2:Anc} {T T1 T2:TH} {H H1 H2:AH} (h:Gr A T H A1 T1 H1) (k:Gr A1 T1 H1 A2 T2 H2):Gr A T H A2 T2 H2:=fun v x hv=>k v x (h v x hv)
theorem Gr.list {A A':Anc} {T T':TH} {H H':AH} (h:Gr A T H A' T' H') {cs:List TV} {hs:List AV} (hv:VRL A T H cs hs):VRL A' T' H' cs hs:=⟨hv.1,fun k c x h1 h2=>h _ _ (hv.2 k c x h1 h2)⟩

theorem Gr.mk {A A':Anc} {T T':TH} {H H':AH} (hn:T.next≤T'.next) (hd:∀ r,r<T.next→T'.get r≠.dead→T.get r≠.dead∧(T.get r).glen≤(T'.get r).glen)
  (hv:∀ r,r<T.next→∀ p g,g≤(T.get r).glen→(T'.get r).valid p g=true→(T.get r).valid p g=true∧((T.get r).node p≠none→(T'.get r).node p≠none∧followH H' (A'.hd r) p=followH H (A.hd r) p)):Gr A T H A' T' H':=by
 intro v h hr
 have alive:∀ (o:TO) p g,o.valid p g=true→o≠.dead:=fun o p g h e=>by subst e;cases h
 induction hr with
 | a v=>exact .a v
 | es h he=>exact .es h he
 | lp st o=>exact .lp st o
 | pt r p g i j h hr hg hp hx=>
  refine .pt r p g i j h (by omega) (fun hd'=>?_) hp fun hval=>?_
  ·obtain⟨k1,k2⟩:=hd r hr hd'
   exact Nat.le_trans (hg k1) k2
  ·have hal:=hd r hr (alive _ _ _ hval)
   obtain⟨k1,k2⟩:=hv r hr p g (hg hal.1) hval
   obtain⟨k3,b,o,sz,n,cap,ex,k4,k5⟩:=hx k1
   obtain⟨k6,k7⟩:=k2 k3
   exact⟨k6,b,o,sz,n,cap,ex,by rw[k7];exact k4,k5⟩
 | sl r p g i n w h hr hg hl hx=>
  refine .sl r p g i n w h (by omega) (fun hd'=>?_) hl fun hval=>?_
  ·obtain⟨k1,k2⟩:=hd r hr hd'
   exact Nat.le_trans (hg k1) k2
  ·have hal:=hd r hr (alive _ _ _ hval)
   obtain⟨k1,k2⟩:=hv r hr p g (hg hal.1) hval
   obtain⟨k3,hd,k4,k5⟩:=hx k1
   obtain⟨k6,k7⟩:=k2 k3
   exact⟨k6,hd,by rw[k7];exact k4,k5⟩
 | ag cs hs hl _ ih=>exact .ag cs hs hl ih
 | tu cs hs hl _ ih=>exact .tu cs hs hl ih
 | fn f as cs as' cs' h1 h2 _ _ ih1 ih2=>exact .fn f as cs as' cs' h1 h2 ih1 ih2
 | mp r h hr hp hx=>
  refine .mp r h (by omega) hp fun hval=>?_
  have hal:=hd r hr (alive _ _ _ hval)
  obtain⟨k1,k2⟩:=hv r hr [] 0 (Nat.zero_le _) hval
  obtain⟨k3,k4⟩:=hx k1
  obtain⟨k6,k7⟩:=k2 k3
  exact⟨k6,by rw[k7];exact k4⟩
 | rs r j n w h hr hl hx=>
  refine .rs r j n w h (by omega) hl fun hval=>?_
  have hal:=hd r hr (alive _ _ _ hval)
  obtain⟨k1,k2⟩:=hv r hr [] 0 (Nat.zero_le _) hval
  obtain⟨k3,k4⟩:=hx k1
  obtain⟨k6,k7⟩:=k2 k3
  exact⟨k6,by rw[k7];exact k4⟩

theorem Gr.map {A A':Anc} {T T':TH} {H H':AH} (h:Gr A T H A' T' H') {es:List (Int × TV)} {hs:List (AV × AV)} (hv:MRel A T H es hs):MRel A' T' H' es hs:=
 ⟨hv.1,fun k n c hk=>by obtain⟨x,h1,h2⟩:=hv.2 k n c hk;exact⟨x,h1,h _ _ h2⟩⟩

structure SRT (A:Anc) (E:TE) (T:TH) (e:Env) (H:AH):Prop where
 mem:HR A T H
 slot:∀ t,VR A T H (E.get t) (e.get t)
 ln:E.ln=e.ln
 loc:∀ st cells,E.L.get st=some cells→∃ hs,e.L.get st=some hs∧VRL A T H cells hs

theorem SRT.opd {A:Anc} {E:TE} {T:TH} {e:Env} {H:AH} (h:SRT A E T e H) (x:Opd):VR A T H (E.raw x) (e.raw x):=by
 cases x with
 | t t=>exact h.slot t
 | c v=>exact .a v

theorem SRT.put {A:Anc} {E:TE} {T:TH} {e:Env} {H:AH} (h:SRT A E T e H) {v:TV} {x:AV} (hv:VR A T H v x) (d:Option Nat):SRT A (E.put d v) T (e.put d x) H:=by
 cases d with
 | none=>exact h
 | some d=>
  refine⟨h.mem,fun t=>?_,h.ln,h.loc⟩
  show VR A T H (((E.m.set d v).get t).getD _) (((e.m.set d x).get t).getD _)
  simp only[Tr.get_set]
  split
  ·exact hv
  ·exact h.slot t

theorem SRT.grow {A A':Anc} {E:TE} {T T':TH} {e:Env} {H H':AH} (h:SRT A E T e H) (hg:Gr A T H A' T' H') (hm:HR A' T' H'):SRT A' E T' e H':=
 ⟨hm,fun t=>hg _ _ (h.slot t),h.ln,fun st cells hs=>by obtain⟨x,k1,k2⟩:=h.loc st cells hs;exact⟨x,k1,hg.list k2⟩⟩

def WOT (M:FuncId→Option MFunc) (l:List MOper) (E:TE) (T:TH) (Q:TE→TH→Prop):Prop:=
 ∀ A e H,SRT A E T e H→WO M l e H fun e' H'=>∃ A' E' T',SRT A' E' T' e' H'∧Gr A T H A' T' H'∧Q E' T'

def WCT (M:FuncId→Option MFunc) (c:MCode) (E:TE) (T:TH) (Q:Out→TE→TH→Prop):Prop:=
 ∀ A e H,SRT A E T e H→WC M c e H fun o e' H'=>∃ A' E' T',SRT A' E' T' e' H'∧Gr A T H A' T' H'∧Q o E' T'

section
variable {M:FuncId→Option MFunc} {E:TE} {T:TH}

theorem WOT.nil {Q:TE→TH→Prop} (h:Q E T):WOT M [] E T Q:=fun A e H hs=>WO.nil ⟨A,E,T,hs,Gr.refl,h⟩

theorem WCT.ops {l:List MOper} {Q:Out→TE→TH→Prop} (h:WOT M l E T fun E' T'=>Q .normal E' T'):WCT M (.ops l) E T Q:=fun A e H hs=>WC.ops (h A e H hs)
theorem WCT.skip {Q:Out→TE→TH→Prop} (h:Q .normal E T):WCT M .skip E T Q:=fun A e H hs=>WC.skip ⟨A,E,T,hs,Gr.refl,h⟩
theorem WCT.exit {id:Nat} {Q:Out→TE→TH→Prop} (h:Q (.exit id) E T):WCT M (.exit id) E T Q:=fun A e H hs=>WC.exit ⟨A,E,T,hs,Gr.refl,h⟩
theorem WCT.ret {Q:Out→TE→TH→Prop} (h:Q .ret E T):WCT M .ret E T Q:=fun A e H hs=>WC.ret ⟨A,E,T,hs,Gr.refl,h⟩

def thenT (k:TE→TH→Prop) (Q:Out→TE→TH→Prop):Out→TE→TH→Prop
 | .normal,E,T=>k E T
 | .exit id,E,T=>Q (.exit id) E T
 | .ret,E,T=>Q .ret E T

def blockT (id:Nat) (Q:Out→TE→TH→Prop):Out→TE→TH→Prop
 | .normal,E,T=>Q .normal E T
 | .exit id',E,T=>if id'=id then Q .normal E T else Q (.exit id') E T
 | .ret,E,T=>Q .ret E T

theorem WCT.seq {a b:MCode} {Q:Out→TE→TH→Prop} (h:WCT M a E T (thenT (fun E' T'=>WCT M b E' T' Q) Q)):WCT M (.seq a b) E T Q:=fun A e H hs=>by
 refine WC.seq (WC.mono (h A e H hs) ?_)
 rintro o e1 H1 ⟨A1,E1,T1,k1,k2,k3⟩
 cases o with
 | normal=>
  refine WC.mono (k3 A1 e1 H1 k1) ?_
  rintro o e2 H2 ⟨A2,E2,T2,m1,m2,m3⟩
  exact⟨A2,E2,T2,m1,k2.trans m2,m3⟩
 | exit id=>exact⟨A1,E1,T1,k1,k2,k3⟩
 | ret=>exact⟨A1,E1,T1,k1,k2,k3⟩

theorem WCT.loop {b:MCode} {Q:Out→TE→TH→Prop} (h:WCT M b E T (thenT (fun E' T'=>WCT M (.loop b) E' T' Q) Q)):WCT M (.loop b) E T Q:=fun A e H hs=>by
 refine WC.loop (WC.mono (h A e H hs) ?_)
 rintro o e1 H1 ⟨A1,E1,T1,k1,k2,k3⟩
 cases o with
 | normal=>
  refine WC.mono (k3 A1 e1 H1 k1) ?_
  rintro o e2 H2 ⟨A2,E2,T2,m1,m2,m3⟩
  exact⟨A2,E2,T2,m1,k2.trans m2,m3⟩
 | exit id=>exact⟨A1,E1,T1,k1,k2,k3⟩
 | ret=>exact⟨A1,E1,T1,k1,k2,k3⟩

theorem WCT.block {id:Nat} {b:MCode} {Q:Out→TE→TH→Prop} (h:WCT M b E T (blockT id Q)):WCT M (.block id b) E T Q:=fun A e H hs=>by
 refine WC.block (WC.mono (h A e H hs) ?_)
 rintro o e1 H1 ⟨A1,E1,T1,k1,k2,k3⟩
 cases o with
 | normal=>exact⟨A1,E1,T1,k1,k2,k3⟩
 | ret=>exact⟨A1,E1,T1,k1,k2,k3⟩
 | exit id'=>
  simp only[blockT] at k3
  simp only[Out.inBlock]
  split<;>rename_i hh
  ·rw[if_pos hh] at k3;exact⟨A1,E1,T1,k1,k2,k3⟩
  ·rw[if_neg hh] at k3;exact⟨A1,E1,T1,k1,k2,k3⟩

theorem WCT.cond {c:Opd} {a b:MCode} {t:Bool} {Q:Out→TE→TH→Prop} (hc:E.raw c=.a (.bool t)) (h:WCT M (if t then a else b) E T Q):WCT M (.cond c a b) E T Q:=fun A e H hs=>by
 have:=hs.opd c
 rw[hc] at this
 cases hx:e.raw c with
 | bool u=>
  rw[hx] at this
  cases this
  exact WC.cond hx (h A e H hs)
 | _=>rw[hx] at this;cases this

theorem WOT.mono {l:List MOper} {Q Q':TE→TH→Prop} (h:WOT M l E T Q) (hq:∀ E T,Q E T→Q' E T):WOT M l E T Q':=fun A e H hs=>
 WO.mono (h A e H hs) fun e' H' ⟨A',E',T',k1,k2,k3⟩=>⟨A',E',T',k1,k2,hq _ _ k3⟩
theorem WCT.mono {c:MCode} {Q Q':Out→TE→TH→Prop} (h:WCT M c E T Q) (hq:∀ o E T,Q o E T→Q' o E T):WCT M c E T Q':=fun A e H hs=>
 WC.mono (h A e H hs) fun o e' H' ⟨A',E',T',k1,k2,k3⟩=>⟨A',E',T',k1,k2,hq _ _ _ k3⟩

end
end Go.Ab

namespace Go.Ab

def TV.atom:TV→Option AV
 | .a v=>some v
 | _=>none

def mkAg (cs:List TV):TV:=
 match mapO TV.atom cs with
 | some vs=>.a (.agg vs)
 | none=>.ag cs

def sliceT {α:Type} (cs:List α) (o n:Nat):Option (List α):=if o+n≤cs.length then some ((cs.drop o).take n) else none

def TV.free:TV→Bool
 | .lp ..=>false
 | .a v=>v.free
 | _=>true

def liftCell (r:Nat) (p:Path) (g i j:Nat) (t:AV):Option TV:=
 match t with
 | .vs rows _=>some (.sl r (p++[(i,j)]) g 0 rows.length true)
 | .tup [v]=>some (.a v)
 | .tup _=>none
 | v=>if flatV v then some (.a v) else none

def liftCells (r:Nat) (p:Path) (g i:Nat):Nat→List AV→Option (List TV)
 | _,[]=>some []
 | j,t::ts=>match liftCell r p g i j t,liftCells r p g i (j+1) ts with
  | some v,some vs=>some (v::vs)
  | _,_=>none

def rdT (E:TE) (T:TH) (a:TV) (n:Nat):Option (List TV):=
 match a with
 | .a (.vp es i o)=>match es[i]? with
  | some cs=>(sliceT cs o n).map fun l=>l.map .a
  | none=>none
 | .lp st o=>match E.L.get st with
  | some cs=>sliceT cs o n
  | none=>none
 | .pt r p g i j=>if (T.get r).valid p g then match T.get r with
   | .raw cells=>if p=[]∧i=0 then sliceT cells j n else none
   | .tree rows _ log=>match nodeA rows p with
    | some rp=>match rp[i]? with
     | some row=>match sliceT row j n with
      | some cs=>liftCells r p log.length i j cs
      | none=>none
     | none=>none
    | none=>none
   | _=>none
  else none
 | _=>none

def offT (off:Nat) (a:TV):Option TV:=
 match a with
 | .a (.vp es i o)=>some (.a (.vp es i (o+off)))
 | .lp st o=>some (.lp st (o+off))
 | .pt r p g i j=>some (.pt r p g i (j+off))
 | _=>none

def rowLen (o:TO) (p:Path) (i:Nat):Option Nat:=
 match o.node p with
 | some rows=>(rows[i]?).map (·.length)
 | none=>none

def idxOK (o:TO) (p:Path) (g sz:Nat):Bool:=o.valid p g && (rowLen o p 0==some sz)

theorem idxOK_iff {o:TO} {p:Path} {g sz:Nat} (h:idxOK o p g sz=true):o.valid p g=true∧rowLen o p 0=some sz:=by
 unfold idxOK at h
 simpa using h

def natT:TV→Option Nat
 | .a (.int _ n)=>if 0≤n then some n.toNat else none
 | _=>none

def boundT (E:TE) (o:Option Opd) (dflt:Nat):Option Nat:=
 match o with
 | none=>some dflt
 | some x=>natT (E.raw x)

def valT (E:TE) (x:Opd):Option TV:=if (E.raw x).free then some (E.raw x) else none

def mkFn (f:Fn) (as cs:List TV):TV:=
 match mapO TV.atom as,mapO TV.atom cs with
 | some a,some c=>.a (.fn f a c)
 | _,_=>.fn f as cs

def opR (E:TE) (T:TH):MOp→Option TV
 | .mv x=>some (E.raw x)
 | .pick c a b=>match E.raw c with
  | .a (.bool t)=>some (if t=true then E.raw a else E.raw b)
  | _=>none
 | .ld1 a=>match rdT E T (E.raw a) 1 with
  | some [v]=>some v
  | _=>none
 | .ldn n a=>(rdT E T (E.raw a) n).map mkAg
 | .fld off a=>offT off (E.raw a)
 | .idx sz x i=>match E.raw x,E.raw i with
  | .a (.vs es _),.a (.int _ k)=>if 0≤k∧k<es.length∧es.all (·.length==sz) then some (.a (.vp es k.toNat 0)) else none
  | .sl r p g i0 n _,.a (.int _ k)=>if 0≤k∧k<n then (match idxOK (T.get r) p g sz with
   | true=>some (.pt r p g (i0+k.toNat) 0)
   | false=>none) else none
  | _,_=>none
 | .idxa sz len x i=>match E.raw i with
  | .a (.int _ k)=>if 0≤k∧k<len then offT (k.toNat*sz) (E.raw x) else none
  | _=>none
 | .prj off n isagg x=>match E.raw x with
  | .a (.agg cs)=>
   if off+n≤cs.length then
    if isagg then some (.a (.agg ((cs.drop off).take n))) else (cs[off]?).map .a
   else none
  | .ag cs=>
   if off+n≤cs.length then
    if isagg then some (mkAg ((cs.drop off).take n)) else cs[off]?
   else none
  | _=>none
 | .ixa sz len isagg x i=>match E.raw x,E.raw i with
  | .a (.agg cs),.a (.int _ i)=>
   if 0≤i∧i<len∧len*sz≤cs.length then
    if isagg then some (.a (.agg ((cs.drop (i.toNat*sz)).take sz))) else (cs[i.toNat*sz]?).map .a
   else none
  | .ag cs,.a (.int _ i)=>
   if 0≤i∧i<len∧len*sz≤cs.length then
    if isagg then some (mkAg ((cs.drop (i.toNat*sz)).take sz)) else cs[i.toNat*sz]?
   else none
  | _,_=>none
 | .bin op x y=>match E.raw x,E.raw y with
  | .a u,.a v=>(abin op u v).map .a
  | _,_=>none
 | .eqb neg x y=>match E.raw x,E.raw y with
  | .a (.bool a),.a (.bool b)=>some (.a (.bool (neg ^^ (a==b))))
  | _,_=>none
 | .eqg neg ks x y=>match E.raw x,E.raw y with
  | .a (.agg xs),.a (.agg ys)=>(aeqs ks xs ys).map fun r=>.a (.bool (neg ^^ r))
  | _,_=>none
 | .isn neg x=>match E.raw x with
  | .a .nils=>some (.a (.bool (neg ^^ true)))
  | .a (.vs (_::_) _)=>some (.a (.bool (neg ^^ false)))
  | .sl _ _ _ _ n _=>if n=0 then none else some (.a (.bool (neg ^^ false)))
  | _=>none
 | .un op x=>match E.raw x with
  | .a v=>(aun op v).map .a
  | _=>none
 | .conv k x=>match E.raw x with
  | .a (.int _ n)=>some (.a (.int k (k.wrap n)))
  | _=>none
 | .mkfn f first cap=>match mapO (valT E) first,mapO (valT E) cap with
  | some a,some b=>some (mkFn f a b)
  | _,_=>none
 | .ext i x=>match E.raw x with
  | .tu vs=>vs[i]?
  | .a (.tup vs)=>(vs[i]?).map .a
  | _=>none
 | .slen x=>match E.raw x with
  | .a (.str s)=>some (.a (.int .i64 s.length))
  | _=>none
 | .len x=>match E.raw x with
  | .a .nils=>some (.a (.int .i64 0))
  | .a (.vs es _)=>some (.a (.int .i64 es.length))
  | .es=>some (.a (.int .i64 0))
  | .sl _ _ _ _ n _=>some (.a (.int .i64 n))
  | _=>none
 | .lenc n=>some (.a (.int .i64 n))
 | .min2 x y=>match E.raw x,E.raw y with
  | .a (.int k a),.a (.int _ b)=>some (.a (.int k (if b<a then b else a)))
  | _,_=>none
 | .capz x=>match E.raw x with
  | .a .nils=>some (.a (.int .i64 0))
  | _=>none
 | .sla n x=>match E.raw x with
  | .a (.vp es i o)=>match es[i]? with
   | some row=>if o+n≤row.length then some (.a (.vs (((row.drop o).take n).map fun c=>[c]) false)) else none
   | none=>none
  | .pt r p g i j=>if p=[]∧i=0∧(T.get r).valid p g=true then match T.get r with
    | .raw cells=>if j+n≤cells.length then some (.rs r j n true) else none
    | _=>none
   else none
  | _=>none
 | .slc sz x lo hi mx=>match E.raw x with
  | .a (.vs es z)=>match boundT E mx 0,boundT E hi es.length,boundT E lo 0 with
   | some m,some h,some l=>
    if mx.isSome then (if l=0∧h=0∧m=0 then some (.a (.vs [] true)) else none)
    else if l≤h∧h≤es.length∧(l=0∨es.all (·.length==sz)=true) then some (.a (.vs ((es.drop l).take (h - l)) z)) else none
   | _,_,_=>none
  | .a .nils=>match boundT E mx 0,boundT E hi 0,boundT E lo 0 with
   | some 0,some 0,some 0=>some (.a .nils)
   | _,_,_=>none
  | .sl r p g i n _=>if mx.isSome then none else match boundT E hi n,boundT E lo 0 with
   | some h,some l=>if l≤h∧h≤n∧n≠0 then (match idxOK (T.get r) p g sz with
    | true=>some (.sl r p g (i+l) (h - l) false)
    | false=>none) else none
   | _,_=>none
  | _=>none
 | .chk x=>match E.raw x with
  | .a (.vp es i o)=>some (.a (.vp es i o))
  | .a (.fn (.func f) a b)=>some (.a (.fn (.func f) a b))
  | .lp st o=>some (.lp st o)
  | .pt r p g i j=>some (.pt r p g i j)
  | .fn (.func f) a b=>some (.fn (.func f) a b)
  | _=>none
 | _=>none

section
variable {A:Anc} {T:TH} {H:AH} {E:TE} {e:Env}

theorem VR.inv_a {v h:AV} (k:VR A T H (.a v) h):h=v:=by cases k;rfl

theorem VR.free {v:TV} {h:AV} (k:VR A T H v h) (hf:v.free=true):h.free=true:=by
 cases k with
 | a v=>exact hf
 | es h he=>unfold empV at he;split at he<;>first|rfl|cases he
 | lp=>simp[TV.free] at hf
 | pt r p g i j h hr hg hp=>obtain⟨b,o,rfl⟩:=hp;rfl
 | sl r p g i n w h hr hg hn=>unfold slenV at hn;split at hn<;>first|rfl|cases hn
 | ag=>rfl
 | tu=>rfl
 | fn=>rfl
 | mp r h hr hp=>obtain⟨b,rfl⟩:=hp;rfl
 | rs r j n w h hr hn=>unfold slenV at hn;split at hn<;>first|rfl|cases hn

theorem VRL.nil:VRL A T H [] []:=⟨rfl,fun k c h e=>by simp at e⟩
theorem VRL.cons {v:TV} {h:AV} {vs:List TV} {hs:List AV} (k:VR A T H v h) (ks:VRL A T H vs hs):VRL A T H (v::vs) (h::hs):=by
 refine⟨by simp[ks.1],fun n c x h1 h2=>?_⟩
 cases n with
 | zero=>simp only[List.getElem?_cons_zero,Option.some.injEq] at h1 h2;subst h1;subst h2;exact k
 | succ n=>exact ks.2 n c x (by simpa using h1) (by simpa using h2)
theorem VRL.inv_cons {v:TV} {vs:List TV} {hs:List AV} (k:VRL A T H (v::vs) hs):∃ h hs',hs=h::hs'∧VR A T H v h∧VRL A T H vs hs':=by
 cases hs with
 | nil=>have:=k.1;simp at this
 | cons h hs=>exact⟨h,hs,rfl,k.2 0 v h rfl rfl,by simpa using k.1,fun n c x h1 h2=>k.2 (n+1) c x (by simpa using h1) (by simpa using h2)⟩
theorem VRL.inv_nil {hs:List AV} (k:VRL A T H [] hs):hs=[]:=by have:=k.1;cases hs<;>simp_all
theorem VRL.get {vs:List TV} {hs:List AV} (k:VRL A T H vs hs) {n:Nat} {v:TV} (h:vs[n]? = some v):∃ x,hs[n]? = some x∧VR A T H v x:=by
 have hlt:=(List.getElem?_eq_some_iff.1 h).1
 have hl:=k.1
 exact⟨hs[n],List.getElem?_eq_getElem (by omega),k.2 n v _ h (List.getElem?_eq_getElem (by omega))⟩
theorem VRL.slice {vs:List TV} {hs:List AV} (k:VRL A T H vs hs) (o n:Nat):VRL A T H ((vs.drop o).take n) ((hs.drop o).take n):=by
 refine⟨by simp[k.1],fun m c x h1 h2=>?_⟩
 rw[List.getElem?_take] at h1 h2
 split at h1
 ·rename_i hm
  rw[if_pos hm] at h2
  rw[List.getElem?_drop] at h1 h2
  exact k.2 _ c x h1 h2
 ·cases h1
theorem VRL.append {vs ws:List TV} {hs xs:List AV} (k:VRL A T H vs hs) (l:VRL A T H ws xs):VRL A T H (vs++ws) (hs++xs):=by
 induction vs generalizing hs with
 | nil=>rw[k.inv_nil];simpa using l
 | cons v vs ih=>obtain⟨h,hs',rfl,k1,k2⟩:=k.inv_cons;exact VRL.cons k1 (ih k2)
theorem VRL.atoms:∀ (vs:List AV),VRL A T H (vs.map .a) vs
 | []=>VRL.nil
 | v::vs=>VRL.cons (.a v) (VRL.atoms vs)

theorem VRL.of_atoms:∀ {cs:List TV} {vs hs:List AV},mapO TV.atom cs=some vs→VRL A T H cs hs→hs=vs
 | [],vs,hs,h,k=>by simp only[mapO] at h;cases h;exact k.inv_nil
 | c::cs,vs,hs,h,k=>by
  obtain⟨x,xs,rfl,k1,k2⟩:=k.inv_cons
  simp only[mapO] at h
  split at h
  ·rename_i y ys h1 h2
   cases h
   rw[VRL.of_atoms h2 k2]
   cases c<;>simp[TV.atom] at h1
   subst h1
   rw[k1.inv_a]
  ·cases h

theorem VRL.mkAg {cs:List TV} {hs:List AV} (k:VRL A T H cs hs):VR A T H (mkAg cs) (.agg hs):=by
 unfold Ab.mkAg
 split
 ·rename_i vs h;rw[VRL.of_atoms h k];exact .a _
 ·exact .ag cs hs k.1 k.2

theorem sliceT_some {α:Type} {cs l:List α} {o n:Nat} (h:sliceT cs o n=some l):o+n≤cs.length∧l=(cs.drop o).take n:=by
 unfold sliceT at h;split at h
 ·cases h;exact⟨by assumption,rfl⟩
 ·cases h

theorem slice_of {cs:List AV} {o n:Nat} (h:o+n≤cs.length):slice cs o n=some ((cs.drop o).take n):=by unfold slice;rw[if_pos h]

theorem HR.node (hm:HR A T H) {r:Nat} {rows rp:List (List AV)} {z:Bool} {log:List Path} {p:Path} {i j:Nat} {row:List AV} {t:AV} (hT:T.get r=.tree rows z log) (hn:nodeA rows p=some rp) (hi:rp[i]? = some row) (hj:row[j]? = some t) :
  ∃ b o sz cap ex cs c Sc,followH H (A.hd r) p=some (.sl b o sz rp.length cap ex)∧H.get b=.cells cs∧(∀ row∈rp,row.length=sz)∧o+rp.length*sz≤cs.length∧cs[o+i*sz+j]? = some c∧Own H [c] [t] Sc:=by
 obtain⟨h1,h2⟩:=hm.tree r rows z log hT
 obtain⟨b,o,sz,cap,ex,cs,c,Sc,q1,q2,q3,q4,q5,q6,_⟩:=zoom p h1 h2 hn hi hj
 exact⟨b,o,sz,cap,ex,cs,c,Sc,q1,q2,q3,q4,q5,q6⟩

theorem nodeA_append:∀ (p q:Path) (rows:List (List AV)),nodeA rows (p++q)=(nodeA rows p).bind fun r=>nodeA r q
 | [],q,rows=>rfl
 | (i,j)::p,q,rows=>by
  simp only[List.cons_append,nodeA]
  split
  ·exact nodeA_append p q _
  ·rfl

theorem followH_append (H:AH):∀ (p q:Path) (h:AV),followH H h (p++q)=(followH H h p).bind fun x=>followH H x q
 | [],q,h=>by cases h<;>rfl
 | (i,j)::p,q,h=>by
  cases h
  all_goals try rfl
  rename_i b o sz n cap ex
  simp only[List.cons_append,followH]
  split
  ·split
   ·exact followH_append H p q _
   ·rfl
  ·rfl

theorem followH_nil (H:AH) (h:AV):followH H h []=some h:=by cases h<;>rfl

theorem lift_cell (hm:HR A T H) {r:Nat} {rows rp:List (List AV)} {z:Bool} {log:List Path} {p:Path} {i j:Nat} {row:List AV} {t:AV} {v:TV} (hT:T.get r=.tree rows z log) (hn:nodeA rows p=some rp) (hi:rp[i]? = some row) (hj:row[j]? = some t)
  (hl:liftCell r p log.length i j t=some v) {b o sz n cap:Nat} {ex:Bool} (hf:followH H (A.hd r) p=some (.sl b o sz n cap ex)):∃ cs c,H.get b=.cells cs∧cs[o+i*sz+j]? = some c∧VR A T H v c:=by
 obtain⟨b',o',sz',cap',ex',cs,c,Sc,q1,q2,q3,q4,q5,q6⟩:=hm.node hT hn hi hj
 rw[hf] at q1
 cases q1
 refine⟨cs,c,q2,q5, ?_⟩
 have hcell:cellOf rp i j=some t:=by unfold cellOf;rw[hi];exact hj
 unfold liftCell at hl
 split at hl
 ·rename_i rows' z'
  cases hl
  have hlt:r<T.next:=by
   rcases Nat.lt_or_ge r T.next with h|h
   ·exact h
   ·rw[hm.top r h] at hT;cases hT
  have hfol:followH H (A.hd r) (p++[(i,j)])=some c:=by
   rw[followH_append,hf]
   simp only[Option.bind_some,followH,q2,q5]
  have hnd:(T.get r).node (p++[(i,j)])≠none:=by
   unfold TO.node;rw[hT];simp only[TO.rows]
   rw[nodeA_append,hn];simp[nodeA,hcell]
  have hg:T.get r≠.dead→log.length≤(T.get r).glen:=fun _=>by rw[hT];exact Nat.le_refl _
  cases q6 with
  | flat hf=>simp[flatV] at hf
  | emp h0 h1 hx=>exact .sl _ _ _ _ _ _ _ hlt hg h0 fun _=>⟨hnd,c,hfol,fun _=>⟨rfl,rfl⟩,.inl rfl⟩
  | sl hne hr hz h1 hx=>exact .sl _ _ _ _ _ _ _ hlt hg rfl fun _=>⟨hnd,_,hfol,fun _=>⟨rfl,rfl⟩,.inr ⟨_,_,_,_,_,_,_,_,rfl,by rw[Nat.zero_mul,Nat.add_zero],Nat.le_refl _,Nat.zero_add _⟩⟩
 ·cases hl
  cases q6 with
  | flat hf=>simp[flatV] at hf
  | mark hf hx=>exact .a _
 ·cases hl
 ·split at hl
  ·rename_i hfl
   cases hl
   cases q6 with
   | flat hf=>exact .a _
   | emp=>simp[flatV] at hfl
   | mark=>simp[flatV] at hfl
   | hole=>simp[flatV] at hfl
   | sl=>simp[flatV] at hfl
   | cut=>simp[flatV] at hfl
  ·cases hl

theorem lift_cells (hm:HR A T H) {r:Nat} {rows rp:List (List AV)} {z:Bool} {log:List Path} {p:Path} {i:Nat} {row:List AV} (hT:T.get r=.tree rows z log) (hn:nodeA rows p=some rp) (hi:rp[i]? = some row)
  {b o sz n cap:Nat} {ex:Bool} (hf:followH H (A.hd r) p=some (.sl b o sz n cap ex)) {cs:List AV} (hb:H.get b=.cells cs):∀ (ts:List AV) (j:Nat) (vs:List TV),(∀ (k:Nat) t,ts[k]? = some t→row[j+k]? = some t)→liftCells r p log.length i j ts=some vs→VRL A T H vs ((cs.drop (o+i*sz+j)).take ts.length)
 | [],j,vs,h,hl=>by simp only[liftCells] at hl;cases hl;simpa using VRL.nil
 | t::ts,j,vs,h,hl=>by
  simp only[liftCells] at hl
  split at hl
  ·rename_i v vs' h1 h2
   cases hl
   obtain⟨cs',c,k1,k2,k3⟩:=lift_cell hm hT hn hi (h 0 t rfl) h1 hf
   rw[hb] at k1
   cases k1
   have ih:=lift_cells hm hT hn hi hf hb ts (j+1) vs' (fun k t hk=>by have:=h (k+1) t (by simpa using hk);rw[← this];congr 1;omega) h2
   have hlt:=(List.getElem?_eq_some_iff.1 k2).1
   have e1:cs.drop (o+i*sz+j)=c::cs.drop (o+i*sz+(j+1)):=by
    rw[List.drop_eq_getElem_cons (by simpa using hlt)]
    rw[show o+i*sz+(j+1)=o+i*sz+j+1 by omega]
    congr 1
    have:=(List.getElem?_eq_some_iff.1 k2).2
    simpa using this
   rw[e1,List.length_cons,List.take_succ_cons]
   exact VRL.cons k3 ih
  ·cases hl

theorem rdT_sound (h:SRT A E T e H) {a:TV} {x:AV} {n:Nat} {vs:List TV} (ha:VR A T H a x) (hr:rdT E T a n=some vs) (hn:0<n):∃ hs,readAt e H x n=some hs∧VRL A T H vs hs:=by
 unfold rdT at hr
 split at hr
 ·rename_i es i o
  cases ha
  split at hr
  ·rename_i cs hc
   obtain⟨l,h1,rfl⟩:=map_some hr
   obtain⟨k1,rfl⟩:=sliceT_some h1
   exact⟨_,by simp only[readAt,hc];exact slice_of k1,VRL.atoms _⟩
  ·cases hr
 ·rename_i st o
  cases ha
  split at hr
  ·rename_i cs hc
   obtain⟨k1,rfl⟩:=sliceT_some hr
   obtain⟨hs,m1,m2⟩:=h.loc st cs hc
   exact⟨_,by simp only[readAt,m1];exact slice_of (by rw[← m2.1];exact k1),m2.slice o n⟩
  ·cases hr
 ·rename_i r p g i j
  split at hr
  ·rename_i hval
   cases ha with
   | pt _ _ _ _ _ _ hlt hg hp hx=>
    obtain⟨hnd,b,o,sz,n0,cap,ex,hf,rfl⟩:=hx hval
    split at hr
    ·rename_i cells hT
     split at hr
     ·rename_i hpi
      obtain⟨rfl,rfl⟩:=hpi
      obtain⟨k1,rfl⟩:=sliceT_some hr
      obtain⟨b',hs,m1,m2,m3,m4⟩:=h.mem.raw r cells hT
      rw[m1,followH_nil] at hf
      cases hf
      refine⟨(hs.drop j).take n, ?_,m4.slice j n⟩
      simp only[readAt,AH.read,m3]
      rw[show 0+0*cells.length+j=j by simp]
      exact slice_of (by rw[← m4.1];exact k1)
     ·cases hr
    ·rename_i rows z log hT
     split at hr
     ·rename_i rp hrp
      split at hr
      ·rename_i row hrow
       split at hr
       ·rename_i cs hcs
        obtain⟨k1,rfl⟩:=sliceT_some hcs
        have hjr:j<row.length:=by omega
        obtain⟨b',o',sz',cap',ex',ws,c,Sc,q1,q2,q3,q4,q5,q6⟩:=h.mem.node hT hrp hrow (List.getElem?_eq_getElem hjr)
        rw[hf] at q1
        cases q1
        have hsz:=q3 row (List.mem_of_getElem? hrow)
        have hil:=(List.getElem?_eq_some_iff.1 hrow).1
        have key:=lift_cells h.mem hT hrp hrow hf q2 _ j vs (fun k t hk=>by
         rw[List.getElem?_take] at hk
         split at hk
         ·rwa [List.getElem?_drop] at hk
         ·cases hk) hr
        rw[List.length_take,List.length_drop,Nat.min_eq_left (by omega)] at key
        refine⟨_, ?_,key⟩
        simp only[readAt,AH.read,q2]
        refine slice_of ?_
        have:(i+1)*sz≤rp.length*sz:=Nat.mul_le_mul_right _ hil
        rw[Nat.succ_mul] at this
        omega
       ·cases hr
      ·cases hr
     ·cases hr
    ·cases hr
  ·cases hr
 ·cases hr

end
end Go.Ab

namespace Go.Ab

section
variable {A:Anc} {T:TH} {H:AH} {E:TE} {e:Env}

theorem offT_sound {off:Nat} {a v:TV} {x:AV} (h:VR A T H a x) (hr:offT off a=some v):∃ y,addOff off x=some y∧VR A T H v y:=by
 unfold offT at hr
 split at hr
 ·cases hr;cases h;exact⟨_,rfl,.a _⟩
 ·cases hr;cases h;exact⟨_,rfl,.lp _ _⟩
 ·cases hr
  cases h with
  | pt r p g i j h hlt hg hp hx=>
   obtain⟨b,o,rfl⟩:=hp
   refine⟨_,rfl,.pt _ _ _ _ _ _ hlt hg ⟨_,_,rfl⟩ fun hval=>?_⟩
   obtain⟨k1,b',o',sz,n,cap,ex,k2,k3⟩:=hx hval
   cases k3
   exact⟨k1,b,o',sz,n,cap,ex,k2,by rw[Nat.add_assoc]⟩
 ·cases hr

theorem natT_sound {v:TV} {x:AV} {n:Nat} (h:VR A T H v x) (hn:natT v=some n):natOf x=some n:=by
 unfold natT at hn
 split at hn
 ·cases h;exact hn
 ·cases hn

theorem boundT_sound (h:SRT A E T e H) {x:Option Opd} {d n:Nat} (hn:boundT E x d=some n):boundOf e x d=some n:=by
 cases x with
 | none=>exact hn
 | some x=>exact natT_sound (h.opd x) hn

theorem valT_sound (h:SRT A E T e H) {x:Opd} {v:TV} (hv:valT E x=some v):∃ y,e.val x=some y∧VR A T H v y:=by
 unfold valT at hv
 split at hv
 ·rename_i hf
  cases hv
  have:=h.opd x
  exact⟨e.raw x,by unfold Env.val;rw[if_pos (this.free hf)],this⟩
 ·cases hv

theorem valsT_sound (h:SRT A E T e H):∀ {xs:List Opd} {vs:List TV},mapO (valT E) xs=some vs→∃ ys,xs.mapM e.val=some ys∧VRL A T H vs ys
 | [],vs,hv=>by simp only[mapO] at hv;cases hv;exact⟨[],rfl,VRL.nil⟩
 | x::xs,vs,hv=>by
  simp only[mapO] at hv
  split at hv
  ·rename_i v vs' h1 h2
   cases hv
   obtain⟨y,k1,k2⟩:=valT_sound h h1
   obtain⟨ys,k3,k4⟩:=valsT_sound h h2
   refine⟨y::ys, ?_,VRL.cons k2 k4⟩
   rw[mapM_val] at k3 ⊢
   simp only[mapO,k1,k3]
  ·cases hv

theorem VR.mkFn {f:Fn} {as cs:List TV} {as' cs':List AV} (h1:VRL A T H as as') (h2:VRL A T H cs cs'):VR A T H (mkFn f as cs) (.fn f as' cs'):=by
 unfold Ab.mkFn
 split
 ·rename_i a c k1 k2
  rw[VRL.of_atoms k1 h1,VRL.of_atoms k2 h2];exact .a _
 ·exact .fn f as cs as' cs' h1.1 h2.1 h1.2 h2.2

theorem rowLen_some {o:TO} {p:Path} {i sz:Nat} (h:rowLen o p i=some sz):∃ rows row,o.node p=some rows∧rows[i]? = some row∧row.length=sz:=by
 unfold rowLen at h
 split at h
 ·rename_i rows hr
  obtain⟨row,h1,h2⟩:=map_some h
  exact⟨rows,row,hr,h1,h2⟩
 ·cases h

theorem HR.size (hm:HR A T H) {r:Nat} {p:Path} {sz sz' b o n cap:Nat} {ex:Bool} (hr:rowLen (T.get r) p 0=some sz) (hf:followH H (A.hd r) p=some (.sl b o sz' n cap ex)) (hpos:0<sz):sz'=sz:=by
 obtain⟨rp,row,h1,h2,h3⟩:=rowLen_some hr
 unfold TO.node at h1
 cases hT:T.get r with
 | dead=>rw[hT] at h1;simp[TO.rows] at h1
 | mapo es=>
  obtain⟨b',hs,m1,_⟩:=hm.mapo r es hT
  rw[m1] at hf
  cases p with
  | nil=>rw[followH_nil] at hf;cases hf
  | cons q p=>simp[followH] at hf
 | raw cells=>
  rw[hT] at h1
  simp only[TO.rows] at h1
  cases p with
  | nil=>
   simp only[nodeA,Option.some.injEq] at h1
   subst h1
   simp only[List.getElem?_cons_zero,Option.some.injEq] at h2
   subst h2
   obtain⟨b',hs,m1,_⟩:=hm.raw r cells hT
   rw[m1,followH_nil] at hf
   cases hf
   simpa using h3
  | cons q p=>
   obtain⟨i,j⟩:=q
   simp only[nodeA,cellOf] at h1
   exfalso
   split at h1
   ·rename_i rows' z' hc
    split at hc
    ·rename_i row' hr'
     have hmem:=List.mem_of_getElem? hr'
     simp only[List.mem_singleton] at hmem
     subst hmem
     rw[List.getElem?_map] at hc
     cases hcc:cells[j]? with
     | none=>rw[hcc] at hc;simp at hc
     | some x=>rw[hcc] at hc;simp at hc
    ·cases hc
   ·cases h1
 | tree rows z log=>
  rw[hT] at h1
  simp only[TO.rows] at h1
  obtain⟨b',o',sz2,cap',ex',ws,c,Sc,q1,q2,q3,_⟩:=hm.node hT h1 h2 (List.getElem?_eq_getElem (i:=0) (by omega))
  rw[hf] at q1
  cases q1
  rw[← h3];exact (q3 row (List.mem_of_getElem? h2)).symm

theorem opR_sound (h:SRT A E T e H) {mo:MOp} {v:TV} (ho:opR E T mo=some v) (hn:∀ n a,mo=.ldn n a→0<n) (hs:∀ sz x i,mo=.idx sz x i→0<sz) (hs2:∀ sz x lo hi mx,mo=.slc sz x lo hi mx→0<sz):∃ x,aop e H mo=some (x,e,H)∧VR A T H v x:=by
 cases mo with
 | mv x=>simp only[opR] at ho;cases ho;exact⟨_,rfl,h.opd x⟩
 | pick c a b=>
  simp only[opR] at ho
  have hc:=h.opd c
  split at ho
  ·rename_i t e1
   rw[e1] at hc
   cases ho
   cases t with
   | true=>exact⟨e.raw a,by simp only[aop,hc.inv_a],h.opd a⟩
   | false=>exact⟨e.raw b,by simp only[aop,hc.inv_a],h.opd b⟩
  ·cases ho
 | ld1 a=>
  simp only[opR] at ho
  split at ho
  ·rename_i u hr
   cases ho
   obtain⟨hs,k1,k2⟩:=rdT_sound h (h.opd a) hr (by omega)
   obtain⟨x,xs,rfl,k3,k4⟩:=k2.inv_cons
   have:=k4.inv_nil
   subst this
   exact⟨x,by simp only[aop,k1],k3⟩
  ·cases ho
 | ldn n a=>
  simp only[opR] at ho
  obtain⟨vs,hr,rfl⟩:=map_some ho
  obtain⟨hs,k1,k2⟩:=rdT_sound h (h.opd a) hr (hn n a rfl)
  exact⟨.agg hs,by simp only[aop,k1,Option.map_some],k2.mkAg⟩
 | fld off a=>
  simp only[opR] at ho
  obtain⟨y,k1,k2⟩:=offT_sound (h.opd a) ho
  exact⟨y,by simp only[aop,k1,Option.map_some],k2⟩
 | idx sz x i=>
  simp only[opR] at ho
  have hx:=h.opd x
  have hi:=h.opd i
  split at ho
  ·rename_i es z kk k e1 e2
   rw[e1] at hx;rw[e2] at hi
   split at ho
   ·rename_i hc
    cases ho
    exact⟨_,by simp only[aop,hx.inv_a,hi.inv_a];rw[if_pos hc],.a _⟩
   ·cases ho
  ·rename_i r p g i0 n w kk k e1 e2
   rw[e1] at hx;rw[e2] at hi
   split at ho
   ·rename_i hc
    split at ho
    case h_2=>cases ho
    rename_i hok
    have hok:=idxOK_iff hok
    cases ho
    cases hx with
    | sl _ _ _ _ _ _ x' hlt hg hln hx=>
     obtain⟨k1,hd,k2,_,k3⟩:=hx hok.1
     rcases k3 with rfl|⟨b,o,sz',n0,cap0,ex0,cap,ex,rfl,k4,k4c⟩
     ·omega
     ·have hsz:=h.mem.size hok.2 k2 (hs sz x i rfl)
      subst hsz
      refine⟨.ptr b (o+(i0+k.toNat)*sz'+0), ?_,.pt _ _ _ _ _ _ hlt hg ⟨_,_,rfl⟩ fun _=>⟨k1,b,o,sz',n0,cap0,ex0,k2,rfl⟩⟩
      simp only[aop,k4,hi.inv_a]
      rw[if_pos ⟨trivial,hc.1,hc.2⟩]
      simp only[Option.some.injEq,Prod.mk.injEq,AV.ptr.injEq,true_and,and_true]
      rw[Nat.add_mul];omega
   ·cases ho
  ·cases ho
 | idxa sz len x i=>
  simp only[opR] at ho
  have hi:=h.opd i
  split at ho
  ·rename_i kk k e1
   rw[e1] at hi
   split at ho
   ·rename_i hc
    obtain⟨y,k1,k2⟩:=offT_sound (h.opd x) ho
    exact⟨y,by simp only[aop,hi.inv_a];rw[if_pos hc,k1];rfl,k2⟩
   ·cases ho
  ·cases ho
 | prj off n isagg x=>
  simp only[opR] at ho
  have hx:=h.opd x
  split at ho
  ·rename_i cs e1
   rw[e1] at hx
   have hx:=hx.inv_a
   split at ho
   ·rename_i hc
    split at ho
    ·rename_i hag;cases ho;exact⟨_,by simp only[aop,hx];rw[if_pos hc,if_pos hag],.a _⟩
    ·rename_i hag
     obtain⟨u,h1,rfl⟩:=map_some ho
     exact⟨u,by simp only[aop,hx];rw[if_pos hc,if_neg hag,h1];rfl,.a _⟩
   ·cases ho
  ·rename_i cs e1
   rw[e1] at hx
   cases hr:e.raw x with
   | agg hs'=>
    rw[hr] at hx
    cases hx with
    | ag _ _ hl hv=>
     have hvl:VRL A T H cs hs':=⟨hl,hv⟩
     split at ho
     ·rename_i hc
      rw[hl] at hc
      split at ho
      ·rename_i hag;cases ho;exact⟨_,by simp only[aop,hr];rw[if_pos hc,if_pos hag],(hvl.slice off n).mkAg⟩
      ·rename_i hag
       obtain⟨u,h1,h2⟩:=hvl.get ho
       exact⟨u,by simp only[aop,hr];rw[if_pos hc,if_neg hag,h1];rfl,h2⟩
     ·cases ho
   | _=>rw[hr] at hx;cases hx
  ·cases ho
 | ixa sz len isagg x i=>
  simp only[opR] at ho
  have hx:=h.opd x
  have hi:=h.opd i
  split at ho
  ·rename_i cs kk k e1 e2
   rw[e1] at hx;rw[e2] at hi
   have hx:=hx.inv_a
   split at ho
   ·rename_i hc
    split at ho
    ·rename_i hag;cases ho;exact⟨_,by simp only[aop,hx,hi.inv_a];rw[if_pos hc,if_pos hag],.a _⟩
    ·rename_i hag
     obtain⟨u,h1,rfl⟩:=map_some ho
     exact⟨u,by simp only[aop,hx,hi.inv_a];rw[if_pos hc,if_neg hag,h1];rfl,.a _⟩
   ·cases ho
  ·rename_i cs kk k e1 e2
   rw[e1] at hx;rw[e2] at hi
   cases hr:e.raw x with
   | agg hs'=>
    rw[hr] at hx
    cases hx with
    | ag _ _ hl hv=>
     have hvl:VRL A T H cs hs':=⟨hl,hv⟩
     split at ho
     ·rename_i hc
      rw[hl] at hc
      split at ho
      ·rename_i hag;cases ho;exact⟨_,by simp only[aop,hr,hi.inv_a];rw[if_pos hc,if_pos hag],(hvl.slice _ sz).mkAg⟩
      ·rename_i hag
       obtain⟨u,h1,h2⟩:=hvl.get ho
       exact⟨u,by simp only[aop,hr,hi.inv_a];rw[if_pos hc,if_neg hag,h1];rfl,h2⟩
     ·cases ho
   | _=>rw[hr] at hx;cases hx
  ·cases ho
 | bin op x y=>
  simp only[opR] at ho
  have hx:=h.opd x
  have hy:=h.opd y
  split at ho
  ·rename_i u w e1 e2
   rw[e1] at hx;rw[e2] at hy
   obtain⟨r,h1,rfl⟩:=map_some ho
   exact⟨r,by simp only[aop,hx.inv_a,hy.inv_a,h1,Option.map_some],.a _⟩
  ·cases ho
 | eqb neg x y=>
  simp only[opR] at ho
  have hx:=h.opd x
  have hy:=h.opd y
  split at ho
  ·rename_i u w e1 e2
   rw[e1] at hx;rw[e2] at hy
   cases ho
   exact⟨_,by simp only[aop,hx.inv_a,hy.inv_a],.a _⟩
  ·cases ho
 | eqg neg ks x y=>
  simp only[opR] at ho
  have hx:=h.opd x
  have hy:=h.opd y
  split at ho
  ·rename_i u w e1 e2
   rw[e1] at hx;rw[e2] at hy
   obtain⟨r,h1,rfl⟩:=map_some ho
   exact⟨_,by simp only[aop,hx.inv_a,hy.inv_a,h1,Option.map_some],.a _⟩
  ·cases ho
 | isn neg x=>
  simp only[opR] at ho
  have hx:=h.opd x
  split at ho
  ·rename_i e1;rw[e1] at hx;cases ho;exact⟨_,by simp only[aop,hx.inv_a],.a _⟩
  ·rename_i e1;rw[e1] at hx;cases ho;exact⟨_,by simp only[aop,hx.inv_a],.a _⟩
  ·rename_i r p g i n w e1
   rw[e1] at hx
   split at ho
   ·cases ho
   ·rename_i hn0
    cases ho
    cases hx with
    | sl _ _ _ _ _ _ x' hlt hg hln hx=>
     refine⟨.bool (neg ^^ false), ?_,.a _⟩
     simp only[aop]
     generalize e.raw x=y at hln ⊢
     unfold slenV at hln
     split at hln
     ·cases hln;exact absurd rfl hn0
     ·rename_i es z
      cases es with
      | nil=>cases hln;exact absurd rfl hn0
      | cons a es=>rfl
     ·rfl
     ·cases hln
  ·cases ho
 | un op x=>
  simp only[opR] at ho
  have hx:=h.opd x
  split at ho
  ·rename_i u e1
   rw[e1] at hx
   obtain⟨r,h1,rfl⟩:=map_some ho
   exact⟨r,by simp only[aop,hx.inv_a,h1,Option.map_some],.a _⟩
  ·cases ho
 | conv k x=>
  simp only[opR] at ho
  have hx:=h.opd x
  split at ho
  ·rename_i e1;rw[e1] at hx;cases ho;exact⟨_,by simp only[aop,hx.inv_a],.a _⟩
  ·cases ho
 | mkfn f first cap=>
  simp only[opR] at ho
  split at ho
  ·rename_i a b h1 h2
   cases ho
   obtain⟨ys,k1,k2⟩:=valsT_sound h h1
   obtain⟨zs,k3,k4⟩:=valsT_sound h h2
   exact⟨_,by simp only[aop,k1,k3],VR.mkFn k2 k4⟩
  ·cases ho
 | ext i x=>
  simp only[opR] at ho
  have hx:=h.opd x
  split at ho
  ·rename_i vs e1
   rw[e1] at hx
   cases hr:e.raw x with
   | tup hs'=>
    rw[hr] at hx
    cases hx with
    | tu _ _ hl hv=>
     obtain⟨u,h1,h2⟩:=VRL.get ⟨hl,hv⟩ ho
     exact⟨u,by simp only[aop,hr,h1,Option.map_some],h2⟩
   | _=>rw[hr] at hx;cases hx
  ·rename_i vs e1
   rw[e1] at hx
   obtain⟨u,h1,rfl⟩:=map_some ho
   exact⟨u,by simp only[aop,hx.inv_a,h1,Option.map_some],.a _⟩
  ·cases ho
 | slen x=>
  simp only[opR] at ho
  have hx:=h.opd x
  split at ho
  ·rename_i e1;rw[e1] at hx;cases ho;exact⟨_,by simp only[aop,hx.inv_a],.a _⟩
  ·cases ho
 | len x=>
  simp only[opR] at ho
  have hx:=h.opd x
  have key:∀ {y:AV} {n:Nat},slenV y=some n→∀ {e:Env},e.raw x=y→aop e H (.len x)=some (.int .i64 n,e,H):=by
   intro y n hy e he
   simp only[aop,he]
   unfold slenV at hy
   split at hy<;>cases hy<;>rfl
  split at ho
  ·rename_i e1;rw[e1] at hx;cases ho;exact⟨_,by simp only[aop,hx.inv_a],.a _⟩
  ·rename_i e1;rw[e1] at hx;cases ho;exact⟨_,by simp only[aop,hx.inv_a],.a _⟩
  ·rename_i e1
   rw[e1] at hx
   cases ho
   cases hx with
   | es _ he=>exact⟨_,key (empV_len he) rfl,.a _⟩
  ·rename_i e1
   rw[e1] at hx
   cases ho
   cases hx with
   | sl _ _ _ _ _ _ x' hlt hg hln hx=>exact⟨_,key hln rfl,.a _⟩
  ·cases ho
 | lenc n=>simp only[opR] at ho;cases ho;exact⟨_,rfl,.a _⟩
 | min2 x y=>
  simp only[opR] at ho
  have hx:=h.opd x
  have hy:=h.opd y
  split at ho
  ·rename_i e1 e2;rw[e1] at hx;rw[e2] at hy;cases ho;exact⟨_,by simp only[aop,hx.inv_a,hy.inv_a],.a _⟩
  ·cases ho
 | capz x=>
  simp only[opR] at ho
  have hx:=h.opd x
  split at ho
  ·rename_i e1;rw[e1] at hx;cases ho;exact⟨_,by simp only[aop,hx.inv_a],.a _⟩
  ·cases ho
 | sla n x=>
  simp only[opR] at ho
  have hx:=h.opd x
  split at ho
  ·rename_i e1
   rw[e1] at hx
   split at ho
   ·rename_i row hrow
    split at ho
    ·rename_i hle;cases ho;exact⟨_,by simp only[aop,hx.inv_a,hrow,if_pos hle],.a _⟩
    ·cases ho
   ·cases ho
  ·rename_i r p g i j e1
   rw[e1] at hx
   split at ho
   ·rename_i hc
    obtain⟨rfl,rfl,hval⟩:=hc
    split at ho
    ·rename_i cells hT
     split at ho
     ·rename_i hle
      cases ho
      generalize hh:e.raw x=y at hx
      cases hx with
      | pt _ _ _ _ _ _ hlt hg hp hx=>
       obtain⟨hnd,b,o,sz,n0,cap,ex,hf,rfl⟩:=hx hval
       obtain⟨b',hs,m1,m2,m3,m4⟩:=h.mem.raw _ cells hT
       have hf0:=hf
       rw[m1,followH_nil] at hf
       cases hf
       have hlen:hs.length=cells.length:=m4.1.symm
       refine⟨.sl b (0+0*cells.length+j) 1 n n true,by simp only[aop,hh,m3];rw[if_pos (by omega)],.rs _ _ _ _ _ hlt rfl fun _=>⟨hnd,b,cells.length,hf0,by simp,hle⟩⟩
     ·cases ho
    ·cases ho
   ·cases ho
  ·cases ho
 | slc sz x lo hi mx=>
  simp only[opR] at ho
  have hx:=h.opd x
  split at ho
  ·rename_i es z e1
   rw[e1] at hx
   split at ho
   ·rename_i m hh l b1 b2 b3
    have c1:=boundT_sound h b1
    have c2:=boundT_sound h b2
    have c3:=boundT_sound h b3
    split at ho
    ·rename_i hmx
     split at ho
     ·rename_i hc
      cases ho
      exact⟨_,by simp only[aop,hx.inv_a,c1,c2,c3];rw[if_pos hmx,if_pos hc],.a _⟩
     ·cases ho
    ·rename_i hmx
     split at ho
     ·rename_i hc
      cases ho
      exact⟨_,by simp only[aop,hx.inv_a,c1,c2,c3];rw[if_neg hmx,if_pos hc],.a _⟩
     ·cases ho
   ·cases ho
  ·rename_i e1
   rw[e1] at hx
   split at ho
   ·rename_i b1 b2 b3
    have c1:=boundT_sound h b1
    have c2:=boundT_sound h b2
    have c3:=boundT_sound h b3
    cases ho
    exact⟨_,by simp only[aop,hx.inv_a,c1,c2,c3],.a _⟩
   ·cases ho
  ·rename_i r p g i n w e1
   rw[e1] at hx
   split at ho
   ·cases ho
   ·rename_i hmx
    split at ho
    ·rename_i hh l b2 b3
     have c2:=boundT_sound h b2
     have c3:=boundT_sound h b3
     split at ho
     ·rename_i hc
      split at ho
      case h_2=>cases ho
      rename_i hok
      have hok:=idxOK_iff hok
      cases ho
      cases hx with
      | sl _ _ _ _ _ _ x' hlt hg hln hx=>
       obtain⟨k1,hd,k2,_,k3⟩:=hx hok.1
       rcases k3 with rfl|⟨b,o,sz',n0,cap0,ex0,cap,ex,rfl,k4,k4c⟩
       ·exact absurd rfl hc.2.2
       ·have hsz:=h.mem.size hok.2 k2 (hs2 _ _ _ _ _ rfl)
        subst hsz
        cases mx with
        | some u=>simp at hmx
        | none=>
         refine⟨.sl b (o+i*sz'+l*sz') sz' (hh - l) (cap - l) (ex || false), ?_,.sl _ _ _ _ _ _ _ hlt hg rfl fun _=>⟨k1,_,k2,⟨fun e=>(by cases e),.inr ⟨b,o,sz',n0,cap0,ex0,cap - l,ex || false,rfl,by rw[Nat.add_mul,Nat.add_assoc],by omega,by omega⟩⟩⟩⟩
         have c1:boundOf e none cap=some cap:=rfl
         simp only[aop,k4,c1,c2,c3]
         rw[if_pos ⟨trivial,hc.1,by omega,Nat.le_refl _⟩]
         rfl
     ·cases ho
    ·cases ho
  ·cases ho
 | chk x=>
  simp only[opR] at ho
  have hx:=h.opd x
  split at ho
  ·rename_i e1;rw[e1] at hx;cases ho;exact⟨_,by simp only[aop,hx.inv_a],.a _⟩
  ·rename_i e1;rw[e1] at hx;cases ho;exact⟨_,by simp only[aop,hx.inv_a],.a _⟩
  ·rename_i e1
   rw[e1] at hx
   cases ho
   cases hr:e.raw x<;>rw[hr] at hx<;>cases hx
   exact⟨_,by simp only[aop,hr],.lp _ _⟩
  ·rename_i r p g i j e1
   rw[e1] at hx
   cases ho
   have hx':=hx
   cases hx with
   | pt _ _ _ _ _ _ hlt hg hp _=>
    obtain⟨b,o,hb⟩:=hp
    exact⟨e.raw x,by simp only[aop,hb],hx'⟩
  ·rename_i f a b e1
   rw[e1] at hx
   cases ho
   have hx':=hx
   cases hr:e.raw x<;>rw[hr] at hx<;>cases hx
   exact⟨e.raw x,by simp only[aop,hr],hx'⟩
  ·cases ho
 | _=>simp[opR] at ho

end
end Go.Ab

namespace Go.Ab

def toCell (v:AV):Option AV:=
 if flatV v then some v else match v with
  | .nils=>some (.vs [] true)
  | .vs [] z=>some (.vs [] z)
  | v=>if clo v then some (.tup [v]) else none

def logOf (t:AV) (q:Path) (log:List Path):List Path:=
 match t with
 | .vs _ _=>q::log
 | _=>log

def storeCell (T:TH) (r:Nat) (p:Path) (i j:Nat) (v:TV):Option TH:=
 match T.get r with
 | .tree rows z log=>match nodeA rows p with
  | some rp=>match cellOf rp i j with
   | some t=>match v with
    | .a u=>(toCell u).map fun t'=>T.put r (.tree (setA rows p i j t') z (logOf t (p++[(i,j)]) log))
    | .es=>some (T.put r (.tree (setA rows p i j (.vs [] true)) z (logOf t (p++[(i,j)]) log)))
    | .sl r' p' g' _ _ w=>
     if w=true∧(T.get r').valid p' g'=true then
      if r'=r then (if p'=p++[(i,j)] then some T else none)
      else if p'=[] then match T.get r' with
       | .tree rows' z' _=>some ((T.put r' .dead).put r (.tree (setA rows p i j (.vs rows' z')) z (logOf t (p++[(i,j)]) log)))
       | _=>none
      else none
     else none
    | _=>none
   | none=>none
  | none=>none
 | _=>none

def storeCells (T:TH) (r:Nat) (p:Path) (i:Nat):Nat→List TV→Option TH
 | _,[]=>some T
 | j,v::vs=>match storeCell T r p i j v with
  | some T'=>storeCells T' r p i (j+1) vs
  | none=>none

section
variable {A:Anc} {T:TH} {H:AH} {E:TE} {e:Env}

theorem HR.lt (hm:HR A T H) {r:Nat} (h:T.get r≠.dead):r<T.next:=by
 rcases Nat.lt_or_ge r T.next with k|k
 ·exact k
 ·exact absurd (hm.top r k) h

theorem raw_node {cells:List TV} {p:Path} (h:(TO.raw cells).node p≠none):p=[]:=by
 cases p with
 | nil=>rfl
 | cons q p=>
  obtain⟨i,j⟩:=q
  exfalso;apply h
  unfold TO.node
  simp only[TO.rows,nodeA]
  split
  ·rename_i rows' z' hc
   obtain⟨row,h1,h2⟩:=cellOf_some hc
   have hmem:=List.mem_of_getElem? h1
   simp only[List.mem_singleton] at hmem
   subst hmem
   rw[List.getElem?_map] at h2
   cases hcc:cells[j]? with
   | none=>rw[hcc] at h2;simp at h2
   | some x=>rw[hcc] at h2;simp at h2
  ·rfl

theorem mapo_node {cells:List (Int × TV)} {p:Path} (h:(TO.mapo cells).node p≠none):p=[]:=by
 cases p with
 | nil=>rfl
 | cons q p=>
  obtain⟨i,j⟩:=q
  exfalso;apply h
  unfold TO.node
  simp only[TO.rows,nodeA]
  split
  ·rename_i rows' z' hc
   obtain⟨row,h1,h2⟩:=cellOf_some hc
   have hmem:=List.mem_of_getElem? h1
   simp only[List.mem_singleton] at hmem
   subst hmem
   rw[List.getElem?_map] at h2
   cases hcc:cells[j]? with
   | none=>rw[hcc] at h2;simp at h2
   | some x=>rw[hcc] at h2;simp at h2
  ·rfl

theorem HR.follow (hm:HR A T H) {H':AH} {r:Nat} {p:Path} (hn:(T.get r).node p≠none) (hf:∀ x∈A.S r,H'.get x=H.get x):followH H' (A.hd r) p=followH H (A.hd r) p:=by
 cases hT:T.get r with
 | dead=>rw[hT] at hn;exact absurd rfl hn
 | raw cells=>rw[hT] at hn;rw[raw_node hn,followH_nil,followH_nil]
 | mapo cells=>rw[hT] at hn;rw[mapo_node hn,followH_nil,followH_nil]
 | tree rows z log=>
  rw[hT] at hn
  exact follow_frame p (hm.tree r rows z log hT).1 hf hn

theorem HR.change (hm:HR A T H) {A':Anc} {T':TH} {H':AH} (hw:WH H') (hg:Gr A T H A' T' H')
  (h1:∀ r,(T'.get r=T.get r∧A'.hd r=A.hd r∧A'.S r=A.S r∧∀ x∈A.S r,H'.get x=H.get x)∨T'.get r=.dead∨(∃ rows z log,T'.get r=.tree rows z log∧Own H' [A'.hd r] [.vs rows z] (A'.S r)∧(A'.S r).Nodup) ∨
   (∃ cells b hs,T'.get r=.raw cells∧A'.hd r=.sl b 0 cells.length 1 1 true∧A'.S r=[b]∧H'.get b=.cells hs∧VRL A' T' H' cells hs) ∨
   (∃ es b hs,T'.get r=.mapo es∧A'.hd r=.mp b∧A'.S r=[b]∧H'.get b=.map hs∧MRel A' T' H' es hs))
  (h2:∀ r r' x,T'.get r≠.dead→T'.get r'≠.dead→r≠r'→x∈A'.S r→x∉A'.S r') (h3:∀ r,T'.next≤r→T'.get r=.dead):HR A' T' H' where
 wh:=hw
 tree:=fun r rows z log hT=>by
  rcases h1 r with ⟨k1,k2,k3,k4⟩|k|⟨rows',z',log',k1,k2,k3⟩|⟨cells,b,hs,k1,_⟩|⟨es,b,hs,k1,_⟩
  ·rw[k1] at hT
   obtain⟨m1,m2⟩:=hm.tree r rows z log hT
   rw[k2,k3]
   exact⟨m1.frame k4,m2⟩
  ·rw[k] at hT;cases hT
  ·rw[k1] at hT;cases hT;exact⟨k2,k3⟩
  ·rw[k1] at hT;cases hT
  ·rw[k1] at hT;cases hT
 raw:=fun r cells hT=>by
  rcases h1 r with ⟨k1,k2,k3,k4⟩|k|⟨rows',z',log',k1,k2,k3⟩|⟨cells',b,hs,k1,k2,k3,k4,k5⟩|⟨es,b,hs,k1,_⟩
  ·rw[k1] at hT
   obtain⟨b,hs,m1,m2,m3,m4⟩:=hm.raw r cells hT
   rw[k2,k3]
   exact⟨b,hs,m1,m2,by rw[k4 b (by rw[m2];simp)];exact m3,hg.list m4⟩
  ·rw[k] at hT;cases hT
  ·rw[k1] at hT;cases hT
  ·rw[k1] at hT;cases hT;exact⟨b,hs,k2,k3,k4,k5⟩
  ·rw[k1] at hT;cases hT
 mapo:=fun r es hT=>by
  rcases h1 r with ⟨k1,k2,k3,k4⟩|k|⟨rows',z',log',k1,k2,k3⟩|⟨cells',b,hs,k1,_⟩|⟨es',b,hs,k1,k2,k3,k4,k5⟩
  ·rw[k1] at hT
   obtain⟨b,hs,m1,m2,m3,m4⟩:=hm.mapo r es hT
   rw[k2,k3]
   exact⟨b,hs,m1,m2,by rw[k4 b (by rw[m2];simp)];exact m3,hg.map m4⟩
  ·rw[k] at hT;cases hT
  ·rw[k1] at hT;cases hT
  ·rw[k1] at hT;cases hT
  ·rw[k1] at hT;cases hT;exact⟨b,hs,k2,k3,k4,k5⟩
 apart:=h2
 top:=h3

theorem HR.kill (hm:HR A T H) (r:Nat) (hr:r<T.next):HR A (T.put r .dead) H∧Gr A T H A (T.put r .dead) H:=by
 have hg:Gr A T H A (T.put r .dead) H:=by
  refine Gr.mk (Nat.le_refl _) (fun k hk hd=>?_) fun k hk p g hgl hv=>?_
  ·rw[TH.get_put] at hd ⊢
   split at hd
   ·exact absurd rfl hd
   ·rename_i hne;rw[if_neg hne];exact⟨hd,Nat.le_refl _⟩
  ·rw[TH.get_put] at hv ⊢
   split at hv
   ·cases hv
   ·rename_i hne;rw[if_neg hne];exact⟨hv,fun h=>⟨h,rfl⟩⟩
 refine⟨hm.change hm.wh hg (fun k=>?_) (fun k k' x h1 h2=>?_) (fun k hk=>?_),hg⟩
 ·by_cases h:r=k
  ·exact .inr (.inl (by rw[TH.get_put,if_pos h]))
  ·exact .inl ⟨by rw[TH.get_put,if_neg h],rfl,rfl,fun _ _=>rfl⟩
 ·rw[TH.get_put] at h1 h2
  split at h1
  ·exact absurd rfl h1
  ·split at h2
   ·exact absurd rfl h2
   ·exact hm.apart k k' x h1 h2
 ·rw[TH.get_put];split
  ·rfl
  ·exact hm.top k hk

theorem nodeA_below:∀ (p q:Path) (rows:List (List AV)) (i j:Nat) (rp:List (List AV)) (t:AV),nodeA rows p=some rp→cellOf rp i j=some t→(∀ x y,t≠.vs x y)→nodeA rows (p++(i,j)::q)=none:=by
 intro p q rows i j rp t h1 h2 h3
 rw[nodeA_append,h1]
 simp only[Option.bind_some,nodeA,h2]
 split
 ·rename_i x y e
  cases e
  exact absurd rfl (h3 _ _)
 ·rfl

theorem cellOf_setCell {rows:List (List AV)} {i j i2 j2:Nat} {t t':AV} (h:cellOf rows i j=some t'):cellOf (setCell rows i j t) i2 j2=if i=i2∧j=j2 then some t else cellOf rows i2 j2:=by
 obtain⟨row,h1,h2⟩:=cellOf_some h
 have hj:=(List.getElem?_eq_some_iff.1 h2).1
 have hi:=(List.getElem?_eq_some_iff.1 h1).1
 unfold setCell cellOf
 rw[h1]
 simp only[List.getElem?_set]
 by_cases e1:i=i2
 ·subst e1
  rw[if_pos rfl,if_pos hi]
  simp only[List.getElem?_set,h1,true_and]
  by_cases e2:j=j2
  ·subst e2;simp[hj]
  ·simp[e2]
 ·rw[if_neg e1];simp[e1]

theorem nodeA_setA:∀ (p:Path) (rows rp:List (List AV)) (i j:Nat) (t t':AV) (q:Path),nodeA rows p=some rp→cellOf rp i j=some t→¬ (p++[(i,j)]) <+: q→nodeA rows q≠none→nodeA (setA rows p i j t') q≠none
 | [],rows,rp,i,j,t,t',q,h1,h2,h3,h4=>by
  simp only[nodeA,Option.some.injEq] at h1
  subst h1
  cases q with
  | nil=>simp[nodeA]
  | cons x q=>
   obtain⟨i2,j2⟩:=x
   simp only[setA,nodeA] at h4 ⊢
   rw[cellOf_setCell h2,if_neg (fun e=>h3 (by obtain⟨rfl,rfl⟩:=e;simp))]
   exact h4
 | (i0,j0)::p,rows,rp,i,j,t,t',q,h1,h2,h3,h4=>by
  simp only[nodeA] at h1
  split at h1
  ·rename_i rows0 z0 hc
   cases q with
   | nil=>simp[nodeA]
   | cons x q=>
    obtain⟨i2,j2⟩:=x
    simp only[setA,hc,nodeA] at h4 ⊢
    rw[cellOf_setCell hc]
    by_cases e:i0=i2∧j0=j2
    ·obtain⟨rfl,rfl⟩:=e
     rw[if_pos ⟨rfl,rfl⟩]
     rw[hc] at h4
     exact nodeA_setA p rows0 rp i j t t' q h1 h2 (fun hp=>h3 (by simpa using hp)) h4
    ·rw[if_neg e];exact h4
  ·cases h1

theorem isPrefixOf_iff {p q:Path}:p.isPrefixOf q=true↔p <+: q:=List.isPrefixOf_iff_prefix

theorem valid_logOf {rows rows':List (List AV)} {z:Bool} {log:List Path} {t:AV} {q p:Path} {g:Nat} (hg:g≤log.length) (h:(TO.tree rows' z (logOf t q log)).valid p g=true) :
  (TO.tree rows z log).valid p g=true∧((∃ x y,t=.vs x y)→¬ q <+: p):=by
 unfold logOf at h
 split at h
 ·simp only[TO.valid,List.length_cons] at h
  rw[show log.length+1 - g=(log.length - g)+1 by omega,List.take_succ_cons,List.all_cons,Bool.and_eq_true] at h
  refine⟨h.2,fun _ hp=>?_⟩
  have:=isPrefixOf_iff.2 hp
  rw[this] at h
  cases h.1
 ·rename_i hne
  exact⟨h,fun ⟨x,y,e⟩=>absurd e (hne x y)⟩

theorem glen_logOf {t:AV} {q:Path} {log:List Path}:log.length≤(logOf t q log).length:=by
 unfold logOf;split<;>simp

theorem AH.get_put' (H:AH) (b:Nat) (o:AObj) (k:Nat):(H.put b o).get k=if b=k then o else H.get k:=by
 unfold AH.get AH.put;simp only[Tr.get_set];split<;>rfl

theorem WH.put {H:AH} (h:WH H) {b:Nat} (hb:b<H.next) (o:AObj):WH (H.put b o):=(HG.put h hb o).wh

theorem HR.store (hm:HR A T H) {r:Nat} {rows rp:List (List AV)} {z:Bool} {log:List Path} {p:Path} {i j:Nat} {t t':AV} {h':AV} {Sc':List Nat} (hT:T.get r=.tree rows z log) (hn:nodeA rows p=some rp) (hc:cellOf rp i j=some t)
  {b o sz n cap:Nat} {ex:Bool} (hf:followH H (A.hd r) p=some (.sl b o sz n cap ex)) {cs:List AV} (hb:H.get b=.cells cs)
  (ho:Own H [h'] [t'] Sc') (hnd:Sc'.Nodup) (hap:∀ k x,T.get k≠.dead→x∈Sc'→x∉A.S k) :
  ∃ A',HR A' (T.put r (.tree (setA rows p i j t') z (logOf t (p++[(i,j)]) log))) (H.put b (.cells (cs.set (o+i*sz+j) h')))∧Gr A T H A' (T.put r (.tree (setA rows p i j t') z (logOf t (p++[(i,j)]) log))) (H.put b (.cells (cs.set (o+i*sz+j) h'))) ∧
   A'.hd=A.hd∧b<H.next∧o+i*sz+j<cs.length∧followH (H.put b (.cells (cs.set (o+i*sz+j) h'))) (A.hd r) p=followH H (A.hd r) p:=by
 obtain⟨row,hi,hj⟩:=cellOf_some hc
 obtain⟨m1,m2⟩:=hm.tree r rows z log hT
 obtain⟨b',o',sz',cap',ex',cs',c,Sc,q1,q2,q3,q4,q5,q6,q7,q8,q9,_,q10⟩:=zoom p m1 m2 hn hi hj
 rw[hf] at q1;cases q1
 rw[hb] at q2;cases q2
 have hlt:=hm.lt (r:=r) (by rw[hT];simp)
 have hbn:b<H.next:=hm.wh.lt hb (by simp)
 have hbS:b∉Sc':=fun h=>hap r b (by rw[hT];simp) h q8
 have hother:∀ k,k≠r→T.get k≠.dead→b∉A.S k:=fun k hk hd hx=>hm.apart k r b hd (by rw[hT];simp) hk hx q8
 have hgetO:∀ x,x≠b→(H.put b (.cells (cs.set (o+i*sz+j) h'))).get x=H.get x:=fun x hx=>by rw[AH.get_put',if_neg (fun e=>hx e.symm)]
 obtain⟨⟨S',r1,r2,r3,r3'⟩,r4⟩:=q10 (H.put b (.cells (cs.set (o+i*sz+j) h'))) h' t' Sc' (by rw[AH.get_put',if_pos rfl])
  (ho.frame fun x hx=>hgetO x (fun e=>hbS (by subst e;exact hx))) hnd (fun x hx=>.inr (hap r x (by rw[hT];simp) hx)) (fun x _ hx _=>hgetO x hx)
 have hgr:Gr A T H { hd:=A.hd,S:=fun k=>if r=k then S' else A.S k } (T.put r (.tree (setA rows p i j t') z (logOf t (p++[(i,j)]) log))) (H.put b (.cells (cs.set (o+i*sz+j) h'))):=by
  refine Gr.mk (Nat.le_refl _) (fun k hk hd=>?_) fun k hk p2 g hgl hv=>?_
  ·rw[TH.get_put] at hd ⊢
   split
   ·rename_i e;subst e;rw[hT];exact⟨by simp,glen_logOf⟩
   ·rename_i e;rw[if_neg e] at hd;exact⟨hd,Nat.le_refl _⟩
  ·rw[TH.get_put] at hv ⊢
   split
   ·rename_i e
    subst e
    rw[if_pos rfl] at hv
    rw[hT] at hgl ⊢
    obtain⟨v1,v2⟩:=valid_logOf (rows:=rows) hgl hv
    refine⟨v1,fun hnode=>?_⟩
    have hpre:¬ (p++[(i,j)]) <+: p2:=fun hp=>by
     by_cases ht:∃ x y,t=.vs x y
     ·exact v2 ht hp
     ·obtain⟨q,rfl⟩:=hp
      apply hnode
      unfold TO.node;simp only[TO.rows]
      rw[List.append_assoc,List.singleton_append]
      exact nodeA_below p q rows i j rp t hn hc fun x y e=>ht ⟨x,y,e⟩
    exact⟨nodeA_setA p rows rp i j t t' p2 hn hc hpre hnode,r4 p2 hpre hnode⟩
   ·rename_i e
    rw[if_neg e] at hv
    exact⟨hv,fun h=>⟨h,hm.follow h fun x hx=>hgetO x fun e2=>by
     subst e2
     exact hother k (fun e3=>e e3.symm) (fun e4=>by rw[e4] at hv;cases hv) hx⟩⟩
 refine⟨{ hd:=A.hd,S:=fun k=>if r=k then S' else A.S k },hm.change (hm.wh.put hbn _) hgr (fun k=>?_) (fun k k' x h1 h2 hne hx=>?_) (fun k hk=>?_),hgr,rfl,hbn,(List.getElem?_eq_some_iff.1 q5).1,r4 p (fun hp=>by have:=hp.length_le;simp at this;omega) (by rw[hn];simp)⟩
 ·by_cases e:r=k
  ·subst e
   exact .inr (.inr (.inl ⟨_,_,_,by rw[TH.get_put,if_pos rfl],by simpa using r1,by simpa using r2⟩))
  ·by_cases hd:T.get k=.dead
   ·exact .inr (.inl (by rw[TH.get_put,if_neg e];exact hd))
   ·exact .inl ⟨by rw[TH.get_put,if_neg e],rfl,by simp[e],fun x hx=>hgetO x fun e2=>by subst e2;exact hother k (fun e3=>e e3.symm) hd hx⟩
 ·rw[TH.get_put] at h1 h2
  by_cases e:r=k
  ·subst e
   have e':r≠k':=hne
   rw[if_neg e'] at h2
   simp only[if_true,if_neg e'] at hx ⊢
   rcases r3 x hx with h|h
   ·exact hm.apart r k' x (by rw[hT];simp) h2 hne h
   ·exact hap k' x h2 h
  ·rw[if_neg e] at h1
   simp only[if_neg e] at hx
   by_cases e':r=k'
   ·subst e'
    simp only[if_true]
    intro hx'
    rcases r3 x hx' with h|h
    ·exact hm.apart k r x h1 (by rw[hT];simp) hne hx h
    ·exact hap k x h1 h hx
   ·rw[if_neg e'] at h2
    simp only[if_neg e']
    exact hm.apart k k' x h1 h2 hne hx
 ·rw[TH.get_put]
  split
  ·rename_i e;subst e;exact absurd hk (by simp only[TH.next_put];omega)
  ·exact hm.top k hk

theorem HR.congr (hm:HR A T H) {H':AH} (hw:WH H') (hf:∀ x,H'.get x=H.get x):HR A T H'∧Gr A T H A T H':=by
 have hg:Gr A T H A T H':=Gr.mk (Nat.le_refl _) (fun k hk hd=>⟨hd,Nat.le_refl _⟩) fun k hk p g hgl hv=>⟨hv,fun h=>⟨h,hm.follow h fun x _=>hf x⟩⟩
 exact⟨hm.change hw hg (fun k=>.inl ⟨rfl,rfl,rfl,fun x _=>hf x⟩) hm.apart hm.top,hg⟩

theorem toCell_own {v t:AV} (h:toCell v=some t):Own H [v] [t] []:=by
 unfold toCell at h
 split at h
 ·rename_i hf;cases h;exact .flat hf .nil
 ·split at h
  ·cases h;exact .emp rfl (fun _=>rfl) .nil
  ·cases h;exact .emp rfl (fun e=>by subst e;rfl) .nil
  ·split at h
   ·rename_i hc;cases h;exact .mark hc .nil
   ·cases h

theorem storeCell_sound (hm:HR A T H) {T':TH} {r i j:Nat} {p:Path} {v:TV} {h':AV} (hv:VR A T H v h') (hs:storeCell T r p i j v=some T') {b o sz n cap:Nat} {ex:Bool} (hf:followH H (A.hd r) p=some (.sl b o sz n cap ex)) {cs:List AV} (hb:H.get b=.cells cs) :
  ∃ A',HR A' T' (H.put b (.cells (cs.set (o+i*sz+j) h')))∧Gr A T H A' T' (H.put b (.cells (cs.set (o+i*sz+j) h')))∧A'.hd=A.hd∧b<H.next∧o+i*sz+j<cs.length∧followH (H.put b (.cells (cs.set (o+i*sz+j) h'))) (A.hd r) p=followH H (A.hd r) p:=by
 unfold storeCell at hs
 split at hs
 ·rename_i rows z log hT
  split at hs
  ·rename_i rp hn
   split at hs
   ·rename_i t hc
    split at hs
    ·rename_i u
     obtain⟨t',h1,rfl⟩:=map_some hs
     rw[hv.inv_a]
     exact hm.store hT hn hc hf hb (toCell_own h1) (by simp) (by simp)
    ·cases hs
     cases hv with
     | es _ he=>exact hm.store hT hn hc hf hb (.emp (empV_len he) (fun _=>he) .nil) (by simp) (by simp)
    ·rename_i r' p' g' i' n' w
     split at hs
     ·rename_i hw
      obtain⟨rfl,hval⟩:=hw
      cases hv with
      | sl _ _ _ _ _ _ _ hlt hg hln hx=>
       obtain⟨k1,hd,k2,k3,_⟩:=hx hval
       obtain⟨rfl,rfl⟩:=k3 rfl
       split at hs
       ·rename_i er
        subst er
        split at hs
        ·rename_i ep
         subst ep
         cases hs
         obtain⟨row,hi,hj⟩:=cellOf_some hc
         obtain⟨b',o',sz',cap',ex',cs',c,Sc,q1,q2,q3,q4,q5,q6⟩:=hm.node hT hn hi hj
         rw[hf] at q1;cases q1
         rw[hb] at q2;cases q2
         rw[followH_append,hf] at k2
         simp only[Option.bind_some,followH,hb,q5,Option.some.injEq] at k2
         subst k2
         obtain⟨hl,e⟩:=List.getElem?_eq_some_iff.1 q5
         have e1:cs.set (o+i*sz+j) c=cs:=by rw[← e];exact List.set_getElem_self hl
         rw[e1]
         have hbn:b<H.next:=hm.wh.lt hb (by simp)
         obtain⟨g1,g2⟩:=hm.congr (H':=H.put b (.cells cs)) (hm.wh.put hbn _) fun x=>by
          rw[AH.get_put'];split
          ·rename_i e;subst e;exact hb.symm
          ·rfl
         exact⟨A,g1,g2,rfl,hbn,hl,hm.follow (by rw[hT];unfold TO.node;simp only[TO.rows];rw[hn];simp) fun x _=>by
          rw[AH.get_put'];split
          ·rename_i e;subst e;exact hb.symm
          ·rfl⟩
        ·cases hs
       ·rename_i er
        split at hs
        ·rename_i ep
         subst ep
         split at hs
         ·rename_i rows' z' log' hT'
          cases hs
          rw[followH_nil] at k2
          cases k2
          obtain⟨m1,m2⟩:=hm.tree r' rows' z' log' hT'
          obtain⟨g1,g2⟩:=hm.kill r' hlt
          have hT2:(T.put r' .dead).get r=.tree rows z log:=by rw[TH.get_put,if_neg er];exact hT
          obtain⟨A',l1,l2,l3⟩:=g1.store hT2 hn hc hf hb m1 m2 fun k x hk hx=>by
           rw[TH.get_put] at hk
           split at hk
           ·exact absurd rfl hk
           ·rename_i hne
            exact hm.apart r' k x (by rw[hT'];simp) hk hne hx
          exact⟨A',l1,g2.trans l2,l3⟩
         ·cases hs
        ·cases hs
     ·cases hs
    ·cases hs
   ·cases hs
  ·cases hs
 ·cases hs

theorem splice_cons {cs hs:List AV} {k:Nat} {h:AV} (hk:k<cs.length):Ab.splice (cs.set k h) (k+1) hs=Ab.splice cs k (h::hs):=by
 unfold Ab.splice
 rw[take_set_drop _ _ _ hk]
 have h1:(cs.take k).length=k:=by simp;omega
 have e1:(cs.take k++h::cs.drop (k+1)).take (k+1)=cs.take k++[h]:=by
  rw[List.take_append,h1,List.take_of_length_le (by omega)]
  simp
 have e2:(cs.take k++h::cs.drop (k+1)).drop (k+1+hs.length)=cs.drop (k+(h::hs).length):=by
  rw[List.drop_append,h1,List.drop_eq_nil_of_le (by omega),List.nil_append]
  rw[show k+1+hs.length - k=hs.length+1 by omega,List.drop_succ_cons,List.drop_drop]
  congr 1
  simp only[List.length_cons];omega
 rw[e1,e2];simp

theorem storeCells_sound:∀ {vs:List TV} {hs:List AV} {A:Anc} {T T':TH} {H:AH} {r i j:Nat} {p:Path} {b o sz n cap:Nat} {ex:Bool} {cs:List AV},HR A T H→VRL A T H vs hs→storeCells T r p i j vs=some T' →
  followH H (A.hd r) p=some (.sl b o sz n cap ex)→H.get b=.cells cs→b<H.next→o+i*sz+j≤cs.length →
  ∃ A',HR A' T' (H.put b (.cells (Ab.splice cs (o+i*sz+j) hs)))∧Gr A T H A' T' (H.put b (.cells (Ab.splice cs (o+i*sz+j) hs)))∧o+i*sz+j+hs.length≤cs.length∧A'.hd=A.hd
 | [],hs,A,T,T',H,r,i,j,p,b,o,sz,n,cap,ex,cs,hm,hv,hs0,hf,hb,hbn,hk=>by
  simp only[storeCells,Option.some.injEq] at hs0
  subst hs0
  have:=hv.inv_nil
  subst this
  have e1:Ab.splice cs (o+i*sz+j) []=cs:=by simp[Ab.splice]
  rw[e1]
  obtain⟨g1,g2⟩:=hm.congr (H':=H.put b (.cells cs)) (hm.wh.put hbn _) fun x=>by
   rw[AH.get_put'];split
   ·rename_i e;subst e;exact hb.symm
   ·rfl
  exact⟨A,g1,g2,by simpa using hk,rfl⟩
 | v::vs,hs,A,T,T',H,r,i,j,p,b,o,sz,n,cap,ex,cs,hm,hv,hs0,hf,hb,hbn,hk=>by
  simp only[storeCells] at hs0
  split at hs0
  ·rename_i T1 h1
   obtain⟨h0,hs',rfl,k1,k2⟩:=hv.inv_cons
   obtain⟨A1,a1,a2,a3,_,a5,a6⟩:=storeCell_sound hm k1 h1 hf hb
   have hb1:(H.put b (.cells (cs.set (o+i*sz+j) h0))).get b=.cells (cs.set (o+i*sz+j) h0):=by rw[AH.get_put',if_pos rfl]
   obtain⟨A2,c1,c2,c3,c4⟩:=storeCells_sound (hs:=hs') a1 (a2.list k2) hs0 (by rw[a3,a6];exact hf) hb1 hbn (by rw[List.length_set];omega)
   rw[show o+i * sz+(j+1)=o+i * sz+j+1 by omega,splice_cons a5] at c1 c2
   obtain⟨g1,g2⟩:=c1.congr (H':=H.put b (.cells (Ab.splice cs (o+i*sz+j) (h0::hs')))) (hm.wh.put hbn _) fun x=>by
    simp only[AH.get_put'];split<;>rfl
   refine⟨A2,g1,a2.trans (c2.trans g2), ?_,by rw[c4,a3]⟩
   rw[List.length_set] at c3
   simp only[List.length_cons];omega
  ·cases hs0

end
end Go.Ab

namespace Go.Ab

def tvCells:TV→Option (List TV)
 | .a v=>if v.var then some (v.cells.map .a) else none
 | .ag cs=>some cs
 | .tu _|.lp ..=>none
 | v=>some [v]

def tvOne:TV→Bool
 | .a v=>v.one
 | .ag _|.tu _|.lp ..=>false
 | _=>true

def spliceT {α:Type} (cs:List α) (o:Nat) (vs:List α):List α:=cs.take o++vs++cs.drop (o+vs.length)

def fillT (cells:List TV):List (Nat × Nat × TV)→Option (List TV)
 | []=>some cells
 | (off,n,v)::rest=>match tvCells v with
  | some vs=>if vs.length=n∧off+n≤cells.length then fillT (spliceT cells off vs) rest else none
  | none=>none

def stT (E:TE) (T:TH) (a:TV) (cs:List TV):Option (TE × TH):=
 match a with
 | .lp st o=>match E.L.get st with
  | some xs=>if o+cs.length≤xs.length then some (E.putL st (spliceT xs o cs),T) else none
  | none=>none
 | .pt r p g i j=>if (T.get r).valid p g=true then match T.get r with
   | .raw xs=>if p=[]∧i=0∧j+cs.length≤xs.length then some (E,T.put r (.raw (spliceT xs j cs))) else none
   | .tree _ _ _=>if cs=[] then none else (storeCells T r p i j cs).map fun T'=>(E,T')
   | _=>none
  else none
 | _=>none

def partsT (E:TE):List (Nat × Nat × Opd)→Option (List (Nat × Nat × TV))
 | []=>some []
 | (off,n,x)::ps=>match valT E x,partsT E ps with
  | some v,some vs=>some ((off,n,v)::vs)
  | _,_=>none

def rowsT (E:TE) (T:TH) (r sz:Nat):List (Nat × Opd)→Option TH
 | []=>some T
 | (i,x)::ps=>match valT E x with
  | some v=>match tvCells v with
   | some cs=>if cs.length=sz then match storeCells T r [] i 0 cs with
     | some T'=>rowsT E T' r sz ps
     | none=>none
    else none
   | none=>none
  | none=>none

def opW (E:TE) (T:TH):MOp→Option (TV × TE × TH)
 | .alloc zero=>some (.pt T.next [] 0 0 0,E,T.new (.raw (zero.map .a)))
 | .allocL zero=>some (.lp E.ln 0,E.loc (zero.map .a),T)
 | .box x=>(tvCells (E.raw x)).map fun cs=>(.pt T.next [] 0 0 0,E,T.new (.raw cs))
 | .boxL x=>(tvCells (E.raw x)).map fun cs=>(.lp E.ln 0,E.loc cs,T)
 | .build zero parts=>match partsT E parts with
  | some ps=>(fillT (zero.map .a) ps).map fun cs=>(mkAg cs,E,T)
  | none=>none
 | .st1 a v=>if tvOne (E.raw v) then (stT E T (E.raw a) [E.raw v]).map fun x=>(.tu [],x.1,x.2) else none
 | .stn n a v=>match tvCells (E.raw v) with
  | some cs=>if cs.length=n then (stT E T (E.raw a) cs).map fun x=>(.tu [],x.1,x.2) else none
  | none=>none
 | .mkmap=>some (.mp T.next,E,T.new (.mapo []))
 | .mset m k v=>match E.raw m,E.raw k,valT E v with
  | .mp r,.a (.int .i64 n),some x=>match T.get r with
   | .mapo es=>if es.all (fun p=>p.1 != n) then some (.tu [],E,T.put r (.mapo (es++[(n,x)]))) else none
   | _=>none
  | _,_,_=>none
 | .mget z m k=>match E.raw m,E.raw k with
  | .mp r,.a (.int .i64 n)=>match T.get r with
   | .mapo es=>match es.find? (fun p=>p.1==n) with
    | some p=>some (.tu [p.2,.a (.bool true)],E,T)
    | none=>some (.tu [.a z,.a (.bool false)],E,T)
   | _=>none
  | _,_=>none
 | .mksl sz bytes zero l c=>match E.raw l,E.raw c with
  | .a (.int .i64 l),.a (.int .i64 c)=>
   if l=c∧0≤c∧c*bytes≤roomB∧c≤140737488355328∧zero.length=sz∧0<sz then (mapO toCell zero).map fun row=>(.sl T.next [] 0 0 c.toNat true,E,T.new (.tree (List.replicate c.toNat row) true [])) else none
  | _,_=>none
 | .bsl sz len zero parts=>match len with
  | 0=>match parts with
   | []=>some (.es,E,T)
   | _=>none
  | _=>if zero.length=sz∧0<sz then match mapO toCell zero with
   | some row=>(rowsT E (T.new (.tree (List.replicate len row) true [])) T.next sz parts).map fun T'=>(.sl T.next [] 0 0 len true,E,T')
   | none=>none
   else none
 | _=>none

section
variable {A:Anc} {T:TH} {H:AH} {E:TE} {e:Env}

theorem tvCells_sound {v:TV} {h:AV} {cs:List TV} (k:VR A T H v h) (hc:tvCells v=some cs):h.var=true∧VRL A T H cs h.cells:=by
 have one:∀ {w:TV},VR A T H w h→(∀ x,h≠.agg x)→(∀ x,h≠.tup x)→(∀ x y,h≠.lp x y)→h.var=true∧VRL A T H [w] h.cells:=by
  intro w kw h1 h2 h3
  cases h<;>first|exact⟨rfl,VRL.cons kw VRL.nil⟩|exact absurd rfl (h1 _)|exact absurd rfl (h2 _)|exact absurd rfl (h3 _ _)
 cases v with
 | a v=>
  have:=k.inv_a
  subst this
  simp only[tvCells] at hc
  split at hc
  ·rename_i hv;cases hc;exact⟨hv,VRL.atoms _⟩
  ·cases hc
 | es=>
  simp only[tvCells] at hc;cases hc
  have k':=k
  cases k with
  | es _ he=>exact one k' (fun x e=>by subst e;simp[empV] at he) (fun x e=>by subst e;simp[empV] at he) (fun x y e=>by subst e;simp[empV] at he)
 | lp=>simp[tvCells] at hc
 | pt r p g i j=>
  simp only[tvCells] at hc;cases hc
  have k':=k
  cases k with
  | pt _ _ _ _ _ _ _ _ hp=>
   obtain⟨b,o,rfl⟩:=hp
   exact one k' (by simp) (by simp) (by simp)
 | sl r p g i n w=>
  simp only[tvCells] at hc;cases hc
  have k':=k
  cases k with
  | sl _ _ _ _ _ _ _ _ _ hn=>exact one k' (fun x e=>by subst e;simp[slenV] at hn) (fun x e=>by subst e;simp[slenV] at hn) (fun x y e=>by subst e;simp[slenV] at hn)
 | ag cs'=>
  simp only[tvCells] at hc;cases hc
  cases k with
  | ag _ hs hl hv=>exact⟨rfl,hl,hv⟩
 | tu=>simp[tvCells] at hc
 | fn f a c=>
  simp only[tvCells] at hc;cases hc
  have k':=k
  cases k with
  | fn=>exact one k' (by simp) (by simp) (by simp)
 | mp r=>
  simp only[tvCells] at hc;cases hc
  have k':=k
  cases k with
  | mp _ _ _ hp=>
   obtain⟨b,rfl⟩:=hp
   exact one k' (by simp) (by simp) (by simp)
 | rs r j n w=>
  simp only[tvCells] at hc;cases hc
  have k':=k
  cases k with
  | rs _ _ _ _ _ _ hn=>exact one k' (fun x e=>by subst e;simp[slenV] at hn) (fun x e=>by subst e;simp[slenV] at hn) (fun x y e=>by subst e;simp[slenV] at hn)

theorem tvOne_sound {v:TV} {h:AV} (k:VR A T H v h) (hc:tvOne v=true):h.one=true:=by
 cases k with
 | a v=>exact hc
 | es h he=>unfold empV at he;split at he<;>first|rfl|cases he
 | lp=>simp[tvOne] at hc
 | pt r p g i j h hr hg hp=>obtain⟨b,o,rfl⟩:=hp;rfl
 | sl r p g i n w h hr hg hn=>unfold slenV at hn;split at hn<;>first|rfl|cases hn
 | ag=>simp[tvOne] at hc
 | tu=>simp[tvOne] at hc
 | fn=>rfl
 | mp r h hr hp=>obtain⟨b,rfl⟩:=hp;rfl
 | rs r j n w h hr hn=>unfold slenV at hn;split at hn<;>first|rfl|cases hn

theorem VRL.splice {cs vs:List TV} {hs xs:List AV} (k:VRL A T H cs hs) (l:VRL A T H vs xs) (o:Nat):VRL A T H (spliceT cs o vs) (Ab.splice hs o xs):=by
 unfold spliceT Ab.splice
 rw[← l.1]
 have k1:VRL A T H (cs.take o) (hs.take o):=by simpa using k.slice 0 o
 have k2:VRL A T H (cs.drop (o+vs.length)) (hs.drop (o+vs.length)):=by
  have:=k.slice (o+vs.length) cs.length
  rwa [List.take_of_length_le (by simp),List.take_of_length_le (by simp[← k.1])] at this
 exact (k1.append l).append k2

theorem HR.Slt (hm:HR A T H) {r x:Nat} (hr:T.get r≠.dead) (hx:x∈A.S r):x<H.next:=by
 cases hT:T.get r with
 | dead=>exact absurd hT hr
 | tree rows z log=>exact (hm.tree r rows z log hT).1.lt hm.wh x hx
 | raw cells=>
  obtain⟨b,hs,_,m2,m3,_⟩:=hm.raw r cells hT
  rw[m2] at hx
  simp only[List.mem_singleton] at hx
  subst hx
  exact hm.wh.lt m3 (by simp)
 | mapo es=>
  obtain⟨b,hs,_,m2,m3,_⟩:=hm.mapo r es hT
  rw[m2] at hx
  simp only[List.mem_singleton] at hx
  subst hx
  exact hm.wh.lt m3 (by simp)

theorem WH.new {H:AH} (h:WH H) (o:AObj):WH (H.new o):=(HG.new h o).wh

theorem HR.hnew (hm:HR A T H) (o:AObj):HR A T (H.new o)∧Gr A T H A T (H.new o):=by
 have hf:∀ r x,T.get r≠.dead→x∈A.S r→(H.new o).get x=H.get x:=fun r x hr hx=>by rw[AH.get_new,if_neg];have:=hm.Slt hr hx;omega
 have alive:∀ {o:TO} {p g},o.valid p g=true→o≠.dead:=fun h e=>by subst e;cases h
 have hg:Gr A T H A T (H.new o):=Gr.mk (Nat.le_refl _) (fun k hk hd=>⟨hd,Nat.le_refl _⟩) fun k hk p g hgl hv=>⟨hv,fun h=>⟨h,hm.follow h fun x hx=>hf k x (alive hv) hx⟩⟩
 refine⟨hm.change (hm.wh.new o) hg (fun k=>?_) hm.apart hm.top,hg⟩
 by_cases hd:T.get k=.dead
 ·exact .inr (.inl hd)
 ·exact .inl ⟨rfl,rfl,rfl,fun x hx=>hf k x hd hx⟩

theorem HR.newRoot (hm:HR A T H) {o:TO} {ho:AObj} {hd:AV} {F:List Nat} (hgr:∀ x∈F,x=H.next∨(x<H.next∧∀ k,T.get k≠.dead→x∉A.S k))
  (hnew:∀ A',Gr A T H A' (T.new o) (H.new ho)→A'.hd T.next=hd→A'.S T.next=F→(∃ rows z log,o=.tree rows z log∧Own (H.new ho) [hd] [.vs rows z] F∧F.Nodup) ∨
   (∃ cells b hs,o=.raw cells∧hd=.sl b 0 cells.length 1 1 true∧F=[b]∧(H.new ho).get b=.cells hs∧VRL A' (T.new o) (H.new ho) cells hs) ∨
   (∃ es b hs,o=.mapo es∧hd=.mp b∧F=[b]∧(H.new ho).get b=.map hs∧MRel A' (T.new o) (H.new ho) es hs)) :
  ∃ A',HR A' (T.new o) (H.new ho)∧Gr A T H A' (T.new o) (H.new ho)∧A'.hd T.next=hd∧(∀ k,k<T.next→A'.hd k=A.hd k):=by
 have hf:∀ r x,T.get r≠.dead→x∈A.S r→(H.new ho).get x=H.get x:=fun r x hr hx=>by rw[AH.get_new,if_neg];have:=hm.Slt hr hx;omega
 have alive:∀ {o:TO} {p g},o.valid p g=true→o≠.dead:=fun h e=>by subst e;cases h
 have hg:Gr A T H { hd:=fun k=>if T.next=k then hd else A.hd k,S:=fun k=>if T.next=k then F else A.S k } (T.new o) (H.new ho):=by
  refine Gr.mk (Nat.le_succ _) (fun k hk hd'=>?_) fun k hk p g hgl hv=>?_
  ·rw[TH.get_new,if_neg (by omega)] at hd' ⊢;exact⟨hd',Nat.le_refl _⟩
  ·rw[TH.get_new,if_neg (by omega)] at hv ⊢
   simp only[if_neg (show ¬ T.next=k by omega)]
   exact⟨hv,fun h=>⟨h,hm.follow h fun x hx=>hf k x (alive hv) hx⟩⟩
 refine⟨_,hm.change (hm.wh.new ho) hg (fun k=>?_) (fun k k' x h1 h2 hne hx=>?_) (fun k hk=>?_),hg,by simp,fun k hk=>by simp only[if_neg (show ¬ T.next=k by omega)]⟩
 ·by_cases e:T.next=k
  ·subst e
   rcases hnew _ hg (by simp) (by simp) with ⟨rows,z,log,rfl,k1,k2⟩|⟨cells,b,hs,rfl,rfl,rfl,k3,k4⟩|⟨cells,b,hs,rfl,rfl,rfl,k3,k4⟩
   ·exact .inr (.inr (.inl ⟨rows,z,log,by rw[TH.get_new,if_pos rfl],by simpa using k1,by simpa using k2⟩))
   ·exact .inr (.inr (.inr (.inl ⟨cells,b,hs,by rw[TH.get_new,if_pos rfl],by simp,by simp,k3,k4⟩)))
   ·exact .inr (.inr (.inr (.inr ⟨cells,b,hs,by rw[TH.get_new,if_pos rfl],by simp,by simp,k3,k4⟩)))
  ·by_cases hd':T.get k=.dead
   ·exact .inr (.inl (by rw[TH.get_new,if_neg e];exact hd'))
   ·exact .inl ⟨by rw[TH.get_new,if_neg e],by simp[e],by simp[e],fun x hx=>hf k x hd' hx⟩
 ·rw[TH.get_new] at h1 h2
  by_cases e:T.next=k
  ·subst e
   rw[if_neg hne] at h2
   simp only[if_true,if_neg hne] at hx ⊢
   intro hx'
   rcases hgr x hx with rfl|⟨_,g2⟩
   ·have:=hm.Slt h2 hx';omega
   ·exact g2 k' h2 hx'
  ·rw[if_neg e] at h1
   simp only[if_neg e] at hx
   by_cases e':T.next=k'
   ·subst e'
    simp only[if_true]
    intro hx'
    rcases hgr x hx' with rfl|⟨_,g2⟩
    ·have:=hm.Slt h1 hx;omega
    ·exact g2 k h1 hx
   ·rw[if_neg e'] at h2
    simp only[if_neg e']
    exact hm.apart k k' x h1 h2 hne hx
 ·rw[TH.next_new] at hk
  rw[TH.get_new,if_neg (by omega)];exact hm.top k (by omega)

theorem toCells_own:∀ {vs ts:List AV},mapO toCell vs=some ts→Own H vs ts []∧ts.length=vs.length
 | [],ts,h=>by simp only[mapO] at h;cases h;exact⟨.nil,rfl⟩
 | v::vs,ts,h=>by
  simp only[mapO] at h
  split at h
  ·rename_i t ts' h1 h2
   cases h
   obtain⟨k1,k2⟩:=toCells_own h2
   exact⟨by simpa using (toCell_own (H:=H) h1).append k1,by simp[k2]⟩
  ·cases h

theorem SRT.locN (h:SRT A E T e H) {cs:List TV} {hs:List AV} (hv:VRL A T H cs hs):SRT A (E.loc cs) T (e.loc hs) H:=by
 refine⟨h.mem,h.slot,by show E.ln+1=e.ln+1;rw[h.ln],fun st cells hst=>?_⟩
 have hst':(E.L.set E.ln cs).get st=some cells:=hst
 rw[Tr.get_set] at hst'
 show ∃ x,(e.L.set e.ln hs).get st=some x∧_
 rw[Tr.get_set,← h.ln]
 split at hst'
 ·rename_i e1;rw[if_pos e1];cases hst';exact⟨hs,rfl,hv⟩
 ·rename_i e1;rw[if_neg e1];exact h.loc st cells hst'

theorem SRT.putL (h:SRT A E T e H) {st:Nat} {cs:List TV} {hs:List AV} (hv:VRL A T H cs hs):SRT A (E.putL st cs) T (e.putL st hs) H:=by
 refine⟨h.mem,h.slot,h.ln,fun st' cells hst=>?_⟩
 have hst':(E.L.set st cs).get st'=some cells:=hst
 rw[Tr.get_set] at hst'
 show ∃ x,(e.L.set st hs).get st'=some x∧_
 rw[Tr.get_set]
 split at hst'
 ·rename_i e1;rw[if_pos e1];cases hst';exact⟨hs,rfl,hv⟩
 ·rename_i e1;rw[if_neg e1];exact h.loc st' cells hst'

theorem stT_sound (h:SRT A E T e H) {a:TV} {x:AV} (ha:VR A T H a x) {cs:List TV} {hs:List AV} (hv:VRL A T H cs hs) {E':TE} {T':TH} (hr:stT E T a cs=some (E',T')) :
  ∃ e' H',writeAt e H x hs=some (e',H')∧∃ A',SRT A' E' T' e' H'∧Gr A T H A' T' H':=by
 unfold stT at hr
 split at hr
 ·rename_i st o
  cases ha
  split at hr
  ·rename_i xs hx
   split at hr
   ·rename_i hle
    cases hr
    obtain⟨ys,k1,k2⟩:=h.loc st xs hx
    refine⟨e.putL st (Ab.splice ys o hs),H, ?_,A,h.putL (k2.splice hv o),Gr.refl⟩
    simp only[writeAt,k1]
    rw[if_pos (by rw[← k2.1,← hv.1];exact hle)]
   ·cases hr
  ·cases hr
 ·rename_i r p g i j
  split at hr
  ·rename_i hval
   cases ha with
   | pt _ _ _ _ _ _ hlt hg hp hx=>
    obtain⟨hnd,b,o,sz,n0,cap,ex,hf,rfl⟩:=hx hval
    split at hr
    ·rename_i xs hT
     split at hr
     ·rename_i hc
      obtain⟨rfl,rfl,hle⟩:=hc
      cases hr
      obtain⟨b',ys,m1,m2,m3,m4⟩:=h.mem.raw r xs hT
      rw[m1,followH_nil] at hf
      cases hf
      have hbn:b<H.next:=h.mem.wh.lt m3 (by simp)
      have hw:H.write b (0+0*xs.length+j) hs=some (H.put b (.cells (Ab.splice ys j hs))):=by
       unfold AH.write
       rw[m3]
       simp only[Nat.zero_mul,Nat.zero_add]
       rw[if_pos (by rw[← m4.1,← hv.1];exact hle)]
      have hgetO:∀ y,y≠b→(H.put b (.cells (Ab.splice ys j hs))).get y=H.get y:=fun y hy=>by rw[AH.get_put',if_neg (fun e=>hy e.symm)]
      have hother:∀ k,r≠k→T.get k≠.dead→b∉A.S k:=fun k hk hd hx'=>h.mem.apart k r b hd (by rw[hT];simp) (fun e=>hk e.symm) hx' (by rw[m2];simp)
      have hgr:Gr A T H A (T.put r (.raw (spliceT xs j cs))) (H.put b (.cells (Ab.splice ys j hs))):=by
       refine Gr.mk (Nat.le_refl _) (fun k hk hd=>?_) fun k hk p2 g2 hgl hv2=>?_
       ·rw[TH.get_put] at hd ⊢
        split
        ·rename_i e1;subst e1;rw[hT];exact⟨by simp,Nat.le_refl _⟩
        ·rename_i e1;rw[if_neg e1] at hd;exact⟨hd,Nat.le_refl _⟩
       ·rw[TH.get_put] at hv2 ⊢
        split
        ·rename_i e1
         subst e1
         rw[hT]
         refine⟨rfl,fun hn=>?_⟩
         have:=raw_node hn
         subst this
         exact⟨by simp[TO.node,TO.rows,nodeA],by rw[followH_nil,followH_nil]⟩
        ·rename_i e1
         rw[if_neg e1] at hv2
         exact⟨hv2,fun hn=>⟨hn,h.mem.follow hn fun y hy=>hgetO y fun e2=>by
          subst e2
          exact hother k e1 (fun e3=>by rw[e3] at hv2;cases hv2) hy⟩⟩
      have hlen:(spliceT xs j cs).length=xs.length:=by unfold spliceT;simp;omega
      have hHR:HR A (T.put r (.raw (spliceT xs j cs))) (H.put b (.cells (Ab.splice ys j hs))):=by
       refine h.mem.change (h.mem.wh.put hbn _) hgr (fun k=>?_) (fun k k' y h1 h2=>?_) (fun k hk=>?_)
       ·by_cases e1:r=k
        ·subst e1
         exact .inr (.inr (.inr (.inl ⟨_,b,_,by rw[TH.get_put,if_pos rfl],by rw[m1,hlen],m2,by rw[AH.get_put',if_pos rfl],hgr.list (m4.splice hv j)⟩)))
        ·by_cases hd:T.get k=.dead
         ·exact .inr (.inl (by rw[TH.get_put,if_neg e1];exact hd))
         ·exact .inl ⟨by rw[TH.get_put,if_neg e1],rfl,rfl,fun y hy=>hgetO y fun e2=>by subst e2;exact hother k e1 hd hy⟩
       ·have hd:∀ k,(T.put r (.raw (spliceT xs j cs))).get k≠.dead→T.get k≠.dead:=fun k hk=>by
         rw[TH.get_put] at hk
         split at hk
         ·rename_i e1;subst e1;rw[hT];simp
         ·exact hk
        exact h.mem.apart k k' y (hd k h1) (hd k' h2)
       ·rw[TH.get_put];split
        ·rename_i e1;subst e1;exact absurd hk (by simp only[TH.next_put];omega)
        ·exact h.mem.top k hk
      refine⟨e,_, ?_,A,h.grow hgr hHR,hgr⟩
      simp only[writeAt,hw,Option.map_some]
     ·cases hr
    ·rename_i rows z log hT
     split at hr
     ·cases hr
     ·rename_i hcs
      obtain⟨T1,h1,h2⟩:=map_some hr
      cases h2

      cases cs with
      | nil=>exact absurd rfl hcs
      | cons c cs=>
       have hfirst:∃ rp t,nodeA rows p=some rp∧cellOf rp i j=some t:=by
        simp only[storeCells] at h1
        split at h1
        ·rename_i T2 h2
         unfold storeCell at h2
         rw[hT] at h2
         simp only[] at h2
         split at h2
         ·rename_i rp hrp
          split at h2
          ·rename_i t ht;exact⟨rp,t,hrp,ht⟩
          ·cases h2
         ·cases h2
        ·cases h1
       obtain⟨rp,t,hrp,ht⟩:=hfirst
       obtain⟨row,hi,hj⟩:=cellOf_some ht
       obtain⟨b',o',sz',cap',ex',ws,cc,Sc,q1,q2,q3,q4,q5,q6⟩:=h.mem.node hT hrp hi hj
       rw[hf] at q1
       cases q1
       have hbn:b<H.next:=h.mem.wh.lt q2 (by simp)
       have hk:=(List.getElem?_eq_some_iff.1 q5).1
       obtain⟨A',a1,a2,a3,_⟩:=storeCells_sound h.mem hv h1 hf q2 hbn (by omega)
       refine⟨e,_, ?_,A',h.grow a2 a1,a2⟩
       simp only[writeAt,AH.write,q2]
       rw[if_pos a3];rfl
    ·cases hr
  ·cases hr
 ·cases hr

end
end Go.Ab

namespace Go.Ab

section
variable {A:Anc} {T:TH} {H:AH} {E:TE} {e:Env}

def OpTo (A:Anc) (T:TH) (e:Env) (H:AH) (mo:MOp) (v:TV) (E':TE) (T':TH):Prop:=
 ∃ h e' H',aop e H mo=some (h,e',H')∧∃ A',SRT A' E' T' e' H'∧VR A' T' H' v h∧Gr A T H A' T' H'

theorem partsT_sound (h:SRT A E T e H):∀ {ps:List (Nat × Nat × Opd)} {vs:List (Nat × Nat × TV)},partsT E ps=some vs→∃ ys:List (Nat × Nat × AV),(ps.mapM fun p=>(e.val p.2.2).map fun v=>(p.1,p.2.1,v))=some ys∧vs.length=ys.length ∧
  ∀ (k:Nat) x y,vs[k]? = some x→ys[k]? = some y→x.1=y.1∧x.2.1=y.2.1∧VR A T H x.2.2 y.2.2
 | [],vs,hv=>by simp only[partsT] at hv;cases hv;exact⟨[],rfl,rfl,by simp⟩
 | (off,n,x)::ps,vs,hv=>by
  simp only[partsT] at hv
  split at hv
  ·rename_i v vs' h1 h2
   cases hv
   obtain⟨y,k1,k2⟩:=valT_sound h h1
   obtain⟨ys,k3,k4,k5⟩:=partsT_sound h h2
   refine⟨(off,n,y)::ys, ?_,by simp[k4],fun k a b ha hb=>?_⟩
   ·rw[mapM_val] at k3 ⊢
    simp only[mapO,k1,k3,Option.map_some]
   ·cases k with
    | zero=>simp only[List.getElem?_cons_zero,Option.some.injEq] at ha hb;subst ha;subst hb;exact⟨rfl,rfl,k2⟩
    | succ k=>exact k5 k a b (by simpa using ha) (by simpa using hb)
  ·cases hv

theorem fillT_sound:∀ {vs:List (Nat × Nat × TV)} {ys:List (Nat × Nat × AV)} {cells r:List TV} {hs:List AV},VRL A T H cells hs→vs.length=ys.length→(∀ (k:Nat) x y,vs[k]? = some x→ys[k]? = some y→x.1=y.1∧x.2.1=y.2.1∧VR A T H x.2.2 y.2.2) →
  fillT cells vs=some r→∃ hs',fillA hs ys=some hs'∧VRL A T H r hs'
 | [],ys,cells,r,hs,hv,hl,hk,hf=>by
  simp only[fillT,Option.some.injEq] at hf
  subst hf
  cases ys with
  | nil=>exact⟨hs,rfl,hv⟩
  | cons _ _=>simp at hl
 | (off,n,v)::vs,ys,cells,r,hs,hv,hl,hk,hf=>by
  cases ys with
  | nil=>simp at hl
  | cons y ys=>
   obtain⟨off',n',y⟩:=y
   obtain⟨e1,e2,k1⟩:=hk 0 _ _ rfl rfl
   simp only at e1 e2 k1
   subst e1;subst e2
   simp only[fillT] at hf
   split at hf
   ·rename_i ws hw
    split at hf
    ·rename_i hc
     obtain⟨m1,m2⟩:=tvCells_sound k1 hw
     obtain⟨hs',m3,m4⟩:=fillT_sound (ys:=ys) (hv.splice m2 off) (by simpa using hl) (fun k a b ha hb=>hk (k+1) a b (by simpa using ha) (by simpa using hb)) hf
     refine⟨hs', ?_,m4⟩
     simp only[fillA]
     rw[if_pos ⟨m1,by rw[← m2.1];exact hc.1,by rw[← hv.1];exact hc.2⟩]
     exact m3
    ·cases hf
   ·cases hf

theorem VRL.nilp (cs:List TV) {hs:List AV} (h:VRL A T H cs hs):cs.length=hs.length:=h.1

theorem new_place {A':Anc} {T':TH} {H':AH} {r b n cap:Nat} {ex:Bool} {k m:Nat} (hr:r<T'.next) (hn:(T'.get r).node []≠none) (hd:A'.hd r=.sl b 0 n k cap ex) (hg:m≤(T'.get r).glen):VR A' T' H' (.pt r [] m 0 0) (.ptr b 0):=
 .pt r [] m 0 0 _ hr (fun _=>hg) ⟨_,_,rfl⟩ fun _=>⟨hn,b,0,n,k,cap,ex,by rw[followH_nil,hd],by simp⟩

theorem AH.get_new_self (H:AH) (o:AObj):(H.new o).get H.next=o:=by rw[AH.get_new,if_pos rfl]

theorem repl_own {H:AH} {zero row:List AV} (h:Own H zero row []):∀ n,Own H (repl zero n) (List.replicate n row).flatten []
 | 0=>by simpa [repl] using Own.nil
 | n+1=>by
  rw[List.replicate_succ,List.flatten_cons]
  simpa [repl] using h.append (repl_own h n)

theorem new_array (hm:HR A T H) {zero row:List AV} {len:Nat} (hr:mapO toCell zero=some row) (hz:0<zero.length) :
  ∃ A',HR A' (T.new (.tree (List.replicate len row) true [])) (H.new (.cells (repl zero len)))∧Gr A T H A' (T.new (.tree (List.replicate len row) true [])) (H.new (.cells (repl zero len)))∧A'.hd T.next=.sl H.next 0 zero.length len len true:=by
 obtain⟨A',k1,k2,k3,_⟩:=hm.newRoot (o:=.tree (List.replicate len row) true []) (ho:=.cells (repl zero len)) (hd:=.sl H.next 0 zero.length len len true) (F:=if len=0 then [] else [H.next])
  (fun x hx=>by split at hx<;>simp at hx;exact .inl hx) (fun A' hg h1 h2=>by
   refine .inl ⟨_,_,_,rfl, ?_,by split<;>simp⟩
   obtain⟨o1,o2⟩:=toCells_own (H:=H.new (.cells (repl zero len))) hr
   by_cases h0:len=0
   ·subst h0
    rw[if_pos rfl]
    exact .emp rfl (fun _=>rfl) .nil
   ·rw[if_neg h0]
    have:=Own.sl (H:=H.new (.cells (repl zero len))) (b:=H.next) (o:=0) (sz:=zero.length) (ex:=true) (z:=true) (rows:=List.replicate len row) (cs:=repl zero len) (S1:=[]) (S2:=[]) (hs:=[]) (ts:=[])
     (fun e=>by have:=congrArg List.length e;simp at this;omega) (by
      unfold AH.read
      rw[AH.get_new_self]
      simp only[slice,List.length_replicate]
      rw[if_pos (by rw[repl_length];omega),List.drop_zero,List.take_of_length_le (by rw[repl_length];exact Nat.le_refl _)])
     (fun row' hrow=>by have:=List.eq_of_mem_replicate hrow;subst this;exact o2) (repl_own o1 len) .nil
    simpa using this)
 exact⟨A',k1,k2,k3⟩

theorem storeCells_first {T T':TH} {r i j:Nat} {p:Path} {v:TV} {vs:List TV} (h:storeCells T r p i j (v::vs)=some T'):∃ rows z log rp t,T.get r=.tree rows z log∧nodeA rows p=some rp∧cellOf rp i j=some t:=by
 simp only[storeCells] at h
 split at h
 ·rename_i T2 h2
  unfold storeCell at h2
  split at h2
  ·rename_i rows z log hT
   split at h2
   ·rename_i rp hrp
    split at h2
    ·rename_i t ht;exact⟨rows,z,log,rp,t,hT,hrp,ht⟩
    ·cases h2
   ·cases h2
  ·cases h2
 ·cases h

theorem rowsT_sound {r b sz n cap:Nat} {ex:Bool}:∀ {ps:List (Nat × Opd)} {A:Anc} {T T':TH} {H:AH} {cs:List AV},SRT A E T e H→rowsT E T r sz ps=some T'→A.hd r=.sl b 0 sz n cap ex→0<sz→H.get b=.cells cs→b<H.next →
  ∃ ys:List (Nat × Nat × AV),(ps.mapM fun p=>(e.val p.2).map fun v=>(p.1*sz,sz,v))=some ys∧∃ cs',fillA cs ys=some cs'∧∃ A',HR A' T' (H.put b (.cells cs'))∧Gr A T H A' T' (H.put b (.cells cs'))∧A'.hd=A.hd
 | [],A,T,T',H,cs,h,hr,hd,hpos,hb,hbn=>by
  simp only[rowsT,Option.some.injEq] at hr
  subst hr
  obtain⟨g1,g2⟩:=h.mem.congr (H':=H.put b (.cells cs)) (h.mem.wh.put hbn _) fun x=>by
   rw[AH.get_put'];split
   ·rename_i e;subst e;exact hb.symm
   ·rfl
  exact⟨[],rfl,cs,rfl,A,g1,g2,rfl⟩
 | (i,x)::ps,A,T,T',H,cs,h,hr,hd,hpos,hb,hbn=>by
  simp only[rowsT] at hr
  split at hr
  ·rename_i v hv
   split at hr
   ·rename_i ws hw
    split at hr
    ·rename_i hlen
     split at hr
     ·rename_i T1 h1
      obtain⟨y,k1,k2⟩:=valT_sound h hv
      obtain⟨m1,m2⟩:=tvCells_sound k2 hw
      by_cases hle:i*sz≤cs.length
      ·obtain⟨A1,a1,a2,a3,a4⟩:=storeCells_sound (i:=i) (j:=0) h.mem m2 h1 (by rw[followH_nil,hd]) hb hbn (by omega)
       simp only[Nat.zero_add,Nat.add_zero] at a1 a2 a3
       have hb1:(H.put b (.cells (Ab.splice cs (i*sz) y.cells))).get b=.cells (Ab.splice cs (i*sz) y.cells):=by rw[AH.get_put',if_pos rfl]
       obtain⟨ys,c1,cs',c2,A2,c3,c4,c5⟩:=rowsT_sound (h.grow a2 a1) hr (by rw[a4];exact hd) hpos hb1 hbn
       obtain⟨g1,g2⟩:=c3.congr (H':=H.put b (.cells cs')) (h.mem.wh.put hbn _) fun x=>by simp only[AH.get_put'];split<;>rfl
       refine⟨(i*sz,sz,y)::ys, ?_,cs', ?_,A2,g1,a2.trans (c4.trans g2),by rw[c5,a4]⟩
       ·rw[mapM_val] at c1 ⊢
        simp only[mapO,k1,c1,Option.map_some]
       ·simp only[fillA]
        rw[if_pos ⟨m1,by rw[← m2.1];exact hlen,by have:=m2.1;omega⟩]
        exact c2
      ·exfalso
       cases ws with
       | nil=>simp at hlen;omega
       | cons w ws=>
        obtain⟨rows,z,log,rp,t,f1,f2,f3⟩:=storeCells_first h1
        obtain⟨row,f4,f5⟩:=cellOf_some f3
        obtain⟨b',o',sz',cap',ex',ws',cc,Sc,q1,q2,q3,q4,q5,q6⟩:=h.mem.node f1 f2 f4 f5
        rw[hd,followH_nil] at q1
        cases q1
        rw[hb] at q2
        cases q2
        have:=(List.getElem?_eq_some_iff.1 q5).1
        omega
     ·cases hr
    ·cases hr
   ·cases hr
  ·cases hr

theorem MRel.tail {A:Anc} {T:TH} {H:AH} {p:Int × TV} {es:List (Int × TV)} {q:AV × AV} {hs:List (AV × AV)} (h:MRel A T H (p::es) (q::hs)):MRel A T H es hs:=
 ⟨by simpa using h.1,fun k n c hk=>by simpa using h.2 (k+1) n c (by simpa using hk)⟩
theorem MRel.head {A:Anc} {T:TH} {H:AH} {p:Int × TV} {es:List (Int × TV)} {q:AV × AV} {hs:List (AV × AV)} (h:MRel A T H (p::es) (q::hs)):∃ x,q=(.int .i64 p.1,x)∧VR A T H p.2 x:=by
 obtain⟨x,h1,h2⟩:=h.2 0 p.1 p.2 rfl
 exact⟨x,by simpa using h1,h2⟩
theorem MRel.snoc {A:Anc} {T:TH} {H:AH} {es:List (Int × TV)} {hs:List (AV × AV)} (h:MRel A T H es hs) {n:Int} {c:TV} {x:AV} (hv:VR A T H c x):MRel A T H (es++[(n,c)]) (hs++[(.int .i64 n,x)]):=
 ⟨by simp[h.1],fun k m d hk=>by
  rcases Nat.lt_or_ge k es.length with hh|hh
  ·rw[List.getElem?_append_left hh] at hk
   rw[List.getElem?_append_left (by rw[h.1];exact hh)]
   exact h.2 k m d hk
  ·rw[List.getElem?_append_right hh] at hk
   rw[List.getElem?_append_right (by rw[h.1];exact hh),h.1]
   cases e:k - es.length with
   | zero=>rw[e] at hk;simp only[List.getElem?_cons_zero,Option.some.injEq,Prod.mk.injEq] at hk ⊢;obtain⟨rfl,rfl⟩:=hk;exact⟨x,⟨rfl,rfl⟩,hv⟩
   | succ j=>rw[e] at hk;simp at hk⟩

theorem keyGet_none {A:Anc} {T:TH} {H:AH} {n:Int}:∀ {es:List (Int × TV)} {hs:List (AV × AV)},MRel A T H es hs→es.all (fun p=>p.1 != n)=true→keyGet .i64 n hs=some none
 | [],[],_,_=>rfl
 | [],_::_,h,_=>by have:=h.1;simp at this
 | _::_,[],h,_=>by have:=h.1;simp at this
 | p::es,q::hs,h,ha=>by
  obtain⟨x,rfl,_⟩:=h.head
  simp only[List.all_cons,Bool.and_eq_true,bne_iff_ne,ne_eq] at ha
  simp only[keyGet,if_true,if_neg ha.1]
  exact keyGet_none h.tail ha.2

theorem keyGet_some {A:Anc} {T:TH} {H:AH} {n:Int}:∀ {es:List (Int × TV)} {hs:List (AV × AV)} {p:Int × TV},MRel A T H es hs→es.find? (fun p=>p.1==n)=some p→∃ x,keyGet .i64 n hs=some (some x)∧VR A T H p.2 x
 | [],_,_,_,hf=>by cases hf
 | _::_,[],_,h,_=>by have:=h.1;simp at this
 | q::es,q'::hs,p,h,hf=>by
  obtain⟨x,rfl,hx⟩:=h.head
  by_cases e:q.1=n
  ·rw[List.find?_cons_of_pos (by simpa using e)] at hf
   cases hf
   exact⟨x,by simp only[keyGet,if_true,if_pos e],hx⟩
  ·rw[List.find?_cons_of_neg (by simpa using e)] at hf
   obtain⟨y,h1,h2⟩:=keyGet_some h.tail hf
   exact⟨y,by simp only[keyGet,if_true,if_neg e];exact h1,h2⟩

theorem opW_sound (h:SRT A E T e H) {mo:MOp} {v:TV} {E':TE} {T':TH} (ho:opW E T mo=some (v,E',T')):OpTo A T e H mo v E' T':=by
 cases mo with
 | alloc zero=>
  simp only[opW] at ho
  cases ho
  obtain⟨A',k1,k2,k3,_⟩:=h.mem.newRoot (o:=.raw (zero.map .a)) (ho:=.cells zero) (hd:=.sl H.next 0 (zero.map TV.a).length 1 1 true) (F:=[H.next]) (fun x hx=>.inl (by simpa using hx)) (fun A' hg h1 h2=>
   .inr (.inl ⟨zero.map .a,H.next,_,rfl,rfl,rfl,AH.get_new_self _ _,VRL.atoms zero⟩))
  exact⟨_,_,_,rfl,A',h.grow k2 k1,new_place (by rw[TH.next_new];omega) (by rw[TH.get_new,if_pos rfl];simp[TO.node,TO.rows,nodeA]) k3 (Nat.zero_le _),k2⟩
 | allocL zero=>
  simp only[opW] at ho
  cases ho
  exact⟨_,_,_,rfl,A,h.locN (VRL.atoms zero),by rw[h.ln];exact .lp _ _,Gr.refl⟩
 | box x=>
  simp only[opW] at ho
  obtain⟨cs,h1,h2⟩:=map_some ho
  cases h2
  obtain⟨m1,m2⟩:=tvCells_sound (h.opd x) h1
  obtain⟨A',k1,k2,k3,_⟩:=h.mem.newRoot (o:=.raw cs) (ho:=.cells (e.raw x).cells) (hd:=.sl H.next 0 cs.length 1 1 true) (F:=[H.next]) (fun x hx=>.inl (by simpa using hx)) (fun A' hg h1 h2=>
   .inr (.inl ⟨cs,H.next,_,rfl,rfl,rfl,AH.get_new_self _ _,hg.list m2⟩))
  exact⟨.ptr H.next 0,e,H.new (.cells (e.raw x).cells),by simp only[aop];rw[if_pos m1],A',h.grow k2 k1,new_place (by rw[TH.next_new];omega) (by rw[TH.get_new,if_pos rfl];simp[TO.node,TO.rows,nodeA]) k3 (Nat.zero_le _),k2⟩
 | boxL x=>
  simp only[opW] at ho
  obtain⟨cs,h1,h2⟩:=map_some ho
  cases h2
  obtain⟨m1,m2⟩:=tvCells_sound (h.opd x) h1
  exact⟨.lp e.ln 0,e.loc (e.raw x).cells,H,by simp only[aop];rw[if_pos m1],A,h.locN m2,by rw[h.ln];exact .lp _ _,Gr.refl⟩
 | build zero parts=>
  simp only[opW] at ho
  split at ho
  ·rename_i ps hps
   obtain⟨cs,h1,h2⟩:=map_some ho
   cases h2
   obtain⟨ys,k1,k2,k3⟩:=partsT_sound h hps
   obtain⟨hs',m1,m2⟩:=fillT_sound (VRL.atoms zero) k2 k3 h1
   exact⟨.agg hs',e,H,by simp only[aop,k1,m1,Option.map_some],A,h,m2.mkAg,Gr.refl⟩
  ·cases ho
 | st1 a x=>
  simp only[opW] at ho
  split at ho
  ·rename_i hone
   obtain⟨⟨E1,T1⟩,h1,h2⟩:=map_some ho
   cases h2
   have hx:=h.opd x
   obtain⟨e',H',k1,A',k2,k3⟩:=stT_sound h (h.opd a) (VRL.cons hx VRL.nil) h1
   exact⟨.tup [],e',H',by simp only[aop];rw[if_pos (tvOne_sound hx hone),k1];rfl,A',k2,.tu [] [] rfl (by simp),k3⟩
  ·cases ho
 | stn n a x=>
  simp only[opW] at ho
  split at ho
  ·rename_i cs hcs
   split at ho
   ·rename_i hn
    obtain⟨⟨E1,T1⟩,h1,h2⟩:=map_some ho
    cases h2
    obtain⟨m1,m2⟩:=tvCells_sound (h.opd x) hcs
    obtain⟨e',H',k1,A',k2,k3⟩:=stT_sound h (h.opd a) m2 h1
    exact⟨.tup [],e',H',by simp only[aop];rw[if_pos ⟨m1,by rw[← m2.1];exact hn⟩,k1];rfl,A',k2,.tu [] [] rfl (by simp),k3⟩
   ·cases ho
  ·cases ho
 | mkmap=>
  simp only[opW] at ho
  cases ho
  obtain⟨A',k1,k2,k3,_⟩:=h.mem.newRoot (o:=.mapo []) (ho:=.map []) (hd:=.mp H.next) (F:=[H.next]) (fun x hx=>.inl (by simpa using hx)) (fun A' hg h1 h2=>
   .inr (.inr ⟨[],H.next,[],rfl,rfl,rfl,AH.get_new_self _ _,rfl,fun k n c hk=>by simp at hk⟩))
  exact⟨_,_,_,rfl,A',h.grow k2 k1,.mp _ _ (by rw[TH.next_new];omega) ⟨_,rfl⟩ (fun _=>⟨by rw[TH.get_new,if_pos rfl];simp[TO.node,TO.rows,nodeA],by rw[followH_nil,k3]⟩),k2⟩
 | mset m k x=>
  simp only[opW] at ho
  have hm:=h.opd m
  have hk:=h.opd k
  split at ho
  ·rename_i r n c0 e1 e2 e3
   rw[e1] at hm;rw[e2] at hk
   split at ho
   ·rename_i es hT
    split at ho
    ·rename_i hall
     cases ho
     obtain⟨yv,y1,y2⟩:=valT_sound h e3
     obtain⟨b,hs,m1,m2,m3,m4⟩:=h.mem.mapo r es hT
     generalize hmv:e.raw m=mv at hm
     cases hm with
     | mp _ _ hr hp hx=>
      obtain⟨_,hx2⟩:=hx (by rw[hT];rfl)
      rw[m1,followH_nil] at hx2
      cases hx2
      have hbn:b<H.next:=h.mem.wh.lt m3 (by simp)
      have hkey:=keyGet_none m4 hall
      have hgetO:∀ y,y≠b→(H.put b (.map (hs++[(.int .i64 n,yv)]))).get y=H.get y:=fun y hy=>by rw[AH.get_put',if_neg (fun e=>hy e.symm)]
      have hother:∀ k,r≠k→T.get k≠.dead→b∉A.S k:=fun k hk hd hx'=>h.mem.apart k r b hd (by rw[hT];simp) (fun e=>hk e.symm) hx' (by rw[m2];simp)
      have hgr:Gr A T H A (T.put r (.mapo (es++[(n,c0)]))) (H.put b (.map (hs++[(.int .i64 n,yv)]))):=by
       refine Gr.mk (Nat.le_refl _) (fun k hk hd=>?_) fun k hk p2 g2 hgl hv2=>?_
       ·rw[TH.get_put] at hd ⊢
        split
        ·rename_i e1;subst e1;rw[hT];exact⟨by simp,Nat.le_refl _⟩
        ·rename_i e1;rw[if_neg e1] at hd;exact⟨hd,Nat.le_refl _⟩
       ·rw[TH.get_put] at hv2 ⊢
        split
        ·rename_i e1
         subst e1
         rw[hT]
         refine⟨rfl,fun hn=>?_⟩
         have:=mapo_node hn
         subst this
         exact⟨by simp[TO.node,TO.rows,nodeA],by rw[followH_nil,followH_nil]⟩
        ·rename_i e1
         rw[if_neg e1] at hv2
         exact⟨hv2,fun hn=>⟨hn,h.mem.follow hn fun y hy=>hgetO y fun e2=>by
          subst e2
          exact hother k e1 (fun e3=>by rw[e3] at hv2;cases hv2) hy⟩⟩
      have hHR:HR A (T.put r (.mapo (es++[(n,c0)]))) (H.put b (.map (hs++[(.int .i64 n,yv)]))):=by
       refine h.mem.change (h.mem.wh.put hbn _) hgr (fun k=>?_) (fun k k' y h1 h2=>?_) (fun k hk=>?_)
       ·by_cases e1:r=k
        ·subst e1
         exact .inr (.inr (.inr (.inr ⟨_,b,_,by rw[TH.get_put,if_pos rfl],m1,m2,by rw[AH.get_put',if_pos rfl],(hgr.map m4).snoc (hgr _ _ y2)⟩)))
        ·by_cases hd:T.get k=.dead
         ·exact .inr (.inl (by rw[TH.get_put,if_neg e1];exact hd))
         ·exact .inl ⟨by rw[TH.get_put,if_neg e1],rfl,rfl,fun y hy=>hgetO y fun e2=>by subst e2;exact hother k e1 hd hy⟩
       ·have hd:∀ k,(T.put r (.mapo (es++[(n,c0)]))).get k≠.dead→T.get k≠.dead:=fun k hk=>by
         rw[TH.get_put] at hk
         split at hk
         ·rename_i e1;subst e1;rw[hT];simp
         ·exact hk
        exact h.mem.apart k k' y (hd k h1) (hd k' h2)
       ·rw[TH.get_put];split
        ·rename_i e1;subst e1;exact absurd hk (by simp only[TH.next_put];omega)
        ·exact h.mem.top k hk
      exact⟨.tup [],e,_,by simp only[aop,hmv,hk.inv_a,y1,m3,hkey],A,h.grow hgr hHR,.tu [] [] rfl (by simp),hgr⟩
    ·cases ho
   ·cases ho
  ·cases ho
 | mget z m k=>
  simp only[opW] at ho
  have hm:=h.opd m
  have hk:=h.opd k
  split at ho
  ·rename_i r n e1 e2
   rw[e1] at hm;rw[e2] at hk
   split at ho
   ·rename_i es hT
    obtain⟨b,hs,m1,m2,m3,m4⟩:=h.mem.mapo r es hT
    generalize hmv:e.raw m=mv at hm
    cases hm with
    | mp _ _ hr hp hx=>
     obtain⟨_,hx2⟩:=hx (by rw[hT];rfl)
     rw[m1,followH_nil] at hx2
     cases hx2
     split at ho
     ·rename_i p hf
      cases ho
      obtain⟨x,g1,g2⟩:=keyGet_some m4 hf
      exact⟨.tup [x,.bool true],e,H,by simp only[aop,hmv,hk.inv_a,m3,g1],A,h,.tu _ _ rfl (fun k c h' h1 h2=>by
       match k,h1,h2 with
       | 0,h1,h2=>simp only[List.getElem?_cons_zero,Option.some.injEq] at h1 h2;subst h1;subst h2;exact g2
       | 1,h1,h2=>simp only[List.getElem?_cons_succ,List.getElem?_cons_zero,Option.some.injEq] at h1 h2;subst h1;subst h2;exact .a _
       | k+2,h1,h2=>simp at h1),Gr.refl⟩
     ·rename_i hf
      cases ho
      have g1:=keyGet_none m4 (by
       rw[List.all_eq_true];intro p hp
       have:=List.find?_eq_none.1 hf p hp
       simpa [bne] using this)
      exact⟨.tup [z,.bool false],e,H,by simp only[aop,hmv,hk.inv_a,m3,g1],A,h,.tu _ _ rfl (fun k c h' h1 h2=>by
       match k,h1,h2 with
       | 0,h1,h2=>simp only[List.getElem?_cons_zero,Option.some.injEq] at h1 h2;subst h1;subst h2;exact .a _
       | 1,h1,h2=>simp only[List.getElem?_cons_succ,List.getElem?_cons_zero,Option.some.injEq] at h1 h2;subst h1;subst h2;exact .a _
       | k+2,h1,h2=>simp at h1),Gr.refl⟩
   ·cases ho
  ·cases ho
 | mksl sz bytes zero l c=>
  simp only[opW] at ho
  have hl:=h.opd l
  have hc:=h.opd c
  split at ho
  ·rename_i l' c' e1 e2
   rw[e1] at hl;rw[e2] at hc
   split at ho
   ·rename_i hh
    obtain⟨rfl,h0,h1,h2,h3,h4⟩:=hh
    obtain⟨row,k1,k2⟩:=map_some ho
    cases k2
    obtain⟨A',m1,m2,m3⟩:=new_array h.mem (len:=l'.toNat) k1 (by omega)
    refine⟨.sl H.next 0 sz l'.toNat l'.toNat true,e,H.new (.cells (repl zero l'.toNat)), ?_,A',h.grow m2 m1, ?_,m2⟩
    ·simp only[aop,hl.inv_a,hc.inv_a]
     rw[if_pos ⟨h0,Int.le_refl _,h1,h2⟩]
    ·refine .sl _ _ _ _ _ _ _ (by rw[TH.next_new];omega) (fun _=>Nat.zero_le _) rfl fun _=>⟨by rw[TH.get_new,if_pos rfl];simp[TO.node,TO.rows,nodeA],_,by rw[followH_nil,m3],fun _=>⟨by rw[h3],rfl⟩,.inr ⟨_,_,_,_,_,_,l'.toNat,true,rfl,by rw[Nat.zero_mul,h3],Nat.le_refl _,Nat.zero_add _⟩⟩
   ·cases ho
  ·cases ho
 | bsl sz len zero parts=>
  simp only[opW] at ho
  split at ho
  ·split at ho
   ·cases ho
    obtain⟨g1,g2⟩:=h.mem.hnew (.cells [])
    exact⟨.sl H.next 0 sz 0 0 true,e,H.new (.cells []),rfl,A,h.grow g2 g1,.es _ rfl,g2⟩
   ·cases ho
  ·rename_i hl0
   split at ho
   ·rename_i hh
    obtain⟨hz,hpos⟩:=hh
    split at ho
    ·rename_i row hrow
     obtain⟨T1,h1,h2⟩:=map_some ho
     cases h2
     obtain⟨A1,m1,m2,m3⟩:=new_array h.mem (len:=len) hrow (by omega)
     obtain⟨ys,c1,cs',c2,A2,c3,c4,c5⟩:=rowsT_sound (h.grow m2 m1) h1 (by rw[m3,hz]) hpos (AH.get_new_self _ _) (by show H.next<H.next+1;omega)
     obtain⟨g1,g2⟩:=c3.congr (H':=H.new (.cells cs')) (h.mem.wh.new _) fun x=>by
      rw[AH.get_put',AH.get_new,AH.get_new];split
      ·rfl
      ·rfl
     refine⟨.sl H.next 0 sz len len true,e,H.new (.cells cs'),by simp only[aop,c1,c2,Option.map_some],A2,h.grow (m2.trans (c4.trans g2)) g1, ?_,m2.trans (c4.trans g2)⟩
     refine (c4.trans g2) _ _ (.sl _ _ _ _ _ _ _ (by rw[TH.next_new];omega) (fun _=>Nat.zero_le _) rfl fun _=>⟨by rw[TH.get_new,if_pos rfl];simp[TO.node,TO.rows,nodeA],_,by rw[followH_nil,m3],fun _=>⟨by rw[hz],rfl⟩,.inr ⟨_,_,_,_,_,_,len,true,rfl,by rw[Nat.zero_mul,hz],Nat.le_refl _,Nat.zero_add _⟩⟩)
    ·cases ho
   ·cases ho
 | _=>simp[opW] at ho

end
end Go.Ab

namespace Go.Ab

def okC:Nat→AV→Bool
 | d,t=>match t with
  | .vs rows _=>match d with
   | 0=>false
   | d+1=>rows.all fun row=>row.all (okC d)
  | t=>flatV t

def unz:Nat→AV→AV
 | d,t=>match t with
  | .vs rows _=>match d with
   | 0=>t
   | d+1=>.vs (rows.map fun row=>row.map (unz d)) false
  | t=>t

theorem unz_flat {d:Nat} {t:AV} (h:flatV t=true):unz d t=t:=by
 unfold flatV at h;split at h<;>first|(cases d<;>rfl)|cases h
theorem freeze_flat {H:AH} {d:Nat} {t:AV} (h:flatV t=true):freeze H (d+1) t=some t:=by
 unfold flatV at h;split at h<;>first|rfl|cases h

theorem rows_flatten {sz:Nat}:∀ (rs:List (List AV)),(∀ row∈rs,row.length=sz)→rows sz rs.flatten rs.length=rs
 | rs,hz=>by
  apply List.ext_getElem?
  intro i
  unfold rows
  rw[List.getElem?_map]
  rcases Nat.lt_or_ge i rs.length with h|h
  ·rw[List.getElem?_range h,List.getElem?_eq_getElem h]
   simp only[Option.map_some,Option.some.injEq]
   have hl:=hz rs[i] (List.getElem_mem h)
   have hfl:=flat_len hz
   have hle:i*sz+sz≤rs.length*sz:=by
    have:(i+1)*sz≤rs.length*sz:=Nat.mul_le_mul_right _ h
    rwa [Nat.succ_mul] at this
   apply List.ext_getElem?
   intro j
   rw[List.getElem?_take]
   split
   ·rename_i hj
    rw[List.getElem?_drop]
    have hjr:j<rs[i].length:=by omega
    rw[List.getElem?_eq_getElem hjr]
    exact flat_get hz (List.getElem?_eq_getElem h) (List.getElem?_eq_getElem hjr)
   ·rename_i hj
    rw[List.getElem?_eq_none (by omega)]
  ·rw[List.getElem?_eq_none (by simpa using h),List.getElem?_eq_none h];rfl

theorem all_flatten {f:AV→Bool} {rs:List (List AV)} (h:rs.all (fun row=>row.all f)=true):rs.flatten.all f=true:=by
 simp only[List.all_eq_true,List.mem_flatten] at h ⊢
 rintro x ⟨row,hr,hx⟩
 exact h row hr x hx

theorem freeze_own {H:AH} {hs ts:List AV} {S:List Nat} (h:Own H hs ts S):∀ d,ts.all (okC d)=true→mapO (freeze H (d+1)) hs=some (ts.map (unz d)):=by
 induction h with
 | nil=>intro d _;rfl
 | flat hf h ih=>
  intro d hd
  simp only[List.all_cons,Bool.and_eq_true] at hd
  simp only[mapO,freeze_flat hf,ih d hd.2,List.map_cons,unz_flat hf]
 | @emp v z hs ts S h0 hf h ih=>
  intro d hd
  simp only[List.all_cons,Bool.and_eq_true] at hd
  have e1:freeze H (d+1) v=some (.vs [] false):=by
   unfold slenV at h0
   split at h0
   ·rfl
   ·rename_i es z'
    cases es with
    | nil=>rfl
    | cons _ _=>simp at h0
   ·cases h0;rfl
   ·cases h0
  have e2:unz d (.vs [] z)=.vs [] false:=by
   cases d with
   | zero=>simp[okC] at hd
   | succ d=>rfl
  simp only[mapO,e1,ih d hd.2,List.map_cons,e2]
 | mark hf h ih=>intro d hd;simp only[List.all_cons,Bool.and_eq_true] at hd;cases d<;>simp[okC,flatV] at hd
 | hole h ih=>intro d hd;simp only[List.all_cons,Bool.and_eq_true] at hd;cases d<;>simp[okC,flatV] at hd
 | cut=>intro d hd;simp only[List.all_cons,Bool.and_eq_true] at hd;cases d<;>simp[okC,flatV] at hd
 | @sl b o sz ex z rs cs hs ts S1 S2 hne hr hz h1 h ih1 ih2=>
  intro d hd
  simp only[List.all_cons,Bool.and_eq_true] at hd
  cases d with
  | zero=>simp[okC] at hd
  | succ d=>
   obtain⟨hd1,hd2⟩:=hd
   have hd1':rs.all (fun row=>row.all (okC d))=true:=hd1
   have k1:=ih1 d (all_flatten hd1')
   have e1:freeze H (d+1+1) (.sl b o sz rs.length rs.length ex)=some (.vs (rs.map fun row=>row.map (unz d)) false):=by
    have e0:freeze H (d+1+1) (.sl b o sz rs.length rs.length ex)=if rs.length=0 then some (.vs [] false) else match H.read b o (rs.length*sz) with
     | some cs=>(mapO (freeze H (d+1)) cs).map fun ts=>.vs (Ab.rows sz ts rs.length) false
     | none=>none:=rfl
    rw[e0,if_neg (fun e=>hne (List.length_eq_zero_iff.1 e)),hr]
    simp only[k1,Option.map_some]
    have:=rows_flatten (sz:=sz) (rs.map fun row=>row.map (unz d)) (fun row hrow=>by
     obtain⟨x,hx,rfl⟩:=List.mem_map.1 hrow
     rw[List.length_map];exact hz x hx)
    rw[List.length_map] at this
    rw[List.map_flatten,this]
   simp only[mapO,e1,ih2 (d+1) hd2,List.map_cons]
   rfl

def okZ:Nat→AV→Bool
 | d,t=>match t with
  | .vs rows _=>match d with
   | 0=>false
   | d+1=>rows.all fun row=>row.all (okZ d)
  | .ifc 0 (.vs rows _)=>match d with
   | 0=>false
   | d+1=>rows.all fun row=>row.all (okZ d)
  | .tup [.vs _ _]=>true
  | t=>flatV t
def unzZ:Nat→AV→AV
 | d,t=>match t with
  | .vs rows _=>match d with
   | 0=>t
   | d+1=>.vs (rows.map fun row=>row.map (unzZ d)) false
  | .ifc 0 (.vs rows _)=>match d with
   | 0=>t
   | d+1=>.vs (rows.map fun row=>row.map (unzZ d)) false
  | .tup [.vs rows _]=>.vs rows false
  | t=>t
theorem unzZ_flat {d:Nat} {t:AV} (h:flatV t=true):unzZ d t=t:=by
 unfold flatV at h;split at h<;>first|(cases d<;>rfl)|cases h

theorem freeze_ownZ {H:AH} {hs ts:List AV} {S:List Nat} (h:Own H hs ts S):∀ d,ts.all (okZ d)=true→mapO (freeze H (d+1)) hs=some (ts.map (unzZ d)):=by
 induction h with
 | nil=>intro d _;rfl
 | flat hf h ih=>
  intro d hd
  simp only[List.all_cons,Bool.and_eq_true] at hd
  simp only[mapO,freeze_flat hf,ih d hd.2,List.map_cons,unzZ_flat hf]
 | @emp v z hs ts S h0 hf h ih=>
  intro d hd
  simp only[List.all_cons,Bool.and_eq_true] at hd
  have e1:freeze H (d+1) v=some (.vs [] false):=by
   unfold slenV at h0
   split at h0
   ·rfl
   ·rename_i es z'
    cases es with
    | nil=>rfl
    | cons _ _=>simp at h0
   ·cases h0;rfl
   ·cases h0
  have e2:unzZ d (.vs [] z)=.vs [] false:=by
   cases d with
   | zero=>simp[okZ] at hd
   | succ d=>rfl
  simp only[mapO,e1,ih d hd.2,List.map_cons,e2]
 | @mark v hs ts S hf h ih=>
  intro d hd
  simp only[List.all_cons,Bool.and_eq_true] at hd
  obtain⟨es,z,rfl⟩:∃ es z,v=.vs es z:=by
   cases v<;>first|exact⟨_,_,rfl⟩|(have:=hd.1;cases d<;>simp[okZ,flatV] at this)
  have e2:unzZ d (.tup [.vs es z])=.vs es false:=by cases d<;>rfl
  simp only[mapO,ih d hd.2,List.map_cons,e2]
  rfl
 | hole h ih=>intro d hd;simp only[List.all_cons,Bool.and_eq_true] at hd;cases d<;>simp[okZ,flatV] at hd
 | @sl b o sz ex z rs cs hs ts S1 S2 hne hr hz h1 h ih1 ih2=>
  intro d hd
  simp only[List.all_cons,Bool.and_eq_true] at hd
  cases d with
  | zero=>simp[okZ] at hd
  | succ d=>
   obtain⟨hd1,hd2⟩:=hd
   have hd1':rs.all (fun row=>row.all (okZ d))=true:=hd1
   have k1:=ih1 d (all_flatten hd1')
   have e1:freeze H (d+1+1) (.sl b o sz rs.length rs.length ex)=some (.vs (rs.map fun row=>row.map (unzZ d)) false):=by
    have e0:freeze H (d+1+1) (.sl b o sz rs.length rs.length ex)=if rs.length=0 then some (.vs [] false) else match H.read b o (rs.length*sz) with
     | some cs=>(mapO (freeze H (d+1)) cs).map fun ts=>.vs (Ab.rows sz ts rs.length) false
     | none=>none:=rfl
    rw[e0,if_neg (fun e=>hne (List.length_eq_zero_iff.1 e)),hr]
    simp only[k1,Option.map_some]
    have:=rows_flatten (sz:=sz) (rs.map fun row=>row.map (unzZ d)) (fun row hrow=>by
     obtain⟨x,hx,rfl⟩:=List.mem_map.1 hrow
     rw[List.length_map];exact hz x hx)
    rw[List.length_map] at this
    rw[List.map_flatten,this]
   simp only[mapO,e1,ih2 (d+1) hd2,List.map_cons]
   rfl
 | @cut b o sz cap ex rs cs hs ts S1 S2 hne hr hz h1 h ih1 ih2=>
  intro d hd
  simp only[List.all_cons,Bool.and_eq_true] at hd
  cases d with
  | zero=>simp[okZ] at hd
  | succ d=>
   obtain⟨hd1,hd2⟩:=hd
   have hd1':rs.all (fun row=>row.all (okZ d))=true:=hd1
   have k1:=ih1 d (all_flatten hd1')
   have e1:freeze H (d+1+1) (.sl b o sz rs.length cap ex)=some (.vs (rs.map fun row=>row.map (unzZ d)) false):=by
    have e0:freeze H (d+1+1) (.sl b o sz rs.length cap ex)=if rs.length=0 then some (.vs [] false) else match H.read b o (rs.length*sz) with
     | some cs=>(mapO (freeze H (d+1)) cs).map fun ts=>.vs (Ab.rows sz ts rs.length) false
     | none=>none:=rfl
    rw[e0,if_neg (fun e=>hne (List.length_eq_zero_iff.1 e)),hr]
    simp only[k1,Option.map_some]
    have:=rows_flatten (sz:=sz) (rs.map fun row=>row.map (unzZ d)) (fun row hrow=>by
     obtain⟨x,hx,rfl⟩:=List.mem_map.1 hrow
     rw[List.length_map];exact hz x hx)
    rw[List.length_map] at this
    rw[List.map_flatten,this]
   simp only[mapO,e1,ih2 (d+1) hd2,List.map_cons]
   rfl

theorem own_node {H:AH}:∀ (p:Path) {h hd:AV} {rows rp:List (List AV)} {z:Bool} {S:List Nat},Own H [h] [.vs rows z] S→nodeA rows p=some rp→followH H h p=some hd→∃ z' S',Own H [hd] [.vs rp z'] S'∧(∀ x∈S',x∈S)
 | [],h,hd,rows,rp,z,S,ho,hn,hf=>by
  rw[followH_nil] at hf
  simp only[nodeA,Option.some.injEq] at hn
  cases hf;subst hn
  exact⟨z,S,ho,fun x hx=>hx⟩
 | (i,j)::p,h,hd,rows,rp,z,S,ho,hn,hf=>by
  simp only[nodeA] at hn
  split at hn
  ·rename_i rows' z' hc
   obtain⟨row,hr,hj⟩:=cellOf_some hc
   obtain⟨b,o,sz,ex,ws,S1,rfl,rfl,hrd,hz,h1⟩:=ho.inv (fun e=>by subst e;simp at hr)
   obtain⟨cs,hg,hle,rfl⟩:=read_some hrd
   simp only[followH,hg] at hf
   obtain⟨c,Sa,Sc,Sb,k1,rfl,k2,_,_⟩:=h1.at (flat_get hz hr hj)
   have hjz:j<sz:=by rw[← hz row (List.mem_of_getElem? hr)];exact (List.getElem?_eq_some_iff.1 hj).1
   have hlt:=idx_lt (List.getElem?_eq_some_iff.1 hr).1 hjz
   have k1':cs[o+i*sz+j]? = some c:=by
    rw[List.getElem?_take,if_pos hlt,List.getElem?_drop] at k1
    rw[← k1];congr 1;omega
   rw[k1'] at hf
   obtain⟨z2,S',m1,m2⟩:=own_node p k2 hn hf
   exact⟨z2,S',m1,fun x hx=>by simp[m2 x hx]⟩
  ·cases hn

theorem flat_drop {sz:Nat}:∀ {rs:List (List AV)} (n:Nat),(∀ row∈rs,row.length=sz)→(rs.drop n).flatten=rs.flatten.drop (n*sz)
 | [],n,_=>by simp
 | r::rs,0,_=>by simp
 | r::rs,n+1,hz=>by
  have hr:r.length=sz:=hz r (by simp)
  rw[List.drop_succ_cons,flat_drop n (fun row h=>hz row (by simp[h])),List.flatten_cons,Nat.succ_mul,Nat.add_comm,← hr,List.drop_append]
  simp
theorem flat_take {sz:Nat}:∀ {rs:List (List AV)} (n:Nat),(∀ row∈rs,row.length=sz)→(rs.take n).flatten=rs.flatten.take (n*sz)
 | [],n,_=>by simp
 | r::rs,0,_=>by simp
 | r::rs,n+1,hz=>by
  have hr:r.length=sz:=hz r (by simp)
  rw[List.take_succ_cons,List.flatten_cons,List.flatten_cons,flat_take n (fun row h=>hz row (by simp[h])),Nat.succ_mul,Nat.add_comm,← hr,List.take_append,List.take_of_length_le (Nat.le_add_right _ _)]
  simp

theorem sub_own {H:AH} {h:AV} {rows:List (List AV)} {z:Bool} {S:List Nat} (ho:Own H [h] [.vs rows z] S) {i n:Nat} (hn:n≠0) (hin:i+n≤rows.length):∃ b o sz ex S',h=.sl b o sz rows.length rows.length ex ∧
  (∀ ex',Own H [.sl b (o+i*sz) sz n n ex'] [.vs ((rows.drop i).take n) true] S')∧(∀ x∈S',x∈S)∧(S.Nodup→S'.Nodup):=by
 have hne:rows≠[]:=fun e=>by subst e;simp at hin;omega
 obtain⟨b,o,sz,ex,cs,S1,rfl,rfl,hr,hz,h1⟩:=ho.inv hne
 have hfl:=flat_len hz
 have hl:i*sz+n*sz≤rows.length*sz:=by rw[← Nat.add_mul];exact Nat.mul_le_mul_right _ hin
 obtain⟨Sa,S2,rfl,_,h2⟩:=h1.split (i*sz) (by omega)
 obtain⟨Sc,Sd,rfl,h3,_⟩:=h2.split (n*sz) (by rw[List.length_drop];omega)
 have hlen:((rows.drop i).take n).length=n:=by rw[List.length_take,List.length_drop];omega
 have hz':∀ row∈(rows.drop i).take n,row.length=sz:=fun row hm=>hz row (List.mem_of_mem_drop (List.mem_of_mem_take hm))
 refine⟨b,o,sz,ex,b::Sc,rfl,fun ex'=>?_,fun x hx=>?_,fun hnd=>?_⟩
 ·have hrd:H.read b (o+i*sz) (((rows.drop i).take n).length*sz)=some ((cs.drop (i*sz)).take (n*sz)):=by
   obtain⟨cc,hg,hle,rfl⟩:=read_some hr
   rw[hlen]
   unfold AH.read
   rw[hg]
   show slice cc (o+i*sz) (n*sz)=_
   unfold slice
   rw[if_pos (by omega)]
   rw[List.drop_take,List.take_take,List.drop_drop,Nat.min_eq_left (by omega)]
  have hflat:((rows.drop i).take n).flatten=(rows.flatten.drop (i*sz)).take (n*sz):=by
   rw[flat_take n (fun row hm=>hz row (List.mem_of_mem_drop hm)),flat_drop i hz]
  have:=Own.sl (H:=H) (b:=b) (o:=o+i*sz) (sz:=sz) (ex:=ex') (z:=true) (rows:=(rows.drop i).take n) (cs:=(cs.drop (i*sz)).take (n*sz)) (S1:=Sc) (S2:=[]) (hs:=[]) (ts:=[])
   (fun e=>by rw[e] at hlen;simp at hlen;omega) hrd hz' (by rw[hflat];exact h3) .nil
  rw[hlen] at this
  simpa using this
 ·simp only[List.mem_cons] at hx
  rcases hx with rfl|hx
  ·simp
  ·simp[hx]
 ·simp only[List.nodup_cons,List.nodup_append,List.mem_append] at hnd ⊢
  exact⟨fun hx=>hnd.1 (.inr (.inl hx)),hnd.2.2.1.1⟩

theorem slen_zero_freeze {H:AH} {h:AV} (h0:slenV h=some 0) (d:Nat):freeze H (d+1) h=some (.vs [] false):=by
 cases h<;>simp only[slenV,Option.some.injEq,reduceCtorEq,List.length_eq_zero_iff] at h0
 ·rfl
 ·subst h0;rfl
 ·subst h0;rfl

theorem freeze_cap {H:AH} {b o sz n c1 c2:Nat} {e1 e2:Bool} (d:Nat):freeze H d (.sl b o sz n c1 e1)=freeze H d (.sl b o sz n c2 e2):=by
 cases d<;>rfl

theorem HR.detach {A:Anc} {T:TH} {H:AH} (hm:HR A T H) {r:Nat} {rows rp rows':List (List AV)} {z z':Bool} {log:List Path} {p:Path} {i j:Nat} (hT:T.get r=.tree rows z log) (hn:nodeA rows p=some rp) (hc:cellOf rp i j=some (.vs rows' z')) :
  ∃ hd Sc A',followH H (A.hd r) (p++[(i,j)])=some hd∧Own H [hd] [.vs rows' z'] Sc∧Sc.Nodup∧HR A' (T.put r (.tree (setA rows p i j (.tup [])) z ((p++[(i,j)])::log))) H∧Gr A T H A' (T.put r (.tree (setA rows p i j (.tup [])) z ((p++[(i,j)])::log))) H ∧
   (∀ k x,(T.put r (.tree (setA rows p i j (.tup [])) z ((p++[(i,j)])::log))).get k≠.dead→x∈Sc→x∉A'.S k)∧(∀ x∈Sc,x∈A.S r)∧A'.hd=A.hd∧(∀ k x,(T.put r (.tree (setA rows p i j (.tup [])) z ((p++[(i,j)])::log))).get k≠.dead→x∈A'.S k→T.get k≠.dead∧x∈A.S k):=by
 obtain⟨row,hi,hj⟩:=cellOf_some hc
 obtain⟨m1,m2⟩:=hm.tree r rows z log hT
 obtain⟨b,o,sz,cap,ex,cs,c,Sc,q1,q2,q3,q4,q5,q6,q7,q8,q9,hnd,q10⟩:=zoom p m1 m2 hn hi hj
 obtain⟨hl,e⟩:=List.getElem?_eq_some_iff.1 q5
 have e1:cs.set (o+i*sz+j) c=cs:=by rw[← e];exact List.set_getElem_self hl
 obtain⟨⟨S',r1,r2,r3,r3'⟩,r4⟩:=q10 H c (.tup []) [] (by rw[e1];exact q2) (.hole .nil) (by simp) (by simp) (fun _ _ _ _=>rfl)
 have hfol:followH H (A.hd r) (p++[(i,j)])=some c:=by
  rw[followH_append,q1];simp only[Option.bind_some,followH,q2,q5]
 have hgr:Gr A T H { hd:=A.hd,S:=fun k=>if r=k then S' else A.S k } (T.put r (.tree (setA rows p i j (.tup [])) z ((p++[(i,j)])::log))) H:=by
  refine Gr.mk (Nat.le_refl _) (fun k hk hd=>?_) fun k hk p2 g hgl hv=>?_
  ·rw[TH.get_put] at hd ⊢
   split
   ·rename_i e;subst e;rw[hT];exact⟨by simp,Nat.le_succ _⟩
   ·rename_i e;rw[if_neg e] at hd;exact⟨hd,Nat.le_refl _⟩
  ·rw[TH.get_put] at hv ⊢
   split
   ·rename_i e
    subst e
    rw[if_pos rfl] at hv
    rw[hT] at hgl ⊢
    obtain⟨v1,v2⟩:=valid_logOf (rows:=rows) (t:=.vs rows' z') hgl hv
    refine⟨v1,fun hnode=>?_⟩
    have hpre:=v2 ⟨_,_,rfl⟩
    exact⟨nodeA_setA p rows rp i j _ _ p2 hn hc hpre hnode,r4 p2 hpre hnode⟩
   ·rename_i e
    rw[if_neg e] at hv
    exact⟨hv,fun h=>⟨h,rfl⟩⟩
 have hd:∀ k,(T.put r (.tree (setA rows p i j (.tup [])) z ((p++[(i,j)])::log))).get k≠.dead→T.get k≠.dead:=fun k hk=>by
  rw[TH.get_put] at hk
  split at hk
  ·rename_i e1;subst e1;rw[hT];simp
  ·exact hk
 have hsub:∀ k x,x∈(if r=k then S' else A.S k)→x∈A.S k:=fun k x hx=>by
  split at hx
  ·rename_i e;subst e
   rcases r3 x hx with h|h
   ·exact h
   ·cases h
  ·exact hx
 have hHR:HR { hd:=A.hd,S:=fun k=>if r=k then S' else A.S k } (T.put r (.tree (setA rows p i j (.tup [])) z ((p++[(i,j)])::log))) H:=by
  refine hm.change hm.wh hgr (fun k=>?_) (fun k k' x h1 h2 hne hx=>?_) (fun k hk=>?_)
  ·by_cases e:r=k
   ·subst e;exact .inr (.inr (.inl ⟨_,_,_,by rw[TH.get_put,if_pos rfl],by simpa using r1,by simpa using r2⟩))
   ·by_cases hd:T.get k=.dead
    ·exact .inr (.inl (by rw[TH.get_put,if_neg e];exact hd))
    ·exact .inl ⟨by rw[TH.get_put,if_neg e],rfl,by simp[e],fun _ _=>rfl⟩
  ·exact fun hx'=>hm.apart k k' x (hd k h1) (hd k' h2) hne (hsub k x hx) (hsub k' x hx')
  ·rw[TH.get_put];split
   ·rename_i e1;subst e1;exact absurd hk (by simp only[TH.next_put];have:=hm.lt (r:=r) (by rw[hT];simp);omega)
   ·exact hm.top k hk
 refine⟨c,Sc,_,hfol,q6,hnd,hHR,hgr,fun k x hk hx hx'=>?_,q9,rfl,fun k x hk hx=>⟨hd k hk,hsub k x hx⟩⟩
 simp only at hx'
 split at hx'
 ·have:=r3' x hx' hx;cases this
 ·rename_i e
  rw[TH.get_put,if_neg e] at hk
  exact hm.apart r k x (by rw[hT];simp) hk e (q9 x hx) hx'

end Go.Ab

namespace Go.Ab

def takeT (T:TH) (r:Nat) (p:Path) (g:Nat):Option (AV × TH):=
 if (T.get r).valid p g=true then match T.get r with
  | .tree rows z log=>match p.getLast? with
   | none=>some (.vs rows z,T.put r .dead)
   | some (i,j)=>match nodeA rows p.dropLast with
    | some rp=>match cellOf rp i j with
     | some (.vs rows' z')=>some (.vs rows' z',T.put r (.tree (setA rows p.dropLast i j (.tup [])) z ((p.dropLast++[(i,j)])::log)))
     | _=>none
    | none=>none
  | _=>none
 else none

def tailT (T:TH) (r:Nat) (p:Path) (g i n:Nat):Option (AV × TH):=
 if n=0 then some (.vs [] false,T) else if p=[]∧(T.get r).valid [] g=true then match T.get r with
  | .tree rows _ _=>if i+n=rows.length then some (.vs (rows.drop i) true,T.put r .dead) else none
  | _=>none
 else none

def outC (T:TH):TV→Option (AV × TH)
 | .a v=>if flatV v then some (v,T) else match v with
  | .nils=>some (.vs [] true,T)
  | .vs [] z=>some (.vs [] z,T)
  | _=>none
 | .es=>some (.vs [] true,T)
 | .sl r p g i n w=>if w=true then takeT T r p g else tailT T r p g i n
 | _=>none

def outL (T:TH):List TV→Option (List AV × TH)
 | []=>some ([],T)
 | v::vs=>match outC T v with
  | some (t,T1)=>match outL T1 vs with
   | some (ts,T2)=>some (t::ts,T2)
   | none=>none
  | none=>none

def outP (T:TH):TV→Option (AV × TH)
 | .ag cs=>(outL T cs).map fun x=>(.agg x.1,x.2)
 | .a (.agg vs)=>(outL T (vs.map .a)).map fun x=>(.agg x.1,x.2)
 | v=>outC T v

def outPs (T:TH):List TV→Option (List AV × TH)
 | []=>some ([],T)
 | v::vs=>match outP T v with
  | some (t,T1)=>match outPs T1 vs with
   | some (ts,T2)=>some (t::ts,T2)
   | none=>none
  | none=>none

def outT (T:TH):TV→Option AV
 | .tu vs=>(outPs T vs).map fun x=>.tup x.1
 | .a (.tup vs)=>(outPs T (vs.map .a)).map fun x=>.tup x.1
 | v=>(outP T v).map (·.1)

structure Took (A:Anc) (T:TH) (H:AH) (A':Anc) (T':TH) (S:List Nat):Prop where
 mem:HR A' T' H
 gr:Gr A T H A' T' H
 nd:S.Nodup
 apart:∀ k x,T'.get k≠.dead→x∈S→x∉A'.S k
 was:∀ x∈S,∃ k,T.get k≠.dead∧x∈A.S k
 sub:∀ k x,T'.get k≠.dead→x∈A'.S k→T.get k≠.dead∧x∈A.S k

theorem Took.refl {A:Anc} {T:TH} {H:AH} (hm:HR A T H):Took A T H A T []:=⟨hm,Gr.refl,by simp,by simp,by simp,fun k x h1 h2=>⟨h1,h2⟩⟩

theorem Took.trans {A A1 A2:Anc} {T T1 T2:TH} {H:AH} {S1 S2:List Nat} (h:Took A T H A1 T1 S1) (k:Took A1 T1 H A2 T2 S2):Took A T H A2 T2 (S1++S2) where
 mem:=k.mem
 gr:=h.gr.trans k.gr
 nd:=by
  rw[List.nodup_append]
  refine⟨h.nd,k.nd,fun x hx y hy e=>?_⟩
  subst e
  obtain⟨r,h1,h2⟩:=k.was x hy
  exact h.apart r x h1 hx h2
 apart:=fun r x hr hx hx'=>by
  rcases List.mem_append.1 hx with hx|hx
  ·obtain⟨h1,h2⟩:=k.sub r x hr hx'
   exact h.apart r x h1 hx h2
  ·exact k.apart r x hr hx hx'
 was:=fun x hx=>by
  rcases List.mem_append.1 hx with hx|hx
  ·exact h.was x hx
  ·obtain⟨r,h1,h2⟩:=k.was x hx
   exact⟨r,h.sub r x h1 h2⟩
 sub:=fun r x h1 h2=>by
  obtain⟨k1,k2⟩:=k.sub r x h1 h2
  exact h.sub r x k1 k2

section
variable {A:Anc} {T:TH} {H:AH}

theorem takeT_sound (hm:HR A T H) {r:Nat} {p:Path} {g n i0:Nat} {h:AV} (hv:VR A T H (.sl r p g i0 n true) h) {t:AV} {T':TH} (ht:takeT T r p g=some (t,T')):∃ A' S,Took A T H A' T' S∧Own H [h] [t] S:=by
 unfold takeT at ht
 split at ht
 ·rename_i hval
  cases hv with
  | sl _ _ _ _ _ _ _ hlt hg hln hx=>
   obtain⟨k1,hd,k2,k3,_⟩:=hx hval
   obtain⟨rfl,rfl⟩:=k3 rfl
   split at ht
   ·rename_i rows z log hT
    split at ht
    ·rename_i hp
     have hp:p=[]:=by simpa using hp
     subst hp
     cases ht
     rw[followH_nil] at k2
     cases k2
     obtain⟨m1,m2⟩:=hm.tree r rows z log hT
     obtain⟨g1,g2⟩:=hm.kill r hlt
     refine⟨A,A.S r,⟨g1,g2,m2,fun k x hk hx=>?_,fun x hx=>⟨r,by rw[hT];simp,hx⟩,fun k x hk hx=>?_⟩,m1⟩
     ·rw[TH.get_put] at hk
      split at hk
      ·exact absurd rfl hk
      ·rename_i hne;exact hm.apart r k x (by rw[hT];simp) hk hne hx
     ·rw[TH.get_put] at hk
      split at hk
      ·exact absurd rfl hk
      ·exact⟨hk,hx⟩
    ·rename_i i j hp
     have hp:p=p.dropLast++[(i,j)]:=by
      have h0:p≠[]:=fun e=>by subst e;simp at hp
      have h1:=List.dropLast_concat_getLast h0
      rw[List.getLast?_eq_some_getLast h0,Option.some.injEq] at hp
      rw[hp] at h1
      exact h1.symm
     split at ht
     ·rename_i rp hrp
      split at ht
      ·rename_i rows' z' hc
       simp only[Option.some.injEq,Prod.mk.injEq] at ht
       obtain⟨rfl,rfl⟩:=ht
       obtain⟨hd,Sc,A',a1,a2,a3,a4,a5,a6,a7,a8,a9⟩:=hm.detach hT hrp hc
       rw[hp] at k2
       rw[a1] at k2
       cases k2
       refine⟨A',Sc,⟨a4,a5,a3,a6,fun x hx=>⟨r,by rw[hT];simp,a7 x hx⟩,a9⟩,a2⟩
      ·cases ht
     ·cases ht
   ·cases ht
 ·cases ht

theorem tailT_sound (hm:HR A T H) {r:Nat} {p:Path} {g n i:Nat} {w:Bool} {h:AV} (hv:VR A T H (.sl r p g i n w) h) {t:AV} {T':TH} (ht:tailT T r p g i n=some (t,T')):∃ A' S,Took A T H A' T' S∧Own H [h] [t] S:=by
 unfold tailT at ht
 cases hv with
 | sl _ _ _ _ _ _ _ hlt hg hln hx=>
  split at ht
  ·rename_i hn
   subst hn
   cases ht
   exact⟨A,[],Took.refl hm,.emp hln (fun e=>by cases e) .nil⟩
  ·rename_i hn
   split at ht
   ·rename_i hh
    obtain⟨rfl,hval⟩:=hh
    obtain⟨k1,hd,k2,_,k3⟩:=hx hval
    rcases k3 with k3|⟨b,o,sz,n0,cap0,ex0,cap,ex,hhd,rfl,k4,k5⟩
    ·exact absurd k3 hn
    split at ht
    ·rename_i rows z log hT
     split at ht
     ·rename_i hin
      cases ht
      obtain⟨m1,m2⟩:=hm.tree r rows z log hT
      rw[followH_nil,Option.some.injEq] at k2
      obtain⟨b',o',sz',ex',S',e1,e2,e3,e4⟩:=sub_own (i:=i) (n:=n) m1 hn (by omega)
      obtain⟨g1,g2⟩:=hm.kill r hlt
      rw[k2,hhd] at e1
      cases e1
      have hcap:cap=n:=by omega
      have m3:=e2 ex
      rw[List.take_of_length_le (by rw[List.length_drop];omega)] at m3
      rw[hcap]
      refine⟨A,S',⟨g1,g2,e4 m2,fun k x hk hx=>?_,fun x hx=>⟨r,by rw[hT];simp,e3 x hx⟩,fun k x hk hx=>?_⟩,m3⟩
      ·rw[TH.get_put] at hk
       split at hk
       ·exact absurd rfl hk
       ·rename_i hne;exact hm.apart r k x (by rw[hT];simp) hk hne (e3 x hx)
      ·rw[TH.get_put] at hk
       split at hk
       ·exact absurd rfl hk
       ·exact⟨hk,hx⟩
     ·cases ht
    ·cases ht
   ·cases ht

theorem outC_sound (hm:HR A T H) {v:TV} {h:AV} (hv:VR A T H v h) {t:AV} {T':TH} (ht:outC T v=some (t,T')):∃ A' S,Took A T H A' T' S∧Own H [h] [t] S:=by
 unfold outC at ht
 split at ht
 ·rw[hv.inv_a]
  split at ht
  ·rename_i hf;cases ht;exact⟨A,[],Took.refl hm,.flat hf .nil⟩
  ·split at ht
   ·cases ht;exact⟨A,[],Took.refl hm,.emp rfl (fun _=>rfl) .nil⟩
   ·cases ht;exact⟨A,[],Took.refl hm,.emp rfl (fun e=>by subst e;rfl) .nil⟩
   ·cases ht
 ·cases ht
  cases hv with
  | es _ he=>exact⟨A,[],Took.refl hm,.emp (empV_len he) (fun _=>he) .nil⟩
 ·split at ht
  ·rename_i hw;subst hw;exact takeT_sound hm hv ht
  ·exact tailT_sound hm hv ht
 ·cases ht

theorem takeT_tup {T:TH} {r:Nat} {p:Path} {g:Nat} {t:AV} {T':TH} (ht:takeT T r p g=some (t,T')):∀ x,t≠.tup x:=by
 intro x
 unfold takeT at ht
 split at ht
 ·split at ht
  ·split at ht
   ·cases ht;simp
   ·split at ht
    ·split at ht
     ·cases ht;simp
     ·cases ht
    ·cases ht
  ·cases ht
 ·cases ht

theorem tailT_tup {T:TH} {r:Nat} {p:Path} {g i n:Nat} {t:AV} {T':TH} (ht:tailT T r p g i n=some (t,T')):∀ x,t≠.tup x:=by
 intro x
 unfold tailT at ht
 split at ht
 ·cases ht;simp
 ·split at ht
  ·split at ht
   ·split at ht
    ·cases ht;simp
    ·cases ht
   ·cases ht
  ·cases ht

theorem outC_tup {T:TH} {v:TV} {t:AV} {T':TH} (ht:outC T v=some (t,T')):∀ x,t≠.tup x:=by
 intro x
 unfold outC at ht
 split at ht
 ·split at ht
  ·rename_i hf;cases ht;rintro rfl;simp[flatV] at hf
  ·split at ht<;>cases ht<;>simp
 ·cases ht;simp
 ·split at ht
  ·exact takeT_tup ht x
  ·exact tailT_tup ht x
 ·cases ht

theorem outL_sound:∀ {vs:List TV} {hs:List AV} {A:Anc} {T T':TH} {ts:List AV},HR A T H→VRL A T H vs hs→outL T vs=some (ts,T')→∃ A' S,Took A T H A' T' S∧Own H hs ts S
 | [],hs,A,T,T',ts,hm,hv,ht=>by
  simp only[outL,Option.some.injEq,Prod.mk.injEq] at ht
  obtain⟨rfl,rfl⟩:=ht
  rw[hv.inv_nil]
  exact⟨A,[],Took.refl hm,.nil⟩
 | v::vs,hs,A,T,T',ts,hm,hv,ht=>by
  obtain⟨h,hs',rfl,k1,k2⟩:=hv.inv_cons
  simp only[outL] at ht
  split at ht
  ·rename_i t T1 h1
   split at ht
   ·rename_i ts' T2 h2
    cases ht
    obtain⟨A1,S1,m1,m2⟩:=outC_sound hm k1 h1
    obtain⟨A2,S2,m3,m4⟩:=outL_sound m1.mem (m1.gr.list k2) h2
    exact⟨A2,S1++S2,m1.trans m3,by simpa using m2.append m4⟩
   ·cases ht
  ·cases ht

inductive Lf (H:AH):AV→AV→List Nat→Prop
 | cell {h t:AV} {S:List Nat} (hn:∀ x,t≠.tup x) (ho:Own H [h] [t] S):Lf H h t S
 | agg {hs ts:List AV} {S:List Nat} (ho:Own H hs ts S):Lf H (.agg hs) (.agg ts) S

inductive LfL (H:AH):List AV→List AV→List Nat→Prop
 | nil:LfL H [] [] []
 | cons {h t:AV} {hs ts:List AV} {S1 S2:List Nat} (h1:Lf H h t S1) (h2:LfL H hs ts S2):LfL H (h::hs) (t::ts) (S1++S2)

theorem outP_sound (hm:HR A T H) {v:TV} {h:AV} (hv:VR A T H v h) {t:AV} {T':TH} (ht:outP T v=some (t,T')):∃ A' S,Took A T H A' T' S∧Lf H h t S:=by
 unfold outP at ht
 split at ht
 ·obtain⟨⟨ts,T1⟩,h1,h2⟩:=map_some ht
  cases h2
  cases hv with
  | ag _ hs hl hv'=>
   obtain⟨A',S,k1,k2⟩:=outL_sound hm ⟨hl,hv'⟩ h1
   exact⟨A',S,k1,.agg k2⟩
 ·obtain⟨⟨ts,T1⟩,h1,h2⟩:=map_some ht
  cases h2
  rw[hv.inv_a]
  obtain⟨A',S,k1,k2⟩:=outL_sound hm (VRL.atoms _) h1
  exact⟨A',S,k1,.agg k2⟩
 ·obtain⟨A',S,k1,k2⟩:=outC_sound hm hv ht
  exact⟨A',S,k1,.cell (outC_tup ht) k2⟩

theorem outPs_sound:∀ {vs:List TV} {hs:List AV} {A:Anc} {T T':TH} {ts:List AV},HR A T H→VRL A T H vs hs→outPs T vs=some (ts,T')→∃ A' S,Took A T H A' T' S∧LfL H hs ts S
 | [],hs,A,T,T',ts,hm,hv,ht=>by
  simp only[outPs,Option.some.injEq,Prod.mk.injEq] at ht
  obtain⟨rfl,rfl⟩:=ht
  rw[hv.inv_nil]
  exact⟨A,[],Took.refl hm,.nil⟩
 | v::vs,hs,A,T,T',ts,hm,hv,ht=>by
  obtain⟨h,hs',rfl,k1,k2⟩:=hv.inv_cons
  simp only[outPs] at ht
  split at ht
  ·rename_i t T1 h1
   split at ht
   ·rename_i ts' T2 h2
    cases ht
    obtain⟨A1,S1,m1,m2⟩:=outP_sound hm k1 h1
    obtain⟨A2,S2,m3,m4⟩:=outPs_sound m1.mem (m1.gr.list k2) h2
    exact⟨A2,S1++S2,m1.trans m3,.cons m2 m4⟩
   ·cases ht
  ·cases ht

structure Laid (H H':AH) (S u u':List Nat):Prop where
 wh:WH H'
 next:H.next≤H'.next
 old:∀ x,x<H.next→H'.get x=H.get x
 used:∀ x,x∈u'→x∈u∨x∈S

theorem Laid.trans {H H1 H2:AH} {S1 S2 u u1 u2:List Nat} (h:Laid H H1 S1 u u1) (k:Laid H1 H2 S2 u1 u2):Laid H H2 (S1++S2) u u2 where
 wh:=k.wh
 next:=Nat.le_trans h.next k.next
 old:=fun x hx=>by rw[k.old x (Nat.lt_of_lt_of_le hx h.next),h.old x hx]
 used:=fun x hx=>by
  rcases k.used x hx with g|g
  ·rcases h.used x g with g|g
   ·exact .inl g
   ·exact .inr (by simp[g])
  ·exact .inr (by simp[g])

def NewF (n m:Nat) (S:List Nat):Prop:=S.Nodup∧∀ x∈S,n≤x∧x<m

theorem NewF.append {n m k:Nat} {S1 S2:List Nat} (h1:NewF n m S1) (h2:NewF m k S2) (hnm:n≤m) (hmk:m≤k):NewF n k (S1++S2):=by
 refine⟨?_,fun x hx=>?_⟩
 ·rw[List.nodup_append]
  exact⟨h1.1,h2.1,fun x hx y hy e=>by have:=h1.2 x hx;have:=h2.2 y hy;omega⟩
 ·rcases List.mem_append.1 hx with hx|hx
  ·have:=h1.2 x hx;omega
  ·have:=h2.2 x hx;omega

theorem lift_flat {H1:AH} {d:Nat} {v:AV} (hf:flatV v=true) (u:List Nat) (H:AH):lift H1 (d+1) v u H=some (v,u,H):=by
 unfold flatV at hf;split at hf<;>first|rfl|cases hf

theorem lift_own {H1:AH} {hs ts:List AV} {S:List Nat} (h:Own H1 hs ts S):∀ (d:Nat) (u:List Nat) (H:AH),ts.all (okC d)=true→S.Nodup→(∀ x∈S,x∉u)→WH H →
  ∃ hs' u' H',liftL (lift H1 (d+1)) hs u H=some (hs',u',H')∧Laid H H' S u u'∧∃ S',Own H' hs' ts S'∧NewF H.next H'.next S':=by
 induction h with
 | nil=>intro d u H _ _ _ hw;exact⟨[],u,H,rfl,⟨hw,Nat.le_refl _,fun _ _=>rfl,fun x hx=>.inl hx⟩,[],.nil,by simp,by simp⟩
 | @flat v hs ts S hf h ih=>
  intro d u H hd hnd hu hw
  simp only[List.all_cons,Bool.and_eq_true] at hd
  obtain⟨hs',u',H',k1,k2,S',k3,k4⟩:=ih d u H hd.2 hnd hu hw
  exact⟨v::hs',u',H',by simp only[liftL,lift_flat hf,k1],k2,S',.flat hf k3,k4⟩
 | @emp v z hs ts S h0 hf h ih=>
  intro d u H hd hnd hu hw
  simp only[List.all_cons,Bool.and_eq_true] at hd
  obtain⟨hs',u',H',k1,k2,S',k3,k4⟩:=ih d u H hd.2 hnd hu hw
  have e1:∃ w,lift H1 (d+1) v u H=some (w,u,H)∧slenV w=some 0∧(z=true→empV w=true):=by
   unfold slenV at h0
   split at h0
   ·exact⟨_,rfl,rfl,fun _=>rfl⟩
   ·rename_i es z'
    cases es with
    | nil=>exact⟨_,rfl,rfl,hf⟩
    | cons _ _=>simp at h0
   ·rename_i b o sz n cap ex
    cases h0
    refine⟨.vs [] (ex && cap==0),rfl,rfl,fun hz=>?_⟩
    have:=hf hz
    unfold empV at this
    split at this
    ·cases ‹AV.sl _ _ _ _ _ _=AV.nils›
    ·cases ‹AV.sl _ _ _ _ _ _=AV.vs _ _›
    ·rename_i heq;cases heq;rfl
    ·cases this
   ·cases h0
  obtain⟨w,e1,e2,e3⟩:=e1
  exact⟨w::hs',u',H',by simp only[liftL,e1,k1],k2,S',.emp e2 e3 k3,k4⟩
 | mark hf h ih=>intro d u H hd;simp only[List.all_cons,Bool.and_eq_true] at hd;cases d<;>simp[okC,flatV] at hd
 | hole h ih=>intro d u H hd;simp only[List.all_cons,Bool.and_eq_true] at hd;cases d<;>simp[okC,flatV] at hd
 | cut=>intro d u H hd;simp only[List.all_cons,Bool.and_eq_true] at hd;cases d<;>simp[okC,flatV] at hd
 | @sl b o sz ex z rs cs hs ts S1 S2 hne hr hz h1 h ih1 ih2=>
  intro d u H hd hnd hu hw
  simp only[List.all_cons,Bool.and_eq_true] at hd
  simp only[List.cons_append,List.nodup_cons,List.nodup_append,List.mem_append,not_or] at hnd
  obtain⟨hb,hn1,hn2,hn12⟩:=hnd
  cases d with
  | zero=>simp[okC] at hd
  | succ d=>
   obtain⟨hd1,hd2⟩:=hd
   have hd1':rs.all (fun row=>row.all (okC d))=true:=hd1
   obtain⟨cs',u1,H2,k1,k2,S1',k3,k4⟩:=ih1 d (b::u) H (all_flatten hd1') hn1 (fun x hx hxu=>by
    rcases List.mem_cons.1 hxu with rfl|hxu
    ·exact hb.1 hx
    ·exact hu x (by simp[hx]) hxu) hw
   have hbu:u.contains b=false:=by
    cases hc:u.contains b with
    | false=>rfl
    | true=>exact absurd (by simpa using hc) (hu b (by simp))
   have e1:lift H1 (d+1+1) (.sl b o sz rs.length rs.length ex) u H=some (.sl H2.next 0 sz rs.length rs.length false,u1,H2.new (.cells cs')):=by
    have e0:lift H1 (d+1+1) (.sl b o sz rs.length rs.length ex) u H=if rs.length=0 then some (.vs [] (ex && rs.length==0),u,H) else if u.contains b then none else match H1.read b o (rs.length*sz) with
     | some cs=>match liftL (lift H1 (d+1)) cs (b::u) H with
      | some (r,u',H')=>some (.sl H'.next 0 sz rs.length rs.length false,u',H'.new (.cells r))
      | none=>none
     | none=>none:=rfl
    rw[e0,if_neg (fun e=>hne (List.length_eq_zero_iff.1 e)),hbu,hr]
    simp only[Bool.false_eq_true,if_false,k1]
   have hw2:WH (H2.new (.cells cs')):=k2.wh.new _
   have hold2:∀ x,x<H2.next→(H2.new (.cells cs')).get x=H2.get x:=fun x hx=>by rw[AH.get_new,if_neg (by omega)]
   obtain⟨hs',u2,H3,m1,m2,S2',m3,m4⟩:=ih2 (d+1) u1 (H2.new (.cells cs')) hd2 hn2 (fun x hx hxu=>by
    rcases k2.used x hxu with g|g
    ·rcases List.mem_cons.1 g with rfl|g
     ·exact hb.2 hx
     ·exact hu x (by simp[hx]) g
    ·exact hn12 x g x hx rfl) hw2
   have hnx:(H2.new (.cells cs')).next=H2.next+1:=rfl
   have hlen:cs'.length=rs.length*sz:=by rw[k3.length,flat_len hz]
   have hrd:H3.read H2.next 0 (rs.length*sz)=some cs':=by
    unfold AH.read
    rw[m2.old H2.next (by rw[hnx];omega),AH.get_new_self]
    simp only[slice]
    rw[if_pos (by omega),List.drop_zero,List.take_of_length_le (by omega)]
   refine⟨.sl H2.next 0 sz rs.length rs.length false::hs',u2,H3,by simp only[liftL,e1,m1],⟨m2.wh, ?_,fun x hx=>?_,fun x hx=>?_⟩,H2.next::S1'++S2',.sl hne hrd hz (k3.frame fun x hx=>?_) m3, ?_,fun x hx=>?_⟩
   ·have:=k2.next;have:=m2.next;omega
   ·have:=k2.next
    rw[m2.old x (by rw[hnx];omega),hold2 x (by omega),k2.old x hx]
   ·rcases m2.used x hx with g|g
    ·rcases k2.used x g with g|g
     ·rcases List.mem_cons.1 g with rfl|g
      ·exact .inr (by simp)
      ·exact .inl g
     ·exact .inr (by simp[g])
    ·exact .inr (by simp[g])
   ·have:=k4.2 x hx
    rw[m2.old x (by rw[hnx];omega),hold2 x this.2]
   ·simp only[List.cons_append,List.nodup_cons,List.nodup_append,List.mem_append,not_or]
    refine⟨⟨fun g=>by have:=k4.2 _ g;omega,fun g=>by have:=m4.2 _ g;omega⟩,k4.1,m4.1,fun x hx y hy e=>by have:=k4.2 x hx;have:=m4.2 y hy;omega⟩
   ·have h1:=k2.next
    have h2:=m2.next
    simp only[List.cons_append,List.mem_cons,List.mem_append] at hx
    rcases hx with rfl|hx|hx
    ·omega
    ·have:=k4.2 x hx;omega
    ·have:=m4.2 x hx;omega

end
end Go.Ab
