/-
  What the abstract machine's steps leave as it was: numbers grow, older objects above the least number written stay; what an operation that only reads or makes depends on.
  and what goes with it.
  Conditions: none.
-/
import Derived.Test.YtbnmnlijdoabkaaGreatGa
import Derived.Laws.Sem
import Derived.ProofKit
import Derived.JoinedCond

set_option linter.unusedSimpArgs false
set_option linter.unusedVariables false

namespace Go.Ab

structure WH (H:AH):Prop where
 lo:H.lo≤H.next
 top:∀ b,H.next≤b→H.get b=.dead

structure HG (H H':AH):Prop where
 next:H.next≤H'.next
 lo:H'.lo≤H.lo
 old:∀ b,b<H.next→b<H'.lo→H'.get b=H.get b
 wh:WH H'

theorem HG.refl {H:AH} (h:WH H):HG H H:=⟨Nat.le_refl _,Nat.le_refl _,fun _ _ _=>rfl,h⟩
theorem HG.trans {H H1 H2:AH} (h:HG H H1) (k:HG H1 H2):HG H H2:=
 ⟨Nat.le_trans h.next k.next,Nat.le_trans k.lo h.lo,fun b hb hl=>by rw[k.old b (Nat.lt_of_lt_of_le hb h.next) hl,h.old b hb (Nat.lt_of_lt_of_le hl k.lo)],k.wh⟩

theorem HG.new {H:AH} (h:WH H) (o:AObj):HG H (H.new o):=by
 refine⟨Nat.le_succ _,Nat.le_refl _,fun b hb _=>?_, ?_,fun b hb=>?_⟩
 ·rw[AH.get_new,if_neg (by omega)]
 ·show H.lo≤H.next+1
  have:=h.lo;omega
 ·have hb':H.next+1≤b:=hb
  rw[AH.get_new,if_neg (by omega)];exact h.top b (by omega)

theorem HG.put {H:AH} (h:WH H) {b:Nat} (hb:b<H.next) (o:AObj):HG H (H.put b o):=by
 refine⟨Nat.le_refl _, ?_,fun b' hb' hl=>?_, ?_,fun b' hb'=>?_⟩
 ·rw[AH.put_lo];split<;>omega
 ·rw[AH.put_lo] at hl
  rw[AH.get_put,if_neg]
  intro e;subst e;split at hl<;>omega
 ·rw[AH.put_lo,AH.put_next];have:=h.lo;split<;>omega
 ·rw[AH.put_next] at hb'
  rw[AH.get_put,if_neg (by omega)];exact h.top b' hb'

theorem WH.lt {H:AH} (h:WH H) {b:Nat} {o:AObj} (hg:H.get b=o) (ho:o≠.dead):b<H.next:=by
 rcases Nat.lt_or_ge b H.next with g|g
 ·exact g
 ·rw[h.top b g] at hg;exact absurd hg.symm ho

theorem AH.write_HG {H H':AH} {b o:Nat} {vs:List AV} (h:H.write b o vs=some H') (hw:WH H):HG H H':=by
 unfold AH.write at h
 split at h
 ·rename_i cs hg
  split at h
  ·cases h;exact HG.put hw (hw.lt hg (by simp)) _
  ·cases h
 ·cases h

theorem appA_HG {H H':AH} {sz bytes:Nat} {q:Bool} {x y v:AV} (h:appA H sz bytes q x y=some (v,H')) (hw:WH H):HG H H':=by
 unfold appA at h
 split at h
 ·cases h
 ·rename_i new hn
  simp only[] at h
  split at h
  ·split at h<;>cases h<;>exact HG.refl hw
  ·split at h
   ·split at h<;>cases h;exact HG.new hw _
   ·split at h<;>cases h;exact HG.new hw _
   ·split at h
    ·split at h<;>cases h;exact HG.new hw _
    split at h
    ·cases h
    ·split at h
     ·split at h
      ·cases h
      ·cases hr:H.write _ _ new with
       | none=>rw[hr] at h;cases h
       | some H1=>rw[hr] at h;cases h;exact AH.write_HG hr hw
     ·split at h
      ·cases h
      ·rename_i old ho
       have hlt:∀ b o n (old:List AV),H.read b o n=some old→b<H.next:=by
        intro b o n old ho
        unfold AH.read at ho
        split at ho
        ·rename_i cs hg;exact hw.lt hg (by simp)
        ·cases ho
       split at h
       ·split at h<;>cases h;exact HG.new hw _
       ·split at h
        ·cases h
        ·split at h<;>cases h
         exact (HG.put hw (hlt _ _ _ _ ho) _).trans (HG.new (HG.put hw (hlt _ _ _ _ ho) _).wh _)
   ·cases h

structure LG (e e':Env):Prop where
 m:e'.m=e.m
 ln:e.ln≤e'.ln
 top:∀ st,e'.ln≤st→e'.L.get st=none

def LT (e:Env):Prop:=∀ st,e.ln≤st→e.L.get st=none

theorem LG.refl {e:Env} (h:LT e):LG e e:=⟨rfl,Nat.le_refl _,h⟩
theorem LG.loc {e:Env} (h:LT e) (cs:List AV):LG e (e.loc cs):=by
 refine⟨rfl,Nat.le_succ _,fun st hst=>?_⟩
 have hst':e.ln+1≤st:=hst
 show (e.L.set e.ln cs).get st=none
 rw[Tr.get_set,if_neg (by omega)];exact h st (by omega)
theorem LG.putL {e:Env} (h:LT e) {st:Nat} {xs:List AV} (hs:e.L.get st=some xs) (cs:List AV):LG e (e.putL st cs):=by
 refine⟨rfl,Nat.le_refl _,fun st' hst=>?_⟩
 have hst':e.ln≤st':=hst
 show (e.L.set st cs).get st'=none
 rw[Tr.get_set]
 split
 ·rename_i e1;subst e1;rw[h _ hst'] at hs;cases hs
 ·exact h _ hst'

theorem writeAt_G {e e':Env} {H H':AH} {a:AV} {vs:List AV} (h:writeAt e H a vs=some (e',H')) (hw:WH H) (hl:LT e):HG H H'∧LG e e':=by
 unfold writeAt at h
 split at h
 ·cases hr:H.write _ _ vs with
  | none=>rw[hr] at h;cases h
  | some H1=>rw[hr] at h;cases h;exact⟨AH.write_HG hr hw,LG.refl hl⟩
 ·split at h
  ·rename_i st o cs hs
   split at h
   ·cases h;exact⟨HG.refl hw,LG.putL hl hs _⟩
   ·cases h
  ·cases h
 ·cases h

theorem map_some {α β:Type} {f:α→β} {o:Option α} {b:β} (h:o.map f=some b):∃ a,o=some a∧f a=b:=by
 cases o with
 | none=>cases h
 | some a=>exact⟨a,rfl,by simpa using h⟩

theorem ownRow_HG {H H1:AH} {a:AV} {ns:List Int} (h:ownRow H a=some (ns,H1)) (hw:WH H):HG H H1:=by
 unfold ownRow at h
 split at h
 ·cases h;exact HG.refl hw
 ·cases h;exact HG.refl hw
 ·split at h
  ·split at h
   ·cases h;exact HG.refl hw
   ·cases h
  ·split at h
   ·split at h
    ·rename_i cs hr
     obtain⟨x,_,e1⟩:=map_some h
     cases e1
     unfold AH.read at hr
     split at hr
     ·rename_i cs' hg;exact HG.put hw (hw.lt hg (by simp)) _
     ·cases hr
    ·cases h
   ·cases h
 ·cases h

theorem extA_HG {k:Nat} {a b c:AV} {H H':AH} {v:AV} (h:extA k a b c H=some (v,H')) (hw:WH H):HG H H':=by
 unfold extA at h
 split at h
 ·split at h
  ·rename_i h1
   split at h
   ·split at h
    ·cases h
     have g:=ownRow_HG (by assumption) hw
     exact g.trans (HG.new g.wh _)
    ·cases h
   ·cases h
  ·cases h
 ·split at h
  ·split at h
   ·cases h
    have g:=ownRow_HG (by assumption) hw
    exact g.trans (HG.new g.wh _)
   ·cases h
  ·cases h
 ·split at h
  ·split at h
   ·cases h;exact HG.refl hw
   ·cases h
  ·cases h
 ·split at h
  ·split at h
   ·cases h;exact HG.refl hw
   ·split at h
    ·cases h;exact HG.new hw _
    ·cases h
  ·cases h
 ·cases h

theorem aop_G {e e':Env} {H H':AH} {mo:MOp} {v:AV} (h:aop e H mo=some (v,e',H')) (hw:WH H) (hl:LT e):HG H H'∧LG e e':=by
 have key:H'=H→e'=e→HG H H'∧LG e e':=fun a b=>by subst a;subst b;exact⟨HG.refl hw,LG.refl hl⟩
 cases mo
 case alloc z=>simp only[aop] at h;cases h;exact⟨HG.new hw _,LG.refl hl⟩
 case allocL z=>simp only[aop] at h;cases h;exact⟨HG.refl hw,LG.loc hl _⟩
 case mkmap=>simp only[aop] at h;cases h;exact⟨HG.new hw _,LG.refl hl⟩
 case stuck=>simp only[aop] at h;cases h
 case mset=>
  simp only[aop] at h
  split at h
  ·split at h
   ·rename_i es hg
    split at h
    ·cases h;exact⟨HG.put hw (hw.lt hg (by simp)) _,LG.refl hl⟩
    ·cases h
   ·cases h
  ·cases h
 case box x=>simp only[aop] at h;split at h<;>cases h;exact⟨HG.new hw _,LG.refl hl⟩
 case boxL x=>simp only[aop] at h;split at h<;>cases h;exact⟨HG.refl hw,LG.loc hl _⟩
 case bsl=>
  simp only[aop] at h
  split at h
  ·obtain⟨a,_,e1⟩:=map_some h;cases e1;exact⟨HG.new hw _,LG.refl hl⟩
  ·cases h
 case mksl=>
  simp only[aop] at h
  split at h
  ·split at h<;>cases h;exact⟨HG.new hw _,LG.refl hl⟩
  ·cases h
 case st1=>
  simp only[aop] at h
  split at h
  ·obtain⟨⟨e1,H1⟩,h1,e2⟩:=map_some h;cases e2;exact writeAt_G h1 hw hl
  ·cases h
 case stn=>
  simp only[aop] at h
  split at h
  ·obtain⟨⟨e1,H1⟩,h1,e2⟩:=map_some h;cases e2;exact writeAt_G h1 hw hl
  ·cases h
 case app=>
  simp only[aop] at h
  obtain⟨⟨v1,H1⟩,h1,e2⟩:=map_some h;cases e2;exact⟨appA_HG h1 hw,LG.refl hl⟩
 case call=>simp only[aop] at h;cases h
 all_goals
  simp only[aop] at h
  repeat' split at h
 all_goals first
  | (cases h;done)
  | (cases h;exact key rfl rfl)
  | (obtain⟨a,_,e1⟩:=map_some h;cases e1;exact key rfl rfl)

theorem WH.relo {H:AH} (h:WH H) {x:Nat} (hx:x≤H.next):WH { H with lo:=x }:=⟨hx,h.top⟩

def CG (C:CallF):Prop:=∀ f args H r H',C f args H=some (r,H')→WH H→HG H H'

theorem quietly_spec {H:AH} {r:Option (AV × AH)} {v:AV} {H':AH} (h:quietly H r=some (v,H')):∃ H1,r=some (v,H1)∧H.next≤H1.lo∧H'={ H1 with lo:=H.lo }:=by
 unfold quietly at h
 split at h
 ·split at h
  ·cases h;exact⟨_,rfl,by assumption,rfl⟩
  ·cases h
 ·cases h

theorem callA_spec {C:CallF} {e:Env} {H H':AH} {q:Bool} {f:Opd} {args:List Opd} {v:AV} (h:callA C e H q f args=some (v,H')) :
  ∃ g first cap as,e.val f=some (.fn (.func g) first cap)∧args.mapM e.val=some as ∧
   (q=false∧C g (first++as++cap) H=some (v,H')∨q=true∧∃ H1,C g (first++as++cap) { H with lo:=H.next }=some (v,H1)∧H.next≤H1.lo∧H'={ H1 with lo:=H.lo }):=by
 unfold callA at h
 split at h
 ·rename_i g first cap as h1 h2
  refine⟨g,first,cap,as,h1,h2, ?_⟩
  cases q
  ·exact .inl ⟨rfl,by simpa using h⟩
  ·exact .inr ⟨rfl,quietly_spec (by simpa using h)⟩
 ·cases h

theorem HG.quiet {H H1:AH} (h:HG { H with lo:=H.next } H1) (hq:H.next≤H1.lo) (hw:WH H):HG H { H1 with lo:=H.lo }:=
 ⟨h.next,Nat.le_refl _,fun b hb _=>h.old b hb (Nat.lt_of_lt_of_le hb hq),⟨Nat.le_trans hw.lo h.next,h.wh.top⟩⟩

theorem callA_G {C:CallF} (hC:CG C) {e:Env} {H H':AH} {q:Bool} {f:Opd} {args:List Opd} {v:AV} (h:callA C e H q f args=some (v,H')) (hw:WH H):HG H H':=by
 obtain⟨g,first,cap,as,_,_,h3⟩:=callA_spec h
 rcases h3 with ⟨_,h3⟩|⟨_,H1,h3,h4,rfl⟩
 ·exact hC _ _ _ _ _ h3 hw
 ·exact (hC _ _ _ _ _ h3 (hw.relo (Nat.le_refl _))).quiet h4 hw

theorem stepOp_G {C:CallF} (hC:CG C) {e e':Env} {H H':AH} {mo:MOp} {v:AV} (h:stepOp C e H mo=some (v,e',H')) (hw:WH H) (hl:LT e):HG H H'∧LG e e':=by
 unfold stepOp at h
 split at h
 ·obtain⟨⟨v1,H1⟩,h1,e2⟩:=map_some h;cases e2;exact⟨callA_G hC h1 hw,LG.refl hl⟩
 ·exact aop_G h hw hl

structure EG (e e':Env):Prop where
 ln:e.ln≤e'.ln
 top:LT e'

theorem EG.refl {e:Env} (h:LT e):EG e e:=⟨Nat.le_refl _,h⟩
theorem EG.trans {e e1 e2:Env} (h:EG e e1) (k:EG e1 e2):EG e e2:=⟨Nat.le_trans h.ln k.ln,k.top⟩
theorem EG.put {e e':Env} (h:EG e e') (d:Option Nat) (v:AV):EG e (e'.put d v):=by
 cases d<;>exact⟨h.ln,h.top⟩

theorem stepOper_G {C:CallF} (hC:CG C) {e e':Env} {H H':AH} {o:MOper} (h:stepOper C e H o=some (e',H')) (hw:WH H) (hl:LT e):HG H H'∧EG e e':=by
 unfold stepOper at h
 split at h
 ·split at h
  ·rename_i v e1 H1 h1
   cases h
   obtain⟨a,b⟩:=stepOp_G hC h1 hw hl
   exact⟨a,EG.put ⟨b.ln,b.top⟩ _ _⟩
  ·cases h
 ·cases h;exact⟨HG.refl hw,(EG.refl hl).put _ _⟩

theorem runOps_G {C:CallF} (hC:CG C):∀ {l:List MOper} {e e':Env} {H H':AH},runOps C l e H=some (e',H')→WH H→LT e→HG H H'∧EG e e'
 | [],e,e',H,H',h,hw,hl=>by simp only[runOps] at h;cases h;exact⟨HG.refl hw,EG.refl hl⟩
 | o::l,e,e',H,H',h,hw,hl=>by
  simp only[runOps] at h
  split at h
  ·rename_i e1 H1 h1
   obtain⟨a,b⟩:=stepOper_G hC h1 hw hl
   obtain⟨a',b'⟩:=runOps_G hC h a.wh b.top
   exact⟨a.trans a',b.trans b'⟩
  ·cases h

theorem runTr_spec {C:CallF}:∀ {l:List MOper} {e:Env} {H:AH} {S:List (Env × AH)},runTr C l e H=some S →
  S.length=l.length+1∧S[0]? = some (e,H)∧(∀ k o,l[k]? = some o→∃ e1 H1 r,S[k]? = some (e1,H1)∧S[k+1]? = some r∧stepOper C e1 H1 o=some r)∧∃ r,S.getLast? = some r∧S[l.length]? = some r∧runOps C l e H=some r
 | [],e,H,S,h=>by
  simp only[runTr] at h;cases h
  exact⟨rfl,rfl,fun k o hk=>by simp at hk,_,rfl,rfl,rfl⟩
 | o::l,e,H,S,h=>by
  simp only[runTr] at h
  split at h
  ·rename_i e1 H1 h1
   obtain⟨S1,h2,h3⟩:=map_some h
   subst h3
   obtain⟨a1,a2,a3,r,a4,a5,a6⟩:=runTr_spec h2
   refine⟨by simp[a1],rfl,fun k o' hk=>?_,r, ?_,by simpa using a5, ?_⟩
   ·cases k with
    | zero=>simp only[List.getElem?_cons_zero,Option.some.injEq] at hk;subst hk;exact⟨e,H,(e1,H1),rfl,by simpa using a2,h1⟩
    | succ k=>simpa using a3 k o' (by simpa using hk)
   ·cases S1 with
    | nil=>simp at a2
    | cons x xs=>simpa [List.getLast?_cons] using a4
   ·simp only[runOps,h1];exact a6
  ·cases h

theorem runDraw_spec {C:CallF} {l:List MOper} {chk:List (Nat × Nat)} {e e':Env} {H H':AH} (h:runDraw C l chk e H=some (e',H')) :
  ∃ S,runTr C l e H=some S∧chk.all (pairOk l S)=true∧S.getLast? = some (e',H'):=by
 unfold runDraw at h
 split at h
 ·split at h
  ·exact⟨_,by assumption,by assumption,h⟩
  ·cases h
 ·cases h

theorem runDraw_ops {C:CallF} {l:List MOper} {chk:List (Nat × Nat)} {e e':Env} {H H':AH} (h:runDraw C l chk e H=some (e',H')):runOps C l e H=some (e',H'):=by
 obtain⟨S,h1,_,h3⟩:=runDraw_spec h
 obtain⟨_,_,_,r,a4,_,a6⟩:=runTr_spec h1
 rw[a4] at h3;cases h3;exact a6

def RG (r:Runs):Prop:=∀ e H o e' H',r e H=some (o,e',H')→WH H→LT e→HG H H'∧EG e e'

theorem iter_G {b:Runs} (hb:RG b):∀ n,RG (iter b n)
 | 0=>fun e H o e' H' h _ _=>by simp[iter] at h
 | n+1=>fun e H o e' H' h hw hl=>by
  simp only[iter] at h
  split at h
  ·rename_i e1 H1 h1
   obtain⟨a,b'⟩:=hb _ _ _ _ _ h1 hw hl
   obtain⟨a',b''⟩:=iter_G hb n _ _ _ _ _ h a.wh b'.top
   exact⟨a.trans a',b'.trans b''⟩
  ·exact hb _ _ _ _ _ h hw hl

theorem runCode_G {C:CallF} (hC:CG C) (n:Nat):∀ c,RG (runCode C n c):=by
 intro c
 induction c with
 | skip=>intro e H o e' H' h hw hl;simp only[runCode] at h;cases h;exact⟨HG.refl hw,EG.refl hl⟩
 | ops l=>
  intro e H o e' H' h hw hl;simp only[runCode] at h
  split at h
  ·rename_i e1 H1 h1;cases h;exact runOps_G hC h1 hw hl
  ·cases h
 | draw l chk=>
  intro e H o e' H' h hw hl;simp only[runCode] at h
  split at h
  ·rename_i e1 H1 h1;cases h;exact runOps_G hC (runDraw_ops h1) hw hl
  ·cases h
 | seq a b iha ihb=>
  intro e H o e' H' h hw hl;simp only[runCode] at h
  split at h
  ·rename_i e1 H1 h1
   obtain⟨a,b'⟩:=iha _ _ _ _ _ h1 hw hl
   obtain⟨a',b''⟩:=ihb _ _ _ _ _ h a.wh b'.top
   exact⟨a.trans a',b'.trans b''⟩
  ·exact iha _ _ _ _ _ h hw hl
 | cond c a b iha ihb=>
  intro e H o e' H' h hw hl;simp only[runCode] at h
  split at h
  ·exact iha _ _ _ _ _ h hw hl
  ·exact ihb _ _ _ _ _ h hw hl
  ·cases h
 | block id b ih=>
  intro e H o e' H' h hw hl;simp only[runCode] at h
  split at h
  ·rename_i id' e1 H1 h1;cases h;exact ih _ _ _ _ _ h1 hw hl
  ·exact ih _ _ _ _ _ h hw hl
 | loop b ih=>intro e H o e' H' h hw hl;simp only[runCode] at h;exact iter_G ih n _ _ _ _ _ h hw hl
 | exit id=>intro e H o e' H' h hw hl;simp only[runCode] at h;cases h;exact⟨HG.refl hw,EG.refl hl⟩
 | ret=>intro e H o e' H' h hw hl;simp only[runCode] at h;cases h;exact⟨HG.refl hw,EG.refl hl⟩
 | ext k=>
  intro e H o e' H' h hw hl;simp only[runCode] at h
  obtain⟨⟨v,H1⟩,h1,e2⟩:=map_some h
  cases e2
  exact⟨extA_HG h1 hw,(EG.refl hl).put (some 3) v⟩

theorem LT.nil {m:Tr AV}:LT { m,L:=.nil,ln:=0 }:=fun st _=>Tr.get_nil st

theorem evalF_spec {C:CallF} {n:Nat} {F:MFunc} {args:List AV} {H H':AH} {r:AV} (h:evalF C n F args H=some (r,H')) :
  args.length=F.nargs∧args.all AV.free=true∧∃ o e,runCode C n F.body { m:=initEnv args 0,L:=.nil,ln:=0 } H=some (o,e,H')∧(o=.normal∨o=.ret)∧resultsOf e H' F.res=some r:=by
 unfold evalF at h
 split at h
 ·rename_i hh
  refine⟨hh.1,hh.2, ?_⟩
  split at h
  ·rename_i e H1 h1
   obtain⟨v,h2,e1⟩:=map_some h;cases e1;exact⟨_,_,h1,.inl rfl,h2⟩
  ·rename_i e H1 h1
   obtain⟨v,h2,e1⟩:=map_some h;cases e1;exact⟨_,_,h1,.inr rfl,h2⟩
  ·cases h
 ·cases h

theorem evalF_G {C:CallF} (hC:CG C) {n:Nat} {F:MFunc} {args:List AV} {H H':AH} {r:AV} (h:evalF C n F args H=some (r,H')) (hw:WH H):HG H H':=by
 obtain⟨_,_,o,e,h1,_⟩:=evalF_spec h
 exact (runCode_G hC n _ _ _ _ _ _ h1 hw LT.nil).1

theorem liftL_G {f:LiftF} (hf:∀ v u H r u' H',f v u H=some (r,u',H')→WH H→HG H H'∧H'.lo=H.lo):∀ (vs:List AV) u H rs u' H',liftL f vs u H=some (rs,u',H')→WH H→HG H H'∧H'.lo=H.lo
 | [],u,H,rs,u',H',h,hw=>by simp only[liftL] at h;cases h;exact⟨HG.refl hw,rfl⟩
 | v::vs,u,H,rs,u',H',h,hw=>by
  simp only[liftL] at h
  split at h
  ·rename_i r u1 H1 h1
   split at h
   ·rename_i rs2 u2 H2 h2
    cases h
    obtain⟨a,a'⟩:=hf _ _ _ _ _ _ h1 hw
    obtain⟨b,b'⟩:=liftL_G hf vs _ _ _ _ _ h2 a.wh
    exact⟨a.trans b,by rw[b',a']⟩
   ·cases h
  ·cases h

theorem lift_G (H1:AH):∀ d v u H r u' H',lift H1 d v u H=some (r,u',H')→WH H→HG H H'∧H'.lo=H.lo
 | 0,v,u,H,r,u',H',h,hw=>by simp[lift] at h
 | d+1,v,u,H,r,u',H',h,hw=>by
  have ih:=liftL_G (lift_G H1 d)
  simp only[lift] at h
  split at h
  all_goals first
   | (cases h;exact⟨HG.refl hw,rfl⟩)
   | skip
  ·split at h
   ·cases h;exact⟨HG.refl hw,rfl⟩
   ·split at h
    ·cases h
    ·split at h
     ·split at h
      ·rename_i rs u2 H2 h2
       cases h
       obtain⟨a,a'⟩:=ih _ _ _ _ _ _ h2 hw
       exact⟨a.trans (HG.new a.wh _),by rw[AH.new_lo,a']⟩
      ·cases h
     ·cases h
  ·split at h
   ·cases h
   ·split at h
    ·split at h
     ·rename_i rs u2 H2 h2
      cases h
      obtain⟨a,a'⟩:=ih _ _ _ _ _ _ h2 hw
      exact⟨a.trans (HG.new a.wh _),by rw[AH.new_lo,a']⟩
     ·cases h
    ·cases h
  ·split at h
   ·rename_i rs u2 H2 h2;cases h;exact ih _ _ _ _ _ _ h2 hw
   ·cases h
  ·split at h
   ·rename_i rs u2 H2 h2;cases h;exact ih _ _ _ _ _ _ h2 hw
   ·cases h
  ·cases h

theorem pureC_spec {body:List AV→AH→Option (AV × AH)} {args:List AV} {H H':AH} {r:AV} (h:pureC body args H=some (r,H')) :
  ∃ ts r1 H1 u,mapO (freeze H deep) args=some ts∧body ts { objs:=.nil,next:=0,lo:=0 }=some (r1,H1)∧lift H1 deep r1 [] H=some (r,u,H'):=by
 unfold pureC at h
 split at h
 ·rename_i ts h1
  split at h
  ·rename_i r1 H1 h2
   obtain⟨⟨x,u,y⟩,h3,h4⟩:=map_some h
   cases h4
   exact⟨ts,r1,H1,u,h1,h2,h3⟩
  ·cases h
 ·cases h

theorem bothC_spec {body:List AV→AH→Option (AV × AH)} {args:List AV} {H H':AH} {r:AV} (h:bothC body args H=some (r,H')) :
  (∃ z r1 H1 r2 H2 u1 h1 u2 h2,mapO (freeze H deep) args=some [.vs [] z]∧body [.nils] { objs:=.nil,next:=0,lo:=0 }=some (r1,H1)∧body [.sl 0 0 1 0 0 false] { objs:=.nil,next:=1,lo:=0 }=some (r2,H2) ∧
   lift H1 deep r1 [] H=some (.vs [] true,u1,h1)∧lift H2 deep r2 [] H=some (.vs [] true,u2,h2)∧r=.vs [] true∧H'=H)∨pureC body args H=some (r,H'):=by
 unfold bothC at h
 split at h
 ·rename_i z h0
  split at h
  ·rename_i r1 H1 r2 H2 h1 h2
   split at h
   ·rename_i v1 u1 k1 v2 u2 k2 h3 h4
    split at h
    ·rename_i h5
     simp only[Bool.and_eq_true] at h5
     cases h
     have e:∀ v,emptyA v=true→v=.vs [] true:=by
      intro v hv;unfold emptyA at hv;split at hv
      ·rfl
      ·cases hv
     rw[e v1 h5.1] at h3
     rw[e v2 h5.2] at h4
     exact .inl ⟨z,r1,H1,r2,H2,u1,k1,u2,k2,h0,h1,h2,h3,h4,rfl,rfl⟩
    ·cases h
   ·cases h
  ·cases h
 ·exact .inr h

theorem eval_G (M:FuncId→Option MFunc):∀ n,CG (eval M n)
 | 0=>fun f args H r H' h _=>by simp[eval] at h
 | n+1=>fun f args H r H' h hw=>by
  simp only[eval] at h
  split at h
  ·split at h
   ·have hp:∀ {b:List AV→AH→Option (AV × AH)},pureC b args H=some (r,H')→HG H H':=fun h=>by
     obtain⟨_,_,_,_,_,_,h3⟩:=pureC_spec h
     exact (lift_G _ _ _ _ _ _ _ _ h3 hw).1
    unfold pureB at h
    split at h
    ·rcases bothC_spec h with ⟨_,_,_,_,_,_,_,_,_,_,_,_,_,_,_,rfl⟩|h
     ·exact HG.refl hw
     ·exact hp h
    ·exact hp h
   ·exact evalF_G (eval_G M n) h hw
  ·cases h

end Go.Ab

namespace Go.Ab
open Go.RowKit

def noL:Lo:=fun _=>none

structure SimC (P:Program) (C:CallF):Prop where
 known : ∀ g args H r, C g args H = some r → ∃ fn, P.funcs[g]? = some fn ∧ (fn.name == "runtime.NumGoroutine") = false ∧ fn.body.isNone = false
 sim:∀ g args H r H',C g args H=some (r,H')→∀ w0 ι w (cargs:Array Value),MR w0 ι noL .nil 0 H w→VL w0 ι args cargs.toList→Fresh ι H H' →
  Calls P g cargs w fun e w'=>∃ cr ι',e=.returned cr∧V w0 ι' r cr∧MR w0 ι' noL .nil 0 H' w'∧FP False ι noL .nil 0 H w ι' noL .nil 0 H' w'
 grow:CG C

section
variable {P:Program} {w0:World} {ι:Io} {lam:Lo} {H:AH} {w:World}

theorem MR.bare {L:Tr (List AV)} {ln:Nat} (h:MR w0 ι lam L ln H w):MR w0 ι noL .nil 0 H w:=
 { h with lpl:=fun st c hc=>(by cases hc),linj:=fun st st' c hc=>(by cases hc),lobj:=fun st c hst=>(by omega),ltop:=fun st _=>Tr.get_nil st }

theorem MR.wh {L:Tr (List AV)} {ln:Nat} (h:MR w0 ι lam L ln H w):WH H:=⟨h.lo,h.top⟩

theorem MR.relo {L:Tr (List AV)} {ln:Nat} (h:MR w0 ι lam L ln H w) {x:Nat} (hx:x≤H.next):MR w0 ι lam L ln { H with lo:=x } w:=
 { h with lo:=hx }

theorem FP.relo {S:Prop} {L L':Tr (List AV)} {ln ln':Nat} {H':AH} {w':World} {ι':Io} {lam':Lo} (hw:WH H)
  (h:FP S ι lam L ln { H with lo:=H.next } w ι' lam' L' ln' H' w') (hq:H.next≤H'.lo):FP S ι lam L ln H w ι' lam' L' ln' { H' with lo:=H.lo } w':=
 { h with
   kept:=fun b x hb hn=>⟨Nat.le_trans hw.lo (Nat.le_trans hq (h.kept b x hb hn).1),(h.kept b x hb hn).2⟩
   blk:=fun b p hb=>by
    rcases h.blk b p hb with g|⟨g1,g2,⟨b0,p0,g3,g4,g5,g6⟩|g3⟩
    ·exact .inl g
    ·exact .inr ⟨g1,g2,.inl ⟨b0,p0,g3,g4,Nat.le_trans hw.lo (Nat.le_trans hq g5),g6⟩⟩
    ·exact .inr ⟨g1,g2,.inr g3⟩
   frame:=fun c hc hS hb=>h.frame c hc hS fun b p g1 g2 g3=>hb b p g1 (Nat.le_trans hw.lo (Nat.le_trans hq g2)) g3
   lo:=Nat.le_refl _
   old:=fun b hb _=>h.old b hb (Nat.lt_of_lt_of_le hb hq) }

theorem MR.back {L:Tr (List AV)} {ln:Nat} (h:MR w0 ι lam L ln H w) {H':AH} {w':World} {ι':Io} (hm:MR w0 ι' noL .nil 0 H' w') (hp:FP False ι noL .nil 0 H w ι' noL .nil 0 H' w') :
  MR w0 ι' lam L ln H' w'∧FP False ι lam L ln H w ι' lam L ln H' w':=by
 refine⟨{ hm with lpl:=fun st c hc=>?_,linj:=h.linj,lobj:=fun st c hst hc=>?_,ltop:=h.ltop }, ?_⟩
 ·have g:=h.lpl st c hc
  refine⟨g.1,Nat.lt_of_lt_of_le g.2.1 hp.size,fun b p hb=>?_⟩
  rcases hp.blk b p hb with k|⟨_,_,⟨b0,p0,k1,k2,_,_⟩|k⟩
  ·exact g.2.2 b p k
  ·rw[← k2];exact g.2.2 b0 p0 k1
  ·have:=g.2.1;omega
 ·have g:=h.lpl st c hc
  obtain⟨cs,cc,T,e1,e2,e3⟩:=h.lobj st c hst hc
  refine⟨cs,cc,T,e1, ?_,e3.ext hp.ext⟩
  rw[hp.frame c g.2.1 (fun f=>f.elim) fun b p k _ _=>g.2.2 b p k];exact e2
 ·exact { hp with
   frame:=fun c hc _ hb=>hp.frame c hc (fun f=>f.elim) hb
   lext:=fun _ _ x=>x,lnew:=fun st x y=>absurd x y,lall:=fun st x y=>by omega,lblk:=fun st c x=>.inl x,lnle:=Nat.le_refl _,lold:=fun _ _ _=>rfl }

def CStep (P:Program) (w0:World) (S:Prop) (o:Oper) (a:Act) (ι:Io) (lam:Lo) (e:Env) (H:AH) (w:World) (v:AV) (e':Env) (H':AH):Prop:=
 ∀ (K:Act→World→Prop) (Q:Exit→Act→World→Prop),
  (∀ cv ι' lam' w',VE w0 ι' lam' v cv→MR w0 ι' lam' e'.L e'.ln H' w'→FP S ι lam e.L e.ln H w ι' lam' e'.L e'.ln H' w'→K (a.put o.dst cv) w')→o.wp P a w K Q

theorem Step.cstep {S:Prop} {o:Oper} {a:Act} {e e':Env} {v:AV} {H':AH} (h:Step P w0 S o a ι lam e H w v e' H'):CStep P w0 S o a ι lam e H w v e' H':=by
 intro K Q hK
 obtain⟨cv,ι',lam',w',d,hv,hm,hp,_⟩:=h
 exact d.wp (hK cv ι' lam' w' hv hm hp)

theorem run_callFunc' {g : FuncId} {fn : Func} (hf : P.funcs[g]? = some fn) (hn : (fn.name == "runtime.NumGoroutine") = false) (hb : fn.body.isNone = false) (args : Array Value) :
  (callFunc g args).run P w=.ok (.enter g args) w:=by
 simp only[callFunc,Sem.run_bind,run_program,Result.andThen_ok,hf,hn,hb,if_false,Bool.false_eq_true,Sem.run_pure]

theorem exec_call {o:Oper} {c:Call} {f:Operand} {a:Act} {g:FuncId} {fn:Func} {first cap:Array Value} (ho:o.op=.call c) (hc:c.callee=.value f) (hv:a.eval f=.func (.func g) first cap)
  (hf : P.funcs[g]? = some fn) (hn : (fn.name == "runtime.NumGoroutine") = false) (hb : fn.body.isNone = false) :
  (execOp a.eval o).run P w=.ok (.enter g (first++c.args.map a.eval++cap)) w:=by
 simp only[execOp,ho,resolve,hc,Deferred.ofValue,hv,Sem.run_bind,Sem.run_pure,Result.andThen_ok,invoke,run_callFunc' hf hn hb]

theorem V.inv_fn {f:Fn} {first cap:List AV} {c:Value} (h:V w0 ι (.fn f first cap) c):∃ f1 c1:Array Value,c=.func f f1 c1∧VL w0 ι first f1.toList∧VL w0 ι cap c1.toList:=by
 cases h with
 | fn _ _ _ f1 c1 h1 h2 hv1 hv2=>
  refine⟨f1,c1,rfl,⟨by simpa using h1,fun i hi=>?_⟩,⟨by simpa using h2,fun i hi=>?_⟩⟩
  ·have:=hv1 i hi
   have hi':i<f1.size:=by omega
   simpa [hi',getElem!_pos] using this
  ·have:=hv2 i hi
   have hi':i<c1.size:=by omega
   simpa [hi',getElem!_pos] using this

theorem val_spec {e:Env} {x:Opd} {v:AV} (h:e.val x=some v):e.raw x=v∧v.free=true:=by
 unfold Env.val at h
 split at h
 ·cases h;exact⟨rfl,by assumption⟩
 ·cases h

theorem cstep_call {C:CallF} (hC:SimC P C) {o:Oper} {c:Call} {f:Operand} {f':Opd} {as':List Opd} {a:Act} {e:Env} {q:Bool} {v:AV} {H':AH} (ho:o.op=.call c) (hcc:c.callee=.value f)
  (hf:cOpd f=some f') (has:mapO cOpd c.args.toList=some as') (h:SR w0 ι lam e H a.tmps w) (he:callA C e H q f' as'=some (v,H')) (hfr:Fresh ι H H') :
  CStep P w0 False o a ι lam e H w v e H':=by
 intro K Q hK
 obtain⟨g,first,cap,as,h1,h2,h3⟩:=callA_spec he
 obtain⟨h1,h1f⟩:=val_spec h1
 have hv:=h.opd hf
 rw[h1] at hv
 obtain⟨f1,c1,e1,v1,v2⟩:=V.inv_fn (hv.V rfl)
 have hargs:=mapO_VL h has h2
 have hall:VL w0 ι (first++as++cap) (f1++c.args.map a.eval++c1).toList:=by
  simp only[Array.toList_append,Array.toList_map]
  exact (v1.append hargs).append v2
 have hkn:∃ r0 H0,C g (first++as++cap) H0=some r0:=by
  rcases h3 with ⟨_,h3⟩|⟨_,H1,h3,_⟩
  ·exact⟨_,_,h3⟩
  ·exact⟨_,_,h3⟩
 obtain⟨r0,H0,hk⟩:=hkn
 obtain⟨fn,hfn,hnm,hbd⟩:=hC.known _ _ _ _ hk
 unfold Oper.wp
 rw[exec_call ho hcc e1 hfn hnm hbd,Oper.upon_enter]
 rcases h3 with ⟨_,h3⟩|⟨_,H1,h3,h4,rfl⟩
 ·refine Calls.mono (hC.sim _ _ _ _ _ h3 w0 ι w _ h.mem.bare hall hfr) ?_
  rintro en w' ⟨cr,ι',rfl,hv',hm',hp'⟩
  obtain⟨hm2,hp2⟩:=h.mem.back hm' hp'
  exact hK cr ι' lam w' (VE.of_V hv') hm2 hp2
 ·refine Calls.mono (hC.sim _ _ _ _ _ h3 w0 ι w _ (h.mem.relo (Nat.le_refl _)).bare hall hfr) ?_
  rintro en w' ⟨cr,ι',rfl,hv',hm',hp'⟩
  obtain⟨hm2,hp2⟩:=(h.mem.relo (Nat.le_refl _)).back hm' hp'
  exact hK cr ι' lam w' (VE.of_V hv') (hm2.relo (Nat.le_trans h.mem.lo hp'.next)) (hp2.relo h.mem.wh h4)

theorem cOp_call {loc q q':Bool} {op:Op} {f':Opd} {as':List Opd} (hc:cOp P loc q op=some (.call q' f' as')) :
  ∃ c f,op=.call c∧c.callee=.value f∧cOpd f=some f'∧mapO cOpd c.args.toList=some as'∧q'=q:=by
 cases op
 case call c=>
  simp only[cOp] at hc
  split at hc
  ·rename_i f hf
   split at hc
   ·rename_i f1 as1 h1 h2
    cases hc
    exact⟨c,f,rfl,hf,h1,h2,rfl⟩
   ·cases hc
  all_goals
   repeat' split at hc
  all_goals cases hc
 case makeMap t r=>cases r<;>(simp only[cOp] at hc;cases hc)
 case lookup t x i ok=>
  cases ok
  ·simp only[cOp] at hc;cases hc
  ·simp only[cOp] at hc
   repeat' split at hc
   all_goals cases hc
 all_goals
  simp only[cOp] at hc
 all_goals
  repeat' split at hc
 all_goals first
  | (cases hc;done)
  | (obtain⟨_,_,e1⟩:=map_some hc;(repeat' split at e1)<;>cases e1;done)
  | skip
 all_goals (try unfold cBin at hc)
 all_goals (try unfold cIns at hc)
 all_goals
  repeat' split at hc
 all_goals cases hc

theorem cstep_op {C:CallF} (hC:SimC P C) {loc q:Bool} {o:Oper} {mo:MOp} {a:Act} {e e':Env} {v:AV} {H':AH} (hc:cOp P loc q o.op=some mo) (he:stepOp C e H mo=some (v,e',H'))
  (h:SR w0 ι lam e H a.tmps w) (hfr:Fresh ι H H') (hlf:LFresh lam e.ln e'.ln):CStep P w0 (isStore o.op) o a ι lam e H w v e' H':=by
 unfold stepOp at he
 split at he
 ·rename_i q' f' as'
  obtain⟨⟨v1,H1⟩,h1,e2⟩:=map_some he;cases e2
  obtain⟨c,f,ho,hcc,hf,has,rfl⟩:=cOp_call hc
  intro K Q hK
  exact cstep_call hC ho hcc hf has h h1 hfr K Q fun cv ι' lam' w' a1 a2 a3=>hK cv ι' lam' w' a1 a2 (a3.mono fun f=>f.elim)
 ·rename_i hn
  exact (sim_aop hc (fun q f as=>hn q f as) he h hfr hlf).cstep

theorem Env.get_set (e:Env) (d:Nat) (v:AV) (t:Nat):(e.set d v).get t=if d=t then v else e.get t:=by
 unfold Env.get Env.set
 simp only[Tr.get_set]
 split<;>simp

theorem Env.get_put_L (e:Env) (d:Option Nat) (v:AV):(e.put d v).L=e.L∧(e.put d v).ln=e.ln:=by cases d<;>exact⟨rfl,rfl⟩

theorem Act.put_size (a:Act) (d:Option Tmp) (v:Value):(a.put d v).tmps.size=a.tmps.size:=by cases d<;>simp[Act.put]

theorem VE.undef:VE w0 ι lam (.tup []) undef:=.tup _ _ rfl (fun i h=>by simp at h)

theorem slots_put {e:Env} {a:Act} {d:Option Nat} {v:AV} {cv:Value} (h:∀ t,VE w0 ι lam (e.get t) (a.tmps.getD t Go.undef)) (hv:VE w0 ι lam v cv) (hd:∀ x,d=some x→x<a.tmps.size) :
  ∀ t,VE w0 ι lam ((e.put d v).get t) ((a.put d cv).tmps.getD t Go.undef):=by
 intro t
 cases d with
 | none=>exact h t
 | some d=>
  have hlt:=hd d rfl
  show VE w0 ι lam ((e.set d v).get t) ((a.tmps.setIfInBounds d cv).getD t Go.undef)
  rw[Env.get_set]
  by_cases hdt:d=t
  ·subst hdt
   rw[if_pos rfl]
   simpa [Array.getD,hlt] using hv
  ·rw[if_neg hdt]
   have:(a.tmps.setIfInBounds d cv).getD t Go.undef=a.tmps.getD t Go.undef:=by
    simp only[Array.getD_eq_getD_getElem?,Array.getElem?_setIfInBounds_ne hdt]
   rw[this];exact h t

structure OperC (P:Program) (nt:Nat) (ops:Array Oper) (q:Bool) (o:Oper) (o':MOper):Prop where
 dst:o'.dst=o.dst
 lt:∀ d,o.dst=some d→d<nt
 op:∃ l,cOp P l q o.op=some o'.op
 g0:o.guard=none→o'.guard=none
 g1:∀ j want,o.guard=some (j,want)→∃ t,(ops[j]?).bind (·.dst)=some t∧t<nt∧o'.guard=some (t,want)

theorem cOper_spec {nt:Nat} {loc:List Nat} {ops:Array Oper} {q:Bool} {o:Oper} {o':MOper} (h:cOper P nt loc ops q o=some o'):OperC P nt ops (q && !isLocD loc o.dst) o o':=by
 unfold cOper at h
 split at h
 ·rename_i hd
  have hlt:∀ d,o.dst=some d→d<nt:=by
   intro d e1
   rw[e1] at hd
   simpa [dstOk] using hd
  split at h
  ·cases h
  ·rename_i m hm
   split at h
   ·rename_i hg
    cases h
    exact⟨rfl,hlt,⟨_,hm⟩,fun _=>rfl,fun j want hh=>by rw[hg] at hh;cases hh⟩
   ·rename_i j want hg
    split at h
    ·rename_i t ht
     split at h
     ·rename_i hlt'
      cases h
      refine⟨rfl,hlt,⟨_,hm⟩,(fun hh=>by rw[hg] at hh;cases hh),fun j' want' hh=>?_⟩
      rw[hg] at hh;cases hh
      exact⟨t,ht,hlt',rfl⟩
     ·cases h
    ·cases h
 ·cases h

theorem VE.bool_iff {v:AV} {c:Value} (h:VE w0 ι lam v c) (b:Bool):c=.bool b↔v=.bool b:=by
 constructor
 ·rintro rfl
  cases hf:v.free with
  | true=>have:=h.V hf;cases this;rfl
  | false=>
   cases v<;>simp[AV.free] at hf
   obtain⟨_,_,e⟩:=h;cases e
 ·rintro rfl;exact h.inv_bool

theorem wanted_eq {nt:Nat} {ops:Array Oper} {q:Bool} {o:Oper} {o':MOper} (h:OperC P nt ops q o o') {e:Env} {a:Act} (hs:∀ t,VE w0 ι lam (e.get t) (a.tmps.getD t Go.undef)) (hn:a.tmps.size=nt) :
  Region.wanted o (yielded ops a.tmps)=wantedA e o':=by
 unfold Region.wanted wantedA
 cases hg:o.guard with
 | none=>rw[h.g0 hg]
 | some p=>
  obtain⟨j,want⟩:=p
  obtain⟨t,h1,h2,h3⟩:=h.g1 j want hg
  rw[h3]
  simp only[yielded,h1,Option.bind_some]
  have hv:=hs t
  have hlt:t<a.tmps.size:=hn ▸ h2
  have e1:a.tmps[t]? = some (a.tmps.getD t Go.undef):=by simp[Array.getD,hlt]
  rw[e1]
  generalize a.tmps.getD t Go.undef=c at hv
  cases hc:e.get t
  case bool b=>
   rw[hc] at hv
   rw[hv.inv_bool]
   cases b<;>cases want<;>rfl
  all_goals
   cases c
   case bool b=>have:=(hv.bool_iff b).1 rfl;rw[hc] at this;cases this
   all_goals rfl

theorem cstep_oper {C:CallF} (hC:SimC P C) {nt:Nat} {ops:Array Oper} {q:Bool} {o:Oper} {o':MOper} (hc:OperC P nt ops q o o') {e e':Env} {H':AH} {a:Act} (he:stepOper C e H o'=some (e',H'))
  (h:SR w0 ι lam e H a.tmps w) (hn:a.tmps.size=nt) (hfr:Fresh ι H H') (hlf:LFresh lam e.ln e'.ln) (K:Act→World→Prop) (Q:Exit→Act→World→Prop)
  (hK:∀ ι' lam' a' w',SR w0 ι' lam' e' H' a'.tmps w'→a'.tmps.size=nt→a'.defers=a.defers→FP True ι lam e.L e.ln H w ι' lam' e'.L e'.ln H' w'→K a' w') :
  if Region.wanted o (yielded ops a.tmps) then o.wp P a w K Q∨(o.asks P a w∧LetsOut Q) else K (a.put o.dst Go.undef) w:=by
 have hdef:∀ (d:Option Tmp) (v:Value),(a.put d v).defers=a.defers:=fun d v=>by cases d<;>rfl
 rw[wanted_eq hc h.slots hn]
 unfold stepOper at he
 by_cases hw:wantedA e o'=true
 ·rw[if_pos hw] at he ⊢
  left
  cases hs:stepOp C e H o'.op with
  | none=>rw[hs] at he;cases he
  | some r=>
   obtain⟨v,e1,H1⟩:=r
   rw[hs] at he
   cases he
   obtain⟨l,hop⟩:=hc.op
   obtain⟨hL,hln⟩:=Env.get_put_L e1 o'.dst v
   rw[hln] at hlf
   refine cstep_op hC hop hs h hfr hlf K Q fun cv ι' lam' w' hv hm hp=>?_
   have hm':e1.m=e.m:=by
    have hl0:LT e:=h.mem.ltop
    exact (stepOp_G hC.grow hs h.mem.wh hl0).2.m
   refine hK ι' lam' _ w' ⟨?_, ?_⟩ (by rw[Act.put_size];exact hn) (hdef _ _) ?_
   ·rw[hL,hln];exact hm
   ·rw[hc.dst]
    refine slots_put (fun t=>?_) hv (fun d hd=>by rw[hn];exact hc.lt d hd)
    have:e1.get t=e.get t:=by unfold Env.get;rw[hm']
    rw[this]
    exact (h.slots t).ext hp.ext hp.lext
   ·rw[hL,hln];exact hp.mono fun _=>trivial
 ·rw[if_neg hw] at he
  rw[if_neg (by simpa using hw)]
  cases he
  obtain⟨hL,hln⟩:=Env.get_put_L e o'.dst (.tup [])
  refine hK ι lam _ w ⟨?_, ?_⟩ (by rw[Act.put_size];exact hn) (hdef _ _) ?_
  ·rw[hL,hln];exact h.mem
  ·rw[hc.dst]
   exact slots_put h.slots VE.undef (fun d hd=>by rw[hn];exact hc.lt d hd)
  ·rw[hL,hln];exact FP.refl _ _ _ _ _ _

theorem Fresh.left {H1 H2:AH} (h:Fresh ι H H2) (k:H1.next≤H2.next):Fresh ι H H1:=fun b h1 h2=>h b h1 (Nat.lt_of_lt_of_le h2 k)
theorem LFresh.left {l l1 l2:Nat} (h:LFresh lam l l2) (k:l1≤l2):LFresh lam l l1:=fun b h1 h2=>h b h1 (Nat.lt_of_lt_of_le h2 k)
theorem Fresh.right {S:Prop} {L L':Tr (List AV)} {ln ln':Nat} {H1 H2:AH} {ι':Io} {lam':Lo} {w':World} (h:Fresh ι H H2) (hp:FP S ι lam L ln H w ι' lam' L' ln' H1 w'):Fresh ι' H1 H2:=by
 intro b h1 h2
 cases hb:ι' b with
 | none=>rfl
 | some x=>
  have h0:=h b (Nat.le_trans hp.next h1) h2
  have:=hp.new b h0 (by rw[hb];simp)
  omega
theorem LFresh.right {S:Prop} {L L':Tr (List AV)} {ln ln' l2:Nat} {H1:AH} {ι':Io} {lam':Lo} {w':World} (h:LFresh lam ln l2) (hp:FP S ι lam L ln H w ι' lam' L' ln' H1 w'):LFresh lam' ln' l2:=by
 intro b h1 h2
 cases hb:lam' b with
 | none=>rfl
 | some x=>
  have h0:=h b (Nat.le_trans hp.lnle h1) h2
  have:=hp.lnew b h0 (by rw[hb];simp)
  omega

theorem SR.wh {e:Env} {tmps:Array Value} (h:SR w0 ι lam e H tmps w):WH H:=h.mem.wh
theorem SR.lt {e:Env} {tmps:Array Value} (h:SR w0 ι lam e H tmps w):LT e:=h.mem.ltop

def Post (w0:World) (nt:Nat) (df:List Deferred) (ι:Io) (lam:Lo) (e:Env) (H:AH) (w:World) (e':Env) (H':AH) (a':Act) (w':World):Prop:=
 ∃ ι' lam',SR w0 ι' lam' e' H' a'.tmps w'∧a'.tmps.size=nt∧a'.defers=df∧FP True ι lam e.L e.ln H w ι' lam' e'.L e'.ln H' w'

theorem wp_run {C:CallF} (hC:SimC P C) {nt:Nat} {ops:Array Oper} {Q:Exit→Act→World→Prop} :
  ∀ (l:List MOper) (k:Nat),k+l.length=ops.size→(∀ i o',l[i]? = some o'→∃ o q,ops[k+i]? = some o∧OperC P nt ops q o o') →
  ∀ (ι:Io) (lam:Lo) (e e':Env) (H H':AH) (a:Act) (w:World),runOps C l e H=some (e',H')→SR w0 ι lam e H a.tmps w→a.tmps.size=nt→Fresh ι H H'→LFresh lam e.ln e'.ln →
  (∀ a' w',Post w0 nt a.defers ι lam e H w e' H' a' w'→Q .normal a' w')→wpOps P ops Q (List.range' k l.length) a w
 | [],k,_,_,ι,lam,e,e',H,H',a,w,hr,h,hn,hf,hlf,hQ=>by
  simp only[runOps] at hr
  cases hr
  exact hQ a w ⟨ι,lam,h,hn,rfl,FP.refl _ _ _ _ _ _⟩
 | o'::l,k,hk,hl,ι,lam,e,e',H,H',a,w,hr,h,hn,hf,hlf,hQ=>by
  simp only[runOps] at hr
  cases hs:stepOper C e H o' with
  | none=>rw[hs] at hr;cases hr
  | some r=>
   obtain⟨e1,H1⟩:=r
   rw[hs] at hr
   simp only[] at hr
   obtain⟨g1,g2⟩:=stepOper_G hC.grow hs h.wh h.lt
   obtain⟨g3,g4⟩:=runOps_G hC.grow hr g1.wh g2.top
   obtain⟨o,q,ho,hoc⟩:=hl 0 o' rfl
   rw[Nat.add_zero] at ho
   simp only[List.length_cons,List.range'_succ]
   rw[wpOps_cons]
   unfold wpOp
   rw[ho]
   refine cstep_oper hC hoc hs h hn (hf.left g3.next) (hlf.left g4.ln) _ Q fun ι1 lam1 a1 w1 h1 hn1 hd1 hp1=>?_
   refine wp_run hC l (k+1) (by simp only[List.length_cons] at hk;omega) (fun i o1 hi=>?_) ι1 lam1 e1 e' H1 H' a1 w1 hr h1 hn1 (hf.right hp1) (hlf.right hp1) fun a' w' hp=>?_
   ·have:=hl (i+1) o1 (by simpa using hi)
    rwa [show k+(i+1)=k+1+i by omega] at this
   ·obtain⟨ι2,lam2,h2,hn2,hd2,hp2⟩:=hp
    exact hQ a' w' ⟨ι2,lam2,h2,hn2,by rw[hd2,hd1],hp1.trans hf hlf hp2⟩

end
end Go.Ab

namespace Go.Ab

def Env.re (e:Env) (m:Tr AV):Env:={ e with m:=m }

theorem raw_re {e:Env} {m:Tr AV} {x:Opd} (h:∀ t∈x.slots,(e.re m).get t=e.get t):(e.re m).raw x=e.raw x:=by
 cases x with
 | t t=>exact h t (by simp[Opd.slots])
 | c v=>rfl

theorem val_re {e:Env} {m:Tr AV} {x:Opd} (h:∀ t∈x.slots,(e.re m).get t=e.get t):(e.re m).val x=e.val x:=by
 unfold Env.val;rw[raw_re h]

theorem mapM_congr {α β:Type} {f g:α→Option β}:∀ {l:List α},(∀ x∈l,f x=g x)→l.mapM f=l.mapM g:=by
 intro l h
 rw[mapM_val,mapM_val]
 induction l with
 | nil=>rfl
 | cons x l ih=>simp only[mapO,h x (by simp),ih fun y hy=>h y (by simp[hy])]

theorem readAt_re {e:Env} {m:Tr AV} {H:AH} {v:AV} {n:Nat}:readAt (e.re m) H v n=readAt e H v n:=by cases v<;>rfl

theorem writeAt_re {e:Env} {m:Tr AV} {H:AH} {v:AV} {vs:List AV}:writeAt (e.re m) H v vs=(writeAt e H v vs).map fun r=>(r.1.re m,r.2):=by
 cases v<;>try rfl
 ·simp only[writeAt,Option.map_map];rfl
 ·simp only[writeAt,Env.re]
  split
  ·split<;>rfl
  ·rfl

theorem boundOf_re {e:Env} {m:Tr AV} {x:Option Opd} {d:Nat} (h:∀ t∈optSlots x,(e.re m).get t=e.get t):boundOf (e.re m) x d=boundOf e x d:=by
 cases x with
 | none=>rfl
 | some x=>simp only[boundOf,raw_re h]

theorem aop_re {e:Env} {m:Tr AV} {H:AH} {mo:MOp} (h:∀ t∈mo.slots,(e.re m).get t=e.get t) :
  aop (e.re m) H mo=(aop e H mo).map fun r=>(r.1,r.2.1.re m,r.2.2):=by
 cases mo
 case mv x=>simp only[aop,raw_re h];rfl
 case pick c a b=>
  simp only[MOp.slots,List.mem_append] at h
  simp only[aop,raw_re fun t ht=>h t (.inl (.inl ht)),raw_re fun t ht=>h t (.inl (.inr ht)),raw_re fun t ht=>h t (.inr ht)]
  split<;>rfl
 case alloc=>rfl
 case mkmap=>rfl
 case stuck=>rfl
 case mset m k v=>
  simp only[MOp.slots,List.mem_append] at h
  simp only[aop,raw_re fun t ht=>h t (.inl (.inl ht)),raw_re fun t ht=>h t (.inl (.inr ht)),val_re fun t ht=>h t (.inr ht)]
  split
  ·split
   ·split<;>rfl
   ·rfl
  ·rfl
 case mget z m k=>
  simp only[MOp.slots,List.mem_append] at h
  simp only[aop,raw_re fun t ht=>h t (.inl ht),raw_re fun t ht=>h t (.inr ht)]
  split
  ·split
   ·split<;>rfl
   ·rfl
  ·rfl
 case allocL=>rfl
 case box x=>simp only[aop,raw_re h];split<;>rfl
 case boxL x=>simp only[aop,raw_re h];split<;>rfl
 case build z ps=>
  simp only[MOp.slots,List.mem_flatMap] at h
  have e1:(ps.mapM fun p=>((e.re m).val p.2.2).map fun v=>(p.1,p.2.1,v))=ps.mapM fun p=>(e.val p.2.2).map fun v=>(p.1,p.2.1,v):=
   mapM_congr fun p hp=>by rw[val_re fun t ht=>h t ⟨p,hp,ht⟩]
  simp only[aop,e1]
  split
  ·simp only[Option.map_map];rfl
  ·rfl
 case bsl sz len z ps=>
  simp only[MOp.slots,List.mem_flatMap] at h
  have e1:(ps.mapM fun p=>((e.re m).val p.2).map fun v=>(p.1*sz,sz,v))=ps.mapM fun p=>(e.val p.2).map fun v=>(p.1*sz,sz,v):=
   mapM_congr fun p hp=>by rw[val_re fun t ht=>h t ⟨p,hp,ht⟩]
  simp only[aop,e1]
  split
  ·simp only[Option.map_map];rfl
  ·rfl
 case ld1 a=>simp only[aop,raw_re h,readAt_re];split<;>rfl
 case ldn n a=>simp only[aop,raw_re h,readAt_re,Option.map_map];rfl
 case st1 a v=>
  simp only[MOp.slots,List.mem_append] at h
  simp only[aop,raw_re fun t ht=>h t (.inl ht),raw_re fun t ht=>h t (.inr ht),writeAt_re]
  split
  ·simp only[Option.map_map];rfl
  ·rfl
 case stn n a v=>
  simp only[MOp.slots,List.mem_append] at h
  simp only[aop,raw_re fun t ht=>h t (.inl ht),raw_re fun t ht=>h t (.inr ht),writeAt_re]
  split
  ·simp only[Option.map_map];rfl
  ·rfl
 case fld=>simp only[aop,raw_re h,Option.map_map];rfl
 case idx sz x i=>
  simp only[MOp.slots,List.mem_append] at h
  simp only[aop,raw_re fun t ht=>h t (.inl ht),raw_re fun t ht=>h t (.inr ht)]
  split
  ·split<;>rfl
  ·split<;>rfl
  ·rfl
 case idxa sz len x i=>
  simp only[MOp.slots,List.mem_append] at h
  simp only[aop,raw_re fun t ht=>h t (.inl ht),raw_re fun t ht=>h t (.inr ht)]
  split
  ·split
   ·simp only[Option.map_map];rfl
   ·rfl
  ·rfl
 case prj off n g x=>
  simp only[aop,raw_re h]
  split
  ·split
   ·split
    ·rfl
    ·simp only[Option.map_map];rfl
   ·rfl
  ·rfl
 case ixa sz len g x i=>
  simp only[MOp.slots,List.mem_append] at h
  simp only[aop,raw_re fun t ht=>h t (.inl ht),raw_re fun t ht=>h t (.inr ht)]
  split
  ·split
   ·split
    ·rfl
    ·simp only[Option.map_map];rfl
   ·rfl
  ·rfl
 case bin op x y=>
  simp only[MOp.slots,List.mem_append] at h
  simp only[aop,raw_re fun t ht=>h t (.inl ht),raw_re fun t ht=>h t (.inr ht),Option.map_map];rfl
 case eqb g x y=>
  simp only[MOp.slots,List.mem_append] at h
  simp only[aop,raw_re fun t ht=>h t (.inl ht),raw_re fun t ht=>h t (.inr ht)]
  split<;>rfl
 case eqg g ks x y=>
  simp only[MOp.slots,List.mem_append] at h
  simp only[aop,raw_re fun t ht=>h t (.inl ht),raw_re fun t ht=>h t (.inr ht)]
  split
  ·simp only[Option.map_map];rfl
  ·rfl
 case isn g x=>simp only[aop,raw_re h];split<;>rfl
 case un=>simp only[aop,raw_re h,Option.map_map];rfl
 case conv=>simp only[aop,raw_re h];split<;>rfl
 case mkfn f a c=>
  simp only[MOp.slots,List.mem_append,List.mem_flatMap] at h
  have e1:a.mapM (e.re m).val=a.mapM e.val:=mapM_congr fun p hp=>val_re fun t ht=>h t (.inl ⟨p,hp,ht⟩)
  have e2:c.mapM (e.re m).val=c.mapM e.val:=mapM_congr fun p hp=>val_re fun t ht=>h t (.inr ⟨p,hp,ht⟩)
  simp only[aop,e1,e2]
  split<;>rfl
 case ext i x=>
  simp only[aop,raw_re h]
  split
  ·simp only[Option.map_map];rfl
  ·rfl
 case len x=>simp only[aop,raw_re h];split<;>rfl
 case slen x=>simp only[aop,raw_re h];split<;>rfl
 case capz x=>simp only[aop,raw_re h];split<;>rfl
 case sla n x=>
  simp only[aop,raw_re h]
  split
  ·split<;>first|rfl|(split<;>rfl)
  ·split<;>first|rfl|(split<;>rfl)
  ·rfl
 case min2 x y=>
  simp only[MOp.slots,List.mem_append] at h
  simp only[aop,raw_re fun t ht=>h t (.inl ht),raw_re fun t ht=>h t (.inr ht)]
  split<;>rfl
 case lenc=>rfl
 case app sz by_ q x y=>
  simp only[MOp.slots,List.mem_append] at h
  simp only[aop,raw_re fun t ht=>h t (.inl ht),raw_re fun t ht=>h t (.inr ht),Option.map_map];rfl
 case mksl sz by_ z l c=>
  simp only[MOp.slots,List.mem_append] at h
  simp only[aop,raw_re fun t ht=>h t (.inl ht),raw_re fun t ht=>h t (.inr ht)]
  split
  ·split<;>rfl
  ·rfl
 case slc sz x lo hi mx=>
  simp only[MOp.slots,List.mem_append] at h
  have b1:∀ d,boundOf (e.re m) mx d=boundOf e mx d:=fun d=>boundOf_re fun t ht=>h t (.inr ht)
  have b2:∀ d,boundOf (e.re m) hi d=boundOf e hi d:=fun d=>boundOf_re fun t ht=>h t (.inl (.inr ht))
  have b3:∀ d,boundOf (e.re m) lo d=boundOf e lo d:=fun d=>boundOf_re fun t ht=>h t (.inl (.inl (.inr ht)))
  simp only[aop,raw_re fun t ht=>h t (.inl (.inl (.inl ht))),b1,b2,b3]
  split
  ·split
   ·split<;>rfl
   ·rfl
  ·split
   ·split
    ·split<;>rfl
    ·split<;>rfl
   ·rfl
  ·split<;>rfl
  ·rfl
 case chk x=>simp only[aop,raw_re h];split<;>rfl
 case call=>rfl

def AH.re (H:AH) (x:Nat):AH:={ H with lo:=x }

theorem aop_pure {e e':Env} {H H':AH} {mo:MOp} {v:AV} (hm:mo.mem=false) (h:aop e H mo=some (v,e',H')) :
  e'=e∧H'=H∧∀ L ln H2,aop ⟨e.m,L,ln⟩ H2 mo=some (v,⟨e.m,L,ln⟩,H2):=by
 cases mo
 all_goals first|(simp[MOp.mem] at hm;done)|skip
 all_goals
  simp only[aop] at h
  repeat' split at h
 all_goals first
  | (cases h;done)
  | skip
 all_goals
  first
  | cases h
  | (obtain⟨a,e0,e1⟩:=map_some h;cases e1)
 all_goals
  refine⟨rfl,rfl,fun L ln H2=>?_⟩
  simp only[aop]
 all_goals
  have raw_eq:∀ x,(⟨e.m,L,ln⟩:Env).raw x=e.raw x:=fun x=>by cases x<;>rfl
  have val_eq:(⟨e.m,L,ln⟩:Env).val=e.val:=funext fun x=>by unfold Env.val;rw[raw_eq]
  have bo_eq:∀ x d,boundOf ⟨e.m,L,ln⟩ x d=boundOf e x d:=fun x d=>by cases x<;>simp only[boundOf,raw_eq]
  simp only[raw_eq,val_eq,bo_eq]
  try first
  | rfl
  | (simp_all;done)
  | (simp[*];done)

theorem aop_ld {e e':Env} {H H':AH} {mo:MOp} {v:AV} {a:Opd} {n:Nat} (hm:ldOf mo=some (a,n)) (h:aop e H mo=some (v,e',H')) :
  e'=e∧H'=H∧(readAt e H (e.raw a) n).isSome=true∧∀ L ln H2,readAt ⟨e.m,L,ln⟩ H2 (e.raw a) n=readAt e H (e.raw a) n→aop ⟨e.m,L,ln⟩ H2 mo=some (v,⟨e.m,L,ln⟩,H2):=by
 have raw_eq:∀ L ln x,(⟨e.m,L,ln⟩:Env).raw x=e.raw x:=fun L ln x=>by cases x<;>rfl
 cases mo<;>simp[ldOf] at hm
 ·obtain⟨rfl,rfl⟩:=hm
  simp only[aop] at h
  split at h
  ·rename_i v1 e1
   cases h
   refine⟨rfl,rfl,by rw[e1];rfl,fun L ln H2 hr=>?_⟩
   simp only[aop,raw_eq,hr,e1]
  ·cases h
 ·obtain⟨rfl,rfl⟩:=hm
  simp only[aop] at h
  obtain⟨cs,e0,e1⟩:=map_some h;cases e1
  refine⟨rfl,rfl,by rw[e0];rfl,fun L ln H2 hr=>?_⟩
  simp only[aop,raw_eq,hr,e0];rfl

structure Calm (e e':Env) (H H':AH):Prop where
 lo:H'.lo=H.lo
 old:∀ b,b<H.next→H'.get b=H.get b
 loc:∀ st,st<e.ln→e'.L.get st=e.L.get st

theorem Calm.refl {e:Env} {H:AH}:Calm e e H H:=⟨rfl,fun _ _=>rfl,fun _ _=>rfl⟩
theorem Calm.new {e:Env} {H:AH} {o:AObj}:Calm e e H (H.new o):=⟨rfl,fun b hb=>by rw[AH.get_new,if_neg (by omega)],fun _ _=>rfl⟩
theorem Calm.locN {e:Env} {H:AH} {cs:List AV}:Calm e (e.loc cs) H H:=
 ⟨rfl,fun _ _=>rfl,fun st hst=>by show (e.L.set e.ln cs).get st=_;rw[Tr.get_set,if_neg (by omega)]⟩

theorem elemsOf_re {H:AH} {x sz:Nat} {v:AV}:elemsOf (H.re x) sz v=elemsOf H sz v:=by cases v<;>rfl

theorem appA_calm {H H':AH} {sz bytes:Nat} {x y v:AV} (h:appA H sz bytes true x y=some (v,H')) :
  H'.lo=H.lo∧(∀ b,b<H.next→H'.get b=H.get b)∧∀ z,appA (H.re z) sz bytes true x y=some (v,H'.re z):=by
 have hnew:∀ o,(H.new o).lo=H.lo∧∀ b,b<H.next→(H.new o).get b=H.get b:=fun o=>⟨rfl,fun b hb=>by rw[AH.get_new,if_neg (by omega)]⟩
 unfold appA at h
 split at h
 ·cases h
 ·rename_i new hn
  simp only[] at h
  split at h
  ·rename_i hm
   split at h<;>cases h<;>refine⟨rfl,fun _ _=>rfl,fun z=>?_⟩<;>unfold appA<;>rw[elemsOf_re,hn]<;>simp only[]<;>rw[if_pos hm]
  ·rename_i hm
   split at h
   ·split at h<;>cases h
    rename_i hle
    refine⟨(hnew _).1,(hnew _).2,fun z=>?_⟩
    unfold appA;rw[elemsOf_re,hn];simp only[];rw[if_neg hm,if_pos hle];rfl
   ·split at h<;>cases h
    rename_i hle
    refine⟨(hnew _).1,(hnew _).2,fun z=>?_⟩
    unfold appA;rw[elemsOf_re,hn];simp only[];rw[if_neg hm,if_pos hle];rfl
   ·split at h
    ·rename_i hex0
     split at h<;>cases h
     rename_i hle
     refine⟨(hnew _).1,(hnew _).2,fun z=>?_⟩
     unfold appA;rw[elemsOf_re,hn];simp only[];rw[if_neg hm,if_pos hex0,if_pos hle];rfl
    rename_i hex0
    split at h
    ·cases h
    ·rename_i hsz
     split at h
     ·simp only[if_true] at h;cases h
     ·rename_i hcap
      split at h
      ·cases h
      ·rename_i old ho
       split at h
       ·rename_i hex
        split at h<;>cases h
        rename_i hle
        refine⟨(hnew _).1,(hnew _).2,fun z=>?_⟩
        have ho':(H.re z).read=H.read:=rfl
        unfold appA;rw[elemsOf_re,hn];simp only[];rw[if_neg hm,if_neg hex0,if_neg hsz,if_neg hcap,ho',ho];simp only[];rw[if_pos hex,if_pos hle];rfl
       ·simp only[if_true] at h;cases h
   ·cases h

theorem aop_calm {e e':Env} {H H':AH} {mo:MOp} {v:AV} (hm:mo.loud=false) (hc:∀ q f as,mo≠.call q f as) (h:aop e H mo=some (v,e',H')) :
  Calm e e' H H'∧∀ x,aop e (H.re x) mo=some (v,e',H'.re x):=by
 by_cases hmem:mo.mem=false
 ·obtain⟨rfl,rfl,h3⟩:=aop_pure hmem h
  exact⟨Calm.refl,fun x=>h3 e'.L e'.ln _⟩
 ·cases hl:ldOf mo with
  | some p=>
   obtain⟨a,n⟩:=p
   obtain⟨rfl,rfl,_,h3⟩:=aop_ld hl h
   exact⟨Calm.refl,fun x=>h3 e'.L e'.ln _ (by cases e'.raw a<;>rfl)⟩
  | none=>
   cases mo
   all_goals first|(simp[MOp.mem] at hmem;done)|(simp[ldOf] at hl;done)|(simp[MOp.loud] at hm;done)|skip
   case alloc=>simp only[aop] at h;cases h;exact⟨Calm.new,fun x=>rfl⟩
   case mkmap=>simp only[aop] at h;cases h;exact⟨Calm.new,fun x=>rfl⟩
   case sla n x=>
    simp only[aop] at h
    split at h
    ·rename_i es i o h1
     split at h
     ·rename_i row h2
      split at h
      ·rename_i h3;cases h;exact⟨Calm.refl,fun x=>by simp only[aop,h1,h2,if_pos h3]⟩
      ·cases h
     ·cases h
    ·rename_i b o h1
     split at h
     ·rename_i cs h2
      split at h
      ·rename_i h3;cases h;exact⟨Calm.refl,fun x=>by have h2':(H.re x).get b=.cells cs:=h2;simp only[aop,h1,h2',if_pos h3]⟩
      ·cases h
     ·cases h
    ·cases h
   case mget z m k=>
    simp only[aop] at h
    split at h
    ·rename_i r kk n h1 h2
     split at h
     ·rename_i es h3
      split at h
      ·rename_i x1 h4;cases h;exact⟨Calm.refl,fun x=>by have h3':(H.re x).get r=.map es:=h3;simp only[aop,h1,h2,h3',h4]⟩
      ·rename_i h4;cases h;exact⟨Calm.refl,fun x=>by have h3':(H.re x).get r=.map es:=h3;simp only[aop,h1,h2,h3',h4]⟩
      ·cases h
     ·cases h
    ·cases h
   case allocL=>simp only[aop] at h;cases h;exact⟨Calm.locN,fun x=>rfl⟩
   case box=>
    simp only[aop] at h
    split at h<;>cases h
    rename_i hv
    exact⟨Calm.new,fun x=>by simp only[aop,if_pos hv];rfl⟩
   case boxL=>
    simp only[aop] at h
    split at h<;>cases h
    rename_i hv
    exact⟨Calm.locN,fun x=>by simp only[aop,if_pos hv]⟩
   case bsl=>
    simp only[aop] at h
    split at h
    ·rename_i ps hps
     obtain⟨cs,e0,e1⟩:=map_some h;cases e1
     exact⟨Calm.new,fun x=>by simp only[aop,hps,e0];rfl⟩
    ·cases h
   case mksl=>
    simp only[aop] at h
    split at h
    ·rename_i l c h1 h2
     split at h<;>cases h
     rename_i hcond
     exact⟨Calm.new,fun x=>by simp only[aop,h1,h2,if_pos hcond];rfl⟩
    ·cases h
   case app sz by_ q x y=>
    simp[MOp.loud] at hm
    subst hm
    simp only[aop] at h
    obtain⟨⟨v1,H1⟩,e0,e1⟩:=map_some h;cases e1
    obtain⟨k1,k2,k3⟩:=appA_calm e0
    exact⟨⟨k1,k2,fun _ _=>rfl⟩,fun z=>by simp only[aop,k3];rfl⟩
   case call q f as=>exact absurd rfl (hc q f as)

theorem stepOp_calm {C:CallF} (hC:CG C) {e e':Env} {H H':AH} {mo:MOp} {v:AV} (hw:WH H) (hm:mo.loud=false) (h:stepOp C e H mo=some (v,e',H')) :
  Calm e e' H H'∧stepOp C e (H.re H.next) mo=some (v,e',H'.re H.next):=by
 unfold stepOp at h
 split at h
 ·rename_i q f as
  simp[MOp.loud] at hm
  subst hm
  obtain⟨⟨v1,H1⟩,e0,e1⟩:=map_some h;cases e1
  obtain⟨g,first,cap,as',k1,k2,k3⟩:=callA_spec e0
  rcases k3 with ⟨k3,_⟩|⟨_,H2,k4,k5,rfl⟩
  ·cases k3
  ·have hg:=(hC _ _ _ _ _ k4 (hw.relo (Nat.le_refl _))).quiet k5 hw
   refine⟨⟨rfl,fun b hb=>(hC _ _ _ _ _ k4 (hw.relo (Nat.le_refl _))).old b hb (Nat.lt_of_lt_of_le hb k5),fun _ _=>rfl⟩, ?_⟩
   unfold stepOp callA
   simp only[k1,k2,if_true]
   have e5:({ (H.re H.next) with lo:=(H.re H.next).next }:AH)={ H with lo:=H.next }:=rfl
   rw[e5,k4]
   unfold quietly
   have k6:(H.re H.next).next≤H2.lo:=k5
   simp only[if_pos k6]
   rfl
 ·rename_i hn
  obtain⟨a,b⟩:=aop_calm hm (fun q f as=>hn q f as) h
  refine⟨a, ?_⟩
  have:=b H.next
  unfold stepOp
  split
  ·rename_i q f as;exact absurd rfl (hn q f as)
  ·exact this

end Go.Ab

namespace Go.Ab
open Go.RowKit

section
variable {w0:World} {ι:Io} {lam:Lo} {H:AH} {w:World}

theorem MR.shift {L L':Tr (List AV)} {ln ln':Nat} {H':AH} (h:MR w0 ι lam L ln H w) (hw:WH H') (hl:∀ st,ln'≤st→L'.get st=none) (hb:∀ b,H.next≤b→b<H'.next→ι b=none)
  (hg:∀ b,b<H.next→H'.get b=H.get b) (hlb:∀ st,ln≤st→st<ln'→lam st=none) (hL:∀ st,st<ln→L'.get st=L.get st):MR w0 ι lam L' ln' H' w:=by
 have hb':∀ b x,b<H'.next→ι b=some x→b<H.next:=fun b x h1 h2=>by
  rcases Nat.lt_or_ge b H.next with g|g
  ·exact g
  ·rw[hb b g h1] at h2;cases h2
 refine { h with obj:=fun b p h1 h2=>?_,lobj:=fun st c h1 h2=>?_,lo:=hw.lo,top:=hw.top,ltop:=hl,alive:=fun b h1 h2=>?_ }
 ·rw[hg b (hb' b _ h1 h2)];exact h.obj b p (hb' b _ h1 h2) h2
 ·have:st<ln:=by
   rcases Nat.lt_or_ge st ln with g|g
   ·exact g
   ·rw[hlb st g h1] at h2;cases h2
  obtain⟨cs,cc,T,e1,e2⟩:=h.lobj st c this h2
  exact⟨cs,cc,T,by rw[hL st this];exact e1,e2⟩
 ·rw[hg b (hb' b _ h1 h2)];exact h.alive b (hb' b _ h1 h2) h2

theorem MR.down {L L':Tr (List AV)} {ln ln':Nat} {H':AH} (h:MR w0 ι lam L ln H w) (hw:WH H') (hl:∀ st,ln'≤st→L'.get st=none) (hn:H'.next≤H.next) (hln:ln'≤ln)
  (hg:∀ b,b<H'.next→H.get b=H'.get b) (hL:∀ st,st<ln'→L.get st=L'.get st):MR w0 ι lam L' ln' H' w:=by
 refine { h with obj:=fun b p h1 h2=>?_,lobj:=fun st c h1 h2=>?_,lo:=hw.lo,top:=hw.top,ltop:=hl,alive:=fun b h1 h2=>?_ }
 ·rw[← hg b h1];exact h.obj b p (Nat.lt_of_lt_of_le h1 hn) h2
 ·obtain⟨cs,cc,T,e1,e2⟩:=h.lobj st c (Nat.lt_of_lt_of_le h1 hln) h2
  exact⟨cs,cc,T,by rw[← hL st h1];exact e1,e2⟩
 ·rw[← hg b h1];exact h.alive b (Nat.lt_of_lt_of_le h1 hn) h2

theorem MR.merge {L L1 L2:Tr (List AV)} {ln ln1 ln2:Nat} {H1 H2:AH} {w':World} {ι':Io} {lam':Lo} (h:MR w0 ι lam L ln H w) (hp:FP False ι lam L1 ln1 H1 w ι' lam' L2 ln2 H2 w') (hm:MR w0 ι' lam' L2 ln2 H2 w')
  (hq:H1.next≤H2.lo) (hg:∀ b,b<H2.next→H.get b=H2.get b) (hL:∀ st,st<ln2→L.get st=L2.get st):MR w0 ι' lam' L ln H w':=by
 have hold:∀ c,c<w.heap.size→w'.heap[c]? = w.heap[c]?:=fun c hc=>hp.frame c hc (fun f=>f.elim) fun b p h1 h2 h3=>by omega
 refine { hm with obj:=fun b p h1 h2=>?_,lobj:=fun st c h1 h2=>?_,lo:=h.lo,top:=h.top,ltop:=h.ltop,alive:=fun b h1 h2=>?_ }
 ·rcases hp.blk b p h2 with g|⟨_,g,_⟩
  ·rw[hold _ (h.pl b p g).2];exact (h.obj b p h1 g).ext hp.ext
  ·rw[hg b g];exact hm.obj b p g h2
 ·cases hs:lam st with
  | some c0=>
   have:=hp.lext st c0 hs
   rw[this] at h2;cases h2
   obtain⟨cs,cc,T,e1,e2,e3⟩:=h.lobj st _ h1 hs
   exact⟨cs,cc,T,e1,by rw[hold _ (h.lpl st _ hs).2.1];exact e2,e3.ext hp.ext⟩
  | none=>
   have hr:=hp.lnew st hs (by rw[h2];simp)
   obtain⟨cs,cc,T,e1,e2⟩:=hm.lobj st c hr.2 h2
   exact⟨cs,cc,T,by rw[hL st hr.2];exact e1,e2⟩
 ·cases hb:ι b with
  | none=>
   have hr:=hp.new b hb (by rw[h2];simp)
   rw[hg b hr.2];exact hm.alive b hr.2 h2
  | some x=>
   by_cases hx:ι' b=some x
   ·rw[h2] at hx;cases hx;exact h.alive b h1 hb
   ·have:=hp.kept b x hb hx;omega

structure GP (ι:Io) (lam:Lo) (ln N:Nat) (w:World) (ι':Io) (lam':Lo) (ln' N' lo':Nat) (w':World):Prop where
 ext:Ext ι ι'
 kept:∀ b x,ι b=some x→ι' b≠some x→lo'≤b∧b<N
 new:∀ b,ι b=none→ι' b≠none→N≤b∧b<N'
 blk:∀ b p,ι' b=some (some p)→ι b=some (some p)∨(N≤b∧b<N'∧((∃ b0 p0,ι b0=some (some p0)∧p0.blk=p.blk∧lo'≤b0∧b0<N)∨w.heap.size≤p.blk))
 frame:∀ c,c<w.heap.size→(∀ st,st<ln→lam st≠some c)→(∀ b p,ι b=some (some p)→lo'≤b→b<N→p.blk≠c)→w'.heap[c]? = w.heap[c]?
 size:w.heap.size≤w'.heap.size
 lext:∀ st c,lam st=some c→lam' st=some c
 lnew:∀ st,lam st=none→lam' st≠none→ln≤st∧st<ln'
 lblk:∀ st c,lam' st=some c→lam st=some c∨w.heap.size≤c

theorem GP.refl (ln N ln' N' lo':Nat):GP ι lam ln N w ι lam ln' N' lo' w where
 ext:=Ext.refl ι
 kept:=fun b x h k=>absurd h k
 new:=fun b h k=>absurd h k
 blk:=fun b p h=>.inl h
 frame:=fun _ _ _ _=>rfl
 size:=Nat.le_refl _
 lext:=fun _ _ h=>h
 lnew:=fun st h k=>absurd h k
 lblk:=fun st c h=>.inl h

theorem GP.step {S:Prop} {ln N ln' N' lo':Nat} {ι1 ι2:Io} {lam1 lam2:Lo} {w1 w2:World} {L1 L2:Tr (List AV)} {ln1 ln2:Nat} {H1 H2:AH} (h:GP ι lam ln N w ι1 lam1 ln' N' lo' w1) (k:FP S ι1 lam1 L1 ln1 H1 w1 ι2 lam2 L2 ln2 H2 w2)
  (c1:N≤H1.next) (c2:H2.next≤N') (c3:lo'≤H2.lo) (c4:ln≤ln1) (c5:ln2≤ln') (hf:∀ b,N≤b→b<N'→ι b=none) (hlf:∀ st,ln≤st→st<ln'→lam st=none):GP ι lam ln N w ι2 lam2 ln' N' lo' w2 where
 ext:=h.ext.trans k.ext
 kept:=fun b x hb hn=>by
  by_cases h1:ι1 b=some x
  ·have:=k.kept b x h1 hn
   refine⟨by omega, ?_⟩
   rcases Nat.lt_or_ge b N with g|g
   ·exact g
   ·have:=hf b g (by have:=k.next;omega);rw[this] at hb;cases hb
  ·exact h.kept b x hb h1
 new:=fun b hb hn=>by
  by_cases h1:ι1 b=none
  ·have:=k.new b h1 hn;omega
  ·exact h.new b hb h1
 blk:=fun b p hb=>by
  rcases k.blk b p hb with h1|⟨h1,h1',h2⟩
  ·exact h.blk b p h1
  ·refine .inr ⟨by omega,by omega, ?_⟩
   rcases h2 with ⟨b0,p0,a1,a2,a3,a4⟩|h2
   ·rcases h.blk b0 p0 a1 with h3|⟨h3,h3',h4⟩
    ·rcases Nat.lt_or_ge b0 N with g|g
     ·exact .inl ⟨b0,p0,h3,a2,by omega,g⟩
     ·have:=hf b0 g (by have:=k.next;omega);rw[this] at h3;cases h3
    ·rcases h4 with ⟨b1,p1,d1,d2,d3,d4⟩|h4
     ·exact .inl ⟨b1,p1,d1,by rw[d2,a2],d3,d4⟩
     ·exact .inr (by rw[← a2];exact h4)
   ·exact .inr (Nat.le_trans h.size h2)
 frame:=fun c hc hS hb=>by
  rw[← h.frame c hc hS hb]
  refine k.frame c (Nat.lt_of_lt_of_le hc h.size) (fun _ st hst=>?_) fun b p a1 a2 a3=>?_
  ·intro e
   rcases h.lblk st c e with g|g
   ·have:st<ln:=by
     rcases Nat.lt_or_ge st ln with g'|g'
     ·exact g'
     ·have:=hlf st g' (by have:=k.lnle;omega);rw[this] at g;cases g
    exact hS st this g
   ·omega
  ·rcases h.blk b p a1 with h3|⟨h3,h3',h4⟩
   ·rcases Nat.lt_or_ge b N with g|g
    ·exact hb b p h3 (by omega) g
    ·have:=hf b g (by have:=k.next;omega);rw[this] at h3;cases h3
   ·rcases h4 with ⟨b0,p0,d1,d2,d3,d4⟩|h4
    ·rw[← d2];exact hb b0 p0 d1 d3 d4
    ·omega
 size:=Nat.le_trans h.size k.size
 lext:=fun st c hc=>k.lext st c (h.lext st c hc)
 lnew:=fun st hs hn=>by
  by_cases h1:lam1 st=none
  ·have:=k.lnew st h1 hn;omega
  ·exact h.lnew st hs h1
 lblk:=fun st c hc=>by
  rcases k.lblk st c hc with h1|h1
  ·exact h.lblk st c h1
  ·exact .inr (Nat.le_trans h.size h1)

end

/-! readings -/

theorem readAt_calm {e e':Env} {H H':AH} {a:AV} {n:Nat} {cs:List AV} (h:readAt e H a n=some cs) (hw:WH H) (hl:LT e) (hg:∀ b,b<H.next→H'.get b=H.get b) (hL:∀ st,st<e.ln→e'.L.get st=e.L.get st) :
  readAt e' H' a n=some cs:=by
 unfold readAt at h ⊢
 split at h
 ·rename_i b o
  unfold AH.read at h ⊢
  split at h
  ·rename_i xs hx
   rw[hg b (hw.lt hx (by simp)),hx];exact h
  ·cases h
 ·exact h
 ·rename_i st o
  split at h
  ·rename_i xs hx
   have:st<e.ln:=by
    rcases Nat.lt_or_ge st e.ln with g|g
    ·exact g
    ·rw[hl st g] at hx;cases hx
   simp only[hL st this,hx];exact h
  ·cases h
 ·cases h

theorem slice_splice {cs vs:List AV} {o p n:Nat} (hle:o+vs.length≤cs.length) (hd:o+vs.length≤p∨p+n≤o):slice (splice cs o vs) p n=slice cs p n:=by
 have hlen:(splice cs o vs).length=cs.length:=by unfold splice;simp;omega
 unfold slice
 rw[hlen]
 split
 ·congr 1
  apply List.ext_getElem?
  intro i
  rw[List.getElem?_take,List.getElem?_take]
  split
  ·rename_i hi
   rw[List.getElem?_drop,List.getElem?_drop]
   unfold splice
   rcases hd with hd|hd
   ·rw[List.getElem?_append_right (by simp;omega),List.getElem?_drop]
    congr 1
    simp;omega
   ·rw[List.append_assoc,List.getElem?_append_left (by simp;omega),List.getElem?_take,if_pos (by omega)]
  ·rfl
 ·rfl

theorem readAt_apart {e e':Env} {H H':AH} {x a:AV} {vs:List AV} {n:Nat} (h:writeAt e H x vs=some (e',H')) (ha:apartA x vs.length a n=true):readAt e' H' a n=readAt e H a n:=by
 unfold writeAt at h
 split at h
 ·rename_i b o
  obtain⟨H1,h1,h2⟩:=map_some h
  cases h2
  unfold AH.write at h1
  split at h1
  ·rename_i cs hg
   split at h1
   ·rename_i hle
    cases h1
    unfold apartA at ha
    split at ha
    ·rename_i x o1 y p e1
     cases e1
     simp only[Bool.or_eq_true,bne_iff_ne,ne_eq,decide_eq_true_eq] at ha
     unfold readAt AH.read
     simp only[AH.get_put]
     by_cases hb:b=y
     ·subst hb
      rw[if_pos rfl,hg]
      exact slice_splice hle (by rcases ha with (h|h)|h<;>first|exact absurd rfl h|exact .inl h|exact .inr h)
     ·rw[if_neg hb]
    ·rename_i e1;cases e1
    ·rfl
    ·rename_i e1;cases e1
    ·rfl
    ·rename_i e1;cases e1
    ·cases ha
   ·cases h1
  ·cases h1
 ·rename_i st o
  split at h
  ·rename_i cs hg
   split at h
   ·rename_i hle
    cases h
    unfold apartA at ha
    split at ha
    ·rename_i e1;cases e1
    ·rename_i x o1 y p e1
     cases e1
     simp only[Bool.or_eq_true,bne_iff_ne,ne_eq,decide_eq_true_eq] at ha
     unfold readAt
     simp only[Env.putL,Tr.get_set]
     by_cases hb:st=y
     ·subst hb
      rw[if_pos rfl,hg]
      exact slice_splice hle (by rcases ha with (h|h)|h<;>first|exact absurd rfl h|exact .inl h|exact .inr h)
     ·rw[if_neg hb]
    ·rename_i e1;cases e1
    ·rfl
    ·rename_i e1;cases e1
    ·rfl
    ·cases ha
   ·cases h
  ·cases h
 ·cases h

theorem aop_st {e e':Env} {H H':AH} {mo:MOp} {v:AV} {a:Opd} {n:Nat} (hm:stOf mo=some (a,n)) (h:aop e H mo=some (v,e',H')):∃ vs,vs.length=n∧writeAt e H (e.raw a) vs=some (e',H'):=by
 cases mo<;>simp[stOf] at hm
 ·obtain⟨rfl,rfl⟩:=hm
  simp only[aop] at h
  split at h
  ·obtain⟨⟨e1,H1⟩,h1,e2⟩:=map_some h;cases e2;exact⟨_,rfl,h1⟩
  ·cases h
 ·obtain⟨rfl,rfl⟩:=hm
  simp only[aop] at h
  split at h
  ·rename_i hh
   obtain⟨⟨e1,H1⟩,h1,e2⟩:=map_some h;cases e2;exact⟨_,hh.2,h1⟩
  ·cases h

end Go.Ab

namespace Go.Ab
open Go.RowKit

theorem ordered_comm (b:Array Nat) (i j:Nat):ordered b i j=ordered b j i:=by
 unfold ordered;rw[Nat.max_comm,Nat.min_comm]
theorem ordered_lt {b:Array Nat} {i j:Nat} (h:i<j):ordered b i j=(b.getD j 0).testBit i:=by
 unfold ordered;rw[Nat.max_eq_right (by omega),Nat.min_eq_left (by omega)]

structure Reg (P:Program) (C:CallF) (ops:Array Oper) (ms:List MOper) (b:Array Nat) (nt:Nat) (E:Nat→Env) (G:Nat→AH):Prop where
 sim:SimC P C
 len:ms.length=ops.size
 op:∀ (i:Nat) o',ms[i]? = some o'→∃ o q,ops[i]? = some o∧OperC P nt ops q o o'
 down:edgesDown ops=true
 just:justB ops b=true
 stat:statOk ms b=true
 step:∀ (k:Nat) o,ms[k]? = some o→stepOper C (E k) (G k) o=some (E (k+1),G (k+1))
 wh:WH (G 0)
 lt:LT (E 0)
 chk:∀ (s j:Nat) os oj a n c m,ms[s]? = some os→ms[j]? = some oj→s≠j→ordered b s j=false→stOf os.op=some (a,n)→ldOf oj.op=some (c,m)→wantedA (E j) oj=true →
  apartA ((E s).raw a) n ((E j).raw c) m=true∧(s<j→(readAt (E s) (G s) ((E j).raw c) m).isSome=true)
 chkL:∀ (s j:Nat) os oj c m,ms[s]? = some os→ms[j]? = some oj→s≠j→ordered b s j=false→os.op.isApp=true→ldOf oj.op=some (c,m)→wantedA (E j) oj=true →
  isLp ((E j).raw c)=true∧(s<j→(readAt (E s) (G s) ((E j).raw c) m).isSome=true)

section
variable {P:Program} {C:CallF} {ops:Array Oper} {ms:List MOper} {b:Array Nat} {nt:Nat} {E:Nat→Env} {G:Nat→AH}

theorem Reg.at (R:Reg P C ops ms b nt E G) {k:Nat} (h:k<ops.size):∃ o',ms[k]? = some o':=⟨_,List.getElem?_eq_getElem (by rw[R.len];exact h)⟩

theorem Reg.good (R:Reg P C ops ms b nt E G):∀ k,k≤ops.size→WH (G k)∧LT (E k)
 | 0,_=>⟨R.wh,R.lt⟩
 | k+1,hk=>by
  obtain⟨a,c⟩:=R.good k (by omega)
  obtain⟨o',ho⟩:=R.at (k:=k) (by omega)
  obtain⟨d,e⟩:=stepOper_G R.sim.grow (R.step k o' ho) a c
  exact⟨d.wh,e.top⟩

theorem Reg.grow1 (R:Reg P C ops ms b nt E G) {k:Nat} (hk:k<ops.size):HG (G k) (G (k+1))∧EG (E k) (E (k+1)):=by
 obtain⟨a,c⟩:=R.good k (by omega)
 obtain⟨o',ho⟩:=R.at hk
 exact stepOper_G R.sim.grow (R.step k o' ho) a c

theorem Reg.grow (R:Reg P C ops ms b nt E G) {i:Nat}:∀ k,i≤k→k≤ops.size→HG (G i) (G k)∧EG (E i) (E k)
 | 0,h1,h2=>by have:i=0:=by omega
               subst this;exact⟨HG.refl (R.good 0 h2).1,EG.refl (R.good 0 h2).2⟩
 | k+1,h1,h2=>by
  by_cases hi:i=k+1
  ·subst hi;exact⟨HG.refl (R.good _ h2).1,EG.refl (R.good _ h2).2⟩
  ·obtain⟨a,c⟩:=R.grow (i:=i) k (by omega) (by omega)
   obtain⟨d,e⟩:=R.grow1 (k:=k) (by omega)
   exact⟨a.trans d,c.trans e⟩

theorem Reg.pair (R:Reg P C ops ms b nt E G) {i j:Nat} {x y:MOper} (hi:ms[i]? = some x) (hj:ms[j]? = some y) (hne:i≠j) :
  (∀ d,x.dst=some d→y.dst≠some d)∧(ordered b i j=false→(∀ d,x.dst=some d→d∉y.looks)∧(x.op.loud=true→y.op.mem=true→(x.op.isSt=true∨x.op.isApp=true)∧y.op.isLd=true)):=by
 have h:=R.stat
 unfold statOk at h
 rw[List.all_eq_true] at h
 have hjl:=(List.getElem?_eq_some_iff.1 hj).1
 have hil:=(List.getElem?_eq_some_iff.1 hi).1
 have h1:=h j (List.mem_range.2 hjl)
 rw[List.all_eq_true] at h1
 have h2:=h1 i (List.mem_range.2 hil)
 simp only[hi,hj,Bool.or_eq_true,beq_iff_eq,hne,false_or,Bool.and_eq_true] at h2
 obtain⟨h3,h4⟩:=h2
 refine⟨fun d hd=>?_,fun ho=>?_⟩
 ·unfold dstApart at h3
  rw[hd] at h3
  simpa using h3
 ·rw[ho] at h4
  simp only[Bool.false_eq_true,false_or] at h4
  refine⟨fun d hd=>?_,fun h5 h6=>?_⟩
  ·have:=h4.1
   unfold noLook at this
   rw[hd] at this
   simpa using this
  ·simpa [h5,h6,MOp.turns] using h4.2

theorem loud_mem {m:MOp} (h:m.loud=true):m.mem=true:=by cases m<;>simp_all [MOp.loud,MOp.mem]
theorem ld_mem {m:MOp} (h:m.isLd=true):m.mem=true:=by cases m<;>simp_all [MOp.isLd,MOp.mem]
theorem ld_quiet {m:MOp} (h:m.isLd=true):m.loud=false:=by cases m<;>simp_all [MOp.isLd,MOp.loud]
theorem ldOf_isLd {m:MOp} (h:m.isLd=true):∃ a n,ldOf m=some (a,n):=by cases m<;>simp_all [MOp.isLd,ldOf]
theorem stOf_isSt {m:MOp} (h:m.isSt=true):∃ a n,stOf m=some (a,n):=by cases m<;>simp_all [MOp.isSt,stOf]
theorem app_env {e e':Env} {H H':AH} {mo:MOp} {v:AV} (ha:mo.isApp=true) (h:aop e H mo=some (v,e',H')):e'=e:=by
 cases mo<;>simp[MOp.isApp] at ha
 simp only[aop] at h
 obtain⟨r,_,e2⟩:=map_some h
 cases e2;rfl
theorem isLp_ex {a:AV} (h:isLp a=true):∃ s o,a=.lp s o:=by cases a<;>first|exact⟨_,_,rfl⟩|cases h
theorem ldOf_ld {m:MOp} {p:Opd × Nat} (h:ldOf m=some p):m.isLd=true:=by cases m<;>simp_all [MOp.isLd,ldOf]

theorem Reg.louds (R:Reg P C ops ms b nt E G) {i j:Nat} {x y:MOper} (hi:ms[i]? = some x) (hj:ms[j]? = some y) (hne:i≠j) (hx:x.op.loud=true) (hy:y.op.mem=true) (hl:y.op.isLd=false):ordered b i j=true:=by
 cases ho:ordered b i j
 ·have:=((R.pair hi hj hne).2 ho).2 hx hy
  rw[hl] at this;cases this.2
 ·rfl

theorem Reg.did (R:Reg P C ops ms b nt E G) {k:Nat} {o:MOper} (h:ms[k]? = some o) :
  (wantedA (E k) o=false∧E (k+1)=(E k).put o.dst (.tup [])∧G (k+1)=G k) ∨
  (wantedA (E k) o=true∧∃ v e1,stepOp C (E k) (G k) o.op=some (v,e1,G (k+1))∧E (k+1)=e1.put o.dst v∧e1.m=(E k).m):=by
 have hs:=R.step k o h
 have hk:k<ops.size:=by rw[← R.len];exact (List.getElem?_eq_some_iff.1 h).1
 obtain⟨a,c⟩:=R.good k (by omega)
 unfold stepOper at hs
 split at hs
 ·rename_i hw
  right
  refine⟨hw, ?_⟩
  cases h1:stepOp C (E k) (G k) o.op with
  | none=>rw[h1] at hs;cases hs
  | some r=>
   obtain⟨v,e1,H1⟩:=r
   rw[h1] at hs
   simp only[Option.some.injEq,Prod.mk.injEq] at hs
   obtain⟨h2,h3⟩:=hs
   have:=(stepOp_G R.sim.grow h1 a c).2.m
   subst h3
   exact⟨v,e1,rfl,h2.symm,this⟩
 ·rename_i hw
  simp only[Option.some.injEq,Prod.mk.injEq] at hs
  exact .inl ⟨by simpa using hw,hs.1.symm,hs.2.symm⟩

theorem put_get {e:Env} {d:Option Nat} {v:AV} {t:Nat} (h:d≠some t):(e.put d v).get t=e.get t:=by
 cases d with
 | none=>rfl
 | some d=>show (e.set d v).get t=_;rw[Env.get_set,if_neg (by simpa using h)]
theorem put_get_eq {e:Env} {v:AV} {t:Nat}:(e.put (some t) v).get t=v:=by
 show (e.set t v).get t=_;rw[Env.get_set,if_pos rfl]

theorem Reg.get1 (R:Reg P C ops ms b nt E G) {k:Nat} {o:MOper} (h:ms[k]? = some o) {t:Nat} (ht:o.dst≠some t):(E (k+1)).get t=(E k).get t:=by
 rcases R.did h with ⟨_,h1,_⟩|⟨_,v,e1,_,h1,hm⟩
 ·rw[h1,put_get ht]
 ·rw[h1,put_get ht];unfold Env.get;rw[hm]

theorem Reg.getN (R:Reg P C ops ms b nt E G) {i t:Nat}:∀ k,i≤k→k≤ops.size→(∀ (m:Nat) o,i≤m→m<k→ms[m]? = some o→o.dst≠some t)→(E k).get t=(E i).get t
 | 0,h1,_,_=>by have:i=0:=by omega
                subst this;rfl
 | k+1,h1,h2,h3=>by
  by_cases hi:i=k+1
  ·subst hi;rfl
  ·obtain⟨o,ho⟩:=R.at (k:=k) (by omega)
   rw[R.get1 ho (h3 k o (by omega) (by omega) ho),R.getN k (by omega) (by omega) fun m o' h4 h5=>h3 m o' h4 (by omega)]

theorem Reg.calm (R:Reg P C ops ms b nt E G) {k:Nat} {o:MOper} (h:ms[k]? = some o) (hl:o.op.loud=false):Calm (E k) (E (k+1)) (G k) (G (k+1)):=by
 have hk:k<ops.size:=by rw[← R.len];exact (List.getElem?_eq_some_iff.1 h).1
 rcases R.did h with ⟨_,h1,h2⟩|⟨_,v,e1,h0,h1,hm⟩
 ·rw[h1,h2]
  obtain⟨hL,hln⟩:=Env.get_put_L (E k) o.dst (.tup [])
  exact⟨rfl,fun _ _=>rfl,fun st _=>by rw[hL]⟩
 ·obtain⟨a,_⟩:=stepOp_calm R.sim.grow (R.good k (by omega)).1 hl h0
  obtain⟨hL,hln⟩:=Env.get_put_L e1 o.dst v
  rw[h1]
  exact⟨a.lo,a.old,fun st hst=>by rw[hL];exact a.loc st hst⟩

theorem Reg.calmN (R:Reg P C ops ms b nt E G) {i:Nat}:∀ k,i≤k→k≤ops.size→(∀ (m:Nat) o,i≤m→m<k→ms[m]? = some o→o.op.loud=false)→Calm (E i) (E k) (G i) (G k)
 | 0,h1,_,_=>by have:i=0:=by omega
                subst this;exact Calm.refl
 | k+1,h1,h2,h3=>by
  by_cases hi:i=k+1
  ·subst hi;exact Calm.refl
  ·obtain⟨o,ho⟩:=R.at (k:=k) (by omega)
   have a:=R.calmN k (by omega) (by omega) fun m o' h4 h5=>h3 m o' h4 (by omega)
   have c:=R.calm ho (h3 k o (by omega) (by omega) ho)
   obtain⟨g1,g2⟩:=R.grow (i:=i) k (by omega) (by omega)
   exact⟨by rw[c.lo,a.lo],fun x hx=>by rw[c.old x (Nat.lt_of_lt_of_le hx g1.next),a.old x hx],fun st hst=>by rw[c.loc st (Nat.lt_of_lt_of_le hst g2.ln),a.loc st hst]⟩

theorem Reg.flat (R:Reg P C ops ms b nt E G) {k:Nat} {o:MOper} (h:ms[k]? = some o) (hl:o.op.mem=false∨o.op.isLd=true):G (k+1)=G k∧(E (k+1)).L=(E k).L∧(E (k+1)).ln=(E k).ln:=by
 rcases R.did h with ⟨_,h1,h2⟩|⟨_,v,e1,h0,h1,hm⟩
 ·obtain⟨hL,hln⟩:=Env.get_put_L (E k) o.dst (.tup [])
  exact⟨h2,by rw[h1,hL],by rw[h1,hln]⟩
 ·have hnc:∀ q f as,o.op≠.call q f as:=fun q f as e=>by rw[e] at hl;simp[MOp.mem,MOp.isLd] at hl
  have h0':aop (E k) (G k) o.op=some (v,e1,G (k+1)):=by
   unfold stepOp at h0
   split at h0
   ·rename_i q f as e;exact absurd e (hnc q f as)
   ·exact h0
  obtain⟨hL,hln⟩:=Env.get_put_L e1 o.dst v
  rcases hl with hl|hl
  ·obtain⟨a1,a2,_⟩:=aop_pure hl h0'
   exact⟨a2,by rw[h1,hL,a1],by rw[h1,hln,a1]⟩
  ·obtain⟨a,n,hld⟩:=ldOf_isLd hl
   obtain⟨a1,a2,_⟩:=aop_ld hld h0'
   exact⟨a2,by rw[h1,hL,a1],by rw[h1,hln,a1]⟩

theorem stepOp_aop {C:CallF} {e e':Env} {H H':AH} {mo:MOp} {v:AV} (hnc:∀ q f as,mo≠.call q f as):stepOp C e H mo=some (v,e',H')↔aop e H mo=some (v,e',H'):=by
 unfold stepOp
 split
 ·rename_i q f as;exact absurd rfl (hnc q f as)
 ·rfl

theorem Reg.reads (R:Reg P C ops ms b nt E G) {j:Nat} {oj:MOper} {c:Opd} {m:Nat} (hj:ms[j]? = some oj) (hld:ldOf oj.op=some (c,m)) (hw:wantedA (E j) oj=true) {i k:Nat} (hik:i≤k) (hk:k≤ops.size)
  (hu:∀ (s:Nat) os,i≤s→s<k→ms[s]? = some os→os.op.loud=true→ordered b s j=false) {cs:List AV} (h:readAt (E i) (G i) ((E j).raw c) m=some cs):readAt (E k) (G k) ((E j).raw c) m=some cs:=by
 induction k with
 | zero=>have:i=0:=by omega
         subst this;exact h
 | succ k ih=>
  by_cases hi:i=k+1
  ·subst hi;exact h
  ·have h1:=ih (by omega) (by omega) fun s os h1 h2=>hu s os h1 (by omega)
   obtain⟨o,ho⟩:=R.at (k:=k) (by omega)
   cases hl:o.op.loud with
   | false=>
    have a:=R.calm ho hl
    exact readAt_calm h1 (R.good k (by omega)).1 (R.good k (by omega)).2 a.old a.loc
   | true=>
    have hun:=hu k o (by omega) (by omega) ho hl
    have hne:k≠j:=by
     intro e;subst e
     rw[hj] at ho;cases ho
     have:=ld_quiet (ldOf_ld hld);rw[hl] at this;cases this
    rcases (((R.pair ho hj hne).2 hun).2 hl (ld_mem (ldOf_ld hld))).1 with hst|hst
    case inr=>
     obtain⟨hlp,_⟩:=R.chkL k j o oj c m ho hj hne hun hst hld hw
     obtain⟨st,of,hraw⟩:=isLp_ex hlp
     rw[hraw] at h1 ⊢
     rcases R.did ho with ⟨_,h2,h3⟩|⟨_,v,e1,h0,h2,_⟩
     ·obtain⟨hL,hln⟩:=Env.get_put_L (E k) o.dst (.tup [])
      rw[← h1,h2]
      simp only[readAt,hL]
     ·have hnc:∀ q f as,o.op≠.call q f as:=fun q f as e=>by rw[e] at hst;cases hst
      rw[stepOp_aop hnc] at h0
      have he:=app_env hst h0
      subst he
      obtain⟨hL,hln⟩:=Env.get_put_L (E k) o.dst v
      rw[← h1,h2]
      simp only[readAt,hL]
    obtain⟨a,n,hsto⟩:=stOf_isSt hst
    obtain⟨hap,_⟩:=R.chk k j o oj a n c m ho hj hne hun hsto hld hw
    rcases R.did ho with ⟨_,h2,h3⟩|⟨_,v,e1,h0,h2,_⟩
    ·rw[h3]
     obtain⟨hL,hln⟩:=Env.get_put_L (E k) o.dst (.tup [])
     rw[← h1,h2]
     cases (E j).raw c<;>simp only[readAt,hL]
    ·have hnc:∀ q f as,o.op≠.call q f as:=fun q f as e=>by rw[e] at hst;cases hst
     rw[stepOp_aop hnc] at h0
     obtain⟨vs,hvs,hwr⟩:=aop_st hsto h0
     have:=readAt_apart (n:=m) (a:=(E j).raw c) hwr (by rw[hvs];exact hap)
     obtain⟨hL,hln⟩:=Env.get_put_L e1 o.dst v
     rw[← h1,← this,h2]
     cases (E j).raw c<;>simp only[readAt,hL]

end
end Go.Ab

namespace Go.Ab
open Go.RowKit

def xget (x:Tr AV) (t:Nat):AV:=(x.get t).getD (.tup [])
def xput (x:Tr AV) (d:Option Nat) (v:AV):Tr AV:=match d with|some t=>x.set t v|none=>x

theorem xput_get {x:Tr AV} {d:Option Nat} {v:AV} {t:Nat} (h:d≠some t):xget (xput x d v) t=xget x t:=by
 cases d with
 | none=>rfl
 | some d=>unfold xget xput;simp only[Tr.get_set];rw[if_neg (by simpa using h)]
theorem xput_get_eq {x:Tr AV} {v:AV} {t:Nat}:xget (xput x (some t) v) t=v:=by
 unfold xget xput;simp only[Tr.get_set];simp

structure Inv (ops:Array Oper) (ms:List MOper) (nt:Nat) (E:Nat→Env) (G:Nat→AH) (w0:World) (ι0:Io) (lam0:Lo) (wS:World) (df:List Deferred)
  (T:Nat→Prop) (v:Nat) (ι:Io) (lam:Lo) (x:Tr AV) (a:Act) (w:World):Prop where
 sub:∀ k,T k→k<ops.size
 closed:∀ (j:Nat) o,T j→ops[j]? = some o→∀ e∈o.after,Region.binds .any e=true→T e.on
 vle:v≤ops.size
 vlist:∀ (m:Nat) o,m<v→ms[m]? = some o→o.op.loud=true→T m
 vun:v<ops.size→¬ T v∧∃ o,ms[v]? = some o∧o.op.loud=true
 mem:MR w0 ι lam (E v).L (E v).ln (G v) w
 slots:∀ t,VE w0 ι lam (xget x t) (a.tmps.getD t undef)
 x1:∀ (i:Nat) o t,T i→ms[i]? = some o→o.dst=some t→xget x t=(E (i+1)).get t
 x2:∀ t,(∀ (i:Nat) o,T i→ms[i]? = some o→o.dst≠some t)→xget x t=(E 0).get t
 d1:∀ k,k<ops.size→¬ T k→(∀ c,(G k).next≤c→c<(G (k+1)).next→ι c=none)∧(∀ st,(E k).ln≤st→st<(E (k+1)).ln→lam st=none)
 d2:∀ k,T k→(∀ c,(G k).next≤c→c<(G (k+1)).next→ι c≠none)∧(∀ st,(E k).ln≤st→st<(E (k+1)).ln→lam st≠none)
 gp:GP ι0 lam0 (E 0).ln (G 0).next wS ι lam (E ops.size).ln (G ops.size).next (G ops.size).lo w
 size:a.tmps.size=nt
 defers:a.defers=df

section
variable {P:Program} {C:CallF} {ops:Array Oper} {ms:List MOper} {b:Array Nat} {nt:Nat} {E:Nat→Env} {G:Nat→AH}
variable {w0:World} {ι0:Io} {lam0:Lo} {wS:World} {df:List Deferred} {T:Nat→Prop} {v:Nat} {ι:Io} {lam:Lo} {x:Tr AV} {a:Act} {w:World}

theorem Reg.back (R:Reg P C ops ms b nt E G) (hc:∀ (j:Nat) o,T j→ops[j]? = some o→∀ e∈o.after,Region.binds .any e=true→T e.on) :
  ∀ (j:Nat) o,ops[j]? = some o→(∀ e∈o.after,Region.binds .any e=true→T e.on)→∀ i,i<j→(b.getD j 0).testBit i=true→T i:=by
 intro j
 induction j using Nat.strongRecOn with
 | _ j ih=>
  intro o ho hr i hi hb
  have h:=R.just
  unfold justB at h
  rw[List.all_eq_true] at h
  have hjl:=(Array.getElem?_eq_some_iff.1 ho).1
  have h1:=h j (List.mem_range.2 hjl)
  rw[Array.getElem?_toList,ho] at h1
  simp only[List.all_eq_true] at h1
  have h2:=h1 i (List.mem_range.2 hi)
  rw[hb] at h2
  simp only[Bool.not_true,Bool.false_or,Array.any_eq_true'] at h2
  obtain⟨e,he,h3⟩:=h2
  simp only[Bool.and_eq_true,Bool.or_eq_true,beq_iff_eq,decide_eq_true_eq] at h3
  obtain⟨h4,h5⟩:=h3
  have hT:=hr e he h4
  rcases h5 with h5|⟨⟨h5,h6⟩,h7⟩
  ·rw[← h5];exact hT
  ·obtain⟨o1,ho1⟩:∃ o1,ops[e.on]? = some o1:=⟨_,Array.getElem?_eq_getElem (by omega)⟩
   exact ih e.on h6 o1 ho1 (hc _ o1 hT ho1) i h5 h7

theorem Reg.nextView (R:Reg P C ops ms b nt E G):∀ d u,ops.size=u+d→∃ v',u≤v'∧v'≤ops.size∧(∀ (m:Nat) o,u≤m→m<v'→ms[m]? = some o→o.op.loud=false)∧(v'<ops.size→∃ o,ms[v']? = some o∧o.op.loud=true)
 | 0,u,h=>⟨u,Nat.le_refl _,by omega,fun m o h1 h2=>by omega,fun h1=>by omega⟩
 | d+1,u,h=>by
  obtain⟨o,ho⟩:=R.at (k:=u) (by omega)
  cases hl:o.op.loud with
  | true=>exact⟨u,Nat.le_refl _,by omega,fun m o h1 h2=>by omega,fun _=>⟨o,ho,hl⟩⟩
  | false=>
   obtain⟨v',h1,h2,h3,h4⟩:=R.nextView d (u+1) (by omega)
   refine⟨v',by omega,h2,fun m o' h5 h6 h7=>?_,h4⟩
   by_cases hm:m=u
   ·subst hm;rw[ho] at h7;cases h7;exact hl
   ·exact h3 m o' (by omega) h6 h7

theorem seek (f:Nat→Nat) {c u:Nat}:∀ k,u≤k→f u≤c→c<f k→∃ m,u≤m∧m<k∧f m≤c∧c<f (m+1)
 | 0,h1,h2,h3=>by have:u=0:=by omega
                  subst this;omega
 | k+1,h1,h2,h3=>by
  by_cases hu:u=k+1
  ·subst hu;omega
  ·by_cases hc:c<f k
   ·obtain⟨m,a1,a2,a3,a4⟩:=seek f k (by omega) h2 hc
    exact⟨m,a1,by omega,a3,a4⟩
   ·exact⟨k,by omega,by omega,by omega,h3⟩

theorem Reg.sep (R:Reg P C ops ms b nt E G) {i k:Nat} (hi:i<ops.size) (hk:k<ops.size) (hne:i≠k) {c:Nat}:((G i).next≤c→c<(G (i+1)).next→(G k).next≤c→c<(G (k+1)).next→False)∧((E i).ln≤c→c<(E (i+1)).ln→(E k).ln≤c→c<(E (k+1)).ln→False):=by
 rcases Nat.lt_or_gt_of_ne hne with h|h
 ·have:=R.grow (i:=i+1) k h (by omega)
  exact⟨fun a1 a2 a3 a4=>by have:=this.1.next;omega,fun a1 a2 a3 a4=>by have:=this.2.ln;omega⟩
 ·have:=R.grow (i:=k+1) i h (by omega)
  exact⟨fun a1 a2 a3 a4=>by have:=this.1.next;omega,fun a1 a2 a3 a4=>by have:=this.2.ln;omega⟩

theorem Inv.put (R:Reg P C ops ms b nt E G) (I:Inv ops ms nt E G w0 ι0 lam0 wS df T v ι lam x a w) {j:Nat} {o:Oper} {o':MOper} {q:Bool} (hj:ms[j]? = some o') (ho:ops[j]? = some o) (hc:OperC P nt ops q o o')
  (hr:∀ e∈o.after,Region.binds .any e=true→T e.on) {ι':Io} {lam':Lo} {w':World} {v':Nat} {av:AV} {cv:Value} (hv:VE w0 ι' lam' av cv) (hav:∀ t,o'.dst=some t→(E (j+1)).get t=av)
  (hext:Ext ι ι') (hlext:∀ st c,lam st=some c→lam' st=some c)
  (hnew:∀ c,ι c=none→ι' c≠none→(G j).next≤c∧c<(G (j+1)).next) (hall:∀ c,(G j).next≤c→c<(G (j+1)).next→ι' c≠none)
  (hlnew:∀ st,lam st=none→lam' st≠none→(E j).ln≤st∧st<(E (j+1)).ln) (hlall:∀ st,(E j).ln≤st→st<(E (j+1)).ln→lam' st≠none)
  (hgp:GP ι0 lam0 (E 0).ln (G 0).next wS ι' lam' (E ops.size).ln (G ops.size).next (G ops.size).lo w')
  (hmem:MR w0 ι' lam' (E v').L (E v').ln (G v') w') (hvle:v'≤ops.size) (hvl:∀ (m:Nat) o,m<v'→ms[m]? = some o→o.op.loud=true→T m∨m=j)
  (hvu:v'<ops.size→(¬ T v'∧v'≠j)∧∃ o,ms[v']? = some o∧o.op.loud=true) :
  Inv ops ms nt E G w0 ι0 lam0 wS df (fun k=>T k∨k=j) v' ι' lam' (xput x o'.dst av) (a.put o.dst cv) w':=by
 have hjl:=(Array.getElem?_eq_some_iff.1 ho).1
 refine⟨fun k hk=>?_,fun k o1 hk ho1 e he hb=>?_,hvle,hvl,fun h=>?_,hmem, ?_,fun i o1 t hi hi1 hd=>?_,fun t ht=>?_,fun k hk hn=>?_,fun k hk=>?_,hgp,by rw[Act.put_size];exact I.size,by rw[← I.defers];cases o.dst<;>rfl⟩
 ·rcases hk with hk|rfl
  ·exact I.sub k hk
  ·exact hjl
 ·rcases hk with hk|rfl
  ·exact .inl (I.closed k o1 hk ho1 e he hb)
  ·rw[ho] at ho1;cases ho1;exact .inl (hr e he hb)
 ·obtain⟨⟨h1,h2⟩,h3⟩:=hvu h
  exact⟨fun h4=>h4.elim h1 h2,h3⟩
 ·have:=slots_put (e:=⟨x,.nil,0⟩) (a:=a) (d:=o.dst) (fun t=>(I.slots t).ext hext hlext) hv (fun d hd=>by rw[I.size];exact hc.lt d hd)
  intro t
  have h1:=this t
  rw[hc.dst]
  have e1:((⟨x,.nil,0⟩:Env).put o.dst av).get t=xget (xput x o.dst av) t:=by cases o.dst<;>rfl
  rw[← e1];exact h1
 ·by_cases hij:i=j
  ·subst hij
   rw[hj] at hi1;cases hi1
   rw[hd,xput_get_eq];exact (hav t hd).symm
  ·have hi':=hi.resolve_right hij
   rw[xput_get]
   ·exact I.x1 i o1 t hi' hi1 hd
   ·exact fun h=>((R.pair hj hi1 (fun e=>hij e.symm)).1 t h) hd
 ·rw[xput_get (ht j o' (.inr rfl) hj)]
  exact I.x2 t fun i o1 h1=>ht i o1 (.inl h1)
 ·have h1:¬ T k:=fun h=>hn (.inl h)
  have h2:k≠j:=fun h=>hn (.inr h)
  obtain⟨d1,d2⟩:=I.d1 k hk h1
  refine⟨fun c c1 c2=>?_,fun c c1 c2=>?_⟩
  ·cases e:ι' c with
   | none=>rfl
   | some y=>
    have:=hnew c (d1 c c1 c2) (by rw[e];simp)
    exact ((R.sep hk hjl h2).1 c1 c2 this.1 this.2).elim
  ·cases e:lam' c with
   | none=>rfl
   | some y=>
    have:=hlnew c (d2 c c1 c2) (by rw[e];simp)
    exact ((R.sep hk hjl h2).2 c1 c2 this.1 this.2).elim
 ·by_cases hkj:k=j
  ·subst hkj;exact⟨hall,hlall⟩
  ·obtain⟨d1,d2⟩:=I.d2 k (hk.resolve_right hkj)
   refine⟨fun c c1 c2=>?_,fun c c1 c2=>?_⟩
   ·cases e:ι c with
    | none=>exact absurd e (d1 c c1 c2)
    | some y=>rcases hext c y e with h|h<;>rw[h]<;>simp
   ·cases e:lam c with
    | none=>exact absurd e (d2 c c1 c2)
    | some y=>rw[hlext c y e];simp

theorem Inv.look (R:Reg P C ops ms b nt E G) (I:Inv ops ms nt E G w0 ι0 lam0 wS df T v ι lam x a w) {j:Nat} {o:Oper} {o':MOper} (hj:ms[j]? = some o') (ho:ops[j]? = some o) (hT:¬ T j)
  (hr:∀ e∈o.after,Region.binds .any e=true→T e.on) {t:Nat} (ht:t∈o'.looks):xget x t=(E j).get t:=by
 have hjl:=(Array.getElem?_eq_some_iff.1 ho).1
 by_cases hw:∃ (i:Nat) (oi:MOper),T i∧ms[i]? = some oi∧oi.dst=some t
 ·obtain⟨i,oi,h1,h2,h3⟩:=hw
  have hne:i≠j:=fun e=>hT (e ▸ h1)
  have hil:=I.sub i h1
  have hord:ordered b i j=true:=by
   cases e:ordered b i j
   ·exact absurd ht (((R.pair h2 hj hne).2 e).1 t h3)
   ·rfl
  have hlt:i<j:=by
   rcases Nat.lt_or_gt_of_ne hne with h|h
   ·exact h
   ·rw[ordered_comm,ordered_lt h] at hord
    obtain⟨o1,ho1⟩:∃ o1,ops[i]? = some o1:=⟨_,Array.getElem?_eq_getElem hil⟩
    exact absurd (R.back I.closed i o1 ho1 (I.closed i o1 h1 ho1) j h hord) hT
  rw[I.x1 i oi t h1 h2 h3]
  refine (R.getN j (by omega) (by omega) fun m o1 h4 h5 h6 h7=>?_).symm
  exact (R.pair h2 h6 (by omega)).1 t h3 h7
 ·rw[I.x2 t fun i oi h1 h2 h3=>hw ⟨i,oi,h1,h2,h3⟩]
  refine (R.getN j (by omega) (by omega) fun m o1 h4 h5 h6 h7=>?_).symm
  cases e:ordered b m j
  ·exact ((R.pair h6 hj (by omega)).2 e).1 t h7 ht
  ·rw[ordered_lt h5] at e
   exact hw ⟨m,o1,R.back I.closed j o ho hr m h5 e,h6,h7⟩

end
end Go.Ab

namespace Go.Ab
open Go.RowKit

theorem stepOp_re {C:CallF} {e:Env} {m:Tr AV} {H:AH} {mo:MOp} (h:∀ t∈mo.slots,(e.re m).get t=e.get t) :
  stepOp C (e.re m) H mo=(stepOp C e H mo).map fun r=>(r.1,r.2.1.re m,r.2.2):=by
 unfold stepOp
 split
 ·rename_i q f as
  simp only[MOp.slots,List.mem_append,List.mem_flatMap] at h
  have e1:(e.re m).val f=e.val f:=val_re fun t ht=>h t (.inl ht)
  have e2:as.mapM (e.re m).val=as.mapM e.val:=mapM_congr fun p hp=>val_re fun t ht=>h t (.inr ⟨p,hp,ht⟩)
  have e3:callA C (e.re m) H q f as=callA C e H q f as:=by unfold callA;rw[e1,e2]
  rw[e3]
  simp only[Option.map_map];rfl
 ·exact aop_re h

theorem loud_notLd {m:MOp} (h:m.loud=true):m.isLd=false:=by cases m<;>simp_all [MOp.isLd,MOp.loud]
theorem bool_not_false {x:Bool} (h:¬ x=false):x=true:=by cases x<;>simp_all
theorem bool_not_true {x:Bool} (h:¬ x=true):x=false:=by cases x<;>simp_all

section
variable {P:Program} {C:CallF} {ops:Array Oper} {ms:List MOper} {b:Array Nat} {nt:Nat} {E:Nat→Env} {G:Nat→AH}
variable {w0:World} {ι0:Io} {lam0:Lo} {wS:World} {df:List Deferred} {T:Nat→Prop} {v:Nat} {ι:Io} {lam:Lo} {x:Tr AV} {a:Act} {w:World}

theorem cOp_store {l q:Bool} {op:Op} {mo:MOp} (h:cOp P l q op=some mo) (hl:mo.loud=false):¬ isStore op:=by
 intro hs
 cases op<;>simp only[isStore] at hs
 simp only[cOp] at h
 split at h
 ·cases h;cases hl
 ·cases h;cases hl
 ·split at h<;>cases h;cases hl
 ·cases h

theorem Inv.nextv (R:Reg P C ops ms b nt E G) (I:Inv ops ms nt E G w0 ι0 lam0 wS df T v ι lam x a w) (hv:v<ops.size) :
  ∃ v',v+1≤v'∧v'≤ops.size∧(∀ (m:Nat) o,v+1≤m→m<v'→ms[m]? = some o→o.op.loud=false)∧(∀ (m:Nat) o,m<v'→ms[m]? = some o→o.op.loud=true→T m∨m=v) ∧
   (v'<ops.size→(¬ T v'∧v'≠v)∧∃ o,ms[v']? = some o∧o.op.loud=true):=by
 obtain⟨v',h1,h2,h3,h4⟩:=R.nextView (ops.size - (v+1)) (v+1) (by omega)
 obtain⟨hT,ov,hov,hvl⟩:=I.vun hv
 refine⟨v',h1,h2,h3,fun m o hm ho hl=>?_,fun h=>?_⟩
 ·rcases Nat.lt_trichotomy m v with g|g|g
  ·exact .inl (I.vlist m o g ho hl)
  ·exact .inr g
  ·have:=h3 m o (by omega) hm ho;rw[hl] at this;cases this
 ·obtain⟨o,ho,hl⟩:=h4 h
  refine⟨⟨fun hT'=>?_,by omega⟩,o,ho,hl⟩
  have hord:=R.louds hov ho (by omega) hvl (loud_mem hl) (loud_notLd hl)
  rw[ordered_lt (by omega)] at hord
  obtain⟨o1,ho1⟩:∃ o1,ops[v']? = some o1:=⟨_,Array.getElem?_eq_getElem h⟩
  exact hT (R.back I.closed v' o1 ho1 (I.closed v' o1 hT' ho1) v (by omega) hord)

theorem Inv.later (R:Reg P C ops ms b nt E G) (I:Inv ops ms nt E G w0 ι0 lam0 wS df T v ι lam x a w) (hv:v<ops.size) {m:Nat} (hm:v<m) (hml:m<ops.size) :
  (∀ c,(G m).next≤c→c<(G (m+1)).next→ι c=none)∧(∀ st,(E m).ln≤st→st<(E (m+1)).ln→lam st=none):=by
 obtain⟨hT,ov,hov,hvl⟩:=I.vun hv
 by_cases hTm:T m
 ·obtain⟨o,ho⟩:=R.at hml
  by_cases hf:o.op.mem=false∨o.op.isLd=true
  ·obtain⟨f1,_,f3⟩:=R.flat ho hf
   exact⟨fun c c1 c2=>by rw[f1] at c2;omega,fun c c1 c2=>by rw[f3] at c2;omega⟩
  ·have hm':o.op.mem=true:=bool_not_false fun e=>hf (.inl e)
   have hld:o.op.isLd=false:=bool_not_true fun e=>hf (.inr e)
   have hord:=R.louds hov ho (by omega) hvl hm' hld
   rw[ordered_lt hm] at hord
   obtain⟨o1,ho1⟩:∃ o1,ops[m]? = some o1:=⟨_,Array.getElem?_eq_getElem hml⟩
   exact absurd (R.back I.closed m o1 ho1 (I.closed m o1 hTm ho1) v hm hord) hT
 ·exact I.d1 m hml hTm

theorem Inv.up (R:Reg P C ops ms b nt E G) (I:Inv ops ms nt E G w0 ι0 lam0 wS df T v ι lam x a w) (hv:v<ops.size) {ι':Io} {lam':Lo} {w':World}
  (hm:MR w0 ι' lam' (E (v+1)).L (E (v+1)).ln (G (v+1)) w') (hnew:∀ c,ι c=none→ι' c≠none→(G v).next≤c∧c<(G (v+1)).next) (hlnew:∀ st,lam st=none→lam' st≠none→(E v).ln≤st∧st<(E (v+1)).ln)
  {v':Nat} (h1:v+1≤v') (h2:v'≤ops.size) (h3:∀ (m:Nat) o,v+1≤m→m<v'→ms[m]? = some o→o.op.loud=false):MR w0 ι' lam' (E v').L (E v').ln (G v') w':=by
 obtain⟨g1,g2⟩:=R.good v' h2
 have hc:=R.calmN (i:=v+1) v' h1 h2 h3
 refine hm.shift g1 g2 (fun c c1 c2=>?_) hc.old (fun c c1 c2=>?_) hc.loc
 ·obtain⟨m,m1,m2,m3,m4⟩:=seek (fun k=>(G k).next) v' h1 c1 c2
  have:=(I.later R hv (m:=m) (by omega) (by omega)).1 c m3 m4
  cases e:ι' c with
  | none=>rfl
  | some y=>have:=hnew c this (by rw[e];simp);omega
 ·obtain⟨m,m1,m2,m3,m4⟩:=seek (fun k=>(E k).ln) v' h1 c1 c2
  have:=(I.later R hv (m:=m) (by omega) (by omega)).2 c m3 m4
  cases e:lam' c with
  | none=>rfl
  | some y=>have:=hlnew c this (by rw[e];simp);omega

theorem Inv.reading (R:Reg P C ops ms b nt E G) (I:Inv ops ms nt E G w0 ι0 lam0 wS df T v ι lam x a w) {j:Nat} {o:Oper} {o':MOper} (hj:ms[j]? = some o') (ho:ops[j]? = some o) (hT:¬ T j)
  (hr:∀ e∈o.after,Region.binds .any e=true→T e.on) {c:Opd} {m:Nat} (hld:ldOf o'.op=some (c,m)) (hw:wantedA (E j) o'=true) {cs:List AV} (hcs:readAt (E j) (G j) ((E j).raw c) m=some cs) :
  readAt (E v) (G v) ((E j).raw c) m=some cs:=by
 have hjl:=(Array.getElem?_eq_some_iff.1 ho).1
 have hnl:∀ (s:Nat) os,ms[s]? = some os→os.op.loud=true→s≠j:=fun s os h1 h2 e=>by
  subst e;rw[hj] at h1;cases h1
  have:=ld_quiet (ldOf_ld hld);rw[h2] at this;cases this
 rcases Nat.lt_or_ge v j with g|g
 ·obtain⟨hTv,ov,hov,hvl⟩:=I.vun (by omega)
  have hu:∀ (s:Nat) os,v≤s→s<j→ms[s]? = some os→os.op.loud=true→ordered b s j=false:=by
   intro s os h1 h2 h3 h4
   cases e:ordered b s j
   ·rfl
   ·rw[ordered_lt h2] at e
    have hTs:=R.back I.closed j o ho hr s h2 e
    exfalso
    rcases Nat.lt_or_ge v s with h5|h5
    ·have hord:=R.louds hov h3 (by omega) hvl (loud_mem h4) (loud_notLd h4)
     rw[ordered_lt h5] at hord
     obtain⟨o1,ho1⟩:∃ o1,ops[s]? = some o1:=⟨_,Array.getElem?_eq_getElem (by omega)⟩
     exact hTv (R.back I.closed s o1 ho1 (I.closed s o1 hTs ho1) v h5 hord)
    ·have:s=v:=by omega
     exact hTv (this ▸ hTs)
  have hun:=hu v ov (Nat.le_refl _) g hov hvl
  have hsome:v<j→(readAt (E v) (G v) ((E j).raw c) m).isSome=true:=by
   rcases (((R.pair hov hj (by omega)).2 hun).2 hvl (ld_mem (ldOf_ld hld))).1 with hst|hst
   ·obtain⟨a1,n1,hsto⟩:=stOf_isSt hst
    exact (R.chk v j ov o' a1 n1 c m hov hj (by omega) hun hsto hld hw).2
   ·exact (R.chkL v j ov o' c m hov hj (by omega) hun hst hld hw).2
  cases e:readAt (E v) (G v) ((E j).raw c) m with
  | none=>rw[e] at hsome;simp at hsome;omega
  | some cs'=>
   have:=R.reads hj hld hw (Nat.le_of_lt g) (by omega) hu e
   rw[hcs] at this;exact this.symm
 ·refine R.reads hj hld hw g I.vle (fun s os h1 h2 h3 h4=>?_) hcs
  have hTs:=I.vlist s os h2 h3 h4
  have hne:=hnl s os h3 h4
  cases e:ordered b s j
  ·rfl
  ·rw[ordered_comm,ordered_lt (by omega)] at e
   have:=I.vle
   obtain⟨o1,ho1⟩:∃ o1,ops[s]? = some o1:=⟨_,Array.getElem?_eq_getElem (by omega)⟩
   exact absurd (R.back I.closed s o1 ho1 (I.closed s o1 hTs ho1) j (by omega) e) hT

theorem Inv.step (R:Reg P C ops ms b nt E G) (hf0:Fresh ι0 (G 0) (G ops.size)) (hlf0:LFresh lam0 (E 0).ln (E ops.size).ln) (I:Inv ops ms nt E G w0 ι0 lam0 wS df T v ι lam x a w) {j:Nat} {o:Oper} (ho:ops[j]? = some o) (hT:¬ T j)
  (hr:∀ e∈o.after,Region.binds .any e=true→T e.on) {K:Act→World→Prop} {Q:Exit→Act→World→Prop}
  (hK:∀ v' ι' lam' x' a' w',Inv ops ms nt E G w0 ι0 lam0 wS df (fun k=>T k∨k=j) v' ι' lam' x' a' w'→K a' w'):wpOp P ops Q j K a w:=by
 have hjl:=(Array.getElem?_eq_some_iff.1 ho).1
 obtain⟨o',hj⟩:=R.at hjl
 obtain⟨o1,q,ho1,hc⟩:=R.op j o' hj
 rw[ho] at ho1;cases ho1
 have hlook:∀ t∈o'.looks,xget x t=(E j).get t:=fun t ht=>I.look R hj ho hT hr ht
 have hslots:∀ t∈o'.op.slots,((E j).re x).get t=(E j).get t:=fun t ht=>hlook t (by unfold MOper.looks;exact List.mem_append_right _ ht)
 have hwant:Region.wanted o (yielded ops a.tmps)=wantedA (E j) o':=by
  rw[wanted_eq hc (e:=(E j).re x) (fun t=>I.slots t) I.size]
  unfold wantedA
  cases hg:o'.guard with
  | none=>rfl
  | some p=>
   obtain⟨t,want⟩:=p
   have:((E j).re x).get t=(E j).get t:=hlook t (by unfold MOper.looks;rw[hg];simp)
   simp only[this]
 have hvj:o'.op.loud=true→j=v:=by
  intro hl
  rcases Nat.lt_trichotomy j v with g|g|g
  ·exact absurd (I.vlist j o' g hj hl) hT
  ·exact g
  ·obtain⟨hTv,ov,hov,hvl⟩:=I.vun (by omega)
   have hord:=R.louds hov hj (by omega) hvl (loud_mem hl) (loud_notLd hl)
   rw[ordered_lt g] at hord
   exact absurd (R.back I.closed j o ho hr v g hord) hTv
 have hquietv:o'.op.loud=false→(∀ (m:Nat) o,m<v→ms[m]? = some o→o.op.loud=true→T m∨m=j)∧(v<ops.size→(¬ T v∧v≠j)∧∃ o,ms[v]? = some o∧o.op.loud=true):=by
  intro hl
  refine⟨fun m o1 h1 h2 h3=>.inl (I.vlist m o1 h1 h2 h3),fun h=>?_⟩
  obtain⟨h1,ov,h2,h3⟩:=I.vun h
  refine⟨⟨h1,fun e=>?_⟩,ov,h2,h3⟩
  subst e;rw[hj] at h2;cases h2;rw[hl] at h3;cases h3
 have hgN:∀ u,u≤ops.size→(G 0).next≤(G u).next∧(G u).next≤(G ops.size).next∧(G ops.size).lo≤(G u).lo∧(G ops.size).lo≤(G u).next∧(E 0).ln≤(E u).ln∧(E u).ln≤(E ops.size).ln:=by
  intro u hu
  obtain⟨a1,a2⟩:=R.grow (i:=0) u (Nat.zero_le _) hu
  obtain⟨c1,c2⟩:=R.grow (i:=u) ops.size hu (Nat.le_refl _)
  have:=(R.good u hu).1.lo
  exact⟨a1.next,c1.next,c1.lo,Nat.le_trans c1.lo this,a2.ln,c2.ln⟩
 unfold wpOp
 rw[ho]
 simp only[]
 rw[hwant]
 rcases R.did hj with ⟨hw,hE,hG⟩|⟨hw,av,e1,h0,hE,hem⟩
 ·rw[if_neg (by simp[hw])]
  obtain⟨hL,hln⟩:=Env.get_put_L (E j) o'.dst (.tup [])
  have hav:∀ t,o'.dst=some t→(E (j+1)).get t=.tup []:=fun t ht=>by rw[hE,ht,put_get_eq]
  cases hl:o'.op.loud with
  | true=>
   have hjv:=hvj hl
   subst hjv
   obtain⟨v',h1,h2,h3,h4,h5⟩:=I.nextv R hjl
   refine hK v' ι lam _ _ w (I.put R hj ho hc hr (VE.undef) hav (Ext.refl ι) (fun _ _ h=>h) (fun c h k=>absurd h k) (fun c c1 c2=>by rw[hG] at c2;omega) (fun c h k=>absurd h k) (fun c c1 c2=>by rw[hE,hln] at c2;omega) I.gp
    (I.up R hjl ?_ (fun c h k=>absurd h k) (fun c h k=>absurd h k) h1 h2 h3) h2 h4 h5)
   rw[hG,hE,hL,hln];exact I.mem
  | false=>
   obtain⟨q1,q2⟩:=hquietv hl
   exact hK v ι lam _ _ w (I.put R hj ho hc hr (VE.undef) hav (Ext.refl ι) (fun _ _ h=>h) (fun c h k=>absurd h k) (fun c c1 c2=>by rw[hG] at c2;omega) (fun c h k=>absurd h k) (fun c c1 c2=>by rw[hE,hln] at c2;omega) I.gp I.mem I.vle q1 q2)
 ·rw[if_pos hw]
  left
  obtain⟨l,hop⟩:=hc.op
  obtain⟨hL,hln⟩:=Env.get_put_L e1 o'.dst av
  rw[← hE] at hL hln
  have hav:∀ t,o'.dst=some t→(E (j+1)).get t=av:=fun t ht=>by rw[hE,ht,put_get_eq]
  cases hl:o'.op.loud with
  | true=>
   have hjv:=hvj hl
   subst hjv
   have hre:stepOp C ((E j).re x) (G j) o'.op=some (av,e1.re x,G (j+1)):=by rw[stepOp_re hslots,h0];rfl
   obtain⟨d1,d2⟩:=I.d1 j hjl hT
   refine cstep_op R.sim hop hre ⟨I.mem,I.slots⟩ d1 (by show LFresh lam (E j).ln e1.ln;rw[← hln];exact d2) K Q fun cv ι' lam' w' hv hm hp=>?_
   have hm':MR w0 ι' lam' (E (j+1)).L (E (j+1)).ln (G (j+1)) w':=by rw[hL,hln];exact hm
   have hp':FP (isStore o.op) ι lam (E j).L (E j).ln (G j) w ι' lam' (E (j+1)).L (E (j+1)).ln (G (j+1)) w':=by rw[hL,hln];exact hp
   obtain⟨v',h1,h2,h3,h4,h5⟩:=I.nextv R hjl
   obtain⟨n1,n2,n3,n4,n5,n6⟩:=hgN j (by omega)
   obtain⟨p1,p2,p3,p4,p5,p6⟩:=hgN (j+1) (by omega)
   exact hK v' ι' lam' _ _ w' (I.put R hj ho hc hr hv hav hp'.ext hp'.lext hp'.new hp'.all hp'.lnew hp'.lall
    (I.gp.step hp' n1 p2 p3 n5 p6 hf0 hlf0) (I.up R hjl hm' hp'.new hp'.lnew h1 h2 h3) h2 h4 h5)
  | false=>
   obtain⟨q1,q2⟩:=hquietv hl
   have hns:¬ isStore o.op:=cOp_store hop hl
   by_cases hf:o'.op.mem=false∨o'.op.isLd=true
   ·obtain⟨f1,f2,f3⟩:=R.flat hj hf
    have hnc:∀ q f as,o'.op≠.call q f as:=fun q f as e=>by rw[e] at hf;simp[MOp.mem,MOp.isLd] at hf
    have h0':=(stepOp_aop hnc).1 h0
    have hst:stepOp C ⟨x,(E v).L,(E v).ln⟩ ((G v).re (G v).next) o'.op=some (av,⟨x,(E v).L,(E v).ln⟩,(G v).re (G v).next):=by
     rw[stepOp_aop hnc]
     have h1:aop ⟨(E j).m,(E v).L,(E v).ln⟩ ((G v).re (G v).next) o'.op=some (av,⟨(E j).m,(E v).L,(E v).ln⟩,(G v).re (G v).next):=by
      rcases hf with hf|hf
      ·exact (aop_pure hf h0').2.2 _ _ _
      ·obtain⟨c,m,hld⟩:=ldOf_isLd hf
       obtain⟨_,_,hsome,h2⟩:=aop_ld hld h0'
       refine h2 _ _ _ ?_
       cases hcs:readAt (E j) (G j) ((E j).raw c) m with
       | none=>rw[hcs] at hsome;cases hsome
       | some cs=>
        have:=I.reading R hj ho hT hr hld hw hcs
        rw[← this]
        cases (E j).raw c<;>rfl
     have h2:=aop_re (e:=⟨(E j).m,(E v).L,(E v).ln⟩) (m:=x) (H:=(G v).re (G v).next) hslots
     rw[h1] at h2
     exact h2
    refine cstep_op R.sim hop hst ⟨I.mem.relo (Nat.le_refl _),I.slots⟩ (fun c c1 c2=>absurd (Nat.lt_of_lt_of_le c2 c1) (Nat.lt_irrefl _)) (fun c c1 c2=>absurd (Nat.lt_of_lt_of_le c2 c1) (Nat.lt_irrefl _)) K Q fun cv ι' lam' w' hv hm hp=>?_
    obtain⟨n1,n2,n3,n4,n5,n6⟩:=hgN v I.vle
    have hno:∀ c,ι c=none→ι' c≠none→False:=fun c h k=>by
     have h1:=hp.new c h k
     exact absurd (Nat.lt_of_le_of_lt h1.1 h1.2) (Nat.lt_irrefl _)
    have hlno:∀ c,lam c=none→lam' c≠none→False:=fun c h k=>by
     have h1:=hp.lnew c h k
     exact absurd (Nat.lt_of_le_of_lt h1.1 h1.2) (Nat.lt_irrefl _)
    exact hK v ι' lam' _ _ w' (I.put R hj ho hc hr hv hav hp.ext hp.lext (fun c h k=>(hno c h k).elim) (fun c c1 c2=>by rw[f1] at c2;omega) (fun c h k=>(hlno c h k).elim) (fun c c1 c2=>by rw[f3] at c2;omega)
     (I.gp.step hp n1 n2 n4 n5 n6 hf0 hlf0) (hm.relo (x:=(G v).lo) (R.good v I.vle).1.lo) I.vle q1 q2)
   ·have hmem:o'.op.mem=true:=bool_not_false fun e=>hf (.inl e)
    have hld:o'.op.isLd=false:=bool_not_true fun e=>hf (.inr e)
    have hlt:j<v:=by
     rcases Nat.lt_trichotomy j v with g|g|g
     ·exact g
     ·subst g
      obtain⟨_,ov,h2,h3⟩:=I.vun hjl
      rw[hj] at h2;cases h2;rw[hl] at h3;cases h3
     ·obtain⟨hTv,ov,hov,hvl⟩:=I.vun (by omega)
      have hord:=R.louds hov hj (by omega) hvl hmem hld
      rw[ordered_lt g] at hord
      exact absurd (R.back I.closed j o ho hr v g hord) hTv
    have hvle:=I.vle
    have hnl:∀ (m:Nat) os,j≤m→m<v→ms[m]? = some os→os.op.loud=false:=by
     intro m os h1 h2 h3
     cases hos:os.op.loud with
     | false=>rfl
     | true=>
      exfalso
      have hne:m≠j:=fun e=>by subst e;rw[hj] at h3;cases h3;rw[hl] at hos;cases hos
      have hord:=R.louds h3 hj hne hos hmem hld
      rw[ordered_comm,ordered_lt (by omega)] at hord
      obtain⟨o1,ho1⟩:∃ o1,ops[m]? = some o1:=⟨_,Array.getElem?_eq_getElem (by omega)⟩
      exact hT (R.back I.closed m o1 ho1 (I.closed m o1 (I.vlist m os h2 h3 hos) ho1) j (by omega) hord)
    obtain⟨g1,g2⟩:=R.good j (by omega)
    obtain⟨g3,g4⟩:=R.grow (i:=j) v (by omega) hvle
    obtain⟨g5,g6⟩:=R.grow (i:=j+1) v (by omega) hvle
    have hc1:=R.calmN (i:=j) v (by omega) hvle hnl
    have hc2:=R.calmN (i:=j+1) v (by omega) hvle fun m os h1=>hnl m os (by omega)
    have hcm:=(stepOp_calm R.sim.grow g1 hl h0).2
    have hst:stepOp C ((E j).re x) ((G j).re (G j).next) o'.op=some (av,e1.re x,(G (j+1)).re (G j).next):=by rw[stepOp_re hslots,hcm];rfl
    have hmj:MR w0 ι lam (E j).L (E j).ln (G j) w:=I.mem.down g1 g2 g3.next g4.ln hc1.old hc1.loc
    obtain⟨d1,d2⟩:=I.d1 j hjl hT
    refine cstep_op R.sim hop hst ⟨hmj.relo (Nat.le_refl _),I.slots⟩ d1 (by show LFresh lam (E j).ln e1.ln;rw[← hln];exact d2) K Q fun cv ι' lam' w' hv hm hp=>?_
    have hm':MR w0 ι' lam' (E (j+1)).L (E (j+1)).ln ((G (j+1)).re (G j).next) w':=by rw[hL,hln];exact hm
    have hp':FP False ι lam (E j).L (E j).ln ((G j).re (G j).next) w ι' lam' (E (j+1)).L (E (j+1)).ln ((G (j+1)).re (G j).next) w':=by rw[hL,hln];exact hp.mono hns
    obtain⟨n1,n2,n3,n4,n5,n6⟩:=hgN j (by omega)
    obtain⟨p1,p2,p3,p4,p5,p6⟩:=hgN (j+1) (by omega)
    exact hK v ι' lam' _ _ w' (I.put R hj ho hc hr hv hav hp'.ext hp'.lext hp'.new hp'.all hp'.lnew hp'.lall
     (I.gp.step hp' n1 p2 n4 n5 p6 hf0 hlf0) (I.mem.merge hp' hm' (Nat.le_refl _) hc2.old hc2.loc) hvle q1 q2)

theorem Inv.done (R:Reg P C ops ms b nt E G) (I:Inv ops ms nt E G w0 ι0 lam0 wS df T v ι lam x a w) (hall:∀ k,k<ops.size→T k):Post w0 nt df ι0 lam0 (E 0) (G 0) wS (E ops.size) (G ops.size) a w:=by
 have hv:v=ops.size:=by
  rcases Nat.lt_or_ge v ops.size with g|g
  ·exact absurd (hall v g) (I.vun g).1
  ·have:=I.vle;omega
 obtain⟨a1,a2⟩:=R.grow (i:=0) ops.size (Nat.zero_le _) (Nat.le_refl _)
 have hm:=I.mem
 rw[hv] at hm
 refine⟨ι,lam,⟨hm,fun t=>?_⟩,I.size,I.defers, ?_⟩
 ·have:(E ops.size).get t=xget x t:=by
   by_cases hw:∃ (i:Nat) (oi:MOper),T i∧ms[i]? = some oi∧oi.dst=some t
   ·obtain⟨i,oi,h1,h2,h3⟩:=hw
    rw[I.x1 i oi t h1 h2 h3]
    have:=I.sub i h1
    exact R.getN ops.size (by omega) (Nat.le_refl _) fun m o1 h4 h5 h6 h7=>(R.pair h2 h6 (by omega)).1 t h3 h7
   ·rw[I.x2 t fun i oi h1 h2 h3=>hw ⟨i,oi,h1,h2,h3⟩]
    exact R.getN ops.size (Nat.zero_le _) (Nat.le_refl _) fun m o1 h4 h5 h6 h7=>hw ⟨m,o1,hall m h5,h6,h7⟩
  rw[this];exact I.slots t
 ·have g:=I.gp
  exact {
   ext:=g.ext,kept:=g.kept,new:=g.new
   all:=fun c c1 c2=>by
    obtain⟨m,m1,m2,m3,m4⟩:=seek (fun k=>(G k).next) ops.size (Nat.zero_le _) c1 c2
    exact (I.d2 m (hall m m2)).1 c m3 m4
   blk:=g.blk
   frame:=fun c hc hS hb=>g.frame c hc (hS trivial) hb
   size:=g.size,next:=a1.next,lo:=a1.lo,old:=a1.old,lext:=g.lext,lnew:=g.lnew
   lall:=fun c c1 c2=>by
    obtain⟨m,m1,m2,m3,m4⟩:=seek (fun k=>(E k).ln) ops.size (Nat.zero_le _) c1 c2
    exact (I.d2 m (hall m m2)).2 c m3 m4
   lblk:=g.lblk,lnle:=a2.ln,lold:=fun h=>absurd trivial h }

end
end Go.Ab

namespace Go.Ab
open Go.RowKit

section
variable {P:Program} {C:CallF} {ops:Array Oper} {ms:List MOper} {b:Array Nat} {nt:Nat} {E:Nat→Env} {G:Nat→AH}
variable {w0:World} {ι0:Io} {lam0:Lo} {wS:World} {df:List Deferred} {v:Nat} {ι:Io} {lam:Lo} {x:Tr AV} {a:Act} {w:World} {H:AH}

def Lst (listed:Array Bool) (k:Nat):Prop:=listed.getD k false=true
def left (n:Nat) (listed:Array Bool):List Nat:=(List.range n).filter fun i=>!listed.getD i true

theorem getD_in {l:Array Bool} {k:Nat} (h:k<l.size) (d d':Bool):l.getD k d=l.getD k d':=by simp[Array.getD,h]

theorem left_set {n:Nat} {listed:Array Bool} (hs:listed.size=n) {j:Nat} (hj:j<n) (h:listed.getD j true=false):(left n (listed.setIfInBounds j true)).length<(left n listed).length:=by
 have e:left n (listed.setIfInBounds j true)=(left n listed).filter fun k=>k != j:=by
  unfold left
  rw[List.filter_filter]
  apply List.filter_congr
  intro k hk
  by_cases hkj:j=k
  ·subst hkj
   simp[Array.getD,hs,hj]
  ·rw[getD_set_ne true hkj]
   have:(k != j)=true:=by simpa using fun e=>hkj e.symm
   rw[this];simp
 rw[e]
 rw[List.length_filter_lt_length_iff_exists]
 refine⟨j, ?_,by simp⟩
 unfold left
 rw[List.mem_filter,List.mem_range]
 exact⟨hj,by rw[h];rfl⟩

theorem wp_any (R:Reg P C ops ms b nt E G) (hf0:Fresh ι0 (G 0) (G ops.size)) (hlf0:LFresh lam0 (E 0).ln (E ops.size).ln) {Q:Exit→Act→World→Prop}
  (hQ:∀ a' w',Post w0 nt df ι0 lam0 (E 0) (G 0) wS (E ops.size) (G ops.size) a' w'→Q .normal a' w') :
  ∀ (fuel:Nat) (listed:Array Bool) (v:Nat) (ι:Io) (lam:Lo) (x:Tr AV) (a:Act) (w:World),listed.size=ops.size→(left ops.size listed).length≤fuel →
  Inv ops ms nt E G w0 ι0 lam0 wS df (Lst listed) v ι lam x a w→wpAny P .any ops Q fuel listed a w:=by
 have hdone:∀ (listed:Array Bool) (v:Nat) (ι:Io) (lam:Lo) (x:Tr AV) (a:Act) (w:World),listed.size=ops.size→Inv ops ms nt E G w0 ι0 lam0 wS df (Lst listed) v ι lam x a w→Region.ready .any ops listed=[]→Q .normal a w:=by
  intro listed v ι lam x a w hs I hr
  refine hQ a w (I.done R ?_)
  intro k
  induction k using Nat.strongRecOn with
  | _ k ih=>
   intro hk
   cases e:listed.getD k true with
   | true=>unfold Lst;rw[getD_in (by omega) false true];exact e
   | false=>
    obtain⟨o,ho⟩:∃ o,ops[k]? = some o:=⟨_,Array.getElem?_eq_getElem hk⟩
    have:k∈Region.ready .any ops listed:=by
     rw[mem_ready]
     refine⟨e,o,ho,fun ed hed hb=>?_⟩
     have hd:=R.down
     unfold edgesDown at hd
     rw[List.all_eq_true] at hd
     have h1:=hd k (List.mem_range.2 hk)
     rw[Array.getElem?_toList,ho] at h1
     simp only[Array.all_eq_true_iff_forall_mem] at h1
     have h2:=h1 ed hed
     rw[hb] at h2
     simp only[Bool.not_true,Bool.false_or,decide_eq_true_eq] at h2
     exact ih ed.on h2 (by omega)
    rw[hr] at this;cases this
 intro fuel
 induction fuel with
 | zero=>
  intro listed v ι lam x a w hs hl I
  have hnil:Region.ready .any ops listed=[]:=by
   cases hr:Region.ready .any ops listed with
   | nil=>rfl
   | cons j rs=>
    have hj:j∈Region.ready .any ops listed:=by rw[hr];simp
    rw[mem_ready] at hj
    obtain⟨h0,o,ho,_⟩:=hj
    have:j∈left ops.size listed:=by
     unfold left;rw[List.mem_filter,List.mem_range]
     exact⟨(Array.getElem?_eq_some_iff.1 ho).1,by rw[h0];rfl⟩
    rw[List.length_eq_zero_iff.1 (Nat.le_zero.1 hl)] at this
    cases this
  exact⟨hnil,hdone listed v ι lam x a w hs I hnil⟩
 | succ fuel ih=>
  intro listed v ι lam x a w hs hl I
  refine⟨hdone listed v ι lam x a w hs I,fun j hj=>?_⟩
  rw[mem_ready] at hj
  obtain⟨h0,o,ho,hr⟩:=hj
  have hjl:=(Array.getElem?_eq_some_iff.1 ho).1
  refine I.step R hf0 hlf0 ho (by unfold Lst;rw[getD_in (by omega) false true,h0];simp) hr fun v' ι' lam' x' a' w' I'=>?_
  refine ih (listed.setIfInBounds j true) v' ι' lam' x' a' w' (by simpa using hs) ?_ ?_
  ·have:=left_set hs hjl h0;omega
  ·have:Lst (listed.setIfInBounds j true)=fun k=>Lst listed k∨k=j:=by
    funext k
    apply propext
    unfold Lst
    by_cases hkj:j=k
    ·subst hkj;simp[Array.getD,hs,hjl]
    ·rw[getD_set_ne false hkj]
     exact⟨.inl,fun h=>h.resolve_right fun e=>hkj e.symm⟩
   rw[this];exact I'

theorem runTr_of {C:CallF}:∀ {l:List MOper} {e:Env} {H:AH} {r:Env × AH},runOps C l e H=some r→∃ S,runTr C l e H=some S
 | [],e,H,r,h=>⟨_,rfl⟩
 | o::l,e,H,r,h=>by
  simp only[runOps] at h
  cases hs:stepOper C e H o with
  | none=>rw[hs] at h;cases h
  | some r1=>
   obtain⟨e1,H1⟩:=r1
   rw[hs] at h
   obtain⟨S,hS⟩:=runTr_of h
   exact⟨(e,H)::S,by simp only[runTr,hs,hS];rfl⟩

theorem wp_draw (hC:SimC P C) (hmix:P.follows .mixedOrders=true) {loc:List Nat} {id:Nat} {mc:MCode} (hc:cDraw P nt loc ops=some mc) {n:Nat} {e e':Env} {H H':AH} {o:Out} (he:runCode C n mc e H=some (o,e',H'))
  (h:SR w0 ι lam e H a.tmps w) (hn:a.tmps.size=nt) (hf:Fresh ι H H') (hlf:LFresh lam e.ln e'.ln) {Q:Exit→Act→World→Prop}
  (hQ:∀ a' w',Post w0 nt a.defers ι lam e H w e' H' a' w'→Q .normal a' w'):o=.normal∧(Code.region id ops true).wp P Q a w:=by
 unfold cDraw at hc
 simp only[] at hc
 split at hc
 ·rename_i hed
  rw[Bool.and_eq_true] at hed
  split at hc
  ·rename_i ms hms
   split at hc
   ·rename_i hst
    have hlen:ms.length=ops.size:=by rw[mapO_length hms];simp
    have hop:∀ (i:Nat) o',ms[i]? = some o'→∃ o q,ops[i]? = some o∧OperC P nt ops q o o':=by
     intro i o' hi
     have hil:=(List.getElem?_eq_some_iff.1 hi).1
     obtain⟨y,hy1,hy2⟩:=mapO_get hms i i (by rw[List.getElem?_range (by omega)])
     rw[hi] at hy1;cases hy1
     rw[Array.getElem?_toList] at hy2
     cases ho:ops[i]? with
     | none=>rw[ho] at hy2;cases hy2
     | some o=>rw[ho] at hy2;exact⟨o,_,rfl,cOper_spec hy2⟩
    have key:∃ S,runTr C ms e H=some S∧S.getLast? = some (e',H')∧(chkOf ms (Region.before ops)).all (pairOk ms S)=true∧o=.normal:=by
     split at hc
     ·rename_i hemp
      cases hc
      simp only[runCode] at he
      split at he
      ·rename_i e1 H1 h1
       cases he
       obtain⟨S,hS⟩:=runTr_of h1
       obtain⟨_,_,_,r,a4,_,a6⟩:=runTr_spec hS
       rw[h1] at a6;cases a6
       refine⟨S,hS,a4, ?_,rfl⟩
       rw[List.isEmpty_iff] at hemp
       rw[hemp];rfl
      ·cases he
     ·cases hc
      simp only[runCode] at he
      split at he
      ·rename_i e1 H1 h1
       cases he
       obtain⟨S,h2,h3,h4⟩:=runDraw_spec h1
       exact⟨S,h2,h4,h3,rfl⟩
      ·cases he
    obtain⟨S,hS,hlast,hchk,rfl⟩:=key
    refine⟨rfl, ?_⟩
    obtain⟨s1,s2,s3,r,s4,s5,s6⟩:=runTr_spec hS
    rw[hlast] at s4;cases s4
    let E:Nat→Env:=fun k=>((S[k]?).getD (e,H)).1
    let G:Nat→AH:=fun k=>((S[k]?).getD (e,H)).2
    have hE:∀ (k:Nat) r,S[k]? = some r→E k=r.1∧G k=r.2:=fun k r hr=>by
     show ((S[k]?).getD (e,H)).1=_∧((S[k]?).getD (e,H)).2=_
     rw[hr];exact⟨rfl,rfl⟩
    have e0:=hE 0 _ s2
    have en:=hE _ _ s5
    rw[hlen] at en
    have R:Reg P C ops ms (Region.before ops) nt E G:=by
     refine⟨hC,hlen,hop,hed.1,hed.2,hst,fun k o' hk=>?_,by rw[e0.2];exact h.wh,by rw[e0.1];exact h.lt,fun s j os oj a1 n1 c m hs hj hne hun hso hld hw=>?_,fun s j os oj c m hs hj hne hun hss hld hw=>?_⟩
     ·obtain⟨e1,H1,r,h1,h2,h3⟩:=s3 k o' hk
      obtain⟨g1,g2⟩:=hE k _ h1
      obtain⟨g3,g4⟩:=hE _ _ h2
      rw[g1,g2,g3,g4];exact h3
     ·have hmem:(s,j)∈chkOf ms (Region.before ops):=by
       unfold chkOf
       rw[List.mem_flatMap]
       refine⟨s,List.mem_range.2 (List.getElem?_eq_some_iff.1 hs).1, ?_⟩
       rw[List.mem_filterMap]
       refine⟨j,List.mem_range.2 (List.getElem?_eq_some_iff.1 hj).1, ?_⟩
       have hss:os.op.turns=true:=by cases hq:os.op<;>rw[hq] at hso<;>simp[stOf,MOp.turns,MOp.isSt] at hso ⊢
       simp[hs,hj,hne,hun,hss,ldOf_ld hld]
      rw[List.all_eq_true] at hchk
      have hp:=hchk _ hmem
      obtain⟨e1,H1,r1,h1,h2,h3⟩:=s3 s os hs
      obtain⟨e2,H2,r2,h4,h5,h6⟩:=s3 j oj hj
      obtain⟨g1,g2⟩:=hE s _ h1
      obtain⟨g3,g4⟩:=hE j _ h4
      rw[g3] at hw ⊢
      rw[g1,g2]
      unfold pairOk at hp
      simp only[hs,hj,h1,h4,hw,hso,hld,Bool.not_true,Bool.false_or,Bool.and_eq_true,Bool.or_eq_true,decide_eq_true_eq] at hp
      exact⟨hp.1,fun hlt=>hp.2.resolve_left (by omega)⟩
     ·have hmem:(s,j)∈chkOf ms (Region.before ops):=by
       unfold chkOf
       rw[List.mem_flatMap]
       refine⟨s,List.mem_range.2 (List.getElem?_eq_some_iff.1 hs).1, ?_⟩
       rw[List.mem_filterMap]
       refine⟨j,List.mem_range.2 (List.getElem?_eq_some_iff.1 hj).1, ?_⟩
       have hst:os.op.turns=true:=by unfold MOp.turns;rw[hss];simp
       simp[hs,hj,hne,hun,hst,ldOf_ld hld]
      rw[List.all_eq_true] at hchk
      have hp:=hchk _ hmem
      have hso:stOf os.op=none:=by cases hq:os.op<;>rw[hq] at hss<;>simp[stOf,MOp.isApp] at hss ⊢
      obtain⟨e1,H1,r1,h1,h2,h3⟩:=s3 s os hs
      obtain⟨e2,H2,r2,h4,h5,h6⟩:=s3 j oj hj
      obtain⟨g1,g2⟩:=hE s _ h1
      obtain⟨g3,g4⟩:=hE j _ h4
      rw[g3] at hw ⊢
      rw[g1,g2]
      unfold pairOk at hp
      simp only[hs,hj,h1,h4,hw,hso,hld,Bool.not_true,Bool.false_or,Bool.and_eq_true,Bool.or_eq_true,decide_eq_true_eq] at hp
      exact⟨hp.1,fun hlt=>hp.2.resolve_left (by omega)⟩
    refine wp_region_any hmix ?_
    have hall0:∀ k,¬ Lst (Array.replicate ops.size false) k:=fun k hk=>by
     unfold Lst at hk
     by_cases hkn:k<ops.size<;>simp[Array.getD,hkn] at hk
    have hm0:MR w0 ι lam (E 0).L (E 0).ln (G 0) w.drew:=by rw[e0.1,e0.2];exact h.mem.drew
    have hmono:(G 0).next≤(G ops.size).next∧(E 0).ln≤(E ops.size).ln:=by
     obtain⟨g1,g2⟩:=R.grow (i:=0) ops.size (Nat.zero_le _) (Nat.le_refl _);exact⟨g1.next,g2.ln⟩
    have hf0:Fresh ι (G 0) (G ops.size):=by rw[e0.2,en.2];exact hf
    have hlf0:LFresh lam (E 0).ln (E ops.size).ln:=by rw[e0.1,en.1];exact hlf
    obtain⟨v',h1,h2,h3,h4⟩:=R.nextView ops.size 0 (by omega)
    have hfr:∀ k,k<ops.size→(∀ c,(G k).next≤c→c<(G (k+1)).next→ι c=none)∧(∀ st,(E k).ln≤st→st<(E (k+1)).ln→lam st=none):=by
     intro k hk
     obtain⟨g1,g2⟩:=R.grow (i:=0) k (Nat.zero_le _) (by omega)
     obtain⟨g3,g4⟩:=R.grow (i:=k+1) ops.size (by omega) (Nat.le_refl _)
     exact⟨fun c c1 c2=>hf0 c (Nat.le_trans g1.next c1) (Nat.lt_of_lt_of_le c2 g3.next),fun c c1 c2=>hlf0 c (Nat.le_trans g2.ln c1) (Nat.lt_of_lt_of_le c2 g4.ln)⟩
    refine wp_any (w0:=w0) (b:=Region.before ops) (E:=E) (G:=G) (ms:=ms) (wS:=w.drew) (df:=a.defers) R hf0 hlf0 (fun a' w' hp=>hQ a' w' ?_) ops.size _ v' ι lam e.m a w.drew (by simp) ?_ ?_
    ·obtain⟨ι2,lam2,p1,p2,p3,p4⟩:=hp
     rw[en.1,en.2] at p1
     rw[e0.1,e0.2,en.1,en.2] at p4
     exact⟨ι2,lam2,p1,p2,p3,p4.drew⟩
    ·unfold left
     exact Nat.le_trans (List.length_filter_le _ _) (by simp)
    ·refine⟨fun k hk=>absurd hk (hall0 k),fun k o1 hk=>absurd hk (hall0 k),h2,fun m o1 hm ho1 hl=>?_,fun hv=>⟨hall0 _,h4 hv⟩, ?_,fun t=>?_,fun i o1 t hi=>absurd hi (hall0 i),fun t _=>?_,fun k hk _=>hfr k hk,fun k hk=>absurd hk (hall0 k),GP.refl _ _ _ _ _,hn,rfl⟩
     ·have:=h3 m o1 (Nat.zero_le _) hm ho1;rw[hl] at this;cases this
     ·obtain⟨g1,g2⟩:=R.good v' h2
      have hcm:=R.calmN (i:=0) v' h1 h2 h3
      obtain⟨g3,g4⟩:=R.grow (i:=v') ops.size h2 (Nat.le_refl _)
      exact hm0.shift g1 g2 (fun c c1 c2=>hf0 c c1 (Nat.lt_of_lt_of_le c2 g3.next)) hcm.old (fun c c1 c2=>hlf0 c c1 (Nat.lt_of_lt_of_le c2 g4.ln)) hcm.loc
     ·exact h.slots t
     ·rw[e0.1];rfl
   ·cases hc
  ·cases hc
 ·cases hc

end
end Go.Ab

namespace Go.Ab
open Go.RowKit

section
variable {P:Program} {w0:World} {ι:Io} {H:AH} {w:World}

theorem V.rebase {w0 w:World} (hc0:∀ a x,w0.cell? a=some x→w.cell? a=some x) {ι:Io} {v:AV} {c:Value} (h:V w0 ι v c):V w ι v c:=by
 induction h with
 | bool b=>exact .bool b
 | int k n=>exact .int k n
 | str c=>exact .str c
 | nilp=>exact .nilp
 | ptr b o g off x hi h=>exact .ptr b o g off x hi h
 | nils=>exact .nils
 | sl b o sz len cap ex g off cap' sp x hi hl hc hx h hsp0=>exact .sl b o sz len cap ex g off cap' sp x hi hl hc hx h hsp0
 | vs0 z=>exact .vs0 z
 | vs es z a cap sz cf hsp hl hc hv h1 hz hcap ih=>exact .vs es z a cap sz cf hsp hl (fun i j hi hj=>hc0 _ _ (hc i j hi hj)) ih h1 hz hcap
 | vp es i o blk off cf hi hc hv h1 ih=>exact .vp es i o blk off cf hi (fun j hj=>hc0 _ _ (hc j hj)) ih h1
 | nilm=>exact .nilm
 | mp r g x hi h=>exact .mp r g x hi h
 | nilf=>exact .nilf
 | fn f first cap first' cap' h1 h2 hv1 hv2 ih1 ih2=>exact .fn f first cap first' cap' h1 h2 ih1 ih2
 | nili=>exact .nili
 | ifc t v c h ih=>exact .ifc t v c ih
 | agg cs c hl hv h1 ih=>exact .agg cs c hl ih h1
 | tup cs c hl hv ih=>exact .tup cs c hl ih

theorem mapO_V {f:AV→Option AV} {w1:World} {ι1:Io} (hf:∀ v t c,f v=some t→V w0 ι v c→V w1 ι1 t c):∀ {cs ts:List AV} {cl:List Value},mapO f cs=some ts→VL w0 ι cs cl→VL w1 ι1 ts cl
 | [],ts,cl,h,hv=>by simp only[mapO] at h;cases h;rw[hv.inv_nil];exact VL.nil
 | v::cs,ts,cl,h,hv=>by
  simp only[mapO] at h
  split at h
  ·rename_i t ts' h1 h2
   cases h
   obtain⟨c,cl',rfl,k1,k2⟩:=hv.inv_cons
   exact VL.cons (hf v t c h1 k1) (mapO_V hf h2 k2)
  ·cases h

theorem V.arr_of_VL {w1:World} {ι1:Io} {ts:List AV} {c:Array Value} (h:VL w1 ι1 ts c.toList):ts.length=c.size∧∀ i (hi:i<ts.length),V w1 ι1 ts[i] c[i]!:=by
 have hl:=h.1
 simp only[Array.length_toList] at hl
 refine⟨hl,fun i hi=>?_⟩
 have:=h.2 i hi
 have hi':i<c.size:=by omega
 simpa [hi',getElem!_pos] using this

theorem VL_of_arr {w1:World} {ι1:Io} {ts:List AV} {c:Array Value} (hl:ts.length=c.size) (hv:∀ i (hi:i<ts.length),V w1 ι1 ts[i] c[i]!):VL w1 ι1 ts c.toList:=by
 refine⟨by simpa using hl,fun i hi=>?_⟩
 have:=hv i hi
 have hi':i<c.size:=by omega
 simpa [hi',getElem!_pos] using this

theorem freeze_V {L:Tr (List AV)} {ln:Nat} {lam:Lo} (hm:MR w0 ι lam L ln H w):∀ (d:Nat) (v t:AV) (c:Value),freeze H d v=some t→V w0 ι v c→V w noI t c
 | 0,v,t,c,h,_=>by simp[freeze] at h
 | d+1,v,t,c,h,hv=>by
  have hreb:∀ a x,w0.cell? a=some x→w.cell? a=some x:=fun a x h=>hm.heapLow h
  have ihL:∀ {cs ts:List AV} {cl:List Value},mapO (freeze H d) cs=some ts→VL w0 ι cs cl→VL w noI ts cl:=fun h1 h2=>mapO_V (fun v t c a b=>freeze_V hm d v t c a b) h1 h2
  simp only[freeze] at h
  split at h
  ·cases h;cases hv;exact .bool _
  ·cases h;cases hv;exact .int _ _
  ·cases h;cases hv;exact .str _
  ·cases h;cases hv;exact .nilp
  ·cases h;cases hv;exact .nilf
  ·cases h;cases hv;exact .nilm
  ·cases h;cases hv;exact .nili
  ·cases h;cases hv;exact .vs0 _
  ·rename_i es z
   cases h
   cases hv with
   | vs0=>exact .vs0 _
   | vs _ _ a cap sz cf hsp hl hc hv h1 hz hcap=>
    exact .vs es false a cap sz cf hsp hl (fun i j hi hj=>hreb _ _ (hc i j hi hj)) (fun i j hi hj=>(hv i j hi hj).rebase hreb) h1 (fun e=>by cases e) hcap
  ·rename_i es i o
   cases h
   cases hv with
   | vp _ _ _ blk off cf hi hc hv h1=>exact .vp es i o blk off cf hi (fun j hj=>hreb _ _ (hc j hj)) (fun j hj=>(hv j hj).rebase hreb) h1
  ·rename_i b o sz len cap ex
   split at h
   ·rename_i hl0
    cases h
    cases hv with
    | sl _ _ _ _ _ _ g off cap' sp x hi hl hc hx hp hsp0=>
     subst hl0
     exact .vs [] false ⟨g,off,sp⟩ cap' 0 (fun _ _=>Go.undef) (fun e=>absurd rfl e) (by simp) (by simp) (by simp) (by simp) (fun e=>by cases e) ⟨Nat.zero_le _,hc.2⟩
   ·rename_i hl0
    split at h
    ·rename_i cs hr
     obtain⟨ts,h1,h2⟩:=map_some h
     subst h2
     have hel:elemsOf H sz (.sl b o sz len cap ex)=some cs:=by simp only[elemsOf,if_true];rw[if_neg hl0];exact hr
     obtain⟨ad,n,cap',cl,e1,e2,e3,e4,e5,e6⟩:=hm.elems (VE.of_V (lam:=lam) hv) hel
     cases hv with
     | sl _ _ _ _ _ _ g off cap'' sp x hi hl hc hx hp hsp0=>
      obtain rfl:sp=none:=hsp0.elim id (fun h=>by omega)
      cases e1
      have e3':=ihL h1 e3.1
      have hcl:cl.length=len*sz:=by rw[← e3.1.1,e2]
      have hts:ts.length=len*sz:=by rw[e3'.1,hcl]
      obtain⟨_,hcell⟩:=e4 _ rfl
      have hlen:(rows sz ts len).length=len:=by simp[rows]
      have hbd:∀ i j,i<len→j<sz→i*sz+j<len*sz:=fun i j hi hj=>by
       have:(i+1)*sz≤len*sz:=Nat.mul_le_mul_right _ hi
       rw[Nat.succ_mul] at this;omega
      have hrow:∀ i (hi:i<(rows sz ts len).length),(rows sz ts len)[i]=(ts.drop (i*sz)).take sz:=fun i hi=>by simp[rows]
      have hrl:∀ i (hi:i<(rows sz ts len).length),(rows sz ts len)[i].length=sz:=fun i hi=>by
       rw[hrow i hi]
       have:(i+1)*sz≤len*sz:=Nat.mul_le_mul_right _ (by omega)
       rw[Nat.succ_mul] at this
       simp;omega
      have key:=V.vs (w0:=w) (ι:=noI) (rows sz ts len) false ⟨g,off,none⟩ cap' sz (fun i j=>cl[i*sz+j]!) (fun _=>rfl) hrl
       (fun i j hi hj=>by
        have hk:=hbd i j (by omega) hj
        have:=hcell (i*sz+j) cl[i*sz+j]! (by rw[getElem!_pos cl _ (by omega)];exact List.getElem?_eq_getElem (by omega))
        rw[Addr.add_lit] at this
        show w.cell? ⟨g,off+i*sz+j,none⟩=_
        rw[Nat.add_assoc];exact this)
       (fun i j hi hj=>by
        have hj':j<sz:=by rw[hrl i hi] at hj;exact hj
        have hk:=hbd i j (by omega) hj'
        have:=e3'.2 (i*sz+j) (by omega)
        have e7:(rows sz ts len)[i][j]=ts[i*sz+j]'(by omega):=by simp[hrow i hi]
        rw[e7];exact this)
       (fun i j hi hj=>by
        have hk:=hbd i j (by omega) hj
        show (cl[i*sz+j]!).oneCell'=true
        rw[getElem!_pos cl _ (by omega)];exact e3.2 _ (List.getElem_mem _))
       (fun e=>by cases e) (by omega)
      rw[hlen] at key
      exact key
    ·cases h
  ·rename_i b o
   split at h
   ·rename_i cs hg
    obtain⟨ts,h1,h2⟩:=map_some h
    subst h2
    have hlt:b<H.next:=hm.wh.lt hg (by simp)
    cases hv with
    | ptr _ _ g off x hi hp=>
     cases x with
     | none=>rw[hm.alive b hlt hi] at hg;cases hg
     | some p=>
      have ho:=hm.obj b p hlt hi
      rw[hg] at ho
      obtain⟨cc,T,e1,e2,e3,e4⟩:=ho
      obtain⟨rfl,rfl⟩:=hp p rfl
      have e4':=ihL h1 e4.1
      have hts:ts.length=cs.length:=by rw[e4'.1];simp;omega
      refine .vp [ts] 0 o p.blk p.base (fun j=>cc[p.base+j]!) (by simp) (fun j hj=>?_) (fun j hj=>?_) (fun j hj=>?_)
      ·simp only[List.getElem_cons_zero] at hj
       rw[cell_of_block e1,getElem!_pos cc _ (by omega)]
       exact Array.getElem?_eq_getElem (by omega)
      ·simp only[List.getElem_cons_zero] at hj ⊢
       have:=e4'.2 j hj
       rw[getElem!_pos _ j (by simp;omega)] at this
       rw[getElem!_pos cc _ (by omega)]
       simpa using this
      ·simp only[List.getElem_cons_zero] at hj
       rw[getElem!_pos cc _ (by omega)]
       refine e4.2 _ ?_
       rw[List.mem_iff_getElem]
       exact⟨j,by simp;omega,by simp⟩
   ·cases h
  ·rename_i cs
   obtain⟨ts,h1,h2⟩:=map_some h
   subst h2
   cases hv with
   | agg _ c hl hv h1'=>
    obtain⟨k1,k2⟩:=V.arr_of_VL (ihL h1 (VL_of_arr hl hv))
    exact .agg ts c k1 k2 (fun i hi=>h1' i (by omega))
  ·rename_i cs
   obtain⟨ts,h1,h2⟩:=map_some h
   subst h2
   cases hv with
   | tup _ c hl hv=>
    obtain⟨k1,k2⟩:=V.arr_of_VL (ihL h1 (VL_of_arr hl hv))
    exact .tup ts c k1 k2
  ·rename_i f a c0
   split at h
   ·rename_i a' c' h1 h2
    cases h
    cases hv with
    | fn _ _ _ f1 c1 l1 l2 hv1 hv2=>
     obtain⟨k1,k2⟩:=V.arr_of_VL (ihL h1 (VL_of_arr l1 hv1))
     obtain⟨k3,k4⟩:=V.arr_of_VL (ihL h2 (VL_of_arr l2 hv2))
     exact .fn f a' c' f1 c1 k1 k3 k2 k4
   ·cases h
  ·rename_i t0 v0
   obtain⟨t1,h1,h2⟩:=map_some h
   subst h2
   cases hv with
   | ifc _ _ c hv=>exact .ifc t0 t1 c (freeze_V hm d v0 t1 c h1 hv)
  ·cases h

end
end Go.Ab

namespace Go.Ab
open Go.RowKit

section
variable {P:Program} {w0:World} {ι ι1:Io} {H H1:AH} {w w':World}

theorem MR.place (h:MR w0 ι noL .nil 0 H w) (hf:ι H.next=none) {p:Pl} (hp:w0.heap.size≤p.blk∧p.blk<w.heap.size) (hinj:∀ b q,ι b=some (some q)→q.blk≠p.blk) {cs:List AV}
  (ho:OR w0 (ι.set H.next (some p)) (.cells cs) p w.heap[p.blk]?):MR w0 (ι.set H.next (some p)) noL .nil 0 (H.new (.cells cs)) w:=by
 have hs:∀ b q,(ι.set H.next (some p)) b=some (some q)→(b=H.next∧q=p)∨(b≠H.next∧ι b=some (some q)):=by
  intro b q hq
  unfold Io.set at hq
  split at hq
  ·cases hq;exact .inl ⟨by assumption,rfl⟩
  ·exact .inr ⟨by assumption,hq⟩
 have he:Ext ι (ι.set H.next (some p)):=by
  intro b x hb
  left
  unfold Io.set;rw[if_neg (fun e=>by rw[e,hf] at hb;cases hb)];exact hb
 refine { h with pl:=fun b q hq=>?_,inj:=fun b b' q q' hq hq' e=>?_,obj:=fun b q hb hq=>?_,lpl:=fun st c hc=>(by cases hc),lobj:=fun st c hst=>(by omega),lo:=?_,top:=fun b hb=>?_,alive:=fun b hb hi=>?_ }
 ·rcases hs b q hq with ⟨_,rfl⟩|⟨_,hq⟩
  ·exact hp
  ·exact h.pl b q hq
 ·rcases hs b q hq with ⟨e1,e2⟩|⟨_,k1⟩<;>rcases hs b' q' hq' with ⟨e3,e4⟩|⟨_,k2⟩
  ·rw[e1,e3]
  ·rw[e2] at e;exact absurd e.symm (hinj b' q' k2)
  ·rw[e4] at e;exact absurd e (hinj b q k1)
  ·exact h.inj b b' q q' k1 k2 e
 ·rw[AH.get_new]
  rcases hs b q hq with ⟨rfl,rfl⟩|⟨hne,hq⟩
  ·rw[if_pos rfl];exact ho
  ·rw[if_neg (fun e=>hne e.symm)]
   have hb':b<H.next+1:=hb
   exact (h.obj b q (by omega) hq).ext he
 ·show H.lo≤H.next+1
  have:=h.lo;omega
 ·have hb':H.next+1≤b:=hb
  rw[AH.get_new,if_neg (by omega)];exact h.top b (by omega)
 ·rw[AH.get_new]
  have hb':b<H.next+1:=hb
  by_cases e:H.next=b
  ·subst e;unfold Io.set at hi;simp at hi
  ·rw[if_neg e];unfold Io.set at hi;rw[if_neg (fun x=>e x.symm)] at hi;exact h.alive b (by omega) hi

structure LR (ι1:Io) (u u':List Nat) (ι ι':Io) (H H':AH):Prop where
 sub:∀ b,b∈u→b∈u'
 next:H.next≤H'.next
 keep:∀ b x,ι b=some x→ι' b=some x
 new:∀ b,ι b=none→ι' b≠none→H.next≤b∧b<H'.next
 all:∀ b,H.next≤b→b<H'.next→ι' b≠none
 blk:∀ b p,ι' b=some (some p)→ι b=some (some p)∨(H.next≤b∧b<H'.next∧∃ b1 p1,b1∈u'∧b1∉u∧ι1 b1=some (some p1)∧p1.blk=p.blk)

theorem LR.refl (u:List Nat) (ι:Io) (H:AH):LR ι1 u u ι ι H H:=
 ⟨fun _ h=>h,Nat.le_refl _,fun _ _ h=>h,fun _ h k=>absurd h k,fun b h k=>by omega,fun _ _ h=>.inl h⟩

theorem LR.trans {u u2 u3:List Nat} {ι ι2 ι3:Io} {H H2 H3:AH} (h:LR ι1 u u2 ι ι2 H H2) (k:LR ι1 u2 u3 ι2 ι3 H2 H3):LR ι1 u u3 ι ι3 H H3 where
 sub:=fun b hb=>k.sub b (h.sub b hb)
 next:=Nat.le_trans h.next k.next
 keep:=fun b x hb=>k.keep b x (h.keep b x hb)
 new:=fun b hb hn=>by
  by_cases h1:ι2 b=none
  ·have:=k.new b h1 hn;have:=h.next;omega
  ·have:=h.new b hb h1;have:=k.next;omega
 all:=fun b hb hn=>by
  rcases Nat.lt_or_ge b H2.next with g|g
  ·have h1:=h.all b hb g
   cases e:ι2 b with
   | none=>exact absurd e h1
   | some x=>rw[k.keep b x e];simp
  ·exact k.all b g hn
 blk:=fun b p hb=>by
  have hn1:=h.next
  have hn2:=k.next
  rcases k.blk b p hb with g|⟨g1,g2,b1,p1,g3,g4,g5⟩
  ·rcases h.blk b p g with g|⟨g1,g2,b1,p1,g3,g4,g5⟩
   ·exact .inl g
   ·exact .inr ⟨g1,by omega,b1,p1,k.sub _ g3,g4,g5⟩
  ·exact .inr ⟨by omega,g2,b1,p1,g3,fun e=>g4 (h.sub _ e),g5⟩

def UI (B:Nat) (ι1:Io) (u:List Nat) (ι:Io):Prop:=∀ b p,ι b=some (some p)→B≤p.blk→∃ b1 p1,b1∈u∧ι1 b1=some (some p1)∧p1.blk=p.blk

theorem LR.ui {B:Nat} {u u':List Nat} {ι ι':Io} {H H':AH} (h:LR ι1 u u' ι ι' H H') (hu:UI B ι1 u ι):UI B ι1 u' ι':=by
 intro b p hb hB
 rcases h.blk b p hb with g|⟨_,_,b1,p1,g3,_,g5⟩
 ·obtain⟨b1,p1,k1,k2⟩:=hu b p g hB
  exact⟨b1,p1,h.sub _ k1,k2⟩
 ·exact⟨b1,p1,g3,g5⟩

def LiftSim (w0 w w':World) (ι1:Io) (f:LiftF):Prop:=
 ∀ v u H r u' H' ι c,f v u H=some (r,u',H')→V w ι1 v c→MR w0 ι noL .nil 0 H w'→Fresh ι H H'→UI w.heap.size ι1 u ι →
  ∃ ι',LR ι1 u u' ι ι' H H'∧MR w0 ι' noL .nil 0 H' w'∧V w0 ι' r c

theorem LR.ext {u u':List Nat} {ι ι':Io} {H H':AH} (h:LR ι1 u u' ι ι' H H'):Ext ι ι':=fun b x hb=>.inl (h.keep b x hb)

theorem LR.fresh {u u':List Nat} {ι ι':Io} {H H' H2:AH} (h:LR ι1 u u' ι ι' H H') (hf:Fresh ι H H2):Fresh ι' H' H2:=by
 intro b h1 h2
 cases e:ι' b with
 | none=>rfl
 | some x=>
  have:=h.new b (hf b (Nat.le_trans h.next h1) h2) (by rw[e];simp)
  omega

theorem liftL_sim {f:LiftF} (hf:LiftSim w0 w w' ι1 f) (hg:∀ v u H r u' H',f v u H=some (r,u',H')→WH H→HG H H'∧H'.lo=H.lo) :
  ∀ (vs:List AV) (u:List Nat) (H:AH) (rs:List AV) (u':List Nat) (H':AH) (ι:Io) (cl:List Value),liftL f vs u H=some (rs,u',H')→VL w ι1 vs cl→MR w0 ι noL .nil 0 H w'→Fresh ι H H'→UI w.heap.size ι1 u ι →
  ∃ ι',LR ι1 u u' ι ι' H H'∧MR w0 ι' noL .nil 0 H' w'∧VL w0 ι' rs cl
 | [],u,H,rs,u',H',ι,cl,h,hv,hm,hfr,hu=>by
  simp only[liftL] at h;cases h
  rw[hv.inv_nil]
  exact⟨ι,LR.refl _ _ _,hm,VL.nil⟩
 | v::vs,u,H,rs,u',H',ι,cl,h,hv,hm,hfr,hu=>by
  simp only[liftL] at h
  split at h
  ·rename_i r u2 H2 h1
   split at h
   ·rename_i rs2 u3 H3 h2
    cases h
    obtain⟨c,cl',rfl,k1,k2⟩:=hv.inv_cons
    have g1:=(hg _ _ _ _ _ _ h1 hm.wh).1
    have g2:=(liftL_G hg vs _ _ _ _ _ h2 g1.wh).1
    obtain⟨ι2,a1,a2,a3⟩:=hf _ _ _ _ _ _ ι c h1 k1 hm (hfr.left g2.next) hu
    obtain⟨ι3,b1,b2,b3⟩:=liftL_sim hf hg vs _ _ _ _ _ ι2 cl' h2 k2 a2 (a1.fresh hfr) (a1.ui hu)
    exact⟨ι3,a1.trans b1,b2,VL.cons (a3.ext b1.ext) b3⟩
   ·cases h
  ·cases h

theorem take_drop_take {α:Type} (l:List α) (a n o m:Nat) (h:o+m≤n):(((l.drop a).take n).drop o).take m=(l.drop (a+o)).take m:=by
 apply List.ext_getElem?
 intro i
 rw[List.getElem?_take,List.getElem?_take]
 split
 ·rw[List.getElem?_drop,List.getElem?_take,if_pos (by omega),List.getElem?_drop,List.getElem?_drop]
  congr 1;omega
 ·rfl

theorem lift_obj {d:Nat} (hm1:MR w ι1 noL .nil 0 H1 w') (ih:LiftSim w0 w w' ι1 (lift H1 d)) (hsz:w0.heap.size≤w.heap.size) {b o n:Nat} {xs rs:List AV} {u u':List Nat} {H H2:AH} {ι:Io} {x:Option Pl} (hg:H1.get b=.cells xs) (hi:ι1 b=some x) (hon:o+n≤xs.length)
  (hb:u.contains b=false) (h:liftL (lift H1 d) ((xs.drop o).take n) (b::u) H=some (rs,u',H2)) (hm:MR w0 ι noL .nil 0 H w') (hfr:Fresh ι H (H2.new (.cells rs))) (hu:UI w.heap.size ι1 u ι) :
  ∃ p ι',x=some p∧LR ι1 u u' ι ι' H (H2.new (.cells rs))∧ι' H2.next=some (some ⟨p.blk,p.base+o,p.tot⟩)∧MR w0 ι' noL .nil 0 (H2.new (.cells rs)) w':=by
 have hlt:b<H1.next:=hm1.wh.lt hg (by simp)
 have hbu:b∉u:=by simpa using hb
 cases x with
 | none=>rw[hm1.alive b hlt hi] at hg;cases hg
 | some p=>
  have ho:=hm1.obj b p hlt hi
  rw[hg] at ho
  obtain⟨cc,T,e1,e2,e3,e4⟩:=ho
  have hpl:=hm1.pl b p hi
  have hv:VL w ι1 ((xs.drop o).take n) ((cc.toList.drop (p.base+o)).take n):=by
   have:=(e4.1.drop o).take n
   rwa [take_drop_take _ _ _ _ _ hon] at this
  have hoc:∀ c∈(cc.toList.drop (p.base+o)).take n,c.oneCell'=true:=by
   have:=((e4.drop o).take n).2
   rwa [take_drop_take _ _ _ _ _ hon] at this
  have g1:=(liftL_G (lift_G H1 d) _ _ _ _ _ _ h hm.wh).1
  have hui:UI w.heap.size ι1 (b::u) ι:=fun b' p' h1 h2=>by
   obtain⟨b1,p1,k1,k2⟩:=hu b' p' h1 h2
   exact⟨b1,p1,List.mem_cons_of_mem _ k1,k2⟩
  obtain⟨ι2,a1,a2,a3⟩:=liftL_sim ih (lift_G H1 d) _ _ _ _ _ _ ι _ h hv hm (hfr.left (Nat.le_succ _)) hui
  have hf2:ι2 H2.next=none:=a1.fresh hfr H2.next (Nat.le_refl _) (Nat.lt_succ_self _)
  have hrl:rs.length=n:=by
   have h1:=a3.1
   have h2:=hv.1
   have h3:((xs.drop o).take n).length=n:=by simp;omega
   omega
  let p':Pl:=⟨p.blk,p.base+o,p.tot⟩
  have hset:∀ c q,(ι2.set H2.next (some p')) c=some (some q)→(c=H2.next∧q=p')∨(c≠H2.next∧ι2 c=some (some q)):=by
   intro c q hq
   unfold Io.set at hq
   split at hq
   ·cases hq;exact .inl ⟨by assumption,rfl⟩
   ·exact .inr ⟨by assumption,hq⟩
  have he:Ext ι2 (ι2.set H2.next (some p')):=fun c y hc=>by
   left;unfold Io.set;rw[if_neg (fun e=>by rw[e,hf2] at hc;cases hc)];exact hc
  refine⟨p,ι2.set H2.next (some p'),rfl, ?_,by unfold Io.set;rw[if_pos rfl],a2.place (p:=p') hf2 ⟨Nat.le_trans hsz hpl.1,hpl.2⟩ (fun c q hq e=>?_) ?_⟩
  ·refine⟨fun c hc=>a1.sub c (List.mem_cons_of_mem _ hc),Nat.le_succ_of_le a1.next,fun c y hc=>?_,fun c hc hn=>?_,fun c h1 h2=>?_,fun c q hq=>?_⟩
   ·have:=a1.keep c y hc
    unfold Io.set;rw[if_neg (fun e=>by rw[e,hf2] at this;cases this)];exact this
   ·show H.next≤c∧c<H2.next+1
    by_cases e:c=H2.next
    ·subst e;exact⟨a1.next,Nat.lt_succ_self _⟩
    ·unfold Io.set at hn;rw[if_neg e] at hn
     have:=a1.new c hc hn;omega
   ·have h2':c<H2.next+1:=h2
    by_cases e:c=H2.next
    ·subst e;unfold Io.set;simp
    ·unfold Io.set;rw[if_neg e];exact a1.all c h1 (by omega)
   ·show _∨(_∧c<H2.next+1∧_)
    rcases hset c q hq with ⟨k1,k2⟩|⟨_,k2⟩
    ·subst k1;subst k2
     exact .inr ⟨a1.next,Nat.lt_succ_self _,b,p,a1.sub b (by simp),hbu,hi,rfl⟩
    ·rcases a1.blk c q k2 with g|⟨g1,g2,b1,p1,g3,g4,g5⟩
     ·exact .inl g
     ·exact .inr ⟨g1,by omega,b1,p1,g3,fun e=>g4 (List.mem_cons_of_mem _ e),g5⟩
  ·
   have e':q.blk=p.blk:=e
   rcases a1.blk c q hq with g|⟨_,_,b1,p1,g3,g4,g5,g6⟩
   ·obtain⟨b1,p1,k1,k2,k3⟩:=hu c q g (by rw[e'];exact hpl.1)
    have:=hm1.inj b1 b p1 p k2 hi (by rw[k3,e'])
    exact hbu (this ▸ k1)
   ·have:=hm1.inj b1 b p1 p g5 hi (by rw[g6,e'])
    exact g4 (by rw[this];simp)
  ·refine⟨cc,T,e1,e2, ?_, ?_⟩
   ·show p.base+o+rs.length≤cc.size
    omega
   ·show VC w0 _ rs ((cc.toList.drop (p.base+o)).take rs.length)
    rw[hrl]
    exact⟨a3.ext he,hoc⟩

theorem lift_sim (hm1:MR w ι1 noL .nil 0 H1 w') (hsz:w0.heap.size≤w.heap.size):∀ d,LiftSim w0 w w' ι1 (lift H1 d)
 | 0=>fun v u H r u' H' ι c h=>by simp[lift] at h
 | d+1=>fun v u H r u' H' ι c h hv hm hfr hu=>by
  have ih:=lift_sim hm1 hsz d
  simp only[lift] at h
  split at h
  ·cases h;cases hv;exact⟨ι,LR.refl _ _ _,hm,.bool _⟩
  ·cases h;cases hv;exact⟨ι,LR.refl _ _ _,hm,.int _ _⟩
  ·cases h;cases hv;exact⟨ι,LR.refl _ _ _,hm,.str _⟩
  ·cases h;cases hv;exact⟨ι,LR.refl _ _ _,hm,.nilp⟩
  ·cases h;cases hv;exact⟨ι,LR.refl _ _ _,hm,.nilf⟩
  ·cases h;cases hv;exact⟨ι,LR.refl _ _ _,hm,.nilm⟩
  ·cases h;cases hv;exact⟨ι,LR.refl _ _ _,hm,.nili⟩
  ·cases h;cases hv;exact⟨ι,LR.refl _ _ _,hm,.vs0 _⟩
  ·cases h
   cases hv with
   | vs0=>exact⟨ι,LR.refl _ _ _,hm,.vs0 _⟩
   | vs _ _ a cap sz cf hsp hl hc hv h1 hz hcap=>
    exact⟨ι,LR.refl _ _ _,hm,.vs [] _ a cap sz cf (fun e=>absurd rfl e) (by simp) (by simp) (by simp) (by simp) hz hcap⟩
  ·rename_i b o sz len cap ex
   split at h
   ·rename_i hl0
    cases h
    cases hv with
    | sl _ _ _ _ _ _ g off cap' sp x hi hl hc hx hp hsp0=>
     subst hl0
     refine⟨ι,LR.refl _ _ _,hm,.vs [] _ ⟨g,off,sp⟩ cap' 0 (fun _ _=>Go.undef) (fun e=>absurd rfl e) (by simp) (by simp) (by simp) (by simp) (fun e=>?_) ⟨Nat.zero_le _,hc.2⟩⟩
     simp only[Bool.and_eq_true,beq_iff_eq] at e
     rw[hx e.1,e.2]
   ·rename_i hl0
    split at h
    ·cases h
    ·rename_i hb
     split at h
     ·rename_i cs hr
      split at h
      ·rename_i rs u2 H2 h2
       cases h
       unfold AH.read at hr
       split at hr
       ·rename_i xs hg
        obtain⟨hle,rfl⟩:=slice_spec hr
        cases hv with
        | sl _ _ _ _ _ _ g off cap' sp x hi hl hc hx hp hsp0=>
         obtain⟨p,ι',rfl,k1,k2,k3⟩:=lift_obj hm1 ih hsz hg hi hle (by simpa using hb) h2 hm hfr hu
         refine⟨ι',k1,k3, ?_⟩
         obtain⟨rfl,q2,q3⟩:=hp p rfl
         obtain rfl:sp=none:=hsp0.elim id (fun h=>by cases h.1)
         refine .sl H2.next 0 sz len len false p.blk off cap' none (some ⟨p.blk,p.base+o,p.tot⟩) k2 (Nat.le_refl _) (by omega) (fun e=>by cases e) (fun q hq=>?_) (.inl rfl)
         cases hq
         exact⟨rfl,fun hpos=>by rw[q2 hpos];rfl,by simpa using q3⟩
       ·cases hr
      ·cases h
     ·cases h
  ·rename_i b o
   split at h
   ·cases h
   ·rename_i hb
    split at h
    ·rename_i cs hg
     split at h
     ·rename_i rs u2 H2 h2
      cases h
      cases hv with
      | ptr _ _ g off x hi hp=>
       have h2':liftL (lift H1 d) ((cs.drop 0).take cs.length) (b::u) H=some (rs,u',H2):=by simpa using h2
       obtain⟨p,ι',rfl,k1,k2,k3⟩:=lift_obj hm1 ih hsz hg hi (o:=0) (by simp) (by simpa using hb) h2' hm hfr hu
       refine⟨ι',k1,k3, ?_⟩
       obtain⟨rfl,rfl⟩:=hp p rfl
       exact .ptr H2.next o p.blk (p.base+o) (some ⟨p.blk,p.base+0,p.tot⟩) k2 (fun q hq=>by cases hq;exact⟨rfl,rfl⟩)
     ·cases h
    ·cases h
  ·split at h
   ·rename_i cs rs u2 H2 h2
    cases h
    cases hv with
    | agg _ c hl hv h1'=>
     obtain⟨ι',k1,k2,k3⟩:=liftL_sim ih (lift_G H1 d) _ _ _ _ _ _ ι _ h2 (VL_of_arr hl hv) hm hfr hu
     obtain⟨k4,k5⟩:=V.arr_of_VL k3
     exact⟨ι',k1,k2,.agg rs c k4 k5 (fun i hi=>h1' i (by omega))⟩
   ·cases h
  ·split at h
   ·rename_i cs rs u2 H2 h2
    cases h
    cases hv with
    | tup _ c hl hv=>
     obtain⟨ι',k1,k2,k3⟩:=liftL_sim ih (lift_G H1 d) _ _ _ _ _ _ ι _ h2 (VL_of_arr hl hv) hm hfr hu
     obtain⟨k4,k5⟩:=V.arr_of_VL k3
     exact⟨ι',k1,k2,.tup rs c k4 k5⟩
   ·cases h
  ·cases h

end
end Go.Ab

namespace Go.Ab
open Go.RowKit

section
variable {P:Program} {w0:World} {ι:Io} {H:AH} {w:World}

def CallSim (P:Program) (g:FuncId) (body:List AV→AH→Option (AV × AH)):Prop:=
 ∀ args H r H',body args H=some (r,H')→∀ w0 ι w (cargs:Array Value),MR w0 ι noL .nil 0 H w→VL w0 ι args cargs.toList→Fresh ι H H' →
  Calls P g cargs w fun e w'=>∃ cr ι',e=.returned cr∧V w0 ι' r cr∧MR w0 ι' noL .nil 0 H' w'∧FP False ι noL .nil 0 H w ι' noL .nil 0 H' w'

def ExtOK (P:Program) (f:FuncId) (F:MFunc):Prop:=
 (∃ fn, P.funcs[f]? = some fn ∧ (fn.name == "runtime.NumGoroutine") = false ∧ fn.body.isNone = false) ∧ ∀ C n, CallSim P f (evalF C n F)

def Faithful (P:Program) (M:FuncId→Option MFunc):Prop:=
 P.follows .mixedOrders=true∧∀ f F,M f=some F→(∃ fn loc,P.funcs[f]? = some fn∧compile P loc fn=some { F with pure:=false,both:=false })∨ExtOK P f F

theorem MR.grow (h:MR w0 ι noL .nil 0 H w) {w':World} (hs:w.heap.size≤w'.heap.size) (hl:∀ c,c<w.heap.size→w'.heap[c]? = w.heap[c]?) (ho:w'.os=w.os) (ht:w'.tape=w.tape) (hu:w'.output=w.output):MR w0 ι noL .nil 0 H w':=
 { h with
   size:=Nat.le_trans h.size hs
   low:=fun c hc=>by rw[hl c (Nat.lt_of_lt_of_le hc h.size)];exact h.low c hc
   os:=by rw[ho,h.os]
   tape:=by rw[ht,h.tape]
   output:=by rw[hu,h.output]
   pl:=fun b p hb=>⟨(h.pl b p hb).1,Nat.lt_of_lt_of_le (h.pl b p hb).2 hs⟩
   obj:=fun b p hb hi=>by rw[hl _ (h.pl b p hi).2];exact h.obj b p hb hi
   lpl:=fun st c hc=>(by cases hc)
   lobj:=fun st c hst=>(by omega) }

theorem MR.empty (w:World):MR w noI noL .nil 0 { objs:=.nil,next:=0,lo:=0 } w where
 size:=Nat.le_refl _
 low:=fun _ _=>rfl
 os:=rfl
 tape:=rfl
 output:=rfl
 pl:=fun b p h=>by cases h
 inj:=fun b b' p p' h=>by cases h
 obj:=fun b p h=>absurd h (Nat.not_lt_zero _)
 lpl:=fun st c h=>by cases h
 linj:=fun st st' c h=>by cases h
 lobj:=fun st c h=>by omega
 lo:=Nat.le_refl _
 top:=fun b _=>by unfold AH.get;rw[Tr.get_nil];rfl
 ltop:=fun st _=>Tr.get_nil st
 alive:=fun b h=>absurd h (Nat.not_lt_zero _)

theorem pure_from {g:FuncId} {body:List AV→AH→Option (AV × AH)} (hb:CallSim P g body) {ts:List AV} {Hs:AH} {ιs:Io} {r1:AV} {H1:AH} (h2:body ts Hs=some (r1,H1)) {H':AH} {r:AV} {u:List Nat} (h3:lift H1 deep r1 [] H=some (r,u,H')) {cargs:Array Value}
  (hts:VL w ιs ts cargs.toList) (hms:MR w ιs noL .nil 0 Hs w) (hfs:Fresh ιs Hs H1) (hm:MR w0 ι noL .nil 0 H w) (hf:Fresh ι H H') :
  Calls P g cargs w fun e w'=>∃ cr ι',e=.returned cr∧V w0 ι' r cr∧MR w0 ι' noL .nil 0 H' w'∧FP False ι noL .nil 0 H w ι' noL .nil 0 H' w':=by
 refine Calls.mono (hb ts Hs r1 H1 h2 w ιs w cargs hms hts hfs) ?_
 rintro e w' ⟨cr,ι1,rfl,hv1,hm1,hp1⟩
 have hm':MR w0 ι noL .nil 0 H w':=hm.grow hm1.size hm1.low hm1.os hm1.tape hm1.output
 have hui:UI w.heap.size ι1 [] ι:=fun b p hb hB=>by have:=(hm.pl b p hb).2;omega
 obtain⟨ι',k1,k2,k3⟩:=lift_sim hm1 hm.size deep r1 [] H r u H' ι cr h3 hv1 hm' hf hui
 obtain⟨g1,g2⟩:=lift_G H1 deep _ _ _ _ _ _ h3 hm.wh
 refine⟨cr,ι',rfl,k3,k2, ?_⟩
 exact {
  ext:=k1.ext
  kept:=fun b x hb hn=>absurd (k1.keep b x hb) hn
  new:=k1.new
  all:=k1.all
  blk:=fun b p hb=>by
   rcases k1.blk b p hb with g|⟨g3,g4,b1,p1,_,_,g5,g6⟩
   ·exact .inl g
   ·exact .inr ⟨g3,g4,.inr (by rw[← g6];exact (hm1.pl b1 p1 g5).1)⟩
  frame:=fun c hc _ _=>hm1.low c hc
  size:=hm1.size
  next:=g1.next
  lo:=by rw[g2];exact Nat.le_refl _
  old:=g1.old
  lext:=fun _ _ h=>h
  lnew:=fun st h k=>absurd h k
  lall:=fun st h1 h2=>by omega
  lblk:=fun st c h=>.inl h
  lnle:=Nat.le_refl _
  lold:=fun _ _ _=>rfl }

theorem pure_sim {g:FuncId} {body:List AV→AH→Option (AV × AH)} (hb:CallSim P g body):CallSim P g (pureC body):=by
 intro args H r H' h w0 ι w cargs hm hv hf
 obtain⟨ts,r1,H1,u,h1,h2,h3⟩:=pureC_spec h
 exact pure_from hb h2 h3 (mapO_V (fun v t c a b=>freeze_V hm deep v t c a b) h1 hv) (MR.empty w) (fun b _ _=>rfl) hm hf

def oneI:Io:=fun b=>if b=0 then some none else none

theorem MR.one (w:World):MR w oneI noL .nil 0 { objs:=.nil,next:=1,lo:=0 } w where
 size:=Nat.le_refl _
 low:=fun _ _=>rfl
 os:=rfl
 tape:=rfl
 output:=rfl
 pl:=fun b p h=>by unfold oneI at h;split at h<;>cases h
 inj:=fun b b' p p' h=>by unfold oneI at h;split at h<;>cases h
 obj:=fun b p _ h=>by unfold oneI at h;split at h<;>cases h
 lpl:=fun st c h=>by cases h
 linj:=fun st st' c h=>by cases h
 lobj:=fun st c h=>by omega
 lo:=Nat.zero_le _
 top:=fun b _=>by unfold AH.get;rw[Tr.get_nil];rfl
 ltop:=fun st _=>Tr.get_nil st
 alive:=fun b _ _=>by unfold AH.get;rw[Tr.get_nil];rfl

theorem both_sim {g:FuncId} {body:List AV→AH→Option (AV × AH)} (hb:CallSim P g body):CallSim P g (bothC body):=by
 intro args H r H' h w0 ι w cargs hm hv hf
 rcases bothC_spec h with ⟨z,r1,H1,r2,H2,u1,h1,u2,h2,e0,e1,e2,e3,e4,rfl,rfl⟩|h
 ·have hts:VL w noI [.vs [] z] cargs.toList:=mapO_V (fun v t c a b=>freeze_V hm deep v t c a b) e0 hv
  have hH:∀ {H1 r1 u H2},lift H1 deep r1 [] H'=some (.vs [] true,u,H2)→H2=H':=by
   intro H1 r1 u H2 h
   unfold deep at h
   unfold lift at h
   split at h<;>(try cases h)<;>(try rfl)
   ·split at h
    ·simp only[Option.some.injEq,Prod.mk.injEq] at h;exact h.2.2.symm
    ·split at h
     ·cases h
     ·split at h
      ·split at h<;>cases h
      ·cases h
   ·split at h
    ·cases h
    ·split at h
     ·split at h<;>cases h
     ·cases h
   ·split at h<;>cases h
   ·split at h<;>cases h
  obtain⟨c,cs,hc,hvc,hnil⟩:=hts.inv_cons
  have:=hnil.inv_nil
  subst this
  cases hvc with
  | vs0=>
   have:=hH e3
   subst this
   exact pure_from hb e1 e3 (ιs:=noI) (by rw[hc];exact VL.cons .nils VL.nil) (MR.empty w) (fun b _ _=>rfl) hm hf
  | vs _ _ a cap sz cf hsp hl hcc hvv h1' hz hcap=>
   have:=hH e4
   subst this
   refine pure_from hb e2 e4 (ιs:=oneI) ?_ (MR.one w) (fun b hb _=>?_) hm hf
   ·rw[hc]
    refine VL.cons ?_ VL.nil
    obtain⟨g,off,sp⟩:=a
    exact .sl 0 0 1 0 0 false g off cap sp none rfl (Nat.le_refl _) ⟨Nat.zero_le _,hcap.2⟩ (fun e=>by cases e) (fun p hp=>by cases hp) (.inr ⟨rfl,rfl⟩)
   ·unfold oneI;rw[if_neg (by have:1≤b:=hb;omega)]
 ·exact pure_sim hb args H r H' h w0 ι w cargs hm hv hf

theorem pureB_sim {o:Bool} {g:FuncId} {body:List AV→AH→Option (AV × AH)} (hb:CallSim P g body):CallSim P g (pureB o body):=by
 intro args H r H' h
 unfold pureB at h
 split at h
 ·exact both_sim hb args H r H' h
 ·exact pure_sim hb args H r H' h

end
end Go.Ab

namespace Go.Ab
open Go.RowKit

section
variable {P:Program} {C:CallF} {nt:Nat}
variable {w0:World} {ι:Io} {lam:Lo} {w:World} {H:AH}

def exitOf:Out→Exit
 | .normal=>.normal
 | .exit id=>.exit id
 | .ret=>.ret

theorem Post.trans {df:List Deferred} {e e1 e2:Env} {H H1 H2:AH} {a1 a2:Act} {w1 w2:World} {ι1:Io} {lam1:Lo} (hf:Fresh ι H H2) (hlf:LFresh lam e.ln e2.ln)
  (hp1:FP True ι lam e.L e.ln H w ι1 lam1 e1.L e1.ln H1 w1) (hd:a1.defers=df) (k:Post w0 nt a1.defers ι1 lam1 e1 H1 w1 e2 H2 a2 w2):Post w0 nt df ι lam e H w e2 H2 a2 w2:=by
 obtain⟨ι2,lam2,s2,n2,d2,p2⟩:=k
 exact⟨ι2,lam2,s2,n2,by rw[d2,hd],hp1.trans hf hlf p2⟩

def CodeSim (P:Program) (w0:World) (nt:Nat) (c:Code) (run:Runs):Prop:=
 ∀ (Q:Exit→Act→World→Prop) (ι:Io) (lam:Lo) (e:Env) (H:AH) (a:Act) (w:World) (o:Out) (e':Env) (H':AH),run e H=some (o,e',H')→SR w0 ι lam e H a.tmps w→a.tmps.size=nt→Fresh ι H H'→LFresh lam e.ln e'.ln →
  (∀ a' w',Post w0 nt a.defers ι lam e H w e' H' a' w'→Q (exitOf o) a' w')→c.wp P Q a w

theorem wp_code (hC:SimC P C) (hmix:P.follows .mixedOrders=true) {loc:List Nat} (n:Nat):∀ (c:Code) (mc:MCode),cCode P nt loc c=some mc→CodeSim P w0 nt c (runCode C n mc):=by
 intro c
 induction c with
 | skip=>
  intro mc hc Q ι lam e H a w o e' H' he h hn hf hlf hQ
  simp only[cCode] at hc;cases hc
  simp only[runCode] at he;cases he
  exact wp_skip (hQ a w ⟨ι,lam,h,hn,rfl,FP.refl _ _ _ _ _ _⟩)
 | region id ops draw=>
  intro mc hc Q ι lam e H a w o e' H' he h hn hf hlf hQ
  simp only[cCode] at hc
  cases draw with
  | true=>
   simp only[if_true] at hc
   obtain⟨h1,h2⟩:=wp_draw (id:=id) (Q:=Q) (w0:=w0) hC hmix hc he h hn hf hlf (fun a' w' hp=>by
    have:=(show o=.normal from ?_);· subst this;exact hQ a' w' hp
    unfold cDraw at hc
    simp only[] at hc
    split at hc
    ·split at hc
     ·split at hc
      ·split at hc<;>cases hc<;>simp only[runCode] at he<;>split at he<;>cases he<;>rfl
      ·cases hc
     ·cases hc
    ·cases hc)
   exact h2
  | false=>
   simp only[Bool.false_eq_true,if_false] at hc
   obtain⟨ms,hms,h0⟩:=map_some hc
   subst h0
   simp only[runCode] at he
   split at he
   ·rename_i e1 H1 h1
    cases he
    refine wp_region ?_
    have hlen:ms.length=ops.size:=by rw[mapO_length hms];simp
    rw[List.range_eq_range',← hlen]
    refine wp_run (w0:=w0) hC ms 0 (by omega) (fun i o' hi=>?_) ι lam e _ H _ a w h1 h hn hf hlf hQ
    have hil:=(List.getElem?_eq_some_iff.1 hi).1
    obtain⟨o,ho⟩:∃ o,ops[i]? = some o:=⟨_,Array.getElem?_eq_getElem (by omega)⟩
    obtain⟨y,hy1,hy2⟩:=mapO_get hms i o (by rw[Array.getElem?_toList,ho])
    rw[hi] at hy1;cases hy1
    exact⟨o,false,by rw[Nat.zero_add];exact ho,cOper_spec hy2⟩
   ·cases he
 | seq x y ihx ihy=>
  intro mc hc Q ι lam e H a w o e' H' he h hn hf hlf hQ
  simp only[cCode] at hc
  split at hc
  ·rename_i mx my hx hy
   cases hc
   simp only[runCode] at he
   cases h1:runCode C n mx e H with
   | none=>rw[h1] at he;cases he
   | some r=>
    obtain⟨o1,e1,H1⟩:=r
    obtain⟨g1,g2⟩:=runCode_G hC.grow n mx _ _ _ _ _ h1 h.wh h.lt
    refine wp_seq ?_
    rw[h1] at he
    cases o1 with
    | normal=>
     simp only[] at he
     obtain⟨g3,g4⟩:=runCode_G hC.grow n my _ _ _ _ _ he g1.wh g2.top
     refine ihx mx hx _ ι lam e H a w .normal e1 H1 h1 h hn (hf.left g3.next) (hlf.left g4.ln) fun a1 w1 hp=>?_
     obtain⟨ι1,lam1,s1,n1,d1,p1⟩:=hp
     exact ihy my hy Q ι1 lam1 e1 H1 a1 w1 o e' H' he s1 n1 (hf.right p1) (hlf.right p1) fun a2 w2 hp2=>hQ a2 w2 (Post.trans hf hlf p1 d1 hp2)
    | exit id=>
     simp only[] at he;cases he
     exact ihx mx hx _ ι lam e H a w _ _ _ h1 h hn hf hlf fun a1 w1 hp=>hQ a1 w1 hp
    | ret=>
     simp only[] at he;cases he
     exact ihx mx hx _ ι lam e H a w _ _ _ h1 h hn hf hlf fun a1 w1 hp=>hQ a1 w1 hp
  ·cases hc
 | cond c x y ihx ihy=>
  intro mc hc Q ι lam e H a w o e' H' he h hn hf hlf hQ
  simp only[cCode] at hc
  split at hc
  ·rename_i c' mx my h0 hx hy
   cases hc
   simp only[runCode] at he
   have hv:=h.opd h0
   split at he
   ·rename_i hb
    rw[hb] at hv
    exact wp_cond_true hv.inv_bool (ihx mx hx Q ι lam e H a w o e' H' he h hn hf hlf hQ)
   ·rename_i hb
    rw[hb] at hv
    exact wp_cond_false hv.inv_bool (ihy my hy Q ι lam e H a w o e' H' he h hn hf hlf hQ)
   ·cases he
  ·cases hc
 | block id x ih=>
  intro mc hc Q ι lam e H a w o e' H' he h hn hf hlf hQ
  simp only[cCode] at hc
  obtain⟨mx,hx,h0⟩:=map_some hc
  subst h0
  simp only[runCode] at he
  refine wp_block ?_
  cases h1:runCode C n mx e H with
  | none=>rw[h1] at he;cases he
  | some r=>
   obtain⟨o1,e1,H1⟩:=r
   rw[h1] at he
   cases o1 with
   | normal=>simp only[] at he;cases he;exact ih mx hx _ ι lam e H a w _ _ _ h1 h hn hf hlf fun a1 w1 hp=>hQ a1 w1 hp
   | ret=>simp only[] at he;cases he;exact ih mx hx _ ι lam e H a w _ _ _ h1 h hn hf hlf fun a1 w1 hp=>hQ a1 w1 hp
   | exit id'=>
    simp only[] at he;cases he
    refine ih mx hx _ ι lam e H a w _ _ _ h1 h hn hf hlf fun a1 w1 hp=>?_
    have:=hQ a1 w1 hp
    show Exit.inBlock id Q (.exit id') a1 w1
    unfold Exit.inBlock
    by_cases hid:id'=id
    ·rw[if_pos hid] at this;simp only[hid,if_true];exact this
    ·rw[if_neg hid] at this;simp only[hid,if_false];exact this
 | loop x ih=>
  intro mc hc Q ι lam e H a w o e' H' he h hn hf hlf hQ
  simp only[cCode] at hc
  obtain⟨mx,hx,h0⟩:=map_some hc
  subst h0
  simp only[runCode] at he
  refine wp_loop_rounds n ?_
  have key:∀ k,CodeSim P w0 nt (.loop x) (iter (runCode C n mx) k)∨True:=fun _=>.inr trivial
  have rounds:∀ (k:Nat) (ι:Io) (lam:Lo) (e:Env) (H:AH) (a:Act) (w:World),iter (runCode C n mx) k e H=some (o,e',H')→SR w0 ι lam e H a.tmps w→a.tmps.size=nt→Fresh ι H H'→LFresh lam e.ln e'.ln →
    (∀ a' w',Post w0 nt a.defers ι lam e H w e' H' a' w'→Q (exitOf o) a' w')→Code.rounds P x Q k a w:=by
   intro k
   induction k with
   | zero=>intro ι lam e H a w he;simp[iter] at he
   | succ k ihk=>
    intro ι lam e H a w he h hn hf hlf hQ
    rw[rounds_succ]
    simp only[iter] at he
    cases h1:runCode C n mx e H with
    | none=>rw[h1] at he;cases he
    | some r=>
     obtain⟨o1,e1,H1⟩:=r
     obtain⟨g1,g2⟩:=runCode_G hC.grow n mx _ _ _ _ _ h1 h.wh h.lt
     rw[h1] at he
     cases o1 with
     | normal=>
      simp only[] at he
      obtain⟨g3,g4⟩:=iter_G (runCode_G hC.grow n mx) k _ _ _ _ _ he g1.wh g2.top
      refine ih mx hx _ ι lam e H a w .normal e1 H1 h1 h hn (hf.left g3.next) (hlf.left g4.ln) fun a1 w1 hp=>?_
      obtain⟨ι1,lam1,s1,n1,d1,p1⟩:=hp
      exact ihk ι1 lam1 e1 H1 a1 w1 he s1 n1 (hf.right p1) (hlf.right p1) fun a2 w2 hp2=>hQ a2 w2 (Post.trans hf hlf p1 d1 hp2)
     | exit id=>simp only[] at he;cases he;exact ih mx hx _ ι lam e H a w _ _ _ h1 h hn hf hlf fun a1 w1 hp=>hQ a1 w1 hp
     | ret=>simp only[] at he;cases he;exact ih mx hx _ ι lam e H a w _ _ _ h1 h hn hf hlf fun a1 w1 hp=>hQ a1 w1 hp
  exact rounds n ι lam e H a w he h hn hf hlf hQ
 | exit id=>
  intro mc hc Q ι lam e H a w o e' H' he h hn hf hlf hQ
  simp only[cCode] at hc;cases hc
  simp only[runCode] at he;cases he
  exact wp_exit (hQ a w ⟨ι,lam,h,hn,rfl,FP.refl _ _ _ _ _ _⟩)
 | ret=>
  intro mc hc Q ι lam e H a w o e' H' he h hn hf hlf hQ
  simp only[cCode] at hc;cases hc
  simp only[runCode] at he;cases he
  exact wp_ret (hQ a w ⟨ι,lam,h,hn,rfl,FP.refl _ _ _ _ _ _⟩)
 | _=>
  intro mc hc
  simp only[cCode] at hc
  cases hc

theorem run_loadVar1 {t:TypeId} {d:TypeDesc} {g off:Nat} {c:Value} (hu:P.underlying t=some d) (hd:aggD d=false) (hc:w.cell? ⟨g,off,none⟩=some c) :
  (loadVar t ⟨g,off,none⟩).run P w=.ok c w:=by
 have:(isAgg t).run P w=.ok false w:=by
  simp only[isAgg,Sem.run_bind,run_underlying hu,Result.andThen_ok]
  cases d<;>simp_all [aggD]
 simp only[loadVar,Sem.run_bind,this,Result.andThen_ok]
 simp[run_load,hc]

theorem run_loadVarN {t:TypeId} {d:TypeDesc} {i:TypeInfo} {g off:Nat} {cl:List Value} (hu:P.underlying t=some d) (hd:aggD d=true) (hi:P.info? t=some i) (hl:cl.length=i.size)
  (hc:∀ (j:Nat) c,cl[j]? = some c→w.cell? ⟨g,off+j,none⟩=some c):(loadVar t ⟨g,off,none⟩).run P w=.ok (.agg cl.toArray) w:=by
 have:(isAgg t).run P w=.ok true w:=by
  simp only[isAgg,Sem.run_bind,run_underlying hu,Result.andThen_ok]
  cases d<;>simp_all [aggD]
 have hr:=run_loadCells_list (P:=P) w ⟨g,off,none⟩ cl (fun j c hj=>by rw[Addr.add_lit];exact hc j c hj)
 rw[hl] at hr
 simp only[loadVar,Sem.run_bind,this,Result.andThen_ok]
 simp[run_sizeOf' hi,hr]

theorem run_res {e:Env} {tmps:Array Value} (h:SR w0 ι lam e H tmps w) {r:ResultVar} {m:MRes} (hc:cRes P r=some m) {v:AV} (hv:resOf e H m=some v) :
  ∃ c,((match r with|.tmp t=>pure (tmps.getD t undef)|.cell a t=>do loadVar t (← asAddr (tmps.getD a undef)):Sem Value)).run P w=.ok c w∧V w0 ι v c:=by
 cases r with
 | tmp t=>
  simp only[cRes] at hc;cases hc
  obtain⟨h1,h2⟩:=val_spec hv
  refine⟨_,rfl, ?_⟩
  have h3:=h.slots t
  have h4:e.get t=v:=h1
  rw[h4] at h3
  exact h3.V h2
 | cell a t=>
  simp only[cRes] at hc
  have hrd:∀ n cs,readAt e H (e.get a) n=some cs→∃ g o cl,tmps.getD a undef=.pointer (some ⟨g,o,none⟩)∧VC w0 ι cs cl∧cs.length=n∧∀ (j:Nat) x,cl[j]? = some x→w.cell? ⟨g,o+j,none⟩=some x:=
   fun n cs hr=>h.mem.read (h.slots a) hr
  have hagg:∀ n d,sOf P t=some n→P.underlying t=some d→aggD d=true→m=.cn a n→∃ c,((do loadVar t (← asAddr (tmps.getD a undef)):Sem Value)).run P w=.ok c w∧V w0 ι v c:=by
   intro n d hs hu hd hm
   subst hm
   simp only[resOf] at hv
   obtain⟨cs,h1,h2⟩:=map_some hv
   subst h2
   obtain⟨g,o,cl,e1,e2,e3,e4⟩:=hrd n cs h1
   obtain⟨i,hi,hsz⟩:=sOf_spec hs
   refine⟨.agg cl.toArray, ?_,e2.agg⟩
   simp only[Sem.run_bind,e1,asAddr,Sem.run_pure,Result.andThen_ok]
   exact run_loadVarN hu hd hi (by rw[← e2.1.1,e3,hsz]) e4
  split at hc
  ·rename_i fs n hu hs
   cases hc;exact hagg n _ hs hu rfl rfl
  ·rename_i k el n hu hs
   cases hc;exact hagg n _ hs hu rfl rfl
  ·rename_i d n h1 h2 hu hs
   cases hc
   simp only[resOf] at hv
   split at hv
   ·rename_i v1 hr
    cases hv
    obtain⟨g,o,cl,e1,e2,e3,e4⟩:=hrd 1 _ hr
    obtain⟨c,cs',rfl,hvc,_⟩:=e2.1.inv_cons
    refine⟨c, ?_,hvc⟩
    simp only[Sem.run_bind,e1,asAddr,Sem.run_pure,Result.andThen_ok]
    exact run_loadVar1 hu (by cases d<;>simp_all [aggD]) (by simpa using e4 0 c rfl)
   ·cases hv
  ·cases hc

theorem run_mapM_list {α:Type} {f:α→Sem Value}:∀ {l:List α} {cs:List Value},l.length=cs.length→(∀ (i:Nat) x c,l[i]? = some x→cs[i]? = some c→(f x).run P w=.ok c w)→(l.mapM f).run P w=.ok cs w
 | [],[],_,_=>by simp
 | x::l,c::cs,hl,h=>by
  rw[List.mapM_cons]
  simp only[Sem.run_bind,h 0 x c rfl rfl,Result.andThen_ok]
  rw[run_mapM_list (cs:=cs) (by simpa using hl) fun i y d h1 h2=>h (i+1) y d (by simpa using h1) (by simpa using h2)]
  simp
 | [],c::cs,hl,_=>by simp at hl
 | x::l,[],hl,_=>by simp at hl

theorem run_mapM_array {α:Type} {f:α→Sem Value} {xs:Array α} {cs:List Value} (hl:xs.size=cs.length) (h:∀ (i:Nat) x c,xs[i]? = some x→cs[i]? = some c→(f x).run P w=.ok c w):(xs.mapM f).run P w=.ok cs.toArray w:=by
 rw[Array.mapM_eq_mapM_toList]
 have:=run_mapM_list (P:=P) (w:=w) (f:=f) (l:=xs.toList) (cs:=cs) (by simpa using hl) fun i x c h1 h2=>h i x c (by simpa using h1) h2
 simp only[map_eq_pure_bind,Sem.run_bind,this,Result.andThen_ok,Sem.run_pure]

theorem run_results {e:Env} {tmps:Array Value} (h:SR w0 ι lam e H tmps w) {fn:Func} {rs:List MRes} (hc:mapO (cRes P) fn.results.toList=some rs) {v:AV} (hv:resultsOf e H rs=some v) :
  ∃ c,(results fn tmps).run P w=.ok c w∧V w0 ι v c:=by
 have key:∃ vs,mapO (resOf e H) rs=some vs∧((∃ u,vs=[u]∧v=u)∨((∀ u,vs≠[u])∧v=.tup vs)):=by
  unfold resultsOf at hv
  rw[mapM_val] at hv
  split at hv
  ·rename_i u h1;cases hv;exact⟨_,h1,.inl ⟨_,rfl,rfl⟩⟩
  ·rename_i vs h0 h1;cases hv;exact⟨_,h1,.inr ⟨fun u e=>by subst e;exact h0 u rfl,rfl⟩⟩
  ·cases hv
 obtain⟨vs,h1,h2⟩:=key
 have hl1:=mapO_length hc
 have hl2:=mapO_length h1
 have hex:∀ l:List ResultVar,∀ rs vs,mapO (cRes P) l=some rs→mapO (resOf e H) rs=some vs→∃ cs:List Value,VL w0 ι vs cs∧cs.length=l.length∧∀ (i:Nat) x c,l[i]? = some x→cs[i]? = some c →
   ((match x with|.tmp t=>pure (tmps.getD t undef)|.cell a t=>do loadVar t (← asAddr (tmps.getD a undef)):Sem Value)).run P w=.ok c w:=by
  intro l
  induction l with
  | nil=>
   intro rs vs h1 h2
   simp only[mapO] at h1;cases h1
   simp only[mapO] at h2;cases h2
   exact⟨[],VL.nil,rfl,fun i x c h=>by simp at h⟩
  | cons r l ih=>
   intro rs vs h1 h2
   simp only[mapO] at h1
   split at h1
   ·rename_i m ms e1 e2
    cases h1
    simp only[mapO] at h2
    split at h2
    ·rename_i u us e3 e4
     cases h2
     obtain⟨c,k1,k2⟩:=run_res h e1 e3
     obtain⟨cs,k3,k4,k5⟩:=ih ms us e2 e4
     refine⟨c::cs,VL.cons k2 k3,by simp[k4],fun i x d h1 h2=>?_⟩
     cases i with
     | zero=>simp only[List.getElem?_cons_zero,Option.some.injEq] at h1 h2;subst h1;subst h2;exact k1
     | succ i=>exact k5 i x d (by simpa using h1) (by simpa using h2)
    ·cases h2
   ·cases h1
 obtain⟨cs,k1,k2,k3⟩:=hex _ rs vs hc h1
 have hrun:=run_mapM_array (P:=P) (w:=w) (f:=fun x:ResultVar=>(match x with|.tmp t=>pure (tmps.getD t undef)|.cell a t=>do loadVar t (← asAddr (tmps.getD a undef)):Sem Value)) (xs:=fn.results) (cs:=cs) (by simpa using k2.symm) fun i x c a1 a2=>k3 i x c (by simpa using a1) a2
 have hres:∀ d:Value,d=(if h:cs.toArray.size=1 then cs.toArray[0] else .tuple cs.toArray)→(results fn tmps).run P w=.ok d w:=by
  intro d hd
  have e0:results fn tmps=(do let vs ← fn.results.mapM (fun x:ResultVar=>(match x with|.tmp t=>pure (tmps.getD t undef)|.cell a t=>do loadVar t (← asAddr (tmps.getD a undef)):Sem Value));pure (if h:vs.size=1 then vs[0] else .tuple vs)):=rfl
  rw[e0]
  simp only[Sem.run_bind,hrun,Result.andThen_ok,Sem.run_pure,hd]
 rcases h2 with ⟨u,rfl,rfl⟩|⟨hne,rfl⟩
 ·obtain⟨c,cs',rfl,hvc,hnil⟩:=k1.inv_cons
  have:=hnil.inv_nil
  subst this
  exact⟨c,hres c (by simp),hvc⟩
 ·refine⟨.tuple cs.toArray,hres _ ?_,k1.tupl⟩
  rw[dif_neg]
  simp only[List.size_toArray]
  intro h3
  have h4:=k1.1
  rw[h3] at h4
  obtain⟨u,hu⟩:=List.length_eq_one_iff.1 h4
  exact hne u hu

theorem initEnv_get:∀ (args:List AV) (i t:Nat),((initEnv args i).get t).getD (.tup [])=if i≤t then (args[t - i]?).getD (.tup []) else .tup []
 | [],i,t=>by simp[initEnv,Tr.get_nil]
 | v::rest,i,t=>by
  simp only[initEnv,Tr.get_set]
  by_cases h:i=t
  ·subst h;simp
  ·rw[if_neg h,initEnv_get rest (i+1) t]
   by_cases hle:i≤t
   ·rw[if_pos (by omega),if_pos hle]
    have:t - i=(t - (i+1))+1:=by omega
    rw[this,List.getElem?_cons_succ]
   ·rw[if_neg (by omega),if_neg hle]

theorem eval_sim {M:FuncId→Option MFunc} (hM:Faithful P M):∀ n,SimC P (eval M n)
 | 0=>⟨fun g args H r h=>by simp[eval] at h,fun g args H r H' h=>by simp[eval] at h,eval_G M 0⟩
 | n+1=>by
  have ih:=eval_sim hM n
  have hget : ∀ (g : FuncId) (F : MFunc), (∃ fn loc, P.funcs[g]? = some fn ∧ compile P loc fn = some { F with pure := false, both := false }) → ∃ fn c rs loc m, P.funcs[g]? = some fn ∧ fn.body = some c ∧ mapO (cRes P) fn.results.toList = some rs ∧ cCode P fn.ntmps loc c = some m ∧ fn.params.size + fn.nfree ≤ fn.ntmps ∧ (fn.name == "runtime.NumGoroutine") = false ∧
    F.nargs=fn.params.size+fn.nfree∧F.res=rs∧F.body=m:=by
   intro g F hF
   obtain⟨fn,loc,h1,h2⟩:=hF
   unfold compile at h2
   split at h2
   ·rename_i c rs hb hr
    split at h2
    ·rename_i m hm
     split at h2
     ·rename_i hle
      simp only[Option.some.injEq,MFunc.mk.injEq] at h2
      exact⟨fn,c,rs,loc,m,h1,hb,hr,hm,hle.1,hle.2,h2.1.symm,h2.2.1.symm,h2.2.2.1.symm⟩
     ·cases h2
    ·cases h2
   ·cases h2
  have body:∀ g F,M g=some F→CallSim P g (evalF (eval M n) n F):=by
   intro g F hF
   rcases hM.2 g F hF with hF|hF
   case inr=>exact hF.2 _ _
   intro args H r H' h w0 ι w cargs hm hv hf
   obtain⟨fn,c,rs,loc,m,h1,h2,h3,h4,h5,_,e1,e2,e3⟩:=hget g F hF
   obtain⟨k1,k2,o,e,k3,k4,k5⟩:=evalF_spec h
   rw[e1] at k1
   rw[e3] at k3
   rw[e2] at k5
   have hsz:cargs.size=fn.params.size+fn.nfree:=by have:=hv.1;simp only[Array.length_toList] at this;omega
   refine calls_of_wp h1 h2 ?_
   have hS:SR w0 ι noL { m:=initEnv args 0,L:=.nil,ln:=0 } H (cargs++Array.replicate (fn.ntmps - cargs.size) undef) w:=by
    refine⟨hm,fun t=>?_⟩
    unfold Env.get
    simp only[initEnv_get args 0 t,Nat.zero_le,if_true,Nat.sub_zero]
    cases hat:args[t]? with
    | none=>
     have:args.length≤t:=List.getElem?_eq_none_iff.1 hat
     have hle:cargs.size≤t:=by omega
     have e1:(cargs++Array.replicate (fn.ntmps - cargs.size) undef).getD t undef=undef:=by
      simp only[Array.getD_eq_getD_getElem?,Array.getElem?_append_right hle]
      by_cases hlt:t - cargs.size<fn.ntmps - cargs.size
      ·rw[Array.getElem?_replicate,if_pos hlt];rfl
      ·rw[Array.getElem?_replicate,if_neg hlt];rfl
     rw[e1];exact VE.undef
    | some u=>
     obtain⟨cu,hcu,hvu⟩:=hv.get? hat
     rw[Array.getElem?_toList] at hcu
     have hlt:t<cargs.size:=(Array.getElem?_eq_some_iff.1 hcu).1
     have e1:(cargs++Array.replicate (fn.ntmps - cargs.size) undef).getD t undef=cu:=by
      simp only[Array.getD_eq_getD_getElem?,Array.getElem?_append_left hlt,hcu,Option.getD_some]
     rw[e1];exact VE.of_V hvu
   refine wp_code (w0:=w0) ih hM.1 n c m h4 _ ι noL _ H { tmps:=cargs++Array.replicate (fn.ntmps - cargs.size) undef,defers:=[] } w o e H' k3 hS (by simp;omega) hf (fun st _ _=>rfl) fun a' w' hp=>?_
   obtain⟨ι',lam',s1,n1,d1,p1⟩:=hp
   obtain⟨cr,hr,hvr⟩:=run_results s1 h3 k5
   have hR:∃ cr' ι'',Ending.returned cr=.returned cr'∧V w0 ι'' r cr'∧MR w0 ι'' noL .nil 0 H' w'∧FP False ι noL .nil 0 H w ι'' noL .nil 0 H' w':=by
    refine⟨cr,ι',rfl,hvr,s1.mem.bare, ?_⟩
    exact { p1 with
     frame:=fun cc hc hS hb=>p1.frame cc hc (fun _ st hst=>absurd hst (Nat.not_lt_zero _)) hb
     lext:=fun _ _ h=>h,lnew:=fun st h k=>absurd h k,lall:=fun st h1 h2=>by omega,lblk:=fun st c h=>.inl h,lnle:=Nat.le_refl _,lold:=fun _ _ _=>rfl }
   rcases k4 with rfl|rfl
   ·exact⟨d1,cr,hr,hR⟩
   ·exact⟨d1,cr,hr,hR⟩
  refine⟨fun g args H r h=>?_,fun g args H r H' h=>?_,eval_G M (n+1)⟩
  ·simp only[eval] at h
   split at h
   ·rename_i F hF
    rcases hM.2 g F hF with hF|hF
    ·obtain⟨fn,c,rs,loc,m,h1,h2,_,_,_,h3,_⟩:=hget g F hF
     exact⟨fn,h1,h3,by rw[h2];rfl⟩
    ·exact hF.1
   ·cases h
  ·simp only[eval] at h
   split at h
   ·rename_i F hF
    split at h
    ·exact pureB_sim (body g F hF) args H r H' h
    ·exact body g F hF args H r H' h
   ·cases h

end
end Go.Ab

namespace Go.Ab
open Go.RowKit

def Dec (P:Program) (w:World) (t:TypeId) {α:Type} (enc:α→List AV) (ok:α→Prop):Prop:=
 ∀ {H:Type} (en:TypeId × Value→H) (fuel:Nat) (cs:List Value) (x:DataW H × List MemPlace),DataW.trod en P w 0 (fun _=>true) true fuel t cs=some x→∃ a:α,ok a∧VC w noI (enc a) cs

section
variable {P:Program} {w:World}

theorem VC.one {w0:World} {ι:Io} {v:AV} {c:Value} (h:V w0 ι v c) (h1:c.oneCell'=true):VC w0 ι [v] [c]:=⟨VL.cons h VL.nil,by simpa using h1⟩

theorem Dec.int {t:TypeId} {k:IntKind} (ht:P.underlying t=some (.int k)):Dec P w t (fun n:Int=>[.int k n]) (fun n=>(Lit.int k n).wf=true):=by
 intro H en fuel cs x h
 cases fuel with
 | zero=>simp[DataW.trod] at h
 | succ fuel=>
  unfold DataW.trod at h
  rw[ht] at h
  split at h
  all_goals first
   | (rename_i e;cases e;done)
   | (rename_i e _;cases e;done)
   | skip
  ·rename_i k' k0 n e
   cases e
   split at h
   ·rename_i hh
    obtain⟨rfl,hw⟩:=hh
    exact⟨n,hw,VC.one (.int _ _) rfl⟩
   ·cases h
  all_goals cases h

theorem Dec.bool {t:TypeId} (ht:P.underlying t=some .bool):Dec P w t (fun b:Bool=>[.bool b]) (fun _=>True):=by
 intro H en fuel cs x h
 cases fuel with
 | zero=>simp[DataW.trod] at h
 | succ fuel=>
  unfold DataW.trod at h
  rw[ht] at h
  split at h
  all_goals first
   | (rename_i e;cases e;done)
   | (rename_i e _;cases e;done)
   | skip
  ·exact⟨_,trivial,VC.one (.bool _) rfl⟩
  all_goals cases h

theorem cells?_get {a:Addr} {n:Nat} {cs:List Value} (h:w.cells? 0 a n=some cs):cs.length=n∧∀ (i:Nat) x,cs[i]? = some x→w.cell? (a.add i)=some x:=by
 unfold World.cells? at h
 rw[if_pos (Nat.zero_le _),mapM_val] at h
 have hl:=mapO_length h
 simp only[List.length_range] at hl
 refine⟨hl,fun i x hi=>?_⟩
 have hlt:i<n:=by rw[← hl];exact (List.getElem?_eq_some_iff.1 hi).1
 obtain⟨y,h1,h2⟩:=mapO_get h i i (List.getElem?_range hlt)
 rw[hi] at h1;cases h1;exact h2

theorem build_lists {α β:Type} {R:Nat→α→β→Prop}:∀ n,(∀ i,i<n→∃ a b,R i a b)→∃ (l:List α) (m:List β),l.length=n∧m.length=n∧∀ (i:Nat) a b,l[i]? = some a→m[i]? = some b→R i a b
 | 0,_=>⟨[],[],rfl,rfl,fun i a b h=>by simp at h⟩
 | n+1,h=>by
  obtain⟨l,m,h1,h2,h3⟩:=build_lists n fun i hi=>h i (by omega)
  obtain⟨a,b,h4⟩:=h n (by omega)
  refine⟨l++[a],m++[b],by simp[h1],by simp[h2],fun i a' b' ha hb=>?_⟩
  rcases Nat.lt_trichotomy i n with g|g|g
  ·rw[List.getElem?_append_left (by omega)] at ha hb
   exact h3 i a' b' ha hb
  ·subst g
   rw[List.getElem?_append_right (by omega),h1] at ha
   rw[List.getElem?_append_right (by omega),h2] at hb
   simp at ha hb
   subst ha;subst hb;exact h4
  ·rw[List.getElem?_eq_none (by simp;omega)] at ha;cases ha

theorem Dec.slice {t e:TypeId} {α:Type} {enc:α→List AV} {ok:α→Prop} {sz:Nat} (ht:P.underlying t=some (.slice e)) (hsz:P.cellsOf e=sz) (hpos:0<sz) (hd:Dec P w e enc ok) :
  Dec P w t (fun l:List α=>[.vs (l.map enc) false]) (fun l=>(∀ a∈l,ok a)∧l.length≤maxLen):=by
 intro H en fuel cs x h
 cases fuel with
 | zero=>simp[DataW.trod] at h
 | succ fuel=>
  unfold DataW.trod at h
  rw[ht] at h
  split at h
  all_goals first
   | (rename_i e;cases e;done)
   | (rename_i e _;cases e;done)
   | skip
  ·exact⟨[],⟨by simp,Nat.zero_le _⟩,VC.one (.vs0 _) rfl⟩
  ·rename_i e' a len cap hu
   cases hu
   simp only[hsz] at h
   split at h
   ·rename_i hc
    cases hm:(List.range len).mapM (fun i=>(w.cells? 0 (a.add (i*sz)) sz).bind (DataW.trod en P w 0 (fun _=>true) true fuel e)) with
    | none=>rw[hm] at h;cases h
    | some elems=>
     clear h
     rw[mapM_val] at hm
     have key:∀ i,i<len→∃ (b:α) (ci:List Value),ok b∧VC w noI (enc b) ci∧ci.length=sz∧∀ (j:Nat) y,ci[j]? = some y→w.cell? ((a.add (i*sz)).add j)=some y:=by
      intro i hi
      obtain⟨y,h1,h2⟩:=mapO_get hm i i (List.getElem?_range hi)
      cases hci:w.cells? 0 (a.add (i*sz)) sz with
      | none=>rw[hci] at h2;cases h2
      | some ci=>
       rw[hci] at h2
       obtain⟨b,k1,k2⟩:=hd en fuel ci y h2
       obtain⟨k3,k4⟩:=cells?_get hci
       exact⟨b,ci,k1,k2,k3,k4⟩
     obtain⟨l,m,h1,h2,h3⟩:=build_lists len key
     have hR:∀ i (hi:i<l.length),ok l[i]∧VC w noI (enc l[i]) m[i]!∧(m[i]!).length=sz∧∀ (j:Nat) y,(m[i]!)[j]? = some y→w.cell? ((a.add (i*sz)).add j)=some y:=fun i hi=>by
      have e1:m[i]? = some m[i]!:=by rw[getElem!_pos m i (by omega)];exact List.getElem?_eq_getElem (by omega)
      exact h3 i l[i] m[i]! (List.getElem?_eq_getElem hi) e1
     have hbig:=hc.2.1
     have hmax:=hc.2.2
     refine⟨l,⟨fun b hb=>?_,by omega⟩,VC.one ?_ rfl⟩
     ·obtain⟨i,hi,rfl⟩:=List.getElem_of_mem hb
      exact (hR i hi).1
     ·have hcell:∀ i j,i<l.length→j<sz→w.cell? ((a.add (i*sz)).add j)=some ((m[i]!)[j]!):=fun i j hi hj=>by
       obtain⟨_,_,k3,k4⟩:=hR i hi
       exact k4 j _ (by rw[getElem!_pos _ j (by omega)];exact List.getElem?_eq_getElem (by omega))
      have hspot:l≠[]→a.spot=none:=fun hne=>by
       have hlpos:0<l.length:=List.length_pos_iff.2 hne
       have:=hcell 0 0 hlpos hpos
       cases hs:a.spot with
       | none=>rfl
       | some z=>
        have e2:((a.add (0*sz)).add 0).spot.isSome=true:=by simp[Addr.add,hs]
        unfold World.cell? at this
        split at this
        ·rw[if_pos e2] at this;cases this
        ·cases this
      have key2:=V.vs (w0:=w) (ι:=noI) (l.map enc) false a cap sz (fun i j=>(m[i]!)[j]!) (fun hne=>hspot (fun e=>hne (by rw[e];rfl)))
       (fun i hi=>by
        simp only[List.length_map] at hi
        rw[List.getElem_map]
        have:=(hR i hi).2.1.1.1
        rw[this];exact (hR i hi).2.2.1)
       (fun i j hi hj=>by
        simp only[List.length_map] at hi
        have:=hcell i j hi hj
        have hs:=hspot (fun e=>by rw[e] at hi;simp at hi)
        have e3:(a.add (i*sz)).add j=⟨a.block,a.off+i*sz+j,none⟩:=by
         obtain⟨blk,off,spot⟩:=a
         simp only at hs
         subst hs
         rw[Addr.add_lit,Addr.add_lit]
        rw[← e3];exact this)
       (fun i j hi hj=>by
        simp only[List.length_map] at hi
        simp only[List.getElem_map] at hj ⊢
        exact (hR i hi).2.1.1.2 j hj)
       (fun i j hi hj=>by
        simp only[List.length_map] at hi
        refine (hR i hi).2.1.2 _ ?_
        have:=(hR i hi).2.2.1
        rw[getElem!_pos _ j (by omega)]
        exact List.getElem_mem _)
       (fun e=>by cases e) (by have hmax:=hc.2.2;unfold maxLen at hmax;simp only[List.length_map];omega)
      simp only[List.length_map,h1] at key2
      exact key2
   ·cases h
  all_goals cases h

def DecF (P:Program) (w:World) (off:Nat) (fs:List Field) (n:Nat) {α:Type} (enc:α→List AV) (ok:α→Prop):Prop:=
 ∀ {H:Type} (en:TypeId × Value→H) (fuel:Nat) (cs:List Value),(∀ f∈fs,∃ y,DataW.trod en P w 0 (fun _=>true) true fuel f.type ((cs.drop f.offset).take (P.cellsOf f.type))=some y)→off+n≤cs.length →
  ∃ a:α,ok a∧VC w noI (enc a) ((cs.drop off).take n)

theorem DecF.nil (off:Nat):DecF P w off [] 0 (fun _:Unit=>[]) (fun _=>True):=fun en fuel cs _ _=>⟨(),trivial,by simpa using VC.nil⟩

theorem DecF.cons {off:Nat} {f:Field} {fs:List Field} {n m:Nat} {α β:Type} {enc:α→List AV} {ok:α→Prop} {enc2:β→List AV} {ok2:β→Prop} (ho:f.offset=off) (hs:P.cellsOf f.type=n)
  (hd:Dec P w f.type enc ok) (hf:DecF P w (off+n) fs m enc2 ok2):DecF P w off (f::fs) (n+m) (fun p:α × β=>enc p.1++enc2 p.2) (fun p=>ok p.1∧ok2 p.2):=by
 intro H en fuel cs h hle
 obtain⟨y,hy⟩:=h f (by simp)
 rw[ho,hs] at hy
 obtain⟨a,k1,k2⟩:=hd en fuel _ y hy
 obtain⟨b,k3,k4⟩:=hf en fuel cs (fun g hg=>h g (by simp[hg])) (by omega)
 refine⟨(a,b),⟨k1,k3⟩, ?_⟩
 have:=k2.append k4
 rw[← List.drop_drop,← List.take_add] at this
 exact this

theorem Dec.struct {t:TypeId} {fs:Array Field} {n:Nat} {α β:Type} {enc:α→List AV} {ok:α→Prop} {enc2:β→List AV} {ok2:β→Prop} (ht:P.underlying t=some (.struct fs)) (hn:P.cellsOf t=n)
  (hf:DecF P w 0 fs.toList n enc ok) (g:α→β) (hg:∀ a,ok a→ok2 (g a)∧enc2 (g a)=enc a):Dec P w t enc2 ok2:=by
 intro H en fuel cs x h
 cases fuel with
 | zero=>simp[DataW.trod] at h
 | succ fuel=>
  have e0:DataW.trod en P w 0 (fun _=>true) true (fuel+1) t cs=if cs.length=P.cellsOf t then (fs.toList.mapM fun f=>DataW.trod en P w 0 (fun _=>true) true fuel f.type ((cs.drop f.offset).take (P.cellsOf f.type))).map fun xs=>(.agg (xs.map (·.1)),xs.flatMap (·.2)) else none:=by
   conv=>lhs;unfold DataW.trod
   rw[ht]
  rw[e0] at h
  split at h
  ·rename_i hlen
   rw[hn] at hlen
   obtain⟨xs,hm,_⟩:=map_some h
   rw[mapM_val] at hm
   obtain⟨a,k1,k2⟩:=hf en fuel cs (fun f hf'=>by
    obtain⟨i,hi,e⟩:=List.getElem_of_mem hf'
    obtain⟨y,_,h2⟩:=mapO_get hm i f (by rw[← e];exact List.getElem?_eq_getElem hi)
    exact⟨y,h2⟩) (by omega)
   obtain⟨k3,k4⟩:=hg a k1
   refine⟨g a,k3, ?_⟩
   rw[k4]
   rw[List.drop_zero,List.take_of_length_le (by omega)] at k2
   exact k2
  ·cases h

theorem Dec.array {t e:TypeId} {n sz:Nat} {α:Type} {enc:α→List AV} {ok:α→Prop} (ht:P.underlying t=some (.array n e)) (hsz:P.cellsOf e=sz) (hn:P.cellsOf t=n*sz) (hd:Dec P w e enc ok) :
  Dec P w t (fun l:List α=>(l.map enc).flatten) (fun l=>(∀ a∈l,ok a)∧l.length=n):=by
 intro H en fuel cs x h
 cases fuel with
 | zero=>simp[DataW.trod] at h
 | succ fuel=>
  have e0:DataW.trod en P w 0 (fun _=>true) true (fuel+1) t cs=if cs.length=P.cellsOf t then ((List.range n).mapM fun i=>DataW.trod en P w 0 (fun _=>true) true fuel e ((cs.drop (i*P.cellsOf e)).take (P.cellsOf e))).map fun xs=>(.agg (xs.map (·.1)),xs.flatMap (·.2)) else none:=by
   conv=>lhs;unfold DataW.trod
   rw[ht]
  rw[e0] at h
  split at h
  ·rename_i hlen
   rw[hn] at hlen
   obtain⟨xs,hm,_⟩:=map_some h
   rw[mapM_val,hsz] at hm
   have key:∀ k,k≤n→∃ l:List α,(∀ a∈l,ok a)∧l.length=k∧VC w noI (l.map enc).flatten (cs.take (k*sz)):=by
    intro k
    induction k with
    | zero=>intro _;exact⟨[],by simp,rfl,by simpa using VC.nil⟩
    | succ k ih=>
     intro hk
     obtain⟨l,h1,h2,h3⟩:=ih (by omega)
     obtain⟨y,_,h4⟩:=mapO_get hm k k (List.getElem?_range (by omega))
     obtain⟨a,k1,k2⟩:=hd en fuel _ y h4
     refine⟨l++[a],fun b hb=>?_,by simp[h2], ?_⟩
     ·rcases List.mem_append.1 hb with hb|hb
      ·exact h1 b hb
      ·simp at hb;subst hb;exact k1
     ·have:=h3.append k2
      simp only[List.map_append,List.map_cons,List.map_nil,List.flatten_append,List.flatten_cons,List.flatten_nil,List.append_nil]
      rw[Nat.succ_mul,List.take_add]
      exact this
   obtain⟨l,h1,h2,h3⟩:=key n (Nat.le_refl _)
   refine⟨l,⟨h1,h2⟩, ?_⟩
   rw[List.take_of_length_le (by omega)] at h3
   exact h3
  ·cases h

end
end Go.Ab

namespace Go.Ab
open Go.RowKit

def AH.zero:AH:={ objs:=.nil,next:=0,lo:=0 }

theorem law_calls {P:Program} {M:FuncId→Option MFunc} (hM:Faithful P M) {n:Nat} {f:FuncId} {ts:List AV} {H':AH} (h:eval M n f ts AH.zero=some (.bool true,H')) {W:World} {args:Array Value} (hv:VL W noI ts args.toList) :
  Calls P f args W fun e W'=>e=.returned (.bool true)∧Below W.heap.size W W':=by
 refine Calls.mono ((eval_sim hM n).sim f ts AH.zero _ _ h W noI W args (MR.empty W) hv (fun b _ _=>rfl)) ?_
 rintro e w' ⟨cr,ι',rfl,hv',hm,_⟩
 cases hv'
 exact⟨rfl,⟨hm.os,hm.tape,hm.output,hm.size,hm.low⟩⟩

end Go.Ab

namespace Go.Ab

def LeF (C C':CallF):Prop:=∀ f a H r,C f a H=some r→C' f a H=some r

theorem quietly_mono {H:AH} {x y:Option (AV × AH)} (h:∀ r,x=some r→y=some r) {r:AV × AH} (hx:quietly H x=some r):quietly H y=some r:=by
 cases x with
 | none=>simp[quietly] at hx
 | some x=>rw[h x rfl];exact hx

theorem callA_mono {C C':CallF} (hC:LeF C C') {e:Env} {H:AH} {q:Bool} {f:Opd} {as:List Opd} {r:AV × AH} (h:callA C e H q f as=some r):callA C' e H q f as=some r:=by
 unfold callA at h ⊢
 split at h
 ·rename_i g first cap as' h1 h2
  cases q
  ·simp only[Bool.false_eq_true,if_false] at h ⊢
   exact hC _ _ _ _ h
  ·simp only[if_true] at h ⊢
   exact quietly_mono (fun r hr=>hC _ _ _ _ hr) h
 ·cases h

theorem stepOp_mono {C C':CallF} (hC:LeF C C') {e:Env} {H:AH} {mo:MOp} {r:AV × Env × AH} (h:stepOp C e H mo=some r):stepOp C' e H mo=some r:=by
 unfold stepOp at h ⊢
 split at h
 ·obtain⟨x,h1,h2⟩:=map_some h
  simp only[callA_mono hC h1,Option.map_some,h2]
 ·exact h

theorem stepOper_mono {C C':CallF} (hC:LeF C C') {e:Env} {H:AH} {o:MOper} {r:Env × AH} (h:stepOper C e H o=some r):stepOper C' e H o=some r:=by
 unfold stepOper at h ⊢
 split at h
 ·rename_i hw
  rw[if_pos hw]
  split at h
  ·rename_i v e1 H1 h1
   rw[stepOp_mono hC h1];exact h
  ·cases h
 ·rename_i hw;rw[if_neg hw];exact h

theorem runOps_mono {C C':CallF} (hC:LeF C C'):∀ {l:List MOper} {e:Env} {H:AH} {r:Env × AH},runOps C l e H=some r→runOps C' l e H=some r
 | [],e,H,r,h=>h
 | o::l,e,H,r,h=>by
  simp only[runOps] at h ⊢
  split at h
  ·rename_i e1 H1 h1
   rw[stepOper_mono hC h1];exact runOps_mono hC h
  ·cases h

theorem runTr_mono {C C':CallF} (hC:LeF C C'):∀ {l:List MOper} {e:Env} {H:AH} {r:List (Env × AH)},runTr C l e H=some r→runTr C' l e H=some r
 | [],e,H,r,h=>h
 | o::l,e,H,r,h=>by
  simp only[runTr] at h ⊢
  split at h
  ·rename_i e1 H1 h1
   obtain⟨S,h2,h3⟩:=map_some h
   rw[stepOper_mono hC h1]
   simp only[runTr_mono hC h2,Option.map_some,h3]
  ·cases h

theorem runDraw_mono {C C':CallF} (hC:LeF C C') {l:List MOper} {chk:List (Nat × Nat)} {e:Env} {H:AH} {r:Env × AH} (h:runDraw C l chk e H=some r):runDraw C' l chk e H=some r:=by
 unfold runDraw at h ⊢
 split at h
 ·rename_i S hS
  rw[runTr_mono hC hS];exact h
 ·cases h

theorem iter_mono {b b':Runs} (hb:∀ e H r,b e H=some r→b' e H=some r):∀ (n m:Nat),n≤m→∀ e H r,iter b n e H=some r→iter b' m e H=some r
 | 0,m,_,e,H,r,h=>by simp[iter] at h
 | n+1,0,hm,e,H,r,h=>by omega
 | n+1,m+1,hm,e,H,r,h=>by
  simp only[iter] at h ⊢
  cases h1:b e H with
  | none=>rw[h1] at h;cases h
  | some x=>
   obtain⟨o,e1,H1⟩:=x
   rw[h1] at h
   rw[hb _ _ _ h1]
   cases o with
   | normal=>exact iter_mono hb n m (by omega) e1 H1 r h
   | exit id=>exact h
   | ret=>exact h

theorem runCode_mono {C C':CallF} (hC:LeF C C') {n m:Nat} (hnm:n≤m):∀ (c:MCode) e H r,runCode C n c e H=some r→runCode C' m c e H=some r:=by
 intro c
 induction c with
 | skip=>intro e H r h;exact h
 | exit id=>intro e H r h;exact h
 | ret=>intro e H r h;exact h
 | ext k=>intro e H r h;exact h
 | ops l=>
  intro e H r h;simp only[runCode] at h ⊢
  split at h
  ·rename_i e1 H1 h1;rw[runOps_mono hC h1];exact h
  ·cases h
 | draw l chk=>
  intro e H r h;simp only[runCode] at h ⊢
  split at h
  ·rename_i e1 H1 h1;rw[runDraw_mono hC h1];exact h
  ·cases h
 | seq a b iha ihb=>
  intro e H r h;simp only[runCode] at h ⊢
  cases h1:runCode C n a e H with
  | none=>rw[h1] at h;cases h
  | some x=>
   obtain⟨o,e1,H1⟩:=x
   rw[h1] at h
   rw[iha _ _ _ h1]
   cases o with
   | normal=>exact ihb _ _ _ h
   | exit id=>exact h
   | ret=>exact h
 | cond c a b iha ihb=>
  intro e H r h;simp only[runCode] at h ⊢
  split at h
  ·exact iha _ _ _ h
  ·exact ihb _ _ _ h
  ·cases h
 | block id b ih=>
  intro e H r h;simp only[runCode] at h ⊢
  cases h1:runCode C n b e H with
  | none=>rw[h1] at h;cases h
  | some x=>
   rw[h1] at h
   rw[ih _ _ _ h1];exact h
 | loop b ih=>
  intro e H r h;simp only[runCode] at h ⊢
  exact iter_mono ih n m hnm e H r h

theorem evalF_mono {C C':CallF} (hC:LeF C C') {n m:Nat} (hnm:n≤m) {F:MFunc} {args:List AV} {H:AH} {r:AV × AH} (h:evalF C n F args H=some r):evalF C' m F args H=some r:=by
 unfold evalF at h ⊢
 split at h
 ·rename_i hh
  rw[if_pos hh]
  cases h1:runCode C n F.body { m:=initEnv args 0,L:=.nil,ln:=0 } H with
  | none=>rw[h1] at h;cases h
  | some x=>
   rw[h1] at h
   rw[runCode_mono hC hnm _ _ _ _ h1];exact h
 ·cases h

theorem pureC_mono {b b':List AV→AH→Option (AV × AH)} (hb:∀ a H r,b a H=some r→b' a H=some r) {args:List AV} {H:AH} {r:AV × AH} (h:pureC b args H=some r):pureC b' args H=some r:=by
 unfold pureC at h ⊢
 split at h
 ·split at h
  ·rename_i r1 H1 h1
   rw[hb _ _ _ h1];exact h
  ·cases h
 ·cases h

theorem bothC_mono {b b':List AV→AH→Option (AV × AH)} (hb:∀ a H r,b a H=some r→b' a H=some r) {args:List AV} {H:AH} {r:AV × AH} (h:bothC b args H=some r):bothC b' args H=some r:=by
 unfold bothC at h ⊢
 split at h
 ·split at h
  ·rename_i r1 H1 r2 H2 h1 h2
   rw[hb _ _ _ h1,hb _ _ _ h2];exact h
  ·cases h
 ·exact pureC_mono hb h

theorem pureB_mono {o:Bool} {b b':List AV→AH→Option (AV × AH)} (hb:∀ a H r,b a H=some r→b' a H=some r) {args:List AV} {H:AH} {r:AV × AH} (h:pureB o b args H=some r):pureB o b' args H=some r:=by
 unfold pureB at h ⊢
 split at h
 ·rename_i ho;rw[if_pos ho];exact bothC_mono hb h
 ·rename_i ho;rw[if_neg ho];exact pureC_mono hb h

theorem eval_mono (M:FuncId→Option MFunc):∀ {n m:Nat},n≤m→LeF (eval M n) (eval M m)
 | 0,m,_=>fun f a H r h=>by simp[eval] at h
 | n+1,0,h=>by omega
 | n+1,m+1,hnm=>fun f a H r h=>by
  have ih:=eval_mono M (n:=n) (m:=m) (by omega)
  simp only[eval] at h ⊢
  split at h
  ·split at h
   ·rename_i hp
    rw[if_pos hp]
    exact pureB_mono (fun a H r h=>evalF_mono ih (by omega) h) h
   ·rename_i hp
    rw[if_neg hp]
    exact evalF_mono ih (by omega) h
  ·cases h

end Go.Ab

namespace Go.Ab

def Ev (M:FuncId→Option MFunc) (f:FuncId) (args:List AV) (H:AH) (r:AV) (H':AH):Prop:=∃ n,eval M n f args H=some (r,H')

def WO (M:FuncId→Option MFunc) (l:List MOper) (e:Env) (H:AH) (Q:Env→AH→Prop):Prop:=∃ n e' H',runOps (eval M n) l e H=some (e',H')∧Q e' H'

def WC (M:FuncId→Option MFunc) (c:MCode) (e:Env) (H:AH) (Q:Out→Env→AH→Prop):Prop:=∃ n o e' H',runCode (eval M n) n c e H=some (o,e',H')∧Q o e' H'

section
variable {M:FuncId→Option MFunc} {e:Env} {H:AH}

theorem WO.nil {Q:Env→AH→Prop} (h:Q e H):WO M [] e H Q:=⟨0,e,H,rfl,h⟩

theorem WO.op {o:MOper} {l:List MOper} {Q:Env→AH→Prop} {v:AV} {e1:Env} {H1:AH} (hw:wantedA e o=true) (ha:aop e H o.op=some (v,e1,H1)) (h:WO M l (e1.put o.dst v) H1 Q):WO M (o::l) e H Q:=by
 obtain⟨n,e',H',h1,h2⟩:=h
 refine⟨n,e',H', ?_,h2⟩
 have hs:stepOp (eval M n) e H o.op=some (v,e1,H1):=by
  unfold stepOp
  split
  ·rename_i q f as heq;rw[heq] at ha;simp[aop] at ha
  ·exact ha
 simp only[runOps,stepOper,hw,if_true,hs];exact h1

theorem WO.skip {o:MOper} {l:List MOper} {Q:Env→AH→Prop} (hw:wantedA e o=false) (h:WO M l (e.put o.dst (.tup [])) H Q):WO M (o::l) e H Q:=by
 obtain⟨n,e',H',h1,h2⟩:=h
 refine⟨n,e',H', ?_,h2⟩
 simp only[runOps,stepOper,hw,Bool.false_eq_true,if_false];exact h1

theorem WO.call {d:Option Nat} {g:Option (Nat × Bool)} {f:Opd} {as:List Opd} {l:List MOper} {Q:Env→AH→Prop} {k:FuncId} {first cap vs:List AV} {r:AV} {H1:AH} (hw:wantedA e ⟨d,g,.call false f as⟩=true) (hf:e.val f=some (.fn (.func k) first cap)) (ha:as.mapM e.val=some vs)
  (hc:Ev M k (first++vs++cap) H r H1) (h:WO M l (e.put d r) H1 Q):WO M (⟨d,g,.call false f as⟩::l) e H Q:=by
 obtain⟨n,e',H',h1,h2⟩:=h
 obtain⟨m,hm⟩:=hc
 refine⟨max n m,e',H', ?_,h2⟩
 have hs:stepOper (eval M (max n m)) e H ⟨d,g,.call false f as⟩=some (e.put d r,H1):=by
  simp only[stepOper,hw,if_true,stepOp,callA,hf,ha,Bool.false_eq_true,if_false,eval_mono M (Nat.le_max_right n m) _ _ _ _ hm,Option.map_some]
 simp only[runOps,hs]
 exact runOps_mono (eval_mono M (Nat.le_max_left n m)) h1

theorem WO.qcall {d:Option Nat} {g:Option (Nat × Bool)} {f:Opd} {as:List Opd} {l:List MOper} {Q:Env→AH→Prop} {k:FuncId} {first cap vs:List AV} {r:AV} {H1:AH} (hw:wantedA e ⟨d,g,.call true f as⟩=true) (hf:e.val f=some (.fn (.func k) first cap)) (ha:as.mapM e.val=some vs)
  (hc:Ev M k (first++vs++cap) { H with lo:=H.next } r H1) (hq:H.next≤H1.lo) (h:WO M l (e.put d r) { H1 with lo:=H.lo } Q):WO M (⟨d,g,.call true f as⟩::l) e H Q:=by
 obtain⟨n,e',H',h1,h2⟩:=h
 obtain⟨m,hm⟩:=hc
 refine⟨max n m,e',H', ?_,h2⟩
 have hs:stepOper (eval M (max n m)) e H ⟨d,g,.call true f as⟩=some (e.put d r,{ H1 with lo:=H.lo }):=by
  simp only[stepOper,hw,if_true,stepOp,callA,hf,ha,eval_mono M (Nat.le_max_right n m) _ _ _ _ hm,quietly,hq,Option.map_some]
 simp only[runOps,hs]
 exact runOps_mono (eval_mono M (Nat.le_max_left n m)) h1

theorem WC.ops {l:List MOper} {Q:Out→Env→AH→Prop} (h:WO M l e H fun e' H'=>Q .normal e' H'):WC M (.ops l) e H Q:=by
 obtain⟨n,e',H',h1,h2⟩:=h
 exact⟨n,.normal,e',H',by simp only[runCode,h1],h2⟩

theorem WC.skip {Q:Out→Env→AH→Prop} (h:Q .normal e H):WC M .skip e H Q:=⟨0,.normal,e,H,rfl,h⟩
theorem WC.exit {id:Nat} {Q:Out→Env→AH→Prop} (h:Q (.exit id) e H):WC M (.exit id) e H Q:=⟨0,.exit id,e,H,rfl,h⟩
theorem WC.ret {Q:Out→Env→AH→Prop} (h:Q .ret e H):WC M .ret e H Q:=⟨0,.ret,e,H,rfl,h⟩

def Out.then (k:Env→AH→Prop) (Q:Out→Env→AH→Prop):Out→Env→AH→Prop
 | .normal,e,H=>k e H
 | .exit id,e,H=>Q (.exit id) e H
 | .ret,e,H=>Q .ret e H

theorem WC.seq {a b:MCode} {Q:Out→Env→AH→Prop} (h:WC M a e H (Out.then (fun e' H'=>WC M b e' H' Q) Q)):WC M (.seq a b) e H Q:=by
 obtain⟨n,o,e1,H1,h1,h2⟩:=h
 cases o with
 | normal=>
  obtain⟨m,o2,e2,H2,h3,h4⟩:=h2
  refine⟨max n m,o2,e2,H2, ?_,h4⟩
  simp only[runCode,runCode_mono (eval_mono M (Nat.le_max_left n m)) (Nat.le_max_left n m) _ _ _ _ h1]
  exact runCode_mono (eval_mono M (Nat.le_max_right n m)) (Nat.le_max_right n m) _ _ _ _ h3
 | exit id=>exact⟨n,.exit id,e1,H1,by simp only[runCode,h1],h2⟩
 | ret=>exact⟨n,.ret,e1,H1,by simp only[runCode,h1],h2⟩

theorem WC.cond {c:Opd} {a b:MCode} {t:Bool} {Q:Out→Env→AH→Prop} (hc:e.raw c=.bool t) (h:WC M (if t then a else b) e H Q):WC M (.cond c a b) e H Q:=by
 obtain⟨n,o,e1,H1,h1,h2⟩:=h
 refine⟨n,o,e1,H1, ?_,h2⟩
 simp only[runCode,hc]
 cases t<;>exact h1

def Out.inBlock (id:Nat) (Q:Out→Env→AH→Prop):Out→Env→AH→Prop
 | .normal,e,H=>Q .normal e H
 | .exit id',e,H=>if id'=id then Q .normal e H else Q (.exit id') e H
 | .ret,e,H=>Q .ret e H

theorem WC.block {id:Nat} {b:MCode} {Q:Out→Env→AH→Prop} (h:WC M b e H (Out.inBlock id Q)):WC M (.block id b) e H Q:=by
 obtain⟨n,o,e1,H1,h1,h2⟩:=h
 cases o with
 | normal=>exact⟨n,.normal,e1,H1,by simp only[runCode,h1],h2⟩
 | ret=>exact⟨n,.ret,e1,H1,by simp only[runCode,h1],h2⟩
 | exit id'=>
  refine⟨n,if id'=id then .normal else .exit id',e1,H1,by simp only[runCode,h1], ?_⟩
  simp only[Out.inBlock] at h2
  split
  ·rename_i hh;rw[if_pos hh] at h2;exact h2
  ·rename_i hh;rw[if_neg hh] at h2;exact h2

theorem WC.loop {b:MCode} {Q:Out→Env→AH→Prop} (h:WC M b e H (Out.then (fun e' H'=>WC M (.loop b) e' H' Q) Q)):WC M (.loop b) e H Q:=by
 obtain⟨n,o,e1,H1,h1,h2⟩:=h
 cases o with
 | normal=>
  obtain⟨m,o2,e2,H2,h3,h4⟩:=h2
  refine⟨max n m+1,o2,e2,H2, ?_,h4⟩
  simp only[runCode,iter] at h3 ⊢
  have hle:n≤max n m+1:=Nat.le_succ_of_le (Nat.le_max_left n m)
  have hle':m≤max n m+1:=Nat.le_succ_of_le (Nat.le_max_right n m)
  rw[runCode_mono (eval_mono M hle) hle _ _ _ _ h1]
  exact iter_mono (fun e H r h=>runCode_mono (eval_mono M hle') hle' _ _ _ _ h) m _ (Nat.le_max_right n m) _ _ _ h3
 | exit id=>
  refine⟨n+1,.exit id,e1,H1, ?_,h2⟩
  simp only[runCode,iter,runCode_mono (eval_mono M (Nat.le_succ n)) (Nat.le_succ n) _ _ _ _ h1]
 | ret=>
  refine⟨n+1,.ret,e1,H1, ?_,h2⟩
  simp only[runCode,iter,runCode_mono (eval_mono M (Nat.le_succ n)) (Nat.le_succ n) _ _ _ _ h1]

theorem WC.draw {l:List MOper} {chk:List (Nat × Nat)} {Q:Out→Env→AH→Prop} {n:Nat} {S:List (Env × AH)} {e':Env} {H':AH} (h1:runTr (eval M n) l e H=some S) (h2:chk.all (pairOk l S)=true) (h3:S.getLast? = some (e',H')) (h:Q .normal e' H'):WC M (.draw l chk) e H Q:=
 ⟨n,.normal,e',H',by simp only[runCode,runDraw,h1,h2,if_true,h3],h⟩

theorem WC.mono {c:MCode} {Q Q':Out→Env→AH→Prop} (h:WC M c e H Q) (hq:∀ o e H,Q o e H→Q' o e H):WC M c e H Q':=by
 obtain⟨n,o,e1,H1,h1,h2⟩:=h
 exact⟨n,o,e1,H1,h1,hq _ _ _ h2⟩
theorem WO.mono {l:List MOper} {Q Q':Env→AH→Prop} (h:WO M l e H Q) (hq:∀ e H,Q e H→Q' e H):WO M l e H Q':=by
 obtain⟨n,e1,H1,h1,h2⟩:=h
 exact⟨n,e1,H1,h1,hq _ _ h2⟩

def Fin (res:List MRes) (K:AV→AH→Prop):Out→Env→AH→Prop
 | .exit _,_,_=>False
 | _,e,H=>∃ r,resultsOf e H res=some r∧K r H

def start (args:List AV):Env:={ m:=initEnv args 0,L:=.nil,ln:=0 }

theorem WC.evalF {F:MFunc} {args:List AV} {K:AV→AH→Prop} (hn:args.length=F.nargs) (hfree:args.all AV.free=true) (h:WC M F.body (start args) H (Fin F.res K)):∃ n r H',Ab.evalF (eval M n) n F args H=some (r,H')∧K r H':=by
 obtain⟨n,o,e1,H1,h1,h2⟩:=h
 cases o with
 | exit id=>exact h2.elim
 | normal=>
  obtain⟨r,h3,h4⟩:=h2
  refine⟨n,r,H1, ?_,h4⟩
  unfold Ab.evalF
  rw[if_pos ⟨hn,hfree⟩]
  unfold start at h1
  rw[h1]
  simp only[h3,Option.map_some]
 | ret=>
  obtain⟨r,h3,h4⟩:=h2
  refine⟨n,r,H1, ?_,h4⟩
  unfold Ab.evalF
  rw[if_pos ⟨hn,hfree⟩]
  unfold start at h1
  rw[h1]
  simp only[h3,Option.map_some]

theorem Ev.body {f:FuncId} {F:MFunc} {args:List AV} {K:AV→AH→Prop} (hM:M f=some F) (hp:F.pure=false) (hn:args.length=F.nargs) (hfree:args.all AV.free=true) (h:WC M F.body (start args) H (Fin F.res K)):∃ r H',Ev M f args H r H'∧K r H':=by
 obtain⟨n,r,H',h1,h2⟩:=WC.evalF hn hfree h
 refine⟨r,H',⟨n+1, ?_⟩,h2⟩
 simp only[eval,hM,hp,Bool.false_eq_true,if_false];exact h1

def AH.none:AH:={ objs:=.nil,next:=0,lo:=0 }

def Pu (M:FuncId→Option MFunc) (F:MFunc) (ts:List AV) (r:AV) (H1:AH):Prop:=∃ n,Ab.evalF (eval M n) n F ts AH.none=some (r,H1)

theorem Pu.body {F:MFunc} {ts:List AV} {K:AV→AH→Prop} (hn:ts.length=F.nargs) (hfree:ts.all AV.free=true) (h:WC M F.body (start ts) AH.none (Fin F.res K)):∃ r H1,Pu M F ts r H1∧K r H1:=by
 obtain⟨n,r,H',h1,h2⟩:=WC.evalF hn hfree h
 exact⟨r,H',⟨n,h1⟩,h2⟩

end
end Go.Ab

namespace Go.Ab
open Go.RowKit Go.ChangeShapes

theorem trodAll_below {H:Type} {enc:TypeId × Value→H} {P:Program} (hl:laidOutB P=true) {W W':World} (hb:Below W.heap.size W W'):∀ {ts:List TypeId} {vs:List Value} {ds:List (DataW H)} {ps:List MemPlace},
  ts.all (fun t=>P.readableRec t && decide (t<P.types.size))=true→(∀ x∈ps,x.block<W.heap.size)→DataW.TrodAll enc P W 0 (fun _=>true) true ts vs ds ps→DataW.TrodAll enc P W' 0 (fun b=>decide (b<W.heap.size)) true ts vs ds ps
 | [],[],[],_,_,_,h=>h
 | t::ts,v::vs,d::ds,ps,ht,hlt,⟨p,q,h1,h2,e⟩=>by
  simp only[List.all_cons,Bool.and_eq_true,decide_eq_true_eq] at ht
  exact⟨p,q,Below.trod hl ht.1.1 ht.1.2 h1 hb fun x hx=>hlt x (by rw[e];simp[hx]),trodAll_below hl hb ht.2 (fun x hx=>hlt x (by rw[e];simp[hx])) h2,e⟩
 | [],[],_::_,_,_,_,h|[],_::_,_,_,_,_,h|_::_,[],_,_,_,_,h|_::_,_::_,[],_,_,_,h=>by cases h

theorem trodAll_length {H:Type} {enc:TypeId × Value→H} {P:Program} {w:World} {base:Nat} {spare:Nat→Bool} {held:Bool}:∀ {ts:List TypeId} {vs:List Value} {ds:List (DataW H)} {ps:List MemPlace},DataW.TrodAll enc P w base spare held ts vs ds ps→ds.length=ts.length
 | [],[],[],_,_=>rfl
 | _::_,_::_,_::_,_,⟨_,_,_,h2,_⟩=>by simp[trodAll_length h2]
 | [],[],_::_,_,h|[],_::_,_,_,h|_::_,[],_,_,h|_::_,_::_,[],_,h=>by cases h

theorem law_lifted {C:Checked} {M:FuncId→Option MFunc} {s:ChangeSpec} {k:FuncId} {fn:Func} {conds:List PathCond} {apart fresh handsOn:Bool} {os:Os} {H:Type} {enc:TypeId × Value→H} {tb:TypeId}
  (own:ownKnob C.prog.godebug=none) (started:os.Started) (noInit:C.prog.inits.idxOf? k=none) (hfn:C.prog.funcs[k]? = some fn) (hl:laidOutB C.prog=true)
  (witness:∃ (w:World) (tape:Tape) (i:Input),w.os=os∧(w.forCall tape i).Shaped C.prog∧i.vars=[]∧Input.okWide C.prog (w.forCall tape i) .any w.heap.size k i ∧
   s.pre6 enc C.prog fn conds apart (w.forCall tape i).memory i.args∧({}:Assume).holds C.prog (lone (Frame.enter C.prog k i.args .normal) [] (w.forCall tape i)))
  (hvars:s.vars=[]) (hs:∀ ds:List (DataW H),ds.length=fn.params.toList.length→s.fn H (ds++[])={ results:=[.lit (.bool true)],args:=ds })
  (hres:fn.resultTypes=#[tb]) (htb:C.prog.underlying tb=some .bool) (hpar:fn.params.toList.all (fun t=>C.prog.readableRec t && decide (t<C.prog.types.size))=true)
  (hM:Faithful C.prog M)
  (calls:∀ (W:World) (base:Nat) (args:Array Value) (ds:List (DataW H)) (ps:List MemPlace),
   (∀ (j:Nat) t v,fn.params[j]? = some t→args[j]? = some v→Value.okWide C.prog W .any base t v) →
   DataW.TrodAll enc C.prog W 0 (fun _=>true) true fn.params.toList args.toList ds ps →
   ∃ ts n H',VL W noI ts args.toList∧eval M n k ts AH.zero=some (.bool true,H')) :
  ReturnsInHanded {} C os k .any (s.pre6 enc C.prog fn conds apart) (s.post enc C.prog fn apart fresh handsOn false):=by
 refine returnsInHanded_of_change own started noInit hfn witness ?_
 intro W base args ds gs before hval hW _ _
 have hW':=hW
 obtain⟨p,q,hA,hV,rfl,hfz,hnd⟩:=hW
 rw[hvars] at hV
 obtain⟨rfl,rfl⟩:=trodVars_none hV
 have hlen:ds.length=fn.params.toList.length:=trodAll_length hA
 obtain⟨ts,n,H',hvl,hev⟩:=calls W base args ds p hval hA
 refine (law_calls hM hev hvl).mono ?_
 rintro e W' ⟨rfl,hb⟩
 have hlt:∀ x∈p,x.block<W.heap.size:=fun x hx=>by simpa using hW'.lt x (by simpa using hx)
 refine⟨_,rfl,ds,[],p++[],[],p,[],hW', ?_, ?_, ?_,Below.frame hb _,fun h=>by cases h⟩
 ·rw[hs ds hlen,hres]
  exact trodAll_mk1 (shut_bool htb true)
 ·rw[hs ds hlen]
  exact trodAll_below hl hb hpar hlt hA
 ·rw[hvars,hs ds hlen]
  rfl

section
variable {P:Program} {w:World}

theorem arg_cell {t:TypeId} {α:Type} {enc:α→List AV} {f:α→AV} {ok:α→Prop} {H:Type} {en:TypeId × Value→H} {r:Reach} {base:Nat} {v:Value} {d:DataW H} {ps:List MemPlace} (hf:∀ a,enc a=[f a]) (hd:Dec P w t enc ok)
  (hne:(∃ k,P.underlying t=some (.int k))∨P.underlying t=some .bool∨(∃ e,P.underlying t=some (.slice e))∨P.underlying t=some .string)
  (hok:Value.okWide P w r base t v) (h:DataW.Trod en P w 0 (fun _=>true) true t v d ps):∃ a,ok a∧V w noI (f a) v:=by
 have hc:v.cells=#[v]:=by
  cases v
  case agg cs=>
   unfold Value.okWide at hok
   rcases hne with ⟨k,e⟩|e|⟨k,e⟩|e<;>(rw[e] at hok;simp only[] at hok;unfold Cell.okWide at hok;rw[e] at hok;simp only[] at hok;unfold Cell.ok at hok;rw[e] at hok;cases hok)
  all_goals rfl
 obtain⟨fuel,h⟩:=h
 obtain⟨a,h1,h2⟩:=hd en fuel _ _ h
 rw[hf,hc] at h2
 exact⟨a,h1,by simpa using h2.1.2 0 (by simp)⟩

end
end Go.Ab

namespace Go.Ab
open Go.RowKit Go.ChangeShapes

mutual
/-- no slice in it is longer than a bound -/
def tame {H : Type} : DataW H → Bool
  | .slice es _ => decide (es.length ≤ 1048576) && tameL es
  | .agg ps => tameL ps
  | .lit (.string bytes) => decide (bytes.length ≤ 1048576)
  | _ => true
def tameL {H : Type} : List (DataW H) → Bool
  | [] => true
  | d :: r => tame d && tameL r
end

theorem tameL_mem {H:Type}:∀ {l:List (DataW H)},tameL l=true→∀ d∈l,tame d=true
 | [],_,d,h=>by cases h
 | x::r,ht,d,h=>by
  simp only[tameL,Bool.and_eq_true] at ht
  rcases List.mem_cons.1 h with rfl|h
  ·exact ht.1
  ·exact tameL_mem ht.2 d h

def DecS (P:Program) (w:World) (t:TypeId) {α:Type} (enc:α→List AV) (ok:α→Prop):Prop:=
 ∀ {H:Type} (en:TypeId × Value→H) (fuel:Nat) (cs:List Value) (x:DataW H × List MemPlace),DataW.trod en P w 0 (fun _=>true) true fuel t cs=some x→tame x.1=true→∃ a:α,ok a∧VC w noI (enc a) cs

section
variable {P:Program} {w:World}

theorem Dec.s {t:TypeId} {α:Type} {enc:α→List AV} {ok:α→Prop} (h:Dec P w t enc ok):DecS P w t enc ok:=fun en fuel cs x hx _=>h en fuel cs x hx

theorem mapO_mem {α β:Type} {f:α→Option β} {l:List α} {ys:List β} (h:mapO f l=some ys) {i:Nat} {x:α} (hx:l[i]? = some x):∃ y,y∈ys∧f x=some y:=by
 obtain⟨y,h1,h2⟩:=mapO_get h i x hx
 exact⟨y,List.mem_of_getElem? h1,h2⟩

theorem DecS.slice {t e:TypeId} {α:Type} {enc:α→List AV} {ok:α→Prop} {sz:Nat} (ht:P.underlying t=some (.slice e)) (hsz:P.cellsOf e=sz) (hpos:0<sz) (hd:DecS P w e enc ok) :
  DecS P w t (fun l:List α=>[.vs (l.map enc) false]) (fun l=>(∀ a∈l,ok a)∧l.length≤1048576):=by
 intro H en fuel cs x h htame
 cases fuel with
 | zero=>simp[DataW.trod] at h
 | succ fuel=>
  unfold DataW.trod at h
  rw[ht] at h
  split at h
  all_goals first
   | (rename_i e;cases e;done)
   | (rename_i e _;cases e;done)
   | skip
  ·exact⟨[],⟨by simp,by simp⟩,VC.one (.vs0 _) rfl⟩
  ·rename_i e' a len cap hu
   cases hu
   simp only[hsz] at h
   split at h
   ·rename_i hc
    cases hm:(List.range len).mapM (fun i=>(w.cells? 0 (a.add (i*sz)) sz).bind (DataW.trod en P w 0 (fun _=>true) true fuel e)) with
    | none=>rw[hm] at h;cases h
    | some elems=>
     rw[hm] at h
     simp only[Option.bind_some] at h
     obtain⟨rest,_,hx⟩:=map_some h
     clear h
     subst hx
     simp only[tame,Bool.and_eq_true,decide_eq_true_eq,List.length_map] at htame
     rw[mapM_val] at hm
     have hel:=mapO_length hm
     simp only[List.length_range] at hel
     have key:∀ i,i<len→∃ (b:α) (ci:List Value),ok b∧VC w noI (enc b) ci∧ci.length=sz∧∀ (j:Nat) y,ci[j]? = some y→w.cell? ((a.add (i*sz)).add j)=some y:=by
      intro i hi
      obtain⟨y,hmem,h2⟩:=mapO_mem hm (List.getElem?_range hi)
      cases hci:w.cells? 0 (a.add (i*sz)) sz with
      | none=>rw[hci] at h2;cases h2
      | some ci=>
       rw[hci] at h2
       obtain⟨b,k1,k2⟩:=hd en fuel ci y h2 (tameL_mem htame.2 _ (List.mem_map.2 ⟨y,hmem,rfl⟩))
       obtain⟨k3,k4⟩:=cells?_get hci
       exact⟨b,ci,k1,k2,k3,k4⟩
     obtain⟨l,m,h1,h2,h3⟩:=build_lists len key
     have hR:∀ i (hi:i<l.length),ok l[i]∧VC w noI (enc l[i]) m[i]!∧(m[i]!).length=sz∧∀ (j:Nat) y,(m[i]!)[j]? = some y→w.cell? ((a.add (i*sz)).add j)=some y:=fun i hi=>by
      have e1:m[i]? = some m[i]!:=by rw[getElem!_pos m i (by omega)];exact List.getElem?_eq_getElem (by omega)
      exact h3 i l[i] m[i]! (List.getElem?_eq_getElem hi) e1
     have hbig:=hc.2.1
     have hmax:=hc.2.2
     refine⟨l,⟨fun b hb=>?_,by omega⟩,VC.one ?_ rfl⟩
     ·obtain⟨i,hi,rfl⟩:=List.getElem_of_mem hb
      exact (hR i hi).1
     ·have hcell:∀ i j,i<l.length→j<sz→w.cell? ((a.add (i*sz)).add j)=some ((m[i]!)[j]!):=fun i j hi hj=>by
       obtain⟨_,_,k3,k4⟩:=hR i hi
       exact k4 j _ (by rw[getElem!_pos _ j (by omega)];exact List.getElem?_eq_getElem (by omega))
      have hspot:l≠[]→a.spot=none:=fun hne=>by
       have hlpos:0<l.length:=List.length_pos_iff.2 hne
       have:=hcell 0 0 hlpos hpos
       cases hs:a.spot with
       | none=>rfl
       | some z=>
        have e2:((a.add (0*sz)).add 0).spot.isSome=true:=by simp[Addr.add,hs]
        unfold World.cell? at this
        split at this
        ·rw[if_pos e2] at this;cases this
        ·cases this
      have key2:=V.vs (w0:=w) (ι:=noI) (l.map enc) false a cap sz (fun i j=>(m[i]!)[j]!) (fun hne=>hspot (fun e=>hne (by rw[e];rfl)))
       (fun i hi=>by
        simp only[List.length_map] at hi
        rw[List.getElem_map]
        have:=(hR i hi).2.1.1.1
        rw[this];exact (hR i hi).2.2.1)
       (fun i j hi hj=>by
        simp only[List.length_map] at hi
        have:=hcell i j hi hj
        have hs:=hspot (fun e=>by rw[e] at hi;simp at hi)
        have e3:(a.add (i*sz)).add j=⟨a.block,a.off+i*sz+j,none⟩:=by
         obtain⟨blk,off,spot⟩:=a
         simp only at hs
         subst hs
         rw[Addr.add_lit,Addr.add_lit]
        rw[← e3];exact this)
       (fun i j hi hj=>by
        simp only[List.length_map] at hi
        simp only[List.getElem_map] at hj ⊢
        exact (hR i hi).2.1.1.2 j hj)
       (fun i j hi hj=>by
        simp only[List.length_map] at hi
        refine (hR i hi).2.1.2 _ ?_
        have:=(hR i hi).2.2.1
        rw[getElem!_pos _ j (by omega)]
        exact List.getElem_mem _)
       (fun e=>by cases e) (by have hmax:=hc.2.2;unfold maxLen at hmax;simp only[List.length_map];omega)
      simp only[List.length_map,h1] at key2
      exact key2
   ·cases h
  all_goals cases h

def DecFS (P:Program) (w:World) (off:Nat) (fs:List Field) (n:Nat) {α:Type} (enc:α→List AV) (ok:α→Prop):Prop:=
 ∀ {H:Type} (en:TypeId × Value→H) (fuel:Nat) (cs:List Value),(∀ f∈fs,∃ y,DataW.trod en P w 0 (fun _=>true) true fuel f.type ((cs.drop f.offset).take (P.cellsOf f.type))=some y∧tame y.1=true)→off+n≤cs.length →
  ∃ a:α,ok a∧VC w noI (enc a) ((cs.drop off).take n)

theorem DecFS.nil (off:Nat):DecFS P w off [] 0 (fun _:Unit=>[]) (fun _=>True):=fun en fuel cs _ _=>⟨(),trivial,by simpa using VC.nil⟩

theorem DecFS.cons {off:Nat} {f:Field} {fs:List Field} {n m:Nat} {α β:Type} {enc:α→List AV} {ok:α→Prop} {enc2:β→List AV} {ok2:β→Prop} (ho:f.offset=off) (hs:P.cellsOf f.type=n)
  (hd:DecS P w f.type enc ok) (hf:DecFS P w (off+n) fs m enc2 ok2):DecFS P w off (f::fs) (n+m) (fun p:α × β=>enc p.1++enc2 p.2) (fun p=>ok p.1∧ok2 p.2):=by
 intro H en fuel cs h hle
 obtain⟨y,hy,hty⟩:=h f (by simp)
 rw[ho,hs] at hy
 obtain⟨a,k1,k2⟩:=hd en fuel _ y hy hty
 obtain⟨b,k3,k4⟩:=hf en fuel cs (fun g hg=>h g (by simp[hg])) (by omega)
 refine⟨(a,b),⟨k1,k3⟩, ?_⟩
 have:=k2.append k4
 rw[← List.drop_drop,← List.take_add] at this
 exact this

theorem DecS.struct {t:TypeId} {fs:Array Field} {n:Nat} {α β:Type} {enc:α→List AV} {ok:α→Prop} {enc2:β→List AV} {ok2:β→Prop} (ht:P.underlying t=some (.struct fs)) (hn:P.cellsOf t=n)
  (hf:DecFS P w 0 fs.toList n enc ok) (g:α→β) (hg:∀ a,ok a→ok2 (g a)∧enc2 (g a)=enc a):DecS P w t enc2 ok2:=by
 intro H en fuel cs x h htame
 cases fuel with
 | zero=>simp[DataW.trod] at h
 | succ fuel=>
  have e0:DataW.trod en P w 0 (fun _=>true) true (fuel+1) t cs=if cs.length=P.cellsOf t then (fs.toList.mapM fun f=>DataW.trod en P w 0 (fun _=>true) true fuel f.type ((cs.drop f.offset).take (P.cellsOf f.type))).map fun xs=>(.agg (xs.map (·.1)),xs.flatMap (·.2)) else none:=by
   conv=>lhs;unfold DataW.trod
   rw[ht]
  rw[e0] at h
  split at h
  ·rename_i hlen
   rw[hn] at hlen
   obtain⟨xs,hm,hx⟩:=map_some h
   subst hx
   simp only[tame] at htame
   rw[mapM_val] at hm
   obtain⟨a,k1,k2⟩:=hf en fuel cs (fun f hf'=>by
    obtain⟨i,hi,e⟩:=List.getElem_of_mem hf'
    obtain⟨y,hmem,h2⟩:=mapO_mem hm (x:=f) (i:=i) (by rw[← e];exact List.getElem?_eq_getElem hi)
    exact⟨y,h2,tameL_mem htame _ (List.mem_map.2 ⟨y,hmem,rfl⟩)⟩) (by omega)
   obtain⟨k3,k4⟩:=hg a k1
   refine⟨g a,k3, ?_⟩
   rw[k4]
   rw[List.drop_zero,List.take_of_length_le (by omega)] at k2
   exact k2
  ·cases h

theorem DecS.array {t e:TypeId} {n sz:Nat} {α:Type} {enc:α→List AV} {ok:α→Prop} (ht:P.underlying t=some (.array n e)) (hsz:P.cellsOf e=sz) (hn:P.cellsOf t=n*sz) (hd:DecS P w e enc ok) :
  DecS P w t (fun l:List α=>(l.map enc).flatten) (fun l=>(∀ a∈l,ok a)∧l.length=n):=by
 intro H en fuel cs x h htame
 cases fuel with
 | zero=>simp[DataW.trod] at h
 | succ fuel=>
  have e0:DataW.trod en P w 0 (fun _=>true) true (fuel+1) t cs=if cs.length=P.cellsOf t then ((List.range n).mapM fun i=>DataW.trod en P w 0 (fun _=>true) true fuel e ((cs.drop (i*P.cellsOf e)).take (P.cellsOf e))).map fun xs=>(.agg (xs.map (·.1)),xs.flatMap (·.2)) else none:=by
   conv=>lhs;unfold DataW.trod
   rw[ht]
  rw[e0] at h
  split at h
  ·rename_i hlen
   rw[hn] at hlen
   obtain⟨xs,hm,hx⟩:=map_some h
   subst hx
   simp only[tame] at htame
   rw[mapM_val,hsz] at hm
   have key:∀ k,k≤n→∃ l:List α,(∀ a∈l,ok a)∧l.length=k∧VC w noI (l.map enc).flatten (cs.take (k*sz)):=by
    intro k
    induction k with
    | zero=>intro _;exact⟨[],by simp,rfl,by simpa using VC.nil⟩
    | succ k ih=>
     intro hk
     obtain⟨l,h1,h2,h3⟩:=ih (by omega)
     obtain⟨y,hmem,h4⟩:=mapO_mem hm (x:=k) (i:=k) (List.getElem?_range (by omega))
     obtain⟨a,k1,k2⟩:=hd en fuel _ y h4 (tameL_mem htame _ (List.mem_map.2 ⟨y,hmem,rfl⟩))
     refine⟨l++[a],fun b hb=>?_,by simp[h2], ?_⟩
     ·rcases List.mem_append.1 hb with hb|hb
      ·exact h1 b hb
      ·simp at hb;subst hb;exact k1
     ·have:=h3.append k2
      simp only[List.map_append,List.map_cons,List.map_nil,List.flatten_append,List.flatten_cons,List.flatten_nil,List.append_nil]
      rw[Nat.succ_mul,List.take_add]
      exact this
   obtain⟨l,h1,h2,h3⟩:=key n (Nat.le_refl _)
   refine⟨l,⟨h1,h2⟩, ?_⟩
   rw[List.take_of_length_le (by omega)] at h3
   exact h3
  ·cases h

end

end Go.Ab
