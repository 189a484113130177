/- Rules of the walks: XLa. Conditions: each rule's own premises. -/
import Derived.WalkKit
import Derived.KernelRfl
import Derived.Deep.LoopGhost
import Derived.Test.YtjokjcdckcpijaaGreatDoorXALw
import Derived.Maps.AppendAt
import Derived.Deep.AppendLies
import Derived.Laws.StructEq
import Derived.Orders
namespace Go.Sx
open Go
set_option linter.unusedSimpArgs false
set_option linter.unusedVariables false
abbrev Env:=Nat->Value
def Env.up (ρ:Env)(d:Nat)(v:Value):Env:=fun i=>bif Nat.beq i d then v else ρ i
def envL:List Value->Env
 | []=>fun _=>undef
 |v::l=>fun i=>match i with
  |0=>v
  |j+1=>envL l j
def ev (ρ:Env):Operand->Value
 | .tmp t=>ρ t
 | .const v=>v
 | .global g=> .pointer (some ⟨g,0,none⟩)
 | .func f=> .func (.func f) #[] #[]
structure Fits (n:Nat) (a:Act) (ρ:Env):Prop where
 size:a.tmps.size=n
 df:a.defers=[]
 val: ∀ i,a.tmps.getD i undef=ρ i
theorem Fits.eval {n:Nat}{a:Act}{ρ:Env}(h:Fits n a ρ)(x:Operand):a.eval x=ev ρ x:=by
 cases x with
 |tmp t=>exact h.val t
 |_=>rfl
theorem Fits.evalF {n:Nat}{a:Act}{ρ:Env}(h:Fits n a ρ):a.eval=ev ρ:=funext h.eval
theorem Fits.put {n:Nat}{a:Act}{ρ:Env}(h:Fits n a ρ){d:Nat}(hd:Nat.blt d n=true)(v:Value):Fits n (a.put (some d) v) (ρ.up d v):=by
 have hlt:d<a.tmps.size:=by rw[h.size];simpa[Nat.blt_eq]using hd
 refine⟨by simp[Act.put,h.size],h.df,fun i=>?_⟩
 have hv:=h.val i
 simp only[Act.put,Env.up,Array.getD_eq_getD_getElem?]at hv ⊢
 by_cases e:i=d
 ·subst e
  simp[hlt]
 ·have:Nat.beq i d=false:=by cases hb:Nat.beq i d with
   |false=>rfl
   |true=>exact absurd (Nat.eq_of_beq_eq_true hb) e
  rw[this,Array.getElem?_setIfInBounds_ne (Ne.symm e)]
  simpa using hv
theorem Fits.putN {n:Nat}{a:Act}{ρ:Env}(h:Fits n a ρ)(v:Value):Fits n (a.put none v) ρ:=h
abbrev Post:=Exit->Env->World->Prop
def zsj (n:Nat)(Q:Post):Exit->Act->World->Prop:=fun e a w=> ∃ ρ,Fits n a ρ/\Q e ρ w
def Cw (P:Program)(n:Nat)(c:Code)(Q:Post)(ρ:Env)(w:World):Prop:= ∀ a,Fits n a ρ->c.wp P (zsj n Q) a w
def Post.seq (K:Env->World->Prop)(Q:Post):Post
 | .normal,ρ,w=>K ρ w
 |e,ρ,w=>Q e ρ w
def Post.blk (id:Nat)(Q:Post):Post
 | .exit i,ρ,w=>bif Nat.beq i id then Q .normal ρ w else Q (.exit i) ρ w
 |e,ρ,w=>Q e ρ w
section
variable {P:Program}{n:Nat}{Q:Post}{ρ:Env}{w:World}
theorem Cw.seq {x y:Code}(h:Cw P n x (Post.seq (Cw P n y Q) Q) ρ w):Cw P n (.seq x y) Q ρ w:=fun a ha=>
 wp_seq (Code.wp_mono (fun e a' w' ⟨ρ',hf,hq⟩=>by
  cases e with
  |normal=>exact hq a' hf
  |_=>exact⟨ρ',hf,hq⟩) (h a ha))
theorem Cw.skip (h:Q .normal ρ w):Cw P n .skip Q ρ w:=fun _ ha=>wp_skip ⟨ρ,ha,h⟩
theorem Cw.ret (h:Q .ret ρ w):Cw P n .ret Q ρ w:=fun _ ha=>wp_ret ⟨ρ,ha,h⟩
theorem Cw.exit {id:Nat}(h:Q (.exit id) ρ w):Cw P n (.exit id) Q ρ w:=fun _ ha=>wp_exit ⟨ρ,ha,h⟩
theorem Cw.condT {c:Operand}{x y:Code}(hc:ev ρ c = .bool true)(h:Cw P n x Q ρ w):Cw P n (.cond c x y) Q ρ w:=
 fun a ha=>wp_cond_true (by rw[ha.eval,hc]) (h a ha)
theorem Cw.condF {c:Operand}{x y:Code}(hc:ev ρ c = .bool false)(h:Cw P n y Q ρ w):Cw P n (.cond c x y) Q ρ w:=
 fun a ha=>wp_cond_false (by rw[ha.eval,hc]) (h a ha)
theorem Cw.cond {c:Operand}{x y:Code}{b:Bool}(hc:ev ρ c = .bool b)(ht:b=true->Cw P n x Q ρ w)(hf:b=false->Cw P n y Q ρ w):Cw P n (.cond c x y) Q ρ w:=by
 cases b with
 |true=>exact .condT hc (ht rfl)
 |false=>exact .condF hc (hf rfl)
theorem Cw.block {id:Nat}{c:Code}(h:Cw P n c (Post.blk id Q) ρ w):Cw P n (.block id c) Q ρ w:=fun a ha=>
 wp_block (Code.wp_mono (fun e a' w' ⟨ρ',hf,hq⟩=>by
  cases e with
  |exit i=>
   simp only[Exit.inBlock]
   by_cases hi:i=id
   ·rw[if_pos hi]
    subst hi
    refine⟨ρ',hf,?_⟩
    have:Nat.beq i i=true:=Nat.beq_refl i
    simpa[Post.blk,this]using hq
   ·rw[if_neg hi]
    refine⟨ρ',hf,?_⟩
    have:Nat.beq i id=false:=by cases hb:Nat.beq i id with
     |false=>rfl
     |true=>exact absurd (Nat.eq_of_beq_eq_true hb) hi
    simpa[Post.blk,this]using hq
  |_=>exact⟨ρ',hf,hq⟩) (h a ha))
theorem Cw.mono {c:Code}{Q':Post}(h:Cw P n c Q ρ w)(hq: ∀ e ρ w,Q e ρ w->Q' e ρ w):Cw P n c Q' ρ w:=fun a ha=>
 Code.wp_mono (fun e _ w' ⟨ρ',hf,hq'⟩=>⟨ρ',hf,hq e ρ' w' hq'⟩) (h a ha)
def ovl (lo hi:Nat):List Nat->List Value->Env->Env->Env
 |s::vs,v::l,σ,ρ=>(ovl lo hi vs l σ ρ).up s v
 |_,_,σ,ρ=>fun i=>bif Nat.ble lo i&&Nat.ble i hi then σ i else ρ i
def inR (lo hi:Nat)(vs:List Nat)(d:Nat):Bool:=(Nat.ble lo d&&Nat.ble d hi)||vs.any (Nat.beq d)
def zer (lo hi:Nat)(vs:List Nat)(ρ ρ':Env):Prop:= ∀ i,inR lo hi vs i=false->ρ i=ρ' i
theorem zer.refl {lo hi:Nat}{vs:List Nat}(ρ:Env):zer lo hi vs ρ ρ:=fun _ _=>rfl
theorem zer.up {lo hi:Nat}{vs:List Nat}{ρ ρ':Env}{d:Nat}{v:Value}(hd:inR lo hi vs d=true)(h:zer lo hi vs ρ ρ'):zer lo hi vs (ρ.up d v) ρ':=fun i hi'=>by
 have:Nat.beq i d=false:=by cases hb:Nat.beq i d with
  |false=>rfl
  |true=>rw[Nat.eq_of_beq_eq_true hb,hd]at hi';cases hi'
 simp only[Env.up,this,aC]
 exact h i hi'
theorem zer.base {lo hi:Nat}{vs:List Nat}{l:List Value}{σ ρ:Env}:zer lo hi vs (ovl lo hi [] l σ ρ) ρ:=fun i hi'=>by
 have:(Nat.ble lo i&&Nat.ble i hi)=false:=by
  cases hb:(Nat.ble lo i&&Nat.ble i hi)with
  |false=>rfl
  |true=>simp[inR,hb]at hi'
 simp only[Sx.ovl,this,aC]
theorem zer.trans {lo hi:Nat}{vs:List Nat}{a b c:Env}(h:zer lo hi vs a b)(k:zer lo hi vs b c):zer lo hi vs a c:=fun i hi'=>(h i hi').trans (k i hi')
theorem zer.ovl {lo hi:Nat}{vs:List Nat}{ρ ρ':Env}(h:zer lo hi vs ρ ρ'):ρ=ovl lo hi vs (vs.map ρ) ρ ρ':=by
 have key: ∀ (us:List Nat) (i:Nat),(us.any (Nat.beq i)=true\/(inR lo hi us i=false->ρ i=ρ' i))->ρ i=Sx.ovl lo hi us (us.map ρ) ρ ρ' i:=by
  intro us
  induction us with
  |nil=>
   intro i hh
   simp only[Sx.ovl]
   cases hb:(Nat.ble lo i&&Nat.ble i hi)with
   |true=>rfl
   |false=>
    rcases hh with hh |hh
    ·simp at hh
    ·exact hh (by simp[inR,hb])
  |cons u us ih=>
   intro i hh
   simp only[List.map_cons,Sx.ovl,Env.up]
   cases hb:Nat.beq i u with
   |true=>rw[Nat.eq_of_beq_eq_true hb];rfl
   |false=>
    refine ih i ?_
    rcases hh with hh |hh
    ·left;simpa[hb]using hh
    ·by_cases ha:us.any (Nat.beq i)=true
     ·exact .inl ha
     ·right
      intro hr
      refine hh ?_
      unfold inR at hr ⊢
      simp only[List.any_cons,hb,Bool.false_or]
      exact hr
 funext i
 exact key vs i (by
  by_cases ha:vs.any (Nat.beq i)=true
  ·exact .inl ha
  ·exact .inr (h i))
theorem Cw.loop {c:Code} (lo hi:Nat) (vs:List Nat) (I:Nat->List Value->World->Prop) (m:Nat) (h0:I m (vs.map ρ) w)
 (hs: ∀ m l w σ,I m l w->Cw P n c (Post.seq (fun ρ' w'=>zer lo hi vs ρ' ρ /\ ∃ m',m'<m/\I m' (vs.map ρ') w') Q) (ovl lo hi vs l σ ρ) w):
 Cw P n (.loop c) Q ρ w:=by
 intro a ha
 refine wp_loop_ghost (fun m a w=> ∃ ρ1,Fits n a ρ1/\zer lo hi vs ρ1 ρ/\I m (vs.map ρ1) w) m ⟨ρ,ha,zer.refl ρ,h0⟩ ?_
 rintro m a w ⟨ρ1,hf,hag,hI⟩
 have h1:=hs m (vs.map ρ1) w ρ1 hI
 rw[<- hag.ovl]at h1
 refine Code.wp_mono ?_ (h1 a hf)
 rintro e a' w' ⟨ρ',hf',hq⟩
 cases e with
 |normal=>obtain⟨hag',m',hm',hI'⟩:=hq;exact⟨m',hm',ρ',hf',hag',hI'⟩
 |_=>exact⟨ρ',hf',hq⟩
theorem Cw.join {x y:Code} (lo hi:Nat) (vs:List Nat) (J:List Value->World->Prop)
 (hk: ∀ l w σ,J l w->Cw P n y Q (ovl lo hi vs l σ ρ) w)
 (hx:Cw P n x (Post.seq (fun ρ' w'=>zer lo hi vs ρ' ρ/\J (vs.map ρ') w') Q) ρ w):Cw P n (.seq x y) Q ρ w:=by
 refine Cw.seq (hx.mono fun e ρ' w' hq=>?_)
 cases e with
 |normal=>
  obtain⟨hag,hJ⟩:=hq
  have:=hk (vs.map ρ') w' ρ' hJ
  rw[<- hag.ovl]at this
  exact this
 |_=>exact hq
end
def zwu (Q:Env->World->Prop):Post
 | .normal,ρ,w=>Q ρ w
 |_,_,_=>False
def Lw (P:Program)(n:Nat)(ops:Array Oper)(l:List Oper)(Q:Env->World->Prop)(ρ:Env)(w:World):Prop:=
 ∀ a,Fits n a ρ->wpList P ops (zsj n (zwu Q)) l a w
section
variable {P:Program}{n:Nat}{Q:Env->World->Prop}{ρ:Env}{w:World}{ops:Array Oper}{rest:List Oper}{R:Post}
theorem Cw.region {id:Nat}{l:List Oper}(h:Lw P n l.toArray l (fun ρ w=>R .normal ρ w) ρ w):Cw P n (.region id l.toArray false) R ρ w:=fun a ha=>
 Code.wp_mono (fun e a' w' ⟨ρ',hf,hq⟩=>by
  cases e with
  |normal=>exact⟨ρ',hf,hq⟩
  |_=>exact hq.elim) (wp_region_lit (h a ha))
theorem Lw.nil (h:Q ρ w):Lw P n ops [] Q ρ w:=fun _ ha=>wpList_nil ⟨ρ,ha,h⟩
theorem Lw.value {o:Oper} {d:Nat} (hg:o.guard=none) (hd':o.dst=some d) (hd:Nat.blt d n=true) {v:Value} {w':World}
 (hr:(execOp (ev ρ) o).run P w = .ok (.value v) w') (h:Lw P n ops rest Q (ρ.up d v) w'):Lw P n ops (o::rest) Q ρ w:=fun a ha=>
 wpList_plain hg fun K hK=>by
  unfold Oper.wp
  rw[ha.evalF,hr]
  exact hK _ _ (by rw[hd'];exact h _ (ha.put hd v))
theorem Lw.enter {o:Oper} {d:Nat} (hg:o.guard=none) (hd':o.dst=some d) (hd:Nat.blt d n=true) {f:FuncId} {args:Array Value} {R:Ending->World->Prop}
 (hr:(execOp (ev ρ) o).run P w = .ok (.enter f args) w) (hc:Calls P f args w R)
 (h: ∀ e w',R e w' -> ∃ v,e = .returned v/\Lw P n ops rest Q (ρ.up d v) w'):Lw P n ops (o::rest) Q ρ w:=fun a ha=>
 wpList_plain hg fun K hK=>by
  unfold Oper.wp
  rw[ha.evalF,hr]
  refine Calls.mono hc fun e w' he=>?_
  obtain⟨v,rfl,hv⟩:=h e w' he
  exact hK _ _ (by rw[hd'];exact hv _ (ha.put hd v))
theorem Lw.pass {o:Oper} {d j t:Nat} {b c:Bool} (hg:o.guard=some (j,b)) (hd':o.dst=some d) (hd:Nat.blt d n=true)
 (hj:(ops[j]?).bind (·.dst)=some t) (ht:Nat.blt t n=true) (hv:ev ρ (.tmp t) = .bool c) (hne:(c==b)=false) (h:Lw P n ops rest Q (ρ.up d undef) w):Lw P n ops (o::rest) Q ρ w:=fun a ha=>by
 have hval:a.tmps[t]? =some (.bool c):=by
  have:=ha.val t
  have hlt:t<a.tmps.size:=by rw[ha.size];simpa[Nat.blt_eq]using ht
  simp only[ev]at hv
  rw[hv,Array.getD_eq_getD_getElem?,Array.getElem?_eq_getElem hlt]at this
  rw[Array.getElem?_eq_getElem hlt]
  simpa using this
 have hw:Region.wanted o (yielded ops a.tmps)=false:=by
  simp only[Region.wanted,hg,yielded,hj,aA,hval]
  simpa using hne
 simp only[wpList,hw]
 rw[hd']
 exact h _ (ha.put hd undef)
end
open Go Go.RowKit
abbrev vI (n:Int):Value:= .int .i64 n
abbrev vB (b:Bool):Value:= .bool b
abbrev vS (s:Str):Value:= .string ⟨s.toArray⟩
theorem zfo (a:Addr)(n:Nat):(a.add n).block=a.block:=by unfold Addr.add;split<;>rfl
theorem zfE (a:Addr)(i j:Nat):(a.add i).add j=a.add (i+j):=by
 unfold Addr.add
 by_cases hi:i=0<;>by_cases hj:j=0<;>simp[hi,hj,Nat.add_assoc]
def zdb (w:World)(p:Addr)(cs:List Value):Prop:= ∀ j u,cs[j]? =some u->w.cell? (p.add j)=some u
theorem zdb.keep {w w':World}{p:Addr}{cs:List Value}(h:zdb w p cs)(hb:w'.heap[p.block]? =w.heap[p.block]?):zdb w' p cs:=fun j u hu=>by
 rw[World.cell?_of_block (w:=w) (by rw[zfo];exact hb)]
 exact h j u hu
theorem zdb.left {w:World}{p:Addr}{c d:List Value}(h:zdb w p (c++d)):zdb w p c:=fun j u hu=>
 h j u (by rw[aM (List.getElem?_eq_some_iff.1 hu).1];exact hu)
theorem zdb.right {w:World}{p:Addr}{c d:List Value}(h:zdb w p (c++d)):zdb w (p.add c.length) d:=fun j u hu=>by
 rw[zfE]
 exact h _ u (by rw[aN (Nat.le_add_right _ _),Nat.add_sub_cancel_left];exact hu)
class Rp (α:Type) where
 sz:Nat
 ty:TypeId
 lty:TypeId
 rd:World->(Nat->Prop)->List Value->α->Prop
 own:World->(Nat->Prop)->List Nat->List Value->α->Prop
 rd_len: ∀ {w A cs x},rd w A cs x->cs.length=sz
 rd_one: ∀ {w A cs x},rd w A cs x -> ∀ u∈cs,u.oneCell'=true
 rd_keep: ∀ {w w' A cs x},(∀ b,A b->w'.heap[b]? =w.heap[b]?)->rd w A cs x->rd w' A cs x
 rd_mono: ∀ {w A A' cs x},(∀ b,A b->A' b)->rd w A cs x->rd w A' cs x
 own_len: ∀ {w A S cs x},own w A S cs x->cs.length=sz
 own_rd: ∀ {w A A' S cs x},own w A S cs x->(∀ b,b∈S->A' b)->(∀ b,A b->A' b)->rd w A' cs x
 own_keep: ∀ {w w' A S cs x},(∀ b,A b->w'.heap[b]? =w.heap[b]?)->(∀ b,b∈S->w'.heap[b]? =w.heap[b]?)->own w A S cs x->own w' A S cs x
 own_mono: ∀ {w A A' S cs x},(∀ b,A b->A' b)->own w A S cs x->own w A' S cs x
open Rp
@[reducible] def Rp.atom {α:Type} (ty:TypeId) (enc:α->Value) (ok:α->Prop) (h: ∀ x,(enc x).oneCell'=true) (lty:TypeId:=0):Rp α:= {
 sz:=1
 ty:=ty
 lty:=lty
 rd _ _ cs x:=cs=[enc x]/\ok x
 own _ _ S cs x:=S=[]/\cs=[enc x]/\ok x
 rd_len:=fun⟨e,_⟩=>by rw[e];rfl
 rd_one:=fun⟨e,_⟩ u hu=>by rw[e,List.mem_singleton]at hu;rw[hu];exact h _
 rd_keep:=fun _ h=>h
 rd_mono:=fun _ h=>h
 own_len:=fun⟨_,e,_⟩=>by rw[e];rfl
 own_rd:=fun⟨_,e,o⟩ _ _=>⟨e,o⟩
 own_keep:=fun _ _ h=>h
 own_mono:=fun _ h=>h}
section pair
variable {α β:Type}[Rp α][Rp β]
@[reducible] instance Rp.pair:Rp (α×β):= {
 sz:=sz α+sz β
 ty:=0
 lty:=0
 rd w A cs x:= ∃ c d,cs=c++d/\rd w A c x.1/\rd w A d x.2
 own w A S cs x:= ∃ c d T U,cs=c++d/\S=T++U/\own w A T c x.1/\own w A U d x.2
 rd_len:=fun⟨c,d,e,h,k⟩=>by rw[e,List.length_append,rd_len h,rd_len k]
 rd_one:=fun⟨c,d,e,h,k⟩ u hu=>by
  rw[e,List.mem_append]at hu
  exact hu.elim (rd_one h u) (rd_one k u)
 rd_keep:=fun hw ⟨c,d,e,h,k⟩=>⟨c,d,e,rd_keep hw h,rd_keep hw k⟩
 rd_mono:=fun hw ⟨c,d,e,h,k⟩=>⟨c,d,e,rd_mono hw h,rd_mono hw k⟩
 own_len:=fun⟨c,d,T,U,e,_,h,k⟩=>by rw[e,List.length_append,own_len h,own_len k]
 own_rd:=fun⟨c,d,T,U,e,f,h,k⟩ hS hA=>⟨c,d,e,own_rd h (fun b hb=>hS b (by rw[f];exact List.mem_append_left _ hb)) hA,own_rd k (fun b hb=>hS b (by rw[f];exact aJ _ hb)) hA⟩
 own_keep:=fun hA hS ⟨c,d,T,U,e,f,h,k⟩=>⟨c,d,T,U,e,f,own_keep hA (fun b hb=>hS b (by rw[f];exact List.mem_append_left _ hb)) h,own_keep hA (fun b hb=>hS b (by rw[f];exact aJ _ hb)) k⟩
 own_mono:=fun hA ⟨c,d,T,U,e,f,h,k⟩=>⟨c,d,T,U,e,f,own_mono hA h,own_mono hA k⟩}
end pair
@[reducible] def Rp.iso {α β:Type} [Rp β] (ty:TypeId) (to:α->β) (lty:TypeId:=0):Rp α:= {
 sz:=sz β
 ty:=ty
 lty:=lty
 rd w A cs x:=rd w A cs (to x)
 own w A S cs x:=own w A S cs (to x)
 rd_len:=rd_len
 rd_one:=rd_one
 rd_keep:=rd_keep
 rd_mono:=rd_mono
 own_len:=own_len
 own_rd:=own_rd
 own_keep:=own_keep
 own_mono:=own_mono}
structure Shd (α:Type) where
 v:α
@[reducible] instance Rp.shd {α:Type} [Rp α]:Rp (Shd α):= {
 sz:=sz α
 ty:=ty α
 lty:=Rp.lty α
 rd w A cs x:=rd w A cs x.v
 own w A S cs x:=S=[]/\rd w A cs x.v
 rd_len:=rd_len
 rd_one:=rd_one
 rd_keep:=rd_keep
 rd_mono:=rd_mono
 own_len:=fun h=>rd_len h.2
 own_rd:=fun h _ hA=>rd_mono hA h.2
 own_keep:=fun hA _ h=>⟨h.1,rd_keep hA h.2⟩
 own_mono:=fun hA h=>⟨h.1,rd_mono hA h.2⟩}
def slA:Value->Addr
 | .slice (some a) _ _=>a
 |_=>⟨0,0,none⟩
theorem zge {β:Type}(s:Nat): ∀ (ecs:List (List β)) (i:Nat) (cs:List β),(∀ c∈ecs,c.length=s)->ecs[i]? =some cs -> ∀ j u,cs[j]? =some u->ecs.flatten[i*s+j]? =some u
 | [],i,cs,_,h,_,_,_=>by simp at h
 |e::ecs,0,cs,hl,h,j,u,hu=>by
  simp at h
  subst h
  simp only[Nat.zero_mul,Nat.zero_add,List.flatten_cons]
  rw[aM (List.getElem?_eq_some_iff.1 hu).1]
  exact hu
 |e::ecs,i+1,cs,hl,h,j,u,hu=>by
  simp at h
  have he:e.length=s:=hl e (by simp)
  rw[List.flatten_cons,aN (by rw[he,Nat.add_mul,Nat.one_mul];omega)]
  rw[show(i+1)*s+j-e.length=i*s+j by rw[he,Nat.add_mul,Nat.one_mul];omega]
  exact zge s ecs i cs (fun c hc=>hl c (by simp[hc])) h j u hu
structure Each {α:Type} (R:List Value->α->Prop) (ecs:List (List Value)) (xs:List α):Prop where
 len:ecs.length=xs.length
 at_: ∀ (i:Nat) cs x,ecs[i]? =some cs->xs[i]? =some x->R cs x
theorem Each.nil {α:Type}{R:List Value->α->Prop}:Each R [] []:=⟨rfl,fun i cs x h=>by simp at h⟩
theorem Each.append {α:Type}{R:List Value->α->Prop}{es fs:List (List Value)}{xs ys:List α}(h:Each R es xs)(k:Each R fs ys):Each R (es++fs) (xs++ys):=by
 refine⟨by simp[h.len,k.len],fun i cs x hc hx=>?_⟩
 by_cases hi:i<es.length
 ·rw[aM hi]at hc
  rw[aM (by rw[<- h.len];exact hi)]at hx
  exact h.at_ i cs x hc hx
 ·rw[aN (by omega)]at hc
  rw[aN (by rw[<- h.len];omega),<- h.len]at hx
  exact k.at_ _ cs x hc hx
theorem Each.one {α:Type}{R:List Value->α->Prop}{cs:List Value}{x:α}(h:R cs x):Each R [cs] [x]:=by
 refine⟨rfl,fun i c y hc hy=>?_⟩
 cases i with
 |zero=>simp at hc hy;subst hc;subst hy;exact h
 |succ i=>simp at hc
theorem Each.imp {α:Type}{R R':List Value->α->Prop}{es:List (List Value)}{xs:List α}(h:Each R es xs)(hr: ∀ cs x,R cs x->R' cs x):Each R' es xs:=
 ⟨h.len,fun i cs x a b=>hr _ _ (h.at_ i cs x a b)⟩
theorem Each.get {α:Type}{R:List Value->α->Prop}{es:List (List Value)}{xs:List α}(h:Each R es xs){i:Nat}{x:α}(hx:xs[i]? =some x): ∃ cs,es[i]? =some cs/\R cs x:=by
 have hi:i<es.length:=by rw[h.len];exact(List.getElem?_eq_some_iff.1 hx).1
 exact⟨es[i],aB hi,h.at_ i _ x (aB hi) hx⟩
theorem Each.mem {α:Type}{R:List Value->α->Prop}{es:List (List Value)}{xs:List α}(h:Each R es xs){cs:List Value}(hc:cs∈es): ∃ x,R cs x:=by
 obtain⟨i,hi⟩:=List.getElem?_of_mem hc
 have hl:i<xs.length:=by rw[<- h.len];exact(List.getElem?_eq_some_iff.1 hi).1
 exact⟨xs[i],h.at_ i cs _ hi (aB hl)⟩
theorem Each.set {α:Type}{R:List Value->α->Prop}{es:List (List Value)}{xs:List α}(h:Each R es xs){i:Nat}{cs:List Value}{x:α}(hr:R cs x):Each R (es.set i cs) (xs.set i x):=by
 refine⟨by simp[h.len],fun j c y hc hy=>?_⟩
 by_cases e:i=j
 ·subst e
  by_cases hl:i<es.length
  ·have hl':i<xs.length:=by rw[<- h.len];exact hl
   simp[hl]at hc
   simp[hl']at hy
   subst hc;subst hy;exact hr
  ·simp[List.getElem?_eq_none (show(es.set i cs).length<=i by simpa using hl)]at hc
 ·rw[List.getElem?_set_ne e]at hc hy
  exact h.at_ j c y hc hy
section list
variable {α:Type}[Rp α]
structure OwnRow (w:World) (A:Nat->Prop) (S:List Nat) (v:Value) (xs:List α) (ecs:List (List Value)) (Ss:List (List Nat)):Prop where
 row:w.ownsRow 0 (ty α) (sz α) v xs.length ecs.flatten
 S:S=v.ownBlock.toList++Ss.flatten
 elen:ecs.length=xs.length
 slen:Ss.length=xs.length
 at_: ∀ (i:Nat) cs x T,ecs[i]? =some cs->xs[i]? =some x->Ss[i]? =some T->own w A T cs x
theorem OwnRow.len {w:World}{A:Nat->Prop}{S:List Nat}{v:Value}{xs:List α}{ecs:List (List Value)}{Ss:List (List Nat)}(h:OwnRow w A S v xs ecs Ss): ∀ c∈ecs,c.length=sz α:=by
 intro c hc
 obtain⟨i,hi⟩:=List.getElem?_of_mem hc
 have hl:=(List.getElem?_eq_some_iff.1 hi).1
 have h1:i<xs.length:=by rw[<- h.elen];exact hl
 have h2:i<Ss.length:=by rw[h.slen];exact h1
 exact own_len (h.at_ i c _ _ hi (aB h1) (aB h2))
@[reducible] instance Rp.list:Rp (List α):= {
 sz:=1
 ty:=Rp.lty α
 lty:=0
 rd w A cs xs:= ∃ ad cap,cs=[.slice ad xs.length cap]/\xs.length<=cap/\cap<=maxLen/\(0<xs.length -> ∃ a,ad=some a/\A a.block)/\
  ∀ (i:Nat) x,xs[i]? =some x -> ∃ ecs,zdb w ((slA (.slice ad xs.length cap)).add (i*sz α)) ecs/\rd w A ecs x
 own w A S cs xs:= ∃ v ecs Ss,cs=[v]/\OwnRow w A S v xs ecs Ss
 rd_len:=fun⟨_,_,e,_⟩=>by rw[e];rfl
 rd_one:=fun⟨_,_,e,_⟩ u hu=>by rw[e,List.mem_singleton]at hu;rw[hu];rfl
 rd_keep:=fun {w w' A cs xs} hw ⟨ad,cap,e,hc,hm,ha,hx⟩=>⟨ad,cap,e,hc,hm,ha,fun i x hi=>by
  obtain⟨ecs,h1,h2⟩:=hx i x hi
  refine⟨ecs,h1.keep ?_,rd_keep hw h2⟩
  obtain⟨a,rfl,hb⟩:=ha (by have:=(List.getElem?_eq_some_iff.1 hi).1;omega)
  rw[zfo]
  exact hw _ hb⟩
 rd_mono:=fun hw ⟨ad,cap,e,hc,hm,ha,hx⟩=>⟨ad,cap,e,hc,hm,fun h=>let ⟨a,h1,h2⟩:=ha h;⟨a,h1,hw _ h2⟩,fun i x hi=>let ⟨ecs,h1,h2⟩:=hx i x hi;⟨ecs,h1,rd_mono hw h2⟩⟩
 own_len:=fun⟨_,_,_,e,_⟩=>by rw[e];rfl
 own_rd:=fun {w A A' S cs xs} ⟨v,ecs,Ss,e,h⟩ hS hA=>by
  subst e
  have hmem: ∀ b,v.ownBlock=some b->A' b:=fun b hb=>hS b (by rw[h.S,hb];simp)
  have helt: ∀ (i:Nat) x,xs[i]? =some x -> ∃ cs,ecs[i]? =some cs/\rd w A' cs x:=by
   intro i x hi
   have hl:=(List.getElem?_eq_some_iff.1 hi).1
   have h1:i<ecs.length:=by rw[h.elen];exact hl
   have h2:i<Ss.length:=by rw[h.slen];exact hl
   refine⟨ecs[i],aB h1,own_rd (h.at_ i _ x Ss[i] (aB h1) hi (aB h2)) (fun b hb=>hS b ?_) hA⟩
   rw[h.S]
   exact aJ _ (List.mem_flatten.2 ⟨Ss[i],List.getElem_mem h2,hb⟩)
  rcases h.row.2 with ⟨rfl,hn⟩ |⟨g,cap,cur,rfl,_,_,hc,hm,_⟩
  ·exact⟨none,0,by rw[hn],by omega,Nat.zero_le _,fun hp=>by omega,fun i x hi=>by have:=(List.getElem?_eq_some_iff.1 hi).1;omega⟩
  ·refine⟨some ⟨g,0,none⟩,cap,rfl,hc,hm,fun _=>⟨_,rfl,hmem g rfl⟩,fun i x hi=>?_⟩
   obtain⟨cs,hcs,hr⟩:=helt i x hi
   refine⟨cs,fun j u hu=>?_,hr⟩
   rw[zfE]
   exact h.row.cells (g:=g) rfl _ u (zge (sz α) ecs i cs h.len hcs j u hu)
 own_keep:=fun {w w' A S cs xs} hA hS ⟨v,ecs,Ss,e,h⟩=>by
  refine⟨v,ecs,Ss,e,?_,h.S,h.elen,h.slen,fun i cs x T h1 h2 h3=>own_keep hA (fun b hb=>hS b ?_) (h.at_ i cs x T h1 h2 h3)⟩
  ·refine⟨h.row.1,?_⟩
   rcases h.row.2 with hn |⟨g,cap,cur,rfl,hb,hg,rest⟩
   ·exact .inl hn
   ·exact .inr ⟨g,cap,cur,rfl,hb,by rw[hS g (by rw[h.S];simp[Value.ownBlock])];exact hg,rest⟩
  ·rw[h.S]
   exact aJ _ (List.mem_flatten.2 ⟨T,aH h3,hb⟩)
 own_mono:=fun hA ⟨v,ecs,Ss,e,h⟩=>⟨v,ecs,Ss,e,h.row,h.S,h.elen,h.slen,fun i cs x T h1 h2 h3=>own_mono hA (h.at_ i cs x T h1 h2 h3)⟩}
end list
structure CW where
 w:World
 c:Nat->Nat
structure Le (L:List Nat) (W W':CW):Prop where
 os:W'.w.os=W.w.os
 tape:W'.w.tape=W.w.tape
 output:W'.w.output=W.w.output
 size:W.w.heap.size<=W'.w.heap.size
 keep: ∀ b,b<W.w.heap.size->W.c b∉L->W'.w.heap[b]? =W.w.heap[b]? /\W'.c b=W.c b
theorem Le.refl (L:List Nat)(W:CW):Le L W W:=⟨rfl,rfl,rfl,Nat.le_refl _,fun _ _ _=>⟨rfl,rfl⟩⟩
theorem Le.trans {L:List Nat}{A B C:CW}(h:Le L A B)(k:Le L B C):Le L A C:=
 ⟨k.os.trans h.os,k.tape.trans h.tape,k.output.trans h.output,Nat.le_trans h.size k.size,fun b hb hc=>by
  obtain⟨h1,h2⟩:=h.keep b hb hc
  obtain⟨k1,k2⟩:=k.keep b (Nat.lt_of_lt_of_le hb h.size) (by rw[h2];exact hc)
  exact⟨k1.trans h1,k2.trans h2⟩⟩
def zkq (L M:List Nat):Bool:=L.all fun a=>M.any (Nat.beq a)
def zem (L M:List Nat):Bool:=L.all fun a=> !M.any (Nat.beq a)
theorem zf8 {L M:List Nat}(h:zkq L M=true){a:Nat}(ha:a∈L):a∈M:=by
 unfold zkq at h
 rw[List.all_eq_true]at h
 have:=h a ha
 rw[List.any_eq_true]at this
 obtain⟨x,hx,hb⟩:=this
 rw[Nat.eq_of_beq_eq_true hb]
 exact hx
theorem zcM {L M:List Nat}(h:zem L M=true){a:Nat}(ha:a∈L):a∉M:=by
 unfold zem at h
 rw[List.all_eq_true]at h
 have:=h a ha
 intro hm
 rw[Bool.not_eq_true',List.any_eq_false]at this
 exact this a hm (by simp)
theorem Le.sub {L M:List Nat}{W W':CW}(h:Le L W W')(hs:zkq L M=true):Le M W W':=
 ⟨h.os,h.tape,h.output,h.size,fun b hb hc=>h.keep b hb (fun hl=>hc (zf8 hs hl))⟩
theorem Le.nil {M:List Nat}{W W':CW}(h:Le [] W W'):Le M W W':=
 ⟨h.os,h.tape,h.output,h.size,fun b hb _=>h.keep b hb (by simp)⟩
def AK (W:CW)(K:List Nat):Nat->Prop:=fun b=>b<W.w.heap.size/\W.c b∈K
section
variable {α:Type}[Rp α]{W W':CW}{K L:List Nat}{cs:List Value}{x:α}{k:Nat}
def Rd (W:CW)(K:List Nat)(cs:List Value)(x:α):Prop:=rd W.w (AK W K) cs x
def At (W:CW)(K:List Nat)(p:Addr)(x:α):Prop:=AK W K p.block /\ ∃ cs,zdb W.w p cs/\Rd W K cs x
def Ow (W:CW)(k:Nat)(K:List Nat)(cs:List Value)(x:α):Prop:= ∃ S,own W.w (AK W K) S cs x/\S.Nodup /\ ∀ b∈S,b<W.w.heap.size/\W.c b=k
theorem AK.up (l:Le L W W')(hd:zem K L=true){b:Nat}(h:AK W K b):W'.w.heap[b]? =W.w.heap[b]? /\AK W' K b:=by
 obtain⟨h1,h2⟩:=l.keep b h.1 (zcM hd h.2)
 exact⟨h1,Nat.lt_of_lt_of_le h.1 l.size,by rw[h2];exact h.2⟩
theorem Rd.up (h:Rd W K cs x)(l:Le L W W')(hd:zem K L=true:=by rfl):Rd W' K cs x:=
 rd_mono (fun _ hb=>(AK.up l hd hb).2) (rd_keep (fun _ hb=>(AK.up l hd hb).1) h)
theorem Rd.sub {M:List Nat}(h:Rd W K cs x)(hs:zkq K M=true):Rd W M cs x:=rd_mono (fun _ hb=>⟨hb.1,zf8 hs hb.2⟩) h
theorem At.up {p:Addr}(h:At W K p x)(l:Le L W W')(hd:zem K L=true:=by rfl):At W' K p x:=by
 obtain⟨ha,cs,hc,hr⟩:=h
 exact⟨(AK.up l hd ha).2,cs,hc.keep (AK.up l hd ha).1,hr.up l hd⟩
theorem Ow.up (h:Ow W k K cs x)(l:Le L W W')(hd:zem (k::K) L=true:=by rfl):Ow W' k K cs x:=by
 obtain⟨S,ho,hn,hs⟩:=h
 have hk:k∉L:=zcM hd (by simp)
 have hK:zem K L=true:=by
  unfold zem at hd ⊢
  rw[List.all_cons,aG]at hd
  exact hd.2
 refine⟨S,own_mono (fun _ hb=>(AK.up l hK hb).2) (own_keep (fun _ hb=>(AK.up l hK hb).1) (fun b hb=>(l.keep b (hs b hb).1 (by rw[(hs b hb).2];exact hk)).1) ho),hn,fun b hb=>?_⟩
 have:=l.keep b (hs b hb).1 (by rw[(hs b hb).2];exact hk)
 exact⟨Nat.lt_of_lt_of_le (hs b hb).1 l.size,this.2.trans (hs b hb).2⟩
theorem Ow.rd (h:Ow W k K cs x):Rd W (k::K) cs x:=by
 obtain⟨S,ho,_,hs⟩:=h
 exact own_rd ho (fun b hb=>⟨(hs b hb).1,by rw[(hs b hb).2];simp⟩) (fun b hb=>⟨hb.1,List.mem_cons_of_mem _ hb.2⟩)
end
open Go Go.RowKit Rp
class Und (P:Program) (t:TypeId) (d:outParam TypeDesc):Prop where
 h:P.underlying t=some d
class Inf (P:Program) (t:TypeId) (s b:outParam Nat) (z:outParam Value):Prop where
 h:(P.info? t).map (fun i=>(i.zero,i.size,i.bytes))=some (some z,s,b)
class Fld (P:Program) (s f:Nat) (off:outParam Nat):Prop where
 h: ∃ fs fd i,P.underlying s=some (.struct fs)/\fs[f]? =some fd/\fd.offset=off/\P.info? fd.type=some i/\i.size≠0
class Fun (P:Program) (f:FuncId):Prop where
 h : ∃ fn, P.funcs[f]? = some fn /\ fn.body.isNone = false /\ (fn.name == "runtime.NumGoroutine") = false
def Run (P:Program)(ρ:Env)(w:World)(op:Op)(ty:TypeId)(v:Value):Prop:= ∀ o:Oper,o.op=op->o.type=ty->(execOp (ev ρ) o).run P w = .ok (.value v) w
def Tr (P:Program)(ρ:Env)(w:World)(op:Op)(ty:TypeId)(R:Value->World->Prop):Prop:=
 ∀ o:Oper,o.op=op->o.type=ty -> ∀ (a:Act) (K:Act->World->Prop) (Q:Exit->Act->World->Prop),a.eval=ev ρ->(∀ v w',R v w'->K (a.put o.dst v) w')->o.wp P a w K Q
section
variable {P:Program}{n:Nat}{Q:Env->World->Prop}{ρ:Env}{w w':World}{ops:Array Oper}{rest:List Oper}{op:Op}{ty d:Nat}{pos:String}{af:Array Edge}{R:Value->World->Prop}{v:Value}
theorem Run.tr (h:Run P ρ w op ty v):Tr P ρ w op ty (fun u w'=>u=v/\w'=w):=fun o h1 h2 a K Q ha hk=>by
 unfold Oper.wp
 rw[ha,h o h1 h2]
 exact hk _ _ ⟨rfl,rfl⟩
theorem Tr.of_run (h: ∀ o:Oper,o.op=op->o.type=ty -> ∃ v w',(execOp (ev ρ) o).run P w = .ok (.value v) w'/\R v w'):Tr P ρ w op ty R:=fun o h1 h2 a K Q ha hk=>by
 obtain⟨v,w',hr,hR⟩:=h o h1 h2
 unfold Oper.wp
 rw[ha,hr]
 exact hk _ _ hR
theorem Tr.of_unit (h: ∀ o:Oper,o.op=op->o.type=ty -> ∃ w',(execOp (ev ρ) o).run P w = .ok .skip w'/\R undef w'):Tr P ρ w op ty R:=fun o h1 h2 a K Q ha hk=>by
 obtain⟨w',hr,hR⟩:=h o h1 h2
 unfold Oper.wp
 rw[ha,hr]
 exact hk _ _ hR
theorem Tr.mono {R':Value->World->Prop}(h:Tr P ρ w op ty R)(hr: ∀ v w',R v w'->R' v w'):Tr P ρ w op ty R':=fun o h1 h2 a K Q ha hk=>h o h1 h2 a K Q ha fun v w' hR=>hk v w' (hr v w' hR)
theorem Lw.r (hd:Nat.blt d n=true)(hr:Run P ρ w op ty v)(h:Lw P n ops rest Q (ρ.up d v) w):Lw P n ops (⟨some d,op,ty,pos,af,none⟩::rest) Q ρ w:=
 Lw.value rfl rfl hd (hr _ rfl rfl) h
theorem Lw.t (hd:Nat.blt d n=true)(hr:Tr P ρ w op ty R)(h: ∀ v w',R v w'->Lw P n ops rest Q (ρ.up d v) w'):Lw P n ops (⟨some d,op,ty,pos,af,none⟩::rest) Q ρ w:=fun a ha=>
 wpList_plain rfl fun K hK=>hr _ rfl rfl a K _ ha.evalF fun v w' hR=>hK _ _ (h v w' hR _ (ha.put hd v))
theorem Lw.u (hr:Tr P ρ w op ty R)(h: ∀ v w',R v w'->Lw P n ops rest Q ρ w'):Lw P n ops (⟨none,op,ty,pos,af,none⟩::rest) Q ρ w:=fun a ha=>
 wpList_plain rfl fun K hK=>hr _ rfl rfl a K _ ha.evalF fun v w' hR=>hK _ _ (h v w' hR _ ha)
variable {x y c:Operand}{t t':TypeId}{k:IntKind}{a b:Int}
theorem R.mv (h:ev ρ x=v):Run P ρ w (.move x) ty v:=fun o h1 _=>by simp only[execOp,h1,h];rfl
theorem R.as (h:ev ρ x=v):Run P ρ w (.assign x) ty v:=fun o h1 _=>by simp only[execOp,h1,h];rfl
theorem R.pick {q:Bool}(hc:ev ρ c = .bool q)(hx:q=true->ev ρ x=v)(hy:q=false->ev ρ y=v):Run P ρ w (.pick c x y) ty v:=fun o h1 _=>by
 cases q with
 |true=>simp[execOp,h1,hc,asBool,hx rfl]
 |false=>simp[execOp,h1,hc,asBool,hy rfl]
theorem R.bin {op:BinOp}{u u':Value}(hx:ev ρ x=u)(hy:ev ρ y=u')(hg:(eqGuard op t x y u u').run P w = .ok () w)(hr:(binOp op t u u').run P w = .ok v w):Run P ρ w (.binOp op t x y t') ty v:=fun o h1 _=>by
 simp[execOp,h1,hx,hy,hg,hr]
theorem zeg (op:BinOp)(t:TypeId)(x y:Operand)(k:IntKind)(a:Int)(u:Value)(w:World):(eqGuard op t x y (.int k a) u).run P w = .ok () w:=by rw[eqGuard_at_int];rfl
theorem zhc (op:BinOp)(t:TypeId)(x y:Operand)(s:ByteArray)(u:Value)(w:World):(eqGuard op t x y (.string s) u).run P w = .ok () w:=by rw[eqGuard_at_string];rfl
theorem zlK (op:BinOp)(t:TypeId)(x y:Operand)(s:Bool)(u:Value)(w:World):(eqGuard op t x y (.bool s) u).run P w = .ok () w:=by rw[eqGuard_at_bool];rfl
section ints
variable (hx:ev ρ x = .int k a)(hy:ev ρ y = .int k b)
include hx hy
theorem R.add:Run P ρ w (.binOp .add t x y t') ty (.int k (k.wrap (a+b))):=R.bin hx hy (zeg ..) (by simp[binOp,Op.intArith])
theorem R.sub:Run P ρ w (.binOp .sub t x y t') ty (.int k (k.wrap (a-b))):=R.bin hx hy (zeg ..) (by simp[binOp,Op.intArith])
theorem R.mul:Run P ρ w (.binOp .mul t x y t') ty (.int k (k.wrap (a*b))):=R.bin hx hy (zeg ..) (by simp[binOp,Op.intArith])
theorem R.quo (hb:b≠0):Run P ρ w (.binOp .quo t x y t') ty (.int k (k.wrap (a.tdiv b))):=R.bin hx hy (zeg ..) (by simp[binOp,Op.intDiv,hb])
theorem R.rem (hb:b≠0):Run P ρ w (.binOp .rem t x y t') ty (.int k (a.tmod b)):=R.bin hx hy (zeg ..) (by simp[binOp,Op.intDiv,hb])
theorem R.xor:Run P ρ w (.binOp .xor t x y t') ty (.int k (k.wrap (BitVec.ofInt k.bits a ^^^ BitVec.ofInt k.bits b).toNat)):=R.bin hx hy (zeg ..) (by simp[binOp,Op.intBits])
theorem R.eq:Run P ρ w (.binOp .eql t x y t') ty (.bool (a==b)):=R.bin hx hy (zeg ..) (by simp[binOp,Op.intCmp])
theorem R.ne:Run P ρ w (.binOp .neq t x y t') ty (.bool (a !=b)):=R.bin hx hy (zeg ..) (by simp[binOp,Op.intCmp])
theorem R.lt:Run P ρ w (.binOp .lss t x y t') ty (.bool (decide (a<b))):=R.bin hx hy (zeg ..) (by simp[binOp,Op.intCmp])
theorem R.le:Run P ρ w (.binOp .leq t x y t') ty (.bool (decide (a<=b))):=R.bin hx hy (zeg ..) (by simp[binOp,Op.intCmp])
theorem R.gt:Run P ρ w (.binOp .gtr t x y t') ty (.bool (decide (b<a))):=R.bin hx hy (zeg ..) (by simp[binOp,Op.intCmp])
theorem R.ge:Run P ρ w (.binOp .geq t x y t') ty (.bool (decide (b<=a))):=R.bin hx hy (zeg ..) (by simp[binOp,Op.intCmp])
end ints
section strs
variable {s r:Str}(hx:ev ρ x=vS s)(hy:ev ρ y=vS r)
include hx hy
theorem R.sadd (hl:s.length+r.length<=9223372036854775807):Run P ρ w (.binOp .add t x y t') ty (vS (s++r)):=R.bin hx hy (zhc ..) (by
 have h0:((ByteArray.mk s.toArray).size+(ByteArray.mk r.toArray).size:Nat)=s.length+r.length:=by simp[ByteArray.size]
 have h1: ¬ (((ByteArray.mk s.toArray).size+(ByteArray.mk r.toArray).size:Nat):Int)>IntKind.i64.max:=by rw[h0,IntKind.max_i64];omega
 have h2:(ByteArray.mk s.toArray++ByteArray.mk r.toArray)=ByteArray.mk (s++r).toArray:=by ext1;simp
 simp only[binOp,Op.stringOp,if_neg h1,Sem.run_pure,h2])
theorem R.seq:Run P ρ w (.binOp .eql t x y t') ty (.bool (s==r)):=R.bin hx hy (zhc ..) (by simp[binOp,Op.stringOp])
theorem R.sne:Run P ρ w (.binOp .neq t x y t') ty (.bool (s !=r)):=R.bin hx hy (zhc ..) (by simp[binOp,Op.stringOp,bne])
theorem R.slt:Run P ρ w (.binOp .lss t x y t') ty (.bool (Op.bytesLess s r)):=R.bin hx hy (zhc ..) (by simp[binOp,Op.stringOp])
theorem R.sle:Run P ρ w (.binOp .leq t x y t') ty (.bool (Op.bytesLess s r||s==r)):=R.bin hx hy (zhc ..) (by simp[binOp,Op.stringOp])
theorem R.sge:Run P ρ w (.binOp .geq t x y t') ty (.bool (!Op.bytesLess s r)):=R.bin hx hy (zhc ..) (by simp[binOp,Op.stringOp])
end strs
section bools
variable [hU:Und P t .bool]{p q:Bool}(hx:ev ρ x = .bool p)(hy:ev ρ y = .bool q)
include hx hy hU
theorem R.beq:Run P ρ w (.binOp .eql t x y t') ty (.bool (p==q)):=R.bin hx hy (zlK ..) (run_eql_bool w t p q hU.h)
theorem R.bne:Run P ρ w (.binOp .neq t x y t') ty (.bool (p !=q)):=R.bin hx hy (zlK ..) (run_neq_bool w t p q hU.h)
end bools
class Ssi (P:Program) (t:TypeId):Prop where
 st:P.stoodInHeld t=false
 gd:P.eqGuardType P.depth t=false
 fs : ∃ f g, P.underlying t = some (.struct #[f, g]) /\ f.name ≠ "_" /\ g.name ≠ "_" /\ f.offset = 0 /\ g.offset = 1 /\ P.underlying f.type = some .string /\ ∃ k, P.underlying g.type = some (.int k)
theorem R.hne [hU:Ssi P t]{a b:Str}{i j:Int}{k:IntKind}(hx:ev ρ x = .agg [vS a, .int k i].toArray)(hy:ev ρ y = .agg [vS b, .int k j].toArray):
 Run P ρ w (.binOp .neq t x y t') ty (.bool (!(a==b&&i==j))):=R.bin hx hy (run_eqGuard_agg w _ _ _ _ _ _ hU.gd) (by
 obtain⟨f,g,hu,n1,n2,o1,o2,u1,k',u2⟩:=hU.fs
 have hF:P.fieldsOf t = #[f,g]:=by unfold Program.fieldsOf;rw[hu]
 have q1: ∀ (cs:Array Value) (v:Value),cs[0]? =some v->(part f.type cs f.offset).run P w = .ok v w:=fun cs v h=>by
  rw[o1]
  simp[part,isAgg,run_underlying u1,h]
 have q2: ∀ (cs:Array Value) (v:Value),cs[1]? =some v->(part g.type cs g.offset).run P w = .ok v w:=fun cs v h=>by
  rw[o2]
  simp[part,isAgg,run_underlying u2,h]
 have e2: ∀ m,(Op.equalIn (m+1) g.type (.int k i) (.int k j)).run P w = .ok (i==j) w:=fun m=>run_equalIn_int w m _ _ _ _ _ u2
 have e1: ∀ m,(Op.equalIn (m+1) f.type (vS a) (vS b)).run P w = .ok (a==b) w:=fun m=>by
  refine(run_equalIn_string w m _ _ _ u1).trans ?_
  rw[<- beq_toListBytes]
  have:((⟨a.toArray⟩:ByteArray)==⟨b.toArray⟩)=(a==b):=by
   show((⟨a⟩:Array UInt8)==⟨b⟩)=(a==b)
   simp
  rw[this]
 rw[run_neq_struct,show(10000:Nat)=9999+1 from rfl,run_equalIn_agg w 9999 t _ _ (by rw[hF];exact hu) hU.st,hF]
 simp only[Op.eqFields,if_pos n1,if_pos n2,Sem.run_bind]
 rw[q1 _ (vS a) rfl,Result.andThen_ok,q1 _ (vS b) rfl,Result.andThen_ok,show(9999:Nat)=9998+1 from rfl,e1,Result.andThen_ok]
 cases hab:a==b with
 |false=>simp
 |true=>
  simp only[aK,Bool.false_eq_true,if_false,Sem.run_bind]
  rw[q2 _ (.int k i) rfl,Result.andThen_ok,q2 _ (.int k j) rfl,Result.andThen_ok,e2,Result.andThen_ok]
  cases i==j<;>simp)
theorem R.not {q:Bool}(hx:ev ρ x = .bool q):Run P ρ w (.unOp .not t x) ty (.bool (!q)):=fun o h1 _=>by simp[execOp,h1,hx,Op.unary]
theorem R.neg (hx:ev ρ x = .int k a):Run P ρ w (.unOp .neg t x) ty (.int k (k.wrap (0-a))):=fun o h1 _=>by simp[execOp,h1,hx,Op.unary,Op.intArith]
theorem bsz (s:Str):(ByteArray.mk s.toArray).size=s.length:=by simp[ByteArray.size]
theorem zqa {u:Value}(hx:ev ρ x=u)(hr:(Builtin.len_ #[t] ty #[u]).run P w = .ok v w):Run P ρ w (.call ⟨.builtin .len,#[x],#[t]⟩) ty v:=fun o h1 h2=>by
 simp only[execOp,h1,h2,resolve,invoke,builtin,Sem.run_bind,Sem.run_pure,Result.andThen_ok,List.map_toArray,List.map_cons,List.map_nil,hx,hr]
theorem R.lenS [hU:Und P t .string]{s:Str}(hx:ev ρ x=vS s):Run P ρ w (.call ⟨.builtin .len,#[x],#[t]⟩) ty (vI s.length):=zqa hx (by
 have key: ∀ z:ByteArray,(Builtin.len_ #[t] ty #[.string z]).run P w = .ok (goInt z.size) w:=fun z=>by simp[Builtin.len_,run_underlying hU.h]
 exact(key _).trans (by rw[bsz];rfl))
theorem R.lenV {e:TypeId}[hU:Und P t (.slice e)]{ad:Option Addr}{l cp:Nat}(hx:ev ρ x = .slice ad l cp):Run P ρ w (.call ⟨.builtin .len,#[x],#[t]⟩) ty (vI l):=zqa hx (by
 simp[Builtin.len_,run_underlying hU.h,goInt])
theorem R.ext {vs:List Value}{i:Nat}(hx:ev ρ x = .tuple vs.toArray)(hv:vs[i]? =some v):Run P ρ w (.extract x i) ty v:=fun o h1 _=>by
 simp[execOp,h1,hx,Instr.extract,hv]
theorem R.fa {s f off:Nat}[hF:Fld P s f off]{p:Addr}(hx:ev ρ x = .pointer (some p)):Run P ρ w (.fieldAddr s x f) ty (.pointer (some (p.add off))):=fun o h1 _=>by
 obtain⟨fs,fd,i,hu,hf,ho,hi,hs⟩:=hF.h
 subst ho
 simp[execOp,h1,hx,Instr.fieldAt,run_underlying hu,hf,Instr.sureAddr,fieldPlace,sizeOf,typeInfo,hi,hs]
theorem R.nc {p:Addr}(hx:ev ρ x = .pointer (some p)):Run P ρ w (.nilCheck x) ty (.pointer (some p)):=fun o h1 _=>by simp[execOp,h1,hx]
theorem R.chr {s:Str}{i:Int}[hU:Und P t .string]{u:UInt8}(hx:ev ρ x=vS s)(hy:ev ρ y = .int k i)(h0:0<=i)(hu:s[i.toNat]? =some u):Run P ρ w (.index t x y) ty (.int .u8 u.toNat):=fun o h1 _=>by
 have hb:(ByteArray.mk s.toArray)[i.toNat]? =some u:=by
  rw[List.getElem?_eq_some_iff]at hu
  obtain⟨hl,e⟩:=hu
  have hs:i.toNat< (ByteArray.mk s.toArray).size:=by rw[bsz];exact hl
  rw[getElem?_pos (ByteArray.mk s.toArray) i.toNat hs]
  simp[<- e,ByteArray.getElem_eq_getElem_data]
 simp[execOp,h1,hx,hy,Instr.index,asIntOf,run_underlying hU.h,h0,hb]
theorem R.subS {s:Str} [hU:Und P t .string] {lo hi:Option Operand} {l h:Nat} (hx:ev ρ x=vS s)
 (hl:(lo.map (ev ρ)=none/\l=0) \/ ∃ i:Int,lo.map (ev ρ)=some (vI i)/\0<=i/\l=i.toNat) (hh:(hi.map (ev ρ)=none/\h=s.length) \/ ∃ i:Int,hi.map (ev ρ)=some (vI i)/\0<=i/\h=i.toNat)
 (hlh:l<=h) (hhs:h<=s.length):Run P ρ w (.slice t x lo hi none) ty (vS ((s.take h).drop l)):=fun o h1 _=>by
 have hsz:=bsz s
 have hex:(ByteArray.mk s.toArray).extract l h=ByteArray.mk ((s.take h).drop l).toArray:=by
  ext1
  simp only[ByteArray.data_extract]
  apply Array.ext'
  simp[List.extract_eq_take_drop,List.drop_take]
 have hb:(Instr.sliceBounds false s.length s.length (lo.map (ev ρ)) (hi.map (ev ρ)) none).run P w = .ok (l,h,s.length) w:=by
  rcases hl with ⟨e,rfl⟩ |⟨i,e,h0,rfl⟩<;>rcases hh with ⟨e',rfl⟩ |⟨j,e',h0',rfl⟩<;>rw[e,e']
  ·simp[Instr.sliceBounds]
  ·simp[Instr.sliceBounds,Instr.sliceBound,asIntOf,h0',(by omega:j<=(s.length:Int))]
  ·simp[Instr.sliceBounds,Instr.sliceBound,asIntOf,h0,(by omega:i<=(s.length:Int))]
  ·have e1:(j.toNat:Int)=j:=by omega
   simp[Instr.sliceBounds,Instr.sliceBound,asIntOf,h0,h0',(by omega:j<=(s.length:Int)),e1,(by omega:i<=j)]
 simp only[execOp,h1,hx,Option.map_none,Instr.sliceAt,Sem.run_bind,run_underlying hU.h,Result.andThen_ok,Instr.slice,Option.isSome_none,Bool.false_eq_true,if_false,hsz,hb,Sem.run_pure,hex]
theorem R.cvI {s d:TypeId}{k':IntKind}{d0:TypeDesc}[hs:Und P s d0][hd:Und P d (.int k')](hx:ev ρ x = .int k a)(hn:(match d0 with | .slice _ | .pointer _ | .unsafePointer=>false |_=>true)=true):Run P ρ w (.convert s d x) ty (.int k' (k'.wrap a)):=fun o h1 _=>by
 simp only[execOp,h1,hx,convert,Sem.run_bind,run_underlying hs.h,run_underlying hd.h,Result.andThen_ok]
 cases d0<;>simp_all [Conv.intToInt]
end
section read
variable {α β:Type}[Rp α][Rp β]{W:CW}{K:List Nat}{v:Value}{xs:List α}{i:Int}{x:α}{p:Addr}{cs:List Value}
theorem Rd.slice_form (h:Rd W K [v] xs): ∃ ad cap,v = .slice ad xs.length cap/\xs.length<=cap/\cap<=maxLen:=by
 obtain⟨ad,cap,e,h1,h2,_⟩:=h
 exact⟨ad,cap,by simpa using e,h1,h2⟩
theorem Rd.at_ (h:Rd W K [v] xs)(hx:gi xs i=some x):At W K ((slA v).add (i.toNat*sz α)) x:=by
 obtain⟨h0,hi,hl⟩:=zgC hx
 obtain⟨ad,cap,e,_,_,ha,hx⟩:=h
 have e':v = .slice ad xs.length cap:=by simpa using e
 subst e'
 obtain⟨a,rfl,hb⟩:=ha (by omega)
 obtain⟨ecs,h1,h2⟩:=hx _ x hi
 exact⟨by rw[zfo];exact hb,ecs,h1,h2⟩
theorem At.cell (h:At W K p x)(hs:sz α=1): ∃ v,W.w.cell? p=some v/\Rd W K [v] x:=by
 obtain⟨_,cs,hc,hr⟩:=h
 have hl:=rd_len hr
 rw[hs]at hl
 match cs,hl with
 | [v],_=>
  have:=hc 0 v rfl
  rw[show p.add 0=p by simp[Addr.add]]at this
  exact⟨v,this,hr⟩
theorem At.cells (h:At W K p x): ∃ cs,zdb W.w p cs/\cs.length=sz α/\Rd W K cs x:=by
 obtain⟨_,cs,hc,hr⟩:=h
 exact⟨cs,hc,rd_len hr,hr⟩
theorem At.fst {y:β}(h:At W K p (x,y)):At W K p x:=by
 obtain⟨ha,cs,hc,c,d,rfl,h1,_⟩:=h
 exact⟨ha,c,hc.left,h1⟩
theorem At.snd {y:β}(h:At W K p (x,y)):At W K (p.add (sz α)) y:=by
 obtain⟨ha,cs,hc,c,d,rfl,h1,h2⟩:=h
 have h1':c.length=sz α:=rd_len h1
 exact⟨by rw[zfo];exact ha,d,by rw[<- h1'];exact hc.right,h2⟩
theorem Rd.split {y:β}(h:Rd W K cs (x,y)): ∃ c d,cs=c++d/\Rd W K c x/\Rd W K d y:=h
theorem Rd.join {c d:List Value}{y:β}(h:Rd W K c x)(k:Rd W K d y):Rd W K (c++d) (x,y):=⟨c,d,rfl,h,k⟩
theorem Rd.one (h:Rd W K cs x)(hs:sz α=1): ∃ v,cs=[v]/\v.oneCell'=true:=by
 have hl:=rd_len h
 rw[hs]at hl
 match cs,hl with
 | [v],_=>exact⟨v,rfl,rd_one h v (by simp)⟩
end read
section runs
variable {P:Program}{ρ:Env}{w:World}{ty:TypeId}{v:Value}{x y:Operand}{t e:TypeId}{p:Addr}{α:Type}[Rp α]{W:CW}{K:List Nat}{k:IntKind}{i:Int}
theorem Inf.get {s b:Nat}{z:Value}(h:Inf P t s b z): ∃ i,P.info? t=some i/\i.zero=some z/\i.size=s/\i.bytes=b:=by
 have h:=h.h
 cases hi:P.info? t with
 |none=>rw[hi]at h;simp at h
 |some i=>
  rw[hi]at h
  simp only[Option.map_some,Option.some.injEq,Prod.mk.injEq]at h
  exact⟨i,rfl,h.1,h.2.1,h.2.2⟩
theorem R.ix {s b:Nat}{z:Value}[hU:Und P t (.slice e)][hI:Inf P e s b z]{xs:List α}{u:α}(h:Rd W K [v] xs)(hg:gi xs i=some u)(hs:s=sz α)(hx:ev ρ x=v)(hy:ev ρ y = .int k i):
 Run P ρ w (.indexAddr t x y) ty (.pointer (some ((slA v).add (i.toNat*sz α)))):=fun o h1 _=>by
 obtain⟨h0,hi,hl⟩:=zgC hg
 obtain⟨j,hj,hz,hjs,hb⟩:=hI.get
 have hat:=h.at_ hg
 obtain⟨ad,cap,e',_,_,ha,_⟩:=h
 have e'':v = .slice ad xs.length cap:=by simpa using e'
 subst e''
 obtain⟨a,rfl,_⟩:=ha (by omega)
 simp only[execOp,h1,hx,hy,Instr.indexAt,asIntOf,Sem.run_bind,Sem.run_pure,Result.andThen_ok,run_underlying hU.h,sizeOf,typeInfo,run_program,hj,Sem.run_ite]
 rw[if_pos ⟨h0,by omega⟩]
 simp[hjs,hs,slA]
def zsk:TypeDesc->Bool
 | .struct _ | .array _ _=>false
 |_=>true
theorem zlc {d:TypeDesc}(h:Und P t d):(isAgg t).run P w = .ok (!zsk d) w:=by
 simp only[isAgg,Sem.run_bind,run_underlying h.h,Result.andThen_ok]
 cases d<;>rfl
theorem R.ld {d:TypeDesc}[hU:Und P t d](hd:zsk d=true)(hp:ev ρ x = .pointer (some p))(hc:w.cell? p=some v):Run P ρ w (.load t x) ty v:=fun o h1 _=>by
 simp[execOp,h1,hp,Instr.loadAt,Instr.sureAddr,loadVar,zlc hU,hd,hc]
theorem R.lda {fs:Array Field}{s b:Nat}{z:Value}[hU:Und P t (.struct fs)][hI:Inf P t s b z]{cs:List Value}(hc:zdb w p cs)(hl:cs.length=s)(hp:ev ρ x = .pointer (some p)):Run P ρ w (.load t x) ty (.agg cs.toArray):=fun o h1 _=>by
 obtain⟨j,hj,_,hjs,_⟩:=hI.get
 have:=run_loadCells_list (P:=P) w p cs hc
 rw[hl]at this
 simp[execOp,h1,hp,Instr.loadAt,Instr.sureAddr,loadVar,zlc hU,zsk,sizeOf,typeInfo,hj,hjs,this]
end runs
abbrev bx (g:Nat):Addr:=⟨g,0,none⟩
def CW.new (W:CW)(k:Nat)(o:Obj):CW:=⟨W.w.alloc o,fun b=>bif Nat.beq b W.w.heap.size then k else W.c b⟩
def Bx (W:CW)(k g:Nat)(cs:List Value):Prop:=W.c g=k /\ ∃ e,W.w.heap[g]? =some (.cells cs.toArray e (0,0))
section box
variable {W W':CW}{k g:Nat}{cs:List Value}{L:List Nat}
theorem CW.new_c {o:Obj}{b:Nat}(h:b<W.w.heap.size):(W.new k o).c b=W.c b:=by
 have:Nat.beq b W.w.heap.size=false:=by cases hb:Nat.beq b W.w.heap.size with
  |false=>rfl
  |true=>have:=Nat.eq_of_beq_eq_true hb;omega
 simp[CW.new,this]
theorem Le.new (k:Nat)(o:Obj):Le L W (W.new k o):=
 ⟨rfl,rfl,rfl,by simp[CW.new],fun b hb _=>⟨Below.heap_alloc W.w o b hb,CW.new_c hb⟩⟩
theorem Bx.new (e:TypeId):Bx (W.new k (.cells cs.toArray e)) k W.w.heap.size cs:=by
 refine⟨?_,e,heap_alloc_new W.w _⟩
 simp[CW.new,Nat.beq_refl]
theorem Bx.lt (h:Bx W k g cs):g<W.w.heap.size:=by
 obtain⟨_,e,h⟩:=h
 exact(Array.getElem?_eq_some_iff.1 h).1
theorem Bx.up (h:Bx W k g cs)(l:Le L W W')(hd:zem [k] L=true:=by rfl):Bx W' k g cs:=by
 have hk:W.c g∉L:=by rw[h.1];exact zcM hd (by simp)
 obtain⟨h1,h2⟩:=l.keep g h.lt hk
 obtain⟨e,he⟩:=h.2
 exact⟨h2.trans h.1,e,h1.trans he⟩
theorem Bx.cells (h:Bx W k g cs):zdb W.w (bx g) cs:=fun j u hu=>by
 obtain⟨_,e,he⟩:=h
 rw[Addr.add_lit]
 simp only[World.cell?,he,Nat.zero_add]
 simpa using hu
theorem Bx.cell (h:Bx W k g cs){j:Nat}{u:Value}(hu:cs[j]? =some u):W.w.cell? ((bx g).add j)=some u:=h.cells j u hu
theorem Bx.frozen (h:Bx W k g cs)(j:Nat):W.w.frozen? ((bx g).add j)=false:=by
 obtain⟨_,e,he⟩:=h
 rw[Addr.add_lit]
 simp[World.frozen?,he]
def CW.set (W:CW)(p:Addr)(v:Value):CW:=⟨W.w.setCell p v,W.c⟩
theorem Le.set {p:Addr}{v:Value}(hp:W.c p.block∈L):Le L W (W.set p v):=
 ⟨rfl,rfl,rfl,by simp[CW.set,World.setCell],fun b _ hc=>⟨Below.heap_setCell _ _ _ _ (fun e=>hc (by rw[e];exact hp)),rfl⟩⟩
theorem Bx.set (h:Bx W k g cs)(j:Nat)(v:Value):Bx (W.set ((bx g).add j) v) k g (cs.set j v):=by
 obtain⟨hc,e,he⟩:=h
 refine⟨hc,e,?_⟩
 rw[Addr.add_lit]
 simp[CW.set,World.setCell,Array.getElem?_modify,he]
end box
section mem
variable {P:Program}{ρ:Env}{ty:TypeId}{v:Value}{x y:Operand}{t e:TypeId}{W:CW}{K:List Nat}{g:Nat}{cs:List Value}
abbrev ptr (p:Addr):Value:= .pointer (some p)
theorem T.box (k:Nat){v:Value}(hx:ev ρ x=v)(hc:v.cells=cs.toArray):Tr P ρ W.w (.box t x) ty (fun u w'=> ∃ g W',W'.w=w'/\u=ptr (bx g)/\Le [] W W'/\Bx W' k g cs):=Tr.of_run fun o h1 _=>
 ⟨_,_,by simp only[execOp,h1,hx,Instr.box,newVar,newRow,hc,Sem.run_bind,run_newObj,Result.andThen_ok,Sem.run_pure];rfl,_,W.new k (.cells cs.toArray t),rfl,rfl,Le.new _ _,Bx.new t⟩
theorem T.alloc (k:Nat){s b:Nat}{z:Value}[hI:Inf P t s b z](hc:z.cells=cs.toArray):Tr P ρ W.w (.alloc t) ty (fun u w'=> ∃ g W',W'.w=w'/\u=ptr (bx g)/\Le [] W W'/\Bx W' k g cs):=Tr.of_run fun o h1 _=>by
 obtain⟨j,hj,hz,_⟩:=hI.get
 exact⟨_,_,by simp only[execOp,h1,Instr.alloc,zeroValue,typeInfo,hj,hz,newVar,newRow,hc,Sem.run_bind,run_program,run_newObj,Result.andThen_ok,Sem.run_pure];rfl,_,W.new k (.cells cs.toArray t),rfl,rfl,Le.new _ _,Bx.new t⟩
theorem zlL {w:World}{p:Addr}{u:Value}(hv:v.oneCell'=true)(hc:w.cell? p=some u)(hf:w.frozen? p=false):(store p v).run P w = .ok () (w.setCell p v):=by
 rw[run_store P w p v _ hv,hc]
 simp[hf]
theorem zh2 {v:Value}(hv:v.oneCell'=true):v.cells = #[v]:=by cases v<;>first |rfl |cases hv
theorem T.st {s b k j:Nat}{z:Value}[hI:Inf P t s b z](h:Bx W k g cs)(hs:s=1)(hj:Nat.blt j cs.length=true)(hv:v.oneCell'=true)(hp:ev ρ x=ptr ((bx g).add j))(hy:ev ρ y=v):
 Tr P ρ W.w (.store t x y) ty (fun _ w'=> ∃ W',W'.w=w'/\Le [k] W W'/\Bx W' k g (cs.set j v)):=Tr.of_unit fun o h1 _=>by
 obtain⟨i,hi,_,his,_⟩:=hI.get
 have hj':j<cs.length:=by simpa[Nat.blt_eq]using hj
 refine⟨_,?_,W.set ((bx g).add j) v,rfl,Le.set (by rw[zfo,h.1];simp),h.set j v⟩
 have:=zlL (P:=P) hv (h.cell (aB hj')) (h.frozen j)
 have h0: ∀ q:Addr,q.add 0=q:=fun q=>by simp[Addr.add]
 simp only[execOp,h1,hp,hy,Instr.storeAt,Instr.sureAddr,Sem.run_bind,Sem.run_pure,Result.andThen_ok,storeVar,sizeOf,typeInfo,run_program,hi,his,hs,zh2 hv,Sem.run_ite]
 rw[if_neg (by simp)]
 simp only[storeCells,h0,Sem.run_bind,this,Result.andThen_ok,Sem.run_pure]
 rfl
theorem zix: ∀ (vs cs:List Value) (W:CW) (k j:Nat),Bx W k g cs->j+vs.length<=cs.length->(∀ v∈vs,v.oneCell'=true)->
 ∃ W',(storeCells (bx g) vs j).run P W.w = .ok () W'.w/\Le [k] W W'/\Bx W' k g (cs.take j++vs++cs.drop (j+vs.length))
 | [],cs,W,k,j,h,_,_=>⟨W,rfl,Le.refl _ _,by simpa using h⟩
 |v::vs,cs,W,k,j,h,hl,hv=>by
  simp only[aL]at hl
  have hs:=zlL (P:=P) (v:=v) (hv v (by simp)) (h.cell (aB (show j<cs.length by omega))) (h.frozen j)
  obtain⟨W',hr,hle,hb⟩:=zix vs (cs.set j v) (W.set ((bx g).add j) v) k (j+1) (h.set j v) (by simp;omega) (fun u hu=>hv u (by simp[hu]))
  refine⟨W',?_,(Le.set (by rw[zfo,h.1];simp)).trans hle,?_⟩
  ·simp only[storeCells,Sem.run_bind,hs,Result.andThen_ok]
   exact hr
  ·have e:(cs.set j v).take (j+1)++vs++(cs.set j v).drop (j+1+vs.length)=cs.take j++(v::vs)++cs.drop (j+(v::vs).length):=by
    rw[List.take_add_one,List.take_set_of_le (Nat.le_refl j),List.getElem?_set_self (by omega),List.drop_set,if_pos (by omega)]
    simp[Nat.add_assoc,Nat.add_comm 1]
   rw[e]at hb
   exact hb
theorem T.sta {s b k:Nat}{z:Value}{vs:List Value}[hI:Inf P t s b z](h:Bx W k g cs)(hs:s=vs.length)(hl:vs.length=cs.length)(hv: ∀ v∈vs,v.oneCell'=true)(hp:ev ρ x=ptr (bx g))(hy:ev ρ y = .agg vs.toArray):
 Tr P ρ W.w (.store t x y) ty (fun _ w'=> ∃ W',W'.w=w'/\Le [k] W W'/\Bx W' k g vs):=Tr.of_unit fun o h1 _=>by
 obtain⟨i,hi,_,his,_⟩:=hI.get
 obtain⟨W',hr,hle,hb⟩:=zix (P:=P) vs cs W k 0 h (by omega) hv
 refine⟨W'.w,?_,W',rfl,hle,?_⟩
 ·simp only[execOp,h1,hp,hy,Instr.storeAt,Instr.sureAddr,Sem.run_bind,Sem.run_pure,Result.andThen_ok,storeVar,sizeOf,typeInfo,run_program,hi,his,hs,Value.cells,Sem.run_ite]
  rw[if_neg (by simp)]
  simp[hr]
 ·simpa[hl]using hb
end mem
def zap (P:Program)(f:FuncId)(vals:Array Value)(w:World)(R:Value->World->Prop):Prop:=Calls P f vals w fun e w'=> ∃ v,e = .returned v/\R v w'
theorem zap.mono {P:Program}{f:FuncId}{vals:Array Value}{w:World}{R R':Value->World->Prop}(h:zap P f vals w R)(hr: ∀ v w',R v w'->R' v w'):zap P f vals w R':=
 Calls.mono h fun _ w' ⟨v,e,hv⟩=>⟨v,e,hr v w' hv⟩
theorem T.call {P:Program}{ρ:Env}{w:World}{ty:TypeId}{f:FuncId}{args:Array Operand}{tys:Array TypeId}{vals:List Value}{R:Value->World->Prop}[hF:Fun P f](ha:args.toList.map (ev ρ)=vals)(hc:zap P f vals.toArray w R):
 Tr P ρ w (.call ⟨.value (.func f),args,tys⟩) ty R:=fun o h1 _ a K Q hav hk=>by
 obtain⟨fn,hf,hb,hn⟩:=hF.h
 have ha:args.map (ev ρ)=vals.toArray:=by
  apply Array.ext'
  rw[Array.toList_map,ha]
 have hr:(execOp (ev ρ) o).run P w = .ok (.enter f vals.toArray) w:=by
  simp only[execOp,h1,resolve,ev,Deferred.ofValue,Sem.run_bind,Sem.run_pure,Result.andThen_ok,invoke,callFunc,run_program,hf,hn,hb,ha,Bool.false_eq_true,if_false]
  simp
 unfold Oper.wp
 rw[hav,hr]
 exact Calls.mono hc fun e w' ⟨v,e',hv⟩=>by subst e';exact hk v w' hv
def zjZ (P:Program)(w:World)(ρ:Env):List ResultVar->List Value->Prop
 | [],[]=>True
 | .tmp t::l,v::vs=>v=ρ t/\zjZ P w ρ l vs
 | .cell a ty::l,v::vs=>(∃ p,ρ a=ptr p/\(loadVar ty p).run P w = .ok v w)/\zjZ P w ρ l vs
 |_,_=>False
def zun:List Value->Value
 | [v]=>v
 |vs=> .tuple vs.toArray
def zsL (P:Program)(res:List ResultVar)(R:Value->World->Prop):Post
 | .ret,ρ,w | .normal,ρ,w=> ∃ vs,zjZ P w ρ res vs/\R (zun vs) w
 |_,_,_=>False
def zoO (tmps:Array Value):ResultVar->Sem Value
 | .tmp t=>pure (tmps.getD t undef)
 | .cell a t=>do loadVar t (<- asAddr (tmps.getD a undef))
theorem ziV {P:Program}{w:World}{ρ:Env}{n:Nat}{a:Act}(ha:Fits n a ρ): ∀ (l:List ResultVar) (vs:List Value),zjZ P w ρ l vs->(l.mapM (zoO a.tmps)).run P w = .ok vs w
 | [],[],_=>by simp
 | .tmp t::l,v::vs,h=>by
  have:=ziV ha l vs h.2
  have hv:=ha.val t
  rw[<- h.1]at hv
  simp only[List.mapM_cons,Sem.run_bind,zoO,hv,Sem.run_pure,Result.andThen_ok,this]
 | .cell q t::l,v::vs,h=>by
  have:=ziV ha l vs h.2
  obtain⟨p,hp,hl⟩:=h.1
  have hv:=ha.val q
  rw[hp]at hv
  simp only[List.mapM_cons,Sem.run_bind,zoO,hv,asAddr,Sem.run_pure,Result.andThen_ok,this,hl]
 | [],_:: _,h=>h.elim
 | .tmp _:: _,[],h=>h.elim
 | .cell _ _:: _,[],h=>h.elim
theorem zap.of {P:Program} {f:FuncId} {fn:Func} {c:Code} {n:Nat} {res:List ResultVar} {vals:List Value} {w:World} {R:Value->World->Prop} (hf:P.funcs[f]? =some fn) (hb:fn.body=some c) (hn:fn.ntmps=n)
 (hr:fn.results=res.toArray) (hl':Nat.ble vals.length n=true) (h:Cw P n c (zsL P res R) (envL vals) w):zap P f vals.toArray w R:=by
 subst hn
 have hl:vals.length<=fn.ntmps:=by simpa using hl'
 refine calls_of_wp hf hb ?_
 have hfit:Fits fn.ntmps {tmps:=vals.toArray++Array.replicate (fn.ntmps-vals.toArray.size) undef,defers:=[]} (envL vals):=by
  refine⟨by simp only[Array.size_append,List.size_toArray,Array.size_replicate];omega,rfl,fun i=>?_⟩
  have key: ∀ (l:List Value) (i:Nat),envL l i=l[i]?.getD undef:=by
   intro l
   induction l with
   |nil=>intro i;simp[envL]
   |cons u l ih=>intro i;cases i with
    |zero=>simp[envL]
    |succ j=>simp[envL,ih]
  rw[key,Array.getD_eq_getD_getElem?,Array.getElem?_append]
  by_cases hi:i<vals.length
  ·simp[hi]
  ·simp only[List.size_toArray,hi,if_false,Array.getElem?_replicate,List.getElem?_eq_none (show vals.length<=i by omega)]
   split<;>rfl
 refine Code.wp_mono ?_ (h _ hfit)
 rintro e a' w' ⟨ρ',hf',hq⟩
 have fin:(∃ vs,zjZ P w' ρ' res vs/\R (zun vs) w')->a'.defers=[] /\ ∃ v,(results fn a'.tmps).run P w' = .ok v w'/\(∃ u,Ending.returned v = .returned u/\R u w'):=by
  rintro⟨vs,hok,hR⟩
  refine⟨hf'.df,zun vs,?_,_,rfl,hR⟩
  have:=ziV hf' res vs hok
  have e2: ∀ us:List Value,(if h:us.toArray.size=1 then us.toArray[0] else Value.tuple us.toArray)=zun us:=by
   intro us
   match us with
   | []=>rfl
   | [u]=>rfl
   |_:: _:: _=>simp[zun]
  have e3:(results fn a'.tmps)=(do
   let vs <- res.toArray.mapM (zoO a'.tmps)
   pure (if h:vs.size=1 then vs[0] else .tuple vs)):=by
   simp only[results,hr]
   congr 1
  rw[e3]
  simp only[List.mapM_toArray,Sem.run_bind,Sem.run_map,this,Result.andThen_ok,Sem.run_pure,e2]
 cases e with
 |ret=>exact fin hq
 |normal=>exact fin hq
 |_=>exact hq.elim
section
variable {P:Program}{ops:Array Oper}{Q:Exit->Act->World->Prop}{C:World->Prop}
def zfY (P:Program)(ops:Array Oper)(C:World->Prop)(o:Oper)(v:Value)(a:Act):Prop:=
 (Region.wanted o (yielded ops a.tmps)=true /\ ∀ w,C w->(execOp a.eval o).run P w = .ok (.value v) w)\/
 (Region.wanted o (yielded ops a.tmps)=false/\v=undef)
theorem zfY.wpOp {i:Nat} {o:Oper} {v:Value} {a:Act} (hi:ops[i]? =some o) (hy:zfY P ops C o v a)
 {K:Act->World->Prop} {w:World} (hC:C w) (h:K (a.put o.dst v) w):wpOp P ops Q i K a w:=by
 unfold Go.wpOp
 simp only[hi]
 rcases hy with ⟨hw,hv⟩ |⟨hw,rfl⟩
 ·simp only[hw,if_true,Oper.wp,hv w hC,Oper.upon];exact .inl h
 ·simp only[hw,Bool.false_eq_true,if_false];exact h
theorem zfY.of_same {o:Oper} {v:Value} {a a':Act} (hy:zfY P ops C o v a) (he:execOp a'.eval o=execOp a.eval o)
 (hw:Region.wanted o (yielded ops a'.tmps)=Region.wanted o (yielded ops a.tmps)):zfY P ops C o v a':=by
 unfold zfY at*
 rw[he,hw]
 exact hy
theorem zqb {j:Nat} {oi oj:Oper} {v:Value} (hj:ops[j]? =some oj) (hap:oi.apart ops oj=true)
 (hsi: ∀ cs b,oi.op ≠ .select cs b) (hsj: ∀ cs b,oj.op ≠ .select cs b)
 (hQ: ∀ c a w,Q (.panic c) (a.put oi.dst v) w->Q (.panic c) a w) {K:Act->World->Prop} {a:Act} {w:World}
 (hy:zfY P ops C oi v a) (h:wpOp P ops Q j K (a.put oi.dst v) w):
 wpOp P ops Q j (fun a' w'=>zfY P ops C oi v a'/\K (a'.put oi.dst v) w') a w:=by
 obtain⟨h1,h2,h3⟩:=Oper.apart_spec hap
 have keep: ∀ (a:Act),zfY P ops C oi v a -> ∀ u,zfY P ops C oi v (a.put oj.dst u):=fun a hy u=>
  hy.of_same (execOp_put oi hsi a oj.dst u h3) (wanted_put oi a oj.dst u h3)
 have keepD: ∀ d,zfY P ops C oi v {a with defers:=d::a.defers}:=fun d=>hy.of_same rfl rfl
 unfold wpOp at*
 simp only[hj]at*
 rw[wanted_put oj a oi.dst v h1]at h
 split
 ·rename_i hw
  simp only[hw,if_true]at h
  rcases h with h |⟨hasks,hlets⟩
  case inr=>exact .inr ⟨by unfold Oper.asks at*;rw[execOp_put oj hsj a oi.dst v h1]at hasks;exact hasks,hlets⟩
  refine .inl ?_
  unfold Oper.wp at*
  rw[execOp_put oj hsj a oi.dst v h1]at h
  generalize (execOp a.eval oj).run P w=r at*
  cases r with
  |ok n w'=>
   cases n<;>simp only[Oper.upon]at h ⊢
   case value u=>exact⟨keep a hy u,by rw[<- Act.put_comm a v u h2];exact h⟩
   case skip=>exact⟨keep a hy _,by rw[<- Act.put_comm a v undef h2];exact h⟩
   case defer d=>
    refine⟨keep _ (keepD d) _,?_⟩
    rw[<- Act.put_comm _ v undef h2,<- Act.put_defers]
    exact h
   case enter f args=>
    refine Calls.mono h fun e w'' he=>?_
    cases e with
    |returned u=>exact⟨keep a hy u,by rw[<- Act.put_comm a v u h2];exact he⟩
    |panicked c=>exact hQ _ _ _ he
    |outgrown=>exact he
   case row row args=>exact Rows.mono h fun u w'' he=>⟨keep a hy u,by rw[<- Act.put_comm a v u h2];exact he⟩
  |halt x w'=>
   cases x<;>simp only[Oper.upon]at h ⊢
   case panic u=>exact hQ _ _ _ h
 ·rename_i hw
  simp only[hw]at h
  exact⟨keep a hy _,by rw[<- Act.put_comm a v undef h2];exact h⟩
def zgN (late:List Nat)(listed:Array Bool):Prop:= ∀ j∈late,listed.getD j true=false
def zkb (P:Program)(ops:Array Oper)(C:World->Prop)(late:List Nat)(Q:Exit->Act->World->Prop):Nat->Array Bool->Act->World->Prop
 |0,listed,a,w=>Region.ready .any ops listed=[]/\Q .normal a w
 |fuel+1,listed,a,w=>
  (Region.ready .any ops listed=[]->Q .normal a w)/\
  ∀ i∈Region.ready .any ops listed,wpOp P ops Q i (fun a' w'=>(zgN late (listed.setIfInBounds i true)->C w')/\zkb P ops C late Q fuel (listed.setIfInBounds i true) a' w') a w
theorem zlM {late:List Nat}: ∀ (fuel:Nat) (listed:Array Bool) (a:Act) (w:World),zkb P ops C late Q fuel listed a w->wpAny P .any ops Q fuel listed a w
 |0,_,_,_,h=>h
 |fuel+1,_,_,_,h=>⟨h.1,fun i hi=>wpOp_mono (fun a' w' hk=>zlM fuel _ a' w' hk.2) (h.2 i hi)⟩
def Cls (C:World->Prop)(read:Bool)(w:World):Prop:=read=true->C w
def zoP (ops:Array Oper)(j i:Nat):Bool:=match ops[j]? with
 |some o=>o.after.any fun e=>Region.binds .any e&&e.on==i
 |none=>false
def zqc (ops:Array Oper)(j i:Nat):Bool:=zoP ops j i||match ops[j]? with
 |some o=>o.after.any fun e=>Region.binds .any e&&zoP ops e.on i
 |none=>false
def zkc (ops:Array Oper)(listed:Array Bool):Prop:= ∀ k ok,ops[k]? =some ok->listed.getD k false=true -> ∀ e∈ok.after,Region.binds .any e=true->listed.getD e.on false=true
theorem zkc.on {listed:Array Bool}(h:zkc ops listed){j:Nat}(hj:j∈Region.ready .any ops listed):zkc ops (listed.setIfInBounds j true):=fun k ok hk hl e he hb=>by
 by_cases hjk:j=k
 ·subst hjk
  obtain⟨_,oj,hoj,hall⟩:=mem_ready.1 hj
  rw[hk]at hoj
  cases hoj
  exact getD_set_true (hall e he hb)
 ·rw[getD_set_ne false hjk]at hl
  exact getD_set_true (h k ok hk hl e he hb)
theorem zld {j i:Nat}(h:zoP ops j i=true): ∃ oj,ops[j]? =some oj /\ ∃ e∈oj.after,Region.binds .any e=true/\e.on=i:=by
 unfold zoP at h
 cases hoj:ops[j]? with
 |none=>rw[hoj]at h;cases h
 |some oj=>
  rw[hoj]at h
  obtain⟨e,he,hb⟩:=Array.any_eq_true'.1 h
  simp only[aG,beq_iff_eq]at hb
  exact⟨oj,rfl,e,he,hb⟩
theorem zqd {listed:Array Bool}(h:zkc ops listed){i j:Nat}(hj:j∈Region.ready .any ops listed)(hi:listed.getD i true=false):zqc ops j i=false:=by
 have hni:listed.getD i false=true->False:=fun h1=>by
  rcases Nat.lt_or_ge i listed.size with h' |h'
  ·simp[h']at hi h1
   rw[hi]at h1
   cases h1
  ·simp[Array.getElem?_eq_none h']at h1
 obtain⟨_,oj,hoj,hall⟩:=mem_ready.1 hj
 cases hw:zqc ops j i with
 |false=>rfl
 |true=>
  exfalso
  unfold zqc at hw
  rw[Bool.or_eq_true]at hw
  rcases hw with hw |hw
  ·obtain⟨oj',hoj',e,he,hb,hon⟩:=zld hw
   rw[hoj]at hoj'
   cases hoj'
   exact hni (by rw[<- hon];exact hall e he hb)
  ·rw[hoj]at hw
   obtain⟨e,he,hb⟩:=Array.any_eq_true'.1 hw
   simp only[aG]at hb
   obtain⟨ok,hok,e2,he2,hb2,hon⟩:=zld hb.2
   exact hni (by rw[<- hon];exact h e.on ok hok (hall e he hb.1) e2 he2 hb2)
theorem zgO {late:List Nat} {read:Bool} {i:Nat} {oi:Oper} {v:Value} (hi:ops[i]? =some oi) (hil:i∉late) (hsel: ∀ (j:Nat) (o:Oper) cs b,ops[j]? =some o->o.op ≠ .select cs b)
 (hQ: ∀ c a w,Q (.panic c) (a.put oi.dst v) w->Q (.panic c) a w)
 (hlt:read=true -> ∀ j∈late,zqc ops j i=true):
 ∀ (fuel:Nat) (listed:Array Bool) (a:Act) (w:World),
  (∀ j oj,ops[j]? =some oj->j≠i->listed.getD j true=false->(∀ e∈oj.after,Region.binds .any e=true->e.on≠i)->oi.apart ops oj=true)->
  i∈Region.ready .any ops listed->zkc ops listed->zfY P ops (Cls C read) oi v a->(read=true->zgN late listed)->(zgN late listed->C w)->
  zkb P ops C late Q fuel (listed.setIfInBounds i true) (a.put oi.dst v) w->zkb P ops C late Q (fuel+1) listed a w:=by
 intro fuel
 have hnl: ∀ {listed:Array Bool},zgN late listed->zgN late (listed.setIfInBounds i true):=fun h j hj=>by
  rw[getD_set_ne true (fun e=>hil (by rw[e];exact hj))];exact h j hj
 have hnl': ∀ {listed:Array Bool},zgN late (listed.setIfInBounds i true)->zgN late listed:=fun h j hj=>by
  have:=h j hj
  rwa [getD_set_ne true (fun e=>hil (by rw[e];exact hj))]at this
 induction fuel with
 |zero=>
  intro listed a w _ hr hcl hy hrd hC H
  refine⟨fun h=>(by rw[h]at hr;cases hr),fun j hj=>?_⟩
  by_cases hji:j=i
  ·subst hji;exact hy.wpOp hi (fun hr=>hC (hrd hr)) ⟨fun h=>hC (hnl' h),H⟩
  ·have:=ready_mono hj hji
   rw[H.1]at this
   cases this
 |succ fuel ih=>
  intro listed a w hfree hr hcl hy hrd hC H
  refine⟨fun h=>(by rw[h]at hr;cases hr),fun j hj=>?_⟩
  by_cases hji:j=i
  ·subst hji;exact hy.wpOp hi (fun hr=>hC (hrd hr)) ⟨fun h=>hC (hnl' h),H⟩
  ·have h1:=H.2 j (ready_mono hj hji)
   obtain⟨hjun,oj,hoj,hall⟩:=mem_ready.1 hj
   have hun0:=(mem_ready.1 hr).1
   have hnot: ∀ e∈oj.after,Region.binds .any e=true->e.on≠i:=fun e he hb heq=>by
    have h1:=hall e he hb
    have h0:=(mem_ready.1 hr).1
    rw[heq]at h1
    rcases Nat.lt_or_ge i listed.size with h' |h'
    ·simp[h']at h0 h1;rw[h0]at h1;cases h1
    ·simp[Array.getElem?_eq_none h']at h1
   have hjl:read=true->j∉late:=fun hrt hjl=>by
    have:=zqd hcl hj hun0
    rw[hlt hrt j hjl]at this
    cases this
   have h2:=zqb hoj (hfree j oj hoj hji hjun hnot) (fun cs b=>hsel i oi cs b hi) (fun cs b=>hsel j oj cs b hoj) hQ hy h1
   have hfree': ∀ k ok,ops[k]? =some ok->k≠i->(listed.setIfInBounds j true).getD k true=false->
    (∀ e∈ok.after,Region.binds .any e=true->e.on≠i)->oi.apart ops ok=true:=fun k ok hk hki hun hno=>by
    refine hfree k ok hk hki ?_ hno
    by_cases hjk:j=k
    ·subst hjk;exact hjun
    ·rw[getD_set_ne true hjk]at hun;exact hun
   refine wpOp_mono (fun a' w' h3=>?_) h2
   obtain⟨hy',hC',hH'⟩:=h3
   rw[Array.setIfInBounds_comm _ _ (Ne.symm hji)]at hC' hH'
   have hC2:zgN late (listed.setIfInBounds j true)->C w':=fun h=>hC' (hnl h)
   refine⟨hC2,ih (listed.setIfInBounds j true) a' w' hfree' (ready_mono hr (Ne.symm hji)) (hcl.on hj) hy' (fun hrt k hk=>?_) hC2 hH'⟩
   rw[getD_set_ne true (fun e=>hjl hrt (by rw[e];exact hk))]
   exact hrd hrt k hk
def mw (P:Program)(ops:Array Oper)(C:World->Prop):List (Nat×Nat)->(Act->World->Prop)->Act->World->Prop
 | [],Q,a,w=>Q a w
 |(i,k)::π,Q,a,w=> ∃ o,ops[i]? =some o/\
  if Region.wanted o (yielded ops a.tmps)=true then
   (match k with
   |0=> ∃ v,(∀ w,(execOp a.eval o).run P w = .ok (.value v) w)/\mw P ops C π Q (a.put o.dst v) w
   |1=> ∃ v,(∀ w,C w->(execOp a.eval o).run P w = .ok (.value v) w)/\mw P ops C π Q (a.put o.dst v) w
   |2=>o.wp P a w (fun a' w'=>C w'/\mw P ops C π Q a' w') (fun _ _ _=>False)
   |_=>o.wp P a w (fun a' w'=>mw P ops C π Q a' w') (fun _ _ _=>False))
  else mw P ops C π Q (a.put o.dst undef) w
def zsl (π:List (Nat×Nat)):List Nat:=(π.filter fun p=>p.2==3).map (·.1)
def znj (ops:Array Oper)(late:List Nat):List (Nat×Nat)->Array Bool->Bool
 | [],listed=>(Region.ready .any ops listed).isEmpty
 |(i,k)::π,listed=>
  (match k with
  |0=>(Region.ready .any ops listed).contains i&&Region.free .any ops listed i && !late.contains i
  |1=>(Region.ready .any ops listed).contains i&&Region.free .any ops listed i && !late.contains i&&late.all (fun j=>zqc ops j i && !listed.getD j true)
  |2=>Region.ready .any ops listed==[i] && !late.contains i
  |_=>Region.ready .any ops listed==[i]&&late.contains i&&decide (i<listed.size))&&znj ops late π (listed.setIfInBounds i true)
theorem Oper.wp_post {o:Oper}{a:Act}{w:World}{K:Act->World->Prop}{Q':Exit->Act->World->Prop}(h:o.wp P a w K (fun _ _ _=>False)):o.wp P a w K Q':=by
 unfold Oper.wp at*
 generalize (execOp a.eval o).run P w=r at*
 cases r with
 |ok n w'=>
  cases n<;>simp only[Oper.upon]at h ⊢
  case value u=>exact h
  case skip=>exact h
  case defer d=>exact h
  case enter f args=>exact Calls.mono h (fun e w'' he=>by cases e<;>first |exact he |(exact he.elim) |(obtain⟨_,_,hf⟩:=he;exact hf.elim))
  case row row args=>exact h
 |halt x w'=>cases x<;>simp only[Oper.upon]at h
theorem zdp {late:List Nat}{Q':Act->World->Prop}(hs:Region.noSelect ops=true)(hQ: ∀ a w,Q' a w->Q .normal a w)(hQp: ∀ c a a' w,Q (.panic c) a w->Q (.panic c) a' w):
 ∀ (π:List (Nat×Nat)) (listed:Array Bool) (a:Act) (w:World),znj ops late π listed=true->zkc ops listed->(zgN late listed->C w)->mw P ops C π Q' a w->zkb P ops C late Q π.length listed a w
 | [],listed,a,w,hB,_,_,h=>⟨by simpa[znj]using hB,hQ _ _ h⟩
 |(i,k)::π,listed,a,w,hB,hcl,hC,h=>by
  simp only[znj,aG]at hB
  obtain⟨hB1,hB2⟩:=hB
  obtain⟨o,ho,h⟩:=h
  have one: ∀ (hr:Region.ready .any ops listed=[i]),(wpOp P ops Q i (fun a' w'=>(zgN late (listed.setIfInBounds i true)->C w')/\zkb P ops C late Q π.length (listed.setIfInBounds i true) a' w') a w)->zkb P ops C late Q (π.length+1) listed a w:=
   fun hr hh=>by
    unfold zkb
    constructor
    ·intro h0
     rw[hr]at h0
     cases h0
    intro j hj
    rw[hr,List.mem_singleton]at hj
    rw[hj]
    exact hh
  have nls:i∉late->zgN late (listed.setIfInBounds i true)->zgN late listed:=fun hil h j hj=>by
   have:=h j hj
   rwa [getD_set_ne true (fun e=>hil (by rw[e];exact hj))]at this
  match k with
  |0=>
   simp only[aG,Bool.not_eq_true',List.contains_iff_mem]at hB1
   have hil:i∉late:=by simpa using hB1.2
   by_cases hw:Region.wanted o (yielded ops a.tmps)=true
   ·simp only[hw,if_true]at h
    obtain⟨v,hv,hm⟩:=h
    exact zgO (read:=false) ho hil (Region.noSelect_spec hs) (fun c a w hh=>hQp c _ _ w hh) (fun e=>by cases e) _ listed a w (Region.free_spec ho hB1.1.2) hB1.1.1 hcl (.inl ⟨hw,fun w _=>hv w⟩) (fun e=>by cases e) hC
     (zdp hs hQ hQp π _ _ w hB2 (hcl.on hB1.1.1) (fun hn=>hC (nls hil hn)) hm)
   ·simp only[hw]at h
    exact zgO (read:=false) ho hil (Region.noSelect_spec hs) (fun c a w hh=>hQp c _ _ w hh) (fun e=>by cases e) _ listed a w (Region.free_spec ho hB1.1.2) hB1.1.1 hcl (.inr ⟨by simpa using hw,rfl⟩) (fun e=>by cases e) hC
     (zdp hs hQ hQp π _ _ w hB2 (hcl.on hB1.1.1) (fun hn=>hC (nls hil hn)) h)
  |1=>
   simp only[aG,Bool.not_eq_true',List.contains_iff_mem,List.all_eq_true]at hB1
   have hil:i∉late:=by simpa using hB1.1.2
   have hnl:zgN late listed:=fun j hj=>(hB1.2 j hj).2
   by_cases hw:Region.wanted o (yielded ops a.tmps)=true
   ·simp only[hw,if_true]at h
    obtain⟨v,hv,hm⟩:=h
    exact zgO (read:=true) ho hil (Region.noSelect_spec hs) (fun c a w hh=>hQp c _ _ w hh) (fun _ j hj=>(hB1.2 j hj).1) _ listed a w (Region.free_spec ho hB1.1.1.2) hB1.1.1.1 hcl (.inl ⟨hw,fun w hc=>hv w (hc rfl)⟩) (fun _=>hnl) hC
     (zdp hs hQ hQp π _ _ w hB2 (hcl.on hB1.1.1.1) (fun hn=>hC (nls hil hn)) hm)
   ·simp only[hw]at h
    exact zgO (read:=true) ho hil (Region.noSelect_spec hs) (fun c a w hh=>hQp c _ _ w hh) (fun _ j hj=>(hB1.2 j hj).1) _ listed a w (Region.free_spec ho hB1.1.1.2) hB1.1.1.1 hcl (.inr ⟨by simpa using hw,rfl⟩) (fun _=>hnl) hC
     (zdp hs hQ hQp π _ _ w hB2 (hcl.on hB1.1.1.1) (fun hn=>hC (nls hil hn)) h)
  |2=>
   simp only[aG,Bool.not_eq_true',beq_iff_eq]at hB1
   have hil:i∉late:=by simpa using hB1.2
   have hcl2:=hcl.on (show i∈Region.ready .any ops listed by rw[hB1.1];simp)
   refine one hB1.1 ?_
   unfold wpOp
   simp only[ho]
   split
   ·rename_i hw
    simp only[hw,if_true]at h
    exact .inl (Oper.wp_post (Oper.wp_mono (fun a' w' hh=>⟨fun _=>hh.1,zdp hs hQ hQp π _ _ w' hB2 hcl2 (fun _=>hh.1) hh.2⟩) h))
   ·rename_i hw
    simp only[hw]at h
    exact⟨fun hn=>hC (nls hil hn),zdp hs hQ hQp π _ _ w hB2 hcl2 (fun hn=>hC (nls hil hn)) h⟩
  |k+3=>
   simp only[aG,beq_iff_eq,decide_eq_true_eq,List.contains_iff_mem]at hB1
   have hnn: ¬ zgN late (listed.setIfInBounds i true):=fun hn=>by
    have:=hn i hB1.1.2
    simp[hB1.2]at this
   have hcl2:=hcl.on (show i∈Region.ready .any ops listed by rw[hB1.1.1];simp)
   refine one hB1.1.1 ?_
   unfold wpOp
   simp only[ho]
   split
   ·rename_i hw
    simp only[hw,if_true]at h
    exact .inl (Oper.wp_post (Oper.wp_mono (fun a' w' hh=>⟨fun hn=>absurd hn hnn,zdp hs hQ hQp π _ _ w' hB2 hcl2 (fun hn=>absurd hn hnn) hh⟩) h))
   ·rename_i hw
    simp only[hw]at h
    exact⟨fun hn=>absurd hn hnn,zdp hs hQ hQp π _ _ w hB2 hcl2 (fun hn=>absurd hn hnn) h⟩
end
def Mw (P:Program)(n:Nat)(ops:Array Oper)(C:World->Prop)(π:List (Nat×Nat))(Q:Env->World->Prop)(ρ:Env)(w:World):Prop:=
 ∀ a,Fits n a ρ->mw P ops C π (fun a w=> ∃ ρ,Fits n a ρ/\Q ρ w) a w
def Cl (W:CW)(L:List Nat)(w:World):Prop:= ∃ W',W'.w=w/\Le L W W'
section
variable {P:Program}{n:Nat}{Q:Env->World->Prop}{ρ:Env}{w:World}{ops:Array Oper}{C:World->Prop}{R:Post}{i k d ty:Nat}{op:Op}{pos:String}{af:Array Edge}{π:List (Nat×Nat)}{v:Value}{T:Value->World->Prop}{W:CW}
theorem Cw.draw {id:Nat} {l:List Oper} (L:List Nat) (π:List (Nat×Nat)) (hm:P.follows .mixedOrders=true) (hB:(Region.noSelect l.toArray&&znj l.toArray (zsl π) π (Array.replicate l.length false)&&Nat.beq π.length l.length)=true)
 (h: ∀ W',Le [] W W'->Mw P n l.toArray (Cl W' L) π (fun ρ w=>R .normal ρ w) ρ W'.w):Cw P n (.region id l.toArray true) R ρ W.w:=fun a ha=>by
 simp only[aG]at hB
 obtain⟨⟨hs,hB⟩,hl⟩:=hB
 have hl':=Nat.eq_of_beq_eq_true hl
 let W':CW:=⟨{W.w with drawn:=W.w.drawn+1},W.c⟩
 have hle:Le [] W W':=⟨rfl,rfl,rfl,Nat.le_refl _,fun _ _ _=>⟨rfl,rfl⟩⟩
 have key:=zdp (P:=P) (ops:=l.toArray) (C:=Cl W' L) (late:=zsl π) hs (Q':=fun a w=> ∃ ρ,Fits n a ρ/\R .normal ρ w) (Q:=fun e a w=>e = .normal/\zsj n R e a w) (fun a w h=>⟨rfl,h⟩) (fun c a a' w h=>by cases h.1) π (Array.replicate l.length false) a W'.w hB (fun k ok _ hl=>absurd hl (by rw[Array.getD_eq_getD_getElem?];by_cases hk:k<l.length<;>simp[hk])) (fun _=>⟨W',rfl,Le.refl _ _⟩) (h W' hle a ha)
 refine wp_mono (wp_region_any hm (Q:=fun e a w=>e = .normal/\zsj n R e a w) ?_) (fun e a w hh=>hh.2)
 have k2:=zlM _ _ _ _ key
 rw[hl']at k2
 exact k2
theorem zam {K L:List Nat}{p:Addr}(ha:AK W K p.block)(hd:zem K L=true)(hc:W.w.cell? p=some v){w':World}(h:Cl W L w'):w'.cell? p=some v:=by
 obtain⟨W',rfl,l⟩:=h
 rw[World.cell?_of_block (w:=W.w) (AK.up l hd ha).1]
 exact hc
theorem Mw.nil (h:Q ρ w):Mw P n ops C [] Q ρ w:=fun _ ha=>⟨ρ,ha,h⟩
theorem Mw.p (hi:ops[i]? =some ⟨some d,op,ty,pos,af,none⟩)(hd:Nat.blt d n=true)(hr: ∀ w,Run P ρ w op ty v)(h:Mw P n ops C π Q (ρ.up d v) w):Mw P n ops C ((i,0)::π) Q ρ w:=fun a ha=>
 ⟨_,hi,by
  refine(if_pos (show Region.wanted _ _=true from rfl)).mpr ?_
  exact⟨v,fun w=>by rw[ha.evalF];exact hr w _ rfl rfl,h _ (ha.put hd v)⟩⟩
theorem Mw.q (hi:ops[i]? =some ⟨some d,op,ty,pos,af,none⟩)(hd:Nat.blt d n=true)(hr: ∀ w,C w->Run P ρ w op ty v)(h:Mw P n ops C π Q (ρ.up d v) w):Mw P n ops C ((i,1)::π) Q ρ w:=fun a ha=>
 ⟨_,hi,by
  refine(if_pos (show Region.wanted _ _=true from rfl)).mpr ?_
  exact⟨v,fun w hC=>by rw[ha.evalF];exact hr w hC _ rfl rfl,h _ (ha.put hd v)⟩⟩
theorem Mw.t (hi:ops[i]? =some ⟨some d,op,ty,pos,af,none⟩)(hd:Nat.blt d n=true)(hr:Tr P ρ w op ty T)(h: ∀ v w',T v w'->C w'/\Mw P n ops C π Q (ρ.up d v) w'):Mw P n ops C ((i,2)::π) Q ρ w:=fun a ha=>
 ⟨_,hi,by
  refine(if_pos (show Region.wanted _ _=true from rfl)).mpr ?_
  exact hr _ rfl rfl a _ _ ha.evalF fun v w' hT=>⟨(h v w' hT).1,(h v w' hT).2 _ (ha.put hd v)⟩⟩
theorem Mw.tu (hi:ops[i]? =some ⟨none,op,ty,pos,af,none⟩)(hr:Tr P ρ w op ty T)(h: ∀ v w',T v w'->C w'/\Mw P n ops C π Q ρ w'):Mw P n ops C ((i,2)::π) Q ρ w:=fun a ha=>
 ⟨_,hi,by
  refine(if_pos (show Region.wanted _ _=true from rfl)).mpr ?_
  exact hr _ rfl rfl a _ _ ha.evalF fun v w' hT=>⟨(h v w' hT).1,(h v w' hT).2 _ ha⟩⟩
theorem Mw.l (hi:ops[i]? =some ⟨some d,op,ty,pos,af,none⟩)(hd:Nat.blt d n=true)(hr:Tr P ρ w op ty T)(h: ∀ v w',T v w'->Mw P n ops C π Q (ρ.up d v) w'):Mw P n ops C ((i,3)::π) Q ρ w:=fun a ha=>
 ⟨_,hi,by
  refine(if_pos (show Region.wanted _ _=true from rfl)).mpr ?_
  exact hr _ rfl rfl a _ _ ha.evalF fun v w' hT=>h v w' hT _ (ha.put hd v)⟩
theorem Mw.lu (hi:ops[i]? =some ⟨none,op,ty,pos,af,none⟩)(hr:Tr P ρ w op ty T)(h: ∀ v w',T v w'->Mw P n ops C π Q ρ w'):Mw P n ops C ((i,3)::π) Q ρ w:=fun a ha=>
 ⟨_,hi,by
  refine(if_pos (show Region.wanted _ _=true from rfl)).mpr ?_
  exact hr _ rfl rfl a _ _ ha.evalF fun v w' hT=>h v w' hT _ ha⟩
end
class Atm (α:Type) [Rp α]:Prop where
 own: ∀ {w A cs} {x:α},rd w A cs x->Rp.own w A [] cs x
class Zr (α:Type) [Rp α] where
 z:α
 cs:List Value
 own: ∀ {w A},Rp.own w A [] cs z
instance {α:Type}[Rp α]:Atm (Shd α):=⟨fun h=>⟨rfl,h⟩⟩
instance {α β:Type}[Rp α][Rp β][Atm α][Atm β]:Atm (α×β):=⟨fun⟨c,d,e,h,k⟩=>⟨c,d,[],[],e,rfl,Atm.own h,Atm.own k⟩⟩
instance {α:Type}[Rp α]:Zr (List α):= {
 z:=[]
 cs:=[.slice none 0 0]
 own:=⟨_,[],[],rfl,World.ownsRow_nil _ _ _ _,rfl,rfl,rfl,fun i cs x T h=>by simp at h⟩}
instance {α β:Type}[Rp α][Rp β][Zr α][Zr β]:Zr (α×β):= {
 z:=(Zr.z,Zr.z)
 cs:=Zr.cs α++Zr.cs β
 own:=⟨_,_,[],[],rfl,rfl,Zr.own,Zr.own⟩}
instance {α:Type}[Rp α][Zr α]:Zr (Shd α):= {
 z:=⟨Zr.z⟩
 cs:=Zr.cs α
 own:=⟨rfl,own_rd Zr.own (fun b hb=>by cases hb) (fun b hb=>hb)⟩}
section
variable {α β:Type}[Rp α][Rp β]{W W':CW}{k k':Nat}{K K' L:List Nat}{v u:Value}{xs ys:List α}{cs:List Value}{x:α}{g:Nat}
theorem zrx (K:List Nat):zem K []=true:=by unfold zem;rw[List.all_eq_true];intro a _;rfl
theorem Ow.atm [Atm α](h:Rd W K cs x)(k:Nat):Ow W k K cs x:=⟨[],Atm.own h,List.nodup_nil,fun b hb=>by cases hb⟩
theorem Ow.zr [Zr α](k:Nat)(K:List Nat):Ow W k K (Zr.cs α) (Zr.z:α):=⟨[],Zr.own,List.nodup_nil,fun b hb=>by cases hb⟩
theorem Ow.sub (h:Ow W k K cs x)(hs:zkq K K'=true):Ow W k K' cs x:=by
 obtain⟨S,ho,hn,hb⟩:=h
 exact⟨S,own_mono (fun _ hb=>⟨hb.1,zf8 hs hb.2⟩) ho,hn,hb⟩
theorem Ow.len (h:Ow W k K cs x):cs.length=sz α:=by obtain⟨S,ho,_⟩:=h;exact own_len ho
theorem Ow.one (h:Ow W k K cs x): ∀ u∈cs,u.oneCell'=true:=rd_one h.rd
theorem Ow.slice_form (h:Ow W k K [v] xs): ∃ ad cap,v = .slice ad xs.length cap/\xs.length<=cap/\cap<=maxLen:=Rd.slice_form h.rd
def OwS (W:CW)(J K:List Nat)(cs:List Value)(x:α):Prop:= ∃ S,own W.w (AK W K) S cs x/\S.Nodup /\ ∀ b∈S,b<W.w.heap.size/\W.c b∈J
theorem Ow.s (h:Ow W k K cs x):OwS W [k] K cs x:=by
 obtain⟨S,ho,hn,hb⟩:=h
 exact⟨S,ho,hn,fun b h=>⟨(hb b h).1,by simp[(hb b h).2]⟩⟩
theorem OwS.one1 (h:OwS W [k] K cs x):Ow W k K cs x:=by
 obtain⟨S,ho,hn,hb⟩:=h
 exact⟨S,ho,hn,fun b h=>⟨(hb b h).1,by simpa using (hb b h).2⟩⟩
theorem OwS.atm [Atm α](h:Rd W K cs x):OwS W [] K cs x:=⟨[],Atm.own h,List.nodup_nil,fun b hb=>by cases hb⟩
theorem OwS.zr [Zr α](K:List Nat):OwS W [] K (Zr.cs α) (Zr.z:α):=⟨[],Zr.own,List.nodup_nil,fun b hb=>by cases hb⟩
theorem OwS.pair {J J':List Nat}{c d:List Value}{y:β}(h:OwS W J K c x)(k:OwS W J' K d y)(hd:zem J J'=true):OwS W (J++J') K (c++d) (x,y):=by
 obtain⟨S,ho,hn,hb⟩:=h
 obtain⟨T,to,tn,tb⟩:=k
 refine⟨S++T,⟨c,d,S,T,rfl,rfl,ho,to⟩,?_,fun b hb'=>?_⟩
 ·rw[List.nodup_append]
  exact⟨hn,tn,fun a ha b hb' e=>zcM hd (hb a ha).2 (by rw[e];exact(tb b hb').2)⟩
 ·rcases List.mem_append.1 hb' with h1 |h1
  ·exact⟨(hb b h1).1,List.mem_append_left _ (hb b h1).2⟩
  ·exact⟨(tb b h1).1,aJ _ (tb b h1).2⟩
theorem OwS.up {J:List Nat}(h:OwS W J K cs x)(l:Le L W W')(hd:(zem J L&&zem K L)=true:=by rfl):OwS W' J K cs x:=by
 simp only[aG]at hd
 obtain⟨S,ho,hn,hs⟩:=h
 have key: ∀ b∈S,W'.w.heap[b]? =W.w.heap[b]? /\W'.c b=W.c b:=fun b hb=>l.keep b (hs b hb).1 (zcM hd.1 (hs b hb).2)
 exact⟨S,own_mono (fun _ hb=>(AK.up l hd.2 hb).2) (own_keep (fun _ hb=>(AK.up l hd.2 hb).1) (fun b hb=>(key b hb).1) ho),hn,fun b hb=>⟨Nat.lt_of_lt_of_le (hs b hb).1 l.size,by rw[(key b hb).2];exact(hs b hb).2⟩⟩
theorem OwS.sub {J J':List Nat}(h:OwS W J K cs x)(hj:zkq J J'=true)(hs:zkq K K'=true):OwS W J' K' cs x:=by
 obtain⟨S,ho,hn,hb⟩:=h
 exact⟨S,own_mono (fun _ hb=>⟨hb.1,zf8 hs hb.2⟩) ho,hn,fun b h=>⟨(hb b h).1,zf8 hj (hb b h).2⟩⟩
theorem OwS.rd {J:List Nat}(h:OwS W J K cs x):Rd W (J++K) cs x:=by
 obtain⟨S,ho,_,hs⟩:=h
 exact own_rd ho (fun b hb=>⟨(hs b hb).1,List.mem_append_left _ (hs b hb).2⟩) (fun b hb=>⟨hb.1,aJ _ hb.2⟩)
theorem OwS.len {J:List Nat}(h:OwS W J K cs x):cs.length=sz α:=by obtain⟨S,ho,_⟩:=h;exact own_len ho
theorem OwS.one {J:List Nat}(h:OwS W J K cs x): ∀ u∈cs,u.oneCell'=true:=rd_one h.rd
def CW.dye (W:CW)(j k:Nat):CW:=⟨W.w,fun b=>bif Nat.beq (W.c b) j then k else W.c b⟩
theorem CW.dye_same {j:Nat}{b:Nat}(h:W.c b≠j):(W.dye j k).c b=W.c b:=by
 have:Nat.beq (W.c b) j=false:=by cases hb:Nat.beq (W.c b) j with
  |false=>rfl
  |true=>exact absurd (Nat.eq_of_beq_eq_true hb) h
 simp[CW.dye,this]
theorem CW.dye_new {j:Nat}{b:Nat}(h:W.c b=j):(W.dye j k).c b=k:=by simp[CW.dye,h,Nat.beq_refl]
theorem Le.dye (j k:Nat):Le [j] W (W.dye j k):=
 ⟨rfl,rfl,rfl,Nat.le_refl _,fun b _ hc=>⟨rfl,CW.dye_same (fun e=>hc (by simp[e]))⟩⟩
theorem Ow.dye (h:Ow W k K cs x)(k':Nat)(hd:zem K [k]=true):Ow (W.dye k k') k' K cs x:=by
 obtain⟨S,ho,hn,hb⟩:=h
 exact⟨S,own_mono (fun b hb=>⟨hb.1,by rw[CW.dye_same (fun e=>zcM hd hb.2 (by simp[e]))];exact hb.2⟩) ho,hn,fun b hb'=>⟨(hb b hb').1,CW.dye_new (hb b hb').2⟩⟩
theorem Ow.share (h:Ow W k K cs x)(hd:zem K [k]=true):Rd (W.dye k 0) (0::K) cs x:=(h.dye 0 hd).rd
theorem Ow.pair {j:Nat}{c d:List Value}{y:β}(h:Ow W k K c x)(hy:Ow W j K d y)(hne:Nat.beq j k=false)(hd:zem K [j]=true):Ow (W.dye j k) k K (c++d) (x,y):=by
 have hne':j≠k:=fun e=>by rw[e,Nat.beq_refl]at hne;cases hne
 obtain⟨S,ho,hn,hb⟩:=h
 obtain⟨T,to,tn,tb⟩:=hy
 have hA: ∀ b,AK W K b->AK (W.dye j k) K b:=fun b hb=>⟨hb.1,by rw[CW.dye_same (fun e=>zcM hd hb.2 (by simp[e]))];exact hb.2⟩
 refine⟨S++T,⟨c,d,S,T,rfl,rfl,own_mono hA ho,own_mono hA to⟩,?_,fun b hb'=>?_⟩
 ·rw[List.nodup_append]
  exact⟨hn,tn,fun a ha b hb' e=>hne' (by rw[<- (tb b hb').2,<- e,(hb a ha).2])⟩
 ·rcases List.mem_append.1 hb' with h1 |h1
  ·exact⟨(hb b h1).1,by rw[CW.dye_same (by rw[(hb b h1).2];exact Ne.symm hne')];exact(hb b h1).2⟩
  ·exact⟨(tb b h1).1,CW.dye_new (tb b h1).2⟩
theorem Rd.cut {ad:Option Addr}{n c l h:Nat}(hr:Rd W K [.slice ad n c] xs)(hlh:l<=h)(hh:h<=xs.length):
 Rd W K [sliced ad l h c (sz α)] ((xs.take h).drop l):=by
 obtain⟨ad',cap,e,hc,hm,ha,hx⟩:=hr
 simp only[List.cons.injEq,Value.slice.injEq,and_true]at e
 obtain⟨rfl,rfl,rfl⟩:=e
 have hlen:((xs.take h).drop l).length=h-l:=by simp;omega
 by_cases hcl:c=l
 ·have h0:h-l=0:=by omega
  have he:(xs.take h).drop l=[]:=List.eq_nil_of_length_eq_zero (by omega)
  rw[he]
  refine⟨if c=l then ad else ad.map (·.add (l*sz α)),c-l,by simp[sliced,h0],by simp,by unfold maxLen at*;omega,fun hp=>by simp at hp,fun i x hi=>by simp at hi⟩
 ·refine⟨ad.map (·.add (l*sz α)),c-l,by simp[sliced,hcl,hlen],by omega,by unfold maxLen at*;omega,fun hp=>?_,fun i x hi=>?_⟩
  ·rw[hlen]at hp
   obtain⟨a,rfl,hb⟩:=ha (by omega)
   exact⟨_,rfl,by rw[zfo];exact hb⟩
  ·have hil:=(List.getElem?_eq_some_iff.1 hi).1
   rw[hlen]at hil
   obtain⟨a,rfl,hb⟩:=ha (by omega)
   rw[List.getElem?_drop,List.getElem?_take_of_lt (by omega)]at hi
   obtain⟨ecs,h1,h2⟩:=hx _ x hi
   refine⟨ecs,?_,h2⟩
   simp only[slA,Option.map_some]at h1 ⊢
   rw[zfE,<- Nat.add_mul]
   exact h1
theorem zkr {w':World} {v':Value} {ecs es:List (List Value)} {Ts Ss:List (List Nat)} {S:List Nat} (J:List Nat) (ho:OwnRow W.w (AK W K) S v xs es Ss) (hnS:S.Nodup) (hbS: ∀ b∈S,b<W.w.heap.size/\W.c b=k)
 (he:ecs.length=ys.length) (ht:Ts.length=ys.length) (hy: ∀ (i:Nat) cs x T,ecs[i]? =some cs->ys[i]? =some x->Ts[i]? =some T->own W.w (AK W K) T cs x)
 (hn:Ts.flatten.Nodup) (hb: ∀ b∈Ts.flatten,b<W.w.heap.size/\W.c b∈J) (hj:k∉J) (hd:zem K (k::J)=true)
 (hrow:w'.ownsRow 0 (ty α) (sz α) v' (xs.length+ys.length) (es.flatten++ecs.flatten)) (hg:W.w.grownBy w' v.ownBlock) (hloc:v'.ownBlock=v.ownBlock\/v'.ownBlock=some W.w.heap.size):
 ∃ W',W'.w=w'/\Le (k::J) W W'/\Ow W' k K [v'] (xs++ys):=by
 have hvk: ∀ b,v.ownBlock=some b->b∈S:=fun b hb=>by rw[ho.S,hb];simp
 have hSs: ∀ b∈Ss.flatten,b∈S:=fun b hb=>by rw[ho.S];exact aJ _ hb
 let W':CW:=⟨w',fun b=>if b<W.w.heap.size/\b∉Ts.flatten then W.c b else k⟩
 have hsame: ∀ b,b<W.w.heap.size->v.ownBlock≠some b->w'.heap[b]? =W.w.heap[b]? :=fun b hb hne=>hg.block b hb (fun e=>hne e.symm)
 have hcol: ∀ b,b<W.w.heap.size->W.c b∉J->W'.c b=W.c b:=fun b hlt hne=>if_pos ⟨hlt,fun hm=>hne (hb b hm).2⟩
 have hle:Le (k::J) W W':=⟨hg.os,hg.tape,hg.output,hg.size,fun b hb hc=>by
  simp only[List.mem_cons,not_or]at hc
  exact⟨hsame b hb (fun e=>hc.1 (hbS b (hvk b e)).2),hcol b hb hc.2⟩⟩
 have hA: ∀ b,AK W K b->w'.heap[b]? =W.w.heap[b]? /\AK W' K b:=fun b hb=>AK.up hle hd hb
 refine⟨W',rfl,hle,v'.ownBlock.toList++(Ss++Ts).flatten,⟨v',es++ecs,Ss++Ts,rfl,?_,rfl,by simp[ho.elen,he],by simp[ho.slen,ht],fun i cs x T h1 h2 h3=>?_⟩,?_,fun b hb'=>?_⟩
 ·rw[List.flatten_append,List.length_append]
  exact hrow
 ·by_cases hi:i<xs.length
  ·rw[aM (by rw[ho.elen];exact hi)]at h1
   rw[aM hi]at h2
   rw[aM (by rw[ho.slen];exact hi)]at h3
   have hT: ∀ b∈T,b∈Ss.flatten:=fun b hb=>List.mem_flatten.2 ⟨T,aH h3,hb⟩
   refine own_mono (fun b hb=>(hA b hb).2) (own_keep (fun b hb=>(hA b hb).1) (fun b hb=>hsame b (hbS b (hSs b (hT b hb))).1 (fun e=>?_)) (ho.at_ i cs x T h1 h2 h3))
   rw[ho.S,e,Option.toList_some,List.singleton_append,List.nodup_cons]at hnS
   exact hnS.1 (hT b hb)
  ·rw[aN (by rw[ho.elen];omega),ho.elen]at h1
   rw[aN (by omega)]at h2
   rw[aN (by rw[ho.slen];omega),ho.slen]at h3
   have hT: ∀ b∈T,b∈Ts.flatten:=fun b hb=>List.mem_flatten.2 ⟨T,aH h3,hb⟩
   refine own_mono (fun b hb=>(hA b hb).2) (own_keep (fun b hb=>(hA b hb).1) (fun b hb'=>hsame b (hb b (hT b hb')).1 (fun e=>?_)) (hy _ cs x T h1 h2 h3))
   exact hj (by rw[<- (hbS b (hvk b e)).2];exact(hb b (hT b hb')).2)
 ·rw[List.flatten_append]
  have hnSs:Ss.flatten.Nodup:=by
   rw[ho.S,List.nodup_append]at hnS
   exact hnS.2.1
  have hne: ∀ a∈S,∀ b∈Ts.flatten,a≠b:=fun a ha b hb' e=>hj (by rw[<- (hbS a ha).2,e];exact(hb b hb').2)
  rcases hloc with e |e
  ·rw[e,<- List.append_assoc,<- ho.S,List.nodup_append]
   exact⟨hnS,hn,hne⟩
  ·rw[e,Option.toList_some,List.singleton_append,List.nodup_cons]
   refine⟨fun hmem=>?_,List.nodup_append.2 ⟨hnSs,hn,fun a ha b hb'=>hne a (hSs a ha) b hb'⟩⟩
   rcases List.mem_append.1 hmem with h1 |h1
   ·exact Nat.lt_irrefl _ (hbS _ (hSs _ h1)).1
   ·exact Nat.lt_irrefl _ (hb _ h1).1
 ·have hnew: ∀ b,b<W.w.heap.size->(W.c b=k\/b∈Ts.flatten)->b<w'.heap.size/\W'.c b=k:=fun b hlt h=>by
   refine⟨Nat.lt_of_lt_of_le hlt hg.size,?_⟩
   rcases h with h |h
   ·rw[hcol b hlt (by rw[h];exact hj),h]
   ·exact if_neg (fun hh=>hh.2 h)
  rcases List.mem_append.1 hb' with h1 |h1
  ·rcases hloc with e |e
   ·rw[e]at h1
    have:v.ownBlock=some b:=by simpa using h1
    exact hnew b (hbS b (hvk b this)).1 (.inl (hbS b (hvk b this)).2)
   ·rw[e]at h1
    have hbe:b=W.w.heap.size:=by simpa using h1
    have hlt:=hrow.lt b (by rw[e,hbe])
    exact⟨hlt.2,if_neg (fun hh=>by rw[hbe]at hh;exact Nat.lt_irrefl _ hh.1)⟩
  ·rw[List.flatten_append]at h1
   rcases List.mem_append.1 h1 with h1 |h1
   ·exact hnew b (hbS b (hSs b h1)).1 (.inl (hbS b (hSs b h1)).2)
   ·exact hnew b (hb b h1).1 (.inr h1)
theorem zle {β:Type}(s:Nat): ∀ (ecs:List (List β)) (j:Nat) (u:β),(∀ c∈ecs,c.length=s)->ecs.flatten[j]? =some u -> ∃ i cs r,ecs[i]? =some cs/\cs[r]? =some u/\j=i*s+r
 | [],j,u,_,h=>by simp at h
 |e::ecs,j,u,hl,h=>by
  have he:e.length=s:=hl e (by simp)
  rw[List.flatten_cons]at h
  by_cases hj:j<e.length
  ·rw[aM hj]at h
   exact⟨0,e,j,rfl,h,by omega⟩
  ·rw[aN (by omega)]at h
   obtain⟨i,cs,r,h1,h2,h3⟩:=zle s ecs _ u (fun c hc=>hl c (by simp[hc])) h
   exact⟨i+1,cs,r,h1,h2,by rw[Nat.add_mul,Nat.one_mul];omega⟩
theorem ziW {γ:Type}{R:Nat->γ->Prop}: ∀ (n:Nat),(∀ i,i<n -> ∃ c,R i c) -> ∃ l:List γ,l.length=n /\ ∀ i c,l[i]? =some c->R i c
 |0,_=>⟨[],rfl,fun i c h=>by simp at h⟩
 |n+1,h=>by
  obtain⟨l,hl,hr⟩:=ziW n (fun i hi=>h i (by omega))
  obtain⟨c,hc⟩:=h n (by omega)
  refine⟨l++[c],by simp[hl],fun i d hd=>?_⟩
  by_cases hi:i<n
  ·rw[aM (by omega)]at hd
   exact hr i d hd
  ·rw[aN (by omega),hl]at hd
   have:i=n:=by
    have:=(List.getElem?_eq_some_iff.1 hd).1
    simp at this
    omega
   subst this
   simp at hd
   exact hd▸hc
theorem Rd.each (h:Rd W K [v] ys): ∃ ad c ecs,v = .slice ad ys.length c/\Each (fun cs x=>Rd W K cs x) ecs ys/\ecs.flatten.length=ys.length*sz α/\(0<ys.length -> ∃ a,ad=some a/\zdb W.w a ecs.flatten) /\ ∀ u∈ecs.flatten,u.oneCell'=true:=by
 obtain⟨ad,c,e,_,_,ha,hx⟩:=h
 have e':v = .slice ad ys.length c:=by simpa using e
 subst e'
 obtain⟨ecs,hl,hr⟩:=ziW (R:=fun i ecs=> ∀ x,ys[i]? =some x->zdb W.w ((slA (.slice ad ys.length c)).add (i*sz α)) ecs/\rd W.w (AK W K) ecs x) ys.length (fun i hi=>by
  obtain⟨ecs,h1,h2⟩:=hx i ys[i] (aB hi)
  exact⟨ecs,fun x hx=>by rw[aB hi]at hx;cases hx;exact⟨h1,h2⟩⟩)
 have hE:Each (fun cs x=>Rd W K cs x) ecs ys:=⟨hl,fun i cs x h1 h2=>(hr i cs h1 x h2).2⟩
 have hs: ∀ cs∈ecs,cs.length=sz α:=fun cs hc=>by obtain⟨x,hx⟩:=hE.mem hc;exact rd_len hx
 refine⟨ad,c,ecs,rfl,hE,?_,fun hp=>?_,fun u hu=>?_⟩
 ·rw[<- hl]
  clear hE hr hl
  induction ecs with
  |nil=>simp
  |cons e es ih=>rw[List.flatten_cons,List.length_append,hs e (by simp),ih (fun c hc=>hs c (by simp[hc])),aL,Nat.add_mul];omega
 ·obtain⟨a,rfl,_⟩:=ha hp
  refine⟨a,rfl,fun j u hu=>?_⟩
  obtain⟨i,cs,r,h1,h2,rfl⟩:=zle (sz α) ecs j u hs hu
  have hi:i<ys.length:=by rw[<- hl];exact(List.getElem?_eq_some_iff.1 h1).1
  have:=(hr i cs h1 ys[i] (aB hi)).1 r u h2
  rw[zfE]at this
  exact this
 ·obtain⟨cs,hc,hu⟩:=List.mem_flatten.1 hu
  obtain⟨x,hx⟩:=hE.mem hc
  exact rd_one hx u hu
section ops
variable {P:Program}{ρ:Env}{ty':TypeId}{p q:Operand}{t e:TypeId}{s b:Nat}{z:Value}
theorem T.builtin2 {w:World}{u v:Value}{args:Array Operand}{tys:Array TypeId}{R:Value->World->Prop}(hargs:args.map (ev ρ) = #[u,v])(hr: ∃ r w',(Builtin.append_ tys ty' #[u,v]).run P w = .ok r w'/\R r w'):
 Tr P ρ w (.call ⟨.builtin .append,args,tys⟩) ty' R:=Tr.of_run fun o h1 h2=>by
 obtain⟨r,w',hr,hR⟩:=hr
 exact⟨r,w',by simp only[execOp,h1,h2,resolve,invoke,builtin,Sem.run_bind,Sem.run_pure,Result.andThen_ok,hargs,hr],hR⟩
theorem zik [hU:Und P t (.slice e)] [hI:Inf P e s b z] (he:e=ty α) (hs:s=sz α) (hz:z.cells.size=s) (hs0:Nat.blt 0 s=true) (hb:Nat.ble b 32768=true) {w:World} {v:Value} {n m c:Nat} {A:Option Addr} {cells news:List Value}
 (hown:w.ownsRow 0 (ty α) (sz α) v n cells) (hl:news.length=m*sz α) (hnews:0<m -> ∃ a,A=some a/\zdb w a news) (h1: ∀ u∈news,u.oneCell'=true) (hlim:n+m<=lim):
 ∃ v' w',(Builtin.append_ #[t,t] ty' #[v, .slice A m c]).run P w = .ok v' w'/\w'.ownsRow 0 (ty α) (sz α) v' (n+m) (cells++news)/\w.grownBy w' v.ownBlock/\(v'.ownBlock=v.ownBlock\/v'.ownBlock=some w.heap.size):=by
 subst he
 subst hs
 obtain⟨i,hi,hz',his,hib⟩:=hI.get
 have hb':b<=32768:=by simpa using hb
 have hs0':0<sz α:=by simpa[Nat.blt_eq]using hs0
 have h63:n+m<=maxLen:=by unfold lim at hlim;unfold maxLen;omega
 have hby:(n+m)*b<=140737488355328:=Nat.le_trans (Nat.mul_le_mul hlim hb') (by decide)
 rcases Nat.eq_zero_or_pos m with h0 |h0
 ·subst h0
  have hn:news=[]:=List.eq_nil_of_length_eq_zero (by simpa using hl)
  subst hn
  refine⟨v,w,?_,by simpa using hown,⟨rfl,rfl,rfl,Nat.le_refl _,fun _ _ _=>rfl⟩, .inl rfl⟩
  rcases hown.2 with ⟨rfl,rfl⟩ |⟨g,cap,cur,rfl,_,_,hnc,_⟩
  ·cases A<;>simp[Builtin.append_,run_underlying hU.h,sizeOf,typeInfo,hi,Builtin.lenOf,Builtin.firstCells,loadCells,loadCellsFrom]
  ·cases A<;>simp[Builtin.append_,run_underlying hU.h,sizeOf,typeInfo,hi,Builtin.lenOf,Builtin.firstCells,hnc,storeCells,loadCells,loadCellsFrom]
 ·obtain⟨a,rfl,hc⟩:=hnews h0
  obtain⟨v',w',hrun,h2,h3,_,h5⟩:=run_append_own_at (P:=P) w 0 t ty' (ty α) i z (sz α) b hU.h hi hz' his hib hz hs0' v n cells hown a m c news hl hc h1 h63 hby (Nat.zero_le _)
  exact⟨v',w',hrun,h2,h3,h5⟩
theorem T.appS {zs:List α} [Und P t (.slice e)] [Inf P e s b z] [Atm α] {v u:Value} (h:Ow W k K [v] xs) (hr:Rd W K' [u] ys) (hp:ev ρ p=v) (hq:ev ρ q=u) (hm:apM xs ys=some zs)
 (hK:(zkq K' K&&zem K [k])=true:=by rfl) (he:e=ty α:=by rfl) (hs:s=sz α:=by rfl) (hz:z.cells.size=s:=by rfl) (hs0:Nat.blt 0 s=true:=by rfl) (hb:Nat.ble b 32768=true:=by rfl):
 Tr P ρ W.w (.call ⟨.builtin .append,#[p,q],#[t,t]⟩) ty' (fun v' w'=> ∃ W',W'.w=w'/\Le [k] W W'/\Ow W' k K [v'] zs):=by
 simp only[aG]at hK
 unfold apM at hm
 split at hm
 case isFalse=>cases hm
 rename_i hl
 simp only[Option.some.injEq]at hm
 subst hm
 obtain⟨ad,c,ecs,rfl,hE,hfl,hca,hone⟩:=hr.each
 obtain⟨S,⟨v0,es,Ss,e0,ho⟩,hnS,hbS⟩:=h
 simp only[List.cons.injEq,and_true]at e0
 subst e0
 obtain⟨v',w',hrun,hrow,hg,hloc⟩:=zik (P:=P) (ty':=ty') (α:=α) (t:=t) he hs hz hs0 hb (c:=c) ho.row hfl hca hone hl
 refine T.builtin2 (by simp[hp,hq]) ⟨v',w',hrun,?_⟩
 refine zkr (Ts:=List.replicate ys.length []) [] ho hnS hbS hE.len (by simp) (fun i cs x T h1 h2 h3=>?_) (by simp) (fun b hb=>by simp at hb) (by simp) hK.2 hrow hg hloc
 have:T=[]:=by
  have:=aH h3
  simpa using (List.mem_replicate.1 this).2
 subst this
 exact Atm.own ((hE.at_ i cs x h1 h2).sub hK.1)
theorem T.app1S {zs:List α} [Und P t (.slice e)] [Inf P e s b z] [Atm α] {v:Value} {j:Nat} (h:Ow W k K [v] xs) (hB:Bx W j g cs) (hr:Rd W K' cs x) (hp:ev ρ p=v) (hq:ev ρ q = .slice (some (bx g)) 1 1) (hm:apM xs [x]=some zs)
 (hK:(zkq K' K&&zem K [k])=true:=by rfl) (he:e=ty α:=by rfl) (hs:s=sz α:=by rfl) (hz:z.cells.size=s:=by rfl) (hs0:Nat.blt 0 s=true:=by rfl) (hb:Nat.ble b 32768=true:=by rfl):
 Tr P ρ W.w (.call ⟨.builtin .append,#[p,q],#[t,t]⟩) ty' (fun v' w'=> ∃ W',W'.w=w'/\Le [k] W W'/\Ow W' k K [v'] zs):=by
 simp only[aG]at hK
 unfold apM at hm
 split at hm
 case isFalse=>cases hm
 rename_i hl
 simp only[Option.some.injEq]at hm
 subst hm
 obtain⟨S,⟨v0,es,Ss,e0,ho⟩,hnS,hbS⟩:=h
 simp only[List.cons.injEq,and_true]at e0
 subst e0
 have hcl:cs.length=1*sz α:=by rw[Nat.one_mul];exact rd_len hr
 obtain⟨v',w',hrun,hrow,hg,hloc⟩:=zik (P:=P) (ty':=ty') (α:=α) (t:=t) he hs hz hs0 hb (c:=1) ho.row hcl (fun _=>⟨bx g,rfl,hB.cells⟩) (rd_one hr) hl
 refine T.builtin2 (by simp[hp,hq]) ⟨v',w',hrun,?_⟩
 refine zkr (ys:=[x]) (ecs:=[cs]) (Ts:=[[]]) [] ho hnS hbS rfl rfl (fun i c y T h1 h2 h3=>?_) (by simp) (fun b hb=>by simp at hb) (by simp) hK.2 (by simpa using hrow) hg hloc
 have hi:i=0:=by have:=(List.getElem?_eq_some_iff.1 h1).1;simpa using this
 subst hi
 simp at h1 h2 h3
 subst h1;subst h2;subst h3
 exact Atm.own (hr.sub hK.1)
theorem T.app1 {zs:List α} [Und P t (.slice e)] [Inf P e s b z] {v:Value} {i:Nat} {J:List Nat} (h:Ow W k K [v] xs) (hB:Bx W i g cs) (hr:OwS W J K' cs x) (hp:ev ρ p=v) (hq:ev ρ q = .slice (some (bx g)) 1 1) (hm:apM xs [x]=some zs)
 (hK:(zkq K' K&&zem K (k::J)&&zem [k] J)=true:=by rfl) (he:e=ty α:=by rfl) (hs:s=sz α:=by rfl) (hz:z.cells.size=s:=by rfl) (hs0:Nat.blt 0 s=true:=by rfl) (hb:Nat.ble b 32768=true:=by rfl):
 Tr P ρ W.w (.call ⟨.builtin .append,#[p,q],#[t,t]⟩) ty' (fun v' w'=> ∃ W',W'.w=w'/\Le (k::J) W W'/\Ow W' k K [v'] zs):=by
 simp only[aG]at hK
 unfold apM at hm
 split at hm
 case isFalse=>cases hm
 rename_i hl
 simp only[Option.some.injEq]at hm
 subst hm
 have hone:=hr.one
 have hcl:cs.length=1*sz α:=by rw[Nat.one_mul];exact hr.len
 obtain⟨T0,to,tn,tb⟩:=hr
 obtain⟨S,⟨v0,es,Ss,e0,ho⟩,hnS,hbS⟩:=h
 simp only[List.cons.injEq,and_true]at e0
 subst e0
 obtain⟨v',w',hrun,hrow,hg,hloc⟩:=zik (P:=P) (ty':=ty') (α:=α) (t:=t) he hs hz hs0 hb (c:=1) ho.row hcl (fun _=>⟨bx g,rfl,hB.cells⟩) hone hl
 refine T.builtin2 (by simp[hp,hq]) ⟨v',w',hrun,?_⟩
 refine zkr (ys:=[x]) (ecs:=[cs]) (Ts:=[T0]) J ho hnS hbS rfl rfl (fun i c y T h1 h2 h3=>?_) (by simpa using tn) (fun b hb=>by simp only[List.flatten_cons,List.flatten_nil,List.append_nil]at hb;exact tb b hb) (zcM hK.2 (by simp)) hK.1.2 (by simpa using hrow) hg hloc
 have hi:i=0:=by have:=(List.getElem?_eq_some_iff.1 h1).1;simpa using this
 subst hi
 simp at h1 h2 h3
 subst h1;subst h2;subst h3
 exact own_mono (fun b hb=>⟨hb.1,zf8 hK.1.1 hb.2⟩) to
theorem znk (off:Nat): ∀ (c:List Value) (k:Nat) (pre old post:List Value),pre.length=off+k->old.length=c.length->
 (c.zipIdx k).foldl (fun(cs:Array Value) (p:Value×Nat)=>cs.setIfInBounds (off+p.2) p.1) (pre++old++post).toArray=(pre++c++post).toArray
 | [],k,pre,old,post,_,hl=>by
  have:old=[]:=List.eq_nil_of_length_eq_zero (by simpa using hl)
  simp[this]
 |x::c,k,pre,o::old,post,hp,hl=>by
  simp only[List.zipIdx_cons,List.foldl_cons]
  have e1:(pre++o::old++post).toArray.setIfInBounds (off+k) x=((pre++[x])++old++post).toArray:=by
   rw[List.setIfInBounds_toArray]
   congr 1
   rw[<- hp]
   simp[List.set_append]
  rw[e1]
  have:=znk off c (k+1) (pre++[x]) old post (by simp;omega) (by simpa using hl)
  rw[this]
  simp
 |x::c,k,pre,[],post,hp,hl=>by simp at hl
theorem zoQ (s:Nat): ∀ (vs:List Value) (i:Nat) (pre zs:List Value),pre.length=i*s->zs.length=vs.length*s->(∀ v∈vs,v.cells.size=s)->
 Instr.fill (fun i=>some (i*s,s)) (pre++zs).toArray ((vs.zipIdx i).map fun p=>(p.2,p.1))=some (pre++(vs.map (·.cells.toList)).flatten).toArray
 | [],i,pre,zs,_,hz,_=>by
  have:zs=[]:=List.eq_nil_of_length_eq_zero (by simpa using hz)
  simp[Instr.fill,this]
 |v::vs,i,pre,zs,hp,hz,hv=>by
  have hs:=hv v (by simp)
  simp only[aL,Nat.add_mul,Nat.one_mul]at hz
  have e1:zs=zs.take s++zs.drop s:=(List.take_append_drop s zs).symm
  simp only[List.zipIdx_cons,List.map_cons,Instr.fill,hs]
  rw[if_neg (by simp[hp];omega)]
  have h1:=znk (i*s) v.cells.toList 0 pre (zs.take s) (zs.drop s) (by simpa using hp) (by simp[hs];omega)
  have h2:(v.cells.zipIdx.foldl (fun cs (x:Value×Nat)=>cs.setIfInBounds (i*s+x.2) x.1) (pre++zs).toArray)=(pre++v.cells.toList++zs.drop s).toArray:=by
   rw[<- h1,List.append_assoc,<- e1,<- Array.foldl_toList,Array.toList_zipIdx]
  rw[h2]
  have:=zoQ s vs (i+1) (pre++v.cells.toList) (zs.drop s) (by simp[hs,hp,Nat.add_mul]) (by simp;omega) (fun u hu=>hv u (by simp[hu]))
  rw[this]
  simp
theorem zqe [hU:Und P t (.slice e)][hI:Inf P e s b z]{n:Nat}{parts:Array (Nat×Operand)}{vs:List Value}(hn:vs.length=n)(hp:parts.toList.map (fun p=>(p.1,ev ρ p.2))=(vs.zipIdx 0).map fun p=>(p.2,p.1))(hv: ∀ v∈vs,v.cells.size=s)(hlim:n*s<=16777216)(w:World):
 ∀ o:Oper,o.op = .buildSlice t n parts->(execOp (ev ρ) o).run P w = .ok (.value (.slice (some (bx w.heap.size)) n n)) (w.alloc (.cells (vs.map (·.cells.toList)).flatten.toArray e)):=fun o h1=>by
 obtain⟨i,hi,hz',his,_⟩:=hI.get
 have hpl:(parts.map fun p=>(p.1,ev ρ p.2)).toList=(vs.zipIdx 0).map fun p=>(p.2,p.1):=by rw[Array.toList_map];exact hp
 have key: ∀ zz:Array Value,Instr.fill (fun i=>some (i*s,s)) ((Array.range (n*s)).map (fun j=>zz[j % zz.size]!)) (parts.map fun p=>(p.1,ev ρ p.2)).toList=some (vs.map (·.cells.toList)).flatten.toArray:=by
  intro zz
  rw[hpl]
  exact(congrArg (fun A=>Instr.fill (fun i=>some (i*s,s)) A ((vs.zipIdx 0).map fun p=>(p.2,p.1))) (by apply Array.ext';simp)).trans (zoQ s vs 0 [] ((Array.range (n*s)).map (fun j=>zz[j % zz.size]!)).toList (by simp) (by simp[hn]) hv)
 simp only[execOp,h1,Instr.buildSlice,Sem.run_bind,run_underlying hU.h,Result.andThen_ok,sizeOf,typeInfo,run_program,hi,his,Sem.run_pure,Sem.run_ite]
 rw[if_neg (by omega)]
 by_cases h0:n*s=0
 ·rw[if_pos h0]
  simp only[Sem.run_pure,Result.andThen_ok,key,newRow,Sem.run_bind,run_newObj]
  rfl
 ·rw[if_neg h0]
  simp only[zeroValue,typeInfo,Sem.run_bind,run_program,hi,Sem.run_pure,Result.andThen_ok,hz',key,newRow,run_newObj]
  rfl
theorem T.bs (k:Nat) [Und P t (.slice e)] [Inf P e s b z] {n:Nat} {parts:Array (Nat×Operand)} (vs:List Value) {cs:List Value} (hc:(vs.map (·.cells.toList)).flatten=cs) (hp:parts.toList.map (fun p=>(p.1,ev ρ p.2))=(vs.zipIdx 0).map fun p=>(p.2,p.1)) (hv: ∀ v∈vs,v.cells.size=s)
 (hn:vs.length=n:=by rfl) (hlim:Nat.ble (n*s) 16777216=true:=by rfl):
 Tr P ρ W.w (.buildSlice t n parts) ty' (fun u w'=> ∃ g W',W'.w=w'/\u = .slice (some (bx g)) n n/\Le [] W W'/\Bx W' k g cs):=Tr.of_run fun o h1 _=>by
 subst hc
 exact⟨_,_,zqe hn hp hv (by simpa using hlim) _ o h1,_,W.new k (.cells (vs.map (·.cells.toList)).flatten.toArray e),rfl,rfl,Le.new _ _,Bx.new e⟩
theorem T.bsS (k:Nat) (K:List Nat) [Und P t (.slice e)] [Inf P e s b z] [Atm α] {n:Nat} {parts:Array (Nat×Operand)} (vs:List Value) (hE:Each (fun cs x=>Rd W K cs x) (vs.map (·.cells.toList)) xs) (hp:parts.toList.map (fun p=>(p.1,ev ρ p.2))=(vs.zipIdx 0).map fun p=>(p.2,p.1))
 (hs:s=sz α:=by rfl) (he:e=ty α:=by rfl) (hn:vs.length=n:=by rfl) (hs0:Nat.blt 0 s=true:=by rfl) (hlim:Nat.ble (n*s) 16777216=true:=by rfl):
 Tr P ρ W.w (.buildSlice t n parts) ty' (fun u w'=> ∃ W',W'.w=w'/\Le [] W W'/\Ow W' k K [u] xs):=Tr.of_run fun o h1 _=>by
 have hs0':0<s:=by simpa[Nat.blt_eq]using hs0
 have hlim':n*s<=16777216:=by simpa using hlim
 have hn':n<=16777216:=Nat.le_trans (Nat.le_mul_of_pos_right n hs0') hlim'
 have hxl:xs.length=n:=by rw[<- hE.len];simpa using hn
 have hcl: ∀ cs∈vs.map (·.cells.toList),cs.length=s:=fun cs hc=>by obtain⟨x,hx⟩:=hE.mem hc;rw[hs];exact rd_len hx
 have hfl:(vs.map (·.cells.toList)).flatten.length=n*s:=by
  have: ∀ l:List (List Value),(∀ c∈l,c.length=s)->l.flatten.length=l.length*s:=by
   intro l
   induction l with
   |nil=>intro _;simp
   |cons e es ih=>intro h;rw[List.flatten_cons,List.length_append,h e (by simp),ih (fun c hc=>h c (by simp[hc])),aL,Nat.add_mul];omega
  rw[this _ hcl]
  simp[hn]
 refine⟨_,_,zqe hn hp (fun v hv=>by have:=hcl _ (List.mem_map_of_mem (f:=fun v:Value=>v.cells.toList) hv);simpa using this) hlim' _ o h1,W.new k (.cells (vs.map (·.cells.toList)).flatten.toArray e),rfl,Le.new _ _,[W.w.heap.size],⟨_,vs.map (·.cells.toList),List.replicate n [],rfl,?_,by simp[Value.ownBlock],hE.len,by simp[hxl],fun i cs x T h1 h2 h3=>?_⟩,by simp,fun b hb=>?_⟩
 ·subst he
  have:=World.ownsRow_lit (base:=0) (e:=ty α) (size:=s) W.w (vs.map (·.cells.toList)).flatten.toArray n (Nat.zero_le _) (by unfold maxLen;omega) (by simpa using hfl)
  rw[hxl,<- hs]
  exact this
 ·have:T=[]:=(List.mem_replicate.1 (aH h3)).2
  subst this
  exact Atm.own ((hE.at_ i cs x h1 h2).up (Le.new k _) (zrx K))
 ·simp only[List.mem_singleton]at hb
  subst hb
  exact⟨by simp[CW.new],by simp[CW.new,Nat.beq_refl]⟩
theorem T.lit0 (k:Nat)(K:List Nat)[hU:Und P t (.slice e)][hI:Inf P e s b z](he:e=ty α:=by rfl):Tr P ρ W.w (.buildSlice t 0 #[]) ty' (fun u w'=> ∃ W',W'.w=w'/\Le [] W W'/\Ow W' k K [u] ([]:List α)):=Tr.of_run fun o h1 _=>by
 obtain⟨i,hi,hz',his,_⟩:=hI.get
 refine⟨.slice (some (bx W.w.heap.size)) 0 0,W.w.alloc (.cells #[] e),?_,W.new k (.cells #[] e),rfl,Le.new _ _,[W.w.heap.size],⟨_,[],[],rfl,?_,by simp[Value.ownBlock],rfl,rfl,fun i cs x T h=>by simp at h⟩,by simp,fun b hb=>?_⟩
 ·simp only[execOp,h1,Instr.buildSlice,Sem.run_bind,run_underlying hU.h,Result.andThen_ok,sizeOf,typeInfo,run_program,hi,his,Sem.run_pure,Sem.run_ite,Nat.zero_mul]
  simp[Instr.fill,newRow,Array.range_zero']
 ·subst he
  exact World.ownsRow_lit (base:=0) (e:=ty α) (size:=sz α) W.w #[] 0 (Nat.zero_le _) (Nat.zero_le _) (by simp)
 ·simp only[List.mem_singleton]at hb
  subst hb
  exact⟨by simp[CW.new],by simp[CW.new,Nat.beq_refl]⟩
end ops
end
section
variable {α β:Type}[Rp α][Rp β]{W W':CW}{k k':Nat}{K K' L:List Nat}{v u:Value}{xs ys:List α}{cs:List Value}{x:α}{g:Nat}
variable {P:Program}{ρ:Env}{ty':TypeId}{p q:Operand}{t e:TypeId}{s b:Nat}{z:Value}
theorem znl (z:List Value)(s:Nat)(hz:z.length=s)(hs:0<s): ∀ n:Nat,(madeCells z.toArray (n*s)).toList=(List.replicate n z).flatten:=by
 intro n
 apply List.ext_getElem?
 intro j
 have hl:((List.replicate n z).flatten).length=n*s:=by simp[hz]
 by_cases hj:j<n*s
 ·have h1:(madeCells z.toArray (n*s)).toList[j]? =some (z[j % s]'(by rw[hz];exact Nat.mod_lt _ hs)):=by
   simp[madeCells,hj,hz]
   rw[aB (by rw[hz];exact Nat.mod_lt _ hs)]
   rfl
  rw[h1]
  have hdiv:j / s<n:=by rw[Nat.div_lt_iff_lt_mul hs];exact hj
  have:=zge s (List.replicate n z) (j / s) z (fun c hc=>by rw[(List.mem_replicate.1 hc).2];exact hz) (by simp[hdiv]) (j % s) (z[j % s]'(by rw[hz];exact Nat.mod_lt _ hs)) (by simp)
  rw[Nat.div_add_mod']at this
  exact this.symm
 ·rw[List.getElem?_eq_none (by simp[madeCells];omega),List.getElem?_eq_none (by rw[hl];omega)]
theorem T.mk [Zr α] (k:Nat) (K:List Nat) [hU:Und P t (.slice e)] [hI:Inf P e s b z] {n:Int} (hp:ev ρ p=vI n) (hq:ev ρ q=vI n) (hm:mkM n (Zr.z:α)=some xs)
 (hz:z.cells=(Zr.cs α).toArray:=by rfl) (hs:s=sz α:=by rfl) (he:e=ty α:=by rfl) (hs0:Nat.blt 0 s=true:=by rfl) (hb:Nat.ble b 32768=true:=by rfl):
 Tr P ρ W.w (.makeSlice t p q) ty' (fun u w'=> ∃ W',W'.w=w'/\Le [] W W'/\Ow W' k K [u] xs):=Tr.of_run fun o h1 _=>by
 unfold mkM at hm
 split at hm
 case isFalse=>cases hm
 rename_i hn
 simp only[Option.some.injEq]at hm
 subst hm
 subst he
 subst hs
 obtain⟨m,rfl⟩:=Int.eq_ofNat_of_zero_le hn.1
 have hm':m<=lim:=by omega
 obtain⟨i,hi,hz',his,hib⟩:=hI.get
 have hb':b<=32768:=by simpa using hb
 have hs0':0<sz α:=by simpa[Nat.blt_eq]using hs0
 have hby:i.bytes*m<=281474976710656:=by rw[hib];exact Nat.le_trans (Nat.mul_le_mul hb' hm') (by decide)
 have hzl:(Zr.cs α).length=sz α:=own_len (w:=W.w) (A:=fun _=>True) (S:=[]) (x:=(Zr.z:α)) Zr.own
 have hr:(Instr.makeSlice t (.int .i64 (m:Int)) (.int .i64 (m:Int))).run P W.w = .ok (.slice (some ⟨W.w.heap.size,0,none⟩) m m) (W.w.alloc (.cells (madeCells z.cells (m*i.size)) (ty α))):=by
  have hbi:(i.bytes:Int)*(m:Int)<=281474976710656:=by
   have h:((i.bytes*m:Nat):Int)<=281474976710656:=by omega
   rwa [Int.natCast_mul]at h
  have:=run_make (P:=P) W.w t (ty α) i z hU.h hi hz' .i64 .i64 m m (by omega) (Int.le_refl _) hbi (by unfold lim at hm';omega)
  simpa using this
 refine⟨_,_,by simp only[execOp,h1,hp,hq,hr,Sem.run_bind,Result.andThen_ok,Sem.run_pure];rfl,W.new k (.cells (madeCells z.cells (m*i.size)) (ty α)),rfl,Le.new _ _,[W.w.heap.size],⟨_,List.replicate m (Zr.cs α),List.replicate m [],rfl,?_,by simp[Value.ownBlock],by simp,by simp,fun i cs x T h1 h2 h3=>?_⟩,by simp,fun b hb=>?_⟩
 ·have:=World.ownsRow_lit (base:=0) (e:=ty α) (size:=sz α) W.w (madeCells z.cells (m*i.size)) m (Nat.zero_le _) (by unfold maxLen;unfold lim at hm';omega) (by rw[his];exact size_madeCells _ _)
  rw[<- znl (Zr.cs α) (sz α) hzl hs0' m,<- hz]
  simp only[Int.toNat_natCast,List.length_replicate]
  rw[his]at this ⊢
  exact this
 ·have e1:T=[]:=(List.mem_replicate.1 (aH h3)).2
  have e2:cs=Zr.cs α:=(List.mem_replicate.1 (aH h1)).2
  have e3:x=Zr.z:=(List.mem_replicate.1 (aH h2)).2
  subst e1;subst e2;subst e3
  exact Zr.own
 ·simp only[List.mem_singleton]at hb
  subst hb
  exact⟨by simp[CW.new],by simp[CW.new,Nat.beq_refl]⟩
theorem zhq {γ:Type}(s:Nat)(c':List γ): ∀ (es:List (List γ)) (i:Nat),(∀ c∈es,c.length=s)->i<es.length->c'.length=s->
 (es.set i c').flatten=es.flatten.take (i*s)++c'++es.flatten.drop (i*s+s)
 | [],i,_,hi,_=>by simp at hi
 |e::es,0,hl,_,hc=>by
  have he:e.length=s:=hl e (by simp)
  simp[List.drop_append,he]
 |e::es,i+1,hl,hi,hc=>by
  have he:e.length=s:=hl e (by simp)
  have ih:=zhq s c' es i (fun c hc=>hl c (by simp[hc])) (by simpa using hi) hc
  simp only[List.set_cons_succ,List.flatten_cons,ih,Nat.add_mul,Nat.one_mul]
  rw[List.take_append,List.drop_append]
  have e1:e.take (i*s+s)=e:=List.take_of_length_le (by omega)
  have e2:e.drop (i*s+s+s)=[]:=List.drop_eq_nil_of_le (by omega)
  rw[e1,e2,he,show i*s+s-s=i*s by omega,show i*s+s+s-s=i*s+s by omega]
  simp
theorem zsM {es:List (List Value)} {Ss:List (List Nat)} {S:List Nat} {i:Nat} {T':List Nat} {c':List Value} {x':α} (J:List Nat) (ho:OwnRow W.w (AK W K) S v xs es Ss) (hnS:S.Nodup) (hbS: ∀ b∈S,b<W.w.heap.size/\W.c b=k)
 {w':World} (hi:i<xs.length) (hx:own W.w (AK W K) T' c' x') (hn:T'.Nodup) (hb: ∀ b∈T',b<W.w.heap.size/\W.c b∈J) (hj:k∉J) (hd:zem K (k::J)=true)
 (hsz:w'.heap.size=W.w.heap.size) (hos:w'.os=W.w.os/\w'.tape=W.w.tape/\w'.output=W.w.output) (hoth: ∀ b,v.ownBlock≠some b->w'.heap[b]? =W.w.heap[b]?) (hrow:w'.ownsRow 0 (ty α) (sz α) v xs.length (es.set i c').flatten):
 ∃ W',W'.w=w'/\Le (k::J) W W'/\Ow W' k K [v] (xs.set i x'):=by
 have hvk: ∀ b,v.ownBlock=some b->b∈S:=fun b hb=>by rw[ho.S,hb];simp
 have hSs: ∀ b∈Ss.flatten,b∈S:=fun b hb=>by rw[ho.S];exact aJ _ hb
 let W':CW:=⟨w',fun b=>if b∈T' then k else W.c b⟩
 have hle:Le (k::J) W W':=⟨hos.1,hos.2.1,hos.2.2,Nat.le_of_eq hsz.symm,fun b hlt hc=>by
  simp only[List.mem_cons,not_or]at hc
  exact⟨hoth b (fun e=>hc.1 (hbS b (hvk b e)).2),if_neg (fun hm=>hc.2 (hb b hm).2)⟩⟩
 have hA: ∀ b,AK W K b->w'.heap[b]? =W.w.heap[b]? /\AK W' K b:=fun b hb=>AK.up hle hd hb
 have hTne: ∀ b∈T',b∉S:=fun b h1 h2=>hj (by rw[<- (hbS b h2).2];exact(hb b h1).2)
 have hnS':=hnS
 rw[ho.S,List.nodup_append]at hnS'
 refine⟨W',rfl,hle,v.ownBlock.toList++(Ss.set i T').flatten,⟨v,es.set i c',Ss.set i T',rfl,?_,rfl,by simp[ho.elen],by simp[ho.slen],fun j cs x T h1 h2 h3=>?_⟩,?_,fun b hb'=>?_⟩
 ·rw[List.length_set];exact hrow
 ·by_cases e:i=j
  ·subst e
   have l1:i<es.length:=by rw[ho.elen];exact hi
   have l3:i<Ss.length:=by rw[ho.slen];exact hi
   rw[List.getElem?_set_self l1]at h1
   rw[List.getElem?_set_self hi]at h2
   rw[List.getElem?_set_self l3]at h3
   cases h1;cases h2;cases h3
   exact own_mono (fun b hb=>(hA b hb).2) (own_keep (fun b hb=>(hA b hb).1) (fun b hb'=>hoth b (fun e=>hTne b hb' (hvk b e))) hx)
  ·rw[List.getElem?_set_ne e]at h1 h2 h3
   refine own_mono (fun b hb=>(hA b hb).2) (own_keep (fun b hb=>(hA b hb).1) (fun b hb'=>hoth b (fun e=>?_)) (ho.at_ j cs x T h1 h2 h3))
   exact hnS'.2.2 b (by rw[e];simp) b (List.mem_flatten.2 ⟨T,aH h3,hb'⟩) rfl
 ·rw[List.nodup_append]
  have hset: ∀ (Ss:List (List Nat)) (i:Nat),Ss.flatten.Nodup->(∀ b∈Ss.flatten,b∈S)->(Ss.set i T').flatten.Nodup:=by
   intro Ss
   induction Ss with
   |nil=>intro i h _;simp
   |cons a l ih=>
    intro i h hs
    rw[List.flatten_cons,List.nodup_append]at h
    cases i with
    |zero=>
     simp only[List.set_cons_zero,List.flatten_cons]
     rw[List.nodup_append]
     exact⟨hn,h.2.1,fun x hx y hy e=>hTne x hx (by rw[e];exact hs y (aJ _ hy))⟩
    |succ i=>
     simp only[List.set_cons_succ,List.flatten_cons]
     rw[List.nodup_append]
     refine⟨h.1,ih i h.2.1 (fun b hb=>hs b (aJ _ hb)),fun x hxa y hy e=>?_⟩
     obtain⟨U,hU,hyU⟩:=List.mem_flatten.1 hy
     rcases List.mem_or_eq_of_mem_set hU with hm |rfl
     ·exact h.2.2 x hxa y (List.mem_flatten.2 ⟨U,hm,hyU⟩) e
     ·exact hTne y hyU (by rw[<- e];exact hs x (List.mem_append_left _ hxa))
  refine⟨hnS'.1,hset Ss i hnS'.2.1 hSs,fun x hx y hy e=>?_⟩
  obtain⟨U,hU,hyU⟩:=List.mem_flatten.1 hy
  have hxS:x∈S:=by rw[ho.S];exact List.mem_append_left _ hx
  rcases List.mem_or_eq_of_mem_set hU with hm |rfl
  ·exact hnS'.2.2 x hx y (List.mem_flatten.2 ⟨U,hm,hyU⟩) e
  ·exact hTne y hyU (by rw[<- e];exact hxS)
 ·have hold:b∈S->b<w'.heap.size/\W'.c b=k:=fun h=>⟨by rw[hsz];exact(hbS b h).1,by
   show(if b∈T' then k else W.c b)=k
   rw[if_neg (fun hm=>hTne b hm h)]
   exact(hbS b h).2⟩
  rcases List.mem_append.1 hb' with h1 |h1
  ·exact hold (by rw[ho.S];exact List.mem_append_left _ h1)
  ·obtain⟨U,hU,hbU⟩:=List.mem_flatten.1 h1
   rcases List.mem_or_eq_of_mem_set hU with hm |rfl
   ·exact hold (hSs b (List.mem_flatten.2 ⟨U,hm,hbU⟩))
   ·exact⟨by rw[hsz];exact(hb b hbU).1,if_pos hbU⟩
theorem zqf {S:List Nat}{es:List (List Value)}{Ss:List (List Nat)}{i:Nat}{c':List Value}(ho:OwnRow W.w (AK W K) S v xs es Ss)(hi:i<xs.length)(hc:c'.length=sz α)(h1: ∀ u∈c',u.oneCell'=true):
 ∃ w',(storeCells ((slA v).add (i*sz α)) c').run P W.w = .ok () w'/\w'.ownsRow 0 (ty α) (sz α) v xs.length (es.set i c').flatten/\w'.heap.size=W.w.heap.size/\(w'.os=W.w.os/\w'.tape=W.w.tape/\w'.output=W.w.output)/\(∀ b,v.ownBlock≠some b->w'.heap[b]? =W.w.heap[b]?):=by
 rcases ho.row.2 with ⟨_,hn⟩ |⟨g,cap,cur,rfl,_,hg,hnc,hcm,hcs,htake⟩
 ·omega
 ·have hbound:i*sz α+sz α<=xs.length*sz α:=by rw[<- Nat.succ_mul];exact Nat.mul_le_mul_right _ hi
  have hcap:xs.length*sz α<=cap*sz α:=Nat.mul_le_mul_right _ hnc
  have hr:=run_storeCells_at P g (i*sz α) (ty α) c' 0 cur W.w hg (by omega) h1
  simp only[Nat.add_zero]at hr
  have hfs:=zhq (sz α) c' es i ho.len (by rw[ho.elen];exact hi) hc
  have hfl:(es.set i c').flatten.length=xs.length*sz α:=by
   rw[hfs]
   simp only[List.length_append,List.length_take,List.length_drop,ho.row.1,hc]
   omega
  refine⟨_,by rw[slA,Addr.add_lit,Nat.zero_add];exact hr,⟨hfl, .inr ⟨g,cap,_,rfl,Nat.zero_le _,setRow_heap W.w g cur _ _ _ hg,hnc,hcm,?_,?_⟩⟩,by simp[World.setRow],⟨rfl,rfl,rfl⟩,fun b hb=>setRow_other W.w g b _ (fun e=>hb (by simp[Value.ownBlock,e]))⟩
  ·simp only[List.size_toArray,List.length_append,List.length_take,List.length_drop,Array.length_toList]
   omega
  ·rw[hfs,<- htake,hc]
   have l1:(cur.toList.take (i*sz α)).length=i*sz α:=by simp;omega
   rw[List.take_append,List.take_append]
   simp only[List.length_append,l1,hc]
   rw[List.take_of_length_le (show(cur.toList.take (i*sz α)).length<=xs.length*sz α by omega),List.take_of_length_le (show c'.length<=xs.length*sz α-i*sz α by omega)]
   rw[List.take_take,Nat.min_eq_left (by omega),List.drop_take]
theorem zhd (q:Addr):q.add 0=q:=by simp[Addr.add]
theorem T.stS [Atm α] [hI:Inf P t s b z] {i:Int} {cs:List Value} (h:Ow W k K [v] xs) (hr:Rd W K' cs x) (hm:siM xs i x=some ys) (hp:ev ρ p=ptr ((slA v).add (i.toNat*sz α))) (hq:ev ρ q=u) (hu:u.cells.toList=cs)
 (hs:s=sz α:=by rfl) (hK:(zkq K' K&&zem K [k])=true:=by rfl):
 Tr P ρ W.w (.store t p q) ty' (fun _ w'=> ∃ W',W'.w=w'/\Le [k] W W'/\Ow W' k K [v] ys):=Tr.of_unit fun o h1 _=>by
 simp only[aG]at hK
 unfold siM at hm
 split at hm
 case isFalse=>cases hm
 rename_i hi
 simp only[Option.some.injEq]at hm
 subst hm
 obtain⟨j,hj,_,hjs,_⟩:=hI.get
 obtain⟨S,⟨v0,es,Ss,e0,ho⟩,hnS,hbS⟩:=h
 simp only[List.cons.injEq,and_true]at e0
 subst e0
 have hl:cs.length=sz α:=rd_len hr
 obtain⟨w',hrun,hrow,hsz,hos,hoth⟩:=zqf (P:=P) ho (i:=i.toNat) (by omega) hl (rd_one hr)
 obtain⟨W',e,hle,how⟩:=zsM (T':=[]) (c':=cs) (x':=x) [] ho hnS hbS (i:=i.toNat) (by omega) (Atm.own (hr.sub hK.1)) (by simp) (fun b hb=>by cases hb) (by simp) hK.2 hsz hos hoth hrow
 refine⟨w',?_,W',e,hle,how⟩
 have hcs:u.cells.size=s:=by rw[<- Array.length_toList,hu,hl,hs]
 simp only[execOp,h1,hp,hq,Instr.storeAt,Instr.sureAddr,Sem.run_bind,Sem.run_pure,Result.andThen_ok,storeVar,sizeOf,typeInfo,run_program,hj,hjs,Sem.run_ite]
 rw[if_neg (by simp[hcs]),hu,hrun]
 rfl
def vc (K J:List Nat)(c:Nat):Nat:=bif K.any (Nat.beq c) then 0 else match J.findIdx? (Nat.beq c)with
 |some i=>i+2
 |none=>1
def CW.view (W:CW)(K J:List Nat):CW:=⟨W.w,fun b=>vc K J (W.c b)⟩
def CW.back (W Wf:CW)(K J:List Nat)(f:Nat->Nat):CW:=⟨Wf.w,fun b=>if b<W.w.heap.size/\Wf.c b=vc K J (W.c b) then W.c b else f (Wf.c b)⟩
section back
variable {J:List Nat}{Wf:CW}{f:Nat->Nat}{M:List Nat}{c:Nat}
theorem zwv (h:c∈K):vc K J c=0:=by
 have:K.any (Nat.beq c)=true:=List.any_eq_true.2 ⟨c,h,Nat.beq_refl c⟩
 simp[vc,this]
theorem zqg (h:vc K J c=0):c∈K:=by
 unfold vc at h
 cases hb:K.any (Nat.beq c)with
 |true=>obtain⟨x,hx,e⟩:=List.any_eq_true.1 hb;rw[Nat.eq_of_beq_eq_true e];exact hx
 |false=>
  rw[hb]at h
  simp only[aC]at h
  split at h<;>omega
theorem Rd.view (h:Rd W K cs x)(J:List Nat):Rd (W.view K J) [0] cs x:=rd_mono (fun b hb=>⟨hb.1,by simp[CW.view,zwv hb.2]⟩) h
theorem At.view {p:Addr}(h:At W K p x)(J:List Nat):At (W.view K J) [0] p x:=⟨⟨h.1.1,by simp[CW.view,zwv h.1.2]⟩,let ⟨cs,h1,h2⟩:=h.2;⟨cs,h1,Rd.view h2 J⟩⟩
theorem Le.back (l:Le L (W.view K []) Wf)(hL:zem [0,1] L=true)(f:Nat->Nat):Le [] W (W.back Wf K [] f):=
 ⟨l.os,l.tape,l.output,l.size,fun b hb _=>by
  have hv:(W.view K []).c b∉L:=by
   have h2:vc K [] (W.c b)=0\/vc K [] (W.c b)=1:=by
    unfold vc
    cases K.any (Nat.beq (W.c b))<;>simp
   rcases h2 with h2 |h2
   ·show vc K [] (W.c b)∉L
    rw[h2];exact zcM hL (by simp)
   ·show vc K [] (W.c b)∉L
    rw[h2];exact zcM hL (by simp)
  obtain⟨h1,h2⟩:=l.keep b hb hv
  exact⟨h1,if_pos ⟨hb,h2⟩⟩⟩
theorem AK.back {K1 K2:List Nat}(hK1: ∀ c∈K1,f c∈K2)(hK2: ∀ c,vc K J c∈K1->c∈K2){b:Nat}(h:AK Wf K1 b):AK (W.back Wf K J f) K2 b:=by
 refine⟨h.1,?_⟩
 show(if b<W.w.heap.size/\Wf.c b=vc K J (W.c b) then W.c b else f (Wf.c b))∈K2
 split
 ·rename_i hh
  exact hK2 _ (by rw[<- hh.2];exact h.2)
 ·exact hK1 _ h.2
theorem Rd.back (h:Rd Wf [0] cs x)(hf:f 0=0):Rd (W.back Wf K J f) (0::K) cs x:=
 rd_mono (fun b hb=>AK.back (K1:=[0]) (fun c hc=>by simp at hc;simp[hc,hf]) (fun c hc=>by simp at hc;exact List.mem_cons_of_mem _ (zqg hc)) hb) h
theorem vc_two (c:Nat):vc K [] c=0\/vc K [] c=1:=by
 unfold vc
 cases K.any (Nat.beq c)<;>simp
theorem OwS.back {J:List Nat}(h:OwS Wf J [] cs x)(hf: ∀ c∈J,f c=k)(hj:zem [0,1] J=true:=by rfl):Ow (W.back Wf K [] f) k [] cs x:=by
 obtain⟨S,ho,hn,hb⟩:=h
 refine⟨S,own_mono (fun b hb=>by exact absurd hb.2 (by simp)) ho,hn,fun b hb'=>⟨(hb b hb').1,?_⟩⟩
 show(if b<W.w.heap.size/\Wf.c b=vc K [] (W.c b) then W.c b else f (Wf.c b))=k
 rw[if_neg,hf _ (hb b hb').2]
 rintro⟨_,e⟩
 refine zcM hj (a:=Wf.c b) ?_ (hb b hb').2
 rcases vc_two (K:=K) (W.c b)with h2 |h2<;>rw[e,h2]<;>simp
theorem OwS.backS {J:List Nat}(h:OwS Wf J [0] cs x)(hf: ∀ c∈J,f c=k)(h0:f 0=0)(hj:zem [0,1] J=true:=by rfl):Ow (W.back Wf K [] f) k (0::K) cs x:=by
 obtain⟨S,ho,hn,hb⟩:=h
 refine⟨S,own_mono (fun b hb=>AK.back (K1:=[0]) (fun c hc=>by simp at hc;simp[hc,h0]) (fun c hc=>by simp at hc;exact List.mem_cons_of_mem _ (zqg hc)) hb) ho,hn,fun b hb'=>⟨(hb b hb').1,?_⟩⟩
 show(if b<W.w.heap.size/\Wf.c b=vc K [] (W.c b) then W.c b else f (Wf.c b))=k
 rw[if_neg,hf _ (hb b hb').2]
 rintro⟨_,e⟩
 refine zcM hj (a:=Wf.c b) ?_ (hb b hb').2
 rcases vc_two (K:=K) (W.c b)with h2 |h2<;>rw[e,h2]<;>simp
end back
def Res (W:CW)(L:List Nat)(R:CW->Value->Prop)(v:Value)(w':World):Prop:= ∃ W',W'.w=w'/\Le L W W'/\R W' v
theorem Res.fin {Wf:CW}{R:CW->Value->Prop}(l:Le L (W.view K []) Wf)(f:Nat->Nat)(h:R (W.back Wf K [] f) v)(hL:zem [0,1] L=true:=by rfl):Res W [] R v Wf.w:=⟨W.back Wf K [] f,rfl,l.back hL f,h⟩
end
end Go.Sx
