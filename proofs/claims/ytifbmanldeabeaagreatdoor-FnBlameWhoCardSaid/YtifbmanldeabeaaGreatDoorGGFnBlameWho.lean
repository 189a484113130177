/- Plain law FnBlameWho, and what it uses: what the models answer. Conditions: each law's own premises. -/
import Derived.Test.YtifbmanldeabeaaGreatDoorGGFnBlameWhoa
import Derived.Test.YtifbmanldeabeaaGreatDoorGLw
import Derived.Test.YtifbmanldeabeaaGreatDoorGSab
namespace Go.Vm
open Go Go.Sx
set_option linter.unusedSimpArgs false
set_option linter.unusedVariables false
set_option linter.unusedSectionVars false
section
variable {r:Repo}(h:RpB r)(hr:zae r=true)
include h hr
end
def zrM (r:Repo)(n:Str)(x:Repo):Prop:=x=r\/x=zb0\/zae x=true
theorem zrM.bulk {r x:Repo}{n:Str}(h:zrM r n x):Bk.bulk x<=Bk.bulk r+20000:=by
 rcases h with h |h |h
 ·rw[h];omega
 ·rw[h];show 0+0+(0+0)<=_;omega
 ·have:=zo9 h;omega
theorem zrM.fit {r x:Repo}{n:Str}(hf:Bk.fit r)(h:zrM r n x):Bk.fit x:=by
 rcases h with h |h |h
 ·rw[h];exact hf
 ·rw[h];exact⟨⟨by simp[zb0,maxi],by simp[zb0]⟩,by simp[zb0,maxi],by simp[zb0]⟩
 ·exact zpb h
def ChH:Int->List Hunk->Prop
 |_,[]=>True
 |lo,d::l=>lo<=d.At/\ChH (d.At+d.Less.length+1) l
theorem ChH.mono: ∀ {l:List Hunk} {lo lo':Int},lo'<=lo->ChH lo l->ChH lo' l
 | [],_,_,_,_=>trivial
 |d::l,_,_,h,⟨h1,h2⟩=>⟨Int.le_trans h h1,h2⟩
theorem ziJ {R α σ:Type} {xs:List α} {g:σ->α->σ} {I:Nat->σ->Prop} {f:Nat->σ->Int->Option R} {Z:σ->Option R}
 (hs: ∀ m (i:Nat) x s,xs[i]? =some x->I i s->f (m+1) s (i:Int)=f m (g s x) ((i+1:Nat):Int)/\I (i+1) (g s x)) (he: ∀ m s,I xs.length s->f (m+1) s (xs.length:Int)=Z s):
 ∀ (k i m:Nat) (s:σ),i+k=xs.length->k<m->I i s->f m s (i:Int)=Z ((xs.drop i).foldl g s)/\I xs.length ((xs.drop i).foldl g s)
 |k,i,0,s,_,hm,_=>by omega
 |0,i,m+1,s,hi,_,h=>by
  obtain rfl:i=xs.length:=by omega
  rw[List.drop_length,List.foldl_nil]
  exact⟨he m s h,h⟩
 |k+1,i,m+1,s,hi,hm,h=>by
  have hlt:i<xs.length:=by omega
  obtain⟨e1,e2⟩:=hs m i xs[i] s (aB hlt) h
  rw[e1,aI hlt,List.foldl_cons]
  exact ziJ hs he k (i+1) m _ (by omega) (by omega) e2
theorem zaI {R α σ:Type} {xs:List α} {g:σ->α->σ} {I:Nat->σ->Prop} {f:Nat->σ->Int->Option R} {Z:σ->Option R} {s:σ} (h:I 0 s)
 (hs: ∀ m (i:Nat) x s,xs[i]? =some x->I i s->f (m+1) s (i:Int)=f m (g s x) ((i+1:Nat):Int)/\I (i+1) (g s x)) (he: ∀ m s,I xs.length s->f (m+1) s (xs.length:Int)=Z s):f (xs.length+1) s 0=Z (xs.foldl g s)/\I xs.length (xs.foldl g s):=by
 have:=ziJ hs he xs.length 0 (xs.length+1) s (by omega) (by omega) h
 rwa [List.drop_zero]at this
section
variable {o b:List Str}(ho:o.length<=1000)(hb:b.length<=1000){ps:List Int}(hps:ps.length=o.length+1)
include ho hb hps
end
section
variable {o b:List Str}(ho:o.length<=1000)(hb:b.length<=1000)
include ho hb
end
section
variable {a b:List File}(ha:TB a)(hb:TB b)(ta:zaD a=true)(tb:zaD b=true)
include ha hb ta tb
end
def znc:List Str->List Str->Nat
 |a::l,b::m=>bif a==b then znc l m+1 else 0
 |_,_=>0
def zwx (t:List Str):List Str->Nat->Nat×Nat->Nat×Nat
 | [],_,r=>r
 |b::bs,i,r=>zwx t bs (i+1) (bif decide (r.2<znc (b::bs) t) then(i,znc (b::bs) t) else r)
def zqn (base t:List Str):Nat×Nat:=zwx t base 0 (0,0)
def zqK (out:List Delta)(x:Str):List Delta:=match out.getLast? with
 |some d=>bif decide (0<d.Lines.length) then out.dropLast++[⟨d.From,d.Many,d.Lines++[x]⟩] else out++[⟨0,0,[x]⟩]
 |none=>out++[⟨0,0,[x]⟩]
def zjT (base:List Str):Nat->List Delta->List Str->List Delta
 |0,out,_=>out
 |_+1,out,[]=>out
 |n+1,out,x::t=>bif decide (0< (zqn base (x::t)).2) then zjT base n (out++[⟨(zqn base (x::t)).1,(zqn base (x::t)).2,[]⟩]) ((x::t).drop (zqn base (x::t)).2) else zjT base n (zqK out x) t
def zmK (base t:List Str):List Delta:=zjT base t.length [] t
def OD (n:Nat)(l:List Owner):Prop:=l.length<=n /\ ∀ o∈l,o.Path.length<=10/\o.Who.length<=10
theorem OD.fit {n:Nat}{l:List Owner}(h:OD n l)(hn:n<=1000):Bk.fit l:=⟨by have:=h.1;unfold maxi;omega,fun o ho=>by
 have:=h.2 o ho
 exact⟨by show o.Path.length<=maxi;unfold maxi;omega,by show o.Who.length<=maxi;unfold maxi;omega⟩⟩
section
variable {base t:List Str}(hb:zau base=true)(ht:zau t=true)
include hb ht
end
def zvo (list:List (List Str))(ds:List Int)(i:Nat)(t:List Str)(b dep:Int)(d:List Delta):Prop:=(b = -1/\d=zmK [] t/\dep=1) \/ ∃ k o dk,k<i/\b=(k:Int)/\list[k]? =some o/\ds[k]? =some dk/\d=zmK o t/\dep=dk+1/\dk<=2
theorem zvo.snoc {list:List (List Str)}{ds:List Int}{i:Nat}{t:List Str}{b dep z:Int}{d:List Delta}(h:zvo list ds i t b dep d):zvo list (ds++[z]) i t b dep d:=by
 rcases h with h |⟨k,o,dk,h1,h2,h3,h4,h5⟩
 ·exact .inl h
 ·exact .inr ⟨k,o,dk,h1,h2,h3,by rw[aM (List.getElem?_eq_some_iff.1 h4).1];exact h4,h5⟩
section
variable {list:List (List Str)}(h12:list.length<=12)(hl: ∀ t∈list,zau t=true)
include h12 hl
end
end Go.Vm
namespace Go.Sx
open Go Go.RowKit Rp
theorem zjU: ∀ a b:Str,bytesBefore a b=decide (a<b)
 | [],[]=>by simp[bytesBefore]
 | [],_:: _=>by simp[bytesBefore]
 |_:: _,[]=>by simp[bytesBefore]
 |a::r,b::s=>by
  rw[bytesBefore,zjU r s]
  have h:(a::r<b::s)↔ (a<b\/a=b/\r<s):=List.cons_lt_cons_iff
  cases hb:(a<b||(a==b&&decide (r<s)))with
  |true=>exact(aF (h.2 (by simpa using hb))).symm
  |false=>
   refine(aE fun e=>?_).symm
   simp at hb
   rcases h.1 e with q |q
   ·exact absurd q (UInt8.not_lt.2 hb.1)
   ·exact absurd q.2 (List.not_lt.2 (hb.2 q.1))
theorem zqo {a b:Str}(h: ¬ a<b)(hn:a≠b):b<a:=by
 have:=WideAt.bytes_total a b hn
 rw[zjU,zjU]at this
 rcases this with q |q
 ·exact absurd (of_decide_eq_true q) h
 ·exact of_decide_eq_true q
end Go.Sx
namespace Go.Vm
open Go Go.Sx
set_option linter.unusedSimpArgs false
set_option linter.unusedVariables false
set_option linter.unusedSectionVars false
def zkP:List (Str×Int)->Str->List (Str×Int)
 | [],w=>[(w,1)]
 |p::r,w=>if p.1<w then p::zkP r w else if p.1=w then(w,p.2+1)::r else(w,1)::p::r
abbrev AscW (m:List (Str×Int)):Prop:=m.Pairwise fun p q=>p.1<q.1
abbrev getW (m:List (Str×Int))(w:Str):Int:=((m.find? fun p=>p.1==w).map (·.2)).getD 0
theorem zuq {m:List (Str×Int)}{w:Str}(h: ∀ q∈m,w<q.1):(m.find? fun p=>p.1==w)=none/\(m.filter fun p=> !p.1==w)=m:=by
 refine⟨List.find?_eq_none.2 fun q hq=>?_,List.filter_eq_self.2 fun q hq=>?_⟩
 ·have:=h q hq
  simp only[beq_iff_eq]
  intro e
  rw[e]at this
  exact List.lt_irrefl _ this
 ·have:=h q hq
  simp only[Bool.not_eq_true',beq_eq_false_iff_ne]
  intro e
  rw[e]at this
  exact List.lt_irrefl _ this
theorem zqL {p:Str×Int}: ∀ {m:List (Str×Int)},(∀ q∈m,p.1<q.1)->zuN p m=p::m
 | [],_=>rfl
 |q::r,h=>by
  unfold zuN
  rw[zjU,aF (h q (by simp)),if_pos rfl]
theorem zqM {w:Str}: ∀ {m:List (Str×Int)},AscW m->zuN (w,getW m w+1) (m.filter fun p=> !p.1==w)=zkP m w
 | [],_=>rfl
 |p::r,h=>by
  obtain⟨h1,h2⟩:=List.pairwise_cons.1 h
  have ih:=zqM (w:=w) h2
  unfold zkP
  by_cases hlt:p.1<w
  ·have hne:(p.1==w)=false:=beq_eq_false_iff_ne.2 fun e=>by rw[e]at hlt;exact List.lt_irrefl _ hlt
   have hge: ¬ w<p.1:=List.lt_asymm hlt
   rw[if_pos hlt]
   unfold getW at ih ⊢
   rw[List.find?_cons,hne,List.filter_cons,hne]
   simp only[Bool.not_false,if_true]
   unfold zuN
   rw[zjU,aE hge,if_neg (by simp),ih]
  ·rw[if_neg hlt]
   by_cases he:p.1=w
   ·subst he
    rw[if_pos rfl]
    have:=zuq h1
    unfold getW
    rw[List.find?_cons,aO,List.filter_cons,aO,this.2]
    simp only[Option.map_some,Option.getD_some,aK,Bool.false_eq_true,if_false]
    exact zqL h1
   ·have hgt:w<p.1:=zqo hlt he
    rw[if_neg he]
    have hall: ∀ q∈p::r,w<q.1:=fun q hq=>by
     rcases List.mem_cons.1 hq with rfl |hq
     ·exact hgt
     ·exact List.lt_trans hgt (h1 q hq)
    obtain⟨n1,n2⟩:=zuq hall
    unfold getW
    rw[n1,n2]
    exact zqL hall
theorem incr_mem {w:Str}: ∀ {m:List (Str×Int)} {q:Str×Int},q∈zkP m w->q.1=w\/q∈m
 | [],q,h=>by simp[zkP]at h;left;rw[h]
 |p::r,q,h=>by
  unfold zkP at h
  split at h
  ·rcases List.mem_cons.1 h with rfl |h
   ·right;simp
   ·rcases incr_mem h with e |e
    ·exact .inl e
    ·exact .inr (List.mem_cons_of_mem _ e)
  ·split at h
   ·rcases List.mem_cons.1 h with rfl |h
    ·exact .inl rfl
    ·exact .inr (List.mem_cons_of_mem _ h)
   ·rcases List.mem_cons.1 h with rfl |h
    ·exact .inl rfl
    ·exact .inr h
theorem zoU {w:Str}: ∀ {m:List (Str×Int)},AscW m->AscW (zkP m w)
 | [],_=>by simp[zkP,AscW]
 |p::r,h=>by
  obtain⟨h1,h2⟩:=List.pairwise_cons.1 h
  unfold zkP
  split
  ·rename_i hlt
   refine List.pairwise_cons.2 ⟨fun q hq=>?_,zoU h2⟩
   rcases incr_mem hq with e |e
   ·rw[e];exact hlt
   ·exact h1 q e
  ·split
   ·rename_i he
    exact List.pairwise_cons.2 ⟨fun q hq=>he▸h1 q hq,h2⟩
   ·rename_i hlt he
    have hgt:w<p.1:=zqo hlt he
    refine List.pairwise_cons.2 ⟨fun q hq=>?_,h⟩
    rcases List.mem_cons.1 hq with rfl |hq
    ·exact hgt
    ·exact List.lt_trans hgt (h1 q hq)
theorem zoV {w:Str}: ∀ {m:List (Str×Int)},(zkP m w).length<=m.length+1
 | []=>by simp[zkP]
 |p::r=>by
  have:=zoV (w:=w) (m:=r)
  unfold zkP
  split
  ·simp;omega
  ·split<;>simp
def sumW (m:List (Str×Int)):Int:=(m.map (·.2)).sum
theorem zqN {w:Str}: ∀ {m:List (Str×Int)},sumW (zkP m w)=sumW m+1
 | []=>rfl
 |p::r=>by
  have ih:=zqN (w:=w) (m:=r)
  unfold zkP
  unfold sumW at ih ⊢
  split
  ·simp only[List.map_cons,List.sum_cons,ih];omega
  ·split
   ·simp only[List.map_cons,List.sum_cons];omega
   ·simp only[List.map_cons,List.sum_cons];omega
def zw2 (m:List (Str×Int))(ns:List Str):Prop:= ∀ p∈m,p.2=(ns.count p.1:Int)/\1<=p.2
theorem zqO {w:Str}{ns:List Str}: ∀ {m:List (Str×Int)},AscW m->zw2 m ns->(∀ s∈ns,s=w->s∈m.map (·.1))->zw2 (zkP m w) (ns++[w])
 | [],_,_,hk=>fun q hq=>by
  simp only[zkP,List.mem_singleton]at hq
  subst hq
  have:ns.count w=0:=List.count_eq_zero.2 fun hm=>by simpa using hk w hm rfl
  simp[List.count_append,this]
 |p::r,h,hc,hk=>by
  obtain⟨h1,h2⟩:=List.pairwise_cons.1 h
  have hp:=hc p (by simp)
  have keep: ∀ q:Str×Int,q.1≠w->q.2=(ns.count q.1:Int)/\1<=q.2->q.2=((ns++[w]).count q.1:Int)/\1<=q.2:=fun q hq h=>by
   rw[List.count_append,List.count_singleton,if_neg (by simpa using Ne.symm hq)]
   simpa using h
  unfold zkP
  split
  ·rename_i hlt
   have hne:p.1≠w:=fun e=>by rw[e]at hlt;exact List.lt_irrefl _ hlt
   have ih:=zqO (w:=w) (ns:=ns) h2 (fun q hq=>hc q (List.mem_cons_of_mem _ hq)) (fun s hs e=>by
    have:=hk s hs e
    rw[List.map_cons]at this
    rcases List.mem_cons.1 this with e2 |e2
    ·exact absurd (e2.symm.trans e) hne
    ·exact e2)
   intro q hq
   rcases List.mem_cons.1 hq with rfl |hq
   ·exact keep _ hne hp
   ·exact ih q hq
  ·split
   ·rename_i he
    intro q hq
    rcases List.mem_cons.1 hq with rfl |hq
    ·have:=hp.1
     rw[he]at this
     refine⟨?_,by have:=hp.2;show 1<=p.2+1;omega⟩
     show p.2+1=_
     rw[List.count_append,List.count_singleton,if_pos (by simp),this]
     simp
    ·refine keep q (fun e=>?_) (hc q (List.mem_cons_of_mem _ hq))
     have:=h1 q hq
     rw[e,he]at this
     exact List.lt_irrefl _ this
   ·rename_i hlt he
    have hgt:w<p.1:=zqo hlt he
    have hno: ∀ q∈p::r,q.1≠w:=fun q hq e=>by
     rcases List.mem_cons.1 hq with rfl |hq
     ·rw[e]at hgt;exact List.lt_irrefl _ hgt
     ·have:=List.lt_trans hgt (h1 q hq)
      rw[e]at this
      exact List.lt_irrefl _ this
    intro q hq
    rcases List.mem_cons.1 hq with rfl |hq
    ·have:ns.count w=0:=List.count_eq_zero.2 fun hm=>by
      obtain⟨q,hq,e⟩:=List.mem_map.1 (hk w hm rfl)
      exact hno q hq e
     simp[List.count_append,this]
    ·exact keep q (hno q hq) (hc q hq)
theorem zlF {w s:Str}: ∀ {m:List (Str×Int)},s=w\/s∈m.map (·.1)->s∈(zkP m w).map (·.1)
 | [],h=>by simpa[zkP]using h
 |p::r,h=>by
  unfold zkP
  split
  ·rename_i hlt
   rw[List.map_cons]at h ⊢
   rcases h with e |e
   ·exact List.mem_cons_of_mem _ (zlF (.inl e))
   ·rcases List.mem_cons.1 e with e |e
    ·rw[e];simp
    ·exact List.mem_cons_of_mem _ (zlF (.inr e))
  ·split
   ·rename_i he
    rw[List.map_cons]at h ⊢
    rcases h with e |e
    ·rw[e];simp
    ·rw[he]at e;exact e
   ·rcases h with e |e
    ·rw[e];simp
    ·rw[List.map_cons];exact List.mem_cons_of_mem _ e
def whoM (ns:List Str):List (Str×Int):=ns.foldl zkP []
theorem zlG (ns:List Str):AscW (whoM ns)/\zw2 (whoM ns) ns/\sumW (whoM ns)=ns.length/\(whoM ns).length<=ns.length /\ ∀ s∈ns,s∈(whoM ns).map (·.1):=by
 have key: ∀ (xs ys:List Str),(AscW (whoM xs)/\zw2 (whoM xs) xs/\sumW (whoM xs)=xs.length/\(whoM xs).length<=xs.length /\ ∀ s∈xs,s∈(whoM xs).map (·.1))->(AscW (whoM (xs++ys))/\zw2 (whoM (xs++ys)) (xs++ys)/\sumW (whoM (xs++ys))=(xs++ys).length/\(whoM (xs++ys)).length<=(xs++ys).length /\ ∀ s∈xs++ys,s∈(whoM (xs++ys)).map (·.1)):=by
  intro xs ys
  induction ys generalizing xs with
  |nil=>intro h;simpa using h
  |cons y ys ih=>
   rintro⟨h1,h2,h3,h4,h5⟩
   have e:whoM (xs++[y])=zkP (whoM xs) y:=by simp[whoM,List.foldl_append]
   have:=ih (xs++[y]) ⟨by rw[e];exact zoU h1,by rw[e];exact zqO h1 h2 (fun s hs _=>h5 s hs),by rw[e,zqN,h3];simp,by rw[e];have:=zoV (w:=y) (m:=whoM xs);simp;omega,fun s hs=>by
    rw[e]
    rcases List.mem_append.1 hs with h |h
    ·exact zlF (.inr (h5 s h))
    ·exact zlF (.inl (by simpa using h))⟩
   simpa using this
 have:=key [] ns ⟨List.Pairwise.nil,fun q hq=>by simp[whoM]at hq,rfl,Nat.le_refl _,fun s hs=>by simp at hs⟩
 simpa using this
theorem ztQ {m:List (Str×Int)}(h:AscW m):zci (m.map (·.1))=m.map (·.1):=by
 unfold zci
 refine List.mergeSort_of_pairwise ?_
 rw[List.pairwise_map]
 exact h.imp fun {p q} hpq=>by simpa using List.le_of_lt hpq
def shW (p:Str×Int):Share:=⟨p.1,p.2⟩
def whoC (x:Repo)(i:Int):Str:=(x.Commits.getD i.toNat noCommit).Who
def namesC (x:Repo)(bs:List Int):List Str:=bs.map (whoC x)
def zqP (x:Repo)(bs:List Int):Prop:=bs.length<=10 /\ ∀ i∈bs,∃ c:Nat,i=(c:Int)/\c<x.Commits.length/\(x.Commits.getD c noCommit).Who.length<=6
theorem zoW {x:Repo}(hb:RpB x)(a:Int)(p:Str):zqP x (zhN x a p):=by
 refine⟨zrv hb a p,fun i hi=>?_⟩
 obtain⟨hr,ha,e⟩:=zqz (r:=x) (a:=a) (p:=p) (fun h=>by rw[h]at hi;cases hi)
 obtain⟨a0,a1⟩:=zax.1 ha
 rw[e]at hi
 obtain⟨k,hk⟩:=List.getElem?_of_mem hi
 have hkl:=(List.getElem?_eq_some_iff.1 hk).1
 rw[zkb]at hkl
 obtain⟨c,c1,c2,c3,_⟩:=ztl hr (p:=p) a.toNat a.toNat (Nat.le_refl _) (by omega) k hkl
 rw[List.getD_eq_getElem?_getD,hk]at c1
 have hc:c<x.Commits.length:=by omega
 have:=zfS hr hc
 unfold zmG at this
 simp only[aG]at this
 exact⟨c,c1,hc,zbk this.2.2.2.1⟩
theorem zw3 {m:List (Str×Int)}{w:Str}{n:Nat}(h: ∀ p∈m,0<=p.2/\p.2<=n):0<=getW m w/\getW m w<=n:=by
 unfold getW
 cases hf:m.find? (fun p=>p.1==w)with
 |none=>exact⟨Int.le_refl _,by simp⟩
 |some p=>exact h p (List.mem_of_find?_eq_some hf)
theorem zsl {w:Str}{n:Nat}: ∀ {m:List (Str×Int)},(∀ p∈m,0<=p.2/\p.2<=n) -> ∀ p∈zkP m w,0<=p.2/\p.2<=(n+1:Nat)
 | [],_,p,hp=>by
  simp only[zkP,List.mem_singleton]at hp
  subst hp
  exact⟨by show(0:Int)<=1;omega,by show(1:Int)<=_;omega⟩
 |q::r,h,p,hp=>by
  have hq:=h q (by simp)
  unfold zkP at hp
  split at hp
  ·rcases List.mem_cons.1 hp with rfl |hp
   ·exact⟨hq.1,by omega⟩
   ·exact zsl (fun z hz=>h z (List.mem_cons_of_mem _ hz)) p hp
  ·split at hp
   ·rcases List.mem_cons.1 hp with rfl |hp
    ·exact⟨by show 0<=q.2+1;omega,by show q.2+1<=_;omega⟩
    ·have:=h p (List.mem_cons_of_mem _ hp);exact⟨this.1,by omega⟩
   ·rcases List.mem_cons.1 hp with rfl |hp
    ·exact⟨by show(0:Int)<=1;omega,by show(1:Int)<=_;omega⟩
    ·have:=h p hp;exact⟨this.1,by omega⟩
theorem zw4 {m:List (Str×Int)}{w:Str}(h:w.length<=1048576):mgM m w=some (getW m w):=if_pos (by omega)
theorem zzO {m:List (Str×Int)}{w:Str}(ha:AscW m)(h:w.length<=1048576)(hm:m.length<=1048576)(h0:0<=getW m w)(h1:getW m w<=1048576):mpM m w (getW m w+1)=some (zkP m w):=by
 unfold mpM
 rw[if_pos ⟨by omega,by omega,by omega,by omega⟩,zqM ha]
def zw5 (i:Nat)(m:List (Str×Int)):Prop:=AscW m/\m.length<=i /\ ∀ p∈m,0<=p.2/\p.2<=i
theorem zqQ {i:Nat}{m:List (Str×Int)}(h:zw5 i m)(w:Str):zw5 (i+1) (zkP m w):=
 ⟨zoU h.1,by have:=zoV (w:=w) (m:=m);have:=h.2.1;omega,zsl h.2.2⟩
theorem zsm:zw5 0 []:=⟨List.Pairwise.nil,Nat.le_refl _,fun p hp=>by cases hp⟩
theorem zoz (x:Repo)(bs:List Int):bs.foldl (fun s i=>zkP s (whoC x i)) []=whoM (namesC x bs):=by
 unfold whoM namesC
 rw[List.foldl_map]
section
variable {x:Repo}{bs:List Int}(hv:zqP x bs)
include hv
theorem zw6 {d:Int->List (Str×Int)->Option (List Share)}:zdl x bs d (bs.length+1) 0 []=d (bs.length:Int) (whoM (namesC x bs)):=by
 have e:=zaI (xs:=bs) (g:=fun s i=>zkP s (whoC x i)) (I:=zw5) (f:=fun n s i=>zdl x bs d n i s) (Z:=fun s=>d (bs.length:Int) s) (s:=[]) zsm (fun n i y s hy hI=>by
  obtain⟨c,rfl,hc,hw⟩:=hv.2 y (aH hy)
  have hix:=zas hy
  have hl:=hv.1
  have hg:=zw3 (w:=whoC x (c:Int)) hI.2.2
  refine⟨?_,zqQ hI _⟩
  have hwl:(whoC x (c:Int)).length<=1048576:=by unfold whoC;rw[Int.toNat_natCast];omega
  simp only[zdl,zaj hy,zad hy,aD,aA,znR hc,show(x.Commits.getD c noCommit).Who=whoC x (c:Int) from rfl]
  have hi2:=hI.2.1
  rw[zw4 hwl,aA,zag (by omega) (by omega),zzO hI.1 hwl (by omega) hg.1 (by omega),aA,zab hix (show bs.length<=maxi by unfold maxi;omega)]) (fun n s _=>by simp only[zdl,zac,aC])
 rw[e.1,zoz]
theorem zoX:(whoM (namesC x bs)).length<=10:=by
 have:=(zlG (namesC x bs)).2.2.2.1
 have:=hv.1
 unfold namesC at*
 rw[List.length_map]at*
 omega
theorem zvp {p:Str×Int}(hp:p∈whoM (namesC x bs)):p.1.length<=6:=by
 have h:=(zlG (namesC x bs)).2.1 p hp
 have:0< (namesC x bs).count p.1:=by omega
 obtain⟨i,hi,e⟩:=List.mem_map.1 (List.count_pos_iff.1 this)
 obtain⟨c,rfl,hc,hw⟩:=hv.2 i hi
 rw[<- e]
 unfold whoC
 rw[Int.toNat_natCast]
 exact hw
end
theorem zvq {m:List (Str×Int)}(ha:AscW m){p:Str×Int}(hp:p∈m):getW m p.1=p.2:=by
 induction m with
 |nil=>cases hp
 |cons q r ih=>
  obtain⟨h1,h2⟩:=List.pairwise_cons.1 ha
  unfold getW at ih ⊢
  rcases List.mem_cons.1 hp with rfl |hp
  ·rw[List.find?_cons,aO];rfl
  ·have hne:(q.1==p.1)=false:=beq_eq_false_iff_ne.2 fun e=>by
    have:=h1 p hp
    rw[e]at this
    exact List.lt_irrefl _ this
   rw[List.find?_cons,hne]
   exact ih h2 hp
theorem zqR {α β:Type}(f:α->β): ∀ (xs:List α) (s:List β),xs.foldl (fun s w=>s++[f w]) s=s++xs.map f
 | [],s=>by simp
 |x::xs,s=>by rw[List.foldl_cons,zqR f xs,List.map_cons,List.append_assoc];rfl
theorem zw7 {m:List (Str×Int)}(ha:AscW m)(hl:m.length<=10)(hk: ∀ p∈m,p.1.length<=6){d:List Share->Int->Option (List Share)}:zdk m (m.map (·.1)) d ((m.map (·.1)).length+1) [] 0=d (m.map shW) ((m.map (·.1)).length:Int):=by
 have hml:(m.map (·.1)).length=m.length:=List.length_map ..
 have e:=zaI (xs:=m.map (·.1)) (g:=fun s w=>s++[(⟨w,getW m w⟩:Share)]) (I:=fun i s=>s.length=i) (f:=fun n s i=>zdk m (m.map (·.1)) d n s i) (Z:=fun s=>d s ((m.map (·.1)).length:Int)) (s:=[]) rfl (fun n i w s hy hI=>by
  obtain⟨p,hp,rfl⟩:=List.mem_map.1 (aH hy)
  have hix:=zas hy
  have hkp:=hk p hp
  refine⟨?_,by rw[List.length_append,hI];rfl⟩
  simp only[zdk,zaj hy,zad hy,aD,aA,zw4 (show p.1.length<=1048576 by omega)]
  rw[ap1 (by rw[hml]at hix;omega),aA,zab hix (show(m.map (·.1)).length<=maxi by unfold maxi;omega)]) (fun n s _=>by simp only[zdk,zac,aC])
 rw[e.1,zqR (fun w=>(⟨w,getW m w⟩:Share)),List.nil_append,List.map_map]
 congr 1
 exact List.map_congr_left fun p hp=>by
  show(⟨p.1,getW m p.1⟩:Share)=⟨p.1,p.2⟩
  rw[zvq ha hp]
def zur (x:Repo)(a:Int)(p:Str):List Share:=(whoM (namesC x (zhN x a p))).map shW
theorem zpq {x:Repo}(hb:RpB x)(a:Int)(p:Str):zir x a p=some (zur x a p):=by
 have hv:=zoW hb a p
 have hl:=zoX hv
 have ha:=(zlG (namesC x (zhN x a p))).1
 unfold zir zur
 rw[znS hb]
 simp only[aA,jn,zak]
 rw[zw6 hv]
 have hk:zuO (whoM (namesC x (zhN x a p)))=some ((whoM (namesC x (zhN x a p))).map (·.1)):=by
  unfold zuO
  rw[if_pos (by omega),ztQ ha]
 rw[hk,aA,zw7 ha hl (fun p hp=>zvp hv hp)]
theorem ztR {R α:Type} {xs:List α} {q:α->Bool} {f:Nat->Int->Option R} {Z:Int->Option R}
 (hs: ∀ n (i:Nat) x,xs[i]? =some x->f (n+1) (i:Int)=bif q x then f n ((i+1:Nat):Int) else Z (i:Int)) (he: ∀ n,f (n+1) (xs.length:Int)=Z (xs.length:Int)) {n:Nat} (hn:xs.length<n):f n 0=Z ((xs.takeWhile q).length:Int):=by
 have key: ∀ (k i n:Nat),i+k=xs.length->k<n->f n (i:Int)=Z ((i+((xs.drop i).takeWhile q).length:Nat):Int):=by
  intro k
  induction k with
  |zero=>
   intro i n hi hn
   obtain⟨n,rfl⟩: ∃ z,n=z+1:=⟨n-1,by omega⟩
   obtain rfl:i=xs.length:=by omega
   rw[he,List.drop_length]
   rfl
  |succ k ih=>
   intro i n hi hn
   obtain⟨n,rfl⟩: ∃ z,n=z+1:=⟨n-1,by omega⟩
   have hlt:i<xs.length:=by omega
   rw[hs n i xs[i] (aB hlt),aI hlt,List.takeWhile_cons]
   cases q xs[i]with
   |true=>
    rw[aD,ih (i+1) n (by omega) (by omega)]
    simp only[if_true,aL]
    congr 2
    omega
   |false=>simp
 have:=key xs.length 0 n (by omega) hn
 rw[List.drop_zero,Nat.zero_add]at this
 exact this
def headW (m:List (Str×Int))(w:Str):Nat:=(m.takeWhile fun p=>Op.bytesLess p.1 w).length
theorem zsn {w:Str}: ∀ m:List (Str×Int),zkP m w=m.take (headW m w)++(match m[headW m w]? with
 |some q=>if q.1=w then(w,q.2+1)::m.drop (headW m w+1) else(w,1)::m.drop (headW m w)
 |none=>[(w,1)])
 | []=>rfl
 |p::r=>by
  have ih:=zsn (w:=w) r
  unfold zkP headW
  rw[List.takeWhile_cons,zaZ]
  by_cases hlt:p.1<w
  ·rw[if_pos hlt,aF hlt,ih]
   rfl
  ·rw[if_neg hlt,aE hlt]
   simp only[Bool.false_eq_true,if_false,List.length_nil,List.take_zero,List.nil_append,List.getElem?_cons_zero,List.drop_zero,Nat.zero_add,List.drop_succ_cons]
theorem ztS (m:List (Str×Int))(w:Str):headW m w<=m.length:=by
 unfold headW
 exact(List.takeWhile_sublist _).length_le
section
variable {x:Repo}{bs:List Int}(hv:zqP x bs)
include hv
theorem zw8 {d:List Share->Int->Option (List Share)}:zdm x bs d (bs.length+1) [] 0=d ((whoM (namesC x bs)).map shW) (bs.length:Int):=by
 have e:=zaI (xs:=bs) (g:=fun s i=>zkP s (whoC x i)) (I:=zw5) (f:=fun n s i=>zdm x bs d n (s.map shW) i) (Z:=fun s=>d (s.map shW) (bs.length:Int)) (s:=[]) zsm (fun n i y s hy hI=>by
  obtain⟨c,rfl,hc,hw⟩:=hv.2 y (aH hy)
  have hix:=zas hy
  have hl:=hv.1
  have hsl:=hI.2.1
  have hml:(s.map shW).length=s.length:=List.length_map ..
  refine⟨?_,zqQ hI _⟩
  simp only[zdm,zaj hy,zad hy,aD,aA,znR hc,jn]
  have hwc:(x.Commits.getD c noCommit).Who=whoC x (c:Int):=rfl
  have hpos:=fun(Z:Int->Option (List Share))=>ztR (xs:=s.map shW) (q:=fun q:Share=>Op.bytesLess q.Who (whoC x (c:Int))) (f:=fun n i=>zez (s.map shW) (x.Commits.getD c noCommit) Z n i) (Z:=Z) (fun n i q hq=>by
   simp only[zez,jn,zaj hq,zad hq,aD,aA,hwc,zab (zas hq) (show(s.map shW).length<=maxi by unfold maxi;omega)]) (fun n=>by simp only[zez,jn,zac,aC]) (n:=12) (by omega)
  rw[hpos]
  have hk:((s.map shW).takeWhile fun q:Share=>Op.bytesLess q.Who (whoC x (c:Int))).length=headW s (whoC x (c:Int)):=by
   unfold headW
   rw[List.takeWhile_map,List.length_map]
   rfl
  rw[hk,zsn s]
  have hle:=ztS s (whoC x (c:Int))
  generalize headW s (whoC x (c:Int))=k at hle ⊢
  by_cases hlt:k<s.length
  ·have hq:s[k]? =some s[k]:=aB hlt
   have hq2:(s.map shW)[k]? =some (shW s[k]):=by rw[List.getElem?_map,hq];rfl
   rw[zaj hq2,aD,zad hq2,hq]
   simp only[aA,hwc,show(shW s[k]).Who=s[k].1 from rfl,show(shW s[k]).Many=s[k].2 from rfl]
   by_cases he:s[k].1=whoC x (c:Int)
   ·have hb:=hI.2.2 s[k] (List.getElem_mem hlt)
    rw[beq_iff_eq.2 he,aD,zag (by omega) (by omega),zbs (by omega),aA,if_pos he,zab hix (show bs.length<=maxi by unfold maxi;omega)]
    congr 1
    rw[List.map_append,List.map_cons,<- he,List.set_eq_take_append_cons_drop,if_pos (by omega),List.map_take,List.map_drop]
    rfl
   ·rw[beq_eq_false_iff_ne.2 he,aC,zfU (by omega),aA,apN (by rw[List.length_take];omega),aA,ap1 (by rw[List.length_take];omega),aA,zji (by omega),aA,zgw (by simp only[List.length_append,List.length_take,List.length_drop,aL,List.length_nil];unfold lim;omega),aA,if_neg he,zab hix (show bs.length<=maxi by unfold maxi;omega)]
    congr 1
    rw[List.map_append,List.map_cons,List.append_assoc,List.map_take,List.map_drop]
    rfl
  ·obtain rfl:k=s.length:=by omega
   have hno:s[s.length]? =none:=List.getElem?_eq_none (Nat.le_refl _)
   rw[hno]
   simp only[<- hml]
   rw[zac,aC,aC,zfU (Nat.le_refl _),aA,apN (by rw[List.length_take];omega),aA,ap1 (by rw[List.length_take];omega),aA,zji (Nat.le_refl _),aA,zgw (by simp only[List.length_append,List.length_take,List.length_drop,aL,List.length_nil];unfold lim;omega),aA,zab hix (show bs.length<=maxi by unfold maxi;omega)]
   congr 1
   rw[List.map_append,List.drop_length,List.append_nil,List.take_length,hml,List.take_length,hwc]
   rfl) (fun n s _=>by simp only[zdm,zac,aC])
 rw[List.map_nil]at e
 rw[e.1,zoz]
end
theorem zpr {x:Repo}(hb:RpB x)(a:Int)(p:Str):zis x a p=some (zur x a p):=by
 have hv:=zoW hb a p
 unfold zis zur
 rw[zqy hb]
 simp only[aA,jn,zak]
 rw[zw8 hv]
theorem zoY {l:List Share}(hl:l.length<=1000000):zit l l=some true:=by
 unfold zit
 simp only[bne_self_eq_false,aC,jn,zak]
 have e:=zbe (n:=l.length) (g:=fun _=>true) (r0:=some false) (Z:=some true) (f:=fun m i=>zeA l l (fun _ _=>some true) m false i) (fun m i hi=>by
  have hx:l[i]? =some l[i]:=aB hi
  simp only[zeA,zaj hx,zad hx,aD,aA,aO,Bool.and_self,aK,aC,zab hi (show l.length<=maxi by unfold maxi;omega)]) (fun m=>by simp only[zeA,zac,aC]) (l.length+1) (by omega)
 rw[e,zaJ.2 (fun _ _ _=>rfl),aD]
theorem zoA (w:Str): ∀ (ns:List Str) (s:Int),ns.foldl (fun s n=>if n==w then s+1 else s) s=s+(ns.count w:Int)
 | [],s=>by simp
 |n::ns,s=>by
  rw[List.foldl_cons,zoA w ns,List.count_cons]
  cases n==w<;>simp<;>omega
section
variable {x:Repo}{bs:List Int}(hv:zqP x bs)
include hv
theorem zw9 {a:Int}{p:Str}{l:List Share}{f:Nat}{s:Share}(hf:l[f]? =some s){K:Int->Int->Option Bool}:zcq (x,a,p) l bs (f:Int) K (bs.length+1) 0 0=K ((namesC x bs).count s.Who:Int) (bs.length:Int):=by
 have hl:=hv.1
 have e:=zaI (xs:=bs) (g:=fun(c:Int) i=>if whoC x i==s.Who then c+1 else c) (I:=fun i c=>0<=c/\c<=(i:Int)) (f:=fun n c i=>zcq (x,a,p) l bs (f:Int) K n c i) (Z:=fun c=>K c (bs.length:Int)) (s:=0) ⟨Int.le_refl _,Int.le_refl _⟩ (fun n i y c hy hI=>by
  obtain⟨q,rfl,hq,hw⟩:=hv.2 y (aH hy)
  have hix:=zas hy
  simp only[zcq,jn,zaj hy,zad hy,aD,aA,znR hq,zad hf,show(x.Commits.getD q noCommit).Who=whoC x (q:Int) from rfl]
  cases whoC x (q:Int)==s.Who with
  |true=>exact⟨by rw[aD,zag (by omega) (by omega),zab hix (show bs.length<=maxi by unfold maxi;omega),if_pos rfl],by rw[if_pos rfl];omega⟩
  |false=>exact⟨by rw[aC,zab hix (show bs.length<=maxi by unfold maxi;omega),if_neg (by simp)],by rw[if_neg (by simp)];omega⟩) (fun n c _=>by simp only[zcq,zac,aC])
 rw[e.1]
 have:bs.foldl (fun(c:Int) i=>if whoC x i==s.Who then c+1 else c) 0=((namesC x bs).count s.Who:Int):=by
  have:=zoA s.Who (namesC x bs) 0
  unfold namesC at this ⊢
  rw[List.foldl_map,Int.zero_add]at this
  exact this
 rw[this]
theorem zxa {a:Int}{p:Str}{m:List (Str×Int)}(hm:m=whoM (namesC x bs)){K:Bool->Int->Int->Option Bool}:zcr (x,a,p) (m.map shW) bs K ((m.map shW).length+1) false 0 0=K false (bs.length:Int) ((m.map shW).length:Int):=by
 subst hm
 have hlen:=zoX hv
 obtain⟨ha,hc,hsum,_,_⟩:=zlG (namesC x bs)
 generalize whoM (namesC x bs)=m at*
 have hml:(m.map shW).length=m.length:=List.length_map ..
 have hl:=hv.1
 have hnl:(namesC x bs).length=bs.length:=List.length_map ..
 have hcnt: ∀ q∈m,q.2<=10:=fun q hq=>by
  have:=(hc q hq).1
  have:=List.count_le_length (a:=q.1) (l:=namesC x bs)
  omega
 have e:=zaI (xs:=m.map shW) (g:=fun(c:Int) s=>c+s.Many) (I:=fun i c=>0<=c/\c<=10*(i:Int)) (f:=fun n c i=>zcr (x,a,p) (m.map shW) bs K n false c i) (Z:=fun c=>K false c ((m.map shW).length:Int)) (s:=0) ⟨Int.le_refl _,Int.le_refl _⟩ (fun n i s c hy hI=>by
  have hix:=zas hy
  rw[hml]at hix
  have hq:m[i]? =some m[i]:=aB hix
  have hs:s=shW m[i]:=by
   rw[List.getElem?_map,hq]at hy
   exact(Option.some.inj hy).symm
  have hmem:=List.getElem_mem hix
  have hcn:=hc _ hmem
  have hc10:=hcnt _ hmem
  have hcs:((namesC x bs).count s.Who:Int)=s.Many:=by rw[hs];exact hcn.1.symm
  have hm1:1<=s.Many/\s.Many<=10:=by rw[hs];exact⟨hcn.2,hc10⟩
  refine⟨?_,by omega⟩
  simp only[zcr,jn,zaj hy,aD,zak]
  rw[zw9 hv hy]
  simp only[zad hy,aA,hcs,bne_self_eq_false,aC]
  have ec:w64 (c+s.Many)=c+s.Many:=zag (by omega) (by omega)
  rw[beq_eq_false_iff_ne.2 (show s.Many≠0 by omega),aC,ec,zab (zas hy) (show(m.map shW).length<=maxi by unfold maxi;omega)]
  by_cases h0:0<i
  ·have hi1:((i:Int)-1)=((i-1:Nat):Int):=by omega
   have hp:(m.map shW)[i-1]? =some (shW (m[i-1]'(by omega))):=by rw[List.getElem?_map,aB (by omega)];rfl
   have hord:(m[i-1]'(by omega)).1<m[i].1:=List.pairwise_iff_getElem.1 ha (i-1) i (by omega) hix (by omega)
   rw[aF (by omega),aD,zag (by omega) (by omega),hi1,zad hp,aA]
   have h1:Op.bytesLess s.Who (shW (m[i-1]'(by omega))).Who=false:=by
    rw[zaZ,hs]
    exact aE (List.lt_asymm hord)
   have h2:(s.Who==(shW (m[i-1]'(by omega))).Who)=false:=beq_eq_false_iff_ne.2 fun e=>by
    rw[hs]at e
    have e2:m[i].1=(m[i-1]'(by omega)).1:=e
    rw[e2]at hord
    exact List.lt_irrefl _ hord
   rw[h1,h2]
   rfl
  ·rw[aE (by omega)]
   rfl) (fun n c _=>by simp only[zcr,zac,aC])
 rw[e.1]
 have hf: ∀ (q:List (Str×Int)) (c:Int),(q.map shW).foldl (fun(c:Int) s=>c+s.Many) c=c+sumW q:=by
  intro q
  induction q with
  |nil=>intro c;simp[sumW]
  |cons z q ih=>
   intro c
   rw[List.map_cons,List.foldl_cons,ih]
   unfold sumW
   rw[List.map_cons,List.sum_cons]
   show c+z.2+ _=_
   omega
 rw[hf,hsum,hnl,Int.zero_add]
end
theorem zqS {code:List Byte}(h:Bk.fit code):zhZ code=some true:=by
 unfold zhZ
 by_cases hc:(1048576:Int)< (code.length:Int)
 ·rw[aF hc];rfl
 obtain⟨x,a,p,e,hx,a0,a1,hpl⟩:=zou (code:=code) (by omega)
 have hb:=hx.rb
 have ed:zfn code=some (x,a,p):=by
  unfold zfn
  rw[e]
  rfl
 have hv:=zoW hb a p
 have hwl:(zur x a p).length<=10:=by
  unfold zur
  rw[List.length_map]
  exact zoX hv
 rw[aE hc,aC,ed]
 simp only[aA,show(⟨x.Commits,x.Heads⟩:Repo)=x from rfl,zpq hb,zpr hb,znS hb,zoY (show(zur x a p).length<=1000000 by omega),aK,aC,jn,zak]
 unfold zur
 rw[zxa hv rfl,aO]
end Go.Vm
