/- Plain law FnReviewFree, and what it uses: what the models answer. Conditions: each law's own premises. -/
import Derived.Test.YtifbmanldeabeaaGreatDoorCGFnReviewFreea
import Derived.Test.YtifbmanldeabeaaGreatDoorCLw
namespace Go.Vm
open Go Go.Sx
set_option linter.unusedSimpArgs false
set_option linter.unusedVariables false
theorem zhp.lt {l:List Int}(h:zhp l){i k:Nat}(hik:i<k)(hk:k<l.length):l.getD i 0<l.getD k 0:=by
 have h1:i<l.length:=by omega
 have:=List.pairwise_iff_getElem.1 h i k h1 hk hik
 rw[zdh (aB h1),zdh (aB hk)]
 exact this
theorem zhp.inj {l:List Int}(h:zhp l){i k:Nat}(hi:i<l.length)(hk:k<l.length)(e:l.getD i 0=l.getD k 0):i=k:=by
 rcases Nat.lt_trichotomy i k with h1 |h1 |h1
 ·have:=h.lt h1 hk;omega
 ·exact h1
 ·have:=h.lt h1 hi;omega
theorem ziQ (r:Repo)(a b:Int):zhp (zbG r a b):=(zgP r a).sublist List.filter_sublist
theorem zcJ {r:Repo}{a b x:Int}:x∈zbG r a b↔x∈zaX r a/\x∈zaX r b:=by
 unfold zbG
 rw[List.mem_filter,zaY]
theorem zpB {l:List Int}(h:zhp l)(p:Nat->Bool):zhp (zl2 p l):=by
 unfold zhp zl2
 rw[List.pairwise_map]
 refine List.Pairwise.imp_of_mem (fun {i k} hi hk hlt=>?_) ((zkm l.length).sublist List.filter_sublist)
 exact h.lt hlt (List.mem_range.1 (List.mem_filter.1 hk).1)
theorem zgE (r:Repo)(a b:Int):zhp (zaG r a b):=zpB (ziQ r a b) _
theorem ziq {l:List Int}{x:Int}:x∈l ↔ ∃ i,i<l.length/\l.getD i 0=x:=by
 constructor
 ·intro h
  obtain⟨i,hi⟩:=List.getElem?_of_mem h
  exact⟨i,(List.getElem?_eq_some_iff.1 hi).1,zdh hi⟩
 ·rintro⟨i,hi,rfl⟩
  rw[zdh (aB hi)]
  exact List.getElem_mem hi
theorem zfv {r:Repo}{a b x:Int}:x∈zaG r a b↔x∈zbG r a b /\ ∀ y∈zbG r a b,y≠x->x∉zaX r y:=by
 have hasc:=ziQ r a b
 unfold zaG zl2
 rw[List.mem_map]
 constructor
 ·rintro⟨i,hi,rfl⟩
  rw[List.mem_filter,List.mem_range]at hi
  obtain⟨hil,hb⟩:=hi
  unfold zm9 at hb
  rw[zaN]at hb
  refine⟨ziq.2 ⟨i,hil,rfl⟩,fun y hy hne hx=>?_⟩
  obtain⟨k,hk,rfl⟩:=ziq.1 hy
  have:=hb k (Nat.zero_le _) (by omega)
  rw[zaY.2 hx,aK,Bool.or_false,beq_iff_eq]at this
  exact hne (by rw[show k=i by omega])
 ·rintro⟨hm,hall⟩
  obtain⟨i,hi,rfl⟩:=ziq.1 hm
  refine⟨i,List.mem_filter.2 ⟨List.mem_range.2 hi,?_⟩,rfl⟩
  unfold zm9
  rw[zaN]
  intro k _ hk
  have hkl:k< (zbG r a b).length:=by omega
  cases hki:((k:Int)==(i:Int))with
  |true=>rfl
  |false=>
   have hne:k≠i:=fun e=>by rw[e]at hki;simp at hki
   have:=hall _ (ziq.2 ⟨k,hkl,rfl⟩) (fun e=>hne (hasc.inj hkl hi e))
   cases hq:zeT (zaX r ((zbG r a b).getD k 0)) ((zbG r a b).getD i 0)with
   |false=>rfl
   |true=>exact absurd (zaY.1 hq) this
theorem zng (r:Repo)(a b:Int):zaG r b a=zaG r a b:=by
 have hb: ∀ x,x∈zbG r b a↔x∈zbG r a b:=fun x=>by rw[zcJ,zcJ];exact And.comm
 refine zhp.ext (zgE _ _ _) (zgE _ _ _) fun x=>?_
 rw[zfv,zfv,hb]
 exact and_congr Iff.rfl ⟨fun h y hy=>h y ((hb y).2 hy),fun h y hy=>h y ((hb y).1 hy)⟩
def zjR (x y:List Bool)(n:Nat):List Bool:=(List.range n).map fun i=>x.getD i false&&y.getD i false
theorem zq3 (x y:List Bool)(n i:Nat)(hi:i<n):((List.range i).map (fun i=>x.getD i false&&y.getD i false)++List.replicate (n-i) false).set i (x.getD i false&&y.getD i false)=(List.range (i+1)).map (fun i=>x.getD i false&&y.getD i false)++List.replicate (n-(i+1)) false:=by
 obtain⟨k,hk⟩: ∃ k,n-i=k+1:=⟨n-i-1,by omega⟩
 rw[hk,show n-(i+1)=k by omega,List.set_append_right _ _ (by simp),List.length_map,List.length_range,Nat.sub_self,List.replicate_succ,List.set_cons_zero,List.range_succ,List.map_append,List.append_assoc]
 rfl
theorem zlA {x y q:List Bool}{n:Nat}(hx:x.length=n)(hy:y.length=n)(hq:q.length=n)(hn:n<=1000){F:List Bool->Option (List Int)}: ∀ (k i m:Nat),i+k=n->k<m->
 zbl x y q (fun _ z=>F z) m (i:Int) ((List.range i).map (fun i=>x.getD i false&&y.getD i false)++List.replicate (n-i) false)=F (zjR x y n)
 |k,i,0,_,hm=>by omega
 |0,i,m+1,hi,_=>by
  obtain rfl:i=n:=by omega
  simp only[zbl,hq,zac,aC,Nat.sub_self,List.replicate_zero,List.append_nil]
  rfl
 |k+1,i,m+1,hi,hm=>by
  have hlt:i<n:=by omega
  have hl:((List.range i).map (fun i=>x.getD i false&&y.getD i false)++List.replicate (n-i) false).length=n:=by simp;omega
  have ih:=zlA hx hy hq hn (F:=F) k (i+1) m (by omega) (by omega)
  rw[<- zq3 x y n i hlt]at ih
  simp only[zbl,hq]
  rw[aF (show(i:Int)< (n:Int) by omega),aD,zcx (by omega),aA]
  have hsi: ∀ v,siM ((List.range i).map (fun i=>x.getD i false&&y.getD i false)++List.replicate (n-i) false) (i:Int) v=some (((List.range i).map (fun i=>x.getD i false&&y.getD i false)++List.replicate (n-i) false).set i v):=fun v=>zbN (by omega) v
  have hg:=zcx (mk:=(List.range i).map (fun i=>x.getD i false&&y.getD i false)++List.replicate (n-i) false) (i:=i) (by omega)
  rw[zcx (show i<y.length by omega)]
  simp only[aA,hg,hsi,zab hlt (show n<=maxi by unfold maxi;omega)]
  cases hxi:x.getD i false with
  |true=>
   rw[hxi,Bool.true_and]at ih
   exact ih
  |false=>
   rw[hxi,Bool.false_and]at ih
   exact ih
def zmK (u:Int)(mk:List Bool)(p:Int):List Bool:=bif p !=u then mk.set p.toNat false else mk
theorem ziR (u:Int): ∀ (ps:List Int) (mk:List Bool),(∀ p∈ps,0<=p)->(ps.foldl (zmK u) mk).length=mk.length /\ ∀ j,j<mk.length->(ps.foldl (zmK u) mk).getD j false=(mk.getD j false && !(zeT ps (j:Int) && !((j:Int)==u)))
 | [],mk,_=>⟨rfl,fun j _=>by simp[zeT]⟩
 |p::ps,mk,hp=>by
  have hl:(zmK u mk p).length=mk.length:=by unfold zmK;cases(p !=u)<;>simp
  obtain⟨e1,e2⟩:=ziR u ps (zmK u mk p) (fun q hq=>hp q (List.mem_cons_of_mem _ hq))
  rw[List.foldl_cons]
  refine⟨e1.trans hl,fun j hj=>?_⟩
  have hp0:=hp p (by simp)
  rw[e2 j (by omega)]
  have hh:zeT (p::ps) (j:Int)=((p==(j:Int))||zeT ps (j:Int)):=rfl
  rw[hh]
  have hs:(zmK u mk p).getD j false=(mk.getD j false && !((p==(j:Int)) && !((j:Int)==u))):=by
   unfold zmK
   by_cases e:p=(j:Int)
   ·subst e
    cases hu:((j:Int)==u)with
    |true=>simp[bne,hu]
    |false=>simp[bne,hu,List.getD,hj]
   ·rw[beq_false_of_ne e,Bool.false_and,Bool.not_false,Bool.and_true]
    cases(p !=u)with
    |false=>rfl
    |true=>
     rw[aD]
     simp only[List.getD,List.getElem?_set_ne (show p.toNat≠j by omega)]
  rw[hs]
  cases mk.getD j false<;>cases(p==(j:Int))<;>cases zeT ps (j:Int)<;>cases((j:Int)==u)<;>rfl
def zjS (r:Repo)(ls:List Int)(mk:List Bool):List Bool:=ls.foldl (fun mk u=>(zaX r u).foldl (zmK u) mk) mk
theorem zgj (r:Repo): ∀ (ls:List Int) (mk:List Bool),(zjS r ls mk).length=mk.length /\ ∀ j,j<mk.length->(zjS r ls mk).getD j false=(mk.getD j false&&ls.all fun u=> !(zeT (zaX r u) (j:Int) && !((j:Int)==u)))
 | [],mk=>⟨rfl,fun j _=>by simp[zjS]⟩
 |u::ls,mk=>by
  obtain⟨f1,f2⟩:=ziR u (zaX r u) mk (fun p hp=>(za7 hp).1)
  obtain⟨e1,e2⟩:=zgj r ls ((zaX r u).foldl (zmK u) mk)
  refine⟨e1.trans f1,fun j hj=>?_⟩
  refine(e2 j (by omega)).trans ?_
  rw[f2 j hj,List.all_cons,Bool.and_assoc]
theorem zol {r:Repo}(hr:zae r=true){a b:Int}(ha:upB r.Commits.length a=true)(hb:upB r.Commits.length b=true):zkw (zjR (zar r a.toNat) (zar r b.toNat) r.Commits.length)=zbG r a b /\ ∀ j,j<r.Commits.length->(zjR (zar r a.toNat) (zar r b.toNat) r.Commits.length).getD j false=zeT (zbG r a b) (j:Int):=by
 obtain⟨a0,a1⟩:=zaB.1 ha
 obtain⟨b0,b1⟩:=zaB.1 hb
 have hg: ∀ j,j<r.Commits.length->(zjR (zar r a.toNat) (zar r b.toNat) r.Commits.length).getD j false=((zar r a.toNat).getD j false&&(zar r b.toNat).getD j false):=fun j hj=>by
  unfold zjR
  rw[List.getD,List.getElem?_map,List.getElem?_range hj]
  rfl
 have hm: ∀ j,j<r.Commits.length->((zjR (zar r a.toNat) (zar r b.toNat) r.Commits.length).getD j false=true↔ (j:Int)∈zbG r a b):=fun j hj=>by
  rw[hg j hj,aG,zcJ,zby hr a0 a1,zby hr b0 b1,Int.toNat_natCast]
  have h1:=zdM hr (show a.toNat<r.Commits.length by omega) j
  have h2:=zdM hr (show b.toNat<r.Commits.length by omega) j
  unfold mkd at h1 h2
  rw[h1,h2]
  exact⟨fun h=>⟨⟨Int.natCast_nonneg j,h.1⟩,Int.natCast_nonneg j,h.2⟩,fun h=>⟨h.1.2,h.2.2⟩⟩
 have hlen:(zjR (zar r a.toNat) (zar r b.toNat) r.Commits.length).length=r.Commits.length:=by unfold zjR;simp
 refine⟨zhp.ext (zhI _) (ziQ _ _ _) fun x=>?_,fun j hj=>?_⟩
 ·rw[zko]
  constructor
  ·rintro⟨hx,h⟩
   have hlt:=zlM h
   have:=(hm x.toNat (by omega)).1 h
   rwa [Int.toNat_of_nonneg hx]at this
  ·intro h
   have hxm:=za7 (zcJ.1 h).1
   refine⟨hxm.1,(hm x.toNat (by omega)).2 ?_⟩
   rwa [Int.toNat_of_nonneg hxm.1]
 ·apply zeS
  rw[hm j hj,zaY]
theorem zom {r:Repo}(hr:zae r=true){a b:Int}(ha:upB r.Commits.length a=true)(hb:upB r.Commits.length b=true):zkw (zjS r (zbG r a b) (zjR (zar r a.toNat) (zar r b.toNat) r.Commits.length))=zaG r a b:=by
 obtain⟨_,c2⟩:=zol hr ha hb
 have hlen:(zjR (zar r a.toNat) (zar r b.toNat) r.Commits.length).length=r.Commits.length:=by unfold zjR;simp
 obtain⟨g1,g2⟩:=zgj r (zbG r a b) (zjR (zar r a.toNat) (zar r b.toNat) r.Commits.length)
 have key: ∀ j,j<r.Commits.length->((zjS r (zbG r a b) (zjR (zar r a.toNat) (zar r b.toNat) r.Commits.length)).getD j false=true↔ (j:Int)∈zaG r a b):=fun j hj=>by
  rw[g2 j (by omega),c2 j hj,aG,zaY,List.all_eq_true,zfv]
  refine and_congr Iff.rfl ⟨fun h y hy hne hx=>?_,fun h y hy=>?_⟩
  ·have:=h y hy
   rw[zaY.2 hx,beq_false_of_ne (fun e=>hne e.symm)]at this
   cases this
  ·by_cases e:(j:Int)=y
   ·rw[e];simp
   ·have:=h y hy (fun e2=>e e2.symm)
    cases hq:zeT (zaX r y) (j:Int)with
    |false=>rfl
    |true=>exact absurd (zaY.1 hq) this
 refine zhp.ext (zhI _) (zgE _ _ _) fun x=>?_
 rw[zko]
 constructor
 ·rintro⟨hx,h⟩
  have hlt:=zlM h
  have:=(key x.toNat (by omega)).1 h
  rwa [Int.toNat_of_nonneg hx]at this
 ·intro h
  have hxm:=ziN h
  refine⟨hxm.1,(key x.toNat (by omega)).2 ?_⟩
  rwa [Int.toNat_of_nonneg hxm.1]
theorem zon {r:Repo}(hr:zae r=true){a b:Int}(ha:upB r.Commits.length a=true)(hb:upB r.Commits.length b=true):zdS r a b=some (zaG r a b):=by
 obtain⟨a0,a1⟩:=zaB.1 ha
 obtain⟨b0,b1⟩:=zaB.1 hb
 have hs:=(zai hr).1
 obtain⟨c1,c2⟩:=zol hr ha hb
 have hlen:(zjR (zar r a.toNat) (zar r b.toNat) r.Commits.length).length=r.Commits.length:=by unfold zjR;simp
 unfold zdS
 rw[zdp hr a0 a1,aA,zdp hr b0 b1,aA,zhY (by simp[lim];omega),aA]
 simp only[jn,List.length_replicate,zan]
 have e1:=zlA (x:=zar r a.toNat) (y:=zar r b.toNat) (q:=List.replicate r.Commits.length false) (n:=r.Commits.length) (zbu _ _) (zbu _ _) (by simp) (by omega) (F:=fun y31=>(za6 y31).bind fun z64=>(zbO y31).bind fun z72=>zaR r z72 (fun _ y84=>(zbO y84).bind fun z166=>some z166) (((z72.length:Int)-0).toNat+1) 0 z64) r.Commits.length 0 (r.Commits.length+1) (by omega) (by omega)
 refine(Eq.trans (by simp) e1).trans ?_
 have hcl:za6 (zjR (zar r a.toNat) (zar r b.toNat) r.Commits.length)=some (zjR (zar r a.toNat) (zar r b.toNat) r.Commits.length):=by
  unfold za6
  rw[if_pos (by rw[hlen];simp[lim];omega)]
 have hbl:(zbG r a b).length<=r.Commits.length:=Nat.le_trans (List.length_filter_le _ _) (zdo r a)
 rw[hcl,aA,ziP (by omega),aA,c1,zan]
 rw[zjQ (xs:=zbG r a b) (g:=fun mk u=>(zaX r u).foldl (zmK u) mk) (I:=fun mk=>mk.length=r.Commits.length) (Z:=fun mk=>(zbO mk).bind fun z=>some z) (f:=fun m i mk=>zaR r (zbG r a b) _ m i mk) hlen (fun m i o mk ho hmk=>by
  have hom:=za7 (zcJ.1 (aH ho)).1
  obtain⟨f1,f2⟩:=ziR o (zaX r o) mk (fun p hp=>(za7 hp).1)
  refine⟨?_,f1.trans hmk⟩
  simp only[zaR,jn,zal ho,zad ho,aD,aA,zdp hr hom.1 hom.2,ziP (show(zar r o.toNat).length<=1000 by rw[zbu];omega),zan]
  have hal:=zoK (zar r o.toNat)
  rw[zbu]at hal
  rw[zjQ (xs:=zkw (zar r o.toNat)) (g:=zmK o) (I:=fun mk=>mk.length=r.Commits.length) (Z:=fun mk=>zaR r (zbG r a b) (fun _ y84=>(zbO y84).bind fun z166=>some z166) m (w64 ((i:Int)+1)) mk) (f:=fun m' i mk=>zbz o (zkw (zar r o.toNat)) _ m' i mk) hmk (fun m' i' x mk' hx hmk'=>by
   have hxm:=za7 (r:=r) (a:=o) (aH hx)
   have hxl:x.toNat<mk'.length:=by omega
   have e1:gi mk' x=some (mk'.getD x.toNat false):=by
    have:=zcx hxl
    rwa [Int.toNat_of_nonneg hxm.1]at this
   have e2:siM mk' x false=some (mk'.set x.toNat false):=by
    have:=zbN hxl false
    rwa [Int.toNat_of_nonneg hxm.1]at this
   refine⟨?_,by unfold zmK;cases(x !=o)<;>simp[hmk']⟩
   simp only[zbz,jn,zal hx,zad hx,aD,aA,e1,e2,zab (zau hx) (show(zkw (zar r o.toNat)).length<=maxi by unfold maxi;omega)]
   unfold zmK
   cases(x !=o)<;>rfl) (fun m' mk' _=>by simp only[zbz,zac,aC]),zab (zau ho) (show(zbG r a b).length<=maxi by unfold maxi;omega)]
  rfl) (fun m mk _=>by simp only[zaR,zac,aC])]
 obtain⟨g1,_⟩:=zgj r (zbG r a b) (zjR (zar r a.toNat) (zar r b.toNat) r.Commits.length)
 rw[show(zbG r a b).foldl (fun mk u=>(zaX r u).foldl (zmK u) mk) (zjR (zar r a.toNat) (zar r b.toNat) r.Commits.length)=zjS r (zbG r a b) (zjR (zar r a.toNat) (zar r b.toNat) r.Commits.length) from rfl,ziP (by omega),aA,zom hr ha hb]
set_option linter.unusedSectionVars false
theorem zjz {r:Repo}(h:RpB r){a:Int}(ha:upB r.Commits.length a=true):zbr r a=some (zaA r a.toNat):=by
 obtain⟨a0,a1⟩:=zaB.1 ha
 unfold zbr
 rw[aE (by omega),aC,zdH a0 a1]
 rfl
section
variable {r:Repo}(h:RpB r)(hr:zae r=true)
include h hr
theorem zlB:Gd False r:=⟨h,hr,fun e=>e.elim⟩
theorem zjE {a b:Int}(ha:upB r.Commits.length a=true)(hb:upB r.Commits.length b=true):zbA r a b=some (zfo r a b):=by
 have hs:=(zai hr).1
 have hl:=zls r a b
 unfold zbA zfo
 rw[zon hr ha hb,aA]
 cases hz:((zaG r a b).length:Int)==0 with
 |true=>rfl
 |false=>
  have hne:((zaG r a b).length:Int)≠0:=by simpa using hz
  have e:w64 (((zaG r a b).length:Int)-1)=(((zaG r a b).length-1:Nat):Int):=by rw[zah (by omega) (by omega)];omega
  have hlt:(zaG r a b).length-1< (zaG r a b).length:=by omega
  have hm:(zaG r a b).getD ((zaG r a b).length-1) 0∈zaG r a b:=by
   rw[zdh (aB hlt)];exact List.getElem_mem hlt
  rw[aC,aC,e,ziM hlt,aA,zjz h (zaB.2 (ziN hm)),aA]
end
def zrJ (r:Repo)(n:Str)(x:Repo):Prop:=x=r\/x=zce\/zae x=true
theorem zrJ.bulk {r x:Repo}{n:Str}(h:zrJ r n x):Bk.bulk x<=Bk.bulk r+20000:=by
 rcases h with h |h |h
 ·rw[h];omega
 ·rw[h];show 0+0+(0+0)<=_;omega
 ·have:=zpy h;omega
theorem zrJ.fit {r x:Repo}{n:Str}(hf:Bk.fit r)(h:zrJ r n x):Bk.fit x:=by
 rcases h with h |h |h
 ·rw[h];exact hf
 ·rw[h];exact⟨⟨by simp[zce,maxi],by simp[zce]⟩,by simp[zce,maxi],by simp[zce]⟩
 ·exact zpA h
theorem zlR (r:Repo)(a b:Int):zfo r b a=zfo r a b:=by
 unfold zfo
 rw[zng]
section
variable {r:Repo}(h:RpB r)(hr:zae r=true){a b:Int}(ha:upB r.Commits.length a=true)(hb:upB r.Commits.length b=true)
include h hr ha hb
end
def zfY (xs:List Str)(l h:Nat):List Str:=(xs.take h).drop l
theorem zfp {xs:List Str}{l h:Nat}(hh:h<=xs.length):(zfY xs l h).length=h-l:=by
 unfold zfY
 simp
 omega
theorem zk2 {xs:List Str}(ht:zaw xs=true)(l h:Nat):zaw (zfY xs l h)=true:=by
 unfold zaw at*
 simp only[aG,Bool.not_eq_true',decide_eq_false_iff_not,List.all_eq_true]at*
 refine⟨?_,fun x hx=>ht.2 x ?_⟩
 ·have:(zfY xs l h).length<=xs.length:=by unfold zfY;simp;omega
  omega
 ·exact List.mem_of_mem_take (List.mem_of_mem_drop hx)
def zdG (o b:List Str):Nat->List Int->Nat->Nat->List Hunk
 |_,[],_,_=>[]
 |i,m::ms,f,k=>bif decide (m<0) then zdG o b (i+1) ms f k else(bif decide (f<i)||decide ((k:Int)<m) then [⟨(f:Int),zfY o f i,zfY b k m.toNat⟩] else [])++zdG o b (i+1) ms (i+1) (m.toNat+1)
def ChH:Int->List Hunk->Prop
 |_,[]=>True
 |lo,d::l=>lo<=d.At/\ChH (d.At+d.Less.length+1) l
theorem ChH.mono: ∀ {l:List Hunk} {lo lo':Int},lo'<=lo->ChH lo l->ChH lo' l
 | [],_,_,_,_=>trivial
 |d::l,_,_,h,⟨h1,h2⟩=>⟨Int.le_trans h h1,h2⟩
def zpe (n:Nat)(d:Hunk):Prop:=zaw d.Less=true/\zaw d.More=true/\0<d.Less.length+d.More.length/\0<=d.At/\d.At<=n
theorem zhf {o b:List Str}(ho:zaw o=true)(hb:zaw b=true): ∀ (ms:List Int) (i f k:Nat),i+ms.length=o.length+1->f<=i->k<=b.length+1->Asc ((b.length:Int)+1) (k:Int) ms->
 3*(zdG o b i ms f k).length<=(o.length+1-f)+(b.length+1-k)/\ChH (f:Int) (zdG o b i ms f k) /\ ∀ d∈zdG o b i ms f k,zpe o.length d
 | [],i,f,k,_,_,_,_=>⟨by simp[zdG],trivial,fun d hd=>by simp[zdG]at hd⟩
 |m::ms,i,f,k,hi,hf,hk,hA=>by
  simp only[aL]at hi
  unfold zdG
  rcases hA with ⟨h1,h2⟩ |⟨h1,h2,h3⟩
  ·rw[aF (show m<0 by omega),aD]
   exact zhf ho hb ms (i+1) f k (by omega) (by omega) hk h2
  ·obtain⟨n,rfl⟩:=Int.eq_ofNat_of_zero_le (show 0<=m by omega)
   rw[aE (show ¬ (n:Int)<0 by omega),aC,Int.toNat_natCast]
   obtain⟨q1,q2,q3⟩:=zhf ho hb ms (i+1) (i+1) (n+1) (by omega) (by omega) (by omega) (by simpa using h3)
   cases hc:decide (f<i)||decide ((k:Int)< (n:Int))with
   |false=>
    rw[aC,List.nil_append]
    exact⟨by omega,q2.mono (by omega),q3⟩
   |true=>
    simp only[Bool.or_eq_true,decide_eq_true_eq]at hc
    rw[aD,List.singleton_append]
    have l1:(zfY o f i).length=i-f:=zfp (by omega)
    have l2:(zfY b k n).length=n-k:=zfp (by omega)
    refine⟨by simp only[aL];omega,⟨Int.le_refl _,?_⟩,fun d hd=>?_⟩
    ·show ChH ((f:Int)+((zfY o f i).length:Int)+1) _
     exact q2.mono (by rw[l1];omega)
    ·rcases List.mem_cons.1 hd with e |e
     ·rw[e]
      exact⟨zk2 ho _ _,zk2 hb _ _,by show 0< (zfY o f i).length+(zfY b k n).length;rw[l1,l2];omega,by show(0:Int)<=(f:Int);omega,by show(f:Int)<=_;omega⟩
     ·exact q3 d e
theorem zgJ {o b:List Str}: ∀ (ms:List Int) (i f k:Nat),(∃ m∈ms,0<=m)->f<i\/(∀ m∈ms,0<=m->(k:Int)<m)->zdG o b i ms f k≠ []
 | [],i,f,k,h,_=>by obtain⟨m,hm,_⟩:=h;simp at hm
 |m::ms,i,f,k,h,hc=>by
  unfold zdG
  by_cases hm:m<0
  ·rw[aF hm,aD]
   refine zgJ ms (i+1) f k ?_ ?_
   ·obtain⟨x,hx,h0⟩:=h
    rcases List.mem_cons.1 hx with e |e
    ·omega
    ·exact⟨x,e,h0⟩
   ·rcases hc with hc |hc
    ·exact .inl (by omega)
    ·exact .inr fun x hx=>hc x (List.mem_cons_of_mem _ hx)
  ·rw[aE hm,aC]
   have:(decide (f<i)||decide ((k:Int)<m))=true:=by
    simp only[Bool.or_eq_true,decide_eq_true_eq]
    rcases hc with hc |hc
    ·exact .inl hc
    ·exact .inr (hc m (by simp) (by omega))
   rw[this]
   simp
theorem zlT {hi:Int}: ∀ {l:List Int} {lo:Int},Asc hi lo l -> ∀ m∈l,0<=m->lo<=m
 | [],_,_,m,hm,_=>by simp at hm
 |x::l,lo,h,m,hm,h0=>by
  rcases h with ⟨h1,h2⟩ |⟨h1,h2,h3⟩
  ·rcases List.mem_cons.1 hm with e |e
   ·omega
   ·exact zlT h2 m e h0
  ·rcases List.mem_cons.1 hm with e |e
   ·omega
   ·have:=zlT h3 m e h0;omega
theorem zk3 {o b:List Str}: ∀ (u v:List Str) (i k:Nat),zdG o b i (mtF u v k++[((k+v.length:Nat):Int)]) i k=[]->u=v
 | [],v,i,k,h=>by
  rw[ziC,List.nil_append]at h
  unfold zdG at h
  rw[aE (by omega),aC]at h
  cases v with
  |nil=>rfl
  |cons y ys=>
   exfalso
   rw[show(decide (i<i)||decide ((k:Int)< ((k+(y::ys).length:Nat):Int)))=true by simp only[Bool.or_eq_true,decide_eq_true_eq,aL];exact .inr (by omega)]at h
   simp at h
 |x::xs,[],i,k,h=>by
  exfalso
  rw[zhF,List.cons_append]at h
  unfold zdG at h
  rw[show decide ((-1:Int)<0)=true from rfl,aD]at h
  exact zgJ _ _ _ _ ⟨((k+([]:List Str).length:Nat):Int),by simp,by omega⟩ (.inl (by omega)) h
 |x::xs,y::ys,i,k,h=>by
  rw[zhc]at h
  split at h
  ·rename_i he
   have e:x=y:=by simpa using he
   rw[List.cons_append]at h
   unfold zdG at h
   rw[aE (by omega),aC,show(decide (i<i)||decide ((k:Int)< (k:Int)))=false by simp,aC,List.nil_append,Int.toNat_natCast]at h
   rw[e,zk3 xs ys (i+1) (k+1) (by rw[show k+1+ys.length=k+(y::ys).length by simp only[aL];omega];exact h)]
  ·exfalso
   split at h
   ·rw[List.cons_append]at h
    unfold zdG at h
    rw[show decide ((-1:Int)<0)=true from rfl,aD]at h
    exact zgJ _ _ _ _ ⟨((k+(y::ys).length:Nat):Int),by simp,by omega⟩ (.inl (by omega)) h
   ·refine zgJ _ _ _ _ ⟨((k+(y::ys).length:Nat):Int),by simp,by omega⟩ (.inr fun m hm h0=>?_) h
    rcases List.mem_append.1 hm with e |e
    ·have:=zlT (zhj _ (x::xs) ys (k+1) (Nat.le_refl _)).1 m e h0
     omega
    ·rw[List.mem_singleton]at e
     simp only[aL]at e
     omega
def ziv (o b:List Str):List Hunk:=zdG o b 0 (mt2 o b++[(b.length:Int)]) 0 0
theorem zlU {o b:List Str}(ho:zaw o=true)(hb:zaw b=true):(ziv o b).length<=7/\ChH 0 (ziv o b)/\(∀ d∈ziv o b,zpe o.length d)/\(ziv o b=[]->o=b):=by
 have lo:=zam ho
 have lb:=zam hb
 have ha:=zeE o b
 obtain⟨q1,q2,q3⟩:=zhf ho hb (mt2 o b++[(b.length:Int)]) 0 0 0 (by simp[ha.2]) (Nat.le_refl _) (by omega) (Asc.snoc (by omega) (by simp) ha.1)
 refine⟨?_,q2,q3,fun h=>zk3 o b 0 0 (by simpa[ziv,mt2]using h)⟩
 unfold ziv
 omega
theorem zgX {p:Str}(h:zaS p=true):p≠ []:=by
 intro e
 rw[e]at h
 revert h
 decide
def toB (out:List Change)(p:Str):Bool:=out.any fun c=>c.To==p
def zhQ (a b:List File)(text:List Str)(out:List Change):Str:=match b.find? (fun g=>(!(getT a g.Path).2 && !toB out g.Path)&&g.Text==text)with
 |some g=>g.Path
 |none=>[]
def zhg (a b:List File)(out:List Change)(f:File):List Change:=
 bif(getT b f.Path).2 then(bif(getT b f.Path).1==f.Text then out else out++[⟨3,f.Path,[],[],ziv f.Text (getT b f.Path).1⟩])
 else bif zhQ a b f.Text out !=[] then out++[⟨4,f.Path,zhQ a b f.Text out,[],[]⟩] else out++[⟨2,f.Path,[],f.Text,[]⟩]
def ofA (a b:List File):List Change:=a.foldl (zhg a b) []
def znF (a b:List File)(g:File):Bool:= !(getT a g.Path).2 && !toB (ofA a b) g.Path
def zpU (g:File):Change:=⟨1,g.Path,[],g.Text,[]⟩
def ofB (a b:List File):List Change:=ofA a b++(b.filter (znF a b)).map zpU
def VC (c:Change):Prop:=zaS c.Path=true/\
 ((c.Kind=3/\c.To=[]/\c.Text=[]/\c.Patch≠ []/\c.Patch.length<=7/\ChH 0 c.Patch /\ ∀ d∈c.Patch,zpe 10 d)\/
  (c.Kind=4/\zaS c.To=true/\c.To≠c.Path/\c.Text=[]/\c.Patch=[])\/
  ((c.Kind=1\/c.Kind=2)/\c.To=[]/\zaw c.Text=true/\c.Patch=[]))
def RC (c d:Change):Prop:=c.Path≠d.Path/\c.To≠d.Path/\(d.To≠ []->c.Path≠d.To/\c.To≠d.To)
section
variable {a b:List File}(ta:zaK a=true)(tb:zaK b=true)
structure InvC (a b pre:List File) (out:List Change):Prop where
 len:out.length<=pre.length
 ok: ∀ c∈out,VC c
 inA: ∀ c∈out,∃ f∈pre,f.Path=c.Path
 to: ∀ c∈out,c.To≠ []->(getT a c.To).2=false/\(getT b c.To).2=true
 diff: ∀ c∈out,getT a c.Path≠getT b c.Path
 pw:out.Pairwise RC
 all: ∀ f∈pre,getT a f.Path≠getT b f.Path -> ∃ c∈out,c.Path=f.Path
theorem zpf {text:List Str}{out:List Change}(h:zhQ a b text out≠ []): ∃ g∈b,g.Path=zhQ a b text out/\(getT a g.Path).2=false/\toB out g.Path=false:=by
 unfold zhQ at*
 cases hf:b.find? (fun g=>(!(getT a g.Path).2 && !toB out g.Path)&&g.Text==text)with
 |none=>rw[hf]at h;exact absurd rfl h
 |some g=>
  have:=List.find?_some hf
  simp only[aG,Bool.not_eq_true']at this
  exact⟨g,List.mem_of_find?_eq_some hf,rfl,this.1.1,this.1.2⟩
include ta tb
theorem zky {t:List File}(tt:zaK t=true){f:File}(hf:f∈t):getT t f.Path=(f.Text,true):=zpZ (zjy tt) hf
theorem ziw {pre suf:List File}{f:File}{out:List Change}(h:InvC a b pre out)(he:pre++f::suf=a){c:Change}(hp:c.Path=f.Path)(hv:VC c)(hd:getT a f.Path≠getT b f.Path)(hto:c.To≠ []->(getT a c.To).2=false/\(getT b c.To).2=true/\toB out c.To=false):InvC a b (pre++[f]) (out++[c]):=by
 have hfa:f∈a:=by rw[<- he];simp
 have hpw:=zjy ta
 rw[<- he]at hpw
 have hlt: ∀ g∈pre,g.Path≠f.Path:=fun g hg e=>by
  have:=(List.pairwise_append.1 hpw).2.2 g hg f (by simp)
  rw[e]at this
  exact zaq _ this
 have hfp:=za0 ta hfa
 have hat:=zky ta tb ta hfa
 refine⟨by simp;exact h.len,fun x hx=>?_,fun x hx=>?_,fun x hx=>?_,fun x hx=>?_,?_,fun g hg hgd=>?_⟩
 ·rcases List.mem_append.1 hx with e |e
  ·exact h.ok x e
  ·rw[List.mem_singleton.1 e];exact hv
 ·rcases List.mem_append.1 hx with e |e
  ·obtain⟨g,hg,e2⟩:=h.inA x e
   exact⟨g,by simp[hg],e2⟩
  ·rw[List.mem_singleton.1 e];exact⟨f,by simp,hp.symm⟩
 ·rcases List.mem_append.1 hx with e |e
  ·exact h.to x e
  ·rw[List.mem_singleton.1 e];exact fun h0=>⟨(hto h0).1,(hto h0).2.1⟩
 ·rcases List.mem_append.1 hx with e |e
  ·exact h.diff x e
  ·rw[List.mem_singleton.1 e,hp];exact hd
 ·refine List.pairwise_append.2 ⟨h.pw,by simp,fun x hx y hy=>?_⟩
  rw[List.mem_singleton.1 hy]
  obtain⟨g,hg,e2⟩:=h.inA x hx
  have hga:g∈a:=by rw[<- he];simp[hg]
  have hgt:=zky ta tb ta hga
  refine⟨by rw[<- e2,hp];exact hlt g hg,fun e=>?_,fun h0=>⟨fun e=>?_,fun e=>?_⟩⟩
  ·by_cases hx0:x.To=[]
   ·rw[hx0,hp]at e;exact zgX hfp e.symm
   ·have:=(h.to x hx hx0).1
    rw[e,hp,hat]at this
    cases this
  ·have:=(hto h0).1
   rw[<- e,<- e2,hgt]at this
   cases this
  ·have:=(hto h0).2.2
   unfold toB at this
   have h2:=List.any_eq_false.1 this x hx
   rw[e]at h2
   simp at h2
 ·rcases List.mem_append.1 hg with e |e
  ·obtain⟨x,hx,e2⟩:=h.all g e hgd
   exact⟨x,by simp[hx],e2⟩
  ·rw[List.mem_singleton.1 e];exact⟨c,by simp,hp⟩
theorem znL {pre:List File}{f:File}{out:List Change}(h:InvC a b pre out)(hd:getT a f.Path=getT b f.Path):InvC a b (pre++[f]) out:=by
 refine⟨Nat.le_trans h.len (by simp),h.ok,fun x hx=>?_,h.to,h.diff,h.pw,fun g hg hgd=>?_⟩
 ·obtain⟨g,hg,e2⟩:=h.inA x hx
  exact⟨g,by simp[hg],e2⟩
 ·rcases List.mem_append.1 hg with e |e
  ·exact h.all g e hgd
  ·rw[List.mem_singleton.1 e]at hgd;exact absurd hd hgd
theorem znM {pre suf:List File}{f:File}{out:List Change}(h:InvC a b pre out)(he:pre++f::suf=a):InvC a b (pre++[f]) (zhg a b out f):=by
 have hfa:f∈a:=by rw[<- he];simp
 have hfp:=za0 ta hfa
 have hft:=zaj ta f hfa
 have hat:=zky ta tb ta hfa
 unfold zhg
 cases hb:(getT b f.Path).2 with
 |true=>
  rw[aD]
  have hbt:=zbq (zaj tb) f.Path
  cases hs:(getT b f.Path).1==f.Text with
  |true=>
   have e1:(getT b f.Path).1=f.Text:=by simpa using hs
   exact znL ta tb h (by rw[hat];exact(Prod.ext e1 hb).symm)
  |false=>
   have e1:(getT b f.Path).1≠f.Text:=fun e=>by rw[e]at hs;simp at hs
   obtain⟨d1,d2,d3,d4⟩:=zlU hft hbt
   have hl:=zam hft
   refine ziw ta tb h he rfl ⟨hfp, .inl ⟨rfl,rfl,rfl,fun e=>e1 (d4 e).symm,d1,d2,fun d hd=>?_⟩⟩ (fun e=>e1 (by rw[<- e,hat])) (fun h0=>absurd rfl h0)
   obtain⟨x1,x2,x3,x4,x5⟩:=d3 d hd
   exact⟨x1,x2,x3,x4,by omega⟩
 |false=>
  rw[aC]
  have hne:getT a f.Path≠getT b f.Path:=fun e=>by rw[<- e,hat]at hb;cases hb
  cases ht:zhQ a b f.Text out !=[]with
  |true=>
   have ht':zhQ a b f.Text out≠ []:=by simpa using ht
   obtain⟨g,hg,e1,e2,e3⟩:=zpf ht'
   rw[e1]at e2 e3
   have hgp:=za0 tb hg
   have hgt:=zky ta tb tb hg
   rw[e1]at hgp hgt
   have hnp:zhQ a b f.Text out≠f.Path:=fun e=>by rw[e,hat]at e2;cases e2
   exact ziw ta tb h he rfl ⟨hfp, .inr (.inl ⟨rfl,hgp,hnp,rfl,rfl⟩)⟩ hne (fun _=>⟨e2,by show(getT b (zhQ a b f.Text out)).2=true;rw[hgt],e3⟩)
  |false=>exact ziw ta tb h he rfl ⟨hfp, .inr (.inr ⟨.inr rfl,rfl,hft,rfl⟩)⟩ hne (fun h0=>absurd rfl h0)
theorem zk4: ∀ (suf pre:List File) (out:List Change),pre++suf=a->InvC a b pre out->InvC a b a (suf.foldl (zhg a b) out)
 | [],pre,out,he,h=>by rw[List.append_nil]at he;rw[<- he]at h ⊢;exact h
 |f::suf,pre,out,he,h=>zk4 suf (pre++[f]) _ (by rw[List.append_assoc];exact he) (znM ta tb h he)
theorem zlE:InvC a b a (ofA a b):=zk4 ta tb a [] [] rfl ⟨by simp,by simp,by simp,by simp,by simp, .nil,by simp⟩
theorem zhh:(ofB a b).length<=16/\(∀ c∈ofB a b,VC c)/\(ofB a b).Pairwise RC:=by
 have h:=zlE ta tb
 have la:=zaz ta
 have lb:=zaz tb
 have hl:=h.len
 have hf: ∀ c∈(b.filter (znF a b)).map zpU,∃ g∈b,znF a b g=true/\c=zpU g:=fun c hc=>by
  obtain⟨g,hg,e⟩:=List.mem_map.1 hc
  obtain⟨h1,h2⟩:=List.mem_filter.1 hg
  exact⟨g,h1,h2,e.symm⟩
 refine⟨?_,fun c hc=>?_,?_⟩
 ·unfold ofB
  have:=List.length_filter_le (znF a b) b
  simp only[List.length_append,List.length_map]
  omega
 ·rcases List.mem_append.1 hc with e |e
  ·exact h.ok c e
  ·obtain⟨g,hg,_,e2⟩:=hf c e
   rw[e2]
   exact⟨za0 tb hg, .inr (.inr ⟨.inl rfl,rfl,zaj tb g hg,rfl⟩)⟩
 ·refine List.pairwise_append.2 ⟨h.pw,?_,fun c hc d hd=>?_⟩
  ·refine List.pairwise_map.2 ((zjy tb).sublist List.filter_sublist |>.imp_of_mem ?_)
   intro x y hx hy hlt
   refine⟨fun e=>?_,fun e=>?_,fun h0=>absurd rfl h0⟩
   ·have e':x.Path=y.Path:=e
    rw[e']at hlt;exact zaq _ hlt
   ·have e':[]=y.Path:=e
    exact zgX (za0 tb (List.mem_filter.1 hy).1) e'.symm
  ·obtain⟨g,hg,hadd,e2⟩:=hf d hd
   rw[e2]
   unfold znF at hadd
   simp only[aG,Bool.not_eq_true']at hadd
   refine⟨fun e=>?_,fun e=>?_,fun h0=>absurd rfl h0⟩
   ·obtain⟨f,hfa,e3⟩:=h.inA c hc
    have:=zky ta tb ta hfa
    have e':c.Path=g.Path:=e
    rw[e3,e']at this
    rw[this]at hadd
    cases hadd.1
   ·have h2:=hadd.2
    unfold toB at h2
    have h3:=List.any_eq_false.1 h2 c hc
    have e':c.To=g.Path:=e
    rw[e']at h3
    simp at h3
end
def zmo (out:List Str)(c:Change):List Str:=bif c.To !=[] then zgw (zgw out c.Path) c.To else zgw out c.Path
def pathsC (l:List Change):List Str:=l.foldl zmo []
theorem zoH {out:List Str}(h:Asd out)(c:Change):Asd (zmo out c):=by
 unfold zmo
 cases c.To !=[]with
 |true=>exact zcD _ _
 |false=>exact zcD _ _
theorem zpg {out:List Str}{c:Change}{x:Str}:x∈zmo out c↔x∈out\/(x=c.Path\/(c.To≠ []/\x=c.To)):=by
 unfold zmo
 cases h:c.To !=[]with
 |true=>
  have h':c.To≠ []:=by simpa using h
  rw[aD,insS_mem,insS_mem]
  constructor
  ·rintro((h1 |h1) |h1)
   ·exact .inl h1
   ·exact .inr (.inl h1)
   ·exact .inr (.inr ⟨h',h1⟩)
  ·rintro(h1 |h1 |⟨_,h1⟩)
   ·exact .inl (.inl h1)
   ·exact .inl (.inr h1)
   ·exact .inr h1
 |false=>
  have h':c.To=[]:=by simpa using h
  rw[aC,insS_mem]
  constructor
  ·rintro(h1 |h1)
   ·exact .inl h1
   ·exact .inr (.inl h1)
  ·rintro(h1 |h1 |⟨h0,_⟩)
   ·exact .inl h1
   ·exact .inr h1
   ·exact absurd h' h0
theorem zk5: ∀ (l:List Change) (out:List Str) (x:Str),x∈l.foldl zmo out↔x∈out \/ ∃ c∈l,x=c.Path\/(c.To≠ []/\x=c.To)
 | [],out,x=>by simp
 |c::l,out,x=>by
  rw[List.foldl_cons,zk5 l,zpg]
  constructor
  ·rintro((h |h) |⟨d,hd,h⟩)
   ·exact .inl h
   ·exact .inr ⟨c,by simp,h⟩
   ·exact .inr ⟨d,by simp[hd],h⟩
  ·rintro(h |⟨d,hd,h⟩)
   ·exact .inl (.inl h)
   ·rcases List.mem_cons.1 hd with e |e
    ·rw[e]at h;exact .inl (.inr h)
    ·exact .inr ⟨d,e,h⟩
theorem zji: ∀ (l:List Change) (out:List Str),(l.foldl zmo out).length<=out.length+2*l.length
 | [],out=>by simp
 |c::l,out=>by
  have h1:=zji l (zmo out c)
  have h2:(zmo out c).length<=out.length+2:=by
   unfold zmo
   have:=zcN out c.Path
   have:=zcN (zgw out c.Path) c.To
   cases c.To !=[]<;>simp only[aD,aC]<;>omega
  simp only[List.foldl_cons,aL]
  omega
theorem zi1 {l:List Change}{x:Str}:x∈pathsC l ↔ ∃ c∈l,x=c.Path\/(c.To≠ []/\x=c.To):=by
 unfold pathsC
 rw[zk5]
 simp
theorem zk6 {a b:List File}(ta:zaK a=true)(tb:zaK b=true){x:Str}(h:x∈pathsC (ofB a b)):zaS x=true:=by
 obtain⟨c,hc,hx⟩:=zi1.1 h
 obtain⟨h1,h2⟩:=(zhh ta tb).2.1 c hc
 rcases hx with rfl |⟨h0,rfl⟩
 ·exact h1
 ·rcases h2 with h2 |h2 |h2
  ·exact absurd h2.2.1 h0
  ·exact h2.2.1
  ·exact absurd h2.2.1 h0
def zhC (v:Review)(who:Str):Bool:=who==[]||who==v.By||v.Yes.any (fun y=>y==who)
def zfS (w:Str->Str)(v:Review)(out:List Str)(p:Str):List Str:=bif zhC v (w p) then out else zgw out (w p)
def zj9 (w:Str->Str)(v:Review)(ps:List Str):List Str:=ps.foldl (zfS w v) []
theorem znN {w:Str->Str}{v:Review}{out:List Str}{p x:Str}:x∈zfS w v out p↔x∈out\/(w p=x/\zhC v x=false):=by
 unfold zfS
 cases h:zhC v (w p)with
 |true=>
  rw[aD]
  exact⟨.inl,fun h1=>h1.elim id fun⟨e,h2⟩=>by rw[e,h2]at h;cases h⟩
 |false=>
  rw[aC,insS_mem]
  constructor
  ·rintro(h1 |h1)
   ·exact .inl h1
   ·exact .inr ⟨h1.symm,by rw[h1];exact h⟩
  ·rintro(h1 |⟨h1,_⟩)
   ·exact .inl h1
   ·exact .inr h1.symm
theorem zk7 {w:Str->Str}{v:Review}: ∀ (ps:List Str) (out:List Str) (x:Str),x∈ps.foldl (zfS w v) out↔x∈out \/ ∃ p∈ps,w p=x/\zhC v x=false
 | [],out,x=>by simp
 |p::ps,out,x=>by
  rw[List.foldl_cons,zk7 ps,znN]
  constructor
  ·rintro((h |h) |⟨q,hq,h⟩)
   ·exact .inl h
   ·exact .inr ⟨p,by simp,h⟩
   ·exact .inr ⟨q,by simp[hq],h⟩
  ·rintro(h |⟨q,hq,h⟩)
   ·exact .inl (.inl h)
   ·rcases List.mem_cons.1 hq with e |e
    ·rw[e]at h;exact .inl (.inr h)
    ·exact .inr ⟨q,e,h⟩
theorem zix {w:Str->Str}{v:Review}: ∀ (ps:List Str) (out:List Str),Asd out->Asd (ps.foldl (zfS w v) out)
 | [],_,h=>h
 |p::ps,out,h=>by
  refine zix ps _ ?_
  unfold zfS
  cases zhC v (w p)with
  |true=>exact h
  |false=>exact zcD _ _
theorem zoo {w:Str->Str}{v:Review}: ∀ (ps:List Str) (out:List Str),(ps.foldl (zfS w v) out).length<=out.length+ps.length
 | [],out=>by simp
 |p::ps,out=>by
  have h1:=zoo (w:=w) (v:=v) ps (zfS w v out p)
  have h2:(zfS w v out p).length<=out.length+1:=by
   unfold zfS
   have:=zcN out (w p)
   cases zhC v (w p)<;>simp only[aD,aC]<;>omega
  simp only[List.foldl_cons,aL]
  omega
theorem ziy {w:Str->Str}{v:Review}{ps:List Str}{x:Str}:x∈zj9 w v ps ↔ ∃ p∈ps,w p=x/\zhC v x=false:=by
 unfold zj9
 rw[zk7]
 simp
theorem znO {w:Str->Str}{v:Review}{ps qs:List Str}(h: ∀ x,x∈ps↔x∈qs):zj9 w v ps=zj9 w v qs:=by
 refine Asd.ext (zix ps [] .nil) (zix qs [] .nil) fun x=>?_
 rw[ziy,ziy]
 exact⟨fun⟨p,hp,e⟩=>⟨p,(h p).1 hp,e⟩,fun⟨p,hp,e⟩=>⟨p,(h p).2 hp,e⟩⟩
theorem zq5 {w:Str->Str}{v:Review}{ps:List Str}(h: ∀ p,w p=[]\/w p=v.By):zj9 w v ps=[]:=by
 refine List.eq_nil_iff_forall_not_mem.2 fun x hx=>?_
 obtain⟨p,hp,e,hs⟩:=ziy.1 hx
 unfold zhC at hs
 simp only[Bool.or_eq_false_iff]at hs
 rcases h p with e2 |e2
 ·rw[<- e,e2]at hs;simp at hs
 ·rw[<- e,e2]at hs;simp at hs
theorem zjJ {R α σ:Type} {xs:List α} {g:σ->α->σ} {I:Nat->σ->Prop} {f:Nat->σ->Int->Option R} {Z:σ->Option R}
 (hs: ∀ m (i:Nat) x s,xs[i]? =some x->I i s->f (m+1) s (i:Int)=f m (g s x) ((i+1:Nat):Int)/\I (i+1) (g s x)) (he: ∀ m s,I xs.length s->f (m+1) s (xs.length:Int)=Z s):
 ∀ (k i m:Nat) (s:σ),i+k=xs.length->k<m->I i s->f m s (i:Int)=Z ((xs.drop i).foldl g s)/\I xs.length ((xs.drop i).foldl g s)
 |k,i,0,s,_,hm,_=>by omega
 |0,i,m+1,s,hi,_,h=>by
  obtain rfl:i=xs.length:=by omega
  rw[List.drop_length,List.foldl_nil]
  exact⟨he m s h,h⟩
 |k+1,i,m+1,s,hi,hm,h=>by
  have hlt:i<xs.length:=by omega
  obtain⟨e1,e2⟩:=hs m i xs[i] s (aB hlt) h
  rw[e1,aI hlt,List.foldl_cons]
  exact zjJ hs he k (i+1) m _ (by omega) (by omega) e2
theorem zaP {R α σ:Type} {xs:List α} {g:σ->α->σ} {I:Nat->σ->Prop} {f:Nat->σ->Int->Option R} {Z:σ->Option R} {s:σ} (h:I 0 s)
 (hs: ∀ m (i:Nat) x s,xs[i]? =some x->I i s->f (m+1) s (i:Int)=f m (g s x) ((i+1:Nat):Int)/\I (i+1) (g s x)) (he: ∀ m s,I xs.length s->f (m+1) s (xs.length:Int)=Z s):f (xs.length+1) s 0=Z (xs.foldl g s)/\I xs.length (xs.foldl g s):=by
 have:=zjJ hs he xs.length 0 (xs.length+1) s (by omega) (by omega) h
 rwa [List.drop_zero]at this
theorem zjK {α:Type}{ps:List α}{i:Nat}{x:α}{ms:List α}(h:ps.drop i=x::ms):ps[i]? =some x/\ps.drop (i+1)=ms:=by
 have h1:(ps.drop i)[0]? =some x:=by rw[h];rfl
 rw[List.getElem?_drop,Nat.add_zero]at h1
 refine⟨h1,?_⟩
 rw[<- List.drop_drop,h]
 rfl
theorem zk8 {α:Type}{ps:List α}{i:Nat}(hi:i<=ps.length)(h:ps.drop i=[]):i=ps.length:=by
 have:=List.drop_eq_nil_iff.1 h
 omega
section
variable {o b:List Str}(ho:o.length<=1000)(hb:b.length<=1000){ps:List Int}(hps:ps.length=o.length+1)
include ho hb hps
theorem zmp: ∀ (ms:List Int) (i m f k:Nat) (out:List Hunk),ps.drop i=ms->i<=ps.length->ms.length<m->f<=i->Asc ((b.length:Int)+1) (k:Int) ms->out.length+ms.length<=5000->
 zea o b ps (fun c _ _ _=>some c) m out (f:Int) (k:Int) (i:Int)=some (out++zdG o b i ms f k)
 |_,_,0,_,_,_,_,_,hm,_,_,_=>by omega
 | [],i,m+1,f,k,out,hd,hi,_,_,_,_=>by
  obtain rfl:=zk8 hi hd
  simp only[zea,zac,aC,zdG,List.append_nil]
 |x::ms,i,m+1,f,k,out,hd,hi,hm,hf,hA,hl=>by
  obtain⟨hx,hd'⟩:=zjK hd
  have hlt:=zau hx
  simp only[aL]at hm hl
  have ih:=fun f k out hf hA hl=>zmp ms (i+1) m f k out hd' (by omega) (by omega) hf hA hl
  unfold zdG
  simp only[zea,jn,zal hx,zad hx,aD,aA,zab hlt (show ps.length<=maxi by unfold maxi;omega)]
  rcases hA with ⟨h1,h2⟩ |⟨h1,h2,h3⟩
  ·rw[aF (show x<0 by omega),aD,aD]
   exact ih f k out (by omega) h2 (by omega)
  ·obtain⟨n,rfl⟩:=Int.eq_ofNat_of_zero_le (show 0<=x by omega)
   have e0:w64 ((n:Int)+1)=((n+1:Nat):Int):=zab (show n<b.length+1 by omega) (by unfold maxi;omega)
   have e1:decide ((f:Int)< (i:Int))=decide (f<i):=decide_eq_decide.2 (by omega)
   have s1:slM o (f:Int) (i:Int)=some (zfY o f i):=zf0 (by omega) (by omega) (by omega)
   have s2:slM b (k:Int) (n:Int)=some (zfY b k n):=zf0 (by omega) (by omega) (by omega)
   have l1:(zfY o f i).length=i-f:=zfp (by omega)
   have l2:(zfY b k n).length=n-k:=zfp (by omega)
   rw[aE (show ¬ (n:Int)<0 by omega),aC,aC,e0,e1,Int.toNat_natCast]
   have g1: ∀ (h:Hunk),apM out [h]=some (out++[h]):=fun h=>ap1 (by omega)
   have ia:=ih (i+1) (n+1) (out++[⟨(f:Int),zfY o f i,zfY b k n⟩]) (by omega) (by simpa using h3) (by simp;omega)
   have ib:=ih (i+1) (n+1) out (by omega) (by simpa using h3) (by omega)
   cases decide (f<i)with
   |true=>
    simp only[aD,Bool.true_or,s1,s2,aA,apN (show(zfY o f i).length<=1048576 by omega),apN (show(zfY b k n).length<=1048576 by omega),g1]
    rw[ia,List.append_assoc]
   |false=>
    cases decide ((k:Int)< (n:Int))with
    |true=>
     simp only[aD,aC,Bool.or_true,s1,s2,aA,apN (show(zfY o f i).length<=1048576 by omega),apN (show(zfY b k n).length<=1048576 by omega),g1]
     rw[ia,List.append_assoc]
    |false=>simp only[aC,Bool.or_self,List.nil_append];exact ib
theorem zmq: ∀ (ms:List Int) (i m f k:Nat) (out:List Hunk),ps.drop i=ms->i<=ps.length->ms.length<m->f<=i->Asc ((b.length:Int)+1) (k:Int) ms->out.length+ms.length<=5000->
 zeh o b ps (fun c _ _ _=>some c) m out (f:Int) (k:Int) (i:Int)=some (out++zdG o b i ms f k)
 |_,_,0,_,_,_,_,_,hm,_,_,_=>by omega
 | [],i,m+1,f,k,out,hd,hi,_,_,_,_=>by
  obtain rfl:=zk8 hi hd
  simp only[zeh,zac,aC,zdG,List.append_nil]
 |x::ms,i,m+1,f,k,out,hd,hi,hm,hf,hA,hl=>by
  obtain⟨hx,hd'⟩:=zjK hd
  have hlt:=zau hx
  simp only[aL]at hm hl
  have ih:=fun f k out hf hA hl=>zmq ms (i+1) m f k out hd' (by omega) (by omega) hf hA hl
  unfold zdG
  simp only[zeh,jn,zal hx,zad hx,aD,aA,zab hlt (show ps.length<=maxi by unfold maxi;omega)]
  rcases hA with ⟨h1,h2⟩ |⟨h1,h2,h3⟩
  ·rw[aF (show x<0 by omega),aD,aD]
   exact ih f k out (by omega) h2 (by omega)
  ·obtain⟨n,rfl⟩:=Int.eq_ofNat_of_zero_le (show 0<=x by omega)
   have e0:w64 ((n:Int)+1)=((n+1:Nat):Int):=zab (show n<b.length+1 by omega) (by unfold maxi;omega)
   have e1:decide ((f:Int)< (i:Int))=decide (f<i):=decide_eq_decide.2 (by omega)
   have s1:slM o (f:Int) (i:Int)=some (zfY o f i):=zf0 (by omega) (by omega) (by omega)
   have s2:slM b (k:Int) (n:Int)=some (zfY b k n):=zf0 (by omega) (by omega) (by omega)
   have l1:(zfY o f i).length=i-f:=zfp (by omega)
   have l2:(zfY b k n).length=n-k:=zfp (by omega)
   rw[aE (show ¬ (n:Int)<0 by omega),aC,aC,e0,e1,Int.toNat_natCast]
   have g1: ∀ (h:Hunk),apM out [h]=some (out++[h]):=fun h=>ap1 (by omega)
   have ia:=ih (i+1) (n+1) (out++[⟨(f:Int),zfY o f i,zfY b k n⟩]) (by omega) (by simpa using h3) (by simp;omega)
   have ib:=ih (i+1) (n+1) out (by omega) (by simpa using h3) (by omega)
   cases decide (f<i)with
   |true=>
    simp only[aD,Bool.true_or,s1,s2,aA,zaW (show(zfY o f i).length<=1048576 by omega),zaW (show(zfY b k n).length<=1048576 by omega),g1]
    rw[ia,List.append_assoc]
   |false=>
    cases decide ((k:Int)< (n:Int))with
    |true=>
     simp only[aD,aC,Bool.or_true,s1,s2,aA,zaW (show(zfY o f i).length<=1048576 by omega),zaW (show(zfY b k n).length<=1048576 by omega),g1]
     rw[ia,List.append_assoc]
    |false=>simp only[aC,Bool.or_self,List.nil_append];exact ib
end
section
variable {o b:List Str}(ho:o.length<=1000)(hb:b.length<=1000)
include ho hb
theorem zph:zjq o b=some (ziv o b):=by
 obtain⟨h1,h2⟩:=zeE o b
 unfold zjq ziv
 rw[ziD ho hb,aA,znK (by omega),aA]
 simp only[jn,zan]
 have:=zmp ho hb (ps:=mt2 o b++[(b.length:Int)]) (by simp[h2]) (mt2 o b++[(b.length:Int)]) 0 ((mt2 o b++[(b.length:Int)]).length+1) 0 0 [] rfl (by omega) (by omega) (by omega) (Asc.snoc (by omega) (by simp) h1) (by simp[h2];omega)
 exact this
theorem zpi:zjv o b=some (ziv o b):=by
 obtain⟨h1,h2⟩:=zeE o b
 unfold zjv ziv
 rw[zkf ho hb,aA,znK (by omega),aA]
 simp only[jn,zan]
 have:=zmq ho hb (ps:=mt2 o b++[(b.length:Int)]) (by simp[h2]) (mt2 o b++[(b.length:Int)]) 0 ((mt2 o b++[(b.length:Int)]).length+1) 0 0 [] rfl (by omega) (by omega) (by omega) (Asc.snoc (by omega) (by simp) h1) (by simp[h2];omega)
 exact this
end
theorem zqd {xs:List Str}{s:Str}(h:xs.length<=maxi): ∀ (k i m:Nat) (c:Int),i+k=xs.length->k<m -> ∃ z,zas xs s (fun _ _=>some (-1)) m c (i:Int)=some z/\decide (0<=z)=(xs.drop i).any fun y=>y==s
 |k,i,0,_,_,hm=>by omega
 |0,i,m+1,c,hi,_=>by
  obtain rfl:i=xs.length:=by omega
  refine⟨-1,by simp only[zas,zac,aC],by simp⟩
 |k+1,i,m+1,c,hi,hm=>by
  have hlt:i<xs.length:=by omega
  have hx:xs[i]? =some xs[i]:=aB hlt
  simp only[zas,zal hx,zad hx,aD,aA,zab hlt h]
  rw[aI hlt,List.any_cons,show(s==xs[i])=(xs[i]==s) by rw[Bool.eq_iff_iff,beq_iff_eq,beq_iff_eq];exact eq_comm]
  cases xs[i]==s with
  |true=>exact⟨(i:Int),rfl,by simp⟩
  |false=>exact zqd h k (i+1) m c (by omega) (by omega)
theorem ze7 {xs:List Str}{s:Str}(h:xs.length<=maxi):zaJ xs s=some (xs.any fun y=>y==s):=by
 unfold zaJ zbf
 simp only[jn,zan]
 obtain⟨z,h1,h2⟩:=zqd (s:=s) h xs.length 0 (xs.length+1) 0 (by omega) (by omega)
 have h1':zas xs s (fun _ _=>some (-1)) (xs.length+1) 0 0=some z:=h1
 rw[h1',aA,h2,List.drop_zero]
def zhR (a:List File)(text:List Str)(out:List Change)(g:File):Bool:=(!(getT a g.Path).2 && !toB out g.Path)&&g.Text==text
theorem zpj {a b:List File}{text:List Str}{out:List Change}(h:b.find? (zhR a text out)=none):zhQ a b text out=[]:=by
 unfold zhQ zhR at*
 rw[h]
theorem zpk {a b:List File}{text:List Str}{out:List Change}{g:File}(h:b.find? (zhR a text out)=some g):zhQ a b text out=g.Path:=by
 unfold zhQ zhR at*
 rw[h]
theorem zka (out:List Change)(c:Change)(p:Str):toB (out++[c]) p=(toB out p||c.To==p):=by simp[toB]
section
variable {a b:List File}(ha:TB a)(hb:TB b)(ta:zaK a=true)(tb:zaK b=true)
include ha hb ta tb
theorem zjL {text:List Str}{out:List Change}(ho:out.length<=1000)(d:Str): ∀ (k i m:Nat),i+k=b.length->k<m->
 zb3 a b text out (fun _ _=>some ([]:Str)) m d (i:Int)=some (match (b.drop i).find? (zhR a text out)with |some g=>g.Path |none=>[])
 |k,i,0,_,hm=>by omega
 |0,i,m+1,hi,_=>by
  obtain rfl:i=b.length:=by omega
  simp only[zb3,zac,aC,List.drop_length,List.find?_nil]
 |k+1,i,m+1,hi,hm=>by
  have hlt:i<b.length:=by omega
  have hx:b[i]? =some b[i]:=aB hlt
  have hm':=zaj tb b[i] (List.getElem_mem hlt)
  have htl:=zam hm'
  have ih:=zjL (text:=text) ho d k (i+1) m (by omega) (by omega)
  have inner: ∀ (Z:Bool->Int->Option Str) (hZ: ∀ q z z',Z q z=Z q z'),zbe b out (i:Int) Z (((out.length:Int)-0).toNat+1) true 0=Z (!toB out b[i].Path) 0:=fun Z hZ=>by
   rw[zan]
   have:=(zaP (xs:=out) (g:=fun d c=>d&&(c.To !=b[i].Path)) (I:=fun _ _=>True) (Z:=fun s=>Z s 0) (f:=fun m s i'=>zbe b out (i:Int) Z m s i') (s:=true) trivial (fun m j x s hxj _=>by
    refine⟨?_,trivial⟩
    simp only[zbe,zal hxj,zad hxj,zad hx,aD,aA,zab (zau hxj) (show out.length<=maxi by unfold maxi;omega)]
    cases s<;>rfl) (fun m s _=>by simp only[zbe,zac,aC];exact hZ _ _ _)).1
   rw[this,zlz,Bool.true_and]
   congr 1
   unfold toB
   rw[List.not_any_eq_all_not]
   rfl
  rw[aI hlt,List.find?_cons]
  simp only[zb3,zal hx,zad hx,aD,aA,jn,zfs ha,ze8 (zap (show b[i].Text.length<=1048576 by omega)),zab hlt hb.maxi]
  rw[inner _ (fun q z z'=>rfl)]
  unfold zhR at ih ⊢
  cases(getT a b[i].Path).2<;>cases toB out b[i].Path<;>cases b[i].Text==text<;>simp only[aK,Bool.not_false,Bool.and_true,Bool.and_false,Bool.and_self,aD,aC]<;>first |exact ih |rfl
theorem zmX {text:List Str}{out:List Change}(ho:out.length<=1000):zeV a b text out=some (zhQ a b text out):=by
 unfold zeV
 simp only[jn,zan]
 have:=zjL ha hb ta tb (text:=text) ho [] b.length 0 (b.length+1) (by omega) (by omega)
 rw[List.drop_zero]at this
 refine this.trans ?_
 unfold zhQ zhR
 rfl
theorem zk9 (out:List Change)(f:File):(zhg a b out f).length<=out.length+1:=by
 unfold zhg
 cases(getT b f.Path).2<;>cases(getT b f.Path).1==f.Text<;>cases zhQ a b f.Text out !=[]<;>simp
theorem zkb (P:File->Bool): ∀ (gs:List File) (s:List Change),gs.foldl (fun s g=>bif P g then s++[zpU g] else s) s=s++(gs.filter P).map zpU
 | [],s=>by simp
 |g::gs,s=>by
  rw[List.foldl_cons,zkb P gs,List.filter_cons]
  cases P g<;>simp
theorem zs0:zhs a b=some (ofB a b):=by
 have sa:=zaz ta
 have sb:=zaz tb
 have hl:=(zlE ta tb).len
 unfold zhs
 simp only[jn,zan]
 have e1:=(zaP (xs:=a) (g:=zhg a b) (I:=fun i (s:List Change)=>s.length<=i) (Z:=fun s=>zbC a b s (fun b f=>some b) (b.length+1) s 0) (f:=fun m s i=>zeb a b (fun s _=>zbC a b s (fun b f=>some b) (b.length+1) s 0) m s i) (s:=[]) (by simp) (fun m i x s hx hI=>by
  have hi:=zau hx
  have hxa:=aH hx
  have hxt:=zam (zaj ta x hxa)
  have hgt:=zam (zbq (zaj tb) x.Path)
  have g1: ∀ (h:Change),apM s [h]=some (s++[h]):=fun h=>ap1 (by omega)
  refine⟨?_,by have:=zk9 ha hb ta tb s x;omega⟩
  simp only[zeb,jn,zal hx,zad hx,aD,aA,zab hi ha.maxi,zfs hb,ze8 (zap (show(getT b x.Path).1.length<=1048576 by omega)),zph (show x.Text.length<=1000 by omega) (show(getT b x.Path).1.length<=1000 by omega),zmX ha hb ta tb (show s.length<=1000 by omega),apN (show x.Text.length<=1048576 by omega),g1]
  unfold zhg
  cases(getT b x.Path).2 with
  |true=>
   cases(getT b x.Path).1==x.Text<;>rfl
  |false=>cases zhQ a b x.Text s !=[]<;>rfl) (fun m s _=>by simp only[zeb,zac,aC])).1
 refine e1.trans ?_
 show zbC a b (ofA a b) (fun b f=>some b) (b.length+1) (ofA a b) 0=_
 have e2:=(zaP (xs:=b) (g:=fun s g=>bif znF a b g then s++[zpU g] else s) (I:=fun i (s:List Change)=> ∃ e,s=ofA a b++e/\e.length<=i) (Z:=fun s=>some s) (f:=fun m s i=>zbC a b (ofA a b) (fun b f=>some b) m s i) (s:=ofA a b) ⟨[],by simp,by simp⟩ (fun m i x s hx hI=>by
  obtain⟨e,rfl,hel⟩:=hI
  have hi:=zau hx
  have hxb:=aH hx
  have hxt:=zam (zaj tb x hxb)
  have g1: ∀ (h:Change),apM (ofA a b++e) [h]=some (ofA a b++e++[h]):=fun h=>ap1 (by simp;omega)
  have inner: ∀ (Z:Bool->Int->Option (List Change)) (hZ: ∀ q z z',Z q z=Z q z'),zcC b (ofA a b) (ofA a b++e) (i:Int) Z ((ofA a b).length+1) false 0=Z (toB (ofA a b) x.Path) 0:=fun Z hZ=>by
   have:=(zaP (xs:=ofA a b) (g:=fun d c=>d||(c.To==x.Path)) (I:=fun _ _=>True) (Z:=fun s=>Z s 0) (f:=fun m s i'=>zcC b (ofA a b) (ofA a b++e) (i:Int) Z m s i') (s:=false) trivial (fun m j y s hxj _=>by
    refine⟨?_,trivial⟩
    have hxj2:(ofA a b++e)[j]? =some y:=by rw[aM (zau hxj)];exact hxj
    simp only[zcC,zal hxj,zad hxj2,zad hx,aD,aA,zab (zau hxj) (show(ofA a b).length<=maxi by unfold maxi;omega)]
    cases s<;>rfl) (fun m s _=>by simp only[zcC,zac,aC];exact hZ _ _ _)).1
   rw[this,zkn,Bool.false_or]
   rfl
  refine⟨?_,?_⟩
  ·simp only[zbC,jn,zal hx,zad hx,aD,aA,zab hi hb.maxi,zfs ha,zan,apN (show x.Text.length<=1048576 by omega),g1]
   rw[inner _ (fun q z z'=>rfl)]
   unfold znF
   cases(getT a x.Path).2<;>cases toB (ofA a b) x.Path<;>rfl
  ·cases znF a b x with
   |true=>exact⟨e++[zpU x],by simp,by simp;omega⟩
   |false=>exact⟨e,rfl,by omega⟩) (fun m s _=>by simp only[zbC,zac,aC])).1
 refine e2.trans ?_
 rw[zkb ha hb ta tb]
 rfl
def TgI (out:List Change)(tg:List Str):Prop:= ∀ p,p≠ []->(tg.any fun y=>y==p)=toB out p
def stepI (a b:List File)(s:List Change×List Str)(f:File):List Change×List Str:=(zhg a b s.1 f,bif(getT b f.Path).2 then s.2 else(bif zhQ a b f.Text s.1 !=[] then s.2++[zhQ a b f.Text s.1] else s.2))
theorem zqe {f:File}(hf:f.Text.length<=1000){out:List Change}{tg:List Str}(hT:TgI out tg)(hl:tg.length<=1000){Z:List Str->Int->Str->Str->List Str->List Hunk->Option (List Change)}{h i':Str}{j':List Str}{k':List Hunk}{g':Int}: ∀ (k i m:Nat),i+k=b.length->k<m->
 zbR a b f Z m tg (i:Int) g' h i' j' k'=(match (b.drop i).find? (zhR a f.Text out)with |some g=>Z (tg++[g.Path]) 4 f.Path g.Path [] [] |none=>Z tg g' h i' j' k')
 |k,i,0,_,hm=>by omega
 |0,i,m+1,hi,_=>by
  obtain rfl:i=b.length:=by omega
  simp only[zbR,zac,aC,List.drop_length,List.find?_nil]
 |k+1,i,m+1,hi,hm=>by
  have hlt:i<b.length:=by omega
  have hx:b[i]? =some b[i]:=aB hlt
  have hxb:=List.getElem_mem hlt
  have htl:=zam (zaj tb b[i] hxb)
  have hpn:=zgX (za0 tb hxb)
  have ih:=zqe hf hT hl (Z:=Z) (h:=h) (i':=i') (j':=j') (k':=k') (g':=g') k (i+1) m (by omega) (by omega)
  rw[aI hlt,List.find?_cons]
  simp only[zbR,zal hx,zad hx,aD,aA,jn,zoi ha,zfM (zap (show b[i].Text.length<=1048576 by omega)),ze7 (zap (show tg.length<=1048576 by omega)),hT _ hpn,zab hlt hb.maxi,ap1 (x:=b[i].Path) (show tg.length<=1048576 by omega)]
  unfold zhR at ih ⊢
  cases(getT a b[i].Path).2<;>cases toB out b[i].Path<;>cases b[i].Text==f.Text<;>simp only[aK,Bool.not_false,Bool.and_true,Bool.and_false,Bool.and_self,aD,aC]<;>first |exact ih |rfl
theorem tgt_both (text:List Str)(out:List Change):(∃ g,b.find? (zhR a text out)=some g/\zhQ a b text out=g.Path/\(zhQ a b text out !=[])=true)\/(b.find? (zhR a text out)=none/\zhQ a b text out=[]/\(zhQ a b text out !=[])=false):=by
 cases h:b.find? (zhR a text out)with
 |none=>
  have:=zpj h
  exact .inr ⟨rfl,this,by rw[this];rfl⟩
 |some g=>
  have:=zpk h
  refine .inl ⟨g,rfl,this,?_⟩
  rw[this,bne_iff_ne]
  exact zgX (za0 tb (List.mem_of_find?_eq_some h))
theorem zpl {s:List Change×List Str}{f:File}(hT:TgI s.1 s.2):TgI (stepI a b s f).1 (stepI a b s f).2:=by
 intro p hp
 have h0:=hT p hp
 have hz:(([]:Str)==p)=false:=beq_false_of_ne (fun e=>hp e.symm)
 unfold stepI zhg
 cases(getT b f.Path).2 with
 |true=>
  simp only[aD]
  cases(getT b f.Path).1==f.Text with
  |true=>exact h0
  |false=>simp only[aC];rw[zka,h0,hz,Bool.or_false]
 |false=>
  simp only[aC]
  cases zhQ a b f.Text s.1 !=[]with
  |true=>simp only[aD];rw[zka,List.any_append,h0];simp
  |false=>simp only[aC];rw[zka,h0,hz,Bool.or_false]
theorem zla: ∀ (xs:List File) (s:List Change×List Str),(xs.foldl (stepI a b) s).1=xs.foldl (zhg a b) s.1
 | [],s=>rfl
 |x::xs,s=>by rw[List.foldl_cons,List.foldl_cons,zla xs];rfl
theorem zs1:zej a b=some (ofB a b):=by
 have sa:=zaz ta
 have sb:=zaz tb
 have hl:=(zlE ta tb).len
 unfold zej
 simp only[jn,zan,zeo ha,zeo hb,ta,tb,aA,aK,aC]
 have e1:=zaP (xs:=a) (g:=stepI a b) (I:=fun i (s:List Change×List Str)=>s.1.length<=i/\s.2.length<=i/\TgI s.1 s.2) (Z:=fun s=>zaM a b s.2 (fun e k=>some e) (b.length+1) s.1 0) (f:=fun m s i=>zbS a b (fun c d _=>zaM a b d (fun e k=>some e) (b.length+1) c 0) m s.1 s.2 i) (s:=([],[])) ⟨by simp,by simp,fun p hp=>rfl⟩ (fun m i x s hx hI=>by
  obtain⟨hI1,hI2,hI3⟩:=hI
  have hi:=zau hx
  have hxa:=aH hx
  have hxt:=zam (zaj ta x hxa)
  have hgt:=zam (zbq (zaj tb) x.Path)
  have g1: ∀ (h:Change),apM s.1 [h]=some (s.1++[h]):=fun h=>ap1 (by omega)
  refine⟨?_,?_,?_,zpl ha hb ta tb hI3⟩
  ·have inner:=fun Z h i' j' k' g'=>zqe ha hb ta tb (f:=x) (show x.Text.length<=1000 by omega) hI3 (show s.2.length<=1000 by omega) (Z:=Z) (h:=h) (i':=i') (j':=j') (k':=k') (g':=g') b.length 0 (b.length+1) (by omega) (by omega)
   simp only[List.drop_zero]at inner
   simp only[zbS,jn,zal hx,zad hx,aD,aA,zab hi ha.maxi,zoi hb,zfM (zap (show(getT b x.Path).1.length<=1048576 by omega)),zpi (show x.Text.length<=1000 by omega) (show(getT b x.Path).1.length<=1000 by omega),zaW (show x.Text.length<=1048576 by omega),g1,zan]
   unfold stepI zhg
   cases(getT b x.Path).2 with
   |true=>cases(getT b x.Path).1==x.Text<;>rfl
   |false=>
    simp only[aC]
    refine(inner _ _ _ _ _ _).trans ?_
    rcases tgt_both ha hb ta tb x.Text s.1 with ⟨g,q1,q2,q3⟩ |⟨q1,q2,q3⟩
    ·rw[q1,q3]
     simp only[g1,aA,aD,q2]
    ·rw[q1,q3]
     simp only[g1,aA,aC]
  ·have:=zk9 ha hb ta tb s.1 x
   show(zhg a b s.1 x).length<=_
   omega
  ·unfold stepI
   cases(getT b x.Path).2<;>cases zhQ a b x.Text s.1 !=[]<;>simp only[aD,aC,List.length_append,aL,List.length_nil]<;>omega) (fun m s _=>by simp only[zbS,zac,aC])
 refine e1.1.trans ?_
 obtain⟨hI1,hI2,hI3⟩:=e1.2
 rw[zla ha hb ta tb]at hI1 hI3 ⊢
 generalize (a.foldl (stepI a b) ([],[])).2=tg at*
 show zaM a b tg (fun e k=>some e) (b.length+1) (ofA a b) 0=_
 have e2:=(zaP (xs:=b) (g:=fun s g=>bif znF a b g then s++[zpU g] else s) (I:=fun i (s:List Change)=>s.length<=a.length+i) (Z:=fun s=>some s) (f:=fun m s i=>zaM a b tg (fun b f=>some b) m s i) (s:=ofA a b) (by omega) (fun m i x s hx hI=>by
  have hi:=zau hx
  have hxb:=aH hx
  have hxt:=zam (zaj tb x hxb)
  have hpn:=zgX (za0 tb hxb)
  have g1: ∀ (h:Change),apM s [h]=some (s++[h]):=fun h=>ap1 (by omega)
  have hT:(tg.any fun y=>y==x.Path)=toB (ofA a b) x.Path:=hI3 _ hpn
  refine⟨?_,?_⟩
  ·simp only[zaM,jn,zal hx,zad hx,aD,aA,zab hi hb.maxi,zoi ha,ze7 (zap (show tg.length<=1048576 by omega)),hT,zaW (show x.Text.length<=1048576 by omega),g1]
   unfold znF
   cases(getT a x.Path).2<;>cases toB (ofA a b) x.Path<;>rfl
  ·cases znF a b x with
   |true=>simp;omega
   |false=>simp;omega) (fun m s _=>by simp only[zaM,zac,aC])).1
 refine e2.trans ?_
 rw[zkb ha hb ta tb]
 rfl
end
theorem zqf: ∀ {l:List Hunk} {lo:Int} {i:Nat} {p d:Hunk},ChH lo l->l[i]? =some p->l[i+1]? =some d->p.At+p.Less.length+1<=d.At
 | [],_,_,_,_,_,hp,_=>by simp at hp
 |q::l,lo,0,p,d,⟨_,h2⟩,hp,hd=>by
  simp only[List.getElem?_cons_zero,Option.some.injEq]at hp
  rw[hp]at h2
  cases l with
  |nil=>simp at hd
  |cons e l=>
   simp only[Nat.zero_add,List.getElem?_cons_succ,List.getElem?_cons_zero,Option.some.injEq]at hd
   rw[<- hd]
   exact h2.1
 |q::l,lo,i+1,p,d,⟨_,h2⟩,hp,hd=>zqf h2 (by simpa using hp) (by simpa using hd)
theorem zpm {l:List Hunk}(h8:l.length<=8)(hc:ChH 0 l)(hb: ∀ d∈l,zpe 10 d):zjr l=some true:=by
 unfold zjr
 simp only[jn,zan]
 rw[zbk (n:=l.length) (g:=fun _=>true) (r0:=some false) (Z:=some (decide ((l.length:Int)<=8))) (f:=fun m i=>zec l (fun _ _=>some (decide ((l.length:Int)<=8))) m false i) (fun m i hi=>by
  have hx:l[i]? =some l[i]:=aB hi
  obtain⟨b1,b2,b3,b4,b5⟩:=hb _ (List.getElem_mem hi)
  have l1:=zam b1
  have l2:=zam b2
  have e1:(w64 ((l[i].Less.length:Int)+(l[i].More.length:Int))==0)=false:=by
   rw[zah (by omega) (by omega),beq_eq_false_iff_ne]
   omega
  simp only[zec,jn,zal hx,zad hx,aD,aA,zab hi (show l.length<=maxi by unfold maxi;omega),zhD (zcb (show l[i].Less.length<=1000000 by omega) (zaU b1)),zhD (zcb (show l[i].More.length<=1000000 by omega) (zaU b2)),b1,b2,zgA,aK,aC,e1,aF b4,aF (show l[i].At<=10 by exact b5),Bool.and_self]
  by_cases h0:(0:Int)< (i:Int)
  ·have hy:l[i-1]? =some l[i-1]:=aB (by omega)
   obtain⟨d1,d2,d3,d4,d5⟩:=hb _ (List.getElem_mem (show i-1<l.length by omega))
   have l3:=zam d1
   have hch:=zqf hc hy (by rw[show i-1+1=i by omega];exact hx)
   have hat:l[i-1].At<=10:=d5
   rw[aF h0,aD,zl0 hi (show l.length<=maxi by unfold maxi;omega) h0,zad hy,aA,aA,zah (by omega) (by omega),aE (by omega)]
   rfl
  ·rw[aE h0];rfl) (fun m=>by simp only[zec,zac,aC]) _ (by omega),zaN.2 (fun _ _ _=>rfl),aD,aF (by omega)]
theorem zpn {c:Change}(h:VC c):zh7 c=some true:=by
 obtain⟨hp,h⟩:=h
 have pl:=zcw hp
 unfold zh7
 simp only[jn,zd3 (show c.Path.length<=1048576 by omega),hp,aA,aD]
 rcases h with ⟨k,t,x,p0,p7,pc,pb⟩ |⟨k,t,tn,x,p⟩ |⟨k,t,x,p⟩
 ·have pn:0<c.Patch.length:=by
   cases hq:c.Patch with
   |nil=>exact absurd hq p0
   |cons a l=>simp
  rw[k,t,x,zpm (by omega) pc pb]
  simp only[List.length_nil,aF (show(0:Int)< (c.Patch.length:Int) by omega)]
  rfl
 ·have tl:=zcw t
  have hne:(c.To !=c.Path)=true:=by rw[bne_iff_ne];exact tn
  rw[k,x,p,zd3 (show c.To.length<=1048576 by omega),t,hne]
  rfl
 ·have xl:=zam x
  rw[t,p,zhD (zcb (show c.Text.length<=1000000 by omega) (zaU x)),x]
  rcases k with k |k<;>rw[k]<;>rfl
theorem znP {l:List Change}{p:Str}(hl:l.length<=maxi)(h: ∀ c∈l,c.Path≠p/\c.To≠p):zgm l p=some true:=by
 unfold zgm
 simp only[jn,zan]
 rw[zbk (n:=l.length) (g:=fun _=>true) (r0:=some false) (Z:=some true) (f:=fun m i=>zcT l p (fun _ _=>some true) m false i) (fun m i hi=>by
  have hx:l[i]? =some l[i]:=aB hi
  obtain⟨h1,h2⟩:=h _ (List.getElem_mem hi)
  simp only[zcT,jn,zal hx,zad hx,aD,aA,zab hi hl,beq_false_of_ne h1,beq_false_of_ne h2,aC]) (fun m=>by simp only[zcT,zac,aC]) _ (by omega),zaN.2 (fun _ _ _=>rfl),aD]
theorem zpo {l:List Change}(hl:l.length<=16)(hv: ∀ c∈l,VC c)(hp:l.Pairwise RC):zjs l=some true:=by
 unfold zjs
 simp only[jn,zan]
 have hpw:=List.pairwise_iff_getElem.1 hp
 rw[zbk (n:=l.length) (g:=fun _=>true) (r0:=some false) (Z:=some (decide ((l.length:Int)<=16))) (f:=fun m i=>zed l (fun _ _=>some (decide ((l.length:Int)<=16))) m false i) (fun m i hi=>by
  have hx:l[i]? =some l[i]:=aB hi
  have hr: ∀ c∈l.take i,RC c l[i]:=fun c hc=>by
   obtain⟨j,hj,e⟩:=List.mem_iff_getElem.1 hc
   rw[List.length_take]at hj
   rw[List.getElem_take]at e
   rw[<- e]
   exact hpw j i (by omega) hi (by omega)
  have hlt:(l.take i).length<=maxi:=by rw[List.length_take];unfold maxi;omega
  have f1:=znP (p:=l[i].Path) hlt fun c hc=>⟨(hr c hc).1,(hr c hc).2.1⟩
  simp only[zed,jn,zal hx,zad hx,aD,aA,zab hi (show l.length<=maxi by unfold maxi;omega),zpn (hv _ (List.getElem_mem hi)),zir (show i<=l.length by omega),f1,aK,aC]
  cases ht:l[i].To !=[]with
  |false=>rfl
  |true=>
   have ht':l[i].To≠ []:=by simpa using ht
   have f2:=znP (p:=l[i].To) hlt fun c hc=>(hr c hc).2.2 ht'
   rw[aD,f2]
   rfl) (fun m=>by simp only[zed,zac,aC]) _ (by omega),zaN.2 (fun _ _ _=>rfl),aD,aF (by omega)]
theorem znQ {l:List Change}(hl:l.length<=16)(hv: ∀ c∈l,VC c)(hp:l.Pairwise RC):zbQ l=some (pathsC l):=by
 unfold zbQ
 rw[zpo hl hv hp,aA,aK,aC]
 simp only[jn,zan]
 have:=(zaP (xs:=l) (g:=zmo) (I:=fun i s=>Asd s/\s.length<=2*i) (Z:=fun s=>some s) (f:=fun m s i=>zbc l (fun b _=>some b) m s i) (s:=[]) ⟨.nil,by simp⟩ (fun m i x s hx ⟨h1,h2⟩=>by
  have hi:=zau hx
  have g1:=zcN s x.Path
  have g2:=zcN (zgw s x.Path) x.To
  refine⟨?_,zoH h1 x,?_⟩
  ·simp only[zbc,jn,zal hx,zad hx,aD,aA,zab hi (show l.length<=maxi by unfold maxi;omega),zil (show s.length<=1000000 by omega) h1,zil (show(zgw s x.Path).length<=1000000 by omega) (zcD s x.Path)]
   unfold zmo
   cases x.To !=[]<;>rfl
  ·unfold zmo
   cases x.To !=[]<;>simp only[aD,aC]<;>omega) (fun m s _=>by simp only[zbc,zac,aC])).1
 exact this
def zjj (c:Change):List Str:=bif c.Kind==4 then [c.Path,c.To] else [c.Path]
theorem zlb {α β:Type}(f:α->List β): ∀ (l:List α) (s:List β),l.foldl (fun s c=>s++f c) s=s++l.flatMap f
 | [],s=>by simp
 |c::l,s=>by rw[List.foldl_cons,zlb f l,List.flatMap_cons,List.append_assoc]
theorem zlc (c:Change):(zjj c).length<=2:=by unfold zjj;cases c.Kind==4<;>simp
theorem znR {l:List Change}(hl:l.length<=16)(hv: ∀ c∈l,VC c): ∃ ps,zf6 l=some ps/\ps.length<=40 /\ ∀ x,x∈ps↔x∈pathsC l:=by
 have hlen: ∀ l:List Change,(l.flatMap zjj).length<=2*l.length:=by
  intro l
  induction l with
  |nil=>simp
  |cons c l ih=>
   have:=zlc c
   rw[List.flatMap_cons,List.length_append,aL]
   omega
 have h1:=hlen l
 have h2:(zcy (l.flatMap zjj)).length=(l.flatMap zjj).length:=List.length_mergeSort _
 refine⟨zcy (l.flatMap zjj),?_,by omega,fun x=>?_⟩
 ·unfold zf6
  simp only[jn,zan]
  have:=(zaP (xs:=l) (g:=fun s c=>s++zjj c) (I:=fun i s=>s.length<=2*i) (Z:=fun s=>(zat s).bind fun b=>some b) (f:=fun m s i=>zct l (fun a _=>(zat a).bind fun b=>some b) m s i) (s:=[]) (by simp) (fun m i x s hx h2=>by
   have hi:=zau hx
   have g1:=zlc x
   refine⟨?_,by rw[List.length_append];omega⟩
   simp only[zct,jn,zal hx,zad hx,aD,aA,zab hi (show l.length<=maxi by unfold maxi;omega),ap1 (x:=x.Path) (show s.length<=1048576 by omega),ap1 (x:=x.To) (show(s++[x.Path]).length<=1048576 by simp;omega)]
   unfold zjj
   cases x.Kind==4<;>simp only[aD,aC,List.append_assoc,List.singleton_append]) (fun m s _=>by simp only[zct,zac,aC])).1
  refine this.trans ?_
  rw[zlb,List.nil_append]
  unfold zat
  rw[if_pos (by omega),aA]
 ·rw[zkY,zi1,List.mem_flatMap]
  constructor
  ·rintro⟨c,hc,hx⟩
   obtain⟨_,hk⟩:=hv c hc
   refine⟨c,hc,?_⟩
   unfold zjj at hx
   cases hq:c.Kind==4 with
   |false=>
    rw[hq,aC,List.mem_singleton]at hx
    exact .inl hx
   |true=>
    have h4:c.Kind=4:=by simpa using hq
    rw[hq,aD,List.mem_cons,List.mem_singleton]at hx
    rcases hx with hx |hx
    ·exact .inl hx
    ·rcases hk with ⟨k,_⟩ |⟨_,t,_⟩ |⟨k,_⟩
     ·omega
     ·exact .inr ⟨zgX t,hx⟩
     ·omega
  ·rintro⟨c,hc,hx⟩
   obtain⟨_,hk⟩:=hv c hc
   refine⟨c,hc,?_⟩
   unfold zjj
   rcases hx with hx |⟨h0,hx⟩
   ·cases c.Kind==4<;>simp[hx]
   ·rcases hk with ⟨_,t,_⟩ |⟨k,_⟩ |⟨_,t,_⟩
    ·exact absurd t h0
    ·rw[k];simp[hx]
    ·exact absurd t h0
theorem zqN {xs:List Owner}{path:Str}(hb:OB xs)(hp:path.length<=1048576):zg0 xs path=some (zhn xs path):=by
 unfold zg0
 simp only[jn,zan]
 exact zqj hb hp (K:=fun y1 _ _=>some y1) xs.length 0 (xs.length+1) (0,[]) (by omega) (by omega)
section
variable {owners:List Owner}{v:Review}(hb:OB owners)(hv:v.Yes.length<=1000)
include hb hv
theorem zmY {ps:List Str}(hps:ps.length<=1000)(hpp: ∀ p∈ps,zaS p=true):zbJ owners v ps (fun b _=>some b) (ps.length+1) [] 0=some (zj9 (zhn owners) v ps):=by
 have:=(zaP (xs:=ps) (g:=zfS (zhn owners) v) (I:=fun i s=>Asd s/\s.length<=i) (Z:=fun s=>some s) (f:=fun m s i=>zbJ owners v ps (fun b _=>some b) m s i) (s:=[]) ⟨.nil,by simp⟩ (fun m i x s hx ⟨h1,h2⟩=>by
  have hi:=zau hx
  have hl:=zcw (hpp x (aH hx))
  have g1:=zcN s (zhn owners x)
  have inner: ∀ (Z:Bool->Int->Option (List Str)) (hZ: ∀ q z z',Z q z=Z q z') (j:Bool),zbv v (zhn owners x) Z (v.Yes.length+1) j 0=Z (j||v.Yes.any fun y=>y==zhn owners x) 0:=fun Z hZ j=>by
   have:=(zaP (xs:=v.Yes) (g:=fun d y=>d||(y==zhn owners x)) (I:=fun _ _=>True) (Z:=fun s=>Z s 0) (f:=fun m s i'=>zbv v (zhn owners x) Z m s i') (s:=j) trivial (fun m k y s hy _=>by
    refine⟨?_,trivial⟩
    simp only[zbv,zal hy,zad hy,aD,aA,zab (zau hy) (show v.Yes.length<=maxi by unfold maxi;omega)]
    cases s<;>rfl) (fun m s _=>by simp only[zbv,zac,aC];exact hZ _ _ _)).1
   rw[this,zkn]
  refine⟨?_,?_,?_⟩
  ·simp only[zbJ,jn,zal hx,zad hx,aD,aA,zab hi (show ps.length<=maxi by unfold maxi;omega),zqN hb (show x.length<=1048576 by omega),zan,zil (show s.length<=1000000 by omega) h1]
   rw[inner _ (fun q z z'=>rfl),inner _ (fun q z z'=>rfl)]
   unfold zfS zhC
   cases zhn owners x==[]<;>cases zhn owners x==v.By<;>cases(v.Yes.any fun y=>y==zhn owners x)<;>rfl
  ·unfold zfS
   cases zhC v (zhn owners x)with
   |true=>exact h1
   |false=>exact zcD _ _
  ·unfold zfS
   cases zhC v (zhn owners x)<;>simp only[aD,aC]<;>omega) (fun m s _=>by simp only[zbJ,zac,aC])).1
 exact this
theorem zmZ (ho:zbF owners=true){ps:List Str}(hps:ps.length<=1000)(hpp: ∀ p∈ps,zaS p=true):za4 owners v ps (fun b _=>some (b,true)) (ps.length+1) [] 0=some (zj9 (zhn owners) v ps,true):=by
 have:=(zaP (xs:=ps) (g:=zfS (zhn owners) v) (I:=fun i s=>s.length<=i) (Z:=fun s=>some (s,true)) (f:=fun m s i=>za4 owners v ps (fun b _=>some (b,true)) m s i) (s:=[]) (by simp) (fun m i x s hx h2=>by
  have hi:=zau hx
  have hxp:=hpp x (aH hx)
  have hl:=zcw hxp
  have g1:=zcN s (zhn owners x)
  have eo:zmE owners x=zhn owners x:=by unfold zmE;rw[ho,hxp];rfl
  refine⟨?_,?_⟩
  ·simp only[za4,jn,zal hx,zad hx,aD,aA,zab hi (show ps.length<=maxi by unfold maxi;omega),zlZ hb (show x.length<=1048576 by omega),eo,ze7 (show v.Yes.length<=maxi by unfold maxi;omega),zm4 (show s.length<=1000000 by omega)]
   unfold zfS zhC bne
   cases zhn owners x==[]<;>cases zhn owners x==v.By<;>cases(v.Yes.any fun y=>y==zhn owners x)<;>rfl
  ·unfold zfS
   cases zhC v (zhn owners x)<;>simp only[aD,aC]<;>omega) (fun m s _=>by simp only[za4,zac,aC])).1
 exact this
end
def znJ (r:Repo)(owners:List Owner)(v:Review):Bool:=zae r&&(zbF owners&&(zmB v&&(!decide (atB r v.Branch<0) && !decide (atB r v.Into<0))))
def chsB (r:Repo)(v:Review):List Change:=ofB (zfo r (atB r v.Into) (atB r v.Branch)) (zaA r (atB r v.Branch).toNat)
def zgv (r:Repo)(owners:List Owner)(v:Review):List Str×Bool:=bif znJ r owners v then(zj9 (zhn owners) v (pathsC (chsB r v)),true) else([],false)
theorem zfL {r:Repo}{owners:List Owner}{v:Review}(h:znJ r owners v=true):zae r=true/\zbF owners=true/\zmB v=true/\upB r.Commits.length (atB r v.Branch)=true/\upB r.Commits.length (atB r v.Into)=true:=by
 unfold znJ at h
 simp only[aG,Bool.not_eq_true',decide_eq_false_iff_not]at h
 obtain⟨h1,h2,h3,h4,h5⟩:=h
 have a1:=at_range h1 v.Branch
 have a2:=at_range h1 v.Into
 exact⟨h1,h2,h3,zaB.2 (by omega),zaB.2 (by omega)⟩
section
variable {r:Repo}(h:RpB r){owners:List Owner}(hb:OB owners){v:Review}(hv:Bk.fit v)
include h hb hv
theorem zh0:zdq r owners v=some (zgv r owners v):=by
 unfold zdq zgv
 simp only[jn,zeG h,zlm hb,zpp hv,zeq h,aA]
 cases hc:znJ r owners v with
 |false=>
  rw[aC]
  unfold znJ at hc
  revert hc
  cases zae r<;>cases zbF owners<;>cases zmB v<;>cases decide (atB r v.Branch<0)<;>cases decide (atB r v.Into<0)<;>intro hc<;>first |rfl |cases hc
 |true=>
  obtain⟨c1,c2,c3,c4,c5⟩:=zfL hc
  obtain⟨q0,q1⟩:=zaB.1 c4
  obtain⟨i0,i1⟩:=zaB.1 c5
  have hs:=(zai c1).1
  have hg:=zlB h c1
  obtain⟨e1,e2,e3⟩:=zfQ hg i0 i1 q0 q1
  obtain⟨tb,tb2,_,_⟩:=hg.tree (i:=(atB r v.Branch).toNat) (by omega)
  obtain⟨f1,f2,f3⟩:=zhh e3 tb2
  have hy:=zkg c3
  have hpl:=zji (ofB (zfo r (atB r v.Into) (atB r v.Branch)) (zaA r (atB r v.Branch).toNat)) []
  have sof:zhs (zfo r (atB r v.Into) (atB r v.Branch)) (r.Commits.getD (atB r v.Branch).toNat noCommit).Tree=some (chsB r v):=zs0 e2 tb e3 tb2
  rw[c1,c2,c3,aE (show ¬ atB r v.Branch<0 by omega),aE (show ¬ atB r v.Into<0 by omega)]
  simp only[aK,aC,aD]
  unfold ziU zhJ
  simp only[jn,zeq h,aA,zdH q0 q1,e1,sof,zan]
  rw[show zbQ (chsB r v)=some (pathsC (chsB r v)) from znQ f1 f2 f3]
  simp only[aA,zan]
  rw[zmY hb (show v.Yes.length<=1000 by omega) (ps:=pathsC (chsB r v)) (by unfold chsB;show(List.foldl zmo [] _).length<=_;simp only[List.length_nil]at hpl;omega) (fun p hp=>zk6 e3 tb2 hp),aA]
theorem zfZ:zbK r owners v=some (zgv r owners v):=by
 unfold zbK zgv
 simp only[jn,zki h,ziH hb,zlX hv,zpu h,aA]
 cases hc:znJ r owners v with
 |false=>
  rw[aC]
  unfold znJ at hc
  revert hc
  cases zae r<;>cases zbF owners<;>cases zmB v<;>cases decide (atB r v.Branch<0)<;>cases decide (atB r v.Into<0)<;>intro hc<;>first |rfl |cases hc
 |true=>
  obtain⟨c1,c2,c3,c4,c5⟩:=zfL hc
  obtain⟨q0,q1⟩:=zaB.1 c4
  obtain⟨i0,i1⟩:=zaB.1 c5
  have hs:=(zai c1).1
  have hg:=zlB h c1
  obtain⟨e1,e2,e3⟩:=zfQ hg i0 i1 q0 q1
  obtain⟨tb,tb2,_,_⟩:=hg.tree (i:=(atB r v.Branch).toNat) (by omega)
  obtain⟨f1,f2,f3⟩:=zhh e3 tb2
  have hy:=zkg c3
  obtain⟨ps,p1,p2,p3⟩:=znR f1 f2
  rw[c1,c2,c3,aE (show ¬ atB r v.Branch<0 by omega),aE (show ¬ atB r v.Into<0 by omega)]
  simp only[aK,aC,aD]
  rw[zjE h c1 c4 c5,aA,zjz h c4,aA,zlR,zs1 e2 tb e3 tb2,aA,p1,aA]
  simp only[zan]
  rw[zmZ hb (show v.Yes.length<=1000 by omega) c2 (by omega) (fun p hp=>zk6 e3 tb2 ((p3 p).1 hp)),znO (qs:=pathsC (chsB r v)) p3]
end
theorem zld {v:Review}(h:zmB v=true):zaI v.Branch=true/\zaI v.Into=true/\zaI v.By=true:=by
 unfold zmB zrO at h
 simp only[aG]at h
 exact⟨h.2.1,h.2.2.1,h.2.2.2.1⟩
theorem zmr {r:Repo}{owners:List Owner}{v:Review}(h:(zgv r owners v).2=true):znJ r owners v=true:=by
 unfold zgv at h
 cases hc:znJ r owners v with
 |true=>rfl
 |false=>rw[hc]at h;cases h
section
variable {r:Repo}(h:RpB r){owners:List Owner}(hb:OB owners){v:Review}(hv:Bk.fit v)
include h hb hv
end
def zmR:List Str->List Str->Nat
 |a::l,b::m=>bif a==b then zmR l m+1 else 0
 |_,_=>0
def zxb (t:List Str):List Str->Nat->Nat×Nat->Nat×Nat
 | [],_,r=>r
 |b::bs,i,r=>zxb t bs (i+1) (bif decide (r.2<zmR (b::bs) t) then(i,zmR (b::bs) t) else r)
def zqg (base t:List Str):Nat×Nat:=zxb t base 0 (0,0)
def zqy (out:List Delta)(x:Str):List Delta:=match out.getLast? with
 |some d=>bif decide (0<d.Lines.length) then out.dropLast++[⟨d.From,d.Many,d.Lines++[x]⟩] else out++[⟨0,0,[x]⟩]
 |none=>out++[⟨0,0,[x]⟩]
def zkc (base:List Str):Nat->List Delta->List Str->List Delta
 |0,out,_=>out
 |_+1,out,[]=>out
 |n+1,out,x::t=>bif decide (0< (zqg base (x::t)).2) then zkc base n (out++[⟨(zqg base (x::t)).1,(zqg base (x::t)).2,[]⟩]) ((x::t).drop (zqg base (x::t)).2) else zkc base n (zqy out x) t
def zms (base t:List Str):List Delta:=zkc base t.length [] t
theorem who_fold (p:Str): ∀ (xs:List Owner) (b:Nat×Str),(xs.foldl (ownStep p) b).2=b.2 \/ ∃ o∈xs,(xs.foldl (ownStep p) b).2=o.Who
 | [],b=> .inl rfl
 |x::xs,b=>by
  rw[List.foldl_cons]
  rcases who_fold p xs (ownStep p b x)with h |⟨o,ho,h⟩
  ·rw[h]
   unfold ownStep
   cases(x.Path==p||zbh x.Path p)&&decide (b.1<x.Path.length)with
   |true=>exact .inr ⟨x,by simp,rfl⟩
   |false=>exact .inl rfl
  ·exact .inr ⟨o,by simp[ho],h⟩
theorem who_mem (xs:List Owner)(p:Str):zhn xs p=[] \/ ∃ o∈xs,zhn xs p=o.Who:=who_fold p xs (0,[])
theorem zoL {r:Repo}(h:RpB r){owners:List Owner}{v:Review}:(zgv r owners v).1.length<=40:=by
 unfold zgv
 cases hc:znJ r owners v with
 |false=>simp
 |true=>
  obtain⟨c1,c2,c3,c4,c5⟩:=zfL hc
  obtain⟨q0,q1⟩:=zaB.1 c4
  obtain⟨i0,i1⟩:=zaB.1 c5
  have hg:=zlB h c1
  obtain⟨_,e2,e3⟩:=zfQ hg i0 i1 q0 q1
  obtain⟨tb,tb2,_,_⟩:=hg.tree (i:=(atB r v.Branch).toNat) (by omega)
  obtain⟨f1,_,_⟩:=zhh e3 tb2
  have h4:(chsB r v).length<=16:=f1
  generalize chsB r v=cs at h4 ⊢
  have h1:(pathsC cs).length<=([]:List Str).length+2*cs.length:=zji cs []
  generalize pathsC cs=ps at h1 ⊢
  have h2:(zj9 (zhn owners) v ps).length<=([]:List Str).length+ps.length:=zoo ps []
  rw[aD]
  show(zj9 (zhn owners) v ps).length<=40
  simp only[List.length_nil]at h1 h2
  omega
theorem zpV (x:Review):(⟨x.Branch,x.Into,x.By,x.Yes⟩:Review)=x:=rfl
def OD (n:Nat)(l:List Owner):Prop:=l.length<=n /\ ∀ o∈l,o.Path.length<=10/\o.Who.length<=10
theorem OD.ob {n:Nat}{l:List Owner}(h:OD n l)(hn:n<=1000):OB l:=⟨by have:=h.1;omega,fun o ho=>by have:=h.2 o ho;omega⟩
theorem OD.fit {n:Nat}{l:List Owner}(h:OD n l)(hn:n<=1000):Bk.fit l:=⟨by have:=h.1;unfold maxi;omega,fun o ho=>by
 have:=h.2 o ho
 exact⟨by show o.Path.length<=maxi;unfold maxi;omega,by show o.Who.length<=maxi;unfold maxi;omega⟩⟩
abbrev ownP:List Str:=[([97]:Str),([98]:Str),([100]:Str),([100,47,101]:Str),([103]:Str)]
abbrev ownN:List Str:=[([97,110,110]:Str),([98,111,98]:Str),([99,105,100]:Str)]
theorem zmd {x0:l30Rd}{K:List Owner->Int->Int->Option (List Owner×Int)}: ∀ (n i m:Nat) (q p:Int) (l:List Owner),i+n=5->n<m->zfK ⟨x0.b,q⟩ p->p+2*n<=1000000->OD i l->
 ∃ l' q',zda x0 K m l (i:Int) q=K l' 5 q'/\OD 5 l'/\zfK ⟨x0.b,q'⟩ (p+2*n)
 |n,i,0,_,_,_,_,hm,_,_,_=>by omega
 |0,i,m+1,q,p,l,hi,_,hr,hp,hl=>by
  obtain rfl:i=5:=by omega
  refine⟨l,q,?_,hl,by simpa using hr⟩
  simp only[zda]
  rfl
 |n+1,i,m+1,q,p,l,hi,hm,hr,hp,hl=>by
  have hlt:i<ownP.length:=by show i<5;omega
  have hx:ownP[i]? =some ownP[i]:=aB hlt
  have hpl:ownP[i].length<=10:=by
   have: ∀ s∈ownP,s.length<=10:=by decide
   exact this _ (List.getElem_mem hlt)
  obtain⟨k,hk,k0,k1⟩:=zgB (n:=2) hr (by omega) (by omega) (by omega)
  have hk':zay ⟨x0.b,q⟩ 2=some (k,q+1):=hk
  have r1:zfK ⟨x0.b,q+1⟩ (p+1):=zkq hr (by omega) (by omega)
  have hw:w64 ((i:Int)+1)=((i+1:Nat):Int):=zab hlt (by show 5<=maxi;unfold maxi;omega)
  have hd:decide ((i:Int)< ((ownP.length:Int):Int))=true:=zal hx
  simp only[zda,jn]
  rw[show decide ((i:Int)< (([([97]:Str),([98]:Str),([100]:Str),([100,47,101]:Str),([103]:Str)]:List Str).length:Int))=true from hd,aD,hk',aA,hw]
  cases hk0:(k==(0:Int))with
  |false=>
   simp only[hk0,aC]
   obtain⟨l',q',e,h1,h2⟩:=zmd n (i+1) m (q+1) (p+1) l (by omega) (by omega) r1 (by omega) ⟨by have:=hl.1;omega,hl.2⟩
   exact⟨l',q',e,h1,h2.1,h2.2.1,by have:=h2.2.2;simp only at this ⊢;omega⟩
  |true=>
   simp only[hk0,aD]
   obtain⟨s,hs,ms⟩:=zni r1 (by omega) (l:=ownN) (by decide) (by decide)
   have hs':zbt ⟨x0.b,q+1⟩ ownN=some (s,q+1+1):=hs
   have hsl:s.length<=10:=by
    have: ∀ s∈ownN,s.length<=10:=by decide
    exact this _ ms
   have r2:zfK ⟨x0.b,q+1+1⟩ (p+2):=zkq r1 (by omega) (by omega)
   have hll:=hl.1
   obtain⟨l',q',e,h1,h2⟩:=zmd n (i+1) m (q+1+1) (p+2) (l++[⟨ownP[i],s⟩]) (by omega) (by omega) r2 (by omega) ⟨by simp;omega,fun o ho=>by
    rcases List.mem_append.1 ho with h3 |h3
    ·exact hl.2 o h3
    ·rw[List.mem_singleton.1 h3];exact⟨hpl,hsl⟩⟩
   refine⟨l',q',?_,h1,?_⟩
   ·have hg:gi ([([97]:Str),([98]:Str),([100]:Str),([100,47,101]:Str),([103]:Str)]:List Str) (i:Int)=some ownP[i]:=zad hx
    rw[hg,aA]
    refine(congrArg (fun o=>Option.bind o _) hs').trans ?_
    rw[aA,ap1 (by omega),aA]
    exact e
   ·have e3:p+2+2*(n:Int)=p+2*((n+1:Nat):Int):=by omega
    rw[<- e3];exact h2
theorem zq6 {r:l30Rd}{p:Int}(h:zfK r p)(hp:p<=100000): ∃ l q,zge r=some (l,q)/\OD 5 l/\zfK ⟨r.b,q⟩ (p+11):=by
 unfold zge
 simp only[jn]
 have hf:((([([97]:Str),([98]:Str),([100]:Str),([100,47,101]:Str),([103]:Str)]:List Str).length:Int)-0).toNat+1=6:=rfl
 rw[hf]
 refine Exists.elim (zmd (x0:=r) (K:=fun a n c=>bif decide ((0:Int)< (a.length:Int)) then((zay (l30Rd.mk r.b c) 14).bind fun g=>bif(g.1==0) then((gi a 0).bind fun k=>(siM a 0 (Owner.mk k.Path ([]:Str))).bind fun l=>some (l,g.2)) else some (a,g.2)) else(bif false then((gi a 0).bind fun k=>(siM a 0 (Owner.mk k.Path ([]:Str))).bind fun l=>some (l,c)) else some (a,c))) 5 0 6 r.p p [] (by omega) (by omega) (by simpa using h) (by omega) ⟨by simp,by simp⟩) fun l hl=>?_
 obtain⟨q,e,h1,h2⟩:=hl
 refine Exists.elim (?_: ∃ x:List Owner×Int,_) fun x hx=>⟨x.1,x.2,hx⟩
 have h2':zfK ⟨r.b,q⟩ (p+10):=by simpa using h2
 cases l with
 |nil=>exact⟨([],q),e,⟨by simp,by simp⟩,h2'.1,h2'.2.1,by have:=h2'.2.2;simp only at this ⊢;omega⟩
 |cons o l=>
  obtain⟨k,hk,k0,k1⟩:=zgB (n:=14) h2' (by omega) (by omega) (by omega)
  have hk':zay ⟨r.b,q⟩ 14=some (k,q+1):=hk
  have r1:zfK ⟨r.b,q+1⟩ (p+11):=zkq h2' (by omega) (by omega)
  have e':=e.trans (by rw[aF (by simp only[aL];omega),aD,hk',aA])
  cases hk0:(k==(0:Int))with
  |false=>
   rw[hk0,aC]at e'
   exact⟨(o::l,q+1),e',h1,r1⟩
  |true=>
   rw[hk0,aD]at e'
   have g0:gi (o::l) 0=some o:=zad (i:=0) rfl
   have s0:siM (o::l) 0 (⟨o.Path,[]⟩:Owner)=some ((o::l).set 0 ⟨o.Path,[]⟩):=zbN (i:=0) (by simp) _
   rw[g0,aA,s0,aA]at e'
   refine⟨(_,q+1),e',⟨by simpa using h1.1,fun x hx=>?_⟩,r1⟩
   have hx':x∈(⟨o.Path,[]⟩:Owner)::l:=hx
   rcases List.mem_cons.1 hx' with rfl |hx
   ·exact⟨(h1.2 o (by simp)).1,by simp⟩
   ·exact h1.2 x (by simp[hx])
theorem zkJ {code:List Byte}(h:code.length<=1048576): ∃ x l v,zds code=some (x,l,v)/\Drawn x/\OD 5 l/\RB 4 v:=by
 unfold zds
 obtain⟨b,e,hr⟩:=zyA h
 obtain⟨x,q,e2,hx,r2⟩:=zp5 hr (by omega)
 obtain⟨l,q2,e3,hl,r3⟩:=zq6 r2 (by omega)
 obtain⟨v,q3,e4,hv,_⟩:=zrb r3 (by omega)
 simp only at e3 e4
 simp only[e,aA,e2,e3,e4]
 exact⟨x,l,v,rfl,hx,hl,hv⟩
def mineL (by_:Str)(l:List Owner):List Owner:=l.map fun o=>⟨o.Path,by_⟩
theorem zq7 {by_:Str}{l:List Owner}{i:Nat}(hi:i<l.length):(mineL by_ l).getD i zfT=⟨(l.getD i zfT).Path,by_⟩:=by
 have hx:l[i]? =some l[i]:=aB hi
 rw[zij hx,zij (x:=⟨l[i].Path,by_⟩) (by unfold mineL;rw[List.getElem?_map,hx];rfl)]
theorem ztY {by_:Str}{l:List Owner}(h:zbF l=true)(hb:zaI by_=true):zbF (mineL by_ l)=true:=by
 unfold zbF at*
 simp only[aG]at*
 refine⟨by simpa[mineL]using h.1,zaN.2 fun i h0 hi=>?_⟩
 have hil:i<l.length:=by simpa[mineL]using hi
 have:=zaN.1 h.2 i h0 (by omega)
 unfold zpT at this ⊢
 rw[zq7 hil,zq7 (show i-1<l.length by omega)]
 simp only[aG]at this ⊢
 exact⟨this.1,hb,this.2.2⟩
theorem zsp (by_:Str)(l:List Owner)(p:Str):zhn (mineL by_ l) p=[]\/zhn (mineL by_ l) p=by_:=by
 rcases who_mem (mineL by_ l) p with h |⟨o,ho,h⟩
 ·exact .inl h
 ·obtain⟨z,_,rfl⟩:=List.mem_map.1 ho
  exact .inr h
theorem zop {code:List Byte}(h:Bk.fit code):zeR code=some true:=by
 unfold zeR
 by_cases hc:(1048576:Int)< (code.length:Int)
 ·rw[aF hc];rfl
 obtain⟨x,l,v,e,hx,hl,hv⟩:=zkJ (code:=code) (by omega)
 have hb:=hx.rb
 have ob:=hl.ob (by omega)
 have hvf:=hv.fit (by omega)
 have hs:=zoL hb (owners:=l) (v:=v)
 have hll:=hl.1
 rw[aE hc,aC,e,aA]
 simp only[zsv,zpV,zfZ hb ob hvf,zh0 hb ob hvf,aA,jn,bne_self_eq_false,aO,aC,aD,zp2 (show(zgv x l v).1.length<=maxi by unfold maxi;omega),aK]
 cases hn:(zgv x l v).2 with
 |false=>rfl
 |true=>
  simp only[aK,aC,zan]
  have hcn:=zmr hn
  obtain⟨c1,c2,c3,c4,c5⟩:=zfL hcn
  obtain⟨n1,n2,n3⟩:=zld c3
  have l3:=zbH n3
  have obm:OB (mineL v.By l):=⟨by simp[mineL];omega,fun o ho=>by
   obtain⟨z,hz,rfl⟩:=List.mem_map.1 ho
   have:=hl.2 z hz
   exact⟨by show z.Path.length<=_;omega,by show v.By.length<=_;omega⟩⟩
  have hcm:znJ x (mineL v.By l) v=true:=by
   unfold znJ at hcn ⊢
   rw[ztY c2 n3]
   rw[c2]at hcn
   exact hcn
  have hnm:zgv x (mineL v.By l) v=([],true):=by
   unfold zgv
   rw[hcm,aD,zq5 (zsp v.By l)]
  have:=(zaP (xs:=l) (g:=fun s o=>s++[(⟨o.Path,v.By⟩:Owner)]) (I:=fun i s=>s.length<=i) (Z:=fun s=>(zbK x s v).bind fun f=>bif f.2 then some ((f.1.length:Int)==0) else some false) (f:=fun m s i=>zb2 (x,l,v) (fun s _=>(zbK x s v).bind fun f=>bif f.2 then some ((f.1.length:Int)==0) else some false) m s i) (s:=[]) (by simp) (fun m i o s ho hI=>by
   have hi:=zau ho
   refine⟨?_,by simp;omega⟩
   simp only[zb2,zal ho,zad ho,aD,aA,ap1 (x:=(⟨o.Path,v.By⟩:Owner)) (show s.length<=1048576 by omega),zab hi (show l.length<=maxi by unfold maxi;omega)]) (fun m s _=>by simp only[zb2,zac,aC])).1
  refine this.trans ?_
  have em: ∀ (l s:List Owner),l.foldl (fun s o=>s++[(⟨o.Path,v.By⟩:Owner)]) s=s++mineL v.By l:=by
   intro l
   induction l with
   |nil=>intro s;simp[mineL]
   |cons o l ih=>intro s;rw[List.foldl_cons,ih];simp[mineL]
  rw[em,List.nil_append,zfZ hb obm hvf,aA,hnm]
  rfl
section
variable {base t:List Str}(hb:zaw base=true)(ht:zaw t=true)
include hb ht
end
def zvL (list:List (List Str))(ds:List Int)(i:Nat)(t:List Str)(b dep:Int)(d:List Delta):Prop:=(b = -1/\d=zms [] t/\dep=1) \/ ∃ k o dk,k<i/\b=(k:Int)/\list[k]? =some o/\ds[k]? =some dk/\d=zms o t/\dep=dk+1/\dk<=2
theorem zvL.snoc {list:List (List Str)}{ds:List Int}{i:Nat}{t:List Str}{b dep z:Int}{d:List Delta}(h:zvL list ds i t b dep d):zvL list (ds++[z]) i t b dep d:=by
 rcases h with h |⟨k,o,dk,h1,h2,h3,h4,h5⟩
 ·exact .inl h
 ·exact .inr ⟨k,o,dk,h1,h2,h3,by rw[aM (List.getElem?_eq_some_iff.1 h4).1];exact h4,h5⟩
section
variable {list:List (List Str)}(h12:list.length<=12)(hl: ∀ t∈list,zaw t=true)
include h12 hl
end
end Go.Vm
