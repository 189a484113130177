/- Plain law FnReviewFree, and what it uses: what the models answer. Conditions: each law's own premises. -/
import Derived.Test.YtifbmanldeabeaaGreatDoorGGFnReviewFreea
import Derived.Test.YtifbmanldeabeaaGreatDoorGLw
namespace Go.Vm
open Go Go.Sx
set_option linter.unusedSimpArgs false
set_option linter.unusedVariables false
theorem zh4.lt {l:List Int}(h:zh4 l){i k:Nat}(hik:i<k)(hk:k<l.length):l.getD i 0<l.getD k 0:=by
 have h1:i<l.length:=by omega
 have:=List.pairwise_iff_getElem.1 h i k h1 hk hik
 rw[zcs (aB h1),zcs (aB hk)]
 exact this
theorem zh4.inj {l:List Int}(h:zh4 l){i k:Nat}(hi:i<l.length)(hk:k<l.length)(e:l.getD i 0=l.getD k 0):i=k:=by
 rcases Nat.lt_trichotomy i k with h1 |h1 |h1
 ·have:=h.lt h1 hk;omega
 ·exact h1
 ·have:=h.lt h1 hi;omega
theorem zkl (r:Repo)(a b:Int):zh4 (zbH r a b):=(zii r a).sublist List.filter_sublist
theorem zdK {r:Repo}{a b x:Int}:x∈zbH r a b↔x∈za4 r a/\x∈za4 r b:=by
 unfold zbH
 rw[List.mem_filter,zbd]
theorem zre {l:List Int}(h:zh4 l)(p:Nat->Bool):zh4 (zmd p l):=by
 unfold zh4 zmd
 rw[List.pairwise_map]
 refine List.Pairwise.imp_of_mem (fun {i k} hi hk hlt=>?_) ((zl5 l.length).sublist List.filter_sublist)
 exact h.lt hlt (List.mem_range.1 (List.mem_filter.1 hk).1)
theorem zh8 (r:Repo)(a b:Int):zh4 (zaE r a b):=zre (zkl r a b) _
theorem zjQ {l:List Int}{x:Int}:x∈l ↔ ∃ i,i<l.length/\l.getD i 0=x:=by
 constructor
 ·intro h
  obtain⟨i,hi⟩:=List.getElem?_of_mem h
  exact⟨i,(List.getElem?_eq_some_iff.1 hi).1,zcs hi⟩
 ·rintro⟨i,hi,rfl⟩
  rw[zcs (aB hi)]
  exact List.getElem_mem hi
theorem zgH {r:Repo}{a b x:Int}:x∈zaE r a b↔x∈zbH r a b /\ ∀ y∈zbH r a b,y≠x->x∉za4 r y:=by
 have hasc:=zkl r a b
 unfold zaE zmd
 rw[List.mem_map]
 constructor
 ·rintro⟨i,hi,rfl⟩
  rw[List.mem_filter,List.mem_range]at hi
  obtain⟨hil,hb⟩:=hi
  unfold znd at hb
  rw[zaJ]at hb
  refine⟨zjQ.2 ⟨i,hil,rfl⟩,fun y hy hne hx=>?_⟩
  obtain⟨k,hk,rfl⟩:=zjQ.1 hy
  have:=hb k (Nat.zero_le _) (by omega)
  rw[zbd.2 hx,aK,Bool.or_false,beq_iff_eq]at this
  exact hne (by rw[show k=i by omega])
 ·rintro⟨hm,hall⟩
  obtain⟨i,hi,rfl⟩:=zjQ.1 hm
  refine⟨i,List.mem_filter.2 ⟨List.mem_range.2 hi,?_⟩,rfl⟩
  unfold znd
  rw[zaJ]
  intro k _ hk
  have hkl:k< (zbH r a b).length:=by omega
  cases hki:((k:Int)==(i:Int))with
  |true=>rfl
  |false=>
   have hne:k≠i:=fun e=>by rw[e]at hki;simp at hki
   have:=hall _ (zjQ.2 ⟨k,hkl,rfl⟩) (fun e=>hne (hasc.inj hkl hi e))
   cases hq:zfp (za4 r ((zbH r a b).getD k 0)) ((zbH r a b).getD i 0)with
   |false=>rfl
   |true=>exact absurd (zbd.1 hq) this
theorem zoN (r:Repo)(a b:Int):zaE r b a=zaE r a b:=by
 have hb: ∀ x,x∈zbH r b a↔x∈zbH r a b:=fun x=>by rw[zdK,zdK];exact And.comm
 refine zh4.ext (zh8 _ _ _) (zh8 _ _ _) fun x=>?_
 rw[zgH,zgH,hb]
 exact and_congr Iff.rfl ⟨fun h y hy=>h y ((hb y).2 hy),fun h y hy=>h y ((hb y).1 hy)⟩
def zlr (x y:List Bool)(n:Nat):List Bool:=(List.range n).map fun i=>x.getD i false&&y.getD i false
theorem zsE (x y:List Bool)(n i:Nat)(hi:i<n):((List.range i).map (fun i=>x.getD i false&&y.getD i false)++List.replicate (n-i) false).set i (x.getD i false&&y.getD i false)=(List.range (i+1)).map (fun i=>x.getD i false&&y.getD i false)++List.replicate (n-(i+1)) false:=by
 obtain⟨k,hk⟩: ∃ k,n-i=k+1:=⟨n-i-1,by omega⟩
 rw[hk,show n-(i+1)=k by omega,List.set_append_right _ _ (by simp),List.length_map,List.length_range,Nat.sub_self,List.replicate_succ,List.set_cons_zero,List.range_succ,List.map_append,List.append_assoc]
 rfl
theorem zm8 {x y q:List Bool}{n:Nat}(hx:x.length=n)(hy:y.length=n)(hq:q.length=n)(hn:n<=1000){F:List Bool->Option (List Int)}: ∀ (k i m:Nat),i+k=n->k<m->
 zbE x y q (fun _ z=>F z) m (i:Int) ((List.range i).map (fun i=>x.getD i false&&y.getD i false)++List.replicate (n-i) false)=F (zlr x y n)
 |k,i,0,_,hm=>by omega
 |0,i,m+1,hi,_=>by
  obtain rfl:i=n:=by omega
  simp only[zbE,hq,zac,aC,Nat.sub_self,List.replicate_zero,List.append_nil]
  rfl
 |k+1,i,m+1,hi,hm=>by
  have hlt:i<n:=by omega
  have hl:((List.range i).map (fun i=>x.getD i false&&y.getD i false)++List.replicate (n-i) false).length=n:=by simp;omega
  have ih:=zm8 hx hy hq hn (F:=F) k (i+1) m (by omega) (by omega)
  rw[<- zsE x y n i hlt]at ih
  simp only[zbE,hq]
  rw[aF (show(i:Int)< (n:Int) by omega),aD,zcS (by omega),aA]
  have hsi: ∀ v,siM ((List.range i).map (fun i=>x.getD i false&&y.getD i false)++List.replicate (n-i) false) (i:Int) v=some (((List.range i).map (fun i=>x.getD i false&&y.getD i false)++List.replicate (n-i) false).set i v):=fun v=>zbs (by omega) v
  have hg:=zcS (mk:=(List.range i).map (fun i=>x.getD i false&&y.getD i false)++List.replicate (n-i) false) (i:=i) (by omega)
  rw[zcS (show i<y.length by omega)]
  simp only[aA,hg,hsi,zab hlt (show n<=maxi by unfold maxi;omega)]
  cases hxi:x.getD i false with
  |true=>
   rw[hxi,Bool.true_and]at ih
   exact ih
  |false=>
   rw[hxi,Bool.false_and]at ih
   exact ih
def zoq (u:Int)(mk:List Bool)(p:Int):List Bool:=bif p !=u then mk.set p.toNat false else mk
theorem zkm (u:Int): ∀ (ps:List Int) (mk:List Bool),(∀ p∈ps,0<=p)->(ps.foldl (zoq u) mk).length=mk.length /\ ∀ j,j<mk.length->(ps.foldl (zoq u) mk).getD j false=(mk.getD j false && !(zfp ps (j:Int) && !((j:Int)==u)))
 | [],mk,_=>⟨rfl,fun j _=>by simp[zfp]⟩
 |p::ps,mk,hp=>by
  have hl:(zoq u mk p).length=mk.length:=by unfold zoq;cases(p !=u)<;>simp
  obtain⟨e1,e2⟩:=zkm u ps (zoq u mk p) (fun q hq=>hp q (List.mem_cons_of_mem _ hq))
  rw[List.foldl_cons]
  refine⟨e1.trans hl,fun j hj=>?_⟩
  have hp0:=hp p (by simp)
  rw[e2 j (by omega)]
  have hh:zfp (p::ps) (j:Int)=((p==(j:Int))||zfp ps (j:Int)):=rfl
  rw[hh]
  have hs:(zoq u mk p).getD j false=(mk.getD j false && !((p==(j:Int)) && !((j:Int)==u))):=by
   unfold zoq
   by_cases e:p=(j:Int)
   ·subst e
    cases hu:((j:Int)==u)with
    |true=>simp[bne,hu]
    |false=>simp[bne,hu,List.getD,hj]
   ·rw[beq_false_of_ne e,Bool.false_and,Bool.not_false,Bool.and_true]
    cases(p !=u)with
    |false=>rfl
    |true=>
     rw[aD]
     simp only[List.getD,List.getElem?_set_ne (show p.toNat≠j by omega)]
  rw[hs]
  cases mk.getD j false<;>cases(p==(j:Int))<;>cases zfp ps (j:Int)<;>cases((j:Int)==u)<;>rfl
def zls (r:Repo)(ls:List Int)(mk:List Bool):List Bool:=ls.foldl (fun mk u=>(za4 r u).foldl (zoq u) mk) mk
theorem zhO (r:Repo): ∀ (ls:List Int) (mk:List Bool),(zls r ls mk).length=mk.length /\ ∀ j,j<mk.length->(zls r ls mk).getD j false=(mk.getD j false&&ls.all fun u=> !(zfp (za4 r u) (j:Int) && !((j:Int)==u)))
 | [],mk=>⟨rfl,fun j _=>by simp[zls]⟩
 |u::ls,mk=>by
  obtain⟨f1,f2⟩:=zkm u (za4 r u) mk (fun p hp=>(zbh hp).1)
  obtain⟨e1,e2⟩:=zhO r ls ((za4 r u).foldl (zoq u) mk)
  refine⟨e1.trans f1,fun j hj=>?_⟩
  refine(e2 j (by omega)).trans ?_
  rw[f2 j hj,List.all_cons,Bool.and_assoc]
theorem zpV {r:Repo}(hr:zae r=true){a b:Int}(ha:upB r.Commits.length a=true)(hb:upB r.Commits.length b=true):zld (zlr (zay r a.toNat) (zay r b.toNat) r.Commits.length)=zbH r a b /\ ∀ j,j<r.Commits.length->(zlr (zay r a.toNat) (zay r b.toNat) r.Commits.length).getD j false=zfp (zbH r a b) (j:Int):=by
 obtain⟨a0,a1⟩:=zax.1 ha
 obtain⟨b0,b1⟩:=zax.1 hb
 have hg: ∀ j,j<r.Commits.length->(zlr (zay r a.toNat) (zay r b.toNat) r.Commits.length).getD j false=((zay r a.toNat).getD j false&&(zay r b.toNat).getD j false):=fun j hj=>by
  unfold zlr
  rw[List.getD,List.getElem?_map,List.getElem?_range hj]
  rfl
 have hm: ∀ j,j<r.Commits.length->((zlr (zay r a.toNat) (zay r b.toNat) r.Commits.length).getD j false=true↔ (j:Int)∈zbH r a b):=fun j hj=>by
  rw[hg j hj,aG,zdK,zbO hr a0 a1,zbO hr b0 b1,Int.toNat_natCast]
  have h1:=zeT hr (show a.toNat<r.Commits.length by omega) j
  have h2:=zeT hr (show b.toNat<r.Commits.length by omega) j
  unfold mkd at h1 h2
  rw[h1,h2]
  exact⟨fun h=>⟨⟨Int.natCast_nonneg j,h.1⟩,Int.natCast_nonneg j,h.2⟩,fun h=>⟨h.1.2,h.2.2⟩⟩
 have hlen:(zlr (zay r a.toNat) (zay r b.toNat) r.Commits.length).length=r.Commits.length:=by unfold zlr;simp
 refine⟨zh4.ext (zjh _) (zkl _ _ _) fun x=>?_,fun j hj=>?_⟩
 ·rw[zl7]
  constructor
  ·rintro⟨hx,h⟩
   have hlt:=znj h
   have:=(hm x.toNat (by omega)).1 h
   rwa [Int.toNat_of_nonneg hx]at this
  ·intro h
   have hxm:=zbh (zdK.1 h).1
   refine⟨hxm.1,(hm x.toNat (by omega)).2 ?_⟩
   rwa [Int.toNat_of_nonneg hxm.1]
 ·apply zfo
  rw[hm j hj,zbd]
theorem zpW {r:Repo}(hr:zae r=true){a b:Int}(ha:upB r.Commits.length a=true)(hb:upB r.Commits.length b=true):zld (zls r (zbH r a b) (zlr (zay r a.toNat) (zay r b.toNat) r.Commits.length))=zaE r a b:=by
 obtain⟨_,c2⟩:=zpV hr ha hb
 have hlen:(zlr (zay r a.toNat) (zay r b.toNat) r.Commits.length).length=r.Commits.length:=by unfold zlr;simp
 obtain⟨g1,g2⟩:=zhO r (zbH r a b) (zlr (zay r a.toNat) (zay r b.toNat) r.Commits.length)
 have key: ∀ j,j<r.Commits.length->((zls r (zbH r a b) (zlr (zay r a.toNat) (zay r b.toNat) r.Commits.length)).getD j false=true↔ (j:Int)∈zaE r a b):=fun j hj=>by
  rw[g2 j (by omega),c2 j hj,aG,zbd,List.all_eq_true,zgH]
  refine and_congr Iff.rfl ⟨fun h y hy hne hx=>?_,fun h y hy=>?_⟩
  ·have:=h y hy
   rw[zbd.2 hx,beq_false_of_ne (fun e=>hne e.symm)]at this
   cases this
  ·by_cases e:(j:Int)=y
   ·rw[e];simp
   ·have:=h y hy (fun e2=>e e2.symm)
    cases hq:zfp (za4 r y) (j:Int)with
    |false=>rfl
    |true=>exact absurd (zbd.1 hq) this
 refine zh4.ext (zjh _) (zh8 _ _ _) fun x=>?_
 rw[zl7]
 constructor
 ·rintro⟨hx,h⟩
  have hlt:=znj h
  have:=(key x.toNat (by omega)).1 h
  rwa [Int.toNat_of_nonneg hx]at this
 ·intro h
  have hxm:=ziR h
  refine⟨hxm.1,(key x.toNat (by omega)).2 ?_⟩
  rwa [Int.toNat_of_nonneg hxm.1]
theorem zpX {r:Repo}(hr:zae r=true){a b:Int}(ha:upB r.Commits.length a=true)(hb:upB r.Commits.length b=true):zeZ r a b=some (zaE r a b):=by
 obtain⟨a0,a1⟩:=zax.1 ha
 obtain⟨b0,b1⟩:=zax.1 hb
 have hs:=(zah hr).1
 obtain⟨c1,c2⟩:=zpV hr ha hb
 have hlen:(zlr (zay r a.toNat) (zay r b.toNat) r.Commits.length).length=r.Commits.length:=by unfold zlr;simp
 unfold zeZ
 rw[zen hr a0 a1,aA,zen hr b0 b1,aA,zhP (by simp[lim];omega),aA]
 simp only[jn,List.length_replicate,zak]
 have e1:=zm8 (x:=zay r a.toNat) (y:=zay r b.toNat) (q:=List.replicate r.Commits.length false) (n:=r.Commits.length) (zbr _ _) (zbr _ _) (by simp) (by omega) (F:=fun y31=>(zbq y31).bind fun z64=>(zcd y31).bind fun z72=>za3 r z72 (fun _ y84=>(zcd y84).bind fun z166=>some z166) (((z72.length:Int)-0).toNat+1) 0 z64) r.Commits.length 0 (r.Commits.length+1) (by omega) (by omega)
 refine(Eq.trans (by simp) e1).trans ?_
 have hcl:zbq (zlr (zay r a.toNat) (zay r b.toNat) r.Commits.length)=some (zlr (zay r a.toNat) (zay r b.toNat) r.Commits.length):=by
  unfold zbq
  rw[if_pos (by rw[hlen];simp[lim];omega)]
 have hbl:(zbH r a b).length<=r.Commits.length:=Nat.le_trans (List.length_filter_le _ _) (zc1 r a)
 rw[hcl,aA,zkk (by omega),aA,c1,zak]
 rw[zhw (xs:=zbH r a b) (g:=fun mk u=>(za4 r u).foldl (zoq u) mk) (I:=fun mk=>mk.length=r.Commits.length) (Z:=fun mk=>(zcd mk).bind fun z=>some z) (f:=fun m i mk=>za3 r (zbH r a b) _ m i mk) hlen (fun m i o mk ho hmk=>by
  have hom:=zbh (zdK.1 (aH ho)).1
  obtain⟨f1,f2⟩:=zkm o (za4 r o) mk (fun p hp=>(zbh hp).1)
  refine⟨?_,f1.trans hmk⟩
  simp only[za3,jn,zaj ho,zad ho,aD,aA,zen hr hom.1 hom.2,zkk (show(zay r o.toNat).length<=1000 by rw[zbr];omega),zak]
  have hal:=zqc (zay r o.toNat)
  rw[zbr]at hal
  rw[zhw (xs:=zld (zay r o.toNat)) (g:=zoq o) (I:=fun mk=>mk.length=r.Commits.length) (Z:=fun mk=>za3 r (zbH r a b) (fun _ y84=>(zcd y84).bind fun z166=>some z166) m (w64 ((i:Int)+1)) mk) (f:=fun m' i mk=>zbT o (zld (zay r o.toNat)) _ m' i mk) hmk (fun m' i' x mk' hx hmk'=>by
   have hxm:=zbh (r:=r) (a:=o) (aH hx)
   have hxl:x.toNat<mk'.length:=by omega
   have e1:gi mk' x=some (mk'.getD x.toNat false):=by
    have:=zcS hxl
    rwa [Int.toNat_of_nonneg hxm.1]at this
   have e2:siM mk' x false=some (mk'.set x.toNat false):=by
    have:=zbs hxl false
    rwa [Int.toNat_of_nonneg hxm.1]at this
   refine⟨?_,by unfold zoq;cases(x !=o)<;>simp[hmk']⟩
   simp only[zbT,jn,zaj hx,zad hx,aD,aA,e1,e2,zab (zas hx) (show(zld (zay r o.toNat)).length<=maxi by unfold maxi;omega)]
   unfold zoq
   cases(x !=o)<;>rfl) (fun m' mk' _=>by simp only[zbT,zac,aC]),zab (zas ho) (show(zbH r a b).length<=maxi by unfold maxi;omega)]
  rfl) (fun m mk _=>by simp only[za3,zac,aC])]
 obtain⟨g1,_⟩:=zhO r (zbH r a b) (zlr (zay r a.toNat) (zay r b.toNat) r.Commits.length)
 rw[show(zbH r a b).foldl (fun mk u=>(za4 r u).foldl (zoq u) mk) (zlr (zay r a.toNat) (zay r b.toNat) r.Commits.length)=zls r (zbH r a b) (zlr (zay r a.toNat) (zay r b.toNat) r.Commits.length) from rfl,zkk (by omega),aA,zpW hr ha hb]
set_option linter.unusedSectionVars false
theorem zky {r:Repo}(h:RpB r){a:Int}(ha:upB r.Commits.length a=true):zaX r a=some (zap r a.toNat):=by
 obtain⟨a0,a1⟩:=zax.1 ha
 unfold zaX
 rw[aE (by omega),aC,zcA a0 a1]
 rfl
section
variable {r:Repo}(h:RpB r)(hr:zae r=true)
include h hr
theorem zm9:Gd False r:=⟨h,hr,fun e=>e.elim⟩
theorem zli {a b:Int}(ha:upB r.Commits.length a=true)(hb:upB r.Commits.length b=true):zbU r a b=some (zfr r a b):=by
 have hs:=(zah hr).1
 have hl:=zkV r a b
 unfold zbU zfr
 rw[zpX hr ha hb,aA]
 cases hz:((zaE r a b).length:Int)==0 with
 |true=>rfl
 |false=>
  have hne:((zaE r a b).length:Int)≠0:=by simpa using hz
  have e:w64 (((zaE r a b).length:Int)-1)=(((zaE r a b).length-1:Nat):Int):=by rw[zag (by omega) (by omega)];omega
  have hlt:(zaE r a b).length-1< (zaE r a b).length:=by omega
  have hm:(zaE r a b).getD ((zaE r a b).length-1) 0∈zaE r a b:=by
   rw[zcs (aB hlt)];exact List.getElem_mem hlt
  rw[aC,aC,e,zg6 hlt,aA,zky h (zax.2 (ziR hm)),aA]
end
def zrM (r:Repo)(n:Str)(x:Repo):Prop:=x=r\/x=zb0\/zae x=true
theorem zrM.bulk {r x:Repo}{n:Str}(h:zrM r n x):Bk.bulk x<=Bk.bulk r+20000:=by
 rcases h with h |h |h
 ·rw[h];omega
 ·rw[h];show 0+0+(0+0)<=_;omega
 ·have:=zo9 h;omega
theorem zrM.fit {r x:Repo}{n:Str}(hf:Bk.fit r)(h:zrM r n x):Bk.fit x:=by
 rcases h with h |h |h
 ·rw[h];exact hf
 ·rw[h];exact⟨⟨by simp[zb0,maxi],by simp[zb0]⟩,by simp[zb0,maxi],by simp[zb0]⟩
 ·exact zpb h
theorem znr (r:Repo)(a b:Int):zfr r b a=zfr r a b:=by
 unfold zfr
 rw[zoN]
section
variable {r:Repo}(h:RpB r)(hr:zae r=true){a b:Int}(ha:upB r.Commits.length a=true)(hb:upB r.Commits.length b=true)
include h hr ha hb
end
def zhf (xs:List Str)(l h:Nat):List Str:=(xs.take h).drop l
theorem zgG {xs:List Str}{l h:Nat}(hh:h<=xs.length):(zhf xs l h).length=h-l:=by
 unfold zhf
 simp
 omega
theorem zmT {xs:List Str}(ht:zau xs=true)(l h:Nat):zau (zhf xs l h)=true:=by
 unfold zau at*
 simp only[aG,Bool.not_eq_true',decide_eq_false_iff_not,List.all_eq_true]at*
 refine⟨?_,fun x hx=>ht.2 x ?_⟩
 ·have:(zhf xs l h).length<=xs.length:=by unfold zhf;simp;omega
  omega
 ·exact List.mem_of_mem_take (List.mem_of_mem_drop hx)
def zeL (o b:List Str):Nat->List Int->Nat->Nat->List Hunk
 |_,[],_,_=>[]
 |i,m::ms,f,k=>bif decide (m<0) then zeL o b (i+1) ms f k else(bif decide (f<i)||decide ((k:Int)<m) then [⟨(f:Int),zhf o f i,zhf b k m.toNat⟩] else [])++zeL o b (i+1) ms (i+1) (m.toNat+1)
def ChH:Int->List Hunk->Prop
 |_,[]=>True
 |lo,d::l=>lo<=d.At/\ChH (d.At+d.Less.length+1) l
theorem ChH.mono: ∀ {l:List Hunk} {lo lo':Int},lo'<=lo->ChH lo l->ChH lo' l
 | [],_,_,_,_=>trivial
 |d::l,_,_,h,⟨h1,h2⟩=>⟨Int.le_trans h h1,h2⟩
def zq1 (n:Nat)(d:Hunk):Prop:=zau d.Less=true/\zau d.More=true/\0<d.Less.length+d.More.length/\0<=d.At/\d.At<=n
theorem ziW {o b:List Str}(ho:zau o=true)(hb:zau b=true): ∀ (ms:List Int) (i f k:Nat),i+ms.length=o.length+1->f<=i->k<=b.length+1->Asc ((b.length:Int)+1) (k:Int) ms->
 3*(zeL o b i ms f k).length<=(o.length+1-f)+(b.length+1-k)/\ChH (f:Int) (zeL o b i ms f k) /\ ∀ d∈zeL o b i ms f k,zq1 o.length d
 | [],i,f,k,_,_,_,_=>⟨by simp[zeL],trivial,fun d hd=>by simp[zeL]at hd⟩
 |m::ms,i,f,k,hi,hf,hk,hA=>by
  simp only[aL]at hi
  unfold zeL
  rcases hA with ⟨h1,h2⟩ |⟨h1,h2,h3⟩
  ·rw[aF (show m<0 by omega),aD]
   exact ziW ho hb ms (i+1) f k (by omega) (by omega) hk h2
  ·obtain⟨n,rfl⟩:=Int.eq_ofNat_of_zero_le (show 0<=m by omega)
   rw[aE (show ¬ (n:Int)<0 by omega),aC,Int.toNat_natCast]
   obtain⟨q1,q2,q3⟩:=ziW ho hb ms (i+1) (i+1) (n+1) (by omega) (by omega) (by omega) (by simpa using h3)
   cases hc:decide (f<i)||decide ((k:Int)< (n:Int))with
   |false=>
    rw[aC,List.nil_append]
    exact⟨by omega,q2.mono (by omega),q3⟩
   |true=>
    simp only[Bool.or_eq_true,decide_eq_true_eq]at hc
    rw[aD,List.singleton_append]
    have l1:(zhf o f i).length=i-f:=zgG (by omega)
    have l2:(zhf b k n).length=n-k:=zgG (by omega)
    refine⟨by simp only[aL];omega,⟨Int.le_refl _,?_⟩,fun d hd=>?_⟩
    ·show ChH ((f:Int)+((zhf o f i).length:Int)+1) _
     exact q2.mono (by rw[l1];omega)
    ·rcases List.mem_cons.1 hd with e |e
     ·rw[e]
      exact⟨zmT ho _ _,zmT hb _ _,by show 0< (zhf o f i).length+(zhf b k n).length;rw[l1,l2];omega,by show(0:Int)<=(f:Int);omega,by show(f:Int)<=_;omega⟩
     ·exact q3 d e
theorem zih {o b:List Str}: ∀ (ms:List Int) (i f k:Nat),(∃ m∈ms,0<=m)->f<i\/(∀ m∈ms,0<=m->(k:Int)<m)->zeL o b i ms f k≠ []
 | [],i,f,k,h,_=>by obtain⟨m,hm,_⟩:=h;simp at hm
 |m::ms,i,f,k,h,hc=>by
  unfold zeL
  by_cases hm:m<0
  ·rw[aF hm,aD]
   refine zih ms (i+1) f k ?_ ?_
   ·obtain⟨x,hx,h0⟩:=h
    rcases List.mem_cons.1 hx with e |e
    ·omega
    ·exact⟨x,e,h0⟩
   ·rcases hc with hc |hc
    ·exact .inl (by omega)
    ·exact .inr fun x hx=>hc x (List.mem_cons_of_mem _ hx)
  ·rw[aE hm,aC]
   have:(decide (f<i)||decide ((k:Int)<m))=true:=by
    simp only[Bool.or_eq_true,decide_eq_true_eq]
    rcases hc with hc |hc
    ·exact .inl hc
    ·exact .inr (hc m (by simp) (by omega))
   rw[this]
   simp
theorem znT {hi:Int}: ∀ {l:List Int} {lo:Int},Asc hi lo l -> ∀ m∈l,0<=m->lo<=m
 | [],_,_,m,hm,_=>by simp at hm
 |x::l,lo,h,m,hm,h0=>by
  rcases h with ⟨h1,h2⟩ |⟨h1,h2,h3⟩
  ·rcases List.mem_cons.1 hm with e |e
   ·omega
   ·exact znT h2 m e h0
  ·rcases List.mem_cons.1 hm with e |e
   ·omega
   ·have:=znT h3 m e h0;omega
theorem zmU {o b:List Str}: ∀ (u v:List Str) (i k:Nat),zeL o b i (mtF u v k++[((k+v.length:Nat):Int)]) i k=[]->u=v
 | [],v,i,k,h=>by
  rw[zhE,List.nil_append]at h
  unfold zeL at h
  rw[aE (by omega),aC]at h
  cases v with
  |nil=>rfl
  |cons y ys=>
   exfalso
   rw[show(decide (i<i)||decide ((k:Int)< ((k+(y::ys).length:Nat):Int)))=true by simp only[Bool.or_eq_true,decide_eq_true_eq,aL];exact .inr (by omega)]at h
   simp at h
 |x::xs,[],i,k,h=>by
  exfalso
  rw[zgD,List.cons_append]at h
  unfold zeL at h
  rw[show decide ((-1:Int)<0)=true from rfl,aD]at h
  exact zih _ _ _ _ ⟨((k+([]:List Str).length:Nat):Int),by simp,by omega⟩ (.inl (by omega)) h
 |x::xs,y::ys,i,k,h=>by
  rw[zge]at h
  split at h
  ·rename_i he
   have e:x=y:=by simpa using he
   rw[List.cons_append]at h
   unfold zeL at h
   rw[aE (by omega),aC,show(decide (i<i)||decide ((k:Int)< (k:Int)))=false by simp,aC,List.nil_append,Int.toNat_natCast]at h
   rw[e,zmU xs ys (i+1) (k+1) (by rw[show k+1+ys.length=k+(y::ys).length by simp only[aL];omega];exact h)]
  ·exfalso
   split at h
   ·rw[List.cons_append]at h
    unfold zeL at h
    rw[show decide ((-1:Int)<0)=true from rfl,aD]at h
    exact zih _ _ _ _ ⟨((k+(y::ys).length:Nat):Int),by simp,by omega⟩ (.inl (by omega)) h
   ·refine zih _ _ _ _ ⟨((k+(y::ys).length:Nat):Int),by simp,by omega⟩ (.inr fun m hm h0=>?_) h
    rcases List.mem_append.1 hm with e |e
    ·have:=znT (zgp _ (x::xs) ys (k+1) (Nat.le_refl _)).1 m e h0
     omega
    ·rw[List.mem_singleton]at e
     simp only[aL]at e
     omega
def zke (o b:List Str):List Hunk:=zeL o b 0 (mt2 o b++[(b.length:Int)]) 0 0
theorem znU {o b:List Str}(ho:zau o=true)(hb:zau b=true):(zke o b).length<=7/\ChH 0 (zke o b)/\(∀ d∈zke o b,zq1 o.length d)/\(zke o b=[]->o=b):=by
 have lo:=zam ho
 have lb:=zam hb
 have ha:=zd8 o b
 obtain⟨q1,q2,q3⟩:=ziW ho hb (mt2 o b++[(b.length:Int)]) 0 0 0 (by simp[ha.2]) (Nat.le_refl _) (by omega) (Asc.snoc (by omega) (by simp) ha.1)
 refine⟨?_,q2,q3,fun h=>zmU o b 0 0 (by simpa[zke,mt2]using h)⟩
 unfold zke
 omega
theorem ziw {p:Str}(h:zaL p=true):p≠ []:=by
 intro e
 rw[e]at h
 revert h
 decide
def toB (out:List Change)(p:Str):Bool:=out.any fun c=>c.To==p
def zju (a b:List File)(text:List Str)(out:List Change):Str:=match b.find? (fun g=>(!(getT a g.Path).2 && !toB out g.Path)&&g.Text==text)with
 |some g=>g.Path
 |none=>[]
def ziX (a b:List File)(out:List Change)(f:File):List Change:=
 bif(getT b f.Path).2 then(bif(getT b f.Path).1==f.Text then out else out++[⟨3,f.Path,[],[],zke f.Text (getT b f.Path).1⟩])
 else bif zju a b f.Text out !=[] then out++[⟨4,f.Path,zju a b f.Text out,[],[]⟩] else out++[⟨2,f.Path,[],f.Text,[]⟩]
def ofA (a b:List File):List Change:=a.foldl (ziX a b) []
def zpn (a b:List File)(g:File):Bool:= !(getT a g.Path).2 && !toB (ofA a b) g.Path
def zrw (g:File):Change:=⟨1,g.Path,[],g.Text,[]⟩
def ofB (a b:List File):List Change:=ofA a b++(b.filter (zpn a b)).map zrw
def VC (c:Change):Prop:=zaL c.Path=true/\
 ((c.Kind=3/\c.To=[]/\c.Text=[]/\c.Patch≠ []/\c.Patch.length<=7/\ChH 0 c.Patch /\ ∀ d∈c.Patch,zq1 10 d)\/
  (c.Kind=4/\zaL c.To=true/\c.To≠c.Path/\c.Text=[]/\c.Patch=[])\/
  ((c.Kind=1\/c.Kind=2)/\c.To=[]/\zau c.Text=true/\c.Patch=[]))
def RC (c d:Change):Prop:=c.Path≠d.Path/\c.To≠d.Path/\(d.To≠ []->c.Path≠d.To/\c.To≠d.To)
section
variable {a b:List File}(ta:zaD a=true)(tb:zaD b=true)
structure InvC (a b pre:List File) (out:List Change):Prop where
 len:out.length<=pre.length
 ok: ∀ c∈out,VC c
 inA: ∀ c∈out,∃ f∈pre,f.Path=c.Path
 to: ∀ c∈out,c.To≠ []->(getT a c.To).2=false/\(getT b c.To).2=true
 diff: ∀ c∈out,getT a c.Path≠getT b c.Path
 pw:out.Pairwise RC
 all: ∀ f∈pre,getT a f.Path≠getT b f.Path -> ∃ c∈out,c.Path=f.Path
theorem zq2 {text:List Str}{out:List Change}(h:zju a b text out≠ []): ∃ g∈b,g.Path=zju a b text out/\(getT a g.Path).2=false/\toB out g.Path=false:=by
 unfold zju at*
 cases hf:b.find? (fun g=>(!(getT a g.Path).2 && !toB out g.Path)&&g.Text==text)with
 |none=>rw[hf]at h;exact absurd rfl h
 |some g=>
  have:=List.find?_some hf
  simp only[aG,Bool.not_eq_true']at this
  exact⟨g,List.mem_of_find?_eq_some hf,rfl,this.1.1,this.1.2⟩
include ta tb
theorem zme {t:List File}(tt:zaD t=true){f:File}(hf:f∈t):getT t f.Path=(f.Text,true):=zrB (zk7 tt) hf
theorem zkf {pre suf:List File}{f:File}{out:List Change}(h:InvC a b pre out)(he:pre++f::suf=a){c:Change}(hp:c.Path=f.Path)(hv:VC c)(hd:getT a f.Path≠getT b f.Path)(hto:c.To≠ []->(getT a c.To).2=false/\(getT b c.To).2=true/\toB out c.To=false):InvC a b (pre++[f]) (out++[c]):=by
 have hfa:f∈a:=by rw[<- he];simp
 have hpw:=zk7 ta
 rw[<- he]at hpw
 have hlt: ∀ g∈pre,g.Path≠f.Path:=fun g hg e=>by
  have:=(List.pairwise_append.1 hpw).2.2 g hg f (by simp)
  rw[e]at this
  exact zar _ this
 have hfp:=za1 ta hfa
 have hat:=zme ta tb ta hfa
 refine⟨by simp;exact h.len,fun x hx=>?_,fun x hx=>?_,fun x hx=>?_,fun x hx=>?_,?_,fun g hg hgd=>?_⟩
 ·rcases List.mem_append.1 hx with e |e
  ·exact h.ok x e
  ·rw[List.mem_singleton.1 e];exact hv
 ·rcases List.mem_append.1 hx with e |e
  ·obtain⟨g,hg,e2⟩:=h.inA x e
   exact⟨g,by simp[hg],e2⟩
  ·rw[List.mem_singleton.1 e];exact⟨f,by simp,hp.symm⟩
 ·rcases List.mem_append.1 hx with e |e
  ·exact h.to x e
  ·rw[List.mem_singleton.1 e];exact fun h0=>⟨(hto h0).1,(hto h0).2.1⟩
 ·rcases List.mem_append.1 hx with e |e
  ·exact h.diff x e
  ·rw[List.mem_singleton.1 e,hp];exact hd
 ·refine List.pairwise_append.2 ⟨h.pw,by simp,fun x hx y hy=>?_⟩
  rw[List.mem_singleton.1 hy]
  obtain⟨g,hg,e2⟩:=h.inA x hx
  have hga:g∈a:=by rw[<- he];simp[hg]
  have hgt:=zme ta tb ta hga
  refine⟨by rw[<- e2,hp];exact hlt g hg,fun e=>?_,fun h0=>⟨fun e=>?_,fun e=>?_⟩⟩
  ·by_cases hx0:x.To=[]
   ·rw[hx0,hp]at e;exact ziw hfp e.symm
   ·have:=(h.to x hx hx0).1
    rw[e,hp,hat]at this
    cases this
  ·have:=(hto h0).1
   rw[<- e,<- e2,hgt]at this
   cases this
  ·have:=(hto h0).2.2
   unfold toB at this
   have h2:=List.any_eq_false.1 this x hx
   rw[e]at h2
   simp at h2
 ·rcases List.mem_append.1 hg with e |e
  ·obtain⟨x,hx,e2⟩:=h.all g e hgd
   exact⟨x,by simp[hx],e2⟩
  ·rw[List.mem_singleton.1 e];exact⟨c,by simp,hp⟩
theorem zpG {pre:List File}{f:File}{out:List Change}(h:InvC a b pre out)(hd:getT a f.Path=getT b f.Path):InvC a b (pre++[f]) out:=by
 refine⟨Nat.le_trans h.len (by simp),h.ok,fun x hx=>?_,h.to,h.diff,h.pw,fun g hg hgd=>?_⟩
 ·obtain⟨g,hg,e2⟩:=h.inA x hx
  exact⟨g,by simp[hg],e2⟩
 ·rcases List.mem_append.1 hg with e |e
  ·exact h.all g e hgd
  ·rw[List.mem_singleton.1 e]at hgd;exact absurd hd hgd
theorem zpH {pre suf:List File}{f:File}{out:List Change}(h:InvC a b pre out)(he:pre++f::suf=a):InvC a b (pre++[f]) (ziX a b out f):=by
 have hfa:f∈a:=by rw[<- he];simp
 have hfp:=za1 ta hfa
 have hft:=zal ta f hfa
 have hat:=zme ta tb ta hfa
 unfold ziX
 cases hb:(getT b f.Path).2 with
 |true=>
  rw[aD]
  have hbt:=zbc (zal tb) f.Path
  cases hs:(getT b f.Path).1==f.Text with
  |true=>
   have e1:(getT b f.Path).1=f.Text:=by simpa using hs
   exact zpG ta tb h (by rw[hat];exact(Prod.ext e1 hb).symm)
  |false=>
   have e1:(getT b f.Path).1≠f.Text:=fun e=>by rw[e]at hs;simp at hs
   obtain⟨d1,d2,d3,d4⟩:=znU hft hbt
   have hl:=zam hft
   refine zkf ta tb h he rfl ⟨hfp, .inl ⟨rfl,rfl,rfl,fun e=>e1 (d4 e).symm,d1,d2,fun d hd=>?_⟩⟩ (fun e=>e1 (by rw[<- e,hat])) (fun h0=>absurd rfl h0)
   obtain⟨x1,x2,x3,x4,x5⟩:=d3 d hd
   exact⟨x1,x2,x3,x4,by omega⟩
 |false=>
  rw[aC]
  have hne:getT a f.Path≠getT b f.Path:=fun e=>by rw[<- e,hat]at hb;cases hb
  cases ht:zju a b f.Text out !=[]with
  |true=>
   have ht':zju a b f.Text out≠ []:=by simpa using ht
   obtain⟨g,hg,e1,e2,e3⟩:=zq2 ht'
   rw[e1]at e2 e3
   have hgp:=za1 tb hg
   have hgt:=zme ta tb tb hg
   rw[e1]at hgp hgt
   have hnp:zju a b f.Text out≠f.Path:=fun e=>by rw[e,hat]at e2;cases e2
   exact zkf ta tb h he rfl ⟨hfp, .inr (.inl ⟨rfl,hgp,hnp,rfl,rfl⟩)⟩ hne (fun _=>⟨e2,by show(getT b (zju a b f.Text out)).2=true;rw[hgt],e3⟩)
  |false=>exact zkf ta tb h he rfl ⟨hfp, .inr (.inr ⟨.inr rfl,rfl,hft,rfl⟩)⟩ hne (fun h0=>absurd rfl h0)
theorem zmV: ∀ (suf pre:List File) (out:List Change),pre++suf=a->InvC a b pre out->InvC a b a (suf.foldl (ziX a b) out)
 | [],pre,out,he,h=>by rw[List.append_nil]at he;rw[<- he]at h ⊢;exact h
 |f::suf,pre,out,he,h=>zmV suf (pre++[f]) _ (by rw[List.append_assoc];exact he) (zpH ta tb h he)
theorem zne:InvC a b a (ofA a b):=zmV ta tb a [] [] rfl ⟨by simp,by simp,by simp,by simp,by simp, .nil,by simp⟩
theorem ziY:(ofB a b).length<=16/\(∀ c∈ofB a b,VC c)/\(ofB a b).Pairwise RC:=by
 have h:=zne ta tb
 have la:=zaw ta
 have lb:=zaw tb
 have hl:=h.len
 have hf: ∀ c∈(b.filter (zpn a b)).map zrw,∃ g∈b,zpn a b g=true/\c=zrw g:=fun c hc=>by
  obtain⟨g,hg,e⟩:=List.mem_map.1 hc
  obtain⟨h1,h2⟩:=List.mem_filter.1 hg
  exact⟨g,h1,h2,e.symm⟩
 refine⟨?_,fun c hc=>?_,?_⟩
 ·unfold ofB
  have:=List.length_filter_le (zpn a b) b
  simp only[List.length_append,List.length_map]
  omega
 ·rcases List.mem_append.1 hc with e |e
  ·exact h.ok c e
  ·obtain⟨g,hg,_,e2⟩:=hf c e
   rw[e2]
   exact⟨za1 tb hg, .inr (.inr ⟨.inl rfl,rfl,zal tb g hg,rfl⟩)⟩
 ·refine List.pairwise_append.2 ⟨h.pw,?_,fun c hc d hd=>?_⟩
  ·refine List.pairwise_map.2 ((zk7 tb).sublist List.filter_sublist |>.imp_of_mem ?_)
   intro x y hx hy hlt
   refine⟨fun e=>?_,fun e=>?_,fun h0=>absurd rfl h0⟩
   ·have e':x.Path=y.Path:=e
    rw[e']at hlt;exact zar _ hlt
   ·have e':[]=y.Path:=e
    exact ziw (za1 tb (List.mem_filter.1 hy).1) e'.symm
  ·obtain⟨g,hg,hadd,e2⟩:=hf d hd
   rw[e2]
   unfold zpn at hadd
   simp only[aG,Bool.not_eq_true']at hadd
   refine⟨fun e=>?_,fun e=>?_,fun h0=>absurd rfl h0⟩
   ·obtain⟨f,hfa,e3⟩:=h.inA c hc
    have:=zme ta tb ta hfa
    have e':c.Path=g.Path:=e
    rw[e3,e']at this
    rw[this]at hadd
    cases hadd.1
   ·have h2:=hadd.2
    unfold toB at h2
    have h3:=List.any_eq_false.1 h2 c hc
    have e':c.To=g.Path:=e
    rw[e']at h3
    simp at h3
end
def zoe (out:List Str)(c:Change):List Str:=bif c.To !=[] then zfZ (zfZ out c.Path) c.To else zfZ out c.Path
def pathsC (l:List Change):List Str:=l.foldl zoe []
theorem zqa {out:List Str}(h:Asd out)(c:Change):Asd (zoe out c):=by
 unfold zoe
 cases c.To !=[]with
 |true=>exact zcR _ _
 |false=>exact zcR _ _
theorem zq3 {out:List Str}{c:Change}{x:Str}:x∈zoe out c↔x∈out\/(x=c.Path\/(c.To≠ []/\x=c.To)):=by
 unfold zoe
 cases h:c.To !=[]with
 |true=>
  have h':c.To≠ []:=by simpa using h
  rw[aD,insS_mem,insS_mem]
  constructor
  ·rintro((h1 |h1) |h1)
   ·exact .inl h1
   ·exact .inr (.inl h1)
   ·exact .inr (.inr ⟨h',h1⟩)
  ·rintro(h1 |h1 |⟨_,h1⟩)
   ·exact .inl (.inl h1)
   ·exact .inl (.inr h1)
   ·exact .inr h1
 |false=>
  have h':c.To=[]:=by simpa using h
  rw[aC,insS_mem]
  constructor
  ·rintro(h1 |h1)
   ·exact .inl h1
   ·exact .inr (.inl h1)
  ·rintro(h1 |h1 |⟨h0,_⟩)
   ·exact .inl h1
   ·exact .inr h1
   ·exact absurd h' h0
theorem zmW: ∀ (l:List Change) (out:List Str) (x:Str),x∈l.foldl zoe out↔x∈out \/ ∃ c∈l,x=c.Path\/(c.To≠ []/\x=c.To)
 | [],out,x=>by simp
 |c::l,out,x=>by
  rw[List.foldl_cons,zmW l,zq3]
  constructor
  ·rintro((h |h) |⟨d,hd,h⟩)
   ·exact .inl h
   ·exact .inr ⟨c,by simp,h⟩
   ·exact .inr ⟨d,by simp[hd],h⟩
  ·rintro(h |⟨d,hd,h⟩)
   ·exact .inl (.inl h)
   ·rcases List.mem_cons.1 hd with e |e
    ·rw[e]at h;exact .inl (.inr h)
    ·exact .inr ⟨d,e,h⟩
theorem zkY: ∀ (l:List Change) (out:List Str),(l.foldl zoe out).length<=out.length+2*l.length
 | [],out=>by simp
 |c::l,out=>by
  have h1:=zkY l (zoe out c)
  have h2:(zoe out c).length<=out.length+2:=by
   unfold zoe
   have:=zdf out c.Path
   have:=zdf (zfZ out c.Path) c.To
   cases c.To !=[]<;>simp only[aD,aC]<;>omega
  simp only[List.foldl_cons,aL]
  omega
theorem zkx {l:List Change}{x:Str}:x∈pathsC l ↔ ∃ c∈l,x=c.Path\/(c.To≠ []/\x=c.To):=by
 unfold pathsC
 rw[zmW]
 simp
theorem zmX {a b:List File}(ta:zaD a=true)(tb:zaD b=true){x:Str}(h:x∈pathsC (ofB a b)):zaL x=true:=by
 obtain⟨c,hc,hx⟩:=zkx.1 h
 obtain⟨h1,h2⟩:=(ziY ta tb).2.1 c hc
 rcases hx with rfl |⟨h0,rfl⟩
 ·exact h1
 ·rcases h2 with h2 |h2 |h2
  ·exact absurd h2.2.1 h0
  ·exact h2.2.1
  ·exact absurd h2.2.1 h0
def zjg (v:Review)(who:Str):Bool:=who==[]||who==v.By||v.Yes.any (fun y=>y==who)
def zg7 (w:Str->Str)(v:Review)(out:List Str)(p:Str):List Str:=bif zjg v (w p) then out else zfZ out (w p)
def zl1 (w:Str->Str)(v:Review)(ps:List Str):List Str:=ps.foldl (zg7 w v) []
theorem zpI {w:Str->Str}{v:Review}{out:List Str}{p x:Str}:x∈zg7 w v out p↔x∈out\/(w p=x/\zjg v x=false):=by
 unfold zg7
 cases h:zjg v (w p)with
 |true=>
  rw[aD]
  exact⟨.inl,fun h1=>h1.elim id fun⟨e,h2⟩=>by rw[e,h2]at h;cases h⟩
 |false=>
  rw[aC,insS_mem]
  constructor
  ·rintro(h1 |h1)
   ·exact .inl h1
   ·exact .inr ⟨h1.symm,by rw[h1];exact h⟩
  ·rintro(h1 |⟨h1,_⟩)
   ·exact .inl h1
   ·exact .inr h1.symm
theorem zmY {w:Str->Str}{v:Review}: ∀ (ps:List Str) (out:List Str) (x:Str),x∈ps.foldl (zg7 w v) out↔x∈out \/ ∃ p∈ps,w p=x/\zjg v x=false
 | [],out,x=>by simp
 |p::ps,out,x=>by
  rw[List.foldl_cons,zmY ps,zpI]
  constructor
  ·rintro((h |h) |⟨q,hq,h⟩)
   ·exact .inl h
   ·exact .inr ⟨p,by simp,h⟩
   ·exact .inr ⟨q,by simp[hq],h⟩
  ·rintro(h |⟨q,hq,h⟩)
   ·exact .inl (.inl h)
   ·rcases List.mem_cons.1 hq with e |e
    ·rw[e]at h;exact .inl (.inr h)
    ·exact .inr ⟨q,e,h⟩
theorem zkg {w:Str->Str}{v:Review}: ∀ (ps:List Str) (out:List Str),Asd out->Asd (ps.foldl (zg7 w v) out)
 | [],_,h=>h
 |p::ps,out,h=>by
  refine zkg ps _ ?_
  unfold zg7
  cases zjg v (w p)with
  |true=>exact h
  |false=>exact zcR _ _
theorem zpY {w:Str->Str}{v:Review}: ∀ (ps:List Str) (out:List Str),(ps.foldl (zg7 w v) out).length<=out.length+ps.length
 | [],out=>by simp
 |p::ps,out=>by
  have h1:=zpY (w:=w) (v:=v) ps (zg7 w v out p)
  have h2:(zg7 w v out p).length<=out.length+1:=by
   unfold zg7
   have:=zdf out (w p)
   cases zjg v (w p)<;>simp only[aD,aC]<;>omega
  simp only[List.foldl_cons,aL]
  omega
theorem zkh {w:Str->Str}{v:Review}{ps:List Str}{x:Str}:x∈zl1 w v ps ↔ ∃ p∈ps,w p=x/\zjg v x=false:=by
 unfold zl1
 rw[zmY]
 simp
theorem zpJ {w:Str->Str}{v:Review}{ps qs:List Str}(h: ∀ x,x∈ps↔x∈qs):zl1 w v ps=zl1 w v qs:=by
 refine Asd.ext (zkg ps [] .nil) (zkg qs [] .nil) fun x=>?_
 rw[zkh,zkh]
 exact⟨fun⟨p,hp,e⟩=>⟨p,(h p).1 hp,e⟩,fun⟨p,hp,e⟩=>⟨p,(h p).2 hp,e⟩⟩
theorem zsG {w:Str->Str}{v:Review}{ps:List Str}(h: ∀ p,w p=[]\/w p=v.By):zl1 w v ps=[]:=by
 refine List.eq_nil_iff_forall_not_mem.2 fun x hx=>?_
 obtain⟨p,hp,e,hs⟩:=zkh.1 hx
 unfold zjg at hs
 simp only[Bool.or_eq_false_iff]at hs
 rcases h p with e2 |e2
 ·rw[<- e,e2]at hs;simp at hs
 ·rw[<- e,e2]at hs;simp at hs
theorem ziJ {R α σ:Type} {xs:List α} {g:σ->α->σ} {I:Nat->σ->Prop} {f:Nat->σ->Int->Option R} {Z:σ->Option R}
 (hs: ∀ m (i:Nat) x s,xs[i]? =some x->I i s->f (m+1) s (i:Int)=f m (g s x) ((i+1:Nat):Int)/\I (i+1) (g s x)) (he: ∀ m s,I xs.length s->f (m+1) s (xs.length:Int)=Z s):
 ∀ (k i m:Nat) (s:σ),i+k=xs.length->k<m->I i s->f m s (i:Int)=Z ((xs.drop i).foldl g s)/\I xs.length ((xs.drop i).foldl g s)
 |k,i,0,s,_,hm,_=>by omega
 |0,i,m+1,s,hi,_,h=>by
  obtain rfl:i=xs.length:=by omega
  rw[List.drop_length,List.foldl_nil]
  exact⟨he m s h,h⟩
 |k+1,i,m+1,s,hi,hm,h=>by
  have hlt:i<xs.length:=by omega
  obtain⟨e1,e2⟩:=hs m i xs[i] s (aB hlt) h
  rw[e1,aI hlt,List.foldl_cons]
  exact ziJ hs he k (i+1) m _ (by omega) (by omega) e2
theorem zaI {R α σ:Type} {xs:List α} {g:σ->α->σ} {I:Nat->σ->Prop} {f:Nat->σ->Int->Option R} {Z:σ->Option R} {s:σ} (h:I 0 s)
 (hs: ∀ m (i:Nat) x s,xs[i]? =some x->I i s->f (m+1) s (i:Int)=f m (g s x) ((i+1:Nat):Int)/\I (i+1) (g s x)) (he: ∀ m s,I xs.length s->f (m+1) s (xs.length:Int)=Z s):f (xs.length+1) s 0=Z (xs.foldl g s)/\I xs.length (xs.foldl g s):=by
 have:=ziJ hs he xs.length 0 (xs.length+1) s (by omega) (by omega) h
 rwa [List.drop_zero]at this
theorem zlo {α:Type}{ps:List α}{i:Nat}{x:α}{ms:List α}(h:ps.drop i=x::ms):ps[i]? =some x/\ps.drop (i+1)=ms:=by
 have h1:(ps.drop i)[0]? =some x:=by rw[h];rfl
 rw[List.getElem?_drop,Nat.add_zero]at h1
 refine⟨h1,?_⟩
 rw[<- List.drop_drop,h]
 rfl
theorem zmZ {α:Type}{ps:List α}{i:Nat}(hi:i<=ps.length)(h:ps.drop i=[]):i=ps.length:=by
 have:=List.drop_eq_nil_iff.1 h
 omega
section
variable {o b:List Str}(ho:o.length<=1000)(hb:b.length<=1000){ps:List Int}(hps:ps.length=o.length+1)
include ho hb hps
theorem zoj: ∀ (ms:List Int) (i m f k:Nat) (out:List Hunk),ps.drop i=ms->i<=ps.length->ms.length<m->f<=i->Asc ((b.length:Int)+1) (k:Int) ms->out.length+ms.length<=5000->
 zfg o b ps (fun c _ _ _=>some c) m out (f:Int) (k:Int) (i:Int)=some (out++zeL o b i ms f k)
 |_,_,0,_,_,_,_,_,hm,_,_,_=>by omega
 | [],i,m+1,f,k,out,hd,hi,_,_,_,_=>by
  obtain rfl:=zmZ hi hd
  simp only[zfg,zac,aC,zeL,List.append_nil]
 |x::ms,i,m+1,f,k,out,hd,hi,hm,hf,hA,hl=>by
  obtain⟨hx,hd'⟩:=zlo hd
  have hlt:=zas hx
  simp only[aL]at hm hl
  have ih:=fun f k out hf hA hl=>zoj ms (i+1) m f k out hd' (by omega) (by omega) hf hA hl
  unfold zeL
  simp only[zfg,jn,zaj hx,zad hx,aD,aA,zab hlt (show ps.length<=maxi by unfold maxi;omega)]
  rcases hA with ⟨h1,h2⟩ |⟨h1,h2,h3⟩
  ·rw[aF (show x<0 by omega),aD,aD]
   exact ih f k out (by omega) h2 (by omega)
  ·obtain⟨n,rfl⟩:=Int.eq_ofNat_of_zero_le (show 0<=x by omega)
   have e0:w64 ((n:Int)+1)=((n+1:Nat):Int):=zab (show n<b.length+1 by omega) (by unfold maxi;omega)
   have e1:decide ((f:Int)< (i:Int))=decide (f<i):=decide_eq_decide.2 (by omega)
   have s1:slM o (f:Int) (i:Int)=some (zhf o f i):=zgd (by omega) (by omega) (by omega)
   have s2:slM b (k:Int) (n:Int)=some (zhf b k n):=zgd (by omega) (by omega) (by omega)
   have l1:(zhf o f i).length=i-f:=zgG (by omega)
   have l2:(zhf b k n).length=n-k:=zgG (by omega)
   rw[aE (show ¬ (n:Int)<0 by omega),aC,aC,e0,e1,Int.toNat_natCast]
   have g1: ∀ (h:Hunk),apM out [h]=some (out++[h]):=fun h=>ap1 (by omega)
   have ia:=ih (i+1) (n+1) (out++[⟨(f:Int),zhf o f i,zhf b k n⟩]) (by omega) (by simpa using h3) (by simp;omega)
   have ib:=ih (i+1) (n+1) out (by omega) (by simpa using h3) (by omega)
   cases decide (f<i)with
   |true=>
    simp only[aD,Bool.true_or,s1,s2,aA,apN (show(zhf o f i).length<=1048576 by omega),apN (show(zhf b k n).length<=1048576 by omega),g1]
    rw[ia,List.append_assoc]
   |false=>
    cases decide ((k:Int)< (n:Int))with
    |true=>
     simp only[aD,aC,Bool.or_true,s1,s2,aA,apN (show(zhf o f i).length<=1048576 by omega),apN (show(zhf b k n).length<=1048576 by omega),g1]
     rw[ia,List.append_assoc]
    |false=>simp only[aC,Bool.or_self,List.nil_append];exact ib
theorem zok: ∀ (ms:List Int) (i m f k:Nat) (out:List Hunk),ps.drop i=ms->i<=ps.length->ms.length<m->f<=i->Asc ((b.length:Int)+1) (k:Int) ms->out.length+ms.length<=5000->
 zfk o b ps (fun c _ _ _=>some c) m out (f:Int) (k:Int) (i:Int)=some (out++zeL o b i ms f k)
 |_,_,0,_,_,_,_,_,hm,_,_,_=>by omega
 | [],i,m+1,f,k,out,hd,hi,_,_,_,_=>by
  obtain rfl:=zmZ hi hd
  simp only[zfk,zac,aC,zeL,List.append_nil]
 |x::ms,i,m+1,f,k,out,hd,hi,hm,hf,hA,hl=>by
  obtain⟨hx,hd'⟩:=zlo hd
  have hlt:=zas hx
  simp only[aL]at hm hl
  have ih:=fun f k out hf hA hl=>zok ms (i+1) m f k out hd' (by omega) (by omega) hf hA hl
  unfold zeL
  simp only[zfk,jn,zaj hx,zad hx,aD,aA,zab hlt (show ps.length<=maxi by unfold maxi;omega)]
  rcases hA with ⟨h1,h2⟩ |⟨h1,h2,h3⟩
  ·rw[aF (show x<0 by omega),aD,aD]
   exact ih f k out (by omega) h2 (by omega)
  ·obtain⟨n,rfl⟩:=Int.eq_ofNat_of_zero_le (show 0<=x by omega)
   have e0:w64 ((n:Int)+1)=((n+1:Nat):Int):=zab (show n<b.length+1 by omega) (by unfold maxi;omega)
   have e1:decide ((f:Int)< (i:Int))=decide (f<i):=decide_eq_decide.2 (by omega)
   have s1:slM o (f:Int) (i:Int)=some (zhf o f i):=zgd (by omega) (by omega) (by omega)
   have s2:slM b (k:Int) (n:Int)=some (zhf b k n):=zgd (by omega) (by omega) (by omega)
   have l1:(zhf o f i).length=i-f:=zgG (by omega)
   have l2:(zhf b k n).length=n-k:=zgG (by omega)
   rw[aE (show ¬ (n:Int)<0 by omega),aC,aC,e0,e1,Int.toNat_natCast]
   have g1: ∀ (h:Hunk),apM out [h]=some (out++[h]):=fun h=>ap1 (by omega)
   have ia:=ih (i+1) (n+1) (out++[⟨(f:Int),zhf o f i,zhf b k n⟩]) (by omega) (by simpa using h3) (by simp;omega)
   have ib:=ih (i+1) (n+1) out (by omega) (by simpa using h3) (by omega)
   cases decide (f<i)with
   |true=>
    simp only[aD,Bool.true_or,s1,s2,aA,za9 (show(zhf o f i).length<=1048576 by omega),za9 (show(zhf b k n).length<=1048576 by omega),g1]
    rw[ia,List.append_assoc]
   |false=>
    cases decide ((k:Int)< (n:Int))with
    |true=>
     simp only[aD,aC,Bool.or_true,s1,s2,aA,za9 (show(zhf o f i).length<=1048576 by omega),za9 (show(zhf b k n).length<=1048576 by omega),g1]
     rw[ia,List.append_assoc]
    |false=>simp only[aC,Bool.or_self,List.nil_append];exact ib
end
section
variable {o b:List Str}(ho:o.length<=1000)(hb:b.length<=1000)
include ho hb
theorem zq4:zk0 o b=some (zke o b):=by
 obtain⟨h1,h2⟩:=zd8 o b
 unfold zk0 zke
 rw[zgX ho hb,aA,zob (by omega),aA]
 simp only[jn,zak]
 have:=zoj ho hb (ps:=mt2 o b++[(b.length:Int)]) (by simp[h2]) (mt2 o b++[(b.length:Int)]) 0 ((mt2 o b++[(b.length:Int)]).length+1) 0 0 [] rfl (by omega) (by omega) (by omega) (Asc.snoc (by omega) (by simp) h1) (by simp[h2];omega)
 exact this
theorem zq5:zk3 o b=some (zke o b):=by
 obtain⟨h1,h2⟩:=zd8 o b
 unfold zk3 zke
 rw[zjq ho hb,aA,zob (by omega),aA]
 simp only[jn,zak]
 have:=zok ho hb (ps:=mt2 o b++[(b.length:Int)]) (by simp[h2]) (mt2 o b++[(b.length:Int)]) 0 ((mt2 o b++[(b.length:Int)]).length+1) 0 0 [] rfl (by omega) (by omega) (by omega) (Asc.snoc (by omega) (by simp) h1) (by simp[h2];omega)
 exact this
end
theorem zrQ {xs:List Str}{s:Str}(h:xs.length<=maxi): ∀ (k i m:Nat) (c:Int),i+k=xs.length->k<m -> ∃ z,zaz xs s (fun _ _=>some (-1)) m c (i:Int)=some z/\decide (0<=z)=(xs.drop i).any fun y=>y==s
 |k,i,0,_,_,hm=>by omega
 |0,i,m+1,c,hi,_=>by
  obtain rfl:i=xs.length:=by omega
  refine⟨-1,by simp only[zaz,zac,aC],by simp⟩
 |k+1,i,m+1,c,hi,hm=>by
  have hlt:i<xs.length:=by omega
  have hx:xs[i]? =some xs[i]:=aB hlt
  simp only[zaz,zaj hx,zad hx,aD,aA,zab hlt h]
  rw[aI hlt,List.any_cons,show(s==xs[i])=(xs[i]==s) by rw[Bool.eq_iff_iff,beq_iff_eq,beq_iff_eq];exact eq_comm]
  cases xs[i]==s with
  |true=>exact⟨(i:Int),rfl,by simp⟩
  |false=>exact zrQ h k (i+1) m c (by omega) (by omega)
theorem zgt {xs:List Str}{s:Str}(h:xs.length<=maxi):zaP xs s=some (xs.any fun y=>y==s):=by
 unfold zaP zbz
 simp only[jn,zak]
 obtain⟨z,h1,h2⟩:=zrQ (s:=s) h xs.length 0 (xs.length+1) 0 (by omega) (by omega)
 have h1':zaz xs s (fun _ _=>some (-1)) (xs.length+1) 0 0=some z:=h1
 rw[h1',aA,h2,List.drop_zero]
def zjv (a:List File)(text:List Str)(out:List Change)(g:File):Bool:=(!(getT a g.Path).2 && !toB out g.Path)&&g.Text==text
theorem zq6 {a b:List File}{text:List Str}{out:List Change}(h:b.find? (zjv a text out)=none):zju a b text out=[]:=by
 unfold zju zjv at*
 rw[h]
theorem zq7 {a b:List File}{text:List Str}{out:List Change}{g:File}(h:b.find? (zjv a text out)=some g):zju a b text out=g.Path:=by
 unfold zju zjv at*
 rw[h]
theorem zl2 (out:List Change)(c:Change)(p:Str):toB (out++[c]) p=(toB out p||c.To==p):=by simp[toB]
section
variable {a b:List File}(ha:TB a)(hb:TB b)(ta:zaD a=true)(tb:zaD b=true)
include ha hb ta tb
theorem zlp {text:List Str}{out:List Change}(ho:out.length<=1000)(d:Str): ∀ (k i m:Nat),i+k=b.length->k<m->
 zcX a b text out (fun _ _=>some ([]:Str)) m d (i:Int)=some (match (b.drop i).find? (zjv a text out)with |some g=>g.Path |none=>[])
 |k,i,0,_,hm=>by omega
 |0,i,m+1,hi,_=>by
  obtain rfl:i=b.length:=by omega
  simp only[zcX,zac,aC,List.drop_length,List.find?_nil]
 |k+1,i,m+1,hi,hm=>by
  have hlt:i<b.length:=by omega
  have hx:b[i]? =some b[i]:=aB hlt
  have hm':=zal tb b[i] (List.getElem_mem hlt)
  have htl:=zam hm'
  have ih:=zlp (text:=text) ho d k (i+1) m (by omega) (by omega)
  have inner: ∀ (Z:Bool->Int->Option Str) (hZ: ∀ q z z',Z q z=Z q z'),zbw b out (i:Int) Z (((out.length:Int)-0).toNat+1) true 0=Z (!toB out b[i].Path) 0:=fun Z hZ=>by
   rw[zak]
   have:=(zaI (xs:=out) (g:=fun d c=>d&&(c.To !=b[i].Path)) (I:=fun _ _=>True) (Z:=fun s=>Z s 0) (f:=fun m s i'=>zbw b out (i:Int) Z m s i') (s:=true) trivial (fun m j x s hxj _=>by
    refine⟨?_,trivial⟩
    simp only[zbw,zaj hxj,zad hxj,zad hx,aD,aA,zab (zas hxj) (show out.length<=maxi by unfold maxi;omega)]
    cases s<;>rfl) (fun m s _=>by simp only[zbw,zac,aC];exact hZ _ _ _)).1
   rw[this,zm7,Bool.true_and]
   congr 1
   unfold toB
   rw[List.not_any_eq_all_not]
   rfl
  rw[aI hlt,List.find?_cons]
  simp only[zcX,zaj hx,zad hx,aD,aA,jn,zei ha,zeU (zan (show b[i].Text.length<=1048576 by omega)),zab hlt hb.maxi]
  rw[inner _ (fun q z z'=>rfl)]
  unfold zjv at ih ⊢
  cases(getT a b[i].Path).2<;>cases toB out b[i].Path<;>cases b[i].Text==text<;>simp only[aK,Bool.not_false,Bool.and_true,Bool.and_false,Bool.and_self,aD,aC]<;>first |exact ih |rfl
theorem zoE {text:List Str}{out:List Change}(ho:out.length<=1000):zgf a b text out=some (zju a b text out):=by
 unfold zgf
 simp only[jn,zak]
 have:=zlp ha hb ta tb (text:=text) ho [] b.length 0 (b.length+1) (by omega) (by omega)
 rw[List.drop_zero]at this
 refine this.trans ?_
 unfold zju zjv
 rfl
theorem zm0 (out:List Change)(f:File):(ziX a b out f).length<=out.length+1:=by
 unfold ziX
 cases(getT b f.Path).2<;>cases(getT b f.Path).1==f.Text<;>cases zju a b f.Text out !=[]<;>simp
theorem zl3 (P:File->Bool): ∀ (gs:List File) (s:List Change),gs.foldl (fun s g=>bif P g then s++[zrw g] else s) s=s++(gs.filter P).map zrw
 | [],s=>by simp
 |g::gs,s=>by
  rw[List.foldl_cons,zl3 P gs,List.filter_cons]
  cases P g<;>simp
theorem zuy:zi1 a b=some (ofB a b):=by
 have sa:=zaw ta
 have sb:=zaw tb
 have hl:=(zne ta tb).len
 unfold zi1
 simp only[jn,zak]
 have e1:=(zaI (xs:=a) (g:=ziX a b) (I:=fun i (s:List Change)=>s.length<=i) (Z:=fun s=>zbY a b s (fun b f=>some b) (b.length+1) s 0) (f:=fun m s i=>zfh a b (fun s _=>zbY a b s (fun b f=>some b) (b.length+1) s 0) m s i) (s:=[]) (by simp) (fun m i x s hx hI=>by
  have hi:=zas hx
  have hxa:=aH hx
  have hxt:=zam (zal ta x hxa)
  have hgt:=zam (zbc (zal tb) x.Path)
  have g1: ∀ (h:Change),apM s [h]=some (s++[h]):=fun h=>ap1 (by omega)
  refine⟨?_,by have:=zm0 ha hb ta tb s x;omega⟩
  simp only[zfh,jn,zaj hx,zad hx,aD,aA,zab hi ha.maxi,zei hb,zeU (zan (show(getT b x.Path).1.length<=1048576 by omega)),zq4 (show x.Text.length<=1000 by omega) (show(getT b x.Path).1.length<=1000 by omega),zoE ha hb ta tb (show s.length<=1000 by omega),apN (show x.Text.length<=1048576 by omega),g1]
  unfold ziX
  cases(getT b x.Path).2 with
  |true=>
   cases(getT b x.Path).1==x.Text<;>rfl
  |false=>cases zju a b x.Text s !=[]<;>rfl) (fun m s _=>by simp only[zfh,zac,aC])).1
 refine e1.trans ?_
 show zbY a b (ofA a b) (fun b f=>some b) (b.length+1) (ofA a b) 0=_
 have e2:=(zaI (xs:=b) (g:=fun s g=>bif zpn a b g then s++[zrw g] else s) (I:=fun i (s:List Change)=> ∃ e,s=ofA a b++e/\e.length<=i) (Z:=fun s=>some s) (f:=fun m s i=>zbY a b (ofA a b) (fun b f=>some b) m s i) (s:=ofA a b) ⟨[],by simp,by simp⟩ (fun m i x s hx hI=>by
  obtain⟨e,rfl,hel⟩:=hI
  have hi:=zas hx
  have hxb:=aH hx
  have hxt:=zam (zal tb x hxb)
  have g1: ∀ (h:Change),apM (ofA a b++e) [h]=some (ofA a b++e++[h]):=fun h=>ap1 (by simp;omega)
  have inner: ∀ (Z:Bool->Int->Option (List Change)) (hZ: ∀ q z z',Z q z=Z q z'),zdB b (ofA a b) (ofA a b++e) (i:Int) Z ((ofA a b).length+1) false 0=Z (toB (ofA a b) x.Path) 0:=fun Z hZ=>by
   have:=(zaI (xs:=ofA a b) (g:=fun d c=>d||(c.To==x.Path)) (I:=fun _ _=>True) (Z:=fun s=>Z s 0) (f:=fun m s i'=>zdB b (ofA a b) (ofA a b++e) (i:Int) Z m s i') (s:=false) trivial (fun m j y s hxj _=>by
    refine⟨?_,trivial⟩
    have hxj2:(ofA a b++e)[j]? =some y:=by rw[aM (zas hxj)];exact hxj
    simp only[zdB,zaj hxj,zad hxj2,zad hx,aD,aA,zab (zas hxj) (show(ofA a b).length<=maxi by unfold maxi;omega)]
    cases s<;>rfl) (fun m s _=>by simp only[zdB,zac,aC];exact hZ _ _ _)).1
   rw[this,zl6,Bool.false_or]
   rfl
  refine⟨?_,?_⟩
  ·simp only[zbY,jn,zaj hx,zad hx,aD,aA,zab hi hb.maxi,zei ha,zak,apN (show x.Text.length<=1048576 by omega),g1]
   rw[inner _ (fun q z z'=>rfl)]
   unfold zpn
   cases(getT a x.Path).2<;>cases toB (ofA a b) x.Path<;>rfl
  ·cases zpn a b x with
   |true=>exact⟨e++[zrw x],by simp,by simp;omega⟩
   |false=>exact⟨e,rfl,by omega⟩) (fun m s _=>by simp only[zbY,zac,aC])).1
 refine e2.trans ?_
 rw[zl3 ha hb ta tb]
 rfl
def TgI (out:List Change)(tg:List Str):Prop:= ∀ p,p≠ []->(tg.any fun y=>y==p)=toB out p
def stepI (a b:List File)(s:List Change×List Str)(f:File):List Change×List Str:=(ziX a b s.1 f,bif(getT b f.Path).2 then s.2 else(bif zju a b f.Text s.1 !=[] then s.2++[zju a b f.Text s.1] else s.2))
theorem zrR {f:File}(hf:f.Text.length<=1000){out:List Change}{tg:List Str}(hT:TgI out tg)(hl:tg.length<=1000){Z:List Str->Int->Str->Str->List Str->List Hunk->Option (List Change)}{h i':Str}{j':List Str}{k':List Hunk}{g':Int}: ∀ (k i m:Nat),i+k=b.length->k<m->
 zcl a b f Z m tg (i:Int) g' h i' j' k'=(match (b.drop i).find? (zjv a f.Text out)with |some g=>Z (tg++[g.Path]) 4 f.Path g.Path [] [] |none=>Z tg g' h i' j' k')
 |k,i,0,_,hm=>by omega
 |0,i,m+1,hi,_=>by
  obtain rfl:i=b.length:=by omega
  simp only[zcl,zac,aC,List.drop_length,List.find?_nil]
 |k+1,i,m+1,hi,hm=>by
  have hlt:i<b.length:=by omega
  have hx:b[i]? =some b[i]:=aB hlt
  have hxb:=List.getElem_mem hlt
  have htl:=zam (zal tb b[i] hxb)
  have hpn:=ziw (za1 tb hxb)
  have ih:=zrR hf hT hl (Z:=Z) (h:=h) (i':=i') (j':=j') (k':=k') (g':=g') k (i+1) m (by omega) (by omega)
  rw[aI hlt,List.find?_cons]
  simp only[zcl,zaj hx,zad hx,aD,aA,jn,znh ha,zg2 (zan (show b[i].Text.length<=1048576 by omega)),zgt (zan (show tg.length<=1048576 by omega)),hT _ hpn,zab hlt hb.maxi,ap1 (x:=b[i].Path) (show tg.length<=1048576 by omega)]
  unfold zjv at ih ⊢
  cases(getT a b[i].Path).2<;>cases toB out b[i].Path<;>cases b[i].Text==f.Text<;>simp only[aK,Bool.not_false,Bool.and_true,Bool.and_false,Bool.and_self,aD,aC]<;>first |exact ih |rfl
theorem tgt_both (text:List Str)(out:List Change):(∃ g,b.find? (zjv a text out)=some g/\zju a b text out=g.Path/\(zju a b text out !=[])=true)\/(b.find? (zjv a text out)=none/\zju a b text out=[]/\(zju a b text out !=[])=false):=by
 cases h:b.find? (zjv a text out)with
 |none=>
  have:=zq6 h
  exact .inr ⟨rfl,this,by rw[this];rfl⟩
 |some g=>
  have:=zq7 h
  refine .inl ⟨g,rfl,this,?_⟩
  rw[this,bne_iff_ne]
  exact ziw (za1 tb (List.mem_of_find?_eq_some h))
theorem zq8 {s:List Change×List Str}{f:File}(hT:TgI s.1 s.2):TgI (stepI a b s f).1 (stepI a b s f).2:=by
 intro p hp
 have h0:=hT p hp
 have hz:(([]:Str)==p)=false:=beq_false_of_ne (fun e=>hp e.symm)
 unfold stepI ziX
 cases(getT b f.Path).2 with
 |true=>
  simp only[aD]
  cases(getT b f.Path).1==f.Text with
  |true=>exact h0
  |false=>simp only[aC];rw[zl2,h0,hz,Bool.or_false]
 |false=>
  simp only[aC]
  cases zju a b f.Text s.1 !=[]with
  |true=>simp only[aD];rw[zl2,List.any_append,h0];simp
  |false=>simp only[aC];rw[zl2,h0,hz,Bool.or_false]
theorem zm1: ∀ (xs:List File) (s:List Change×List Str),(xs.foldl (stepI a b) s).1=xs.foldl (ziX a b) s.1
 | [],s=>rfl
 |x::xs,s=>by rw[List.foldl_cons,List.foldl_cons,zm1 xs];rfl
theorem zuz:zft a b=some (ofB a b):=by
 have sa:=zaw ta
 have sb:=zaw tb
 have hl:=(zne ta tb).len
 unfold zft
 simp only[jn,zak,zeW ha,zeW hb,ta,tb,aA,aK,aC]
 have e1:=zaI (xs:=a) (g:=stepI a b) (I:=fun i (s:List Change×List Str)=>s.1.length<=i/\s.2.length<=i/\TgI s.1 s.2) (Z:=fun s=>zaT a b s.2 (fun e k=>some e) (b.length+1) s.1 0) (f:=fun m s i=>zcm a b (fun c d _=>zaT a b d (fun e k=>some e) (b.length+1) c 0) m s.1 s.2 i) (s:=([],[])) ⟨by simp,by simp,fun p hp=>rfl⟩ (fun m i x s hx hI=>by
  obtain⟨hI1,hI2,hI3⟩:=hI
  have hi:=zas hx
  have hxa:=aH hx
  have hxt:=zam (zal ta x hxa)
  have hgt:=zam (zbc (zal tb) x.Path)
  have g1: ∀ (h:Change),apM s.1 [h]=some (s.1++[h]):=fun h=>ap1 (by omega)
  refine⟨?_,?_,?_,zq8 ha hb ta tb hI3⟩
  ·have inner:=fun Z h i' j' k' g'=>zrR ha hb ta tb (f:=x) (show x.Text.length<=1000 by omega) hI3 (show s.2.length<=1000 by omega) (Z:=Z) (h:=h) (i':=i') (j':=j') (k':=k') (g':=g') b.length 0 (b.length+1) (by omega) (by omega)
   simp only[List.drop_zero]at inner
   simp only[zcm,jn,zaj hx,zad hx,aD,aA,zab hi ha.maxi,znh hb,zg2 (zan (show(getT b x.Path).1.length<=1048576 by omega)),zq5 (show x.Text.length<=1000 by omega) (show(getT b x.Path).1.length<=1000 by omega),za9 (show x.Text.length<=1048576 by omega),g1,zak]
   unfold stepI ziX
   cases(getT b x.Path).2 with
   |true=>cases(getT b x.Path).1==x.Text<;>rfl
   |false=>
    simp only[aC]
    refine(inner _ _ _ _ _ _).trans ?_
    rcases tgt_both ha hb ta tb x.Text s.1 with ⟨g,q1,q2,q3⟩ |⟨q1,q2,q3⟩
    ·rw[q1,q3]
     simp only[g1,aA,aD,q2]
    ·rw[q1,q3]
     simp only[g1,aA,aC]
  ·have:=zm0 ha hb ta tb s.1 x
   show(ziX a b s.1 x).length<=_
   omega
  ·unfold stepI
   cases(getT b x.Path).2<;>cases zju a b x.Text s.1 !=[]<;>simp only[aD,aC,List.length_append,aL,List.length_nil]<;>omega) (fun m s _=>by simp only[zcm,zac,aC])
 refine e1.1.trans ?_
 obtain⟨hI1,hI2,hI3⟩:=e1.2
 rw[zm1 ha hb ta tb]at hI1 hI3 ⊢
 generalize (a.foldl (stepI a b) ([],[])).2=tg at*
 show zaT a b tg (fun e k=>some e) (b.length+1) (ofA a b) 0=_
 have e2:=(zaI (xs:=b) (g:=fun s g=>bif zpn a b g then s++[zrw g] else s) (I:=fun i (s:List Change)=>s.length<=a.length+i) (Z:=fun s=>some s) (f:=fun m s i=>zaT a b tg (fun b f=>some b) m s i) (s:=ofA a b) (by omega) (fun m i x s hx hI=>by
  have hi:=zas hx
  have hxb:=aH hx
  have hxt:=zam (zal tb x hxb)
  have hpn:=ziw (za1 tb hxb)
  have g1: ∀ (h:Change),apM s [h]=some (s++[h]):=fun h=>ap1 (by omega)
  have hT:(tg.any fun y=>y==x.Path)=toB (ofA a b) x.Path:=hI3 _ hpn
  refine⟨?_,?_⟩
  ·simp only[zaT,jn,zaj hx,zad hx,aD,aA,zab hi hb.maxi,znh ha,zgt (zan (show tg.length<=1048576 by omega)),hT,za9 (show x.Text.length<=1048576 by omega),g1]
   unfold zpn
   cases(getT a x.Path).2<;>cases toB (ofA a b) x.Path<;>rfl
  ·cases zpn a b x with
   |true=>simp;omega
   |false=>simp;omega) (fun m s _=>by simp only[zaT,zac,aC])).1
 refine e2.trans ?_
 rw[zl3 ha hb ta tb]
 rfl
end
theorem zrS: ∀ {l:List Hunk} {lo:Int} {i:Nat} {p d:Hunk},ChH lo l->l[i]? =some p->l[i+1]? =some d->p.At+p.Less.length+1<=d.At
 | [],_,_,_,_,_,hp,_=>by simp at hp
 |q::l,lo,0,p,d,⟨_,h2⟩,hp,hd=>by
  simp only[List.getElem?_cons_zero,Option.some.injEq]at hp
  rw[hp]at h2
  cases l with
  |nil=>simp at hd
  |cons e l=>
   simp only[Nat.zero_add,List.getElem?_cons_succ,List.getElem?_cons_zero,Option.some.injEq]at hd
   rw[<- hd]
   exact h2.1
 |q::l,lo,i+1,p,d,⟨_,h2⟩,hp,hd=>zrS h2 (by simpa using hp) (by simpa using hd)
theorem zq9 {l:List Hunk}(h8:l.length<=8)(hc:ChH 0 l)(hb: ∀ d∈l,zq1 10 d):zk1 l=some true:=by
 unfold zk1
 simp only[jn,zak]
 rw[zbe (n:=l.length) (g:=fun _=>true) (r0:=some false) (Z:=some (decide ((l.length:Int)<=8))) (f:=fun m i=>zfi l (fun _ _=>some (decide ((l.length:Int)<=8))) m false i) (fun m i hi=>by
  have hx:l[i]? =some l[i]:=aB hi
  obtain⟨b1,b2,b3,b4,b5⟩:=hb _ (List.getElem_mem hi)
  have l1:=zam b1
  have l2:=zam b2
  have e1:(w64 ((l[i].Less.length:Int)+(l[i].More.length:Int))==0)=false:=by
   rw[zag (by omega) (by omega),beq_eq_false_iff_ne]
   omega
  simp only[zfi,jn,zaj hx,zad hx,aD,aA,zab hi (show l.length<=maxi by unfold maxi;omega),zhA (zce (show l[i].Less.length<=1000000 by omega) (zaR b1)),zhA (zce (show l[i].More.length<=1000000 by omega) (zaR b2)),b1,b2,zeC,aK,aC,e1,aF b4,aF (show l[i].At<=10 by exact b5),Bool.and_self]
  by_cases h0:(0:Int)< (i:Int)
  ·have hy:l[i-1]? =some l[i-1]:=aB (by omega)
   obtain⟨d1,d2,d3,d4,d5⟩:=hb _ (List.getElem_mem (show i-1<l.length by omega))
   have l3:=zam d1
   have hch:=zrS hc hy (by rw[show i-1+1=i by omega];exact hx)
   have hat:l[i-1].At<=10:=d5
   rw[aF h0,aD,zlS hi (show l.length<=maxi by unfold maxi;omega) h0,zad hy,aA,aA,zag (by omega) (by omega),aE (by omega)]
   rfl
  ·rw[aE h0];rfl) (fun m=>by simp only[zfi,zac,aC]) _ (by omega),zaJ.2 (fun _ _ _=>rfl),aD,aF (by omega)]
theorem zra {c:Change}(h:VC c):zjB c=some true:=by
 obtain⟨hp,h⟩:=h
 have pl:=zcc hp
 unfold zjB
 simp only[jn,zdG (show c.Path.length<=1048576 by omega),hp,aA,aD]
 rcases h with ⟨k,t,x,p0,p7,pc,pb⟩ |⟨k,t,tn,x,p⟩ |⟨k,t,x,p⟩
 ·have pn:0<c.Patch.length:=by
   cases hq:c.Patch with
   |nil=>exact absurd hq p0
   |cons a l=>simp
  rw[k,t,x,zq9 (by omega) pc pb]
  simp only[List.length_nil,aF (show(0:Int)< (c.Patch.length:Int) by omega)]
  rfl
 ·have tl:=zcc t
  have hne:(c.To !=c.Path)=true:=by rw[bne_iff_ne];exact tn
  rw[k,x,p,zdG (show c.To.length<=1048576 by omega),t,hne]
  rfl
 ·have xl:=zam x
  rw[t,p,zhA (zce (show c.Text.length<=1000000 by omega) (zaR x)),x]
  rcases k with k |k<;>rw[k]<;>rfl
theorem zpK {l:List Change}{p:Str}(hl:l.length<=maxi)(h: ∀ c∈l,c.Path≠p/\c.To≠p):zhR l p=some true:=by
 unfold zhR
 simp only[jn,zak]
 rw[zbe (n:=l.length) (g:=fun _=>true) (r0:=some false) (Z:=some true) (f:=fun m i=>zdQ l p (fun _ _=>some true) m false i) (fun m i hi=>by
  have hx:l[i]? =some l[i]:=aB hi
  obtain⟨h1,h2⟩:=h _ (List.getElem_mem hi)
  simp only[zdQ,jn,zaj hx,zad hx,aD,aA,zab hi hl,beq_false_of_ne h1,beq_false_of_ne h2,aC]) (fun m=>by simp only[zdQ,zac,aC]) _ (by omega),zaJ.2 (fun _ _ _=>rfl),aD]
theorem zrb {l:List Change}(hl:l.length<=16)(hv: ∀ c∈l,VC c)(hp:l.Pairwise RC):zk2 l=some true:=by
 unfold zk2
 simp only[jn,zak]
 have hpw:=List.pairwise_iff_getElem.1 hp
 rw[zbe (n:=l.length) (g:=fun _=>true) (r0:=some false) (Z:=some (decide ((l.length:Int)<=16))) (f:=fun m i=>zfj l (fun _ _=>some (decide ((l.length:Int)<=16))) m false i) (fun m i hi=>by
  have hx:l[i]? =some l[i]:=aB hi
  have hr: ∀ c∈l.take i,RC c l[i]:=fun c hc=>by
   obtain⟨j,hj,e⟩:=List.mem_iff_getElem.1 hc
   rw[List.length_take]at hj
   rw[List.getElem_take]at e
   rw[<- e]
   exact hpw j i (by omega) hi (by omega)
  have hlt:(l.take i).length<=maxi:=by rw[List.length_take];unfold maxi;omega
  have f1:=zpK (p:=l[i].Path) hlt fun c hc=>⟨(hr c hc).1,(hr c hc).2.1⟩
  simp only[zfj,jn,zaj hx,zad hx,aD,aA,zab hi (show l.length<=maxi by unfold maxi;omega),zra (hv _ (List.getElem_mem hi)),zfU (show i<=l.length by omega),f1,aK,aC]
  cases ht:l[i].To !=[]with
  |false=>rfl
  |true=>
   have ht':l[i].To≠ []:=by simpa using ht
   have f2:=zpK (p:=l[i].To) hlt fun c hc=>(hr c hc).2.2 ht'
   rw[aD,f2]
   rfl) (fun m=>by simp only[zfj,zac,aC]) _ (by omega),zaJ.2 (fun _ _ _=>rfl),aD,aF (by omega)]
theorem zpL {l:List Change}(hl:l.length<=16)(hv: ∀ c∈l,VC c)(hp:l.Pairwise RC):zck l=some (pathsC l):=by
 unfold zck
 rw[zrb hl hv hp,aA,aK,aC]
 simp only[jn,zak]
 have:=(zaI (xs:=l) (g:=zoe) (I:=fun i s=>Asd s/\s.length<=2*i) (Z:=fun s=>some s) (f:=fun m s i=>zbv l (fun b _=>some b) m s i) (s:=[]) ⟨.nil,by simp⟩ (fun m i x s hx ⟨h1,h2⟩=>by
  have hi:=zas hx
  have g1:=zdf s x.Path
  have g2:=zdf (zfZ s x.Path) x.To
  refine⟨?_,zqa h1 x,?_⟩
  ·simp only[zbv,jn,zaj hx,zad hx,aD,aA,zab hi (show l.length<=maxi by unfold maxi;omega),ziF (show s.length<=1000000 by omega) h1,ziF (show(zfZ s x.Path).length<=1000000 by omega) (zcR s x.Path)]
   unfold zoe
   cases x.To !=[]<;>rfl
  ·unfold zoe
   cases x.To !=[]<;>simp only[aD,aC]<;>omega) (fun m s _=>by simp only[zbv,zac,aC])).1
 exact this
def zkZ (c:Change):List Str:=bif c.Kind==4 then [c.Path,c.To] else [c.Path]
theorem zm2 {α β:Type}(f:α->List β): ∀ (l:List α) (s:List β),l.foldl (fun s c=>s++f c) s=s++l.flatMap f
 | [],s=>by simp
 |c::l,s=>by rw[List.foldl_cons,zm2 f l,List.flatMap_cons,List.append_assoc]
theorem zm3 (c:Change):(zkZ c).length<=2:=by unfold zkZ;cases c.Kind==4<;>simp
theorem zpM {l:List Change}(hl:l.length<=16)(hv: ∀ c∈l,VC c): ∃ ps,zhi l=some ps/\ps.length<=40 /\ ∀ x,x∈ps↔x∈pathsC l:=by
 have hlen: ∀ l:List Change,(l.flatMap zkZ).length<=2*l.length:=by
  intro l
  induction l with
  |nil=>simp
  |cons c l ih=>
   have:=zm3 c
   rw[List.flatMap_cons,List.length_append,aL]
   omega
 have h1:=hlen l
 have h2:(zci (l.flatMap zkZ)).length=(l.flatMap zkZ).length:=List.length_mergeSort _
 refine⟨zci (l.flatMap zkZ),?_,by omega,fun x=>?_⟩
 ·unfold zhi
  simp only[jn,zak]
  have:=(zaI (xs:=l) (g:=fun s c=>s++zkZ c) (I:=fun i s=>s.length<=2*i) (Z:=fun s=>(zaB s).bind fun b=>some b) (f:=fun m s i=>zdt l (fun a _=>(zaB a).bind fun b=>some b) m s i) (s:=[]) (by simp) (fun m i x s hx h2=>by
   have hi:=zas hx
   have g1:=zm3 x
   refine⟨?_,by rw[List.length_append];omega⟩
   simp only[zdt,jn,zaj hx,zad hx,aD,aA,zab hi (show l.length<=maxi by unfold maxi;omega),ap1 (x:=x.Path) (show s.length<=1048576 by omega),ap1 (x:=x.To) (show(s++[x.Path]).length<=1048576 by simp;omega)]
   unfold zkZ
   cases x.Kind==4<;>simp only[aD,aC,List.append_assoc,List.singleton_append]) (fun m s _=>by simp only[zdt,zac,aC])).1
  refine this.trans ?_
  rw[zm2,List.nil_append]
  unfold zaB
  rw[if_pos (by omega),aA]
 ·rw[zk4,zkx,List.mem_flatMap]
  constructor
  ·rintro⟨c,hc,hx⟩
   obtain⟨_,hk⟩:=hv c hc
   refine⟨c,hc,?_⟩
   unfold zkZ at hx
   cases hq:c.Kind==4 with
   |false=>
    rw[hq,aC,List.mem_singleton]at hx
    exact .inl hx
   |true=>
    have h4:c.Kind=4:=by simpa using hq
    rw[hq,aD,List.mem_cons,List.mem_singleton]at hx
    rcases hx with hx |hx
    ·exact .inl hx
    ·rcases hk with ⟨k,_⟩ |⟨_,t,_⟩ |⟨k,_⟩
     ·omega
     ·exact .inr ⟨ziw t,hx⟩
     ·omega
  ·rintro⟨c,hc,hx⟩
   obtain⟨_,hk⟩:=hv c hc
   refine⟨c,hc,?_⟩
   unfold zkZ
   rcases hx with hx |⟨h0,hx⟩
   ·cases c.Kind==4<;>simp[hx]
   ·rcases hk with ⟨_,t,_⟩ |⟨k,_⟩ |⟨_,t,_⟩
    ·exact absurd t h0
    ·rw[k];simp[hx]
    ·exact absurd t h0
theorem zsy {xs:List Owner}{path:Str}(hb:OB xs)(hp:path.length<=1048576):zix xs path=some (ziZ xs path):=by
 unfold zix
 simp only[jn,zak]
 exact zrT hb hp (K:=fun y1 _ _=>some y1) xs.length 0 (xs.length+1) (0,[]) (by omega) (by omega)
section
variable {owners:List Owner}{v:Review}(hb:OB owners)(hv:v.Yes.length<=1000)
include hb hv
theorem zoF {ps:List Str}(hps:ps.length<=1000)(hpp: ∀ p∈ps,zaL p=true):zb7 owners v ps (fun b _=>some b) (ps.length+1) [] 0=some (zl1 (ziZ owners) v ps):=by
 have:=(zaI (xs:=ps) (g:=zg7 (ziZ owners) v) (I:=fun i s=>Asd s/\s.length<=i) (Z:=fun s=>some s) (f:=fun m s i=>zb7 owners v ps (fun b _=>some b) m s i) (s:=[]) ⟨.nil,by simp⟩ (fun m i x s hx ⟨h1,h2⟩=>by
  have hi:=zas hx
  have hl:=zcc (hpp x (aH hx))
  have g1:=zdf s (ziZ owners x)
  have inner: ∀ (Z:Bool->Int->Option (List Str)) (hZ: ∀ q z z',Z q z=Z q z') (j:Bool),zbL v (ziZ owners x) Z (v.Yes.length+1) j 0=Z (j||v.Yes.any fun y=>y==ziZ owners x) 0:=fun Z hZ j=>by
   have:=(zaI (xs:=v.Yes) (g:=fun d y=>d||(y==ziZ owners x)) (I:=fun _ _=>True) (Z:=fun s=>Z s 0) (f:=fun m s i'=>zbL v (ziZ owners x) Z m s i') (s:=j) trivial (fun m k y s hy _=>by
    refine⟨?_,trivial⟩
    simp only[zbL,zaj hy,zad hy,aD,aA,zab (zas hy) (show v.Yes.length<=maxi by unfold maxi;omega)]
    cases s<;>rfl) (fun m s _=>by simp only[zbL,zac,aC];exact hZ _ _ _)).1
   rw[this,zl6]
  refine⟨?_,?_,?_⟩
  ·simp only[zb7,jn,zaj hx,zad hx,aD,aA,zab hi (show ps.length<=maxi by unfold maxi;omega),zsy hb (show x.length<=1048576 by omega),zak,ziF (show s.length<=1000000 by omega) h1]
   rw[inner _ (fun q z z'=>rfl),inner _ (fun q z z'=>rfl)]
   unfold zg7 zjg
   cases ziZ owners x==[]<;>cases ziZ owners x==v.By<;>cases(v.Yes.any fun y=>y==ziZ owners x)<;>rfl
  ·unfold zg7
   cases zjg v (ziZ owners x)with
   |true=>exact h1
   |false=>exact zcR _ _
  ·unfold zg7
   cases zjg v (ziZ owners x)<;>simp only[aD,aC]<;>omega) (fun m s _=>by simp only[zb7,zac,aC])).1
 exact this
theorem zoG (ho:zb1 owners=true){ps:List Str}(hps:ps.length<=1000)(hpp: ∀ p∈ps,zaL p=true):zbm owners v ps (fun b _=>some (b,true)) (ps.length+1) [] 0=some (zl1 (ziZ owners) v ps,true):=by
 have:=(zaI (xs:=ps) (g:=zg7 (ziZ owners) v) (I:=fun i s=>s.length<=i) (Z:=fun s=>some (s,true)) (f:=fun m s i=>zbm owners v ps (fun b _=>some (b,true)) m s i) (s:=[]) (by simp) (fun m i x s hx h2=>by
  have hi:=zas hx
  have hxp:=hpp x (aH hx)
  have hl:=zcc hxp
  have g1:=zdf s (ziZ owners x)
  have eo:zoo owners x=ziZ owners x:=by unfold zoo;rw[ho,hxp];rfl
  refine⟨?_,?_⟩
  ·simp only[zbm,jn,zaj hx,zad hx,aD,aA,zab hi (show ps.length<=maxi by unfold maxi;omega),znX hb (show x.length<=1048576 by omega),eo,zgt (show v.Yes.length<=maxi by unfold maxi;omega),zoH (show s.length<=1000000 by omega)]
   unfold zg7 zjg bne
   cases ziZ owners x==[]<;>cases ziZ owners x==v.By<;>cases(v.Yes.any fun y=>y==ziZ owners x)<;>rfl
  ·unfold zg7
   cases zjg v (ziZ owners x)<;>simp only[aD,aC]<;>omega) (fun m s _=>by simp only[zbm,zac,aC])).1
 exact this
end
def zpp (r:Repo)(owners:List Owner)(v:Review):Bool:=zae r&&(zb1 owners&&(zom v&&(!decide (atB r v.Branch<0) && !decide (atB r v.Into<0))))
def chsB (r:Repo)(v:Review):List Change:=ofB (zfr r (atB r v.Into) (atB r v.Branch)) (zap r (atB r v.Branch).toNat)
def zh3 (r:Repo)(owners:List Owner)(v:Review):List Str×Bool:=bif zpp r owners v then(zl1 (ziZ owners) v (pathsC (chsB r v)),true) else([],false)
theorem zg1 {r:Repo}{owners:List Owner}{v:Review}(h:zpp r owners v=true):zae r=true/\zb1 owners=true/\zom v=true/\upB r.Commits.length (atB r v.Branch)=true/\upB r.Commits.length (atB r v.Into)=true:=by
 unfold zpp at h
 simp only[aG,Bool.not_eq_true',decide_eq_false_iff_not]at h
 obtain⟨h1,h2,h3,h4,h5⟩:=h
 have a1:=at_range h1 v.Branch
 have a2:=at_range h1 v.Into
 exact⟨h1,h2,h3,zax.2 (by omega),zax.2 (by omega)⟩
section
variable {r:Repo}(h:RpB r){owners:List Owner}(hb:OB owners){v:Review}(hv:Bk.fit v)
include h hb hv
theorem zjz:zep r owners v=some (zh3 r owners v):=by
 unfold zep zh3
 simp only[jn,zdJ h,zm5 hb,zrc hv,zdC h,aA]
 cases hc:zpp r owners v with
 |false=>
  rw[aC]
  unfold zpp at hc
  revert hc
  cases zae r<;>cases zb1 owners<;>cases zom v<;>cases decide (atB r v.Branch<0)<;>cases decide (atB r v.Into<0)<;>intro hc<;>first |rfl |cases hc
 |true=>
  obtain⟨c1,c2,c3,c4,c5⟩:=zg1 hc
  obtain⟨q0,q1⟩:=zax.1 c4
  obtain⟨i0,i1⟩:=zax.1 c5
  have hs:=(zah c1).1
  have hg:=zm9 h c1
  obtain⟨e1,e2,e3⟩:=zfW hg i0 i1 q0 q1
  obtain⟨tb,tb2,_,_⟩:=hg.tree (i:=(atB r v.Branch).toNat) (by omega)
  obtain⟨f1,f2,f3⟩:=ziY e3 tb2
  have hy:=zl4 c3
  have hpl:=zkY (ofB (zfr r (atB r v.Into) (atB r v.Branch)) (zap r (atB r v.Branch).toNat)) []
  have sof:zi1 (zfr r (atB r v.Into) (atB r v.Branch)) (r.Commits.getD (atB r v.Branch).toNat noCommit).Tree=some (chsB r v):=zuy e2 tb e3 tb2
  rw[c1,c2,c3,aE (show ¬ atB r v.Branch<0 by omega),aE (show ¬ atB r v.Into<0 by omega)]
  simp only[aK,aC,aD]
  unfold zkn zjj
  simp only[jn,zdC h,aA,zcA q0 q1,e1,sof,zak]
  rw[show zck (chsB r v)=some (pathsC (chsB r v)) from zpL f1 f2 f3]
  simp only[aA,zak]
  rw[zoF hb (show v.Yes.length<=1000 by omega) (ps:=pathsC (chsB r v)) (by unfold chsB;show(List.foldl zoe [] _).length<=_;simp only[List.length_nil]at hpl;omega) (fun p hp=>zmX e3 tb2 hp),aA]
theorem zhg:zb8 r owners v=some (zh3 r owners v):=by
 unfold zb8 zh3
 simp only[jn,zjr h,zki hb,znW hv,zrd h,aA]
 cases hc:zpp r owners v with
 |false=>
  rw[aC]
  unfold zpp at hc
  revert hc
  cases zae r<;>cases zb1 owners<;>cases zom v<;>cases decide (atB r v.Branch<0)<;>cases decide (atB r v.Into<0)<;>intro hc<;>first |rfl |cases hc
 |true=>
  obtain⟨c1,c2,c3,c4,c5⟩:=zg1 hc
  obtain⟨q0,q1⟩:=zax.1 c4
  obtain⟨i0,i1⟩:=zax.1 c5
  have hs:=(zah c1).1
  have hg:=zm9 h c1
  obtain⟨e1,e2,e3⟩:=zfW hg i0 i1 q0 q1
  obtain⟨tb,tb2,_,_⟩:=hg.tree (i:=(atB r v.Branch).toNat) (by omega)
  obtain⟨f1,f2,f3⟩:=ziY e3 tb2
  have hy:=zl4 c3
  obtain⟨ps,p1,p2,p3⟩:=zpM f1 f2
  rw[c1,c2,c3,aE (show ¬ atB r v.Branch<0 by omega),aE (show ¬ atB r v.Into<0 by omega)]
  simp only[aK,aC,aD]
  rw[zli h c1 c4 c5,aA,zky h c4,aA,znr,zuz e2 tb e3 tb2,aA,p1,aA]
  simp only[zak]
  rw[zoG hb (show v.Yes.length<=1000 by omega) c2 (by omega) (fun p hp=>zmX e3 tb2 ((p3 p).1 hp)),zpJ (qs:=pathsC (chsB r v)) p3]
end
theorem zm4 {v:Review}(h:zom v=true):zaF v.Branch=true/\zaF v.Into=true/\zaF v.By=true:=by
 unfold zom ztm at h
 simp only[aG]at h
 exact⟨h.2.1,h.2.2.1,h.2.2.2.1⟩
theorem zol {r:Repo}{owners:List Owner}{v:Review}(h:(zh3 r owners v).2=true):zpp r owners v=true:=by
 unfold zh3 at h
 cases hc:zpp r owners v with
 |true=>rfl
 |false=>rw[hc]at h;cases h
section
variable {r:Repo}(h:RpB r){owners:List Owner}(hb:OB owners){v:Review}(hv:Bk.fit v)
include h hb hv
end
def znc:List Str->List Str->Nat
 |a::l,b::m=>bif a==b then znc l m+1 else 0
 |_,_=>0
def zwx (t:List Str):List Str->Nat->Nat×Nat->Nat×Nat
 | [],_,r=>r
 |b::bs,i,r=>zwx t bs (i+1) (bif decide (r.2<znc (b::bs) t) then(i,znc (b::bs) t) else r)
def zqn (base t:List Str):Nat×Nat:=zwx t base 0 (0,0)
def zqK (out:List Delta)(x:Str):List Delta:=match out.getLast? with
 |some d=>bif decide (0<d.Lines.length) then out.dropLast++[⟨d.From,d.Many,d.Lines++[x]⟩] else out++[⟨0,0,[x]⟩]
 |none=>out++[⟨0,0,[x]⟩]
def zjT (base:List Str):Nat->List Delta->List Str->List Delta
 |0,out,_=>out
 |_+1,out,[]=>out
 |n+1,out,x::t=>bif decide (0< (zqn base (x::t)).2) then zjT base n (out++[⟨(zqn base (x::t)).1,(zqn base (x::t)).2,[]⟩]) ((x::t).drop (zqn base (x::t)).2) else zjT base n (zqK out x) t
def zmK (base t:List Str):List Delta:=zjT base t.length [] t
theorem who_fold (p:Str): ∀ (xs:List Owner) (b:Nat×Str),(xs.foldl (ownStep p) b).2=b.2 \/ ∃ o∈xs,(xs.foldl (ownStep p) b).2=o.Who
 | [],b=> .inl rfl
 |x::xs,b=>by
  rw[List.foldl_cons]
  rcases who_fold p xs (ownStep p b x)with h |⟨o,ho,h⟩
  ·rw[h]
   unfold ownStep
   cases(x.Path==p||za6 x.Path p)&&decide (b.1<x.Path.length)with
   |true=>exact .inr ⟨x,by simp,rfl⟩
   |false=>exact .inl rfl
  ·exact .inr ⟨o,by simp[ho],h⟩
theorem who_mem (xs:List Owner)(p:Str):ziZ xs p=[] \/ ∃ o∈xs,ziZ xs p=o.Who:=who_fold p xs (0,[])
theorem zqd {r:Repo}(h:RpB r){owners:List Owner}{v:Review}:(zh3 r owners v).1.length<=40:=by
 unfold zh3
 cases hc:zpp r owners v with
 |false=>simp
 |true=>
  obtain⟨c1,c2,c3,c4,c5⟩:=zg1 hc
  obtain⟨q0,q1⟩:=zax.1 c4
  obtain⟨i0,i1⟩:=zax.1 c5
  have hg:=zm9 h c1
  obtain⟨_,e2,e3⟩:=zfW hg i0 i1 q0 q1
  obtain⟨tb,tb2,_,_⟩:=hg.tree (i:=(atB r v.Branch).toNat) (by omega)
  obtain⟨f1,_,_⟩:=ziY e3 tb2
  have h4:(chsB r v).length<=16:=f1
  generalize chsB r v=cs at h4 ⊢
  have h1:(pathsC cs).length<=([]:List Str).length+2*cs.length:=zkY cs []
  generalize pathsC cs=ps at h1 ⊢
  have h2:(zl1 (ziZ owners) v ps).length<=([]:List Str).length+ps.length:=zpY ps []
  rw[aD]
  show(zl1 (ziZ owners) v ps).length<=40
  simp only[List.length_nil]at h1 h2
  omega
theorem zrx (x:Review):(⟨x.Branch,x.Into,x.By,x.Yes⟩:Review)=x:=rfl
def OD (n:Nat)(l:List Owner):Prop:=l.length<=n /\ ∀ o∈l,o.Path.length<=10/\o.Who.length<=10
theorem OD.ob {n:Nat}{l:List Owner}(h:OD n l)(hn:n<=1000):OB l:=⟨by have:=h.1;omega,fun o ho=>by have:=h.2 o ho;omega⟩
theorem OD.fit {n:Nat}{l:List Owner}(h:OD n l)(hn:n<=1000):Bk.fit l:=⟨by have:=h.1;unfold maxi;omega,fun o ho=>by
 have:=h.2 o ho
 exact⟨by show o.Path.length<=maxi;unfold maxi;omega,by show o.Who.length<=maxi;unfold maxi;omega⟩⟩
abbrev ownP:List Str:=[([97]:Str),([98]:Str),([100]:Str),([100,47,101]:Str),([103]:Str)]
abbrev ownN:List Str:=[([97,110,110]:Str),([98,111,98]:Str),([99,105,100]:Str)]
theorem zn1 {x0:l30Rd}{K:List Owner->Int->Int->Option (List Owner×Int)}: ∀ (n i m:Nat) (q p:Int) (l:List Owner),i+n=5->n<m->zeg ⟨x0.b,q⟩ p->p+2*n<=1000000->OD i l->
 ∃ l' q',zdY x0 K m l (i:Int) q=K l' 5 q'/\OD 5 l'/\zeg ⟨x0.b,q'⟩ (p+2*n)
 |n,i,0,_,_,_,_,hm,_,_,_=>by omega
 |0,i,m+1,q,p,l,hi,_,hr,hp,hl=>by
  obtain rfl:i=5:=by omega
  refine⟨l,q,?_,hl,by simpa using hr⟩
  simp only[zdY]
  rfl
 |n+1,i,m+1,q,p,l,hi,hm,hr,hp,hl=>by
  have hlt:i<ownP.length:=by show i<5;omega
  have hx:ownP[i]? =some ownP[i]:=aB hlt
  have hpl:ownP[i].length<=10:=by
   have: ∀ s∈ownP,s.length<=10:=by decide
   exact this _ (List.getElem_mem hlt)
  obtain⟨k,hk,k0,k1⟩:=zd7 (n:=2) hr (by omega) (by omega) (by omega)
  have hk':zav ⟨x0.b,q⟩ 2=some (k,q+1):=hk
  have r1:zeg ⟨x0.b,q+1⟩ (p+1):=zhu hr (by omega) (by omega)
  have hw:w64 ((i:Int)+1)=((i+1:Nat):Int):=zab hlt (by show 5<=maxi;unfold maxi;omega)
  have hd:decide ((i:Int)< ((ownP.length:Int):Int))=true:=zaj hx
  simp only[zdY,jn]
  rw[show decide ((i:Int)< (([([97]:Str),([98]:Str),([100]:Str),([100,47,101]:Str),([103]:Str)]:List Str).length:Int))=true from hd,aD,hk',aA,hw]
  cases hk0:(k==(0:Int))with
  |false=>
   simp only[hk0,aC]
   obtain⟨l',q',e,h1,h2⟩:=zn1 n (i+1) m (q+1) (p+1) l (by omega) (by omega) r1 (by omega) ⟨by have:=hl.1;omega,hl.2⟩
   exact⟨l',q',e,h1,h2.1,h2.2.1,by have:=h2.2.2;simp only at this ⊢;omega⟩
  |true=>
   simp only[hk0,aD]
   obtain⟨s,hs,ms⟩:=zmL r1 (by omega) (l:=ownN) (by decide) (by decide)
   have hs':zbt ⟨x0.b,q+1⟩ ownN=some (s,q+1+1):=hs
   have hsl:s.length<=10:=by
    have: ∀ s∈ownN,s.length<=10:=by decide
    exact this _ ms
   have r2:zeg ⟨x0.b,q+1+1⟩ (p+2):=zhu r1 (by omega) (by omega)
   have hll:=hl.1
   obtain⟨l',q',e,h1,h2⟩:=zn1 n (i+1) m (q+1+1) (p+2) (l++[⟨ownP[i],s⟩]) (by omega) (by omega) r2 (by omega) ⟨by simp;omega,fun o ho=>by
    rcases List.mem_append.1 ho with h3 |h3
    ·exact hl.2 o h3
    ·rw[List.mem_singleton.1 h3];exact⟨hpl,hsl⟩⟩
   refine⟨l',q',?_,h1,?_⟩
   ·have hg:gi ([([97]:Str),([98]:Str),([100]:Str),([100,47,101]:Str),([103]:Str)]:List Str) (i:Int)=some ownP[i]:=zad hx
    rw[hg,aA]
    refine(congrArg (fun o=>Option.bind o _) hs').trans ?_
    rw[aA,ap1 (by omega),aA]
    exact e
   ·have e3:p+2+2*(n:Int)=p+2*((n+1:Nat):Int):=by omega
    rw[<- e3];exact h2
theorem zsH {r:l30Rd}{p:Int}(h:zeg r p)(hp:p<=100000): ∃ l q,zho r=some (l,q)/\OD 5 l/\zeg ⟨r.b,q⟩ (p+11):=by
 unfold zho
 simp only[jn]
 have hf:((([([97]:Str),([98]:Str),([100]:Str),([100,47,101]:Str),([103]:Str)]:List Str).length:Int)-0).toNat+1=6:=rfl
 rw[hf]
 refine Exists.elim (zn1 (x0:=r) (K:=fun a n c=>bif decide ((0:Int)< (a.length:Int)) then((zav (l30Rd.mk r.b c) 14).bind fun g=>bif(g.1==0) then((gi a 0).bind fun k=>(siM a 0 (Owner.mk k.Path ([]:Str))).bind fun l=>some (l,g.2)) else some (a,g.2)) else(bif false then((gi a 0).bind fun k=>(siM a 0 (Owner.mk k.Path ([]:Str))).bind fun l=>some (l,c)) else some (a,c))) 5 0 6 r.p p [] (by omega) (by omega) (by simpa using h) (by omega) ⟨by simp,by simp⟩) fun l hl=>?_
 obtain⟨q,e,h1,h2⟩:=hl
 refine Exists.elim (?_: ∃ x:List Owner×Int,_) fun x hx=>⟨x.1,x.2,hx⟩
 have h2':zeg ⟨r.b,q⟩ (p+10):=by simpa using h2
 cases l with
 |nil=>exact⟨([],q),e,⟨by simp,by simp⟩,h2'.1,h2'.2.1,by have:=h2'.2.2;simp only at this ⊢;omega⟩
 |cons o l=>
  obtain⟨k,hk,k0,k1⟩:=zd7 (n:=14) h2' (by omega) (by omega) (by omega)
  have hk':zav ⟨r.b,q⟩ 14=some (k,q+1):=hk
  have r1:zeg ⟨r.b,q+1⟩ (p+11):=zhu h2' (by omega) (by omega)
  have e':=e.trans (by rw[aF (by simp only[aL];omega),aD,hk',aA])
  cases hk0:(k==(0:Int))with
  |false=>
   rw[hk0,aC]at e'
   exact⟨(o::l,q+1),e',h1,r1⟩
  |true=>
   rw[hk0,aD]at e'
   have g0:gi (o::l) 0=some o:=zad (i:=0) rfl
   have s0:siM (o::l) 0 (⟨o.Path,[]⟩:Owner)=some ((o::l).set 0 ⟨o.Path,[]⟩):=zbs (i:=0) (by simp) _
   rw[g0,aA,s0,aA]at e'
   refine⟨(_,q+1),e',⟨by simpa using h1.1,fun x hx=>?_⟩,r1⟩
   have hx':x∈(⟨o.Path,[]⟩:Owner)::l:=hx
   rcases List.mem_cons.1 hx' with rfl |hx
   ·exact⟨(h1.2 o (by simp)).1,by simp⟩
   ·exact h1.2 x (by simp[hx])
theorem zmu {code:List Byte}(h:code.length<=1048576): ∃ x l v,zet code=some (x,l,v)/\Drawn x/\OD 5 l/\RB 4 v:=by
 unfold zet
 obtain⟨b,e,hr⟩:=zwy h
 obtain⟨x,q,e2,hx,r2⟩:=zno hr (by omega)
 obtain⟨l,q2,e3,hl,r3⟩:=zsH r2 (by omega)
 obtain⟨v,q3,e4,hv,_⟩:=zsK r3 (by omega)
 simp only at e3 e4
 simp only[e,aA,e2,e3,e4]
 exact⟨x,l,v,rfl,hx,hl,hv⟩
def mineL (by_:Str)(l:List Owner):List Owner:=l.map fun o=>⟨o.Path,by_⟩
theorem zsI {by_:Str}{l:List Owner}{i:Nat}(hi:i<l.length):(mineL by_ l).getD i zg8=⟨(l.getD i zg8).Path,by_⟩:=by
 have hx:l[i]? =some l[i]:=aB hi
 rw[zjP hx,zjP (x:=⟨l[i].Path,by_⟩) (by unfold mineL;rw[List.getElem?_map,hx];rfl)]
theorem zvx {by_:Str}{l:List Owner}(h:zb1 l=true)(hb:zaF by_=true):zb1 (mineL by_ l)=true:=by
 unfold zb1 at*
 simp only[aG]at*
 refine⟨by simpa[mineL]using h.1,zaJ.2 fun i h0 hi=>?_⟩
 have hil:i<l.length:=by simpa[mineL]using hi
 have:=zaJ.1 h.2 i h0 (by omega)
 unfold zrp at this ⊢
 rw[zsI hil,zsI (show i-1<l.length by omega)]
 simp only[aG]at this ⊢
 exact⟨this.1,hb,this.2.2⟩
theorem ztZ (by_:Str)(l:List Owner)(p:Str):ziZ (mineL by_ l) p=[]\/ziZ (mineL by_ l) p=by_:=by
 rcases who_mem (mineL by_ l) p with h |⟨o,ho,h⟩
 ·exact .inl h
 ·obtain⟨z,_,rfl⟩:=List.mem_map.1 ho
  exact .inr h
theorem zpZ {code:List Byte}(h:Bk.fit code):zgb code=some true:=by
 unfold zgb
 by_cases hc:(1048576:Int)< (code.length:Int)
 ·rw[aF hc];rfl
 obtain⟨x,l,v,e,hx,hl,hv⟩:=zmu (code:=code) (by omega)
 have hb:=hx.rb
 have ob:=hl.ob (by omega)
 have hvf:=hv.fit (by omega)
 have hs:=zqd hb (owners:=l) (v:=v)
 have hll:=hl.1
 rw[aE hc,aC,e,aA]
 simp only[zp9,zrx,zhg hb ob hvf,zjz hb ob hvf,aA,jn,bne_self_eq_false,aO,aC,aD,zrE (show(zh3 x l v).1.length<=maxi by unfold maxi;omega),aK]
 cases hn:(zh3 x l v).2 with
 |false=>rfl
 |true=>
  simp only[aK,aC,zak]
  have hcn:=zol hn
  obtain⟨c1,c2,c3,c4,c5⟩:=zg1 hcn
  obtain⟨n1,n2,n3⟩:=zm4 c3
  have l3:=zbk n3
  have obm:OB (mineL v.By l):=⟨by simp[mineL];omega,fun o ho=>by
   obtain⟨z,hz,rfl⟩:=List.mem_map.1 ho
   have:=hl.2 z hz
   exact⟨by show z.Path.length<=_;omega,by show v.By.length<=_;omega⟩⟩
  have hcm:zpp x (mineL v.By l) v=true:=by
   unfold zpp at hcn ⊢
   rw[zvx c2 n3]
   rw[c2]at hcn
   exact hcn
  have hnm:zh3 x (mineL v.By l) v=([],true):=by
   unfold zh3
   rw[hcm,aD,zsG (ztZ v.By l)]
  have:=(zaI (xs:=l) (g:=fun s o=>s++[(⟨o.Path,v.By⟩:Owner)]) (I:=fun i s=>s.length<=i) (Z:=fun s=>(zb8 x s v).bind fun f=>bif f.2 then some ((f.1.length:Int)==0) else some false) (f:=fun m s i=>zcP (x,l,v) (fun s _=>(zb8 x s v).bind fun f=>bif f.2 then some ((f.1.length:Int)==0) else some false) m s i) (s:=[]) (by simp) (fun m i o s ho hI=>by
   have hi:=zas ho
   refine⟨?_,by simp;omega⟩
   simp only[zcP,zaj ho,zad ho,aD,aA,ap1 (x:=(⟨o.Path,v.By⟩:Owner)) (show s.length<=1048576 by omega),zab hi (show l.length<=maxi by unfold maxi;omega)]) (fun m s _=>by simp only[zcP,zac,aC])).1
  refine this.trans ?_
  have em: ∀ (l s:List Owner),l.foldl (fun s o=>s++[(⟨o.Path,v.By⟩:Owner)]) s=s++mineL v.By l:=by
   intro l
   induction l with
   |nil=>intro s;simp[mineL]
   |cons o l ih=>intro s;rw[List.foldl_cons,ih];simp[mineL]
  rw[em,List.nil_append,zhg hb obm hvf,aA,hnm]
  rfl
section
variable {base t:List Str}(hb:zau base=true)(ht:zau t=true)
include hb ht
end
def zvo (list:List (List Str))(ds:List Int)(i:Nat)(t:List Str)(b dep:Int)(d:List Delta):Prop:=(b = -1/\d=zmK [] t/\dep=1) \/ ∃ k o dk,k<i/\b=(k:Int)/\list[k]? =some o/\ds[k]? =some dk/\d=zmK o t/\dep=dk+1/\dk<=2
theorem zvo.snoc {list:List (List Str)}{ds:List Int}{i:Nat}{t:List Str}{b dep z:Int}{d:List Delta}(h:zvo list ds i t b dep d):zvo list (ds++[z]) i t b dep d:=by
 rcases h with h |⟨k,o,dk,h1,h2,h3,h4,h5⟩
 ·exact .inl h
 ·exact .inr ⟨k,o,dk,h1,h2,h3,by rw[aM (List.getElem?_eq_some_iff.1 h4).1];exact h4,h5⟩
section
variable {list:List (List Str)}(h12:list.length<=12)(hl: ∀ t∈list,zau t=true)
include h12 hl
end
end Go.Vm
