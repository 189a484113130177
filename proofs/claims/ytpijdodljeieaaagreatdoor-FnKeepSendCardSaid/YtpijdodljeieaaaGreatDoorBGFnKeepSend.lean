/- Plain law FnKeepSend, and what it uses: what the models answer. Conditions: each law's own premises. -/
import Derived.Test.YtpijdodljeieaaaGreatDoorBGFnKeepSenda
import Derived.Test.YtpijdodljeieaaaGreatDoorBLw
namespace Go.Vm
open Go Go.Sx
set_option linter.unusedSimpArgs false
set_option linter.unusedVariables false
theorem zh4 {R α σ:Type} {xs:List α} {g:σ->α->σ} {I:σ->Prop} {f:Nat->Int->σ->Option R} {Z:σ->Option R}
 (hs: ∀ m (i:Nat) x s,xs[i]? =some x->I s->f (m+1) (i:Int) s=f m ((i+1:Nat):Int) (g s x)/\I (g s x)) (he: ∀ m s,I s->f (m+1) (xs.length:Int) s=Z s):
 ∀ (k i m:Nat) (s:σ),i+k=xs.length->k<m->I s->f m (i:Int) s=Z ((xs.drop i).foldl g s)/\I ((xs.drop i).foldl g s)
 |k,i,0,s,_,hm,_=>by omega
 |0,i,m+1,s,hi,_,h=>by
  obtain rfl:i=xs.length:=by omega
  rw[List.drop_length,List.foldl_nil]
  exact⟨he m s h,h⟩
 |k+1,i,m+1,s,hi,hm,h=>by
  have hlt:i<xs.length:=by omega
  obtain⟨e1,e2⟩:=hs m i xs[i] s (aB hlt) h
  rw[e1,aI hlt,List.foldl_cons]
  exact zh4 hs he k (i+1) m _ (by omega) (by omega) e2
theorem zdp {R α σ:Type} {xs:List α} {g:σ->α->σ} {I:σ->Prop} {f:Nat->Int->σ->Option R} {Z:σ->Option R} {s:σ} (h:I s)
 (hs: ∀ m (i:Nat) x s,xs[i]? =some x->I s->f (m+1) (i:Int) s=f m ((i+1:Nat):Int) (g s x)/\I (g s x)) (he: ∀ m s,I s->f (m+1) (xs.length:Int) s=Z s):f (xs.length+1) 0 s=Z (xs.foldl g s):=by
 have:=(zh4 hs he xs.length 0 (xs.length+1) s (by omega) (by omega) h).1
 rwa [List.drop_zero]at this
def ziI (v:Bool)(mk:List Bool)(p:Int):List Bool:=mk.set p.toNat v
theorem zev (v:Bool): ∀ (ps:List Int) (mk:List Bool),(ps.foldl (ziI v) mk).length=mk.length
 | [],mk=>rfl
 |p::ps,mk=>by rw[List.foldl_cons,zev v ps];simp[ziI]
theorem zkj (v:Bool): ∀ (ps:List Int) (mk:List Bool) (j:Nat),j<mk.length->(ps.foldl (ziI v) mk).getD j false=bif ps.any (fun p=>Nat.beq p.toNat j) then v else mk.getD j false
 | [],mk,j,_=>rfl
 |p::ps,mk,j,h=>by
  rw[List.foldl_cons,zkj v ps _ j (by simp[ziI];exact h),List.any_cons]
  have hs:(ziI v mk p).getD j false=bif Nat.beq p.toNat j then v else mk.getD j false:=by
   unfold ziI
   cases hb:Nat.beq p.toNat j with
   |true=>
    have e:=Nat.eq_of_beq_eq_true hb
    rw[e]
    simp[List.getD,h]
   |false=>
    have hne:p.toNat≠j:=fun e=>by rw[e,Nat.beq_refl]at hb;cases hb
    simp only[List.getD,List.getElem?_set_ne hne]
    rfl
  rw[hs]
  cases Nat.beq p.toNat j<;>cases(ps.any fun p=>Nat.beq p.toNat j)<;>rfl
theorem zj3 {mk:List Bool}{x:Int}:x∈zia mk↔0<=x/\mkd mk x.toNat:=by
 unfold zia
 rw[List.mem_map]
 constructor
 ·rintro⟨i,hi,rfl⟩
  rw[List.mem_filter]at hi
  exact⟨Int.natCast_nonneg i,hi.2⟩
 ·rintro⟨hx,h⟩
  exact⟨x.toNat,List.mem_filter.2 ⟨List.mem_range.2 (zly h),h⟩,Int.toNat_of_nonneg hx⟩
theorem znq {l:List Int}{j:Nat}(h: ∀ p∈l,0<=p):(l.any fun p=>Nat.beq p.toNat j)=zcF l (j:Int):=by
 apply zbT
 rw[zaE,List.any_eq_true]
 constructor
 ·rintro⟨p,hp,e⟩
  have:=Nat.eq_of_beq_eq_true e
  rwa [<- this,Int.toNat_of_nonneg (h p hp)]
 ·intro hm
  exact⟨_,hm,by rw[Int.toNat_natCast];exact Nat.beq_refl j⟩
theorem zkz (mk:List Bool):(zia mk).length<=mk.length:=by
 unfold zia
 rw[List.length_map]
 exact Nat.le_trans (List.length_filter_le _ _) (by simp)
def leftL (r:Repo)(good:List Int)(bad:Int):List Int:=(allA r bad).filter fun x=>good.all fun g=> !zcF (allA r g) x
theorem zg1 (r:Repo)(good:List Int)(bad:Int):zgj (leftL r good bad):=(zfy r bad).sublist List.filter_sublist
theorem zf2 (r:Repo)(good:List Int)(bad:Int):(leftL r good bad).length<=r.Commits.length:=Nat.le_trans (List.length_filter_le _ _) (zaS r bad)
theorem zeq {r:Repo}{good:List Int}{bad x:Int}:x∈leftL r good bad↔x∈allA r bad /\ ∀ g∈good,x∉allA r g:=by
 unfold leftL
 rw[List.mem_filter,List.all_eq_true]
 constructor
 ·rintro⟨h1,h2⟩
  refine⟨h1,fun g hg hx=>?_⟩
  have:=h2 g hg
  rw[zaE.2 hx]at this
  cases this
 ·rintro⟨h1,h2⟩
  refine⟨h1,fun g hg=>?_⟩
  cases hb:zcF (allA r g) x with
  |false=>rfl
  |true=>exact absurd (zaE.1 hb) (h2 g hg)
def zlI (r:Repo)(ls:List Int)(mk:List Bool):List Bool:=ls.foldl (fun mk o=>(allA r o).foldl (ziI false) mk) mk
theorem ziF (r:Repo): ∀ (ls:List Int) (mk:List Bool),(zlI r ls mk).length=mk.length
 | [],mk=>rfl
 |o::ls,mk=>by
  have:=ziF r ls ((allA r o).foldl (ziI false) mk)
  rw[zev]at this
  exact this
theorem zjR (r:Repo): ∀ (ls:List Int) (mk:List Bool) (j:Nat),j<mk.length->(zlI r ls mk).getD j false=(mk.getD j false&&ls.all fun o=> !zcF (allA r o) (j:Int))
 | [],mk,j,_=>by simp[zlI]
 |o::ls,mk,j,h=>by
  have e:=zjR r ls ((allA r o).foldl (ziI false) mk) j (by rw[zev];exact h)
  rw[zkj false _ _ _ h,znq (fun p hp=>(zaO hp).1)]at e
  refine e.trans ?_
  rw[List.all_cons]
  cases zcF (allA r o) (j:Int)<;>cases mk.getD j false<;>rfl
theorem znc {r:Repo}(hr:repoB r=true){at_:Int}(h0:0<=at_)(h1:at_<=(r.Commits.length:Int)-1)(ls:List Int):zia (zlI r ls (za0 r at_.toNat))=leftL r ls at_:=by
 refine zgj.ext (zh9 _) (zg1 _ _ _) fun x=>?_
 rw[zj3,zeq,zba hr h0 h1]
 constructor
 ·rintro⟨hx,hm⟩
  have hlt:=zly hm
  rw[ziF,zaK]at hlt
  unfold mkd at hm
  rw[zjR _ _ _ _ (by rw[zaK];exact hlt),aG,List.all_eq_true]at hm
  refine⟨⟨hx,(ze4 hr (show at_.toNat<r.Commits.length by omega) _).1 hm.1⟩,fun g hg hxg=>?_⟩
  have:=hm.2 g hg
  rw[Int.toNat_of_nonneg hx,zaE.2 hxg]at this
  cases this
 ·rintro⟨⟨hx,hc⟩,hg⟩
  have hm:=(ze4 hr (show at_.toNat<r.Commits.length by omega) _).2 hc
  have hlt:=zly hm
  refine⟨hx,?_⟩
  unfold mkd at hm ⊢
  rw[zjR _ _ _ _ hlt,hm,Bool.true_and,List.all_eq_true]
  intro g hgm
  rw[Int.toNat_of_nonneg hx]
  cases hb:zcF (allA r g) x with
  |false=>rfl
  |true=>exact absurd (zaE.1 hb) (hg g hgm)
theorem zlJ {r:Repo}(hr:repoB r=true){at_:Int}(ha:upB r.Commits.length at_=true){ls:List Int}(hl:ls.length<=1000)(hg: ∀ g∈ls,upB r.Commits.length g=true):zfd r at_ ls=some (leftL r ls at_):=by
 obtain⟨a0,a1⟩:=zap.1 ha
 have hs:=(zab hr).1
 unfold zfd
 rw[zdM hr a0 a1,aA]
 simp only[jn,zak]
 rw[zdp (xs:=ls) (g:=fun mk o=>(allA r o).foldl (ziI false) mk) (I:=fun mk=>mk.length=r.Commits.length) (Z:=fun mk=>(zdf mk).bind fun z=>some z) (f:=fun m i mk=>zbK r ls _ m i mk) (zaK r _) (fun m i o mk ho hmk=>by
  obtain⟨o0,o1⟩:=zap.1 (hg o (aH ho))
  refine⟨?_,by rw[zev];exact hmk⟩
  simp only[zbK,jn,zah ho,zae ho,aD,aA,zdM hr o0 o1,zeZ (show(za0 r o.toNat).length<=1000 by rw[zaK];omega),zak]
  have hal:=zkz (za0 r o.toNat)
  rw[zaK]at hal
  rw[zdp (xs:=zia (za0 r o.toNat)) (g:=ziI false) (I:=fun mk=>mk.length=r.Commits.length) (Z:=fun mk=>zbK r ls (fun _ y14=>(zdf y14).bind fun z63=>some z63) m (w64 ((i:Int)+1)) mk) (f:=fun m' i mk=>zc6 (zia (za0 r o.toNat)) _ m' i mk) hmk (fun m' i' x mk' hx hmk'=>by
   have hxm:=zaO (r:=r) (a:=o) (aH hx)
   have hxl:x.toNat<mk'.length:=by omega
   have e1:gi mk' x=some (mk'.getD x.toNat false):=by
    have:=zb7 hxl
    rwa [Int.toNat_of_nonneg hxm.1]at this
   have e2:siM mk' x false=some (ziI false mk' x):=by
    have:=zcf hxl false
    rwa [Int.toNat_of_nonneg hxm.1]at this
   refine⟨?_,by simp[ziI];exact hmk'⟩
   simp only[zc6,zah hx,zae hx,aD,aA,e1,e2,zac (zan hx) (show(zia (za0 r o.toNat)).length<=maxi by unfold maxi;omega)]) (fun m' mk' _=>by simp only[zc6,zad,aC]),zac (zan ho) (show ls.length<=maxi by unfold maxi;omega)]
  rfl) (fun m mk _=>by simp only[zbK,zad,aC])]
 rw[show ls.foldl (fun mk o=>(allA r o).foldl (ziI false) mk) (za0 r at_.toNat)=zlI r ls (za0 r at_.toNat) from rfl,zeZ (by rw[ziF,zaK];omega),aA,znc hr a0 a1]
def zlC (r:Repo):List Bool:=r.Heads.foldl (fun mk h=>(allA r h.At).foldl (ziI true) mk) (List.replicate r.Commits.length false)
def liveL (r:Repo):List Int:=zia (zlC r)
theorem zjQ (r:Repo): ∀ (hs:List Head) (mk:List Bool),(hs.foldl (fun mk (h:Head)=>(allA r h.At).foldl (ziI true) mk) mk).length=mk.length /\ ∀ j,j<mk.length->(hs.foldl (fun mk (h:Head)=>(allA r h.At).foldl (ziI true) mk) mk).getD j false=(mk.getD j false||hs.any fun h=>zcF (allA r h.At) (j:Int))
 | [],mk=>⟨rfl,fun j _=>by simp⟩
 |h::hs,mk=>by
  obtain⟨e1,e2⟩:=zjQ r hs ((allA r h.At).foldl (ziI true) mk)
  rw[zev]at e1 e2
  rw[List.foldl_cons]
  refine⟨e1,fun j hj=>?_⟩
  rw[e2 j hj,zkj true _ _ _ hj,znq (fun p hp=>(zaO hp).1),List.any_cons]
  cases zcF (allA r h.At) (j:Int)<;>cases mk.getD j false<;>rfl
theorem zh5 (r:Repo):(zlC r).length=r.Commits.length:=by
 have:=(zjQ r r.Heads (List.replicate r.Commits.length false)).1
 unfold zlC
 simpa using this
theorem zf1 (r:Repo):(liveL r).length<=r.Commits.length:=by
 have:=zkz (zlC r)
 rwa [zh5]at this
theorem zmO {r:Repo}{j:Nat}(hj:j<r.Commits.length):zcF (liveL r) (j:Int)=r.Heads.any fun h=>zcF (allA r h.At) (j:Int):=by
 have e:=(zjQ r r.Heads (List.replicate r.Commits.length false)).2 j (by simpa using hj)
 apply zbT
 rw[zaE]
 unfold liveL
 rw[zj3,Int.toNat_natCast]
 unfold mkd zlC
 rw[e]
 have:(List.replicate r.Commits.length false).getD j false=false:=by
  rw[List.getD,List.getElem?_replicate]
  split<;>rfl
 rw[this,Bool.false_or]
 exact⟨fun h=>h.2,fun h=>⟨Int.natCast_nonneg j,h⟩⟩
theorem znv {r:Repo}(hr:repoB r=true):zgy r=some (zlC r):=by
 have hs:=zab hr
 unfold zgy
 rw[zjV (by simp[lim];omega),aA]
 simp only[jn,zak]
 rw[zdp (xs:=r.Heads) (g:=fun mk (h:Head)=>(allA r h.At).foldl (ziI true) mk) (I:=fun mk=>mk.length=r.Commits.length) (Z:=fun mk=>some mk) (f:=fun m i mk=>zce r _ m i mk) (by simp) (fun m i o mk ho hmk=>by
  have hat:=zc3 hr (aH ho)
  refine⟨?_,by rw[zev];exact hmk⟩
  simp only[zce,jn,zah ho,zae ho,aD,aA,zdM hr hat.1 hat.2.1,zeZ (show(za0 r o.At.toNat).length<=1000 by rw[zaK];omega),zak]
  have hal:=zkz (za0 r o.At.toNat)
  rw[zaK]at hal
  rw[zdp (xs:=zia (za0 r o.At.toNat)) (g:=ziI true) (I:=fun mk=>mk.length=r.Commits.length) (Z:=fun mk=>zce r (fun _ y13=>some y13) m (w64 ((i:Int)+1)) mk) (f:=fun m' i mk=>zdr (zia (za0 r o.At.toNat)) _ m' i mk) hmk (fun m' i' x mk' hx hmk'=>by
   have hxm:=zaO (r:=r) (a:=o.At) (aH hx)
   have hxl:x.toNat<mk'.length:=by omega
   have e1:gi mk' x=some (mk'.getD x.toNat false):=by
    have:=zb7 hxl
    rwa [Int.toNat_of_nonneg hxm.1]at this
   have e2:siM mk' x true=some (ziI true mk' x):=by
    have:=zcf hxl true
    rwa [Int.toNat_of_nonneg hxm.1]at this
   refine⟨?_,by simp[ziI];exact hmk'⟩
   simp only[zdr,zah hx,zae hx,aD,aA,e1,e2,zac (zan hx) (show(zia (za0 r o.At.toNat)).length<=maxi by unfold maxi;omega)]) (fun m' mk' _=>by simp only[zdr,zad,aC]),zac (zan ho) (show r.Heads.length<=maxi by unfold maxi;omega)]
  rfl) (fun m mk _=>by simp only[zce,zad,aC])]
 rfl
theorem znF {mk:List Bool}(hl:mk.length<=1000): ∀ (k i m:Nat) (out:List Int),i+k=mk.length->k<m->out.length<=i->
 zdn mk (fun y69 _=>some y69) m out (i:Int)=some (out++((List.range' i k).filter fun i=>mk.getD i false).map Int.ofNat)
 |k,i,0,out,_,hm,_=>by omega
 |0,i,m+1,out,hi,_,_=>by
  obtain rfl:i=mk.length:=by omega
  simp only[zdn,zad,aC]
  simp
 |k+1,i,m+1,out,hi,hm,ho=>by
  have hlt:i<mk.length:=by omega
  have hx:mk[i]? =some mk[i]:=aB hlt
  simp only[zdn,jn,zah hx,aD,zb7 hlt,aA,zac hlt (show mk.length<=maxi by unfold maxi;omega),ap1 (x:=(i:Int)) (show out.length<=1048576 by omega)]
  rw[List.range'_succ,List.filter_cons]
  cases hb:mk.getD i false with
  |true=>
   rw[aD,znF hl k (i+1) m _ (by omega) (by omega) (by simp;omega),if_pos rfl]
   simp
  |false=>
   rw[aC,znF hl k (i+1) m _ (by omega) (by omega) (by omega),if_neg (by simp)]
theorem zob {r:Repo}(hr:repoB r=true):zjp r=some (liveL r):=by
 have hs:=zab hr
 unfold zjp
 rw[zjV (by simp[lim];omega),aA]
 simp only[jn,zak]
 rw[zdp (xs:=r.Heads) (g:=fun mk (h:Head)=>(allA r h.At).foldl (ziI true) mk) (I:=fun mk=>mk.length=r.Commits.length) (Z:=fun mk=>zdn mk (fun y69 _=>some y69) (mk.length+1) ([]:List Int) 0) (f:=fun m i mk=>zer r _ m i mk) (by simp) (fun m i o mk ho hmk=>by
  have hat:=zc3 hr (aH ho)
  refine⟨?_,by rw[zev];exact hmk⟩
  simp only[zer,jn,zah ho,zae ho,aD,aA,zb8 hr hat.1 hat.2.1,zak]
  have hal:=zaS r o.At
  rw[zdp (xs:=allA r o.At) (g:=ziI true) (I:=fun mk=>mk.length=r.Commits.length) (Z:=fun mk=>zer r (fun _ y12=>zdn y12 (fun y59 _=>some y59) (y12.length+1) ([]:List Int) 0) m (w64 ((i:Int)+1)) mk) (f:=fun m' i mk=>zfR (allA r o.At) _ m' i mk) hmk (fun m' i' x mk' hx hmk'=>by
   have hxm:=zaO (r:=r) (a:=o.At) (aH hx)
   have hxl:x.toNat<mk'.length:=by omega
   have e1:gi mk' x=some (mk'.getD x.toNat false):=by
    have:=zb7 hxl
    rwa [Int.toNat_of_nonneg hxm.1]at this
   have e2:siM mk' x true=some (ziI true mk' x):=by
    have:=zcf hxl true
    rwa [Int.toNat_of_nonneg hxm.1]at this
   refine⟨?_,by simp[ziI];exact hmk'⟩
   simp only[zfR,zah hx,zae hx,aD,aA,e1,e2,zac (zan hx) (show(allA r o.At).length<=maxi by unfold maxi;omega)]) (fun m' mk' _=>by simp only[zfR,zad,aC]),zac (zan ho) (show r.Heads.length<=maxi by unfold maxi;omega)]
  ) (fun m mk _=>by simp only[zer,zad,aC])]
 have hl:=zh5 r
 have e3:=znF (mk:=zlC r) (by omega) (zlC r).length 0 ((zlC r).length+1) [] (by omega) (by omega) (by simp)
 refine e3.trans ?_
 unfold liveL zia
 rw[List.range_eq_range']
 rfl
section
variable {r:l30Rd}{p:Int}
theorem znG {x:Repo}(h:Drawn x)(n:Str):Drawn (bif repoB x then⟨x.Commits,x.Heads.filter fun h=>h.Name !=n⟩ else⟨[],[]⟩):=by
 cases repoB x with
 |false=>exact⟨⟨by simp,fun c hc=>by simp at hc,by simp,fun c hc=>by simp at hc⟩,by simp,by simp⟩
 |true=>
  have hl:=List.length_filter_le (fun h:Head=>h.Name !=n) x.Heads
  exact⟨⟨h.rb.coms,h.rb.com,Nat.le_trans hl h.rb.heads,fun y hy=>h.rb.head y (List.mem_filter.1 hy).1⟩,h.coms,Nat.le_trans hl h.heads⟩
theorem zoc {x:Repo}(h:RpB x)(n:Str): ∃ b,zhG x n=some ((bif repoB x then⟨x.Commits,x.Heads.filter fun h=>h.Name !=n⟩ else⟨[],[]⟩),b):=by
 have hm:=zaj h.heads
 have hl:=h.heads
 unfold zhG
 rw[za8 h,aA]
 cases repoB x with
 |false=>exact⟨_,rfl⟩
 |true=>
  simp only[aK,aC,aD,zbr h,aA,jn,zak]
  rw[zaA (xs:=x.Heads) (p:=fun h=>h.Name !=n) (g:=fun h:Head=>h) (Z:=fun acc=>some (Repo.mk x.Commits acc,decide ((acc.length:Int)< (x.Heads.length:Int)))) (f:=fun m acc i=>zdV x n _ m i x.Commits acc) (fun m i y acc hx ha=>by
   have hi:=zan hx
   simp only[zdV,jn,zah hx,zae hx,aD,aA,zac hi hm,ap1 (show acc.length<=1048576 by omega)]
   cases y.Name !=n<;>rfl) (fun m acc=>by simp only[zdV,zad,aC]) (by omega)]
  rw[List.map_id']
  exact⟨_,rfl⟩
theorem zmP {x0:l30Rd}: ∀ (k m:Nat) (q p:Int) (x:Repo),k<m->k<=1000->Drawn x->zcg ⟨x0.b,q⟩ p->p+k<=1000000->
 ∃ x' q',ze5 x0 (fun _ y34 y36 y39=>some (Vm.Repo.mk y36 y39,y34)) m (k:Int) q x.Commits x.Heads=some (x',q')/\Drawn x'
 |k,0,q,p,x,hm,_,_,_,_=>by omega
 |0,m+1,q,p,x,_,_,hx,_,_=>by
  simp only[ze5,jn]
  rw[aE (by omega),aC]
  exact⟨x,q,rfl,hx⟩
 |k+1,m+1,q,p,x,hm,hk,hx,hr,hp=>by
  obtain⟨s,e1,_⟩:=zgZ hr (by omega)
  have hr1:=zdD (q:=p+1) hr (k:=1) (by omega) (by omega)
  obtain⟨b,e2⟩:=zoc hx.rb s
  have hd:=znG hx s
  simp only[ze5,jn]
  rw[aF (by omega),aD,e1,aA,show(⟨x.Commits,x.Heads⟩:Repo)=x from rfl,e2,aA]
  generalize (bif repoB x then(⟨x.Commits,x.Heads.filter fun h=>h.Name !=s⟩:Repo) else⟨[],[]⟩)=y at hd
  have hw:w64 (((k+1:Nat):Int)-1)=(k:Int):=by rw[zai (by omega) (by omega)];omega
  obtain⟨x1,q1,i1,d1⟩:=zmP (x0:=x0) k m (q+1) (p+1) y (by omega) (by omega) hd hr1 (by omega)
  obtain⟨x2,q2,i2,d2⟩:=zmP (x0:=x0) k m (q+1) (p+1) x (by omega) (by omega) hx hr1 (by omega)
  rw[show(⟨(y,b).1.Commits,(y,b).1.Heads⟩:Repo)=y from rfl,za8 hd.rb,aA,za8 hx.rb,aA,hw]
  cases repoB y with
  |false=>exact⟨x2,q2,i2,d2⟩
  |true=>
   cases repoB x with
   |false=>exact⟨x2,q2,i2,d2⟩
   |true=>exact⟨x1,q1,i1,d1⟩
theorem zpF (h:zcg r p)(hp:p<=1000): ∃ x q,ziM r=some (x,q)/\Drawn x:=by
 unfold ziM
 obtain⟨x,q,e,hx,r2⟩:=zjb h (by omega)
 obtain⟨k,e2,k0,k1⟩:=zb6 r2 (n:=3) (by omega) (by omega) (by omega)
 obtain⟨n,rfl⟩:=Int.eq_ofNat_of_zero_le k0
 rw[e,aA,e2,aA]
 simp only[jn]
 exact zmP (x0:=r) n _ (q+1) (p+2011) x (by omega) (by omega) hx (zdD (r:=⟨r.b,q⟩) (q:=p+2011) r2 (k:=1) (by omega) (by omega)) (by omega)
end
def plI (l:List Int)(n:Int):Int:=(l.idxOf n:Int)
theorem zgj.nodup {l:List Int}(h:zgj l):l.Nodup:=List.Pairwise.imp (fun hab e=>by rw[e]at hab;exact Int.lt_irrefl _ hab) h
theorem zhH {l:List Int}(h:zgj l){i:Nat}(hi:i<l.length):plI l l[i]=(i:Int):=by
 unfold plI
 rw[h.nodup.idxOf_getElem i hi]
theorem zbp {l:List Int}{n:Int}(h:n∈l):0<=plI l n/\plI l n< (l.length:Int) /\ ∃ hi:(plI l n).toNat<l.length,l[(plI l n).toNat]=n:=by
 unfold plI
 have hl:=List.idxOf_lt_length_of_mem h
 refine⟨Int.natCast_nonneg _,by omega,hl,?_⟩
 exact List.getElem_idxOf hl
theorem zjm {l:List Int}(h:zgj l){a b:Int}(ha:a∈l)(hb:b∈l)(hab:a<b):plI l a<plI l b:=by
 obtain⟨i,hi,rfl⟩:=List.getElem_of_mem ha
 obtain⟨j,hj,rfl⟩:=List.getElem_of_mem hb
 rw[zhH h hi,zhH h hj]
 have hp:=List.pairwise_iff_getElem.1 h
 rcases Nat.lt_trichotomy i j with q |q |q
 ·omega
 ·subst q;exact absurd hab (Int.lt_irrefl _)
 ·have:=hp j i hj hi q
  omega
theorem zpf {l:List Int}(h:zgj l){a b:Int}(ha:a∈l)(hb:b∈l)(e:plI l a=plI l b):a=b:=by
 rcases Int.lt_trichotomy a b with q |q |q
 ·have:=zjm h ha hb q;omega
 ·exact q
 ·have:=zjm h hb ha q;omega
theorem zeG (r:Repo):zgj (liveL r):=zh9 _
theorem zfB {r:Repo}(hr:repoB r=true){x:Int}:x∈liveL r ↔ ∃ h∈r.Heads,x∈allA r h.At:=by
 constructor
 ·intro hx
  have h0:=zj3.1 hx
  have hl:x.toNat<r.Commits.length:=by
   rcases Nat.lt_or_ge x.toNat r.Commits.length with q |q
   ·exact q
   ·have:=h0.2
    unfold mkd at this
    rw[List.getD_eq_getElem?_getD,List.getElem?_eq_none (by rw[zh5];exact q)]at this
    cases this
  have e:=zmO (r:=r) hl
  rw[show((x.toNat:Nat):Int)=x by omega,zaE.2 hx]at e
  obtain⟨h,h1,h2⟩:=List.any_eq_true.1 e.symm
  exact⟨h,h1,zaE.1 h2⟩
 ·rintro⟨h,h1,h2⟩
  have hm:=zaO h2
  have e:=zmO (r:=r) (j:=x.toNat) (by omega)
  rw[show((x.toNat:Nat):Int)=x by omega]at e
  refine zaE.1 (e.trans ?_)
  exact List.any_eq_true.2 ⟨h,h1,zaE.2 h2⟩
theorem zbd {r:Repo}(hr:repoB r=true){x:Int}(hx:x∈liveL r):0<=x/\x<=(r.Commits.length:Int)-1:=by
 obtain⟨h,_,h2⟩:=(zfB hr).1 hx
 exact zaO h2
theorem znE {r:Repo}(hr:repoB r=true){x:Int}(hx:x∈liveL r){c:Nat}(hc:Rc r x.toNat c):(c:Int)∈liveL r:=by
 obtain⟨h,h1,h2⟩:=(zfB hr).1 hx
 have ha:=zc3 hr h1
 obtain⟨q0,q1⟩:=(zba hr ha.1 ha.2.1 x).1 h2
 exact(zfB hr).2 ⟨h,h1,(zba hr ha.1 ha.2.1 _).2 ⟨Int.natCast_nonneg _,q1.trans hc⟩⟩
theorem zky {r:Repo}(hr:repoB r=true){x p:Int}(hx:x∈liveL r)(hp:p∈zaa r x.toNat):p∈liveL r:=by
 have hm:=zbd hr hx
 have h0:=((zar hr (i:=x.toNat) (by omega)).2 p hp).1
 have:=znE hr hx (Rc.step (Rc.refl _) hp)
 rwa [show((p.toNat:Nat):Int)=p by omega]at this
theorem zij {r:Repo}(hr:repoB r=true){h:Head}(hh:h∈r.Heads):h.At∈liveL r:=by
 have ha:=zc3 hr hh
 exact(zfB hr).2 ⟨h,hh,zhw hr ha.1 ha.2.1⟩
def zmz (l:List Int)(c:Commit):Commit:=⟨c.Parents.map (plI l),c.Who,c.Tree⟩
def zpZ (l:List Int)(h:Head):Head:=⟨h.Name,plI l h.At⟩
def keepR (r:Repo):Repo:=⟨(liveL r).map fun i=>zmz (liveL r) (r.Commits.getD i.toNat noCommit),r.Heads.map (zpZ (liveL r))⟩
theorem zcO (r:Repo):(keepR r).Commits.length=(liveL r).length:=by simp[keepR]
theorem zlU {r:Repo}{i:Nat}(hi:i< (liveL r).length):(keepR r).Commits.getD i noCommit=zmz (liveL r) (r.Commits.getD (liveL r)[i].toNat noCommit):=by
 have hx:(keepR r).Commits[i]? =some (zmz (liveL r) (r.Commits.getD (liveL r)[i].toNat noCommit)):=by
  unfold keepR
  simp only
  rw[List.getElem?_map,aB hi]
  rfl
 exact zbF hx
theorem zjg {r:Repo}(hr:repoB r=true):repoB (keepR r)=true:=by
 have hA:=zeG r
 have hR:=zf0.1 hr
 have hle:=zf1 r
 refine zf0.2 ⟨⟨by rw[zcO];omega,?_⟩,zed.2 ⟨fun h hh=>?_,?_,?_⟩⟩
 ·refine zaC.2 fun i _ hi=>?_
  rw[zcO,Nat.zero_add]at hi
  have hm:=List.getElem_mem hi
  have hx:=zbd hr hm
  have hc:=zeu hr (i:=(liveL r)[i].toNat) (by omega)
  rw[zlU hi]
  unfold zjL at hc ⊢
  simp only[aG,List.all_eq_true]at hc ⊢
  obtain⟨c1,c2,c3,c4⟩:=hc
  have hsub: ∀ p∈(r.Commits.getD (liveL r)[i].toNat noCommit).Parents,p∈liveL r:=fun p hp=>zky hr hm hp
  refine⟨fun q hq=>?_,by simpa[zmz]using c2,?_,c4⟩
  ·obtain⟨p,hp,rfl⟩:=List.mem_map.1 hq
   have hu:=zap.1 (c1 p hp)
   have h1:=zbp (hsub p hp)
   have h2:=zjm hA (hsub p hp) hm (by omega)
   rw[zhH hA hi]at h2
   exact zap.2 (by omega)
  ·show zlr ((r.Commits.getD (liveL r)[i].toNat noCommit).Parents.map (plI (liveL r)))=true
   revert c3 hsub
   generalize (r.Commits.getD (liveL r)[i].toNat noCommit).Parents=ps
   intro c3 hsub
   match ps with
   | []=>rfl
   | [p]=>rfl
   | [p,q]=>
    have hne:p≠q:=by simpa[zlr]using c3
    have:plI (liveL r) p≠plI (liveL r) q:=fun e=>hne (zpf hA (hsub p (by simp)) (hsub q (by simp)) e)
    simpa[zlr]using this
   |p::q::s::t=>rfl
 ·obtain⟨g,hg,rfl⟩:=List.mem_map.1 hh
  have h1:=zbp (zij hr hg)
  exact⟨(zc3 hr hg).2.2,zap.2 (by rw[zcO];show 0<=plI _ _/\plI _ _<=_;omega)⟩
 ·show((r.Heads.map (zpZ (liveL r))).Pairwise fun x y=>x.Name<y.Name)
  rw[List.pairwise_map]
  exact(zed.1 hR.2).2.1
 ·show(r.Heads.map _).length<=5
  rw[List.length_map]
  exact(zed.1 hR.2).2.2
def zhs (p:Int):Prop:= -9223372036854775808<=p/\p<=9223372036854775807
def onP (has:List Int)(i:Nat)(p:Int):Bool:=upB i p||(decide (p<0)&&decide (-(has.length:Int)<=p))
def toP (has:List Int)(base i:Nat)(p:Int):Int:=bif upB i p then(base:Int)+p else has.getD (-1-p).toNat 0
def toC (has:List Int)(base i:Nat)(c:Commit):Commit:=⟨c.Parents.map (toP has base i),c.Who,c.Tree⟩
def okS (has:List Int):Nat->List Commit->Bool
 |_,[]=>true
 |i,c::cs=>c.Parents.all (onP has i)&&okS has (i+1) cs
def ze0 (has:List Int)(base:Nat):Nat->List Commit->List Commit
 |_,[]=>[]
 |i,c::cs=>toC has base i c::ze0 has base (i+1) cs
theorem zjS (has:List Int)(base:Nat): ∀ (cs:List Commit) (i:Nat),(ze0 has base i cs).length=cs.length
 | [],i=>rfl
 |c::cs,i=>by simp[ze0,zjS has base cs]
theorem zlK {has:List Int}{base:Nat}: ∀ {cs:List Commit} {i:Nat} {x:Commit},x∈ze0 has base i cs -> ∃ j c,c∈cs/\x=toC has base j c
 | [],i,x,h=>by simp[ze0]at h
 |c::cs,i,x,h=>by
  simp only[ze0,List.mem_cons]at h
  rcases h with rfl |h
  ·exact⟨i,c,by simp,rfl⟩
  ·obtain⟨j,d,hd,e⟩:=zlK h
   exact⟨j,d,List.mem_cons_of_mem _ hd,e⟩
def zj6 (has:List Int):Int:=bif decide (0< (has.length:Int)) then has.getD 0 0 else -1
def endAt (has:List Int)(base n:Nat):Int:=bif n==0 then zj6 has else((base+n-1:Nat):Int)
def zg9 (r:Repo)(has:List Int)(sent:List Commit)(n:Str):Repo:=headR ⟨r.Commits++ze0 has r.Commits.length 0 sent,r.Heads⟩ n (endAt has r.Commits.length sent.length)
def zkk (r:Repo)(has:List Int)(sent:List Commit)(n:Str):Repo×Bool:=bif repoB r then(bif okS has 0 sent&&(zjT r has&&repoB (zg9 r has sent n)) then(zg9 r has sent n,true) else(r,false)) else(za5,false)
def zj7 (f:Int->Int)(P:List Int)(k:Nat):List Int:=(P.take k).map f++P.drop k
theorem zmr (f:Int->Int)(P:List Int)(k:Nat):(zj7 f P k).length=P.length:=by unfold zj7;simp;omega
theorem zno {f:Int->Int}{P:List Int}{k:Nat}(h:k<P.length):(zj7 f P k)[k]? =some P[k]:=by
 unfold zj7
 rw[aN (by simp;omega)]
 simp[Nat.min_eq_left (Nat.le_of_lt h)]
theorem zkc {f:Int->Int}{P:List Int}{k:Nat}(h:k<P.length):(zj7 f P k).set k (f P[k])=zj7 f P (k+1):=by
 unfold zj7
 have hl:((P.take k).map f).length=k:=by simp;omega
 rw[List.set_append_right _ _ (by omega),hl,Nat.sub_self,aI h,List.set_cons_zero,List.take_add_one,aB h,List.map_append,List.append_assoc]
 rfl
theorem zms (f:Int->Int)(P:List Int):zj7 f P P.length=P.map f:=by unfold zj7;simp
section
variable {r:Repo}{has:List Int}{sent:List Commit}
theorem zrI {p:Int}(h:zhs p):w64 (-1-p) = -1-p:=zai (by unfold zhs at h;omega) (by unfold zhs at h;omega)
theorem zpG {p:Int}(h0:p<0)(h1: -(has.length:Int)<=p):gi has (-1-p)=some (has.getD (-1-p).toNat 0):=by
 have:=zfn (l:=has) (i:=(-1-p).toNat) (by omega)
 rwa [show(((-1-p).toNat:Nat):Int) = -1-p by omega]at this
theorem zoF (hr:RpB r)(hh:has.length<=1048576){i:Nat}(hi:i<=1048576){c:Commit}(hl:c.Parents.length<=1048576)(hf: ∀ p∈c.Parents,zhs p){K:Bool->Int->List Commit->List Head->List Int->Str->List File->Option (Repo×Bool)}{b:Bool}{j1:List Commit}{j2:List Head}{s:Str}{t:List File}: ∀ (j k m:Nat),k+j=c.Parents.length->j<m->
 zdT r has i c K m b (k:Int) j1 j2 ((c.Parents.take k).map (toP has r.Commits.length i)) s t=bif(c.Parents.drop k).all (onP has i) then K b (c.Parents.length:Int) j1 j2 (c.Parents.map (toP has r.Commits.length i)) s t else some (r,false)
 |j,k,0,_,hm=>by omega
 |0,k,m+1,hk,_=>by
  obtain rfl:k=c.Parents.length:=by omega
  simp only[zdT,zad,aC,List.drop_length,List.all_nil,aD,List.take_length]
 |j+1,k,m+1,hk,hm=>by
  have hlt:k<c.Parents.length:=by omega
  have hp:=hf _ (List.getElem_mem hlt)
  have hx:c.Parents[k]? =some c.Parents[k]:=aB hlt
  have hbase:=hr.coms
  have ih:=zoF (K:=K) (b:=b) (j1:=j1) (j2:=j2) (s:=s) (t:=t) hr hh hi hl hf j (k+1) m (by omega) (by omega)
  have htk:(c.Parents.take (k+1)).map (toP has r.Commits.length i)=(c.Parents.take k).map (toP has r.Commits.length i)++[toP has r.Commits.length i c.Parents[k]]:=by
   rw[List.take_add_one,hx,List.map_append];rfl
  have hap: ∀ v:Int,apM ((c.Parents.take k).map (toP has r.Commits.length i)) [v]=some ((c.Parents.take k).map (toP has r.Commits.length i)++[v]):=fun v=>ap1 (by simp;omega)
  have hn0:w64 (0-(has.length:Int)) = -(has.length:Int):=by rw[zai (by omega) (by omega)];omega
  rw[htk]at ih
  simp only[zdT,jn,zah hx,zae hx,aD,aA,zdt,zbL (show i<=maxi by unfold maxi;omega),zac hlt (show c.Parents.length<=maxi by unfold maxi;omega),zrI hp,hn0,hap,zmx hr]
  rw[show(decide ((0:Int)<=c.Parents[k])&&decide (c.Parents[k]<=(i:Int)-1))=upB i c.Parents[k] from rfl,aI hlt,List.all_cons]
  cases hu:upB i c.Parents[k]with
  |true=>
   have hv:onP has i c.Parents[k]=true:=by unfold onP;rw[hu];rfl
   have ht:toP has r.Commits.length i c.Parents[k]=w64 ((r.Commits.length:Int)+c.Parents[k]):=by
    obtain⟨u0,u1⟩:=zap.1 hu
    unfold toP
    rw[hu,aD,zai (by omega) (by omega)]
   rw[aD,<- ht,hv,Bool.true_and]
   exact ih
  |false=>
   rw[aC]
   by_cases hd:(decide (-(has.length:Int)<=c.Parents[k])&&decide (c.Parents[k] <= -1))=true
   ·rw[hd,aD]
    simp only[aG,decide_eq_true_eq]at hd
    have hv:onP has i c.Parents[k]=true:=by
     unfold onP
     rw[hu,aF (show c.Parents[k]<0 by omega),aF (show -(has.length:Int)<=c.Parents[k] by omega)];rfl
    have ht:toP has r.Commits.length i c.Parents[k]=has.getD (-1-c.Parents[k]).toNat 0:=by unfold toP;rw[hu,aC]
    rw[zpG (by omega) (by omega),aA,<- ht,hv,Bool.true_and]
    exact ih
   ·have hv:onP has i c.Parents[k]=false:=by
     unfold onP
     rw[hu,Bool.false_or]
     cases hq:decide (c.Parents[k]<0)&&decide (-(has.length:Int)<=c.Parents[k])with
     |false=>rfl
     |true=>
      exfalso
      simp only[aG,decide_eq_true_eq]at hq
      refine hd ?_
      simp only[aG,decide_eq_true_eq]
      omega
    have hd':(decide (-(has.length:Int)<=c.Parents[k])&&decide (c.Parents[k] <= -1))=false:=by simpa using hd
    rw[hd',aC,hv,Bool.false_and]
    rfl
def zoG (a:Int)(base:Nat)(i:Nat)(cs:List Commit):Int:=bif cs.length==0 then a else((base+i+cs.length-1:Nat):Int)
theorem zmQ (a:Int)(base i:Nat)(c:Commit)(cs:List Commit):zoG a base i (c::cs)=zoG ((base+i:Nat):Int) base (i+1) cs:=by
 unfold zoG
 cases cs with
 |nil=>simp
 |cons d cs=>simp<;>omega
theorem zoH (hr:RpB r)(hh:has.length<=1048576)(hs:r.Commits.length+sent.length<=1048576)(hc: ∀ c∈sent,CB c)(hf: ∀ c∈sent,∀ p∈c.Parents,zhs p){K:Bool->Int->Int->List Commit->List Head->List Commit->List Head->Option (Repo×Bool)}{hd:List Head}{F:Int->List Commit->Option (Repo×Bool)}(hK: ∀ b a i out j1 j2,K b a i j1 j2 out hd=F a out): ∀ (k i m:Nat) (a:Int) (out:List Commit) (j1:List Commit) (j2:List Head),i+k=sent.length->k<m->out.length=r.Commits.length+i->
 zdU r has sent K m false a (i:Int) j1 j2 out hd=bif okS has i (sent.drop i) then F (zoG a r.Commits.length i (sent.drop i)) (out++ze0 has r.Commits.length i (sent.drop i)) else some (r,false)
 |k,i,0,a,out,j1,j2,_,hm,_=>by omega
 |0,i,m+1,a,out,j1,j2,hi,_,ho=>by
  obtain rfl:i=sent.length:=by omega
  simp only[zdU,zad,aC,List.drop_length,okS,ze0,aD,List.append_nil,hK,zoG,List.length_nil,aO]
 |k+1,i,m+1,a,out,j1,j2,hi,hm,ho=>by
  have hlt:i<sent.length:=by omega
  have hx:sent[i]? =some sent[i]:=aB hlt
  have hcb:=hc _ (List.getElem_mem hlt)
  have hpar:=hcb.par
  have hpf:=hf _ (List.getElem_mem hlt)
  have l2:=fun K' s t=>zoF (K:=K') (b:=false) (j1:=j1) (j2:=j2) (s:=s) (t:=t) hr hh (show i<=1048576 by omega) hpar hpf sent[i].Parents.length 0 (sent[i].Parents.length+1) (by omega) (by omega)
  simp only[zdU,jn,zah hx,zae hx,aD,aA,zek hcb.tree,zak,zac hlt (show sent.length<=maxi by unfold maxi;omega)]
  refine(l2 _ _ _).trans ?_
  rw[List.drop_zero,aI hlt]
  unfold okS ze0
  cases hon:sent[i].Parents.all (onP has i)with
  |false=>rfl
  |true=>
   have ih:=zoH hr hh hs hc hf hK k (i+1) m ((r.Commits.length+i:Nat):Int) (out++[toC has r.Commits.length i sent[i]]) j1 j2 (by omega) (by omega) (by simp;omega)
   rw[aD,Bool.true_and,ap1 (show out.length<=1048576 by omega),aA,zmQ,show(out.length:Int)=((r.Commits.length+i:Nat):Int) by omega]
   refine ih.trans ?_
   rw[List.append_assoc]
   rfl
theorem zlL (n:Str)(a:Int): ∀ (hs:List Head),(⟨n,a⟩:Head)∈zd2 n a false hs
 | []=>by simp[zd2]
 |h::hs=>by
  have ih:=zlL n a hs
  unfold zd2
  cases hb:Op.bytesLess h.Name n with
  |false=>simp
  |true=>cases(h.Name !=n)<;>simp[ih]
theorem zqB (hb: ∀ c∈sent,CB c){c:Commit}(hc:c∈sent)(base j:Nat):CB (toC has base j c):=
 ⟨by show(c.Parents.map _).length<=_;rw[List.length_map];exact(hb c hc).par,(hb c hc).who,(hb c hc).tree⟩
theorem znd (hr:RpB r)(hs:r.Commits.length+sent.length<=1048576)(hc: ∀ c∈sent,CB c):RpB ⟨r.Commits++ze0 has r.Commits.length 0 sent,r.Heads⟩:=
 ⟨by simp[zjS];omega,fun x hx=>by
  rcases List.mem_append.1 hx with h1 |h1
  ·exact hr.com x h1
  ·obtain⟨j,c,hm,rfl⟩:=zlK h1
   exact zqB hc hm _ _,hr.heads,hr.head⟩
theorem znw (n:Nat)(hn:sent.length=n)(base:Nat):zoG (zj6 has) base 0 sent=endAt has base n:=by
 subst hn
 unfold zoG endAt
 rw[Nat.add_zero]
theorem zmR {K:Int->Option (Repo×Bool)}:(bif decide ((0:Int)< (has.length:Int)) then((gi has 0).bind fun u=>K u) else K (-1))=K (zj6 has):=by
 unfold zj6
 cases hd:decide ((0:Int)< (has.length:Int))with
 |false=>rfl
 |true=>
  have h0:0<has.length:=by simpa using hd
  have:=zfn h0
  rw[aD,aD,show(0:Int)=((0:Nat):Int) from rfl,this]
  rfl
theorem zkl (hr:RpB r)(hh:has.length<=1048576)(hs:r.Commits.length+sent.length<=1048576)(hc: ∀ c∈sent,CB c)(hf: ∀ c∈sent,∀ p∈c.Parents,zhs p){n:Str}(hn:n.length<=1048576):zgK r has sent n=some (zkk r has sent n):=by
 unfold zgK zkk
 rw[zcb hr,aA]
 cases hok:repoB r with
 |false=>rfl
 |true=>
  obtain⟨s1,s2⟩:=zab hok
  have hrb:=znd (has:=has) hr hs hc
  have hhd:=hrb.headR (show r.Heads.length<=100000 by omega) hn (endAt has r.Commits.length sent.length)
  have hw:w64 ((sent.length:Int)+(has.length:Int))=(sent.length:Int)+has.length:=zai (by omega) (by omega)
  simp only[aK,aC,aD,zmx hr,aA,jn,zak,hw]
  by_cases h16:(16:Int)< (has.length:Int)
  ·have ha:zjT r has=false:=by unfold zjT;rw[aE (show ¬ (has.length:Int)<=16 by omega),Bool.and_false]
   rw[aF h16,ha]
   simp
  rw[aE h16,aC,zlF hr (show has.length<=100000 by omega),hok,aA,Bool.true_and]
  cases hall:has.all (upB r.Commits.length)with
  |false=>
   have ha:zjT r has=false:=by unfold zjT;rw[hall,Bool.false_and]
   rw[ha]
   simp
  |true=>
   have ha:zjT r has=true:=by unfold zjT;rw[hall,aF (show(has.length:Int)<=16 by omega)];rfl
   rw[aK,aC,ha,Bool.true_and]
   cases hz:((sent.length:Int)+(has.length:Int)==0)with
   |true=>
    have h0:(sent.length:Int)+has.length=0:=by simpa using hz
    have hs0:sent=[]:=List.eq_nil_of_length_eq_zero (by omega)
    have hh0:has=[]:=List.eq_nil_of_length_eq_zero (by omega)
    have hbad:repoB (zg9 r has sent n)=false:=by
     cases hb:repoB (zg9 r has sent n)with
     |false=>rfl
     |true=>
      exfalso
      have hm:(⟨n,endAt has r.Commits.length sent.length⟩:Head)∈(zg9 r has sent n).Heads:=zlL n _ r.Heads
      have:=(zc3 hb hm).1
      rw[hs0,hh0]at this
      exact absurd this (by show ¬ (0:Int) <= -1;decide)
    rw[hbad,Bool.and_false]
    rfl
   |false=>
    have key:=zoH (hd:=r.Heads) hr hh hs hc hf (K:=fun _ y80 _ _ _ y93 y96=>
     (zbc (Repo.mk y93 y96) n y80).bind fun z610=>(zda r (Repo.mk z610.Commits z610.Heads)).bind fun z622=>some (Repo.mk z622.1.Commits z622.1.Heads,z622.2)) (F:=fun a out=>(zbc (Repo.mk out r.Heads) n a).bind fun z610=>(zda r (Repo.mk z610.Commits z610.Heads)).bind fun z622=>some (Repo.mk z622.1.Commits z622.1.Heads,z622.2)) (fun _ _ _ _ _ _=>rfl) sent.length 0 (sent.length+1) (zj6 has) r.Commits [] [] (by omega) (by omega) (by omega)
    rw[aC,zmR]
    refine key.trans ?_
    rw[List.drop_zero,znw _ rfl]
    cases okS has 0 sent with
    |false=>rfl
    |true=>
     rw[aD,Bool.true_and,znK hrb (show List.Pairwise _ r.Heads from zil hok),aA,show ∀ x:Repo,(⟨x.Commits,x.Heads⟩:Repo)=x from fun _=>rfl,zou hr hhd,aA]
     unfold zg9
     cases repoB (headR ⟨r.Commits++ze0 has r.Commits.length 0 sent,r.Heads⟩ n (endAt has r.Commits.length sent.length))<;>rfl
end
def zbl (l:List Int)(n:Int):Int:=bif zcF l n then plI l n else -1
theorem zni {l:List Int}{n:Int}(h:n∈l):zbl l n=plI l n:=by unfold zbl;rw[zaE.2 h];rfl
theorem ziY {l:List Int}{n:Int}{i:Nat}(hi:i<l.length):(bif zcF (l.drop i) n then((i+(l.drop i).idxOf n:Nat):Int) else -1)=bif l[i]==n then(i:Int) else(bif zcF (l.drop (i+1)) n then((i+1+(l.drop (i+1)).idxOf n:Nat):Int) else -1):=by
 rw[aI hi,List.idxOf_cons]
 unfold zcF
 rw[List.any_cons]
 cases l[i]==n with
 |true=>simp
 |false=>
  simp only[Bool.false_or,aC]
  congr 1
  omega
theorem zlv {l:List Int}(hl:l.length<=1000000){n:Int}: ∀ (k i m:Nat),i+k=l.length->k<m->
 zc0 l n (fun _ _=>some (-1)) m 0 (i:Int)=some (bif zcF (l.drop i) n then((i+(l.drop i).idxOf n:Nat):Int) else -1)
 |k,i,0,_,hm=>by omega
 |0,i,m+1,hi,_=>by
  obtain rfl:i=l.length:=by omega
  simp only[zc0,zad,aC,List.drop_length]
  rfl
 |k+1,i,m+1,hi,hm=>by
  have hlt:i<l.length:=by omega
  have hx:l[i]? =some l[i]:=aB hlt
  simp only[zc0,zah hx,zae hx,aD,aA,zac hlt (show l.length<=maxi by unfold maxi;omega)]
  rw[ziY hlt,zlv hl k (i+1) m (by omega) (by omega)]
  cases l[i]==n<;>rfl
theorem zje {l:List Int}(hl:l.length<=1000000)(n:Int):zfc l n=some (zbl l n):=by
 unfold zfc
 simp only[jn,zak]
 have e:=zlv hl (n:=n) l.length 0 (l.length+1) (by omega) (by omega)
 refine e.trans ?_
 unfold zbl plI
 simp
theorem zmo (f:Int->Int)(P:List Int):zj7 f P 0=P:=by simp[zj7]
theorem znU {l:List Int}(hl:l.length<=1000000){P:List Int}(hP:P.length<=1000000){K:Int->List Int->Option Repo}: ∀ (j k m:Nat),k+j=P.length->j<m->
 ze6 l K m (k:Int) (zj7 (zbl l) P k)=K (P.length:Int) (P.map (zbl l))
 |j,k,0,_,hm=>by omega
 |0,k,m+1,hk,_=>by
  obtain rfl:k=P.length:=by omega
  rw[zms]
  simp only[ze6,show(P.length:Int)=((P.map (zbl l)).length:Int) by rw[List.length_map],zad,aC]
 |j+1,k,m+1,hk,hm=>by
  have hlt:k<P.length:=by omega
  have hx:(zj7 (zbl l) P k)[k]? =some P[k]:=zno hlt
  simp only[ze6,zah hx,zae hx,aD,aA,zje hl,zcf (show k< (zj7 (zbl l) P k).length by rw[zmr];exact hlt),zkc hlt,zac hlt (show P.length<=maxi by unfold maxi;omega)]
  exact znU hl hP j (k+1) m (by omega) (by omega)
theorem zn4 {r:Repo}(hr:repoB r=true){x:Int}(hx:x∈liveL r):(zaa r x.toNat).map (zbl (liveL r))=(zaa r x.toNat).map (plI (liveL r)):=
 List.map_congr_left fun p hp=>zni (zky hr hx hp)
theorem zmA {r:Repo}(h:RpB r):zhg r=some (bif repoB r then keepR r else za5):=by
 unfold zhg
 rw[za8 h,aA]
 cases hr:repoB r with
 |false=>rfl
 |true=>
  have hs:=zab hr
  have hle:=zf1 r
  rw[aK,aC,aD,zob hr,aA]
  simp only[jn,zak]
  rw[zaA (xs:=liveL r) (p:=fun _=>true) (g:=fun i=>zmz (liveL r) (r.Commits.getD i.toNat noCommit)) (Z:=fun acc=>zb0 r (liveL r) (fun _ y342 y345=>some (Vm.Repo.mk y342 y345)) (r.Heads.length+1) 0 acc []) (f:=fun m acc i=>zdW r (liveL r) _ m i acc []) (fun m i x acc hx ha=>by
   have hxm:=aH hx
   have hrg:=zbd hr hxm
   have hc:CB (r.Commits.getD x.toNat noCommit):=by
    have hg:r.Commits[x.toNat]? =some (r.Commits[x.toNat]'(by omega)):=aB _
    rw[zbF hg]
    exact h.cat hg
   have hps:=zar hr (i:=x.toNat) (by omega)
   unfold zaa at hps
   have hix:=zan hx
   simp only[zdW,jn,zah hx,zae hx,aD,aA,zaN hrg.1 hrg.2,zcQ hc,zak]
   have e:=znU (l:=liveL r) (by omega) (P:=(r.Commits.getD x.toNat noCommit).Parents) (by omega) (K:=fun(_:Int) (y255:List Int)=>(apM acc [Vm.Commit.mk y255 (r.Commits.getD x.toNat noCommit).Who (r.Commits.getD x.toNat noCommit).Tree]).bind fun q321=>zdW r (liveL r) (fun(_:Int) (y40:List Vm.Commit) (y43:List Vm.Head)=>zb0 r (liveL r) (fun _ y342 y345=>some (Vm.Repo.mk y342 y345)) (r.Heads.length+1) 0 y40 y43) m (w64 ((i:Int)+1)) q321 []) (r.Commits.getD x.toNat noCommit).Parents.length 0 ((r.Commits.getD x.toNat noCommit).Parents.length+1) (by omega) (by omega)
   rw[zmo]at e
   refine e.trans ?_
   rw[show(r.Commits.getD x.toNat noCommit).Parents.map (zbl (liveL r))=(r.Commits.getD x.toNat noCommit).Parents.map (plI (liveL r)) from zn4 hr hxm]
   rw[ap1 (show acc.length<=1048576 by omega),aA,zac hix (show(liveL r).length<=maxi by unfold maxi;omega)]
   rfl) (fun m acc=>by simp only[zdW,zad,aC]) (by omega)]
  rw[List.filter_eq_self.2 (fun _ _=>rfl)]
  show zb0 r (liveL r) _ (r.Heads.length+1) 0 (keepR r).Commits []=_
  rw[zaA (xs:=r.Heads) (p:=fun _=>true) (g:=zpZ (liveL r)) (Z:=fun acc=>some (Repo.mk (keepR r).Commits acc)) (f:=fun m acc i=>zb0 r (liveL r) _ m i (keepR r).Commits acc) (fun m i x acc hx ha=>by
   have hix:=zan hx
   simp only[zb0,zah hx,zae hx,aD,aA,zje (show(liveL r).length<=1000000 by omega),zni (zij hr (aH hx)),ap1 (show acc.length<=1048576 by omega),zac hix (show r.Heads.length<=maxi by unfold maxi;omega)]
   rfl) (fun m acc=>by simp only[zb0,zad,aC]) (by omega)]
  rw[List.filter_eq_self.2 (fun _ _=>rfl)]
  rfl
theorem zoj {num:List Int}{f:Int->Int}{c:Commit}(hp: ∀ p∈c.Parents,gi num p=some (f p))(hl:c.Parents.length<=1000){w:Str}{t:List File}{K:Int->List Int->Str->List File->Option Repo}:
 zcI num c K (c.Parents.length+1) 0 [] w t=K (c.Parents.length:Int) (c.Parents.map f) w t:=by
 have e:=zaA (xs:=c.Parents) (p:=fun _=>true) (g:=f) (Z:=fun acc=>K (c.Parents.length:Int) acc w t) (f:=fun m acc i=>zcI num c K m i acc w t) (fun m i x acc hx ha=>by
  have hix:=zan hx
  simp only[zcI,zah hx,zae hx,aD,aA,hp x (aH hx),ap1 (show acc.length<=1048576 by omega),zac hix (show c.Parents.length<=maxi by unfold maxi;omega)]) (fun m acc=>by simp only[zcI,zad,aC]) (m:=c.Parents.length+1) (by omega)
 rw[List.filter_eq_self.2 (fun _ _=>rfl)]at e
 exact e
theorem zmv {d:List Int}{p:Int}(h0:0<=p)(h:p.toNat<d.length):gi d p=some (d.getD p.toNat 0):=by
 have:=zfn (l:=d) h
 rwa [show((p.toNat:Nat):Int)=p by omega]at this
def zrF (r:Repo)(i:Nat)(num:List Int):Prop:=num.length=r.Commits.length /\ ∀ j (hj:j< (liveL r).length),j<i->num.getD ((liveL r)[j]).toNat 0=(j:Int)
theorem zok {r:Repo}(hr:repoB r=true){i:Nat}(hi:i< (liveL r).length){num:List Int}(h:zrF r i num):zrF r (i+1) (num.set ((liveL r)[i]).toNat (i:Int)):=by
 have hri:=zbd hr (List.getElem_mem hi)
 refine⟨by rw[List.length_set];exact h.1,fun j hj hji=>?_⟩
 have hrj:=zbd hr (List.getElem_mem hj)
 rw[List.getD_eq_getElem?_getD]
 rcases Nat.lt_or_ge j i with q |q
 ·have hlt:=List.pairwise_iff_getElem.1 (zeG r) j i hj hi q
  rw[List.getElem?_set_ne (by omega),<- List.getD_eq_getElem?_getD]
  exact h.2 j hj q
 ·obtain rfl:j=i:=by omega
  rw[List.getElem?_set_self (by rw[h.1];omega)]
  rfl
theorem zmI {r:Repo}(h:RpB r)(hr:repoB r=true){K:Int->List Commit->List Head->List Int->Option Repo}: ∀ (k i m:Nat) (num:List Int),i+k=(liveL r).length->k<m->zrF r i num->
 ∃ num',zrF r (liveL r).length num'/\zcJ r (liveL r) K m (i:Int) (((liveL r).take i).map fun i=>zmz (liveL r) (r.Commits.getD i.toNat noCommit)) [] num=K ((liveL r).length:Int) ((liveL r).map fun i=>zmz (liveL r) (r.Commits.getD i.toNat noCommit)) [] num'
 |k,i,0,num,_,hm,_=>by omega
 |0,i,m+1,num,hi,_,hN=>by
  obtain rfl:i=(liveL r).length:=by omega
  refine⟨num,hN,?_⟩
  simp only[zcJ,zad,aC,List.take_length]
 |k+1,i,m+1,num,hi,hm,hN=>by
  have hs:=zab hr
  have hle:=zf1 r
  have hlt:i< (liveL r).length:=by omega
  have hx:(liveL r)[i]? =some (liveL r)[i]:=aB hlt
  have hxm:=List.getElem_mem hlt
  have hrg:=zbd hr hxm
  have hN1:=zok hr hlt hN
  have hg:r.Commits[(liveL r)[i].toNat]? =some (r.Commits[(liveL r)[i].toNat]'(by omega)):=aB _
  have hc:CB (r.Commits.getD (liveL r)[i].toNat noCommit):=by rw[zbF hg];exact h.cat hg
  have hps:=zar hr (i:=(liveL r)[i].toNat) (by omega)
  unfold zaa at hps
  have e1:siM num (liveL r)[i] (i:Int)=some (num.set ((liveL r)[i]).toNat (i:Int)):=by
   have:=zcf (xs:=num) (i:=(liveL r)[i].toNat) (by rw[hN.1];omega) (i:Int)
   rwa [show(((liveL r)[i].toNat:Nat):Int)=(liveL r)[i] by omega]at this
  have el:(((liveL r).take i).map fun i=>zmz (liveL r) (r.Commits.getD i.toNat noCommit)).length=i:=by rw[List.length_map,List.length_take];omega
  have hpar: ∀ p∈(r.Commits.getD (liveL r)[i].toNat noCommit).Parents,gi (num.set ((liveL r)[i]).toNat (i:Int)) p=some (plI (liveL r) p):=fun p hp=>by
   have hpl:=zky hr hxm (p:=p) hp
   have hpr:=zbd hr hpl
   have hlt2:=zjm (zeG r) hpl hxm (by have:=hps.2 p hp;omega)
   rw[zhH (zeG r) hlt]at hlt2
   obtain⟨q0,q1,q2,q3⟩:=zbp hpl
   rw[zmv hpr.1 (by rw[hN1.1];omega)]
   have:=hN1.2 _ q2 (by omega)
   rw[q3]at this
   rw[this]
   rfl
  have et:za4 r (liveL r)[i]=some (r.Commits.getD (liveL r)[i].toNat noCommit).Tree:=by
   unfold za4
   rw[aE (by omega),aC,zaN hrg.1 hrg.2,aA]
  simp only[zcJ,jn,zah hx,zae hx,aD,aA,zmv hrg.1 (show(liveL r)[i].toNat<num.length by rw[hN.1];omega),el,e1,zaN hrg.1 hrg.2,et,zek hc.tree,zak]
  rw[zoj hpar (by omega),ap1 (by rw[el];omega),aA,zac hlt (show(liveL r).length<=maxi by unfold maxi;omega)]
  obtain⟨num',n1,n2⟩:=zmI (K:=K) h hr k (i+1) m _ (by omega) (by omega) hN1
  refine⟨num',n1,?_⟩
  rw[<- n2,List.take_succ_eq_append_getElem hlt,List.map_append]
  rfl
theorem ziP {r:Repo}(h:RpB r):zgd r=some (bif repoB r then keepR r else za5):=by
 unfold zgd
 rw[zcb h,aA]
 cases hr:repoB r with
 |false=>rfl
 |true=>
  have hs:=zab hr
  have hle:=zf1 r
  rw[aK,aC,aD,zjV (by simp[lim];omega),aA,znv hr,aA,zeZ (by rw[zh5];omega),aA]
  simp only[jn,zak]
  show zcJ r (liveL r) _ ((liveL r).length+1) 0 [] [] _=_
  obtain⟨num,n1,n2⟩:=zmI h hr (K:=fun(_:Int) (y54:List Vm.Commit) (y57:List Vm.Head) (y61:List Int)=>zbH r y61 (fun _ y479 y482=>some (Vm.Repo.mk y479 y482)) (r.Heads.length+1) 0 y54 y57) (liveL r).length 0 ((liveL r).length+1) (List.replicate r.Commits.length 0) (by omega) (by omega) ⟨by simp,fun j _ hj=>by omega⟩
  refine n2.trans ?_
  show zbH r num _ (r.Heads.length+1) 0 (keepR r).Commits []=_
  rw[zaA (xs:=r.Heads) (p:=fun _=>true) (g:=zpZ (liveL r)) (Z:=fun acc=>some (Repo.mk (keepR r).Commits acc)) (f:=fun m acc i=>zbH r num _ m i (keepR r).Commits acc) (fun m i x acc hx ha=>by
   have hix:=zan hx
   have hl:=zij hr (aH hx)
   have hrg:=zbd hr hl
   obtain⟨q0,q1,q2,q3⟩:=zbp hl
   have e:=n1.2 _ q2 q2
   rw[q3]at e
   have e2:gi num x.At=some (plI (liveL r) x.At):=by
    rw[zmv hrg.1 (by rw[n1.1];omega),e]
    rfl
   simp only[zbH,zah hx,zae hx,aD,aA,e2,ap1 (show acc.length<=1048576 by omega),zac hix (show r.Heads.length<=maxi by unfold maxi;omega)]
   rfl) (fun m acc=>by simp only[zbH,zad,aC]) (by omega)]
  rw[List.filter_eq_self.2 (fun _ _=>rfl)]
  rfl
theorem zkA {code:List Byte}(h:code.length<=1048576): ∃ x,zfQ code=some x/\Drawn x:=by
 unfold zfQ
 obtain⟨b,e,hr⟩:=zoD h
 obtain⟨x,q,e2,hx⟩:=zpF hr (by omega)
 rw[e,aA,e2,aA]
 exact⟨x,rfl,hx⟩
theorem zmJ {r:Repo}(h:RpB r)(hr:repoB r=true):RpB (keepR r):=by
 have hs:=zab hr
 have hle:=zf1 r
 refine⟨by rw[zcO];omega,fun c hc=>?_,by show(r.Heads.map _).length<=_;rw[List.length_map];omega,fun x hx=>?_⟩
 ·obtain⟨i,hi,rfl⟩:=List.mem_map.1 hc
  have hrg:=zbd hr hi
  have hg:r.Commits[i.toNat]? =some (r.Commits[i.toNat]'(by omega)):=aB _
  have hc:CB (r.Commits.getD i.toNat noCommit):=by rw[zbF hg];exact h.cat hg
  exact⟨by simp only[zmz,List.length_map];exact hc.par,hc.who,hc.tree⟩
 ·obtain⟨y,hy,rfl⟩:=List.mem_map.1 hx
  exact h.head y hy
theorem zmm {r:Repo}{good:List Int}(h:zjT r good=true):(∀ g∈good,upB r.Commits.length g=true)/\good.length<=16:=by
 unfold zjT at h
 simp only[aG,List.all_eq_true,decide_eq_true_eq]at h
 exact⟨h.1,by omega⟩
section
variable {r:l30Rd}{p:Int}
end
set_option linter.unusedSectionVars false
def zd1 (has list:List Int)(p:Int):Int:=bif zcF list p then plI list p else -1-plI has p
def zd4 (has list:List Int)(p:Int):Bool:=zcF list p||zcF has p
def zim (has list:List Int)(c:Commit):Commit:=⟨c.Parents.map (zd1 has list),c.Who,c.Tree⟩
def zdd (r:Repo)(has list:List Int)(x:Int):Bool:=(zaa r x.toNat).all (zd4 has list)
def zfM (r:Repo)(has list:List Int):List Commit:=list.map fun i=>zim has list (r.Commits.getD i.toNat noCommit)
def zhi (r:Repo)(has:List Int)(a:Int):Bool:=repoB r&&(zjT r has&&upB r.Commits.length a)
def zdP (r:Repo)(has:List Int)(a:Int):List Commit×Bool:=
 bif zhi r has a then(bif(leftL r has a).all (zdd r has (leftL r has a)) then(zfM r has (leftL r has a),true) else([],false)) else([],false)
theorem zlM {l:List Int}{n:Int}:decide (zbl l n<0) = !zcF l n:=by
 unfold zbl
 cases h:zcF l n with
 |true=>
  have:=(zbp (zaE.1 h)).1
  rw[aD,aE (by omega)]
  rfl
 |false=>rfl
theorem zk6 {l:List Int}{n:Int}: -1<=zbl l n/\zbl l n< (l.length:Int):=by
 unfold zbl
 cases h:zcF l n with
 |true=>
  have:=zbp (zaE.1 h)
  rw[aD]
  omega
 |false=>rw[aC];omega
theorem zlN {l:List Int}(hl:l.length<=1000000){n:Int}: ∀ (k i m:Nat),i+k=l.length->k<m->
 zbt l n (fun _ _=>some (-1)) m 0 (i:Int)=some (bif zcF (l.drop i) n then((i+(l.drop i).idxOf n:Nat):Int) else -1)
 |k,i,0,_,hm=>by omega
 |0,i,m+1,hi,_=>by
  obtain rfl:i=l.length:=by omega
  simp only[zbt,zad,aC,List.drop_length]
  rfl
 |k+1,i,m+1,hi,hm=>by
  have hlt:i<l.length:=by omega
  have hx:l[i]? =some l[i]:=aB hlt
  simp only[zbt,zah hx,zae hx,aD,aA,zac hlt (show l.length<=maxi by unfold maxi;omega)]
  rw[ziY hlt,zlN hl k (i+1) m (by omega) (by omega),show(n==l[i])=(l[i]==n) from zbT (by simp only[beq_iff_eq];exact⟨Eq.symm,Eq.symm⟩)]
  cases l[i]==n<;>rfl
theorem zlO {l:List Int}(hl:l.length<=1000000)(n:Int):zdq l n=some (zbl l n):=by
 unfold zdq
 simp only[jn,zak]
 have e:=zlN hl (n:=n) l.length 0 (l.length+1) (by omega) (by omega)
 refine e.trans ?_
 unfold zbl plI
 simp
section
variable {has list:List Int}(hh:has.length<=1000000)(hl:list.length<=1000000)
include hh hl
theorem zmS {c:Commit}(hP:c.Parents.length<=1000000){K:List Commit->Bool->Int->List Int->Str->List File->Option (List Commit×Bool)}{y:List Commit}{b:Bool}{w:Str}{t:List File}: ∀ (j k m:Nat),k+j=c.Parents.length->j<m->
 zeU has list c K m y b (k:Int) ((c.Parents.take k).map (zd1 has list)) w t=bif(c.Parents.drop k).all (zd4 has list) then K y b (c.Parents.length:Int) (c.Parents.map (zd1 has list)) w t else some ([],false)
 |j,k,0,_,hm=>by omega
 |0,k,m+1,hk,_=>by
  obtain rfl:k=c.Parents.length:=by omega
  rw[List.take_length,List.drop_length]
  simp only[zeU,zad,aC,List.all_nil,aD]
 |j+1,k,m+1,hk,hm=>by
  have hlt:k<c.Parents.length:=by omega
  have hx:c.Parents[k]? =some c.Parents[k]:=aB hlt
  have ih:=zmS hP (K:=K) (y:=y) (b:=b) (w:=w) (t:=t) j (k+1) m (by omega) (by omega)
  rw[List.take_succ_eq_append_getElem hlt,List.map_append]at ih
  have el:((c.Parents.take k).map (zd1 has list)).length<=1048576:=by rw[List.length_map,List.length_take];omega
  simp only[zeU,jn,zah hx,zae hx,aD,aA,zlO hl,zlO hh,zac hlt (show c.Parents.length<=maxi by unfold maxi;omega),ap1 el]
  rw[aI hlt,List.all_cons]
  have dl: ∀ l:List Int,decide ((0:Int)<=zbl l c.Parents[k])=zcF l c.Parents[k]:=fun l=>by
   have:=zlM (l:=l) (n:=c.Parents[k])
   cases hb:zcF l c.Parents[k]with
   |true=>rw[hb]at this;simp only[aK,decide_eq_false_iff_not]at this;exact aF (by omega)
   |false=>rw[hb]at this;simp only[Bool.not_false,decide_eq_true_eq]at this;exact aE (by omega)
  rw[dl list,dl has]
  cases h1:zcF list c.Parents[k]with
  |true=>
   have e1:zbl list c.Parents[k]=zd1 has list c.Parents[k]:=by unfold zbl zd1;rw[h1];rfl
   have e2:zd4 has list c.Parents[k]=true:=by unfold zd4;rw[h1];rfl
   simp only[aD,e1,e2,Bool.true_and]
   exact ih
  |false=>
   cases h2:zcF has c.Parents[k]with
   |false=>
    have e2:zd4 has list c.Parents[k]=false:=by unfold zd4;rw[h1,h2];rfl
    simp only[e2,Bool.false_and,aC]
   |true=>
    have e2:zd4 has list c.Parents[k]=true:=by unfold zd4;rw[h1,h2];rfl
    have e1: -1-zbl has c.Parents[k]=zd1 has list c.Parents[k]:=by unfold zbl zd1;rw[h1,h2];rfl
    have hr:=zk6 (l:=has) (n:=c.Parents[k])
    simp only[aD,aC,e2,Bool.true_and]
    rw[zai (by omega) (by omega),e1]
    exact ih
variable {r:Repo}(h:RpB r)(hr:repoB r=true)(hg: ∀ x∈list,0<=x/\x<=(r.Commits.length:Int)-1)
include h hr hg
theorem zoI {x:Int}(hx:x∈list):CB (r.Commits.getD x.toNat noCommit)/\(r.Commits.getD x.toNat noCommit).Parents.length<=2:=by
 have hrg:=hg x hx
 have hgx:r.Commits[x.toNat]? =some (r.Commits[x.toNat]'(by omega)):=aB _
 have hps:=zar hr (i:=x.toNat) (by omega)
 unfold zaa at hps
 exact⟨by rw[zbF hgx];exact h.cat hgx,hps.1⟩
theorem zmT {K:List Commit->Bool->List Commit->Int->Option (List Commit×Bool)}: ∀ (j k m:Nat),k+j=list.length->j<m->
 zdH r has list K m [] false ((list.take k).map fun i=>zim has list (r.Commits.getD i.toNat noCommit)) (k:Int)=bif(list.drop k).all (zdd r has list) then K [] false (zfM r has list) (list.length:Int) else some ([],false)
 |j,k,0,_,hm=>by omega
 |0,k,m+1,hk,_=>by
  obtain rfl:k=list.length:=by omega
  rw[List.take_length,List.drop_length]
  simp only[zdH,zad,aC,List.all_nil,aD]
  rfl
 |j+1,k,m+1,hk,hm=>by
  have hlt:k<list.length:=by omega
  have hx:list[k]? =some list[k]:=aB hlt
  have hxm:=List.getElem_mem hlt
  have hrg:=hg _ hxm
  obtain⟨hc,hp2⟩:=zoI hh hl h hr hg hxm
  have ih:=zmT (K:=K) j (k+1) m (by omega) (by omega)
  rw[List.take_succ_eq_append_getElem hlt,List.map_append]at ih
  have el:((list.take k).map fun i=>zim has list (r.Commits.getD i.toNat noCommit)).length<=1048576:=by rw[List.length_map,List.length_take];omega
  have et:za4 r list[k]=some (r.Commits.getD list[k].toNat noCommit).Tree:=by
   unfold za4
   rw[aE (by omega),aC,zaN hrg.1 hrg.2,aA]
  simp only[zdH,jn,zah hx,zae hx,aD,aA,zaN hrg.1 hrg.2,et,zek hc.tree,zak]
  have e:=zmS hh hl (c:=r.Commits.getD list[k].toNat noCommit) (by omega) (y:=[]) (b:=false) (w:=(r.Commits.getD list[k].toNat noCommit).Who) (t:=(r.Commits.getD list[k].toNat noCommit).Tree) (K:=fun(y217:List Vm.Commit) (y220:Bool) (y224:Int) (y225:List Int) (y228:Str) (y229:List Vm.File)=>
   (apM ((list.take k).map fun i=>zim has list (r.Commits.getD i.toNat noCommit)) [Vm.Commit.mk y225 y228 y229]).bind fun q357=>
   zdH r has list K m y217 y220 q357 (w64 ((k:Int)+1))) (r.Commits.getD list[k].toNat noCommit).Parents.length 0 ((r.Commits.getD list[k].toNat noCommit).Parents.length+1) (by omega) (by omega)
  refine e.trans ?_
  rw[aI hlt,List.all_cons,List.drop_zero]
  have ea:(r.Commits.getD list[k].toNat noCommit).Parents.all (zd4 has list)=zdd r has list list[k]:=rfl
  rw[ea]
  cases zdd r has list list[k]with
  |false=>rfl
  |true=>
   rw[aD,Bool.true_and,ap1 el,aA,zac hlt (show list.length<=maxi by unfold maxi;omega)]
   exact ih
end
theorem zop {r:Repo}(h:RpB r){has:List Int}(hl:has.length<=1000)(a:Int):zbI r has a=some (zhi r has a):=by
 unfold zbI zhi zjT
 simp only[jn,zlF h (show has.length<=100000 by omega),zgY h,aA]
 cases repoB r with
 |false=>rfl
 |true=>
  cases has.all (upB r.Commits.length)with
  |false=>rfl
  |true=>
   cases decide ((has.length:Int)<=16)<;>rfl
theorem zhe {r:Repo}{has:List Int}{a:Int}(h:zhi r has a=true):repoB r=true/\upB r.Commits.length a=true/\zjT r has=true/\(∀ g∈has,upB r.Commits.length g=true)/\has.length<=16:=by
 unfold zhi at h
 simp only[aG]at h
 obtain⟨h1,h2,h3⟩:=h
 exact⟨h1,h3,h2,(zmm h2).1,(zmm h2).2⟩
theorem ziU {r:Repo}{has:List Int}{a x:Int}(hx:x∈leftL r has a):0<=x/\x<=(r.Commits.length:Int)-1:=zaO (zeq.1 hx).1
theorem zmc {r:Repo}(h:RpB r){has:List Int}(hl:has.length<=1000)(a:Int):zie r has a=some (zdP r has a):=by
 unfold zie zdP
 rw[zop h hl,aA]
 cases hs:zhi r has a with
 |false=>rfl
 |true=>
  obtain⟨h1,h2,h3,h4,h5⟩:=zhe hs
  have hle:=zf2 r has a
  have hsm:=(zab h1).1
  rw[aK,aC,aD,zlJ h1 h2 (by omega) h4,aA]
  simp only[jn,zak]
  have e:=zmT (has:=has) (list:=leftL r has a) (by omega) (by omega) h h1 (fun x hx=>ziU hx) (K:=fun _ _ y26 _=>some (y26,true)) (leftL r has a).length 0 ((leftL r has a).length+1) (by omega) (by omega)
  refine e.trans ?_
  rw[List.drop_zero]
  cases(leftL r has a).all (zdd r has (leftL r has a))<;>rfl
theorem zgQ {r:Repo}{has:List Int}{a:Int}(h:(zdP r has a).2=true):zhi r has a=true/\(leftL r has a).all (zdd r has (leftL r has a))=true/\(zdP r has a).1=zfM r has (leftL r has a):=by
 unfold zdP at h ⊢
 cases hs:zhi r has a with
 |false=>rw[hs]at h;cases h
 |true=>
  rw[hs,aD]at h
  cases ha:(leftL r has a).all (zdd r has (leftL r has a))with
  |false=>rw[ha]at h;cases h
  |true=>exact⟨rfl,rfl,rfl⟩
theorem ziG {r:Repo}{has:List Int}{a:Int}(h:(zdP r has a).2=false):(zdP r has a).1=[]:=by
 unfold zdP at h ⊢
 cases hs:zhi r has a with
 |false=>rfl
 |true=>
  rw[hs,aD]at h
  cases ha:(leftL r has a).all (zdd r has (leftL r has a))with
  |false=>rfl
  |true=>rw[ha]at h;cases h
theorem znh {c:Commit}(h:CB c)(has list:List Int):CB (zim has list c):=⟨by simp only[zim,List.length_map];exact h.par,h.who,h.tree⟩
theorem zoq {r:Repo}(h:RpB r)(has:List Int)(a:Int): ∀ c∈(zdP r has a).1,CB c:=fun c hc=>by
 cases h2:(zdP r has a).2 with
 |false=>rw[ziG h2]at hc;simp at hc
 |true=>
  obtain⟨h3,_,h4⟩:=zgQ h2
  rw[h4]at hc
  obtain⟨x,hx,rfl⟩:=List.mem_map.1 hc
  have hrg:=ziU hx
  have hgx:r.Commits[x.toNat]? =some (r.Commits[x.toNat]'(by omega)):=aB _
  exact znh (by rw[zbF hgx];exact h.cat hgx) _ _
theorem znH {r:Repo}(has:List Int)(a:Int):(zdP r has a).1.length<=r.Commits.length:=by
 cases h2:(zdP r has a).2 with
 |false=>rw[ziG h2];simp
 |true=>
  obtain⟨h3,_,h4⟩:=zgQ h2
  rw[h4]
  unfold zfM
  rw[List.length_map]
  exact zf2 r has a
theorem zrJ {l:List Int}(h:l.Nodup){i:Nat}(hi:i<l.length):plI l l[i]=(i:Int):=by
 unfold plI
 rw[h.idxOf_getElem i hi]
theorem zqC {l:List Int}{a b:Int}(ha:a∈l)(hb:b∈l)(e:plI l a=plI l b):a=b:=by
 obtain⟨_,_,h1,e1⟩:=zbp ha
 obtain⟨_,_,h2,e2⟩:=zbp hb
 have q1:l[(plI l a).toNat]? =some a:=by rw[aB h1,e1]
 have q2:l[(plI l b).toNat]? =some b:=by rw[aB h2,e2]
 rw[e,q2]at q1
 exact(Option.some.inj q1).symm
structure Top (r:Repo) (l:List Int):Prop where
 nd:l.Nodup
 rg: ∀ x∈l,0<=x/\x<=(r.Commits.length:Int)-1
 up: ∀ x∈l,∀ p∈zaa r x.toNat,p∈l/\plI l p<plI l x
def ziX (r:Repo)(l:List Int):List Commit:=l.map fun i=>zmz l (r.Commits.getD i.toNat noCommit)
theorem znI {x r:Repo}{l:List Int}(hx:x.Commits=ziX r l){i:Nat}(hi:i<l.length):x.Commits.getD i noCommit=zmz l (r.Commits.getD l[i].toNat noCommit):=by
 have:x.Commits[i]? =some (zmz l (r.Commits.getD l[i].toNat noCommit)):=by
  rw[hx]
  unfold ziX
  rw[List.getElem?_map,aB hi]
  rfl
 exact zbF this
theorem zo3 {x r:Repo}{l:List Int}(hr:repoB r=true)(ht:Top r l)(hx:x.Commits=ziX r l):zj4 x.Commits=true:=by
 have hlen:x.Commits.length=l.length:=by rw[hx];simp[ziX]
 refine zaC.2 fun i _ hi=>?_
 rw[hlen,Nat.zero_add]at hi
 have hm:=List.getElem_mem hi
 have hg:=ht.rg _ hm
 have hc:=zeu hr (i:=l[i].toNat) (by omega)
 rw[znI hx hi]
 unfold zjL at hc ⊢
 simp only[aG,List.all_eq_true]at hc ⊢
 obtain⟨c1,c2,c3,c4⟩:=hc
 have hsub: ∀ p∈(r.Commits.getD l[i].toNat noCommit).Parents,p∈l:=fun p hp=>(ht.up _ hm p hp).1
 refine⟨fun q hq=>?_,by simpa[zmz]using c2,?_,c4⟩
 ·obtain⟨p,hp,rfl⟩:=List.mem_map.1 hq
  have h1:=zbp (hsub p hp)
  have h2:=(ht.up _ hm p hp).2
  rw[zrJ ht.nd hi]at h2
  exact zap.2 (by omega)
 ·show zlr ((r.Commits.getD l[i].toNat noCommit).Parents.map (plI l))=true
  revert c3 hsub
  generalize (r.Commits.getD l[i].toNat noCommit).Parents=ps
  intro c3 hsub
  match ps with
  | []=>rfl
  | [p]=>rfl
  | [p,q]=>
   have hne:p≠q:=by simpa[zlr]using c3
   have:plI l p≠plI l q:=fun e=>hne (zqC (hsub p (by simp)) (hsub q (by simp)) e)
   simpa[zlr]using this
  |p::q::s::t=>rfl
theorem zoJ (l:List Int)(n:Int):0<=plI l n/\plI l n<=(l.length:Int):=by
 unfold plI
 have:=List.idxOf_le_length (a:=n) (l:=l)
 omega
theorem znJ {has list:List Int}(hh:has.length<=1000000)(hl:list.length<=1000000)(p:Int):zhs (zd1 has list p):=by
 unfold zd1 zhs
 have h1:=zoJ has p
 have h2:=zoJ list p
 cases zcF list p
 ·rw[aC];omega
 ·rw[aD];omega
structure SentB (sent:List Commit):Prop where
 len:sent.length<=16
 cb: ∀ c∈sent,CB c
 fit: ∀ c∈sent,∀ p∈c.Parents,zhs p
theorem zmd {r:Repo}(h:RpB r)(hc:r.Commits.length<=16){has:List Int}(hl:has.length<=1000)(a:Int):SentB (zdP r has a).1:=by
 have hle:=znH (r:=r) has a
 refine⟨by omega,zoq h has a,fun c hm p hp=>?_⟩
 cases h2:(zdP r has a).2 with
 |false=>rw[ziG h2]at hm;simp at hm
 |true=>
  obtain⟨_,_,h4⟩:=zgQ h2
  rw[h4]at hm
  obtain⟨x,hx,rfl⟩:=List.mem_map.1 hm
  obtain⟨q,_,rfl⟩:=List.mem_map.1 hp
  have hll:=zf2 r has a
  exact znJ (by omega) (by omega) q
theorem SentB.take {sent:List Commit}(h:SentB sent)(k:Nat):SentB (sent.take k):=
 ⟨Nat.le_trans (List.length_take_le' k sent) h.len,fun c hc=>h.cb c (List.mem_of_mem_take hc),fun c hc=>h.fit c (List.mem_of_mem_take hc)⟩
theorem SentB.set {sent:List Commit}(h:SentB sent){c:Commit}(hc:CB c)(hf: ∀ p∈c.Parents,zhs p)(k:Nat):SentB (sent.set k c):=
 ⟨by rw[List.length_set];exact h.len,fun d hd=>by
  rcases List.mem_or_eq_of_mem_set hd with q |q
  ·exact h.cb d q
  ·rw[q];exact hc,fun d hd=>by
  rcases List.mem_or_eq_of_mem_set hd with q |q
  ·exact h.fit d q
  ·rw[q];exact hf⟩
theorem zme (has:List Int)(base:Nat): ∀ (cs:List Commit) (i0 i:Nat),(ze0 has base i0 cs)[i]? =(cs[i]?).map (toC has base (i0+i))
 | [],i0,i=>by simp[ze0]
 |c::cs,i0,0=>by simp[ze0]
 |c::cs,i0,i+1=>by
  simp only[ze0,List.getElem?_cons_succ]
  rw[zme has base cs (i0+1) i,show i0+1+i=i0+(i+1) by omega]
theorem znx {r:Repo}{has:List Int}{sent:List Commit}(hr:RpB r)(hok:repoB r=true)(hs:SentB sent){n:Str}(hn:n.length<=1048576):RpB (zg9 r has sent n):=by
 have h1:=zab hok
 have hl:=hs.len
 exact(znd (has:=has) hr (by omega) hs.cb).headR (show r.Heads.length<=100000 by omega) hn _
theorem znB {r:Repo}{has:List Int}{sent:List Commit}{n:Str}(h:(zkk r has sent n).2=true):zkk r has sent n=(zg9 r has sent n,true)/\repoB (zg9 r has sent n)=true/\repoB r=true:=by
 unfold zkk at h ⊢
 cases hok:repoB r with
 |false=>rw[hok]at h;cases h
 |true=>
  rw[hok,aD]at h
  cases hq:okS has 0 sent&&(zjT r has&&repoB (zg9 r has sent n))with
  |false=>rw[hq]at h;cases h
  |true=>
   simp only[aG]at hq
   exact⟨rfl,hq.2.2,rfl⟩
section
variable {x:Repo}(hr:repoB x=true){a b:Int}(ha:upB x.Commits.length a=true)(hb:upB x.Commits.length b=true)
include hr ha
include hb
end
theorem zr9 {has:List Int}: ∀ (cs:List Commit) (i0:Nat),(∀ (j:Nat) (c:Commit),cs[j]? =some c->c.Parents.all (onP has (i0+j))=true)->okS has i0 cs=true
 | [],_,_=>rfl
 |c::cs,i0,h=>by
  unfold okS
  have h00:=h 0 c rfl
  rw[Nat.add_zero]at h00
  rw[h00,Bool.true_and]
  exact zr9 cs (i0+1) fun j d hd=>by
   have:=h (j+1) d (by rw[List.getElem?_cons_succ];exact hd)
   rwa [show i0+(j+1)=i0+1+j by omega]at this
section
variable {r:Repo}(hr:repoB r=true){a:Int}(ha:upB r.Commits.length a=true)
include hr ha
theorem zor {c p:Int}(hc:c∈allA r a)(hp:p∈zaa r c.toNat):p∈allA r a/\p<c:=by
 have ua:=zap.1 ha
 have hm:=zaO hc
 have h1:=(zba hr ua.1 ua.2 c).1 hc
 have h2:=(zar hr (i:=c.toNat) (by omega)).2 p hp
 exact⟨(zba hr ua.1 ua.2 p).2 ⟨h2.1,Rc.step h1.2 hp⟩,by omega⟩
theorem zsT:Top r (allA r a):=⟨zgj.nodup (zfy r a),fun x hx=>zaO hx,fun x hx p hp=>by
 have h1:=zor hr ha hx hp
 exact⟨h1.1,zjm (zfy r a) h1.1 hx h1.2⟩⟩
theorem zrK:leftL r [] a=allA r a:=List.filter_eq_self.2 fun x _=>rfl
theorem zoK {c p:Int}(hc:c∈allA r a)(hp:p∈zaa r c.toNat):zd1 [] (allA r a) p=plI (allA r a) p:=by
 unfold zd1
 rw[zaE.2 (zor hr ha hc hp).1]
 rfl
theorem zrL:(allA r a).all (zdd r [] (allA r a))=true:=by
 rw[List.all_eq_true]
 intro c hc
 unfold zdd
 rw[List.all_eq_true]
 intro p hp
 unfold zd4
 rw[zaE.2 (zor hr ha hc hp).1]
 rfl
theorem zqD {j:Nat}{c:Int}(hc:(allA r a)[j]? =some c){p:Int}(hp:p∈zaa r c.toNat):upB (j:Int) (plI (allA r a) p)=true:=by
 obtain⟨hj,e⟩:=List.getElem?_eq_some_iff.1 hc
 have h1:=zor hr ha (aH hc) hp
 have h2:=zjm (zfy r a) h1.1 (aH hc) h1.2
 rw[<- e,zhH (zfy r a) hj]at h2
 exact zap.2 ⟨(zbp h1.1).1,by omega⟩
theorem zrM:ze0 [] 0 0 (zfM r [] (allA r a))=ziX r (allA r a):=by
 apply List.ext_getElem?
 intro j
 rw[zme,Nat.zero_add]
 unfold zfM ziX
 rw[List.getElem?_map,List.getElem?_map]
 cases hc:(allA r a)[j]? with
 |none=>rfl
 |some c=>
  have hcm:=aH hc
  simp only[Option.map_some]
  congr 1
  unfold toC zim zmz
  simp only[List.map_map]
  congr 1
  refine List.map_congr_left fun p hp=>?_
  simp only[Function.comp_apply]
  rw[zoK hr ha hcm hp]
  unfold toP
  rw[zqD hr ha hc hp,aD]
  show((0:Nat):Int)+ _=_
  omega
theorem zsU:okS [] 0 (zfM r [] (allA r a))=true:=by
 refine zr9 _ 0 fun j d hd=>?_
 rw[Nat.zero_add]
 unfold zfM at hd
 rw[List.getElem?_map]at hd
 cases hc:(allA r a)[j]? with
 |none=>rw[hc]at hd;cases hd
 |some c=>
  rw[hc]at hd
  cases hd
  rw[List.all_eq_true]
  intro q hq
  obtain⟨p,hp,rfl⟩:=List.mem_map.1 hq
  unfold onP
  rw[zoK hr ha (aH hc) hp,zqD hr ha hc hp]
  rfl
theorem zpH:0< (allA r a).length/\plI (allA r a) a=((allA r a).length:Int)-1:=by
 have ua:=zap.1 ha
 have hs:=zhw hr ua.1 ua.2
 have hpos:0< (allA r a).length:=List.length_pos_of_mem hs
 have hlast:=zny (zfy r a) hs fun y hy=>zos hr ua.1 ua.2 hy
 have hi:(allA r a).length-1< (allA r a).length:=by omega
 rw[List.getD_eq_getElem?_getD,aB hi,Option.getD_some]at hlast
 have:=zhH (zfy r a) hi
 rw[hlast]at this
 exact⟨hpos,by omega⟩
end
theorem zqE:repoB za5=true:=rfl
theorem zpj:RpB za5:=⟨by simp[za5],fun c hc=>by simp[za5]at hc,by simp[za5],fun c hc=>by simp[za5]at hc⟩
theorem zqF {r:Repo}(hr:repoB r=true){a:Int}(ha:upB r.Commits.length a=true){n:Str}(hn:zav n=true):
 repoB ⟨ziX r (allA r a),[⟨n,plI (allA r a) a⟩]⟩=true/\zkk za5 [] (zfM r [] (allA r a)) n=(⟨ziX r (allA r a),[⟨n,plI (allA r a) a⟩]⟩,true):=by
 obtain⟨hpos,hlast⟩:=zpH hr ha
 have hle:=zaS r a
 have hs:=zab hr
 have hsl:(zfM r [] (allA r a)).length=(allA r a).length:=by simp[zfM]
 have hgl:(ziX r (allA r a)).length=(allA r a).length:=by simp[ziX]
 have hok:repoB ⟨ziX r (allA r a),[⟨n,plI (allA r a) a⟩]⟩=true:=by
  refine zf0.2 ⟨⟨by show(ziX r (allA r a)).length<=16;omega,zo3 (x:=⟨ziX r (allA r a),[]⟩) hr (zsT hr ha) rfl⟩,zed.2 ⟨fun h hh=>?_,by simp,by simp⟩⟩
  simp only[List.mem_cons,List.not_mem_nil,or_false]at hh
  rw[hh]
  exact⟨hn,zap.2 (by show 0<=plI _ _/\plI _ _<=((ziX r (allA r a)).length:Int)-1;omega)⟩
 have eT:zg9 za5 [] (zfM r [] (allA r a)) n=⟨ziX r (allA r a),[⟨n,plI (allA r a) a⟩]⟩:=by
  unfold zg9
  show headR ⟨[]++ze0 [] 0 0 (zfM r [] (allA r a)),[]⟩ n (endAt [] 0 (zfM r [] (allA r a)).length)=_
  rw[zrM hr ha,hsl,List.nil_append]
  unfold endAt
  rw[beq_false_of_ne (by omega),aC,hlast,show(((0+(allA r a).length-1:Nat)):Int)=((allA r a).length:Int)-1 by omega]
  rfl
 refine⟨hok,?_⟩
 unfold zkk
 rw[zqE,zsU hr ha,eT,hok]
 rfl
theorem zpI {code:List Byte}(h:Bk.fit code):zjZ code=some true:=by
 unfold zjZ
 by_cases hc:(1048576:Int)< (code.length:Int)
 ·rw[aF hc];rfl
 obtain⟨x,e,hx⟩:=zkA (code:=code) (by omega)
 have hb:=hx.rb
 rw[aE hc,aC,e,aA]
 simp only[zfj,ziP hb,zmA hb,aA,jn,zcb hb]
 cases hr:repoB x with
 |false=>simp only[aC,ziT zpj,aO,aA,aK,Bool.not_false,aD]
 |true=>
  have hkb:=zmJ hb hr
  have hk:=zjg hr
  simp only[aD,ziT hkb,aO,aA,aK,aC]
  generalize keepR x=X at hkb hk
  by_cases hz:X.Heads=[]
  ·rw[hz];rfl
  have hpos:0<X.Heads.length:=List.length_pos_iff.2 hz
  rw[beq_false_of_ne (by omega),aC]
  have hx0:X.Heads[0]? =some X.Heads[0]:=aB hpos
  have g0:gi X.Heads 0=some X.Heads[0]:=zae hx0
  have hat:=zc3 hk (List.getElem_mem hpos)
  have hnl:=zbj hat.2.2
  have hs:=zab hk
  generalize hh:X.Heads[0]=hd at g0 hat hnl
  have ua:upB X.Commits.length hd.At=true:=zap.2 ⟨hat.1,hat.2.1⟩
  have hle:=zaS X hd.At
  have hsus:zhi X [] hd.At=true:=by unfold zhi zjT;rw[hk,ua];rfl
  have eS:zdP X [] hd.At=(zfM X [] (allA X hd.At),true):=by unfold zdP;rw[hsus,zrK hk ua,zrL hk ua];rfl
  have hsB:SentB (zfM X [] (allA X hd.At)):=by have:=zmd hkb hs.1 (has:=[]) (by simp) hd.At;rwa [eS]at this
  obtain⟨hok,eT⟩:=zqF hk ua hat.2.2
  have hl0:(za5.Commits.length+(zfM X [] (allA X hd.At)).length)<=1048576:=by have:=hsB.len;show 0+ _<=_;omega
  have hrbX:RpB ⟨ziX X (allA X hd.At),[⟨hd.Name,plI (allA X hd.At) hd.At⟩]⟩:=by
   have h1:=znB (r:=za5) (has:=[]) (sent:=zfM X [] (allA X hd.At)) (n:=hd.Name) (by rw[eT])
   have h2:=znx (r:=za5) (has:=[]) zpj zqE hsB (n:=hd.Name) (by omega)
   rw[eT]at h1
   have h3:=(Prod.mk.inj h1.1).1
   rwa [<- h3]at h2
  obtain⟨lpos,llast⟩:=zpH hk ua
  have hself:=zhw hk hat.1 hat.2.1
  obtain⟨q0,q1,q2,q3⟩:=zbp hself
  have hYl:(ziX X (allA X hd.At)).length=(allA X hd.At).length:=by simp[ziX]
  have eat:zjn ⟨ziX X (allA X hd.At),[⟨hd.Name,plI (allA X hd.At) hd.At⟩]⟩ hd.Name=plI (allA X hd.At) hd.At:=by
   unfold zjn
   rw[hok,aD]
   exact(zml (r:=⟨ziX X (allA X hd.At),[⟨hd.Name,plI (allA X hd.At) hd.At⟩]⟩) hok (x:=⟨hd.Name,plI (allA X hd.At) hd.At⟩) List.mem_cons_self).1
  have etr:zjP ⟨ziX X (allA X hd.At),[⟨hd.Name,plI (allA X hd.At) hd.At⟩]⟩ (plI (allA X hd.At) hd.At)=((X.Commits.getD hd.At.toNat noCommit).Tree,true):=by
   unfold zjP
   rw[hok,zap.2 (show 0<=plI (allA X hd.At) hd.At/\plI (allA X hd.At) hd.At<=((ziX X (allA X hd.At)).length:Int)-1 by omega)]
   show(zag _ _,true)=_
   unfold zag
   rw[znI (x:=⟨ziX X (allA X hd.At),[⟨hd.Name,plI (allA X hd.At) hd.At⟩]⟩) rfl q2,q3]
   rfl
  have eanc:zdl X hd.At=allA X hd.At:=by unfold zdl;rw[hk,ua];rfl
  have htb:=zd3 hkb ua
  unfold zag at htb
  rw[g0,aA,zmc hkb (by simp),eS,aA]
  rw[show(⟨[],[]⟩:Repo)=za5 from rfl,zkl zpj (by simp) hl0 hsB.cb hsB.fit (by omega),eT,aA]
  simp only[zfj,zka hrbX,eat,aA,ziS hrbX,etr,aD,zaN hat.1 hat.2.1,zgk htb,aO,zhm hkb,eanc,hYl]
theorem zdg {α:Type}{f:α->Nat}{c:Nat}: ∀ {t:List α},(∀ s∈t,f s<=c)->zc5 f t<=c*t.length
 | [],_=>by simp[zc5]
 |x::t,h=>by
  have h1:=h x (by simp)
  have h2:=zdg (t:=t) (fun s hs=>h s (by simp[hs]))
  simp only[zc5,aL,Nat.mul_add,Nat.mul_one]
  omega
theorem zlV {t:List Str}(h:zao t=true):Bk.bulk t<=130:=by
 have hl:=zaI h
 have hs:zc5 Bk.bulk t<=12*t.length:=zdg fun s hs=>by
  have:=zht (zbe h s hs)
  show s.length<=12
  omega
 show t.length+zc5 Bk.bulk t<=130
 omega
theorem zlW {t:List File}(h:zaq t=true):Bk.bulk t<=1208:=by
 have hl:=zaH h
 have hs:zc5 Bk.bulk t<=150*t.length:=zdg fun f hf=>by
  have h1:=zcN (zbU h hf)
  have h2:=zlV (zaB h f hf)
  show f.Path.length+Bk.bulk f.Text<=150
  omega
 show t.length+zc5 Bk.bulk t<=1208
 omega
theorem zmB {r:Repo}(h:repoB r=true){c:Commit}(hc:c∈r.Commits):c.Parents.length<=2/\(∀ p∈c.Parents,0<=p/\p<=16)/\zav c.Who=true/\zaq c.Tree=true:=by
 obtain⟨i,hi⟩:=List.mem_iff_getElem?.1 hc
 have hil:=zan hi
 have s1:=(zab h).1
 have:=zeu h (i:=i) (by omega)
 rw[zbF hi]at this
 unfold zjL at this
 simp only[aG,decide_eq_true_eq,List.all_eq_true]at this
 refine⟨by omega,fun p hp=>?_,this.2.2.2.1,this.2.2.2.2⟩
 have h1:=this.1 p hp
 unfold upB at h1
 simp only[aG,decide_eq_true_eq]at h1
 omega
theorem zlX {r:Repo}(h:repoB r=true):Bk.bulk r<=20000:=by
 obtain⟨s1,s2⟩:=zab h
 have h1:zc5 Bk.bulk r.Commits<=1218*r.Commits.length:=zdg fun c hc=>by
  obtain⟨c1,_,c3,c4⟩:=zmB h hc
  have:=zbj c3
  have:=zlW c4
  have hp:zc5 Bk.bulk c.Parents<=0*c.Parents.length:=zdg fun p hp=>Nat.le_refl 0
  show c.Parents.length+zc5 Bk.bulk c.Parents+(c.Who.length+Bk.bulk c.Tree)<=1218
  omega
 have h2:zc5 Bk.bulk r.Heads<=6*r.Heads.length:=zdg fun x hx=>by
  have:=zbj (zc3 h hx).2.2
  show x.Name.length+0<=6
  omega
 show r.Commits.length+zc5 Bk.bulk r.Commits+(r.Heads.length+zc5 Bk.bulk r.Heads)<=20000
 omega
theorem zlY {t:List File}(h:zaq t=true):Bk.fit t:=⟨by have:=zaH h;unfold maxi;omega,fun f hf=>⟨by have:=zcN (zbU h hf);show f.Path.length<=maxi;unfold maxi;omega,by
 have h1:=zaB h f hf
 have h2:=zaI h1
 exact zfF (by omega) (zbe h1)⟩⟩
theorem zlZ {r:Repo}(h:repoB r=true):Bk.fit r:=by
 obtain⟨s1,s2⟩:=zab h
 refine⟨⟨by unfold maxi;omega,fun c hc=>?_⟩,by unfold maxi;omega,fun x hx=>?_⟩
 ·obtain⟨c1,c2,c3,c4⟩:=zmB h hc
  refine⟨⟨by unfold maxi;omega,fun p hp=>?_⟩,by have:=zbj c3;show c.Who.length<=maxi;unfold maxi;omega,zlY c4⟩
  have:=c2 p hp
  show -9223372036854775808<=p/\p<=9223372036854775807
  omega
 ·obtain⟨h1,h2,h3⟩:=zc3 h hx
  refine⟨by have:=zbj h3;show x.Name.length<=maxi;unfold maxi;omega,?_⟩
  show -9223372036854775808<=x.At/\x.At<=9223372036854775807
  omega
theorem zgj.lt {l:List Int}(h:zgj l){i k:Nat}(hik:i<k)(hk:k<l.length):l.getD i 0<l.getD k 0:=by
 have h1:i<l.length:=by omega
 have:=List.pairwise_iff_getElem.1 h i k h1 hk hik
 rw[zci (aB h1),zci (aB hk)]
 exact this
theorem zgj.inj {l:List Int}(h:zgj l){i k:Nat}(hi:i<l.length)(hk:k<l.length)(e:l.getD i 0=l.getD k 0):i=k:=by
 rcases Nat.lt_trichotomy i k with h1 |h1 |h1
 ·have:=h.lt h1 hk;omega
 ·exact h1
 ·have:=h.lt h1 hi;omega
section
variable {r:Repo}(h:RpB r)(hr:repoB r=true)
include h hr
end
def zol (r:Repo)(n:Str)(x:Repo):Prop:=x=r\/x=za5\/repoB x=true
theorem zol.bulk {r x:Repo}{n:Str}(h:zol r n x):Bk.bulk x<=Bk.bulk r+20000:=by
 rcases h with h |h |h
 ·rw[h];omega
 ·rw[h];show 0+0+(0+0)<=_;omega
 ·have:=zlX h;omega
theorem zol.fit {r x:Repo}{n:Str}(hf:Bk.fit r)(h:zol r n x):Bk.fit x:=by
 rcases h with h |h |h
 ·rw[h];exact hf
 ·rw[h];exact⟨⟨by simp[za5,maxi],by simp[za5]⟩,by simp[za5,maxi],by simp[za5]⟩
 ·exact zlZ h
def ChH:Int->List Hunk->Prop
 |_,[]=>True
 |lo,d::l=>lo<=d.At/\ChH (d.At+d.Less.length+1) l
theorem ChH.mono: ∀ {l:List Hunk} {lo lo':Int},lo'<=lo->ChH lo l->ChH lo' l
 | [],_,_,_,_=>trivial
 |d::l,_,_,h,⟨h1,h2⟩=>⟨Int.le_trans h h1,h2⟩
def zlt:List Str->List Str->Nat
 |a::l,b::m=>bif a==b then zlt l m+1 else 0
 |_,_=>0
def zrb (t:List Str):List Str->Nat->Nat×Nat->Nat×Nat
 | [],_,r=>r
 |b::bs,i,r=>zrb t bs (i+1) (bif decide (r.2<zlt (b::bs) t) then(i,zlt (b::bs) t) else r)
def znS (base t:List Str):Nat×Nat:=zrb t base 0 (0,0)
def zn5 (out:List Delta)(x:Str):List Delta:=match out.getLast? with
 |some d=>bif decide (0<d.Lines.length) then out.dropLast++[⟨d.From,d.Many,d.Lines++[x]⟩] else out++[⟨0,0,[x]⟩]
 |none=>out++[⟨0,0,[x]⟩]
def ziQ (base:List Str):Nat->List Delta->List Str->List Delta
 |0,out,_=>out
 |_+1,out,[]=>out
 |n+1,out,x::t=>bif decide (0< (znS base (x::t)).2) then ziQ base n (out++[⟨(znS base (x::t)).1,(znS base (x::t)).2,[]⟩]) ((x::t).drop (znS base (x::t)).2) else ziQ base n (zn5 out x) t
def zlc (base t:List Str):List Delta:=ziQ base t.length [] t
def OD (n:Nat)(l:List Owner):Prop:=l.length<=n /\ ∀ o∈l,o.Path.length<=10/\o.Who.length<=10
theorem OD.fit {n:Nat}{l:List Owner}(h:OD n l)(hn:n<=1000):Bk.fit l:=⟨by have:=h.1;unfold maxi;omega,fun o ho=>by
 have:=h.2 o ho
 exact⟨by show o.Path.length<=maxi;unfold maxi;omega,by show o.Who.length<=maxi;unfold maxi;omega⟩⟩
section
variable {base t:List Str}(hb:zao base=true)(ht:zao t=true)
include hb ht
end
def zp0 (list:List (List Str))(ds:List Int)(i:Nat)(t:List Str)(b dep:Int)(d:List Delta):Prop:=(b = -1/\d=zlc [] t/\dep=1) \/ ∃ k o dk,k<i/\b=(k:Int)/\list[k]? =some o/\ds[k]? =some dk/\d=zlc o t/\dep=dk+1/\dk<=2
theorem zp0.snoc {list:List (List Str)}{ds:List Int}{i:Nat}{t:List Str}{b dep z:Int}{d:List Delta}(h:zp0 list ds i t b dep d):zp0 list (ds++[z]) i t b dep d:=by
 rcases h with h |⟨k,o,dk,h1,h2,h3,h4,h5⟩
 ·exact .inl h
 ·exact .inr ⟨k,o,dk,h1,h2,h3,by rw[aM (List.getElem?_eq_some_iff.1 h4).1];exact h4,h5⟩
section
variable {list:List (List Str)}(h12:list.length<=12)(hl: ∀ t∈list,zao t=true)
include h12 hl
end
end Go.Vm
