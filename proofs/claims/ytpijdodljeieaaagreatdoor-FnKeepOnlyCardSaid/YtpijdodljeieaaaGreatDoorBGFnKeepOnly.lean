/- Plain law FnKeepOnly, and what it uses: what the models answer. Conditions: each law's own premises. -/
import Derived.Test.YtpijdodljeieaaaGreatDoorBGFnKeepOnlya
import Derived.Test.YtpijdodljeieaaaGreatDoorBLw
namespace Go.Vm
open Go Go.Sx
set_option linter.unusedSimpArgs false
set_option linter.unusedVariables false
def plI (l:List Int)(n:Int):Int:=(l.idxOf n:Int)
theorem zgj.nodup {l:List Int}(h:zgj l):l.Nodup:=List.Pairwise.imp (fun hab e=>by rw[e]at hab;exact Int.lt_irrefl _ hab) h
theorem zhH {l:List Int}(h:zgj l){i:Nat}(hi:i<l.length):plI l l[i]=(i:Int):=by
 unfold plI
 rw[h.nodup.idxOf_getElem i hi]
theorem zbp {l:List Int}{n:Int}(h:n∈l):0<=plI l n/\plI l n< (l.length:Int) /\ ∃ hi:(plI l n).toNat<l.length,l[(plI l n).toNat]=n:=by
 unfold plI
 have hl:=List.idxOf_lt_length_of_mem h
 refine⟨Int.natCast_nonneg _,by omega,hl,?_⟩
 exact List.getElem_idxOf hl
theorem zjm {l:List Int}(h:zgj l){a b:Int}(ha:a∈l)(hb:b∈l)(hab:a<b):plI l a<plI l b:=by
 obtain⟨i,hi,rfl⟩:=List.getElem_of_mem ha
 obtain⟨j,hj,rfl⟩:=List.getElem_of_mem hb
 rw[zhH h hi,zhH h hj]
 have hp:=List.pairwise_iff_getElem.1 h
 rcases Nat.lt_trichotomy i j with q |q |q
 ·omega
 ·subst q;exact absurd hab (Int.lt_irrefl _)
 ·have:=hp j i hj hi q
  omega
theorem zpf {l:List Int}(h:zgj l){a b:Int}(ha:a∈l)(hb:b∈l)(e:plI l a=plI l b):a=b:=by
 rcases Int.lt_trichotomy a b with q |q |q
 ·have:=zjm h ha hb q;omega
 ·exact q
 ·have:=zjm h hb ha q;omega
theorem zpg {l m:List Int}(h:zgj l)(hm:zgj m)(hs: ∀ x∈m,x∈l):zgj (m.map (plI l)):=by
 unfold zgj at hm ⊢
 rw[List.pairwise_map]
 exact hm.imp_of_mem fun ha hb hab=>zjm h (hs _ ha) (hs _ hb) hab
theorem zeG (r:Repo):zgj (liveL r):=zh9 _
theorem zfB {r:Repo}(hr:repoB r=true){x:Int}:x∈liveL r ↔ ∃ h∈r.Heads,x∈allA r h.At:=by
 constructor
 ·intro hx
  have h0:=zj3.1 hx
  have hl:x.toNat<r.Commits.length:=by
   rcases Nat.lt_or_ge x.toNat r.Commits.length with q |q
   ·exact q
   ·have:=h0.2
    unfold mkd at this
    rw[List.getD_eq_getElem?_getD,List.getElem?_eq_none (by rw[zh5];exact q)]at this
    cases this
  have e:=zmO (r:=r) hl
  rw[show((x.toNat:Nat):Int)=x by omega,zaE.2 hx]at e
  obtain⟨h,h1,h2⟩:=List.any_eq_true.1 e.symm
  exact⟨h,h1,zaE.1 h2⟩
 ·rintro⟨h,h1,h2⟩
  have hm:=zaO h2
  have e:=zmO (r:=r) (j:=x.toNat) (by omega)
  rw[show((x.toNat:Nat):Int)=x by omega]at e
  refine zaE.1 (e.trans ?_)
  exact List.any_eq_true.2 ⟨h,h1,zaE.2 h2⟩
theorem zbd {r:Repo}(hr:repoB r=true){x:Int}(hx:x∈liveL r):0<=x/\x<=(r.Commits.length:Int)-1:=by
 obtain⟨h,_,h2⟩:=(zfB hr).1 hx
 exact zaO h2
theorem znE {r:Repo}(hr:repoB r=true){x:Int}(hx:x∈liveL r){c:Nat}(hc:Rc r x.toNat c):(c:Int)∈liveL r:=by
 obtain⟨h,h1,h2⟩:=(zfB hr).1 hx
 have ha:=zc3 hr h1
 obtain⟨q0,q1⟩:=(zba hr ha.1 ha.2.1 x).1 h2
 exact(zfB hr).2 ⟨h,h1,(zba hr ha.1 ha.2.1 _).2 ⟨Int.natCast_nonneg _,q1.trans hc⟩⟩
theorem zky {r:Repo}(hr:repoB r=true){x p:Int}(hx:x∈liveL r)(hp:p∈zaa r x.toNat):p∈liveL r:=by
 have hm:=zbd hr hx
 have h0:=((zar hr (i:=x.toNat) (by omega)).2 p hp).1
 have:=znE hr hx (Rc.step (Rc.refl _) hp)
 rwa [show((p.toNat:Nat):Int)=p by omega]at this
theorem zij {r:Repo}(hr:repoB r=true){h:Head}(hh:h∈r.Heads):h.At∈liveL r:=by
 have ha:=zc3 hr hh
 exact(zfB hr).2 ⟨h,hh,zhw hr ha.1 ha.2.1⟩
def zmz (l:List Int)(c:Commit):Commit:=⟨c.Parents.map (plI l),c.Who,c.Tree⟩
def zpZ (l:List Int)(h:Head):Head:=⟨h.Name,plI l h.At⟩
def keepR (r:Repo):Repo:=⟨(liveL r).map fun i=>zmz (liveL r) (r.Commits.getD i.toNat noCommit),r.Heads.map (zpZ (liveL r))⟩
theorem zcO (r:Repo):(keepR r).Commits.length=(liveL r).length:=by simp[keepR]
theorem zlU {r:Repo}{i:Nat}(hi:i< (liveL r).length):(keepR r).Commits.getD i noCommit=zmz (liveL r) (r.Commits.getD (liveL r)[i].toNat noCommit):=by
 have hx:(keepR r).Commits[i]? =some (zmz (liveL r) (r.Commits.getD (liveL r)[i].toNat noCommit)):=by
  unfold keepR
  simp only
  rw[List.getElem?_map,aB hi]
  rfl
 exact zbF hx
theorem zn3 {r:Repo}{i:Nat}(hi:i< (liveL r).length):zaa (keepR r) i=(zaa r (liveL r)[i].toNat).map (plI (liveL r)):=by
 unfold zaa
 rw[zlU hi]
 rfl
theorem zjg {r:Repo}(hr:repoB r=true):repoB (keepR r)=true:=by
 have hA:=zeG r
 have hR:=zf0.1 hr
 have hle:=zf1 r
 refine zf0.2 ⟨⟨by rw[zcO];omega,?_⟩,zed.2 ⟨fun h hh=>?_,?_,?_⟩⟩
 ·refine zaC.2 fun i _ hi=>?_
  rw[zcO,Nat.zero_add]at hi
  have hm:=List.getElem_mem hi
  have hx:=zbd hr hm
  have hc:=zeu hr (i:=(liveL r)[i].toNat) (by omega)
  rw[zlU hi]
  unfold zjL at hc ⊢
  simp only[aG,List.all_eq_true]at hc ⊢
  obtain⟨c1,c2,c3,c4⟩:=hc
  have hsub: ∀ p∈(r.Commits.getD (liveL r)[i].toNat noCommit).Parents,p∈liveL r:=fun p hp=>zky hr hm hp
  refine⟨fun q hq=>?_,by simpa[zmz]using c2,?_,c4⟩
  ·obtain⟨p,hp,rfl⟩:=List.mem_map.1 hq
   have hu:=zap.1 (c1 p hp)
   have h1:=zbp (hsub p hp)
   have h2:=zjm hA (hsub p hp) hm (by omega)
   rw[zhH hA hi]at h2
   exact zap.2 (by omega)
  ·show zlr ((r.Commits.getD (liveL r)[i].toNat noCommit).Parents.map (plI (liveL r)))=true
   revert c3 hsub
   generalize (r.Commits.getD (liveL r)[i].toNat noCommit).Parents=ps
   intro c3 hsub
   match ps with
   | []=>rfl
   | [p]=>rfl
   | [p,q]=>
    have hne:p≠q:=by simpa[zlr]using c3
    have:plI (liveL r) p≠plI (liveL r) q:=fun e=>hne (zpf hA (hsub p (by simp)) (hsub q (by simp)) e)
    simpa[zlr]using this
   |p::q::s::t=>rfl
 ·obtain⟨g,hg,rfl⟩:=List.mem_map.1 hh
  have h1:=zbp (zij hr hg)
  exact⟨(zc3 hr hg).2.2,zap.2 (by rw[zcO];show 0<=plI _ _/\plI _ _<=_;omega)⟩
 ·show((r.Heads.map (zpZ (liveL r))).Pairwise fun x y=>x.Name<y.Name)
  rw[List.pairwise_map]
  exact(zed.1 hR.2).2.1
 ·show(r.Heads.map _).length<=5
  rw[List.length_map]
  exact(zed.1 hR.2).2.2
theorem zsR {r:Repo}(hr:repoB r=true){i:Nat}(hi:i< (liveL r).length){j:Nat}(h:Rc (keepR r) i j): ∃ hj:j< (liveL r).length,Rc r (liveL r)[i].toNat (liveL r)[j].toNat:=by
 induction h with
 |refl=>exact⟨hi,Rc.refl _⟩
 | @step b p hb hp ih=>
  obtain⟨hj,q⟩:=ih
  rw[zn3 hj]at hp
  obtain⟨x,hx,rfl⟩:=List.mem_map.1 hp
  have hm:=List.getElem_mem hj
  have hxl:=zky hr hm hx
  obtain⟨_,_,hlt,e⟩:=zbp hxl
  refine⟨hlt,?_⟩
  rw[e]
  exact Rc.step q hx
theorem zsS {r:Repo}(hr:repoB r=true){i:Nat}(hi:i< (liveL r).length){c:Nat}(h:Rc r (liveL r)[i].toNat c):Rc (keepR r) i (plI (liveL r) (c:Int)).toNat:=by
 have hm:=List.getElem_mem hi
 have hx:=zbd hr hm
 generalize ha:(liveL r)[i].toNat=a at h
 induction h with
 |refl=>
  have e:((a:Nat):Int)=(liveL r)[i]:=by omega
  rw[e,zhH (zeG r) hi,Int.toNat_natCast]
  exact Rc.refl _
 | @step b p hb hp ih=>
  have hbl:(b:Int)∈liveL r:=znE hr hm (by rw[ha];exact hb)
  obtain⟨_,_,hlt,e⟩:=zbp hbl
  have hp0:=((zar hr (i:=b) (by have:=zbd hr hbl;omega)).2 p hp).1
  refine Rc.step ih (p:=plI (liveL r) ((p.toNat:Nat):Int)) ?_
  rw[zn3 hlt,e,Int.toNat_natCast]
  refine List.mem_map.2 ⟨p,hp,?_⟩
  rw[show((p.toNat:Nat):Int)=p by omega]
theorem zoC {r:Repo}(hr:repoB r=true){a:Int}(ha:a∈liveL r):allA (keepR r) (plI (liveL r) a)=(allA r a).map (plI (liveL r)):=by
 have hA:=zeG r
 have hk:=zjg hr
 have hx:=zbd hr ha
 obtain⟨p0,p1,hlt,e⟩:=zbp ha
 have hsub: ∀ x∈allA r a,x∈liveL r:=fun x hm=>by
  obtain⟨q0,q1⟩:=(zba hr hx.1 hx.2 x).1 hm
  have:=znE hr ha q1
  rwa [show((x.toNat:Nat):Int)=x by omega]at this
 refine zgj.ext (zh9 _) (zpg hA (zh9 _) hsub) fun y=>?_
 rw[zba hk p0 (by rw[zcO];omega),List.mem_map]
 constructor
 ·rintro⟨y0,h⟩
  obtain⟨hj,q⟩:=zsR hr hlt h
  rw[e]at q
  have hm2:=List.getElem_mem hj
  have hx2:=zbd hr hm2
  refine⟨(liveL r)[y.toNat],(zba hr hx.1 hx.2 _).2 ⟨hx2.1,q⟩,?_⟩
  rw[zhH hA hj]
  omega
 ·rintro⟨x,hxm,rfl⟩
  obtain⟨q0,q1⟩:=(zba hr hx.1 hx.2 x).1 hxm
  refine⟨(zbp (hsub x hxm)).1,?_⟩
  have:=zsS hr hlt (c:=x.toNat) (by rw[e];exact q1)
  rwa [show((x.toNat:Nat):Int)=x by omega]at this
theorem zp2 {r:Repo}(hr:repoB r=true){h:Head}(hh:h∈r.Heads):atB (keepR r) h.Name=plI (liveL r) h.At:=
 (zml (r:=keepR r) (zjg hr) (x:=zpZ (liveL r) h) (List.mem_map.2 ⟨h,hh,rfl⟩)).1
theorem zqz {r:Repo}(hr:repoB r=true):liveL (keepR r)=(List.range (liveL r).length).map Int.ofNat:=by
 have hk:=zjg hr
 have hasc:zgj ((List.range (liveL r).length).map Int.ofNat):=by
  unfold zgj
  rw[List.pairwise_map]
  exact(zkh _).imp fun hab=>Int.ofNat_lt.2 hab
 refine zgj.ext (zeG _) hasc fun y=>?_
 rw[List.mem_map]
 constructor
 ·intro hy
  have hx:=zbd hk hy
  rw[zcO]at hx
  exact⟨y.toNat,List.mem_range.2 (by omega),by show((y.toNat:Nat):Int)=y;omega⟩
 ·rintro⟨i,hi,rfl⟩
  rw[List.mem_range]at hi
  have hm:=List.getElem_mem hi
  obtain⟨h,h1,h2⟩:=(zfB hr).1 hm
  refine(zfB hk).2 ⟨zpZ (liveL r) h,List.mem_map.2 ⟨h,h1,rfl⟩,?_⟩
  show _∈allA (keepR r) (plI (liveL r) h.At)
  rw[zoC hr (zij hr h1)]
  refine List.mem_map.2 ⟨_,h2,?_⟩
  rw[zhH (zeG r) hi]
  rfl
theorem zqA {r:Repo}(hr:repoB r=true):keepR (keepR r)=keepR r:=by
 have hk:=zjg hr
 have hL:=zqz hr
 have hpl: ∀ p:Int,0<=p->p< ((liveL r).length:Int)->plI (liveL (keepR r)) p=p:=fun p h0 h1=>by
  have hA:=zeG (keepR r)
  have hi:p.toNat< (liveL (keepR r)).length:=by rw[hL];simp;omega
  have e:(liveL (keepR r))[p.toNat]=p:=by
   simp only[hL,List.getElem_map,List.getElem_range]
   show((p.toNat:Nat):Int)=p
   omega
  have:=zhH hA hi
  rw[e]at this
  rw[this]
  omega
 have hC:(keepR (keepR r)).Commits=(keepR r).Commits:=by
  apply List.ext_getElem?
  intro i
  by_cases hi:i< (liveL r).length
  ·have hi2:i< (liveL (keepR r)).length:=by rw[hL];simpa using hi
   have e:(liveL (keepR r))[i]=(i:Int):=by simp[hL]
   have h1:=zlU (r:=keepR r) hi2
   rw[e,Int.toNat_natCast]at h1
   have hlen:i< (keepR r).Commits.length:=by rw[zcO];exact hi
   have hlen2:i< (keepR (keepR r)).Commits.length:=by rw[zcO];exact hi2
   rw[aB hlen,aB hlen2]
   congr 1
   have g1:=zbF (aB hlen)
   have g2:=zbF (aB hlen2)
   rw[g2]at h1
   rw[g1]at h1
   rw[h1]
   have hps: ∀ p∈((keepR r).Commits[i]).Parents,plI (liveL (keepR r)) p=p:=fun p hp=>by
    have hp2:p∈zaa (keepR r) i:=by unfold zaa;rw[g1];exact hp
    have:=(zar hk hlen).2 p hp2
    exact hpl p this.1 (by omega)
   unfold zmz
   rw[List.map_congr_left (g:=id) hps,List.map_id]
  ·rw[List.getElem?_eq_none (by rw[zcO,hL];simpa using hi),List.getElem?_eq_none (by rw[zcO];omega)]
 have hH:(keepR (keepR r)).Heads=(keepR r).Heads:=by
  show(keepR r).Heads.map (zpZ (liveL (keepR r)))=(keepR r).Heads
  have: ∀ h∈(keepR r).Heads,zpZ (liveL (keepR r)) h=h:=fun h hh=>by
   have:=zc3 hk hh
   rw[zcO]at this
   unfold zpZ
   rw[hpl h.At this.1 (by omega)]
  rw[List.map_congr_left (g:=id) this,List.map_id]
 have: ∀ a b:Repo,a.Commits=b.Commits->a.Heads=b.Heads->a=b:=fun a b e1 e2=>by cases a;cases b;simp_all
 exact this _ _ hC hH
def zhs (p:Int):Prop:= -9223372036854775808<=p/\p<=9223372036854775807
def zj7 (f:Int->Int)(P:List Int)(k:Nat):List Int:=(P.take k).map f++P.drop k
theorem zmr (f:Int->Int)(P:List Int)(k:Nat):(zj7 f P k).length=P.length:=by unfold zj7;simp;omega
theorem zno {f:Int->Int}{P:List Int}{k:Nat}(h:k<P.length):(zj7 f P k)[k]? =some P[k]:=by
 unfold zj7
 rw[aN (by simp;omega)]
 simp[Nat.min_eq_left (Nat.le_of_lt h)]
theorem zkc {f:Int->Int}{P:List Int}{k:Nat}(h:k<P.length):(zj7 f P k).set k (f P[k])=zj7 f P (k+1):=by
 unfold zj7
 have hl:((P.take k).map f).length=k:=by simp;omega
 rw[List.set_append_right _ _ (by omega),hl,Nat.sub_self,aI h,List.set_cons_zero,List.take_add_one,aB h,List.map_append,List.append_assoc]
 rfl
theorem zms (f:Int->Int)(P:List Int):zj7 f P P.length=P.map f:=by unfold zj7;simp
section
variable {r:Repo}{has:List Int}{sent:List Commit}
end
def zbl (l:List Int)(n:Int):Int:=bif zcF l n then plI l n else -1
theorem zni {l:List Int}{n:Int}(h:n∈l):zbl l n=plI l n:=by unfold zbl;rw[zaE.2 h];rfl
theorem ziY {l:List Int}{n:Int}{i:Nat}(hi:i<l.length):(bif zcF (l.drop i) n then((i+(l.drop i).idxOf n:Nat):Int) else -1)=bif l[i]==n then(i:Int) else(bif zcF (l.drop (i+1)) n then((i+1+(l.drop (i+1)).idxOf n:Nat):Int) else -1):=by
 rw[aI hi,List.idxOf_cons]
 unfold zcF
 rw[List.any_cons]
 cases l[i]==n with
 |true=>simp
 |false=>
  simp only[Bool.false_or,aC]
  congr 1
  omega
theorem zlv {l:List Int}(hl:l.length<=1000000){n:Int}: ∀ (k i m:Nat),i+k=l.length->k<m->
 zc0 l n (fun _ _=>some (-1)) m 0 (i:Int)=some (bif zcF (l.drop i) n then((i+(l.drop i).idxOf n:Nat):Int) else -1)
 |k,i,0,_,hm=>by omega
 |0,i,m+1,hi,_=>by
  obtain rfl:i=l.length:=by omega
  simp only[zc0,zad,aC,List.drop_length]
  rfl
 |k+1,i,m+1,hi,hm=>by
  have hlt:i<l.length:=by omega
  have hx:l[i]? =some l[i]:=aB hlt
  simp only[zc0,zah hx,zae hx,aD,aA,zac hlt (show l.length<=maxi by unfold maxi;omega)]
  rw[ziY hlt,zlv hl k (i+1) m (by omega) (by omega)]
  cases l[i]==n<;>rfl
theorem zje {l:List Int}(hl:l.length<=1000000)(n:Int):zfc l n=some (zbl l n):=by
 unfold zfc
 simp only[jn,zak]
 have e:=zlv hl (n:=n) l.length 0 (l.length+1) (by omega) (by omega)
 refine e.trans ?_
 unfold zbl plI
 simp
theorem zmo (f:Int->Int)(P:List Int):zj7 f P 0=P:=by simp[zj7]
theorem znU {l:List Int}(hl:l.length<=1000000){P:List Int}(hP:P.length<=1000000){K:Int->List Int->Option Repo}: ∀ (j k m:Nat),k+j=P.length->j<m->
 ze6 l K m (k:Int) (zj7 (zbl l) P k)=K (P.length:Int) (P.map (zbl l))
 |j,k,0,_,hm=>by omega
 |0,k,m+1,hk,_=>by
  obtain rfl:k=P.length:=by omega
  rw[zms]
  simp only[ze6,show(P.length:Int)=((P.map (zbl l)).length:Int) by rw[List.length_map],zad,aC]
 |j+1,k,m+1,hk,hm=>by
  have hlt:k<P.length:=by omega
  have hx:(zj7 (zbl l) P k)[k]? =some P[k]:=zno hlt
  simp only[ze6,zah hx,zae hx,aD,aA,zje hl,zcf (show k< (zj7 (zbl l) P k).length by rw[zmr];exact hlt),zkc hlt,zac hlt (show P.length<=maxi by unfold maxi;omega)]
  exact znU hl hP j (k+1) m (by omega) (by omega)
theorem zn4 {r:Repo}(hr:repoB r=true){x:Int}(hx:x∈liveL r):(zaa r x.toNat).map (zbl (liveL r))=(zaa r x.toNat).map (plI (liveL r)):=
 List.map_congr_left fun p hp=>zni (zky hr hx hp)
theorem zmA {r:Repo}(h:RpB r):zhg r=some (bif repoB r then keepR r else za5):=by
 unfold zhg
 rw[za8 h,aA]
 cases hr:repoB r with
 |false=>rfl
 |true=>
  have hs:=zab hr
  have hle:=zf1 r
  rw[aK,aC,aD,zob hr,aA]
  simp only[jn,zak]
  rw[zaA (xs:=liveL r) (p:=fun _=>true) (g:=fun i=>zmz (liveL r) (r.Commits.getD i.toNat noCommit)) (Z:=fun acc=>zb0 r (liveL r) (fun _ y342 y345=>some (Vm.Repo.mk y342 y345)) (r.Heads.length+1) 0 acc []) (f:=fun m acc i=>zdW r (liveL r) _ m i acc []) (fun m i x acc hx ha=>by
   have hxm:=aH hx
   have hrg:=zbd hr hxm
   have hc:CB (r.Commits.getD x.toNat noCommit):=by
    have hg:r.Commits[x.toNat]? =some (r.Commits[x.toNat]'(by omega)):=aB _
    rw[zbF hg]
    exact h.cat hg
   have hps:=zar hr (i:=x.toNat) (by omega)
   unfold zaa at hps
   have hix:=zan hx
   simp only[zdW,jn,zah hx,zae hx,aD,aA,zaN hrg.1 hrg.2,zcQ hc,zak]
   have e:=znU (l:=liveL r) (by omega) (P:=(r.Commits.getD x.toNat noCommit).Parents) (by omega) (K:=fun(_:Int) (y255:List Int)=>(apM acc [Vm.Commit.mk y255 (r.Commits.getD x.toNat noCommit).Who (r.Commits.getD x.toNat noCommit).Tree]).bind fun q321=>zdW r (liveL r) (fun(_:Int) (y40:List Vm.Commit) (y43:List Vm.Head)=>zb0 r (liveL r) (fun _ y342 y345=>some (Vm.Repo.mk y342 y345)) (r.Heads.length+1) 0 y40 y43) m (w64 ((i:Int)+1)) q321 []) (r.Commits.getD x.toNat noCommit).Parents.length 0 ((r.Commits.getD x.toNat noCommit).Parents.length+1) (by omega) (by omega)
   rw[zmo]at e
   refine e.trans ?_
   rw[show(r.Commits.getD x.toNat noCommit).Parents.map (zbl (liveL r))=(r.Commits.getD x.toNat noCommit).Parents.map (plI (liveL r)) from zn4 hr hxm]
   rw[ap1 (show acc.length<=1048576 by omega),aA,zac hix (show(liveL r).length<=maxi by unfold maxi;omega)]
   rfl) (fun m acc=>by simp only[zdW,zad,aC]) (by omega)]
  rw[List.filter_eq_self.2 (fun _ _=>rfl)]
  show zb0 r (liveL r) _ (r.Heads.length+1) 0 (keepR r).Commits []=_
  rw[zaA (xs:=r.Heads) (p:=fun _=>true) (g:=zpZ (liveL r)) (Z:=fun acc=>some (Repo.mk (keepR r).Commits acc)) (f:=fun m acc i=>zb0 r (liveL r) _ m i (keepR r).Commits acc) (fun m i x acc hx ha=>by
   have hix:=zan hx
   simp only[zb0,zah hx,zae hx,aD,aA,zje (show(liveL r).length<=1000000 by omega),zni (zij hr (aH hx)),ap1 (show acc.length<=1048576 by omega),zac hix (show r.Heads.length<=maxi by unfold maxi;omega)]
   rfl) (fun m acc=>by simp only[zb0,zad,aC]) (by omega)]
  rw[List.filter_eq_self.2 (fun _ _=>rfl)]
  rfl
theorem zoj {num:List Int}{f:Int->Int}{c:Commit}(hp: ∀ p∈c.Parents,gi num p=some (f p))(hl:c.Parents.length<=1000){w:Str}{t:List File}{K:Int->List Int->Str->List File->Option Repo}:
 zcI num c K (c.Parents.length+1) 0 [] w t=K (c.Parents.length:Int) (c.Parents.map f) w t:=by
 have e:=zaA (xs:=c.Parents) (p:=fun _=>true) (g:=f) (Z:=fun acc=>K (c.Parents.length:Int) acc w t) (f:=fun m acc i=>zcI num c K m i acc w t) (fun m i x acc hx ha=>by
  have hix:=zan hx
  simp only[zcI,zah hx,zae hx,aD,aA,hp x (aH hx),ap1 (show acc.length<=1048576 by omega),zac hix (show c.Parents.length<=maxi by unfold maxi;omega)]) (fun m acc=>by simp only[zcI,zad,aC]) (m:=c.Parents.length+1) (by omega)
 rw[List.filter_eq_self.2 (fun _ _=>rfl)]at e
 exact e
theorem zmv {d:List Int}{p:Int}(h0:0<=p)(h:p.toNat<d.length):gi d p=some (d.getD p.toNat 0):=by
 have:=zfn (l:=d) h
 rwa [show((p.toNat:Nat):Int)=p by omega]at this
def zrF (r:Repo)(i:Nat)(num:List Int):Prop:=num.length=r.Commits.length /\ ∀ j (hj:j< (liveL r).length),j<i->num.getD ((liveL r)[j]).toNat 0=(j:Int)
theorem zok {r:Repo}(hr:repoB r=true){i:Nat}(hi:i< (liveL r).length){num:List Int}(h:zrF r i num):zrF r (i+1) (num.set ((liveL r)[i]).toNat (i:Int)):=by
 have hri:=zbd hr (List.getElem_mem hi)
 refine⟨by rw[List.length_set];exact h.1,fun j hj hji=>?_⟩
 have hrj:=zbd hr (List.getElem_mem hj)
 rw[List.getD_eq_getElem?_getD]
 rcases Nat.lt_or_ge j i with q |q
 ·have hlt:=List.pairwise_iff_getElem.1 (zeG r) j i hj hi q
  rw[List.getElem?_set_ne (by omega),<- List.getD_eq_getElem?_getD]
  exact h.2 j hj q
 ·obtain rfl:j=i:=by omega
  rw[List.getElem?_set_self (by rw[h.1];omega)]
  rfl
theorem zmI {r:Repo}(h:RpB r)(hr:repoB r=true){K:Int->List Commit->List Head->List Int->Option Repo}: ∀ (k i m:Nat) (num:List Int),i+k=(liveL r).length->k<m->zrF r i num->
 ∃ num',zrF r (liveL r).length num'/\zcJ r (liveL r) K m (i:Int) (((liveL r).take i).map fun i=>zmz (liveL r) (r.Commits.getD i.toNat noCommit)) [] num=K ((liveL r).length:Int) ((liveL r).map fun i=>zmz (liveL r) (r.Commits.getD i.toNat noCommit)) [] num'
 |k,i,0,num,_,hm,_=>by omega
 |0,i,m+1,num,hi,_,hN=>by
  obtain rfl:i=(liveL r).length:=by omega
  refine⟨num,hN,?_⟩
  simp only[zcJ,zad,aC,List.take_length]
 |k+1,i,m+1,num,hi,hm,hN=>by
  have hs:=zab hr
  have hle:=zf1 r
  have hlt:i< (liveL r).length:=by omega
  have hx:(liveL r)[i]? =some (liveL r)[i]:=aB hlt
  have hxm:=List.getElem_mem hlt
  have hrg:=zbd hr hxm
  have hN1:=zok hr hlt hN
  have hg:r.Commits[(liveL r)[i].toNat]? =some (r.Commits[(liveL r)[i].toNat]'(by omega)):=aB _
  have hc:CB (r.Commits.getD (liveL r)[i].toNat noCommit):=by rw[zbF hg];exact h.cat hg
  have hps:=zar hr (i:=(liveL r)[i].toNat) (by omega)
  unfold zaa at hps
  have e1:siM num (liveL r)[i] (i:Int)=some (num.set ((liveL r)[i]).toNat (i:Int)):=by
   have:=zcf (xs:=num) (i:=(liveL r)[i].toNat) (by rw[hN.1];omega) (i:Int)
   rwa [show(((liveL r)[i].toNat:Nat):Int)=(liveL r)[i] by omega]at this
  have el:(((liveL r).take i).map fun i=>zmz (liveL r) (r.Commits.getD i.toNat noCommit)).length=i:=by rw[List.length_map,List.length_take];omega
  have hpar: ∀ p∈(r.Commits.getD (liveL r)[i].toNat noCommit).Parents,gi (num.set ((liveL r)[i]).toNat (i:Int)) p=some (plI (liveL r) p):=fun p hp=>by
   have hpl:=zky hr hxm (p:=p) hp
   have hpr:=zbd hr hpl
   have hlt2:=zjm (zeG r) hpl hxm (by have:=hps.2 p hp;omega)
   rw[zhH (zeG r) hlt]at hlt2
   obtain⟨q0,q1,q2,q3⟩:=zbp hpl
   rw[zmv hpr.1 (by rw[hN1.1];omega)]
   have:=hN1.2 _ q2 (by omega)
   rw[q3]at this
   rw[this]
   rfl
  have et:za4 r (liveL r)[i]=some (r.Commits.getD (liveL r)[i].toNat noCommit).Tree:=by
   unfold za4
   rw[aE (by omega),aC,zaN hrg.1 hrg.2,aA]
  simp only[zcJ,jn,zah hx,zae hx,aD,aA,zmv hrg.1 (show(liveL r)[i].toNat<num.length by rw[hN.1];omega),el,e1,zaN hrg.1 hrg.2,et,zek hc.tree,zak]
  rw[zoj hpar (by omega),ap1 (by rw[el];omega),aA,zac hlt (show(liveL r).length<=maxi by unfold maxi;omega)]
  obtain⟨num',n1,n2⟩:=zmI (K:=K) h hr k (i+1) m _ (by omega) (by omega) hN1
  refine⟨num',n1,?_⟩
  rw[<- n2,List.take_succ_eq_append_getElem hlt,List.map_append]
  rfl
theorem ziP {r:Repo}(h:RpB r):zgd r=some (bif repoB r then keepR r else za5):=by
 unfold zgd
 rw[zcb h,aA]
 cases hr:repoB r with
 |false=>rfl
 |true=>
  have hs:=zab hr
  have hle:=zf1 r
  rw[aK,aC,aD,zjV (by simp[lim];omega),aA,znv hr,aA,zeZ (by rw[zh5];omega),aA]
  simp only[jn,zak]
  show zcJ r (liveL r) _ ((liveL r).length+1) 0 [] [] _=_
  obtain⟨num,n1,n2⟩:=zmI h hr (K:=fun(_:Int) (y54:List Vm.Commit) (y57:List Vm.Head) (y61:List Int)=>zbH r y61 (fun _ y479 y482=>some (Vm.Repo.mk y479 y482)) (r.Heads.length+1) 0 y54 y57) (liveL r).length 0 ((liveL r).length+1) (List.replicate r.Commits.length 0) (by omega) (by omega) ⟨by simp,fun j _ hj=>by omega⟩
  refine n2.trans ?_
  show zbH r num _ (r.Heads.length+1) 0 (keepR r).Commits []=_
  rw[zaA (xs:=r.Heads) (p:=fun _=>true) (g:=zpZ (liveL r)) (Z:=fun acc=>some (Repo.mk (keepR r).Commits acc)) (f:=fun m acc i=>zbH r num _ m i (keepR r).Commits acc) (fun m i x acc hx ha=>by
   have hix:=zan hx
   have hl:=zij hr (aH hx)
   have hrg:=zbd hr hl
   obtain⟨q0,q1,q2,q3⟩:=zbp hl
   have e:=n1.2 _ q2 q2
   rw[q3]at e
   have e2:gi num x.At=some (plI (liveL r) x.At):=by
    rw[zmv hrg.1 (by rw[n1.1];omega),e]
    rfl
   simp only[zbH,zah hx,zae hx,aD,aA,e2,ap1 (show acc.length<=1048576 by omega),zac hix (show r.Heads.length<=maxi by unfold maxi;omega)]
   rfl) (fun m acc=>by simp only[zbH,zad,aC]) (by omega)]
  rw[List.filter_eq_self.2 (fun _ _=>rfl)]
  rfl
theorem zkA {code:List Byte}(h:code.length<=1048576): ∃ x,zfQ code=some x/\Drawn x:=by
 unfold zfQ
 obtain⟨b,e,hr⟩:=zoD h
 obtain⟨x,q,e2,hx⟩:=zpF hr (by omega)
 rw[e,aA,e2,aA]
 exact⟨x,rfl,hx⟩
theorem zpC {r:Repo}{z:Int}(hz:z∈liveL r):(keepR r).Commits.getD (plI (liveL r) z).toNat noCommit=zmz (liveL r) (r.Commits.getD z.toNat noCommit):=by
 obtain⟨q0,q1,q2,q3⟩:=zbp hz
 rw[zlU q2,q3]
theorem zmJ {r:Repo}(h:RpB r)(hr:repoB r=true):RpB (keepR r):=by
 have hs:=zab hr
 have hle:=zf1 r
 refine⟨by rw[zcO];omega,fun c hc=>?_,by show(r.Heads.map _).length<=_;rw[List.length_map];omega,fun x hx=>?_⟩
 ·obtain⟨i,hi,rfl⟩:=List.mem_map.1 hc
  have hrg:=zbd hr hi
  have hg:r.Commits[i.toNat]? =some (r.Commits[i.toNat]'(by omega)):=aB _
  have hc:CB (r.Commits.getD i.toNat noCommit):=by rw[zbF hg];exact h.cat hg
  exact⟨by simp only[zmz,List.length_map];exact hc.par,hc.who,hc.tree⟩
 ·obtain⟨y,hy,rfl⟩:=List.mem_map.1 hx
  exact h.head y hy
theorem zp3 {x:Repo}(hb:RpB x)(hr:repoB x=true){K:Bool->Int->Option Bool}(hK:K false (x.Heads.length:Int)=some true):zdN x (keepR x) K (x.Heads.length+1) false 0=some true:=by
 have hs:=zab hr
 have hle:=zf1 x
 have hkb:=zmJ hb hr
 have hk:=zjg hr
 have hkl:=zcO x
 rw[zbs (n:=x.Heads.length) (g:=fun _=>true) (r0:=some false) (Z:=some true) (f:=fun m i=>zdN x (keepR x) K m false i) (fun m i hi=>by
  have hy:x.Heads[i]? =some x.Heads[i]:=aB hi
  have hm:=List.getElem_mem hi
  have hl:=zij hr hm
  have hrg:=zbd hr hl
  obtain⟨p0,p1,p2,p3⟩:=zbp hl
  have u1:upB x.Commits.length x.Heads[i].At=true:=zap.2 hrg
  have u2:upB (keepR x).Commits.length (plI (liveL x) x.Heads[i].At)=true:=zap.2 (by rw[hkl];omega)
  have t1:zjP x x.Heads[i].At=(zag x x.Heads[i].At.toNat,true):=by unfold zjP;rw[hr,u1];rfl
  have t2:zjP (keepR x) (plI (liveL x) x.Heads[i].At)=(zag x x.Heads[i].At.toNat,true):=by
   unfold zjP;rw[hk,u2]
   show(zag (keepR x) _,true)=_
   unfold zag
   rw[zpC hl]
   rfl
  have a1:zdl x x.Heads[i].At=allA x x.Heads[i].At:=by unfold zdl;rw[hr,u1];rfl
  have a2:zdl (keepR x) (plI (liveL x) x.Heads[i].At)=(allA x x.Heads[i].At).map (plI (liveL x)):=by unfold zdl;rw[hk,u2,<- zoC hr hl];rfl
  have ra:zjn (keepR x) x.Heads[i].Name=plI (liveL x) x.Heads[i].At:=by unfold zjn;rw[hk,aD,zp2 hr hm]
  have htb:=zd3 hb u1
  have hal:=zaS x x.Heads[i].At
  simp only[zdN,jn,zah hy,zae hy,aD,aA,zfj,ziS hb,ziS hkb,zka hkb,ra,t1,t2,zhm hb,zhm hkb,a1,a2,aK,aC,zgk htb,aO,List.length_map,bne_self_eq_false,zak]
  rw[zbs (n:=(allA x x.Heads[i].At).length) (g:=fun _=>true) (r0:=some false) (Z:=zdN x (keepR x) K m false (w64 ((i:Int)+1))) (f:=fun m k=>zfT x (keepR x) (allA x x.Heads[i].At) ((allA x x.Heads[i].At).map (plI (liveL x))) _ m false k) (fun m' k hk'=>by
   have hz:(allA x x.Heads[i].At)[k]? =some (allA x x.Heads[i].At)[k]:=aB hk'
   have hzm:=List.getElem_mem hk'
   have hzl:(allA x x.Heads[i].At)[k]∈liveL x:=(zfB hr).2 ⟨_,hm,hzm⟩
   have hzr:=zbd hr hzl
   obtain⟨z0,z1,_,_⟩:=zbp hzl
   have hz2:((allA x x.Heads[i].At).map (plI (liveL x)))[k]? =some (plI (liveL x) (allA x x.Heads[i].At)[k]):=by rw[List.getElem?_map,hz];rfl
   have uz:upB x.Commits.length (allA x x.Heads[i].At)[k]=true:=zap.2 hzr
   have hzt:=zd3 hb uz
   unfold zag at hzt
   simp only[zfT,jn,zah hz,zae hz,zae hz2,aD,aA,zaN hzr.1 hzr.2,zaN (r:=keepR x) z0 (show plI (liveL x) (allA x x.Heads[i].At)[k]<=((keepR x).Commits.length:Int)-1 by rw[hkl];omega),zpC hzl,zmz,List.length_map,bne_self_eq_false,aC,zgk hzt,aO,aK,zac hk' (show(allA x x.Heads[i].At).length<=maxi by unfold maxi;omega)]) (fun m'=>by simp only[zfT,zad,aC]) _ (by omega),zaC.2 (fun _ _ _=>rfl),aD,zac hi (show x.Heads.length<=maxi by unfold maxi;omega)]) (fun m=>by simp only[zdN,zad,aC,hK]) _ (by omega),zaC.2 (fun _ _ _=>rfl),aD]
theorem zpD {code:List Byte}(h:Bk.fit code):zjX code=some true:=by
 unfold zjX
 by_cases hc:(1048576:Int)< (code.length:Int)
 ·rw[aF hc];rfl
 obtain⟨x,e,hx⟩:=zkA (code:=code) (by omega)
 have hb:=hx.rb
 rw[aE hc,aC,e,aA]
 simp only[zfj,ziP hb,zmA hb,aA,jn,zcb hb]
 cases hr:repoB x with
 |false=>
  have hz:RpB za5:=⟨by simp[za5],fun c hc=>by simp[za5]at hc,by simp[za5],fun c hc=>by simp[za5]at hc⟩
  simp only[aC,ziT hz,aO,aA,aK,Bool.not_false,aD]
 |true=>
  have hs:=zab hr
  have hle:=zf1 x
  have hkb:=zmJ hb hr
  have hk:=zjg hr
  have hkl:=zcO x
  simp only[aD,ziT hkb,aO,aA,aK,aC,zak]
  refine zp3 hb hr ?_
  have el:zrH x=liveL x:=by unfold zrH;rw[hr];rfl
  have eh:(keepR x).Heads.length=x.Heads.length:=by simp[keepR]
  simp only[zcb hkb,hk,aA,aD,eh,hkl,aO,zoE hb,el,ziP hkb,zqA hr,ziT hkb]
set_option linter.unusedSectionVars false
structure SentB (sent:List Commit):Prop where
 len:sent.length<=16
 cb: ∀ c∈sent,CB c
 fit: ∀ c∈sent,∀ p∈c.Parents,zhs p
theorem SentB.take {sent:List Commit}(h:SentB sent)(k:Nat):SentB (sent.take k):=
 ⟨Nat.le_trans (List.length_take_le' k sent) h.len,fun c hc=>h.cb c (List.mem_of_mem_take hc),fun c hc=>h.fit c (List.mem_of_mem_take hc)⟩
theorem SentB.set {sent:List Commit}(h:SentB sent){c:Commit}(hc:CB c)(hf: ∀ p∈c.Parents,zhs p)(k:Nat):SentB (sent.set k c):=
 ⟨by rw[List.length_set];exact h.len,fun d hd=>by
  rcases List.mem_or_eq_of_mem_set hd with q |q
  ·exact h.cb d q
  ·rw[q];exact hc,fun d hd=>by
  rcases List.mem_or_eq_of_mem_set hd with q |q
  ·exact h.fit d q
  ·rw[q];exact hf⟩
section
variable {x:Repo}(hr:repoB x=true){a b:Int}(ha:upB x.Commits.length a=true)(hb:upB x.Commits.length b=true)
include hr ha
include hb
end
theorem zdg {α:Type}{f:α->Nat}{c:Nat}: ∀ {t:List α},(∀ s∈t,f s<=c)->zc5 f t<=c*t.length
 | [],_=>by simp[zc5]
 |x::t,h=>by
  have h1:=h x (by simp)
  have h2:=zdg (t:=t) (fun s hs=>h s (by simp[hs]))
  simp only[zc5,aL,Nat.mul_add,Nat.mul_one]
  omega
theorem zlV {t:List Str}(h:zao t=true):Bk.bulk t<=130:=by
 have hl:=zaI h
 have hs:zc5 Bk.bulk t<=12*t.length:=zdg fun s hs=>by
  have:=zht (zbe h s hs)
  show s.length<=12
  omega
 show t.length+zc5 Bk.bulk t<=130
 omega
theorem zlW {t:List File}(h:zaq t=true):Bk.bulk t<=1208:=by
 have hl:=zaH h
 have hs:zc5 Bk.bulk t<=150*t.length:=zdg fun f hf=>by
  have h1:=zcN (zbU h hf)
  have h2:=zlV (zaB h f hf)
  show f.Path.length+Bk.bulk f.Text<=150
  omega
 show t.length+zc5 Bk.bulk t<=1208
 omega
theorem zmB {r:Repo}(h:repoB r=true){c:Commit}(hc:c∈r.Commits):c.Parents.length<=2/\(∀ p∈c.Parents,0<=p/\p<=16)/\zav c.Who=true/\zaq c.Tree=true:=by
 obtain⟨i,hi⟩:=List.mem_iff_getElem?.1 hc
 have hil:=zan hi
 have s1:=(zab h).1
 have:=zeu h (i:=i) (by omega)
 rw[zbF hi]at this
 unfold zjL at this
 simp only[aG,decide_eq_true_eq,List.all_eq_true]at this
 refine⟨by omega,fun p hp=>?_,this.2.2.2.1,this.2.2.2.2⟩
 have h1:=this.1 p hp
 unfold upB at h1
 simp only[aG,decide_eq_true_eq]at h1
 omega
theorem zlX {r:Repo}(h:repoB r=true):Bk.bulk r<=20000:=by
 obtain⟨s1,s2⟩:=zab h
 have h1:zc5 Bk.bulk r.Commits<=1218*r.Commits.length:=zdg fun c hc=>by
  obtain⟨c1,_,c3,c4⟩:=zmB h hc
  have:=zbj c3
  have:=zlW c4
  have hp:zc5 Bk.bulk c.Parents<=0*c.Parents.length:=zdg fun p hp=>Nat.le_refl 0
  show c.Parents.length+zc5 Bk.bulk c.Parents+(c.Who.length+Bk.bulk c.Tree)<=1218
  omega
 have h2:zc5 Bk.bulk r.Heads<=6*r.Heads.length:=zdg fun x hx=>by
  have:=zbj (zc3 h hx).2.2
  show x.Name.length+0<=6
  omega
 show r.Commits.length+zc5 Bk.bulk r.Commits+(r.Heads.length+zc5 Bk.bulk r.Heads)<=20000
 omega
theorem zlY {t:List File}(h:zaq t=true):Bk.fit t:=⟨by have:=zaH h;unfold maxi;omega,fun f hf=>⟨by have:=zcN (zbU h hf);show f.Path.length<=maxi;unfold maxi;omega,by
 have h1:=zaB h f hf
 have h2:=zaI h1
 exact zfF (by omega) (zbe h1)⟩⟩
theorem zlZ {r:Repo}(h:repoB r=true):Bk.fit r:=by
 obtain⟨s1,s2⟩:=zab h
 refine⟨⟨by unfold maxi;omega,fun c hc=>?_⟩,by unfold maxi;omega,fun x hx=>?_⟩
 ·obtain⟨c1,c2,c3,c4⟩:=zmB h hc
  refine⟨⟨by unfold maxi;omega,fun p hp=>?_⟩,by have:=zbj c3;show c.Who.length<=maxi;unfold maxi;omega,zlY c4⟩
  have:=c2 p hp
  show -9223372036854775808<=p/\p<=9223372036854775807
  omega
 ·obtain⟨h1,h2,h3⟩:=zc3 h hx
  refine⟨by have:=zbj h3;show x.Name.length<=maxi;unfold maxi;omega,?_⟩
  show -9223372036854775808<=x.At/\x.At<=9223372036854775807
  omega
theorem zgj.lt {l:List Int}(h:zgj l){i k:Nat}(hik:i<k)(hk:k<l.length):l.getD i 0<l.getD k 0:=by
 have h1:i<l.length:=by omega
 have:=List.pairwise_iff_getElem.1 h i k h1 hk hik
 rw[zci (aB h1),zci (aB hk)]
 exact this
theorem zgj.inj {l:List Int}(h:zgj l){i k:Nat}(hi:i<l.length)(hk:k<l.length)(e:l.getD i 0=l.getD k 0):i=k:=by
 rcases Nat.lt_trichotomy i k with h1 |h1 |h1
 ·have:=h.lt h1 hk;omega
 ·exact h1
 ·have:=h.lt h1 hi;omega
section
variable {r:Repo}(h:RpB r)(hr:repoB r=true)
include h hr
end
def zol (r:Repo)(n:Str)(x:Repo):Prop:=x=r\/x=za5\/repoB x=true
theorem zol.bulk {r x:Repo}{n:Str}(h:zol r n x):Bk.bulk x<=Bk.bulk r+20000:=by
 rcases h with h |h |h
 ·rw[h];omega
 ·rw[h];show 0+0+(0+0)<=_;omega
 ·have:=zlX h;omega
theorem zol.fit {r x:Repo}{n:Str}(hf:Bk.fit r)(h:zol r n x):Bk.fit x:=by
 rcases h with h |h |h
 ·rw[h];exact hf
 ·rw[h];exact⟨⟨by simp[za5,maxi],by simp[za5]⟩,by simp[za5,maxi],by simp[za5]⟩
 ·exact zlZ h
def ChH:Int->List Hunk->Prop
 |_,[]=>True
 |lo,d::l=>lo<=d.At/\ChH (d.At+d.Less.length+1) l
theorem ChH.mono: ∀ {l:List Hunk} {lo lo':Int},lo'<=lo->ChH lo l->ChH lo' l
 | [],_,_,_,_=>trivial
 |d::l,_,_,h,⟨h1,h2⟩=>⟨Int.le_trans h h1,h2⟩
def zlt:List Str->List Str->Nat
 |a::l,b::m=>bif a==b then zlt l m+1 else 0
 |_,_=>0
def zrb (t:List Str):List Str->Nat->Nat×Nat->Nat×Nat
 | [],_,r=>r
 |b::bs,i,r=>zrb t bs (i+1) (bif decide (r.2<zlt (b::bs) t) then(i,zlt (b::bs) t) else r)
def znS (base t:List Str):Nat×Nat:=zrb t base 0 (0,0)
def zn5 (out:List Delta)(x:Str):List Delta:=match out.getLast? with
 |some d=>bif decide (0<d.Lines.length) then out.dropLast++[⟨d.From,d.Many,d.Lines++[x]⟩] else out++[⟨0,0,[x]⟩]
 |none=>out++[⟨0,0,[x]⟩]
def ziQ (base:List Str):Nat->List Delta->List Str->List Delta
 |0,out,_=>out
 |_+1,out,[]=>out
 |n+1,out,x::t=>bif decide (0< (znS base (x::t)).2) then ziQ base n (out++[⟨(znS base (x::t)).1,(znS base (x::t)).2,[]⟩]) ((x::t).drop (znS base (x::t)).2) else ziQ base n (zn5 out x) t
def zlc (base t:List Str):List Delta:=ziQ base t.length [] t
def OD (n:Nat)(l:List Owner):Prop:=l.length<=n /\ ∀ o∈l,o.Path.length<=10/\o.Who.length<=10
theorem OD.fit {n:Nat}{l:List Owner}(h:OD n l)(hn:n<=1000):Bk.fit l:=⟨by have:=h.1;unfold maxi;omega,fun o ho=>by
 have:=h.2 o ho
 exact⟨by show o.Path.length<=maxi;unfold maxi;omega,by show o.Who.length<=maxi;unfold maxi;omega⟩⟩
section
variable {base t:List Str}(hb:zao base=true)(ht:zao t=true)
include hb ht
end
def zp0 (list:List (List Str))(ds:List Int)(i:Nat)(t:List Str)(b dep:Int)(d:List Delta):Prop:=(b = -1/\d=zlc [] t/\dep=1) \/ ∃ k o dk,k<i/\b=(k:Int)/\list[k]? =some o/\ds[k]? =some dk/\d=zlc o t/\dep=dk+1/\dk<=2
theorem zp0.snoc {list:List (List Str)}{ds:List Int}{i:Nat}{t:List Str}{b dep z:Int}{d:List Delta}(h:zp0 list ds i t b dep d):zp0 list (ds++[z]) i t b dep d:=by
 rcases h with h |⟨k,o,dk,h1,h2,h3,h4,h5⟩
 ·exact .inl h
 ·exact .inr ⟨k,o,dk,h1,h2,h3,by rw[aM (List.getElem?_eq_some_iff.1 h4).1];exact h4,h5⟩
section
variable {list:List (List Str)}(h12:list.length<=12)(hl: ∀ t∈list,zao t=true)
include h12 hl
end
end Go.Vm
