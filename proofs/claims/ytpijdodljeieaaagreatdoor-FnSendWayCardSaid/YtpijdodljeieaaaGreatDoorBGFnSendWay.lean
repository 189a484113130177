/- Plain law FnSendWay, and what it uses: what the models answer. Conditions: each law's own premises. -/
import Derived.Test.YtpijdodljeieaaaGreatDoorBGFnSendWaya
import Derived.Test.YtpijdodljeieaaaGreatDoorBLw
namespace Go.Vm
open Go Go.Sx
set_option linter.unusedSimpArgs false
set_option linter.unusedVariables false
def plI (l:List Int)(n:Int):Int:=(l.idxOf n:Int)
theorem zgj.nodup {l:List Int}(h:zgj l):l.Nodup:=List.Pairwise.imp (fun hab e=>by rw[e]at hab;exact Int.lt_irrefl _ hab) h
theorem zhH {l:List Int}(h:zgj l){i:Nat}(hi:i<l.length):plI l l[i]=(i:Int):=by
 unfold plI
 rw[h.nodup.idxOf_getElem i hi]
theorem zbp {l:List Int}{n:Int}(h:n∈l):0<=plI l n/\plI l n< (l.length:Int) /\ ∃ hi:(plI l n).toNat<l.length,l[(plI l n).toNat]=n:=by
 unfold plI
 have hl:=List.idxOf_lt_length_of_mem h
 refine⟨Int.natCast_nonneg _,by omega,hl,?_⟩
 exact List.getElem_idxOf hl
theorem zjm {l:List Int}(h:zgj l){a b:Int}(ha:a∈l)(hb:b∈l)(hab:a<b):plI l a<plI l b:=by
 obtain⟨i,hi,rfl⟩:=List.getElem_of_mem ha
 obtain⟨j,hj,rfl⟩:=List.getElem_of_mem hb
 rw[zhH h hi,zhH h hj]
 have hp:=List.pairwise_iff_getElem.1 h
 rcases Nat.lt_trichotomy i j with q |q |q
 ·omega
 ·subst q;exact absurd hab (Int.lt_irrefl _)
 ·have:=hp j i hj hi q
  omega
theorem zpf {l:List Int}(h:zgj l){a b:Int}(ha:a∈l)(hb:b∈l)(e:plI l a=plI l b):a=b:=by
 rcases Int.lt_trichotomy a b with q |q |q
 ·have:=zjm h ha hb q;omega
 ·exact q
 ·have:=zjm h hb ha q;omega
theorem zeG (r:Repo):zgj (liveL r):=zh9 _
theorem zfB {r:Repo}(hr:repoB r=true){x:Int}:x∈liveL r ↔ ∃ h∈r.Heads,x∈allA r h.At:=by
 constructor
 ·intro hx
  have h0:=zj3.1 hx
  have hl:x.toNat<r.Commits.length:=by
   rcases Nat.lt_or_ge x.toNat r.Commits.length with q |q
   ·exact q
   ·have:=h0.2
    unfold mkd at this
    rw[List.getD_eq_getElem?_getD,List.getElem?_eq_none (by rw[zh5];exact q)]at this
    cases this
  have e:=zmO (r:=r) hl
  rw[show((x.toNat:Nat):Int)=x by omega,zaE.2 hx]at e
  obtain⟨h,h1,h2⟩:=List.any_eq_true.1 e.symm
  exact⟨h,h1,zaE.1 h2⟩
 ·rintro⟨h,h1,h2⟩
  have hm:=zaO h2
  have e:=zmO (r:=r) (j:=x.toNat) (by omega)
  rw[show((x.toNat:Nat):Int)=x by omega]at e
  refine zaE.1 (e.trans ?_)
  exact List.any_eq_true.2 ⟨h,h1,zaE.2 h2⟩
theorem zbd {r:Repo}(hr:repoB r=true){x:Int}(hx:x∈liveL r):0<=x/\x<=(r.Commits.length:Int)-1:=by
 obtain⟨h,_,h2⟩:=(zfB hr).1 hx
 exact zaO h2
theorem znE {r:Repo}(hr:repoB r=true){x:Int}(hx:x∈liveL r){c:Nat}(hc:Rc r x.toNat c):(c:Int)∈liveL r:=by
 obtain⟨h,h1,h2⟩:=(zfB hr).1 hx
 have ha:=zc3 hr h1
 obtain⟨q0,q1⟩:=(zba hr ha.1 ha.2.1 x).1 h2
 exact(zfB hr).2 ⟨h,h1,(zba hr ha.1 ha.2.1 _).2 ⟨Int.natCast_nonneg _,q1.trans hc⟩⟩
theorem zky {r:Repo}(hr:repoB r=true){x p:Int}(hx:x∈liveL r)(hp:p∈zaa r x.toNat):p∈liveL r:=by
 have hm:=zbd hr hx
 have h0:=((zar hr (i:=x.toNat) (by omega)).2 p hp).1
 have:=znE hr hx (Rc.step (Rc.refl _) hp)
 rwa [show((p.toNat:Nat):Int)=p by omega]at this
theorem zij {r:Repo}(hr:repoB r=true){h:Head}(hh:h∈r.Heads):h.At∈liveL r:=by
 have ha:=zc3 hr hh
 exact(zfB hr).2 ⟨h,hh,zhw hr ha.1 ha.2.1⟩
def zmz (l:List Int)(c:Commit):Commit:=⟨c.Parents.map (plI l),c.Who,c.Tree⟩
def zpZ (l:List Int)(h:Head):Head:=⟨h.Name,plI l h.At⟩
def keepR (r:Repo):Repo:=⟨(liveL r).map fun i=>zmz (liveL r) (r.Commits.getD i.toNat noCommit),r.Heads.map (zpZ (liveL r))⟩
theorem zcO (r:Repo):(keepR r).Commits.length=(liveL r).length:=by simp[keepR]
theorem zlU {r:Repo}{i:Nat}(hi:i< (liveL r).length):(keepR r).Commits.getD i noCommit=zmz (liveL r) (r.Commits.getD (liveL r)[i].toNat noCommit):=by
 have hx:(keepR r).Commits[i]? =some (zmz (liveL r) (r.Commits.getD (liveL r)[i].toNat noCommit)):=by
  unfold keepR
  simp only
  rw[List.getElem?_map,aB hi]
  rfl
 exact zbF hx
theorem zjg {r:Repo}(hr:repoB r=true):repoB (keepR r)=true:=by
 have hA:=zeG r
 have hR:=zf0.1 hr
 have hle:=zf1 r
 refine zf0.2 ⟨⟨by rw[zcO];omega,?_⟩,zed.2 ⟨fun h hh=>?_,?_,?_⟩⟩
 ·refine zaC.2 fun i _ hi=>?_
  rw[zcO,Nat.zero_add]at hi
  have hm:=List.getElem_mem hi
  have hx:=zbd hr hm
  have hc:=zeu hr (i:=(liveL r)[i].toNat) (by omega)
  rw[zlU hi]
  unfold zjL at hc ⊢
  simp only[aG,List.all_eq_true]at hc ⊢
  obtain⟨c1,c2,c3,c4⟩:=hc
  have hsub: ∀ p∈(r.Commits.getD (liveL r)[i].toNat noCommit).Parents,p∈liveL r:=fun p hp=>zky hr hm hp
  refine⟨fun q hq=>?_,by simpa[zmz]using c2,?_,c4⟩
  ·obtain⟨p,hp,rfl⟩:=List.mem_map.1 hq
   have hu:=zap.1 (c1 p hp)
   have h1:=zbp (hsub p hp)
   have h2:=zjm hA (hsub p hp) hm (by omega)
   rw[zhH hA hi]at h2
   exact zap.2 (by omega)
  ·show zlr ((r.Commits.getD (liveL r)[i].toNat noCommit).Parents.map (plI (liveL r)))=true
   revert c3 hsub
   generalize (r.Commits.getD (liveL r)[i].toNat noCommit).Parents=ps
   intro c3 hsub
   match ps with
   | []=>rfl
   | [p]=>rfl
   | [p,q]=>
    have hne:p≠q:=by simpa[zlr]using c3
    have:plI (liveL r) p≠plI (liveL r) q:=fun e=>hne (zpf hA (hsub p (by simp)) (hsub q (by simp)) e)
    simpa[zlr]using this
   |p::q::s::t=>rfl
 ·obtain⟨g,hg,rfl⟩:=List.mem_map.1 hh
  have h1:=zbp (zij hr hg)
  exact⟨(zc3 hr hg).2.2,zap.2 (by rw[zcO];show 0<=plI _ _/\plI _ _<=_;omega)⟩
 ·show((r.Heads.map (zpZ (liveL r))).Pairwise fun x y=>x.Name<y.Name)
  rw[List.pairwise_map]
  exact(zed.1 hR.2).2.1
 ·show(r.Heads.map _).length<=5
  rw[List.length_map]
  exact(zed.1 hR.2).2.2
def zhs (p:Int):Prop:= -9223372036854775808<=p/\p<=9223372036854775807
def onP (has:List Int)(i:Nat)(p:Int):Bool:=upB i p||(decide (p<0)&&decide (-(has.length:Int)<=p))
def toP (has:List Int)(base i:Nat)(p:Int):Int:=bif upB i p then(base:Int)+p else has.getD (-1-p).toNat 0
def toC (has:List Int)(base i:Nat)(c:Commit):Commit:=⟨c.Parents.map (toP has base i),c.Who,c.Tree⟩
def okS (has:List Int):Nat->List Commit->Bool
 |_,[]=>true
 |i,c::cs=>c.Parents.all (onP has i)&&okS has (i+1) cs
def ze0 (has:List Int)(base:Nat):Nat->List Commit->List Commit
 |_,[]=>[]
 |i,c::cs=>toC has base i c::ze0 has base (i+1) cs
theorem zjS (has:List Int)(base:Nat): ∀ (cs:List Commit) (i:Nat),(ze0 has base i cs).length=cs.length
 | [],i=>rfl
 |c::cs,i=>by simp[ze0,zjS has base cs]
theorem zlK {has:List Int}{base:Nat}: ∀ {cs:List Commit} {i:Nat} {x:Commit},x∈ze0 has base i cs -> ∃ j c,c∈cs/\x=toC has base j c
 | [],i,x,h=>by simp[ze0]at h
 |c::cs,i,x,h=>by
  simp only[ze0,List.mem_cons]at h
  rcases h with rfl |h
  ·exact⟨i,c,by simp,rfl⟩
  ·obtain⟨j,d,hd,e⟩:=zlK h
   exact⟨j,d,List.mem_cons_of_mem _ hd,e⟩
def zj6 (has:List Int):Int:=bif decide (0< (has.length:Int)) then has.getD 0 0 else -1
def endAt (has:List Int)(base n:Nat):Int:=bif n==0 then zj6 has else((base+n-1:Nat):Int)
def zg9 (r:Repo)(has:List Int)(sent:List Commit)(n:Str):Repo:=headR ⟨r.Commits++ze0 has r.Commits.length 0 sent,r.Heads⟩ n (endAt has r.Commits.length sent.length)
def zkk (r:Repo)(has:List Int)(sent:List Commit)(n:Str):Repo×Bool:=bif repoB r then(bif okS has 0 sent&&(zjT r has&&repoB (zg9 r has sent n)) then(zg9 r has sent n,true) else(r,false)) else(za5,false)
section
variable {r:Repo}{has:List Int}{sent:List Commit}
theorem zrI {p:Int}(h:zhs p):w64 (-1-p) = -1-p:=zai (by unfold zhs at h;omega) (by unfold zhs at h;omega)
theorem zpG {p:Int}(h0:p<0)(h1: -(has.length:Int)<=p):gi has (-1-p)=some (has.getD (-1-p).toNat 0):=by
 have:=zfn (l:=has) (i:=(-1-p).toNat) (by omega)
 rwa [show(((-1-p).toNat:Nat):Int) = -1-p by omega]at this
theorem zoF (hr:RpB r)(hh:has.length<=1048576){i:Nat}(hi:i<=1048576){c:Commit}(hl:c.Parents.length<=1048576)(hf: ∀ p∈c.Parents,zhs p){K:Bool->Int->List Commit->List Head->List Int->Str->List File->Option (Repo×Bool)}{b:Bool}{j1:List Commit}{j2:List Head}{s:Str}{t:List File}: ∀ (j k m:Nat),k+j=c.Parents.length->j<m->
 zdT r has i c K m b (k:Int) j1 j2 ((c.Parents.take k).map (toP has r.Commits.length i)) s t=bif(c.Parents.drop k).all (onP has i) then K b (c.Parents.length:Int) j1 j2 (c.Parents.map (toP has r.Commits.length i)) s t else some (r,false)
 |j,k,0,_,hm=>by omega
 |0,k,m+1,hk,_=>by
  obtain rfl:k=c.Parents.length:=by omega
  simp only[zdT,zad,aC,List.drop_length,List.all_nil,aD,List.take_length]
 |j+1,k,m+1,hk,hm=>by
  have hlt:k<c.Parents.length:=by omega
  have hp:=hf _ (List.getElem_mem hlt)
  have hx:c.Parents[k]? =some c.Parents[k]:=aB hlt
  have hbase:=hr.coms
  have ih:=zoF (K:=K) (b:=b) (j1:=j1) (j2:=j2) (s:=s) (t:=t) hr hh hi hl hf j (k+1) m (by omega) (by omega)
  have htk:(c.Parents.take (k+1)).map (toP has r.Commits.length i)=(c.Parents.take k).map (toP has r.Commits.length i)++[toP has r.Commits.length i c.Parents[k]]:=by
   rw[List.take_add_one,hx,List.map_append];rfl
  have hap: ∀ v:Int,apM ((c.Parents.take k).map (toP has r.Commits.length i)) [v]=some ((c.Parents.take k).map (toP has r.Commits.length i)++[v]):=fun v=>ap1 (by simp;omega)
  have hn0:w64 (0-(has.length:Int)) = -(has.length:Int):=by rw[zai (by omega) (by omega)];omega
  rw[htk]at ih
  simp only[zdT,jn,zah hx,zae hx,aD,aA,zdt,zbL (show i<=maxi by unfold maxi;omega),zac hlt (show c.Parents.length<=maxi by unfold maxi;omega),zrI hp,hn0,hap,zmx hr]
  rw[show(decide ((0:Int)<=c.Parents[k])&&decide (c.Parents[k]<=(i:Int)-1))=upB i c.Parents[k] from rfl,aI hlt,List.all_cons]
  cases hu:upB i c.Parents[k]with
  |true=>
   have hv:onP has i c.Parents[k]=true:=by unfold onP;rw[hu];rfl
   have ht:toP has r.Commits.length i c.Parents[k]=w64 ((r.Commits.length:Int)+c.Parents[k]):=by
    obtain⟨u0,u1⟩:=zap.1 hu
    unfold toP
    rw[hu,aD,zai (by omega) (by omega)]
   rw[aD,<- ht,hv,Bool.true_and]
   exact ih
  |false=>
   rw[aC]
   by_cases hd:(decide (-(has.length:Int)<=c.Parents[k])&&decide (c.Parents[k] <= -1))=true
   ·rw[hd,aD]
    simp only[aG,decide_eq_true_eq]at hd
    have hv:onP has i c.Parents[k]=true:=by
     unfold onP
     rw[hu,aF (show c.Parents[k]<0 by omega),aF (show -(has.length:Int)<=c.Parents[k] by omega)];rfl
    have ht:toP has r.Commits.length i c.Parents[k]=has.getD (-1-c.Parents[k]).toNat 0:=by unfold toP;rw[hu,aC]
    rw[zpG (by omega) (by omega),aA,<- ht,hv,Bool.true_and]
    exact ih
   ·have hv:onP has i c.Parents[k]=false:=by
     unfold onP
     rw[hu,Bool.false_or]
     cases hq:decide (c.Parents[k]<0)&&decide (-(has.length:Int)<=c.Parents[k])with
     |false=>rfl
     |true=>
      exfalso
      simp only[aG,decide_eq_true_eq]at hq
      refine hd ?_
      simp only[aG,decide_eq_true_eq]
      omega
    have hd':(decide (-(has.length:Int)<=c.Parents[k])&&decide (c.Parents[k] <= -1))=false:=by simpa using hd
    rw[hd',aC,hv,Bool.false_and]
    rfl
def zoG (a:Int)(base:Nat)(i:Nat)(cs:List Commit):Int:=bif cs.length==0 then a else((base+i+cs.length-1:Nat):Int)
theorem zmQ (a:Int)(base i:Nat)(c:Commit)(cs:List Commit):zoG a base i (c::cs)=zoG ((base+i:Nat):Int) base (i+1) cs:=by
 unfold zoG
 cases cs with
 |nil=>simp
 |cons d cs=>simp<;>omega
theorem zoH (hr:RpB r)(hh:has.length<=1048576)(hs:r.Commits.length+sent.length<=1048576)(hc: ∀ c∈sent,CB c)(hf: ∀ c∈sent,∀ p∈c.Parents,zhs p){K:Bool->Int->Int->List Commit->List Head->List Commit->List Head->Option (Repo×Bool)}{hd:List Head}{F:Int->List Commit->Option (Repo×Bool)}(hK: ∀ b a i out j1 j2,K b a i j1 j2 out hd=F a out): ∀ (k i m:Nat) (a:Int) (out:List Commit) (j1:List Commit) (j2:List Head),i+k=sent.length->k<m->out.length=r.Commits.length+i->
 zdU r has sent K m false a (i:Int) j1 j2 out hd=bif okS has i (sent.drop i) then F (zoG a r.Commits.length i (sent.drop i)) (out++ze0 has r.Commits.length i (sent.drop i)) else some (r,false)
 |k,i,0,a,out,j1,j2,_,hm,_=>by omega
 |0,i,m+1,a,out,j1,j2,hi,_,ho=>by
  obtain rfl:i=sent.length:=by omega
  simp only[zdU,zad,aC,List.drop_length,okS,ze0,aD,List.append_nil,hK,zoG,List.length_nil,aO]
 |k+1,i,m+1,a,out,j1,j2,hi,hm,ho=>by
  have hlt:i<sent.length:=by omega
  have hx:sent[i]? =some sent[i]:=aB hlt
  have hcb:=hc _ (List.getElem_mem hlt)
  have hpar:=hcb.par
  have hpf:=hf _ (List.getElem_mem hlt)
  have l2:=fun K' s t=>zoF (K:=K') (b:=false) (j1:=j1) (j2:=j2) (s:=s) (t:=t) hr hh (show i<=1048576 by omega) hpar hpf sent[i].Parents.length 0 (sent[i].Parents.length+1) (by omega) (by omega)
  simp only[zdU,jn,zah hx,zae hx,aD,aA,zek hcb.tree,zak,zac hlt (show sent.length<=maxi by unfold maxi;omega)]
  refine(l2 _ _ _).trans ?_
  rw[List.drop_zero,aI hlt]
  unfold okS ze0
  cases hon:sent[i].Parents.all (onP has i)with
  |false=>rfl
  |true=>
   have ih:=zoH hr hh hs hc hf hK k (i+1) m ((r.Commits.length+i:Nat):Int) (out++[toC has r.Commits.length i sent[i]]) j1 j2 (by omega) (by omega) (by simp;omega)
   rw[aD,Bool.true_and,ap1 (show out.length<=1048576 by omega),aA,zmQ,show(out.length:Int)=((r.Commits.length+i:Nat):Int) by omega]
   refine ih.trans ?_
   rw[List.append_assoc]
   rfl
theorem zlL (n:Str)(a:Int): ∀ (hs:List Head),(⟨n,a⟩:Head)∈zd2 n a false hs
 | []=>by simp[zd2]
 |h::hs=>by
  have ih:=zlL n a hs
  unfold zd2
  cases hb:Op.bytesLess h.Name n with
  |false=>simp
  |true=>cases(h.Name !=n)<;>simp[ih]
theorem zqB (hb: ∀ c∈sent,CB c){c:Commit}(hc:c∈sent)(base j:Nat):CB (toC has base j c):=
 ⟨by show(c.Parents.map _).length<=_;rw[List.length_map];exact(hb c hc).par,(hb c hc).who,(hb c hc).tree⟩
theorem znd (hr:RpB r)(hs:r.Commits.length+sent.length<=1048576)(hc: ∀ c∈sent,CB c):RpB ⟨r.Commits++ze0 has r.Commits.length 0 sent,r.Heads⟩:=
 ⟨by simp[zjS];omega,fun x hx=>by
  rcases List.mem_append.1 hx with h1 |h1
  ·exact hr.com x h1
  ·obtain⟨j,c,hm,rfl⟩:=zlK h1
   exact zqB hc hm _ _,hr.heads,hr.head⟩
theorem znw (n:Nat)(hn:sent.length=n)(base:Nat):zoG (zj6 has) base 0 sent=endAt has base n:=by
 subst hn
 unfold zoG endAt
 rw[Nat.add_zero]
theorem zmR {K:Int->Option (Repo×Bool)}:(bif decide ((0:Int)< (has.length:Int)) then((gi has 0).bind fun u=>K u) else K (-1))=K (zj6 has):=by
 unfold zj6
 cases hd:decide ((0:Int)< (has.length:Int))with
 |false=>rfl
 |true=>
  have h0:0<has.length:=by simpa using hd
  have:=zfn h0
  rw[aD,aD,show(0:Int)=((0:Nat):Int) from rfl,this]
  rfl
theorem zkl (hr:RpB r)(hh:has.length<=1048576)(hs:r.Commits.length+sent.length<=1048576)(hc: ∀ c∈sent,CB c)(hf: ∀ c∈sent,∀ p∈c.Parents,zhs p){n:Str}(hn:n.length<=1048576):zgK r has sent n=some (zkk r has sent n):=by
 unfold zgK zkk
 rw[zcb hr,aA]
 cases hok:repoB r with
 |false=>rfl
 |true=>
  obtain⟨s1,s2⟩:=zab hok
  have hrb:=znd (has:=has) hr hs hc
  have hhd:=hrb.headR (show r.Heads.length<=100000 by omega) hn (endAt has r.Commits.length sent.length)
  have hw:w64 ((sent.length:Int)+(has.length:Int))=(sent.length:Int)+has.length:=zai (by omega) (by omega)
  simp only[aK,aC,aD,zmx hr,aA,jn,zak,hw]
  by_cases h16:(16:Int)< (has.length:Int)
  ·have ha:zjT r has=false:=by unfold zjT;rw[aE (show ¬ (has.length:Int)<=16 by omega),Bool.and_false]
   rw[aF h16,ha]
   simp
  rw[aE h16,aC,zlF hr (show has.length<=100000 by omega),hok,aA,Bool.true_and]
  cases hall:has.all (upB r.Commits.length)with
  |false=>
   have ha:zjT r has=false:=by unfold zjT;rw[hall,Bool.false_and]
   rw[ha]
   simp
  |true=>
   have ha:zjT r has=true:=by unfold zjT;rw[hall,aF (show(has.length:Int)<=16 by omega)];rfl
   rw[aK,aC,ha,Bool.true_and]
   cases hz:((sent.length:Int)+(has.length:Int)==0)with
   |true=>
    have h0:(sent.length:Int)+has.length=0:=by simpa using hz
    have hs0:sent=[]:=List.eq_nil_of_length_eq_zero (by omega)
    have hh0:has=[]:=List.eq_nil_of_length_eq_zero (by omega)
    have hbad:repoB (zg9 r has sent n)=false:=by
     cases hb:repoB (zg9 r has sent n)with
     |false=>rfl
     |true=>
      exfalso
      have hm:(⟨n,endAt has r.Commits.length sent.length⟩:Head)∈(zg9 r has sent n).Heads:=zlL n _ r.Heads
      have:=(zc3 hb hm).1
      rw[hs0,hh0]at this
      exact absurd this (by show ¬ (0:Int) <= -1;decide)
    rw[hbad,Bool.and_false]
    rfl
   |false=>
    have key:=zoH (hd:=r.Heads) hr hh hs hc hf (K:=fun _ y80 _ _ _ y93 y96=>
     (zbc (Repo.mk y93 y96) n y80).bind fun z610=>(zda r (Repo.mk z610.Commits z610.Heads)).bind fun z622=>some (Repo.mk z622.1.Commits z622.1.Heads,z622.2)) (F:=fun a out=>(zbc (Repo.mk out r.Heads) n a).bind fun z610=>(zda r (Repo.mk z610.Commits z610.Heads)).bind fun z622=>some (Repo.mk z622.1.Commits z622.1.Heads,z622.2)) (fun _ _ _ _ _ _=>rfl) sent.length 0 (sent.length+1) (zj6 has) r.Commits [] [] (by omega) (by omega) (by omega)
    rw[aC,zmR]
    refine key.trans ?_
    rw[List.drop_zero,znw _ rfl]
    cases okS has 0 sent with
    |false=>rfl
    |true=>
     rw[aD,Bool.true_and,znK hrb (show List.Pairwise _ r.Heads from zil hok),aA,show ∀ x:Repo,(⟨x.Commits,x.Heads⟩:Repo)=x from fun _=>rfl,zou hr hhd,aA]
     unfold zg9
     cases repoB (headR ⟨r.Commits++ze0 has r.Commits.length 0 sent,r.Heads⟩ n (endAt has r.Commits.length sent.length))<;>rfl
end
def zbl (l:List Int)(n:Int):Int:=bif zcF l n then plI l n else -1
theorem ziY {l:List Int}{n:Int}{i:Nat}(hi:i<l.length):(bif zcF (l.drop i) n then((i+(l.drop i).idxOf n:Nat):Int) else -1)=bif l[i]==n then(i:Int) else(bif zcF (l.drop (i+1)) n then((i+1+(l.drop (i+1)).idxOf n:Nat):Int) else -1):=by
 rw[aI hi,List.idxOf_cons]
 unfold zcF
 rw[List.any_cons]
 cases l[i]==n with
 |true=>simp
 |false=>
  simp only[Bool.false_or,aC]
  congr 1
  omega
theorem zoj {num:List Int}{f:Int->Int}{c:Commit}(hp: ∀ p∈c.Parents,gi num p=some (f p))(hl:c.Parents.length<=1000){w:Str}{t:List File}{K:Int->List Int->Str->List File->Option Repo}:
 zcI num c K (c.Parents.length+1) 0 [] w t=K (c.Parents.length:Int) (c.Parents.map f) w t:=by
 have e:=zaA (xs:=c.Parents) (p:=fun _=>true) (g:=f) (Z:=fun acc=>K (c.Parents.length:Int) acc w t) (f:=fun m acc i=>zcI num c K m i acc w t) (fun m i x acc hx ha=>by
  have hix:=zan hx
  simp only[zcI,zah hx,zae hx,aD,aA,hp x (aH hx),ap1 (show acc.length<=1048576 by omega),zac hix (show c.Parents.length<=maxi by unfold maxi;omega)]) (fun m acc=>by simp only[zcI,zad,aC]) (m:=c.Parents.length+1) (by omega)
 rw[List.filter_eq_self.2 (fun _ _=>rfl)]at e
 exact e
theorem zmv {d:List Int}{p:Int}(h0:0<=p)(h:p.toNat<d.length):gi d p=some (d.getD p.toNat 0):=by
 have:=zfn (l:=d) h
 rwa [show((p.toNat:Nat):Int)=p by omega]at this
def zrF (r:Repo)(i:Nat)(num:List Int):Prop:=num.length=r.Commits.length /\ ∀ j (hj:j< (liveL r).length),j<i->num.getD ((liveL r)[j]).toNat 0=(j:Int)
theorem zok {r:Repo}(hr:repoB r=true){i:Nat}(hi:i< (liveL r).length){num:List Int}(h:zrF r i num):zrF r (i+1) (num.set ((liveL r)[i]).toNat (i:Int)):=by
 have hri:=zbd hr (List.getElem_mem hi)
 refine⟨by rw[List.length_set];exact h.1,fun j hj hji=>?_⟩
 have hrj:=zbd hr (List.getElem_mem hj)
 rw[List.getD_eq_getElem?_getD]
 rcases Nat.lt_or_ge j i with q |q
 ·have hlt:=List.pairwise_iff_getElem.1 (zeG r) j i hj hi q
  rw[List.getElem?_set_ne (by omega),<- List.getD_eq_getElem?_getD]
  exact h.2 j hj q
 ·obtain rfl:j=i:=by omega
  rw[List.getElem?_set_self (by rw[h.1];omega)]
  rfl
theorem zmI {r:Repo}(h:RpB r)(hr:repoB r=true){K:Int->List Commit->List Head->List Int->Option Repo}: ∀ (k i m:Nat) (num:List Int),i+k=(liveL r).length->k<m->zrF r i num->
 ∃ num',zrF r (liveL r).length num'/\zcJ r (liveL r) K m (i:Int) (((liveL r).take i).map fun i=>zmz (liveL r) (r.Commits.getD i.toNat noCommit)) [] num=K ((liveL r).length:Int) ((liveL r).map fun i=>zmz (liveL r) (r.Commits.getD i.toNat noCommit)) [] num'
 |k,i,0,num,_,hm,_=>by omega
 |0,i,m+1,num,hi,_,hN=>by
  obtain rfl:i=(liveL r).length:=by omega
  refine⟨num,hN,?_⟩
  simp only[zcJ,zad,aC,List.take_length]
 |k+1,i,m+1,num,hi,hm,hN=>by
  have hs:=zab hr
  have hle:=zf1 r
  have hlt:i< (liveL r).length:=by omega
  have hx:(liveL r)[i]? =some (liveL r)[i]:=aB hlt
  have hxm:=List.getElem_mem hlt
  have hrg:=zbd hr hxm
  have hN1:=zok hr hlt hN
  have hg:r.Commits[(liveL r)[i].toNat]? =some (r.Commits[(liveL r)[i].toNat]'(by omega)):=aB _
  have hc:CB (r.Commits.getD (liveL r)[i].toNat noCommit):=by rw[zbF hg];exact h.cat hg
  have hps:=zar hr (i:=(liveL r)[i].toNat) (by omega)
  unfold zaa at hps
  have e1:siM num (liveL r)[i] (i:Int)=some (num.set ((liveL r)[i]).toNat (i:Int)):=by
   have:=zcf (xs:=num) (i:=(liveL r)[i].toNat) (by rw[hN.1];omega) (i:Int)
   rwa [show(((liveL r)[i].toNat:Nat):Int)=(liveL r)[i] by omega]at this
  have el:(((liveL r).take i).map fun i=>zmz (liveL r) (r.Commits.getD i.toNat noCommit)).length=i:=by rw[List.length_map,List.length_take];omega
  have hpar: ∀ p∈(r.Commits.getD (liveL r)[i].toNat noCommit).Parents,gi (num.set ((liveL r)[i]).toNat (i:Int)) p=some (plI (liveL r) p):=fun p hp=>by
   have hpl:=zky hr hxm (p:=p) hp
   have hpr:=zbd hr hpl
   have hlt2:=zjm (zeG r) hpl hxm (by have:=hps.2 p hp;omega)
   rw[zhH (zeG r) hlt]at hlt2
   obtain⟨q0,q1,q2,q3⟩:=zbp hpl
   rw[zmv hpr.1 (by rw[hN1.1];omega)]
   have:=hN1.2 _ q2 (by omega)
   rw[q3]at this
   rw[this]
   rfl
  have et:za4 r (liveL r)[i]=some (r.Commits.getD (liveL r)[i].toNat noCommit).Tree:=by
   unfold za4
   rw[aE (by omega),aC,zaN hrg.1 hrg.2,aA]
  simp only[zcJ,jn,zah hx,zae hx,aD,aA,zmv hrg.1 (show(liveL r)[i].toNat<num.length by rw[hN.1];omega),el,e1,zaN hrg.1 hrg.2,et,zek hc.tree,zak]
  rw[zoj hpar (by omega),ap1 (by rw[el];omega),aA,zac hlt (show(liveL r).length<=maxi by unfold maxi;omega)]
  obtain⟨num',n1,n2⟩:=zmI (K:=K) h hr k (i+1) m _ (by omega) (by omega) hN1
  refine⟨num',n1,?_⟩
  rw[<- n2,List.take_succ_eq_append_getElem hlt,List.map_append]
  rfl
theorem ziP {r:Repo}(h:RpB r):zgd r=some (bif repoB r then keepR r else za5):=by
 unfold zgd
 rw[zcb h,aA]
 cases hr:repoB r with
 |false=>rfl
 |true=>
  have hs:=zab hr
  have hle:=zf1 r
  rw[aK,aC,aD,zjV (by simp[lim];omega),aA,znv hr,aA,zeZ (by rw[zh5];omega),aA]
  simp only[jn,zak]
  show zcJ r (liveL r) _ ((liveL r).length+1) 0 [] [] _=_
  obtain⟨num,n1,n2⟩:=zmI h hr (K:=fun(_:Int) (y54:List Vm.Commit) (y57:List Vm.Head) (y61:List Int)=>zbH r y61 (fun _ y479 y482=>some (Vm.Repo.mk y479 y482)) (r.Heads.length+1) 0 y54 y57) (liveL r).length 0 ((liveL r).length+1) (List.replicate r.Commits.length 0) (by omega) (by omega) ⟨by simp,fun j _ hj=>by omega⟩
  refine n2.trans ?_
  show zbH r num _ (r.Heads.length+1) 0 (keepR r).Commits []=_
  rw[zaA (xs:=r.Heads) (p:=fun _=>true) (g:=zpZ (liveL r)) (Z:=fun acc=>some (Repo.mk (keepR r).Commits acc)) (f:=fun m acc i=>zbH r num _ m i (keepR r).Commits acc) (fun m i x acc hx ha=>by
   have hix:=zan hx
   have hl:=zij hr (aH hx)
   have hrg:=zbd hr hl
   obtain⟨q0,q1,q2,q3⟩:=zbp hl
   have e:=n1.2 _ q2 q2
   rw[q3]at e
   have e2:gi num x.At=some (plI (liveL r) x.At):=by
    rw[zmv hrg.1 (by rw[n1.1];omega),e]
    rfl
   simp only[zbH,zah hx,zae hx,aD,aA,e2,ap1 (show acc.length<=1048576 by omega),zac hix (show r.Heads.length<=maxi by unfold maxi;omega)]
   rfl) (fun m acc=>by simp only[zbH,zad,aC]) (by omega)]
  rw[List.filter_eq_self.2 (fun _ _=>rfl)]
  rfl
theorem zmJ {r:Repo}(h:RpB r)(hr:repoB r=true):RpB (keepR r):=by
 have hs:=zab hr
 have hle:=zf1 r
 refine⟨by rw[zcO];omega,fun c hc=>?_,by show(r.Heads.map _).length<=_;rw[List.length_map];omega,fun x hx=>?_⟩
 ·obtain⟨i,hi,rfl⟩:=List.mem_map.1 hc
  have hrg:=zbd hr hi
  have hg:r.Commits[i.toNat]? =some (r.Commits[i.toNat]'(by omega)):=aB _
  have hc:CB (r.Commits.getD i.toNat noCommit):=by rw[zbF hg];exact h.cat hg
  exact⟨by simp only[zmz,List.length_map];exact hc.par,hc.who,hc.tree⟩
 ·obtain⟨y,hy,rfl⟩:=List.mem_map.1 hx
  exact h.head y hy
theorem zmm {r:Repo}{good:List Int}(h:zjT r good=true):(∀ g∈good,upB r.Commits.length g=true)/\good.length<=16:=by
 unfold zjT at h
 simp only[aG,List.all_eq_true,decide_eq_true_eq]at h
 exact⟨h.1,by omega⟩
section
variable {r:l30Rd}{p:Int}
end
set_option linter.unusedSectionVars false
def zd1 (has list:List Int)(p:Int):Int:=bif zcF list p then plI list p else -1-plI has p
def zd4 (has list:List Int)(p:Int):Bool:=zcF list p||zcF has p
def zim (has list:List Int)(c:Commit):Commit:=⟨c.Parents.map (zd1 has list),c.Who,c.Tree⟩
def zdd (r:Repo)(has list:List Int)(x:Int):Bool:=(zaa r x.toNat).all (zd4 has list)
def zfM (r:Repo)(has list:List Int):List Commit:=list.map fun i=>zim has list (r.Commits.getD i.toNat noCommit)
def zhi (r:Repo)(has:List Int)(a:Int):Bool:=repoB r&&(zjT r has&&upB r.Commits.length a)
def zdP (r:Repo)(has:List Int)(a:Int):List Commit×Bool:=
 bif zhi r has a then(bif(leftL r has a).all (zdd r has (leftL r has a)) then(zfM r has (leftL r has a),true) else([],false)) else([],false)
theorem zlM {l:List Int}{n:Int}:decide (zbl l n<0) = !zcF l n:=by
 unfold zbl
 cases h:zcF l n with
 |true=>
  have:=(zbp (zaE.1 h)).1
  rw[aD,aE (by omega)]
  rfl
 |false=>rfl
theorem zk6 {l:List Int}{n:Int}: -1<=zbl l n/\zbl l n< (l.length:Int):=by
 unfold zbl
 cases h:zcF l n with
 |true=>
  have:=zbp (zaE.1 h)
  rw[aD]
  omega
 |false=>rw[aC];omega
theorem zlN {l:List Int}(hl:l.length<=1000000){n:Int}: ∀ (k i m:Nat),i+k=l.length->k<m->
 zbt l n (fun _ _=>some (-1)) m 0 (i:Int)=some (bif zcF (l.drop i) n then((i+(l.drop i).idxOf n:Nat):Int) else -1)
 |k,i,0,_,hm=>by omega
 |0,i,m+1,hi,_=>by
  obtain rfl:i=l.length:=by omega
  simp only[zbt,zad,aC,List.drop_length]
  rfl
 |k+1,i,m+1,hi,hm=>by
  have hlt:i<l.length:=by omega
  have hx:l[i]? =some l[i]:=aB hlt
  simp only[zbt,zah hx,zae hx,aD,aA,zac hlt (show l.length<=maxi by unfold maxi;omega)]
  rw[ziY hlt,zlN hl k (i+1) m (by omega) (by omega),show(n==l[i])=(l[i]==n) from zbT (by simp only[beq_iff_eq];exact⟨Eq.symm,Eq.symm⟩)]
  cases l[i]==n<;>rfl
theorem zlO {l:List Int}(hl:l.length<=1000000)(n:Int):zdq l n=some (zbl l n):=by
 unfold zdq
 simp only[jn,zak]
 have e:=zlN hl (n:=n) l.length 0 (l.length+1) (by omega) (by omega)
 refine e.trans ?_
 unfold zbl plI
 simp
section
variable {has list:List Int}(hh:has.length<=1000000)(hl:list.length<=1000000)
include hh hl
theorem zmS {c:Commit}(hP:c.Parents.length<=1000000){K:List Commit->Bool->Int->List Int->Str->List File->Option (List Commit×Bool)}{y:List Commit}{b:Bool}{w:Str}{t:List File}: ∀ (j k m:Nat),k+j=c.Parents.length->j<m->
 zeU has list c K m y b (k:Int) ((c.Parents.take k).map (zd1 has list)) w t=bif(c.Parents.drop k).all (zd4 has list) then K y b (c.Parents.length:Int) (c.Parents.map (zd1 has list)) w t else some ([],false)
 |j,k,0,_,hm=>by omega
 |0,k,m+1,hk,_=>by
  obtain rfl:k=c.Parents.length:=by omega
  rw[List.take_length,List.drop_length]
  simp only[zeU,zad,aC,List.all_nil,aD]
 |j+1,k,m+1,hk,hm=>by
  have hlt:k<c.Parents.length:=by omega
  have hx:c.Parents[k]? =some c.Parents[k]:=aB hlt
  have ih:=zmS hP (K:=K) (y:=y) (b:=b) (w:=w) (t:=t) j (k+1) m (by omega) (by omega)
  rw[List.take_succ_eq_append_getElem hlt,List.map_append]at ih
  have el:((c.Parents.take k).map (zd1 has list)).length<=1048576:=by rw[List.length_map,List.length_take];omega
  simp only[zeU,jn,zah hx,zae hx,aD,aA,zlO hl,zlO hh,zac hlt (show c.Parents.length<=maxi by unfold maxi;omega),ap1 el]
  rw[aI hlt,List.all_cons]
  have dl: ∀ l:List Int,decide ((0:Int)<=zbl l c.Parents[k])=zcF l c.Parents[k]:=fun l=>by
   have:=zlM (l:=l) (n:=c.Parents[k])
   cases hb:zcF l c.Parents[k]with
   |true=>rw[hb]at this;simp only[aK,decide_eq_false_iff_not]at this;exact aF (by omega)
   |false=>rw[hb]at this;simp only[Bool.not_false,decide_eq_true_eq]at this;exact aE (by omega)
  rw[dl list,dl has]
  cases h1:zcF list c.Parents[k]with
  |true=>
   have e1:zbl list c.Parents[k]=zd1 has list c.Parents[k]:=by unfold zbl zd1;rw[h1];rfl
   have e2:zd4 has list c.Parents[k]=true:=by unfold zd4;rw[h1];rfl
   simp only[aD,e1,e2,Bool.true_and]
   exact ih
  |false=>
   cases h2:zcF has c.Parents[k]with
   |false=>
    have e2:zd4 has list c.Parents[k]=false:=by unfold zd4;rw[h1,h2];rfl
    simp only[e2,Bool.false_and,aC]
   |true=>
    have e2:zd4 has list c.Parents[k]=true:=by unfold zd4;rw[h1,h2];rfl
    have e1: -1-zbl has c.Parents[k]=zd1 has list c.Parents[k]:=by unfold zbl zd1;rw[h1,h2];rfl
    have hr:=zk6 (l:=has) (n:=c.Parents[k])
    simp only[aD,aC,e2,Bool.true_and]
    rw[zai (by omega) (by omega),e1]
    exact ih
variable {r:Repo}(h:RpB r)(hr:repoB r=true)(hg: ∀ x∈list,0<=x/\x<=(r.Commits.length:Int)-1)
include h hr hg
theorem zoI {x:Int}(hx:x∈list):CB (r.Commits.getD x.toNat noCommit)/\(r.Commits.getD x.toNat noCommit).Parents.length<=2:=by
 have hrg:=hg x hx
 have hgx:r.Commits[x.toNat]? =some (r.Commits[x.toNat]'(by omega)):=aB _
 have hps:=zar hr (i:=x.toNat) (by omega)
 unfold zaa at hps
 exact⟨by rw[zbF hgx];exact h.cat hgx,hps.1⟩
theorem zmT {K:List Commit->Bool->List Commit->Int->Option (List Commit×Bool)}: ∀ (j k m:Nat),k+j=list.length->j<m->
 zdH r has list K m [] false ((list.take k).map fun i=>zim has list (r.Commits.getD i.toNat noCommit)) (k:Int)=bif(list.drop k).all (zdd r has list) then K [] false (zfM r has list) (list.length:Int) else some ([],false)
 |j,k,0,_,hm=>by omega
 |0,k,m+1,hk,_=>by
  obtain rfl:k=list.length:=by omega
  rw[List.take_length,List.drop_length]
  simp only[zdH,zad,aC,List.all_nil,aD]
  rfl
 |j+1,k,m+1,hk,hm=>by
  have hlt:k<list.length:=by omega
  have hx:list[k]? =some list[k]:=aB hlt
  have hxm:=List.getElem_mem hlt
  have hrg:=hg _ hxm
  obtain⟨hc,hp2⟩:=zoI hh hl h hr hg hxm
  have ih:=zmT (K:=K) j (k+1) m (by omega) (by omega)
  rw[List.take_succ_eq_append_getElem hlt,List.map_append]at ih
  have el:((list.take k).map fun i=>zim has list (r.Commits.getD i.toNat noCommit)).length<=1048576:=by rw[List.length_map,List.length_take];omega
  have et:za4 r list[k]=some (r.Commits.getD list[k].toNat noCommit).Tree:=by
   unfold za4
   rw[aE (by omega),aC,zaN hrg.1 hrg.2,aA]
  simp only[zdH,jn,zah hx,zae hx,aD,aA,zaN hrg.1 hrg.2,et,zek hc.tree,zak]
  have e:=zmS hh hl (c:=r.Commits.getD list[k].toNat noCommit) (by omega) (y:=[]) (b:=false) (w:=(r.Commits.getD list[k].toNat noCommit).Who) (t:=(r.Commits.getD list[k].toNat noCommit).Tree) (K:=fun(y217:List Vm.Commit) (y220:Bool) (y224:Int) (y225:List Int) (y228:Str) (y229:List Vm.File)=>
   (apM ((list.take k).map fun i=>zim has list (r.Commits.getD i.toNat noCommit)) [Vm.Commit.mk y225 y228 y229]).bind fun q357=>
   zdH r has list K m y217 y220 q357 (w64 ((k:Int)+1))) (r.Commits.getD list[k].toNat noCommit).Parents.length 0 ((r.Commits.getD list[k].toNat noCommit).Parents.length+1) (by omega) (by omega)
  refine e.trans ?_
  rw[aI hlt,List.all_cons,List.drop_zero]
  have ea:(r.Commits.getD list[k].toNat noCommit).Parents.all (zd4 has list)=zdd r has list list[k]:=rfl
  rw[ea]
  cases zdd r has list list[k]with
  |false=>rfl
  |true=>
   rw[aD,Bool.true_and,ap1 el,aA,zac hlt (show list.length<=maxi by unfold maxi;omega)]
   exact ih
end
theorem zop {r:Repo}(h:RpB r){has:List Int}(hl:has.length<=1000)(a:Int):zbI r has a=some (zhi r has a):=by
 unfold zbI zhi zjT
 simp only[jn,zlF h (show has.length<=100000 by omega),zgY h,aA]
 cases repoB r with
 |false=>rfl
 |true=>
  cases has.all (upB r.Commits.length)with
  |false=>rfl
  |true=>
   cases decide ((has.length:Int)<=16)<;>rfl
theorem zhe {r:Repo}{has:List Int}{a:Int}(h:zhi r has a=true):repoB r=true/\upB r.Commits.length a=true/\zjT r has=true/\(∀ g∈has,upB r.Commits.length g=true)/\has.length<=16:=by
 unfold zhi at h
 simp only[aG]at h
 obtain⟨h1,h2,h3⟩:=h
 exact⟨h1,h3,h2,(zmm h2).1,(zmm h2).2⟩
theorem ziU {r:Repo}{has:List Int}{a x:Int}(hx:x∈leftL r has a):0<=x/\x<=(r.Commits.length:Int)-1:=zaO (zeq.1 hx).1
theorem zmc {r:Repo}(h:RpB r){has:List Int}(hl:has.length<=1000)(a:Int):zie r has a=some (zdP r has a):=by
 unfold zie zdP
 rw[zop h hl,aA]
 cases hs:zhi r has a with
 |false=>rfl
 |true=>
  obtain⟨h1,h2,h3,h4,h5⟩:=zhe hs
  have hle:=zf2 r has a
  have hsm:=(zab h1).1
  rw[aK,aC,aD,zlJ h1 h2 (by omega) h4,aA]
  simp only[jn,zak]
  have e:=zmT (has:=has) (list:=leftL r has a) (by omega) (by omega) h h1 (fun x hx=>ziU hx) (K:=fun _ _ y26 _=>some (y26,true)) (leftL r has a).length 0 ((leftL r has a).length+1) (by omega) (by omega)
  refine e.trans ?_
  rw[List.drop_zero]
  cases(leftL r has a).all (zdd r has (leftL r has a))<;>rfl
theorem zgQ {r:Repo}{has:List Int}{a:Int}(h:(zdP r has a).2=true):zhi r has a=true/\(leftL r has a).all (zdd r has (leftL r has a))=true/\(zdP r has a).1=zfM r has (leftL r has a):=by
 unfold zdP at h ⊢
 cases hs:zhi r has a with
 |false=>rw[hs]at h;cases h
 |true=>
  rw[hs,aD]at h
  cases ha:(leftL r has a).all (zdd r has (leftL r has a))with
  |false=>rw[ha]at h;cases h
  |true=>exact⟨rfl,rfl,rfl⟩
theorem ziG {r:Repo}{has:List Int}{a:Int}(h:(zdP r has a).2=false):(zdP r has a).1=[]:=by
 unfold zdP at h ⊢
 cases hs:zhi r has a with
 |false=>rfl
 |true=>
  rw[hs,aD]at h
  cases ha:(leftL r has a).all (zdd r has (leftL r has a))with
  |false=>rfl
  |true=>rw[ha]at h;cases h
theorem znh {c:Commit}(h:CB c)(has list:List Int):CB (zim has list c):=⟨by simp only[zim,List.length_map];exact h.par,h.who,h.tree⟩
theorem zoq {r:Repo}(h:RpB r)(has:List Int)(a:Int): ∀ c∈(zdP r has a).1,CB c:=fun c hc=>by
 cases h2:(zdP r has a).2 with
 |false=>rw[ziG h2]at hc;simp at hc
 |true=>
  obtain⟨h3,_,h4⟩:=zgQ h2
  rw[h4]at hc
  obtain⟨x,hx,rfl⟩:=List.mem_map.1 hc
  have hrg:=ziU hx
  have hgx:r.Commits[x.toNat]? =some (r.Commits[x.toNat]'(by omega)):=aB _
  exact znh (by rw[zbF hgx];exact h.cat hgx) _ _
theorem znH {r:Repo}(has:List Int)(a:Int):(zdP r has a).1.length<=r.Commits.length:=by
 cases h2:(zdP r has a).2 with
 |false=>rw[ziG h2];simp
 |true=>
  obtain⟨h3,_,h4⟩:=zgQ h2
  rw[h4]
  unfold zfM
  rw[List.length_map]
  exact zf2 r has a
theorem znM: ∀ {xs ys:List Int},xs.Nodup->(∀ x∈xs,x∈ys)->xs.length<=ys.length
 | [],ys,_,_=>Nat.zero_le _
 |x::xs,ys,hn,hs=>by
  have hx:x∈ys:=hs x (by simp)
  obtain⟨hx',hn'⟩:=List.nodup_cons.1 hn
  have:=znM (xs:=xs) (ys:=ys.erase x) hn' fun y hy=>(List.mem_erase_of_ne (fun e=>hx' (by rw[<- e];exact hy))).2 (hs y (List.mem_cons_of_mem _ hy))
  rw[List.length_erase_of_mem hx]at this
  have h0:0<ys.length:=List.length_pos_of_mem hx
  simp only[aL]
  omega
theorem zrJ {l:List Int}(h:l.Nodup){i:Nat}(hi:i<l.length):plI l l[i]=(i:Int):=by
 unfold plI
 rw[h.idxOf_getElem i hi]
theorem zqC {l:List Int}{a b:Int}(ha:a∈l)(hb:b∈l)(e:plI l a=plI l b):a=b:=by
 obtain⟨_,_,h1,e1⟩:=zbp ha
 obtain⟨_,_,h2,e2⟩:=zbp hb
 have q1:l[(plI l a).toNat]? =some a:=by rw[aB h1,e1]
 have q2:l[(plI l b).toNat]? =some b:=by rw[aB h2,e2]
 rw[e,q2]at q1
 exact(Option.some.inj q1).symm
structure Top (r:Repo) (l:List Int):Prop where
 nd:l.Nodup
 rg: ∀ x∈l,0<=x/\x<=(r.Commits.length:Int)-1
 up: ∀ x∈l,∀ p∈zaa r x.toNat,p∈l/\plI l p<plI l x
def ziX (r:Repo)(l:List Int):List Commit:=l.map fun i=>zmz l (r.Commits.getD i.toNat noCommit)
theorem znI {x r:Repo}{l:List Int}(hx:x.Commits=ziX r l){i:Nat}(hi:i<l.length):x.Commits.getD i noCommit=zmz l (r.Commits.getD l[i].toNat noCommit):=by
 have:x.Commits[i]? =some (zmz l (r.Commits.getD l[i].toNat noCommit)):=by
  rw[hx]
  unfold ziX
  rw[List.getElem?_map,aB hi]
  rfl
 exact zbF this
theorem zpM {x r:Repo}{l:List Int}(hx:x.Commits=ziX r l){i:Nat}(hi:i<l.length):zaa x i=(zaa r l[i].toNat).map (plI l):=by
 unfold zaa
 rw[znI hx hi]
 rfl
theorem zo3 {x r:Repo}{l:List Int}(hr:repoB r=true)(ht:Top r l)(hx:x.Commits=ziX r l):zj4 x.Commits=true:=by
 have hlen:x.Commits.length=l.length:=by rw[hx];simp[ziX]
 refine zaC.2 fun i _ hi=>?_
 rw[hlen,Nat.zero_add]at hi
 have hm:=List.getElem_mem hi
 have hg:=ht.rg _ hm
 have hc:=zeu hr (i:=l[i].toNat) (by omega)
 rw[znI hx hi]
 unfold zjL at hc ⊢
 simp only[aG,List.all_eq_true]at hc ⊢
 obtain⟨c1,c2,c3,c4⟩:=hc
 have hsub: ∀ p∈(r.Commits.getD l[i].toNat noCommit).Parents,p∈l:=fun p hp=>(ht.up _ hm p hp).1
 refine⟨fun q hq=>?_,by simpa[zmz]using c2,?_,c4⟩
 ·obtain⟨p,hp,rfl⟩:=List.mem_map.1 hq
  have h1:=zbp (hsub p hp)
  have h2:=(ht.up _ hm p hp).2
  rw[zrJ ht.nd hi]at h2
  exact zap.2 (by omega)
 ·show zlr ((r.Commits.getD l[i].toNat noCommit).Parents.map (plI l))=true
  revert c3 hsub
  generalize (r.Commits.getD l[i].toNat noCommit).Parents=ps
  intro c3 hsub
  match ps with
  | []=>rfl
  | [p]=>rfl
  | [p,q]=>
   have hne:p≠q:=by simpa[zlr]using c3
   have:plI l p≠plI l q:=fun e=>hne (zqC (hsub p (by simp)) (hsub q (by simp)) e)
   simpa[zlr]using this
  |p::q::s::t=>rfl
theorem zuo {x r:Repo}{l:List Int}(ht:Top r l)(hx:x.Commits=ziX r l){i:Nat}(hi:i<l.length){j:Nat}(h:Rc x i j): ∃ hj:j<l.length,Rc r l[i].toNat l[j].toNat:=by
 induction h with
 |refl=>exact⟨hi,Rc.refl _⟩
 | @step b p hb hp ih=>
  obtain⟨hj,q⟩:=ih
  rw[zpM hx hj]at hp
  obtain⟨y,hy,rfl⟩:=List.mem_map.1 hp
  have hm:=List.getElem_mem hj
  obtain⟨_,_,hlt,e⟩:=zbp (ht.up _ hm y hy).1
  refine⟨hlt,?_⟩
  rw[e]
  exact Rc.step q hy
theorem zsc {r:Repo}{l:List Int}(ht:Top r l){a c:Nat}(ha:(a:Int)∈l)(h:Rc r a c):(c:Int)∈l:=by
 induction h with
 |refl=>exact ha
 | @step b p hb hp ih=>
  have h1:=(ht.up _ ih p (by rw[Int.toNat_natCast];exact hp)).1
  have h2:=ht.rg p h1
  rwa [show((p.toNat:Nat):Int)=p by omega]
theorem zrO {x r:Repo}{l:List Int}(ht:Top r l)(hx:x.Commits=ziX r l){a c:Nat}(ha:(a:Int)∈l)(h:Rc r a c):Rc x (plI l (a:Int)).toNat (plI l (c:Int)).toNat:=by
 induction h with
 |refl=>exact Rc.refl _
 | @step b p hb hp ih=>
  have hbl:=zsc ht ha hb
  obtain⟨_,_,hlt,e⟩:=zbp hbl
  have h1:=(ht.up _ hbl p (by rw[Int.toNat_natCast];exact hp)).1
  have h2:=ht.rg p h1
  refine Rc.step ih (p:=plI l ((p.toNat:Nat):Int)) ?_
  rw[zpM hx hlt,e,Int.toNat_natCast]
  refine List.mem_map.2 ⟨p,hp,?_⟩
  rw[show((p.toNat:Nat):Int)=p by omega]
theorem zqO {x r:Repo}{l:List Int}(hr:repoB r=true)(hk:repoB x=true)(ht:Top r l)(hx:x.Commits=ziX r l){b:Int}(hb:b∈l):(allA x (plI l b)).length=(allA r b).length:=by
 have hlen:x.Commits.length=l.length:=by rw[hx];simp[ziX]
 have hg:=ht.rg _ hb
 obtain⟨p0,p1,hlt,e⟩:=zbp hb
 have hsub: ∀ y∈allA r b,y∈l/\0<=y/\Rc r b.toNat y.toNat:=fun y hm=>by
  obtain⟨q0,q1⟩:=(zba hr hg.1 hg.2 y).1 hm
  have:=zsc ht (a:=b.toNat) (by rwa [show((b.toNat:Nat):Int)=b by omega]) q1
  exact⟨by rwa [show((y.toNat:Nat):Int)=y by omega]at this,q0,q1⟩
 apply Nat.le_antisymm
 ·have h1:((allA x (plI l b)).map fun j=>l.getD j.toNat 0).Nodup:=by
   rw[List.Nodup,List.pairwise_map]
   refine(zgj.nodup (zfy x (plI l b))).imp_of_mem fun {u v} hu hv hne e2=>hne ?_
   obtain⟨u0,u1⟩:=zaO hu
   obtain⟨v0,v1⟩:=zaO hv
   have hu':u.toNat<l.length:=by omega
   have hv':v.toNat<l.length:=by omega
   rw[List.getD_eq_getElem?_getD,List.getD_eq_getElem?_getD,aB hu',aB hv']at e2
   simp only[Option.getD_some]at e2
   have g1:=zrJ ht.nd hu'
   have g2:=zrJ ht.nd hv'
   rw[e2,g2]at g1
   omega
  have h2:=znM h1 (ys:=allA r b) fun y hy=>by
   obtain⟨j,hj,rfl⟩:=List.mem_map.1 hy
   obtain⟨j0,j1⟩:=(zba hk p0 (by omega) j).1 hj
   obtain⟨hjl,q⟩:=zuo ht hx hlt j1
   rw[e]at q
   have hg2:=ht.rg _ (List.getElem_mem hjl)
   rw[List.getD_eq_getElem?_getD,aB hjl]
   exact(zba hr hg.1 hg.2 _).2 ⟨hg2.1,q⟩
  rwa [List.length_map]at h2
 ·have h1:((allA r b).map (plI l)).Nodup:=by
   rw[List.Nodup,List.pairwise_map]
   refine(zgj.nodup (zfy r b)).imp_of_mem fun {u v} hu hv hne e2=>hne (zqC (hsub u hu).1 (hsub v hv).1 e2)
  have h2:=znM h1 (ys:=allA x (plI l b)) fun y hy=>by
   obtain⟨c,hc,rfl⟩:=List.mem_map.1 hy
   obtain⟨c1,c2,c3⟩:=hsub c hc
   have:=zrO ht hx (a:=b.toNat) (by rwa [show((b.toNat:Nat):Int)=b by omega]) c3
   rw[show((b.toNat:Nat):Int)=b by omega,show((c.toNat:Nat):Int)=c by omega]at this
   exact(zba hk p0 (by omega) _).2 ⟨(zbp c1).1,this⟩
  rwa [List.length_map]at h2
theorem znN {l m:List Int}{c:Int}(h:c∈l):plI (l++m) c=plI l c:=by
 unfold plI
 rw[List.idxOf_append,if_pos h]
theorem zjj {l m:List Int}{c:Int}(h:c∉l):plI (l++m) c=(l.length:Int)+plI m c:=by
 unfold plI
 rw[List.idxOf_append,if_neg h]
 omega
theorem zow {r:Repo}(hr:repoB r=true){a b:Int}(ha:upB r.Commits.length a=true)(hb:upB r.Commits.length b=true):Top r (allA r a++leftL r (allA r a) b):=by
 have ua:=zap.1 ha
 have ub:=zap.1 hb
 have hdis: ∀ x∈allA r a,x∉leftL r (allA r a) b:=fun x hx hx2=>by
  have hm:=zaO hx
  exact(zeq.1 hx2).2 x hx (zhw hr hm.1 hm.2)
 have hcl: ∀ {c:Int},upB r.Commits.length c=true -> ∀ x∈allA r c,∀ p∈zaa r x.toNat,p∈allA r c:=fun {c} hc x hx p hp=>by
  have uc:=zap.1 hc
  have hm:=zaO hx
  have h1:=(zba hr uc.1 uc.2 x).1 hx
  have h2:=((zar hr (i:=x.toNat) (by omega)).2 p hp).1
  exact(zba hr uc.1 uc.2 p).2 ⟨h2,Rc.step h1.2 hp⟩
 refine⟨?_,?_,?_⟩
 ·refine List.nodup_append.2 ⟨zgj.nodup (zfy r a),zgj.nodup (zg1 r _ b),fun x hx y hy e=>hdis x hx (by rw[e];exact hy)⟩
 ·intro x hx
  rcases List.mem_append.1 hx with h |h
  ·exact zaO h
  ·exact zaO (zeq.1 h).1
 ·intro x hx p hp
  have hxm:0<=x/\x<=(r.Commits.length:Int)-1:=by
   rcases List.mem_append.1 hx with h |h
   ·exact zaO h
   ·exact zaO (zeq.1 h).1
  have hlt:=(zar hr (i:=x.toNat) (by omega)).2 p hp
  by_cases hxa:x∈allA r a
  ·have h1:=hcl ha x hxa p hp
   refine⟨List.mem_append_left _ h1,?_⟩
   rw[znN h1,znN hxa]
   exact zjm (zfy r a) h1 hxa (by omega)
  ·have hxl:x∈leftL r (allA r a) b:=(List.mem_append.1 hx).resolve_left hxa
   by_cases hpa:p∈allA r a
   ·refine⟨List.mem_append_left _ hpa,?_⟩
    rw[znN hpa,zjj hxa]
    have:=(zbp hpa).2.1
    have:=(zbp hxl).1
    omega
   ·have hpl:p∈leftL r (allA r a) b:=zeq.2 ⟨hcl hb x (zeq.1 hxl).1 p hp,fun g hg hpg=>hpa (by
     have hgm:=zaO hg
     have h1:=(zba hr ua.1 ua.2 g).1 hg
     have h2:=(zba hr hgm.1 hgm.2 p).1 hpg
     exact(zba hr ua.1 ua.2 p).2 ⟨h2.1,h1.2.trans h2.2⟩)⟩
    refine⟨aJ _ hpl,?_⟩
    rw[zjj hpa,zjj hxa]
    have:=zjm (zg1 r _ b) hpl hxl (by omega)
    omega
theorem zoJ (l:List Int)(n:Int):0<=plI l n/\plI l n<=(l.length:Int):=by
 unfold plI
 have:=List.idxOf_le_length (a:=n) (l:=l)
 omega
theorem znJ {has list:List Int}(hh:has.length<=1000000)(hl:list.length<=1000000)(p:Int):zhs (zd1 has list p):=by
 unfold zd1 zhs
 have h1:=zoJ has p
 have h2:=zoJ list p
 cases zcF list p
 ·rw[aC];omega
 ·rw[aD];omega
structure SentB (sent:List Commit):Prop where
 len:sent.length<=16
 cb: ∀ c∈sent,CB c
 fit: ∀ c∈sent,∀ p∈c.Parents,zhs p
theorem zmd {r:Repo}(h:RpB r)(hc:r.Commits.length<=16){has:List Int}(hl:has.length<=1000)(a:Int):SentB (zdP r has a).1:=by
 have hle:=znH (r:=r) has a
 refine⟨by omega,zoq h has a,fun c hm p hp=>?_⟩
 cases h2:(zdP r has a).2 with
 |false=>rw[ziG h2]at hm;simp at hm
 |true=>
  obtain⟨_,_,h4⟩:=zgQ h2
  rw[h4]at hm
  obtain⟨x,hx,rfl⟩:=List.mem_map.1 hm
  obtain⟨q,_,rfl⟩:=List.mem_map.1 hp
  have hll:=zf2 r has a
  exact znJ (by omega) (by omega) q
theorem SentB.take {sent:List Commit}(h:SentB sent)(k:Nat):SentB (sent.take k):=
 ⟨Nat.le_trans (List.length_take_le' k sent) h.len,fun c hc=>h.cb c (List.mem_of_mem_take hc),fun c hc=>h.fit c (List.mem_of_mem_take hc)⟩
theorem SentB.set {sent:List Commit}(h:SentB sent){c:Commit}(hc:CB c)(hf: ∀ p∈c.Parents,zhs p)(k:Nat):SentB (sent.set k c):=
 ⟨by rw[List.length_set];exact h.len,fun d hd=>by
  rcases List.mem_or_eq_of_mem_set hd with q |q
  ·exact h.cb d q
  ·rw[q];exact hc,fun d hd=>by
  rcases List.mem_or_eq_of_mem_set hd with q |q
  ·exact h.fit d q
  ·rw[q];exact hf⟩
theorem zme (has:List Int)(base:Nat): ∀ (cs:List Commit) (i0 i:Nat),(ze0 has base i0 cs)[i]? =(cs[i]?).map (toC has base (i0+i))
 | [],i0,i=>by simp[ze0]
 |c::cs,i0,0=>by simp[ze0]
 |c::cs,i0,i+1=>by
  simp only[ze0,List.getElem?_cons_succ]
  rw[zme has base cs (i0+1) i,show i0+1+i=i0+(i+1) by omega]
theorem znx {r:Repo}{has:List Int}{sent:List Commit}(hr:RpB r)(hok:repoB r=true)(hs:SentB sent){n:Str}(hn:n.length<=1048576):RpB (zg9 r has sent n):=by
 have h1:=zab hok
 have hl:=hs.len
 exact(znd (has:=has) hr (by omega) hs.cb).headR (show r.Heads.length<=100000 by omega) hn _
theorem zsd {l:List Int}(hl:l.length<=1000){K:List Int->Int->Option Bool}: ∀ (k i m:Nat),i+k=l.length->k<m->zgx l K m ((List.range i).map Int.ofNat) (i:Int)=K ((List.range l.length).map Int.ofNat) (l.length:Int)
 |k,i,0,_,hm=>by omega
 |0,i,m+1,hi,_=>by
  obtain rfl:i=l.length:=by omega
  simp only[zgx,zad,aC]
 |k+1,i,m+1,hi,hm=>by
  have hlt:i<l.length:=by omega
  have ih:=zsd hl (K:=K) k (i+1) m (by omega) (by omega)
  rw[List.range_succ,List.map_append]at ih
  simp only[zgx]
  rw[aF (by omega),aD,ap1 (by simp;omega),aA,zac hlt (show l.length<=maxi by unfold maxi;omega)]
  exact ih
theorem znm (cs:List Commit)(hs hs':List Head): ∀ (i:Nat) (mk:List Bool),zdE ⟨cs,hs⟩ i mk=zdE ⟨cs,hs'⟩ i mk
 |0,mk=>rfl
 |i+1,mk=>by
  unfold zdE
  rw[znm cs hs hs' i]
  rfl
theorem zoe (cs:List Commit)(hs hs':List Head)(a:Int):allA ⟨cs,hs⟩ a=allA ⟨cs,hs'⟩ a:=by
 unfold allA za0
 rw[znm cs hs hs']
section
variable {x:Repo}(hr:repoB x=true){a b:Int}(ha:upB x.Commits.length a=true)(hb:upB x.Commits.length b=true)
include hr ha
theorem zpN:repoB ⟨x.Commits,[⟨[120],a⟩]⟩=true:=by
 have hR:=zf0.1 hr
 refine zf0.2 ⟨hR.1,zed.2 ⟨fun h hh=>?_,by simp,by simp⟩⟩
 simp only[List.mem_cons,List.not_mem_nil,or_false]at hh
 rw[hh]
 exact⟨show zav [120]=true by decide,ha⟩
theorem zmf:liveL ⟨x.Commits,[⟨[120],a⟩]⟩=allA x a:=by
 refine zgj.ext (zeG _) (zfy x a) fun y=>?_
 rw[zfB (zpN hr ha)]
 constructor
 ·rintro⟨h,hh,hy⟩
  simp only[List.mem_cons,List.not_mem_nil,or_false]at hh
  rw[hh,zoe x.Commits _ x.Heads]at hy
  exact hy
 ·exact fun hy=>⟨⟨[120],a⟩,List.mem_cons_self,by rw[zoe x.Commits _ x.Heads];exact hy⟩
theorem zqe:keepR ⟨x.Commits,[⟨[120],a⟩]⟩=⟨ziX x (allA x a),[⟨[120],plI (allA x a) a⟩]⟩:=by
 unfold keepR
 rw[zmf hr ha]
 rfl
include hb
theorem zsW:(leftL x (allA x a) b).all (zdd x (allA x a) (leftL x (allA x a) b))=true:=by
 have ht:=zow hr ha hb
 rw[List.all_eq_true]
 intro c hc
 unfold zdd
 rw[List.all_eq_true]
 intro p hp
 have:=(ht.up c (aJ _ hc) p hp).1
 unfold zd4
 rw[Bool.or_eq_true,zaE,zaE]
 rcases List.mem_append.1 this with q |q
 ·exact .inr q
 ·exact .inl q
theorem zmg {c:Int}(h:c∈leftL x (allA x a) b):c∉allA x a:=fun hc=>by
 have hm:=zaO hc
 exact(zeq.1 h).2 c hc (zhw hr hm.1 hm.2)
theorem zoQ {n k:Nat}(h:k<n):((List.range n).map Int.ofNat).getD k 0=(k:Int):=by
 rw[List.getD_eq_getElem?_getD,List.getElem?_map,List.getElem?_range h]
 rfl
theorem zrP:ziX x (allA x a)++ze0 ((List.range (allA x a).length).map Int.ofNat) (allA x a).length 0 (zfM x (allA x a) (leftL x (allA x a) b))=ziX x (allA x a++leftL x (allA x a) b):=by
 have ht:=zow hr ha hb
 unfold ziX
 rw[List.map_append]
 congr 1
 ·refine List.map_congr_left fun c hc=>?_
  unfold zmz
  congr 1
  refine List.map_congr_left fun p hp=>?_
  have hm:=zaO hc
  have ua:=zap.1 ha
  have hpm:p∈allA x a:=by
   have h1:=(zba hr ua.1 ua.2 c).1 hc
   have h2:=((zar hr (i:=c.toNat) (by omega)).2 p hp).1
   exact(zba hr ua.1 ua.2 p).2 ⟨h2,Rc.step h1.2 hp⟩
  rw[znN hpm]
 ·apply List.ext_getElem?
  intro j
  rw[zme,Nat.zero_add,List.getElem?_map]
  unfold zfM
  rw[List.getElem?_map]
  cases hc:(leftL x (allA x a) b)[j]? with
  |none=>rfl
  |some c=>
   have hcm:=aH hc
   obtain⟨hj,hcj⟩:=List.getElem?_eq_some_iff.1 hc
   simp only[Option.map_some]
   congr 1
   unfold toC zim zmz
   simp only[List.map_map]
   congr 1
   refine List.map_congr_left fun p hp=>?_
   simp only[Function.comp_apply]
   have hup:=ht.up c (aJ _ hcm) p hp
   by_cases hpl:p∈leftL x (allA x a) b
   ·have hna:=zmg hr ha hb hpl
    have es:zd1 (allA x a) (leftL x (allA x a) b) p=plI (leftL x (allA x a) b) p:=by unfold zd1;rw[zaE.2 hpl];rfl
    have h2:=hup.2
    rw[zjj hna,zjj (zmg hr ha hb hcm),<- hcj,zhH (zg1 x _ b) hj]at h2
    have h3:=zbp hpl
    rw[es,zjj hna]
    unfold toP
    rw[zap.2 (by omega)]
    rfl
   ·have hpa:p∈allA x a:=(List.mem_append.1 hup.1).resolve_right hpl
    have es:zd1 (allA x a) (leftL x (allA x a) b) p = -1-plI (allA x a) p:=by unfold zd1;rw[Bool.eq_false_iff.2 fun e=>hpl (zaE.1 e)];rfl
    have h3:=zbp hpa
    rw[es,znN hpa]
    unfold toP
    rw[show upB (j:Int) (-1-plI (allA x a) p)=false from Bool.eq_false_iff.2 fun e=>by have:=zap.1 e;omega,aC,zoQ hr ha hb (by omega)]
    omega
theorem zup {n:Nat}{L:List Commit}(hL:zj4 L=true)(hl:L.length<=16){e v:Int}(he:upB L.length e=true)(hv:upB L.length v=true):repoB ⟨L,[⟨[120],v⟩,⟨[121],e⟩]⟩=true:=by
 refine zf0.2 ⟨⟨hl,hL⟩,zed.2 ⟨fun h hh=>?_,?_,by simp⟩⟩
 ·simp only[List.mem_cons,List.not_mem_nil,or_false]at hh
  rcases hh with rfl |rfl
  ·exact⟨show zav [120]=true by decide,hv⟩
  ·exact⟨show zav [121]=true by decide,he⟩
 ·refine List.pairwise_cons.2 ⟨fun y hy=>?_,by simp⟩
  simp only[List.mem_cons,List.not_mem_nil,or_false]at hy
  rw[hy]
  show([120]:Str)< [121]
  decide
theorem zwD (hne:leftL x (allA x a) b≠ []):b∈leftL x (allA x a) b/\plI (leftL x (allA x a) b) b=((leftL x (allA x a) b).length:Int)-1:=by
 have ua:=zap.1 ha
 have ub:=zap.1 hb
 obtain⟨c,hc⟩:=List.exists_mem_of_ne_nil _ hne
 have hcb:=(zeq.1 hc).1
 have hbl:b∈leftL x (allA x a) b:=zeq.2 ⟨zhw hr ub.1 ub.2,fun g hg hbg=>by
  have hgm:=zaO hg
  have h1:=(zba hr ua.1 ua.2 g).1 hg
  have h2:=(zba hr hgm.1 hgm.2 b).1 hbg
  have h3:=(zba hr ub.1 ub.2 c).1 hcb
  exact zmg hr ha hb hc ((zba hr ua.1 ua.2 c).2 ⟨h3.1,(h1.2.trans h2.2).trans h3.2⟩)⟩
 refine⟨hbl,?_⟩
 have hlast:=zny (zg1 x (allA x a) b) hbl fun y hy=>zos hr ub.1 ub.2 (zeq.1 hy).1
 have hpos:0< (leftL x (allA x a) b).length:=List.length_pos_of_mem hbl
 have hi:(leftL x (allA x a) b).length-1< (leftL x (allA x a) b).length:=by omega
 rw[List.getD_eq_getElem?_getD,aB hi,Option.getD_some]at hlast
 have:=zhH (zg1 x (allA x a) b) hi
 rw[hlast]at this
 omega
end
theorem zqm {code:List Byte}(h:Bk.fit code):zkx code=some true:=by
 unfold zkx
 by_cases hc:(1048576:Int)< (code.length:Int)
 ·rw[aF hc];rfl
 obtain⟨x,a,b,e,hx,a0,a1,b0,b1⟩:=zoR (code:=code) (by omega)
 have hrb:=hx.rb
 have hcm:=hx.coms
 have hal:=zpr x a (by omega)
 rw[aE hc,aC,e,aA]
 simp only[zfj,zhm hrb,zqf hrb,aA,jn,zjO (show(zdl x a).length<=1048576 by omega),aO,aK,aC]
 by_cases hz:(zdl x a).length=0
 ·rw[hz];rfl
 rw[beq_false_of_ne (by omega),aC]
 by_cases hb1:b<0
 ·rw[aF hb1];rfl
 rw[aE hb1,aC]
 by_cases hb2:(x.Commits.length:Int)<=b
 ·rw[aF hb2];rfl
 rw[aE hb2,aC]
 have hrr:repoB x=true/\upB x.Commits.length a=true:=by
  unfold zdl at hz
  cases hq:(repoB x&&upB x.Commits.length a)with
  |false=>rw[hq]at hz;exact absurd rfl hz
  |true=>simpa using hq
 obtain⟨hr,ha⟩:=hrr
 have hub:upB x.Commits.length b=true:=zap.2 (by omega)
 have eA:zdl x a=allA x a:=by unfold zdl;rw[hr,ha];rfl
 have eB:zdl x b=allA x b:=by unfold zdl;rw[hr,hub];rfl
 rw[eA]at hal hz ⊢
 have hal2:=zaS x a
 have hll:=zf2 x (allA x a) b
 have ho:=zpN hr ha
 have hob:RpB ⟨x.Commits,[⟨[120],a⟩]⟩:=⟨hrb.coms,hrb.com,by simp,fun y hy=>by simp only[List.mem_cons,List.not_mem_nil,or_false]at hy;rw[hy];simp⟩
 have hkb:=zmJ hob ho
 have hk:=zjg ho
 have ht:=zow hr ha hub
 have hwa:=zsW hr ha hub
 have hsus:zhi x (allA x a) b=true:=by
  unfold zhi zjT
  rw[hr,hub,List.all_eq_true.2 fun y hy=>zap.2 (zaO hy),aF (by omega)]
  rfl
 have eS:zdP x (allA x a) b=(zfM x (allA x a) (leftL x (allA x a) b),true):=by unfold zdP;rw[hsus,hwa];rfl
 have hsB:SentB (zfM x (allA x a) (leftL x (allA x a) b)):=by have:=zmd hrb hcm (has:=allA x a) (by omega) b;rwa [eS]at this
 have hsl:(zfM x (allA x a) (leftL x (allA x a) b)).length=(leftL x (allA x a) b).length:=by simp[zfM]
 have hth:((List.range (allA x a).length).map Int.ofNat).length=(allA x a).length:=by simp
 rw[ziP hob,ho,aD,aA]
 simp only[zak]
 refine(zsd hal (allA x a).length 0 ((allA x a).length+1) (by omega) (by omega)).trans ?_
 rw[zmc hrb (by omega),eS,aA]
 simp only[zfj]
 rw[zkl hkb (by rw[hth];omega) (by rw[zcO,zmf hr ha,hsl];omega) hsB.cb hsB.fit (by simp),aA]
 have eK:keepR ⟨x.Commits,[⟨[120],a⟩]⟩=⟨ziX x (allA x a),[⟨[120],plI (allA x a) a⟩]⟩:=zqe hr ha
 have eT:zg9 (keepR ⟨x.Commits,[⟨[120],a⟩]⟩) ((List.range (allA x a).length).map Int.ofNat) (zfM x (allA x a) (leftL x (allA x a) b)) [121]=⟨ziX x (allA x a++leftL x (allA x a) b),[⟨[120],plI (allA x a) a⟩,⟨[121],endAt ((List.range (allA x a).length).map Int.ofNat) (allA x a).length (leftL x (allA x a) b).length⟩]⟩:=by
  rw[eK]
  unfold zg9 headR
  simp only[show(ziX x (allA x a)).length=(allA x a).length by simp[ziX],hsl]
  rw[zrP hr ha hub]
  rfl
 have hself:=zhw hr (zap.1 ha).1 (zap.1 ha).2
 have hpa:=zbp hself
 have hgl:(ziX x (allA x a++leftL x (allA x a) b)).length=(allA x a).length+(leftL x (allA x a) b).length:=by simp[ziX]
 have hcoms:zj4 (ziX x (allA x a++leftL x (allA x a) b))=true:=zo3 (x:=⟨ziX x (allA x a++leftL x (allA x a) b),[]⟩) hr ht rfl
 have hend:upB (ziX x (allA x a++leftL x (allA x a) b)).length (endAt ((List.range (allA x a).length).map Int.ofNat) (allA x a).length (leftL x (allA x a) b).length)=true:=by
  rw[hgl]
  unfold endAt
  by_cases h0:(leftL x (allA x a) b).length=0
  ·rw[h0,show((0:Nat)==0)=true from rfl,aD]
   unfold zj6
   rw[hth,aF (by omega),aD,zoQ hr ha hub (by omega)]
   exact zap.2 (by omega)
  ·rw[beq_false_of_ne h0,aC]
   exact zap.2 (by omega)
 have hokS:okS ((List.range (allA x a).length).map Int.ofNat) 0 (zfM x (allA x a) (leftL x (allA x a) b))=true:=by
  have gen: ∀ (cs:List Commit) (i0:Nat),(∀ (j:Nat) (c:Commit),cs[j]? =some c->c.Parents.all (onP ((List.range (allA x a).length).map Int.ofNat) (i0+j))=true)->okS ((List.range (allA x a).length).map Int.ofNat) i0 cs=true:=by
   intro cs
   induction cs with
   |nil=>exact fun _ _=>rfl
   |cons c cs ih=>
    intro i0 hcs
    unfold okS
    have h00:=hcs 0 c rfl
    rw[Nat.add_zero]at h00
    rw[h00,Bool.true_and]
    exact ih (i0+1) fun j d hd=>by
     have:=hcs (j+1) d (by rw[List.getElem?_cons_succ];exact hd)
     rwa [show i0+(j+1)=i0+1+j by omega]at this
  refine gen _ 0 fun j d hd=>?_
  rw[Nat.zero_add]
  unfold zfM at hd
  rw[List.getElem?_map]at hd
  cases hcj:(leftL x (allA x a) b)[j]? with
  |none=>rw[hcj]at hd;cases hd
  |some c=>
   rw[hcj]at hd
   cases hd
   have hcm2:=aH hcj
   obtain⟨hj,hcj2⟩:=List.getElem?_eq_some_iff.1 hcj
   rw[List.all_eq_true]
   intro q hq
   obtain⟨p,hp,rfl⟩:=List.mem_map.1 hq
   have hup:=ht.up c (aJ _ hcm2) p hp
   unfold onP
   by_cases hpl:p∈leftL x (allA x a) b
   ·have hna:=zmg hr ha hub hpl
    have es:zd1 (allA x a) (leftL x (allA x a) b) p=plI (leftL x (allA x a) b) p:=by unfold zd1;rw[zaE.2 hpl];rfl
    have h2:=hup.2
    rw[zjj hna,zjj (zmg hr ha hub hcm2),<- hcj2,zhH (zg1 x _ b) hj]at h2
    have h3:=zbp hpl
    rw[es,zap.2 (by omega)]
    rfl
   ·have hpa2:p∈allA x a:=(List.mem_append.1 hup.1).resolve_right hpl
    have es:zd1 (allA x a) (leftL x (allA x a) b) p = -1-plI (allA x a) p:=by unfold zd1;rw[Bool.eq_false_iff.2 fun e=>hpl (zaE.1 e)];rfl
    have h3:=zbp hpa2
    rw[es,hth,aF (by omega),aF (by omega)]
    simp
 have hany:zjT (keepR ⟨x.Commits,[⟨[120],a⟩]⟩) ((List.range (allA x a).length).map Int.ofNat)=true:=by
  unfold zjT
  rw[hth,aF (by omega),Bool.and_true,List.all_eq_true]
  intro y hy
  obtain⟨i,hi,rfl⟩:=List.mem_map.1 hy
  rw[List.mem_range]at hi
  rw[zcO,zmf hr ha]
  exact zap.2 ⟨Int.natCast_nonneg i,by show(i:Int)<=_;omega⟩
 have eTB:zkk (keepR ⟨x.Commits,[⟨[120],a⟩]⟩) ((List.range (allA x a).length).map Int.ofNat) (zfM x (allA x a) (leftL x (allA x a) b)) [121]=bif repoB ⟨ziX x (allA x a++leftL x (allA x a) b),[⟨[120],plI (allA x a) a⟩,⟨[121],endAt ((List.range (allA x a).length).map Int.ofNat) (allA x a).length (leftL x (allA x a) b).length⟩]⟩ then(⟨ziX x (allA x a++leftL x (allA x a) b),[⟨[120],plI (allA x a) a⟩,⟨[121],endAt ((List.range (allA x a).length).map Int.ofNat) (allA x a).length (leftL x (allA x a) b).length⟩]⟩,true) else(keepR ⟨x.Commits,[⟨[120],a⟩]⟩,false):=by
  unfold zkk
  rw[hk,hokS,hany,eT]
  rfl
 rw[eTB]
 cases hfin:repoB ⟨ziX x (allA x a++leftL x (allA x a) b),[⟨[120],plI (allA x a) a⟩,⟨[121],endAt ((List.range (allA x a).length).map Int.ofNat) (allA x a).length (leftL x (allA x a) b).length⟩]⟩with
 |false=>
  have hmany:16< (allA x a).length+(leftL x (allA x a) b).length:=by
   rcases Nat.lt_or_ge 16 ((allA x a).length+(leftL x (allA x a) b).length)with q |q
   ·exact q
   ·have:=zup hr ha hub (n:=0) hcoms (by rw[hgl];exact q) hend (show upB (ziX x (allA x a++leftL x (allA x a) b)).length (plI (allA x a) a)=true from zap.2 (by rw[hgl];omega))
    rw[hfin]at this
    cases this
  simp only[aC,aK,Bool.not_false,aD,zcO,zmf hr ha,hsl]
  rw[zai (by omega) (by omega),aF (by omega)]
 |true=>
  by_cases h0:(leftL x (allA x a) b).length=0
  ·simp only[aD,aK,aC,hsl,h0]
   rfl
  ·have hne:leftL x (allA x a) b≠ []:=fun e=>h0 (by rw[e];rfl)
   obtain⟨hbl,hbp⟩:=zwD hr ha hub hne
   have hX:(⟨ziX x (allA x a++leftL x (allA x a) b),[⟨[120],plI (allA x a) a⟩,⟨[121],endAt ((List.range (allA x a).length).map Int.ofNat) (allA x a).length (leftL x (allA x a) b).length⟩]⟩:Repo).Commits=ziX x (allA x a++leftL x (allA x a) b):=rfl
   have hrbX:RpB ⟨ziX x (allA x a++leftL x (allA x a) b),[⟨[120],plI (allA x a) a⟩,⟨[121],endAt ((List.range (allA x a).length).map Int.ofNat) (allA x a).length (leftL x (allA x a) b).length⟩]⟩:=by
    have:=znx (has:=(List.range (allA x a).length).map Int.ofNat) hkb hk hsB (n:=[121]) (by simp)
    rwa [eT]at this
   have hfit:endAt ((List.range (allA x a).length).map Int.ofNat) (allA x a).length (leftL x (allA x a) b).length=plI (allA x a++leftL x (allA x a) b) b:=by
    rw[zjj (zmg hr ha hub hbl),hbp]
    unfold endAt
    rw[beq_false_of_ne h0,aC]
    omega
   have hbg:b∈allA x a++leftL x (allA x a) b:=aJ _ hbl
   have hcount:=zqO hr hfin ht hX hbg
   generalize hXX:(⟨ziX x (allA x a++leftL x (allA x a) b),[⟨[120],plI (allA x a) a⟩,⟨[121],endAt ((List.range (allA x a).length).map Int.ofNat) (allA x a).length (leftL x (allA x a) b).length⟩]⟩:Repo)=X at hX hrbX hfin hcount ⊢
   have hpb:=zbp hbg
   have hXl:X.Commits.length=(allA x a++leftL x (allA x a) b).length:=by rw[hX];simp[ziX]
   have eat:zjn X [121]=plI (allA x a++leftL x (allA x a) b) b:=by
    unfold zjn
    rw[hfin,aD]
    have hm:(⟨[121],plI (allA x a++leftL x (allA x a) b) b⟩:Head)∈X.Heads:=by
     rw[<- hXX,hfit]
     simp
    exact(zml hfin hm).1
   have uX:upB X.Commits.length (plI (allA x a++leftL x (allA x a) b) b)=true:=zap.2 (by rw[hXl];omega)
   have etr:zjP X (plI (allA x a++leftL x (allA x a) b) b)=((x.Commits.getD b.toNat noCommit).Tree,true):=by
    unfold zjP
    rw[hfin,uX]
    show(zag X _,true)=_
    unfold zag
    obtain⟨q0,q1,q2,q3⟩:=hpb
    rw[znI hX q2,q3]
    rfl
   have eanc:zdl X (plI (allA x a++leftL x (allA x a) b) b)=allA X (plI (allA x a++leftL x (allA x a) b) b):=by unfold zdl;rw[hfin,uX];rfl
   have htb:=zd3 hrb hub
   unfold zag at htb
   simp only[aD,aK,aC,hsl]
   rw[beq_false_of_ne (by omega),aC]
   simp only[zfj,zka hrbX,eat,aA,ziS hrbX,etr,zaN (show 0<=b by omega) (show b<=(x.Commits.length:Int)-1 by omega),zgk htb,aO,aD,zhm hrbX,eanc,zhm hrb,eB,hcount]
theorem zdg {α:Type}{f:α->Nat}{c:Nat}: ∀ {t:List α},(∀ s∈t,f s<=c)->zc5 f t<=c*t.length
 | [],_=>by simp[zc5]
 |x::t,h=>by
  have h1:=h x (by simp)
  have h2:=zdg (t:=t) (fun s hs=>h s (by simp[hs]))
  simp only[zc5,aL,Nat.mul_add,Nat.mul_one]
  omega
theorem zlV {t:List Str}(h:zao t=true):Bk.bulk t<=130:=by
 have hl:=zaI h
 have hs:zc5 Bk.bulk t<=12*t.length:=zdg fun s hs=>by
  have:=zht (zbe h s hs)
  show s.length<=12
  omega
 show t.length+zc5 Bk.bulk t<=130
 omega
theorem zlW {t:List File}(h:zaq t=true):Bk.bulk t<=1208:=by
 have hl:=zaH h
 have hs:zc5 Bk.bulk t<=150*t.length:=zdg fun f hf=>by
  have h1:=zcN (zbU h hf)
  have h2:=zlV (zaB h f hf)
  show f.Path.length+Bk.bulk f.Text<=150
  omega
 show t.length+zc5 Bk.bulk t<=1208
 omega
theorem zmB {r:Repo}(h:repoB r=true){c:Commit}(hc:c∈r.Commits):c.Parents.length<=2/\(∀ p∈c.Parents,0<=p/\p<=16)/\zav c.Who=true/\zaq c.Tree=true:=by
 obtain⟨i,hi⟩:=List.mem_iff_getElem?.1 hc
 have hil:=zan hi
 have s1:=(zab h).1
 have:=zeu h (i:=i) (by omega)
 rw[zbF hi]at this
 unfold zjL at this
 simp only[aG,decide_eq_true_eq,List.all_eq_true]at this
 refine⟨by omega,fun p hp=>?_,this.2.2.2.1,this.2.2.2.2⟩
 have h1:=this.1 p hp
 unfold upB at h1
 simp only[aG,decide_eq_true_eq]at h1
 omega
theorem zlX {r:Repo}(h:repoB r=true):Bk.bulk r<=20000:=by
 obtain⟨s1,s2⟩:=zab h
 have h1:zc5 Bk.bulk r.Commits<=1218*r.Commits.length:=zdg fun c hc=>by
  obtain⟨c1,_,c3,c4⟩:=zmB h hc
  have:=zbj c3
  have:=zlW c4
  have hp:zc5 Bk.bulk c.Parents<=0*c.Parents.length:=zdg fun p hp=>Nat.le_refl 0
  show c.Parents.length+zc5 Bk.bulk c.Parents+(c.Who.length+Bk.bulk c.Tree)<=1218
  omega
 have h2:zc5 Bk.bulk r.Heads<=6*r.Heads.length:=zdg fun x hx=>by
  have:=zbj (zc3 h hx).2.2
  show x.Name.length+0<=6
  omega
 show r.Commits.length+zc5 Bk.bulk r.Commits+(r.Heads.length+zc5 Bk.bulk r.Heads)<=20000
 omega
theorem zlY {t:List File}(h:zaq t=true):Bk.fit t:=⟨by have:=zaH h;unfold maxi;omega,fun f hf=>⟨by have:=zcN (zbU h hf);show f.Path.length<=maxi;unfold maxi;omega,by
 have h1:=zaB h f hf
 have h2:=zaI h1
 exact zfF (by omega) (zbe h1)⟩⟩
theorem zlZ {r:Repo}(h:repoB r=true):Bk.fit r:=by
 obtain⟨s1,s2⟩:=zab h
 refine⟨⟨by unfold maxi;omega,fun c hc=>?_⟩,by unfold maxi;omega,fun x hx=>?_⟩
 ·obtain⟨c1,c2,c3,c4⟩:=zmB h hc
  refine⟨⟨by unfold maxi;omega,fun p hp=>?_⟩,by have:=zbj c3;show c.Who.length<=maxi;unfold maxi;omega,zlY c4⟩
  have:=c2 p hp
  show -9223372036854775808<=p/\p<=9223372036854775807
  omega
 ·obtain⟨h1,h2,h3⟩:=zc3 h hx
  refine⟨by have:=zbj h3;show x.Name.length<=maxi;unfold maxi;omega,?_⟩
  show -9223372036854775808<=x.At/\x.At<=9223372036854775807
  omega
theorem zgj.lt {l:List Int}(h:zgj l){i k:Nat}(hik:i<k)(hk:k<l.length):l.getD i 0<l.getD k 0:=by
 have h1:i<l.length:=by omega
 have:=List.pairwise_iff_getElem.1 h i k h1 hk hik
 rw[zci (aB h1),zci (aB hk)]
 exact this
theorem zgj.inj {l:List Int}(h:zgj l){i k:Nat}(hi:i<l.length)(hk:k<l.length)(e:l.getD i 0=l.getD k 0):i=k:=by
 rcases Nat.lt_trichotomy i k with h1 |h1 |h1
 ·have:=h.lt h1 hk;omega
 ·exact h1
 ·have:=h.lt h1 hi;omega
section
variable {r:Repo}(h:RpB r)(hr:repoB r=true)
include h hr
end
def zol (r:Repo)(n:Str)(x:Repo):Prop:=x=r\/x=za5\/repoB x=true
theorem zol.bulk {r x:Repo}{n:Str}(h:zol r n x):Bk.bulk x<=Bk.bulk r+20000:=by
 rcases h with h |h |h
 ·rw[h];omega
 ·rw[h];show 0+0+(0+0)<=_;omega
 ·have:=zlX h;omega
theorem zol.fit {r x:Repo}{n:Str}(hf:Bk.fit r)(h:zol r n x):Bk.fit x:=by
 rcases h with h |h |h
 ·rw[h];exact hf
 ·rw[h];exact⟨⟨by simp[za5,maxi],by simp[za5]⟩,by simp[za5,maxi],by simp[za5]⟩
 ·exact zlZ h
def ChH:Int->List Hunk->Prop
 |_,[]=>True
 |lo,d::l=>lo<=d.At/\ChH (d.At+d.Less.length+1) l
theorem ChH.mono: ∀ {l:List Hunk} {lo lo':Int},lo'<=lo->ChH lo l->ChH lo' l
 | [],_,_,_,_=>trivial
 |d::l,_,_,h,⟨h1,h2⟩=>⟨Int.le_trans h h1,h2⟩
def zlt:List Str->List Str->Nat
 |a::l,b::m=>bif a==b then zlt l m+1 else 0
 |_,_=>0
def zrb (t:List Str):List Str->Nat->Nat×Nat->Nat×Nat
 | [],_,r=>r
 |b::bs,i,r=>zrb t bs (i+1) (bif decide (r.2<zlt (b::bs) t) then(i,zlt (b::bs) t) else r)
def znS (base t:List Str):Nat×Nat:=zrb t base 0 (0,0)
def zn5 (out:List Delta)(x:Str):List Delta:=match out.getLast? with
 |some d=>bif decide (0<d.Lines.length) then out.dropLast++[⟨d.From,d.Many,d.Lines++[x]⟩] else out++[⟨0,0,[x]⟩]
 |none=>out++[⟨0,0,[x]⟩]
def ziQ (base:List Str):Nat->List Delta->List Str->List Delta
 |0,out,_=>out
 |_+1,out,[]=>out
 |n+1,out,x::t=>bif decide (0< (znS base (x::t)).2) then ziQ base n (out++[⟨(znS base (x::t)).1,(znS base (x::t)).2,[]⟩]) ((x::t).drop (znS base (x::t)).2) else ziQ base n (zn5 out x) t
def zlc (base t:List Str):List Delta:=ziQ base t.length [] t
def OD (n:Nat)(l:List Owner):Prop:=l.length<=n /\ ∀ o∈l,o.Path.length<=10/\o.Who.length<=10
theorem OD.fit {n:Nat}{l:List Owner}(h:OD n l)(hn:n<=1000):Bk.fit l:=⟨by have:=h.1;unfold maxi;omega,fun o ho=>by
 have:=h.2 o ho
 exact⟨by show o.Path.length<=maxi;unfold maxi;omega,by show o.Who.length<=maxi;unfold maxi;omega⟩⟩
section
variable {base t:List Str}(hb:zao base=true)(ht:zao t=true)
include hb ht
end
def zp0 (list:List (List Str))(ds:List Int)(i:Nat)(t:List Str)(b dep:Int)(d:List Delta):Prop:=(b = -1/\d=zlc [] t/\dep=1) \/ ∃ k o dk,k<i/\b=(k:Int)/\list[k]? =some o/\ds[k]? =some dk/\d=zlc o t/\dep=dk+1/\dk<=2
theorem zp0.snoc {list:List (List Str)}{ds:List Int}{i:Nat}{t:List Str}{b dep z:Int}{d:List Delta}(h:zp0 list ds i t b dep d):zp0 list (ds++[z]) i t b dep d:=by
 rcases h with h |⟨k,o,dk,h1,h2,h3,h4,h5⟩
 ·exact .inl h
 ·exact .inr ⟨k,o,dk,h1,h2,h3,by rw[aM (List.getElem?_eq_some_iff.1 h4).1];exact h4,h5⟩
section
variable {list:List (List Str)}(h12:list.length<=12)(hl: ∀ t∈list,zao t=true)
include h12 hl
end
end Go.Vm
