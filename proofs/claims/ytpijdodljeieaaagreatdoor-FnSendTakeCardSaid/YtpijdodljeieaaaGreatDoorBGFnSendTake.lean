/- Plain law FnSendTake, and what it uses: what the models answer. Conditions: each law's own premises. -/
import Derived.Test.YtpijdodljeieaaaGreatDoorBGFnSendTakea
import Derived.Test.YtpijdodljeieaaaGreatDoorBLw
namespace Go.Vm
open Go Go.Sx
set_option linter.unusedSimpArgs false
set_option linter.unusedVariables false
theorem zmm {r:Repo}{good:List Int}(h:zjT r good=true):(∀ g∈good,upB r.Commits.length g=true)/\good.length<=16:=by
 unfold zjT at h
 simp only[aG,List.all_eq_true,decide_eq_true_eq]at h
 exact⟨h.1,by omega⟩
theorem zne {r:Repo}(hr:repoB r=true){good:List Int}(hg: ∀ g∈good,upB r.Commits.length g=true)(hl:good.length<=1000){bad:Int}(hb:upB r.Commits.length bad=true):zjo r good bad=some (leftL r good bad):=by
 obtain⟨b0,b1⟩:=zap.1 hb
 have hs:=(zab hr).1
 have hal:=zaS r bad
 unfold zjo
 rw[zb8 hr b0 b1,aA]
 simp only[jn,zak]
 rw[zaA (xs:=allA r bad) (p:=fun x=>good.all fun g=> !zcF (allA r g) x) (g:=fun x:Int=>x) (Z:=fun acc=>some acc) (f:=fun m acc i=>zfP r good (allA r bad) _ m acc i) (fun m i x acc hx ha=>by
  have hin: ∀ K:Bool->Int->Option (List Int),zd7 r good (allA r bad) (i:Int) K (good.length+1) true 0=K (true&&good.all fun g=> !zcF (allA r g) x) (good.length:Int):=fun K=>by
   rw[<- zlo]
   exact zdp (xs:=good) (g:=fun b g=>b && !zcF (allA r g) x) (I:=fun _=>True) (Z:=fun q=>K q (good.length:Int)) (f:=fun m' k q=>zd7 r good (allA r bad) (i:Int) K m' q k) trivial (fun m' k g q hgk _=>by
    obtain⟨g0,g1⟩:=zap.1 (hg g (aH hgk))
    have hgl:=zaS r g
    refine⟨?_,trivial⟩
    simp only[zd7,zah hgk,zae hgk,zae hx,aD,aA,zb8 hr g0 g1,zeL (show(allA r g).length<=1000000 by omega),zac (zan hgk) (show good.length<=maxi by unfold maxi;omega)]
    cases q<;>rfl) (fun m' q _=>by simp only[zd7,zad,aC])
  have hi:=zan hx
  simp only[zfP,jn,zah hx,aD,zak,hin,zae hx,aA,Bool.true_and,zac (zan hx) (show(allA r bad).length<=maxi by unfold maxi;omega),ap1 (show acc.length<=1048576 by omega)]
  cases(good.all fun g=> !zcF (allA r g) x)<;>rfl) (fun m acc=>by simp only[zfP,zad,aC]) (by omega)]
 rw[List.map_id']
 rfl
section
variable {r:l30Rd}{p:Int}
end
set_option linter.unusedSectionVars false
def zd1 (has list:List Int)(p:Int):Int:=bif zcF list p then plI list p else -1-plI has p
def zd4 (has list:List Int)(p:Int):Bool:=zcF list p||zcF has p
def zim (has list:List Int)(c:Commit):Commit:=⟨c.Parents.map (zd1 has list),c.Who,c.Tree⟩
def zdd (r:Repo)(has list:List Int)(x:Int):Bool:=(zaa r x.toNat).all (zd4 has list)
def zfM (r:Repo)(has list:List Int):List Commit:=list.map fun i=>zim has list (r.Commits.getD i.toNat noCommit)
def zhi (r:Repo)(has:List Int)(a:Int):Bool:=repoB r&&(zjT r has&&upB r.Commits.length a)
def zdP (r:Repo)(has:List Int)(a:Int):List Commit×Bool:=
 bif zhi r has a then(bif(leftL r has a).all (zdd r has (leftL r has a)) then(zfM r has (leftL r has a),true) else([],false)) else([],false)
theorem zlM {l:List Int}{n:Int}:decide (zbl l n<0) = !zcF l n:=by
 unfold zbl
 cases h:zcF l n with
 |true=>
  have:=(zbp (zaE.1 h)).1
  rw[aD,aE (by omega)]
  rfl
 |false=>rfl
theorem zk6 {l:List Int}{n:Int}: -1<=zbl l n/\zbl l n< (l.length:Int):=by
 unfold zbl
 cases h:zcF l n with
 |true=>
  have:=zbp (zaE.1 h)
  rw[aD]
  omega
 |false=>rw[aC];omega
section
variable {has list:List Int}(hh:has.length<=1000000)(hl:list.length<=1000000)
include hh hl
theorem znV {P:List Int}(hP:P.length<=1000000){K:List Commit->Bool->Int->List Int->Option (List Commit×Bool)}{y:List Commit}{b:Bool}: ∀ (j k m:Nat),k+j=P.length->j<m->
 zgv has list K m y b (k:Int) (zj7 (zd1 has list) P k)=bif(P.drop k).all (zd4 has list) then K y b (P.length:Int) (P.map (zd1 has list)) else some ([],false)
 |j,k,0,_,hm=>by omega
 |0,k,m+1,hk,_=>by
  obtain rfl:k=P.length:=by omega
  rw[zms,List.drop_length]
  simp only[zgv,show(P.length:Int)=((P.map (zd1 has list)).length:Int) by rw[List.length_map],zad,aC,List.all_nil,aD]
 |j+1,k,m+1,hk,hm=>by
  have hlt:k<P.length:=by omega
  have hx:(zj7 (zd1 has list) P k)[k]? =some P[k]:=zno hlt
  have hkl:k< (zj7 (zd1 has list) P k).length:=by rw[zmr];exact hlt
  have ih:=znV hP (K:=K) (y:=y) (b:=b) j (k+1) m (by omega) (by omega)
  simp only[zgv,jn,zah hx,zae hx,aD,aA,zje hl,zje hh,zcf hkl,zac hlt (show P.length<=maxi by unfold maxi;omega),zlM]
  rw[aI hlt,List.all_cons]
  cases h1:zcF list P[k]with
  |true=>
   have e1:zbl list P[k]=zd1 has list P[k]:=by unfold zbl zd1;rw[h1];rfl
   have e2:zd4 has list P[k]=true:=by unfold zd4;rw[h1];rfl
   simp only[aK,aC,e1,e2,Bool.true_and]
   rw[zkc hlt]
   exact ih
  |false=>
   cases h2:zcF has P[k]with
   |false=>
    have e2:zd4 has list P[k]=false:=by unfold zd4;rw[h1,h2];rfl
    simp only[Bool.not_false,aD,e2,Bool.false_and,aC]
   |true=>
    have e2:zd4 has list P[k]=true:=by unfold zd4;rw[h1,h2];rfl
    have e1: -1-zbl has P[k]=zd1 has list P[k]:=by unfold zbl zd1;rw[h1,h2];rfl
    have hr:=zk6 (l:=has) (n:=P[k])
    have hs:((zj7 (zd1 has list) P k).set k (zbl list P[k]))[k]? =some (zbl list P[k]):=by rw[List.getElem?_set_self hkl]
    simp only[aK,Bool.not_false,aD,aC,e2,Bool.true_and,zae hs,aA,zcf (show k< ((zj7 (zd1 has list) P k).set k (zbl list P[k])).length by rw[List.length_set];exact hkl),List.set_set]
    rw[zai (by omega) (by omega),e1,zkc hlt]
    exact ih
variable {r:Repo}(h:RpB r)(hr:repoB r=true)(hg: ∀ x∈list,0<=x/\x<=(r.Commits.length:Int)-1)
include h hr hg
theorem zoI {x:Int}(hx:x∈list):CB (r.Commits.getD x.toNat noCommit)/\(r.Commits.getD x.toNat noCommit).Parents.length<=2:=by
 have hrg:=hg x hx
 have hgx:r.Commits[x.toNat]? =some (r.Commits[x.toNat]'(by omega)):=aB _
 have hps:=zar hr (i:=x.toNat) (by omega)
 unfold zaa at hps
 exact⟨by rw[zbF hgx];exact h.cat hgx,hps.1⟩
theorem znW {K:List Commit->Bool->List Commit->Int->Option (List Commit×Bool)}: ∀ (j k m:Nat),k+j=list.length->j<m->
 zeS r has list K m [] false ((list.take k).map fun i=>zim has list (r.Commits.getD i.toNat noCommit)) (k:Int)=bif(list.drop k).all (zdd r has list) then K [] false (zfM r has list) (list.length:Int) else some ([],false)
 |j,k,0,_,hm=>by omega
 |0,k,m+1,hk,_=>by
  obtain rfl:k=list.length:=by omega
  rw[List.take_length,List.drop_length]
  simp only[zeS,zad,aC,List.all_nil,aD]
  rfl
 |j+1,k,m+1,hk,hm=>by
  have hlt:k<list.length:=by omega
  have hx:list[k]? =some list[k]:=aB hlt
  have hxm:=List.getElem_mem hlt
  have hrg:=hg _ hxm
  obtain⟨hc,hp2⟩:=zoI hh hl h hr hg hxm
  have ih:=znW (K:=K) j (k+1) m (by omega) (by omega)
  rw[List.take_succ_eq_append_getElem hlt,List.map_append]at ih
  have el:((list.take k).map fun i=>zim has list (r.Commits.getD i.toNat noCommit)).length<=1048576:=by rw[List.length_map,List.length_take];omega
  simp only[zeS,jn,zah hx,zae hx,aD,aA,zaN hrg.1 hrg.2,zcQ hc,zak]
  have e:=znV hh hl (P:=(r.Commits.getD list[k].toNat noCommit).Parents) (by omega) (y:=[]) (b:=false) (K:=fun(y200:List Vm.Commit) (y203:Bool) (y204:Int) (y207:List Int)=>
   (apM ((list.take k).map fun i=>zim has list (r.Commits.getD i.toNat noCommit)) [Vm.Commit.mk y207 (r.Commits.getD list[k].toNat noCommit).Who (r.Commits.getD list[k].toNat noCommit).Tree]).bind fun q309=>
   zeS r has list K m y200 y203 q309 (w64 ((k:Int)+1))) (r.Commits.getD list[k].toNat noCommit).Parents.length 0 ((r.Commits.getD list[k].toNat noCommit).Parents.length+1) (by omega) (by omega)
  rw[zmo]at e
  refine e.trans ?_
  rw[aI hlt,List.all_cons,List.drop_zero]
  have ea:(r.Commits.getD list[k].toNat noCommit).Parents.all (zd4 has list)=zdd r has list list[k]:=rfl
  rw[ea]
  cases zdd r has list list[k]with
  |false=>rfl
  |true=>
   rw[aD,Bool.true_and,ap1 el,aA,zac hlt (show list.length<=maxi by unfold maxi;omega)]
   exact ih
end
theorem zhe {r:Repo}{has:List Int}{a:Int}(h:zhi r has a=true):repoB r=true/\upB r.Commits.length a=true/\zjT r has=true/\(∀ g∈has,upB r.Commits.length g=true)/\has.length<=16:=by
 unfold zhi at h
 simp only[aG]at h
 obtain⟨h1,h2,h3⟩:=h
 exact⟨h1,h3,h2,(zmm h2).1,(zmm h2).2⟩
theorem ziU {r:Repo}{has:List Int}{a x:Int}(hx:x∈leftL r has a):0<=x/\x<=(r.Commits.length:Int)-1:=zaO (zeq.1 hx).1
theorem znC {r:Repo}(h:RpB r){has:List Int}(hl:has.length<=1000)(a:Int):ziH r has a=some (zdP r has a):=by
 unfold ziH zdP
 simp only[jn,za8 h,zmU h (show has.length<=1048576 by omega),zch,zbL (zaj h.coms),aA]
 rw[show(decide ((0:Int)<=a)&&decide (a<=(r.Commits.length:Int)-1))=upB r.Commits.length a from rfl]
 cases hs:zhi r has a with
 |false=>
  unfold zhi at hs
  cases h1:repoB r with
  |false=>rfl
  |true=>
   cases h2:zjT r has with
   |false=>rfl
   |true=>
    rw[h1,h2]at hs
    simp only[Bool.true_and]at hs
    rw[hs]
    rfl
 |true=>
  obtain⟨h1,h2,h3,h4,h5⟩:=zhe hs
  have hle:=zf2 r has a
  have hsm:=(zab h1).1
  rw[h1,h2,h3]
  simp only[aK,aC,aD]
  unfold zkv
  rw[zne h1 h4 (by omega) h2,aA,aA]
  simp only[zak]
  have e:=znW (has:=has) (list:=leftL r has a) (by omega) (by omega) h h1 (fun x hx=>ziU hx) (K:=fun _ _ y26 _=>some (y26,true)) (leftL r has a).length 0 ((leftL r has a).length+1) (by omega) (by omega)
  refine e.trans ?_
  rw[List.drop_zero]
  cases(leftL r has a).all (zdd r has (leftL r has a))<;>rfl
theorem zgQ {r:Repo}{has:List Int}{a:Int}(h:(zdP r has a).2=true):zhi r has a=true/\(leftL r has a).all (zdd r has (leftL r has a))=true/\(zdP r has a).1=zfM r has (leftL r has a):=by
 unfold zdP at h ⊢
 cases hs:zhi r has a with
 |false=>rw[hs]at h;cases h
 |true=>
  rw[hs,aD]at h
  cases ha:(leftL r has a).all (zdd r has (leftL r has a))with
  |false=>rw[ha]at h;cases h
  |true=>exact⟨rfl,rfl,rfl⟩
theorem ziG {r:Repo}{has:List Int}{a:Int}(h:(zdP r has a).2=false):(zdP r has a).1=[]:=by
 unfold zdP at h ⊢
 cases hs:zhi r has a with
 |false=>rfl
 |true=>
  rw[hs,aD]at h
  cases ha:(leftL r has a).all (zdd r has (leftL r has a))with
  |false=>rfl
  |true=>rw[ha]at h;cases h
theorem znh {c:Commit}(h:CB c)(has list:List Int):CB (zim has list c):=⟨by simp only[zim,List.length_map];exact h.par,h.who,h.tree⟩
theorem zoq {r:Repo}(h:RpB r)(has:List Int)(a:Int): ∀ c∈(zdP r has a).1,CB c:=fun c hc=>by
 cases h2:(zdP r has a).2 with
 |false=>rw[ziG h2]at hc;simp at hc
 |true=>
  obtain⟨h3,_,h4⟩:=zgQ h2
  rw[h4]at hc
  obtain⟨x,hx,rfl⟩:=List.mem_map.1 hc
  have hrg:=ziU hx
  have hgx:r.Commits[x.toNat]? =some (r.Commits[x.toNat]'(by omega)):=aB _
  exact znh (by rw[zbF hgx];exact h.cat hgx) _ _
theorem znH {r:Repo}(has:List Int)(a:Int):(zdP r has a).1.length<=r.Commits.length:=by
 cases h2:(zdP r has a).2 with
 |false=>rw[ziG h2];simp
 |true=>
  obtain⟨h3,_,h4⟩:=zgQ h2
  rw[h4]
  unfold zfM
  rw[List.length_map]
  exact zf2 r has a
theorem zoJ (l:List Int)(n:Int):0<=plI l n/\plI l n<=(l.length:Int):=by
 unfold plI
 have:=List.idxOf_le_length (a:=n) (l:=l)
 omega
theorem znJ {has list:List Int}(hh:has.length<=1000000)(hl:list.length<=1000000)(p:Int):zhs (zd1 has list p):=by
 unfold zd1 zhs
 have h1:=zoJ has p
 have h2:=zoJ list p
 cases zcF list p
 ·rw[aC];omega
 ·rw[aD];omega
structure SentB (sent:List Commit):Prop where
 len:sent.length<=16
 cb: ∀ c∈sent,CB c
 fit: ∀ c∈sent,∀ p∈c.Parents,zhs p
theorem zmd {r:Repo}(h:RpB r)(hc:r.Commits.length<=16){has:List Int}(hl:has.length<=1000)(a:Int):SentB (zdP r has a).1:=by
 have hle:=znH (r:=r) has a
 refine⟨by omega,zoq h has a,fun c hm p hp=>?_⟩
 cases h2:(zdP r has a).2 with
 |false=>rw[ziG h2]at hm;simp at hm
 |true=>
  obtain⟨_,_,h4⟩:=zgQ h2
  rw[h4]at hm
  obtain⟨x,hx,rfl⟩:=List.mem_map.1 hm
  obtain⟨q,_,rfl⟩:=List.mem_map.1 hp
  have hll:=zf2 r has a
  exact znJ (by omega) (by omega) q
theorem SentB.take {sent:List Commit}(h:SentB sent)(k:Nat):SentB (sent.take k):=
 ⟨Nat.le_trans (List.length_take_le' k sent) h.len,fun c hc=>h.cb c (List.mem_of_mem_take hc),fun c hc=>h.fit c (List.mem_of_mem_take hc)⟩
theorem SentB.set {sent:List Commit}(h:SentB sent){c:Commit}(hc:CB c)(hf: ∀ p∈c.Parents,zhs p)(k:Nat):SentB (sent.set k c):=
 ⟨by rw[List.length_set];exact h.len,fun d hd=>by
  rcases List.mem_or_eq_of_mem_set hd with q |q
  ·exact h.cb d q
  ·rw[q];exact hc,fun d hd=>by
  rcases List.mem_or_eq_of_mem_set hd with q |q
  ·exact h.fit d q
  ·rw[q];exact hf⟩
theorem zlQ {b:List Byte}{q p:Int}(hr:zcg ⟨b,q⟩ p)(hp:p<=200000){x:Repo}{has:List Int}{sent:List Commit}(hs:SentB sent):
 ∃ n:Str,((zbC ⟨b,q⟩ ([([110,101,119]:Str),([109,97,105,110]:Str),([120]:Str)]:List Str)).bind fun z123=>some (x,has,sent,z123.1))=some (x,has,sent,n)/\n.length<=10:=by
 obtain⟨s,e3,hm⟩:=zj8 hr (by omega) (l:=[([110,101,119]:Str),([109,97,105,110]:Str),([120]:Str)]) (by simp) (by simp)
 refine⟨s,by rw[e3];rfl,?_⟩
 simp only[List.mem_cons,List.not_mem_nil,or_false]at hm
 rcases hm with rfl |rfl |rfl<;>simp
theorem znl {b:List Byte}{q p:Int}(hr:zcg ⟨b,q⟩ p)(hp:p<=100000){x:Repo}{has:List Int}{y77:List Commit}(hs:SentB y77):
 ∃ sent n,(jn (fun(y179:Bool) (y180:List Byte) (y183:Int)=>
  bif y179 then
   ((Vm.zcj (Vm.l30Rd.mk y180 y183) ([(-99),5,0]:List Int)).bind fun z205=>
   (gi y77 0).bind fun u226=>
   (siM y77 0 (Vm.Commit.mk ([z205.1]:List Int) u226.Who u226.Tree)).bind fun q229=>
   (zbC ⟨y180,z205.2⟩ ([([110,101,119]:Str),([109,97,105,110]:Str),([120]:Str)]:List Str)).bind fun z123=>some (x,has,q229,z123.1))
  else
   ((zbC ⟨y180,y183⟩ ([([110,101,119]:Str),([109,97,105,110]:Str),([120]:Str)]:List Str)).bind fun z123=>some (x,has,y77,z123.1))) fun K186=>
  bif decide ((0:Int)< ((y77.length:Int):Int)) then
   ((Vm.zau (Vm.l30Rd.mk b q) 8).bind fun z242=>
   K186 ((z242.1:Int)==(0:Int)) b z242.2)
  else
   (K186 false b q))=some (x,has,sent,n)/\SentB sent/\n.length<=10:=by
 simp only[jn]
 by_cases h0:0<y77.length
 ·obtain⟨k,e1,k0,k1⟩:=zb6 hr (n:=8) (by omega) (by omega) (by omega)
  have r1:zcg ⟨b,q+1⟩ (p+1):=zdD (r:=⟨b,q⟩) (q:=p+1) hr (k:=1) (by omega) (by omega)
  simp only at e1
  rw[aF (by omega),aD,e1,aA]
  simp only
  cases k==0 with
  |false=>
   obtain⟨n,e2,hn⟩:=zlQ r1 (by omega) (x:=x) (has:=has) hs
   exact⟨y77,n,by rw[aC];exact e2,hs,hn⟩
  |true=>
   obtain⟨z,e3,hz⟩:=zkO r1 (by omega) (l:=[(-99),5,0]) (by simp) (by simp)
   have r2:zcg ⟨b,q+1+1⟩ (p+2):=zdD (r:=⟨b,q+1⟩) (q:=p+2) r1 (k:=1) (by omega) (by omega)
   have hx:y77[0]? =some y77[0]:=aB h0
   have hcb:=hs.cb _ (List.getElem_mem h0)
   have hs2:SentB (y77.set 0 ⟨[z],y77[0].Who,y77[0].Tree⟩):=SentB.set (c:=⟨[z],y77[0].Who,y77[0].Tree⟩) hs ⟨by simp,hcb.who,hcb.tree⟩ (fun p hp=>by
    simp only[List.mem_cons,List.not_mem_nil,or_false]at hp hz
    unfold zhs
    omega) 0
   obtain⟨n,e2,hn⟩:=zlQ r2 (by omega) (x:=x) (has:=has) hs2
   have g0:gi y77 0=some y77[0]:=zae hx
   have s0:siM y77 0 (⟨[z],y77[0].Who,y77[0].Tree⟩:Commit)=some (y77.set 0 ⟨[z],y77[0].Who,y77[0].Tree⟩):=zcf h0 _
   simp only at e3
   exact⟨_,n,by rw[aD,e3,aA,g0,aA];simp only;rw[s0,aA];exact e2,hs2,hn⟩
 ·obtain⟨n,e2,hn⟩:=zlQ hr (by omega) (x:=x) (has:=has) hs
  exact⟨y77,n,by rw[aE (by omega),aC,aC];exact e2,hs,hn⟩
theorem znL {code:List Byte}(h:code.length<=1048576): ∃ x has sent n,zh7 code=some (x,has,sent,n)/\Good x/\has.length<=16/\SentB sent/\n.length<=10:=by
 unfold zh7
 obtain⟨b,e,hr⟩:=zoD h
 obtain⟨x,q,e2,hx,r2⟩:=zmN hr (by omega)
 have hd:=hx.drawn
 have hcm:=hd.coms
 simp only[e,aA,e2,zfj]
 have rest: ∀ (has:List Int) (q' p:Int),has.length<=16->zcg ⟨b,q'⟩ p->p<=50000 -> ∃ sent n,((zgS ⟨b,q'⟩ x).bind fun z58=>(ziH x has z58.1).bind fun z67=>
  jn (fun(y77:List Vm.Commit)=>
  jn (fun(y89:List Byte) (y92:Int) (y94:List Vm.Commit)=>
   (Vm.zbC (Vm.l30Rd.mk y89 y92) ([([110,101,119]:Str),([109,97,105,110]:Str),([120]:Str)]:List Str)).bind fun z123=>
   some (x,has,y94,z123.1)) fun K97=>
  jn (fun(y179:Bool) (y180:List Byte) (y183:Int)=>
   bif y179 then
    ((Vm.zcj (Vm.l30Rd.mk y180 y183) ([(-99),5,0]:List Int)).bind fun z205=>
    (gi y77 0).bind fun u226=>
    (siM y77 0 (Vm.Commit.mk ([z205.1]:List Int) u226.Who u226.Tree)).bind fun q229=>
    K97 y180 z205.2 q229)
   else
    (K97 y180 y183 y77)) fun K186=>
  bif decide ((0:Int)< ((y77.length:Int):Int)) then
   ((Vm.zau (Vm.l30Rd.mk b z58.2) 8).bind fun z242=>
   K186 ((z242.1:Int)==(0:Int)) b z242.2)
  else
   (K186 false b z58.2)) fun K81=>
  bif decide ((3:Int)< ((z67.1.length:Int):Int)) then
   ((slM z67.1 0 3).bind fun q255=>K81 q255)
  else(K81 z67.1))=some (x,has,sent,n)/\SentB sent/\n.length<=10:=fun has q' p hl hq hp=>by
  obtain⟨a,e3,a0,a1⟩:=zlA hq (by omega) hd
  have r3:zcg ⟨b,q'+1+1⟩ (p+2):=zdD (r:=⟨b,q'+1⟩) (zdD (r:=⟨b,q'⟩) (q:=p+1) hq (k:=1) (by omega) (by omega)) (by omega) (by omega)
  have hsb:=zmd hx.rb hcm (has:=has) (by omega) a
  simp only at e3
  rw[e3,aA]
  simp only
  rw[znC hx.rb (by omega),aA]
  by_cases h3:(3:Int)< ((zdP x has a).1.length:Int)
  ·obtain⟨sent,n,e4,h4,h5⟩:=znl r3 (by omega) (x:=x) (has:=has) (hsb.take 3)
   have es:slM (zdP x has a).1 0 3=some ((zdP x has a).1.take 3):=by rw[zjW (by omega) (by omega) (by omega)];rfl
   refine⟨sent,n,?_,h4,h5⟩
   rw[<- e4]
   simp only[jn]
   rw[aF h3,aD,es]
   rfl
  ·obtain⟨sent,n,e4,h4,h5⟩:=znl r3 (by omega) (x:=x) (has:=has) hsb
   refine⟨sent,n,?_,h4,h5⟩
   rw[<- e4]
   simp only[jn]
   rw[aE h3,aC]
 by_cases h0:0<x.Commits.length
 ·obtain⟨k,e3,k0,k1⟩:=zb6 r2 (n:=(x.Commits.length:Int)) (by omega) (by omega) (by omega)
  have r3:zcg ⟨b,q+1⟩ (0+2001+1):=zdD (r:=⟨b,q⟩) (q:=0+2001+1) r2 (k:=1) (by omega) (by omega)
  obtain⟨sent,n,e4,h4,h5⟩:=rest (allA x k) (q+1) _ (by have:=zaS x k;omega) r3 (by omega)
  refine⟨x,allA x k,sent,n,?_,hx,by have:=zaS x k;omega,h4,h5⟩
  rw[<- e4]
  simp only[jn]
  simp only at e3
  rw[aF (by omega),aD,e3,aA]
  simp only
  rw[zb8 hx.ok k0 (by omega),aA]
 ·obtain⟨sent,n,e4,h4,h5⟩:=rest [] q _ (by simp) r2 (by omega)
  refine⟨x,[],sent,n,?_,hx,by simp,h4,h5⟩
  rw[<- e4]
  simp only[jn]
  rw[aE (by omega),aC]
theorem zme (has:List Int)(base:Nat): ∀ (cs:List Commit) (i0 i:Nat),(ze0 has base i0 cs)[i]? =(cs[i]?).map (toC has base (i0+i))
 | [],i0,i=>by simp[ze0]
 |c::cs,i0,0=>by simp[ze0]
 |c::cs,i0,i+1=>by
  simp only[ze0,List.getElem?_cons_succ]
  rw[zme has base cs (i0+1) i,show i0+1+i=i0+(i+1) by omega]
theorem znx {r:Repo}{has:List Int}{sent:List Commit}(hr:RpB r)(hok:repoB r=true)(hs:SentB sent){n:Str}(hn:n.length<=1048576):RpB (zg9 r has sent n):=by
 have h1:=zab hok
 have hl:=hs.len
 exact(znd (has:=has) hr (by omega) hs.cb).headR (show r.Heads.length<=100000 by omega) hn _
theorem znf (r:Repo)(has:List Int)(sent:List Commit)(n:Str):(zg9 r has sent n).Commits=r.Commits++ze0 has r.Commits.length 0 sent:=rfl
theorem znB {r:Repo}{has:List Int}{sent:List Commit}{n:Str}(h:(zkk r has sent n).2=true):zkk r has sent n=(zg9 r has sent n,true)/\repoB (zg9 r has sent n)=true/\repoB r=true:=by
 unfold zkk at h ⊢
 cases hok:repoB r with
 |false=>rw[hok]at h;cases h
 |true=>
  rw[hok,aD]at h
  cases hq:okS has 0 sent&&(zjT r has&&repoB (zg9 r has sent n))with
  |false=>rw[hq]at h;cases h
  |true=>
   simp only[aG]at hq
   exact⟨rfl,hq.2.2,rfl⟩
theorem zqc {r:Repo}{has:List Int}{sent:List Commit}{n:Str}(hok:repoB r=true)(h:(zkk r has sent n).2=false):(zkk r has sent n).1=r:=by
 unfold zkk at h ⊢
 rw[hok,aD]at h ⊢
 cases hq:okS has 0 sent&&(zjT r has&&repoB (zg9 r has sent n))with
 |false=>rfl
 |true=>rw[hq]at h;cases h
theorem zun {r:Repo}{has:List Int}{sent:List Commit}{n:Str}(h:repoB (zg9 r has sent n)=true):0<=endAt has r.Commits.length sent.length:=by
 have hm:(⟨n,endAt has r.Commits.length sent.length⟩:Head)∈(zg9 r has sent n).Heads:=zpq _ _ _
 exact(zc3 h hm).1
theorem zpL {code:List Byte}(h:Bk.fit code):zjY code=some true:=by
 unfold zjY
 by_cases hc:(1048576:Int)< (code.length:Int)
 ·rw[aF hc];rfl
 obtain⟨x,has,sent,n,e,hx,hl,hs,hn⟩:=znL (code:=code) (by omega)
 have hb:=hx.rb
 have hok:=hx.ok
 have hsm:=zab hok
 have hsl:=hs.len
 have hcm:x.Commits.length+sent.length<=1048576:=by omega
 have hn':n.length<=1048576:=by omega
 have htr:=znx (has:=has) hb hok hs hn'
 rw[aE hc,aC,e,aA]
 simp only[zfj,zkl hb (show has.length<=1048576 by omega) hcm hs.cb hs.fit hn',zoP hb (show has.length<=1048576 by omega) hcm hs.cb hs.fit hn',aA,jn,bne_self_eq_false,aO,aC,aD,zcb hb,hok,aK]
 cases h2:(zkk x has sent n).2 with
 |false=>
  rw[zqc hok h2]
  simp only[ziT hb,aO,aA,aK,Bool.not_false,aC,aD]
 |true=>
  obtain⟨h3,h4,_⟩:=znB h2
  have eat:zjn (zg9 x has sent n) n=endAt has x.Commits.length sent.length:=by
   unfold zjn
   rw[h4,aD]
   exact zo4 h4
  have elen:(zg9 x has sent n).Commits.length=x.Commits.length+sent.length:=by rw[znf,List.length_append,zjS]
  rw[h3]
  simp only[ziT htr,aO,aA,aK,aC,zka htr,eat,zak]
  rw[zbs (n:=sent.length) (g:=fun _=>true) (r0:=some false) (Z:=some true) (f:=fun m i=>zfU (x,has,sent,n) (zg9 x has sent n,true) _ m false i) (fun m i hi=>by
   have hy:sent[i]? =some sent[i]:=aB hi
   have hcb:=hs.cb _ (List.getElem_mem hi)
   have hz:(zg9 x has sent n).Commits[x.Commits.length+i]? =some (toC has x.Commits.length i sent[i]):=by
    rw[znf,aN (by omega),show x.Commits.length+i-x.Commits.length=i by omega,zme,hy,Nat.zero_add]
    rfl
   have ew:w64 ((x.Commits.length:Int)+(i:Int))=((x.Commits.length+i:Nat):Int):=by rw[zai (by omega) (by omega)];omega
   have e3:(toC has x.Commits.length i sent[i]).Parents.length=sent[i].Parents.length:=by simp[toC]
   simp only[zfU,jn,zah hy,zae hy,ew,zae hz,aD,aA,show(toC has x.Commits.length i sent[i]).Who=sent[i].Who from rfl,show(toC has x.Commits.length i sent[i]).Tree=sent[i].Tree from rfl,e3,bne_self_eq_false,aC,zgk hcb.tree,aO,aK,zac hi (show sent.length<=maxi by unfold maxi;omega)]) (fun m=>by
   have hk:zjs (zg9 x has sent n) x=some true:=zqd hb (by rw[znf];exact List.prefix_append _ _)
   have ew:w64 ((x.Commits.length:Int)+(sent.length:Int))=((x.Commits.length+sent.length:Nat):Int):=by rw[zai (by omega) (by omega)];omega
   have hend:=zun h4
   simp only[zfU,zad,aC,zcb htr,h4,aA,aD,hk,elen,ew,aO]
   unfold endAt at hend ⊢
   by_cases h0:sent.length=0
   ·rw[h0]at hend ⊢
    have d0:decide ((0:Int)< ((0:Nat):Int))=false:=rfl
    have b0:((((0:Nat):Int))==(0:Int))=true:=rfl
    rw[d0,aC,b0,aD]
    simp only[aO,aD]at hend ⊢
    unfold zj6 at hend ⊢
    cases hh:decide ((0:Int)< (has.length:Int))with
    |false=>rw[hh,aC]at hend;omega
    |true=>
     have hp:0<has.length:=by simpa using hh
     have:=zfn hp
     have g0:gi has 0=some (has.getD 0 0):=this
     rw[g0]
     simp
   ·have h1:(sent.length==0)=false:=beq_false_of_ne h0
    have ew2:w64 (((x.Commits.length+sent.length:Nat):Int)-1)=((x.Commits.length+sent.length-1:Nat):Int):=by rw[zai (by omega) (by omega)];omega
    rw[h1,aC,aF (show(0:Int)< (sent.length:Int) by omega),aD,ew2,aO,aD]) _ (by omega),zaC.2 (fun _ _ _=>rfl),aD]
section
variable {x:Repo}(hr:repoB x=true){a b:Int}(ha:upB x.Commits.length a=true)(hb:upB x.Commits.length b=true)
include hr ha
include hb
end
theorem zdg {α:Type}{f:α->Nat}{c:Nat}: ∀ {t:List α},(∀ s∈t,f s<=c)->zc5 f t<=c*t.length
 | [],_=>by simp[zc5]
 |x::t,h=>by
  have h1:=h x (by simp)
  have h2:=zdg (t:=t) (fun s hs=>h s (by simp[hs]))
  simp only[zc5,aL,Nat.mul_add,Nat.mul_one]
  omega
theorem zlV {t:List Str}(h:zao t=true):Bk.bulk t<=130:=by
 have hl:=zaI h
 have hs:zc5 Bk.bulk t<=12*t.length:=zdg fun s hs=>by
  have:=zht (zbe h s hs)
  show s.length<=12
  omega
 show t.length+zc5 Bk.bulk t<=130
 omega
theorem zlW {t:List File}(h:zaq t=true):Bk.bulk t<=1208:=by
 have hl:=zaH h
 have hs:zc5 Bk.bulk t<=150*t.length:=zdg fun f hf=>by
  have h1:=zcN (zbU h hf)
  have h2:=zlV (zaB h f hf)
  show f.Path.length+Bk.bulk f.Text<=150
  omega
 show t.length+zc5 Bk.bulk t<=1208
 omega
theorem zmB {r:Repo}(h:repoB r=true){c:Commit}(hc:c∈r.Commits):c.Parents.length<=2/\(∀ p∈c.Parents,0<=p/\p<=16)/\zav c.Who=true/\zaq c.Tree=true:=by
 obtain⟨i,hi⟩:=List.mem_iff_getElem?.1 hc
 have hil:=zan hi
 have s1:=(zab h).1
 have:=zeu h (i:=i) (by omega)
 rw[zbF hi]at this
 unfold zjL at this
 simp only[aG,decide_eq_true_eq,List.all_eq_true]at this
 refine⟨by omega,fun p hp=>?_,this.2.2.2.1,this.2.2.2.2⟩
 have h1:=this.1 p hp
 unfold upB at h1
 simp only[aG,decide_eq_true_eq]at h1
 omega
theorem zlX {r:Repo}(h:repoB r=true):Bk.bulk r<=20000:=by
 obtain⟨s1,s2⟩:=zab h
 have h1:zc5 Bk.bulk r.Commits<=1218*r.Commits.length:=zdg fun c hc=>by
  obtain⟨c1,_,c3,c4⟩:=zmB h hc
  have:=zbj c3
  have:=zlW c4
  have hp:zc5 Bk.bulk c.Parents<=0*c.Parents.length:=zdg fun p hp=>Nat.le_refl 0
  show c.Parents.length+zc5 Bk.bulk c.Parents+(c.Who.length+Bk.bulk c.Tree)<=1218
  omega
 have h2:zc5 Bk.bulk r.Heads<=6*r.Heads.length:=zdg fun x hx=>by
  have:=zbj (zc3 h hx).2.2
  show x.Name.length+0<=6
  omega
 show r.Commits.length+zc5 Bk.bulk r.Commits+(r.Heads.length+zc5 Bk.bulk r.Heads)<=20000
 omega
theorem zlY {t:List File}(h:zaq t=true):Bk.fit t:=⟨by have:=zaH h;unfold maxi;omega,fun f hf=>⟨by have:=zcN (zbU h hf);show f.Path.length<=maxi;unfold maxi;omega,by
 have h1:=zaB h f hf
 have h2:=zaI h1
 exact zfF (by omega) (zbe h1)⟩⟩
theorem zlZ {r:Repo}(h:repoB r=true):Bk.fit r:=by
 obtain⟨s1,s2⟩:=zab h
 refine⟨⟨by unfold maxi;omega,fun c hc=>?_⟩,by unfold maxi;omega,fun x hx=>?_⟩
 ·obtain⟨c1,c2,c3,c4⟩:=zmB h hc
  refine⟨⟨by unfold maxi;omega,fun p hp=>?_⟩,by have:=zbj c3;show c.Who.length<=maxi;unfold maxi;omega,zlY c4⟩
  have:=c2 p hp
  show -9223372036854775808<=p/\p<=9223372036854775807
  omega
 ·obtain⟨h1,h2,h3⟩:=zc3 h hx
  refine⟨by have:=zbj h3;show x.Name.length<=maxi;unfold maxi;omega,?_⟩
  show -9223372036854775808<=x.At/\x.At<=9223372036854775807
  omega
theorem zgj.lt {l:List Int}(h:zgj l){i k:Nat}(hik:i<k)(hk:k<l.length):l.getD i 0<l.getD k 0:=by
 have h1:i<l.length:=by omega
 have:=List.pairwise_iff_getElem.1 h i k h1 hk hik
 rw[zci (aB h1),zci (aB hk)]
 exact this
theorem zgj.inj {l:List Int}(h:zgj l){i k:Nat}(hi:i<l.length)(hk:k<l.length)(e:l.getD i 0=l.getD k 0):i=k:=by
 rcases Nat.lt_trichotomy i k with h1 |h1 |h1
 ·have:=h.lt h1 hk;omega
 ·exact h1
 ·have:=h.lt h1 hi;omega
section
variable {r:Repo}(h:RpB r)(hr:repoB r=true)
include h hr
end
def zol (r:Repo)(n:Str)(x:Repo):Prop:=x=r\/x=za5\/repoB x=true
theorem zol.bulk {r x:Repo}{n:Str}(h:zol r n x):Bk.bulk x<=Bk.bulk r+20000:=by
 rcases h with h |h |h
 ·rw[h];omega
 ·rw[h];show 0+0+(0+0)<=_;omega
 ·have:=zlX h;omega
theorem zol.fit {r x:Repo}{n:Str}(hf:Bk.fit r)(h:zol r n x):Bk.fit x:=by
 rcases h with h |h |h
 ·rw[h];exact hf
 ·rw[h];exact⟨⟨by simp[za5,maxi],by simp[za5]⟩,by simp[za5,maxi],by simp[za5]⟩
 ·exact zlZ h
def ChH:Int->List Hunk->Prop
 |_,[]=>True
 |lo,d::l=>lo<=d.At/\ChH (d.At+d.Less.length+1) l
theorem ChH.mono: ∀ {l:List Hunk} {lo lo':Int},lo'<=lo->ChH lo l->ChH lo' l
 | [],_,_,_,_=>trivial
 |d::l,_,_,h,⟨h1,h2⟩=>⟨Int.le_trans h h1,h2⟩
def zlt:List Str->List Str->Nat
 |a::l,b::m=>bif a==b then zlt l m+1 else 0
 |_,_=>0
def zrb (t:List Str):List Str->Nat->Nat×Nat->Nat×Nat
 | [],_,r=>r
 |b::bs,i,r=>zrb t bs (i+1) (bif decide (r.2<zlt (b::bs) t) then(i,zlt (b::bs) t) else r)
def znS (base t:List Str):Nat×Nat:=zrb t base 0 (0,0)
def zn5 (out:List Delta)(x:Str):List Delta:=match out.getLast? with
 |some d=>bif decide (0<d.Lines.length) then out.dropLast++[⟨d.From,d.Many,d.Lines++[x]⟩] else out++[⟨0,0,[x]⟩]
 |none=>out++[⟨0,0,[x]⟩]
def ziQ (base:List Str):Nat->List Delta->List Str->List Delta
 |0,out,_=>out
 |_+1,out,[]=>out
 |n+1,out,x::t=>bif decide (0< (znS base (x::t)).2) then ziQ base n (out++[⟨(znS base (x::t)).1,(znS base (x::t)).2,[]⟩]) ((x::t).drop (znS base (x::t)).2) else ziQ base n (zn5 out x) t
def zlc (base t:List Str):List Delta:=ziQ base t.length [] t
def OD (n:Nat)(l:List Owner):Prop:=l.length<=n /\ ∀ o∈l,o.Path.length<=10/\o.Who.length<=10
theorem OD.fit {n:Nat}{l:List Owner}(h:OD n l)(hn:n<=1000):Bk.fit l:=⟨by have:=h.1;unfold maxi;omega,fun o ho=>by
 have:=h.2 o ho
 exact⟨by show o.Path.length<=maxi;unfold maxi;omega,by show o.Who.length<=maxi;unfold maxi;omega⟩⟩
section
variable {base t:List Str}(hb:zao base=true)(ht:zao t=true)
include hb ht
end
def zp0 (list:List (List Str))(ds:List Int)(i:Nat)(t:List Str)(b dep:Int)(d:List Delta):Prop:=(b = -1/\d=zlc [] t/\dep=1) \/ ∃ k o dk,k<i/\b=(k:Int)/\list[k]? =some o/\ds[k]? =some dk/\d=zlc o t/\dep=dk+1/\dk<=2
theorem zp0.snoc {list:List (List Str)}{ds:List Int}{i:Nat}{t:List Str}{b dep z:Int}{d:List Delta}(h:zp0 list ds i t b dep d):zp0 list (ds++[z]) i t b dep d:=by
 rcases h with h |⟨k,o,dk,h1,h2,h3,h4,h5⟩
 ·exact .inl h
 ·exact .inr ⟨k,o,dk,h1,h2,h3,by rw[aM (List.getElem?_eq_some_iff.1 h4).1];exact h4,h5⟩
section
variable {list:List (List Str)}(h12:list.length<=12)(hl: ∀ t∈list,zao t=true)
include h12 hl
end
end Go.Vm
