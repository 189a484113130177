/- Plain law FnSendOf, and what it uses: what the models answer. Conditions: each law's own premises. -/
import Derived.Test.YtpijdodljeieaaaGreatDoorBGFnSendOfa
import Derived.Test.YtpijdodljeieaaaGreatDoorBLw
namespace Go.Vm
open Go Go.Sx
set_option linter.unusedSimpArgs false
set_option linter.unusedVariables false
set_option linter.unusedSectionVars false
def zd1 (has list:List Int)(p:Int):Int:=bif zcF list p then plI list p else -1-plI has p
def zd4 (has list:List Int)(p:Int):Bool:=zcF list p||zcF has p
def zim (has list:List Int)(c:Commit):Commit:=⟨c.Parents.map (zd1 has list),c.Who,c.Tree⟩
def zdd (r:Repo)(has list:List Int)(x:Int):Bool:=(zaa r x.toNat).all (zd4 has list)
def zfM (r:Repo)(has list:List Int):List Commit:=list.map fun i=>zim has list (r.Commits.getD i.toNat noCommit)
def zhi (r:Repo)(has:List Int)(a:Int):Bool:=repoB r&&(zjT r has&&upB r.Commits.length a)
def zdP (r:Repo)(has:List Int)(a:Int):List Commit×Bool:=
 bif zhi r has a then(bif(leftL r has a).all (zdd r has (leftL r has a)) then(zfM r has (leftL r has a),true) else([],false)) else([],false)
theorem zlM {l:List Int}{n:Int}:decide (zbl l n<0) = !zcF l n:=by
 unfold zbl
 cases h:zcF l n with
 |true=>
  have:=(zbp (zaE.1 h)).1
  rw[aD,aE (by omega)]
  rfl
 |false=>rfl
theorem zk6 {l:List Int}{n:Int}: -1<=zbl l n/\zbl l n< (l.length:Int):=by
 unfold zbl
 cases h:zcF l n with
 |true=>
  have:=zbp (zaE.1 h)
  rw[aD]
  omega
 |false=>rw[aC];omega
theorem zlN {l:List Int}(hl:l.length<=1000000){n:Int}: ∀ (k i m:Nat),i+k=l.length->k<m->
 zbt l n (fun _ _=>some (-1)) m 0 (i:Int)=some (bif zcF (l.drop i) n then((i+(l.drop i).idxOf n:Nat):Int) else -1)
 |k,i,0,_,hm=>by omega
 |0,i,m+1,hi,_=>by
  obtain rfl:i=l.length:=by omega
  simp only[zbt,zad,aC,List.drop_length]
  rfl
 |k+1,i,m+1,hi,hm=>by
  have hlt:i<l.length:=by omega
  have hx:l[i]? =some l[i]:=aB hlt
  simp only[zbt,zah hx,zae hx,aD,aA,zac hlt (show l.length<=maxi by unfold maxi;omega)]
  rw[ziY hlt,zlN hl k (i+1) m (by omega) (by omega),show(n==l[i])=(l[i]==n) from zbT (by simp only[beq_iff_eq];exact⟨Eq.symm,Eq.symm⟩)]
  cases l[i]==n<;>rfl
theorem zlO {l:List Int}(hl:l.length<=1000000)(n:Int):zdq l n=some (zbl l n):=by
 unfold zdq
 simp only[jn,zak]
 have e:=zlN hl (n:=n) l.length 0 (l.length+1) (by omega) (by omega)
 refine e.trans ?_
 unfold zbl plI
 simp
section
variable {has list:List Int}(hh:has.length<=1000000)(hl:list.length<=1000000)
include hh hl
theorem znV {P:List Int}(hP:P.length<=1000000){K:List Commit->Bool->Int->List Int->Option (List Commit×Bool)}{y:List Commit}{b:Bool}: ∀ (j k m:Nat),k+j=P.length->j<m->
 zgv has list K m y b (k:Int) (zj7 (zd1 has list) P k)=bif(P.drop k).all (zd4 has list) then K y b (P.length:Int) (P.map (zd1 has list)) else some ([],false)
 |j,k,0,_,hm=>by omega
 |0,k,m+1,hk,_=>by
  obtain rfl:k=P.length:=by omega
  rw[zms,List.drop_length]
  simp only[zgv,show(P.length:Int)=((P.map (zd1 has list)).length:Int) by rw[List.length_map],zad,aC,List.all_nil,aD]
 |j+1,k,m+1,hk,hm=>by
  have hlt:k<P.length:=by omega
  have hx:(zj7 (zd1 has list) P k)[k]? =some P[k]:=zno hlt
  have hkl:k< (zj7 (zd1 has list) P k).length:=by rw[zmr];exact hlt
  have ih:=znV hP (K:=K) (y:=y) (b:=b) j (k+1) m (by omega) (by omega)
  simp only[zgv,jn,zah hx,zae hx,aD,aA,zje hl,zje hh,zcf hkl,zac hlt (show P.length<=maxi by unfold maxi;omega),zlM]
  rw[aI hlt,List.all_cons]
  cases h1:zcF list P[k]with
  |true=>
   have e1:zbl list P[k]=zd1 has list P[k]:=by unfold zbl zd1;rw[h1];rfl
   have e2:zd4 has list P[k]=true:=by unfold zd4;rw[h1];rfl
   simp only[aK,aC,e1,e2,Bool.true_and]
   rw[zkc hlt]
   exact ih
  |false=>
   cases h2:zcF has P[k]with
   |false=>
    have e2:zd4 has list P[k]=false:=by unfold zd4;rw[h1,h2];rfl
    simp only[Bool.not_false,aD,e2,Bool.false_and,aC]
   |true=>
    have e2:zd4 has list P[k]=true:=by unfold zd4;rw[h1,h2];rfl
    have e1: -1-zbl has P[k]=zd1 has list P[k]:=by unfold zbl zd1;rw[h1,h2];rfl
    have hr:=zk6 (l:=has) (n:=P[k])
    have hs:((zj7 (zd1 has list) P k).set k (zbl list P[k]))[k]? =some (zbl list P[k]):=by rw[List.getElem?_set_self hkl]
    simp only[aK,Bool.not_false,aD,aC,e2,Bool.true_and,zae hs,aA,zcf (show k< ((zj7 (zd1 has list) P k).set k (zbl list P[k])).length by rw[List.length_set];exact hkl),List.set_set]
    rw[zai (by omega) (by omega),e1,zkc hlt]
    exact ih
theorem zmS {c:Commit}(hP:c.Parents.length<=1000000){K:List Commit->Bool->Int->List Int->Str->List File->Option (List Commit×Bool)}{y:List Commit}{b:Bool}{w:Str}{t:List File}: ∀ (j k m:Nat),k+j=c.Parents.length->j<m->
 zeU has list c K m y b (k:Int) ((c.Parents.take k).map (zd1 has list)) w t=bif(c.Parents.drop k).all (zd4 has list) then K y b (c.Parents.length:Int) (c.Parents.map (zd1 has list)) w t else some ([],false)
 |j,k,0,_,hm=>by omega
 |0,k,m+1,hk,_=>by
  obtain rfl:k=c.Parents.length:=by omega
  rw[List.take_length,List.drop_length]
  simp only[zeU,zad,aC,List.all_nil,aD]
 |j+1,k,m+1,hk,hm=>by
  have hlt:k<c.Parents.length:=by omega
  have hx:c.Parents[k]? =some c.Parents[k]:=aB hlt
  have ih:=zmS hP (K:=K) (y:=y) (b:=b) (w:=w) (t:=t) j (k+1) m (by omega) (by omega)
  rw[List.take_succ_eq_append_getElem hlt,List.map_append]at ih
  have el:((c.Parents.take k).map (zd1 has list)).length<=1048576:=by rw[List.length_map,List.length_take];omega
  simp only[zeU,jn,zah hx,zae hx,aD,aA,zlO hl,zlO hh,zac hlt (show c.Parents.length<=maxi by unfold maxi;omega),ap1 el]
  rw[aI hlt,List.all_cons]
  have dl: ∀ l:List Int,decide ((0:Int)<=zbl l c.Parents[k])=zcF l c.Parents[k]:=fun l=>by
   have:=zlM (l:=l) (n:=c.Parents[k])
   cases hb:zcF l c.Parents[k]with
   |true=>rw[hb]at this;simp only[aK,decide_eq_false_iff_not]at this;exact aF (by omega)
   |false=>rw[hb]at this;simp only[Bool.not_false,decide_eq_true_eq]at this;exact aE (by omega)
  rw[dl list,dl has]
  cases h1:zcF list c.Parents[k]with
  |true=>
   have e1:zbl list c.Parents[k]=zd1 has list c.Parents[k]:=by unfold zbl zd1;rw[h1];rfl
   have e2:zd4 has list c.Parents[k]=true:=by unfold zd4;rw[h1];rfl
   simp only[aD,e1,e2,Bool.true_and]
   exact ih
  |false=>
   cases h2:zcF has c.Parents[k]with
   |false=>
    have e2:zd4 has list c.Parents[k]=false:=by unfold zd4;rw[h1,h2];rfl
    simp only[e2,Bool.false_and,aC]
   |true=>
    have e2:zd4 has list c.Parents[k]=true:=by unfold zd4;rw[h1,h2];rfl
    have e1: -1-zbl has c.Parents[k]=zd1 has list c.Parents[k]:=by unfold zbl zd1;rw[h1,h2];rfl
    have hr:=zk6 (l:=has) (n:=c.Parents[k])
    simp only[aD,aC,e2,Bool.true_and]
    rw[zai (by omega) (by omega),e1]
    exact ih
variable {r:Repo}(h:RpB r)(hr:repoB r=true)(hg: ∀ x∈list,0<=x/\x<=(r.Commits.length:Int)-1)
include h hr hg
theorem zoI {x:Int}(hx:x∈list):CB (r.Commits.getD x.toNat noCommit)/\(r.Commits.getD x.toNat noCommit).Parents.length<=2:=by
 have hrg:=hg x hx
 have hgx:r.Commits[x.toNat]? =some (r.Commits[x.toNat]'(by omega)):=aB _
 have hps:=zar hr (i:=x.toNat) (by omega)
 unfold zaa at hps
 exact⟨by rw[zbF hgx];exact h.cat hgx,hps.1⟩
theorem znW {K:List Commit->Bool->List Commit->Int->Option (List Commit×Bool)}: ∀ (j k m:Nat),k+j=list.length->j<m->
 zeS r has list K m [] false ((list.take k).map fun i=>zim has list (r.Commits.getD i.toNat noCommit)) (k:Int)=bif(list.drop k).all (zdd r has list) then K [] false (zfM r has list) (list.length:Int) else some ([],false)
 |j,k,0,_,hm=>by omega
 |0,k,m+1,hk,_=>by
  obtain rfl:k=list.length:=by omega
  rw[List.take_length,List.drop_length]
  simp only[zeS,zad,aC,List.all_nil,aD]
  rfl
 |j+1,k,m+1,hk,hm=>by
  have hlt:k<list.length:=by omega
  have hx:list[k]? =some list[k]:=aB hlt
  have hxm:=List.getElem_mem hlt
  have hrg:=hg _ hxm
  obtain⟨hc,hp2⟩:=zoI hh hl h hr hg hxm
  have ih:=znW (K:=K) j (k+1) m (by omega) (by omega)
  rw[List.take_succ_eq_append_getElem hlt,List.map_append]at ih
  have el:((list.take k).map fun i=>zim has list (r.Commits.getD i.toNat noCommit)).length<=1048576:=by rw[List.length_map,List.length_take];omega
  simp only[zeS,jn,zah hx,zae hx,aD,aA,zaN hrg.1 hrg.2,zcQ hc,zak]
  have e:=znV hh hl (P:=(r.Commits.getD list[k].toNat noCommit).Parents) (by omega) (y:=[]) (b:=false) (K:=fun(y200:List Vm.Commit) (y203:Bool) (y204:Int) (y207:List Int)=>
   (apM ((list.take k).map fun i=>zim has list (r.Commits.getD i.toNat noCommit)) [Vm.Commit.mk y207 (r.Commits.getD list[k].toNat noCommit).Who (r.Commits.getD list[k].toNat noCommit).Tree]).bind fun q309=>
   zeS r has list K m y200 y203 q309 (w64 ((k:Int)+1))) (r.Commits.getD list[k].toNat noCommit).Parents.length 0 ((r.Commits.getD list[k].toNat noCommit).Parents.length+1) (by omega) (by omega)
  rw[zmo]at e
  refine e.trans ?_
  rw[aI hlt,List.all_cons,List.drop_zero]
  have ea:(r.Commits.getD list[k].toNat noCommit).Parents.all (zd4 has list)=zdd r has list list[k]:=rfl
  rw[ea]
  cases zdd r has list list[k]with
  |false=>rfl
  |true=>
   rw[aD,Bool.true_and,ap1 el,aA,zac hlt (show list.length<=maxi by unfold maxi;omega)]
   exact ih
theorem zmT {K:List Commit->Bool->List Commit->Int->Option (List Commit×Bool)}: ∀ (j k m:Nat),k+j=list.length->j<m->
 zdH r has list K m [] false ((list.take k).map fun i=>zim has list (r.Commits.getD i.toNat noCommit)) (k:Int)=bif(list.drop k).all (zdd r has list) then K [] false (zfM r has list) (list.length:Int) else some ([],false)
 |j,k,0,_,hm=>by omega
 |0,k,m+1,hk,_=>by
  obtain rfl:k=list.length:=by omega
  rw[List.take_length,List.drop_length]
  simp only[zdH,zad,aC,List.all_nil,aD]
  rfl
 |j+1,k,m+1,hk,hm=>by
  have hlt:k<list.length:=by omega
  have hx:list[k]? =some list[k]:=aB hlt
  have hxm:=List.getElem_mem hlt
  have hrg:=hg _ hxm
  obtain⟨hc,hp2⟩:=zoI hh hl h hr hg hxm
  have ih:=zmT (K:=K) j (k+1) m (by omega) (by omega)
  rw[List.take_succ_eq_append_getElem hlt,List.map_append]at ih
  have el:((list.take k).map fun i=>zim has list (r.Commits.getD i.toNat noCommit)).length<=1048576:=by rw[List.length_map,List.length_take];omega
  have et:za4 r list[k]=some (r.Commits.getD list[k].toNat noCommit).Tree:=by
   unfold za4
   rw[aE (by omega),aC,zaN hrg.1 hrg.2,aA]
  simp only[zdH,jn,zah hx,zae hx,aD,aA,zaN hrg.1 hrg.2,et,zek hc.tree,zak]
  have e:=zmS hh hl (c:=r.Commits.getD list[k].toNat noCommit) (by omega) (y:=[]) (b:=false) (w:=(r.Commits.getD list[k].toNat noCommit).Who) (t:=(r.Commits.getD list[k].toNat noCommit).Tree) (K:=fun(y217:List Vm.Commit) (y220:Bool) (y224:Int) (y225:List Int) (y228:Str) (y229:List Vm.File)=>
   (apM ((list.take k).map fun i=>zim has list (r.Commits.getD i.toNat noCommit)) [Vm.Commit.mk y225 y228 y229]).bind fun q357=>
   zdH r has list K m y217 y220 q357 (w64 ((k:Int)+1))) (r.Commits.getD list[k].toNat noCommit).Parents.length 0 ((r.Commits.getD list[k].toNat noCommit).Parents.length+1) (by omega) (by omega)
  refine e.trans ?_
  rw[aI hlt,List.all_cons,List.drop_zero]
  have ea:(r.Commits.getD list[k].toNat noCommit).Parents.all (zd4 has list)=zdd r has list list[k]:=rfl
  rw[ea]
  cases zdd r has list list[k]with
  |false=>rfl
  |true=>
   rw[aD,Bool.true_and,ap1 el,aA,zac hlt (show list.length<=maxi by unfold maxi;omega)]
   exact ih
end
theorem zop {r:Repo}(h:RpB r){has:List Int}(hl:has.length<=1000)(a:Int):zbI r has a=some (zhi r has a):=by
 unfold zbI zhi zjT
 simp only[jn,zlF h (show has.length<=100000 by omega),zgY h,aA]
 cases repoB r with
 |false=>rfl
 |true=>
  cases has.all (upB r.Commits.length)with
  |false=>rfl
  |true=>
   cases decide ((has.length:Int)<=16)<;>rfl
theorem zhe {r:Repo}{has:List Int}{a:Int}(h:zhi r has a=true):repoB r=true/\upB r.Commits.length a=true/\zjT r has=true/\(∀ g∈has,upB r.Commits.length g=true)/\has.length<=16:=by
 unfold zhi at h
 simp only[aG]at h
 obtain⟨h1,h2,h3⟩:=h
 exact⟨h1,h3,h2,(zmm h2).1,(zmm h2).2⟩
theorem ziU {r:Repo}{has:List Int}{a x:Int}(hx:x∈leftL r has a):0<=x/\x<=(r.Commits.length:Int)-1:=zaO (zeq.1 hx).1
theorem znC {r:Repo}(h:RpB r){has:List Int}(hl:has.length<=1000)(a:Int):ziH r has a=some (zdP r has a):=by
 unfold ziH zdP
 simp only[jn,za8 h,zmU h (show has.length<=1048576 by omega),zch,zbL (zaj h.coms),aA]
 rw[show(decide ((0:Int)<=a)&&decide (a<=(r.Commits.length:Int)-1))=upB r.Commits.length a from rfl]
 cases hs:zhi r has a with
 |false=>
  unfold zhi at hs
  cases h1:repoB r with
  |false=>rfl
  |true=>
   cases h2:zjT r has with
   |false=>rfl
   |true=>
    rw[h1,h2]at hs
    simp only[Bool.true_and]at hs
    rw[hs]
    rfl
 |true=>
  obtain⟨h1,h2,h3,h4,h5⟩:=zhe hs
  have hle:=zf2 r has a
  have hsm:=(zab h1).1
  rw[h1,h2,h3]
  simp only[aK,aC,aD]
  unfold zkv
  rw[zne h1 h4 (by omega) h2,aA,aA]
  simp only[zak]
  have e:=znW (has:=has) (list:=leftL r has a) (by omega) (by omega) h h1 (fun x hx=>ziU hx) (K:=fun _ _ y26 _=>some (y26,true)) (leftL r has a).length 0 ((leftL r has a).length+1) (by omega) (by omega)
  refine e.trans ?_
  rw[List.drop_zero]
  cases(leftL r has a).all (zdd r has (leftL r has a))<;>rfl
theorem zmc {r:Repo}(h:RpB r){has:List Int}(hl:has.length<=1000)(a:Int):zie r has a=some (zdP r has a):=by
 unfold zie zdP
 rw[zop h hl,aA]
 cases hs:zhi r has a with
 |false=>rfl
 |true=>
  obtain⟨h1,h2,h3,h4,h5⟩:=zhe hs
  have hle:=zf2 r has a
  have hsm:=(zab h1).1
  rw[aK,aC,aD,zlJ h1 h2 (by omega) h4,aA]
  simp only[jn,zak]
  have e:=zmT (has:=has) (list:=leftL r has a) (by omega) (by omega) h h1 (fun x hx=>ziU hx) (K:=fun _ _ y26 _=>some (y26,true)) (leftL r has a).length 0 ((leftL r has a).length+1) (by omega) (by omega)
  refine e.trans ?_
  rw[List.drop_zero]
  cases(leftL r has a).all (zdd r has (leftL r has a))<;>rfl
def zqa (r:Repo)(has:List Int)(a:Int):Int:=bif zhi r has a then((leftL r has a).length:Int) else -1
theorem zoN {r:Repo}(h:RpB r){has:List Int}(hl:has.length<=1000)(a:Int):zjl r has a=some (zqa r has a):=by
 unfold zjl zqa
 simp only[jn,za8 h,zmU h (show has.length<=1048576 by omega),zch,zbL (zaj h.coms),aA]
 rw[show(decide ((0:Int)<=a)&&decide (a<=(r.Commits.length:Int)-1))=upB r.Commits.length a from rfl]
 cases hs:zhi r has a with
 |false=>
  unfold zhi at hs
  cases h1:repoB r with
  |false=>rfl
  |true=>
   cases h2:zjT r has with
   |false=>rfl
   |true=>
    rw[h1,h2]at hs
    simp only[Bool.true_and]at hs
    rw[hs]
    rfl
 |true=>
  obtain⟨h1,h2,h3,h4,h5⟩:=zhe hs
  rw[h1,h2,h3]
  simp only[aK,aC,aD]
  unfold zkv
  rw[zne h1 h4 (by omega) h2]
  rfl
theorem zoO {r:Repo}(h:RpB r){has:List Int}(hl:has.length<=1000)(a:Int):ziO r has a=some (zqa r has a):=by
 unfold ziO zqa
 rw[zop h hl,aA]
 cases hs:zhi r has a with
 |false=>rfl
 |true=>
  obtain⟨h1,h2,h3,h4,h5⟩:=zhe hs
  rw[aK,aC,aD,zlJ h1 h2 (by omega) h4]
  rfl
theorem zgQ {r:Repo}{has:List Int}{a:Int}(h:(zdP r has a).2=true):zhi r has a=true/\(leftL r has a).all (zdd r has (leftL r has a))=true/\(zdP r has a).1=zfM r has (leftL r has a):=by
 unfold zdP at h ⊢
 cases hs:zhi r has a with
 |false=>rw[hs]at h;cases h
 |true=>
  rw[hs,aD]at h
  cases ha:(leftL r has a).all (zdd r has (leftL r has a))with
  |false=>rw[ha]at h;cases h
  |true=>exact⟨rfl,rfl,rfl⟩
theorem znh {c:Commit}(h:CB c)(has list:List Int):CB (zim has list c):=⟨by simp only[zim,List.length_map];exact h.par,h.who,h.tree⟩
theorem zov {code:List Byte}(h:code.length<=1048576): ∃ x has a,ziW code=some (x,has,a)/\Drawn x/\has.length<=16:=by
 unfold ziW
 obtain⟨b,e,hr⟩:=zoD h
 obtain⟨x,q,e2,hx,r2⟩:=zjb hr (by omega)
 obtain⟨a,e3,a0,a1⟩:=zlA r2 (by omega) hx
 have hcm:=hx.coms
 have r3:zcg ⟨b,q+1+1⟩ (0+2010+2):=zdD (r:=⟨b,q+1⟩) (zdD (r:=⟨b,q⟩) (q:=0+2010+1) r2 (by omega) (by omega)) (by omega) (by omega)
 simp only[e,aA,e2,zfj,e3,jn,zch,zbL (zaj hx.rb.coms),za8 hx.rb]
 obtain⟨l1,q1,f1,g1,_⟩:=zqN r3 (by omega) (x:=x) hcm
 have hs: ∀ {qq:Int} {p:Int},zcg ⟨b,qq⟩ p->p<=200000 -> ∃ l q',zjr ⟨b,qq⟩ x=some (l,q')/\l.length<=4:=fun {qq p} hq hp=>by
  obtain⟨l,q',f,g,_⟩:=zqN hq hp (x:=x) hcm
  exact⟨l,q',f,g⟩
 cases hu:(decide ((0:Int)<=a)&&decide (a<=(x.Commits.length:Int)-1))with
 |false=>
  simp only[aC]
  rw[f1]
  exact⟨x,l1,a,rfl,hx,by omega⟩
 |true=>
  simp only[aG,decide_eq_true_eq]at hu
  cases hok:repoB x with
  |false=>
   simp only[aD,aC]
   rw[f1]
   exact⟨x,l1,a,rfl,hx,by omega⟩
  |true=>
   simp only[aD]
   obtain⟨k,e4,k0,k1⟩:=zb6 r3 (n:=3) (by omega) (by omega) (by omega)
   simp only at e4
   have r4:zcg ⟨b,q+1+1+1⟩ (0+2010+3):=zdD (r:=⟨b,q+1+1⟩) r3 (k:=1) (by omega) (by omega)
   rw[e4,aA]
   simp only
   cases decide ((0:Int)<k)with
   |false=>
    obtain⟨l2,q2,f2,g2⟩:=hs r4 (by omega)
    simp only[aC]
    rw[f2]
    exact⟨x,l2,a,rfl,hx,by omega⟩
   |true=>
    obtain⟨k',e5,k0',k1'⟩:=zb6 r4 (n:=(x.Commits.length:Int)) (by omega) (by omega) (by omega)
    simp only[aD]at e5 ⊢
    rw[e5,aA]
    simp only
    rw[zb8 hok k0' (by omega),aA]
    exact⟨x,allA x k',a,rfl,hx,by have:=zaS x k';omega⟩
theorem zqb {x:Repo}{has:List Int}{a:Int}(hb:RpB x)(hl:has.length<=16)(hcm:x.Commits.length<=16)(h2:(zdP x has a).2=true){K:Bool->Int->Option Bool}:
 zeF (x,has,a) (zdP x has a) (zdP x has a) (leftL x has a) K ((zdP x has a).1.length+1) false 0=K false ((zdP x has a).1.length:Int):=by
 obtain⟨h3,h4,h5⟩:=zgQ h2
 obtain⟨r1,r2,r3,r4,r5⟩:=zhe h3
 have hle:=zf2 x has a
 have hsl:(zfM x has (leftL x has a)).length=(leftL x has a).length:=by simp[zfM]
 rw[zbs (n:=(zdP x has a).1.length) (g:=fun _=>true) (r0:=some false) (Z:=K false ((zdP x has a).1.length:Int)) (f:=fun m i=>zeF (x,has,a) (zdP x has a) (zdP x has a) (leftL x has a) K m false i) (fun m i hi=>by
  rw[h5,hsl]at hi
  have hz:(leftL x has a)[i]? =some (leftL x has a)[i]:=aB hi
  have hzm:=List.getElem_mem hi
  have hrg:=ziU hzm
  have hgx:x.Commits[(leftL x has a)[i].toNat]? =some (x.Commits[(leftL x has a)[i].toNat]'(by omega)):=aB _
  have hcb:CB (x.Commits.getD (leftL x has a)[i].toNat noCommit):=by rw[zbF hgx];exact hb.cat hgx
  have hsC:(zdP x has a).1[i]? =some (zim has (leftL x has a) (x.Commits.getD (leftL x has a)[i].toNat noCommit)):=by
   rw[h5]
   unfold zfM
   rw[List.getElem?_map,hz]
   rfl
  have hps:=zar r1 (i:=(leftL x has a)[i].toNat) (by omega)
  have hall:=List.all_eq_true.1 h4 _ hzm
  unfold zdd at hall
  rw[List.all_eq_true]at hall
  simp only[zeF,jn,zah hsC,zae hz,zae hsC,aD,aA,zaN hrg.1 hrg.2,zjd (znh hcb has (leftL x has a)),aO,aK,aC,zak]
  have e1:(zim has (leftL x has a) (x.Commits.getD (leftL x has a)[i].toNat noCommit)).Who=(x.Commits.getD (leftL x has a)[i].toNat noCommit).Who:=rfl
  have e2:(zim has (leftL x has a) (x.Commits.getD (leftL x has a)[i].toNat noCommit)).Tree=(x.Commits.getD (leftL x has a)[i].toNat noCommit).Tree:=rfl
  have e3:(zim has (leftL x has a) (x.Commits.getD (leftL x has a)[i].toNat noCommit)).Parents.length=(x.Commits.getD (leftL x has a)[i].toNat noCommit).Parents.length:=by simp[zim]
  rw[e1,e2,e3,bne_self_eq_false,aC,zgk hcb.tree,aA,aO,aK,aC,bne_self_eq_false,aC]
  rw[zbs (n:=(zaa x (leftL x has a)[i].toNat).length) (g:=fun _=>true) (r0:=some false) (Z:=zeF (x,has,a) (zdP x has a) (zdP x has a) (leftL x has a) K m false (w64 ((i:Int)+1))) (f:=fun m' k=>zg5 (x,has,a) (zdP x has a) (leftL x has a) (i:Int) (x.Commits.getD (leftL x has a)[i].toNat noCommit) _ m' false k) (fun m' k hk=>by
   have hq:(zaa x (leftL x has a)[i].toNat)[k]? =some (zaa x (leftL x has a)[i].toNat)[k]:=aB hk
   have hqm:=List.getElem_mem hk
   have hq2:(x.Commits.getD (leftL x has a)[i].toNat noCommit).Parents[k]? =some (zaa x (leftL x has a)[i].toNat)[k]:=hq
   have hq3:(zim has (leftL x has a) (x.Commits.getD (leftL x has a)[i].toNat noCommit)).Parents[k]? =some (zd1 has (leftL x has a) (zaa x (leftL x has a)[i].toNat)[k]):=by
    show((zaa x (leftL x has a)[i].toNat).map _)[k]? =_
    rw[List.getElem?_map,hq]
    rfl
   have hlow:=hps.2 _ hqm
   have hok:=hall _ hqm
   simp only[zg5,jn,zah hq2,zae hq2,zae hq3,zae hsC,aD,aA]
   cases hin:zcF (leftL x has a) (zaa x (leftL x has a)[i].toNat)[k]with
   |true=>
    have hm:=zaE.1 hin
    obtain⟨p0,p1,p2,p3⟩:=zbp hm
    have hlt:=zjm (zg1 x has a) hm hzm (by omega)
    rw[zhH (zg1 x has a) hi]at hlt
    have es:zd1 has (leftL x has a) (zaa x (leftL x has a)[i].toNat)[k]=plI (leftL x has a) (zaa x (leftL x has a)[i].toNat)[k]:=by unfold zd1;rw[hin];rfl
    have eg:gi (leftL x has a) (plI (leftL x has a) (zaa x (leftL x has a)[i].toNat)[k])=some (zaa x (leftL x has a)[i].toNat)[k]:=by
     have:=zae (aB p2)
     rw[p3,show(((plI (leftL x has a) (zaa x (leftL x has a)[i].toNat)[k]).toNat:Nat):Int)=plI (leftL x has a) (zaa x (leftL x has a)[i].toNat)[k] by omega]at this
     exact this
    simp only[es,aE (show ¬ ((i:Int)<=plI (leftL x has a) (zaa x (leftL x has a)[i].toNat)[k]) by omega),aC,aF p0,aD,eg,aA,bne_self_eq_false,aE (show ¬ (plI (leftL x has a) (zaa x (leftL x has a)[i].toNat)[k]<0) by omega),zac hk (show(zaa x (leftL x has a)[i].toNat).length<=maxi by unfold maxi;omega)]
   |false=>
    have hm:(zaa x (leftL x has a)[i].toNat)[k]∈has:=by
     unfold zd4 at hok
     rw[hin,Bool.false_or]at hok
     exact zaE.1 hok
    obtain⟨p0,p1,p2,p3⟩:=zbp hm
    have es:zd1 has (leftL x has a) (zaa x (leftL x has a)[i].toNat)[k] = -1-plI has (zaa x (leftL x has a)[i].toNat)[k]:=by unfold zd1;rw[hin];rfl
    have eg:gi has (plI has (zaa x (leftL x has a)[i].toNat)[k])=some (zaa x (leftL x has a)[i].toNat)[k]:=by
     have:=zae (aB p2)
     rw[p3,show(((plI has (zaa x (leftL x has a)[i].toNat)[k]).toNat:Nat):Int)=plI has (zaa x (leftL x has a)[i].toNat)[k] by omega]at this
     exact this
    have ew:w64 (-1-(-1-plI has (zaa x (leftL x has a)[i].toNat)[k]))=plI has (zaa x (leftL x has a)[i].toNat)[k]:=by rw[zai (by omega) (by omega)];omega
    simp only[es,aE (show ¬ ((i:Int) <= -1-plI has (zaa x (leftL x has a)[i].toNat)[k]) by omega),aC,aE (show ¬ ((0:Int) <= -1-plI has (zaa x (leftL x has a)[i].toNat)[k]) by omega),aF (show -1-plI has (zaa x (leftL x has a)[i].toNat)[k]<0 by omega),aD,ew,eg,aA,bne_self_eq_false,zac hk (show(zaa x (leftL x has a)[i].toNat).length<=maxi by unfold maxi;omega)]) (fun m'=>by
     simp only[zg5,show(x.Commits.getD (leftL x has a)[i].toNat noCommit).Parents=zaa x (leftL x has a)[i].toNat from rfl,zad,aC]) _ (by show _< (zaa x (leftL x has a)[i].toNat).length+1;omega),zaC.2 (fun _ _ _=>rfl),aD,zac hi (show(leftL x has a).length<=maxi by unfold maxi;omega)]) (fun m=>by simp only[zeF,zad,aC]) _ (by omega),zaC.2 (fun _ _ _=>rfl),aD]
theorem zqL {code:List Byte}(h:Bk.fit code):zll code=some true:=by
 unfold zll
 by_cases hc:(1048576:Int)< (code.length:Int)
 ·rw[aF hc];rfl
 obtain⟨x,has,a,e,hx,hl⟩:=zov (code:=code) (by omega)
 have hb:=hx.rb
 have hcm:=hx.coms
 rw[aE hc,aC,e,aA]
 simp only[zfj,zmc hb (show has.length<=1000 by omega),znC hb (show has.length<=1000 by omega),zoO hb (show has.length<=1000 by omega),zoN hb (show has.length<=1000 by omega),aA,jn,bne_self_eq_false,aO,aC,aD]
 cases h2:(zdP x has a).2 with
 |false=>rfl
 |true=>
  obtain⟨h3,h4,h5⟩:=zgQ h2
  obtain⟨r1,r2,r3,r4,r5⟩:=zhe h3
  have hle:=zf2 x has a
  have eL:zlk x has a=leftL x has a:=by unfold zlk;rw[r1,r2,r3];rfl
  have eM:zqa x has a=((leftL x has a).length:Int):=by unfold zqa;rw[h3];rfl
  have hsl:(zfM x has (leftL x has a)).length=(leftL x has a).length:=by simp[zfM]
  simp only[aK,aC,zpp hb (show has.length<=1000 by omega),eL,aA,zak]
  rw[zqb hb hl hcm h2,h5,hsl,eM,aO,aD]
structure SentB (sent:List Commit):Prop where
 len:sent.length<=16
 cb: ∀ c∈sent,CB c
 fit: ∀ c∈sent,∀ p∈c.Parents,zhs p
theorem SentB.take {sent:List Commit}(h:SentB sent)(k:Nat):SentB (sent.take k):=
 ⟨Nat.le_trans (List.length_take_le' k sent) h.len,fun c hc=>h.cb c (List.mem_of_mem_take hc),fun c hc=>h.fit c (List.mem_of_mem_take hc)⟩
theorem SentB.set {sent:List Commit}(h:SentB sent){c:Commit}(hc:CB c)(hf: ∀ p∈c.Parents,zhs p)(k:Nat):SentB (sent.set k c):=
 ⟨by rw[List.length_set];exact h.len,fun d hd=>by
  rcases List.mem_or_eq_of_mem_set hd with q |q
  ·exact h.cb d q
  ·rw[q];exact hc,fun d hd=>by
  rcases List.mem_or_eq_of_mem_set hd with q |q
  ·exact h.fit d q
  ·rw[q];exact hf⟩
section
variable {x:Repo}(hr:repoB x=true){a b:Int}(ha:upB x.Commits.length a=true)(hb:upB x.Commits.length b=true)
include hr ha
include hb
end
theorem zdg {α:Type}{f:α->Nat}{c:Nat}: ∀ {t:List α},(∀ s∈t,f s<=c)->zc5 f t<=c*t.length
 | [],_=>by simp[zc5]
 |x::t,h=>by
  have h1:=h x (by simp)
  have h2:=zdg (t:=t) (fun s hs=>h s (by simp[hs]))
  simp only[zc5,aL,Nat.mul_add,Nat.mul_one]
  omega
theorem zlV {t:List Str}(h:zao t=true):Bk.bulk t<=130:=by
 have hl:=zaI h
 have hs:zc5 Bk.bulk t<=12*t.length:=zdg fun s hs=>by
  have:=zht (zbe h s hs)
  show s.length<=12
  omega
 show t.length+zc5 Bk.bulk t<=130
 omega
theorem zlW {t:List File}(h:zaq t=true):Bk.bulk t<=1208:=by
 have hl:=zaH h
 have hs:zc5 Bk.bulk t<=150*t.length:=zdg fun f hf=>by
  have h1:=zcN (zbU h hf)
  have h2:=zlV (zaB h f hf)
  show f.Path.length+Bk.bulk f.Text<=150
  omega
 show t.length+zc5 Bk.bulk t<=1208
 omega
theorem zmB {r:Repo}(h:repoB r=true){c:Commit}(hc:c∈r.Commits):c.Parents.length<=2/\(∀ p∈c.Parents,0<=p/\p<=16)/\zav c.Who=true/\zaq c.Tree=true:=by
 obtain⟨i,hi⟩:=List.mem_iff_getElem?.1 hc
 have hil:=zan hi
 have s1:=(zab h).1
 have:=zeu h (i:=i) (by omega)
 rw[zbF hi]at this
 unfold zjL at this
 simp only[aG,decide_eq_true_eq,List.all_eq_true]at this
 refine⟨by omega,fun p hp=>?_,this.2.2.2.1,this.2.2.2.2⟩
 have h1:=this.1 p hp
 unfold upB at h1
 simp only[aG,decide_eq_true_eq]at h1
 omega
theorem zlX {r:Repo}(h:repoB r=true):Bk.bulk r<=20000:=by
 obtain⟨s1,s2⟩:=zab h
 have h1:zc5 Bk.bulk r.Commits<=1218*r.Commits.length:=zdg fun c hc=>by
  obtain⟨c1,_,c3,c4⟩:=zmB h hc
  have:=zbj c3
  have:=zlW c4
  have hp:zc5 Bk.bulk c.Parents<=0*c.Parents.length:=zdg fun p hp=>Nat.le_refl 0
  show c.Parents.length+zc5 Bk.bulk c.Parents+(c.Who.length+Bk.bulk c.Tree)<=1218
  omega
 have h2:zc5 Bk.bulk r.Heads<=6*r.Heads.length:=zdg fun x hx=>by
  have:=zbj (zc3 h hx).2.2
  show x.Name.length+0<=6
  omega
 show r.Commits.length+zc5 Bk.bulk r.Commits+(r.Heads.length+zc5 Bk.bulk r.Heads)<=20000
 omega
theorem zlY {t:List File}(h:zaq t=true):Bk.fit t:=⟨by have:=zaH h;unfold maxi;omega,fun f hf=>⟨by have:=zcN (zbU h hf);show f.Path.length<=maxi;unfold maxi;omega,by
 have h1:=zaB h f hf
 have h2:=zaI h1
 exact zfF (by omega) (zbe h1)⟩⟩
theorem zlZ {r:Repo}(h:repoB r=true):Bk.fit r:=by
 obtain⟨s1,s2⟩:=zab h
 refine⟨⟨by unfold maxi;omega,fun c hc=>?_⟩,by unfold maxi;omega,fun x hx=>?_⟩
 ·obtain⟨c1,c2,c3,c4⟩:=zmB h hc
  refine⟨⟨by unfold maxi;omega,fun p hp=>?_⟩,by have:=zbj c3;show c.Who.length<=maxi;unfold maxi;omega,zlY c4⟩
  have:=c2 p hp
  show -9223372036854775808<=p/\p<=9223372036854775807
  omega
 ·obtain⟨h1,h2,h3⟩:=zc3 h hx
  refine⟨by have:=zbj h3;show x.Name.length<=maxi;unfold maxi;omega,?_⟩
  show -9223372036854775808<=x.At/\x.At<=9223372036854775807
  omega
theorem zgj.lt {l:List Int}(h:zgj l){i k:Nat}(hik:i<k)(hk:k<l.length):l.getD i 0<l.getD k 0:=by
 have h1:i<l.length:=by omega
 have:=List.pairwise_iff_getElem.1 h i k h1 hk hik
 rw[zci (aB h1),zci (aB hk)]
 exact this
theorem zgj.inj {l:List Int}(h:zgj l){i k:Nat}(hi:i<l.length)(hk:k<l.length)(e:l.getD i 0=l.getD k 0):i=k:=by
 rcases Nat.lt_trichotomy i k with h1 |h1 |h1
 ·have:=h.lt h1 hk;omega
 ·exact h1
 ·have:=h.lt h1 hi;omega
section
variable {r:Repo}(h:RpB r)(hr:repoB r=true)
include h hr
end
def zol (r:Repo)(n:Str)(x:Repo):Prop:=x=r\/x=za5\/repoB x=true
theorem zol.bulk {r x:Repo}{n:Str}(h:zol r n x):Bk.bulk x<=Bk.bulk r+20000:=by
 rcases h with h |h |h
 ·rw[h];omega
 ·rw[h];show 0+0+(0+0)<=_;omega
 ·have:=zlX h;omega
theorem zol.fit {r x:Repo}{n:Str}(hf:Bk.fit r)(h:zol r n x):Bk.fit x:=by
 rcases h with h |h |h
 ·rw[h];exact hf
 ·rw[h];exact⟨⟨by simp[za5,maxi],by simp[za5]⟩,by simp[za5,maxi],by simp[za5]⟩
 ·exact zlZ h
def ChH:Int->List Hunk->Prop
 |_,[]=>True
 |lo,d::l=>lo<=d.At/\ChH (d.At+d.Less.length+1) l
theorem ChH.mono: ∀ {l:List Hunk} {lo lo':Int},lo'<=lo->ChH lo l->ChH lo' l
 | [],_,_,_,_=>trivial
 |d::l,_,_,h,⟨h1,h2⟩=>⟨Int.le_trans h h1,h2⟩
def zlt:List Str->List Str->Nat
 |a::l,b::m=>bif a==b then zlt l m+1 else 0
 |_,_=>0
def zrb (t:List Str):List Str->Nat->Nat×Nat->Nat×Nat
 | [],_,r=>r
 |b::bs,i,r=>zrb t bs (i+1) (bif decide (r.2<zlt (b::bs) t) then(i,zlt (b::bs) t) else r)
def znS (base t:List Str):Nat×Nat:=zrb t base 0 (0,0)
def zn5 (out:List Delta)(x:Str):List Delta:=match out.getLast? with
 |some d=>bif decide (0<d.Lines.length) then out.dropLast++[⟨d.From,d.Many,d.Lines++[x]⟩] else out++[⟨0,0,[x]⟩]
 |none=>out++[⟨0,0,[x]⟩]
def ziQ (base:List Str):Nat->List Delta->List Str->List Delta
 |0,out,_=>out
 |_+1,out,[]=>out
 |n+1,out,x::t=>bif decide (0< (znS base (x::t)).2) then ziQ base n (out++[⟨(znS base (x::t)).1,(znS base (x::t)).2,[]⟩]) ((x::t).drop (znS base (x::t)).2) else ziQ base n (zn5 out x) t
def zlc (base t:List Str):List Delta:=ziQ base t.length [] t
def OD (n:Nat)(l:List Owner):Prop:=l.length<=n /\ ∀ o∈l,o.Path.length<=10/\o.Who.length<=10
theorem OD.fit {n:Nat}{l:List Owner}(h:OD n l)(hn:n<=1000):Bk.fit l:=⟨by have:=h.1;unfold maxi;omega,fun o ho=>by
 have:=h.2 o ho
 exact⟨by show o.Path.length<=maxi;unfold maxi;omega,by show o.Who.length<=maxi;unfold maxi;omega⟩⟩
section
variable {base t:List Str}(hb:zao base=true)(ht:zao t=true)
include hb ht
end
def zp0 (list:List (List Str))(ds:List Int)(i:Nat)(t:List Str)(b dep:Int)(d:List Delta):Prop:=(b = -1/\d=zlc [] t/\dep=1) \/ ∃ k o dk,k<i/\b=(k:Int)/\list[k]? =some o/\ds[k]? =some dk/\d=zlc o t/\dep=dk+1/\dk<=2
theorem zp0.snoc {list:List (List Str)}{ds:List Int}{i:Nat}{t:List Str}{b dep z:Int}{d:List Delta}(h:zp0 list ds i t b dep d):zp0 list (ds++[z]) i t b dep d:=by
 rcases h with h |⟨k,o,dk,h1,h2,h3,h4,h5⟩
 ·exact .inl h
 ·exact .inr ⟨k,o,dk,h1,h2,h3,by rw[aM (List.getElem?_eq_some_iff.1 h4).1];exact h4,h5⟩
section
variable {list:List (List Str)}(h12:list.length<=12)(hl: ∀ t∈list,zao t=true)
include h12 hl
end
end Go.Vm
