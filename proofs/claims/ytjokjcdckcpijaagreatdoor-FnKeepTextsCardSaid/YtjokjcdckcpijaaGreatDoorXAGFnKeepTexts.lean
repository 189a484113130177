/- Plain law FnKeepTexts, and what it uses: what the models answer. Conditions: each law's own premises. -/
import Derived.Test.YtjokjcdckcpijaaGreatDoorXAGFnKeepTextsa
namespace Go.Vm
open Go Go.Sx
set_option linter.unusedSimpArgs false
set_option linter.unusedVariables false
set_option linter.unusedSectionVars false
def zfT (s:List (List Str))(f:File):List (List Str):=bif s.any (fun t=>t==f.Text) then s else s++[f.Text]
def zgh (s:List (List Str))(c:Commit):List (List Str):=c.Tree.foldl zfT s
def textsK (r:Repo):List (List Str):=r.Commits.foldl zgh []
theorem zgZ: ∀ (fs:List File) (s:List (List Str)),s.Pairwise (· ≠ ·)->(fs.foldl zfT s).Pairwise (· ≠ ·)/\(∀ t∈s,t∈fs.foldl zfT s)/\(∀ f∈fs,f.Text∈fs.foldl zfT s) /\ ∀ t∈fs.foldl zfT s,t∈s \/ ∃ f∈fs,t=f.Text
 | [],s,h=>⟨h,fun t ht=>ht,fun f hf=>by simp at hf,fun t ht=> .inl ht⟩
 |f::fs,s,h=>by
  have h1:(zfT s f).Pairwise (· ≠ ·)/\(∀ t∈s,t∈zfT s f)/\f.Text∈zfT s f /\ ∀ t∈zfT s f,t∈s\/t=f.Text:=by
   unfold zfT
   cases ha:s.any (fun t=>t==f.Text)with
   |true=>
    obtain⟨t,ht,e⟩:=List.any_eq_true.1 ha
    have e':t=f.Text:=by simpa using e
    exact⟨h,fun t ht=>ht,by rw[<- e'];exact ht,fun t ht=> .inl ht⟩
   |false=>
    refine⟨List.pairwise_append.2 ⟨h,by simp,fun t ht u hu=>?_⟩,fun t ht=>by simp[ht],by simp,fun t ht=>?_⟩
    ·rw[List.mem_singleton.1 hu]
     intro e
     have:=List.any_eq_false.1 ha t ht
     rw[e]at this
     simp at this
    ·rcases List.mem_append.1 ht with h2 |h2
     ·exact .inl h2
     ·exact .inr (List.mem_singleton.1 h2)
  obtain⟨q1,q2,q3,q4⟩:=zgZ fs (zfT s f) h1.1
  rw[List.foldl_cons]
  refine⟨q1,fun t ht=>q2 t (h1.2.1 t ht),fun g hg=>?_,fun t ht=>?_⟩
  ·rcases List.mem_cons.1 hg with e |e
   ·rw[e];exact q2 _ h1.2.2.1
   ·exact q3 g e
  ·rcases q4 t ht with h2 |⟨g,hg,e⟩
   ·rcases h1.2.2.2 t h2 with h3 |h3
    ·exact .inl h3
    ·exact .inr ⟨f,by simp,h3⟩
   ·exact .inr ⟨g,by simp[hg],e⟩
theorem zhx: ∀ (cs:List Commit) (s:List (List Str)),cs.foldl zgh s=(cs.flatMap fun c=>c.Tree).foldl zfT s
 | [],s=>rfl
 |c::cs,s=>by rw[List.foldl_cons,zhx cs,List.flatMap_cons,List.foldl_append];rfl
theorem zhh (s:List (List Str))(f:File):(zfT s f).length<=s.length+1:=by
 unfold zfT
 cases s.any (fun t=>t==f.Text)<;>simp
theorem zgi {s:List (List Str)}{f:File}(hs: ∀ t∈s,zao t=true)(hf:zao f.Text=true): ∀ t∈zfT s f,zao t=true:=by
 unfold zfT
 cases s.any (fun t=>t==f.Text)with
 |true=>exact hs
 |false=>
  intro t ht
  rcases List.mem_append.1 ht with h |h
  ·exact hs t h
  ·rw[List.mem_singleton.1 h];exact hf
theorem zhy: ∀ (fs:List File) (s:List (List Str)),(fs.foldl zfT s).length<=s.length+fs.length
 | [],s=>by simp
 |f::fs,s=>by
  have h1:=zhy fs (zfT s f)
  have h2:=zhh s f
  rw[List.foldl_cons,aL]
  omega
theorem zfv: ∀ (fs:List File) (s:List (List Str)),(∀ t∈s,zao t=true)->(∀ f∈fs,zao f.Text=true) -> ∀ t∈fs.foldl zfT s,zao t=true
 | [],s,hs,_=>hs
 |f::fs,s,hs,hf=>zfv fs (zfT s f) (zgi hs (hf f (by simp))) (fun g hg=>hf g (by simp[hg]))
theorem zkA {s:List (List Str)}{f:File}(hs:s.length<=1000)(ht: ∀ t∈s,t.length<=1000): ∀ (k i m:Nat) (c:Int),i+k=s.length->k<m -> ∃ z,zab s f (fun _ _=>some (-1)) m c (i:Int)=some z/\decide (0<=z)=(s.drop i).any fun t=>t==f.Text
 |k,i,0,_,_,hm=>by omega
 |0,i,m+1,c,hi,_=>by
  obtain rfl:i=s.length:=by omega
  exact⟨-1,by simp only[zab,zai,aC],by simp⟩
 |k+1,i,m+1,c,hi,hm=>by
  have hlt:i<s.length:=by omega
  have hx:s[i]? =some s[i]:=aB hlt
  have hl:=ht _ (List.getElem_mem hlt)
  have e1:zbO s[i] ⟨f.Path,f.Text⟩=some (s[i]==f.Text):=by
   unfold zbO
   rw[zkE (show s[i].length<=maxi by unfold maxi;omega)]
   rfl
  simp only[zab,zat hx,zaf hx,aD,aA,zag hlt (show s.length<=maxi by unfold maxi;omega),e1]
  rw[aI hlt,List.any_cons]
  cases s[i]==f.Text with
  |true=>exact⟨(i:Int),rfl,by simp⟩
  |false=>exact zkA hs ht k (i+1) m c (by omega) (by omega)
theorem zn2 {s:List (List Str)}{f:File}(hs:s.length<=1000)(ht: ∀ t∈s,t.length<=1000):zad s f=some (s.any fun t=>t==f.Text):=by
 unfold zad zan
 simp only[jn,zaA]
 obtain⟨z,h1,h2⟩:=zkA (f:=f) hs ht s.length 0 (s.length+1) 0 (by omega) (by omega)
 have h1':zab s f (fun _ _=>some (-1)) (s.length+1) 0 0=some z:=h1
 rw[h1',aA,h2,List.drop_zero]
def zgj (r:Repo):List (List Str)×Bool:=bif zac r then(bif decide ((12:Int)< ((textsK r).length:Int)) then([],false) else(textsK r,true)) else([],false)
section
variable {r:Repo}(h:RpB r)(hr:zac r=true)
include h hr
theorem zgk {c:Commit}{i:Nat}(hc:r.Commits[i]? =some c):zay c.Tree=true/\TB c.Tree/\c.Tree.length<=8:=by
 obtain⟨t1,t2,_,t4⟩:=(⟨h,hr,fun e=>e.elim⟩:Gd False r).tree (i:=i) (zaP hc)
 unfold zal at t1 t2 t4
 rw[zdf hc]at t1 t2 t4
 exact⟨t2,t1,t4⟩
theorem zhz {c:Commit}{i:Nat}{s:List (List Str)}(hc:r.Commits[i]? =some c)(h1:s.length<=8*i)(h2: ∀ t∈s,zao t=true):(zgh s c).length<=8*(i+1) /\ ∀ t∈zgh s c,zao t=true:=by
 obtain⟨t1,t2,t3⟩:=zgk h hr hc
 have:=zhy c.Tree s
 exact⟨by unfold zgh;omega,zfv c.Tree s h2 (zax t1)⟩
theorem zmd:zbn r=some (zgj r):=by
 have hs:=(zah hr).1
 unfold zbn zgj
 rw[zhI h,aA,hr,aK,aC,aD]
 simp only[jn,zaA]
 have:=(zcq (xs:=r.Commits) (g:=zgh) (I:=fun i (s:List (List Str))=>s.length<=8*i /\ ∀ t∈s,zao t=true) (Z:=fun a=>bif decide ((12:Int)< (a.length:Int)) then some (([]:List (List Str)),false) else some (a,true)) (f:=fun m s i=>zba r (fun a _=>bif decide ((12:Int)< (a.length:Int)) then some (([]:List (List Str)),false) else some (a,true)) m s i) (s:=[]) ⟨by simp,by simp⟩ (fun m i c s hc ⟨h1,h2⟩=>by
  have hi:=zaP hc
  obtain⟨t1,t2,t3⟩:=zgk h hr hc
  refine⟨?_,zhz h hr hc h1 h2⟩
  have inner: ∀ Z:List (List Str)->Int->Option (List (List Str)×Bool),(∀ s z z',Z s z=Z s z')->zaU c Z (c.Tree.length+1) s 0=Z (zgh s c) 0:=fun Z hZ=>by
   have:=(zcq (xs:=c.Tree) (g:=zfT) (I:=fun j (u:List (List Str))=>u.length<=8*i+j /\ ∀ t∈u,zao t=true) (Z:=fun u=>Z u 0) (f:=fun m u j=>zaU c Z m u j) (s:=s) ⟨by omega,h2⟩ (fun m j f u hf ⟨u1,u2⟩=>by
    have hj:=zaP hf
    have hft:=zax t1 f (aH hf)
    have hfl:=zaj hft
    refine⟨?_,by have:=zhh u f;omega,zgi u2 hft⟩
    simp only[zaU,jn,zat hf,zaf hf,aD,aA,zag hj t2.maxi,zn2 (f:=f) (show u.length<=1000 by omega) (fun t ht=>by have:=zaj (u2 t ht);omega),ziB (show f.Text.length<=1048576 by omega),ap1 (x:=f.Text) (show u.length<=1048576 by omega)]
    unfold zfT
    cases u.any (fun t=>t==f.Text)<;>rfl) (fun m u _=>by simp only[zaU,zai,aC];exact hZ _ _ _)).1
   exact this
  simp only[zba,jn,zat hc,zaf hc,aD,aA,zag hi (show r.Commits.length<=maxi by unfold maxi;omega),zaA]
  exact inner _ (fun _ _ _=>rfl)) (fun m s _=>by simp only[zba,zai,aC])).1
 refine this.trans ?_
 unfold textsK
 cases decide ((12:Int)< ((r.Commits.foldl zgh []).length:Int))<;>rfl
theorem zme:zbo r=some (zgj r):=by
 have hs:=(zah hr).1
 unfold zbo zgj
 rw[zcX h,aA,hr,aK,aC,aD]
 simp only[jn,zaA]
 have:=(zcq (xs:=r.Commits) (g:=zgh) (I:=fun i (s:List (List Str))=>s.length<=8*i /\ ∀ t∈s,zao t=true) (Z:=fun a=>bif decide ((12:Int)< (a.length:Int)) then some (([]:List (List Str)),false) else some (a,true)) (f:=fun m s i=>zbb r (fun a _=>bif decide ((12:Int)< (a.length:Int)) then some (([]:List (List Str)),false) else some (a,true)) m s i) (s:=[]) ⟨by simp,by simp⟩ (fun m i c s hc ⟨h1,h2⟩=>by
  have hi:=zaP hc
  obtain⟨t1,t2,t3⟩:=zgk h hr hc
  refine⟨?_,zhz h hr hc h1 h2⟩
  have inner: ∀ Z:List (List Str)->Int->Option (List (List Str)×Bool),(∀ s z z',Z s z=Z s z')->zaV r (i:Int) Z 100 s 0=Z (zgh s c) 0:=fun Z hZ=>by
   have:=(zfC (xs:=c.Tree) (g:=zfT) (I:=fun j (u:List (List Str))=>u.length<=8*i+j /\ ∀ t∈u,zao t=true) (Z:=fun u=>Z u 0) (f:=fun m u j=>zaV r (i:Int) Z m u j) (fun m j f u hf ⟨u1,u2⟩=>by
    have hj:=zaP hf
    have hft:=zax t1 f (aH hf)
    have hfl:=zaj hft
    refine⟨?_,by have:=zhh u f;omega,zgi u2 hft⟩
    have inn: ∀ Y:Bool->Int->Option (List (List Str)×Bool),(∀ s z z',Y s z=Y s z')->zaI u f Y (u.length+1) false 0=Y (u.any fun t=>t==f.Text) 0:=fun Y hY=>by
     have:=(zcq (xs:=u) (g:=fun d t=>d||(t==f.Text)) (I:=fun _ _=>True) (Z:=fun d=>Y d 0) (f:=fun m d k=>zaI u f Y m d k) (s:=false) trivial (fun m k t d ht _=>by
      have htl:=zaj (u2 t (aH ht))
      refine⟨?_,trivial⟩
      simp only[zaI,zat ht,zaf ht,aD,aA,zag (zaP ht) (show u.length<=maxi by unfold maxi;omega),zfd (show t.length<=maxi by unfold maxi;omega)]
      cases d<;>rfl) (fun m d _=>by simp only[zaI,zai,aC];exact hY _ _ _)).1
     rw[this,zhp,Bool.false_or]
    simp only[zaV,jn,zaf hc,aA,zat hf,zaf hf,aD,zag hj t2.maxi,zaA,apN (show f.Text.length<=1048576 by omega),ap1 (x:=f.Text) (show u.length<=1048576 by omega)]
    rw[inn _ (fun _ _ _=>rfl)]
    unfold zfT
    cases u.any (fun t=>t==f.Text)<;>rfl) (fun m u _=>by simp only[zaV,zaf hc,aA,zai,aC];exact hZ _ _ _) c.Tree.length 0 100 s (by omega) (by omega) ⟨by omega,h2⟩).1
   rw[List.drop_zero]at this
   exact this
  simp only[zbb,jn,zat hc,aD,zag hi (show r.Commits.length<=maxi by unfold maxi;omega)]
  exact inner _ (fun _ _ _=>rfl)) (fun m s _=>by simp only[zbb,zai,aC])).1
 refine this.trans ?_
 unfold textsK
 cases decide ((12:Int)< ((r.Commits.foldl zgh []).length:Int))<;>rfl
end
theorem zmf {r:Repo}(h:RpB r):zbn r=some (zgj r):=by
 cases hr:zac r with
 |true=>exact zmd h hr
 |false=>
  unfold zbn zgj
  rw[zhI h,aA,hr]
  rfl
theorem zmg {r:Repo}(h:RpB r):zbo r=some (zgj r):=by
 cases hr:zac r with
 |true=>exact zme h hr
 |false=>
  unfold zbo zgj
  rw[zcX h,aA,hr]
  rfl
theorem zfU {code:List Byte}(h:code.length<=1048576): ∃ x,zbw code=some x/\Drawn x:=by
 obtain⟨b,e,hr⟩:=zsK h
 obtain⟨x,q,e2,hx,r2⟩:=zjV hr (by omega)
 unfold zbw
 simp only[e,aA,e2]
 exact⟨x,rfl,hx⟩
theorem ziw {code:List Byte}(h:Bk.fit code):zcR code=some true:=by
 unfold zcR
 by_cases hc:(1048576:Int)< (code.length:Int)
 ·rw[aF hc];rfl
 obtain⟨x,e,hx⟩:=zfU (code:=code) (by omega)
 have hb:=hx.rb
 rw[aE hc,aC,e,aA]
 simp only[zmx,zmf hb,zmg hb,aA,jn,bne_self_eq_false,aO,aC,aD]
 cases hk:(zgj x).2 with
 |false=>rfl
 |true=>
  have hf:zac x=true/\(textsK x).length<=12/\zgj x=(textsK x,true):=by
   unfold zgj at hk ⊢
   cases hr:zac x with
   |false=>rw[hr]at hk;cases hk
   |true=>
    rw[hr,aD]at hk
    rw[aD]
    cases hd:decide ((12:Int)< ((textsK x).length:Int))with
    |true=>rw[hd]at hk;cases hk
    |false=>
     have: ¬ (12:Int)< ((textsK x).length:Int):=by simpa using hd
     exact⟨rfl,by omega,rfl⟩
  obtain⟨hr,h12,ek⟩:=hf
  have hs:=(zah hr).1
  have hfl:textsK x=(x.Commits.flatMap fun c=>c.Tree).foldl zfT []:=zhx x.Commits []
  obtain⟨q1,_,q3,_⟩:=zgZ (x.Commits.flatMap fun c=>c.Tree) [] .nil
  have hall: ∀ t∈textsK x,zao t=true:=by
   rw[hfl]
   refine zfv _ [] (by simp) fun f hf=>?_
   obtain⟨c,hc,hfc⟩:=List.mem_flatMap.1 hf
   obtain⟨i,hi⟩:=List.mem_iff_getElem?.1 hc
   exact zax (zgk hb hr hi).1 f hfc
  have hin: ∀ {i k:Nat} {c:Commit} {f:File},x.Commits[i]? =some c->c.Tree[k]? =some f->f.Text∈textsK x:=fun hc hf=>by
   rw[hfl]
   exact q3 _ (List.mem_flatMap.2 ⟨_,aH hc,aH hf⟩)
  rw[<- hfl]at q1
  rw[ek]
  generalize textsK x=ls at*
  obtain⟨p,ds,ep,hp⟩:=ziU h12 hall
  have hpw:=List.pairwise_iff_getElem.1 q1
  simp only[aK,aC,ep,aA,zaA]
  rw[zbg (n:=ls.length) (g:=fun _=>true) (r0:=some false) (Z:=zak x (ls,true) (fun _ _=>some true) (x.Commits.length+1) false 0) (f:=fun m i=>zav (ls,true) (ls,true) p (fun i _=>zak x (ls,true) (fun _ _=>some true) (x.Commits.length+1) i 0) m false i) (fun m i hi=>by
   have hy:ls[i]? =some ls[i]:=aB hi
   have htl:=zaj (hall _ (List.getElem_mem hi))
   have hm:ls[i].length<=maxi:=by unfold maxi;omega
   simp only[zav,jn,zat hy,zaf hy,aD,aA,zjY h12 hall hp hy,zfx hm,aO,aK,aC,zag hi (show ls.length<=maxi by unfold maxi;omega),zaA]
   rw[zbg (n:=i) (g:=fun _=>true) (r0:=some false) (Z:=zav (ls,true) (ls,true) p (fun i _=>zak x (ls,true) (fun _ _=>some true) (x.Commits.length+1) i 0) m false ((i+1:Nat):Int)) (f:=fun m' k=>zaY (ls,true) (i:Int) (fun j _=>zav (ls,true) (ls,true) p (fun i _=>zak x (ls,true) (fun _ _=>some true) (x.Commits.length+1) i 0) m j ((i+1:Nat):Int)) m' false k) (fun m' k hk'=>by
    have hz:ls[k]? =some ls[k]:=aB (by omega)
    have hzl:=zaj (hall _ (List.getElem_mem (show k<ls.length by omega)))
    have hne:=hpw k i (by omega) hi hk'
    simp only[zaY,aF (show(k:Int)< (i:Int) by omega),aD,zaf hz,zaf hy,aA,zfx (show ls[k].length<=maxi by unfold maxi;omega),beq_false_of_ne hne,aC,zag (show k<ls.length by omega) (show ls.length<=maxi by unfold maxi;omega)]) (fun m'=>by simp only[zaY,zai,aC]) _ (by omega),zau.2 (fun _ _ _=>rfl),aD]) (fun m=>by simp only[zav,zai,aC]) _ (by omega),zau.2 (fun _ _ _=>rfl),aD]
  rw[zbg (n:=x.Commits.length) (g:=fun _=>true) (r0:=some false) (Z:=some true) (f:=fun m i=>zak x (ls,true) (fun _ _=>some true) m false i) (fun m i hi=>by
   have hc:x.Commits[i]? =some x.Commits[i]:=aB hi
   obtain⟨t1,t2,t3⟩:=zgk hb hr hc
   simp only[zak,jn,zat hc,aD,zag hi (show x.Commits.length<=maxi by unfold maxi;omega)]
   rw[zbg (n:=x.Commits[i].Tree.length) (g:=fun _=>true) (r0:=some false) (Z:=zak x (ls,true) (fun _ _=>some true) m false ((i+1:Nat):Int)) (f:=fun m' k=>zaZ x (ls,true) (i:Int) (fun j _=>zak x (ls,true) (fun _ _=>some true) m j ((i+1:Nat):Int)) m' false k) (fun m' k hk'=>by
    have hf:x.Commits[i].Tree[k]? =some x.Commits[i].Tree[k]:=aB hk'
    have hany:(ls.any fun t=>t==x.Commits[i].Tree[k].Text)=true:=List.any_eq_true.2 ⟨_,hin hc hf,by simp⟩
    have inn: ∀ Y:Bool->Int->Option Bool,(∀ s z z',Y s z=Y s z')->zaB x (ls,true) (i:Int) (k:Int) Y (ls.length+1) false 0=Y (ls.any fun t=>t==x.Commits[i].Tree[k].Text) 0:=fun Y hY=>by
     have:=(zcq (xs:=ls) (g:=fun d t=>d||(t==x.Commits[i].Tree[k].Text)) (I:=fun _ _=>True) (Z:=fun d=>Y d 0) (f:=fun m d j=>zaB x (ls,true) (i:Int) (k:Int) Y m d j) (s:=false) trivial (fun m j t d ht _=>by
      have htl:=zaj (hall t (aH ht))
      refine⟨?_,trivial⟩
      simp only[zaB,zat ht,zaf ht,zaf hc,zaf hf,aD,aA,zag (zaP ht) (show ls.length<=maxi by unfold maxi;omega),zfx (show t.length<=maxi by unfold maxi;omega)]
      cases d<;>rfl) (fun m d _=>by simp only[zaB,zai,aC];exact hY _ _ _)).1
     rw[this,zhp,Bool.false_or]
    simp only[zaZ,jn,zaf hc,aA,zat hf,aD,zaA,zag hk' t2.maxi]
    rw[inn _ (fun _ _ _=>rfl),hany]
    rfl) (fun m'=>by simp only[zaZ,zaf hc,aA,zai,aC]) _ (by omega),zau.2 (fun _ _ _=>rfl),aD]) (fun m=>by simp only[zak,zai,aC]) _ (by omega),zau.2 (fun _ _ _=>rfl),aD]
end Go.Vm
