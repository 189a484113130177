/- Plain law FnBlameOf, and what it uses: what the models answer. Conditions: each law's own premises. -/
import Derived.Test.YtpijdodljeieaaaGreatDoorAGFnBlameOfa
import Derived.Test.YtpijdodljeieaaaGreatDoorALw
namespace Go.Vm
open Go Go.Sx
set_option linter.unusedSimpArgs false
set_option linter.unusedVariables false
set_option linter.unusedSectionVars false
theorem zmA {t:List File}(h:TB t)(p:Str):ziz t p=some (getT t p):=by
 have hm:=h.maxi
 unfold ziz getT
 simp only[jn,zap]
 rw[zcf (p:=fun f:File=>f.Path==p) (xs:=t) (r:=fun f=>some (f.Text,true)) (Z:=some ([],false)) (f:=fun m k=>zfy t p _ m [] false k) (fun m i x hx=>by
  have hf:=h.at_ hx
  simp only[zfy,zam hx,zad hx,aD,aA,zgR hf.len,zac (zat hx) hm]) (fun m=>by simp only[zfy,zag,aC]) (by omega)]
 cases t.find? (fun f=>f.Path==p)<;>rfl
section
variable {r:Repo}(h:RpB r)(hr:zaa r=true){a:Nat}(ha:a<r.Commits.length)
include h hr ha
theorem zdd:TB (zaf r a)/\zar (zaf r a)=true/\zay (zaf r a):=by
 have ua:upB r.Commits.length (a:Int)=true:=zaK.2 (by omega)
 have ht:=zgv h ua
 rw[Int.toNat_natCast]at ht
 have:=zex hr ha
 unfold zi8 at this
 simp only[aG]at this
 exact⟨ht,this.2.2.2.2,zaB this.2.2.2.2⟩
theorem zln (p:Str):zaq (blT r p a)=true:=zbo (zdd h hr ha).2.2 p
theorem zcH (p:Str):(blT r p a).length<=10:=zaE (zln h hr ha p)
theorem zpJ (p:Str):Bk.fit (blT r p a):=(zi9 (zdd h hr ha).1 p).2
theorem zjb (p:Str):zgE (zaf r a) p=some (getT (zaf r a) p):=by
 obtain⟨t1,t2,t3⟩:=zdd h hr ha
 unfold zgE
 rw[ziC t1,t2,aA,aK,aC,zmA t1,aA]
end
theorem zjp {r:Repo}{p:Str}{a:Nat}(h:(getT (zaf r a) p).2=false):blT r p a=[]:=by
 unfold blT getT at*
 cases hf:(zaf r a).find? (fun f=>f.Path==p)with
 |none=>rfl
 |some f=>rw[hf]at h;cases h
theorem zmB {m by_:List Int}{i:Nat}{z:Int×Int}(h:(m.zip by_)[i]? =some z):m[i]? =some z.1/\by_[i]? =some z.2:=List.getElem?_zip_eq_some.1 h
theorem zn5 {d:List Int}{p:Int}(h0:0<=p)(h:p.toNat<d.length):gi d p=some (d.getD p.toNat 0):=by
 have:=zek (l:=d) h
 rwa [show((p.toNat:Nat):Int)=p by omega]at this
theorem zpx {out:List Int}{z:Int×Int}(h0:0<=z.1)(h1:z.1< (out.length:Int)):(∃ u,gi out z.1=some u)/\siM out z.1 z.2=some (ovS out z):=by
 have hl:z.1.toNat<out.length:=by omega
 refine⟨⟨_,zn5 h0 hl⟩,?_⟩
 have:=zc2 hl z.2
 rw[show((z.1.toNat:Nat):Int)=z.1 by omega]at this
 rw[this]
 unfold ovS
 rw[aF h0]
 rfl
theorem znk {out:List Int}{z:Int×Int}(h0: ¬ 0<=z.1):ovS out z=out:=by
 unfold ovS
 rw[aE h0]
 rfl
theorem zpy {m by_ out:List Int}(hl:m.length=by_.length)(hm:m.length<=1000)(hin: ∀ x∈m,x< (out.length:Int)){K:Int->List Int->Option (List Int)}:zcM by_ m K (m.length+1) 0 out=K (m.length:Int) (ovL out m by_):=by
 have hz:(m.zip by_).length=m.length:=by rw[List.length_zip];omega
 have e:=zjZ (xs:=m.zip by_) (g:=ovS) (I:=fun s=>s.length=out.length) (Z:=fun s=>K (m.length:Int) s) (f:=fun n i s=>zcM by_ m K n i s) (s:=out) rfl (fun n i z s hz' hs=>by
  obtain⟨h1,h2⟩:=zmB hz'
  have hix:=zat h1
  refine⟨?_,by rw[zkd];exact hs⟩
  simp only[zcM,jn,zam h1,zad h1,zad h2,aD,aA,zac hix (show m.length<=maxi by unfold maxi;omega)]
  by_cases h0:0<=z.1
  ·obtain⟨⟨u,e1⟩,e2⟩:=zpx h0 (by rw[hs];exact hin _ (aH h1))
   rw[aF h0,aD,e1,aA,e2,aA]
  ·rw[aE h0,aC,znk h0]) (fun n s _=>by
  rw[hz]
  simp only[zcM,zag,aC])
 rw[hz]at e
 exact e
theorem zpz {m:List Int}{out:List Int}{w:List Int×Bool}(hl:m.length=w.1.length)(hm:m.length<=1000)(hin: ∀ x∈m,x< (out.length:Int)){K:Int->List Int->Option (List Int×Bool)}:zaZ w m K (m.length+1) 0 out=K (m.length:Int) (ovL out m w.1):=by
 have hz:(m.zip w.1).length=m.length:=by rw[List.length_zip];omega
 have e:=zjZ (xs:=m.zip w.1) (g:=ovS) (I:=fun s=>s.length=out.length) (Z:=fun s=>K (m.length:Int) s) (f:=fun n i s=>zaZ w m K n i s) (s:=out) rfl (fun n i z s hz' hs=>by
  obtain⟨h1,h2⟩:=zmB hz'
  have hix:=zat h1
  refine⟨?_,by rw[zkd];exact hs⟩
  simp only[zaZ,jn,zam h1,zad h1,zad h2,aD,aA,zac hix (show m.length<=maxi by unfold maxi;omega)]
  by_cases h0:0<=z.1
  ·obtain⟨⟨u,e1⟩,e2⟩:=zpx h0 (by rw[hs];exact hin _ (aH h1))
   rw[aF h0,aD,e1,aA,e2,aA]
  ·rw[aE h0,aC,znk h0]) (fun n s _=>by
  rw[hz]
  simp only[zaZ,zag,aC])
 rw[hz]at e
 exact e
theorem zlo {a:Int}{w:List Str×Bool}(hw:w.1.length<=1000){K:List Int->Int->Option (List Int)}: ∀ (k i m:Nat),i+k=w.1.length->k<m->zeU a w K m (List.replicate i a) (i:Int)=K (List.replicate w.1.length a) (w.1.length:Int)
 |k,i,0,_,hm=>by omega
 |0,i,m+1,hi,_=>by
  obtain rfl:i=w.1.length:=by omega
  simp only[zeU,zag,aC]
 |k+1,i,m+1,hi,hm=>by
  have hlt:i<w.1.length:=by omega
  simp only[zeU]
  rw[aF (by omega),aD,ap1 (by simp;omega),aA,zac hlt (show w.1.length<=maxi by unfold maxi;omega),<- List.replicate_succ']
  exact zlo hw k (i+1) m (by omega) (by omega)
theorem zrY (a:Int)(k i:Nat):(List.replicate i a++List.replicate (k+1) (0:Int)).set i a=List.replicate (i+1) a++List.replicate k 0:=by
 have h:(List.replicate i a).length=i:=by simp
 rw[List.set_append_right _ _ (by rw[h];exact Nat.le_refl _),h,Nat.sub_self,List.replicate_succ,List.set_cons_zero,List.replicate_succ',List.append_assoc]
 rfl
theorem zlp {a:Int}{q:List Int}(hq:q.length<=1000){K:Int->List Int->Option (List Int×Bool)}: ∀ (k i m:Nat),i+k=q.length->k<m->zcG a q K m (i:Int) (List.replicate i a++List.replicate k 0)=K (q.length:Int) (List.replicate q.length a)
 |k,i,0,_,hm=>by omega
 |0,i,m+1,hi,_=>by
  obtain rfl:i=q.length:=by omega
  simp only[zcG,zag,aC,List.replicate_zero,List.append_nil]
 |k+1,i,m+1,hi,hm=>by
  have hlt:i<q.length:=by omega
  have hl:i< (List.replicate i a++List.replicate (k+1) (0:Int)).length:=by simp only[List.length_append,List.length_replicate];omega
  simp only[zcG]
  rw[aF (by omega),aD,zek hl,aA,zc2 hl,aA,zac hlt (show q.length<=maxi by unfold maxi;omega),zrY]
  exact zlp hq k (i+1) m (by omega) (by omega)
theorem znl {a b:List Str}: ∀ x∈mt2 a b,x< (b.length:Int):=fun x hx=>by
 obtain⟨i,hi⟩:=List.getElem?_of_mem hx
 have:=(zmq hi).2
 omega
theorem zhL {r:Repo}{a:Nat}(ha:a<r.Commits.length):gi r.Commits (a:Int)=some (r.Commits.getD a noCommit):=zhr ha
theorem zmm {r:Repo}{p:Str}{f a:Nat}(h:blT r p a=[]):blN r p f a=[]:=List.eq_nil_of_length_eq_zero (by rw[zd5,h];rfl)
theorem zky {r:Repo}{p:Str}{f a:Nat}{q:Int}{ps:List Int}(hp:zab r a=q::ps)(hq:blT r p q.toNat=[]):blN r p (f+1) a=List.replicate (blT r p a).length (a:Int):=by
 rw[zh7 hp,hq]
 unfold mt2 ovL
 rw[zgr]
 rfl
theorem zl0 {r:Repo}(h:RpB r)(hr:zaa r=true)(p:Str): ∀ (f a m:Nat),a<=f->a<r.Commits.length->f<m->spec_l11Of_r m r (a:Int) p=some (blN r p f a)
 |f,a,0,_,_,hm=>by omega
 |f,a,m+1,hf,ha,hm=>by
  obtain⟨t1,t2,t3⟩:=zdd h hr ha
  have hsm:=zcH h hr ha p
  simp only[spec_l11Of_r,zhL ha,aA]
  rw[show(r.Commits.getD a noCommit).Tree=zaf r a from rfl,zdX t1,aA]
  cases hg:(getT (zaf r a) p).2 with
  |false=>rw[Bool.not_false,aD,zmm (zjp hg)]
  |true=>
   rw[aK,aC]
   simp only[jn,zap]
   have e:=zlo (a:=(a:Int)) (w:=getT (zaf r a) p) (show(blT r p a).length<=1000 by omega) (K:=fun(y19:List Int) (y22:Int)=>
    bif((((r.Commits.getD a noCommit).Parents.length:Int):Int)==(0:Int)) then
     (some y19)
    else
     ((gi (r.Commits.getD a noCommit).Parents 0).bind fun u52=>
     (gi r.Commits u52).bind fun u54=>
     (Vm.zdU u54.Tree p).bind fun z59=>
     bif(!z59.2) then
      (some y19)
     else
      ((Vm.spec_l11Of_r m r u52 p).bind fun z69=>
      (Vm.zcj z59.1 (getT (zaf r a) p).1).bind fun z77=>
      zcM z69 z77 (fun(_:Int) (y85:List Int)=>some y85) (z77.length+1) 0 y19))) (blT r p a).length 0 ((blT r p a).length+1) (by show 0+(blT r p a).length=(blT r p a).length;omega) (by omega)
   refine e.trans ?_
   show(bif(((zab r a).length:Int)==(0:Int)) then some (List.replicate (blT r p a).length (a:Int)) else(gi (zab r a) 0).bind _)=_
   cases hp:zab r a with
   |nil=>rw[zjq hp];rfl
   |cons q ps=>
    obtain⟨p0,p1,p2,p3⟩:=zft hr ha hp
    obtain⟨q1,q2,q3⟩:=zdd h hr p2
    have hsq:=zcH h hr p2 p
    obtain⟨g,rfl⟩: ∃ g,f=g+1:=⟨f-1,by omega⟩
    have g0:gi (q::ps) 0=some q:=rfl
    have gq:gi r.Commits q=some (r.Commits.getD q.toNat noCommit):=by rw[<- p3];exact zhL p2
    rw[beq_false_of_ne (by simp only[aL];omega),aC,g0,aA,gq,aA,show(r.Commits.getD q.toNat noCommit).Tree=zaf r q.toNat from rfl,zdX q1,aA]
    cases hg2:(getT (zaf r q.toNat) p).2 with
    |false=>rw[Bool.not_false,aD,zky hp (zjp hg2)];rfl
    |true=>
     have ih:=zl0 h hr p g q.toNat m (by omega) p2 (by omega)
     rw[p3]at ih
     rw[aK,aC,ih,aA]
     show(zcj (blT r p q.toNat) (blT r p a)).bind _=_
     rw[zfn (by omega) (by omega),aA]
     obtain⟨_,hl⟩:=zdQ (blT r p q.toNat) (blT r p a)
     rw[zpy (by rw[hl,zd5]) (by rw[hl];omega) (by rw[List.length_replicate];exact znl),zh7 hp]
     rfl
theorem zlq {r:Repo}(h:RpB r)(hr:zaa r=true)(p:Str): ∀ (f a m:Nat),a<=f->a<r.Commits.length->f<m->impl_Repo_blame_r m r (a:Int) p=some (blN r p f a,(getT (zaf r a) p).2)
 |f,a,0,_,_,hm=>by omega
 |f,a,m+1,hf,ha,hm=>by
  obtain⟨t1,t2,t3⟩:=zdd h hr ha
  have ua:upB r.Commits.length (a:Int)=true:=zaK.2 (by omega)
  have hsm:=zcH h hr ha p
  have et:=zke h hr ua
  rw[Int.toNat_natCast]at et
  simp only[impl_Repo_blame_r,et,aA,zmA t1]
  cases hg:(getT (zaf r a) p).2 with
  |false=>rw[Bool.not_false,aD,zmm (zjp hg)]
  |true=>
   rw[aK,aC]
   show(mkM ((blT r p a).length:Int) (0:Int)).bind _=_
   rw[zjw (by unfold lim;omega),aA]
   simp only[jn,zap]
   have e:=zlp (a:=(a:Int)) (q:=List.replicate (blT r p a).length 0) (by rw[List.length_replicate];omega) (K:=fun(_:Int) (y25:List Int)=>
    (Vm.zdi r (a:Int)).bind fun z44=>
    bif decide ((z44:Int)< (0:Int)) then
     (some (y25,true))
    else
     ((Vm.impl_Repo_blame_r m r z44 p).bind fun z54=>
     bif(!z54.2) then
      (some (y25,true))
     else
      ((Vm.zbK r z44).bind fun z64=>
      (Vm.ziz z64 p).bind fun z73=>
      (Vm.zfQ z73.1 (getT (zaf r a) p).1).bind fun z81=>
      zaZ z54 z81 (fun(_:Int) (y93:List Int)=>some (y93,true)) (z81.length+1) 0 y25))) (blT r p a).length 0 ((List.replicate (blT r p a).length (0:Int)).length+1) (by rw[List.length_replicate];omega) (by rw[List.length_replicate];omega)
   refine e.trans ?_
   rw[List.length_replicate,zkC hr ha,aA]
   cases hp:zab r a with
   |nil=>
    simp only
    rw[aF (by omega),aD,zjq hp]
   |cons q ps=>
    obtain⟨p0,p1,p2,p3⟩:=zft hr ha hp
    obtain⟨q1,q2,q3⟩:=zdd h hr p2
    have hsq:=zcH h hr p2 p
    have uq:upB r.Commits.length q=true:=zaK.2 (by omega)
    obtain⟨g,rfl⟩: ∃ g,f=g+1:=⟨f-1,by omega⟩
    have ih:=zlq h hr p g q.toNat m (by omega) p2 (by omega)
    rw[p3]at ih
    simp only
    rw[aE (by omega),aC,ih,aA]
    cases hg2:(getT (zaf r q.toNat) p).2 with
    |false=>
     rw[Bool.not_false,aD,zky hp (zjp hg2)]
    |true=>
     rw[aK,aC,zke h hr uq,aA,zmA q1,aA]
     show(zfQ (blT r p q.toNat) (blT r p a)).bind _=_
     rw[zlr (by omega) (by omega),aA]
     obtain⟨_,hl⟩:=zdQ (blT r p q.toNat) (blT r p a)
     rw[zpz (w:=(blN r p g q.toNat,true)) (by rw[hl,zd5]) (by rw[hl];omega) (by rw[List.length_replicate];exact znl),zh7 hp]
def zcW (r:Repo)(a:Int)(p:Str):List Int:=bif zaa r&&upB r.Commits.length a then blN r p a.toNat a.toNat else []
theorem zmd {r:Repo}(h:RpB r)(hr:zaa r=true){a:Nat}(ha:a<r.Commits.length)(p:Str):zh3 r (a:Int) p=some (blN r p a a):=by
 unfold zh3
 exact zl0 h hr p a a _ (Nat.le_refl _) ha (by omega)
theorem zkb {r:Repo}(h:RpB r)(a:Int)(p:Str):zfT r a p=some (zcW r a p):=by
 unfold zfT zcW
 simp only[jn,zbE h,zco,zcI (zaj h.coms),aA]
 rw[show(decide ((0:Int)<=a)&&decide (a<=(r.Commits.length:Int)-1))=upB r.Commits.length a from rfl]
 cases hr:zaa r with
 |false=>rfl
 |true=>
  cases ha:upB r.Commits.length a with
  |false=>rfl
  |true=>
   obtain⟨a0,a1⟩:=zaK.1 ha
   have e:=zmd h hr (a:=a.toNat) (by omega) p
   rw[show((a.toNat:Nat):Int)=a by omega]at e
   simp only[aK,aC,Bool.and_true,aD,e,aA]
theorem ziU {r:Repo}(h:RpB r)(a:Int)(p:Str):zgp r a p=some (zcW r a p):=by
 unfold zgp zcW
 rw[znh h (by simp),aA]
 simp only[List.all_cons,List.all_nil,Bool.and_true]
 cases hr:zaa r&&upB r.Commits.length a with
 |false=>rfl
 |true=>
  simp only[aG]at hr
  obtain⟨a0,a1⟩:=zaK.1 hr.2
  have e:=zlq h hr.1 p a.toNat a.toNat (a.toNat+2) (Nat.le_refl _) (by omega) (by omega)
  rw[show((a.toNat:Nat):Int)=a by omega]at e
  unfold zj1
  rw[aK,aC,aD,e]
  rfl
theorem zjc {r:Repo}(h:RpB r)(a:Int)(p:Str):(zcW r a p).length<=10:=by
 unfold zcW
 cases hr:zaa r&&upB r.Commits.length a with
 |false=>simp
 |true=>
  simp only[aG]at hr
  obtain⟨a0,a1⟩:=zaK.1 hr.2
  rw[aD,zd5]
  exact zcH h hr.1 (by omega) p
theorem zhu {r:Repo}{a:Int}{p:Str}(h:zcW r a p≠ []):zaa r=true/\upB r.Commits.length a=true/\zcW r a p=blN r p a.toNat a.toNat:=by
 unfold zcW at h ⊢
 cases hr:zaa r&&upB r.Commits.length a with
 |false=>rw[hr]at h;exact absurd rfl h
 |true=>
  simp only[aG]at hr
  exact⟨hr.1,hr.2,rfl⟩
theorem zh4 {code:List Byte}(h:code.length<=1048576): ∃ x a p,zea code=some (x,a,p)/\Drawn x /\ -1<=a/\a<=16/\p.length<=1048576:=by
 unfold zea
 obtain⟨b,e,hr⟩:=znZ h
 obtain⟨x,q,e2,hx,r2⟩:=zhA hr (by omega)
 obtain⟨a,e3,a0,a1⟩:=zlW r2 (by omega) hx
 have hcm:=hx.coms
 have r3:zbB ⟨b,q+1+1⟩ (0+2010+2):=zdg (r:=⟨b,q+1⟩) (zdg (r:=⟨b,q⟩) (q:=0+2010+1) r2 (by omega) (by omega)) (by omega) (by omega)
 simp only[e,aA,e2,zfI,e3,jn,zco,zcI (zaj hx.rb.coms)]
 have hP: ∀ {qq p:Int},zbB ⟨b,qq⟩ p->p<=200000 -> ∃ s:Str,((zcv ⟨b,qq⟩).bind fun z261=>some (x,a,z261.1))=some (x,a,s)/\s.length<=1048576:=fun {qq p} hq hp=>by
  obtain⟨s,es,hs⟩:=zhF hq (by omega)
  exact⟨s,by rw[es];rfl,by omega⟩
 cases hu:(decide ((0:Int)<=a)&&decide (a<=(x.Commits.length:Int)-1))with
 |false=>
  obtain⟨s,es,hs⟩:=hP r3 (by omega)
  exact⟨x,a,s,by simp only[aC];exact es,hx,a0,a1,hs⟩
 |true=>
  simp only[aG,decide_eq_true_eq]at hu
  have hg:=zbf hu.1 hu.2
  have ht:=zgv hx.rb (zaK.2 hu)
  unfold zaf at ht
  have htl:=ht.1
  simp only[aD,hg,aA]
  by_cases h0:0< (x.Commits.getD a.toNat noCommit).Tree.length
  ·obtain⟨k,e4,k0,k1⟩:=zbs r3 (n:=4) (by omega) (by omega) (by omega)
   have r4:zbB ⟨b,q+1+1+1⟩ (0+2010+3):=zdg (r:=⟨b,q+1+1⟩) r3 (k:=1) (by omega) (by omega)
   simp only at e4
   rw[aF (by omega),aD,e4,aA]
   simp only
   cases decide ((0:Int)<k)with
   |false=>
    obtain⟨s,es,hs⟩:=hP r4 (by omega)
    exact⟨x,a,s,by simp only[aC];exact es,hx,a0,a1,hs⟩
   |true=>
    obtain⟨j,e5,j0,j1⟩:=zbs r4 (n:=((x.Commits.getD a.toNat noCommit).Tree.length:Int)) (by omega) (by omega) (by omega)
    simp only[aD]at e5 ⊢
    rw[e5,aA]
    have hj:j.toNat< (x.Commits.getD a.toNat noCommit).Tree.length:=by omega
    have gj:gi (x.Commits.getD a.toNat noCommit).Tree j=some ((x.Commits.getD a.toNat noCommit).Tree[j.toNat]):=by
     have:=zad (aB hj)
     rwa [show((j.toNat:Nat):Int)=j by omega]at this
    simp only
    rw[gj,aA]
    exact⟨x,a,_,rfl,hx,a0,a1,(ht.2 _ (List.getElem_mem hj)).path⟩
  ·obtain⟨s,es,hs⟩:=hP r3 (by omega)
   exact⟨x,a,s,by rw[aE (by omega),aC];simp only[aC];exact es,hx,a0,a1,hs⟩
theorem zox {l:List Int}{n:Int}(h:n∈l):zfA l n=true:=zdf.2 h
theorem zmO {xs:List Str}{s:Str}(h:xs.length<=maxi):ziT xs s=some (decide (s∈xs)):=by
 unfold ziT
 simp only[jn,zap]
 rw[zcf (p:=fun x:Str=>x==s) (xs:=xs) (r:=fun _=>some true) (Z:=some false) (f:=fun m k=>zeV xs s _ m false k) (fun m i x hx=>by
  simp only[zeV,zam hx,zad hx,aD,aA,zac (zat hx) h]) (fun m=>by simp only[zeV,zag,aC]) (by omega)]
 cases hf:xs.find? (fun x=>x==s)with
 |some x=>
  have:s∈xs:=by
   have h1:=List.mem_of_find?_eq_some hf
   have h2:x=s:=by simpa using List.find?_some hf
   rwa [h2]at h1
  rw[aF this]
 |none=>
  have:s∉xs:=fun hm=>by
   have:=List.find?_eq_none.1 hf s hm
   simp at this
  rw[aE this]
theorem zoU {r:Repo}{f a:Nat}{q:Int}{ps:List Int}(hp:zab r a=q::ps):zfN r (f+1+1) a=(a:Int)::((q.toNat:Nat):Int)::(zfN r (f+1) q.toNat).tail:=by
 rw[zd4,hp]
 simp only
 rw[zd4]
 rfl
theorem zob {x:Repo}(hb:RpB x)(hr:zaa x=true){a:Nat}(ha:a<x.Commits.length){p:Str}{K:Bool->Int->Option Bool}:zew (x,(a:Int),p) (blN x p a a) (getT (zaf x a) p) (zfN x (a+1) a) K ((blN x p a a).length+1) false 0=K false ((blN x p a a).length:Int):=by
 have hbl:=zd5 x p a a
 have hsm:=zcH hb hr ha p
 have hll:=zkB x (a+1) a
 have hs:=zae hr
 rw[zbn (n:=(blN x p a a).length) (g:=fun _=>true) (r0:=some false) (Z:=K false ((blN x p a a).length:Int)) (f:=fun m i=>zew (x,(a:Int),p) (blN x p a a) (getT (zaf x a) p) (zfN x (a+1) a) K m false i) (fun m i hi=>by
  rw[hbl]at hi
  obtain⟨c,c1,c2,c3,s,j,c4,c5⟩:=zni hr (p:=p) a a (Nat.le_refl _) ha i hi
  have hcl:c<x.Commits.length:=by omega
  have hi2:i< (blN x p a a).length:=by rw[hbl];exact hi
  have gx:(blN x p a a)[i]? =some (c:Int):=by
   rw[List.getD_eq_getElem?_getD,aB hi2]at c1
   rw[aB hi2,<- c1]
   rfl
  have hin:=zox c2
  have hth:=zmX c5
  have hmem:s∈blT x p c:=aH c5
  have hsc:=zcH hb hr hcl p
  have gs:gi (getT (zaf x a) p).1 (i:Int)=some s:=zad c4
  simp only[zew,jn,zam gx,zad gx,aD,aA,zhL hcl,show(x.Commits.getD c noCommit).Tree=zaf x c from rfl,zjb hb hr hcl,znr (show(zfN x (a+1) a).length<=1000000 by omega),hin,aK,aC,hth,gs]
  rw[show(getT (zaf x c) p).1=blT x p c from rfl,zmO (show(blT x p c).length<=maxi by unfold maxi;omega),aF hmem,aA,aK,aC,zac hi2 (show(blN x p a a).length<=maxi by unfold maxi;omega)]) (fun m=>by simp only[zew,zag,aC]) _ (by omega),zaJ.2 (fun _ _ _=>rfl),aD]
theorem zoc {x:Repo}(hb:RpB x)(hr:zaa x=true){f:Nat}(ha:f+1<x.Commits.length){p:Str}{q:Int}{ps:List Int}(hp:zab x (f+1)=q::ps){K:Bool->Int->Option Bool}:zev (x,((f+1:Nat):Int),p) (blN x p (f+1) (f+1)) (mt2 (blT x p q.toNat) (blT x p (f+1))) K ((blN x p (f+1) (f+1)).length+1) false 0=K false ((blN x p (f+1) (f+1)).length:Int):=by
 have hbl:=zd5 x p (f+1) (f+1)
 have hsm:=zcH hb hr ha p
 obtain⟨p0,p1,p2,p3⟩:=zft hr ha hp
 have hsq:=zcH hb hr p2 p
 obtain⟨_,hl⟩:=zdQ (blT x p q.toNat) (blT x p (f+1))
 rw[zbn (n:=(blN x p (f+1) (f+1)).length) (g:=fun _=>true) (r0:=some false) (Z:=K false ((blN x p (f+1) (f+1)).length:Int)) (f:=fun m i=>zev (x,((f+1:Nat):Int),p) (blN x p (f+1) (f+1)) (mt2 (blT x p q.toNat) (blT x p (f+1))) K m false i) (fun m i hi=>by
  have hi2:=hi
  rw[hbl]at hi
  have gx:(blN x p (f+1) (f+1))[i]? =some ((blN x p (f+1) (f+1)).getD i 0):=by
   rw[List.getD_eq_getElem?_getD,aB hi2]
   rfl
  have key:(((blN x p (f+1) (f+1)).getD i 0==((f+1:Nat):Int))==zfA (mt2 (blT x p q.toNat) (blT x p (f+1))) (i:Int))=false:=by
   rcases blN_at (r:=x) (p:=p) (f:=f) hi with ⟨q',ps',j,hp',hm,hj,e⟩ |⟨e,hw⟩
   ·rw[hp]at hp'
    cases hp'
    obtain⟨c,c1,_,c3,_⟩:=zni hr (p:=p) f q.toNat (by omega) p2 j hj
    rw[e,c1,zox (aH hm),show((c:Int)==((f+1:Nat):Int))=false from beq_false_of_ne (by omega)]
    rfl
   ·rw[e,aO,Bool.eq_false_iff.2 fun q2=>hw q ps hp (zdf.1 q2)]
    rfl
  simp only[zev,zam gx,zad gx,aD,aA,znr (show(mt2 (blT x p q.toNat) (blT x p (f+1))).length<=1000000 by omega),key,aC,zac hi2 (show(blN x p (f+1) (f+1)).length<=maxi by unfold maxi;omega)]) (fun m=>by simp only[zev,zag,aC]) _ (by omega),zaJ.2 (fun _ _ _=>rfl),aD]
theorem zpc {code:List Byte}(h:Bk.fit code):zju code=some true:=by
 unfold zju
 by_cases hc:(1048576:Int)< (code.length:Int)
 ·rw[aF hc];rfl
 obtain⟨x,a,p,e,hx,a0,a1,hpl⟩:=zh4 (code:=code) (by omega)
 have hb:=hx.rb
 have hlen:=zjc hb a p
 rw[aE hc,aC,e,aA]
 simp only[zfI,zkb hb,ziU hb,aA,jn,zhg (show(zcW x a p).length<=1048576 by omega),aO,aK,aC]
 by_cases hz:zcW x a p=[]
 ·rw[hz];rfl
 obtain⟨hr,hu,eB⟩:=zhu hz
 obtain⟨u0,u1⟩:=zaK.1 hu
 have hpos:0< (zcW x a p).length:=List.length_pos_iff.2 hz
 rw[beq_false_of_ne (by omega),aC,eB]at*
 obtain⟨n,rfl⟩:=Int.eq_ofNat_of_zero_le u0
 rw[Int.toNat_natCast]at*
 have ha:n<x.Commits.length:=by omega
 have hbl:=zd5 x p n n
 have eL:zmc x (n:Int)=zfN x (n+1) n:=by unfold zmc;rw[hr,hu,Int.toNat_natCast];rfl
 have hthere:(getT (zaf x n) p).2=true:=by
  cases hg:(getT (zaf x n) p).2 with
  |true=>rfl
  |false=>rw[hbl,zjp hg]at hpos;simp at hpos
 simp only[zhL ha,aA,show(x.Commits.getD n noCommit).Tree=zaf x n from rfl,zjb hb hr ha,zlQ hb,eL,zap]
 rw[zob hb hr ha]
 have el:((getT (zaf x n) p).1.length:Int)=((blN x p n n).length:Int):=by rw[hbl];rfl
 cases hp:zab x n with
 |nil=>
  have e1:zfN x (n+1) n=[(n:Int)]:=by rw[zd4,hp]
  have g0:gi (blN x p n n) 0=some (n:Int):=by
   rw[zjq hp]
   have:0< (List.replicate (blT x p n).length (n:Int)).length:=by rw[List.length_replicate,<- hbl];exact hpos
   have h2:=zek this
   rw[show((0:Nat):Int)=0 from rfl]at h2
   rw[h2,List.getD_eq_getElem?_getD,List.getElem?_replicate,if_pos (by rw[List.length_replicate]at this;exact this)]
   rfl
  rw[e1,show decide (((([(n:Int)]:List Int).length:Nat):Int)<2)=true from rfl,aD,hthere,aD,el,aO,aD,g0,aA,aO]
 |cons q ps=>
  obtain⟨p0,p1,p2,p3⟩:=zft hr ha hp
  obtain⟨f,rfl⟩: ∃ f,n=f+1:=⟨n-1,by omega⟩
  have e1:=zoU (r:=x) (f:=f) hp
  have hl2:decide (((zfN x (f+1+1) (f+1)).length:Int)<2)=false:=by rw[e1];simp only[aL];exact aE (by omega)
  have g1:gi (zfN x (f+1+1) (f+1)) 1=some q:=by rw[e1,p3];rfl
  have gq:gi x.Commits q=some (x.Commits.getD q.toNat noCommit):=by rw[<- p3];exact zhL p2
  have hd:ziE (getT (zaf x q.toNat) p).1 (getT (zaf x (f+1)) p).1=some (mt2 (blT x p q.toNat) (blT x p (f+1))):=by
   unfold ziE
   rw[show(getT (zaf x q.toNat) p).1=blT x p q.toNat from rfl,show(getT (zaf x (f+1)) p).1=blT x p (f+1) from rfl]
   simp only[jn,zic (zpJ hb hr p2 p),zic (zpJ hb hr ha p),zln hb hr p2 p,zln hb hr ha p,aA,aK,aC]
   rw[zlr (by have:=zcH hb hr p2 p;omega) (by have:=zcH hb hr ha p;omega)]
   rfl
  rw[hl2,aC,g1,aA,gq,aA,show(x.Commits.getD q.toNat noCommit).Tree=zaf x q.toNat from rfl,zjb hb hr p2,aA,hd,aA]
  rw[zoc hb hr ha hp,hthere,aD,el,aO]
theorem zcO {α:Type}{f:α->Nat}{c:Nat}: ∀ {t:List α},(∀ s∈t,f s<=c)->zcF f t<=c*t.length
 | [],_=>by simp[zcF]
 |x::t,h=>by
  have h1:=h x (by simp)
  have h2:=zcO (t:=t) (fun s hs=>h s (by simp[hs]))
  simp only[zcF,aL,Nat.mul_add,Nat.mul_one]
  omega
theorem zkL {t:List Str}(h:zaq t=true):Bk.bulk t<=130:=by
 have hl:=zaE h
 have hs:zcF Bk.bulk t<=12*t.length:=zcO fun s hs=>by
  have:=zgK (za0 h s hs)
  show s.length<=12
  omega
 show t.length+zcF Bk.bulk t<=130
 omega
theorem zkM {t:List File}(h:zar t=true):Bk.bulk t<=1208:=by
 have hl:=zaD h
 have hs:zcF Bk.bulk t<=150*t.length:=zcO fun f hf=>by
  have h1:=zcn (zbQ h hf)
  have h2:=zkL (zaB h f hf)
  show f.Path.length+Bk.bulk f.Text<=150
  omega
 show t.length+zcF Bk.bulk t<=1208
 omega
theorem zk9 {r:Repo}(h:zaa r=true){c:Commit}(hc:c∈r.Commits):c.Parents.length<=2/\(∀ p∈c.Parents,0<=p/\p<=16)/\zax c.Who=true/\zar c.Tree=true:=by
 obtain⟨i,hi⟩:=List.mem_iff_getElem?.1 hc
 have hil:=zat hi
 have s1:=(zae h).1
 have:=zex h (i:=i) (by omega)
 rw[zdb hi]at this
 unfold zi8 at this
 simp only[aG,decide_eq_true_eq,List.all_eq_true]at this
 refine⟨by omega,fun p hp=>?_,this.2.2.2.1,this.2.2.2.2⟩
 have h1:=this.1 p hp
 unfold upB at h1
 simp only[aG,decide_eq_true_eq]at h1
 omega
theorem zkN {r:Repo}(h:zaa r=true):Bk.bulk r<=20000:=by
 obtain⟨s1,s2⟩:=zae h
 have h1:zcF Bk.bulk r.Commits<=1218*r.Commits.length:=zcO fun c hc=>by
  obtain⟨c1,_,c3,c4⟩:=zk9 h hc
  have:=zbd c3
  have:=zkM c4
  have hp:zcF Bk.bulk c.Parents<=0*c.Parents.length:=zcO fun p hp=>Nat.le_refl 0
  show c.Parents.length+zcF Bk.bulk c.Parents+(c.Who.length+Bk.bulk c.Tree)<=1218
  omega
 have h2:zcF Bk.bulk r.Heads<=6*r.Heads.length:=zcO fun x hx=>by
  have:=zbd (zfr h hx).2.2
  show x.Name.length+0<=6
  omega
 show r.Commits.length+zcF Bk.bulk r.Commits+(r.Heads.length+zcF Bk.bulk r.Heads)<=20000
 omega
theorem zkO {t:List File}(h:zar t=true):Bk.fit t:=⟨by have:=zaD h;unfold maxi;omega,fun f hf=>⟨by have:=zcn (zbQ h hf);show f.Path.length<=maxi;unfold maxi;omega,by
 have h1:=zaB h f hf
 have h2:=zaE h1
 exact zeZ (by omega) (za0 h1)⟩⟩
theorem zkP {r:Repo}(h:zaa r=true):Bk.fit r:=by
 obtain⟨s1,s2⟩:=zae h
 refine⟨⟨by unfold maxi;omega,fun c hc=>?_⟩,by unfold maxi;omega,fun x hx=>?_⟩
 ·obtain⟨c1,c2,c3,c4⟩:=zk9 h hc
  refine⟨⟨by unfold maxi;omega,fun p hp=>?_⟩,by have:=zbd c3;show c.Who.length<=maxi;unfold maxi;omega,zkO c4⟩
  have:=c2 p hp
  show -9223372036854775808<=p/\p<=9223372036854775807
  omega
 ·obtain⟨h1,h2,h3⟩:=zfr h hx
  refine⟨by have:=zbd h3;show x.Name.length<=maxi;unfold maxi;omega,?_⟩
  show -9223372036854775808<=x.At/\x.At<=9223372036854775807
  omega
theorem ziS.lt {l:List Int}(h:ziS l){i k:Nat}(hik:i<k)(hk:k<l.length):l.getD i 0<l.getD k 0:=by
 have h1:i<l.length:=by omega
 have:=List.pairwise_iff_getElem.1 h i k h1 hk hik
 rw[zbS (aB h1),zbS (aB hk)]
 exact this
theorem ziS.inj {l:List Int}(h:ziS l){i k:Nat}(hi:i<l.length)(hk:k<l.length)(e:l.getD i 0=l.getD k 0):i=k:=by
 rcases Nat.lt_trichotomy i k with h1 |h1 |h1
 ·have:=h.lt h1 hk;omega
 ·exact h1
 ·have:=h.lt h1 hi;omega
section
variable {r:Repo}(h:RpB r)(hr:zaa r=true)
include h hr
end
def zm5 (r:Repo)(n:Str)(x:Repo):Prop:=x=r\/x=zbm\/zaa x=true
theorem zm5.bulk {r x:Repo}{n:Str}(h:zm5 r n x):Bk.bulk x<=Bk.bulk r+20000:=by
 rcases h with h |h |h
 ·rw[h];omega
 ·rw[h];show 0+0+(0+0)<=_;omega
 ·have:=zkN h;omega
theorem zm5.fit {r x:Repo}{n:Str}(hf:Bk.fit r)(h:zm5 r n x):Bk.fit x:=by
 rcases h with h |h |h
 ·rw[h];exact hf
 ·rw[h];exact⟨⟨by simp[zbm,maxi],by simp[zbm]⟩,by simp[zbm,maxi],by simp[zbm]⟩
 ·exact zkP h
def ChH:Int->List Hunk->Prop
 |_,[]=>True
 |lo,d::l=>lo<=d.At/\ChH (d.At+d.Less.length+1) l
theorem ChH.mono: ∀ {l:List Hunk} {lo lo':Int},lo'<=lo->ChH lo l->ChH lo' l
 | [],_,_,_,_=>trivial
 |d::l,_,_,h,⟨h1,h2⟩=>⟨Int.le_trans h h1,h2⟩
def zkn:List Str->List Str->Nat
 |a::l,b::m=>bif a==b then zkn l m+1 else 0
 |_,_=>0
def zqi (t:List Str):List Str->Nat->Nat×Nat->Nat×Nat
 | [],_,r=>r
 |b::bs,i,r=>zqi t bs (i+1) (bif decide (r.2<zkn (b::bs) t) then(i,zkn (b::bs) t) else r)
def zmx (base t:List Str):Nat×Nat:=zqi t base 0 (0,0)
def zmQ (out:List Delta)(x:Str):List Delta:=match out.getLast? with
 |some d=>bif decide (0<d.Lines.length) then out.dropLast++[⟨d.From,d.Many,d.Lines++[x]⟩] else out++[⟨0,0,[x]⟩]
 |none=>out++[⟨0,0,[x]⟩]
def zib (base:List Str):Nat->List Delta->List Str->List Delta
 |0,out,_=>out
 |_+1,out,[]=>out
 |n+1,out,x::t=>bif decide (0< (zmx base (x::t)).2) then zib base n (out++[⟨(zmx base (x::t)).1,(zmx base (x::t)).2,[]⟩]) ((x::t).drop (zmx base (x::t)).2) else zib base n (zmQ out x) t
def zj6 (base t:List Str):List Delta:=zib base t.length [] t
def OD (n:Nat)(l:List Owner):Prop:=l.length<=n /\ ∀ o∈l,o.Path.length<=10/\o.Who.length<=10
theorem OD.fit {n:Nat}{l:List Owner}(h:OD n l)(hn:n<=1000):Bk.fit l:=⟨by have:=h.1;unfold maxi;omega,fun o ho=>by
 have:=h.2 o ho
 exact⟨by show o.Path.length<=maxi;unfold maxi;omega,by show o.Who.length<=maxi;unfold maxi;omega⟩⟩
section
variable {base t:List Str}(hb:zaq base=true)(ht:zaq t=true)
include hb ht
end
def zoN (list:List (List Str))(ds:List Int)(i:Nat)(t:List Str)(b dep:Int)(d:List Delta):Prop:=(b = -1/\d=zj6 [] t/\dep=1) \/ ∃ k o dk,k<i/\b=(k:Int)/\list[k]? =some o/\ds[k]? =some dk/\d=zj6 o t/\dep=dk+1/\dk<=2
theorem zoN.snoc {list:List (List Str)}{ds:List Int}{i:Nat}{t:List Str}{b dep z:Int}{d:List Delta}(h:zoN list ds i t b dep d):zoN list (ds++[z]) i t b dep d:=by
 rcases h with h |⟨k,o,dk,h1,h2,h3,h4,h5⟩
 ·exact .inl h
 ·exact .inr ⟨k,o,dk,h1,h2,h3,by rw[aM (List.getElem?_eq_some_iff.1 h4).1];exact h4,h5⟩
section
variable {list:List (List Str)}(h12:list.length<=12)(hl: ∀ t∈list,zaq t=true)
include h12 hl
end
end Go.Vm
