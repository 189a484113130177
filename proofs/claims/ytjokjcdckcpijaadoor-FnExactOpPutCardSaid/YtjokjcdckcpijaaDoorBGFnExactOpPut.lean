/- Plain law FnExactOpPut, and what it uses: what the models answer. Conditions: each law's own premises. -/
import Derived.Test.YtjokjcdckcpijaaDoorBM0
import Derived.Test.YtjokjcdckcpijaaDoorBLw
import Derived.Sort.Walk0
import Derived.Lib.SplitLaws
import Derived.Test.YtjokjcdckcpijaaDoorBX
import Derived.Lib.Join
import Derived.Lib.ItoaNum
namespace Go.Vm
open Go Go.Sx
set_option linter.unusedSimpArgs false
set_option linter.unusedVariables false
def chB (c:UInt8):Bool:= !(decide ((c.toNat:Int)<32)||decide (126< (c.toNat:Int)))
def zbn (s:Str):Bool:= !decide (12< (s.length:Int))&&s.all chB
def zad (xs:List Str):Bool:= !decide (10< (xs.length:Int))&&xs.all zbn
theorem zfa (a b:Int):decide (a<=b) = !decide (b<a):=by
 by_cases h:a<=b
 ·rw[aF h,aE (by omega)];rfl
 ·rw[aE h,aF (by omega)];rfl
theorem zfb {s:Str}(h:s.length<=maxi):zbx s=some (zbn s):=by
 unfold zbx zbn
 simp only[jn,zca]
 cases decide ((12:Int)< (s.length:Int))
 case true=>rfl
 rw[aC,zav (α:=UInt8) (xs:=s) (p:=chB) (r0:=some false) (Z:=some true) (f:=fun m i=>zaD s (fun _ _=>some true) m false i) (fun m i x hx=>by
  simp only[zaD,jn,zbV hx,zdd hx,aD,aA,zaN (zaW hx) h,chB]
  cases decide ((x.toNat:Int)<32)<;>cases decide (126< (x.toNat:Int))<;>rfl) (fun m=>by simp only[zaD,za3,aC]) (by omega)]
 cases s.all chB<;>rfl
theorem zfc {s:Str}(h:s.length<=maxi):zbw s=some (zbn s):=by
 unfold zbw zbn
 simp only[jn,zca,zfa]
 rw[zav (α:=UInt8) (xs:=s) (p:=chB) (r0:=some false) (Z:=some (!decide (12< (s.length:Int)))) (f:=fun m i=>zaA s (fun _ _=>some (!decide (12< (s.length:Int)))) m false i) (fun m i x hx=>by
  simp only[zaA,jn,zbV hx,zdd hx,aD,aA,zaN (zaW hx) h,chB]
  cases decide ((x.toNat:Int)<32)<;>cases decide (126< (x.toNat:Int))<;>rfl) (fun m=>by simp only[zaA,za3,aC]) (by omega)]
 cases s.all chB<;>cases decide (12< (s.length:Int))<;>rfl
theorem zfd {xs:List Str}(h:Bk.fit xs):zby xs=some (zad xs):=by
 have hl:=zdb h
 unfold zby zad
 simp only[jn,zca]
 cases decide ((10:Int)< (xs.length:Int))
 case true=>rfl
 rw[aC,zav (α:=Str) (xs:=xs) (p:=zbn) (r0:=some false) (Z:=some true) (f:=fun m i=>zaE xs (fun _ _=>some true) m false i) (fun m i x hx=>by
  have hx2:x.length<=maxi:=zeR h hx
  simp only[zaE,zbV hx,zbe hx,aD,aA,zaN (zaW hx) hl,zfb hx2]
  cases zbn x<;>rfl) (fun m=>by simp only[zaE,za3,aC]) (by omega)]
 cases xs.all zbn<;>rfl
theorem zil {xs:List Str}(h:Bk.fit xs):zch xs=some (zad xs):=by
 have hl:=zdb h
 unfold zch zad
 simp only[jn,zca,zfa]
 rw[zav (α:=Str) (xs:=xs) (p:=zbn) (r0:=some false) (Z:=some (!decide (10< (xs.length:Int)))) (f:=fun m i=>zaS xs (fun _ _=>some (!decide (10< (xs.length:Int)))) m false i) (fun m i x hx=>by
  have hx2:x.length<=maxi:=zeR h hx
  simp only[zaS,zbV hx,zbe hx,aD,aA,zaN (zaW hx) hl,zfc hx2]
  cases zbn x<;>rfl) (fun m=>by simp only[zaS,za3,aC]) (by omega)]
 cases xs.all zbn<;>cases decide (10< (xs.length:Int))<;>rfl
theorem zaJ {t:List Str}(h:zad t=true):t.length<=10:=by
 unfold zad at h
 simp only[aG,Bool.not_eq_true',decide_eq_false_iff_not]at h
 omega
theorem zaV {t:List Str}(h:zad t=true): ∀ s∈t,zbn s=true:=by
 unfold zad at h
 simp only[aG,List.all_eq_true]at h
 exact h.2
theorem zcW {s:Str}(h:zbn s=true):s.length<=12:=by
 unfold zbn at h
 simp only[aG,Bool.not_eq_true',decide_eq_false_iff_not]at h
 omega
end Go.Vm
namespace Go.Sx
open Go
end Go.Sx
namespace Go.Vm
open Go Go.Sx
set_option linter.unusedSimpArgs false
set_option linter.unusedVariables false
section
variable {o a b:List Str}{Q:Part->Prop}
end
section
variable {xs:List Memo}{o a b:List Str}
theorem zd3 {s:List Str}(h:s.length<=1000000)(hl: ∀ x∈s,zbn x=true):Bk.fit s:=⟨by unfold maxi;omega,fun x hx=>by have:=zcW (hl x hx);show x.length<=maxi;unfold maxi;omega⟩
end
def LB (n:Nat)(t:List Str):Prop:=t.length<=n /\ ∀ s∈t,s.length<=100
theorem LB.fit {n:Nat}{t:List Str}(h:LB n t)(hn:n<=1000000):Bk.fit t:=⟨by have:=h.1;unfold maxi;omega,fun s hs=>by have:=h.2 s hs;show s.length<=maxi;unfold maxi;omega⟩
theorem zcv {α:Type}{f:α->Nat}{c:Nat}: ∀ {t:List α},(∀ s∈t,f s<=c)->sumB f t<=c*t.length
 | [],_=>by simp[sumB]
 |x::t,h=>by
  have h1:=h x (by simp)
  have h2:=zcv (t:=t) (fun s hs=>h s (by simp[hs]))
  simp only[sumB,aL,Nat.mul_add,Nat.mul_one]
  omega
theorem LB.bulk {n:Nat}{t:List Str}(h:LB n t):Bk.bulk t<=101*n:=by
 have h1:sumB Bk.bulk t<=100*t.length:=zcv (f:=fun s:Str=>s.length) (c:=100) (fun s hs=>h.2 s hs)
 have:=h.1
 rw[zmj]
 omega
section
variable {r:l30Rd}{p:Int}
end
open Go Go.Sx Go.Proofs
def zcX (c:UInt8):Bool:=(decide (97<=(c.toNat:Int))&&decide ((c.toNat:Int)<=122))||(decide (48<=(c.toNat:Int))&&decide ((c.toNat:Int)<=57))
def zaj (s:Str):Bool:=(decide (1<=(s.length:Int))&&decide ((s.length:Int)<=6))&&s.all zcX
theorem zdR (c:UInt8):zba c=some (zcX c):=by
 unfold zba zcX
 simp only[jn]
 cases decide (97<=(c.toNat:Int))<;>cases decide ((c.toNat:Int)<=122)<;>cases decide (48<=(c.toNat:Int))<;>cases decide ((c.toNat:Int)<=57)<;>rfl
theorem zde (a b c:Int):zbq a b c=some (decide (b<=a)&&decide (a<=c)):=by
 unfold zbq
 simp only[jn]
 cases decide (b<=a)<;>rfl
theorem zfe (a b c:Int):zb5 a b c=some (decide (b<=a)&&decide (a<=c)):=by
 unfold zb5
 simp only[jn]
 cases decide (b<=a)<;>rfl
theorem zbW {s:Str}(h:s.length<=maxi):za0 s=some (zaj s):=by
 unfold za0 zaj
 simp only[jn,zca,zde,aA]
 cases(decide (1<=(s.length:Int))&&decide ((s.length:Int)<=6))
 case false=>rfl
 simp only[aK,aC,Bool.true_and]
 rw[zav (α:=UInt8) (xs:=s) (p:=zcX) (r0:=some false) (Z:=some true) (f:=fun m i=>zaB s (fun _ _=>some true) m false i) (fun m i x hx=>by
  simp only[zaB,jn,zbV hx,zdd hx,aD,aA,zaN (zaW hx) h,zdR]
  cases zcX x<;>rfl) (fun m=>by simp only[zaB,za3,aC]) (by omega)]
 cases s.all zcX<;>rfl
theorem zkr (a b:Int):decide (a<b) = !decide (b<=a):=by
 by_cases h:a<b
 ·rw[aF h,aE (by omega)];rfl
 ·rw[aE h,aF (by omega)];rfl
theorem zbX {s:Str}(h:s.length<=maxi):zaY s=some (zaj s):=by
 unfold zaY zaj
 simp only[jn,zca,zfe,aA]
 rw[zav (α:=UInt8) (xs:=s) (p:=zcX) (r0:=some false) (Z:=some (decide (1<=(s.length:Int))&&decide ((s.length:Int)<=6))) (f:=fun m i=>zay s (fun _ _=>some (decide (1<=(s.length:Int))&&decide ((s.length:Int)<=6))) m false i) (fun m i x hx=>by
  simp only[zay,jn,zbV hx,zdd hx,aD,aA,zaN (zaW hx) h,zkr,zcX]
  cases decide (97<=(x.toNat:Int))<;>cases decide ((x.toNat:Int)<=122)<;>cases decide (48<=(x.toNat:Int))<;>cases decide ((x.toNat:Int)<=57)<;>rfl) (fun m=>by simp only[zay,za3,aC]) (by omega)]
 cases s.all zcX<;>cases(decide (1<=(s.length:Int))&&decide ((s.length:Int)<=6))<;>rfl
def RB (n:Nat)(v:Review):Prop:=v.Branch.length<=4/\v.Into.length<=4/\v.By.length<=4/\LB n v.Yes
theorem RB.fit {n:Nat}{v:Review}(h:RB n v)(hn:n<=1000):Bk.fit v:=
 ⟨by have:=h.1;show v.Branch.length<=maxi;unfold maxi;omega,by have:=h.2.1;show v.Into.length<=maxi;unfold maxi;omega,by have:=h.2.2.1;show v.By.length<=maxi;unfold maxi;omega,h.2.2.2.fit (by omega)⟩
def curS (c:UInt8):Str->Str->List Str
 |w,[]=>[w]
 |w,x::r=>bif x==c then w::curS c [] r else curS c (w++[x]) r
def zbl (c:UInt8):Nat->Str->Str->List Str
 |_,w,[]=>[w]
 |0,w,x::r=>[w++x::r]
 |n+1,w,x::r=>bif x==c then w::zbl c n [] r else zbl c (n+1) (w++[x]) r
theorem zd4 (c:UInt8): ∀ (r w:Str),1<=(curS c w r).length
 | [],w=>by simp[curS]
 |x::r,w=>by
  unfold curS
  cases x==c
  ·exact zd4 c r _
  ·simp
theorem zbf (c:UInt8)(w r:Str):zbl c 0 w r=[w++r]:=by
 cases r<;>simp[zbl]
theorem zbg (c:UInt8): ∀ (r:Str) (n:Nat) (w:Str),(curS c w r).length<=n+1->zbl c n w r=curS c w r
 | [],n,w,h=>by cases n<;>simp[zbl,curS]
 |x::r,0,w,h=>by
  unfold curS at h ⊢
  cases hx:x==c with
  |true=>
   rw[hx,aD]at h
   have:=zd4 c r []
   rw[aL]at h
   omega
  |false=>
   rw[hx,aC]at h
   have ih:=zbg c r 0 (w++[x]) h
   rw[aC,<- ih,zbf,zbf]
   simp
 |x::r,n+1,w,h=>by
  unfold curS at h ⊢
  unfold zbl
  cases hx:x==c with
  |true=>
   rw[hx,aD,aL]at h
   rw[aD,aD,zbg c r n [] (by omega)]
  |false=>
   rw[hx,aC]at h
   rw[aC,aC,zbg c r (n+1) _ h]
theorem zbY (c:UInt8): ∀ (r:Str) (n:Nat) (w:Str),n+1<=(curS c w r).length->(zbl c n w r).length=n+1
 | [],n,w,h=>by
  simp[curS]at h
  subst h
  simp[zbl]
 |x::r,0,w,h=>by simp[zbl]
 |x::r,n+1,w,h=>by
  unfold curS at h
  unfold zbl
  cases hx:x==c with
  |true=>
   rw[hx,aD,aL]at h
   rw[aD,aL,zbY c r n [] (by omega)]
  |false=>
   rw[hx,aC]at h
   rw[aC,zbY c r (n+1) _ h]
theorem zcY {c:UInt8}{w:Str}(h:c∉w):Lib.index w [c] = -1:=Lib.index_none fun j hj=>by
 cases ho:Lib.occAt w [c] j with
 |false=>rfl
 |true=>exact absurd (aH (Lib.occAt_head rfl ho)) h
theorem zdz {c:UInt8}{w r:Str}(h:c∉w):Lib.index (w++c::r) [c]=((w.length:Nat):Int):=Lib.index_first (by simp) (by simp[Lib.occAt,List.isPrefixOf]) fun j hj=>by
 cases ho:Lib.occAt (w++c::r) [c] j with
 |false=>rfl
 |true=>
  have:=Lib.occAt_head rfl ho
  rw[aM hj]at this
  exact absurd (aH this) h
theorem zcA (c:UInt8): ∀ (r w:Str),c∉w->Lib.split (w++r) [c]=curS c w r
 | [],w,h=>by
  unfold Lib.split curS
  rw[List.append_nil,Lib.count_miss (zcY h)]
  rfl
 |x::r,w,h=>by
  unfold curS
  cases hx:x==c with
  |true=>
   have e:x=c:=by simpa using hx
   subst e
   have hi:=zdz (r:=r) h
   rw[aD]
   have ih:=zcA x r [] (by simp)
   unfold Lib.split at ih ⊢
   have hd:(w++x::r).drop (w.length+1)=r:=by
    rw[show w++x::r=(w++[x])++r by simp,List.drop_left' (by simp)]
   have hc:Lib.count (w++x::r) [x]=Lib.count r [x]+1:=by
    rw[Lib.count_hit (by simp) hi]
    show 1+Lib.count ((w++x::r).drop (w.length+1)) [x]=_
    rw[hd]
    omega
   rw[hc]
   unfold Lib.splitK
   rw[if_neg (by rw[hi];simp),hi]
   have e1:(w++x::r).take (((w.length:Nat):Int).toNat+0)=w:=by simp
   have e2:(w++x::r).drop (((w.length:Nat):Int).toNat+[x].length)=r:=hd
   rw[e1,e2]
   simp only[List.nil_append]at ih
   rw[ih]
  |false=>
   have hne:x≠c:=by simpa using hx
   rw[aC,show w++x::r=(w++[x])++r by simp]
   exact zcA c r (w++[x]) (by
    rw[List.mem_append,List.mem_singleton]
    rintro(h1 |h1)
    ·exact h h1
    ·exact hne h1.symm)
theorem zgD (c:UInt8)(s:Str):Lib.split s [c]=curS c [] s:=zcA c s [] (by simp)
theorem zff (u c:UInt8):(((UInt8.toNat u:Nat):Int)==((UInt8.toNat c:Nat):Int))=(u==c):=by
 have: ∀ b c:Bool,(b=true↔c=true)->b=c:=by decide
 apply this
 rw[beq_iff_eq,beq_iff_eq,<- UInt8.toNat_inj]
 omega
theorem zfg {s:Str}{c:UInt8}{most:Nat}(hs:s.length<=1048576)(hm:most<=1000): ∀ (n:Nat) (out:List Str) (from_ i m:Nat),i+n=s.length->n<m->from_<=i->out.length<=most->
 za8 s c (most:Int) (fun y3 y6 y7=>(slM s y6 (s.length:Int)).bind fun q38=>(apM y3 [q38]).bind fun q43=>some q43) m out (from_:Int) (i:Int)=some (out++zbl c (most-out.length) ((s.take i).drop from_) (s.drop i))
 |n,out,f,i,0,_,hm,_,_=>by omega
 |n,out,f,i,m+1,hi,hn,hf,ho=>by
  have hdone:(slM s (f:Int) (s.length:Int)).bind (fun q38=>(apM out [q38]).bind fun q43=>some q43)=some (out++[s.drop f]):=by
   rw[zi6 (by omega),aA,ap1 (by omega),aA]
  have hw:(s.take i).drop f++s.drop i=s.drop f:=by
   rw[<- List.drop_append_of_le_length (by simp;omega),List.take_append_drop]
  simp only[za8,jn]
  by_cases h1:(i:Int)< (s.length:Int)
  case neg=>
   rw[aE h1,aC,aC,hdone]
   have:s.drop i=[]:=List.drop_eq_nil_of_le (by omega)
   rw[this]at hw ⊢
   rw[List.append_nil]at hw
   rw[hw]
   cases most-out.length<;>simp[zbl]
  rw[aF h1,aD]
  have hlt:i<s.length:=by omega
  have hx:s[i]? =some s[i]:=aB hlt
  by_cases h2:(out.length:Int)< (most:Int)
  case neg=>
   rw[aE h2,aC,hdone]
   have:most-out.length=0:=by omega
   rw[this,zbf,hw]
  obtain⟨n,rfl⟩: ∃ k,n=k+1:=⟨n-1,by omega⟩
  obtain⟨k,hk⟩: ∃ k,most-out.length=k+1:=⟨most-out.length-1,by omega⟩
  rw[aF h2,aD,zdd hx,aA,zff,hk,aI hlt]
  unfold zbl
  cases hb:s[i]==c with
  |true=>
   rw[aD,aD,zkM (by omega) (by omega) (by omega),aA,ap1 (by omega),aA,zaN hlt (by unfold maxi;omega),zfg hs hm n _ (i+1) (i+1) m (by omega) (by omega) (by omega) (by simp;omega)]
   have e1:most-(out++[((s.take ((i:Nat):Int).toNat)).drop ((f:Nat):Int).toNat]).length=k:=by simp;omega
   have e2:(s.take (i+1)).drop (i+1)=[]:=List.drop_eq_nil_of_le (by simp;omega)
   rw[e1,e2]
   simp
  |false=>
   rw[aC,aC,zaN hlt (by unfold maxi;omega),zfg hs hm n _ f (i+1) m (by omega) (by omega) (by omega) ho,hk]
   have e2:(s.take (i+1)).drop f=(s.take i).drop f++[s[i]]:=by
    rw[List.take_add_one,hx]
    rw[List.drop_append_of_le_length (by simp;omega)]
    rfl
   rw[e2]
theorem zgE {s:Str}{c:UInt8}{most:Nat}(hs:s.length<=1048576)(hm:most<=1000):zbR s c (most:Int)=some (zbl c most [] s):=by
 unfold zbR
 simp only[jn]
 have:=zfg (c:=c) (most:=most) hs hm s.length [] 0 0 (s.length+1) (by omega) (by omega) (Nat.le_refl _) (by simp)
 simpa using this
def zaG (s:Str):Bool:=decide ((curS 47 [] s).length<=3)&&(curS 47 [] s).all zaj
theorem zc6 (c:UInt8): ∀ (r w:Str),∀ p∈curS c w r,p.length<=w.length+r.length
 | [],w,p,h=>by simp[curS]at h;rw[h];omega
 |x::r,w,p,h=>by
  unfold curS at h
  cases hx:x==c with
  |true=>
   rw[hx,aD]at h
   rcases List.mem_cons.1 h with e |e
   ·rw[e];omega
   ·have:=zc6 c r [] p e
    simp at this ⊢
    omega
  |false=>
   rw[hx,aC]at h
   have:=zc6 c r (w++[x]) p h
   simp at this ⊢
   omega
theorem zce (c:UInt8): ∀ (r w:Str),(curS c w r).length<=r.length+1
 | [],w=>by simp[curS]
 |x::r,w=>by
  unfold curS
  cases x==c
  ·have:=zce c r (w++[x]);simp at this ⊢;omega
  ·have:=zce c r [];simp at this ⊢;omega
theorem zdf {s:Str}(h:s.length<=1048576):za1 s=some (zaG s):=by
 unfold za1 strings_Split zaG
 rw[if_pos ⟨by omega,by simp⟩,aA,zgD]
 have hl:=zce 47 s []
 by_cases h3:(3:Int)< ((curS 47 [] s).length:Int)
 ·rw[aF h3,aD,aE (by omega)];rfl
 rw[aE h3,aC,aF (by omega),Bool.true_and]
 simp only[jn,zca]
 rw[zav (α:=Str) (xs:=curS 47 [] s) (p:=zaj) (r0:=some false) (Z:=some true) (f:=fun m i=>zaC (curS 47 [] s) (fun _ _=>some true) m false i) (fun m i x hx=>by
  have hf:=zc6 47 s [] x (aH hx)
  simp only[zaC,zbV hx,zbe hx,aD,aA,zaN (zaW hx) (show(curS 47 [] s).length<=maxi by unfold maxi;omega),zbW (show x.length<=maxi by unfold maxi;simp at hf;omega)]
  cases zaj x<;>rfl) (fun m=>by simp only[zaC,za3,aC]) (by omega)]
 cases(curS 47 [] s).all zaj<;>rfl
theorem zcG (c:UInt8): ∀ (r:Str) (n:Nat) (w:Str),∀ p∈zbl c n w r,p.length<=w.length+r.length
 | [],n,w,p,h=>by cases n<;>simp[zbl]at h<;>rw[h]<;>omega
 |x::r,0,w,p,h=>by simp[zbl]at h;rw[h];simp
 |x::r,n+1,w,p,h=>by
  unfold zbl at h
  cases hx:x==c with
  |true=>
   rw[hx,aD]at h
   rcases List.mem_cons.1 h with e |e
   ·rw[e];omega
   ·have:=zcG c r n [] p e
    simp at this ⊢
    omega
  |false=>
   rw[hx,aC]at h
   have:=zcG c r (n+1) (w++[x]) p h
   simp at this ⊢
   omega
theorem zdg {s:Str}(h:s.length<=1048576):zaZ s=some (zaG s):=by
 unfold zaZ zaG
 have e47:(UInt8.ofNatLT 47 (by decide):UInt8)=47:=by decide
 have hc:=zgE (c:=UInt8.ofNatLT 47 (by decide)) (most:=3) h (by omega)
 rw[show(3:Int)=((3:Nat):Int) from rfl,hc,aA,e47]
 simp only[jn,zca]
 have hlen:(zbl 47 3 [] s).length<=maxi:=by
  rcases Nat.lt_or_ge (curS 47 [] s).length 4 with h1 |h1
  ·rw[zbg 47 s 3 [] (by omega)];unfold maxi;omega
  ·rw[zbY 47 s 3 [] h1];unfold maxi;omega
 rw[zav (α:=Str) (xs:=zbl 47 3 [] s) (p:=zaj) (r0:=some false) (Z:=some (decide (((zbl 47 3 [] s).length:Int)<=((3:Nat):Int)))) (f:=fun m i=>zaz (zbl 47 3 [] s) (fun _ _=>some (decide (((zbl 47 3 [] s).length:Int)<=((3:Nat):Int)))) m false i) (fun m i x hx=>by
  have hf:=zcG 47 s 3 [] x (aH hx)
  simp only[zaz,zbV hx,zbe hx,aD,aA,zaN (zaW hx) hlen,zbX (show x.length<=maxi by unfold maxi;simp at hf;omega)]
  cases zaj x<;>rfl) (fun m=>by simp only[zaz,za3,aC]) (by omega)]
 rcases Nat.lt_or_ge (curS 47 [] s).length 4 with h1 |h1
 ·rw[zbg 47 s 3 [] (by omega),aF (show((curS 47 [] s).length:Int)<=((3:Nat):Int) by omega),aF (show(curS 47 [] s).length<=3 by omega)]
  cases(curS 47 [] s).all zaj<;>rfl
 ·rw[zbY 47 s 3 [] h1,aE (show ¬ (curS 47 [] s).length<=3 by omega)]
  cases(zbl 47 3 [] s).all zaj<;>rfl
def OB (xs:List Owner):Prop:=xs.length<=1048576 /\ ∀ x∈xs,x.Path.length<=1048576/\x.Who.length<=1048576
theorem OB.of {xs:List Owner}(h:Bk.bulk xs<=1048576):OB xs:=⟨zaM h,fun x hx=>by
 have h1:Bk.bulk x<=1048576:=zcN h hx
 have h2:Bk.bulk x=x.Path.length+x.Who.length:=rfl
 omega⟩
def zcH (d p:Str):Bool:=(d++[47]).isPrefixOf p
def zf1 (s:Str):Bool:=s.all fun c=> !(c==124)
def zbo (t:List Str):Bool:=t.all zf1
theorem zfh (t:List Str):Lib.join t []=t.flatten:=by
 cases t with
 |nil=>rfl
 |cons x r=>
  have: ∀ (x:Str) (r:List Str),([]:Str).intercalate (x::r)=x++r.flatten:=by
   intro x r
   induction r generalizing x with
   |nil=>simp[List.intercalate]
   |cons y r ih=>
    have:=ih y
    simp only[List.intercalate,List.intersperse,List.flatten_cons,List.nil_append]at this ⊢
    rw[this]
  exact this x r
theorem zc7: ∀ t:List Str,t.flatten.length=sumB Bk.bulk t
 | []=>rfl
 |x::t=>by
  rw[List.flatten_cons,List.length_append,zc7 t]
  rfl
theorem zdh (c:UInt8)(s:Str):Lib.contains s [c]=decide (c∈s):=by
 unfold Lib.contains
 by_cases h:c∈s
 ·obtain⟨p,t,rfl,hp⟩:=List.eq_append_cons_of_mem h
  rw[zdz hp,aF (show(0:Int)<=((p.length:Nat):Int) by omega),aF h]
 ·rw[zcY h,aE h]
  rfl
theorem zgF (t:List Str):(!decide ((124:UInt8)∈t.flatten))=zbo t:=by
 have: ∀ b c:Bool,(b=true↔c=true)->b=c:=by decide
 apply this
 simp only[Bool.not_eq_true',decide_eq_false_iff_not,List.mem_flatten,zbo,zf1,List.all_eq_true,beq_eq_false_iff_ne]
 constructor
 ·intro h s hs c hc e
  exact h ⟨s,hs,by rw[<- e];exact hc⟩
 ·rintro h ⟨s,hs,hc⟩
  exact h s hs 124 hc rfl
theorem zdS {t:List Str}(h:Bk.fit t):za9 t=some (zbo t&&zad t):=by
 have hl:=zdb h
 unfold za9 zbo
 simp only[jn,zca,zil h,aA]
 rw[zav (α:=Str) (xs:=t) (p:=zf1) (r0:=some false) (Z:=some (zad t)) (f:=fun m i=>zaf t (fun _ _=>some (zad t)) m false i) (fun m i x hx=>by
  have hx2:x.length<=maxi:=zeR h hx
  have b124: ∀ u:UInt8,(((UInt8.toNat u:Nat):Int)==(124:Int))=(u==124):=fun u=>by
   have hb:=zff u 124
   rw[show(((UInt8.toNat (124:UInt8):Nat):Int))=124 from rfl]at hb
   exact hb
  simp only[zaf,zbV hx,zbe hx,aD,jn,Option.getD_some]
  rw[zav (α:=UInt8) (xs:=x) (p:=fun c=> !(c==124)) (r0:=some false) (Z:=zaf t (fun _ _=>some (zad t)) m false ((i+1:Nat):Int)) (f:=fun m' k=>zat t (i:Int) (fun y10 y11=>zaf t (fun _ _=>some (zad t)) m y10 (w64 ((i:Int)+1))) m' false k) (fun m' k c hc=>by
   simp only[zat,zbe hx,aA,zbV hc,aD,zdd hc,b124,zaN (zaW hc) hx2]
   cases c==124<;>rfl) (fun m'=>by simp only[zat,zbe hx,aA,za3,aC,zaN (zaW hx) hl]) (by omega)]
  rfl) (fun m=>by simp only[zaf,za3,aC]) (by omega)]
 cases t.all zf1<;>rfl
def opB (o:Op):Bool:=
 zaj o.Branch&&(zaj o.Who&&
  (bif o.Kind==1 then zaG o.Path&&(zad o.Text&&(zbo o.Text&&(o.To==[]&&o.At==0)))
   else bif o.Kind==2 then zaG o.Path&&(o.To==[]&&(o.At==0&&(o.Text.length:Int)==0))
   else bif o.Kind==3 then zaG o.Path&&(zaG o.To&&(o.At==0&&(o.Text.length:Int)==0))
   else bif o.Kind==4||o.Kind==5 then zaj o.To&&(o.Path==[]&&(o.At==0&&(o.Text.length:Int)==0))
   else bif o.Kind==6||o.Kind==7 then(decide (0<=o.At)&&decide (o.At<=15))&&(o.Path==[]&&(o.To==[]&&(o.Text.length:Int)==0))
   else false))
structure OpFit (o:Op):Prop where
 fit:Bk.fit o
 path:o.Path.length<=1048576
 to:o.To.length<=1048576
 text:Bk.bulk o.Text<=1048576
theorem OpFit.of {o:Op}(h:Bk.fit o)(hb:Bk.bulk o<=1048576):OpFit o:=by
 have e:Bk.bulk o=Bk.bulk o.Kind+(Bk.bulk o.Branch+(Bk.bulk o.Who+(Bk.bulk o.Path+(Bk.bulk o.To+(Bk.bulk o.At+Bk.bulk o.Text))))):=rfl
 have e1:Bk.bulk o.Path=o.Path.length:=rfl
 have e2:Bk.bulk o.To=o.To.length:=rfl
 exact⟨h,by omega,by omega,by omega⟩
theorem zim (o:Op)(p q r s:Bool):zaF o p q r s=some ((p||o.Path==[])&&((q||o.To==[])&&((r||o.At==0)&&(s||(o.Text.length:Int)==0)))):=by
 unfold zaF
 simp only[jn]
 cases p<;>cases q<;>cases r<;>cases s<;>cases(o.Path==([]:Str))<;>cases(o.To==([]:Str))<;>cases((o.At:Int)==(0:Int))<;>rfl
theorem zeZ {o:Op}(h:OpFit o):zb6 o=some (opB o):=by
 obtain⟨f0,f1,f2,f3,f4,f5,f6⟩:=h.fit
 have ht:=h.text
 have hj:strings_Join o.Text ([]:Str)=some o.Text.flatten:=by
  unfold strings_Join
  have:=zaM ht
  have hs:sumB Bk.bulk o.Text<=1048576:=Nat.le_trans (Nat.le_add_left _ _) ht
  rw[zfh,if_pos ⟨by omega,by rw[zc7];omega⟩]
 have hc:strings_Contains o.Text.flatten ([124]:Str)=some (decide ((124:UInt8)∈o.Text.flatten)):=by
  unfold strings_Contains
  have hs:sumB Bk.bulk o.Text<=1048576:=Nat.le_trans (Nat.le_add_left _ _) ht
  rw[if_pos (by rw[zc7];omega),zdh]
 unfold zb6 opB
 simp only[jn,zbW f1,zbW f2,zbW f4,zdf h.path,zdf h.to,zfd f6,hj,hc,aA,zde,zgF]
 cases zaj o.Branch
 ·rfl
 cases zaj o.Who
 ·rfl
 simp only[aK,aC,Bool.true_and]
 cases(o.Kind==(1:Int))
 case true=>cases zaG o.Path<;>cases zad o.Text<;>cases zbo o.Text<;>cases(o.To==([]:Str))<;>rfl
 cases(o.Kind==(2:Int))
 case true=>cases zaG o.Path<;>cases(o.To==([]:Str))<;>cases(o.At==(0:Int))<;>rfl
 cases(o.Kind==(3:Int))
 case true=>cases zaG o.Path<;>cases zaG o.To<;>cases(o.At==(0:Int))<;>rfl
 simp only[aC]
 cases(o.Kind==(4:Int))<;>cases(o.Kind==(5:Int))<;>cases(o.Kind==(6:Int))<;>cases(o.Kind==(7:Int))<;>cases zaj o.To<;>cases(o.Path==([]:Str))<;>cases(o.At==(0:Int))<;>cases(o.To==([]:Str))<;>cases(decide (0<=o.At)&&decide (o.At<=15))<;>rfl
theorem ze0 {o:Op}(h:OpFit o):zbD o=some (opB o):=by
 obtain⟨f0,f1,f2,f3,f4,f5,f6⟩:=h.fit
 unfold zbD opB
 simp only[jn,zbX f1,zbX f2,zbX f4,zdg h.path,zdg h.to,zdS f6,zim,aA,zfe]
 cases zaj o.Branch
 ·rfl
 cases zaj o.Who
 ·rfl
 simp only[aK,aC,Bool.true_and,Bool.true_or,Bool.false_or,Bool.and_true]
 cases(o.Kind==(1:Int))
 case true=>cases zaG o.Path<;>cases zad o.Text<;>cases zbo o.Text<;>cases(o.To==([]:Str))<;>cases(o.At==(0:Int))<;>rfl
 cases(o.Kind==(2:Int))
 case true=>cases zaG o.Path<;>cases(o.To==([]:Str))<;>cases(o.At==(0:Int))<;>cases((o.Text.length:Int)==0)<;>rfl
 cases(o.Kind==(3:Int))
 case true=>cases zaG o.Path<;>cases zaG o.To<;>cases(o.At==(0:Int))<;>cases((o.Text.length:Int)==0)<;>rfl
 simp only[aC]
 cases(o.Kind==(4:Int))<;>cases(o.Kind==(5:Int))<;>cases(o.Kind==(6:Int))<;>cases(o.Kind==(7:Int))<;>cases zaj o.To<;>cases(o.Path==([]:Str))<;>cases(o.At==(0:Int))<;>cases(o.To==([]:Str))<;>cases((o.Text.length:Int)==0)<;>cases(decide (0<=o.At)&&decide (o.At<=15))<;>rfl
theorem zcf {a b:Str}(h:a.length+b.length<=1000000000):saM a b=some (a++b):=by
 unfold saM
 rw[if_pos]
 simp only[lim]
 omega
def zaX (t:List Str):Str:=(t.map fun s=>(124:UInt8)::s).flatten
theorem zfi {t:List Str}(ht:t.length<=10000000): ∀ (n i m:Nat) (out:Str),i+n=t.length->n<m->out.length+(zaX (t.drop i)).length<=1000000000->
 zap t (fun y1 _=>some y1) m out (i:Int)=some (out++zaX (t.drop i))
 |n,i,0,out,_,hm,_=>by omega
 |0,i,m+1,out,hi,_,_=>by
  obtain rfl:i=t.length:=by omega
  simp only[zap,za3,aC,List.drop_length]
  simp[zaX]
 |n+1,i,m+1,out,hi,hm,hb=>by
  have hlt:i<t.length:=by omega
  have hx:t[i]? =some t[i]:=aB hlt
  have hd:t.drop i=t[i]::t.drop (i+1):=aI hlt
  have hbe:zaX (t.drop i)=(124::t[i])++zaX (t.drop (i+1)):=by rw[hd];rfl
  rw[hbe]at hb
  simp only[List.length_append,aL]at hb
  simp only[zap,zbV hx,zbe hx,aD,aA,zaN hlt (show t.length<=maxi by unfold maxi;omega)]
  rw[zcf (by simp only[aL,List.length_nil];omega),aA,zcf (by simp only[List.length_append,aL,List.length_nil];omega),aA,
   zfi ht n (i+1) m _ (by omega) (by omega) (by simp only[List.length_append,aL,List.length_nil];omega),hbe]
  simp
theorem zhk {o:Op}(ht:o.Text.length<=10000000): ∀ (n i m:Nat) (out:Str),i+n=o.Text.length->n<m->out.length+(zaX (o.Text.drop i)).length<=1000000000->
 zau o (fun y=>some y) m out (i:Int)=some (out++zaX (o.Text.drop i))
 |n,i,0,out,_,hm,_=>by omega
 |0,i,m+1,out,hi,_,_=>by
  obtain rfl:i=o.Text.length:=by omega
  simp only[zau,za3,aC,List.drop_length]
  simp[zaX]
 |n+1,i,m+1,out,hi,hm,hb=>by
  have hlt:i<o.Text.length:=by omega
  have hx:o.Text[i]? =some o.Text[i]:=aB hlt
  have hd:o.Text.drop i=o.Text[i]::o.Text.drop (i+1):=aI hlt
  have hbe:zaX (o.Text.drop i)=(124::o.Text[i])++zaX (o.Text.drop (i+1)):=by rw[hd];rfl
  rw[hbe]at hb
  simp only[List.length_append,aL]at hb
  simp only[zau,zbV hx,zbe hx,aD,aA,zaN hlt (show o.Text.length<=maxi by unfold maxi;omega)]
  rw[zcf (by simp only[aL,List.length_nil];omega),aA,zcf (by simp only[List.length_append,aL,List.length_nil];omega),aA,
   zhk ht n (i+1) m _ (by omega) (by omega) (by simp only[List.length_append,aL,List.length_nil];omega),hbe]
  simp
theorem zcI: ∀ t:List Str,(zaX t).length=Bk.bulk t
 | []=>rfl
 |x::t=>by
  have ih:=zcI t
  have h1:zaX (x::t)=(124::x)++zaX t:=rfl
  have h2:Bk.bulk (x::t)=(t.length+1)+(x.length+sumB Bk.bulk t):=rfl
  have h3:Bk.bulk t=t.length+sumB Bk.bulk t:=rfl
  rw[h1,List.length_append,ih,aL,h2,h3]
  omega
theorem zfj (k:Nat)(hk:k<16):zcx (k:Int)=some (Lib.decDigits k):=by
 have hd:Lib.decDigits k=if k<10 then [UInt8.ofNat (48+k)] else [UInt8.ofNat (48+k / 10),UInt8.ofNat (48+k % 10)]:=by
  rw[Lib.decDigits]
  split
  ·rfl
  ·rw[Lib.decDigits,dif_pos (by omega)]
   rfl
 rw[hd]
 clear hd
 revert k
 decide+kernel
theorem zeu (k:Nat)(hk:k<16):(Lib.decDigits k).length<=2:=by
 rw[Lib.decDigits]
 split
 ·simp
 ·rw[Lib.decDigits,dif_pos (by omega)];simp
def zbL:List Str:=[[],[115,101,116],[100,114,111,112],[109,111,118,101],[102,111,114,107],[117,110,105,116,101],[112,105,99,107],[98,97,99,107]]
theorem zcs {s:Str}(h:zaj s=true):s.length<=6:=by
 unfold zaj at h
 simp only[aG,decide_eq_true_eq]at h
 omega
theorem zd5 {o:Op}(h:opB o=true):o.Branch.length<=6/\o.Who.length<=6/\(o.Kind=1\/o.Kind=2\/o.Kind=3\/o.Kind=4\/o.Kind=5\/((o.Kind=6\/o.Kind=7)/\0<=o.At/\o.At<=15)):=by
 unfold opB at h
 simp only[aG]at h
 obtain⟨h1,h2,h3⟩:=h
 refine⟨zcs h1,zcs h2,?_⟩
 cases e1:o.Kind==1 with
 |true=>exact .inl (by simpa using e1)
 |false=>
 rw[e1,aC]at h3
 cases e2:o.Kind==2 with
 |true=>exact .inr (.inl (by simpa using e2))
 |false=>
 rw[e2,aC]at h3
 cases e3:o.Kind==3 with
 |true=>exact .inr (.inr (.inl (by simpa using e3)))
 |false=>
 rw[e3,aC]at h3
 cases e4:o.Kind==4 with
 |true=>exact .inr (.inr (.inr (.inl (by simpa using e4))))
 |false=>
 cases e5:o.Kind==5 with
 |true=>exact .inr (.inr (.inr (.inr (.inl (by simpa using e5)))))
 |false=>
 rw[e4,e5,Bool.or_false,aC]at h3
 cases e6:(o.Kind==6||o.Kind==7)with
 |false=>rw[e6,aC]at h3;cases h3
 |true=>
  rw[e6,aD]at h3
  simp only[aG,decide_eq_true_eq]at h3
  exact .inr (.inr (.inr (.inr (.inr ⟨by simpa using e6,h3.1.1,h3.1.2⟩))))
def zcJ (o:Op):Str:=
 let w:=zbL.getD o.Kind.toNat []++[32]++o.Branch++[32]++o.Who++[32]
 bif o.Kind==1 then w++o.Path++[32]++zaX o.Text
 else bif o.Kind==2 then w++o.Path
 else bif o.Kind==3 then w++o.Path++[32]++o.To
 else bif o.Kind==4||o.Kind==5 then w++o.To
 else w++Lib.decDigits o.At.toNat
theorem zgG {o:Op}(h:OpFit o)(ho:opB o=true):zbF o=some (zcJ o):=by
 obtain⟨hb,hw,hk⟩:=zd5 ho
 have hp:=h.path
 have ht:=h.to
 have hx:=h.text
 have hl:=zaM hx
 have hbl:=zcI o.Text
 have hj:zaT o.Text=some (zaX o.Text):=by
  unfold zaT
  simp only[jn,zca]
  have:=zfi (t:=o.Text) (by omega) o.Text.length 0 (o.Text.length+1) [] (by omega) (by omega) (by rw[List.drop_zero,hbl];simp;omega)
  simpa using this
 unfold zbF zcJ zbT
 rcases hk with e |e |e |e |e |⟨e |e,h0,h1⟩
 all_goals simp only[e,aA,jn]
 all_goals simp (disch:=(simp only[List.length_append,aL,List.length_nil];omega)) only[gi,zbL,zcf,aA,hj,Int.reduceToNat,Int.reduceLE,↓reduceIte,List.getElem?_cons_succ,List.getElem?_cons_zero,List.getD_cons_succ,List.getD_cons_zero,Int.reduceBEq,aD,aC,Bool.or_false,Bool.or_true,Bool.false_or]
 all_goals
  have hd:=zeu o.At.toNat (by omega)
  have hi:strconv_Itoa o.At=some (Lib.decDigits o.At.toNat):=by unfold strconv_Itoa;rw[if_pos ⟨by omega,by omega⟩]
  rw[hi,aA,zcf (by simp only[List.length_append,aL,List.length_nil];omega),aA]
theorem zgH {o:Op}(h:OpFit o)(ho:opB o=true):zbp o=some (zcJ o):=by
 obtain⟨hb,hw,hk⟩:=zd5 ho
 have hp:=h.path
 have ht:=h.to
 have hx:=h.text
 have hl:=zaM hx
 have hbl:=zcI o.Text
 have hj: ∀ out:Str,out.length<=10000000->zau o (fun y=>some y) (o.Text.length+1) out 0=some (out++zaX o.Text):=fun out hout=>by
  have:=zhk (o:=o) (by omega) o.Text.length 0 (o.Text.length+1) out (by omega) (by omega) (by rw[List.drop_zero,hbl];omega)
  simpa using this
 unfold zbp zcJ zbE
 rcases hk with e |e |e |e |e |⟨e |e,h0,h1⟩
 all_goals simp only[e,aA,jn,zca]
 all_goals simp (disch:=(simp only[List.length_append,aL,List.length_nil];omega)) only[gi,zbL,zcf,aA,hj,Int.reduceToNat,Int.reduceLE,↓reduceIte,List.getElem?_cons_succ,List.getElem?_cons_zero,List.getD_cons_succ,List.getD_cons_zero,Int.reduceBEq,aD,aC,Bool.or_false,Bool.or_true,Bool.false_or]
 all_goals
  have hd:=zeu o.At.toNat (by omega)
  have hi:zcx o.At=some (Lib.decDigits o.At.toNat):=by
   have:=zfj o.At.toNat (by omega)
   rwa [Int.toNat_of_nonneg h0]at this
  rw[hi,aA,zcf (by simp only[List.length_append,aL,List.length_nil];omega),aA]
def zdi (o:Op):Str:=bif opB o then zcJ o else []
theorem zfk {o:Op}(h:OpFit o):zbU o=some (zdi o):=by
 unfold zbU zdi
 rw[zeZ h,aA]
 cases ho:opB o with
 |false=>rfl
 |true=>rw[aK,aC,zgG h ho];rfl
theorem zfl {o:Op}(h:OpFit o):zbS o=some (zdi o):=by
 unfold zbS zdi
 rw[ze0 h,aA]
 cases ho:opB o with
 |false=>rfl
 |true=>rw[aK,aC,zgH h ho];rfl
theorem zdj {o:Op}(h:Bk.fit o):zaL o=some true:=by
 unfold zaL
 rw[zqS h (by omega) (by omega),aA]
 by_cases hb:(Bk.bulk o:Int)<=1048576
 case neg=>rw[if_neg hb];rfl
 rw[if_pos hb,aE (by omega),aC]
 have b1:Bk.bulk o<=1048576:=by omega
 have hf:=OpFit.of h b1
 simp only[zqT b1,aA,zfl hf,zfk hf,bne_self_eq_false,aC,zqU h,aO,aK]
structure FB (f:File):Prop where
 path:f.Path.length<=1048576
 len:f.Text.length<=1048576
 text:Bk.fit f.Text
def TB (t:List File):Prop:=t.length<=1048576 /\ ∀ f∈t,FB f
theorem TB.maxi {t:List File}(h:TB t):t.length<=maxi:=zdV h.1
theorem TB.nil:TB []:=⟨by simp,fun f hf=>by simp at hf⟩
def zbZ:File:=⟨[],[]⟩
theorem zb0 {t:List File}{i:Nat}{f:File}(h:t[i]? =some f):t.getD i zbZ=f:=by simp[List.getD,h]
def zev (t:List File)(i:Nat):Bool:=zaG (t.getD i zbZ).Path&&(zad (t.getD i zbZ).Text&&(bif decide (0< (i:Int)) then Op.bytesLess (t.getD (i-1) zbZ).Path (t.getD i zbZ).Path else true))
def zeV (t:List File)(i:Nat):Bool:=zev t i&&t.all fun f=> !zcH (t.getD i zbZ).Path f.Path
def zaH (t:List File):Bool:=decide ((t.length:Int)<=8)&&zeQ (zeV t) 0 t.length
structure CB (c:Commit):Prop where
 par:c.Parents.length<=1048576
 who:c.Who.length<=1048576
 tree:TB c.Tree
structure RpB (r:Repo):Prop where
 coms:r.Commits.length<=1048576
 com: ∀ c∈r.Commits,CB c
 heads:r.Heads.length<=1048576
 head: ∀ h∈r.Heads,h.Name.length<=1048576
theorem RpB.cat {r:Repo}(h:RpB r){i:Nat}{c:Commit}(hc:r.Commits[i]? =some c):CB c:=h.com c (aH hc)
def zco:Head:=⟨[],0⟩
theorem zbI {t:List Head}{i:Nat}{f:Head}(h:t[i]? =some f):t.getD i zco=f:=by simp[List.getD,h]
def upB (i p:Int):Bool:=decide (0<=p)&&decide (p<=i-1)
def zkl (ps:List Int):Bool:=match ps with
 | [p,q]=> !(p==q)
 |_=>true
def zin (i:Int)(c:Commit):Bool:=c.Parents.all (upB i)&&(decide ((c.Parents.length:Int)<=2)&&(zkl c.Parents&&(zaj c.Who&&zaH c.Tree)))
def noCommit:Commit:=⟨[],[],[]⟩
def zhl (cs:List Commit):Bool:=zeQ (fun i=>zin i (cs.getD i noCommit)) 0 cs.length
def zfm (n:Nat)(hs:List Head)(i:Nat):Bool:=zaj (hs.getD i zco).Name&&(upB n (hs.getD i zco).At&&(bif decide (0< (i:Int)) then Op.bytesLess (hs.getD (i-1) zco).Name (hs.getD i zco).Name else true))
def zcZ (n:Nat)(hs:List Head):Bool:=zeQ (zfm n hs) 0 hs.length&&decide ((hs.length:Int)<=5)
def zaa (r:Repo):Bool:=decide ((r.Commits.length:Int)<=16)&&(zhl r.Commits&&zcZ r.Commits.length r.Heads)
theorem zbJ {t:List Commit}{i:Nat}{f:Commit}(h:t[i]? =some f):t.getD i noCommit=f:=by simp[List.getD,h]
def zbP (n:Str)(a:Int):Bool->List Head->List Head
 |put,[]=>bif put then [] else [⟨n,a⟩]
 |put,h::hs=>(bif !put && !Op.bytesLess h.Name n then [⟨n,a⟩] else [])++((bif h.Name !=n then [h] else [])++zbP n a (put || !Op.bytesLess h.Name n) hs)
theorem zb1 (n:Str)(a:Int): ∀ (hs:List Head) (put:Bool),(zbP n a put hs).length+(bif put then 1 else 0)<=hs.length+1
 | [],put=>by cases put<;>simp[zbP]
 |h::hs,put=>by
  have ih:=zb1 n a hs (put || !Op.bytesLess h.Name n)
  unfold zbP
  cases put<;>cases hb:Op.bytesLess h.Name n<;>cases hn:(h.Name !=n)<;>simp[hb]at ih ⊢ <;>omega
theorem putH_mem (n:Str)(a:Int): ∀ (hs:List Head) (put:Bool) (x:Head),x∈zbP n a put hs->x∈hs\/x=⟨n,a⟩
 | [],put,x,h=>by cases put<;>simp[zbP]at h;exact .inr h
 |h::hs,put,x,hx=>by
  unfold zbP at hx
  rcases List.mem_append.1 hx with h1 |h1
  ·cases hc:(!put && !Op.bytesLess h.Name n)with
   |true=>rw[hc]at h1;simp at h1;exact .inr h1
   |false=>rw[hc]at h1;simp at h1
  ·rcases List.mem_append.1 h1 with h2 |h2
   ·cases hc:(h.Name !=n)with
    |true=>rw[hc]at h2;simp at h2;exact .inl (by rw[h2];simp)
    |false=>rw[hc]at h2;simp at h2
   ·rcases putH_mem n a hs _ x h2 with h3 |h3
    ·exact .inl (List.mem_cons_of_mem _ h3)
    ·exact .inr h3
def headR (r:Repo)(n:Str)(a:Int):Repo:=⟨r.Commits,zbP n a false r.Heads⟩
theorem RpB.headR {r:Repo}(h:RpB r)(hs:r.Heads.length<=100000){n:Str}(hn:n.length<=1048576)(a:Int):RpB (headR r n a):=
 ⟨h.coms,h.com,by have:=zb1 n a r.Heads false;simp at this;show(zbP n a false r.Heads).length<=_;omega,fun x hx=>by
  rcases putH_mem n a r.Heads false x hx with h1 |h1
  ·exact h.head x h1
  ·rw[h1];exact hn⟩
theorem zar {r:Repo}(h:zaa r=true):r.Commits.length<=16/\r.Heads.length<=5:=by
 unfold zaa zcZ at h
 simp only[aG,decide_eq_true_eq]at h
 omega
def zaI:Repo:=⟨[],[]⟩
theorem zbs {t:List File}(h:zaH t=true):t.length<=8:=by
 unfold zaH at h
 simp only[aG,decide_eq_true_eq]at h
 omega
theorem zb2 {r:Repo}(h:zaa r=true){i:Nat}(hi:i<r.Commits.length):zin i (r.Commits.getD i noCommit)=true:=by
 unfold zaa zhl at h
 simp only[aG]at h
 exact zam.1 h.2.1 i (Nat.zero_le _) (by omega)
def zab (r:Repo)(i:Nat):List Int:=(r.Commits.getD i noCommit).Parents
theorem zcl {r:Repo}(h:zaa r=true){x:Head}(hx:x∈r.Heads):0<=x.At/\x.At<=(r.Commits.length:Int)-1/\zaj x.Name=true:=by
 obtain⟨i,hi⟩:=List.mem_iff_getElem?.1 hx
 unfold zaa zcZ at h
 simp only[aG]at h
 have:=zam.1 h.2.2.1 i (Nat.zero_le _) (by have:=zaW hi;omega)
 unfold zfm upB at this
 rw[zbI hi]at this
 simp only[aG,decide_eq_true_eq]at this
 exact⟨this.2.1.1,this.2.1.2,this.1⟩
def zbQ (t:List File):Prop:= ∀ f∈t,zad f.Text=true
theorem za5 {t:List File}(h:zaH t=true):zbQ t:=by
 intro f hf
 obtain⟨i,hi⟩:=List.mem_iff_getElem?.1 hf
 unfold zaH at h
 simp only[aG]at h
 have:=zam.1 h.2 i (Nat.zero_le _) (by have:=zaW hi;omega)
 unfold zeV zev at this
 rw[zb0 hi]at this
 simp only[aG]at this
 exact this.1.2.1
theorem za6 {t:List File}(h:zaH t=true){f:File}(hf:f∈t):zaG f.Path=true:=by
 obtain⟨i,hi⟩:=List.mem_iff_getElem?.1 hf
 unfold zaH at h
 simp only[aG]at h
 have:=zam.1 h.2 i (Nat.zero_le _) (by have:=zaW hi;omega)
 unfold zeV zev at this
 rw[zb0 hi]at this
 simp only[aG]at this
 exact this.1.1
theorem zc8 (c:UInt8): ∀ (r w:Str),w.length+r.length+1=sumB (fun p=>p.length+1) (curS c w r)
 | [],w=>by simp[curS,sumB]
 |x::r,w=>by
  unfold curS
  cases x==c with
  |true=>
   rw[aD]
   have:=zc8 c r []
   simp only[sumB,List.length_nil,aL]at this ⊢
   omega
  |false=>
   rw[aC]
   have:=zc8 c r (w++[x])
   simp only[List.length_append,aL,List.length_nil]at this ⊢
   omega
theorem zhm {c:Nat}: ∀ {l:List Str},(∀ p∈l,p.length+1<=c)->sumB (fun p=>p.length+1) l<=c*l.length
 | [],_=>by simp[sumB]
 |x::l,h=>by
  have h1:=h x (by simp)
  have h2:=zhm (c:=c) (l:=l) (fun p hp=>h p (List.mem_cons_of_mem _ hp))
  simp only[sumB,aL,Nat.mul_add,Nat.mul_one]
  omega
theorem zbh {s:Str}(h:zaj s=true):s.length<=6:=by
 unfold zaj at h
 simp only[aG,decide_eq_true_eq]at h
 omega
theorem zct {s:Str}(h:zaG s=true):s.length<=20:=by
 unfold zaG at h
 simp only[aG,decide_eq_true_eq,List.all_eq_true]at h
 have h1:=zc8 47 s []
 have h2:=zhm (c:=7) (l:=curS 47 [] s) (fun p hp=>by have:=zbh (h.2 p hp);omega)
 simp only[List.length_nil]at h1
 omega
structure Gd (q:Prop) (r:Repo):Prop where
 rb:RpB r
 ok:zaa r=true
 hd:q->r.Commits≠ []->r.Heads≠ []
variable {q:Prop}
def zac (r:Repo)(i:Nat):List File:=(r.Commits.getD i noCommit).Tree
theorem Gd.tree {r:Repo}(h:Gd q r){i:Nat}(hi:i<r.Commits.length):TB (zac r i)/\zaH (zac r i)=true/\zbQ (zac r i)/\(zac r i).length<=8:=by
 have hx:r.Commits[i]? =some r.Commits[i]:=aB hi
 have h1:zaH (zac r i)=true:=by
  have:=zb2 h.ok hi
  unfold zin at this
  simp only[aG]at this
  exact this.2.2.2.2
 refine⟨?_,h1,za5 h1,zbs h1⟩
 unfold zac
 rw[zbJ hx]
 exact(h.rb.cat hx).tree
theorem zew (n:Str)(a:Int): ∀ (hs:List Head),zbP n a false hs≠ []
 | []=>by simp[zbP]
 |h::hs=>by
  unfold zbP
  cases hb:Op.bytesLess h.Name n
  ·simp
  ·have:=zew n a hs
   cases(h.Name !=n)<;>simp[this]
theorem Gd.head {r:Repo}(h:Gd q r){n:Str}{b:Int}(hn:n.length<=1048576)(ho:zaa (headR r n b)=true):Gd q (headR r n b):=by
 obtain⟨s1,s2⟩:=zar h.ok
 exact⟨h.rb.headR (by omega) hn b,ho,fun _ _=>zew _ _ _⟩
end Go.Vm
namespace Go.Vm
open Go Go.Sx
set_option linter.unusedSimpArgs false
set_option linter.unusedVariables false
section
variable {r:l30Rd}{p:Int}
structure Drawn (r:Repo):Prop where
 rb:RpB r
 coms:r.Commits.length<=16
 heads:r.Heads.length<=6
theorem Gd.drawn {r:Repo}(h:Gd True r):Drawn r:=by
 obtain⟨s1,s2⟩:=zar h.ok
 exact⟨h.rb,s1,by omega⟩
end
inductive Rc (r:Repo):Nat->Nat->Prop
 |refl (a:Nat):Rc r a a
 |step {a b:Nat} {p:Int}:Rc r a b->p∈zab r b->Rc r a p.toNat
theorem Rc.head {r:Repo}{a c:Nat}(h:Rc r a c):c=a \/ ∃ p∈zab r a,Rc r p.toNat c:=by
 induction h with
 |refl=>exact .inl rfl
 | @step b p hb hp ih=>
  rcases ih with e |⟨q,hq,hc⟩
  ·subst e
   exact .inr ⟨p,hp,Rc.refl _⟩
  ·exact .inr ⟨q,hq,Rc.step hc hp⟩
theorem TB.of {t:List File}(hf:Bk.fit t)(h:Bk.bulk t<=1048576):TB t:=⟨zaM h,fun f hm=>by
 have h1:Bk.bulk f<=1048576:=zcN h hm
 have h2:Bk.bulk f=f.Path.length+Bk.bulk f.Text:=rfl
 exact⟨by omega,zaM (show Bk.bulk f.Text<=1048576 by omega),(hf.2 f hm).2⟩⟩
theorem RpB.of {r:Repo}(hf:Bk.fit r)(h:Bk.bulk r<=1048576):RpB r:=by
 have h0:Bk.bulk r=Bk.bulk r.Commits+Bk.bulk r.Heads:=rfl
 have hc:Bk.bulk r.Commits<=1048576:=by omega
 have hh:Bk.bulk r.Heads<=1048576:=by omega
 refine⟨zaM hc,fun c hm=>?_,zaM hh,fun x hm=>?_⟩
 ·have h1:Bk.bulk c<=1048576:=zcN hc hm
  have h2:Bk.bulk c=Bk.bulk c.Parents+(c.Who.length+Bk.bulk c.Tree):=rfl
  exact⟨zaM (show Bk.bulk c.Parents<=1048576 by omega),by omega,TB.of (hf.1.2 c hm).2.2 (by omega)⟩
 ·have h1:Bk.bulk x<=1048576:=zcN hh hm
  have h2:Bk.bulk x=x.Name.length+0:=rfl
  omega
def zd6 (p:Int):Prop:= -9223372036854775808<=p/\p<=9223372036854775807
section
variable {r:Repo}{has:List Int}{sent:List Commit}
end
set_option linter.unusedSectionVars false
structure SentB (sent:List Commit):Prop where
 len:sent.length<=16
 cb: ∀ c∈sent,CB c
 fit: ∀ c∈sent,∀ p∈c.Parents,zd6 p
theorem SentB.take {sent:List Commit}(h:SentB sent)(k:Nat):SentB (sent.take k):=
 ⟨Nat.le_trans (List.length_take_le' k sent) h.len,fun c hc=>h.cb c (List.mem_of_mem_take hc),fun c hc=>h.fit c (List.mem_of_mem_take hc)⟩
section
variable {x:Repo}(hr:zaa x=true){a b:Int}(ha:upB x.Commits.length a=true)(hb:upB x.Commits.length b=true)
include hr ha
include hb
end
theorem zbB {α:Type}{f:α->Nat}{c:Nat}: ∀ {t:List α},(∀ s∈t,f s<=c)->sumB f t<=c*t.length
 | [],_=>by simp[sumB]
 |x::t,h=>by
  have h1:=h x (by simp)
  have h2:=zbB (t:=t) (fun s hs=>h s (by simp[hs]))
  simp only[sumB,aL,Nat.mul_add,Nat.mul_one]
  omega
theorem zgI {t:List Str}(h:zad t=true):Bk.bulk t<=130:=by
 have hl:=zaJ h
 have hs:sumB Bk.bulk t<=12*t.length:=zbB fun s hs=>by
  have:=zcW (zaV h s hs)
  show s.length<=12
  omega
 show t.length+sumB Bk.bulk t<=130
 omega
theorem zgJ {t:List File}(h:zaH t=true):Bk.bulk t<=1208:=by
 have hl:=zbs h
 have hs:sumB Bk.bulk t<=150*t.length:=zbB fun f hf=>by
  have h1:=zct (za6 h hf)
  have h2:=zgI (za5 h f hf)
  show f.Path.length+Bk.bulk f.Text<=150
  omega
 show t.length+sumB Bk.bulk t<=1208
 omega
theorem zhn {r:Repo}(h:zaa r=true){c:Commit}(hc:c∈r.Commits):c.Parents.length<=2/\(∀ p∈c.Parents,0<=p/\p<=16)/\zaj c.Who=true/\zaH c.Tree=true:=by
 obtain⟨i,hi⟩:=List.mem_iff_getElem?.1 hc
 have hil:=zaW hi
 have s1:=(zar h).1
 have:=zb2 h (i:=i) (by omega)
 rw[zbJ hi]at this
 unfold zin at this
 simp only[aG,decide_eq_true_eq,List.all_eq_true]at this
 refine⟨by omega,fun p hp=>?_,this.2.2.2.1,this.2.2.2.2⟩
 have h1:=this.1 p hp
 unfold upB at h1
 simp only[aG,decide_eq_true_eq]at h1
 omega
theorem zgK {r:Repo}(h:zaa r=true):Bk.bulk r<=20000:=by
 obtain⟨s1,s2⟩:=zar h
 have h1:sumB Bk.bulk r.Commits<=1218*r.Commits.length:=zbB fun c hc=>by
  obtain⟨c1,_,c3,c4⟩:=zhn h hc
  have:=zbh c3
  have:=zgJ c4
  have hp:sumB Bk.bulk c.Parents<=0*c.Parents.length:=zbB fun p hp=>Nat.le_refl 0
  show c.Parents.length+sumB Bk.bulk c.Parents+(c.Who.length+Bk.bulk c.Tree)<=1218
  omega
 have h2:sumB Bk.bulk r.Heads<=6*r.Heads.length:=zbB fun x hx=>by
  have:=zbh (zcl h hx).2.2
  show x.Name.length+0<=6
  omega
 show r.Commits.length+sumB Bk.bulk r.Commits+(r.Heads.length+sumB Bk.bulk r.Heads)<=20000
 omega
theorem zgL {t:List File}(h:zaH t=true):Bk.fit t:=⟨by have:=zbs h;unfold maxi;omega,fun f hf=>⟨by have:=zct (za6 h hf);show f.Path.length<=maxi;unfold maxi;omega,by
 have h1:=za5 h f hf
 have h2:=zaJ h1
 exact zd3 (by omega) (zaV h1)⟩⟩
theorem zgM {r:Repo}(h:zaa r=true):Bk.fit r:=by
 obtain⟨s1,s2⟩:=zar h
 refine⟨⟨by unfold maxi;omega,fun c hc=>?_⟩,by unfold maxi;omega,fun x hx=>?_⟩
 ·obtain⟨c1,c2,c3,c4⟩:=zhn h hc
  refine⟨⟨by unfold maxi;omega,fun p hp=>?_⟩,by have:=zbh c3;show c.Who.length<=maxi;unfold maxi;omega,zgL c4⟩
  have:=c2 p hp
  show -9223372036854775808<=p/\p<=9223372036854775807
  omega
 ·obtain⟨h1,h2,h3⟩:=zcl h hx
  refine⟨by have:=zbh h3;show x.Name.length<=maxi;unfold maxi;omega,?_⟩
  show -9223372036854775808<=x.At/\x.At<=9223372036854775807
  omega
section
variable {r:Repo}(h:RpB r)(hr:zaa r=true)
include h hr
end
def zmd (r:Repo)(n:Str)(x:Repo):Prop:=x=r\/x=zaI\/zaa x=true
theorem zmd.bulk {r x:Repo}{n:Str}(h:zmd r n x):Bk.bulk x<=Bk.bulk r+20000:=by
 rcases h with h |h |h
 ·rw[h];omega
 ·rw[h];show 0+0+(0+0)<=_;omega
 ·have:=zgK h;omega
theorem zmd.fit {r x:Repo}{n:Str}(hf:Bk.fit r)(h:zmd r n x):Bk.fit x:=by
 rcases h with h |h |h
 ·rw[h];exact hf
 ·rw[h];exact⟨⟨by simp[zaI,maxi],by simp[zaI]⟩,by simp[zaI,maxi],by simp[zaI]⟩
 ·exact zgM h
def OD (n:Nat)(l:List Owner):Prop:=l.length<=n /\ ∀ o∈l,o.Path.length<=10/\o.Who.length<=10
theorem OD.fit {n:Nat}{l:List Owner}(h:OD n l)(hn:n<=1000):Bk.fit l:=⟨by have:=h.1;unfold maxi;omega,fun o ho=>by
 have:=h.2 o ho
 exact⟨by show o.Path.length<=maxi;unfold maxi;omega,by show o.Who.length<=maxi;unfold maxi;omega⟩⟩
end Go.Vm
