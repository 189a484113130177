/- Plain law FnExactOpGet, and what it uses: what the models answer. Conditions: each law's own premises. -/
import Derived.Test.YtifbmanldeabeaaDoorAM0
import Derived.Test.YtifbmanldeabeaaDoorALw
import Derived.Sort.Walk0
import Derived.Lib.SplitLaws
import Derived.Test.YtifbmanldeabeaaDoorAX
import Derived.Lib.Join
import Derived.Lib.ItoaNum
import Derived.Lib.AtoiAllCases
namespace Go.Vm
open Go Go.Sx
set_option linter.unusedSimpArgs false
set_option linter.unusedVariables false
def chB (c:UInt8):Bool:= !(decide ((c.toNat:Int)<32)||decide (126< (c.toNat:Int)))
def zbD (s:Str):Bool:= !decide (12< (s.length:Int))&&s.all chB
def zaf (xs:List Str):Bool:= !decide (10< (xs.length:Int))&&xs.all zbD
theorem zfN (a b:Int):decide (a<=b) = !decide (b<a):=by
 by_cases h:a<=b
 ·rw[aF h,aE (by omega)];rfl
 ·rw[aE h,aF (by omega)];rfl
theorem zfO {s:Str}(h:s.length<=maxi):zbX s=some (zbD s):=by
 unfold zbX zbD
 simp only[jn,zcv]
 cases decide ((12:Int)< (s.length:Int))
 case true=>rfl
 rw[aC,zaH (α:=UInt8) (xs:=s) (p:=chB) (r0:=some false) (Z:=some true) (f:=fun m i=>zaQ s (fun _ _=>some true) m false i) (fun m i x hx=>by
  simp only[zaQ,jn,zb9 hx,zcS hx,aD,aA,zaU (za5 hx) h,chB]
  cases decide ((x.toNat:Int)<32)<;>cases decide (126< (x.toNat:Int))<;>rfl) (fun m=>by simp only[zaQ,zbf,aC]) (by omega)]
 cases s.all chB<;>rfl
theorem zfP {s:Str}(h:s.length<=maxi):zbW s=some (zbD s):=by
 unfold zbW zbD
 simp only[jn,zcv,zfN]
 rw[zaH (α:=UInt8) (xs:=s) (p:=chB) (r0:=some false) (Z:=some (!decide (12< (s.length:Int)))) (f:=fun m i=>zaN s (fun _ _=>some (!decide (12< (s.length:Int)))) m false i) (fun m i x hx=>by
  simp only[zaN,jn,zb9 hx,zcS hx,aD,aA,zaU (za5 hx) h,chB]
  cases decide ((x.toNat:Int)<32)<;>cases decide (126< (x.toNat:Int))<;>rfl) (fun m=>by simp only[zaN,zbf,aC]) (by omega)]
 cases s.all chB<;>cases decide (12< (s.length:Int))<;>rfl
theorem zfQ {xs:List Str}(h:Bk.fit xs):zbY xs=some (zaf xs):=by
 have hl:=zdE h
 unfold zbY zaf
 simp only[jn,zcv]
 cases decide ((10:Int)< (xs.length:Int))
 case true=>rfl
 rw[aC,zaH (α:=Str) (xs:=xs) (p:=zbD) (r0:=some false) (Z:=some true) (f:=fun m i=>zaR xs (fun _ _=>some true) m false i) (fun m i x hx=>by
  have hx2:x.length<=maxi:=zgV h hx
  simp only[zaR,zb9 hx,zbl hx,aD,aA,zaU (za5 hx) hl,zfO hx2]
  cases zbD x<;>rfl) (fun m=>by simp only[zaR,zbf,aC]) (by omega)]
 cases xs.all zbD<;>rfl
theorem zi9 {xs:List Str}(h:Bk.fit xs):zcF xs=some (zaf xs):=by
 have hl:=zdE h
 unfold zcF zaf
 simp only[jn,zcv,zfN]
 rw[zaH (α:=Str) (xs:=xs) (p:=zbD) (r0:=some false) (Z:=some (!decide (10< (xs.length:Int)))) (f:=fun m i=>za9 xs (fun _ _=>some (!decide (10< (xs.length:Int)))) m false i) (fun m i x hx=>by
  have hx2:x.length<=maxi:=zgV h hx
  simp only[za9,zb9 hx,zbl hx,aD,aA,zaU (za5 hx) hl,zfP hx2]
  cases zbD x<;>rfl) (fun m=>by simp only[za9,zbf,aC]) (by omega)]
 cases xs.all zbD<;>cases decide (10< (xs.length:Int))<;>rfl
theorem za1 {t:List Str}(h:zaf t=true):t.length<=10:=by
 unfold zaf at h
 simp only[aG,Bool.not_eq_true',decide_eq_false_iff_not]at h
 omega
theorem zbc {t:List Str}(h:zaf t=true): ∀ s∈t,zbD s=true:=by
 unfold zaf at h
 simp only[aG,List.all_eq_true]at h
 exact h.2
theorem zdn {s:Str}(h:zbD s=true):s.length<=12:=by
 unfold zbD at h
 simp only[aG,Bool.not_eq_true',decide_eq_false_iff_not]at h
 omega
theorem ze6 (u:UInt8):0<=((UInt8.toNat u:Nat):Int)/\((UInt8.toNat u:Nat):Int)<=255:=by
 have:=UInt8.toNat_lt u
 omega
end Go.Vm
namespace Go.Sx
open Go
end Go.Sx
namespace Go.Vm
open Go Go.Sx
set_option linter.unusedSimpArgs false
set_option linter.unusedVariables false
section
variable {o a b:List Str}{Q:Part->Prop}
end
section
variable {xs:List Memo}{o a b:List Str}
theorem zeA {s:List Str}(h:s.length<=1000000)(hl: ∀ x∈s,zbD x=true):Bk.fit s:=⟨by unfold maxi;omega,fun x hx=>by have:=zdn (hl x hx);show x.length<=maxi;unfold maxi;omega⟩
end
def LB (n:Nat)(t:List Str):Prop:=t.length<=n /\ ∀ s∈t,s.length<=100
theorem LB.fit {n:Nat}{t:List Str}(h:LB n t)(hn:n<=1000000):Bk.fit t:=⟨by have:=h.1;unfold maxi;omega,fun s hs=>by have:=h.2 s hs;show s.length<=maxi;unfold maxi;omega⟩
theorem zcy {α:Type}{f:α->Nat}{c:Nat}: ∀ {t:List α},(∀ s∈t,f s<=c)->zaj f t<=c*t.length
 | [],_=>by simp[zaj]
 |x::t,h=>by
  have h1:=h x (by simp)
  have h2:=zcy (t:=t) (fun s hs=>h s (by simp[hs]))
  simp only[zaj,aL,Nat.mul_add,Nat.mul_one]
  omega
theorem LB.bulk {n:Nat}{t:List Str}(h:LB n t):Bk.bulk t<=101*n:=by
 have h1:zaj Bk.bulk t<=100*t.length:=zcy (f:=fun s:Str=>s.length) (c:=100) (fun s hs=>h.2 s hs)
 have:=h.1
 rw[zlL]
 omega
section
variable {r:l30Rd}{p:Int}
end
open Go Go.Sx Go.Proofs
def zdf (c:UInt8):Bool:=(decide (97<=(c.toNat:Int))&&decide ((c.toNat:Int)<=122))||(decide (48<=(c.toNat:Int))&&decide ((c.toNat:Int)<=57))
def zaq (s:Str):Bool:=(decide (1<=(s.length:Int))&&decide ((s.length:Int)<=6))&&s.all zdf
theorem zek (c:UInt8):zbv c=some (zdf c):=by
 unfold zbv zdf
 simp only[jn]
 cases decide (97<=(c.toNat:Int))<;>cases decide ((c.toNat:Int)<=122)<;>cases decide (48<=(c.toNat:Int))<;>cases decide ((c.toNat:Int)<=57)<;>rfl
theorem zdH (a b c:Int):zbI a b c=some (decide (b<=a)&&decide (a<=c)):=by
 unfold zbI
 simp only[jn]
 cases decide (b<=a)<;>rfl
theorem zfR (a b c:Int):zct a b c=some (decide (b<=a)&&decide (a<=c)):=by
 unfold zct
 simp only[jn]
 cases decide (b<=a)<;>rfl
theorem zcj {s:Str}(h:s.length<=maxi):zbi s=some (zaq s):=by
 unfold zbi zaq
 simp only[jn,zcv,zdH,aA]
 cases(decide (1<=(s.length:Int))&&decide ((s.length:Int)<=6))
 case false=>rfl
 simp only[aK,aC,Bool.true_and]
 rw[zaH (α:=UInt8) (xs:=s) (p:=zdf) (r0:=some false) (Z:=some true) (f:=fun m i=>zaO s (fun _ _=>some true) m false i) (fun m i x hx=>by
  simp only[zaO,jn,zb9 hx,zcS hx,aD,aA,zaU (za5 hx) h,zek]
  cases zdf x<;>rfl) (fun m=>by simp only[zaO,zbf,aC]) (by omega)]
 cases s.all zdf<;>rfl
theorem zlm (a b:Int):decide (a<b) = !decide (b<=a):=by
 by_cases h:a<b
 ·rw[aF h,aE (by omega)];rfl
 ·rw[aE h,aF (by omega)];rfl
theorem zck {s:Str}(h:s.length<=maxi):zbg s=some (zaq s):=by
 unfold zbg zaq
 simp only[jn,zcv,zfR,aA]
 rw[zaH (α:=UInt8) (xs:=s) (p:=zdf) (r0:=some false) (Z:=some (decide (1<=(s.length:Int))&&decide ((s.length:Int)<=6))) (f:=fun m i=>zaL s (fun _ _=>some (decide (1<=(s.length:Int))&&decide ((s.length:Int)<=6))) m false i) (fun m i x hx=>by
  simp only[zaL,jn,zb9 hx,zcS hx,aD,aA,zaU (za5 hx) h,zlm,zdf]
  cases decide (97<=(x.toNat:Int))<;>cases decide ((x.toNat:Int)<=122)<;>cases decide (48<=(x.toNat:Int))<;>cases decide ((x.toNat:Int)<=57)<;>rfl) (fun m=>by simp only[zaL,zbf,aC]) (by omega)]
 cases s.all zdf<;>cases(decide (1<=(s.length:Int))&&decide ((s.length:Int)<=6))<;>rfl
def RB (n:Nat)(v:Review):Prop:=v.Branch.length<=4/\v.Into.length<=4/\v.By.length<=4/\LB n v.Yes
theorem RB.fit {n:Nat}{v:Review}(h:RB n v)(hn:n<=1000):Bk.fit v:=
 ⟨by have:=h.1;show v.Branch.length<=maxi;unfold maxi;omega,by have:=h.2.1;show v.Into.length<=maxi;unfold maxi;omega,by have:=h.2.2.1;show v.By.length<=maxi;unfold maxi;omega,h.2.2.2.fit (by omega)⟩
def curS (c:UInt8):Str->Str->List Str
 |w,[]=>[w]
 |w,x::r=>bif x==c then w::curS c [] r else curS c (w++[x]) r
def zaK (c:UInt8):Nat->Str->Str->List Str
 |_,w,[]=>[w]
 |0,w,x::r=>[w++x::r]
 |n+1,w,x::r=>bif x==c then w::zaK c n [] r else zaK c (n+1) (w++[x]) r
theorem zdu (c:UInt8): ∀ (r w:Str),1<=(curS c w r).length
 | [],w=>by simp[curS]
 |x::r,w=>by
  unfold curS
  cases x==c
  ·exact zdu c r _
  ·simp
theorem zaS (c:UInt8)(w r:Str):zaK c 0 w r=[w++r]:=by
 cases r<;>simp[zaK]
theorem zaT (c:UInt8): ∀ (r:Str) (n:Nat) (w:Str),(curS c w r).length<=n+1->zaK c n w r=curS c w r
 | [],n,w,h=>by cases n<;>simp[zaK,curS]
 |x::r,0,w,h=>by
  unfold curS at h ⊢
  cases hx:x==c with
  |true=>
   rw[hx,aD]at h
   have:=zdu c r []
   rw[aL]at h
   omega
  |false=>
   rw[hx,aC]at h
   have ih:=zaT c r 0 (w++[x]) h
   rw[aC,<- ih,zaS,zaS]
   simp
 |x::r,n+1,w,h=>by
  unfold curS at h ⊢
  unfold zaK
  cases hx:x==c with
  |true=>
   rw[hx,aD,aL]at h
   rw[aD,aD,zaT c r n [] (by omega)]
  |false=>
   rw[hx,aC]at h
   rw[aC,aC,zaT c r (n+1) _ h]
theorem zcl (c:UInt8): ∀ (r:Str) (n:Nat) (w:Str),n+1<=(curS c w r).length->(zaK c n w r).length=n+1
 | [],n,w,h=>by
  simp[curS]at h
  subst h
  simp[zaK]
 |x::r,0,w,h=>by simp[zaK]
 |x::r,n+1,w,h=>by
  unfold curS at h
  unfold zaK
  cases hx:x==c with
  |true=>
   rw[hx,aD,aL]at h
   rw[aD,aL,zcl c r n [] (by omega)]
  |false=>
   rw[hx,aC]at h
   rw[aC,zcl c r (n+1) _ h]
theorem zcZ {c:UInt8}{w:Str}(h:c∉w):Lib.index w [c] = -1:=Lib.index_none fun j hj=>by
 cases ho:Lib.occAt w [c] j with
 |false=>rfl
 |true=>exact absurd (aH (Lib.occAt_head rfl ho)) h
theorem zdv {c:UInt8}{w r:Str}(h:c∉w):Lib.index (w++c::r) [c]=((w.length:Nat):Int):=Lib.index_first (by simp) (by simp[Lib.occAt,List.isPrefixOf]) fun j hj=>by
 cases ho:Lib.occAt (w++c::r) [c] j with
 |false=>rfl
 |true=>
  have:=Lib.occAt_head rfl ho
  rw[aM hj]at this
  exact absurd (aH this) h
theorem zc0 (c:UInt8): ∀ (r w:Str),c∉w->Lib.split (w++r) [c]=curS c w r
 | [],w,h=>by
  unfold Lib.split curS
  rw[List.append_nil,Lib.count_miss (zcZ h)]
  rfl
 |x::r,w,h=>by
  unfold curS
  cases hx:x==c with
  |true=>
   have e:x=c:=by simpa using hx
   subst e
   have hi:=zdv (r:=r) h
   rw[aD]
   have ih:=zc0 x r [] (by simp)
   unfold Lib.split at ih ⊢
   have hd:(w++x::r).drop (w.length+1)=r:=by
    rw[show w++x::r=(w++[x])++r by simp,List.drop_left' (by simp)]
   have hc:Lib.count (w++x::r) [x]=Lib.count r [x]+1:=by
    rw[Lib.count_hit (by simp) hi]
    show 1+Lib.count ((w++x::r).drop (w.length+1)) [x]=_
    rw[hd]
    omega
   rw[hc]
   unfold Lib.splitK
   rw[if_neg (by rw[hi];simp),hi]
   have e1:(w++x::r).take (((w.length:Nat):Int).toNat+0)=w:=by simp
   have e2:(w++x::r).drop (((w.length:Nat):Int).toNat+[x].length)=r:=hd
   rw[e1,e2]
   simp only[List.nil_append]at ih
   rw[ih]
  |false=>
   have hne:x≠c:=by simpa using hx
   rw[aC,show w++x::r=(w++[x])++r by simp]
   exact zc0 c r (w++[x]) (by
    rw[List.mem_append,List.mem_singleton]
    rintro(h1 |h1)
    ·exact h h1
    ·exact hne h1.symm)
theorem zeB (c:UInt8)(s:Str):Lib.split s [c]=curS c [] s:=zc0 c s [] (by simp)
theorem zfS (u c:UInt8):(((UInt8.toNat u:Nat):Int)==((UInt8.toNat c:Nat):Int))=(u==c):=by
 have: ∀ b c:Bool,(b=true↔c=true)->b=c:=by decide
 apply this
 rw[beq_iff_eq,beq_iff_eq,<- UInt8.toNat_inj]
 omega
theorem zfT {s:Str}{c:UInt8}{most:Nat}(hs:s.length<=1048576)(hm:most<=1000): ∀ (n:Nat) (out:List Str) (from_ i m:Nat),i+n=s.length->n<m->from_<=i->out.length<=most->
 zbr s c (most:Int) (fun y3 y6 y7=>(slM s y6 (s.length:Int)).bind fun q38=>(apM y3 [q38]).bind fun q43=>some q43) m out (from_:Int) (i:Int)=some (out++zaK c (most-out.length) ((s.take i).drop from_) (s.drop i))
 |n,out,f,i,0,_,hm,_,_=>by omega
 |n,out,f,i,m+1,hi,hn,hf,ho=>by
  have hdone:(slM s (f:Int) (s.length:Int)).bind (fun q38=>(apM out [q38]).bind fun q43=>some q43)=some (out++[s.drop f]):=by
   rw[zd3 (by omega),aA,ap1 (by omega),aA]
  have hw:(s.take i).drop f++s.drop i=s.drop f:=by
   rw[<- List.drop_append_of_le_length (by simp;omega),List.take_append_drop]
  simp only[zbr,jn]
  by_cases h1:(i:Int)< (s.length:Int)
  case neg=>
   rw[aE h1,aC,aC,hdone]
   have:s.drop i=[]:=List.drop_eq_nil_of_le (by omega)
   rw[this]at hw ⊢
   rw[List.append_nil]at hw
   rw[hw]
   cases most-out.length<;>simp[zaK]
  rw[aF h1,aD]
  have hlt:i<s.length:=by omega
  have hx:s[i]? =some s[i]:=aB hlt
  by_cases h2:(out.length:Int)< (most:Int)
  case neg=>
   rw[aE h2,aC,hdone]
   have:most-out.length=0:=by omega
   rw[this,zaS,hw]
  obtain⟨n,rfl⟩: ∃ k,n=k+1:=⟨n-1,by omega⟩
  obtain⟨k,hk⟩: ∃ k,most-out.length=k+1:=⟨most-out.length-1,by omega⟩
  rw[aF h2,aD,zcS hx,aA,zfS,hk,aI hlt]
  unfold zaK
  cases hb:s[i]==c with
  |true=>
   rw[aD,aD,zlM (by omega) (by omega) (by omega),aA,ap1 (by omega),aA,zaU hlt (by unfold maxi;omega),zfT hs hm n _ (i+1) (i+1) m (by omega) (by omega) (by omega) (by simp;omega)]
   have e1:most-(out++[((s.take ((i:Nat):Int).toNat)).drop ((f:Nat):Int).toNat]).length=k:=by simp;omega
   have e2:(s.take (i+1)).drop (i+1)=[]:=List.drop_eq_nil_of_le (by simp;omega)
   rw[e1,e2]
   simp
  |false=>
   rw[aC,aC,zaU hlt (by unfold maxi;omega),zfT hs hm n _ f (i+1) m (by omega) (by omega) (by omega) ho,hk]
   have e2:(s.take (i+1)).drop f=(s.take i).drop f++[s[i]]:=by
    rw[List.take_add_one,hx]
    rw[List.drop_append_of_le_length (by simp;omega)]
    rfl
   rw[e2]
theorem zdw {s:Str}{c:UInt8}{most:Nat}(hs:s.length<=1048576)(hm:most<=1000):za4 s c (most:Int)=some (zaK c most [] s):=by
 unfold za4
 simp only[jn]
 have:=zfT (c:=c) (most:=most) hs hm s.length [] 0 0 (s.length+1) (by omega) (by omega) (Nat.le_refl _) (by simp)
 simpa using this
def zaG (s:Str):Bool:=decide ((curS 47 [] s).length<=3)&&(curS 47 [] s).all zaq
theorem zdx (c:UInt8): ∀ (r w:Str),∀ p∈curS c w r,p.length<=w.length+r.length
 | [],w,p,h=>by simp[curS]at h;rw[h];omega
 |x::r,w,p,h=>by
  unfold curS at h
  cases hx:x==c with
  |true=>
   rw[hx,aD]at h
   rcases List.mem_cons.1 h with e |e
   ·rw[e];omega
   ·have:=zdx c r [] p e
    simp at this ⊢
    omega
  |false=>
   rw[hx,aC]at h
   have:=zdx c r (w++[x]) p h
   simp at this ⊢
   omega
theorem zbS (c:UInt8): ∀ (r w:Str),(curS c w r).length<=r.length+1
 | [],w=>by simp[curS]
 |x::r,w=>by
  unfold curS
  cases x==c
  ·have:=zbS c r (w++[x]);simp at this ⊢;omega
  ·have:=zbS c r [];simp at this ⊢;omega
theorem zdI {s:Str}(h:s.length<=1048576):zbj s=some (zaG s):=by
 unfold zbj strings_Split zaG
 rw[if_pos ⟨by omega,by simp⟩,aA,zeB]
 have hl:=zbS 47 s []
 by_cases h3:(3:Int)< ((curS 47 [] s).length:Int)
 ·rw[aF h3,aD,aE (by omega)];rfl
 rw[aE h3,aC,aF (by omega),Bool.true_and]
 simp only[jn,zcv]
 rw[zaH (α:=Str) (xs:=curS 47 [] s) (p:=zaq) (r0:=some false) (Z:=some true) (f:=fun m i=>zaP (curS 47 [] s) (fun _ _=>some true) m false i) (fun m i x hx=>by
  have hf:=zdx 47 s [] x (aH hx)
  simp only[zaP,zb9 hx,zbl hx,aD,aA,zaU (za5 hx) (show(curS 47 [] s).length<=maxi by unfold maxi;omega),zcj (show x.length<=maxi by unfold maxi;simp at hf;omega)]
  cases zaq x<;>rfl) (fun m=>by simp only[zaP,zbf,aC]) (by omega)]
 cases(curS 47 [] s).all zaq<;>rfl
theorem zcT (c:UInt8): ∀ (r:Str) (n:Nat) (w:Str),∀ p∈zaK c n w r,p.length<=w.length+r.length
 | [],n,w,p,h=>by cases n<;>simp[zaK]at h<;>rw[h]<;>omega
 |x::r,0,w,p,h=>by simp[zaK]at h;rw[h];simp
 |x::r,n+1,w,p,h=>by
  unfold zaK at h
  cases hx:x==c with
  |true=>
   rw[hx,aD]at h
   rcases List.mem_cons.1 h with e |e
   ·rw[e];omega
   ·have:=zcT c r n [] p e
    simp at this ⊢
    omega
  |false=>
   rw[hx,aC]at h
   have:=zcT c r (n+1) (w++[x]) p h
   simp at this ⊢
   omega
theorem zdJ {s:Str}(h:s.length<=1048576):zbh s=some (zaG s):=by
 unfold zbh zaG
 have e47:(UInt8.ofNatLT 47 (by decide):UInt8)=47:=by decide
 have hc:=zdw (c:=UInt8.ofNatLT 47 (by decide)) (most:=3) h (by omega)
 rw[show(3:Int)=((3:Nat):Int) from rfl,hc,aA,e47]
 simp only[jn,zcv]
 have hlen:(zaK 47 3 [] s).length<=maxi:=by
  rcases Nat.lt_or_ge (curS 47 [] s).length 4 with h1 |h1
  ·rw[zaT 47 s 3 [] (by omega)];unfold maxi;omega
  ·rw[zcl 47 s 3 [] h1];unfold maxi;omega
 rw[zaH (α:=Str) (xs:=zaK 47 3 [] s) (p:=zaq) (r0:=some false) (Z:=some (decide (((zaK 47 3 [] s).length:Int)<=((3:Nat):Int)))) (f:=fun m i=>zaM (zaK 47 3 [] s) (fun _ _=>some (decide (((zaK 47 3 [] s).length:Int)<=((3:Nat):Int)))) m false i) (fun m i x hx=>by
  have hf:=zcT 47 s 3 [] x (aH hx)
  simp only[zaM,zb9 hx,zbl hx,aD,aA,zaU (za5 hx) hlen,zck (show x.length<=maxi by unfold maxi;simp at hf;omega)]
  cases zaq x<;>rfl) (fun m=>by simp only[zaM,zbf,aC]) (by omega)]
 rcases Nat.lt_or_ge (curS 47 [] s).length 4 with h1 |h1
 ·rw[zaT 47 s 3 [] (by omega),aF (show((curS 47 [] s).length:Int)<=((3:Nat):Int) by omega),aF (show(curS 47 [] s).length<=3 by omega)]
  cases(curS 47 [] s).all zaq<;>rfl
 ·rw[zcl 47 s 3 [] h1,aE (show ¬ (curS 47 [] s).length<=3 by omega)]
  cases(zaK 47 3 [] s).all zaq<;>rfl
def OB (xs:List Owner):Prop:=xs.length<=1048576 /\ ∀ x∈xs,x.Path.length<=1048576/\x.Who.length<=1048576
theorem OB.of {xs:List Owner}(h:Bk.bulk xs<=1048576):OB xs:=⟨za0 h,fun x hx=>by
 have h1:Bk.bulk x<=1048576:=zdd h hx
 have h2:Bk.bulk x=x.Path.length+x.Who.length:=rfl
 omega⟩
def zda (d p:Str):Bool:=(d++[47]).isPrefixOf p
def zfU (s:Str):Bool:=s.all fun c=> !(c==124)
def zbd (t:List Str):Bool:=t.all zfU
theorem zfV (t:List Str):Lib.join t []=t.flatten:=by
 cases t with
 |nil=>rfl
 |cons x r=>
  have: ∀ (x:Str) (r:List Str),([]:Str).intercalate (x::r)=x++r.flatten:=by
   intro x r
   induction r generalizing x with
   |nil=>simp[List.intercalate]
   |cons y r ih=>
    have:=ih y
    simp only[List.intercalate,List.intersperse,List.flatten_cons,List.nil_append]at this ⊢
    rw[this]
  exact this x r
theorem zdy: ∀ t:List Str,t.flatten.length=zaj Bk.bulk t
 | []=>rfl
 |x::t=>by
  rw[List.flatten_cons,List.length_append,zdy t]
  rfl
theorem zdK (c:UInt8)(s:Str):Lib.contains s [c]=decide (c∈s):=by
 unfold Lib.contains
 by_cases h:c∈s
 ·obtain⟨p,t,rfl,hp⟩:=List.eq_append_cons_of_mem h
  rw[zdv hp,aF (show(0:Int)<=((p.length:Nat):Int) by omega),aF h]
 ·rw[zcZ h,aE h]
  rfl
theorem zho (t:List Str):(!decide ((124:UInt8)∈t.flatten))=zbd t:=by
 have: ∀ b c:Bool,(b=true↔c=true)->b=c:=by decide
 apply this
 simp only[Bool.not_eq_true',decide_eq_false_iff_not,List.mem_flatten,zbd,zfU,List.all_eq_true,beq_eq_false_iff_ne]
 constructor
 ·intro h s hs c hc e
  exact h ⟨s,hs,by rw[<- e];exact hc⟩
 ·rintro h ⟨s,hs,hc⟩
  exact h s hs 124 hc rfl
theorem zel {t:List Str}(h:Bk.fit t):zbt t=some (zbd t&&zaf t):=by
 have hl:=zdE h
 unfold zbt zbd
 simp only[jn,zcv,zi9 h,aA]
 rw[zaH (α:=Str) (xs:=t) (p:=zfU) (r0:=some false) (Z:=some (zaf t)) (f:=fun m i=>zak t (fun _ _=>some (zaf t)) m false i) (fun m i x hx=>by
  have hx2:x.length<=maxi:=zgV h hx
  have b124: ∀ u:UInt8,(((UInt8.toNat u:Nat):Int)==(124:Int))=(u==124):=fun u=>by
   have hb:=zfS u 124
   rw[show(((UInt8.toNat (124:UInt8):Nat):Int))=124 from rfl]at hb
   exact hb
  simp only[zak,zb9 hx,zbl hx,aD,jn,Option.getD_some]
  rw[zaH (α:=UInt8) (xs:=x) (p:=fun c=> !(c==124)) (r0:=some false) (Z:=zak t (fun _ _=>some (zaf t)) m false ((i+1:Nat):Int)) (f:=fun m' k=>zaC t (i:Int) (fun y10 y11=>zak t (fun _ _=>some (zaf t)) m y10 (w64 ((i:Int)+1))) m' false k) (fun m' k c hc=>by
   simp only[zaC,zbl hx,aA,zb9 hc,aD,zcS hc,b124,zaU (za5 hc) hx2]
   cases c==124<;>rfl) (fun m'=>by simp only[zaC,zbl hx,aA,zbf,aC,zaU (za5 hx) hl]) (by omega)]
  rfl) (fun m=>by simp only[zak,zbf,aC]) (by omega)]
 cases t.all zfU<;>rfl
def opB (o:Op):Bool:=
 zaq o.Branch&&(zaq o.Who&&
  (bif o.Kind==1 then zaG o.Path&&(zaf o.Text&&(zbd o.Text&&(o.To==[]&&o.At==0)))
   else bif o.Kind==2 then zaG o.Path&&(o.To==[]&&(o.At==0&&(o.Text.length:Int)==0))
   else bif o.Kind==3 then zaG o.Path&&(zaG o.To&&(o.At==0&&(o.Text.length:Int)==0))
   else bif o.Kind==4||o.Kind==5 then zaq o.To&&(o.Path==[]&&(o.At==0&&(o.Text.length:Int)==0))
   else bif o.Kind==6||o.Kind==7 then(decide (0<=o.At)&&decide (o.At<=15))&&(o.Path==[]&&(o.To==[]&&(o.Text.length:Int)==0))
   else false))
structure OpFit (o:Op):Prop where
 fit:Bk.fit o
 path:o.Path.length<=1048576
 to:o.To.length<=1048576
 text:Bk.bulk o.Text<=1048576
theorem OpFit.of {o:Op}(h:Bk.fit o)(hb:Bk.bulk o<=1048576):OpFit o:=by
 have e:Bk.bulk o=Bk.bulk o.Kind+(Bk.bulk o.Branch+(Bk.bulk o.Who+(Bk.bulk o.Path+(Bk.bulk o.To+(Bk.bulk o.At+Bk.bulk o.Text))))):=rfl
 have e1:Bk.bulk o.Path=o.Path.length:=rfl
 have e2:Bk.bulk o.To=o.To.length:=rfl
 exact⟨h,by omega,by omega,by omega⟩
theorem zja (o:Op)(p q r s:Bool):zaV o p q r s=some ((p||o.Path==[])&&((q||o.To==[])&&((r||o.At==0)&&(s||(o.Text.length:Int)==0)))):=by
 unfold zaV
 simp only[jn]
 cases p<;>cases q<;>cases r<;>cases s<;>cases(o.Path==([]:Str))<;>cases(o.To==([]:Str))<;>cases((o.At:Int)==(0:Int))<;>rfl
theorem zhp {o:Op}(h:OpFit o):zcb o=some (opB o):=by
 obtain⟨f0,f1,f2,f3,f4,f5,f6⟩:=h.fit
 have ht:=h.text
 have hj:strings_Join o.Text ([]:Str)=some o.Text.flatten:=by
  unfold strings_Join
  have:=za0 ht
  have hs:zaj Bk.bulk o.Text<=1048576:=Nat.le_trans (Nat.le_add_left _ _) ht
  rw[zfV,if_pos ⟨by omega,by rw[zdy];omega⟩]
 have hc:strings_Contains o.Text.flatten ([124]:Str)=some (decide ((124:UInt8)∈o.Text.flatten)):=by
  unfold strings_Contains
  have hs:zaj Bk.bulk o.Text<=1048576:=Nat.le_trans (Nat.le_add_left _ _) ht
  rw[if_pos (by rw[zdy];omega),zdK]
 unfold zcb opB
 simp only[jn,zcj f1,zcj f2,zcj f4,zdI h.path,zdI h.to,zfQ f6,hj,hc,aA,zdH,zho]
 cases zaq o.Branch
 ·rfl
 cases zaq o.Who
 ·rfl
 simp only[aK,aC,Bool.true_and]
 cases(o.Kind==(1:Int))
 case true=>cases zaG o.Path<;>cases zaf o.Text<;>cases zbd o.Text<;>cases(o.To==([]:Str))<;>rfl
 cases(o.Kind==(2:Int))
 case true=>cases zaG o.Path<;>cases(o.To==([]:Str))<;>cases(o.At==(0:Int))<;>rfl
 cases(o.Kind==(3:Int))
 case true=>cases zaG o.Path<;>cases zaG o.To<;>cases(o.At==(0:Int))<;>rfl
 simp only[aC]
 cases(o.Kind==(4:Int))<;>cases(o.Kind==(5:Int))<;>cases(o.Kind==(6:Int))<;>cases(o.Kind==(7:Int))<;>cases zaq o.To<;>cases(o.Path==([]:Str))<;>cases(o.At==(0:Int))<;>cases(o.To==([]:Str))<;>cases(decide (0<=o.At)&&decide (o.At<=15))<;>rfl
theorem zhq {o:Op}(h:OpFit o):zbM o=some (opB o):=by
 obtain⟨f0,f1,f2,f3,f4,f5,f6⟩:=h.fit
 unfold zbM opB
 simp only[jn,zck f1,zck f2,zck f4,zdJ h.path,zdJ h.to,zel f6,zja,aA,zfR]
 cases zaq o.Branch
 ·rfl
 cases zaq o.Who
 ·rfl
 simp only[aK,aC,Bool.true_and,Bool.true_or,Bool.false_or,Bool.and_true]
 cases(o.Kind==(1:Int))
 case true=>cases zaG o.Path<;>cases zaf o.Text<;>cases zbd o.Text<;>cases(o.To==([]:Str))<;>cases(o.At==(0:Int))<;>rfl
 cases(o.Kind==(2:Int))
 case true=>cases zaG o.Path<;>cases(o.To==([]:Str))<;>cases(o.At==(0:Int))<;>cases((o.Text.length:Int)==0)<;>rfl
 cases(o.Kind==(3:Int))
 case true=>cases zaG o.Path<;>cases zaG o.To<;>cases(o.At==(0:Int))<;>cases((o.Text.length:Int)==0)<;>rfl
 simp only[aC]
 cases(o.Kind==(4:Int))<;>cases(o.Kind==(5:Int))<;>cases(o.Kind==(6:Int))<;>cases(o.Kind==(7:Int))<;>cases zaq o.To<;>cases(o.Path==([]:Str))<;>cases(o.At==(0:Int))<;>cases(o.To==([]:Str))<;>cases((o.Text.length:Int)==0)<;>cases(decide (0<=o.At)&&decide (o.At<=15))<;>rfl
theorem zcE {a b:Str}(h:a.length+b.length<=1000000000):saM a b=some (a++b):=by
 unfold saM
 rw[if_pos]
 simp only[lim]
 omega
def zaJ (t:List Str):Str:=(t.map fun s=>(124:UInt8)::s).flatten
theorem zfW {t:List Str}(ht:t.length<=10000000): ∀ (n i m:Nat) (out:Str),i+n=t.length->n<m->out.length+(zaJ (t.drop i)).length<=1000000000->
 zaw t (fun y1 _=>some y1) m out (i:Int)=some (out++zaJ (t.drop i))
 |n,i,0,out,_,hm,_=>by omega
 |0,i,m+1,out,hi,_,_=>by
  obtain rfl:i=t.length:=by omega
  simp only[zaw,zbf,aC,List.drop_length]
  simp[zaJ]
 |n+1,i,m+1,out,hi,hm,hb=>by
  have hlt:i<t.length:=by omega
  have hx:t[i]? =some t[i]:=aB hlt
  have hd:t.drop i=t[i]::t.drop (i+1):=aI hlt
  have hbe:zaJ (t.drop i)=(124::t[i])++zaJ (t.drop (i+1)):=by rw[hd];rfl
  rw[hbe]at hb
  simp only[List.length_append,aL]at hb
  simp only[zaw,zb9 hx,zbl hx,aD,aA,zaU hlt (show t.length<=maxi by unfold maxi;omega)]
  rw[zcE (by simp only[aL,List.length_nil];omega),aA,zcE (by simp only[List.length_append,aL,List.length_nil];omega),aA,
   zfW ht n (i+1) m _ (by omega) (by omega) (by simp only[List.length_append,aL,List.length_nil];omega),hbe]
  simp
theorem zh3 {o:Op}(ht:o.Text.length<=10000000): ∀ (n i m:Nat) (out:Str),i+n=o.Text.length->n<m->out.length+(zaJ (o.Text.drop i)).length<=1000000000->
 zaD o (fun y=>some y) m out (i:Int)=some (out++zaJ (o.Text.drop i))
 |n,i,0,out,_,hm,_=>by omega
 |0,i,m+1,out,hi,_,_=>by
  obtain rfl:i=o.Text.length:=by omega
  simp only[zaD,zbf,aC,List.drop_length]
  simp[zaJ]
 |n+1,i,m+1,out,hi,hm,hb=>by
  have hlt:i<o.Text.length:=by omega
  have hx:o.Text[i]? =some o.Text[i]:=aB hlt
  have hd:o.Text.drop i=o.Text[i]::o.Text.drop (i+1):=aI hlt
  have hbe:zaJ (o.Text.drop i)=(124::o.Text[i])++zaJ (o.Text.drop (i+1)):=by rw[hd];rfl
  rw[hbe]at hb
  simp only[List.length_append,aL]at hb
  simp only[zaD,zb9 hx,zbl hx,aD,aA,zaU hlt (show o.Text.length<=maxi by unfold maxi;omega)]
  rw[zcE (by simp only[aL,List.length_nil];omega),aA,zcE (by simp only[List.length_append,aL,List.length_nil];omega),aA,
   zh3 ht n (i+1) m _ (by omega) (by omega) (by simp only[List.length_append,aL,List.length_nil];omega),hbe]
  simp
theorem zcU: ∀ t:List Str,(zaJ t).length=Bk.bulk t
 | []=>rfl
 |x::t=>by
  have ih:=zcU t
  have h1:zaJ (x::t)=(124::x)++zaJ t:=rfl
  have h2:Bk.bulk (x::t)=(t.length+1)+(x.length+zaj Bk.bulk t):=rfl
  have h3:Bk.bulk t=t.length+zaj Bk.bulk t:=rfl
  rw[h1,List.length_append,ih,aL,h2,h3]
  omega
theorem zfX (k:Nat)(hk:k<16):zcW (k:Int)=some (Lib.decDigits k):=by
 have hd:Lib.decDigits k=if k<10 then [UInt8.ofNat (48+k)] else [UInt8.ofNat (48+k / 10),UInt8.ofNat (48+k % 10)]:=by
  rw[Lib.decDigits]
  split
  ·rfl
  ·rw[Lib.decDigits,dif_pos (by omega)]
   rfl
 rw[hd]
 clear hd
 revert k
 decide+kernel
theorem zem (k:Nat)(hk:k<16):(Lib.decDigits k).length<=2:=by
 rw[Lib.decDigits]
 split
 ·simp
 ·rw[Lib.decDigits,dif_pos (by omega)];simp
def zas:List Str:=[[],[115,101,116],[100,114,111,112],[109,111,118,101],[102,111,114,107],[117,110,105,116,101],[112,105,99,107],[98,97,99,107]]
theorem zb1 {s:Str}(h:zaq s=true):s.length<=6:=by
 unfold zaq at h
 simp only[aG,decide_eq_true_eq]at h
 omega
theorem zeC {o:Op}(h:opB o=true):o.Branch.length<=6/\o.Who.length<=6/\(o.Kind=1\/o.Kind=2\/o.Kind=3\/o.Kind=4\/o.Kind=5\/((o.Kind=6\/o.Kind=7)/\0<=o.At/\o.At<=15)):=by
 unfold opB at h
 simp only[aG]at h
 obtain⟨h1,h2,h3⟩:=h
 refine⟨zb1 h1,zb1 h2,?_⟩
 cases e1:o.Kind==1 with
 |true=>exact .inl (by simpa using e1)
 |false=>
 rw[e1,aC]at h3
 cases e2:o.Kind==2 with
 |true=>exact .inr (.inl (by simpa using e2))
 |false=>
 rw[e2,aC]at h3
 cases e3:o.Kind==3 with
 |true=>exact .inr (.inr (.inl (by simpa using e3)))
 |false=>
 rw[e3,aC]at h3
 cases e4:o.Kind==4 with
 |true=>exact .inr (.inr (.inr (.inl (by simpa using e4))))
 |false=>
 cases e5:o.Kind==5 with
 |true=>exact .inr (.inr (.inr (.inr (.inl (by simpa using e5)))))
 |false=>
 rw[e4,e5,Bool.or_false,aC]at h3
 cases e6:(o.Kind==6||o.Kind==7)with
 |false=>rw[e6,aC]at h3;cases h3
 |true=>
  rw[e6,aD]at h3
  simp only[aG,decide_eq_true_eq]at h3
  exact .inr (.inr (.inr (.inr (.inr ⟨by simpa using e6,h3.1.1,h3.1.2⟩))))
def zbK (o:Op):Str:=
 let w:=zas.getD o.Kind.toNat []++[32]++o.Branch++[32]++o.Who++[32]
 bif o.Kind==1 then w++o.Path++[32]++zaJ o.Text
 else bif o.Kind==2 then w++o.Path
 else bif o.Kind==3 then w++o.Path++[32]++o.To
 else bif o.Kind==4||o.Kind==5 then w++o.To
 else w++Lib.decDigits o.At.toNat
theorem zjb {o:Op}(h:OpFit o)(ho:opB o=true):zbO o=some (zbK o):=by
 obtain⟨hb,hw,hk⟩:=zeC ho
 have hp:=h.path
 have ht:=h.to
 have hx:=h.text
 have hl:=za0 hx
 have hbl:=zcU o.Text
 have hj:zba o.Text=some (zaJ o.Text):=by
  unfold zba
  simp only[jn,zcv]
  have:=zfW (t:=o.Text) (by omega) o.Text.length 0 (o.Text.length+1) [] (by omega) (by omega) (by rw[List.drop_zero,hbl];simp;omega)
  simpa using this
 unfold zbO zbK zbu
 rcases hk with e |e |e |e |e |⟨e |e,h0,h1⟩
 all_goals simp only[e,aA,jn]
 all_goals simp (disch:=(simp only[List.length_append,aL,List.length_nil];omega)) only[gi,zas,zcE,aA,hj,Int.reduceToNat,Int.reduceLE,↓reduceIte,List.getElem?_cons_succ,List.getElem?_cons_zero,List.getD_cons_succ,List.getD_cons_zero,Int.reduceBEq,aD,aC,Bool.or_false,Bool.or_true,Bool.false_or]
 all_goals
  have hd:=zem o.At.toNat (by omega)
  have hi:strconv_Itoa o.At=some (Lib.decDigits o.At.toNat):=by unfold strconv_Itoa;rw[if_pos ⟨by omega,by omega⟩]
  rw[hi,aA,zcE (by simp only[List.length_append,aL,List.length_nil];omega),aA]
theorem zjc {o:Op}(h:OpFit o)(ho:opB o=true):zbw o=some (zbK o):=by
 obtain⟨hb,hw,hk⟩:=zeC ho
 have hp:=h.path
 have ht:=h.to
 have hx:=h.text
 have hl:=za0 hx
 have hbl:=zcU o.Text
 have hj: ∀ out:Str,out.length<=10000000->zaD o (fun y=>some y) (o.Text.length+1) out 0=some (out++zaJ o.Text):=fun out hout=>by
  have:=zh3 (o:=o) (by omega) o.Text.length 0 (o.Text.length+1) out (by omega) (by omega) (by rw[List.drop_zero,hbl];omega)
  simpa using this
 unfold zbw zbK za3
 rcases hk with e |e |e |e |e |⟨e |e,h0,h1⟩
 all_goals simp only[e,aA,jn,zcv]
 all_goals simp (disch:=(simp only[List.length_append,aL,List.length_nil];omega)) only[gi,zas,zcE,aA,hj,Int.reduceToNat,Int.reduceLE,↓reduceIte,List.getElem?_cons_succ,List.getElem?_cons_zero,List.getD_cons_succ,List.getD_cons_zero,Int.reduceBEq,aD,aC,Bool.or_false,Bool.or_true,Bool.false_or]
 all_goals
  have hd:=zem o.At.toNat (by omega)
  have hi:zcW o.At=some (Lib.decDigits o.At.toNat):=by
   have:=zfX o.At.toNat (by omega)
   rwa [Int.toNat_of_nonneg h0]at this
  rw[hi,aA,zcE (by simp only[List.length_append,aL,List.length_nil];omega),aA]
structure FB (f:File):Prop where
 path:f.Path.length<=1048576
 len:f.Text.length<=1048576
 text:Bk.fit f.Text
def TB (t:List File):Prop:=t.length<=1048576 /\ ∀ f∈t,FB f
theorem TB.maxi {t:List File}(h:TB t):t.length<=maxi:=zdh h.1
theorem TB.nil:TB []:=⟨by simp,fun f hf=>by simp at hf⟩
def zcm:File:=⟨[],[]⟩
theorem zcn {t:List File}{i:Nat}{f:File}(h:t[i]? =some f):t.getD i zcm=f:=by simp[List.getD,h]
def ze7 (t:List File)(i:Nat):Bool:=zaG (t.getD i zcm).Path&&(zaf (t.getD i zcm).Text&&(bif decide (0< (i:Int)) then Op.bytesLess (t.getD (i-1) zcm).Path (t.getD i zcm).Path else true))
def zfy (t:List File)(i:Nat):Bool:=ze7 t i&&t.all fun f=> !zda (t.getD i zcm).Path f.Path
def zaY (t:List File):Bool:=decide ((t.length:Int)<=8)&&zfs (zfy t) 0 t.length
structure CB (c:Commit):Prop where
 par:c.Parents.length<=1048576
 who:c.Who.length<=1048576
 tree:TB c.Tree
structure RpB (r:Repo):Prop where
 coms:r.Commits.length<=1048576
 com: ∀ c∈r.Commits,CB c
 heads:r.Heads.length<=1048576
 head: ∀ h∈r.Heads,h.Name.length<=1048576
theorem RpB.cat {r:Repo}(h:RpB r){i:Nat}{c:Commit}(hc:r.Commits[i]? =some c):CB c:=h.com c (aH hc)
def zcP:Head:=⟨[],0⟩
theorem zb7 {t:List Head}{i:Nat}{f:Head}(h:t[i]? =some f):t.getD i zcP=f:=by simp[List.getD,h]
def upB (i p:Int):Bool:=decide (0<=p)&&decide (p<=i-1)
def zlg (ps:List Int):Bool:=match ps with
 | [p,q]=> !(p==q)
 |_=>true
def zjd (i:Int)(c:Commit):Bool:=c.Parents.all (upB i)&&(decide ((c.Parents.length:Int)<=2)&&(zlg c.Parents&&(zaq c.Who&&zaY c.Tree)))
def noCommit:Commit:=⟨[],[],[]⟩
def zh4 (cs:List Commit):Bool:=zfs (fun i=>zjd i (cs.getD i noCommit)) 0 cs.length
def zfY (n:Nat)(hs:List Head)(i:Nat):Bool:=zaq (hs.getD i zcP).Name&&(upB n (hs.getD i zcP).At&&(bif decide (0< (i:Int)) then Op.bytesLess (hs.getD (i-1) zcP).Name (hs.getD i zcP).Name else true))
def zdo (n:Nat)(hs:List Head):Bool:=zfs (zfY n hs) 0 hs.length&&decide ((hs.length:Int)<=5)
def zaa (r:Repo):Bool:=decide ((r.Commits.length:Int)<=16)&&(zh4 r.Commits&&zdo r.Commits.length r.Heads)
theorem zb8 {t:List Commit}{i:Nat}{f:Commit}(h:t[i]? =some f):t.getD i noCommit=f:=by simp[List.getD,h]
def zcf (n:Str)(a:Int):Bool->List Head->List Head
 |put,[]=>bif put then [] else [⟨n,a⟩]
 |put,h::hs=>(bif !put && !Op.bytesLess h.Name n then [⟨n,a⟩] else [])++((bif h.Name !=n then [h] else [])++zcf n a (put || !Op.bytesLess h.Name n) hs)
theorem zco (n:Str)(a:Int): ∀ (hs:List Head) (put:Bool),(zcf n a put hs).length+(bif put then 1 else 0)<=hs.length+1
 | [],put=>by cases put<;>simp[zcf]
 |h::hs,put=>by
  have ih:=zco n a hs (put || !Op.bytesLess h.Name n)
  unfold zcf
  cases put<;>cases hb:Op.bytesLess h.Name n<;>cases hn:(h.Name !=n)<;>simp[hb]at ih ⊢ <;>omega
theorem putH_mem (n:Str)(a:Int): ∀ (hs:List Head) (put:Bool) (x:Head),x∈zcf n a put hs->x∈hs\/x=⟨n,a⟩
 | [],put,x,h=>by cases put<;>simp[zcf]at h;exact .inr h
 |h::hs,put,x,hx=>by
  unfold zcf at hx
  rcases List.mem_append.1 hx with h1 |h1
  ·cases hc:(!put && !Op.bytesLess h.Name n)with
   |true=>rw[hc]at h1;simp at h1;exact .inr h1
   |false=>rw[hc]at h1;simp at h1
  ·rcases List.mem_append.1 h1 with h2 |h2
   ·cases hc:(h.Name !=n)with
    |true=>rw[hc]at h2;simp at h2;exact .inl (by rw[h2];simp)
    |false=>rw[hc]at h2;simp at h2
   ·rcases putH_mem n a hs _ x h2 with h3 |h3
    ·exact .inl (List.mem_cons_of_mem _ h3)
    ·exact .inr h3
def headR (r:Repo)(n:Str)(a:Int):Repo:=⟨r.Commits,zcf n a false r.Heads⟩
theorem RpB.headR {r:Repo}(h:RpB r)(hs:r.Heads.length<=100000){n:Str}(hn:n.length<=1048576)(a:Int):RpB (headR r n a):=
 ⟨h.coms,h.com,by have:=zco n a r.Heads false;simp at this;show(zcf n a false r.Heads).length<=_;omega,fun x hx=>by
  rcases putH_mem n a r.Heads false x hx with h1 |h1
  ·exact h.head x h1
  ·rw[h1];exact hn⟩
theorem zaA {r:Repo}(h:zaa r=true):r.Commits.length<=16/\r.Heads.length<=5:=by
 unfold zaa zdo at h
 simp only[aG,decide_eq_true_eq]at h
 omega
def zaZ:Repo:=⟨[],[]⟩
theorem zbL {t:List File}(h:zaY t=true):t.length<=8:=by
 unfold zaY at h
 simp only[aG,decide_eq_true_eq]at h
 omega
theorem zcp {r:Repo}(h:zaa r=true){i:Nat}(hi:i<r.Commits.length):zjd i (r.Commits.getD i noCommit)=true:=by
 unfold zaa zh4 at h
 simp only[aG]at h
 exact zav.1 h.2.1 i (Nat.zero_le _) (by omega)
def zad (r:Repo)(i:Nat):List Int:=(r.Commits.getD i noCommit).Parents
theorem zcL {r:Repo}(h:zaa r=true){x:Head}(hx:x∈r.Heads):0<=x.At/\x.At<=(r.Commits.length:Int)-1/\zaq x.Name=true:=by
 obtain⟨i,hi⟩:=List.mem_iff_getElem?.1 hx
 unfold zaa zdo at h
 simp only[aG]at h
 have:=zav.1 h.2.2.1 i (Nat.zero_le _) (by have:=za5 hi;omega)
 unfold zfY upB at this
 rw[zb7 hi]at this
 simp only[aG,decide_eq_true_eq]at this
 exact⟨this.2.1.1,this.2.1.2,this.1⟩
def zcg (t:List File):Prop:= ∀ f∈t,zaf f.Text=true
theorem zbn {t:List File}(h:zaY t=true):zcg t:=by
 intro f hf
 obtain⟨i,hi⟩:=List.mem_iff_getElem?.1 hf
 unfold zaY at h
 simp only[aG]at h
 have:=zav.1 h.2 i (Nat.zero_le _) (by have:=za5 hi;omega)
 unfold zfy ze7 at this
 rw[zcn hi]at this
 simp only[aG]at this
 exact this.1.2.1
theorem zbo {t:List File}(h:zaY t=true){f:File}(hf:f∈t):zaG f.Path=true:=by
 obtain⟨i,hi⟩:=List.mem_iff_getElem?.1 hf
 unfold zaY at h
 simp only[aG]at h
 have:=zav.1 h.2 i (Nat.zero_le _) (by have:=za5 hi;omega)
 unfold zfy ze7 at this
 rw[zcn hi]at this
 simp only[aG]at this
 exact this.1.1
theorem zdz (c:UInt8): ∀ (r w:Str),w.length+r.length+1=zaj (fun p=>p.length+1) (curS c w r)
 | [],w=>by simp[curS,zaj]
 |x::r,w=>by
  unfold curS
  cases x==c with
  |true=>
   rw[aD]
   have:=zdz c r []
   simp only[zaj,List.length_nil,aL]at this ⊢
   omega
  |false=>
   rw[aC]
   have:=zdz c r (w++[x])
   simp only[List.length_append,aL,List.length_nil]at this ⊢
   omega
theorem zh5 {c:Nat}: ∀ {l:List Str},(∀ p∈l,p.length+1<=c)->zaj (fun p=>p.length+1) l<=c*l.length
 | [],_=>by simp[zaj]
 |x::l,h=>by
  have h1:=h x (by simp)
  have h2:=zh5 (c:=c) (l:=l) (fun p hp=>h p (List.mem_cons_of_mem _ hp))
  simp only[zaj,aL,Nat.mul_add,Nat.mul_one]
  omega
theorem zbA {s:Str}(h:zaq s=true):s.length<=6:=by
 unfold zaq at h
 simp only[aG,decide_eq_true_eq]at h
 omega
theorem zb2 {s:Str}(h:zaG s=true):s.length<=20:=by
 unfold zaG at h
 simp only[aG,decide_eq_true_eq,List.all_eq_true]at h
 have h1:=zdz 47 s []
 have h2:=zh5 (c:=7) (l:=curS 47 [] s) (fun p hp=>by have:=zbA (h.2 p hp);omega)
 simp only[List.length_nil]at h1
 omega
structure Gd (q:Prop) (r:Repo):Prop where
 rb:RpB r
 ok:zaa r=true
 hd:q->r.Commits≠ []->r.Heads≠ []
variable {q:Prop}
def zae (r:Repo)(i:Nat):List File:=(r.Commits.getD i noCommit).Tree
theorem Gd.tree {r:Repo}(h:Gd q r){i:Nat}(hi:i<r.Commits.length):TB (zae r i)/\zaY (zae r i)=true/\zcg (zae r i)/\(zae r i).length<=8:=by
 have hx:r.Commits[i]? =some r.Commits[i]:=aB hi
 have h1:zaY (zae r i)=true:=by
  have:=zcp h.ok hi
  unfold zjd at this
  simp only[aG]at this
  exact this.2.2.2.2
 refine⟨?_,h1,zbn h1,zbL h1⟩
 unfold zae
 rw[zb8 hx]
 exact(h.rb.cat hx).tree
theorem ze8 (n:Str)(a:Int): ∀ (hs:List Head),zcf n a false hs≠ []
 | []=>by simp[zcf]
 |h::hs=>by
  unfold zcf
  cases hb:Op.bytesLess h.Name n
  ·simp
  ·have:=ze8 n a hs
   cases(h.Name !=n)<;>simp[this]
theorem Gd.head {r:Repo}(h:Gd q r){n:Str}{b:Int}(hn:n.length<=1048576)(ho:zaa (headR r n b)=true):Gd q (headR r n b):=by
 obtain⟨s1,s2⟩:=zaA h.ok
 exact⟨h.rb.headR (by omega) hn b,ho,fun _ _=>ze8 _ _ _⟩
end Go.Vm
namespace Go.Vm
open Go Go.Sx
set_option linter.unusedSimpArgs false
set_option linter.unusedVariables false
section
variable {r:l30Rd}{p:Int}
structure Drawn (r:Repo):Prop where
 rb:RpB r
 coms:r.Commits.length<=16
 heads:r.Heads.length<=6
theorem Gd.drawn {r:Repo}(h:Gd True r):Drawn r:=by
 obtain⟨s1,s2⟩:=zaA h.ok
 exact⟨h.rb,s1,by omega⟩
end
inductive Rc (r:Repo):Nat->Nat->Prop
 |refl (a:Nat):Rc r a a
 |step {a b:Nat} {p:Int}:Rc r a b->p∈zad r b->Rc r a p.toNat
theorem Rc.trans {r:Repo}{a b c:Nat}(h:Rc r a b)(k:Rc r b c):Rc r a c:=by
 induction k with
 |refl=>exact h
 |step _ hp ih=>exact Rc.step ih hp
theorem Rc.head {r:Repo}{a c:Nat}(h:Rc r a c):c=a \/ ∃ p∈zad r a,Rc r p.toNat c:=by
 induction h with
 |refl=>exact .inl rfl
 | @step b p hb hp ih=>
  rcases ih with e |⟨q,hq,hc⟩
  ·subst e
   exact .inr ⟨p,hp,Rc.refl _⟩
  ·exact .inr ⟨q,hq,Rc.step hc hp⟩
theorem TB.of {t:List File}(hf:Bk.fit t)(h:Bk.bulk t<=1048576):TB t:=⟨za0 h,fun f hm=>by
 have h1:Bk.bulk f<=1048576:=zdd h hm
 have h2:Bk.bulk f=f.Path.length+Bk.bulk f.Text:=rfl
 exact⟨by omega,za0 (show Bk.bulk f.Text<=1048576 by omega),(hf.2 f hm).2⟩⟩
theorem RpB.of {r:Repo}(hf:Bk.fit r)(h:Bk.bulk r<=1048576):RpB r:=by
 have h0:Bk.bulk r=Bk.bulk r.Commits+Bk.bulk r.Heads:=rfl
 have hc:Bk.bulk r.Commits<=1048576:=by omega
 have hh:Bk.bulk r.Heads<=1048576:=by omega
 refine⟨za0 hc,fun c hm=>?_,za0 hh,fun x hm=>?_⟩
 ·have h1:Bk.bulk c<=1048576:=zdd hc hm
  have h2:Bk.bulk c=Bk.bulk c.Parents+(c.Who.length+Bk.bulk c.Tree):=rfl
  exact⟨za0 (show Bk.bulk c.Parents<=1048576 by omega),by omega,TB.of (hf.1.2 c hm).2.2 (by omega)⟩
 ·have h1:Bk.bulk x<=1048576:=zdd hh hm
  have h2:Bk.bulk x=x.Name.length+0:=rfl
  omega
def zeD (p:Int):Prop:= -9223372036854775808<=p/\p<=9223372036854775807
section
variable {r:Repo}{has:List Int}{sent:List Commit}
end
set_option linter.unusedSectionVars false
structure SentB (sent:List Commit):Prop where
 len:sent.length<=16
 cb: ∀ c∈sent,CB c
 fit: ∀ c∈sent,∀ p∈c.Parents,zeD p
theorem SentB.take {sent:List Commit}(h:SentB sent)(k:Nat):SentB (sent.take k):=
 ⟨Nat.le_trans (List.length_take_le' k sent) h.len,fun c hc=>h.cb c (List.mem_of_mem_take hc),fun c hc=>h.fit c (List.mem_of_mem_take hc)⟩
section
variable {x:Repo}(hr:zaa x=true){a b:Int}(ha:upB x.Commits.length a=true)(hb:upB x.Commits.length b=true)
include hr ha
include hb
end
theorem zb3 {α:Type}{f:α->Nat}{c:Nat}: ∀ {t:List α},(∀ s∈t,f s<=c)->zaj f t<=c*t.length
 | [],_=>by simp[zaj]
 |x::t,h=>by
  have h1:=h x (by simp)
  have h2:=zb3 (t:=t) (fun s hs=>h s (by simp[hs]))
  simp only[zaj,aL,Nat.mul_add,Nat.mul_one]
  omega
theorem zhr {t:List Str}(h:zaf t=true):Bk.bulk t<=130:=by
 have hl:=za1 h
 have hs:zaj Bk.bulk t<=12*t.length:=zb3 fun s hs=>by
  have:=zdn (zbc h s hs)
  show s.length<=12
  omega
 show t.length+zaj Bk.bulk t<=130
 omega
theorem zhs {t:List File}(h:zaY t=true):Bk.bulk t<=1208:=by
 have hl:=zbL h
 have hs:zaj Bk.bulk t<=150*t.length:=zb3 fun f hf=>by
  have h1:=zb2 (zbo h hf)
  have h2:=zhr (zbn h f hf)
  show f.Path.length+Bk.bulk f.Text<=150
  omega
 show t.length+zaj Bk.bulk t<=1208
 omega
theorem zh6 {r:Repo}(h:zaa r=true){c:Commit}(hc:c∈r.Commits):c.Parents.length<=2/\(∀ p∈c.Parents,0<=p/\p<=16)/\zaq c.Who=true/\zaY c.Tree=true:=by
 obtain⟨i,hi⟩:=List.mem_iff_getElem?.1 hc
 have hil:=za5 hi
 have s1:=(zaA h).1
 have:=zcp h (i:=i) (by omega)
 rw[zb8 hi]at this
 unfold zjd at this
 simp only[aG,decide_eq_true_eq,List.all_eq_true]at this
 refine⟨by omega,fun p hp=>?_,this.2.2.2.1,this.2.2.2.2⟩
 have h1:=this.1 p hp
 unfold upB at h1
 simp only[aG,decide_eq_true_eq]at h1
 omega
theorem zht {r:Repo}(h:zaa r=true):Bk.bulk r<=20000:=by
 obtain⟨s1,s2⟩:=zaA h
 have h1:zaj Bk.bulk r.Commits<=1218*r.Commits.length:=zb3 fun c hc=>by
  obtain⟨c1,_,c3,c4⟩:=zh6 h hc
  have:=zbA c3
  have:=zhs c4
  have hp:zaj Bk.bulk c.Parents<=0*c.Parents.length:=zb3 fun p hp=>Nat.le_refl 0
  show c.Parents.length+zaj Bk.bulk c.Parents+(c.Who.length+Bk.bulk c.Tree)<=1218
  omega
 have h2:zaj Bk.bulk r.Heads<=6*r.Heads.length:=zb3 fun x hx=>by
  have:=zbA (zcL h hx).2.2
  show x.Name.length+0<=6
  omega
 show r.Commits.length+zaj Bk.bulk r.Commits+(r.Heads.length+zaj Bk.bulk r.Heads)<=20000
 omega
theorem zhu {t:List File}(h:zaY t=true):Bk.fit t:=⟨by have:=zbL h;unfold maxi;omega,fun f hf=>⟨by have:=zb2 (zbo h hf);show f.Path.length<=maxi;unfold maxi;omega,by
 have h1:=zbn h f hf
 have h2:=za1 h1
 exact zeA (by omega) (zbc h1)⟩⟩
theorem zhv {r:Repo}(h:zaa r=true):Bk.fit r:=by
 obtain⟨s1,s2⟩:=zaA h
 refine⟨⟨by unfold maxi;omega,fun c hc=>?_⟩,by unfold maxi;omega,fun x hx=>?_⟩
 ·obtain⟨c1,c2,c3,c4⟩:=zh6 h hc
  refine⟨⟨by unfold maxi;omega,fun p hp=>?_⟩,by have:=zbA c3;show c.Who.length<=maxi;unfold maxi;omega,zhu c4⟩
  have:=c2 p hp
  show -9223372036854775808<=p/\p<=9223372036854775807
  omega
 ·obtain⟨h1,h2,h3⟩:=zcL h hx
  refine⟨by have:=zbA h3;show x.Name.length<=maxi;unfold maxi;omega,?_⟩
  show -9223372036854775808<=x.At/\x.At<=9223372036854775807
  omega
section
variable {r:Repo}(h:RpB r)(hr:zaa r=true)
include h hr
end
def zng (r:Repo)(n:Str)(x:Repo):Prop:=x=r\/x=zaZ\/zaa x=true
theorem zng.bulk {r x:Repo}{n:Str}(h:zng r n x):Bk.bulk x<=Bk.bulk r+20000:=by
 rcases h with h |h |h
 ·rw[h];omega
 ·rw[h];show 0+0+(0+0)<=_;omega
 ·have:=zht h;omega
theorem zng.fit {r x:Repo}{n:Str}(hf:Bk.fit r)(h:zng r n x):Bk.fit x:=by
 rcases h with h |h |h
 ·rw[h];exact hf
 ·rw[h];exact⟨⟨by simp[zaZ,maxi],by simp[zaZ]⟩,by simp[zaZ,maxi],by simp[zaZ]⟩
 ·exact zhv h
def OD (n:Nat)(l:List Owner):Prop:=l.length<=n /\ ∀ o∈l,o.Path.length<=10/\o.Who.length<=10
theorem OD.fit {n:Nat}{l:List Owner}(h:OD n l)(hn:n<=1000):Bk.fit l:=⟨by have:=h.1;unfold maxi;omega,fun o ho=>by
 have:=h.2 o ho
 exact⟨by show o.Path.length<=maxi;unfold maxi;omega,by show o.Who.length<=maxi;unfold maxi;omega⟩⟩
theorem zeE {c:UInt8}: ∀ (w v r:Str),c∉w->curS c v (w++r)=curS c (v++w) r
 | [],v,r,_=>by simp
 |x::w,v,r,h=>by
  have hx:(x==c)=false:=beq_false_of_ne fun e=>h (by simp[e])
  rw[List.cons_append]
  conv=>lhs;unfold curS
  rw[hx,aC,zeE w _ r fun e=>h (List.mem_cons_of_mem _ e)]
  simp
theorem zdA {c:UInt8}{n:Nat}: ∀ (w v r:Str),c∉w->zaK c n v (w++r)=zaK c n (v++w) r
 | [],v,r,_=>by simp
 |x::w,v,r,h=>by
  cases n with
  |zero=>rw[zaS,zaS];simp
  |succ n=>
   have hx:(x==c)=false:=beq_false_of_ne fun e=>h (by simp[e])
   rw[List.cons_append]
   conv=>lhs;unfold zaK
   rw[hx,aC,zdA w _ r fun e=>h (List.mem_cons_of_mem _ e)]
   simp
theorem zbT {c:UInt8}{n:Nat}{w r:Str}(h:c∉w):zaK c (n+1) [] (w++c::r)=w::zaK c n [] r:=by
 rw[zdA w [] _ h]
 simp[zaK]
theorem zbU {c:UInt8}{n:Nat}{w:Str}(h:c∉w):zaK c n [] w=[w]:=by
 have:=zdA (n:=n) w [] [] h
 rw[List.append_nil]at this
 rw[this]
 simp[zaK]
theorem zcz (c:UInt8): ∀ (r:Str) (k:Nat) (w:Str),c∉w->Lib.splitK [c] 0 k (w++r)=zaK c k w r
 |r,0,w,h=>by rw[zaS];rfl
 | [],k+1,w,h=>by
  rw[List.append_nil]
  unfold Lib.splitK zaK
  rw[if_pos (by rw[zcZ h];rfl)]
 |x::r,k+1,w,h=>by
  unfold zaK
  cases hx:x==c with
  |true=>
   have e:x=c:=by simpa using hx
   subst e
   have hi:=zdv (r:=r) h
   rw[aD]
   unfold Lib.splitK
   rw[if_neg (by rw[hi];simp),hi]
   have e1:(w++x::r).take (((w.length:Nat):Int).toNat+0)=w:=by simp
   have e2:(w++x::r).drop (((w.length:Nat):Int).toNat+[x].length)=r:=by
    show(w++x::r).drop (w.length+1)=r
    rw[show w++x::r=(w++[x])++r by simp,List.drop_left' (by simp)]
   have ih:=zcz x r k [] (by simp)
   rw[List.nil_append]at ih
   rw[e1,e2,ih]
  |false=>
   have hne:x≠c:=by simpa using hx
   rw[aC,show w++x::r=(w++[x])++r by simp]
   exact zcz c r (k+1) (w++[x]) (by
    rw[List.mem_append,List.mem_singleton]
    rintro(h1 |h1)
    ·exact h h1
    ·exact hne h1.symm)
theorem zbG (c:UInt8): ∀ (r:Str) (n:Nat) (w:Str),1<=(zaK c n w r).length/\(zaK c n w r).length<=n+1
 | [],n,w=>by cases n<;>simp[zaK]
 |x::r,0,w=>by simp[zaK]
 |x::r,n+1,w=>by
  unfold zaK
  cases x==c with
  |true=>have:=zbG c r n [];rw[aD,aL];omega
  |false=>rw[aC];exact zbG c r (n+1) _
theorem zcq (c:UInt8): ∀ (r:Str) (n:Nat) (w:Str),Bk.bulk (zaK c n w r)<=w.length+r.length+1
 | [],n,w=>by
  have:zaK c n w []=[w]:=by cases n<;>simp[zaK]
  rw[this]
  show 1+(w.length+0)<=_
  simp;omega
 |x::r,0,w=>by
  rw[zaS]
  show 1+((w++x::r).length+0)<=_
  simp;omega
 |x::r,n+1,w=>by
  unfold zaK
  cases x==c with
  |true=>
   have:=zcq c r n []
   rw[aD]
   have e:Bk.bulk (w::zaK c n [] r)=(zaK c n [] r).length+1+(w.length+zaj Bk.bulk (zaK c n [] r)):=rfl
   have e2:Bk.bulk (zaK c n [] r)=(zaK c n [] r).length+zaj Bk.bulk (zaK c n [] r):=rfl
   rw[e]
   simp at this ⊢
   omega
  |false=>
   have:=zcq c r (n+1) (w++[x])
   rw[aC]
   simp at this ⊢
   omega
theorem zln (c:UInt8)(r:Str):curS c [] r=zaK c (r.length+1) [] r:=(zaT c r (r.length+1) [] (by have:=zbS c r [];simp at this ⊢;omega)).symm
theorem zdL {l:List Str}{n:Nat}(h:Bk.bulk l<=n+1)(h1:1<=l.length):Bk.bulk (l.drop 1)<=n:=by
 cases l with
 |nil=>simp at h1
 |cons x l=>
  have e:Bk.bulk (x::l)=l.length+1+(x.length+zaj Bk.bulk l):=rfl
  have e2:Bk.bulk l=l.length+zaj Bk.bulk l:=rfl
  rw[e]at h
  show Bk.bulk l<=n
  omega
theorem zeF: ∀ (t:List Str) (v:Str),zbd t=true->curS 124 v (zaJ t)=v::t
 | [],v,_=>by simp[zaJ,curS]
 |x::t,v,h=>by
  have h2:zfU x=true/\zbd t=true:=by simpa[zbd]using h
  have hx:(124:UInt8)∉x:=fun hm=>by
   have:=List.all_eq_true.1 h2.1 _ hm
   simp at this
  rw[show zaJ (x::t)=124::(x++zaJ t) by simp[zaJ]]
  conv=>lhs;unfold curS
  rw[show((124:UInt8)==124)=true by rfl,aD,zeE x [] _ hx,List.nil_append,zeF t x h2.2]
def kO (u:Str)(d:Int):Int:=
 bif u==[115,101,116] then 1 else bif u==[100,114,111,112] then 2 else bif u==[109,111,118,101] then 3 else bif u==[102,111,114,107] then 4
 else bif u==[117,110,105,116,101] then 5 else bif u==[112,105,99,107] then 6 else bif u==[98,97,99,107] then 7 else d
def kI (u:Str):Int:=bif u==[] then 0 else kO u (-1)
def zdg:Op:=⟨0,[],[],[],[],0,[]⟩
def znh (k:Int)(g:Nat->Str)(n:Int)(t:List Str):Op:=
 bif k==1 then⟨k,g 1,g 2,g 3,[],0,t⟩
 else bif k==2 then⟨k,g 1,g 2,g 3,[],0,[]⟩
 else bif k==3 then⟨k,g 1,g 2,g 3,g 4,0,[]⟩
 else bif k==4||k==5 then⟨k,g 1,g 2,[],g 3,0,[]⟩
 else⟨k,g 1,g 2,[],[],n,[]⟩
def finO (s:Str)(w:List Str)(o:Op):Op×Bool:=bif decide ((w.length:Int)<4) then(zdg,false) else bif opB o&&(zbK o==s) then(o,true) else(zdg,false)
def gW (w:List Str)(i:Nat):Str:=w.getD i []
def opI (w:List Str):Op:=znh (kI (gW w 0)) (gW w) (bif kI (gW w 0)==6||kI (gW w 0)==7 then zcK (gW w 3) else 0) (bif gW w 4 !=[] then(curS 124 [] (gW w 4)).drop 1 else [])
def zje (s:Str):Int:=(zbp s).getD 0
def znc (num:Str->Int)(w:List Str):Op:=znh (kO (gW w 0) 0) (gW w) (num (gW w 3)) ((zaK 124 11 [] (gW w 4)).drop 1)
def opS (w:List Str):Op:=znc zje w
def wordsO (s:Str):List Str:=zaK 32 4 [] s
theorem zhw (s:Str):Bk.fit (zcK s):=by
 unfold zcK
 cases h:Lib.atoiAll s
 case ok v=>exact Lib.atoiAll_bounds h
 case range=>exact Lib.atoiSat_bounds s
 exact(show(-9223372036854775808:Int)<=0/\(0:Int)<=9223372036854775807 by decide)
theorem zc1 {s:Str}{c:UInt8}(h:zaq s=true)(hc:zdf c=false):c∉s:=fun hm=>by
 unfold zaq at h
 simp only[aG,List.all_eq_true]at h
 have:=h.2 c hm
 rw[hc]at this
 cases this
theorem zdB {c x:UInt8}: ∀ (r v:Str),x∈v++r->x≠c -> ∃ p∈curS c v r,x∈p
 | [],v,h,_=>⟨v,by simp[curS],by simpa using h⟩
 |y::r,v,h,hn=>by
  unfold curS
  cases hy:y==c with
  |true=>
   rw[aD]
   have e:y=c:=by simpa using hy
   rcases List.mem_append.1 h with h1 |h1
   ·exact⟨v,by simp,h1⟩
   ·rcases List.mem_cons.1 h1 with h2 |h2
    ·exact absurd (h2.trans e) hn
    ·obtain⟨p,h3,h4⟩:=zdB r [] (by simpa using h2) hn
     exact⟨p,List.mem_cons_of_mem _ h3,h4⟩
  |false=>
   rw[aC]
   exact zdB r (v++[y]) (by simpa using h) hn
theorem zen {s:Str}(h:zaG s=true):(32:UInt8)∉s:=fun hm=>by
 unfold zaG at h
 simp only[aG,List.all_eq_true]at h
 obtain⟨p,h1,h2⟩:=zdB (c:=47) s [] (by simpa using hm) (by decide)
 exact zc1 (h.2 p h1) (by decide) h2
theorem zeG (k:Nat)(hk:k<16):Lib.decDigits k=if k<10 then [UInt8.ofNat (48+k)] else [UInt8.ofNat (48+k / 10),UInt8.ofNat (48+k % 10)]:=by
 rw[Lib.decDigits]
 split
 ·rfl
 ·rw[Lib.decDigits,dif_pos (by omega)]
  rfl
theorem zhx (k:Nat)(hk:k<16):(32:UInt8)∉Lib.decDigits k/\zcK (Lib.decDigits k)=(k:Int):=by
 rw[zeG k hk]
 revert k
 decide+kernel
theorem zjf (k:Nat)(hk:k<16):zje (Lib.decDigits k)=(k:Int):=by
 rw[zeG k hk]
 revert k
 decide+kernel
theorem zc2 {W b w R:Str}(h1:(32:UInt8)∉W)(h2:(32:UInt8)∉b)(h3:(32:UInt8)∉w):wordsO (W++32::(b++32::(w++32::R)))=W::b::w::zaK 32 1 [] R:=by
 unfold wordsO
 rw[zbT h1,zbT h2,zbT h3]
theorem zhy {t:List Str}(h:zaf t=true):t.length<=10/\Bk.bulk t<=130:=by
 unfold zaf at h
 simp only[aG,Bool.not_eq_true',decide_eq_false_iff_not]at h
 have hl:t.length<=10:=by omega
 refine⟨hl,?_⟩
 have hs:zaj Bk.bulk t<=12*t.length:=zcy fun s hs=>by
  have:=List.all_eq_true.1 h.2 s hs
  unfold zbD at this
  simp only[aG,Bool.not_eq_true',decide_eq_false_iff_not]at this
  show s.length<=12
  omega
 show t.length+zaj Bk.bulk t<=130
 omega
theorem zlo {t:List Str}(h:((t.length:Int)==0)=true):t=[]:=by
 cases t with
 |nil=>rfl
 |cons a t=>simp at h;omega
theorem zfC {o:Op}(ho:opB o=true){num:Str->Int}(hnum: ∀ k:Nat,k<16->num (Lib.decDigits k)=(k:Int)):opI (wordsO (zbK o))=o/\znc num (wordsO (zbK o))=o/\4<=(wordsO (zbK o)).length/\(zbK o).length<=300/\zbK o≠ []:=by
 obtain⟨k,b,w,p,t,a,x⟩:=o
 unfold opB at ho
 simp only[aG]at ho
 obtain⟨hb,hw,h3⟩:=ho
 have nb:=zc1 hb (c:=32) (by decide)
 have nw:=zc1 hw (c:=32) (by decide)
 have lb:=zb1 hb
 have lw:=zb1 hw
 by_cases e1:k=1
 ·subst e1
  replace h3:(zaG p&&(zaf x&&(zbd x&&(t==[]&&a==0))))=true:=h3
  simp only[aG,beq_iff_eq]at h3
  obtain⟨hp,hx,hbx,rfl,rfl⟩:=h3
  have tm:=zhy hx
  have hbl:=zcU x
  have pl:=zb2 hp
  have e:zbK ⟨1,b,w,p,[],0,x⟩=[115,101,116]++32::(b++32::(w++32::(p++32::zaJ x))):=by
   show([115,101,116]++[32]++b++[32]++w++[32])++p++[32]++zaJ x=_
   simp
  have hW:wordsO (zbK ⟨1,b,w,p,[],0,x⟩)=[[115,101,116],b,w,p,zaJ x]:=by
   rw[e,zc2 (by decide) nb nw,zbT (zen hp),zaS]
   rfl
  have hcur:=zeF x [] hbx
  refine⟨?_,?_,by rw[hW];simp,by rw[e];simp;omega,by rw[e];simp⟩
  ·rw[hW]
   show(⟨1,b,w,p,[],0,bif zaJ x !=[] then(curS 124 [] (zaJ x)).drop 1 else []⟩:Op)=_
   cases x with
   |nil=>rfl
   |cons y l=>
    have:(zaJ (y::l) !=[])=true:=by simp[zaJ]
    rw[this,aD,hcur]
    rfl
  ·rw[hW]
   show(⟨1,b,w,p,[],0,(zaK 124 11 [] (zaJ x)).drop 1⟩:Op)=_
   rw[zaT 124 (zaJ x) 11 [] (by rw[hcur,aL];omega),hcur]
   rfl
 by_cases e2:k=2
 ·subst e2
  replace h3:(zaG p&&(t==[]&&(a==0&&(x.length:Int)==0)))=true:=h3
  simp only[aG]at h3
  obtain⟨hp,h4,h5,h6⟩:=h3
  obtain rfl:t=[]:=by simpa using h4
  obtain rfl:a=0:=by simpa using h5
  obtain rfl:=zlo h6
  have pl:=zb2 hp
  have e:zbK ⟨2,b,w,p,[],0,[]⟩=[100,114,111,112]++32::(b++32::(w++32::p)):=by
   show([100,114,111,112]++[32]++b++[32]++w++[32])++p=_
   simp
  have hW:wordsO (zbK ⟨2,b,w,p,[],0,[]⟩)=[[100,114,111,112],b,w,p]:=by
   rw[e,zc2 (by decide) nb nw,zbU (zen hp)]
  exact⟨by rw[hW];rfl,by rw[hW];rfl,by rw[hW];simp,by rw[e];simp;omega,by rw[e];simp⟩
 by_cases e3:k=3
 ·subst e3
  replace h3:(zaG p&&(zaG t&&(a==0&&(x.length:Int)==0)))=true:=h3
  simp only[aG]at h3
  obtain⟨hp,ht,h5,h6⟩:=h3
  obtain rfl:a=0:=by simpa using h5
  obtain rfl:=zlo h6
  have pl:=zb2 hp
  have tl:=zb2 ht
  have e:zbK ⟨3,b,w,p,t,0,[]⟩=[109,111,118,101]++32::(b++32::(w++32::(p++32::t))):=by
   show([109,111,118,101]++[32]++b++[32]++w++[32])++p++[32]++t=_
   simp
  have hW:wordsO (zbK ⟨3,b,w,p,t,0,[]⟩)=[[109,111,118,101],b,w,p,t]:=by
   rw[e,zc2 (by decide) nb nw,zbT (zen hp),zaS]
   rfl
  exact⟨by rw[hW];rfl,by rw[hW];rfl,by rw[hW];simp,by rw[e];simp;omega,by rw[e];simp⟩
 by_cases e4:k=4
 ·subst e4
  replace h3:(zaq t&&(p==[]&&(a==0&&(x.length:Int)==0)))=true:=h3
  simp only[aG]at h3
  obtain⟨ht,h4,h5,h6⟩:=h3
  obtain rfl:p=[]:=by simpa using h4
  obtain rfl:a=0:=by simpa using h5
  obtain rfl:=zlo h6
  have tl:=zb1 ht
  have e:zbK ⟨4,b,w,[],t,0,[]⟩=[102,111,114,107]++32::(b++32::(w++32::t)):=by
   show([102,111,114,107]++[32]++b++[32]++w++[32])++t=_
   simp
  have hW:wordsO (zbK ⟨4,b,w,[],t,0,[]⟩)=[[102,111,114,107],b,w,t]:=by
   rw[e,zc2 (by decide) nb nw,zbU (zc1 ht (by decide))]
  exact⟨by rw[hW];rfl,by rw[hW];rfl,by rw[hW];simp,by rw[e];simp;omega,by rw[e];simp⟩
 by_cases e5:k=5
 ·subst e5
  replace h3:(zaq t&&(p==[]&&(a==0&&(x.length:Int)==0)))=true:=h3
  simp only[aG]at h3
  obtain⟨ht,h4,h5,h6⟩:=h3
  obtain rfl:p=[]:=by simpa using h4
  obtain rfl:a=0:=by simpa using h5
  obtain rfl:=zlo h6
  have tl:=zb1 ht
  have e:zbK ⟨5,b,w,[],t,0,[]⟩=[117,110,105,116,101]++32::(b++32::(w++32::t)):=by
   show([117,110,105,116,101]++[32]++b++[32]++w++[32])++t=_
   simp
  have hW:wordsO (zbK ⟨5,b,w,[],t,0,[]⟩)=[[117,110,105,116,101],b,w,t]:=by
   rw[e,zc2 (by decide) nb nw,zbU (zc1 ht (by decide))]
  exact⟨by rw[hW];rfl,by rw[hW];rfl,by rw[hW];simp,by rw[e];simp;omega,by rw[e];simp⟩
 have hne:(k==1)=false/\(k==2)=false/\(k==3)=false/\(k==4)=false/\(k==5)=false:=⟨by simpa using e1,by simpa using e2,by simpa using e3,by simpa using e4,by simpa using e5⟩
 rw[hne.1,hne.2.1,hne.2.2.1,hne.2.2.2.1,hne.2.2.2.2]at h3
 simp only[aC,Bool.or_false]at h3
 by_cases e67:k=6\/k=7
 ·have:(k==6||k==7)=true:=by simpa using e67
  rw[this,aD]at h3
  simp only[aG,decide_eq_true_eq]at h3
  obtain⟨⟨a0,a1⟩,h4,h5,h6⟩:=h3
  obtain rfl:p=[]:=by simpa using h4
  obtain rfl:t=[]:=by simpa using h5
  obtain rfl:=zlo h6
  obtain⟨n,rfl⟩:=Int.eq_ofNat_of_zero_le a0
  obtain⟨dn,da⟩:=zhx n (by omega)
  have dl:=zem n (by omega)
  have hnum:=hnum n (by omega)
  rcases e67 with rfl |rfl
  ·have e:zbK ⟨6,b,w,[],[],(n:Int),[]⟩=[112,105,99,107]++32::(b++32::(w++32::Lib.decDigits n)):=by
    show([112,105,99,107]++[32]++b++[32]++w++[32])++Lib.decDigits ((n:Int)).toNat=_
    simp
   have hW:wordsO (zbK ⟨6,b,w,[],[],(n:Int),[]⟩)=[[112,105,99,107],b,w,Lib.decDigits n]:=by
    rw[e,zc2 (by decide) nb nw,zbU dn]
   refine⟨?_,?_,by rw[hW];simp,by rw[e];simp;omega,by rw[e];simp⟩
   ·rw[hW]
    show(⟨6,b,w,[],[],zcK (Lib.decDigits n),[]⟩:Op)=_
    rw[da]
   ·rw[hW]
    show(⟨6,b,w,[],[],num (Lib.decDigits n),[]⟩:Op)=_
    rw[hnum]
  ·have e:zbK ⟨7,b,w,[],[],(n:Int),[]⟩=[98,97,99,107]++32::(b++32::(w++32::Lib.decDigits n)):=by
    show([98,97,99,107]++[32]++b++[32]++w++[32])++Lib.decDigits ((n:Int)).toNat=_
    simp
   have hW:wordsO (zbK ⟨7,b,w,[],[],(n:Int),[]⟩)=[[98,97,99,107],b,w,Lib.decDigits n]:=by
    rw[e,zc2 (by decide) nb nw,zbU dn]
   refine⟨?_,?_,by rw[hW];simp,by rw[e];simp;omega,by rw[e];simp⟩
   ·rw[hW]
    show(⟨7,b,w,[],[],zcK (Lib.decDigits n),[]⟩:Op)=_
    rw[da]
   ·rw[hW]
    show(⟨7,b,w,[],[],num (Lib.decDigits n),[]⟩:Op)=_
    rw[hnum]
 ·have:(k==6||k==7)=false:=by
   rw[Bool.or_eq_false_iff]
   exact⟨by simpa using fun e=>e67 (.inl e),by simpa using fun e=>e67 (.inr e)⟩
  rw[this,aC]at h3
  cases h3
theorem zhz (s:Str):finO s (wordsO s) (opI (wordsO s))=finO s (wordsO s) (opS (wordsO s)):=by
 have key: ∀ o:Op,opB o=true->zbK o=s->opI (wordsO s)=o/\opS (wordsO s)=o:=fun o h e=>by
  obtain⟨h1,h2,_⟩:=zfC h (num:=zje) zjf
  rw[e]at h1 h2
  exact⟨h1,h2⟩
 unfold finO
 cases decide (((wordsO s).length:Int)<4)with
 |true=>rfl
 |false=>
  rw[aC,aC]
  cases hi:opB (opI (wordsO s))&&(zbK (opI (wordsO s))==s)with
  |true=>
   simp only[aG,beq_iff_eq]at hi
   obtain⟨_,h2⟩:=key _ hi.1 hi.2
   rw[h2,hi.1,hi.2,aO]
   rfl
  |false=>
   cases hs:opB (opS (wordsO s))&&(zbK (opS (wordsO s))==s)with
   |true=>
    exfalso
    simp only[aG,beq_iff_eq]at hs
    obtain⟨h1,_⟩:=key _ hs.1 hs.2
    rw[h1,hs.1,hs.2,aO]at hi
    cases hi
   |false=>rfl
theorem zh7 {s:Str}(hs:s.length<=1048576){K:Int->Int->Int->Option Int}(hK: ∀ y1 n j,0<=n->n<1000000 -> ∃ v,K y1 n j=some v /\ -1<=v/\v<=1000000): ∀ (m i:Nat) (y1 n:Int),i<=s.length->i<=6->s.length<m+i->0<=n->n<10 ^ i->
 ∃ v,zbs s K m y1 n (i:Int)=some v /\ -1<=v/\v<=1000000
 |0,i,y1,n,hi,h6,hm,n0,n1=>by omega
 |m+1,i,y1,n,hi,h6,hm,n0,n1=>by
  have hb6:(10:Int) ^ i<=1000000:=by
   have:i=0\/i=1\/i=2\/i=3\/i=4\/i=5\/i=6:=by omega
   rcases this with rfl |rfl |rfl |rfl |rfl |rfl |rfl<;>decide
  simp only[zbs,jn]
  by_cases hc:(i:Int)< (s.length:Int)
  ·have hlt:i<s.length:=by omega
   have hx:s[i]? =some s[i]:=aB hlt
   obtain⟨u0,u1⟩:=ze6 s[i]
   simp only[zcS hx,aA]
   rw[aF hc,aD]
   by_cases c1:((UInt8.toNat s[i]:Nat):Int)<48
   ·rw[aF c1];exact⟨-1,rfl,by omega,by omega⟩
   rw[aE c1,aC]
   by_cases c2:(57:Int)< ((UInt8.toNat s[i]:Nat):Int)
   ·rw[aF c2];exact⟨-1,rfl,by omega,by omega⟩
   rw[aE c2,aC]
   by_cases c3:(6:Int)<=(i:Int)
   ·rw[aF c3];exact⟨-1,rfl,by omega,by omega⟩
   rw[aE c3,aC]
   have hu:IntKind.u8.wrap (((UInt8.toNat s[i]:Nat):Int)-48)=((UInt8.toNat s[i]:Nat):Int)-48:=by
    have h: ∀ z:Int,IntKind.u8.wrap z=z % 256:=fun z=>by simp[IntKind.wrap,IntKind.bits,IntKind.signed]
    rw[h];omega
   have hw:w64 (w64 (n*10)+w64 (IntKind.u8.wrap (((UInt8.toNat s[i]:Nat):Int)-48)))=n*10+(((UInt8.toNat s[i]:Nat):Int)-48):=by
    rw[hu,zch (n:=n*10) (by omega) (by omega),zch (n:=((UInt8.toNat s[i]:Nat):Int)-48) (by omega) (by omega),zch (by omega) (by omega)]
   rw[hw,zaU hlt (zdh hs)]
   have hp:(10:Int) ^ (i+1)=10 ^ i*10:=Int.pow_succ ..
   exact zh7 hs hK m (i+1) _ _ hlt (by omega) (by omega) (by omega) (by rw[hp];omega)
  ·rw[aE hc,aC]
   exact hK _ _ _ n0 (by omega)
theorem zh8 {s:Str}(hs:s.length<=1048576):zbp s=some (zje s)/\Bk.fit (zje s):=by
 have: ∃ v,zbp s=some v /\ -1<=v/\v<=1000000:=by
  unfold zbp
  simp only[jn]
  refine zh7 hs (fun y1 n j n0 n1=>?_) (((s.length:Int)-0).toNat+1) 0 0 0 (Nat.zero_le _) (Nat.zero_le _) (by omega) (by omega) (by simp)
  cases(s.length:Int)==0 with
  |true=>exact⟨-1,rfl,by omega,by omega⟩
  |false=>
   rw[aC]
   by_cases h1:(1:Int)< (s.length:Int)
   ·have hx:s[0]? =some (s[0]'(by omega)):=aB (by omega)
    have hc:chM s 0=some (s[0]'(by omega)):=zcS hx
    rw[aF h1,aD,hc,aA]
    cases((UInt8.toNat (s[0]'(by omega)):Nat):Int)==48 with
    |true=>exact⟨-1,rfl,by omega,by omega⟩
    |false=>exact⟨n,rfl,by omega,by omega⟩
   ·rw[aE h1]
    exact⟨n,rfl,by omega,by omega⟩
 obtain⟨v,e,v0,v1⟩:=this
 have hv:zje s=v:=by unfold zje;rw[e];rfl
 rw[hv]
 exact⟨e,show -9223372036854775808<=v/\v<=9223372036854775807 by omega⟩
theorem zeH {x:Str}: ∀ {t:List Str},x∈t->x.length<=Bk.bulk t
 |y::t,h=>by
  have e:Bk.bulk (y::t)=t.length+1+(y.length+zaj Bk.bulk t):=rfl
  have e2:Bk.bulk t=t.length+zaj Bk.bulk t:=rfl
  rw[e]
  rcases List.mem_cons.1 h with h1 |h1
  ·rw[h1];omega
  ·have:=zeH h1;omega
theorem zc3 {t:List Str}(h:Bk.bulk t<=1048576):Bk.fit t:=⟨zdh (za0 h),fun x hx=>show x.length<=maxi from zdh (Nat.le_trans (zeH hx) h)⟩
theorem zeI {k n:Int}{g:Nat->Str}{t:List Str}(hk: -1<=k/\k<=7)(hg: ∀ i,(g i).length<=1048576)(hn:Bk.fit n)(ht:Bk.bulk t<=1048576):OpFit (znh k g n t):=by
 have f0:Bk.fit k:=(show -9223372036854775808<=k/\k<=9223372036854775807 by omega)
 have z0:Bk.fit (0:Int):=(show(-9223372036854775808:Int)<=0/\(0:Int)<=9223372036854775807 by decide)
 have fg: ∀ i,Bk.fit (g i):=fun i=>show(g i).length<=maxi from zdh (hg i)
 have fe:Bk.fit ([]:Str):=Nat.zero_le _
 have ft:=zc3 ht
 have fn:Bk.fit ([]:List Str):=zc3 (Nat.zero_le _)
 unfold znh
 cases k==1 with
 |true=>exact⟨⟨f0,fg 1,fg 2,fg 3,fe,z0,ft⟩,hg 3,Nat.zero_le _,ht⟩
 |false=>
 cases k==2 with
 |true=>exact⟨⟨f0,fg 1,fg 2,fg 3,fe,z0,fn⟩,hg 3,Nat.zero_le _,Nat.zero_le _⟩
 |false=>
 cases k==3 with
 |true=>exact⟨⟨f0,fg 1,fg 2,fg 3,fg 4,z0,fn⟩,hg 3,hg 4,Nat.zero_le _⟩
 |false=>
 cases k==4||k==5 with
 |true=>exact⟨⟨f0,fg 1,fg 2,fe,fg 3,z0,fn⟩,Nat.zero_le _,hg 3,Nat.zero_le _⟩
 |false=>exact⟨⟨f0,fg 1,fg 2,fe,fe,hn,fn⟩,Nat.zero_le _,Nat.zero_le _,Nat.zero_le _⟩
theorem kO_cases (u:Str)(d:Int):kO u d=1\/kO u d=2\/kO u d=3\/kO u d=4\/kO u d=5\/kO u d=6\/kO u d=7\/kO u d=d:=by
 unfold kO
 cases u==[115,101,116];cases u==[100,114,111,112];cases u==[109,111,118,101];cases u==[102,111,114,107];cases u==[117,110,105,116,101];cases u==[112,105,99,107];cases u==[98,97,99,107]
 all_goals simp
theorem kI_cases (u:Str):kI u=1\/kI u=2\/kI u=3\/kI u=4\/kI u=5\/kI u=6\/kI u=7\/kI u=0\/kI u = -1:=by
 unfold kI
 cases u==[]with
 |true=>simp
 |false=>rw[aC];rcases kO_cases u (-1)with h |h |h |h |h |h |h |h<;>simp[h]
theorem zcr {s:Str}(i:Nat):(gW (wordsO s) i).length<=s.length:=by
 unfold gW
 cases h:(wordsO s)[i]? with
 |none=>rw[List.getD_eq_getElem?_getD,h];exact Nat.zero_le _
 |some p=>
  rw[List.getD_eq_getElem?_getD,h]
  have:=zcT 32 s 4 [] p (aH h)
  simpa using this
theorem zfZ {s:Str}(hs:s.length<=1048576):OpFit (opI (wordsO s)):=by
 unfold opI
 refine zeI (by rcases kI_cases (gW (wordsO s) 0)with h |h |h |h |h |h |h |h |h<;>omega) (fun i=>Nat.le_trans (zcr i) hs) ?_ ?_
 ·cases kI (gW (wordsO s) 0)==6||kI (gW (wordsO s) 0)==7 with
  |true=>exact zhw _
  |false=>exact(show(-9223372036854775808:Int)<=0/\(0:Int)<=9223372036854775807 by decide)
 ·cases gW (wordsO s) 4 !=[]with
  |true=>
   rw[aD,zln]
   have h1:=zcq 124 (gW (wordsO s) 4) ((gW (wordsO s) 4).length+1) []
   simp only[List.length_nil,Nat.zero_add]at h1
   have h2:=zcr (s:=s) 4
   exact Nat.le_trans (zdL h1 (zbG _ _ _ _).1) (by omega)
  |false=>exact Nat.zero_le _
theorem zjg {s:Str}(hs:s.length<=1048576):OpFit (opS (wordsO s)):=by
 unfold opS znc
 refine zeI (by rcases kO_cases (gW (wordsO s) 0) 0 with h |h |h |h |h |h |h |h<;>omega) (fun i=>Nat.le_trans (zcr i) hs) (zh8 (Nat.le_trans (zcr 3) hs)).2 ?_
 have h1:=zcq 124 (gW (wordsO s) 4) 11 []
 simp only[List.length_nil,Nat.zero_add]at h1
 have h2:=zcr (s:=s) 4
 exact Nat.le_trans (zdL h1 (zbG _ _ _ _).1) (by omega)
theorem zf0 {s:Str}(hs:s.length<=1048576):strings_SplitN s ([32]:Str) 5=some (wordsO s):=by
 unfold strings_SplitN wordsO
 rw[if_pos ⟨by omega,by simp,by omega,by omega⟩]
 have h0:=zcz 32 s (min (5:Int).toNat (s.length+1)-1) [] (by simp)
 rw[List.nil_append]at h0
 rw[h0]
 by_cases h:4<=s.length
 ·have e:min (5:Int).toNat (s.length+1)-1=4:=by show min 5 (s.length+1)-1=4;omega
  rw[e]
 ·have hl:=zbS 32 s []
  have e:min (5:Int).toNat (s.length+1)-1=s.length:=by show min 5 (s.length+1)-1=_;omega
  rw[e,zaT 32 s s.length [] (by simpa using hl),zaT 32 s 4 [] (by omega)]
theorem zeo (u:Str):zah zas u=some (kI u):=by
 unfold zah kI kO
 show(bif u==[] then some 0 else bif u==[115,101,116] then some 1 else bif u==[100,114,111,112] then some 2 else bif u==[109,111,118,101] then some 3 else bif u==[102,111,114,107] then some 4 else bif u==[117,110,105,116,101] then some 5 else bif u==[112,105,99,107] then some 6 else bif u==[98,97,99,107] then some 7 else some (-1))=_
 cases u==[];cases u==[115,101,116];cases u==[100,114,111,112];cases u==[109,111,118,101];cases u==[102,111,114,107];cases u==[117,110,105,116,101];cases u==[112,105,99,107];cases u==[98,97,99,107]
 all_goals rfl
theorem zcM {s:Str}{o:Op}(h:OpFit o):((zcb o).bind fun z=>bif !z then some (zdg,false) else((zbO o).bind fun y=>bif y !=s then some (zdg,false) else some (o,true)))=some (bif opB o&&(zbK o==s) then(o,true) else(zdg,false)):=by
 rw[zhp h,aA]
 cases ho:opB o with
 |false=>rfl
 |true=>
  rw[zjb h ho,aA,bne]
  cases zbK o==s<;>rfl
theorem zlp {s:Str}{o:Op}(h:OpFit o):((zbM o).bind fun z=>bif !z then some (zdg,false) else((zbw o).bind fun y=>bif y !=s then some (zdg,false) else some (o,true)))=some (bif opB o&&(zbK o==s) then(o,true) else(zdg,false)):=by
 rw[zhq h,aA]
 cases ho:opB o with
 |false=>rfl
 |true=>
  rw[zjc h ho,aA,bne]
  cases zbK o==s<;>rfl
theorem zf1 {w:List Str}{i:Nat}(h:i<w.length):gi w (i:Int)=some (gW w i):=by
 rw[zbl (aB h)]
 unfold gW
 rw[List.getD_eq_getElem?_getD,aB h]
 rfl
theorem zf2 {s:Str}(hs:s.length<=1048576):zb4 s=some (finO s (wordsO s) (opI (wordsO s))):=by
 unfold zb4
 have hlen:(wordsO s).length<=5:=(zbG 32 s 4 []).2
 have hf:=zfZ hs
 have h4l:=zcr (s:=s) 4
 have h3l:=zcr (s:=s) 3
 rw[zf0 hs,aA]
 unfold finO
 generalize hw:wordsO s=w at*
 by_cases h4:(w.length:Int)<4
 ·rw[aF h4];rfl
 have g0:gi w 0=some (gW w 0):=zf1 (i:=0) (by omega)
 have g1:gi w 1=some (gW w 1):=zf1 (i:=1) (by omega)
 have g2:gi w 2=some (gW w 2):=zf1 (i:=2) (by omega)
 have g3:gi w 3=some (gW w 3):=zf1 (i:=3) (by omega)
 rw[aE h4,aC,aC]
 simp only[jn,show zbu=some zas from rfl,aA,g0,g1,g2,g3,zeo,aD]
 unfold opI at hf ⊢
 rcases kI_cases (gW w 0)with e |e |e |e |e |e |e |e |e
 ·rw[e]at hf ⊢
  simp only[Int.reduceBEq,aD,aC,Bool.or_false,Bool.false_or]at hf ⊢
  by_cases h5:(w.length:Int)=5
  ·have g4:gi w 4=some (gW w 4):=zf1 (i:=4) (by omega)
   rw[beq_iff_eq.2 h5,aD,g4,aA]
   cases hz:gW w 4 !=[]with
   |true=>
    have hsp:strings_Split (gW w 4) ([124]:Str)=some (curS 124 [] (gW w 4)):=by
     unfold strings_Split
     rw[if_pos ⟨by omega,by simp⟩,zeB]
    have hsl:=zd3 (xs:=curS 124 [] (gW w 4)) (i:=1) (zdu 124 _ _)
    rw[hz,aD]at hf
    simp only[aD,aA,hsp]
    rw[show(1:Int)=((1:Nat):Int) from rfl,hsl,aA]
    exact zcM hf
   |false=>
    rw[hz,aC]at hf
    exact zcM hf
  ·have hb:((w.length:Int)==5)=false:=beq_false_of_ne h5
   have hz:gW w 4=[]:=by
    unfold gW
    rw[List.getD_eq_getElem?_getD,List.getElem?_eq_none (by omega)]
    rfl
   rw[hb,aC,hz]
   rw[hz]at hf
   exact zcM hf
 ·rw[e]at hf ⊢
  exact zcM hf
 ·rw[e]at hf ⊢
  simp only[Int.reduceBEq,aD,aC]
  by_cases h5:(w.length:Int)=5
  ·have g4:gi w 4=some (gW w 4):=zf1 (i:=4) (by omega)
   rw[beq_iff_eq.2 h5,aD,g4,aA]
   exact zcM hf
  ·have hb:((w.length:Int)==5)=false:=beq_false_of_ne h5
   have hz:gW w 4=[]:=by
    unfold gW
    rw[List.getD_eq_getElem?_getD,List.getElem?_eq_none (by omega)]
    rfl
   have hf2:OpFit ⟨3,gW w 1,gW w 2,gW w 3,gW w 4,0,[]⟩:=hf
   rw[hz]at hf2
   rw[hb,aC]
   have:=zcM (s:=s) hf2
   show _=some (bif opB ⟨3,gW w 1,gW w 2,gW w 3,gW w 4,0,[]⟩&&(zbK ⟨3,gW w 1,gW w 2,gW w 3,gW w 4,0,[]⟩==s) then(⟨3,gW w 1,gW w 2,gW w 3,gW w 4,0,[]⟩,true) else(zdg,false))
   rw[hz]
   exact this
 ·rw[e]at hf ⊢
  exact zcM hf
 ·rw[e]at hf ⊢
  exact zcM hf
 ·rw[e]at hf ⊢
  have ha:strconv_Atoi (gW w 3)=some (zcK (gW w 3),()):=by unfold strconv_Atoi;rw[if_pos (by omega)]
  simp only[Int.reduceBEq,aD,aC,ha,aA]
  exact zcM hf
 ·rw[e]at hf ⊢
  have ha:strconv_Atoi (gW w 3)=some (zcK (gW w 3),()):=by unfold strconv_Atoi;rw[if_pos (by omega)]
  simp only[Int.reduceBEq,aD,aC,ha,aA]
  exact zcM hf
 ·rw[e]at hf ⊢
  exact zcM hf
 ·rw[e]at hf ⊢
  exact zcM hf
theorem zbe {z3:List Str}{K40:Int->Int->Str->Str->Str->Str->Int->List Str->Option (Op×Bool)}{u:Str}(hu:gi z3 0=some u)(m i:Nat)(hi:i<8)(k:Int)(b w p t:Str)(a:Int)(x:List Str):
 zar z3 K40 (m+1) (i:Int) k b w p t a x=zar z3 K40 m ((i+1:Nat):Int) (bif zas.getD i []==u then(i:Int) else k) b w p t a x:=by
 have hl:i<zas.length:=hi
 have hx:zas[i]? =some (zas.getD i []):=by rw[List.getD_eq_getElem?_getD,aB hl];rfl
 simp only[zar,show za3=some zas from rfl,aA,jn,zb9 hx,zbl hx,hu,aD,zaU (za5 hx) (show zas.length<=maxi by unfold maxi zas;simp)]
 cases zas.getD i []==u<;>rfl
theorem zhA (u:Str):(bif zas.getD 7 []==u then((7:Nat):Int) else bif zas.getD 6 []==u then((6:Nat):Int) else bif zas.getD 5 []==u then((5:Nat):Int) else bif zas.getD 4 []==u then((4:Nat):Int) else bif zas.getD 3 []==u then((3:Nat):Int) else bif zas.getD 2 []==u then((2:Nat):Int) else bif zas.getD 1 []==u then((1:Nat):Int) else 0)=kO u 0:=by
 by_cases h1:u=[115,101,116]
 ·subst h1;rfl
 by_cases h2:u=[100,114,111,112]
 ·subst h2;rfl
 by_cases h3:u=[109,111,118,101]
 ·subst h3;rfl
 by_cases h4:u=[102,111,114,107]
 ·subst h4;rfl
 by_cases h5:u=[117,110,105,116,101]
 ·subst h5;rfl
 by_cases h6:u=[112,105,99,107]
 ·subst h6;rfl
 by_cases h7:u=[98,97,99,107]
 ·subst h7;rfl
 unfold kO
 rw[show zas.getD 1 []=[115,101,116] from rfl,show zas.getD 2 []=[100,114,111,112] from rfl,show zas.getD 3 []=[109,111,118,101] from rfl,show zas.getD 4 []=[102,111,114,107] from rfl,show zas.getD 5 []=[117,110,105,116,101] from rfl,show zas.getD 6 []=[112,105,99,107] from rfl,show zas.getD 7 []=[98,97,99,107] from rfl]
 rw[beq_false_of_ne h1,beq_false_of_ne h2,beq_false_of_ne h3,beq_false_of_ne h4,beq_false_of_ne h5,beq_false_of_ne h6,beq_false_of_ne h7,beq_false_of_ne (Ne.symm h1),beq_false_of_ne (Ne.symm h2),beq_false_of_ne (Ne.symm h3),beq_false_of_ne (Ne.symm h4),beq_false_of_ne (Ne.symm h5),beq_false_of_ne (Ne.symm h6),beq_false_of_ne (Ne.symm h7)]
 rfl
theorem zjh {z3:List Str}{K40:Int->Int->Str->Str->Str->Str->Int->List Str->Option (Op×Bool)}{u:Str}(hu:gi z3 0=some u)(b w p t:Str)(a:Int)(x:List Str):
 zar z3 K40 8 1 0 b w p t a x=K40 8 (kO u 0) b w p t a x:=by
 have e:zar z3 K40 8 1 0 b w p t a x=zar z3 K40 (7+1) ((1:Nat):Int) 0 b w p t a x:=rfl
 rw[e,zbe hu 7 1 (by omega),zbe hu 6 2 (by omega),zbe hu 5 3 (by omega),zbe hu 4 4 (by omega),zbe hu 3 5 (by omega),zbe hu 2 6 (by omega),zbe hu 1 7 (by omega),zhA u]
 rfl
theorem zji {w:List Str}(hl:w.length<=5)(K:Str->Option (Op×Bool)):(bif(w.length:Int)==5 then(gi w 4).bind fun u=>K u else K [])=K (gW w 4):=by
 by_cases h5:(w.length:Int)=5
 ·have g4:gi w 4=some (gW w 4):=zf1 (i:=4) (by omega)
  rw[beq_iff_eq.2 h5,aD,g4,aA]
 ·have hz:gW w 4=[]:=by
   unfold gW
   rw[List.getD_eq_getElem?_getD,List.getElem?_eq_none (by omega)]
   rfl
  rw[beq_false_of_ne h5,aC,hz]
theorem zf3 {s:Str}(hs:s.length<=1048576):zbN s=some (finO s (wordsO s) (opS (wordsO s))):=by
 unfold zbN
 have hlen:(wordsO s).length<=5:=(zbG 32 s 4 []).2
 have hf:=zjg hs
 have h4l:=zcr (s:=s) 4
 have h3l:=zcr (s:=s) 3
 have hcut:za4 s (UInt8.ofNatLT 32 (by decide):zdt) 4=some (wordsO s):=zdw (most:=4) hs (by omega)
 rw[hcut,aA]
 unfold finO
 generalize hw:wordsO s=w at*
 by_cases h4:(w.length:Int)<4
 ·rw[aF h4];rfl
 have g0:gi w 0=some (gW w 0):=zf1 (i:=0) (by omega)
 have g1:gi w 1=some (gW w 1):=zf1 (i:=1) (by omega)
 have g2:gi w 2=some (gW w 2):=zf1 (i:=2) (by omega)
 have g3:gi w 3=some (gW w 3):=zf1 (i:=3) (by omega)
 have hn:=(zh8 (s:=gW w 3) (by omega)).1
 have hc2:za4 (gW w 4) (UInt8.ofNatLT 124 (by decide):zdt) 11=some (zaK 124 11 [] (gW w 4)):=zdw (most:=11) (by omega) (by omega)
 have hsl:slM (zaK 124 11 [] (gW w 4)) 1 ((zaK 124 11 [] (gW w 4)).length:Int)=some ((zaK 124 11 [] (gW w 4)).drop 1):=zd3 (i:=1) (zbG _ _ _ _).1
 rw[aE h4,aC,aC,g1,g2,aA,aA]
 simp only[jn]
 rw[zjh g0,zji hlen]
 unfold opS znc at hf ⊢
 rcases kO_cases (gW w 0) 0 with e |e |e |e |e |e |e |e
 ·rw[e]at hf ⊢
  simp only[Int.reduceBEq,aD,aC,g3,hc2,hsl,aA]
  exact zlp hf
 all_goals
  rw[e]at hf ⊢
  simp only[Int.reduceBEq,aD,aC,g3,hn,aA]
  exact zlp hf
theorem zdM:Bk.fit zdg:=by
 have z0:Bk.fit (0:Int):=(show(-9223372036854775808:Int)<=0/\(0:Int)<=9223372036854775807 by decide)
 have fe:Bk.fit ([]:Str):=Nat.zero_le _
 have fn:Bk.fit ([]:List Str):=zc3 (Nat.zero_le _)
 exact⟨z0,fe,fe,fe,fe,z0,fn⟩
theorem zjj {s:Str}(hs:s.length<=1048576):Bk.fit (finO s (wordsO s) (opI (wordsO s))).1/\(finO s (wordsO s) (opI (wordsO s))).1.Text.length<=1048576:=by
 have hf:=zfZ hs
 have hb:=za0 hf.text
 unfold finO
 cases decide (((wordsO s).length:Int)<4)with
 |true=>exact⟨zdM,Nat.zero_le _⟩
 |false=>
  rw[aC]
  cases opB (opI (wordsO s))&&(zbK (opI (wordsO s))==s)with
  |true=>exact⟨hf.fit,hb⟩
  |false=>exact⟨zdM,Nat.zero_le _⟩
theorem zlq (x:Vm.Op):(⟨x.Kind,x.Branch,x.Who,x.Path,x.To,x.At,x.Text⟩:Vm.Op)=x:=rfl
theorem zdN {s:Str}(h:Bk.fit s):za2 s=some true:=by
 unfold za2
 by_cases hc:(1048576:Int)< (s.length:Int)
 ·rw[aF hc];rfl
 rw[aE hc,aC]
 have hs:s.length<=1048576:=by omega
 have es:zbN s=some (finO s (wordsO s) (opI (wordsO s))):=by rw[zhz];exact zf3 hs
 obtain⟨hf,hl⟩:=zjj hs
 simp only[es,zf2 hs,aA]
 generalize finO s (wordsO s) (opI (wordsO s))=g at*
 have c1:zcD.cn g.1=g.1.Text.length:=by
  have:=zh2 g.1.Text
  show 0+(0+(0+(0+(0+(0+zcw.list.cn g.1.Text)))))=_
  omega
 have hg:Bk.fit (zcD.wr 1 g.1).2:=zi3 1 _ (by omega) (by omega) hf
 have e1:(⟨g.1.Kind,g.1.Branch,g.1.Who,g.1.Path,g.1.To,g.1.At,(zcD.wr 1 g.1).2.Text⟩:Vm.Op)=(zcD.wr 1 g.1).2:=rfl
 have c3:=zcD.cnt 1 g.1
 have e2:=zcD.again 1 g.1
 have n2:decide ((zcD.wr 1 g.1).1<0)=false:=aE (by rw[zcD.fst];omega)
 simp only[zlq,jn,zrS hf,aO,aK,aC,bne_self_eq_false,aA,zna (x:=g.1) (k:=1) (by omega) (by omega) hf,e1,
  znb (zcD.held_wr 1 g.1) (show(0:Int)<=1 by omega) (by omega) hg,e2,n2]
end Go.Vm
