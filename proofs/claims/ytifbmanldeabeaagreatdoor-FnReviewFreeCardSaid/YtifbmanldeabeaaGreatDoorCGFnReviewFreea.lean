/- Plain law FnReviewFree, and what it uses: what the models answer. Conditions: each law's own premises. -/
import Derived.Test.YtifbmanldeabeaaGreatDoorCM0
import Derived.Test.YtifbmanldeabeaaGreatDoorCM2
import Derived.Test.YtifbmanldeabeaaGreatDoorCLw
import Derived.Sort.Walk0
import Derived.Lib.SplitLaws
import Derived.Test.YtifbmanldeabeaaGreatDoorCX
import Derived.Lib.Join
namespace Go.Vm
open Go Go.Sx
set_option linter.unusedSimpArgs false
set_option linter.unusedVariables false
def chB (c:UInt8):Bool:= !(decide ((c.toNat:Int)<32)||decide (126< (c.toNat:Int)))
def zdO (s:Str):Bool:= !decide (12< (s.length:Int))&&s.all chB
def zaw (xs:List Str):Bool:= !decide (10< (xs.length:Int))&&xs.all zdO
theorem znS (a b:Int):decide (a<=b) = !decide (b<a):=by
 by_cases h:a<=b
 ·rw[aF h,aE (by omega)];rfl
 ·rw[aE h,aF (by omega)];rfl
theorem znT {s:Str}(h:s.length<=maxi):zg3 s=some (zdO s):=by
 unfold zg3 zdO
 simp only[jn,zan]
 cases decide ((12:Int)< (s.length:Int))
 case true=>rfl
 rw[aC,zbi (α:=UInt8) (xs:=s) (p:=chB) (r0:=some false) (Z:=some true) (f:=fun m i=>zc1 s (fun _ _=>some true) m false i) (fun m i x hx=>by
  simp only[zc1,jn,zal hx,zjV hx,aD,aA,zab (zau hx) h,chB]
  cases decide ((x.toNat:Int)<32)<;>cases decide (126< (x.toNat:Int))<;>rfl) (fun m=>by simp only[zc1,zac,aC]) (by omega)]
 cases s.all chB<;>rfl
theorem znU {s:Str}(h:s.length<=maxi):zgZ s=some (zdO s):=by
 unfold zgZ zdO
 simp only[jn,zan,znS]
 rw[zbi (α:=UInt8) (xs:=s) (p:=chB) (r0:=some false) (Z:=some (!decide (12< (s.length:Int)))) (f:=fun m i=>zcR s (fun _ _=>some (!decide (12< (s.length:Int)))) m false i) (fun m i x hx=>by
  simp only[zcR,jn,zal hx,zjV hx,aD,aA,zab (zau hx) h,chB]
  cases decide ((x.toNat:Int)<32)<;>cases decide (126< (x.toNat:Int))<;>rfl) (fun m=>by simp only[zcR,zac,aC]) (by omega)]
 cases s.all chB<;>cases decide (12< (s.length:Int))<;>rfl
theorem zhi {xs:List Str}(h:Bk.fit xs):zco xs=some (zaw xs):=by
 have hl:=zb6 h
 unfold zco zaw
 simp only[jn,zan]
 cases decide ((10:Int)< (xs.length:Int))
 case true=>rfl
 rw[aC,zbi (α:=Str) (xs:=xs) (p:=zdO) (r0:=some false) (Z:=some true) (f:=fun m i=>zc2 xs (fun _ _=>some true) m false i) (fun m i x hx=>by
  have hx2:x.length<=maxi:=zgk h hx
  simp only[zc2,zal hx,zad hx,aD,aA,zab (zau hx) hl,znT hx2]
  cases zdO x<;>rfl) (fun m=>by simp only[zc2,zac,aC]) (by omega)]
 cases xs.all zdO<;>rfl
theorem zhD {xs:List Str}(h:Bk.fit xs):zdl xs=some (zaw xs):=by
 have hl:=zb6 h
 unfold zdl zaw
 simp only[jn,zan,znS]
 rw[zbi (α:=Str) (xs:=xs) (p:=zdO) (r0:=some false) (Z:=some (!decide (10< (xs.length:Int)))) (f:=fun m i=>zd5 xs (fun _ _=>some (!decide (10< (xs.length:Int)))) m false i) (fun m i x hx=>by
  have hx2:x.length<=maxi:=zgk h hx
  simp only[zd5,zal hx,zad hx,aD,aA,zab (zau hx) hl,znU hx2]
  cases zdO x<;>rfl) (fun m=>by simp only[zd5,zac,aC]) (by omega)]
 cases xs.all zdO<;>cases decide (10< (xs.length:Int))<;>rfl
theorem zam {t:List Str}(h:zaw t=true):t.length<=10:=by
 unfold zaw at h
 simp only[aG,Bool.not_eq_true',decide_eq_false_iff_not]at h
 omega
theorem zaU {t:List Str}(h:zaw t=true): ∀ s∈t,zdO s=true:=by
 unfold zaw at h
 simp only[aG,List.all_eq_true]at h
 exact h.2
theorem zkd {s:Str}(h:zdO s=true):s.length<=12:=by
 unfold zdO at h
 simp only[aG,Bool.not_eq_true',decide_eq_false_iff_not]at h
 omega
theorem zfM {xs ys:List Str}(h:xs.length<=maxi):zaE xs ys=some (xs==ys):=by
 unfold zaE
 simp only[zjI,jn,zan]
 by_cases hn:xs.length=ys.length
 ·rw[hn,aO,aK,aC,<- hn]
  rw[zjH (α:=Str) (r0:=some false) (Z:=some true) (f:=fun m i=>zaF xs ys (fun _ _=>some true) m false i) hn (fun m i x y hx hy=>by
   simp only[zaF,zal hx,zad hx,zad hy,aD,aA,zab (zau hx) h,bne]
   cases x==y<;>rfl) (fun m=>by simp only[zaF,zac,aC]) (by omega)]
  cases xs==ys<;>rfl
 ·rw[beq_false_of_ne hn,Bool.not_false,aD,beq_false_of_ne (fun e=>hn (by rw[e]))]
theorem ze8 {xs ys:List Str}(h:xs.length<=maxi):zdZ xs ys=some (xs==ys):=by
 unfold zdZ
 simp only[zjI,jn,zan]
 by_cases hn:xs.length=ys.length
 ·rw[hn,aO,aK,aC,<- hn]
  rw[zjH (α:=Str) (r0:=some false) (Z:=some true) (f:=fun m i=>zcS xs ys (fun _ _=>some true) m false i) hn (fun m i x y hx hy=>by
   simp only[zcS,zal hx,zad hx,zad hy,aD,aA,zab (zau hx) h,bne]
   cases x==y<;>rfl) (fun m=>by simp only[zcS,zac,aC]) (by omega)]
  cases xs==ys<;>rfl
 ·rw[beq_false_of_ne hn,Bool.not_false,aD,beq_false_of_ne (fun e=>hn (by rw[e]))]
theorem zaW {x:List Str}(h:x.length<=1048576):zbZ x=some x:=by
 unfold zbZ
 rw[apN h];rfl
theorem zq8 {a b:Int}(ha:0<=a)(ha':a<=9223372036854775807)(hb:0<=b)(hb':b<=9223372036854775807):0<=zua a b/\zua a b<=9223372036854775807:=by
 obtain⟨n,rfl⟩:=Int.eq_ofNat_of_zero_le ha
 obtain⟨m,rfl⟩:=Int.eq_ofNat_of_zero_le hb
 have hn:n<2 ^ 63:=by omega
 have hm:m<2 ^ 63:=by omega
 have hx:n ^^^ m<2 ^ 63:=Nat.xor_lt_two_pow hn hm
 have h1:(BitVec.ofInt 64 (n:Int) ^^^ BitVec.ofInt 64 (m:Int)).toNat=n ^^^ m:=by
  rw[BitVec.toNat_xor,BitVec.toNat_ofInt,BitVec.toNat_ofInt]
  have e1:((n:Int) % (2 ^ 64:Nat)).toNat=n:=by omega
  have e2:((m:Int) % (2 ^ 64:Nat)).toNat=m:=by omega
  rw[e1,e2]
 unfold zua
 rw[h1]
 have:=zah (n:=((n ^^^ m:Nat):Int)) (by omega) (by omega)
 unfold w64 at this
 rw[this]
 omega
theorem zi4 {a n:Int}(ha:0<=a)(hn:0<n):0<=Int.tmod a n/\Int.tmod a n<n:=⟨Int.tmod_nonneg n ha,Int.tmod_lt_of_pos a hn⟩
def zfK (r:l30Rd)(p:Int):Prop:=r.b.length<=2000/\0<=r.p/\r.p<=p
theorem zkK (u:UInt8):0<=((UInt8.toNat u:Nat):Int)/\((UInt8.toNat u:Nat):Int)<=255:=by
 have:=UInt8.toNat_lt u
 omega
theorem znh {a n:Int}(ha:0<=a)(hn:0<n):0<=Int.tdiv a n/\Int.tdiv a n<=a:=⟨Int.tdiv_nonneg ha (by omega),Int.tdiv_le_self n ha⟩
theorem zgB {r:l30Rd}{n p:Int}(h:zfK r p)(hp:p<=1099511627776)(hn:0<n)(hn':n<=1073741824): ∃ k,zay r n=some (k,r.p+1)/\0<=k/\k<n:=by
 obtain⟨hb,h0,h1⟩:=h
 unfold zay
 have e1:w64 (r.p+1)=r.p+1:=zah (by omega) (by omega)
 have e2:w64 (r.p+1-1)=r.p:=by rw[zah (by omega) (by omega)];omega
 simp only[jn,e1,e2]
 rw[aE (show ¬ n<1 by omega),aC]
 cases hl:(((r.b.length:Int))==(0:Int))with
 |true=>exact⟨0,rfl,by omega,hn⟩
 |false=>
  have hlen:0< (r.b.length:Int):=by
   have:(r.b.length:Int)≠0:=by simpa using hl
   omega
  rw[aC]
  by_cases hlt:r.p< (r.b.length:Int)
  ·obtain⟨u,hu⟩:=zjB h0 hlt
   obtain⟨u0,u1⟩:=zkK u
   rw[aF hlt,aD,hu,aA,if_neg (by omega),aA,zah (by omega) (by omega)]
   exact⟨_,rfl,zi4 u0 hn⟩
  ·rw[aE hlt,aC,if_neg (by omega),aA]
   obtain⟨a0,a1⟩:=zi4 h0 hlen
   obtain⟨u,hu⟩:=zjB a0 a1
   obtain⟨u0,u1⟩:=zkK u
   have e3:w64 (r.p*7)=r.p*7:=zah (by omega) (by omega)
   have e4:w64 (r.p*7+3)=r.p*7+3:=zah (by omega) (by omega)
   obtain⟨b0,b1⟩:=zi4 (show 0<=r.p*7+3 by omega) hlen
   obtain⟨v,hv⟩:=zjB b0 b1
   obtain⟨v0,v1⟩:=zkK v
   obtain⟨d0,d1⟩:=znh h0 hlen
   rw[hu,aA,if_neg (by omega),aA,e3,e4,hv,aA,aA,aA]
   rw[zah (n:=(UInt8.toNat u:Int)) (by omega) (by omega),zah (n:=(UInt8.toNat u:Int)*131) (by omega) (by omega),
    zah (n:=(UInt8.toNat v:Int)) (by omega) (by omega),zah (n:=(UInt8.toNat v:Int)*1117) (by omega) (by omega),
    zah (n:=(UInt8.toNat u:Int)*131+(UInt8.toNat v:Int)*1117) (by omega) (by omega),zah (n:=r.p*29) (by omega) (by omega),
    zah (n:=(UInt8.toNat u:Int)*131+(UInt8.toNat v:Int)*1117+r.p*29) (by omega) (by omega),
    zah (n:=Int.tdiv r.p (r.b.length:Int)) (by omega) (by omega),zah (n:=Int.tdiv r.p (r.b.length:Int)*53) (by omega) (by omega),
    zah (n:=(UInt8.toNat u:Int)*131+(UInt8.toNat v:Int)*1117+r.p*29+Int.tdiv r.p (r.b.length:Int)*53) (by omega) (by omega)]
   obtain⟨q0,q1⟩:=znh (a:=(UInt8.toNat u:Int)*131+(UInt8.toNat v:Int)*1117+r.p*29+Int.tdiv r.p (r.b.length:Int)*53) (n:=64) (by omega) (by omega)
   rw[zah (n:=Int.tdiv ((UInt8.toNat u:Int)*131+(UInt8.toNat v:Int)*1117+r.p*29+Int.tdiv r.p (r.b.length:Int)*53) 64) (by omega) (by omega)]
   exact⟨_,rfl,zi4 (zq8 (by omega) (by omega) (by omega) (by omega)).1 hn⟩
theorem zfK.on {r:l30Rd}{p q:Int}(h:zfK r p)(k:Int)(hk:0<=k)(hq:r.p+k<=q):zfK ⟨r.b,r.p+k⟩ q:=⟨h.1,by have:=h.2.1;show 0<=r.p+k;omega,hq⟩
theorem ztZ {code:List Byte}(h:code.length<=1048576): ∃ b:List Byte,zga code=some ⟨b,0⟩/\b.length<=2000:=by
 unfold zga
 simp only[jn]
 by_cases hl:(2000:Int)< (code.length:Int)
 ·rw[aF hl,aD]
  have:slM code 0 2000=some (code.take 2000):=zir (i:=2000) (by omega)
  rw[this,aA]
  exact⟨_,rfl,by simp;omega⟩
 ·rw[aE hl,aC]
  exact⟨_,rfl,by omega⟩
theorem zp2 {xs ys:List Str}(h:xs.length<=maxi):zgW xs ys=some (xs==ys):=by
 unfold zgW
 simp only[zjI,jn,zan]
 by_cases hn:xs.length=ys.length
 ·rw[hn,aO,aK,aC,<- hn]
  rw[zjH (α:=Str) (r0:=some false) (Z:=some true) (f:=fun m i=>zdU xs ys (fun _ _=>some true) m false i) hn (fun m i x y hx hy=>by
   simp only[zdU,zal hx,zad hx,zad hy,aD,aA,zab (zau hx) h,bne]
   cases x==y<;>rfl) (fun m=>by simp only[zdU,zac,aC]) (by omega)]
  cases xs==ys<;>rfl
 ·rw[beq_false_of_ne hn,Bool.not_false,aD,beq_false_of_ne (fun e=>hn (by rw[e]))]
def zhE:List Str->List Str->Int
 | [],_=>0
 |_:: _,[]=>0
 |x::xs,y::ys=>if x==y then zhE xs ys+1 else zsz (zhE xs (y::ys)) (zhE (x::xs) ys)
termination_by a b=>a.length+b.length
theorem zmt (b:List Str):zhE [] b=0:=by rw[zhE]
theorem zle (a:List Str):zhE a []=0:=by cases a<;>rw[zhE]
theorem zlf (x y:Str)(xs ys:List Str):zhE (x::xs) (y::ys)=if x==y then zhE xs ys+1 else zsz (zhE xs (y::ys)) (zhE (x::xs) ys):=by rw[zhE]
theorem zd2: ∀ (n:Nat) (a b:List Str),a.length+b.length<=n->0<=zhE a b/\zhE a b<=a.length
 |_,[],b,_=>by rw[zmt];simp
 |_,x::xs,[],_=>by rw[zle];simp;omega
 |0,x::xs,y::ys,h=>by simp at h
 |n+1,x::xs,y::ys,h=>by
  simp only[aL]at h
  have h1:=zd2 n xs ys (by omega)
  have h2:=zd2 n xs (y::ys) (by simp;omega)
  have h3:=zd2 n (x::xs) ys (by simp;omega)
  rw[zlf]
  simp only[aL]at*
  split
  ·omega
  ·unfold zsz;split<;>omega
theorem zqO (a b:List Str):0<=zhE a b:=(zd2 _ a b (Nat.le_refl _)).1
theorem zqP (a b:List Str):zhE a b<=a.length:=(zd2 _ a b (Nat.le_refl _)).2
def zh1 (n:Nat)(g:Nat->Int):List Int:=(List.range n).map g
def zgz (n m:Nat)(f:Nat->Nat->Int):List (List Int):=(List.range n).map fun i=>zh1 m (f i)
theorem zm0 {n:Nat}{g g':Nat->Int}(h: ∀ k,k<n->g k=g' k):zh1 n g=zh1 n g':=by
 unfold zh1
 exact List.map_congr_left fun k hk=>h k (List.mem_range.1 hk)
theorem zfq {n m:Nat}{f f':Nat->Nat->Int}(h: ∀ i k,i<n->k<m->f i k=f' i k):zgz n m f=zgz n m f':=by
 unfold zgz
 exact List.map_congr_left fun i hi=>zm0 fun k hk=>h i k (List.mem_range.1 hi) hk
theorem ziz {n k:Nat}{g:Nat->Int}(h:k<n):gi (zh1 n g) (k:Int)=some (g k):=zad (by simp[zh1,h])
theorem ziA {n m i:Nat}{f:Nat->Nat->Int}(h:i<n):gi (zgz n m f) (i:Int)=some (zh1 m (f i)):=zad (by simp[zgz,h])
theorem zmu {n k:Nat}{g:Nat->Int}{v:Int}(h:k<n):siM (zh1 n g) (k:Int) v=some (zh1 n fun k'=>if k'=k then v else g k'):=by
 rw[zbN (by simp[zh1,h])]
 congr 1
 apply List.ext_getElem?
 intro j
 unfold zh1
 by_cases hj:j=k
 ·subst hj
  rw[List.getElem?_set_self (by simp[h])]
  simp[h]
 ·rw[List.getElem?_set_ne (Ne.symm hj)]
  by_cases hl:j<n
  ·simp[hl,hj]
  ·rw[List.getElem?_eq_none (by simp;omega),List.getElem?_eq_none (by simp;omega)]
theorem zmv {n m i:Nat}{f:Nat->Nat->Int}{g:Nat->Int}(h:i<n):siM (zgz n m f) (i:Int) (zh1 m g)=some (zgz n m fun i'=>if i'=i then g else f i'):=by
 rw[zbN (by simp[zgz,h])]
 congr 1
 apply List.ext_getElem?
 intro j
 unfold zgz
 by_cases hj:j=i
 ·subst hj
  rw[List.getElem?_set_self (by simp[h])]
  simp[h]
 ·rw[List.getElem?_set_ne (Ne.symm hj)]
  by_cases hl:j<n
  ·simp[hl,hj]
  ·rw[List.getElem?_eq_none (by simp;omega),List.getElem?_eq_none (by simp;omega)]
section
variable (a b:List Str)
def zbo (i k:Nat):Int:=zhE (a.drop i) (b.drop k)
def zbD (i k i' k':Nat):Int:=if i<i'\/(i=i'/\k<=k') then zbo a b i' k' else 0
def zrN:List (List Int):=zgz (a.length+1) (b.length+1) (zbo a b)
end
section
variable {a b:List Str}
theorem znV (i:Nat):zbo a b i b.length=0:=by unfold zbo;rw[List.drop_length,zle]
theorem zm1 (k:Nat):zbo a b a.length k=0:=by unfold zbo;rw[List.drop_length,zmt]
theorem zmw (i k:Nat):0<=zbo a b i k:=zqO _ _
theorem zmx (i k:Nat):zbo a b i k<=a.length:=by
 have:=zqP (a.drop i) (b.drop k)
 unfold zbo
 simp only[List.length_drop]at this
 omega
theorem zjM {i k:Nat}{x y:Str}(hx:a[i]? =some x)(hy:b[k]? =some y):zbo a b i k=if x==y then zbo a b (i+1) (k+1)+1 else zsz (zbo a b (i+1) k) (zbo a b i (k+1)):=by
 have hi:=zau hx
 have hk:=zau hy
 have ex:a[i]=x:=by rw[aB hi]at hx;exact Option.some.inj hx
 have ey:b[k]=y:=by rw[aB hk]at hy;exact Option.some.inj hy
 unfold zbo
 rw[aI hi,aI hk,zlf,ex,ey]
theorem ze9 {i k:Nat}{v:Int}(hv:v=zbo a b i k)(n m:Nat):zgz n m (fun i'=>if i'=i then(fun k'=>if k'=k then v else zbD a b i (k+1) i k') else zbD a b i (k+1) i')=zgz n m (zbD a b i k):=by
 refine zfq fun i' k' _ _=>?_
 by_cases h1:i'=i
 ·subst h1
  rw[if_pos rfl]
  by_cases h2:k'=k
  ·subst h2
   rw[if_pos rfl,hv]
   simp[zbD]
  ·rw[if_neg h2]
   simp only[zbD,Nat.lt_irrefl,false_or,true_and]
   by_cases h3:k+1<=k'
   ·rw[if_pos h3,if_pos (by omega)]
   ·rw[if_neg h3,if_neg (by omega)]
 ·rw[if_neg h1]
  simp only[zbD]
  by_cases h3:i<i'
  ·rw[if_pos (.inl h3),if_pos (.inl h3)]
  ·rw[if_neg (by omega),if_neg (by omega)]
theorem zjN (i:Nat):zgz (a.length+1) (b.length+1) (zbD a b (i+1) 0)=zgz (a.length+1) (b.length+1) (zbD a b i b.length):=by
 refine zfq fun i' k' _ hk=>?_
 simp only[zbD,Nat.zero_le,and_true]
 by_cases h:i<i'
 ·rw[if_pos (by omega),if_pos (.inl h)]
 ·rw[if_neg (by omega)]
  by_cases h2:i=i'/\b.length<=k'
  ·rw[if_pos (.inr h2),show k'=b.length by omega,znV]
  ·rw[if_neg (by omega)]
theorem ziB:zgz (a.length+1) (b.length+1) (fun _ _=>0)=zgz (a.length+1) (b.length+1) (zbD a b a.length 0):=by
 refine zfq fun i' k' hi _=>?_
 simp only[zbD,Nat.zero_le,and_true]
 by_cases h:a.length<i'\/a.length=i'
 ·rw[if_pos h,show i'=a.length by omega,zm1]
 ·rw[if_neg h]
theorem zlg:zgz (a.length+1) (b.length+1) (zbD a b 0 0)=zrN a b:=by
 refine zfq fun i' k' _ _=>?_
 simp only[zbD,Nat.zero_le,and_true]
 rw[if_pos (by omega)]
theorem znW (hb:b.length<=maxi)(hN:(a.length:Int)+1<=9223372036854775807){i:Nat}(hi:i<a.length){R:Int->List (List Int)->Option (List (List Int))}: ∀ (k m:Nat),k<=b.length->k<m->
 zeI a b (i:Int) R m ((k:Int)-1) (zgz (a.length+1) (b.length+1) (zbD a b i k))=R (-1) (zgz (a.length+1) (b.length+1) (zbD a b i 0))
 |0,0,_,h=>by omega
 |0,m+1,_,_=>by
  simp only[zeI]
  rw[aE (by omega)];rfl
 |k+1,0,_,h=>by omega
 |k+1,m+1,hk,hm=>by
  unfold maxi at hb
  have hx:a[i]? =some a[i]:=aB hi
  have hy:b[k]? =some b[k]:=aB (by omega)
  have hst:=zjM hx hy
  have e1:(((k+1:Nat):Int)-1)=(k:Int):=by omega
  have e2:w64 ((i:Int)+1)=((i+1:Nat):Int):=by rw[zah (by omega) (by omega)];omega
  have e3:w64 ((k:Int)+1)=((k+1:Nat):Int):=by rw[zah (by omega) (by omega)];omega
  have e4:w64 ((k:Int)-1)=(k:Int)-1:=zah (by omega) (by omega)
  have s1:zbD a b i (k+1) (i+1) (k+1)=zbo a b (i+1) (k+1):=by simp[zbD]
  have s2:zbD a b i (k+1) (i+1) k=zbo a b (i+1) k:=by simp[zbD]
  have s3:zbD a b i (k+1) i (k+1)=zbo a b i (k+1):=by simp[zbD]
  have lo:=zmw (a:=a) (b:=b) (i+1) (k+1)
  have hi':=zmx (a:=a) (b:=b) (i+1) (k+1)
  have ih:=znW (by unfold maxi;exact hb) hN hi (R:=R) k m (by omega) (by omega)
  simp only[zeI,jn,e1,e2,e3,e4,zad hx,zad hy,aA,aF (show(0:Int)<=(k:Int) by omega),aD,
   ziA (show i<a.length+1 by omega),ziA (show i+1<a.length+1 by omega),ziz (show k<b.length+1 by omega),ziz (show k+1<b.length+1 by omega),s1,s2,s3,
   zmu (show k<b.length+1 by omega),zmv (show i<a.length+1 by omega)]
  cases he:a[i]==b[k]with
  |true=>
   rw[he,if_pos rfl]at hst
   rw[aD,zah (by omega) (by omega),ze9 hst.symm]
   exact ih
  |false=>
   rw[he,if_neg (by simp)]at hst
   rw[aC,ze9 hst.symm]
   exact ih
theorem znX (hb:b.length<=maxi)(hN:(a.length:Int)+1<=9223372036854775807)(hNb:(b.length:Int)+1<=9223372036854775807){R:Int->List (List Int)->Option (List (List Int))}: ∀ (i m:Nat),i<=a.length->i<m->
 zdJ a b R m ((i:Int)-1) (zgz (a.length+1) (b.length+1) (zbD a b i 0))=R (-1) (zgz (a.length+1) (b.length+1) (zbD a b 0 0))
 |0,0,_,h=>by omega
 |0,m+1,_,_=>by
  simp only[zdJ]
  rw[aE (by omega)];rfl
 |i+1,0,_,h=>by omega
 |i+1,m+1,hi,hm=>by
  have e1:(((i+1:Nat):Int)-1)=(i:Int):=by omega
  have e2:w64 ((b.length:Int)-1)=(b.length:Int)-1:=zah (by omega) (by omega)
  have e3:w64 ((i:Int)-1)=(i:Int)-1:=zah (by omega) (by omega)
  simp only[zdJ,jn,e1,e2,aF (show(0:Int)<=(i:Int) by omega),aD]
  rw[zjN,znW hb hN (by omega) b.length _ (Nat.le_refl _) (by omega),e3]
  exact znX hb hN hNb i m (by omega) (by omega)
theorem znY (hb:b.length<=1048576){N:Nat}(hN:N<=1048576){q:List (List Int)}(hq:q.length=N){R:Int->List (List Int)->Option (List (List Int))}: ∀ (n i m:Nat),i+n=N->n<m->
 zeJ b q R m (i:Int) ((List.range i).map (fun _=>zh1 (b.length+1) fun _=>0)++List.replicate n [])=R (N:Int) (zgz N (b.length+1) fun _ _=>0)
 |n,i,0,_,h=>by omega
 |0,i,m+1,hi,_=>by
  simp only[zeJ]
  rw[hq,aE (by omega),show i=N by omega]
  simp[zgz]
 |n+1,i,m+1,hi,hm=>by
  have e1:w64 ((b.length:Int)+1)=((b.length+1:Nat):Int):=by rw[zah (by omega) (by omega)];omega
  have e2:w64 ((i:Int)+1)=((i+1:Nat):Int):=by rw[zah (by omega) (by omega)];omega
  have hl:((List.range i).map (fun _=>zh1 (b.length+1) fun _=>0)++List.replicate (n+1) []).length=i+(n+1):=by simp
  obtain⟨u,hu⟩: ∃ u,((List.range i).map (fun _=>zh1 (b.length+1) fun _=>0)++List.replicate (n+1) ([]:List Int))[i]? =some u:=⟨_,aB (by omega)⟩
  simp only[zeJ,hq,e1,e2,aF (show(i:Int)< (N:Int) by omega),aD,zhY (show b.length+1<=lim by unfold lim;omega),aA,zad hu]
  rw[zbN (by rw[hl];omega),aA]
  have hset:((List.range i).map (fun _=>zh1 (b.length+1) fun _=>0)++List.replicate (n+1) []).set i (List.replicate (b.length+1) (0:Int))=(List.range (i+1)).map (fun _=>zh1 (b.length+1) fun _=>0)++List.replicate n []:=by
   rw[List.set_append,if_neg (by simp)]
   have hr:zh1 (b.length+1) (fun _=>0)=List.replicate (b.length+1) (0:Int):=by
    unfold zh1
    rw[List.map_const',List.length_range]
   simp[List.range_succ,List.replicate_succ,hr]
  rw[hset]
  exact znY hb hN hq n (i+1) m (by omega) (by omega)
theorem zqQ (ha:a.length<=1000)(hb:b.length<=1000):zk1 a b=some (zrN a b):=by
 unfold zk1
 have e1:w64 ((a.length:Int)+1)=((a.length+1:Nat):Int):=by rw[zah (by omega) (by omega)];omega
 have e2:w64 ((a.length:Int)-1)=(a.length:Int)-1:=zah (by omega) (by omega)
 rw[e1,zhY (by unfold lim;omega),aA]
 simp only[jn,e2]
 have h1:=znY (b:=b) (by omega) (N:=a.length+1) (by omega) (q:=List.replicate (a.length+1) []) (by simp)
  (R:=fun y6 y7=>zdJ a b (fun y27 y29=>some y29) (((a.length:Int)-1+1-0).toNat+1) ((a.length:Int)-1) y7) (a.length+1) 0 (((List.replicate (a.length+1) ([]:List Int)).length-(0:Int)).toNat+1) (by omega) (by simp)
 simp only[List.range_zero,List.map_nil,List.nil_append]at h1
 refine h1.trans ?_
 rw[ziB,znX (by unfold maxi;omega) (by omega) (by omega) a.length _ (Nat.le_refl _) (by omega),zlg]
theorem znZ (hb:b.length<=maxi)(hN:(a.length:Int)+1<=9223372036854775807){i:Nat}(hi:i<a.length){R:Int->List (List Int)->Option (List (List Int))}: ∀ (k m:Nat),k<=b.length->k<m->
 zcl a b (i:Int) R m ((k:Int)-1) (zgz (a.length+1) (b.length+1) (zbD a b i k))=R (-1) (zgz (a.length+1) (b.length+1) (zbD a b i 0))
 |0,0,_,h=>by omega
 |0,m+1,_,_=>by
  simp only[zcl]
  rw[aE (by omega)];rfl
 |k+1,0,_,h=>by omega
 |k+1,m+1,hk,hm=>by
  unfold maxi at hb
  have hx:a[i]? =some a[i]:=aB hi
  have hy:b[k]? =some b[k]:=aB (by omega)
  have hst:=zjM hx hy
  have e1:(((k+1:Nat):Int)-1)=(k:Int):=by omega
  have e2:w64 ((i:Int)+1)=((i+1:Nat):Int):=by rw[zah (by omega) (by omega)];omega
  have e3:w64 ((k:Int)+1)=((k+1:Nat):Int):=by rw[zah (by omega) (by omega)];omega
  have e4:w64 ((k:Int)-1)=(k:Int)-1:=zah (by omega) (by omega)
  have s1:zbD a b i (k+1) (i+1) (k+1)=zbo a b (i+1) (k+1):=by simp[zbD]
  have s2:zbD a b i (k+1) (i+1) k=zbo a b (i+1) k:=by simp[zbD]
  have s3:zbD a b i (k+1) i (k+1)=zbo a b i (k+1):=by simp[zbD]
  have lo:=zmw (a:=a) (b:=b) (i+1) (k+1)
  have hi':=zmx (a:=a) (b:=b) (i+1) (k+1)
  have ih:=znZ (by unfold maxi;exact hb) hN hi (R:=R) k m (by omega) (by omega)
  simp only[zcl,jn,e1,e2,e3,e4,zad hx,zad hy,aA,aF (show(0:Int)<=(k:Int) by omega),aD,
   ziA (show i<a.length+1 by omega),ziA (show i+1<a.length+1 by omega),ziz (show k<b.length+1 by omega),ziz (show k+1<b.length+1 by omega),s1,s2,s3,
   zmu (show k<b.length+1 by omega),zmv (show i<a.length+1 by omega)]
  cases he:a[i]==b[k]with
  |true=>
   rw[he,if_pos rfl]at hst
   rw[aD,zah (by omega) (by omega),ze9 hst.symm]
   exact ih
  |false=>
   rw[he,if_neg (by simp)]at hst
   rw[aC]
   unfold zsz at hst
   by_cases hc:zbo a b i (k+1)<=zbo a b (i+1) k
   ·rw[if_neg (by omega)]at hst
    rw[aF hc,aD,ze9 hst.symm]
    exact ih
   ·rw[if_pos (by omega)]at hst
    rw[aE hc,aC,ze9 hst.symm]
    exact ih
theorem zn0 (hb:b.length<=maxi)(hN:(a.length:Int)+1<=9223372036854775807)(hNb:(b.length:Int)+1<=9223372036854775807){R:Int->List (List Int)->Option (List (List Int))}: ∀ (i m:Nat),i<=a.length->i<m->
 zbI a b R m ((i:Int)-1) (zgz (a.length+1) (b.length+1) (zbD a b i 0))=R (-1) (zgz (a.length+1) (b.length+1) (zbD a b 0 0))
 |0,0,_,h=>by omega
 |0,m+1,_,_=>by
  simp only[zbI]
  rw[aE (by omega)];rfl
 |i+1,0,_,h=>by omega
 |i+1,m+1,hi,hm=>by
  have e1:(((i+1:Nat):Int)-1)=(i:Int):=by omega
  have e2:w64 ((b.length:Int)-1)=(b.length:Int)-1:=zah (by omega) (by omega)
  have e3:w64 ((i:Int)-1)=(i:Int)-1:=zah (by omega) (by omega)
  simp only[zbI,jn,e1,e2,aF (show(0:Int)<=(i:Int) by omega),aD]
  rw[zjN,znZ hb hN (by omega) b.length _ (Nat.le_refl _) (by omega),e3]
  exact zn0 hb hN hNb i m (by omega) (by omega)
theorem zn1 (ha:a.length<=1000)(hb:b.length<=1000){R:List (List Int)->Int->Option (List (List Int))}: ∀ (n i m:Nat),i+n=a.length+1->n<m->
 zcm a b R m ((List.range i).map (fun _=>zh1 (b.length+1) fun _=>0)) (i:Int)=R (zgz (a.length+1) (b.length+1) fun _ _=>0) ((a.length+1:Nat):Int)
 |n,i,0,_,h=>by omega
 |0,i,m+1,hi,_=>by
  simp only[zcm]
  rw[aE (by omega),show i=a.length+1 by omega]
  simp[zgz]
 |n+1,i,m+1,hi,hm=>by
  have e1:w64 ((b.length:Int)+1)=((b.length+1:Nat):Int):=by rw[zah (by omega) (by omega)];omega
  have e2:w64 ((i:Int)+1)=((i+1:Nat):Int):=by rw[zah (by omega) (by omega)];omega
  have hr:zh1 (b.length+1) (fun _=>0)=List.replicate (b.length+1) (0:Int):=by
   unfold zh1
   rw[List.map_const',List.length_range]
  simp only[zcm,e1,e2,aF (show(i:Int)<=(a.length:Int) by omega),aD,zhY (show b.length+1<=lim by unfold lim;omega),aA]
  rw[zhZ (by simp[lim];omega),aA]
  have hset:(List.range i).map (fun _=>zh1 (b.length+1) fun _=>0)++[List.replicate (b.length+1) (0:Int)]=(List.range (i+1)).map (fun _=>zh1 (b.length+1) fun _=>0):=by
   simp[List.range_succ,hr]
  rw[hset]
  exact zn1 ha hb n (i+1) m (by omega) (by omega)
theorem zqR (ha:a.length<=1000)(hb:b.length<=1000):zf2 a b=some (zrN a b):=by
 unfold zf2
 have e2:w64 ((a.length:Int)-1)=(a.length:Int)-1:=zah (by omega) (by omega)
 simp only[jn,e2]
 have h1:=zn1 (a:=a) (b:=b) ha hb
  (R:=fun y3 y6=>zbI a b (fun y28 y30=>some y30) (((a.length:Int)-1+1-0).toNat+1) ((a.length:Int)-1) y3) (a.length+1) 0 (((a.length:Int)+1-0).toNat+1) (by omega) (by omega)
 simp only[List.range_zero,List.map_nil]at h1
 refine h1.trans ?_
 rw[ziB,zn0 (by unfold maxi;omega) (by omega) (by omega) a.length _ (Nat.le_refl _) (by omega),zlg]
end
def mtF:List Str->List Str->Nat->List Int
 | [],_,_=>[]
 |_::xs,[],k=> -1::mtF xs [] k
 |x::xs,y::ys,k=>if x==y then(k:Int)::mtF xs ys (k+1) else if zhE (x::xs) ys<=zhE xs (y::ys) then -1::mtF xs (y::ys) k else mtF (x::xs) ys (k+1)
termination_by a b _=>a.length+b.length
theorem ziC (b:List Str)(k:Nat):mtF [] b k=[]:=by rw[mtF]
theorem zhF (x:Str)(xs:List Str)(k:Nat):mtF (x::xs) [] k = -1::mtF xs [] k:=by rw[mtF]
theorem zhc (x y:Str)(xs ys:List Str)(k:Nat):mtF (x::xs) (y::ys) k=if x==y then(k:Int)::mtF xs ys (k+1) else if zhE (x::xs) ys<=zhE xs (y::ys) then -1::mtF xs (y::ys) k else mtF (x::xs) ys (k+1):=by rw[mtF]
def mt2 (a b:List Str):List Int:=mtF a b 0
theorem znK {xs:List Int}{x:Int}(h:xs.length<=1000000):apM xs [x]=some (xs++[x]):=zhZ (by simp[lim];omega)
section
variable {a b:List Str}
theorem zke {i k:Nat}(hi:i<=a.length)(hk:k<=b.length): ∃ r,gi (zrN a b) (i:Int)=some r/\gi r (k:Int)=some (zbo a b i k):=
 ⟨_,ziA (by omega),ziz (by omega)⟩
theorem zcI {i:Nat}(h:i<a.length):a.drop i=a[i]::a.drop (i+1):=aI h
theorem zlh (ha:a.length<=1000)(hb:b.length<=1000): ∀ (m i k:Nat) (out:List Int),(a.length-i)+(b.length-k)<m->i<=a.length->k<=b.length->out.length=i->
 zdV a b (zrN a b) (fun y5 _ _=>some y5) m out (i:Int) (k:Int)=some (out++mtF (a.drop i) (b.drop k) k)
 |0,i,k,out,hm,_,_,_=>by omega
 |m+1,i,k,out,hm,hi,hk,ho=>by
  have e2:w64 ((i:Int)+1)=((i+1:Nat):Int):=by rw[zah (by omega) (by omega)];omega
  have e3:w64 ((k:Int)+1)=((k+1:Nat):Int):=by rw[zah (by omega) (by omega)];omega
  simp only[zdV,jn,e2,e3]
  by_cases hil:i<a.length
  case neg=>
   rw[aE (by omega),aC,show i=a.length by omega,List.drop_length,ziC,List.append_nil]
  have hx:a[i]? =some a[i]:=aB hil
  rw[aF (by omega),aD,zcI hil]
  by_cases hkl:k<b.length
  case neg=>
   have hke:k=b.length:=by omega
   rw[aE (by omega),aC,aC,show((k:Int)==(b.length:Int))=true by simp[hke],aD,aD,znK (by omega),aA,
    zlh ha hb m (i+1) k _ (by omega) (by omega) hk (by simp[ho])]
   rw[hke,List.drop_length,zhF]
   simp
  have hy:b[k]? =some b[k]:=aB hkl
  rw[aF (by omega),aD,zad hx,aA,zad hy,aA,zcI hkl,zhc]
  cases he:a[i]==b[k]with
  |true=>
   rw[aD,znK (by omega),aA,zlh ha hb m (i+1) (k+1) _ (by omega) (by omega) (by omega) (by simp[ho])]
   simp
  |false=>
   rw[aC,show((k:Int)==(b.length:Int))=false by simp;omega,aC]
   obtain⟨r1,h1,h2⟩:=zke (a:=a) (b:=b) (i:=i+1) (k:=k) (by omega) (by omega)
   obtain⟨r3,h3,h4⟩:=zke (a:=a) (b:=b) (i:=i) (k:=k+1) (by omega) (by omega)
   rw[h1,aA,h2,aA,h3,aA,h4,aA]
   have c1:zbo a b i (k+1)=zhE (a[i]::a.drop (i+1)) (b.drop (k+1)):=by unfold zbo;rw[zcI hil]
   have c2:zbo a b (i+1) k=zhE (a.drop (i+1)) (b[k]::b.drop (k+1)):=by unfold zbo;rw[zcI hkl]
   rw[<- c1,<- c2]
   by_cases hc:zbo a b i (k+1)<=zbo a b (i+1) k
   ·rw[aF hc,aD,znK (by omega),aA,zlh ha hb m (i+1) k _ (by omega) (by omega) hk (by simp[ho]),if_neg (by simp),if_pos hc,zcI hkl]
    simp
   ·rw[aE hc,aC,zlh ha hb m i (k+1) _ (by omega) hi (by omega) ho,if_neg (by simp),if_neg hc,zcI hil]
theorem zkf (ha:a.length<=1000)(hb:b.length<=1000):zgG a b=some (mt2 a b):=by
 unfold zgG
 rw[zqQ ha hb,aA]
 simp only[jn]
 have:=zlh ha hb (a.length+b.length+1) 0 0 [] (by omega) (by omega) (by omega) rfl
 simpa[mt2]using this
theorem zli (ha:a.length<=1000)(hb:b.length<=1000): ∀ (m i k:Nat) (out:List Int),(a.length-i)+(b.length-k)<m->i<=a.length->k<=b.length->out.length=i->
 zcL a b (zrN a b) (fun y5 _ _=>some y5) m out (k:Int) (i:Int)=some (out++mtF (a.drop i) (b.drop k) k)
 |0,i,k,out,hm,_,_,_=>by omega
 |m+1,i,k,out,hm,hi,hk,ho=>by
  have e2:w64 ((i:Int)+1)=((i+1:Nat):Int):=by rw[zah (by omega) (by omega)];omega
  have e3:w64 ((k:Int)+1)=((k+1:Nat):Int):=by rw[zah (by omega) (by omega)];omega
  simp only[zcL,jn,e2,e3]
  by_cases hil:i<a.length
  case neg=>
   rw[aE (by omega),aC,show i=a.length by omega,List.drop_length,ziC,List.append_nil]
  have hx:a[i]? =some a[i]:=aB hil
  rw[aF (by omega),aD,zcI hil]
  by_cases hkl:k<b.length
  case neg=>
   have hke:k=b.length:=by omega
   rw[aE (by omega),aC,aC,aF (by omega),aD,aD,znK (by omega),aA,
    zli ha hb m (i+1) k _ (by omega) (by omega) hk (by simp[ho])]
   rw[hke,List.drop_length,zhF]
   simp
  have hy:b[k]? =some b[k]:=aB hkl
  rw[aF (by omega),aD,zad hx,aA,zad hy,aA,zcI hkl,zhc]
  cases he:a[i]==b[k]with
  |true=>
   rw[aD,znK (by omega),aA,zli ha hb m (i+1) (k+1) _ (by omega) (by omega) (by omega) (by simp[ho])]
   simp
  |false=>
   rw[aC,aE (by omega),aC]
   obtain⟨r1,h1,h2⟩:=zke (a:=a) (b:=b) (i:=i+1) (k:=k) (by omega) (by omega)
   obtain⟨r3,h3,h4⟩:=zke (a:=a) (b:=b) (i:=i) (k:=k+1) (by omega) (by omega)
   rw[h1,aA,h2,aA,h3,aA,h4,aA]
   have c1:zbo a b i (k+1)=zhE (a[i]::a.drop (i+1)) (b.drop (k+1)):=by unfold zbo;rw[zcI hil]
   have c2:zbo a b (i+1) k=zhE (a.drop (i+1)) (b[k]::b.drop (k+1)):=by unfold zbo;rw[zcI hkl]
   rw[<- c1,<- c2]
   by_cases hc:zbo a b i (k+1)<=zbo a b (i+1) k
   ·rw[aF hc,aD,znK (by omega),aA,zli ha hb m (i+1) k _ (by omega) (by omega) hk (by simp[ho]),if_neg (by simp),if_pos hc,zcI hkl]
    simp
   ·rw[aE hc,aC,zli ha hb m i (k+1) _ (by omega) hi (by omega) ho,if_neg (by simp),if_neg hc,zcI hil]
theorem ziD (ha:a.length<=1000)(hb:b.length<=1000):zey a b=some (mt2 a b):=by
 unfold zey
 rw[zqR ha hb,aA]
 simp only[jn]
 have:=zli ha hb (a.length+b.length+1) 0 0 [] (by omega) (by omega) (by omega) rfl
 simpa[mt2]using this
end
def Asc (hi:Int):Int->List Int->Prop
 |_,[]=>True
 |lo,x::l=>(x = -1/\Asc hi lo l)\/(lo<=x/\x<hi/\Asc hi (x+1) l)
theorem Asc.mono {hi:Int}: ∀ {l:List Int} {lo lo':Int},lo'<=lo->Asc hi lo l->Asc hi lo' l
 | [],_,_,_,_=>trivial
 |x::l,lo,lo',h, .inl ⟨h1,h2⟩=> .inl ⟨h1,Asc.mono h h2⟩
 |x::l,lo,lo',h, .inr ⟨h1,h2,h3⟩=> .inr ⟨by omega,h2,h3⟩
theorem zhj: ∀ (n:Nat) (a b:List Str) (k:Nat),a.length+b.length<=n->Asc ((k+b.length:Nat):Int) (k:Int) (mtF a b k)/\(mtF a b k).length=a.length
 |_,[],b,k,_=>by rw[ziC];exact⟨trivial,rfl⟩
 |0,x::xs,b,k,h=>by simp at h
 |n+1,x::xs,[],k,h=>by
  rw[zhF]
  have:=zhj n xs [] k (by simp at h ⊢;omega)
  exact⟨.inl ⟨rfl,this.1⟩,by simp[this.2]⟩
 |n+1,x::xs,y::ys,k,h=>by
  simp only[aL]at h
  rw[zhc]
  split
  ·have:=zhj n xs ys (k+1) (by omega)
   refine⟨.inr ⟨Int.le_refl _,by simp only[aL];omega,?_⟩,by simp[this.2]⟩
   have h1:=this.1
   rw[show((k+(y::ys).length:Nat):Int)=((k+1+ys.length:Nat):Int) by simp only[aL];omega,show(k:Int)+1=((k+1:Nat):Int) by omega]
   exact h1
  ·split
   ·have:=zhj n xs (y::ys) k (by simp;omega)
    exact⟨.inl ⟨rfl,this.1⟩,by simp[this.2]⟩
   ·have:=zhj n (x::xs) ys (k+1) (by simp;omega)
    refine⟨?_,by simp[this.2]⟩
    have h1:=this.1
    rw[show((k+(y::ys).length:Nat):Int)=((k+1+ys.length:Nat):Int) by simp only[aL];omega]
    exact h1.mono (by omega)
theorem zeE (a b:List Str):Asc (b.length:Int) 0 (mt2 a b)/\(mt2 a b).length=a.length:=by
 have:=zhj _ a b 0 (Nat.le_refl _)
 simpa[mt2]using this
theorem Asc.snoc {hi:Int}(h0:0<=hi): ∀ {l:List Int} {lo:Int},lo<=hi->Asc hi lo l->Asc (hi+1) lo (l++[hi])
 | [],lo,h,_=> .inr ⟨h,by omega,trivial⟩
 |x::l,lo,h, .inl ⟨h1,h2⟩=> .inl ⟨h1,Asc.snoc h0 h h2⟩
 |x::l,lo,h, .inr ⟨h1,h2,h3⟩=> .inr ⟨h1,by omega,Asc.snoc h0 (by omega) h3⟩
end Go.Vm
namespace Go.Sx
open Go
theorem zkD {R α σ:Type} {xs:List α} {step:σ->α->Option σ} {r0:Option R} (Inv:Nat->σ->Prop) {f:Nat->σ->Int->Option R} {Z:σ->Option R} {s0:σ}
 (hs: ∀ m (i:Nat) x s,xs[i]? =some x->Inv i s->(f (m+1) s (i:Int)=match step s x with |some s'=>f m s' ((i+1:Nat):Int) |none=>r0) /\ ∀ s',step s x=some s'->Inv (i+1) s')
 (he: ∀ m s,Inv xs.length s->f (m+1) s (xs.length:Int)=Z s) {m:Nat} (hm:xs.length<m) (h0:Inv 0 s0):
 f m s0 0=(match xs.foldlM step s0 with |some s=>Z s |none=>r0) /\ ∀ s,xs.foldlM step s0=some s->Inv xs.length s:=by
 have key: ∀ k i m s,i+k=xs.length->k<m->Inv i s->f m s (i:Int)=(match (xs.drop i).foldlM step s with |some s=>Z s |none=>r0) /\ ∀ s',(xs.drop i).foldlM step s=some s'->Inv xs.length s':=by
  intro k
  induction k with
  |zero=>
   intro i m s hi hm hI
   obtain⟨m,rfl⟩: ∃ q,m=q+1:=⟨m-1,by omega⟩
   have hii:i=xs.length:=by omega
   subst hii
   rw[he m s hI,List.drop_length]
   exact⟨rfl,fun s' h=>by
    have:s=s':=by simpa using h
    rw[<- this];exact hI⟩
  |succ k ih=>
   intro i m s hi hm hI
   obtain⟨m,rfl⟩: ∃ q,m=q+1:=⟨m-1,by omega⟩
   have hlt:i<xs.length:=by omega
   obtain⟨h1,h2⟩:=hs m i xs[i] s (aB hlt) hI
   rw[h1,aI hlt,List.foldlM_cons]
   cases hst:step s xs[i]with
   |none=>exact⟨rfl,fun s' h=>by simp at h⟩
   |some s1=>
    obtain⟨h3,h4⟩:=ih (i+1) m s1 (by omega) (by omega) (h2 s1 hst)
    exact⟨h3,h4⟩
 have:=key xs.length 0 m s0 (by omega) hm h0
 simpa using this
theorem zdP {R α:Type} {xs:List α} {p:α->Bool} {r:α->Option R} {Z:Option R} {f:Nat->Int->Option R}
 (hs: ∀ m (i:Nat) x,xs[i]? =some x->f (m+1) (i:Int)=bif p x then r x else f m ((i+1:Nat):Int)) (he: ∀ m,f (m+1) (xs.length:Int)=Z) {m:Nat} (hm:xs.length<m):
 f m 0=match xs.find? p with |some x=>r x |none=>Z:=by
 have key: ∀ k i m,i+k=xs.length->k<m->f m (i:Int)=match (xs.drop i).find? p with |some x=>r x |none=>Z:=by
  intro k
  induction k with
  |zero=>
   intro i m hi hm
   obtain⟨m,rfl⟩: ∃ q,m=q+1:=⟨m-1,by omega⟩
   rw[show i=xs.length by omega,he,List.drop_length]
   rfl
  |succ k ih=>
   intro i m hi hm
   obtain⟨m,rfl⟩: ∃ q,m=q+1:=⟨m-1,by omega⟩
   have hlt:i<xs.length:=by omega
   rw[hs m i xs[i] (aB hlt),aI hlt,List.find?_cons]
   cases p xs[i]with
   |true=>rfl
   |false=>exact ih (i+1) m (by omega) (by omega)
 have:=key xs.length 0 m (by omega) hm
 simpa using this
end Go.Sx
namespace Go.Vm
open Go Go.Sx
set_option linter.unusedSimpArgs false
set_option linter.unusedVariables false
def lnP (l:List Str):Part:=⟨false,l,[],[],[]⟩
def zdA (o a b:List Str):Part:=bif a==o||a==b then lnP b else bif b==o then lnP a else⟨true,[],o,a,b⟩
def zkx (out:List Part)(p:Part):List Part:=
 bif !p.Clash&&p.Lines.length==0 then out else
 match out[out.length-1]? with
 |some q=>bif !p.Clash && !q.Clash then out.set (out.length-1) ⟨q.Clash,q.Lines++p.Lines,q.Old,q.One,q.Two⟩ else out++[p]
 |none=>out++[p]
def PB (n:Nat)(out:List Part):Prop:=out.length<=n /\ ∀ q∈out,q.Lines.length<=1000*n
theorem PB.mono {n m:Nat}{out:List Part}(h:PB n out)(hm:n<=m):PB m out:=⟨Nat.le_trans h.1 hm,fun q hq=>Nat.le_trans (h.2 q hq) (Nat.mul_le_mul_left _ hm)⟩
theorem zkE {n:Nat}{out:List Part}{p:Part}(h:PB n out)(hp:p.Lines.length<=1000):PB (n+1) (zkx out p):=by
 have happ:PB (n+1) (out++[p]):=⟨by simp;exact h.1,fun q hq=>by
  rcases List.mem_append.1 hq with h1 |h1
  ·have:=h.2 q h1;omega
  ·rw[List.mem_singleton]at h1;rw[h1];omega⟩
 unfold zkx
 cases(!p.Clash&&p.Lines.length==0)with
 |true=>exact h.mono (by omega)
 |false=>
  rw[aC]
  split
  ·rename_i q hq
   cases(!p.Clash && !q.Clash)with
   |false=>exact happ
   |true=>
    rw[aD]
    refine⟨by rw[List.length_set];have:=h.1;omega,fun r hr=>?_⟩
    rcases List.mem_or_eq_of_mem_set hr with h1 |h1
    ·have:=h.2 r h1;omega
    ·rw[h1]
     have:=h.2 q (aH hq)
     simp only[List.length_append]
     omega
  ·exact happ
theorem zhk {o a b:List Str}(ha:a.length<=1000)(hb:b.length<=1000):(zdA o a b).Lines.length<=1000:=by
 unfold zdA lnP
 cases(a==o||a==b)
 ·cases b==o
  ·simp
  ·exact ha
 ·exact hb
theorem apL {xs ys:List Str}(h:xs.length<=4000000)(h':ys.length<=1000):apM xs ys=some (xs++ys):=zhZ (by simp[lim];omega)
theorem zn2 {o a b:List Str}(ho:o.length<=1000)(ha:a.length<=1000)(hb:b.length<=1000):zg1 o a b=some (zdA o a b):=by
 unfold zg1 zdA lnP
 simp only[jn,ze8 (show a.length<=maxi by unfold maxi;omega),ze8 (show b.length<=maxi by unfold maxi;omega),aA,apN (show o.length<=1048576 by omega),apN (show a.length<=1048576 by omega),apN (show b.length<=1048576 by omega)]
 cases a==o<;>cases a==b<;>cases b==o<;>rfl
theorem zoX {n:Nat}(h:n<=4000000)(h0:0<n):w64 ((n:Int)-1)=((n-1:Nat):Int):=by rw[zah (by omega) (by omega)];omega
theorem zmy {n:Nat}{out:List Part}{p:Part}(h:PB n out)(hn:n<=4000)(hp:p.Lines.length<=1000):zht out p=some (zkx out p):=by
 have hl:=h.1
 unfold zht zkx
 have hz:(((p.Lines.length:Int))==(0:Int))=(p.Lines.length==0):=by
  have: ∀ b c:Bool,(b=true↔c=true)->b=c:=by decide
  apply this;simp
 simp only[jn,hz,show(⟨p.Clash,p.Lines,p.Old,p.One,p.Two⟩:Part)=p from rfl]
 have happ:apM out [p]=some (out++[p]):=zhZ (by simp[lim];omega)
 cases hc:p.Clash with
 |true=>
  simp only[aK,Bool.false_and,aC,happ,aA]
  by_cases h0:0<out.length
  ·rw[aF (by omega),aD,aB (by omega)]
  ·rw[aE (by omega),aC,List.getElem?_eq_none (by omega)]
 |false=>
  simp only[Bool.not_false,Bool.true_and,aD]
  cases hz2:(p.Lines.length==0)with
  |true=>rfl
  |false=>
   simp only[aC]
   by_cases h0:0<out.length
   ·obtain⟨q,hq⟩: ∃ q,out[out.length-1]? =some q:=⟨_,aB (by omega)⟩
    have hql:=h.2 q (aH hq)
    rw[aF (by omega),aD,zoX (by omega) h0,zad hq,aA,hq]
    cases hqc:q.Clash with
    |true=>simp[happ,hqc]
    |false=>
     simp only[hqc,Bool.not_false,aD,aA]
     rw[apL (by omega) hp,aA,zbN (by omega),aA]
   ·rw[aE (by omega),aC,List.getElem?_eq_none (by omega),happ]
    rfl
def zbB {α:Type}(xs:List α)(l h:Int):List α:=(xs.take h.toNat).drop l.toNat
theorem zcv {α:Type}(xs:List α)(l h:Int):(zbB xs l h).length<=xs.length:=by unfold zbB;simp;omega
def zdK (o a b:List Str)(i x y io ia ib:Int)(out:List Part):List Part:=
 match o[i.toNat]? with
 |some s=>zkx (zkx out (zdA (zbB o io i) (zbB a ia x) (zbB b ib y))) (lnP [s])
 |none=>zkx out (zdA (zbB o io i) (zbB a ia x) (zbB b ib y))
def zbE (o a b:List Str):Int->List Int->List Int->Int->Int->Int->List Part->List Part
 |i,x::ma,y::mb,io,ia,ib,out=>
  bif decide (x<0)||decide (y<0) then zbE o a b (i+1) ma mb io ia ib out
  else zbE o a b (i+1) ma mb (i+1) (x+1) (y+1) (zdK o a b i x y io ia ib out)
 |_,[],_,_,_,_,out=>out
 |_,_:: _,[],_,_,_,out=>out
def za8 (o a b:List Str):List Part:=zbE o a b 0 (mt2 o a++[(a.length:Int)]) (mt2 o b++[(b.length:Int)]) 0 0 0 []
theorem zjk {o a b:List Str}(ha:a.length<=1000)(hb:b.length<=1000){i x y io ia ib:Int}{n:Nat}{out:List Part}(h:PB n out):PB (n+2) (zdK o a b i x y io ia ib out):=by
 have h1:=zkE h (zhk (o:=zbB o io i) (Nat.le_trans (zcv a ia x) ha) (Nat.le_trans (zcv b ib y) hb))
 unfold zdK
 split
 ·exact zkE h1 (by simp[lnP])
 ·exact h1.mono (by omega)
theorem zhS {o a b:List Str}(ha:a.length<=1000)(hb:b.length<=1000): ∀ (ma mb:List Int) (i io ia ib:Int) (n:Nat) (out:List Part),PB n out->PB (n+2*ma.length) (zbE o a b i ma mb io ia ib out)
 | [],mb,i,io,ia,ib,n,out,h=>by rw[zbE.eq_def];exact h.mono (by omega)
 |x::ma,[],i,io,ia,ib,n,out,h=>by rw[zbE.eq_def];exact h.mono (by omega)
 |x::ma,y::mb,i,io,ia,ib,n,out,h=>by
  rw[zbE]
  cases(decide (x<0)||decide (y<0))with
  |true=>exact(zhS ha hb ma mb _ _ _ _ n out h).mono (by simp;omega)
  |false=>exact(zhS ha hb ma mb _ _ _ _ (n+2) _ (zjk ha hb h)).mono (by simp;omega)
theorem zlF {l:List Int}{i:Nat}{x:Int}(h:l[i]? =some x):l.drop i=x::l.drop (i+1):=by
 have hi:=zau h
 rw[aI hi]
 rw[aB hi]at h
 rw[Option.some.inj h]
theorem ziE {o a b:List Str}(ho:o.length<=1000)(ha:a.length<=1000)(hb:b.length<=1000){ma mb:List Int}(hla:ma.length=o.length+1)(hlb:mb.length=o.length+1):
 ∀ (n i m:Nat) (io ia ib:Int) (out:List Part),i+n=o.length+1->n<m->Asc ((a.length:Int)+1) ia (ma.drop i)->Asc ((b.length:Int)+1) ib (mb.drop i)->0<=io->io<=i->0<=ia->0<=ib->PB (2*i) out->
  zdf o a b ma mb (fun y45 _ _ _ _=>some y45) m out io ia ib (i:Int)=some (zbE o a b i (ma.drop i) (mb.drop i) io ia ib out)
 |n,i,0,_,_,_,_,_,hm,_,_,_,_,_,_,_=>by omega
 |0,i,m+1,io,ia,ib,out,hi,_,_,_,_,_,_,_,_=>by
  simp only[zdf]
  rw[aE (by omega),aC,List.drop_eq_nil_of_le (by omega),zbE.eq_def]
 |n+1,i,m+1,io,ia,ib,out,hi,hm,hA,hB,h0,h1,h2,h3,hP=>by
  obtain⟨x,hx⟩: ∃ x,ma[i]? =some x:=⟨_,aB (by omega)⟩
  obtain⟨y,hy⟩: ∃ y,mb[i]? =some y:=⟨_,aB (by omega)⟩
  rw[zlF hx]at hA ⊢
  rw[zlF hy]at hB ⊢
  have ei:w64 ((i:Int)+1)=((i+1:Nat):Int):=by rw[zah (by omega) (by omega)];omega
  have ei':(i:Int)+1=((i+1:Nat):Int):=by omega
  rw[ei']at ei
  have dn:decide ((-1:Int)<0)=true:=rfl
  have hstay: ∀ (hA':Asc ((a.length:Int)+1) ia (ma.drop (i+1))) (hB':Asc ((b.length:Int)+1) ib (mb.drop (i+1))),zdf o a b ma mb (fun y45 _ _ _ _=>some y45) m out io ia ib ((i+1:Nat):Int)=some (zbE o a b ((i+1:Nat):Int) (ma.drop (i+1)) (mb.drop (i+1)) io ia ib out):=
   fun hA' hB'=>ziE ho ha hb hla hlb n (i+1) m io ia ib out (by omega) (by omega) hA' hB' h0 (by omega) h2 h3 (hP.mono (by omega))
  rw[zbE]
  simp only[zdf,jn,zad hx,zad hy,aA,ei,ei',hla]
  rw[aF (show(i:Int)< ((o.length+1:Nat):Int) by omega),aD]
  rcases hA with ⟨rfl,hA⟩ |⟨ha1,ha2,hA⟩
  ·rcases hB with ⟨rfl,hB⟩ |⟨hb1,hb2,hB⟩
   ·simp only[dn,aD,Bool.true_or];exact hstay hA hB
   ·simp only[dn,aD,Bool.true_or];exact hstay hA (hB.mono (by omega))
  rcases hB with ⟨rfl,hB⟩ |⟨hb1,hb2,hB⟩
  ·rw[aE (show ¬ x<0 by omega),aC]
   simp only[dn,aD,Bool.false_or]
   exact hstay (hA.mono (by omega)) hB
  rw[aE (show ¬ x<0 by omega),aE (show ¬ y<0 by omega)]
  simp only[aC,Bool.or_false]
  have ex:w64 (x+1)=x+1:=zah (by omega) (by omega)
  have ey:w64 (y+1)=y+1:=zah (by omega) (by omega)
  have c1:=zcv o io i
  have c2:=zcv a ia x
  have c3:=zcv b ib y
  have hP1:=zkE hP (zhk (o:=zbB o io i) (Nat.le_trans c2 ha) (Nat.le_trans c3 hb))
  have hS:=zjk (o:=o) ha hb (i:=i) (x:=x) (y:=y) (io:=io) (ia:=ia) (ib:=ib) hP
  have hfin:=ziE ho ha hb hla hlb n (i+1) m ((i+1:Nat):Int) (x+1) (y+1) (zdK o a b i x y io ia ib out) (by omega) (by omega) hA hB (by omega) (by omega) (by omega) (by omega) (hS.mono (by omega))
  rw[zf0 h0 h1 (by omega),aA,zf0 h2 ha1 (by omega),aA,zf0 h3 hb1 (by omega),aA,
   show((o.take ((i:Int)).toNat).drop io.toNat)=zbB o io i from rfl,show((a.take x.toNat).drop ia.toNat)=zbB a ia x from rfl,show((b.take y.toNat).drop ib.toNat)=zbB b ib y from rfl,
   zn2 (by omega) (by omega) (by omega),aA]
  rw[show(⟨(zdA (zbB o io i) (zbB a ia x) (zbB b ib y)).Clash,(zdA (zbB o io i) (zbB a ia x) (zbB b ib y)).Lines,(zdA (zbB o io i) (zbB a ia x) (zbB b ib y)).Old,(zdA (zbB o io i) (zbB a ia x) (zbB b ib y)).One,(zdA (zbB o io i) (zbB a ia x) (zbB b ib y)).Two⟩:Part)=zdA (zbB o io i) (zbB a ia x) (zbB b ib y) from rfl,
   zmy hP (by omega) (zhk (Nat.le_trans c2 ha) (Nat.le_trans c3 hb)),aA]
  by_cases hio:i<o.length
  ·have hs:o[i]? =some o[i]:=aB hio
   rw[aF (by omega),aD,zad hs,aA,show(⟨false,[o[i]],[],[],[]⟩:Part)=lnP [o[i]] from rfl,zmy hP1 (by omega) (by simp[lnP]),aA,ex,ey]
   have hm:zdK o a b i x y io ia ib out=zkx (zkx out (zdA (zbB o io i) (zbB a ia x) (zbB b ib y))) (lnP [o[i]]):=by
    unfold zdK
    rw[show((i:Int)).toNat=i by omega,hs]
   rw[<- hm]
   exact hfin
  ·rw[aE (by omega),aC,ex,ey]
   have hm:zdK o a b i x y io ia ib out=zkx out (zdA (zbB o io i) (zbB a ia x) (zbB b ib y)):=by
    unfold zdK
    rw[show((i:Int)).toNat=i by omega,List.getElem?_eq_none (by omega)]
   rw[<- hm]
   exact hfin
theorem zhd (o a:List Str):Asc ((a.length:Int)+1) 0 (mt2 o a++[(a.length:Int)])/\(mt2 o a++[(a.length:Int)]).length=o.length+1:=by
 have h:=zeE o a
 exact⟨Asc.snoc (by omega) (by omega) h.1,by simp[h.2]⟩
theorem zqS {o a b:List Str}(ho:o.length<=1000)(ha:a.length<=1000)(hb:b.length<=1000):zjt o a b=some (za8 o a b):=by
 obtain⟨a1,a2⟩:=zhd o a
 obtain⟨b1,b2⟩:=zhd o b
 have l1:=(zeE o a).2
 have l2:=(zeE o b).2
 unfold zjt
 rw[ziD ho ha,aA,znK (by omega),aA,ziD ho hb,aA,znK (by omega),aA]
 simp only[jn]
 have:=ziE ho ha hb a2 b2 (o.length+1) 0 ((((mt2 o a++[(a.length:Int)]).length:Int)-0).toNat+1) 0 0 0 [] (by omega) (by omega) a1 b1 (by omega) (by omega) (by omega) (by omega) ⟨by simp,by simp⟩
 exact this
end Go.Vm
namespace Go.Sx
open Go
end Go.Sx
namespace Go.Vm
open Go Go.Sx
set_option linter.unusedSimpArgs false
set_option linter.unusedVariables false
section
variable {o a b:List Str}{Q:Part->Prop}
theorem zmz {out:List Part}{p:Part}(h3: ∀ q p:Part,Q q->Q p->q.Clash=false->p.Clash=false->Q ⟨q.Clash,q.Lines++p.Lines,q.Old,q.One,q.Two⟩)(h: ∀ q∈out,Q q)(hp:Q p): ∀ q∈zkx out p,Q q:=by
 have happ: ∀ q∈out++[p],Q q:=fun q hq=>by
  rcases List.mem_append.1 hq with h1 |h1
  ·exact h q h1
  ·rw[List.mem_singleton]at h1;rw[h1];exact hp
 unfold zkx
 cases(!p.Clash&&p.Lines.length==0)with
 |true=>exact h
 |false=>
  rw[aC]
  split
  ·rename_i q hq
   cases hc:(!p.Clash && !q.Clash)with
   |false=>exact happ
   |true=>
    simp only[aG,Bool.not_eq_true']at hc
    rw[aD]
    intro r hr
    rcases List.mem_or_eq_of_mem_set hr with h1 |h1
    ·exact h r h1
    ·rw[h1];exact h3 q p (h q (aH hq)) hp hc.2 hc.1
  ·exact happ
theorem zhl (h1: ∀ l h l' h' l'' h'',Q (zdA (zbB o l h) (zbB a l' h') (zbB b l'' h''))) (h2: ∀ s∈o,Q (lnP [s]))
 (h3: ∀ q p:Part,Q q->Q p->q.Clash=false->p.Clash=false->Q ⟨q.Clash,q.Lines++p.Lines,q.Old,q.One,q.Two⟩): ∀ (ma mb:List Int) (i io ia ib:Int) (out:List Part),(∀ q∈out,Q q) -> ∀ q∈zbE o a b i ma mb io ia ib out,Q q
 | [],mb,i,io,ia,ib,out,h=>by rw[zbE.eq_def];exact h
 |x::ma,[],i,io,ia,ib,out,h=>by rw[zbE.eq_def];exact h
 |x::ma,y::mb,i,io,ia,ib,out,h=>by
  rw[zbE]
  cases(decide (x<0)||decide (y<0))with
  |true=>exact zhl h1 h2 h3 ma mb _ _ _ _ out h
  |false=>
   refine zhl h1 h2 h3 ma mb _ _ _ _ _ ?_
   have hp:=zmz h3 h (h1 io i ia x ib y)
   unfold zdK
   split
   ·rename_i s hs
    exact zmz h3 hp (h2 s (aH hs))
   ·exact hp
theorem zm2 (h1: ∀ l h l' h' l'' h'',Q (zdA (zbB o l h) (zbB a l' h') (zbB b l'' h''))) (h2: ∀ s∈o,Q (lnP [s]))
 (h3: ∀ q p:Part,Q q->Q p->q.Clash=false->p.Clash=false->Q ⟨q.Clash,q.Lines++p.Lines,q.Old,q.One,q.Two⟩): ∀ q∈za8 o a b,Q q:=
 zhl h1 h2 h3 _ _ _ _ _ _ [] (by simp)
theorem zgK {α:Type}{xs:List α}{l h:Int}{x:α}(hx:x∈zbB xs l h):x∈xs:=List.mem_of_mem_take (List.mem_of_mem_drop hx)
theorem zlj {P:Str->Prop}(ho: ∀ s∈o,P s)(ha: ∀ s∈a,P s)(hb: ∀ s∈b,P s): ∀ q∈za8 o a b,(∀ s∈q.Lines,P s)/\(∀ s∈q.Old,P s)/\(∀ s∈q.One,P s)/\(∀ s∈q.Two,P s)/\q.Old.length<=o.length/\q.One.length<=a.length/\q.Two.length<=b.length:=by
 refine zm2 (fun l h l' h' l'' h''=>?_) (fun s hs=>?_) (fun q p hq hp _ _=>?_)
 ·have c1:=zcv o l h
  have c2:=zcv a l' h'
  have c3:=zcv b l'' h''
  unfold zdA lnP
  cases(zbB a l' h'==zbB o l h||zbB a l' h'==zbB b l'' h'')with
  |true=>exact⟨fun s hs=>hb s (zgK hs),by simp,by simp,by simp,by simp,by simp,by simp⟩
  |false=>
   rw[aC]
   cases(zbB b l'' h''==zbB o l h)with
   |true=>exact⟨fun s hs=>ha s (zgK hs),by simp,by simp,by simp,by simp,by simp,by simp⟩
   |false=>exact⟨by simp,fun s hs=>ho s (zgK hs),fun s hs=>ha s (zgK hs),fun s hs=>hb s (zgK hs),c1,c2,c3⟩
 ·exact⟨by simpa[lnP]using ho s hs,by simp[lnP],by simp[lnP],by simp[lnP],by simp[lnP],by simp[lnP],by simp[lnP]⟩
 ·exact⟨fun s hs=>(List.mem_append.1 hs).elim (hq.1 s) (hp.1 s),hq.2⟩
theorem zm3 (ho:o.length<=1000)(ha:a.length<=1000)(hb:b.length<=1000):PB (2*(o.length+1)) (za8 o a b):=by
 have:=zhS (o:=o) ha hb (mt2 o a++[(a.length:Int)]) (mt2 o b++[(b.length:Int)]) 0 0 0 0 0 [] ⟨by simp,by simp⟩
 rw[(zhd o a).2]at this
 exact this.mono (by omega)
end
section
variable {xs:List Memo}{o a b:List Str}
def okT (t:List Str):List Str×Bool:=bif zaw t then(t,true) else([],false)
def zs2 (i:Nat)(s:List Str):Prop:=s.length<=22000*i /\ ∀ x∈s,zdO x=true
theorem zcb {s:List Str}(h:s.length<=1000000)(hl: ∀ x∈s,zdO x=true):Bk.fit s:=⟨by unfold maxi;omega,fun x hx=>by have:=zkd (hl x hx);show x.length<=maxi;unfold maxi;omega⟩
theorem apT {s t:List Str}(h:s.length<=1000000)(h':t.length<=1000000):apM s t=some (s++t):=zhZ (by simp[lim];omega)
theorem zlk (hto:zaw o=true)(hta:zaw a=true)(htb:zaw b=true):(za8 o a b).length<=22 /\ ∀ p∈za8 o a b,p.Lines.length<=22000/\(∀ x∈p.Lines,zdO x=true)/\zaw p.Old=true/\zaw p.One=true/\zaw p.Two=true:=by
 have lo:=zam hto
 have la:=zam hta
 have lb:=zam htb
 have hP:=zm3 (o:=o) (a:=a) (b:=b) (by omega) (by omega) (by omega)
 refine⟨Nat.le_trans hP.1 (by omega),fun p hp=>?_⟩
 obtain⟨h1,h2,h3,h4,h5,h6,h7⟩:=zlj (P:=fun s=>zdO s=true) (zaU hto) (zaU hta) (zaU htb) p hp
 have hl:=hP.2 p hp
 have mk: ∀ t:List Str,t.length<=10->(∀ s∈t,zdO s=true)->zaw t=true:=fun t h1 h2=>by
  unfold zaw
  rw[aE (by omega)]
  simp only[Bool.not_false,Bool.true_and,List.all_eq_true]
  exact h2
 exact⟨by omega,h1,mk _ (by omega) h2,mk _ (by omega) h3,mk _ (by omega) h4⟩
end
def LB (n:Nat)(t:List Str):Prop:=t.length<=n /\ ∀ s∈t,s.length<=100
theorem LB.fit {n:Nat}{t:List Str}(h:LB n t)(hn:n<=1000000):Bk.fit t:=⟨by have:=h.1;unfold maxi;omega,fun s hs=>by have:=h.2 s hs;show s.length<=maxi;unfold maxi;omega⟩
theorem LB.mono {n m:Nat}{t:List Str}(h:LB n t)(hm:n<=m):LB m t:=⟨Nat.le_trans h.1 hm,h.2⟩
theorem zi2 {α:Type}{f:α->Nat}{c:Nat}: ∀ {t:List α},(∀ s∈t,f s<=c)->sumB f t<=c*t.length
 | [],_=>by simp[sumB]
 |x::t,h=>by
  have h1:=h x (by simp)
  have h2:=zi2 (t:=t) (fun s hs=>h s (by simp[hs]))
  simp only[sumB,aL,Nat.mul_add,Nat.mul_one]
  omega
theorem LB.bulk {n:Nat}{t:List Str}(h:LB n t):Bk.bulk t<=101*n:=by
 have h1:sumB Bk.bulk t<=100*t.length:=zi2 (f:=fun s:Str=>s.length) (c:=100) (fun s hs=>h.2 s hs)
 have:=h.1
 rw[zvk]
 omega
section
variable {r:l30Rd}{p:Int}
theorem zni (h:zfK r p)(hp:p<=1099511627776){l:List Str}(h0:0<l.length)(hl:l.length<=1000): ∃ s,zbt r l=some (s,r.p+1)/\s∈l:=by
 obtain⟨k,hk,k0,k1⟩:=zgB (n:=(l.length:Int)) h hp (by omega) (by omega)
 obtain⟨s,hs⟩:=zjB k0 k1
 unfold zbt
 rw[hk,aA,hs,aA]
 exact⟨s,rfl,aH (zlI hs).2.1⟩
theorem zrP (h:zfK r p)(hp:p<=1099511627776){l:List Int}(h0:0<l.length)(hl:l.length<=1000): ∃ s,zel r l=some (s,r.p+1)/\s∈l:=by
 obtain⟨k,hk,k0,k1⟩:=zgB (n:=(l.length:Int)) h hp (by omega) (by omega)
 obtain⟨s,hs⟩:=zjB k0 k1
 unfold zel
 rw[hk,aA,hs,aA]
 exact⟨s,rfl,aH (zlI hs).2.1⟩
theorem zt0 (h:zfK r p)(hp:p<=1099511627776): ∃ s,zgb r=some (s,r.p+1)/\s.length<=12:=by
 unfold zgb
 obtain⟨s,hs,hm⟩:=zni h hp (l:=([([97]:Str),([98]:Str),([99]:Str),([100]:Str),([]:Str),([120,32,121]:Str),([115,101,101,32,97]:Str),([115,101,101,32,100,47,101]:Str),([101,110,100]:Str)]:List Str)) (by simp) (by simp)
 rw[hs,aA]
 refine⟨s,rfl,?_⟩
 simp only[List.mem_cons,List.not_mem_nil,or_false]at hm
 rcases hm with rfl |rfl |rfl |rfl |rfl |rfl |rfl |rfl |rfl<;>simp
theorem on1 (h:zfK r p){q:Int}(hq:p+1<=q):zfK ⟨r.b,r.p+1⟩ q:=h.on 1 (by omega) (by have:=h.2.2;omega)
theorem zq9 {x0:l30Rd}: ∀ (m:Nat) (out:List Str) (n q p:Int),0<=n->n<m->n<=100->LB 100 out->zfK ⟨x0.b,q⟩ p->p+n<=1099511627776->out.length+n<=100->
 ∃ out' q',zfj x0 (fun y15 y18 y19=>some (y15,y19)) m out n q=some (out',q')/\LB 100 out'/\(out'.length:Int)=out.length+n/\zfK ⟨x0.b,q'⟩ (p+n)
 |0,out,n,q,p,h0,hm,_,_,_,_,_=>by omega
 |m+1,out,n,q,p,h0,hm,hn,hf,hr,hp,hl=>by
  simp only[zfj]
  by_cases hn0:0<n
  ·obtain⟨s,hs,hs2⟩:=zt0 hr (by omega)
   have hs':zgb ⟨x0.b,q⟩=some (s,q+1):=hs
   rw[aF hn0,aD,hs',aA,ap1 (show out.length<=1048576 by omega),aA,zah (by omega) (by omega)]
   have hf':LB 100 (out++[s]):=⟨by simp;omega,fun x hx=>by
    rcases List.mem_append.1 hx with h1 |h1
    ·exact hf.2 x h1
    ·rw[List.mem_singleton]at h1;rw[h1];omega⟩
   obtain⟨o',q',e,f',l',r'⟩:=zq9 (x0:=x0) m (out++[s]) (n-1) (q+1) (p+1) (by omega) (by omega) (by omega) hf' (on1 hr (by omega)) (by omega) (by simp;omega)
   exact⟨o',q',e,f',by rw[l'];simp;omega,by rw[show p+n=p+1+(n-1) by omega];exact r'⟩
  ·have hz:n=0:=by omega
   subst hz
   rw[aE hn0,aC]
   exact⟨out,q,rfl,hf,by omega,by simpa using hr⟩
theorem zt1 (h:zfK r p)(hp:p<=1000000000): ∃ t q,zhz r=some (t,q)/\LB 8 t/\zfK ⟨r.b,q⟩ (p+10):=by
 unfold zhz
 obtain⟨n,hn,hm⟩:=zrP h (by omega) (l:=[0,1,3,5,8]) (by simp) (by simp)
 have hn8:0<=n/\n<=8:=by
  simp only[List.mem_cons,List.not_mem_nil,or_false]at hm
  omega
 rw[hn,aA]
 simp only[jn]
 obtain⟨t,q,e,f,l,ro⟩:=zq9 (x0:=r) ((n-0).toNat+1) [] n (r.p+1) (p+1) hn8.1 (by omega) (by omega) ⟨by simp,by simp⟩ (on1 h (by omega)) (by omega) (by simp;omega)
 refine⟨t,q,e,⟨by simp at l;omega,f.2⟩,ro.1,ro.2.1,?_⟩
 have:=ro.2.2
 omega
end
section
variable {o a b:List Str}{xs:List Memo}
def zqT (l:List Part):List Part:=l.filter (·.Clash)
end
open Go Go.Sx Go.Proofs
theorem za9 (a b:Str):Op.bytesLess a b=decide (a<b):=bytesLess_eq a b
theorem zn3 (a b:Str):(decide (a<=b)||decide (b<=a))=true:=by
 rcases List.le_total a b with h |h<;>simp[h]
theorem zn4 (a b c:Str):decide (a<=b)=true->decide (b<=c)=true->decide (a<=c)=true:=by
 simp only[decide_eq_true_eq]
 exact List.le_trans
theorem zaq (a:Str): ¬ a<a:=List.lt_irrefl a
theorem zbp {a b c:Str}:a<b->b<c->a<c:=List.lt_trans
theorem zb5 {a b:Str}(h:a<=b)(hn:a≠b):a<b:=by
 rcases Decidable.em (a<b)with h1 |h1
 ·exact h1
 ·exact absurd (List.le_antisymm h (List.not_lt.1 h1)) hn
theorem zjf {a b:Str}: ¬ a<b↔b<=a:=List.not_lt
def Asd (xs:List Str):Prop:=xs.Pairwise (· < ·)
theorem Asd.ext: ∀ {xs ys:List Str},Asd xs->Asd ys->(∀ a,a∈xs↔a∈ys)->xs=ys
 | [],[],_,_,_=>rfl
 | [],y::ys,_,_,h=>by have:=(h y).2 (by simp);simp at this
 |x::xs,[],_,_,h=>by have:=(h x).1 (by simp);simp at this
 |x::xs,y::ys,hx,hy,h=>by
  have hx':=List.pairwise_cons.1 hx
  have hy':=List.pairwise_cons.1 hy
  have e:x=y:=by
   rcases List.mem_cons.1 ((h x).1 (by simp))with e |hm
   ·exact e
   ·rcases List.mem_cons.1 ((h y).2 (by simp))with e |hm2
    ·exact e.symm
    ·exact absurd (zbp (hy'.1 x hm) (hx'.1 y hm2)) (zaq y)
  subst e
  have ht: ∀ a,a∈xs↔a∈ys:=fun a=>by
   constructor
   ·intro ha
    rcases List.mem_cons.1 ((h a).1 (List.mem_cons_of_mem _ ha))with e |hm
    ·exact absurd (by rw[e]at ha;exact hx'.1 x ha) (zaq x)
    ·exact hm
   ·intro ha
    rcases List.mem_cons.1 ((h a).2 (List.mem_cons_of_mem _ ha))with e |hm
    ·exact absurd (by rw[e]at ha;exact hy'.1 x ha) (zaq x)
    ·exact hm
  rw[Asd.ext hx'.2 hy'.2 ht]
theorem zoY (l:List Str):(zcy l).Pairwise (· <= ·):=by
 have:=List.pairwise_mergeSort (le:=fun x y:Str=>decide (x<=y)) zn4 zn3 l
 exact this.imp (by simp)
theorem zkY {l:List Str}{a:Str}:a∈zcy l↔a∈l:=List.mem_mergeSort
theorem zll: ∀ (l:List Str) (p:Option Str) (a:Str),a∈zdR p l\/some a=p↔a∈l\/some a=p
 | [],p,a=>by simp[zdR]
 |x::l,p,a=>by
  have ih:=zll l (some x) a
  unfold zdR
  by_cases hp:p=some x
  ·rw[if_pos hp,hp]
   rw[ih]
   simp only[List.mem_cons,Option.some.injEq]
   constructor
   ·rintro(h |h)
    ·exact .inl (.inr h)
    ·exact .inr h
   ·rintro((h |h) |h)
    ·exact .inr h
    ·exact .inl h
    ·exact .inr h
  ·rw[if_neg hp]
   simp only[List.mem_cons,Option.some.injEq]at ih ⊢
   constructor
   ·rintro((h |h) |h)
    ·exact .inl (.inl h)
    ·rcases ih.1 (.inl h)with h2 |h2
     ·exact .inl (.inr h2)
     ·exact .inl (.inl h2)
    ·exact .inr h
   ·rintro((h |h) |h)
    ·exact .inl (.inl h)
    ·rcases ih.2 (.inl h)with h2 |h2
     ·exact .inl (.inr h2)
     ·exact .inl (.inl h2)
    ·exact .inr h
theorem zkF {l:List Str}{a:Str}:a∈znH l↔a∈l:=by
 have:=zll l none a
 simpa[znH]using this
theorem zh2: ∀ (l:List Str) (p:Option Str),l.Pairwise (· <= ·)->(∀ q,p=some q -> ∀ a∈l,q<=a)->Asd (zdR p l) /\ ∀ q,p=some q -> ∀ a∈zdR p l,q<a
 | [],p,_,_=>by simp[zdR,Asd]
 |x::l,p,h,hp=>by
  have h':=List.pairwise_cons.1 h
  obtain⟨i1,i2⟩:=zh2 l (some x) h'.2 (fun q hq a ha=>by cases hq;exact h'.1 a ha)
  unfold zdR
  by_cases hpx:p=some x
  ·rw[if_pos hpx]
   exact⟨i1,fun q hq a ha=>by rw[hpx]at hq;exact i2 q hq a ha⟩
  ·rw[if_neg hpx]
   refine⟨List.pairwise_cons.2 ⟨fun a ha=>i2 x rfl a ha,i1⟩,fun q hq a ha=>?_⟩
   have hqx:q<x:=zb5 (hp q hq x (by simp)) (fun e=>hpx (by rw[hq,e]))
   rcases List.mem_cons.1 ha with e |e
   ·rw[e];exact hqx
   ·exact zbp hqx (i2 x rfl a e)
def zgw (xs:List Str)(s:Str):List Str:=znH (zcy (xs++[s]))
theorem zcD (xs:List Str)(s:Str):Asd (zgw xs s):=(zh2 _ none (zoY _) (fun q hq=>by cases hq)).1
theorem insS_mem {xs:List Str}{s a:Str}:a∈zgw xs s↔a∈xs\/a=s:=by
 unfold zgw
 rw[zkF,zkY,List.mem_append,List.mem_singleton]
theorem ziF: ∀ (zs:List Str) (p:Option Str),(zdR p zs).length<=zs.length
 | [],p=>by simp[zdR]
 |x::l,p=>by
  have:=ziF l (some x)
  unfold zdR
  split<;>simp<;>omega
theorem zcN (xs:List Str)(s:Str):(zgw xs s).length<=xs.length+1:=by
 have:=ziF (zcy (xs++[s])) none
 unfold zgw znH
 have h2:(zcy (xs++[s])).length=(xs++[s]).length:=List.length_mergeSort _
 rw[h2]at this
 simpa using this
def zj8 (c:UInt8):Bool:=(decide (97<=(c.toNat:Int))&&decide ((c.toNat:Int)<=122))||(decide (48<=(c.toNat:Int))&&decide ((c.toNat:Int)<=57))
def zaI (s:Str):Bool:=(decide (1<=(s.length:Int))&&decide ((s.length:Int)<=6))&&s.all zj8
theorem zlW (c:UInt8):zeW c=some (zj8 c):=by
 unfold zeW zj8
 simp only[jn]
 cases decide (97<=(c.toNat:Int))<;>cases decide ((c.toNat:Int)<=122)<;>cases decide (48<=(c.toNat:Int))<;>cases decide ((c.toNat:Int)<=57)<;>rfl
theorem zhm (a b c:Int):zfB a b c=some (decide (b<=a)&&decide (a<=c)):=by
 unfold zfB
 simp only[jn]
 cases decide (b<=a)<;>rfl
theorem zgA (a b c:Int):zfe a b c=some (decide (b<=a)&&decide (a<=c)):=by
 unfold zfe
 simp only[jn]
 cases decide (b<=a)<;>rfl
theorem zcc {s:Str}(h:s.length<=maxi):zcF s=some (zaI s):=by
 unfold zcF zaI
 simp only[jn,zan,zhm,aA]
 cases(decide (1<=(s.length:Int))&&decide ((s.length:Int)<=6))
 case false=>rfl
 simp only[aK,aC,Bool.true_and]
 rw[zbi (α:=UInt8) (xs:=s) (p:=zj8) (r0:=some false) (Z:=some true) (f:=fun m i=>zc0 s (fun _ _=>some true) m false i) (fun m i x hx=>by
  simp only[zc0,jn,zal hx,zjV hx,aD,aA,zab (zau hx) h,zlW]
  cases zj8 x<;>rfl) (fun m=>by simp only[zc0,zac,aC]) (by omega)]
 cases s.all zj8<;>rfl
theorem zs3 (a b:Int):decide (a<b) = !decide (b<=a):=by
 by_cases h:a<b
 ·rw[aF h,aE (by omega)];rfl
 ·rw[aE h,aF (by omega)];rfl
theorem zbd {s:Str}(h:s.length<=maxi):zbX s=some (zaI s):=by
 unfold zbX zaI
 simp only[jn,zan,zgA,aA]
 rw[zbi (α:=UInt8) (xs:=s) (p:=zj8) (r0:=some false) (Z:=some (decide (1<=(s.length:Int))&&decide ((s.length:Int)<=6))) (f:=fun m i=>zcP s (fun _ _=>some (decide (1<=(s.length:Int))&&decide ((s.length:Int)<=6))) m false i) (fun m i x hx=>by
  simp only[zcP,jn,zal hx,zjV hx,aD,aA,zab (zau hx) h,zs3,zj8]
  cases decide (97<=(x.toNat:Int))<;>cases decide ((x.toNat:Int)<=122)<;>cases decide (48<=(x.toNat:Int))<;>cases decide ((x.toNat:Int)<=57)<;>rfl) (fun m=>by simp only[zcP,zac,aC]) (by omega)]
 cases s.all zj8<;>cases(decide (1<=(s.length:Int))&&decide ((s.length:Int)<=6))<;>rfl
theorem zm4 {xs:List Str}{s:Str}(h:xs.length<=1000000):zf8 xs s=some (zgw xs s):=by
 have h2:(zcy (xs++[s])).length=(xs++[s]).length:=List.length_mergeSort _
 have h3:(xs++[s]).length=xs.length+1:=by simp
 unfold zf8 zat za5
 rw[apN (show xs.length<=1048576 by omega),aA,ap1 (show xs.length<=1048576 by omega),aA,if_pos (by omega),aA,if_pos (by omega)]
 rfl
def ahd (s:Str):List Str->Nat
 | []=>0
 |x::xs=>bif Op.bytesLess x s then ahd s xs+1 else 0
theorem zqh (s:Str): ∀ xs,ahd s xs<=xs.length
 | []=>Nat.le_refl _
 |x::xs=>by
  have:=zqh s xs
  unfold ahd
  cases Op.bytesLess x s
  ·simp
  ·simp only[aD,aL];omega
theorem zmA (s:Str): ∀ (xs:List Str) x,x∈xs.take (ahd s xs)->x<s
 | [],x,h=>by simp at h
 |y::xs,x,h=>by
  unfold ahd at h
  cases hy:Op.bytesLess y s with
  |false=>rw[hy]at h;simp at h
  |true=>
   rw[hy,aD,List.take_succ_cons]at h
   rcases List.mem_cons.1 h with e |e
   ·rw[e];rw[za9]at hy;simpa using hy
   ·exact zmA s xs x e
theorem zqi (s:Str): ∀ (xs:List Str) x,xs[ahd s xs]? =some x->s<=x
 | [],x,h=>by simp at h
 |y::xs,x,h=>by
  unfold ahd at h
  cases hy:Op.bytesLess y s with
  |false=>
   rw[hy,aC]at h
   have e:y=x:=by simpa using h
   rw[<- e]
   rw[za9]at hy
   exact zjf.1 (by simpa using hy)
  |true=>
   rw[hy,aD]at h
   exact zqi s xs x (by simpa using h)
theorem zs4 {xs:List Str}{s:Str}(hl:xs.length<=1000000){K:Int->Option (List Str)}: ∀ (n i m:Nat),i+n=xs.length->n<m->(∀ j,j<i -> ∃ x,xs[j]? =some x/\x<s)->zdF xs s K m (i:Int)=K ((i+ahd s (xs.drop i):Nat):Int)
 |n,i,0,_,hm,_=>by omega
 |0,i,m+1,hi,_,_=>by
  simp only[zdF,jn]
  rw[aE (by omega),aC,aC,List.drop_eq_nil_of_le (by omega)]
  rfl
 |n+1,i,m+1,hi,hm,hall=>by
  have hlt:i<xs.length:=by omega
  have hx:xs[i]? =some xs[i]:=aB hlt
  simp only[zdF,jn]
  rw[aF (by omega),aD,zad hx,aA,aI hlt]
  unfold ahd
  cases hb:Op.bytesLess xs[i] s with
  |false=>rw[aC,aC];rfl
  |true=>
   rw[aD,aD,zab hlt (by unfold maxi;omega)]
   rw[zs4 hl n (i+1) m (by omega) (by omega) (fun j hj=>by
    rcases Nat.lt_or_ge j i with h1 |h1
    ·exact hall j h1
    ·have:j=i:=by omega
     subst this
     exact⟨_,hx,by rw[za9]at hb;simpa using hb⟩)]
   congr 2
   omega
theorem zil {xs:List Str}{s:Str}(hl:xs.length<=1000000)(ha:Asd xs):zdN xs s=some (zgw xs s):=by
 unfold zdN
 simp only[jn]
 have h1:=zs4 (s:=s) hl (K:=fun y1=>bif decide (y1< (xs.length:Int)) then(gi xs y1).bind fun u52=>bif u52==s then some xs else(slM xs 0 y1).bind fun q19=>(apM [] q19).bind fun q24=>(apM q24 [s]).bind fun q31=>(slM xs y1 (xs.length:Int)).bind fun q36=>(apM q31 q36).bind fun q41=>some q41
  else bif false then some xs else(slM xs 0 y1).bind fun q19=>(apM [] q19).bind fun q24=>(apM q24 [s]).bind fun q31=>(slM xs y1 (xs.length:Int)).bind fun q36=>(apM q31 q36).bind fun q41=>some q41) xs.length 0 (xs.length+1) (by omega) (by omega) (fun j hj=>by omega)
 have hk:=zqh s xs
 simp only[Nat.zero_add,List.drop_zero]at h1
 refine h1.trans ?_
 -- the list with s in its place
 have hput:(slM xs 0 ((ahd s xs:Nat):Int)).bind (fun q19=>(apM [] q19).bind fun q24=>(apM q24 [s]).bind fun q31=>(slM xs ((ahd s xs:Nat):Int) (xs.length:Int)).bind fun q36=>(apM q31 q36).bind fun q41=>some q41)=some (xs.take (ahd s xs)++[s]++xs.drop (ahd s xs)):=by
  have hlt:(xs.take (ahd s xs)).length<=xs.length:=by simp;omega
  rw[zir hk,aA,apN (by omega),aA,ap1 (by omega),aA,zmO hk,aA,zhZ (by simp[lim];omega),aA]
 have hmem: ∀ a,a∈xs.take (ahd s xs)++[s]++xs.drop (ahd s xs)↔a∈xs\/a=s:=fun a=>by
  have:a∈xs↔a∈xs.take (ahd s xs)\/a∈xs.drop (ahd s xs):=by rw[<- List.mem_append,List.take_append_drop]
  rw[this]
  simp only[List.mem_append,List.mem_singleton]
  constructor
  ·rintro((h |h) |h)
   ·exact .inl (.inl h)
   ·exact .inr h
   ·exact .inl (.inr h)
  ·rintro((h |h) |h)
   ·exact .inl (.inl h)
   ·exact .inr h
   ·exact .inl (.inr h)
 have hfin:(∀ x∈xs.drop (ahd s xs),s<x)->some (xs.take (ahd s xs)++[s]++xs.drop (ahd s xs))=some (zgw xs s):=by
  intro hd
  congr 1
  refine Asd.ext ?_ (zcD _ _) (fun a=>by rw[hmem,insS_mem])
  have ha':=ha
  rw[<- List.take_append_drop (ahd s xs) xs]at ha'
  obtain⟨p1,p2,p3⟩:=List.pairwise_append.1 ha'
  refine List.pairwise_append.2 ⟨List.pairwise_append.2 ⟨p1,List.pairwise_singleton _ _,fun a h b hb=>?_⟩,p2,fun a h b hb=>?_⟩
  ·rw[List.mem_singleton]at hb;rw[hb];exact zmA s xs a h
  ·rcases List.mem_append.1 h with h2 |h2
   ·exact p3 a h2 b hb
   ·rw[List.mem_singleton]at h2;rw[h2];exact hd b hb
 by_cases hlt:ahd s xs<xs.length
 ·have hx:xs[ahd s xs]? =some xs[ahd s xs]:=aB hlt
  have hge:=zqi s xs _ hx
  rw[aF (by omega),aD,zad hx,aA]
  cases he:xs[ahd s xs]==s with
  |true=>
   have e:xs[ahd s xs]=s:=by simpa using he
   rw[aD]
   congr 1
   exact Asd.ext ha (zcD _ _) (fun a=>by
    rw[insS_mem]
    constructor
    ·exact .inl
    ·rintro(h |h)
     ·exact h
     ·rw[h,<- e];exact List.getElem_mem hlt)
  |false=>
   have e:s≠xs[ahd s xs]:=fun e=>by rw[<- e]at he;simp at he
   rw[aC,hput]
   refine hfin (fun x hx2=>?_)
   rw[aI hlt]at hx2
   have hs1:s<xs[ahd s xs]:=zb5 hge e
   rcases List.mem_cons.1 hx2 with h2 |h2
   ·rw[h2];exact hs1
   ·have hp:Asd (xs.drop (ahd s xs)):=List.Pairwise.sublist (List.drop_sublist _ _) ha
    rw[aI hlt]at hp
    exact zbp hs1 ((List.pairwise_cons.1 hp).1 x h2)
 ·rw[aE (by omega),aC,aC,hput]
  refine hfin (fun x hx2=>?_)
  rw[List.drop_eq_nil_of_le (by omega)]at hx2
  simp at hx2
def zqD (xs:List Str)(i:Nat):Bool:=zaI (xs.getD i [])&&(bif decide (0< (i:Int)) then Op.bytesLess (xs.getD (i-1) []) (xs.getD i []) else true)
def zkz (xs:List Str):Bool:=zgF (zqD xs) 0 xs.length
theorem zkG {xs:List Str}{i:Nat}{x:Str}(h:xs[i]? =some x):xs.getD i []=x:=by simp[List.getD,h]
theorem zqU (a b:Str):(Op.bytesLess a b||a==b) = !Op.bytesLess b a:=by
 rw[za9,za9]
 by_cases h:b<a
 ·have h1: ¬ a<b:=fun h2=>zaq a (zbp h2 h)
  have h2: ¬ a=b:=fun e=>by rw[e]at h;exact zaq b h
  simp[h,h1,h2]
 ·by_cases e:a=b
  ·simp[h,e]
  ·have:=zb5 (zjf.1 h) e
   simp[h,this]
theorem zn5 {xs:List Str}{i:Nat}{x:Str}(h:xs[i]? =some x)(hl:xs.length<=maxi)(h0:(0:Int)< (i:Int)): ∃ y,gi xs (w64 ((i:Int)-1))=some y/\xs.getD (i-1) []=y:=by
 have hi:=zau h
 have e:w64 ((i:Int)-1)=((i-1:Nat):Int):=by rw[zah (by omega) (by unfold maxi at hl;omega)];omega
 have hx:xs[i-1]? =some xs[i-1]:=aB (by omega)
 exact⟨_,by rw[e];exact zad hx,zkG hx⟩
theorem zm5 {xs:List Str}(h:Bk.fit xs):zf5 xs=some (zkz xs):=by
 unfold zf5 zkz
 simp only[jn,zan]
 rw[zbk (n:=xs.length) (g:=zqD xs) (r0:=some false) (Z:=some true) (f:=fun m i=>zcr xs (fun _ _=>some true) m false i) (fun m i hi=>by
  have hx:xs[i]? =some xs[i]:=aB hi
  have fx:xs[i].length<=maxi:=zgk h hx
  simp only[zcr,jn,zal hx,zad hx,aD,aA,zab hi (zb6 h),zcc fx]
  unfold zqD
  rw[zkG hx]
  cases zaI xs[i]
  ·rfl
  ·by_cases h0:(0:Int)< (i:Int)
   ·obtain⟨y,hy,ey⟩:=zn5 hx (zb6 h) h0
    rw[hy,ey,aF h0]
    simp only[aA]
    cases Op.bytesLess y xs[i]<;>rfl
   ·rw[aE h0];rfl) (fun m=>by simp only[zcr,zac,aC]) _ (by omega)]
 cases zgF (zqD xs) 0 xs.length<;>rfl
def zrO (v:Review):Bool:=zaI v.Branch&&(zaI v.Into&&(zaI v.By&&(v.Branch !=v.Into&&decide ((v.Yes.length:Int)<=5))))
def zmB (v:Review):Bool:=zkz v.Yes&&zrO v
theorem zlX {v:Review}(h:Bk.fit v):zeX v=some (zmB v):=by
 obtain⟨h1,h2,h3,h4⟩:=h
 unfold zeX zmB zrO
 simp only[jn,zcc h1,zcc h2,zcc h3,zm5 h4,aA]
 cases zaI v.Branch<;>cases zaI v.Into<;>cases zaI v.By<;>cases(v.Branch !=v.Into)<;>cases decide ((v.Yes.length:Int)<=5)<;>cases zkz v.Yes<;>rfl
theorem zpp {v:Review}(h:Bk.fit v):zh6 v=some (zmB v):=by
 obtain⟨h1,h2,h3,h4⟩:=h
 unfold zh6 zmB zkz
 simp only[jn,zan]
 rw[zbk (n:=v.Yes.length) (g:=zqD v.Yes) (r0:=some false) (Z:=some (zrO v)) (f:=fun m i=>zdB v _ m false i) (fun m i hi=>by
  have hx:v.Yes[i]? =some v.Yes[i]:=aB hi
  have fx:v.Yes[i].length<=maxi:=zgk h4 hx
  simp only[zdB,jn,zal hx,zad hx,aD,aA,zab hi (zb6 h4),zbd fx]
  unfold zqD
  rw[zkG hx]
  cases zaI v.Yes[i]
  ·rfl
  ·by_cases h0:(0:Int)< (i:Int)
   ·obtain⟨y,hy,ey⟩:=zn5 hx (zb6 h4) h0
    rw[hy,ey,aF h0]
    simp only[aA,zqU]
    cases Op.bytesLess y v.Yes[i]<;>rfl
   ·rw[aE h0];rfl) (fun m=>by
  simp only[zdB,zac,aC,zbd h1,zbd h2,zbd h3,aA,zrO]
  cases zaI v.Branch<;>cases zaI v.Into<;>cases zaI v.By<;>cases(v.Branch !=v.Into)<;>rfl) _ (by omega)]
 cases zgF (zqD v.Yes) 0 v.Yes.length<;>rfl
theorem zkg {v:Review}(h:zmB v=true):v.Yes.length<=5:=by
 unfold zmB zrO at h
 simp only[aG,decide_eq_true_eq]at h
 omega
def RB (n:Nat)(v:Review):Prop:=v.Branch.length<=4/\v.Into.length<=4/\v.By.length<=4/\LB n v.Yes
theorem RB.fit {n:Nat}{v:Review}(h:RB n v)(hn:n<=1000):Bk.fit v:=
 ⟨by have:=h.1;show v.Branch.length<=maxi;unfold maxi;omega,by have:=h.2.1;show v.Into.length<=maxi;unfold maxi;omega,by have:=h.2.2.1;show v.By.length<=maxi;unfold maxi;omega,h.2.2.2.fit (by omega)⟩
theorem zra {x0:l30Rd}{a b c:Str}{K:Int->Int->Str->Str->Str->List Str->Option (Review×Int)}: ∀ (n i m:Nat) (q p:Int) (l:List Str),i+n=3->n<m->zfK ⟨x0.b,q⟩ p->p+n<=1000000->LB i l->
 ∃ l' q',zdb x0 K m (i:Int) q a b c l=K 3 q' a b c l'/\LB 3 l'/\zfK ⟨x0.b,q'⟩ (p+n)
 |n,i,0,_,_,_,_,hm,_,_,_=>by omega
 |0,i,m+1,q,p,l,hi,_,hr,hp,hl=>by
  simp only[zdb]
  obtain rfl:i=3:=by omega
  exact⟨l,q,rfl,hl,by simpa using hr⟩
 |n+1,i,m+1,q,p,l,hi,hm,hr,hp,hl=>by
  simp only[zdb,jn]
  have ei:w64 ((i:Int)+1)=((i+1:Nat):Int):=by rw[zah (by omega) (by omega)];omega
  obtain⟨k,hk,k0,k1⟩:=zgB (n:=2) hr (by omega) (by omega) (by omega)
  have hk':zay ⟨x0.b,q⟩ 2=some (k,q+1):=hk
  have hr1:=on1 hr (q:=p+1) (by omega)
  rw[aF (by simp;omega),aD,hk',aA,ei]
  cases hk0:(k==(0:Int))with
  |false=>
   rw[aC]
   obtain⟨l',q',e,f,r⟩:=zra (x0:=x0) (a:=a) (b:=b) (c:=c) (K:=K) n (i+1) m (q+1) (p+1) l (by omega) (by omega) hr1 (by omega) (hl.mono (by omega))
   exact⟨l',q',e,f,by rw[show p+((n+1:Nat):Int)=p+1+n by omega];exact r⟩
  |true=>
   obtain⟨s,hs⟩:=zjB (xs:=([([97,110,110]:Str),([98,111,98]:Str),([99,105,100]:Str)]:List Str)) (i:=(i:Int)) (by omega) (by simp;omega)
   have hsl:s.length<=100:=by
    have:=aH (zlI hs).2.1
    simp only[List.mem_cons,List.not_mem_nil,or_false]at this
    rcases this with rfl |rfl |rfl<;>simp
   have hll:=hl.1
   rw[aD,hs,aA,ap1 (by omega),aA]
   obtain⟨l',q',e,f,r⟩:=zra (x0:=x0) (a:=a) (b:=b) (c:=c) (K:=K) n (i+1) m (q+1) (p+1) (l++[s]) (by omega) (by omega) hr1 (by omega) ⟨by simp;omega,fun x hx=>by
    rcases List.mem_append.1 hx with h1 |h1
    ·exact hl.2 x h1
    ·rw[List.mem_singleton]at h1;rw[h1];exact hsl⟩
   exact⟨l',q',e,f,by rw[show p+((n+1:Nat):Int)=p+1+n by omega];exact r⟩
theorem zrb {r:l30Rd}{p:Int}(h:zfK r p)(hp:p<=100000): ∃ v q,zgf r=some (v,q)/\RB 4 v/\zfK ⟨r.b,q⟩ (p+7):=by
 unfold zgf
 obtain⟨a,ha,ma⟩:=zni h (by omega) (l:=([([115,105,100,101]:Str),([100,101,118]:Str),([109,97,105,110]:Str)]:List Str)) (by simp) (by simp)
 have r1:=on1 h (q:=p+1) (by omega)
 obtain⟨b,hb,mb⟩:=zni r1 (by omega) (l:=([([109,97,105,110]:Str),([109,97,105,110]:Str),([100,101,118]:Str)]:List Str)) (by simp) (by simp)
 have r2:=on1 r1 (q:=p+2) (by omega)
 obtain⟨c,hc,mc⟩:=zni r2 (by omega) (l:=([([97,110,110]:Str),([98,111,98]:Str),([101,118,101]:Str)]:List Str)) (by simp) (by simp)
 have r3:=on1 r2 (q:=p+3) (by omega)
 simp only[List.mem_cons,List.not_mem_nil,or_false]at ma mb mc
 have la:a.length<=4:=by rcases ma with rfl |rfl |rfl<;>simp
 have lb:b.length<=4:=by rcases mb with rfl |rfl |rfl<;>simp
 have lc:c.length<=4:=by rcases mc with rfl |rfl |rfl<;>simp
 simp only[ha,aA,hb,hc,jn]
 obtain⟨l,q,e,f,ro⟩:=zra (x0:=r) (a:=a) (b:=b) (c:=c) (K:=fun y65 y66 y68 y69 y70 y71=>(zay ⟨r.b,y66⟩ 14).bind fun z195=>bif((z195.1:Int)==(0:Int)) then((apM y71 ([([97,110,110]:Str)])).bind fun q217=>some (Review.mk y68 y69 y70 q217,z195.2)) else some (Review.mk y68 y69 y70 y71,z195.2)) 3 0 ((((3:Nat):Int)-0).toNat+1) (r.p+1+1+1) (p+3) [] (by omega) (by omega) r3 (by omega) ⟨by simp,by simp⟩
 refine Exists.elim (?_: ∃ x:Review×Int,_) fun x hx=>⟨x.1,x.2,hx⟩
 have fl:=f.1
 obtain⟨k,hk,k0,k1⟩:=zgB (n:=14) ro (by omega) (by omega) (by omega)
 have hk':zay ⟨r.b,q⟩ 14=some (k,q+1):=hk
 have r4:=on1 ro (q:=p+7) (by omega)
 have e':=e
 cases hk0:(k==(0:Int))with
 |true=>
  refine⟨(⟨a,b,c,l++[[97,110,110]]⟩,q+1),?_,⟨la,lb,lc,by simp;omega,fun x hx=>by
   rcases List.mem_append.1 hx with h1 |h1
   ·exact f.2 x h1
   ·rw[List.mem_singleton]at h1;rw[h1];simp⟩,r4⟩
  refine e.trans ?_
  rw[hk',aA,hk0,aD,ap1 (by omega)]
  rfl
 |false=>
  refine⟨(⟨a,b,c,l⟩,q+1),?_,⟨la,lb,lc,f.mono (by omega)⟩,r4⟩
  refine e.trans ?_
  rw[hk',aA,hk0,aC]
def curS (c:UInt8):Str->Str->List Str
 |w,[]=>[w]
 |w,x::r=>bif x==c then w::curS c [] r else curS c (w++[x]) r
def ze6 (c:UInt8):Nat->Str->Str->List Str
 |_,w,[]=>[w]
 |0,w,x::r=>[w++x::r]
 |n+1,w,x::r=>bif x==c then w::ze6 c n [] r else ze6 c (n+1) (w++[x]) r
theorem zmC (c:UInt8): ∀ (r w:Str),1<=(curS c w r).length
 | [],w=>by simp[curS]
 |x::r,w=>by
  unfold curS
  cases x==c
  ·exact zmC c r _
  ·simp
theorem zfa (c:UInt8)(w r:Str):ze6 c 0 w r=[w++r]:=by
 cases r<;>simp[ze6]
theorem zen (c:UInt8): ∀ (r:Str) (n:Nat) (w:Str),(curS c w r).length<=n+1->ze6 c n w r=curS c w r
 | [],n,w,h=>by cases n<;>simp[ze6,curS]
 |x::r,0,w,h=>by
  unfold curS at h ⊢
  cases hx:x==c with
  |true=>
   rw[hx,aD]at h
   have:=zmC c r []
   rw[aL]at h
   omega
  |false=>
   rw[hx,aC]at h
   have ih:=zen c r 0 (w++[x]) h
   rw[aC,<- ih,zfa,zfa]
   simp
 |x::r,n+1,w,h=>by
  unfold curS at h ⊢
  unfold ze6
  cases hx:x==c with
  |true=>
   rw[hx,aD,aL]at h
   rw[aD,aD,zen c r n [] (by omega)]
  |false=>
   rw[hx,aC]at h
   rw[aC,aC,zen c r (n+1) _ h]
theorem zgL (c:UInt8): ∀ (r:Str) (n:Nat) (w:Str),n+1<=(curS c w r).length->(ze6 c n w r).length=n+1
 | [],n,w,h=>by
  simp[curS]at h
  subst h
  simp[ze6]
 |x::r,0,w,h=>by simp[ze6]
 |x::r,n+1,w,h=>by
  unfold curS at h
  unfold ze6
  cases hx:x==c with
  |true=>
   rw[hx,aD,aL]at h
   rw[aD,aL,zgL c r n [] (by omega)]
  |false=>
   rw[hx,aC]at h
   rw[aC,zgL c r (n+1) _ h]
theorem zlY {c:UInt8}{w:Str}(h:c∉w):Lib.index w [c] = -1:=Lib.index_none fun j hj=>by
 cases ho:Lib.occAt w [c] j with
 |false=>rfl
 |true=>exact absurd (aH (Lib.occAt_head rfl ho)) h
theorem znt {c:UInt8}{w r:Str}(h:c∉w):Lib.index (w++c::r) [c]=((w.length:Nat):Int):=Lib.index_first (by simp) (by simp[Lib.occAt,List.isPrefixOf]) fun j hj=>by
 cases ho:Lib.occAt (w++c::r) [c] j with
 |false=>rfl
 |true=>
  have:=Lib.occAt_head rfl ho
  rw[aM hj]at this
  exact absurd (aH this) h
theorem ziG (c:UInt8): ∀ (r w:Str),c∉w->Lib.split (w++r) [c]=curS c w r
 | [],w,h=>by
  unfold Lib.split curS
  rw[List.append_nil,Lib.count_miss (zlY h)]
  rfl
 |x::r,w,h=>by
  unfold curS
  cases hx:x==c with
  |true=>
   have e:x=c:=by simpa using hx
   subst e
   have hi:=znt (r:=r) h
   rw[aD]
   have ih:=ziG x r [] (by simp)
   unfold Lib.split at ih ⊢
   have hd:(w++x::r).drop (w.length+1)=r:=by
    rw[show w++x::r=(w++[x])++r by simp,List.drop_left' (by simp)]
   have hc:Lib.count (w++x::r) [x]=Lib.count r [x]+1:=by
    rw[Lib.count_hit (by simp) hi]
    show 1+Lib.count ((w++x::r).drop (w.length+1)) [x]=_
    rw[hd]
    omega
   rw[hc]
   unfold Lib.splitK
   rw[if_neg (by rw[hi];simp),hi]
   have e1:(w++x::r).take (((w.length:Nat):Int).toNat+0)=w:=by simp
   have e2:(w++x::r).drop (((w.length:Nat):Int).toNat+[x].length)=r:=hd
   rw[e1,e2]
   simp only[List.nil_append]at ih
   rw[ih]
  |false=>
   have hne:x≠c:=by simpa using hx
   rw[aC,show w++x::r=(w++[x])++r by simp]
   exact ziG c r (w++[x]) (by
    rw[List.mem_append,List.mem_singleton]
    rintro(h1 |h1)
    ·exact h h1
    ·exact hne h1.symm)
theorem zpq (c:UInt8)(s:Str):Lib.split s [c]=curS c [] s:=ziG c s [] (by simp)
theorem zmS (u c:UInt8):(((UInt8.toNat u:Nat):Int)==((UInt8.toNat c:Nat):Int))=(u==c):=by
 have: ∀ b c:Bool,(b=true↔c=true)->b=c:=by decide
 apply this
 rw[beq_iff_eq,beq_iff_eq,<- UInt8.toNat_inj]
 omega
theorem zn6 {s:Str}{c:UInt8}{most:Nat}(hs:s.length<=1048576)(hm:most<=1000): ∀ (n:Nat) (out:List Str) (from_ i m:Nat),i+n=s.length->n<m->from_<=i->out.length<=most->
 zeU s c (most:Int) (fun y3 y6 y7=>(slM s y6 (s.length:Int)).bind fun q38=>(apM y3 [q38]).bind fun q43=>some q43) m out (from_:Int) (i:Int)=some (out++ze6 c (most-out.length) ((s.take i).drop from_) (s.drop i))
 |n,out,f,i,0,_,hm,_,_=>by omega
 |n,out,f,i,m+1,hi,hn,hf,ho=>by
  have hdone:(slM s (f:Int) (s.length:Int)).bind (fun q38=>(apM out [q38]).bind fun q43=>some q43)=some (out++[s.drop f]):=by
   rw[zmO (by omega),aA,ap1 (by omega),aA]
  have hw:(s.take i).drop f++s.drop i=s.drop f:=by
   rw[<- List.drop_append_of_le_length (by simp;omega),List.take_append_drop]
  simp only[zeU,jn]
  by_cases h1:(i:Int)< (s.length:Int)
  case neg=>
   rw[aE h1,aC,aC,hdone]
   have:s.drop i=[]:=List.drop_eq_nil_of_le (by omega)
   rw[this]at hw ⊢
   rw[List.append_nil]at hw
   rw[hw]
   cases most-out.length<;>simp[ze6]
  rw[aF h1,aD]
  have hlt:i<s.length:=by omega
  have hx:s[i]? =some s[i]:=aB hlt
  by_cases h2:(out.length:Int)< (most:Int)
  case neg=>
   rw[aE h2,aC,hdone]
   have:most-out.length=0:=by omega
   rw[this,zfa,hw]
  obtain⟨n,rfl⟩: ∃ k,n=k+1:=⟨n-1,by omega⟩
  obtain⟨k,hk⟩: ∃ k,most-out.length=k+1:=⟨most-out.length-1,by omega⟩
  rw[aF h2,aD,zjV hx,aA,zmS,hk,aI hlt]
  unfold ze6
  cases hb:s[i]==c with
  |true=>
   rw[aD,aD,zf0 (by omega) (by omega) (by omega),aA,ap1 (by omega),aA,zab hlt (by unfold maxi;omega),zn6 hs hm n _ (i+1) (i+1) m (by omega) (by omega) (by omega) (by simp;omega)]
   have e1:most-(out++[((s.take ((i:Nat):Int).toNat)).drop ((f:Nat):Int).toNat]).length=k:=by simp;omega
   have e2:(s.take (i+1)).drop (i+1)=[]:=List.drop_eq_nil_of_le (by simp;omega)
   rw[e1,e2]
   simp
  |false=>
   rw[aC,aC,zab hlt (by unfold maxi;omega),zn6 hs hm n _ f (i+1) m (by omega) (by omega) (by omega) ho,hk]
   have e2:(s.take (i+1)).drop f=(s.take i).drop f++[s[i]]:=by
    rw[List.take_add_one,hx]
    rw[List.drop_append_of_le_length (by simp;omega)]
    rfl
   rw[e2]
theorem zpr {s:Str}{c:UInt8}{most:Nat}(hs:s.length<=1048576)(hm:most<=1000):zh5 s c (most:Int)=some (ze6 c most [] s):=by
 unfold zh5
 simp only[jn]
 have:=zn6 (c:=c) (most:=most) hs hm s.length [] 0 0 (s.length+1) (by omega) (by omega) (Nat.le_refl _) (by simp)
 simpa using this
def zaS (s:Str):Bool:=decide ((curS 47 [] s).length<=3)&&(curS 47 [] s).all zaI
theorem zkh (c:UInt8): ∀ (r w:Str),∀ p∈curS c w r,p.length<=w.length+r.length
 | [],w,p,h=>by simp[curS]at h;rw[h];omega
 |x::r,w,p,h=>by
  unfold curS at h
  cases hx:x==c with
  |true=>
   rw[hx,aD]at h
   rcases List.mem_cons.1 h with e |e
   ·rw[e];omega
   ·have:=zkh c r [] p e
    simp at this ⊢
    omega
  |false=>
   rw[hx,aC]at h
   have:=zkh c r (w++[x]) p h
   simp at this ⊢
   omega
theorem zhT (c:UInt8): ∀ (r w:Str),(curS c w r).length<=r.length+1
 | [],w=>by simp[curS]
 |x::r,w=>by
  unfold curS
  cases x==c
  ·have:=zhT c r (w++[x]);simp at this ⊢;omega
  ·have:=zhT c r [];simp at this ⊢;omega
theorem zcz {s:Str}(h:s.length<=1048576):zer s=some (zaS s):=by
 unfold zer strings_Split zaS
 rw[if_pos ⟨by omega,by simp⟩,aA,zpq]
 have hl:=zhT 47 s []
 by_cases h3:(3:Int)< ((curS 47 [] s).length:Int)
 ·rw[aF h3,aD,aE (by omega)];rfl
 rw[aE h3,aC,aF (by omega),Bool.true_and]
 simp only[jn,zan]
 rw[zbi (α:=Str) (xs:=curS 47 [] s) (p:=zaI) (r0:=some false) (Z:=some true) (f:=fun m i=>zc3 (curS 47 [] s) (fun _ _=>some true) m false i) (fun m i x hx=>by
  have hf:=zkh 47 s [] x (aH hx)
  simp only[zc3,zal hx,zad hx,aD,aA,zab (zau hx) (show(curS 47 [] s).length<=maxi by unfold maxi;omega),zcc (show x.length<=maxi by unfold maxi;simp at hf;omega)]
  cases zaI x<;>rfl) (fun m=>by simp only[zc3,zac,aC]) (by omega)]
 cases(curS 47 [] s).all zaI<;>rfl
theorem zjw (c:UInt8): ∀ (r:Str) (n:Nat) (w:Str),∀ p∈ze6 c n w r,p.length<=w.length+r.length
 | [],n,w,p,h=>by cases n<;>simp[ze6]at h<;>rw[h]<;>omega
 |x::r,0,w,p,h=>by simp[ze6]at h;rw[h];simp
 |x::r,n+1,w,p,h=>by
  unfold ze6 at h
  cases hx:x==c with
  |true=>
   rw[hx,aD]at h
   rcases List.mem_cons.1 h with e |e
   ·rw[e];omega
   ·have:=zjw c r n [] p e
    simp at this ⊢
    omega
  |false=>
   rw[hx,aC]at h
   have:=zjw c r (n+1) (w++[x]) p h
   simp at this ⊢
   omega
theorem zd3 {s:Str}(h:s.length<=1048576):zcj s=some (zaS s):=by
 unfold zcj zaS
 have e47:(UInt8.ofNatLT 47 (by decide):UInt8)=47:=by decide
 have hc:=zpr (c:=UInt8.ofNatLT 47 (by decide)) (most:=3) h (by omega)
 rw[show(3:Int)=((3:Nat):Int) from rfl,hc,aA,e47]
 simp only[jn,zan]
 have hlen:(ze6 47 3 [] s).length<=maxi:=by
  rcases Nat.lt_or_ge (curS 47 [] s).length 4 with h1 |h1
  ·rw[zen 47 s 3 [] (by omega)];unfold maxi;omega
  ·rw[zgL 47 s 3 [] h1];unfold maxi;omega
 rw[zbi (α:=Str) (xs:=ze6 47 3 [] s) (p:=zaI) (r0:=some false) (Z:=some (decide (((ze6 47 3 [] s).length:Int)<=((3:Nat):Int)))) (f:=fun m i=>zcQ (ze6 47 3 [] s) (fun _ _=>some (decide (((ze6 47 3 [] s).length:Int)<=((3:Nat):Int)))) m false i) (fun m i x hx=>by
  have hf:=zjw 47 s 3 [] x (aH hx)
  simp only[zcQ,zal hx,zad hx,aD,aA,zab (zau hx) hlen,zbd (show x.length<=maxi by unfold maxi;simp at hf;omega)]
  cases zaI x<;>rfl) (fun m=>by simp only[zcQ,zac,aC]) (by omega)]
 rcases Nat.lt_or_ge (curS 47 [] s).length 4 with h1 |h1
 ·rw[zen 47 s 3 [] (by omega),aF (show((curS 47 [] s).length:Int)<=((3:Nat):Int) by omega),aF (show(curS 47 [] s).length<=3 by omega)]
  cases(curS 47 [] s).all zaI<;>rfl
 ·rw[zgL 47 s 3 [] h1,aE (show ¬ (curS 47 [] s).length<=3 by omega)]
  cases(ze6 47 3 [] s).all zaI<;>rfl
theorem zi3 (a b:Str):(Op.bytesLess a b||a==b) = !Op.bytesLess b a:=by
 rw[za9,za9]
 by_cases h:b<a
 ·have h1: ¬ a<b:=fun h2=>zaq a (zbp h2 h)
  have h2: ¬ a=b:=fun e=>by rw[e]at h;exact zaq b h
  simp[h,h1,h2]
 ·by_cases e:a=b
  ·simp[h,e]
  ·have:=zb5 (zjf.1 h) e
   simp[h,this]
def zfT:Owner:=⟨[],[]⟩
def zpT (xs:List Owner)(i:Nat):Bool:=zaS (xs.getD i zfT).Path&&(zaI (xs.getD i zfT).Who&&(bif decide (0< (i:Int)) then Op.bytesLess (xs.getD (i-1) zfT).Path (xs.getD i zfT).Path else true))
def zbF (xs:List Owner):Bool:=decide ((xs.length:Int)<=5)&&zgF (zpT xs) 0 xs.length
theorem zij {xs:List Owner}{i:Nat}{x:Owner}(h:xs[i]? =some x):xs.getD i zfT=x:=by simp[List.getD,h]
theorem zmD {xs:List Owner}{i:Nat}{x:Owner}(h:xs[i]? =some x)(hl:xs.length<=maxi)(h0:(0:Int)< (i:Int)): ∃ y,gi xs (w64 ((i:Int)-1))=some y/\xs.getD (i-1) zfT=y:=by
 have hi:=zau h
 have e:w64 ((i:Int)-1)=((i-1:Nat):Int):=by rw[zah (by omega) (by unfold maxi at hl;omega)];omega
 have hx:xs[i-1]? =some xs[i-1]:=aB (by omega)
 exact⟨_,by rw[e];exact zad hx,zij hx⟩
def OB (xs:List Owner):Prop:=xs.length<=1048576 /\ ∀ x∈xs,x.Path.length<=1048576/\x.Who.length<=1048576
theorem OB.of {xs:List Owner}(h:Bk.bulk xs<=1048576):OB xs:=⟨zcO h,fun x hx=>by
 have h1:Bk.bulk x<=1048576:=zjA h hx
 have h2:Bk.bulk x=x.Path.length+x.Who.length:=rfl
 omega⟩
theorem OB.at_ {xs:List Owner}(h:OB xs){i:Nat}{x:Owner}(hx:xs[i]? =some x):x.Path.length<=1048576/\x.Who.length<=1048576:=h.2 x (aH hx)
theorem ziH {xs:List Owner}(h:OB xs):zes xs=some (zbF xs):=by
 unfold zes zbF
 by_cases h5:(5:Int)< (xs.length:Int)
 ·rw[aF h5,aE (by omega)];rfl
 rw[aE h5,aF (by omega),aC,Bool.true_and]
 simp only[jn,zan]
 rw[zbk (n:=xs.length) (g:=zpT xs) (r0:=some false) (Z:=some true) (f:=fun m i=>zb4 xs (fun _ _=>some true) m false i) (fun m i hi=>by
  have hx:xs[i]? =some xs[i]:=aB hi
  obtain⟨f1,f2⟩:=h.at_ hx
  simp only[zb4,jn,zal hx,zad hx,aD,aA,zab hi (show xs.length<=maxi by unfold maxi;omega),zcz f1,zcc (zap f2)]
  unfold zpT
  rw[zij hx]
  cases zaS xs[i].Path
  ·rfl
  ·cases zaI xs[i].Who
   ·rfl
   ·by_cases h0:(0:Int)< (i:Int)
    ·obtain⟨y,hy,ey⟩:=zmD hx (show xs.length<=maxi by unfold maxi;omega) h0
     rw[hy,ey,aF h0]
     simp only[aA]
     cases Op.bytesLess y.Path xs[i].Path<;>rfl
    ·rw[aE h0];rfl) (fun m=>by simp only[zb4,zac,aC]) _ (by omega)]
 cases zgF (zpT xs) 0 xs.length<;>rfl
theorem zlm {xs:List Owner}(h:OB xs):zei xs=some (zbF xs):=by
 have hm:=zap h.1
 unfold zei zbF
 simp only[jn,zan]
 rw[zbk (n:=xs.length) (g:=zpT xs) (r0:=some false) (Z:=some (decide ((xs.length:Int)<=5))) (f:=fun m i=>zbP xs (fun _ _=>some (decide ((xs.length:Int)<=5))) m false i) (fun m i hi=>by
  have hx:xs[i]? =some xs[i]:=aB hi
  obtain⟨f1,f2⟩:=h.at_ hx
  simp only[zbP,jn,zal hx,zad hx,aD,aA,zab hi hm,zd3 f1,zbd (zap f2)]
  unfold zpT
  rw[zij hx]
  cases zaS xs[i].Path
  ·rfl
  ·cases zaI xs[i].Who
   ·rfl
   ·by_cases h0:(0:Int)< (i:Int)
    ·obtain⟨y,hy,ey⟩:=zmD hx hm h0
     rw[hy,ey,aF h0]
     simp only[aA,zi3]
     cases Op.bytesLess y.Path xs[i].Path<;>rfl
    ·rw[aE h0];rfl) (fun m=>by simp only[zbP,zac,aC]) _ (by omega)]
 cases decide ((xs.length:Int)<=5)<;>cases zgF (zpT xs) 0 xs.length<;>rfl
theorem zn7 {xs:List Owner}(h:zbF xs=true){i:Nat}{x:Owner}(hx:xs[i]? =some x):zaS x.Path=true:=by
 unfold zbF at h
 simp only[aG]at h
 have:=zaN.1 h.2 i (Nat.zero_le _) (by have:=zau hx;omega)
 unfold zpT at this
 rw[zij hx]at this
 simp only[aG]at this
 exact this.1
def zbh (d p:Str):Bool:=(d++[47]).isPrefixOf p
theorem zln {d p:Str}(hd:d.length<=1048576)(hp:p.length<=1048576)(h1:zaS d=true)(h2:zaS p=true):zcp d p=some (zbh d p):=by
 unfold zcp strings_HasPrefix zbh
 have hs:saM d ([47]:Str)=some (d++[47]):=by
  unfold saM
  rw[if_pos]
  simp only[aL,List.length_nil,lim]
  omega
 simp only[jn,zcz hd,zcz hp,h1,h2,aA,aD,hs,Lib.hasPrefix]
theorem ziI {c:UInt8}: ∀ {d p:Str},(d++[c]).isPrefixOf p=(p.take d.length==d&&p[d.length]? ==some c)
 | [],[]=>by simp
 | [],x::p=>by
  by_cases e:c=x
  ·subst e;simp[List.isPrefixOf]
  ·have e1:(c==x)=false:=beq_false_of_ne e
   have e2:((some x:Option UInt8)==some c)=false:=beq_false_of_ne (fun h=>e (Option.some.inj h).symm)
   simp only[List.nil_append,List.isPrefixOf,e1,List.length_nil,List.take_zero,List.getElem?_cons_zero,e2,Bool.false_and,Bool.and_false]
 |y::d,[]=>by simp[List.isPrefixOf]
 |y::d,x::p=>by
  have ih:=ziI (c:=c) (d:=d) (p:=p)
  simp only[List.cons_append,List.isPrefixOf,aL,List.take_succ_cons,List.getElem?_cons_succ,ih]
  by_cases e:y=x
  ·subst e
   simp
  ·have e1:(y==x)=false:=beq_false_of_ne e
   have e2:(x==y)=false:=beq_false_of_ne (fun h=>e h.symm)
   simp[e1,e2]
theorem zlG {d p:Str}(hp:p.length<=1048576):zhr d p=some (zbh d p):=by
 unfold zhr zbh
 simp only[jn]
 rw[ziI]
 by_cases hl:(d.length:Int)< (p.length:Int)
 ·have hlt:d.length<p.length:=by omega
  have hx:p[d.length]? =some p[d.length]:=aB hlt
  rw[aF hl,aD,zir (by omega),aA,hx]
  cases p.take d.length==d with
  |false=>rfl
  |true=>
   rw[aD,zjV hx,aA,Bool.true_and]
   congr 1
   have:=(show ∀ u:UInt8,(((UInt8.toNat u:Nat):Int)==(47:Int))=(some u==some (47:UInt8)) from fun u=>by
    have hb:=zmS u 47
    rw[show(((UInt8.toNat (47:UInt8):Nat):Int))=47 from rfl]at hb
    rw[hb]
    simp)
   exact this _
 ·rw[aE hl,aC,List.getElem?_eq_none (by omega)]
  simp
def ownStep (path:Str)(b:Nat×Str)(x:Owner):Nat×Str:=
 bif(x.Path==path||zbh x.Path path)&&decide (b.1<x.Path.length) then(x.Path.length,x.Who) else b
def zhn (xs:List Owner)(path:Str):Str:=(xs.foldl (ownStep path) (0,[])).2
theorem zqj {xs:List Owner}{path:Str}(hb:OB xs)(hp:path.length<=1048576){K:Str->Int->Int->Option Str}: ∀ (n i m:Nat) (b:Nat×Str),i+n=xs.length->n<m->
 zcU xs path K m b.2 (b.1:Int) (i:Int)=K ((xs.drop i).foldl (ownStep path) b).2 (((xs.drop i).foldl (ownStep path) b).1:Int) (xs.length:Int)
 |n,i,0,b,_,hm=>by omega
 |0,i,m+1,b,hi,_=>by
  obtain rfl:i=xs.length:=by omega
  simp only[zcU,zac,aC,List.drop_length,List.foldl_nil]
 |n+1,i,m+1,b,hi,hm=>by
  have hlt:i<xs.length:=by omega
  have hx:xs[i]? =some xs[i]:=aB hlt
  have hd:xs.drop i=xs[i]::xs.drop (i+1):=aI hlt
  have hlt2:decide ((b.1:Int)< (xs[i].Path.length:Int))=decide (b.1<xs[i].Path.length):=by
   by_cases h:b.1<xs[i].Path.length
   ·rw[aF h,aF (by omega)]
   ·rw[aE h,aE (by omega)]
  have ih:=zqj hb hp (K:=K) n (i+1) m
  simp only[zcU,jn,zal hx,zad hx,aD,aA,zlG hp,hlt2,zab hlt (zap hb.1)]
  rw[hd,List.foldl_cons]
  unfold ownStep
  cases(xs[i].Path==path)<;>cases zbh xs[i].Path path<;>cases decide (b.1<xs[i].Path.length)<;>simp only[aD,aC,Bool.true_or,Bool.false_or,Bool.or_false,Bool.or_true,Bool.true_and,Bool.false_and,Bool.and_false]
  all_goals first |exact ih b (by omega) (by omega) |exact ih (xs[i].Path.length,xs[i].Who) (by omega) (by omega)
theorem zqk {xs:List Owner}{path:Str}(hb:OB xs)(hp:path.length<=1048576)(hok:zbF xs=true)(hpath:zaS path=true){K:Int->Str->Str->Option Str}(hK: ∀ i a w,K i a w=some w): ∀ (n i m:Nat) (bp:Str) (b:Nat×Str),i+n=xs.length->n<m->bp.length=b.1->
 zcu xs path K m (i:Int) bp b.2=some ((xs.drop i).foldl (ownStep path) b).2
 |n,i,0,bp,b,_,hm,_=>by omega
 |0,i,m+1,bp,b,hi,_,_=>by
  obtain rfl:i=xs.length:=by omega
  simp only[zcu,zac,aC,List.drop_length,List.foldl_nil,hK]
 |n+1,i,m+1,bp,b,hi,hm,hbp=>by
  have hlt:i<xs.length:=by omega
  have hx:xs[i]? =some xs[i]:=aB hlt
  have hd:xs.drop i=xs[i]::xs.drop (i+1):=aI hlt
  have hlt2:decide ((bp.length:Int)< (xs[i].Path.length:Int))=decide (b.1<xs[i].Path.length):=by
   by_cases h:b.1<xs[i].Path.length
   ·rw[aF h,aF (by omega)]
   ·rw[aE h,aE (by omega)]
  obtain⟨f1,f2⟩:=hb.at_ hx
  have ih:=zqk hb hp hok hpath hK n (i+1) m
  simp only[zcu,jn,zal hx,zad hx,aD,aA,zln f1 hp (zn7 hok hx) hpath,hlt2,zab hlt (zap hb.1)]
  rw[hd,List.foldl_cons]
  unfold ownStep
  cases(xs[i].Path==path)<;>cases zbh xs[i].Path path<;>cases decide (b.1<xs[i].Path.length)<;>simp only[aD,aC,Bool.true_or,Bool.false_or,Bool.or_false,Bool.or_true,Bool.true_and,Bool.false_and,Bool.and_false]
  all_goals first |exact ih bp b (by omega) (by omega) hbp |exact ih xs[i].Path (xs[i].Path.length,xs[i].Who) (by omega) (by omega) rfl
def zmE (xs:List Owner)(path:Str):Str:=bif zbF xs&&zaS path then zhn xs path else []
theorem zlZ {xs:List Owner}{path:Str}(hb:OB xs)(hp:path.length<=1048576):zf7 xs path=some (zmE xs path):=by
 unfold zf7 zmE
 simp only[jn,ziH hb,zcz hp,aA]
 cases ho:zbF xs
 ·rfl
 cases hq:zaS path
 ·rfl
 simp only[aK,aC,aD,Bool.true_and,zan]
 exact zqk hb hp ho hq (K:=fun _ _ y12=>some y12) (fun _ _ _=>rfl) xs.length 0 (xs.length+1) [] (0,[]) (by omega) (by omega) rfl
def zsq (s:Str):Bool:=s.all fun c=> !(c==124)
def zjF (t:List Str):Bool:=t.all zsq
theorem zo0 {t:List Str}(h:Bk.fit t):zgU t=some (zjF t&&zaw t):=by
 have hl:=zb6 h
 unfold zgU zjF
 simp only[jn,zan,zhD h,aA]
 rw[zbi (α:=Str) (xs:=t) (p:=zsq) (r0:=some false) (Z:=some (zaw t)) (f:=fun m i=>zbV t (fun _ _=>some (zaw t)) m false i) (fun m i x hx=>by
  have hx2:x.length<=maxi:=zgk h hx
  have b124: ∀ u:UInt8,(((UInt8.toNat u:Nat):Int)==(124:Int))=(u==124):=fun u=>by
   have hb:=zmS u 124
   rw[show(((UInt8.toNat (124:UInt8):Nat):Int))=124 from rfl]at hb
   exact hb
  simp only[zbV,zal hx,zad hx,aD,jn,Option.getD_some]
  rw[zbi (α:=UInt8) (xs:=x) (p:=fun c=> !(c==124)) (r0:=some false) (Z:=zbV t (fun _ _=>some (zaw t)) m false ((i+1:Nat):Int)) (f:=fun m' k=>zdx t (i:Int) (fun y10 y11=>zbV t (fun _ _=>some (zaw t)) m y10 (w64 ((i:Int)+1))) m' false k) (fun m' k c hc=>by
   simp only[zdx,zad hx,aA,zal hc,aD,zjV hc,b124,zab (zau hc) hx2]
   cases c==124<;>rfl) (fun m'=>by simp only[zdx,zad hx,aA,zac,aC,zab (zau hx) hl]) (by omega)]
  rfl) (fun m=>by simp only[zbV,zac,aC]) (by omega)]
 cases t.all zsq<;>rfl
def opB (o:Op):Bool:=
 zaI o.Branch&&(zaI o.Who&&
  (bif o.Kind==1 then zaS o.Path&&(zaw o.Text&&(zjF o.Text&&(o.To==[]&&o.At==0)))
   else bif o.Kind==2 then zaS o.Path&&(o.To==[]&&(o.At==0&&(o.Text.length:Int)==0))
   else bif o.Kind==3 then zaS o.Path&&(zaS o.To&&(o.At==0&&(o.Text.length:Int)==0))
   else bif o.Kind==4||o.Kind==5 then zaI o.To&&(o.Path==[]&&(o.At==0&&(o.Text.length:Int)==0))
   else bif o.Kind==6||o.Kind==7 then(decide (0<=o.At)&&decide (o.At<=15))&&(o.Path==[]&&(o.To==[]&&(o.Text.length:Int)==0))
   else false))
structure OpFit (o:Op):Prop where
 fit:Bk.fit o
 path:o.Path.length<=1048576
 to:o.To.length<=1048576
 text:Bk.bulk o.Text<=1048576
theorem OpFit.of {o:Op}(h:Bk.fit o)(hb:Bk.bulk o<=1048576):OpFit o:=by
 have e:Bk.bulk o=Bk.bulk o.Kind+(Bk.bulk o.Branch+(Bk.bulk o.Who+(Bk.bulk o.Path+(Bk.bulk o.To+(Bk.bulk o.At+Bk.bulk o.Text))))):=rfl
 have e1:Bk.bulk o.Path=o.Path.length:=rfl
 have e2:Bk.bulk o.To=o.To.length:=rfl
 exact⟨h,by omega,by omega,by omega⟩
theorem zt2 (o:Op)(p q r s:Bool):zeB o p q r s=some ((p||o.Path==[])&&((q||o.To==[])&&((r||o.At==0)&&(s||(o.Text.length:Int)==0)))):=by
 unfold zeB
 simp only[jn]
 cases p<;>cases q<;>cases r<;>cases s<;>cases(o.Path==([]:Str))<;>cases(o.To==([]:Str))<;>cases((o.At:Int)==(0:Int))<;>rfl
theorem zsr {o:Op}(h:OpFit o):zj6 o=some (opB o):=by
 obtain⟨f0,f1,f2,f3,f4,f5,f6⟩:=h.fit
 unfold zj6 opB
 simp only[jn,zbd f1,zbd f2,zbd f4,zd3 h.path,zd3 h.to,zo0 f6,zt2,aA,zgA]
 cases zaI o.Branch
 ·rfl
 cases zaI o.Who
 ·rfl
 simp only[aK,aC,Bool.true_and,Bool.true_or,Bool.false_or,Bool.and_true]
 cases(o.Kind==(1:Int))
 case true=>cases zaS o.Path<;>cases zaw o.Text<;>cases zjF o.Text<;>cases(o.To==([]:Str))<;>cases(o.At==(0:Int))<;>rfl
 cases(o.Kind==(2:Int))
 case true=>cases zaS o.Path<;>cases(o.To==([]:Str))<;>cases(o.At==(0:Int))<;>cases((o.Text.length:Int)==0)<;>rfl
 cases(o.Kind==(3:Int))
 case true=>cases zaS o.Path<;>cases zaS o.To<;>cases(o.At==(0:Int))<;>cases((o.Text.length:Int)==0)<;>rfl
 simp only[aC]
 cases(o.Kind==(4:Int))<;>cases(o.Kind==(5:Int))<;>cases(o.Kind==(6:Int))<;>cases(o.Kind==(7:Int))<;>cases zaI o.To<;>cases(o.Path==([]:Str))<;>cases(o.At==(0:Int))<;>cases(o.To==([]:Str))<;>cases((o.Text.length:Int)==0)<;>cases(decide (0<=o.At)&&decide (o.At<=15))<;>rfl
theorem zeS: ∀ {b c:Bool},(b=true↔c=true)->b=c:=by decide
theorem zl0 {i n:Nat}(hi:i<n)(hn:n<=maxi)(h0:(0:Int)< (i:Int)):w64 ((i:Int)-1)=((i-1:Nat):Int):=by
 rw[zah (by omega) (by unfold maxi at hn;omega)];omega
structure FB (f:File):Prop where
 path:f.Path.length<=1048576
 len:f.Text.length<=1048576
 text:Bk.fit f.Text
def TB (t:List File):Prop:=t.length<=1048576 /\ ∀ f∈t,FB f
theorem TB.at_ {t:List File}(h:TB t){i:Nat}{f:File}(hf:t[i]? =some f):FB f:=h.2 f (aH hf)
theorem TB.maxi {t:List File}(h:TB t):t.length<=maxi:=zap h.1
theorem TB.nil:TB []:=⟨by simp,fun f hf=>by simp at hf⟩
def zew:File:=⟨[],[]⟩
theorem zci {t:List File}{i:Nat}{f:File}(h:t[i]? =some f):t.getD i zew=f:=by simp[List.getD,h]
theorem zmF {t:List File}{i:Nat}{f:File}(h:t[i]? =some f)(hl:t.length<=maxi)(h0:(0:Int)< (i:Int)): ∃ y,gi t (w64 ((i:Int)-1))=some y/\t.getD (i-1) zew=y:=by
 have hi:=zau h
 have hx:t[i-1]? =some t[i-1]:=aB (by omega)
 exact⟨_,by rw[zl0 hi hl h0];exact zad hx,zci hx⟩
def ziJ (t:List File)(i:Nat):Bool:=zaS (t.getD i zew).Path&&(zaw (t.getD i zew).Text&&(bif decide (0< (i:Int)) then Op.bytesLess (t.getD (i-1) zew).Path (t.getD i zew).Path else true))
def ziK (t:List File)(i:Nat):Bool:=ziJ t i&&t.all fun f=> !zbh (t.getD i zew).Path f.Path
def zl1 (t:List File)(i:Nat):Bool:=ziJ t i&&(t.take i).all fun f=> !(zaS f.Path&&(zaS (t.getD i zew).Path&&zbh f.Path (t.getD i zew).Path))
def zaK (t:List File):Bool:=decide ((t.length:Int)<=8)&&zgF (ziK t) 0 t.length
theorem zqW (d:Str)(x:UInt8)(r:Str):d<d++x::r:=by
 induction d with
 |nil=>exact List.nil_lt_cons _ _
 |cons a d ih=>exact List.cons_lt_cons_self.2 ih
theorem zps {d p:Str}(h:zbh d p=true):d<p:=by
 unfold zbh at h
 obtain⟨t,rfl⟩:=List.isPrefixOf_iff_prefix.1 h
 rw[List.append_assoc]
 exact zqW d 47 t
theorem zlo {t:List File}{n:Nat}(h: ∀ i,i<n->ziJ t i=true){i j:Nat}(hij:i<j)(hj:j<n):(t.getD i zew).Path< (t.getD j zew).Path:=by
 induction j with
 |zero=>omega
 |succ j ih=>
  have h1:=h (j+1) hj
  unfold ziJ at h1
  rw[aF (by omega),aD,Nat.add_sub_cancel]at h1
  simp only[aG,za9,decide_eq_true_eq]at h1
  rcases Nat.lt_or_ge i j with h2 |h2
  ·exact zbp (ih h2 (by omega)) h1.2.2
  ·have:i=j:=by omega
   subst this
   exact h1.2.2
theorem zm6 (t:List File):zgF (zl1 t) 0 t.length=zgF (ziK t) 0 t.length:=by
 apply zeS
 rw[zaN,zaN]
 constructor
 ·intro h
  have hf: ∀ i,i<t.length->ziJ t i=true:=fun i hi=>by
   have:=h i (Nat.zero_le _) (by omega)
   unfold zl1 at this
   simp only[aG]at this
   exact this.1
  intro i _ hi
  have hi':i<t.length:=by omega
  unfold ziK
  rw[hf i hi',Bool.true_and,List.all_eq_true]
  intro f hm
  obtain⟨k,hk⟩:=List.mem_iff_getElem?.1 hm
  have hkl:=zau hk
  cases hb:zbh (t.getD i zew).Path f.Path with
  |false=>rfl
  |true=>
   exfalso
   have hlt:=zps hb
   rcases Nat.lt_trichotomy i k with h1 |h1 |h1
   ·have:=h k (Nat.zero_le _) (by omega)
    unfold zl1 at this
    simp only[aG,List.all_eq_true]at this
    have h2:=this.2 t[i] (aH (i:=i) (by rw[List.getElem?_take_of_lt h1];exact aB hi'))
    have p1:=hf i hi'
    have p2:=hf k hkl
    unfold ziJ at p1 p2
    simp only[aG]at p1 p2
    rw[zci hk]at h2 p2
    rw[zci (aB hi')]at hb p1
    rw[p1.1,p2.1,hb]at h2
    simp at h2
   ·subst h1
    rw[zci hk]at hlt
    exact zaq _ hlt
   ·have:=zlo hf h1 hi'
    rw[zci hk]at this
    exact zaq _ (zbp hlt this)
 ·intro h i _ hi
  have hi':i<t.length:=by omega
  have h1:=h i (Nat.zero_le _) hi
  unfold ziK at h1
  simp only[aG]at h1
  unfold zl1
  rw[h1.1,Bool.true_and,List.all_eq_true]
  intro f hm
  obtain⟨k,hk⟩:=List.mem_iff_getElem?.1 hm
  obtain⟨hk',hki⟩:=show t[k]? =some f/\k<i from by
   rw[List.getElem?_take]at hk
   split at hk
   ·exact⟨hk,by assumption⟩
   ·cases hk
  have h2:=h k (Nat.zero_le _) (by omega)
  unfold ziK at h2
  simp only[aG,List.all_eq_true]at h2
  have h3:=h2.2 t[i] (List.getElem_mem hi')
  rw[zci hk']at h3
  rw[zci (aB hi')]
  have h4:zbh f.Path t[i].Path=false:=by simpa using h3
  rw[h4]
  simp
theorem zik {t:List File}(h:TB t):zd7 t=some (zaK t):=by
 have hm:=h.maxi
 unfold zd7 zaK
 simp only[jn,zan]
 rw[zbk (n:=t.length) (g:=ziK t) (r0:=some false) (Z:=some (decide ((t.length:Int)<=8))) (f:=fun m i=>zd6 t (fun _ _=>some (decide ((t.length:Int)<=8))) m false i) (fun m i hi=>by
  have hx:t[i]? =some t[i]:=aB hi
  have fx:=h.at_ hx
  simp only[zd6,jn,zal hx,zad hx,aD,aA,zab hi hm,zd3 fx.path,zhD fx.text]
  unfold ziK ziJ
  rw[zci hx]
  have hin: ∀ K:Bool->Int->Option Bool,zdc t (i:Int) K (t.length+1) false 0=bif t.all (fun f=> !zbh t[i].Path f.Path) then K false (t.length:Int) else some false:=fun K=>by
   rw[zbi (α:=File) (xs:=t) (p:=fun f=> !zbh t[i].Path f.Path) (r0:=some false) (Z:=K false (t.length:Int)) (f:=fun m k=>zdc t (i:Int) K m false k) (fun m k f hf=>by
    simp only[zdc,zal hf,zad hf,zad hx,aD,aA,zab (zau hf) hm,zlG (h.at_ hf).path]
    cases zbh t[i].Path f.Path<;>rfl) (fun m=>by simp only[zdc,zac,aC]) (by omega)]
  cases zaS t[i].Path
  ·rfl
  cases zaw t[i].Text
  ·rfl
  simp only[aK,aC,Bool.true_and]
  by_cases h0:(0:Int)< (i:Int)
  ·obtain⟨y,hy,ey⟩:=zmF hx hm h0
   rw[hy,ey,aF h0]
   simp only[aA,zi3,aD]
   cases Op.bytesLess y.Path t[i].Path
   ·rfl
   ·simp only[aK,aC,Bool.true_and,zan,hin]
  ·rw[aE h0]
   simp only[aC,Bool.true_and,zan,hin]) (fun m=>by simp only[zd6,zac,aC]) _ (by omega)]
 cases decide ((t.length:Int)<=8)<;>cases zgF (ziK t) 0 t.length<;>rfl
theorem zm7 {d p:Str}(hd:d.length<=1048576)(hp:p.length<=1048576):zcp d p=some (zaS d&&(zaS p&&zbh d p)):=by
 cases h1:zaS d with
 |false=>unfold zcp;simp only[jn,zcz hd,h1,aA,aC,Bool.false_and]
 |true=>
  cases h2:zaS p with
  |false=>unfold zcp;simp only[jn,zcz hd,zcz hp,h1,h2,aA,aC,aD,Bool.false_and,Bool.and_false]
  |true=>rw[zln hd hp h1 h2];rfl
theorem zeo {t:List File}(h:TB t):zcG t=some (zaK t):=by
 have hm:=h.maxi
 unfold zcG zaK
 by_cases h8:(8:Int)< (t.length:Int)
 ·rw[aF h8,aE (by omega)];rfl
 rw[aE h8,aF (by omega),aC,Bool.true_and,<- zm6]
 simp only[jn,zan]
 rw[zbk (n:=t.length) (g:=zl1 t) (r0:=some false) (Z:=some true) (f:=fun m i=>zc4 t (fun _ _=>some true) m false i) (fun m i hi=>by
  have hx:t[i]? =some t[i]:=aB hi
  have fx:=h.at_ hx
  simp only[zc4,jn,zal hx,zad hx,aD,aA,zab hi hm,zcz fx.path,zhi fx.text,zir (Nat.le_of_lt hi),zan]
  unfold zl1 ziJ
  rw[zci hx]
  have hin: ∀ K:Bool->Int->Option Bool,zb0 t[i] (t.take i) K ((t.take i).length+1) false 0=bif(t.take i).all (fun f=> !(zaS f.Path&&(zaS t[i].Path&&zbh f.Path t[i].Path))) then K false ((t.take i).length:Int) else some false:=fun K=>by
   rw[zbi (α:=File) (xs:=t.take i) (p:=fun f=> !(zaS f.Path&&(zaS t[i].Path&&zbh f.Path t[i].Path))) (r0:=some false) (Z:=K false ((t.take i).length:Int)) (f:=fun m k=>zb0 t[i] (t.take i) K m false k) (fun m k f hf=>by
    have hf2:FB f:=h.2 f (List.mem_of_mem_take (aH hf))
    simp only[zb0,zal hf,zad hf,aD,aA,zab (zau hf) (show(t.take i).length<=maxi by simp;omega),zm7 hf2.path fx.path]
    cases(zaS f.Path&&(zaS t[i].Path&&zbh f.Path t[i].Path))<;>rfl) (fun m=>by simp only[zb0,zac,aC]) (by omega)]
  cases zaw t[i].Text
  ·cases zaS t[i].Path<;>rfl
  cases hp:zaS t[i].Path
  ·rfl
  simp only[aK,aC,Bool.true_and]
  by_cases h0:(0:Int)< (i:Int)
  ·obtain⟨y,hy,ey⟩:=zmF hx hm h0
   rw[hy,ey,aF h0]
   simp only[aA,aD]
   cases Op.bytesLess y.Path t[i].Path
   ·rfl
   ·simp only[aK,aC,Bool.true_and,zan,hin,hp]
  ·rw[aE h0]
   simp only[aC,Bool.true_and,zan,hin,hp]) (fun m=>by simp only[zc4,zac,aC]) _ (by omega)]
 cases zgF (zl1 t) 0 t.length<;>rfl
structure CB (c:Commit):Prop where
 par:c.Parents.length<=1048576
 who:c.Who.length<=1048576
 tree:TB c.Tree
structure RpB (r:Repo):Prop where
 coms:r.Commits.length<=1048576
 com: ∀ c∈r.Commits,CB c
 heads:r.Heads.length<=1048576
 head: ∀ h∈r.Heads,h.Name.length<=1048576
theorem RpB.cat {r:Repo}(h:RpB r){i:Nat}{c:Commit}(hc:r.Commits[i]? =some c):CB c:=h.com c (aH hc)
theorem RpB.hat {r:Repo}(h:RpB r){i:Nat}{c:Head}(hc:r.Heads[i]? =some c):c.Name.length<=1048576:=h.head c (aH hc)
def zgi:Head:=⟨[],0⟩
theorem zcE {t:List Head}{i:Nat}{f:Head}(h:t[i]? =some f):t.getD i zgi=f:=by simp[List.getD,h]
theorem zmG {t:List Head}{i:Nat}{f:Head}(h:t[i]? =some f)(hl:t.length<=maxi)(h0:(0:Int)< (i:Int)): ∃ y,gi t (w64 ((i:Int)-1))=some y/\t.getD (i-1) zgi=y:=by
 have hi:=zau h
 have hx:t[i-1]? =some t[i-1]:=aB (by omega)
 exact⟨_,by rw[zl0 hi hl h0];exact zad hx,zcE hx⟩
def upB (i p:Int):Bool:=decide (0<=p)&&decide (p<=i-1)
def zpt (ps:List Int):Bool:=match ps with
 | [p,q]=> !(p==q)
 |_=>true
def zns (i:Int)(c:Commit):Bool:=c.Parents.all (upB i)&&(decide ((c.Parents.length:Int)<=2)&&(zpt c.Parents&&(zaI c.Who&&zaK c.Tree)))
def noCommit:Commit:=⟨[],[],[]⟩
def zn8 (cs:List Commit):Bool:=zgF (fun i=>zns i (cs.getD i noCommit)) 0 cs.length
def zis (n:Nat)(hs:List Head)(i:Nat):Bool:=zaI (hs.getD i zgi).Name&&(upB n (hs.getD i zgi).At&&(bif decide (0< (i:Int)) then Op.bytesLess (hs.getD (i-1) zgi).Name (hs.getD i zgi).Name else true))
def zep (n:Nat)(hs:List Head):Bool:=zgF (zis n hs) 0 hs.length&&decide ((hs.length:Int)<=5)
def zae (r:Repo):Bool:=decide ((r.Commits.length:Int)<=16)&&(zn8 r.Commits&&zep r.Commits.length r.Heads)
theorem zeF {t:List Commit}{i:Nat}{f:Commit}(h:t[i]? =some f):t.getD i noCommit=f:=by simp[List.getD,h]
theorem zg9 {n:Nat}(hn:n<=maxi):w64 ((n:Int)-1)=(n:Int)-1:=zah (by omega) (by unfold maxi at hn;omega)
def zqX (i:Int)(ps:List Int)(k:Nat):Bool:=upB i (ps.getD k 0) && !(decide (0< (k:Int))&&(ps.getD k 0==ps.getD 0 0))
theorem zdh {t:List Int}{i:Nat}{f:Int}(h:t[i]? =some f):t.getD i 0=f:=by simp[List.getD,h]
theorem zn9 (i:Int)(ps:List Int)(h2:(ps.length:Int)<=2):zgF (zqX i ps) 0 ps.length=(ps.all (upB i)&&zpt ps):=by
 match ps,h2 with
 | [],_=>rfl
 | [p],_=>simp[zgF,zqX,zpt]
 | [p,q],_=>
  simp only[zgF,zqX,zpt,aL,List.length_nil,List.all_cons,List.all_nil]
  have e:(q==p)=(p==q):=by
   apply zeS;rw[beq_iff_eq,beq_iff_eq];exact eq_comm
  simp[e]
  cases upB i p<;>cases upB i q<;>simp
 |p::q::s::l,h=>simp at h;omega
theorem zvN {i:Nat}{c:Commit}(hi:i<=1048576)(hc:CB c)(K:Bool->Int->Option Bool):zdd (i:Int) c K (c.Parents.length+1) false 0=bif zgF (zqX i c.Parents) 0 c.Parents.length then K false (c.Parents.length:Int) else some false:=by
 have hm:=zap hc.par
 rw[zbk (n:=c.Parents.length) (g:=zqX i c.Parents) (r0:=some false) (Z:=K false (c.Parents.length:Int)) (f:=fun m k=>zdd (i:Int) c K m false k) (fun m k hk=>by
  have hx:c.Parents[k]? =some c.Parents[k]:=aB hk
  have h00:c.Parents[0]? =some c.Parents[0]:=aB (by omega)
  have hg0:gi c.Parents 0=some c.Parents[0]:=zad (i:=0) h00
  simp only[zdd,jn,zal hx,zad hx,hg0,aD,aA,zab hk hm,zgA,zg9 (show i<=maxi by unfold maxi;omega)]
  unfold zqX
  rw[zdh hx,zdh h00,show(decide ((0:Int)<=c.Parents[k])&&decide (c.Parents[k]<=(i:Int)-1))=upB i c.Parents[k] from rfl]
  cases upB (i:Int) c.Parents[k]
  ·rfl
  ·cases decide ((0:Int)< (k:Int))
   ·rfl
   ·cases(c.Parents[k]==c.Parents[0])<;>rfl) (fun m=>by simp only[zdd,zac,aC]) _ (by omega)]
theorem zvO {r:Repo}(h:RpB r):zde r (fun _ _=>jn (fun(y128:Bool)=>some y128) fun K130=>bif decide (((r.Commits.length:Int):Int)<=(16:Int)) then(K130 (decide (((r.Heads.length:Int):Int)<=(5:Int)))) else(K130 false)) (r.Heads.length+1) false 0=some (decide ((r.Commits.length:Int)<=16)&&zep r.Commits.length r.Heads):=by
 have hm:=zap h.heads
 rw[zbk (n:=r.Heads.length) (g:=zis r.Commits.length r.Heads) (r0:=some false) (Z:=some (decide ((r.Commits.length:Int)<=16)&&decide ((r.Heads.length:Int)<=5))) (f:=fun m k=>zde r _ m false k) (fun m k hk=>by
  have hx:r.Heads[k]? =some r.Heads[k]:=aB hk
  simp only[zde,jn,zal hx,zad hx,aD,aA,zab hk hm,zgA,zg9 (zap h.coms),zbd (zap (h.hat hx))]
  unfold zis
  rw[zcE hx,show(decide ((0:Int)<=r.Heads[k].At)&&decide (r.Heads[k].At<=(r.Commits.length:Int)-1))=upB r.Commits.length r.Heads[k].At from rfl]
  cases zaI r.Heads[k].Name
  ·rfl
  cases upB r.Commits.length r.Heads[k].At
  ·rfl
  by_cases h0:(0:Int)< (k:Int)
  ·obtain⟨y,hy,ey⟩:=zmG hx hm h0
   rw[hy,ey,aF h0]
   simp only[aA,zi3]
   cases Op.bytesLess y.Name r.Heads[k].Name<;>rfl
  ·rw[aE h0];rfl) (fun m=>by
   simp only[zde,zac,aC,jn]
   cases decide ((r.Commits.length:Int)<=16)<;>rfl) _ (by omega)]
 unfold zep
 cases zgF (zis r.Commits.length r.Heads) 0 r.Heads.length<;>cases decide ((r.Commits.length:Int)<=16)<;>rfl
theorem zeG {r:Repo}(h:RpB r):zcK r=some (zae r):=by
 have hm:=zap h.coms
 unfold zcK zae zn8
 simp only[jn,zan]
 have h3:=zvO h
 simp only[jn]at h3
 rw[zbk (n:=r.Commits.length) (g:=fun i=>zns i (r.Commits.getD i noCommit)) (r0:=some false) (Z:=some (decide ((r.Commits.length:Int)<=16)&&zep r.Commits.length r.Heads)) (f:=fun m i=>zd8 r _ m false i) (fun m i hi=>by
  have hx:r.Commits[i]? =some r.Commits[i]:=aB hi
  have hc:=h.cat hx
  have hco:=h.coms
  simp only[zd8,jn,zal hx,zad hx,aD,aA,zab hi hm,zan,zvN (show i<=1048576 by omega) hc,zeF hx]
  unfold zns
  by_cases h2:(2:Int)< (r.Commits[i].Parents.length:Int)
  ·rw[aF h2,aE (show ¬ (r.Commits[i].Parents.length:Int)<=2 by omega)]
   simp only[aD,Bool.false_and,Bool.and_false,aC]
   cases zgF (zqX i r.Commits[i].Parents) 0 r.Commits[i].Parents.length<;>rfl
  ·rw[aE h2,aF (show(r.Commits[i].Parents.length:Int)<=2 by omega),zn9 _ _ (by omega)]
   simp only[aC,Bool.true_and,zbd (zap hc.who),zik hc.tree,aA]
   cases r.Commits[i].Parents.all (upB i)<;>cases zpt r.Commits[i].Parents<;>cases zaI r.Commits[i].Who<;>cases zaK r.Commits[i].Tree<;>rfl) (fun m=>by
   simp only[zd8,zac,aC,jn,zan,h3]) _ (by omega)]
 cases zgF (fun i=>zns i (r.Commits.getD i noCommit)) 0 r.Commits.length<;>cases decide ((r.Commits.length:Int)<=16)<;>rfl
theorem zm8 {r:Repo}(h:RpB r){hs:List Head}(hl:hs.length<=1048576)(hn: ∀ h∈hs,h.Name.length<=1048576):zf4 r hs=some (zep r.Commits.length hs):=by
 have hm:=zap hl
 unfold zf4 zep
 by_cases h5:(5:Int)< (hs.length:Int)
 ·rw[aF h5,aE (show ¬ (hs.length:Int)<=5 by omega),Bool.and_false];rfl
 rw[aE h5,aF (show(hs.length:Int)<=5 by omega),aC,Bool.and_true]
 simp only[jn,zan]
 rw[zbk (n:=hs.length) (g:=zis r.Commits.length hs) (r0:=some false) (Z:=some true) (f:=fun m k=>zcq r hs (fun _ _=>some true) m false k) (fun m k hk=>by
  have hx:hs[k]? =some hs[k]:=aB hk
  simp only[zcq,zch,jn,zal hx,zad hx,aD,aA,zab hk hm,zhm,zg9 (zap h.coms),zcc (zap (hn _ (aH hx)))]
  unfold zis
  rw[zcE hx,show(decide ((0:Int)<=hs[k].At)&&decide (hs[k].At<=(r.Commits.length:Int)-1))=upB r.Commits.length hs[k].At from rfl]
  cases zaI hs[k].Name
  ·rfl
  cases upB r.Commits.length hs[k].At
  ·rfl
  by_cases h0:(0:Int)< (k:Int)
  ·obtain⟨y,hy,ey⟩:=zmG hx hm h0
   rw[hy,ey,aF h0]
   simp only[aA]
   cases Op.bytesLess y.Name hs[k].Name<;>rfl
  ·rw[aE h0];rfl) (fun m=>by simp only[zcq,zac,aC]) _ (by omega)]
 cases zgF (zis r.Commits.length hs) 0 hs.length<;>rfl
theorem zki {r:Repo}(h:RpB r):zfC r=some (zae r):=by
 have hm:=zap h.coms
 unfold zfC zae zn8
 by_cases h16:(16:Int)< (r.Commits.length:Int)
 ·rw[aF h16,aE (by omega)];rfl
 rw[aE h16,aF (by omega),aC,Bool.true_and]
 simp only[jn,zan]
 rw[zbk (n:=r.Commits.length) (g:=fun i=>zns i (r.Commits.getD i noCommit)) (r0:=some false) (Z:=some (zep r.Commits.length r.Heads)) (f:=fun m i=>zc5 r _ m false i) (fun m i hi=>by
  have hx:r.Commits[i]? =some r.Commits[i]:=aB hi
  have hc:=h.cat hx
  have hco:=h.coms
  have hpm:=zap hc.par
  have hin: ∀ K:Bool->Int->Option Bool,zb1 (i:Int) r.Commits[i] K (r.Commits[i].Parents.length+1) false 0=bif r.Commits[i].Parents.all (upB i) then K false (r.Commits[i].Parents.length:Int) else some false:=fun K=>by
   rw[zbi (α:=Int) (xs:=r.Commits[i].Parents) (p:=upB i) (r0:=some false) (Z:=K false (r.Commits[i].Parents.length:Int)) (f:=fun m k=>zb1 (i:Int) r.Commits[i] K m false k) (fun m k p hp=>by
    simp only[zb1,zal hp,zad hp,aD,aA,zab (zau hp) hpm,zhm,zg9 (show i<=maxi by unfold maxi;omega)]
    rw[show(decide ((0:Int)<=p)&&decide (p<=(i:Int)-1))=upB i p from rfl]
    cases upB i p<;>rfl) (fun m=>by simp only[zb1,zac,aC]) (by omega)]
  simp only[zc5,jn,zal hx,zad hx,aD,aA,zab hi hm,zan,hin,zeF hx,zcc (zap hc.who),zeo hc.tree]
  unfold zns
  match hps:r.Commits[i].Parents with
  | []=>cases zaI r.Commits[i].Who<;>cases zaK r.Commits[i].Tree<;>rfl
  | [p]=>
   simp only[aL,List.length_nil,List.all_cons,List.all_nil,zpt]
   cases upB i p<;>cases zaI r.Commits[i].Who<;>cases zaK r.Commits[i].Tree<;>rfl
  | [p,q]=>
   simp only[aL,List.length_nil,List.all_cons,List.all_nil,zpt,gi,List.getElem?_cons_zero,List.getElem?_cons_succ,Int.toNat_zero,Int.toNat_one]
   cases upB i p<;>cases upB i q<;>cases hpq:p==q<;>cases zaI r.Commits[i].Who<;>cases zaK r.Commits[i].Tree<;>simp[hpq]<;>rfl
  |p::q::s::l=>
   rw[aF (by simp only[aL];omega),aE (show ¬ (((p::q::s::l).length:Nat):Int)<=2 by simp only[aL];omega)]
   simp only[aD,Bool.false_and,Bool.and_false,aC]) (fun m=>by
   simp only[zc5,zac,aC,jn,zm8 h h.heads h.head,aA]) _ (by omega)]
 cases zgF (fun i=>zns i (r.Commits.getD i noCommit)) 0 r.Commits.length<;>rfl
def atB (r:Repo)(name:Str):Int:=match r.Heads.find? (fun h=>h.Name==name)with
 |some h=>h.At
 |none=> -1
theorem zeq {r:Repo}(h:RpB r)(name:Str):zcB r name=some (atB r name):=by
 have hm:=zap h.heads
 unfold zcB atB
 simp only[jn,zan]
 rw[zdP (p:=fun h:Head=>h.Name==name) (xs:=r.Heads) (r:=fun h=>some h.At) (Z:=some (-1)) (f:=fun m k=>zd9 r name _ m 0 k) (fun m i x hx=>by
  simp only[zd9,zal hx,zad hx,aD,aA,zab (zau hx) hm]) (fun m=>by simp only[zd9,zac,aC]) (by omega)]
 cases r.Heads.find? (fun h=>h.Name==name)<;>rfl
theorem zpu {r:Repo}(h:RpB r)(name:Str):zdr r name=some (atB r name):=by
 have hm:=zap h.heads
 unfold zdr atB
 simp only[jn,zan]
 rw[zdP (p:=fun h:Head=>h.Name==name) (xs:=r.Heads) (r:=fun h=>some h.At) (Z:=some (-1)) (f:=fun m k=>zcs r name _ m 0 k) (fun m i x hx=>by
  simp only[zcs,zal hx,zad hx,aD,aA,zab (zau hx) hm]) (fun m=>by simp only[zcs,zac,aC]) (by omega)]
 cases r.Heads.find? (fun h=>h.Name==name)<;>rfl
theorem zaB {n:Nat}{a:Int}:upB n a=true↔0<=a/\a<=(n:Int)-1:=by
 unfold upB
 simp only[aG,decide_eq_true_eq]
theorem zfN {t:List File}(h:TB t):zdi t=some t:=by
 have hm:=h.maxi
 have hl:=h.1
 unfold zdi
 simp only[jn,zan]
 rw[zdY (xs:=t) (p:=fun _=>true) (g:=fun f:File=>f) (Z:=fun acc=>some acc) (f:=fun m acc i=>zcV t _ m acc i) (fun m i x acc hx ha=>by
  have hi:=zau hx
  simp only[zcV,zal hx,zad hx,aD,aA,zab hi hm,apN (h.at_ hx).len,ap1 (show acc.length<=1048576 by omega)]) (fun m acc=>by simp only[zcV,zac,aC]) (by omega)]
 simp
theorem ziL {c:Commit}(h:CB c):zcW c=some c:=by
 unfold zcW
 rw[apN h.par,aA,zfN h.tree,aA]
theorem zfO {r:Repo}(h:RpB r):zbn r=some r:=by
 have hm:=zap h.coms
 have hl:=h.coms
 unfold zbn
 simp only[jn,zan,apN h.heads,aA]
 rw[zdY (xs:=r.Commits) (p:=fun _=>true) (g:=fun f:Commit=>f) (Z:=fun acc=>some (Repo.mk acc r.Heads)) (f:=fun m acc i=>zcX r _ m i acc r.Heads) (fun m i x acc hx ha=>by
  have hi:=zau hx
  simp only[zcX,zal hx,zad hx,aD,aA,zab hi hm,ziL (h.cat hx),ap1 (show acc.length<=1048576 by omega)]) (fun m acc=>by simp only[zcX,zac,aC]) (by omega)]
 rw[show((r.Commits.filter fun _=>true).map fun f:Commit=>f)=r.Commits by simp]
def zfr (n:Str)(a:Int):Bool->List Head->List Head
 |put,[]=>bif put then [] else [⟨n,a⟩]
 |put,h::hs=>(bif !put && !Op.bytesLess h.Name n then [⟨n,a⟩] else [])++((bif h.Name !=n then [h] else [])++zfr n a (put || !Op.bytesLess h.Name n) hs)
theorem zim (n:Str)(a:Int): ∀ (hs:List Head) (put:Bool),(zfr n a put hs).length+(bif put then 1 else 0)<=hs.length+1
 | [],put=>by cases put<;>simp[zfr]
 |h::hs,put=>by
  have ih:=zim n a hs (put || !Op.bytesLess h.Name n)
  unfold zfr
  cases put<;>cases hb:Op.bytesLess h.Name n<;>cases hn:(h.Name !=n)<;>simp[hb]at ih ⊢ <;>omega
theorem putH_mem (n:Str)(a:Int): ∀ (hs:List Head) (put:Bool) (x:Head),x∈zfr n a put hs->x∈hs\/x=⟨n,a⟩
 | [],put,x,h=>by cases put<;>simp[zfr]at h;exact .inr h
 |h::hs,put,x,hx=>by
  unfold zfr at hx
  rcases List.mem_append.1 hx with h1 |h1
  ·cases hc:(!put && !Op.bytesLess h.Name n)with
   |true=>rw[hc]at h1;simp at h1;exact .inr h1
   |false=>rw[hc]at h1;simp at h1
  ·rcases List.mem_append.1 h1 with h2 |h2
   ·cases hc:(h.Name !=n)with
    |true=>rw[hc]at h2;simp at h2;exact .inl (by rw[h2];simp)
    |false=>rw[hc]at h2;simp at h2
   ·rcases putH_mem n a hs _ x h2 with h3 |h3
    ·exact .inl (List.mem_cons_of_mem _ h3)
    ·exact .inr h3
theorem zlp {r:Repo}(h:RpB r)(hs:r.Heads.length<=100000)(n:Str)(a:Int)(cs:List Commit): ∀ (k i m:Nat) (put:Bool) (out:List Head),i+k=r.Heads.length->k<m->out.length<=2*i->
 zcY r n a (fun y14 _ y16 y19=>bif(!y14) then((apM y19 [Vm.Head.mk n a]).bind fun q160=>some (Vm.Repo.mk y16 q160)) else some (Vm.Repo.mk y16 y19)) m put (i:Int) cs out=some ⟨cs,out++zfr n a put (r.Heads.drop i)⟩
 |k,i,0,put,out,_,hm,_=>by omega
 |0,i,m+1,put,out,hi,_,ho=>by
  obtain rfl:i=r.Heads.length:=by omega
  simp only[zcY,zac,aC,List.drop_length]
  cases put
  ·simp only[Bool.not_false,aD,ap1 (show out.length<=1048576 by omega),aA,zfr,aC]
  ·simp[zfr]
 |k+1,i,m+1,put,out,hi,hm,ho=>by
  have hlt:i<r.Heads.length:=by omega
  have hx:r.Heads[i]? =some r.Heads[i]:=aB hlt
  have hd:r.Heads.drop i=r.Heads[i]::r.Heads.drop (i+1):=aI hlt
  have hw:=zab hlt (zap h.heads)
  have ih:=fun put out ho=>zlp h hs n a cs k (i+1) m put out (by omega) (by omega) ho
  simp only[zcY,jn,zal hx,zad hx,aD,aA,hw]
  rw[hd]
  unfold zfr
  have e1:=ap1 (x:=Vm.Head.mk n a) (show out.length<=1048576 by omega)
  have e2:=ap1 (x:=r.Heads[i]) (show out.length<=1048576 by omega)
  have e3:apM (out++[Vm.Head.mk n a]) [r.Heads[i]]=some (out++([Vm.Head.mk n a]++[r.Heads[i]])):=by rw[ap1 (show(out++[Vm.Head.mk n a]).length<=1048576 by simp;omega),List.append_assoc]
  have l1:(out++[r.Heads[i]]).length<=2*(i+1):=by simp;omega
  have l2:(out++[Vm.Head.mk n a]).length<=2*(i+1):=by simp;omega
  have l3:(out++([Vm.Head.mk n a]++[r.Heads[i]])).length<=2*(i+1):=by simp;omega
  have l0:out.length<=2*(i+1):=by omega
  cases put<;>cases Op.bytesLess r.Heads[i].Name n<;>cases(r.Heads[i].Name !=n)<;>
   simp only[aK,Bool.not_false,aD,aC,e1,e2,e3,aA,Bool.and_true,Bool.and_false,Bool.or_true,Bool.or_false,Bool.true_and,Bool.false_and,Bool.true_or,Bool.false_or,ih _ _ l0,ih _ _ l1,ih _ _ l2,ih _ _ l3,List.append_assoc,List.nil_append]
def headR (r:Repo)(n:Str)(a:Int):Repo:=⟨r.Commits,zfr n a false r.Heads⟩
theorem zjl {r:Repo}(h:RpB r)(hs:r.Heads.length<=100000)(n:Str)(a:Int):zfz r n a=some (headR r n a):=by
 unfold zfz headR
 simp only[jn,zan]
 have:=zlp h hs n a r.Commits r.Heads.length 0 (r.Heads.length+1) false [] (by omega) (by omega) (by simp)
 simpa using this
theorem RpB.headR {r:Repo}(h:RpB r)(hs:r.Heads.length<=100000){n:Str}(hn:n.length<=1048576)(a:Int):RpB (headR r n a):=
 ⟨h.coms,h.com,by have:=zim n a r.Heads false;simp at this;show(zfr n a false r.Heads).length<=_;omega,fun x hx=>by
  rcases putH_mem n a r.Heads false x hx with h1 |h1
  ·exact h.head x h1
  ·rw[h1];exact hn⟩
def addR (r:Repo)(n:Str)(c:Commit):Repo:=⟨r.Commits++[c],zfr n r.Commits.length false r.Heads⟩
theorem RpB.push {r:Repo}(h:RpB r){c:Commit}(hc:CB c)(hl:r.Commits.length<=100000):RpB ⟨r.Commits++[c],r.Heads⟩:=
 ⟨by simp;omega,fun x hx=>by
  rcases List.mem_append.1 hx with h1 |h1
  ·exact h.com x h1
  ·rw[List.mem_singleton]at h1;rw[h1];exact hc,h.heads,h.head⟩
theorem RpB.addR {r:Repo}(h:RpB r)(hl:r.Commits.length<=100000)(hs:r.Heads.length<=100000){n:Str}(hn:n.length<=1048576){c:Commit}(hc:CB c):RpB (addR r n c):=
 (h.push hc hl).headR hs hn _
theorem znu {r:Repo}(h:RpB r)(hl:r.Commits.length<=100000)(hs:r.Heads.length<=100000)(n:Str){c:Commit}(hc:CB c):zef r n c=some (addR r n c):=by
 unfold zef
 rw[apN h.coms,aA,ap1 h.coms,aA,zjl (h.push hc hl) hs,aA]
 rfl
theorem zai {r:Repo}(h:zae r=true):r.Commits.length<=16/\r.Heads.length<=5:=by
 unfold zae zep at h
 simp only[aG,decide_eq_true_eq]at h
 omega
def ziS (r:Repo)(n who:Str)(t:List File):Commit:=⟨bif decide (0<=atB r n) then [atB r n] else [],who,t⟩
def zce:Repo:=⟨[],[]⟩
def zgY (r:Repo)(n who:Str)(t:List File):Repo×Bool:=bif zae r then(bif zae (addR r n (ziS r n who t)) then(addR r n (ziS r n who t),true) else(r,false)) else(zce,false)
theorem CB.next {r:Repo}{n who:Str}{t:List File}(hw:who.length<=1048576)(ht:TB t):CB (ziS r n who t):=
 ⟨by unfold ziS;cases decide (0<=atB r n)<;>simp,hw,ht⟩
theorem zmT {r:Repo}(h:RpB r){n who:Str}{t:List File}(hn:n.length<=1048576)(hw:who.length<=1048576)(ht:TB t):zfk r n who t=some (zgY r n who t):=by
 unfold zfk zgY
 rw[zeG h,aA]
 cases hr:zae r with
 |false=>rfl
 |true=>
  obtain⟨s1,s2⟩:=zai hr
  have hc:CB (ziS r n who t):=CB.next hw ht
  have ha:=znu h (by omega) (by omega) n hc
  have hb:=h.addR (by omega) (by omega) hn hc
  have hfin:(zbn r).bind (fun z57=>(zef ⟨z57.Commits,z57.Heads⟩ n (ziS r n who t)).bind fun z66=>(zcK z66).bind fun z204=>bif(!z204) then((zbn r).bind fun z219=>some (Vm.Repo.mk z219.Commits z219.Heads,false)) else(some (z66,true)))=some (bif zae (addR r n (ziS r n who t)) then(addR r n (ziS r n who t),true) else(r,false)):=by
   rw[zfO h,aA,show(⟨r.Commits,r.Heads⟩:Repo)=r from rfl,ha,aA,zeG hb,aA]
   cases zae (addR r n (ziS r n who t))<;>rfl
  rw[aK,aC,aD,zfN ht,aA]
  simp only[jn,zeq h,aA]
  unfold ziS at hfin ⊢
  cases hd:decide (0<=atB r n)<;>rw[hd]at hfin<;>exact hfin
def ziT (r:Repo)(n:Str)(a:Int):Repo×Bool:=bif zae r then(bif decide (0<=atB r n) || !zae (headR r n a) then(r,false) else(headR r n a,true)) else(zce,false)
theorem zmU {r:Repo}(h:RpB r){n:Str}(hn:n.length<=1048576)(a:Int):zdT r n a=some (ziT r n a):=by
 unfold zdT ziT
 rw[zeG h,aA]
 cases hr:zae r with
 |false=>rfl
 |true=>
  obtain⟨s1,s2⟩:=zai hr
  rw[aK,aC,aD,zfO h,aA,show(⟨r.Commits,r.Heads⟩:Repo)=r from rfl,zjl h (by omega),aA]
  simp only[jn,zeq h,aA,zeG (h.headR (by omega) hn a)]
  cases decide (0<=atB r n)<;>cases zae (headR r n a)<;>rfl
def putF (g:File):Bool->List File->List File
 |put,[]=>bif put then [] else [g]
 |put,f::fs=>(bif !put && !Op.bytesLess f.Path g.Path then [g] else [])++((bif f.Path !=g.Path then [f] else [])++putF g (put || !Op.bytesLess f.Path g.Path) fs)
theorem zmL (g:File): ∀ (hs:List File) (put:Bool),(putF g put hs).length+(bif put then 1 else 0)<=hs.length+1
 | [],put=>by cases put<;>simp[putF]
 |h::hs,put=>by
  have ih:=zmL g hs (put || !Op.bytesLess h.Path g.Path)
  unfold putF
  cases put<;>cases hb:Op.bytesLess h.Path g.Path<;>cases hn:(h.Path !=g.Path)<;>simp[hb]at ih ⊢ <;>omega
theorem putF_mem (g:File): ∀ (hs:List File) (put:Bool) (x:File),x∈putF g put hs->x∈hs\/x=g
 | [],put,x,h=>by cases put<;>simp[putF]at h;exact .inr h
 |h::hs,put,x,hx=>by
  unfold putF at hx
  rcases List.mem_append.1 hx with h1 |h1
  ·cases hc:(!put && !Op.bytesLess h.Path g.Path)with
   |true=>rw[hc]at h1;simp at h1;exact .inr h1
   |false=>rw[hc]at h1;simp at h1
  ·rcases List.mem_append.1 h1 with h2 |h2
   ·cases hc:(h.Path !=g.Path)with
    |true=>rw[hc]at h2;simp at h2;exact .inl (by rw[h2];simp)
    |false=>rw[hc]at h2;simp at h2
   ·rcases putF_mem g hs _ x h2 with h3 |h3
    ·exact .inl (List.mem_cons_of_mem _ h3)
    ·exact .inr h3
theorem TB.putF {t:List File}(h:TB t)(hs:t.length<=100000){g:File}(hg:FB g):TB (putF g false t):=
 ⟨by have:=zmL g t false;simp at this;omega,fun x hx=>by
  rcases putF_mem g t false x hx with h1 |h1
  ·exact h.2 x h1
  ·rw[h1];exact hg⟩
theorem zpD {t:List File}(h:TB t)(hs:t.length<=100000){g:File}(hg:FB g){K:List File->Bool->Int->Option (List File)}(hK: ∀ out put j,out.length<=2*t.length->K out put j=some (bif put then out else out++[g])): ∀ (k i m:Nat) (put:Bool) (out:List File),i+k=t.length->k<m->out.length<=2*i->
 ze3 t g K m out put (i:Int)=some (out++putF g put (t.drop i))
 |k,i,0,put,out,_,hm,_=>by omega
 |0,i,m+1,put,out,hi,_,ho=>by
  obtain rfl:i=t.length:=by omega
  simp only[ze3,zac,aC,List.drop_length,hK out put _ ho]
  cases put<;>simp[putF]
 |k+1,i,m+1,put,out,hi,hm,ho=>by
  have hlt:i<t.length:=by omega
  have hx:t[i]? =some t[i]:=aB hlt
  have hd:t.drop i=t[i]::t.drop (i+1):=aI hlt
  have hw:=zab hlt h.maxi
  have ih:=fun put out ho=>zpD h hs hg hK k (i+1) m put out (by omega) (by omega) ho
  simp only[ze3,jn,zal hx,zad hx,aD,aA,hw,apN hg.len]
  rw[hd]
  unfold putF
  have e1:=ap1 (x:=g) (show out.length<=1048576 by omega)
  have e2:=ap1 (x:=t[i]) (show out.length<=1048576 by omega)
  have e3:apM (out++[g]) [t[i]]=some (out++([g]++[t[i]])):=by rw[ap1 (show(out++[g]).length<=1048576 by simp;omega),List.append_assoc]
  have l1:(out++[t[i]]).length<=2*(i+1):=by simp;omega
  have l2:(out++[g]).length<=2*(i+1):=by simp;omega
  have l3:(out++([g]++[t[i]])).length<=2*(i+1):=by simp;omega
  have l0:out.length<=2*(i+1):=by omega
  have eg:Vm.File.mk g.Path g.Text=g:=rfl
  cases put<;>cases Op.bytesLess t[i].Path g.Path<;>cases(t[i].Path !=g.Path)<;>
   simp only[aK,Bool.not_false,aD,aC,eg,e1,e2,e3,aA,Bool.and_true,Bool.and_false,Bool.or_true,Bool.or_false,Bool.true_and,Bool.false_and,Bool.true_or,Bool.false_or,ih _ _ l0,ih _ _ l1,ih _ _ l2,ih _ _ l3,List.append_assoc,List.nil_append]
theorem zpE {t:List File}(h:TB t)(hs:t.length<=100000){g:File}(hg:FB g):zhw t g=some (putF g false t):=by
 unfold zhw
 simp only[jn,zan]
 have:=zpD h hs hg (K:=fun y6 y9 _=>bif(!y9) then((apM ([]:List Str) g.Text).bind fun q126=>(apM y6 [Vm.File.mk g.Path q126]).bind fun q144=>some q144) else some y6) (fun out put j ho=>by
  cases put
  ·simp only[Bool.not_false,aD,aC,apN hg.len,ap1 (show out.length<=1048576 by omega),aA]
  ·rfl) t.length 0 (t.length+1) false [] (by omega) (by omega) (by simp)
 simpa using this
theorem zaz {t:List File}(h:zaK t=true):t.length<=8:=by
 unfold zaK at h
 simp only[aG,decide_eq_true_eq]at h
 omega
def ztV (t:List File)(g:File):List File×Bool:=bif zaK t then(bif zaK (putF g false t) then(putF g false t,true) else(t,false)) else([],false)
theorem zo1 {t:List File}(h:TB t){g:File}(hg:FB g):zgd t g=some (ztV t g):=by
 unfold zgd ztV
 rw[zik h,aA]
 cases ht:zaK t with
 |false=>rfl
 |true=>
  have hs:=zaz ht
  rw[aK,aC,aD,zfN h,aA,zpE h (by omega) hg,aA,zik (h.putF (by omega) hg),aA]
  cases zaK (putF g false t)<;>rfl
def zsY (p:Str)(f:File):Bool:=f.Path !=p && !zbh p f.Path
def dropF (p:Str)(t:List File):List File:=t.filter (zsY p)
theorem zoq {t:List File}(h:TB t)(p:Str):zhO t p=some (dropF p t):=by
 have hm:=h.maxi
 have hl:=h.1
 unfold zhO dropF
 simp only[jn,zan]
 rw[zdY (xs:=t) (p:=zsY p) (g:=fun f:File=>f) (Z:=fun acc=>some acc) (f:=fun m acc i=>zem t p _ m acc i) (fun m i x acc hx ha=>by
  have hi:=zau hx
  simp only[zem,jn,zal hx,zad hx,aD,aA,zab hi hm,ap1 (show acc.length<=1048576 by omega),zlG (h.at_ hx).path]
  unfold zsY
  cases(x.Path !=p)<;>cases zbh p x.Path<;>rfl) (fun m acc=>by simp only[zem,zac,aC]) (by omega)]
 simp
theorem TB.dropF {t:List File}(h:TB t)(p:Str):TB (dropF p t):=⟨Nat.le_trans (List.length_filter_le _ _) h.1,fun f hf=>h.2 f ((List.mem_filter.1 hf).1)⟩
def zve (t:List File)(p:Str):List File×Bool:=bif zaK t then(dropF p t,decide (((dropF p t).length:Int)< (t.length:Int))) else([],false)
theorem zor {t:List File}(h:TB t)(p:Str):ze4 t p=some (zve t p):=by
 unfold ze4 zve
 rw[zik h,aA]
 cases zaK t with
 |false=>rfl
 |true=>rw[aK,aC,aD,zfN h,aA,zoq h,aA]
theorem zhe {r:Repo}(h:zae r=true){i:Nat}(hi:i<r.Commits.length):zns i (r.Commits.getD i noCommit)=true:=by
 unfold zae zn8 at h
 simp only[aG]at h
 exact zaN.1 h.2.1 i (Nat.zero_le _) (by omega)
def zag (r:Repo)(i:Nat):List Int:=(r.Commits.getD i noCommit).Parents
theorem za2 {r:Repo}(h:zae r=true){i:Nat}(hi:i<r.Commits.length):(zag r i).length<=2 /\ ∀ p∈zag r i,0<=p/\p<=(i:Int)-1:=by
 have:=zhe h hi
 unfold zns at this
 simp only[aG,decide_eq_true_eq,List.all_eq_true]at this
 obtain⟨h1,h2,_⟩:=this
 refine⟨by unfold zag;omega,fun p hp=>?_⟩
 have:=h1 p hp
 unfold upB at this
 simp only[aG,decide_eq_true_eq]at this
 exact this
theorem zlL {r:Repo}{i:Nat}(hi:i<r.Commits.length):gi r.Commits (i:Int)=some (r.Commits.getD i noCommit):=by
 rw[zeF (aB hi)]
 exact zad (aB hi)
theorem zhG {r:Repo}(h:zae r=true){x:Head}(hx:x∈r.Heads):0<=x.At/\x.At<=(r.Commits.length:Int)-1/\zaI x.Name=true:=by
 obtain⟨i,hi⟩:=List.mem_iff_getElem?.1 hx
 unfold zae zep at h
 simp only[aG]at h
 have:=zaN.1 h.2.2.1 i (Nat.zero_le _) (by have:=zau hi;omega)
 unfold zis upB at this
 rw[zcE hi]at this
 simp only[aG,decide_eq_true_eq]at this
 exact⟨this.2.1.1,this.2.1.2,this.1⟩
theorem at_range {r:Repo}(h:zae r=true)(n:Str):atB r n = -1\/(0<=atB r n/\atB r n<=(r.Commits.length:Int)-1):=by
 unfold atB
 cases hf:r.Heads.find? (fun h=>h.Name==n)with
 |none=>exact .inl rfl
 |some x=>
  have:=zhG h (List.mem_of_find?_eq_some hf)
  exact .inr ⟨this.1,this.2.1⟩
def zmH (mk:List Bool)(p:Int):List Bool:=mk.set p.toNat true
theorem zin (mk:List Bool)(p:Int):(zmH mk p).length=mk.length:=by simp[zmH]
theorem zlq: ∀ (ps:List Int) (mk:List Bool),(ps.foldl zmH mk).length=mk.length
 | [],mk=>rfl
 |p::ps,mk=>by rw[List.foldl_cons,zlq ps,zin]
def zlr (r:Repo)(i:Nat)(mk:List Bool):List Bool:=bif mk.getD i false then(zag r i).foldl zmH mk else mk
theorem zgM (r:Repo)(i:Nat)(mk:List Bool):(zlr r i mk).length=mk.length:=by
 unfold zlr
 cases mk.getD i false
 ·rfl
 ·exact zlq _ _
def zfb (r:Repo):Nat->List Bool->List Bool
 |0,mk=>mk
 |i+1,mk=>zfb r i (zlr r i mk)
theorem zjO (r:Repo): ∀ (i:Nat) (mk:List Bool),(zfb r i mk).length=mk.length
 |0,mk=>rfl
 |i+1,mk=>by unfold zfb;rw[zjO r i,zgM]
def zar (r:Repo)(a:Nat):List Bool:=zfb r (a+1) ((List.replicate r.Commits.length false).set a true)
theorem zbu (r:Repo)(a:Nat):(zar r a).length=r.Commits.length:=by unfold zar;rw[zjO];simp
def zkw (mk:List Bool):List Int:=((List.range mk.length).filter fun i=>mk.getD i false).map Int.ofNat
def zaX (r:Repo)(a:Int):List Int:=zkw (zar r a.toNat)
theorem zcx {mk:List Bool}{i:Nat}(h:i<mk.length):gi mk (i:Int)=some (mk.getD i false):=by
 have hx:mk[i]? =some mk[i]:=aB h
 rw[zad hx]
 simp[List.getD,hx]
theorem zoa {mk:List Bool}{p:Int}{i:Nat}(h:mk.getD i false=true):(zmH mk p).getD i false=true:=by
 unfold zmH
 by_cases e:p.toNat=i
 ·subst e
  have hl:p.toNat<mk.length:=by
   rcases Nat.lt_or_ge p.toNat mk.length with h1 |h1
   ·exact h1
   ·rw[List.getD,List.getElem?_eq_none (by omega)]at h;simp at h
  simp[List.getD,hl]
 ·simp only[List.getD,List.getElem?_set_ne e]at h ⊢
  exact h
theorem zql {r:Repo}(h:zae r=true){i:Nat}(hi:i<r.Commits.length){F:List Bool->Option (List Int)}: ∀ (j k m:Nat) (mk:List Bool),k+j=(zag r i).length->j<m->mk.length=r.Commits.length->
 zdC r (i:Int) (fun _ y27=>F y27) m (k:Int) mk=F (bif mk.getD i false then((zag r i).drop k).foldl zmH mk else mk)
 |j,k,0,mk,_,hm,_=>by omega
 |0,k,m+1,mk,hk,_,hl=>by
  obtain rfl:k=(zag r i).length:=by omega
  have e:(r.Commits.getD i noCommit).Parents=zag r i:=rfl
  simp only[zdC,jn,zlL hi,aA,e,zac,aC,List.drop_length,List.foldl_nil]
  cases mk.getD i false<;>rfl
 |j+1,k,m+1,mk,hk,hm,hl=>by
  have hlt:k< (zag r i).length:=by omega
  have hx:(zag r i)[k]? =some (zag r i)[k]:=aB hlt
  obtain⟨hs,hp⟩:=za2 h hi
  obtain⟨p0,p1⟩:=hp _ (List.getElem_mem hlt)
  have e:(r.Commits.getD i noCommit).Parents=zag r i:=rfl
  have hn:(((zag r i)[k].toNat:Nat):Int)=(zag r i)[k]:=by omega
  have hg:gi mk (zag r i)[k]=some (mk.getD (zag r i)[k].toNat false):=by
   rw[<- hn]
   exact zcx (by omega)
  have hsi:siM mk (zag r i)[k] true=some (zmH mk (zag r i)[k]):=by
   have:=zbN (xs:=mk) (i:=(zag r i)[k].toNat) (by omega) true
   rw[hn]at this
   exact this
  simp only[zdC,jn,zlL hi,aA,e,zal hx,aD,zcx (show i<mk.length by omega),zad hx,hg,hsi]
  cases hb:mk.getD i false with
  |false=>rfl
  |true=>
   rw[aD,aD,zab hlt (by unfold maxi;omega),zql h hi j (k+1) m _ (by omega) (by omega) (by rw[zin];exact hl),zoa hb,aD,aI hlt,List.foldl_cons]
theorem zqm {r:Repo}(h:zae r=true){F:List Bool->Option (List Int)}: ∀ (i m:Nat) (mk:List Bool),i<=r.Commits.length->i<m->mk.length=r.Commits.length->
 zcg r (fun _ y=>F y) m ((i:Int)-1) mk=F (zfb r i mk)
 |i,0,mk,_,hm,_=>by omega
 |0,m+1,mk,_,_,_=>by
  simp only[zcg]
  rw[aE (by omega)]
  rfl
 |i+1,m+1,mk,hi,hm,hl=>by
  have hs:=(zai h).1
  have e:(((i+1:Nat):Int))-1=(i:Int):=by omega
  simp only[zcg,jn,e]
  rw[aF (by omega),aD]
  have hp:=(za2 h (show i<r.Commits.length by omega)).1
  have h2:=zql h (show i<r.Commits.length by omega) (F:=fun y27=>zcg r (fun _ y=>F y) m (w64 ((i:Int)-1)) y27) (zag r i).length 0 4 mk (by omega) (by omega) hl
  refine(h2).trans ?_
  rw[zg9 (show i<=maxi by unfold maxi;omega)]
  refine(zqm h i m _ (by omega) (by omega) ?_).trans rfl
  have:=zgM r i mk
  unfold zlr at this
  rw[List.drop_zero,this]
  exact hl
theorem zob {mk:List Bool}(hl:mk.length<=1000): ∀ (k i m:Nat) (out:List Int),i+k=mk.length->k<m->out.length<=i->
 zcf mk (fun y69 _=>some y69) m out (i:Int)=some (out++((List.range' i k).filter fun i=>mk.getD i false).map Int.ofNat)
 |k,i,0,out,_,hm,_=>by omega
 |0,i,m+1,out,hi,_,_=>by
  obtain rfl:i=mk.length:=by omega
  simp only[zcf,zac,aC]
  simp
 |k+1,i,m+1,out,hi,hm,ho=>by
  have hlt:i<mk.length:=by omega
  have hx:mk[i]? =some mk[i]:=aB hlt
  simp only[zcf,jn,zal hx,aD,zcx hlt,aA,zab hlt (show mk.length<=maxi by unfold maxi;omega),ap1 (x:=(i:Int)) (show out.length<=1048576 by omega)]
  rw[List.range'_succ,List.filter_cons]
  cases hb:mk.getD i false with
  |true=>
   rw[aD,zob hl k (i+1) m _ (by omega) (by omega) (by simp;omega),if_pos rfl]
   simp
  |false=>
   rw[aC,zob hl k (i+1) m _ (by omega) (by omega) (by omega),if_neg (by simp)]
theorem zgN {r:Repo}(h:zae r=true){a:Int}(h0:0<=a)(h1:a<=(r.Commits.length:Int)-1):zfx r a=some (zaX r a):=by
 have hs:=(zai h).1
 obtain⟨n,rfl⟩:=Int.eq_ofNat_of_zero_le h0
 have hn:n<r.Commits.length:=by omega
 have hl:(List.replicate r.Commits.length false).length=r.Commits.length:=by simp
 unfold zfx
 rw[zhY (by simp[lim];omega),aA,zcx (by rw[hl];exact hn),aA,zbN (by rw[hl];exact hn),aA]
 simp only[jn,zan]
 have e:=zqm h (F:=fun y18=>zcf y18 (fun y69 _=>some y69) (y18.length+1) ([]:List Int) 0) (n+1) (((n:Int)+1-0).toNat+1) ((List.replicate r.Commits.length false).set n true) (by omega) (by omega) (by simp)
 rw[show(((n+1:Nat):Int))-1=(n:Int) by omega]at e
 refine e.trans ?_
 have hml:=zbu r n
 unfold zar at hml
 have e3:=zob (mk:=zfb r (n+1) ((List.replicate r.Commits.length false).set n true)) (by omega) r.Commits.length 0 (r.Commits.length+1) [] (by omega) (by omega) (by simp)
 rw[hml]
 refine e3.trans ?_
 unfold zaX zkw zar
 rw[Int.toNat_natCast,hml,List.range_eq_range']
 rfl
theorem za7 {r:Repo}{a x:Int}(h:x∈zaX r a):0<=x/\x<=(r.Commits.length:Int)-1:=by
 unfold zaX zkw at h
 rw[zbu]at h
 obtain⟨i,hi,rfl⟩:=List.mem_map.1 h
 have:=List.mem_range.1 (List.mem_filter.1 hi).1
 constructor
 ·exact Int.natCast_nonneg i
 ·show(i:Int)<=_;omega
theorem zdo (r:Repo)(a:Int):(zaX r a).length<=r.Commits.length:=by
 unfold zaX zkw
 rw[zbu,List.length_map]
 exact Nat.le_trans (List.length_filter_le _ _) (by simp)
def zeT (l:List Int)(n:Int):Bool:=l.any fun x=>x==n
theorem zio {l:List Int}(hl:l.length<=1000000)(n:Int):zgg l n=some (zeT l n):=by
 unfold zgg zeT
 simp only[jn,zan]
 rw[zdP (p:=fun x:Int=>x==n) (xs:=l) (r:=fun _=>some true) (Z:=some false) (f:=fun m k=>zdD l n _ m false k) (fun m i x hx=>by
  simp only[zdD,zal hx,zad hx,aD,aA,zab (zau hx) (show l.length<=maxi by unfold maxi;omega)]) (fun m=>by simp only[zdD,zac,aC]) (by omega)]
 cases hf:l.find? (fun x=>x==n)with
 |some x=>
  have:l.any (fun x=>x==n)=true:=List.any_eq_true.2 ⟨x,List.mem_of_find?_eq_some hf,by simpa using List.find?_some hf⟩
  rw[this]
 |none=>
  have:l.any (fun x=>x==n)=false:=by
   rw[List.any_eq_false]
   intro x hx
   have:=List.find?_eq_none.1 hf x hx
   simpa using this
  rw[this]
def zm9 (r:Repo)(l:List Int)(i:Nat):Bool:=zgF (fun k=>((k:Int)==(i:Int)) || !zeT (zaX r (l.getD k 0)) (l.getD i 0)) 0 l.length
def zl2 (p:Nat->Bool)(l:List Int):List Int:=((List.range l.length).filter p).map fun i=>l.getD i 0
def zbG (r:Repo)(a b:Int):List Int:=(zaX r a).filter (zeT (zaX r b))
def zaG (r:Repo)(a b:Int):List Int:=zl2 (zm9 r (zbG r a b)) (zbG r a b)
theorem ziM {l:List Int}{i:Nat}(h:i<l.length):gi l (i:Int)=some (l.getD i 0):=by
 rw[zdh (aB h)]
 exact zad (aB h)
theorem zmI {r:Repo}(h:zae r=true){l:List Int}(hl:l.length<=1000)(hm: ∀ x∈l,0<=x/\x<=(r.Commits.length:Int)-1){i:Nat}(hi:i<l.length){F:Bool->Option (List Int)}: ∀ (n k m:Nat) (b:Bool),k+n=l.length->n<m->
 zbY r l (i:Int) (fun y _=>F y) m b (k:Int)=F (b&&zgF (fun k=>((k:Int)==(i:Int)) || !zeT (zaX r (l.getD k 0)) (l.getD i 0)) k n)
 |n,k,0,b,_,hm'=>by omega
 |0,k,m+1,b,hk,_=>by
  obtain rfl:k=l.length:=by omega
  simp only[zbY,zac,aC,zgF,Bool.and_true]
 |n+1,k,m+1,b,hk,hm'=>by
  have hlt:k<l.length:=by omega
  have hx:l[k]? =some l[k]:=aB hlt
  have hs:=(zai h).1
  obtain⟨q0,q1⟩:=hm _ (List.getElem_mem hlt)
  have hal:=zdo r l[k]
  have ih:=fun b=>zmI h hl hm hi (F:=F) n (k+1) m b (by omega) (by omega)
  simp only[zbY,zal hx,aD,zab hlt (show l.length<=maxi by unfold maxi;omega),zad hx,ziM hi,aA,zgN h q0 q1,zio (show(zaX r l[k]).length<=1000000 by omega),ih,zgF,zdh hx]
  cases b<;>cases((k:Int)==(i:Int))<;>simp
theorem zkj {r:Repo}(h:zae r=true){l:List Int}(hl:l.length<=1000)(hm: ∀ x∈l,0<=x/\x<=(r.Commits.length:Int)-1): ∀ (k i m:Nat) (out:List Int),i+k=l.length->k<m->out.length<=i->
 zaV r l (fun y _=>some y) m out (i:Int)=some (out++((List.range' i k).filter (zm9 r l)).map fun i=>l.getD i 0)
 |k,i,0,out,_,hm',_=>by omega
 |0,i,m+1,out,hi,_,_=>by
  obtain rfl:i=l.length:=by omega
  simp only[zaV,zac,aC]
  simp
 |k+1,i,m+1,out,hi,hm',ho=>by
  have hlt:i<l.length:=by omega
  have hx:l[i]? =some l[i]:=aB hlt
  have h3:=zmI h hl hm hlt (F:=fun y104=>bif y104 then((gi l (i:Int)).bind fun u151=>(apM out [u151]).bind fun q160=>zaV r l (fun y _=>some y) m q160 (w64 ((i:Int)+1))) else zaV r l (fun y _=>some y) m out (w64 ((i:Int)+1))) l.length 0 (l.length+1) true (by omega) (by omega)
  simp only[zaV,jn,zal hx,aD,zan]
  refine h3.trans ?_
  rw[Bool.true_and,List.range'_succ,List.filter_cons,zab hlt (show l.length<=maxi by unfold maxi;omega)]
  show(bif zm9 r l i then _ else _)=_
  cases hb:zm9 r l i with
  |true=>
   rw[aD,zad hx,aA,ap1 (show out.length<=1048576 by omega),aA,zkj h hl hm k (i+1) m _ (by omega) (by omega) (by simp;omega),if_pos rfl]
   simp[hx]
  |false=>
   rw[aC,zkj h hl hm k (i+1) m _ (by omega) (by omega) (by omega),if_neg (by simp)]
theorem zna {r:Repo}(h:zae r=true){a b:Int}(ha:0<=a)(ha':a<=(r.Commits.length:Int)-1)(hb:0<=b)(hb':b<=(r.Commits.length:Int)-1):zf1 r a b=some (zaG r a b):=by
 have hs:=(zai h).1
 have la:=zdo r a
 have lb:=zdo r b
 unfold zf1
 rw[zgN h ha ha',aA,zgN h hb hb',aA]
 simp only[jn,zan]
 have hl:(zbG r a b).length<=1000:=Nat.le_trans (List.length_filter_le _ _) (by omega)
 have hm: ∀ x∈zbG r a b,0<=x/\x<=(r.Commits.length:Int)-1:=fun x hx=>za7 (List.mem_filter.1 hx).1
 rw[zdY (xs:=zaX r a) (p:=zeT (zaX r b)) (g:=fun x:Int=>x) (Z:=fun acc=>zaV r acc (fun y _=>some y) (acc.length+1) ([]:List Int) 0) (f:=fun m acc i=>zck (zaX r a) (zaX r b) _ m acc i) (fun m i x acc hx hacc=>by
  have hi:=zau hx
  simp only[zck,jn,zal hx,zad hx,aD,aA,zab hi (show(zaX r a).length<=maxi by unfold maxi;omega),zio (show(zaX r b).length<=1000000 by omega),ap1 (show acc.length<=1048576 by omega)]
  cases zeT (zaX r b) x<;>rfl) (fun m acc=>by simp only[zck,zac,aC]) (by omega)]
 have e:((zaX r a).filter (zeT (zaX r b))).map (fun x=>x)=zbG r a b:=by simp[zbG]
 rw[e]
 have:=zkj h hl hm (zbG r a b).length 0 ((zbG r a b).length+1) [] (by omega) (by omega) (by simp)
 refine this.trans ?_
 unfold zaG zl2
 rw[List.range_eq_range']
 rfl
theorem ziN {r:Repo}{a b x:Int}(h:x∈zaG r a b):0<=x/\x<=(r.Commits.length:Int)-1:=by
 unfold zaG zl2 at h
 obtain⟨i,hi,rfl⟩:=List.mem_map.1 h
 have hr:=List.mem_range.1 (List.mem_filter.1 hi).1
 rw[zdh (aB hr)]
 exact za7 (List.mem_filter.1 (List.getElem_mem hr)).1
theorem zls (r:Repo)(a b:Int):(zaG r a b).length<=r.Commits.length:=by
 unfold zaG zl2
 rw[List.length_map]
 refine Nat.le_trans (List.length_filter_le _ _) ?_
 rw[List.length_range]
 exact Nat.le_trans (List.length_filter_le _ _) (zdo r a)
def zkk (s:List Str)(p:Part):Option (List Str):=bif p.Clash then none else some (s++p.Lines)
def zex (ps:List Part):List Str×Bool:=match ps.foldlM zkk []with
 |some s=>okT s
 |none=>([],false)
theorem zl3 {i:Nat}{s s':List Str}{p:Part}(hp:p.Lines.length<=22000)(hpl: ∀ x∈p.Lines,zdO x=true)(hI:zs2 i s)(hst:zkk s p=some s'):zs2 (i+1) s':=by
 unfold zkk at hst
 cases hc:p.Clash with
 |true=>rw[hc]at hst;cases hst
 |false=>
  rw[hc,aC]at hst
  cases hst
  refine⟨by rw[List.length_append];have:=hI.1;omega,fun x hx=>?_⟩
  rcases List.mem_append.1 hx with h1 |h1
  ·exact hI.2 x h1
  ·exact hpl x h1
theorem zoc {o a b:List Str}(hto:zaw o=true)(hta:zaw a=true)(htb:zaw b=true):zg2 (za8 o a b)=some (zex (za8 o a b)):=by
 obtain⟨hlen,hparts⟩:=zlk hto hta htb
 unfold zg2 zex
 simp only[jn,zan]
 obtain⟨h1,h2⟩:=zkD (xs:=za8 o a b) (step:=zkk) (r0:=some (([]:List Str),false)) (Inv:=zs2) (s0:=[]) (Z:=fun s=>(zdl s).bind fun z30=>bif(!z30) then(some (([]:List Str),false)) else(some (s,true))) (f:=fun m s i=>zcZ (za8 o a b) (fun _ _ y7 _=>(zdl y7).bind fun z30=>bif(!z30) then(some (([]:List Str),false)) else(some (y7,true))) m [] false s i) (fun m i p s hx hI=>by
  have hi:=zau hx
  obtain⟨p1,p2,_⟩:=hparts p (aH hx)
  refine⟨?_,fun s' hst=>zl3 p1 p2 hI hst⟩
  have hs:=hI.1
  simp only[zcZ,zal hx,zad hx,aD,aA,zab hi (show(za8 o a b).length<=maxi by unfold maxi;omega),apT (show s.length<=1000000 by omega) (show p.Lines.length<=1000000 by omega)]
  unfold zkk
  cases p.Clash<;>rfl) (fun m s hI=>by simp only[zcZ,zac,aC]) (m:=(za8 o a b).length+1) (by omega) ⟨by simp,by simp⟩
 refine h1.trans ?_
 cases hf:(za8 o a b).foldlM zkk []with
 |none=>rfl
 |some s=>
  have hI:=h2 s hf
  have hs:=hI.1
  show(zdl s).bind _=some (okT s)
  rw[zhD (zcb (by omega) hI.2),aA]
  unfold okT
  cases zaw s<;>rfl
theorem zod {ps:List Part}:(zex ps).2=true->zaw (zex ps).1=true:=by
 unfold zex okT
 cases ps.foldlM zkk []with
 |none=>intro h;cases h
 |some s=>
  show(bif zaw s then(s,true) else(([]:List Str),false)).2=true->zaw (bif zaw s then(s,true) else(([]:List Str),false)).1=true
  cases ht:zaw s with
  |true=>intro _;exact ht
  |false=>intro h;cases h
def getT (t:List File)(p:Str):List Str×Bool:=match t.find? (fun f=>f.Path==p)with
 |some f=>(f.Text,true)
 |none=>([],false)
theorem zfs {t:List File}(h:TB t)(p:Str):zeH t p=some (getT t p):=by
 have hm:=h.maxi
 unfold zeH getT
 simp only[jn,zan]
 rw[zdP (p:=fun f:File=>f.Path==p) (xs:=t) (r:=fun f=>some (f.Text,true)) (Z:=some (([]:List Str),false)) (f:=fun m k=>zdE t p _ m [] false k) (fun m i x hx=>by
  simp only[zdE,zal hx,zad hx,aD,aA,zab (zau hx) hm]) (fun m=>by simp only[zdE,zac,aC]) (by omega)]
 cases t.find? (fun f=>f.Path==p)<;>rfl
theorem zl4 {t:List File}(h:TB t)(p:Str):(getT t p).1.length<=1048576/\Bk.fit (getT t p).1:=by
 unfold getT
 cases hf:t.find? (fun f=>f.Path==p)with
 |some f=>
  have:=h.2 f (List.mem_of_find?_eq_some hf)
  exact⟨this.len,this.text⟩
 |none=>exact⟨by simp,by simp[maxi],by simp⟩
def za3 (t:List File):Prop:= ∀ f∈t,zaw f.Text=true
theorem zbq {t:List File}(h:za3 t)(p:Str):zaw (getT t p).1=true:=by
 unfold getT
 cases hf:t.find? (fun f=>f.Path==p)with
 |some f=>exact h f (List.mem_of_find?_eq_some hf)
 |none=>rfl
def zhH (a b:List Str×Bool):Bool:=(a.2==b.2)&&(bif a.2 then a.1==b.1 else true)
theorem zlt {a b:List Str×Bool}(h:a.1.length<=1048576):zfA a.1 a.2 b.1 b.2=some (zhH a b):=by
 unfold zfA zhH
 simp only[jn,ze8 (zap h),aA]
 cases a.2<;>cases b.2<;>rfl
def oneF (o a b:List File)(p:Str):List Str×Bool×Int:=
 let zo:=getT o p;let za:=getT a p;let zb:=getT b p
 bif zhH za zo||zhH za zb then(zb.1,zb.2,0)
 else bif zhH zb zo then(za.1,za.2,0)
 else bif !za.2 || !zb.2 then(zo.1,zo.2,1)
 else bif !zo.2 then([],false,2)
 else bif(zex (za8 zo.1 za.1 zb.1)).2 then((zex (za8 zo.1 za.1 zb.1)).1,true,0) else(zo.1,true,3)
theorem zpv {o a b:List File}(ho:TB o)(ha:TB a)(hb:TB b)(to:za3 o)(ta:za3 a)(tb:za3 b)(p:Str):zh8 o a b p=some (oneF o a b p):=by
 have eo:=zbq to p
 have ea:=zbq ta p
 have eb:=zbq tb p
 have lo:=zam eo
 have la:=zam ea
 have lb:=zam eb
 unfold zh8 oneF
 simp only[jn,zfs ho,zfs ha,zfs hb,aA,zlt (a:=getT a p) (zl4 ha p).1,zlt (a:=getT b p) (zl4 hb p).1,zqS (show(getT o p).1.length<=1000 by omega) (show(getT a p).1.length<=1000 by omega) (show(getT b p).1.length<=1000 by omega),zoc eo ea eb]
 cases zhH (getT a p) (getT o p)<;>cases zhH (getT a p) (getT b p)<;>cases zhH (getT b p) (getT o p)<;>cases(getT a p).2<;>cases(getT b p).2<;>cases(getT o p).2<;>cases(zex (za8 (getT o p).1 (getT a p).1 (getT b p).1)).2<;>rfl
theorem zlu {o a b:List File}(to:za3 o)(ta:za3 a)(tb:za3 b)(p:Str):zaw (oneF o a b p).1=true:=by
 have eo:=zbq to p
 have ea:=zbq ta p
 have eb:=zbq tb p
 unfold oneF
 simp only
 cases zhH (getT a p) (getT o p)||zhH (getT a p) (getT b p)with
 |true=>exact eb
 |false=>
  cases zhH (getT b p) (getT o p)with
  |true=>exact ea
  |false=>
   cases !(getT a p).2 || !(getT b p).2 with
   |true=>exact eo
   |false=>
    cases !(getT o p).2 with
    |true=>rfl
    |false=>
     cases hl:(zex (za8 (getT o p).1 (getT a p).1 (getT b p).1)).2 with
     |true=>exact zod hl
     |false=>exact eo
def zcA (o a b:List File):List Str:=(b.map (·.Path)).foldl zgw ((a.map (·.Path)).foldl zgw ((o.map (·.Path)).foldl zgw []))
theorem zfc: ∀ (ps:List Str) (l:List Str),Asd l->Asd (ps.foldl zgw l)
 | [],l,h=>h
 |p::ps,l,h=>zfc ps _ (zcD _ _)
theorem zd4: ∀ (ps:List Str) (l:List Str),(ps.foldl zgw l).length<=l.length+ps.length
 | [],l=>by simp
 |p::ps,l=>by
  have h1:=zd4 ps (zgw l p)
  have h2:=zcN l p
  simp only[List.foldl_cons,aL]
  omega
theorem zgO: ∀ (ps:List Str) (l:List Str) (x:Str),x∈ps.foldl zgw l↔x∈l\/x∈ps
 | [],l,x=>by simp
 |p::ps,l,x=>by
  rw[List.foldl_cons,zgO ps,insS_mem,List.mem_cons]
  constructor
  ·rintro((h |h) |h)
   ·exact .inl h
   ·exact .inr (.inl h)
   ·exact .inr (.inr h)
  ·rintro(h |h |h)
   ·exact .inl (.inl h)
   ·exact .inl (.inr h)
   ·exact .inr h
theorem zft {t:List File} (h:TB t) (ht:t.length<=1000) {f:Nat->List Str->Int->Option (List Str)} {Z:List Str->Option (List Str)}
 (hs: ∀ m (i:Nat) x acc,t[i]? =some x->f (m+1) acc (i:Int)=(zdN acc x.Path).bind fun z=>f m z (w64 ((i:Int)+1))) (he: ∀ m acc,f (m+1) acc (t.length:Int)=Z acc): ∀ (k i m:Nat) (acc:List Str),i+k=t.length->k<m->Asd acc->acc.length<=10000+i->
 f m acc (i:Int)=Z (((t.drop i).map (·.Path)).foldl zgw acc)
 |k,i,0,acc,_,hm,_,_=>by omega
 |0,i,m+1,acc,hi,_,_,_=>by
  obtain rfl:i=t.length:=by omega
  rw[he,List.drop_length];rfl
 |k+1,i,m+1,acc,hi,hm,ha,hl=>by
  have hlt:i<t.length:=by omega
  have hx:t[i]? =some t[i]:=aB hlt
  have hil:=zcN acc t[i].Path
  rw[hs m i _ acc hx,zil (by omega) ha,aA,zab hlt h.maxi,zft h ht hs he k (i+1) m _ (by omega) (by omega) (zcD _ _) (by omega),aI hlt]
  rfl
theorem znb {o a b:List File}(ho:TB o)(ha:TB a)(hb:TB b)(so:o.length<=100)(sa:a.length<=100)(sb:b.length<=100):zf3 o a b=some (zcA o a b):=by
 unfold zf3 zcA
 simp only[jn,zan]
 have l1:=zd4 (o.map (·.Path)) []
 have l2:=zd4 (a.map (·.Path)) ((o.map (·.Path)).foldl zgw [])
 have a0:Asd ([]:List Str):=List.Pairwise.nil
 have a1:=zfc (o.map (·.Path)) [] a0
 have a2:=zfc (a.map (·.Path)) _ a1
 simp only[List.length_map,List.length_nil]at l1 l2
 have e3:=fun acc (h1:Asd acc) (h2:acc.length<=10000)=>zft hb (by omega) (f:=fun m acc i=>zaO b (fun y40 _=>some y40) m acc i) (Z:=fun acc=>some acc) (fun m i x acc hx=>by simp only[zaO,zal hx,zad hx,aD,aA]) (fun m acc=>by simp only[zaO,zac,aC]) b.length 0 (b.length+1) acc (by omega) (by omega) h1 (by omega)
 have e2:=fun acc (h1:Asd acc) (h2:acc.length<=10000)=>zft ha (by omega) (f:=fun m acc i=>zba a (fun y23 _=>zaO b (fun y40 _=>some y40) (b.length+1) y23 0) m acc i) (Z:=fun acc=>zaO b (fun y40 _=>some y40) (b.length+1) acc 0) (fun m i x acc hx=>by simp only[zba,zal hx,zad hx,aD,aA]) (fun m acc=>by simp only[zba,zac,aC]) a.length 0 (a.length+1) acc (by omega) (by omega) h1 (by omega)
 have e1:=fun acc (h1:Asd acc) (h2:acc.length<=10000)=>zft ho (by omega) (f:=fun m acc i=>zcn o (fun y6 _=>zba a (fun y23 _=>zaO b (fun y40 _=>some y40) (b.length+1) y23 0) (a.length+1) y6 0) m acc i) (Z:=fun acc=>zba a (fun y23 _=>zaO b (fun y40 _=>some y40) (b.length+1) y23 0) (a.length+1) acc 0) (fun m i x acc hx=>by simp only[zcn,zal hx,zad hx,aD,aA]) (fun m acc=>by simp only[zcn,zac,aC]) o.length 0 (o.length+1) acc (by omega) (by omega) h1 (by omega)
 refine(e1 [] a0 (by simp)).trans ?_
 rw[List.drop_zero]
 refine(e2 _ a1 (by omega)).trans ?_
 rw[List.drop_zero]
 refine(e3 _ a2 (by omega)).trans ?_
 rw[List.drop_zero]
theorem zh3 (o a b:List File):(zcA o a b).length<=o.length+a.length+b.length:=by
 unfold zcA
 have l1:=zd4 (o.map (·.Path)) []
 have l2:=zd4 (a.map (·.Path)) ((o.map (·.Path)).foldl zgw [])
 have l3:=zd4 (b.map (·.Path)) ((a.map (·.Path)).foldl zgw ((o.map (·.Path)).foldl zgw []))
 simp only[List.length_map,List.length_nil]at l1 l2 l3
 omega
theorem pathsF_mem {o a b:List File}{x:Str}:x∈zcA o a b↔ (∃ f∈o,f.Path=x)\/(∃ f∈a,f.Path=x)\/(∃ f∈b,f.Path=x):=by
 unfold zcA
 rw[zgO,zgO,zgO]
 simp only[List.mem_map,List.not_mem_nil,false_or]
 constructor
 ·rintro((h |h) |h)
  ·exact .inl h
  ·exact .inr (.inl h)
  ·exact .inr (.inr h)
 ·rintro(h |h |h)
  ·exact .inl (.inl h)
  ·exact .inl (.inr h)
  ·exact .inr h
def zlv (o a b:List File)(p:Str):Option File:=bif(oneF o a b p).2.1 then some ⟨p,(oneF o a b p).1⟩ else none
def zjm (o a b:List File)(p:Str):Option Clash:=bif decide (0< (oneF o a b p).2.2) then some ⟨p,(oneF o a b p).2.2⟩ else none
def zgx (o a b:List File):List File:=(zcA o a b).filterMap (zlv o a b)
def zho (o a b:List File):List Clash:=(zcA o a b).filterMap (zjm o a b)
theorem zlw {o a b:List File}(ho:TB o)(ha:TB a)(hb:TB b)(to:za3 o)(ta:za3 a)(tb:za3 b){ps:List Str}(hp:ps.length<=1000): ∀ (k i m:Nat) (fs:List File) (cs:List Clash),i+k=ps.length->k<m->fs.length<=i->cs.length<=i->
 zee o a b ps (fun y16 y19 _=>some (y16,y19)) m fs cs (i:Int)=some (fs++(ps.drop i).filterMap (zlv o a b),cs++(ps.drop i).filterMap (zjm o a b))
 |k,i,0,fs,cs,_,hm,_,_=>by omega
 |0,i,m+1,fs,cs,hi,_,_,_=>by
  obtain rfl:i=ps.length:=by omega
  simp only[zee,zac,aC,List.drop_length]
  simp
 |k+1,i,m+1,fs,cs,hi,hm,hf,hc=>by
  have hlt:i<ps.length:=by omega
  have hx:ps[i]? =some ps[i]:=aB hlt
  have ih:=fun fs cs h1 h2=>zlw ho ha hb to ta tb hp k (i+1) m fs cs (by omega) (by omega) h1 h2
  have ht:=zam (zlu to ta tb ps[i])
  simp only[zee,jn,zal hx,zad hx,aD,aA,zab hlt (show ps.length<=maxi by unfold maxi;omega),zpv ho ha hb to ta tb,apN (show(oneF o a b ps[i]).1.length<=1048576 by omega),ap1 (x:=(⟨ps[i],(oneF o a b ps[i]).1⟩:File)) (show fs.length<=1048576 by omega),ap1 (x:=(⟨ps[i],(oneF o a b ps[i]).2.2⟩:Clash)) (show cs.length<=1048576 by omega)]
  rw[aI hlt,List.filterMap_cons,List.filterMap_cons]
  unfold zlv zjm at ih ⊢
  cases(oneF o a b ps[i]).2.1<;>cases decide (0< (oneF o a b ps[i]).2.2)<;>simp only[aD,aC]
  ·rw[ih _ _ (by omega) (by omega)]
  ·rw[ih _ _ (by omega) (by simp;omega)];simp
  ·rw[ih _ _ (by simp;omega) (by omega)];simp
  ·rw[ih _ _ (by simp;omega) (by simp;omega)];simp
theorem zqZ {o a b:List File}(ho:TB o)(ha:TB a)(hb:TB b)(to:za3 o)(ta:za3 a)(tb:za3 b)(so:o.length<=100)(sa:a.length<=100)(sb:b.length<=100):zju o a b=some (zgx o a b,zho o a b):=by
 have hl:=zh3 o a b
 unfold zju
 rw[znb ho ha hb so sa sb,aA]
 simp only[jn,zan]
 have:=zlw ho ha hb to ta tb (ps:=zcA o a b) (by omega) (zcA o a b).length 0 ((zcA o a b).length+1) [] [] (by omega) (by omega) (by simp) (by simp)
 refine this.trans ?_
 simp[zgx,zho]
theorem zjn {o a b:List File}(ho:TB o)(ha:TB a)(hb:TB b)(to:za3 o)(ta:za3 a)(tb:za3 b)(so:o.length<=100)(sa:a.length<=100)(sb:b.length<=100):TB (zgx o a b):=by
 have hl:=zh3 o a b
 refine⟨Nat.le_trans (List.length_filterMap_le _ _) (by omega),fun f hf=>?_⟩
 obtain⟨p,hp,he⟩:=List.mem_filterMap.1 hf
 unfold zlv at he
 cases h2:(oneF o a b p).2.1 with
 |false=>rw[h2]at he;cases he
 |true=>
  rw[h2,aD]at he
  cases he
  have ht:=zlu to ta tb p
  have hlen:=zam ht
  refine⟨?_,by show(oneF o a b p).1.length<=_;omega,zcb (s:=(oneF o a b p).1) (by omega) (zaU ht)⟩
  rcases pathsF_mem.1 hp with ⟨g,hg,e⟩ |⟨g,hg,e⟩ |⟨g,hg,e⟩
  ·rw[<- e];exact(ho.2 g hg).path
  ·rw[<- e];exact(ha.2 g hg).path
  ·rw[<- e];exact(hb.2 g hg).path
def zdQ (o a b:List File):List File×List Clash:=bif((zho o a b).length:Int)==0 && !zaK (zgx o a b) then(o,[⟨[],4⟩]) else(zgx o a b,zho o a b)
theorem zl5 {o a b:List File}(ho:TB o)(ha:TB a)(hb:TB b)(to:za3 o)(ta:za3 a)(tb:za3 b)(so:o.length<=100)(sa:a.length<=100)(sb:b.length<=100):zgn o a b=some (zdQ o a b):=by
 unfold zgn zdQ
 simp only[jn,zqZ ho ha hb to ta tb so sa sb,aA,zik (zjn ho ha hb to ta tb so sa sb),zfN ho]
 cases(((zho o a b).length:Int)==0)<;>cases zaK (zgx o a b)<;>rfl
theorem zkZ {o a b:List File}(ho:TB o)(ha:TB a)(hb:TB b)(to:za3 o)(ta:za3 a)(tb:za3 b)(so:o.length<=100)(sa:a.length<=100)(sb:b.length<=100):TB (zdQ o a b).1:=by
 unfold zdQ
 cases(((zho o a b).length:Int)==0 && !zaK (zgx o a b))
 ·exact zjn ho ha hb to ta tb so sa sb
 ·exact ho
theorem zaj {t:List File}(h:zaK t=true):za3 t:=by
 intro f hf
 obtain⟨i,hi⟩:=List.mem_iff_getElem?.1 hf
 unfold zaK at h
 simp only[aG]at h
 have:=zaN.1 h.2 i (Nat.zero_le _) (by have:=zau hi;omega)
 unfold ziK ziJ at this
 rw[zci hi]at this
 simp only[aG]at this
 exact this.1.2.1
theorem za0 {t:List File}(h:zaK t=true){f:File}(hf:f∈t):zaS f.Path=true:=by
 obtain⟨i,hi⟩:=List.mem_iff_getElem?.1 hf
 unfold zaK at h
 simp only[aG]at h
 have:=zaN.1 h.2 i (Nat.zero_le _) (by have:=zau hi;omega)
 unfold ziK ziJ at this
 rw[zci hi]at this
 simp only[aG]at this
 exact this.1.1
theorem zkl (c:UInt8): ∀ (r w:Str),w.length+r.length+1=sumB (fun p=>p.length+1) (curS c w r)
 | [],w=>by simp[curS,sumB]
 |x::r,w=>by
  unfold curS
  cases x==c with
  |true=>
   rw[aD]
   have:=zkl c r []
   simp only[sumB,List.length_nil,aL]at this ⊢
   omega
  |false=>
   rw[aC]
   have:=zkl c r (w++[x])
   simp only[List.length_append,aL,List.length_nil]at this ⊢
   omega
theorem zqn {c:Nat}: ∀ {l:List Str},(∀ p∈l,p.length+1<=c)->sumB (fun p=>p.length+1) l<=c*l.length
 | [],_=>by simp[sumB]
 |x::l,h=>by
  have h1:=h x (by simp)
  have h2:=zqn (c:=c) (l:=l) (fun p hp=>h p (List.mem_cons_of_mem _ hp))
  simp only[sumB,aL,Nat.mul_add,Nat.mul_one]
  omega
theorem zbH {s:Str}(h:zaI s=true):s.length<=6:=by
 unfold zaI at h
 simp only[aG,decide_eq_true_eq]at h
 omega
theorem zcw {s:Str}(h:zaS s=true):s.length<=20:=by
 unfold zaS at h
 simp only[aG,decide_eq_true_eq,List.all_eq_true]at h
 have h1:=zkl 47 s []
 have h2:=zqn (c:=7) (l:=curS 47 [] s) (fun p hp=>by have:=zbH (h.2 p hp);omega)
 simp only[List.length_nil]at h1
 omega
theorem zrc {d p:Str}(h:zbh d p=true):d.length+1<=p.length:=by
 unfold zbh at h
 have:=(List.isPrefixOf_iff_prefix.1 h).length_le
 simpa using this
def zjg (p to:Str)(acc:List File)(g:File):List File:=bif !zsY p g then putF ⟨to++g.Path.drop p.length,g.Text⟩ false acc else acc
def zp3 (t:List File)(p to:Str):List File×Bool:=
 bif zaK t then(bif((((dropF p t).length:Int))==(t.length:Int)) || !zaS to then(t,false) else(bif !zaK (t.foldl (zjg p to) (dropF p t))||(((t.foldl (zjg p to) (dropF p t)).length:Int) !=(t.length:Int)) then(t,false) else(t.foldl (zjg p to) (dropF p t),true))) else([],false)
theorem zrd {p to:Str}{acc:List File}{g:File}(hg:FB g)(hp:g.Path.length<=20)(ht:to.length<=20)(ha:TB acc)(hl:acc.length<=1000):TB (zjg p to acc g)/\(zjg p to acc g).length<=acc.length+1:=by
 unfold zjg
 cases !zsY p g
 ·exact⟨ha,by simp⟩
 ·refine⟨ha.putF (by omega) ⟨?_,hg.len,hg.text⟩,?_⟩
  ·simp only[List.length_append,List.length_drop];omega
  ·have:=zmL ⟨to++g.Path.drop p.length,g.Text⟩ acc false
   simp only[aC,aD]at this ⊢
   omega
theorem zo2 {t:List File}(h:TB t)(hs:t.length<=8)(hp: ∀ f∈t,f.Path.length<=20){p to:Str}(ht:to.length<=20){K:List File->Int->Option (List File×Bool)}: ∀ (k i m:Nat) (acc:List File),i+k=t.length->k<m->TB acc->acc.length<=100+i->
 zbW t p to K m acc (i:Int)=K ((t.drop i).foldl (zjg p to) acc) (t.length:Int)/\TB ((t.drop i).foldl (zjg p to) acc)
 |k,i,0,acc,_,hm,_,_=>by omega
 |0,i,m+1,acc,hi,_,ha,_=>by
  obtain rfl:i=t.length:=by omega
  simp only[zbW,zac,aC,List.drop_length]
  exact⟨rfl,ha⟩
 |k+1,i,m+1,acc,hi,hm,ha,hl=>by
  have hlt:i<t.length:=by omega
  have hx:t[i]? =some t[i]:=aB hlt
  have hm':=List.getElem_mem hlt
  have hg:=h.at_ hx
  have hpl:=hp _ hm'
  obtain⟨i1,i2⟩:=zrd (p:=p) (to:=to) hg hpl ht ha (by omega)
  have ih:=zo2 h hs hp (p:=p) (to:=to) ht (K:=K) k (i+1) m (zjg p to acc t[i]) (by omega) (by omega) i1 (by omega)
  rw[aI hlt,List.foldl_cons]
  refine⟨?_,ih.2⟩
  rw[<- ih.1]
  simp only[zbW,jn,zal hx,zad hx,aD,aA,zab hlt h.maxi,zlG hg.path]
  unfold zjg zsY
  have hrun:p.length<=t[i].Path.length->((slM t[i].Path (p.length:Int) (t[i].Path.length:Int)).bind fun q67=>(saM to q67).bind fun q69=>(zhw acc ⟨q69,t[i].Text⟩).bind fun z77=>zbW t p to K m z77 ((i+1:Nat):Int))=zbW t p to K m (putF ⟨to++t[i].Path.drop p.length,t[i].Text⟩ false acc) ((i+1:Nat):Int):=fun hle=>by
   have hsa:saM to (t[i].Path.drop p.length)=some (to++t[i].Path.drop p.length):=by
    unfold saM
    rw[if_pos]
    simp only[List.length_drop,lim]
    omega
   rw[zmO hle,aA,hsa,aA,zpE (g:=⟨to++t[i].Path.drop p.length,t[i].Text⟩) ha (by omega) ⟨by simp only[List.length_append,List.length_drop];omega,hg.len,hg.text⟩,aA]
  cases he:t[i].Path==p with
  |true=>
   have e:t[i].Path=p:=by simpa using he
   have e2:(t[i].Path !=p)=false:=by rw[bne,he];rfl
   rw[e2]
   exact hrun (by rw[e];exact Nat.le_refl _)
  |false=>
   have e2:(t[i].Path !=p)=true:=by rw[bne,he];rfl
   rw[e2]
   cases hb:zbh p t[i].Path with
   |false=>rfl
   |true=>exact hrun (by have:=zrc hb;omega)
theorem zos {t:List File}(h:TB t)(p to:Str)(hto:to.length<=1048576):ze5 t p to=some (zp3 t p to):=by
 unfold ze5 zp3
 rw[zik h,aA]
 cases htr:zaK t with
 |false=>rfl
 |true=>
  have hs:=zaz htr
  rw[aK,aC,aD,zfN h,aA,zoq h,aA]
  simp only[jn,zan,zd3 hto,aA]
  cases(((dropF p t).length:Int)==(t.length:Int))with
  |true=>rfl
  |false=>
   cases hpt:zaS to with
   |false=>rfl
   |true=>
    obtain⟨e1,e2⟩:=zo2 h hs (fun f hf=>zcw (za0 htr hf)) (p:=p) (zcw hpt) (K:=fun y39 _=>(zd7 y39).bind fun z115=>bif(!z115) then(some (t,false)) else(bif((y39.length:Int) !=(t.length:Int)) then(some (t,false)) else(some (y39,true)))) t.length 0 (t.length+1) (dropF p t) (by omega) (by omega) (h.dropF p) (by have:=List.length_filter_le (zsY p) t;unfold dropF;omega)
    rw[List.drop_zero]at e1 e2
    simp only[Bool.false_or,aK,aC,aD]
    refine e1.trans ?_
    show(zd7 _).bind _=_
    rw[zik e2,aA]
    cases zaK (t.foldl (zjg p to) (dropF p t))<;>cases(((t.foldl (zjg p to) (dropF p t)).length:Int) !=(t.length:Int))<;>rfl
structure Gd (q:Prop) (r:Repo):Prop where
 rb:RpB r
 ok:zae r=true
 hd:q->r.Commits≠ []->r.Heads≠ []
abbrev Good:Repo->Prop:=Gd True
variable {q:Prop}
def zaA (r:Repo)(i:Nat):List File:=(r.Commits.getD i noCommit).Tree
theorem Gd.tree {r:Repo}(h:Gd q r){i:Nat}(hi:i<r.Commits.length):TB (zaA r i)/\zaK (zaA r i)=true/\za3 (zaA r i)/\(zaA r i).length<=8:=by
 have hx:r.Commits[i]? =some r.Commits[i]:=aB hi
 have h1:zaK (zaA r i)=true:=by
  have:=zhe h.ok hi
  unfold zns at this
  simp only[aG]at this
  exact this.2.2.2.2
 refine⟨?_,h1,zaj h1,zaz h1⟩
 unfold zaA
 rw[zeF hx]
 exact(h.rb.cat hx).tree
theorem zjx:TB ([]:List File)/\zaK []=true/\za3 []/\([]:List File).length<=8:=⟨TB.nil,rfl,fun f hf=>by simp at hf,by simp⟩
theorem zdH {r:Repo}{z:Int}(h0:0<=z)(h1:z<=(r.Commits.length:Int)-1):gi r.Commits z=some (r.Commits.getD z.toNat noCommit):=by
 obtain⟨n,rfl⟩:=Int.eq_ofNat_of_zero_le h0
 exact zlL (by omega)
theorem zl6 (n:Str)(a:Int): ∀ (hs:List Head),zfr n a false hs≠ []
 | []=>by simp[zfr]
 |h::hs=>by
  unfold zfr
  cases hb:Op.bytesLess h.Name n
  ·simp
  ·have:=zl6 n a hs
   cases(h.Name !=n)<;>simp[this]
def zfP (n:Str)(a:Int)(h:Head):Head:=bif h.Name==n then⟨n,a⟩ else h
theorem zjo (n:Str)(a:Int): ∀ (hs:List Head),(∀ h∈hs,h.Name≠n)->zfr n a true hs=hs
 | [],_=>rfl
 |h::hs,hn=>by
  have h1:(h.Name !=n)=true:=by simpa using hn h (by simp)
  unfold zfr
  rw[h1,Bool.true_or,zjo n a hs (fun x hx=>hn x (List.mem_cons_of_mem _ hx))]
  rfl
theorem zh4 (n:Str)(a:Int): ∀ (hs:List Head),hs.Pairwise (fun x y=>x.Name<y.Name)->(∃ h∈hs,h.Name=n)->zfr n a false hs=hs.map (zfP n a)
 | [],_,h=>by obtain⟨x,hx,_⟩:=h;simp at hx
 |h::hs,hp,he=>by
  obtain⟨p1,p2⟩:=List.pairwise_cons.1 hp
  unfold zfr
  rw[List.map_cons]
  cases hb:Op.bytesLess h.Name n with
  |true=>
   rw[za9]at hb
   have hlt:h.Name<n:=by simpa using hb
   have hne:h.Name≠n:=fun e=>by rw[e]at hlt;exact zaq _ hlt
   have h1:(h.Name !=n)=true:=by simpa using hne
   have h2:(h.Name==n)=false:=beq_false_of_ne hne
   have ht: ∃ x∈hs,x.Name=n:=by
    obtain⟨x,hx,e⟩:=he
    rcases List.mem_cons.1 hx with e2 |e2
    ·rw[e2]at e;exact absurd e hne
    ·exact⟨x,e2,e⟩
   rw[h1]
   simp only[aK,Bool.and_false,aC,aD,List.nil_append,Bool.or_false,List.singleton_append]
   rw[zh4 n a hs p2 ht]
   unfold zfP
   rw[h2]
   rfl
  |false=>
   rw[za9]at hb
   have hge:n<=h.Name:=zjf.1 (by simpa using hb)
   cases h2:h.Name==n with
   |true=>
    have e:h.Name=n:=by simpa using h2
    have h1:(h.Name !=n)=false:=by rw[bne,h2];rfl
    have hno: ∀ x∈hs,x.Name≠n:=fun x hx e2=>by
     have:=p1 x hx
     rw[e,e2]at this
     exact zaq _ this
    rw[h1,Bool.not_false,Bool.or_true,zjo n a hs hno]
    have hm:hs.map (zfP n a)=hs:=by
     conv=>rhs;rw[<- List.map_id hs]
     refine List.map_congr_left (fun x hx=>?_)
     unfold zfP
     rw[beq_false_of_ne (hno x hx)]
     rfl
    rw[hm]
    unfold zfP
    rw[h2]
    rfl
   |false=>
    exfalso
    have hne:n≠h.Name:=fun e=>by rw[e]at h2;simp at h2
    have hlt:=zb5 hge hne
    obtain⟨x,hx,e⟩:=he
    rcases List.mem_cons.1 hx with e2 |e2
    ·rw[e2]at e;exact hne e.symm
    ·have:=p1 x e2
     rw[e]at this
     exact zaq _ (zbp hlt this)
theorem zjp {r:Repo}(h:zae r=true):r.Heads.Pairwise (fun x y=>x.Name<y.Name):=by
 unfold zae zep at h
 simp only[aG]at h
 have hg:=zaN.1 h.2.2.1
 have step: ∀ i,(hi:i+1<r.Heads.length)->(r.Heads[i]'(by omega)).Name<r.Heads[i+1].Name:=fun i hi=>by
  have:=hg (i+1) (by omega) (by omega)
  unfold zis at this
  rw[zcE (aB hi),aF (by omega),Nat.add_sub_cancel,zcE (aB (show i<r.Heads.length by omega))]at this
  simp only[aD,aG,za9,decide_eq_true_eq]at this
  exact this.2.2
 refine List.pairwise_iff_getElem.2 fun i j hi hj hij=>?_
 induction j with
 |zero=>omega
 |succ j ih=>
  rcases Nat.lt_or_ge i j with h1 |h1
  ·exact zbp (ih (by omega) h1) (step j hj)
  ·have:i=j:=by omega
   subst this
   exact step i hj
theorem znv {r:Repo}{n:Str}(h:0<=atB r n): ∃ x∈r.Heads,x.Name=n:=by
 unfold atB at h
 cases hf:r.Heads.find? (fun h=>h.Name==n)with
 |none=>rw[hf]at h;simp at h
 |some x=>exact⟨x,List.mem_of_find?_eq_some hf,by simpa using List.find?_some hf⟩
theorem zkH {r:Repo}(h:zae r=true){n:Str}(ha:0<=atB r n)(b:Int):headR r n b=⟨r.Commits,r.Heads.map (zfP n b)⟩:=by
 unfold headR
 rw[zh4 n b r.Heads (zjp h) (znv ha)]
theorem zoI {r:Repo}(h:zae r=true){n:Str}(ha:0<=atB r n){b:Int}(h0:0<=b)(h1:b<=(r.Commits.length:Int)-1):zae (headR r n b)=true:=by
 rw[zkH h ha]
 have hh:=h
 unfold zae zep at h ⊢
 simp only[aG,List.length_map]at h ⊢
 refine⟨h.1,h.2.1,?_,h.2.2.2⟩
 have hg:=zaN.1 h.2.2.1
 refine zaN.2 fun i hi0 hi=>?_
 have hil:i<r.Heads.length:=by omega
 have hx:r.Heads[i]? =some r.Heads[i]:=aB hil
 have hm: ∀ j,j<r.Heads.length->((r.Heads.map (zfP n b)).getD j zgi).Name=(r.Heads.getD j zgi).Name:=fun j hj=>by
  have hxj:r.Heads[j]? =some r.Heads[j]:=aB hj
  rw[zcE hxj,zcE (f:=zfP n b r.Heads[j]) (by rw[List.getElem?_map,hxj];rfl)]
  unfold zfP
  cases he:r.Heads[j].Name==n with
  |true=>simpa using (by simpa using he:r.Heads[j].Name=n).symm
  |false=>rfl
 have hat:upB r.Commits.length ((r.Heads.map (zfP n b)).getD i zgi).At=true:=by
  rw[zcE (f:=zfP n b r.Heads[i]) (by rw[List.getElem?_map,hx];rfl)]
  unfold zfP upB
  cases r.Heads[i].Name==n with
  |true=>simp[h0,h1]
  |false=>
   have:=zhG hh (List.getElem_mem hil)
   simp[this.1,this.2.1]
 have:=hg i hi0 (by omega)
 unfold zis at this ⊢
 simp only[aG]at this ⊢
 refine⟨by rw[hm i hil];exact this.1,hat,?_⟩
 rw[hm i hil,hm (i-1) (by omega)]
 exact this.2.2
def zfo (r:Repo)(a b:Int):List File:=bif((zaG r a b).length:Int)==0 then [] else zaA r ((zaG r a b).getD ((zaG r a b).length-1) 0).toNat
theorem zfQ {r:Repo}(h:Gd q r){a b:Int}(ha:0<=a)(ha':a<=(r.Commits.length:Int)-1)(hb:0<=b)(hb':b<=(r.Commits.length:Int)-1):zgl r a b=some (zfo r a b)/\TB (zfo r a b)/\zaK (zfo r a b)=true:=by
 have hs:=(zai h.ok).1
 have hl:=zls r a b
 unfold zgl zfo
 rw[zna h.ok ha ha' hb hb',aA]
 cases hz:((zaG r a b).length:Int)==0 with
 |true=>exact⟨rfl,zjx.1,zjx.2.1⟩
 |false=>
  have hne:((zaG r a b).length:Int)≠0:=by simpa using hz
  have e:w64 (((zaG r a b).length:Int)-1)=(((zaG r a b).length-1:Nat):Int):=by rw[zah (by omega) (by omega)];omega
  have hlt:(zaG r a b).length-1< (zaG r a b).length:=by omega
  have hm:(zaG r a b).getD ((zaG r a b).length-1) 0∈zaG r a b:=by
   rw[zdh (aB hlt)];exact List.getElem_mem hlt
  obtain⟨q0,q1⟩:=ziN hm
  rw[aC,aC,e,ziM hlt,aA,zdH q0 q1,aA]
  have:=h.tree (i:=((zaG r a b).getD ((zaG r a b).length-1) 0).toNat) (by omega)
  exact⟨rfl,this.1,this.2.1⟩
def zgy (r:Repo)(n:Str)(c:Commit):Repo×Int:=bif zae (addR r n c) then(addR r n c,0) else(r,5)
def zhU (r:Repo)(n who:Str)(b:Int):Repo×Int:=
 bif zeT (zaX r (atB r n)) b then(r,2)
 else bif zeT (zaX r b) (atB r n) then(headR r n b,3)
 else
  let j:=zdQ (zfo r (atB r n) b) (zaA r (atB r n).toNat) (zaA r b.toNat)
  bif decide (0< (j.2.length:Int)) then(r,4) else zgy r n ⟨[atB r n,b],who,j.1⟩
theorem Gd.add {r:Repo}(h:Gd q r){n:Str}{c:Commit}(hn:n.length<=1048576)(hc:CB c)(ho:zae (addR r n c)=true):Gd q (addR r n c):=by
 obtain⟨s1,s2⟩:=zai h.ok
 exact⟨h.rb.addR (by omega) (by omega) hn hc,ho,fun _ _=>zl6 _ _ _⟩
theorem Gd.head {r:Repo}(h:Gd q r){n:Str}{b:Int}(hn:n.length<=1048576)(ho:zae (headR r n b)=true):Gd q (headR r n b):=by
 obtain⟨s1,s2⟩:=zai h.ok
 exact⟨h.rb.headR (by omega) hn b,ho,fun _ _=>zl6 _ _ _⟩
theorem zjD {r:Repo}(h:Gd q r){n:Str}{c:Commit}(hn:n.length<=1048576)(hc:CB c):Gd q (zgy r n c).1:=by
 unfold zgy
 cases ho:zae (addR r n c)with
 |true=>exact h.add hn hc ho
 |false=>exact h
theorem zl7 {r:Repo}(h:Gd q r){n:Str}{c:Commit}(hn:n.length<=1048576)(hc:CB c):((zef r n c).bind fun z130=>(zcK z130).bind fun z163=>bif(!z163) then(some (r,(5:Int))) else(some (z130,0)))=some (zgy r n c):=by
 obtain⟨s1,s2⟩:=zai h.ok
 rw[znu h.rb (by omega) (by omega) n hc,aA,zeG (h.rb.addR (by omega) (by omega) hn hc),aA]
 unfold zgy
 cases zae (addR r n c)<;>rfl
theorem zlP {r:Repo}(h:Gd q r){n who:Str}{b:Int}(hn:n.length<=1048576)(hw:who.length<=1048576)(ha:0<=atB r n)(hb:0<=b)(hb':b<=(r.Commits.length:Int)-1):zeg r n who b=some (zhU r n who b)/\Gd q (zhU r n who b).1:=by
 obtain⟨s1,s2⟩:=zai h.ok
 have ha':atB r n<=(r.Commits.length:Int)-1:=by rcases at_range h.ok n with e |e<;>omega
 have l1:=zdo r (atB r n)
 have l2:=zdo r b
 obtain⟨e1,e2,e3⟩:=zfQ h ha ha' hb hb'
 obtain⟨ta,ta2,ta3,ta4⟩:=h.tree (i:=(atB r n).toNat) (by omega)
 obtain⟨tb,tb2,tb3,tb4⟩:=h.tree (i:=b.toNat) (by omega)
 have hbs:=zaz e3
 have hj:=zkZ e2 ta tb (zaj e3) ta3 tb3 (by omega) (by omega) (by omega)
 have hc:CB ⟨[atB r n,b],who,(zdQ (zfo r (atB r n) b) (zaA r (atB r n).toNat) (zaA r b.toNat)).1⟩:=⟨by simp,hw,hj⟩
 unfold zeg zhU
 simp only[zeq h.rb,aA,zgN h.ok ha ha',zgN h.ok hb hb',zio (show(zaX r (atB r n)).length<=1000000 by omega),zio (show(zaX r b).length<=1000000 by omega),zjl h.rb (show r.Heads.length<=100000 by omega),zdH ha ha',zdH hb hb',e1]
 cases zeT (zaX r (atB r n)) b with
 |true=>exact⟨rfl,h⟩
 |false=>
  cases zeT (zaX r b) (atB r n)with
  |true=>exact⟨rfl,h.head hn (zoI h.ok ha hb hb')⟩
  |false=>
   simp only[aC]
   have hjoin:=zl5 e2 ta tb (zaj e3) ta3 tb3 (by omega) (by omega) (by omega)
   unfold zaA at hjoin hc ⊢
   rw[hjoin,aA]
   cases decide (0< ((zdQ (zfo r (atB r n) b) (r.Commits.getD (atB r n).toNat noCommit).Tree (r.Commits.getD b.toNat noCommit).Tree).2.length:Int))with
   |true=>exact⟨rfl,h⟩
   |false=>exact⟨zl7 h hn hc,zjD h hn hc⟩
def zl8 (r:Repo)(n who:Str)(b:Int):Bool:=decide (atB r n<0)||(!zaI who || !upB r.Commits.length b)
def zp4 (r:Repo)(n who:Str)(b:Int):Repo×Int:=bif zae r then(bif zl8 r n who b then(r,1) else zhU r n who b) else(zce,1)
theorem zl9 {r:Repo}{n who:Str}{b:Int}(h:zl8 r n who b=false):0<=atB r n/\0<=b/\b<=(r.Commits.length:Int)-1:=by
 unfold zl8 upB at h
 simp only[Bool.or_eq_false_iff,decide_eq_false_iff_not,Bool.not_eq_false',aG,decide_eq_true_eq]at h
 omega
theorem zkp {r:Repo}(h:Gd q r){n who:Str}{b:Int}(hn:n.length<=1048576)(hw:who.length<=1048576):zdy r n who b=some (zp4 r n who b)/\Gd q (zp4 r n who b).1:=by
 unfold zdy zp4
 have hwm:=zap hw
 rw[zeG h.rb,aA,h.ok,aK,aC,aD]
 simp only[jn,zeq h.rb,aA,zbd hwm,zgA,zg9 (zap h.rb.coms),zfO h.rb,show(⟨r.Commits,r.Heads⟩:Repo)=r from rfl]
 rw[show(decide ((0:Int)<=b)&&decide (b<=(r.Commits.length:Int)-1))=upB r.Commits.length b from rfl]
 have key:zl8 r n who b=false->((zeg r n who b).bind fun z58=>some (z58.1,z58.2))=some (zhU r n who b)/\Gd q (zhU r n who b).1:=fun hbad=>by
  obtain⟨p1,p2,p3⟩:=zl9 hbad
  obtain⟨q1,q2⟩:=zlP h hn hw p1 p2 p3
  rw[q1]
  exact⟨rfl,q2⟩
 unfold zl8 at key ⊢
 cases h1:decide (atB r n<0)with
 |true=>exact⟨rfl,h⟩
 |false=>
  cases h2:zaI who with
  |false=>exact⟨rfl,h⟩
  |true=>
   cases h3:upB r.Commits.length b with
   |false=>exact⟨rfl,h⟩
   |true=>exact key (by rw[h1,h2,h3];rfl)
def zfw (r:Repo)(i:Nat):List File:=bif((zag r i).length:Int)==0 then [] else zaA r ((zag r i).getD 0 0).toNat
theorem zkL {r:Repo}(h:Gd q r){a:Int}(h0:0<=a)(h1:a<=(r.Commits.length:Int)-1):zdn r a=some (zfw r a.toNat)/\TB (zfw r a.toNat)/\zaK (zfw r a.toNat)=true:=by
 have hi:a.toNat<r.Commits.length:=by omega
 obtain⟨ps,pm⟩:=za2 h.ok hi
 unfold zdn zfw
 rw[zdH h0 h1,aA]
 show(bif((zag r a.toNat).length:Int)==0 then _ else _)=_/\_
 cases hz:((zag r a.toNat).length:Int)==0 with
 |true=>exact⟨rfl,zjx.1,zjx.2.1⟩
 |false=>
  have hne:((zag r a.toNat).length:Int)≠0:=by simpa using hz
  have hlt:0< (zag r a.toNat).length:=by omega
  have hm:(zag r a.toNat).getD 0 0∈zag r a.toNat:=by
   rw[zdh (aB hlt)];exact List.getElem_mem hlt
  obtain⟨q0,q1⟩:=pm _ hm
  have hg:gi (r.Commits.getD a.toNat noCommit).Parents 0=some ((zag r a.toNat).getD 0 0):=ziM (l:=zag r a.toNat) hlt
  rw[aC,aC,aA,hg,aA,zdH q0 (by omega),aA]
  have:=h.tree (i:=((zag r a.toNat).getD 0 0).toNat) (by omega)
  exact⟨rfl,this.1,this.2.1⟩
def zjG (r:Repo)(n who:Str)(o b:List File):Repo×Int:=
 let j:=zdQ o (zaA r (atB r n).toNat) b
 bif decide (0< (j.2.length:Int)) then(r,4) else zgy r n ⟨[atB r n],who,j.1⟩
theorem znj {r:Repo}(h:Gd q r){n who:Str}{o b:List File}(hn:n.length<=1048576)(hw:who.length<=1048576)(ha:0<=atB r n)(to:TB o)(to2:zaK o=true)(tb:TB b)(tb2:zaK b=true):zev r n who o b=some (zjG r n who o b)/\Gd q (zjG r n who o b).1:=by
 have ha':atB r n<=(r.Commits.length:Int)-1:=by rcases at_range h.ok n with e |e<;>omega
 have hs:=(zai h.ok).1
 obtain⟨ta,ta2,ta3,ta4⟩:=h.tree (i:=(atB r n).toNat) (by omega)
 have ho:=zaz to2
 have hb:=zaz tb2
 have hj:=zkZ to ta tb (zaj to2) ta3 (zaj tb2) (by omega) (by omega) (by omega)
 have hc:CB ⟨[atB r n],who,(zdQ o (zaA r (atB r n).toNat) b).1⟩:=⟨by simp,hw,hj⟩
 have hjoin:=zl5 to ta tb (zaj to2) ta3 (zaj tb2) (by omega) (by omega) (by omega)
 unfold zev zjG
 rw[zeq h.rb,aA,zdH ha ha',aA]
 unfold zaA at hjoin hc ⊢
 rw[hjoin,aA]
 simp only
 cases decide (0< ((zdQ o (r.Commits.getD (atB r n).toNat noCommit).Tree b).2.length:Int))with
 |true=>exact⟨rfl,h⟩
 |false=>exact⟨zl7 h hn hc,zjD h hn hc⟩
def zhq (r:Repo)(n who:Str)(b:Int):Repo×Int:=bif zae r then(bif zl8 r n who b then(r,1) else zjG r n who (zfw r b.toNat) (zaA r b.toNat)) else(zce,1)
def zha (r:Repo)(n who:Str)(b:Int):Repo×Int:=bif zae r then(bif zl8 r n who b then(r,1) else zjG r n who (zaA r b.toNat) (zfw r b.toNat)) else(zce,1)
theorem zlS {r:Repo}(h:Gd q r){n who:Str}{b:Int}(hn:n.length<=1048576)(hw:who.length<=1048576):zfI r n who b=some (zhq r n who b)/\Gd q (zhq r n who b).1:=by
 unfold zfI zhq
 have hwm:=zap hw
 rw[zeG h.rb,aA,h.ok,aK,aC,aD]
 simp only[jn,zeq h.rb,aA,zbd hwm,zgA,zg9 (zap h.rb.coms),zfO h.rb,show(⟨r.Commits,r.Heads⟩:Repo)=r from rfl]
 rw[show(decide ((0:Int)<=b)&&decide (b<=(r.Commits.length:Int)-1))=upB r.Commits.length b from rfl]
 have key:zl8 r n who b=false->((gi r.Commits b).bind fun u77=>(zdn r b).bind fun z82=>(zev r n who z82 u77.Tree).bind fun z93=>some (z93.1,z93.2))=some (zjG r n who (zfw r b.toNat) (zaA r b.toNat))/\Gd q (zjG r n who (zfw r b.toNat) (zaA r b.toNat)).1:=fun hbad=>by
  obtain⟨p1,p2,p3⟩:=zl9 hbad
  obtain⟨q1,q2,q3⟩:=zkL h p2 p3
  obtain⟨tb,tb2,tb3,tb4⟩:=h.tree (i:=b.toNat) (by have:=(zai h.ok).1;omega)
  obtain⟨u1,u2⟩:=znj h hn hw p1 q2 q3 tb tb2
  rw[zdH p2 p3,aA,q1,aA,show(r.Commits.getD b.toNat noCommit).Tree=zaA r b.toNat from rfl,u1]
  exact⟨rfl,u2⟩
 unfold zl8 at key ⊢
 cases h1:decide (atB r n<0)with
 |true=>exact⟨rfl,h⟩
 |false=>
  cases h2:zaI who with
  |false=>exact⟨rfl,h⟩
  |true=>
   cases h3:upB r.Commits.length b with
   |false=>exact⟨rfl,h⟩
   |true=>exact key (by rw[h1,h2,h3];rfl)
theorem zjT {r:Repo}(h:Gd q r){n who:Str}{b:Int}(hn:n.length<=1048576)(hw:who.length<=1048576):zdX r n who b=some (zha r n who b)/\Gd q (zha r n who b).1:=by
 unfold zdX zha
 have hwm:=zap hw
 rw[zeG h.rb,aA,h.ok,aK,aC,aD]
 simp only[jn,zeq h.rb,aA,zbd hwm,zgA,zg9 (zap h.rb.coms),zfO h.rb,show(⟨r.Commits,r.Heads⟩:Repo)=r from rfl]
 rw[show(decide ((0:Int)<=b)&&decide (b<=(r.Commits.length:Int)-1))=upB r.Commits.length b from rfl]
 have key:zl8 r n who b=false->((gi r.Commits b).bind fun u77=>(zdn r b).bind fun z82=>(zev r n who u77.Tree z82).bind fun z93=>some (z93.1,z93.2))=some (zjG r n who (zaA r b.toNat) (zfw r b.toNat))/\Gd q (zjG r n who (zaA r b.toNat) (zfw r b.toNat)).1:=fun hbad=>by
  obtain⟨p1,p2,p3⟩:=zl9 hbad
  obtain⟨q1,q2,q3⟩:=zkL h p2 p3
  obtain⟨tb,tb2,tb3,tb4⟩:=h.tree (i:=b.toNat) (by have:=(zai h.ok).1;omega)
  obtain⟨u1,u2⟩:=znj h hn hw p1 tb tb2 q2 q3
  rw[zdH p2 p3,aA,q1,aA,show(r.Commits.getD b.toNat noCommit).Tree=zaA r b.toNat from rfl,u1]
  exact⟨rfl,u2⟩
 unfold zl8 at key ⊢
 cases h1:decide (atB r n<0)with
 |true=>exact⟨rfl,h⟩
 |false=>
  cases h2:zaI who with
  |false=>exact⟨rfl,h⟩
  |true=>
   cases h3:upB r.Commits.length b with
   |false=>exact⟨rfl,h⟩
   |true=>exact key (by rw[h1,h2,h3];rfl)
end Go.Vm
namespace Go.Vm
open Go Go.Sx
set_option linter.unusedSimpArgs false
set_option linter.unusedVariables false
def znk (r:Repo)(o:Op)(z:List File×Bool):Repo×Int:=bif z.2 then(bif(zgY r o.Branch o.Who z.1).2 then((zgY r o.Branch o.Who z.1).1,0) else(r,5)) else(r,1)
theorem zot {r:Repo}(h:Good r){n who:Str}{t:List File}(hn:n.length<=1048576)(hw:who.length<=1048576)(ht:TB t):Good (zgY r n who t).1:=by
 unfold zgY
 rw[h.ok,aD]
 cases ho:zae (addR r n (ziS r n who t))with
 |true=>exact h.add hn (CB.next hw ht) ho
 |false=>exact h
theorem zkM {r:Repo}(h:Good r){o:Op}{z:List File×Bool}(hn:o.Branch.length<=1048576)(hw:o.Who.length<=1048576)(hz:TB z.1):zdg r o z.1 z.2=some (znk r o z)/\Good (znk r o z).1:=by
 unfold zdg znk
 have hg:=zot h hn hw hz
 rw[zmT h.rb hn hw hz,aA]
 cases z.2 with
 |false=>exact⟨rfl,h⟩
 |true=>
  cases(zgY r o.Branch o.Who z.1).2 with
  |false=>exact⟨rfl,h⟩
  |true=>exact⟨rfl,hg⟩
def zhV (r:Repo)(n:Str):List File:=bif decide (0<=atB r n) then zaA r (atB r n).toNat else []
def zvQ (r:Repo)(o:Op):Repo×Int:=bif(ziT r o.To (atB r o.Branch)).2 then((ziT r o.To (atB r o.Branch)).1,0) else(r,1)
def doB (r:Repo)(o:Op):Repo×Int:=
 bif o.Kind==1 then znk r o (ztV (zhV r o.Branch) ⟨o.Path,o.Text⟩)
 else bif o.Kind==2 then znk r o (zve (zhV r o.Branch) o.Path)
 else bif o.Kind==3 then znk r o (zp3 (zhV r o.Branch) o.Path o.To)
 else bif o.Kind==4 then zvQ r o
 else bif o.Kind==5 then zp4 r o.Branch o.Who (atB r o.To)
 else bif o.Kind==6 then zhq r o.Branch o.Who o.At
 else zha r o.Branch o.Who o.At
theorem zss {t:List File}(h:TB t)(hs:t.length<=8){g:File}(hg:FB g):TB (ztV t g).1:=by
 unfold ztV
 cases zaK t
 ·exact TB.nil
 ·cases zaK (putF g false t)
  ·exact h
  ·exact h.putF (by omega) hg
theorem zt3 {t:List File}(h:TB t)(p:Str):TB (zve t p).1:=by
 unfold zve
 cases zaK t
 ·exact TB.nil
 ·exact h.dropF p
theorem zst {t:List File}(h:TB t)(p to:Str):TB (zp3 t p to).1:=by
 unfold zp3
 cases htr:zaK t with
 |false=>exact TB.nil
 |true=>
  rw[aD]
  cases he:((((dropF p t).length:Int))==(t.length:Int))with
  |true=>exact h
  |false=>
   cases hpt:zaS to with
   |false=>exact h
   |true=>
    have hs:=zaz htr
    obtain⟨e1,e2⟩:=zo2 h hs (fun f hf=>zcw (za0 htr hf)) (p:=p) (zcw hpt) (K:=fun _ _=>none) t.length 0 (t.length+1) (dropF p t) (by omega) (by omega) (h.dropF p) (by have:=List.length_filter_le (zsY p) t;unfold dropF;omega)
    rw[List.drop_zero]at e2
    simp only[Bool.false_or,aK,aC]
    cases(!zaK (t.foldl (zjg p to) (dropF p t))||(((t.foldl (zjg p to) (dropF p t)).length:Int) !=(t.length:Int)))with
    |true=>exact h
    |false=>exact e2
theorem zsu {r:Repo}(h:Good r){o:Op}(hf:OpFit o)(ho:opB o=true):zj7 r o=some (doB r o)/\Good (doB r o).1:=by
 obtain⟨f0,f1,f2,f3,f4,f5,f6⟩:=hf.fit
 have hbw:zaI o.Branch=true/\zaI o.Who=true:=by
  unfold opB at ho
  simp only[aG]at ho
  exact⟨ho.1,ho.2.1⟩
 have hn:=zbH hbw.1
 have hw:=zbH hbw.2
 have hn':o.Branch.length<=1048576:=by omega
 have hw':o.Who.length<=1048576:=by omega
 have hst:TB (zhV r o.Branch)/\(zhV r o.Branch).length<=8:=by
  unfold zhV
  cases hd:decide (0<=atB r o.Branch)with
  |false=>exact⟨TB.nil,by simp⟩
  |true=>
   have h0:0<=atB r o.Branch:=by simpa using hd
   have ha':atB r o.Branch<=(r.Commits.length:Int)-1:=by rcases at_range h.ok o.Branch with e |e<;>omega
   have:=h.tree (i:=(atB r o.Branch).toNat) (by omega)
   exact⟨this.1,this.2.2.2⟩
 have hfb:FB ⟨o.Path,o.Text⟩:=⟨hf.path,zcO hf.text,f6⟩
 have hto:o.To.length<=1048576:=hf.to
 obtain⟨a1,a2⟩:=zkM h (z:=ztV (zhV r o.Branch) ⟨o.Path,o.Text⟩) hn' hw' (zss hst.1 hst.2 hfb)
 obtain⟨b1,b2⟩:=zkM h (z:=zve (zhV r o.Branch) o.Path) hn' hw' (zt3 hst.1 o.Path)
 obtain⟨c1,c2⟩:=zkM h (z:=zp3 (zhV r o.Branch) o.Path o.To) hn' hw' (zst hst.1 o.Path o.To)
 obtain⟨d1,d2⟩:=zkp h (n:=o.Branch) (who:=o.Who) (b:=atB r o.To) hn' hw'
 obtain⟨e1,e2⟩:=zlS h (n:=o.Branch) (who:=o.Who) (b:=o.At) hn' hw'
 obtain⟨g1,g2⟩:=zjT h (n:=o.Branch) (who:=o.Who) (b:=o.At) hn' hw'
 have hrest: ∀ t,t=zhV r o.Branch->(bif((o.Kind:Int)==(1:Int)) then
  ((Vm.zgd t (Vm.File.mk o.Path o.Text)).bind fun z41=>(Vm.zdg r o z41.1 z41.2).bind fun z53=>some (z53.1,z53.2))
  else(bif((o.Kind:Int)==(2:Int)) then
   ((Vm.ze4 t o.Path).bind fun z79=>(Vm.zdg r o z79.1 z79.2).bind fun z91=>some (z91.1,z91.2))
   else(bif((o.Kind:Int)==(3:Int)) then
    ((Vm.ze5 t o.Path o.To).bind fun z117=>(Vm.zdg r o z117.1 z117.2).bind fun z129=>some (z129.1,z129.2))
    else(bif((o.Kind:Int)==(4:Int)) then
     ((Vm.zdT r o.To (atB r o.Branch)).bind fun z157=>bif(!z157.2) then(some (r,1)) else(some (z157.1,0)))
     else(bif((o.Kind:Int)==(5:Int)) then
      ((Vm.zcB r o.To).bind fun z199=>(Vm.zdy r o.Branch o.Who z199).bind fun z208=>some (z208.1,z208.2))
      else(bif((o.Kind:Int)==(6:Int)) then
       ((Vm.zfI r o.Branch o.Who o.At).bind fun z226=>some (z226.1,z226.2))
       else((Vm.zdX r o.Branch o.Who o.At).bind fun z243=>some (z243.1,z243.2))))))))=some (doB r o)/\Good (doB r o).1:=by
  intro t et
  subst et
  unfold doB
  cases o.Kind==1 with
  |true=>rw[aD,aD,zo1 hst.1 hfb,aA,a1];exact⟨rfl,a2⟩
  |false=>
  cases o.Kind==2 with
  |true=>simp only[aD,aC];rw[zor hst.1,aA,b1];exact⟨rfl,b2⟩
  |false=>
  cases o.Kind==3 with
  |true=>simp only[aD,aC];rw[zos hst.1 _ _ hto,aA,c1];exact⟨rfl,c2⟩
  |false=>
  cases o.Kind==4 with
  |true=>
   simp only[aD,aC]
   rw[zmU h.rb hto,aA]
   unfold zvQ ziT
   rw[h.ok,aD]
   cases hb:(decide (0<=atB r o.To) || !zae (headR r o.To (atB r o.Branch)))with
   |true=>exact⟨rfl,h⟩
   |false=>
    refine⟨rfl,h.head hto ?_⟩
    simp only[Bool.or_eq_false_iff,Bool.not_eq_false']at hb
    exact hb.2
  |false=>
  cases o.Kind==5 with
  |true=>simp only[aD,aC];rw[zeq h.rb,aA,d1];exact⟨rfl,d2⟩
  |false=>
  cases o.Kind==6 with
  |true=>simp only[aD,aC];rw[e1];exact⟨rfl,e2⟩
  |false=>simp only[aD,aC];rw[g1];exact⟨rfl,g2⟩
 unfold zj7
 rw[zeq h.rb,aA]
 simp only[jn]
 cases hd:decide (0<=atB r o.Branch)with
 |false=>
  refine hrest [] ?_
  unfold zhV
  rw[hd];rfl
 |true=>
  have h0:0<=atB r o.Branch:=by simpa using hd
  have ha':atB r o.Branch<=(r.Commits.length:Int)-1:=by rcases at_range h.ok o.Branch with e |e<;>omega
  rw[aD,zdH h0 ha',aA]
  refine hrest _ ?_
  unfold zhV
  rw[hd];rfl
theorem zre:Good zce:=⟨⟨by simp[zce],fun c hc=>by simp[zce]at hc,by simp[zce],fun c hc=>by simp[zce]at hc⟩,rfl,fun _ h=>absurd rfl h⟩
def OpL (o:Op):Prop:=Bk.fit o/\Bk.bulk o<=1000000
theorem zo3 {l:List Op}(hl:l.length<=1000)(ho: ∀ o∈l,OpL o): ∀ (k i m:Nat) (r:Repo),i+k=l.length->k<m->Good r -> ∃ r',Good r'/\zdz l (fun _ y12 y15=>some (Vm.Repo.mk y12 y15)) m (i:Int) r.Commits r.Heads=some r'
 |k,i,0,r,_,hm,_=>by omega
 |0,i,m+1,r,hi,_,hg=>by
  obtain rfl:i=l.length:=by omega
  simp only[zdz,jn,zac,aC]
  exact⟨r,hg,rfl⟩
 |k+1,i,m+1,r,hi,hm,hg=>by
  have hlt:i<l.length:=by omega
  have hx:l[i]? =some l[i]:=aB hlt
  obtain⟨q1,q2⟩:=ho _ (List.getElem_mem hlt)
  have hof:=OpFit.of q1 (by omega)
  simp only[zdz,jn,zal hx,aD]
  cases decide ((i:Int)<30)with
  |false=>exact⟨r,hg,rfl⟩
  |true=>
   rw[aD,zad hx,aA,zsr hof,aA,zab hlt (show l.length<=maxi by unfold maxi;omega)]
   cases hop:opB l[i]with
   |false=>exact zo3 hl ho k (i+1) m r (by omega) (by omega) hg
   |true=>
    obtain⟨e1,e2⟩:=zsu hg hof hop
    rw[aD,aA,show(⟨r.Commits,r.Heads⟩:Repo)=r from rfl,e1,aA]
    exact zo3 hl ho k (i+1) m (doB r l[i]).1 (by omega) (by omega) e2
theorem zou {l:List Op}(hl:l.length<=1000)(ho: ∀ o∈l,OpL o): ∃ r,Good r/\zgV l=some r:=by
 unfold zgV
 simp only[jn]
 exact zo3 hl ho l.length 0 (l.length+1) zce (by omega) (by omega) zre
section
variable {r:l30Rd}{p:Int}
theorem zkq {q k:Int}(h:zfK r p)(hk:0<=k)(hq:p+k<=q):zfK ⟨r.b,r.p+k⟩ q:=h.on k hk (by have:=h.2.2;omega)
theorem zov (h:zfK r p)(hp:p<=1000000000): ∃ s,ze2 r=some (s,r.p+1)/\s.length<=10:=by
 unfold ze2
 obtain⟨s,e,hm⟩:=zni h (by omega) (l:=[([109,97,105,110]:Str),([109,97,105,110]:Str),([115,105,100,101]:Str),([100,101,118]:Str)]) (by simp) (by simp)
 refine⟨s,by rw[e];rfl,?_⟩
 simp only[List.mem_cons,List.not_mem_nil,or_false]at hm
 rcases hm with e |e |e |e<;>rw[e]<;>simp
theorem zrf (h:zfK r p)(hp:p<=1000000000): ∃ s,zfi r=some (s,r.p+1)/\s.length<=10:=by
 unfold zfi
 obtain⟨s,e,hm⟩:=zni h (by omega) (l:=[([97]:Str),([98]:Str),([100,47,101]:Str),([100,47,102]:Str),([103,47,104,47,105]:Str),([103,47,107]:Str),([122]:Str)]) (by simp) (by simp)
 refine⟨s,by rw[e];rfl,?_⟩
 simp only[List.mem_cons,List.not_mem_nil,or_false]at hm
 rcases hm with e |e |e |e |e |e |e<;>rw[e]<;>simp
theorem zme {k a:Int}{b w q t:Str}{l:List Str}(hk:0<=k/\k<=100)(ha:0<=a/\a<=100)(h1:b.length<=10)(h2:w.length<=10)(h3:q.length<=10)(h4:t.length<=10)(h5:LB 8 l):OpL ⟨k,b,w,q,t,a,l⟩:=by
 have hb:=h5.bulk
 refine⟨⟨?_,?_,?_,?_,?_,?_,h5.fit (by omega)⟩,?_⟩
 ·show -9223372036854775808<=k/\k<=9223372036854775807;omega
 ·show b.length<=maxi;unfold maxi;omega
 ·show w.length<=maxi;unfold maxi;omega
 ·show q.length<=maxi;unfold maxi;omega
 ·show t.length<=maxi;unfold maxi;omega
 ·show -9223372036854775808<=a/\a<=9223372036854775807;omega
 ·show 0+(b.length+(w.length+(q.length+(t.length+(0+Bk.bulk l)))))<=_
  omega
theorem znl:LB 8 ([]:List Str):=⟨by simp,fun s hs=>by simp at hs⟩
theorem zyz (h:zfK r p)(hp:p<=1000000): ∃ o q,zj5 r=some (o,q)/\OpL o/\zfK ⟨r.b,q⟩ (p+100):=by
 unfold zj5
 obtain⟨b,e1,hb⟩:=zov h (by omega)
 have h1:=zkq (q:=p+1) h (k:=1) (by omega) (by omega)
 obtain⟨w,e2,hw⟩:=zni h1 (by omega) (l:=[([97,110,110]:Str),([98,111,98]:Str),([99,105,100]:Str)]) (by simp) (by simp)
 have hwl:w.length<=10:=by
  simp only[List.mem_cons,List.not_mem_nil,or_false]at hw
  rcases hw with e |e |e<;>rw[e]<;>simp
 have h2:=zkq (q:=p+2) h1 (k:=1) (by omega) (by omega)
 obtain⟨k,e3,k0,k1⟩:=zgB h2 (n:=12) (by omega) (by omega) (by omega)
 have h3:=zkq (q:=p+3) h2 (k:=1) (by omega) (by omega)
 rw[e1,aA,e2,aA]
 simp only[jn,e3,aA]
 obtain⟨pa,e4,hpa⟩:=zrf h3 (by omega)
 have h4:=zkq (q:=p+4) h3 (k:=1) (by omega) (by omega)
 obtain⟨pb,e5,hpb⟩:=zrf h4 (by omega)
 have h5:=zkq (q:=p+5) h4 (k:=1) (by omega) (by omega)
 obtain⟨fo,e6,hfo⟩:=zni h3 (by omega) (l:=[([115,105,100,101]:Str),([100,101,118]:Str),([111,108,100]:Str)]) (by simp) (by simp)
 have hfl:fo.length<=10:=by
  simp only[List.mem_cons,List.not_mem_nil,or_false]at hfo
  rcases hfo with e |e |e<;>rw[e]<;>simp
 obtain⟨br,e7,hbr⟩:=zov h3 (by omega)
 obtain⟨n,e8,n0,n1⟩:=zgB h3 (n:=10) (by omega) (by omega) (by omega)
 obtain⟨t,q,e9,ht,hq⟩:=zt1 h4 (by omega)
 simp only[e4,e5,e6,e7,e8,e9,aA]
 have g4:zfK ⟨r.b,r.p+1+1+1+1⟩ (p+100):=zkq h3 (by omega) (by omega)
 have g5:zfK ⟨r.b,r.p+1+1+1+1+1⟩ (p+100):=zkq h4 (by omega) (by omega)
 have gq:zfK ⟨r.b,q⟩ (p+100):=⟨hq.1,hq.2.1,by have:=hq.2.2;show q<=_;have e:(⟨r.b,q⟩:l30Rd).p=q:=rfl;rw[e]at this;omega⟩
 cases k==0 with
 |true=>exact⟨_,_,rfl,zme (by omega) (by omega) hb hwl hpa (by simp) znl,g4⟩
 |false=>
 cases k==1 with
 |true=>exact⟨_,_,rfl,zme (by omega) (by omega) hb hwl hpa hpb znl,g5⟩
 |false=>
 have hfork:=zme (k:=4) (a:=0) (by omega) (by omega) hb hwl (q:=[]) (by simp) hfl znl
 have huni:=zme (k:=5) (a:=0) (by omega) (by omega) hb hwl (q:=[]) (by simp) hbr znl
 have hset:=zme (k:=1) (a:=0) (by omega) (by omega) hb hwl hpa (t:=[]) (by simp) ht
 cases k==2 with
 |true=>exact⟨_,_,rfl,hfork,g4⟩
 |false=>
 cases k==3 with
 |true=>exact⟨_,_,rfl,hfork,g4⟩
 |false=>
 cases k==4 with
 |true=>exact⟨_,_,rfl,huni,g4⟩
 |false=>
 cases k==5 with
 |true=>exact⟨_,_,rfl,huni,g4⟩
 |false=>
 cases k==6 with
 |true=>exact⟨_,_,rfl,huni,g4⟩
 |false=>
 cases k==7 with
 |true=>exact⟨_,_,rfl,zme (by omega) (by omega) hb hwl (by simp) (by simp) znl,g4⟩
 |false=>
 cases k==8 with
 |true=>exact⟨_,_,rfl,zme (by omega) (by omega) hb hwl (by simp) (by simp) znl,g4⟩
 |false=>exact⟨_,_,rfl,hset,gq⟩
theorem zs8 {x0:l30Rd}: ∀ (m:Nat) (out:List Op) (n q p:Int),0<=n->n<m->(∀ o∈out,OpL o)->zfK ⟨x0.b,q⟩ p->p+100*n<=1000000->out.length+n<=100->
 ∃ l q',zgc x0 (fun y15 _ y19=>some (y15,y19)) m out n q=some (l,q')/\(∀ o∈l,OpL o)/\l.length<=100/\zfK ⟨x0.b,q'⟩ (p+100*n)
 |0,out,n,q,p,h0,hm,_,_,_,_=>by omega
 |m+1,out,n,q,p,h0,hm,ho,hr,hp,hl=>by
  simp only[zgc]
  by_cases hn:0<n
  ·obtain⟨o,q1,e1,o1,r1⟩:=zyz hr (by omega)
   rw[aF hn,aD,e1,aA,ap1 (show out.length<=1048576 by omega),aA,zah (by omega) (by omega)]
   obtain⟨l,q',e2,l1,l2,r2⟩:=zs8 (x0:=x0) m (out++[o]) (n-1) q1 (p+100) (by omega) (by omega) (fun x hx=>by
    rcases List.mem_append.1 hx with h1 |h1
    ·exact ho x h1
    ·rw[List.mem_singleton]at h1;rw[h1];exact o1) r1 (by omega) (by simp;omega)
   exact⟨l,q',e2,l1,l2,⟨r2.1,r2.2.1,by have e:(⟨x0.b,q'⟩:l30Rd).p<=p+100+100*(n-1):=r2.2.2;show q'<=_;have e':q'<=p+100+100*(n-1):=e;omega⟩⟩
  ·rw[aE hn,aC]
   exact⟨out,q,rfl,ho,by omega,⟨hr.1,hr.2.1,by have e:q<=p:=hr.2.2;show q<=_;omega⟩⟩
theorem zvR (h:zfK r p)(hp:p<=100000): ∃ l q,ziX r=some (l,q)/\(∀ o∈l,OpL o)/\l.length<=100/\zfK ⟨r.b,q⟩ (p+2001):=by
 unfold ziX
 obtain⟨n,e,hm⟩:=zrP h (by omega) (l:=[0,3,8,14,20]) (by simp) (by simp)
 have hn:0<=n/\n<=20:=by
  simp only[List.mem_cons,List.not_mem_nil,or_false]at hm
  omega
 have h1:=zkq (q:=p+1) h (k:=1) (by omega) (by omega)
 rw[e,aA]
 simp only[jn]
 obtain⟨l,q,e2,l1,l2,r2⟩:=zs8 (x0:=r) ((n-0).toNat+1) [] n (r.p+1) (p+1) hn.1 (by omega) (fun x hx=>by simp at hx) h1 (by omega) (by simp;omega)
 exact⟨l,q,e2,l1,l2,⟨r2.1,r2.2.1,by have:=r2.2.2;omega⟩⟩
theorem zt4 (h:zfK r p)(hp:p<=100000): ∃ x q,zhA r=some (x,q)/\Good x/\zfK ⟨r.b,q⟩ (p+2001):=by
 obtain⟨l,q,e,l1,l2,r2⟩:=zvR h hp
 obtain⟨x,hx,e2⟩:=zou (by omega) l1
 refine⟨x,q,?_,hx,r2⟩
 unfold zhA
 rw[e,aA,e2,aA,zfO hx.rb,aA]
structure Drawn (r:Repo):Prop where
 rb:RpB r
 coms:r.Commits.length<=16
 heads:r.Heads.length<=6
theorem Gd.drawn {r:Repo}(h:Gd True r):Drawn r:=by
 obtain⟨s1,s2⟩:=zai h.ok
 exact⟨h.rb,s1,by omega⟩
theorem zs9 {x:Repo}(h:RpB x){i:Nat}{c:Commit}(hc:CB c):RpB ⟨x.Commits.set i c,x.Heads⟩:=
 ⟨by simp;exact h.coms,fun y hy=>by
  rcases List.mem_or_eq_of_mem_set hy with h1 |h1
  ·exact h.com y h1
  ·rw[h1];exact hc,h.heads,h.head⟩
theorem zp5 (h:zfK r p)(hp:p<=100000): ∃ x q,zfl r=some (x,q)/\Drawn x/\zfK ⟨r.b,q⟩ (p+2010):=by
 obtain⟨x,q,e,hg,r2⟩:=zt4 h hp
 obtain⟨s1,s2⟩:=zai hg.ok
 have hd:=hg.drawn
 unfold zfl
 rw[e,aA]
 simp only[jn]
 have rq:zfK ⟨r.b,q⟩ (p+2010):=⟨r2.1,r2.2.1,by have:=r2.2.2;omega⟩
 cases hc:decide ((0:Int)< (x.Commits.length:Int))with
 |false=>exact⟨x,q,rfl,hd,rq⟩
 |true=>
  have h0:(0:Int)< (x.Commits.length:Int):=by simpa using hc
  obtain⟨k,e3,k0,k1⟩:=zgB r2 (n:=(x.Commits.length:Int)) (by omega) h0 (by omega)
  have r3:zfK ⟨r.b,q+1⟩ (p+2002):=zkq (q:=p+2002) r2 (k:=1) (by omega) (by omega)
  obtain⟨z,e4,z0,z1⟩:=zgB r3 (n:=16) (by omega) (by omega) (by omega)
  have r4:zfK ⟨r.b,q+1+1⟩ (p+2010):=zkq (q:=p+2010) r3 (k:=1) (by omega) (by omega)
  obtain⟨n,rfl⟩:=Int.eq_ofNat_of_zero_le k0
  have hn:n<x.Commits.length:=by omega
  have hx:x.Commits[n]? =some x.Commits[n]:=aB hn
  have hcb:=hg.rb.cat hx
  simp only at e3 e4
  simp only[aD,e3,e4,aA]
  cases z==0 with
  |true=>
   rw[aD,zad hx,aA,zbN hn,aA]
   exact⟨_,_,rfl,⟨zs9 hg.rb ⟨by simp,hcb.who,hcb.tree⟩,by simp;exact s1,hd.heads⟩,r4⟩
  |false=>
  cases z==1 with
  |true=>
   rw[aC,aD,zad hx,aA,zbN hn,aA]
   exact⟨_,_,rfl,⟨zs9 hg.rb ⟨hcb.par,by simp,hcb.tree⟩,by simp;exact s1,hd.heads⟩,r4⟩
  |false=>
  cases z==2 with
  |true=>
   have hne:x.Heads≠ []:=hg.hd trivial (fun e=>by rw[e]at hn;simp at hn)
   have hh:x.Heads[0]? =some (x.Heads[0]'(List.length_pos_iff.2 hne)):=aB _
   rw[aC,aC,aD,show gi x.Heads 0=some (x.Heads[0]'(List.length_pos_iff.2 hne)) from zad (i:=0) hh,aA,ap1 hg.rb.heads,aA]
   refine⟨_,_,rfl,⟨⟨hg.rb.coms,hg.rb.com,by simp;omega,fun y hy=>?_⟩,s1,by simp;omega⟩,r4⟩
   rcases List.mem_append.1 hy with h1 |h1
   ·exact hg.rb.head y h1
   ·rw[List.mem_singleton]at h1;rw[h1];exact hg.rb.head _ (List.getElem_mem _)
  |false=>exact⟨x,_,rfl,hd,r4⟩
theorem zyA {code:List Byte}(h:code.length<=1048576): ∃ b:List Byte,zga code=some ⟨b,0⟩/\zfK ⟨b,0⟩ 0:=by
 obtain⟨b,e,hb⟩:=ztZ h
 exact⟨b,e,hb,by show(0:Int)<=0;omega,by show(0:Int)<=0;omega⟩
end
inductive Rc (r:Repo):Nat->Nat->Prop
 |refl (a:Nat):Rc r a a
 |step {a b:Nat} {p:Int}:Rc r a b->p∈zag r b->Rc r a p.toNat
theorem Rc.trans {r:Repo}{a b c:Nat}(h:Rc r a b)(k:Rc r b c):Rc r a c:=by
 induction k with
 |refl=>exact h
 |step _ hp ih=>exact Rc.step ih hp
theorem Rc.head {r:Repo}{a c:Nat}(h:Rc r a c):c=a \/ ∃ p∈zag r a,Rc r p.toNat c:=by
 induction h with
 |refl=>exact .inl rfl
 | @step b p hb hp ih=>
  rcases ih with e |⟨q,hq,hc⟩
  ·subst e
   exact .inr ⟨p,hp,Rc.refl _⟩
  ·exact .inr ⟨q,hq,Rc.step hc hp⟩
theorem Rc.le {r:Repo}(hr:zae r=true){a c:Nat}(ha:a<r.Commits.length)(h:Rc r a c):c<=a/\c<r.Commits.length:=by
 induction h with
 |refl=>exact⟨Nat.le_refl _,ha⟩
 |step _ hp ih=>
  have:=(za2 hr ih.2).2 _ hp
  omega
def mkd (mk:List Bool)(j:Nat):Prop:=mk.getD j false=true
theorem zlM {mk:List Bool}{j:Nat}(h:mkd mk j):j<mk.length:=by
 unfold mkd at h
 rcases Nat.lt_or_ge j mk.length with h1 |h1
 ·exact h1
 ·rw[List.getD,List.getElem?_eq_none (by omega)]at h;simp at h
theorem zmJ {mk:List Bool}{p:Int}{j:Nat}:mkd (zmH mk p) j↔mkd mk j\/(j=p.toNat/\j<mk.length):=by
 unfold mkd zmH
 by_cases e:p.toNat=j
 ·subst e
  by_cases hl:p.toNat<mk.length
  ·simp[List.getD,hl]
  ·rw[List.set_eq_of_length_le (by omega)]
   simp[hl]
 ·simp only[List.getD,List.getElem?_set_ne e]
  constructor
  ·exact .inl
  ·rintro(h |⟨h,_⟩)
   ·exact h
   ·exact absurd h.symm e
theorem zlx: ∀ (ps:List Int) (mk:List Bool) (j:Nat),mkd (ps.foldl zmH mk) j↔mkd mk j\/(∃ p∈ps,j=p.toNat/\j<mk.length)
 | [],mk,j=>by simp
 |p::ps,mk,j=>by
  rw[List.foldl_cons,zlx ps,zmJ,zin]
  constructor
  ·rintro((h |h) |⟨q,hq,h⟩)
   ·exact .inl h
   ·exact .inr ⟨p,by simp,h⟩
   ·exact .inr ⟨q,List.mem_cons_of_mem _ hq,h⟩
  ·rintro(h |⟨q,hq,h⟩)
   ·exact .inl (.inl h)
   ·rcases List.mem_cons.1 hq with e |e
    ·subst e;exact .inl (.inr h)
    ·exact .inr ⟨q,e,h⟩
theorem stepM_mkd {r:Repo}{i:Nat}{mk:List Bool}{j:Nat}:mkd (zlr r i mk) j↔mkd mk j\/(mkd mk i /\ ∃ p∈zag r i,j=p.toNat/\j<mk.length):=by
 unfold zlr
 cases hb:mk.getD i false with
 |true=>
  rw[aD,zlx]
  constructor
  ·rintro(h |h)
   ·exact .inl h
   ·exact .inr ⟨hb,h⟩
  ·rintro(h |⟨_,h⟩)
   ·exact .inl h
   ·exact .inr h
 |false=>
  rw[aC]
  constructor
  ·exact .inl
  ·rintro(h |⟨h,_⟩)
   ·exact h
   ·unfold mkd at h;rw[hb]at h;cases h
def zvP (r:Repo)(a i:Nat)(mk:List Bool):Prop:=(∀ j,mkd mk j->Rc r a j)/\mkd mk a /\ ∀ j,i<=j->mkd mk j -> ∀ p∈zag r j,mkd mk p.toNat
theorem zjP {r:Repo}(hr:zae r=true){a:Nat}: ∀ (i:Nat) (mk:List Bool),i<=r.Commits.length->mk.length=r.Commits.length->zvP r a i mk->zvP r a 0 (zfb r i mk)
 |0,mk,_,_,h=>h
 |i+1,mk,hi,hl,h=>by
  unfold zfb
  refine zjP hr i _ (by omega) (by rw[zgM];exact hl) ?_
  obtain⟨h1,h2,h3⟩:=h
  have hp:=(za2 hr (show i<r.Commits.length by omega)).2
  refine⟨fun j hj=>?_,stepM_mkd.2 (.inl h2),fun j hij hj p hpj=>?_⟩
  ·rcases stepM_mkd.1 hj with h |⟨h,p,hpp,e,_⟩
   ·exact h1 j h
   ·rw[e];exact Rc.step (h1 i h) hpp
  ·have hj':mkd mk j:=by
    rcases stepM_mkd.1 hj with h |⟨h,q,hqq,e,_⟩
    ·exact h
    ·have:=hp q hqq;omega
   have hjl:=zlM hj'
   have hpb:=(za2 hr (show j<r.Commits.length by omega)).2 p hpj
   rcases Nat.lt_or_ge i j with h4 |h4
   ·exact stepM_mkd.2 (.inl (h3 j (by omega) hj' p hpj))
   ·have e:j=i:=by omega
    subst e
    exact stepM_mkd.2 (.inr ⟨hj',p,hpj,rfl,by omega⟩)
theorem zdM {r:Repo}(hr:zae r=true){a:Nat}(ha:a<r.Commits.length)(j:Nat):mkd (zar r a) j↔Rc r a j:=by
 have h0:zvP r a (a+1) ((List.replicate r.Commits.length false).set a true):=by
  have hm: ∀ j,mkd ((List.replicate r.Commits.length false).set a true) j↔j=a:=fun j=>by
   have:=zmJ (mk:=List.replicate r.Commits.length false) (p:=(a:Int)) (j:=j)
   unfold zmH at this
   rw[Int.toNat_natCast]at this
   rw[this]
   constructor
   ·rintro(h |h)
    ·unfold mkd at h
     rw[List.getD,List.getElem?_replicate]at h
     split at h<;>simp at h
    ·exact h.1
   ·intro e
    exact .inr ⟨e,by rw[e];simpa using ha⟩
  refine⟨fun j hj=>?_,(hm a).2 rfl,fun j hij hj=>?_⟩
  ·rw[(hm j).1 hj];exact Rc.refl _
  ·have:=(hm j).1 hj;omega
 have h:=zjP hr (a+1) _ (by omega) (by simp) h0
 constructor
 ·exact h.1 j
 ·intro hc
  induction hc with
  |refl=>exact h.2.1
  |step _ hp ih=>exact h.2.2 _ (Nat.zero_le _) ih _ hp
theorem zby {r:Repo}(hr:zae r=true){a:Int}(h0:0<=a)(h1:a<=(r.Commits.length:Int)-1)(x:Int):x∈zaX r a↔0<=x/\Rc r a.toNat x.toNat:=by
 unfold zaX zkw
 rw[zbu,List.mem_map]
 constructor
 ·rintro⟨i,hi,rfl⟩
  rw[List.mem_filter,List.mem_range]at hi
  exact⟨Int.natCast_nonneg i,(zdM hr (show a.toNat<r.Commits.length by omega) i).1 hi.2⟩
 ·rintro⟨hx,h⟩
  have hl:=(h.le hr (by omega)).2
  exact⟨x.toNat,List.mem_filter.2 ⟨List.mem_range.2 hl,(zdM hr (show a.toNat<r.Commits.length by omega) x.toNat).2 h⟩,Int.toNat_of_nonneg hx⟩
theorem zaY {l:List Int}{n:Int}:zeT l n=true↔n∈l:=by
 unfold zeT
 rw[List.any_eq_true]
 constructor
 ·rintro⟨x,hx,e⟩
  have:x=n:=by simpa using e
  rw[<- this];exact hx
 ·intro h
  exact⟨n,h,by simp⟩
def zhp (l:List Int):Prop:=l.Pairwise (· < ·)
theorem zkm (n:Nat):(List.range n).Pairwise (· < ·):=List.pairwise_lt_range
theorem zhI (mk:List Bool):zhp (zkw mk):=by
 unfold zhp zkw
 rw[List.pairwise_map]
 exact((zkm _).sublist (List.filter_sublist)).imp fun h=>by simpa using h
theorem zgP (r:Repo)(a:Int):zhp (zaX r a):=zhI _
theorem zhp.ext: ∀ {xs ys:List Int},zhp xs->zhp ys->(∀ a,a∈xs↔a∈ys)->xs=ys
 | [],[],_,_,_=>rfl
 | [],y::ys,_,_,h=>by have:=(h y).2 (by simp);simp at this
 |x::xs,[],_,_,h=>by have:=(h x).1 (by simp);simp at this
 |x::xs,y::ys,hx,hy,h=>by
  have hx':=List.pairwise_cons.1 hx
  have hy':=List.pairwise_cons.1 hy
  have e:x=y:=by
   rcases List.mem_cons.1 ((h x).1 (by simp))with e |hm
   ·exact e
   ·rcases List.mem_cons.1 ((h y).2 (by simp))with e |hm2
    ·exact e.symm
    ·have h1:=hx'.1 y hm2
     have h2:=hy'.1 x hm
     omega
  subst e
  rw[zhp.ext hx'.2 hy'.2 (fun a=>by
   constructor
   ·intro ha
    rcases List.mem_cons.1 ((h a).1 (List.mem_cons_of_mem _ ha))with e2 |e2
    ·have:=hx'.1 a ha;omega
    ·exact e2
   ·intro ha
    rcases List.mem_cons.1 ((h a).2 (List.mem_cons_of_mem _ ha))with e2 |e2
    ·have:=hy'.1 a ha;omega
    ·exact e2)]
theorem zoe {r:Repo}(h:zae r=true){i:Nat}(hi:i<r.Commits.length){F:List Bool->Option (List Bool)}: ∀ (j k m:Nat) (mk:List Bool),k+j=(zag r i).length->j<m->mk.length=r.Commits.length->
 za1 F (r.Commits.getD i noCommit) m (k:Int) mk=F (((zag r i).drop k).foldl zmH mk)
 |j,k,0,mk,_,hm,_=>by omega
 |0,k,m+1,mk,hk,_,hl=>by
  obtain rfl:k=(zag r i).length:=by omega
  have e:(r.Commits.getD i noCommit).Parents=zag r i:=rfl
  simp only[za1,e,zac,aC,List.drop_length,List.foldl_nil]
 |j+1,k,m+1,mk,hk,hm,hl=>by
  have hlt:k< (zag r i).length:=by omega
  have hx:(zag r i)[k]? =some (zag r i)[k]:=aB hlt
  obtain⟨hs,hp⟩:=za2 h hi
  obtain⟨p0,p1⟩:=hp _ (List.getElem_mem hlt)
  have e:(r.Commits.getD i noCommit).Parents=zag r i:=rfl
  have hn:(((zag r i)[k].toNat:Nat):Int)=(zag r i)[k]:=by omega
  have hg:gi mk (zag r i)[k]=some (mk.getD (zag r i)[k].toNat false):=by
   rw[<- hn]
   exact zcx (by omega)
  have hsi:siM mk (zag r i)[k] true=some (zmH mk (zag r i)[k]):=by
   have:=zbN (xs:=mk) (i:=(zag r i)[k].toNat) (by omega) true
   rw[hn]at this
   exact this
  simp only[za1,e,zal hx,aD,zad hx,hg,hsi,aA]
  rw[zab hlt (by unfold maxi;omega),zoe h hi j (k+1) m _ (by omega) (by omega) (by rw[zin];exact hl),aI hlt,List.foldl_cons]
theorem zof {r:Repo}(h:zae r=true): ∀ (i m:Nat) (mk:List Bool),i<=r.Commits.length->i<m->mk.length=r.Commits.length->
 zaL r (fun _ y=>some y) m ((i:Int)-1) mk=some (zfb r i mk)
 |i,0,mk,_,hm,_=>by omega
 |0,m+1,mk,_,_,_=>by
  simp only[zaL]
  rw[aE (by omega)]
  rfl
 |i+1,m+1,mk,hi,hm,hl=>by
  have hs:=(zai h).1
  have hil:i<r.Commits.length:=by omega
  have e:(((i+1:Nat):Int))-1=(i:Int):=by omega
  have e0:(r.Commits.getD i noCommit).Parents=zag r i:=rfl
  have hstep:(((i:Int)-1))=(i:Int)-1:=rfl
  simp only[zaL,jn,e]
  rw[aF (by omega),aD,zcx (by omega),aA]
  have ih:=zof h i m (zlr r i mk) (by omega) (by omega) (by rw[zgM];exact hl)
  unfold zfb
  rw[<- ih]
  unfold zlr
  have hw:w64 ((i:Int)-1)=(i:Int)-1:=zg9 (show i<=maxi by unfold maxi;omega)
  cases mk.getD i false with
  |false=>simp only[aC,hw]
  |true=>
   have h2:=zoe h hil (F:=fun y27=>zaL r (fun _ y=>some y) m (w64 ((i:Int)-1)) y27) (zag r i).length 0 ((zag r i).length+1) mk (by omega) (by omega) hl
   simp only[aD,zlL hil,aA,e0,zan]
   refine h2.trans ?_
   rw[List.drop_zero,hw]
theorem zdp {r:Repo}(h:zae r=true){a:Int}(h0:0<=a)(h1:a<=(r.Commits.length:Int)-1):zaQ r a=some (zar r a.toNat):=by
 have hs:=(zai h).1
 obtain⟨n,rfl⟩:=Int.eq_ofNat_of_zero_le h0
 have hn:n<r.Commits.length:=by omega
 have hl:(List.replicate r.Commits.length false).length=r.Commits.length:=by simp
 unfold zaQ zar
 rw[zhY (by simp[lim];omega),aA,zcx (by rw[hl];exact hn),aA,zbN (by rw[hl];exact hn),aA]
 simp only[jn]
 have e:=zof h (n+1) (((n:Int)+1-0).toNat+1) ((List.replicate r.Commits.length false).set n true) (by omega) (by omega) (by simp)
 rw[show(((n+1:Nat):Int))-1=(n:Int) by omega]at e
 refine e.trans ?_
 rw[Int.toNat_natCast]
theorem ziO {mk:List Bool}(hl:mk.length<=1000): ∀ (k i m:Nat) (out:List Int),i+k=mk.length->k<m->out.length<=i->
 zc6 mk (fun y69 _=>some y69) m out (i:Int)=some (out++((List.range' i k).filter fun i=>mk.getD i false).map Int.ofNat)
 |k,i,0,out,_,hm,_=>by omega
 |0,i,m+1,out,hi,_,_=>by
  obtain rfl:i=mk.length:=by omega
  simp only[zc6,zac,aC]
  simp
 |k+1,i,m+1,out,hi,hm,ho=>by
  have hlt:i<mk.length:=by omega
  have hx:mk[i]? =some mk[i]:=aB hlt
  simp only[zc6,jn,zal hx,aD,zcx hlt,aA,zab hlt (show mk.length<=maxi by unfold maxi;omega),ap1 (x:=(i:Int)) (show out.length<=1048576 by omega)]
  rw[List.range'_succ,List.filter_cons]
  cases hb:mk.getD i false with
  |true=>
   rw[aD,ziO hl k (i+1) m _ (by omega) (by omega) (by simp;omega),if_pos rfl]
   simp
  |false=>
   rw[aC,ziO hl k (i+1) m _ (by omega) (by omega) (by omega),if_neg (by simp)]
theorem ziP {mk:List Bool}(hl:mk.length<=1000):zbO mk=some (zkw mk):=by
 unfold zbO zkw
 simp only[jn,zan]
 rw[show(0:Int)=((0:Nat):Int) from rfl,ziO hl mk.length 0 (mk.length+1) [] (by omega) (by omega) (by simp),List.range_eq_range']
 rfl
theorem TB.of {t:List File}(hf:Bk.fit t)(h:Bk.bulk t<=1048576):TB t:=⟨zcO h,fun f hm=>by
 have h1:Bk.bulk f<=1048576:=zjA h hm
 have h2:Bk.bulk f=f.Path.length+Bk.bulk f.Text:=rfl
 exact⟨by omega,zcO (show Bk.bulk f.Text<=1048576 by omega),(hf.2 f hm).2⟩⟩
theorem RpB.of {r:Repo}(hf:Bk.fit r)(h:Bk.bulk r<=1048576):RpB r:=by
 have h0:Bk.bulk r=Bk.bulk r.Commits+Bk.bulk r.Heads:=rfl
 have hc:Bk.bulk r.Commits<=1048576:=by omega
 have hh:Bk.bulk r.Heads<=1048576:=by omega
 refine⟨zcO hc,fun c hm=>?_,zcO hh,fun x hm=>?_⟩
 ·have h1:Bk.bulk c<=1048576:=zjA hc hm
  have h2:Bk.bulk c=Bk.bulk c.Parents+(c.Who.length+Bk.bulk c.Tree):=rfl
  exact⟨zcO (show Bk.bulk c.Parents<=1048576 by omega),by omega,TB.of (hf.1.2 c hm).2.2 (by omega)⟩
 ·have h1:Bk.bulk x<=1048576:=zjA hh hm
  have h2:Bk.bulk x=x.Name.length+0:=rfl
  omega
theorem zsv (x:Repo):(⟨x.Commits,x.Heads⟩:Repo)=x:=rfl
theorem zly {R α σ:Type} {xs:List α} {g:σ->α->σ} {I:σ->Prop} {f:Nat->Int->σ->Option R} {Z:σ->Option R}
 (hs: ∀ m (i:Nat) x s,xs[i]? =some x->I s->f (m+1) (i:Int) s=f m ((i+1:Nat):Int) (g s x)/\I (g s x)) (he: ∀ m s,I s->f (m+1) (xs.length:Int) s=Z s):
 ∀ (k i m:Nat) (s:σ),i+k=xs.length->k<m->I s->f m (i:Int) s=Z ((xs.drop i).foldl g s)/\I ((xs.drop i).foldl g s)
 |k,i,0,s,_,hm,_=>by omega
 |0,i,m+1,s,hi,_,h=>by
  obtain rfl:i=xs.length:=by omega
  rw[List.drop_length,List.foldl_nil]
  exact⟨he m s h,h⟩
 |k+1,i,m+1,s,hi,hm,h=>by
  have hlt:i<xs.length:=by omega
  obtain⟨e1,e2⟩:=hs m i xs[i] s (aB hlt) h
  rw[e1,aI hlt,List.foldl_cons]
  exact zly hs he k (i+1) m _ (by omega) (by omega) e2
theorem zjQ {R α σ:Type} {xs:List α} {g:σ->α->σ} {I:σ->Prop} {f:Nat->Int->σ->Option R} {Z:σ->Option R} {s:σ} (h:I s)
 (hs: ∀ m (i:Nat) x s,xs[i]? =some x->I s->f (m+1) (i:Int) s=f m ((i+1:Nat):Int) (g s x)/\I (g s x)) (he: ∀ m s,I s->f (m+1) (xs.length:Int) s=Z s):f (xs.length+1) 0 s=Z (xs.foldl g s):=by
 have:=(zly hs he xs.length 0 (xs.length+1) s (by omega) (by omega) h).1
 rwa [List.drop_zero]at this
theorem zlz {α:Type}(q:α->Bool): ∀ (xs:List α) (b:Bool),xs.foldl (fun b x=>b&&q x) b=(b&&xs.all q)
 | [],b=>by simp
 |x::xs,b=>by rw[List.foldl_cons,zlz q xs,List.all_cons,Bool.and_assoc]
theorem zkn {α:Type}(q:α->Bool): ∀ (xs:List α) (b:Bool),xs.foldl (fun b x=>b||q x) b=(b||xs.any q)
 | [],b=>by simp
 |x::xs,b=>by rw[List.foldl_cons,zkn q xs,List.any_cons,Bool.or_assoc]
theorem zko {mk:List Bool}{x:Int}:x∈zkw mk↔0<=x/\mkd mk x.toNat:=by
 unfold zkw
 rw[List.mem_map]
 constructor
 ·rintro⟨i,hi,rfl⟩
  rw[List.mem_filter]at hi
  exact⟨Int.natCast_nonneg i,hi.2⟩
 ·rintro⟨hx,h⟩
  exact⟨x.toNat,List.mem_filter.2 ⟨List.mem_range.2 (zlM h),h⟩,Int.toNat_of_nonneg hx⟩
theorem zoK (mk:List Bool):(zkw mk).length<=mk.length:=by
 unfold zkw
 rw[List.length_map]
 exact Nat.le_trans (List.length_filter_le _ _) (by simp)
section
variable {r:l30Rd}{p:Int}
end
def znx (p:Int):Prop:= -9223372036854775808<=p/\p<=9223372036854775807
section
variable {r:Repo}{has:List Int}{sent:List Commit}
end
set_option linter.unusedSectionVars false
structure SentB (sent:List Commit):Prop where
 len:sent.length<=16
 cb: ∀ c∈sent,CB c
 fit: ∀ c∈sent,∀ p∈c.Parents,znx p
theorem SentB.take {sent:List Commit}(h:SentB sent)(k:Nat):SentB (sent.take k):=
 ⟨Nat.le_trans (List.length_take_le' k sent) h.len,fun c hc=>h.cb c (List.mem_of_mem_take hc),fun c hc=>h.fit c (List.mem_of_mem_take hc)⟩
theorem SentB.set {sent:List Commit}(h:SentB sent){c:Commit}(hc:CB c)(hf: ∀ p∈c.Parents,znx p)(k:Nat):SentB (sent.set k c):=
 ⟨by rw[List.length_set];exact h.len,fun d hd=>by
  rcases List.mem_or_eq_of_mem_set hd with q |q
  ·exact h.cb d q
  ·rw[q];exact hc,fun d hd=>by
  rcases List.mem_or_eq_of_mem_set hd with q |q
  ·exact h.fit d q
  ·rw[q];exact hf⟩
section
variable {x:Repo}(hr:zae x=true){a b:Int}(ha:upB x.Commits.length a=true)(hb:upB x.Commits.length b=true)
include hr ha
include hb
end
theorem zoi {t:List File}(h:TB t)(p:Str):zgR t p=some (getT t p):=by
 have hm:=h.maxi
 unfold zgR getT
 simp only[jn,zan]
 rw[zdP (p:=fun f:File=>f.Path==p) (xs:=t) (r:=fun f=>some (f.Text,true)) (Z:=some ([],false)) (f:=fun m k=>zcH t p _ m [] false k) (fun m i x hx=>by
  have hf:=h.at_ hx
  simp only[zcH,zal hx,zad hx,aD,aA,zaW hf.len,zab (zau hx) hm]) (fun m=>by simp only[zcH,zac,aC]) (by omega)]
 cases t.find? (fun f=>f.Path==p)<;>rfl
section
variable {r:Repo}(h:RpB r)(hr:zae r=true){a:Nat}(ha:a<r.Commits.length)
include h hr ha
end
theorem zjy {t:List File}(h:zaK t=true):t.Pairwise fun x y=>x.Path<y.Path:=by
 unfold zaK at h
 simp only[aG]at h
 have hb: ∀ i,i<t.length->ziJ t i=true:=fun i hi=>by
  have:=zaN.1 h.2 i (Nat.zero_le _) (by omega)
  unfold ziK at this
  simp only[aG]at this
  exact this.1
 refine List.pairwise_iff_getElem.2 fun i j hi hj hij=>?_
 have:=zlo hb hij hj
 rwa [zci (aB hi),zci (aB hj)]at this
theorem zpZ {t:List File}(h:t.Pairwise fun x y=>x.Path<y.Path){f:File}(hf:f∈t):getT t f.Path=(f.Text,true):=by
 unfold getT
 cases hg:t.find? (fun g=>g.Path==f.Path)with
 |none=>exact absurd (List.find?_eq_none.1 hg f hf) (by simp)
 |some g=>
  have hgm:=List.mem_of_find?_eq_some hg
  have he:g.Path=f.Path:=by simpa using List.find?_some hg
  obtain⟨i,hi,rfl⟩:=List.getElem_of_mem hf
  obtain⟨j,hj,rfl⟩:=List.getElem_of_mem hgm
  have hp:=List.pairwise_iff_getElem.1 h
  rcases Nat.lt_trichotomy i j with q |q |q
  ·have:=hp i j hi hj q
   rw[he]at this
   exact absurd this (zaq _)
  ·subst q;rfl
  ·have:=hp j i hj hi q
   rw[he]at this
   exact absurd this (zaq _)
theorem zfu {α:Type}{f:α->Nat}{c:Nat}: ∀ {t:List α},(∀ s∈t,f s<=c)->sumB f t<=c*t.length
 | [],_=>by simp[sumB]
 |x::t,h=>by
  have h1:=h x (by simp)
  have h2:=zfu (t:=t) (fun s hs=>h s (by simp[hs]))
  simp only[sumB,aL,Nat.mul_add,Nat.mul_one]
  omega
theorem zpw {t:List Str}(h:zaw t=true):Bk.bulk t<=130:=by
 have hl:=zam h
 have hs:sumB Bk.bulk t<=12*t.length:=zfu fun s hs=>by
  have:=zkd (zaU h s hs)
  show s.length<=12
  omega
 show t.length+sumB Bk.bulk t<=130
 omega
theorem zpx {t:List File}(h:zaK t=true):Bk.bulk t<=1208:=by
 have hl:=zaz h
 have hs:sumB Bk.bulk t<=150*t.length:=zfu fun f hf=>by
  have h1:=zcw (za0 h hf)
  have h2:=zpw (zaj h f hf)
  show f.Path.length+Bk.bulk f.Text<=150
  omega
 show t.length+sumB Bk.bulk t<=1208
 omega
theorem zqo {r:Repo}(h:zae r=true){c:Commit}(hc:c∈r.Commits):c.Parents.length<=2/\(∀ p∈c.Parents,0<=p/\p<=16)/\zaI c.Who=true/\zaK c.Tree=true:=by
 obtain⟨i,hi⟩:=List.mem_iff_getElem?.1 hc
 have hil:=zau hi
 have s1:=(zai h).1
 have:=zhe h (i:=i) (by omega)
 rw[zeF hi]at this
 unfold zns at this
 simp only[aG,decide_eq_true_eq,List.all_eq_true]at this
 refine⟨by omega,fun p hp=>?_,this.2.2.2.1,this.2.2.2.2⟩
 have h1:=this.1 p hp
 unfold upB at h1
 simp only[aG,decide_eq_true_eq]at h1
 omega
theorem zpy {r:Repo}(h:zae r=true):Bk.bulk r<=20000:=by
 obtain⟨s1,s2⟩:=zai h
 have h1:sumB Bk.bulk r.Commits<=1218*r.Commits.length:=zfu fun c hc=>by
  obtain⟨c1,_,c3,c4⟩:=zqo h hc
  have:=zbH c3
  have:=zpx c4
  have hp:sumB Bk.bulk c.Parents<=0*c.Parents.length:=zfu fun p hp=>Nat.le_refl 0
  show c.Parents.length+sumB Bk.bulk c.Parents+(c.Who.length+Bk.bulk c.Tree)<=1218
  omega
 have h2:sumB Bk.bulk r.Heads<=6*r.Heads.length:=zfu fun x hx=>by
  have:=zbH (zhG h hx).2.2
  show x.Name.length+0<=6
  omega
 show r.Commits.length+sumB Bk.bulk r.Commits+(r.Heads.length+sumB Bk.bulk r.Heads)<=20000
 omega
theorem zpz {t:List File}(h:zaK t=true):Bk.fit t:=⟨by have:=zaz h;unfold maxi;omega,fun f hf=>⟨by have:=zcw (za0 h hf);show f.Path.length<=maxi;unfold maxi;omega,by
 have h1:=zaj h f hf
 have h2:=zam h1
 exact zcb (by omega) (zaU h1)⟩⟩
theorem zpA {r:Repo}(h:zae r=true):Bk.fit r:=by
 obtain⟨s1,s2⟩:=zai h
 refine⟨⟨by unfold maxi;omega,fun c hc=>?_⟩,by unfold maxi;omega,fun x hx=>?_⟩
 ·obtain⟨c1,c2,c3,c4⟩:=zqo h hc
  refine⟨⟨by unfold maxi;omega,fun p hp=>?_⟩,by have:=zbH c3;show c.Who.length<=maxi;unfold maxi;omega,zpz c4⟩
  have:=c2 p hp
  show -9223372036854775808<=p/\p<=9223372036854775807
  omega
 ·obtain⟨h1,h2,h3⟩:=zhG h hx
  refine⟨by have:=zbH h3;show x.Name.length<=maxi;unfold maxi;omega,?_⟩
  show -9223372036854775808<=x.At/\x.At<=9223372036854775807
  omega
end Go.Vm
