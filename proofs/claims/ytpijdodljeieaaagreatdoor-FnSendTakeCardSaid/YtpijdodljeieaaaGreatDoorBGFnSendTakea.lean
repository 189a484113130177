/- Plain law FnSendTake, and what it uses: what the models answer. Conditions: each law's own premises. -/
import Derived.Test.YtpijdodljeieaaaGreatDoorBM0
import Derived.Test.YtpijdodljeieaaaGreatDoorBM2
import Derived.Test.YtpijdodljeieaaaGreatDoorBM3
import Derived.Test.YtpijdodljeieaaaGreatDoorBM5
import Derived.Test.YtpijdodljeieaaaGreatDoorBM6
import Derived.Test.YtpijdodljeieaaaGreatDoorBM8
import Derived.Test.YtpijdodljeieaaaGreatDoorBM10
import Derived.Test.YtpijdodljeieaaaGreatDoorBM11
import Derived.Test.YtpijdodljeieaaaGreatDoorBM16
import Derived.Test.YtpijdodljeieaaaGreatDoorBLw
import Derived.Sort.Walk0
import Derived.Lib.SplitLaws
import Derived.Test.YtpijdodljeieaaaGreatDoorBX
import Derived.Lib.Join
namespace Go.Vm
open Go Go.Sx
set_option linter.unusedSimpArgs false
set_option linter.unusedVariables false
def chB (c:UInt8):Bool:= !(decide ((c.toNat:Int)<32)||decide (126< (c.toNat:Int)))
def zbY (s:Str):Bool:= !decide (12< (s.length:Int))&&s.all chB
def zao (xs:List Str):Bool:= !decide (10< (xs.length:Int))&&xs.all zbY
theorem zkB (a b:Int):decide (a<=b) = !decide (b<a):=by
 by_cases h:a<=b
 ·rw[aF h,aE (by omega)];rfl
 ·rw[aE h,aF (by omega)];rfl
theorem zkC {s:Str}(h:s.length<=maxi):zgF s=some (zbY s):=by
 unfold zgF zbY
 simp only[jn,zak]
 cases decide ((12:Int)< (s.length:Int))
 case true=>rfl
 rw[aC,zat (α:=UInt8) (xs:=s) (p:=chB) (r0:=some false) (Z:=some true) (f:=fun m i=>zcu s (fun _ _=>some true) m false i) (fun m i x hx=>by
  simp only[zcu,jn,zah hx,zgJ hx,aD,aA,zac (zan hx) h,chB]
  cases decide ((x.toNat:Int)<32)<;>cases decide (126< (x.toNat:Int))<;>rfl) (fun m=>by simp only[zcu,zad,aC]) (by omega)]
 cases s.all chB<;>rfl
theorem zkD {s:Str}(h:s.length<=maxi):zgB s=some (zbY s):=by
 unfold zgB zbY
 simp only[jn,zak,zkB]
 rw[zat (α:=UInt8) (xs:=s) (p:=chB) (r0:=some false) (Z:=some (!decide (12< (s.length:Int)))) (f:=fun m i=>zcm s (fun _ _=>some (!decide (12< (s.length:Int)))) m false i) (fun m i x hx=>by
  simp only[zcm,jn,zah hx,zgJ hx,aD,aA,zac (zan hx) h,chB]
  cases decide ((x.toNat:Int)<32)<;>cases decide (126< (x.toNat:Int))<;>rfl) (fun m=>by simp only[zcm,zad,aC]) (by omega)]
 cases s.all chB<;>cases decide (12< (s.length:Int))<;>rfl
theorem zkE {xs:List Str}(h:Bk.fit xs):zgG xs=some (zao xs):=by
 have hl:=zku h
 unfold zgG zao
 simp only[jn,zak]
 cases decide ((10:Int)< (xs.length:Int))
 case true=>rfl
 rw[aC,zat (α:=Str) (xs:=xs) (p:=zbY) (r0:=some false) (Z:=some true) (f:=fun m i=>zcv xs (fun _ _=>some true) m false i) (fun m i x hx=>by
  have hx2:x.length<=maxi:=zmp h hx
  simp only[zcv,zah hx,zae hx,aD,aA,zac (zan hx) hl,zkC hx2]
  cases zbY x<;>rfl) (fun m=>by simp only[zcv,zad,aC]) (by omega)]
 cases xs.all zbY<;>rfl
theorem ziq {xs:List Str}(h:Bk.fit xs):zc8 xs=some (zao xs):=by
 have hl:=zku h
 unfold zc8 zao
 simp only[jn,zak,zkB]
 rw[zat (α:=Str) (xs:=xs) (p:=zbY) (r0:=some false) (Z:=some (!decide (10< (xs.length:Int)))) (f:=fun m i=>zdv xs (fun _ _=>some (!decide (10< (xs.length:Int)))) m false i) (fun m i x hx=>by
  have hx2:x.length<=maxi:=zmp h hx
  simp only[zdv,zah hx,zae hx,aD,aA,zac (zan hx) hl,zkD hx2]
  cases zbY x<;>rfl) (fun m=>by simp only[zdv,zad,aC]) (by omega)]
 cases xs.all zbY<;>cases decide (10< (xs.length:Int))<;>rfl
theorem zaI {t:List Str}(h:zao t=true):t.length<=10:=by
 unfold zao at h
 simp only[aG,Bool.not_eq_true',decide_eq_false_iff_not]at h
 omega
theorem zbe {t:List Str}(h:zao t=true): ∀ s∈t,zbY s=true:=by
 unfold zao at h
 simp only[aG,List.all_eq_true]at h
 exact h.2
theorem zht {s:Str}(h:zbY s=true):s.length<=12:=by
 unfold zbY at h
 simp only[aG,Bool.not_eq_true',decide_eq_false_iff_not]at h
 omega
theorem ze7 {xs ys:List Str}(h:xs.length<=maxi):ze1 xs ys=some (xs==ys):=by
 unfold ze1
 simp only[zgl,jn,zak]
 by_cases hn:xs.length=ys.length
 ·rw[hn,aO,aK,aC,<- hn]
  rw[zfp (α:=Str) (r0:=some false) (Z:=some true) (f:=fun m i=>zcr xs ys (fun _ _=>some true) m false i) hn (fun m i x y hx hy=>by
   simp only[zcr,zah hx,zae hx,zae hy,aD,aA,zac (zan hx) h,bne]
   cases x==y<;>rfl) (fun m=>by simp only[zcr,zad,aC]) (by omega)]
  cases xs==ys<;>rfl
 ·rw[beq_false_of_ne hn,Bool.not_false,aD,beq_false_of_ne (fun e=>hn (by rw[e]))]
theorem zjI {x:List Str}(h:x.length<=1048576):zfz x=some x:=by
 unfold zfz
 rw[apN h];rfl
theorem zkF {a b:Int}(ha:0<=a)(ha':a<=9223372036854775807)(hb:0<=b)(hb':b<=9223372036854775807):0<=znT a b/\znT a b<=9223372036854775807:=by
 obtain⟨n,rfl⟩:=Int.eq_ofNat_of_zero_le ha
 obtain⟨m,rfl⟩:=Int.eq_ofNat_of_zero_le hb
 have hn:n<2 ^ 63:=by omega
 have hm:m<2 ^ 63:=by omega
 have hx:n ^^^ m<2 ^ 63:=Nat.xor_lt_two_pow hn hm
 have h1:(BitVec.ofInt 64 (n:Int) ^^^ BitVec.ofInt 64 (m:Int)).toNat=n ^^^ m:=by
  rw[BitVec.toNat_xor,BitVec.toNat_ofInt,BitVec.toNat_ofInt]
  have e1:((n:Int) % (2 ^ 64:Nat)).toNat=n:=by omega
  have e2:((m:Int) % (2 ^ 64:Nat)).toNat=m:=by omega
  rw[e1,e2]
 unfold znT
 rw[h1]
 have:=zai (n:=((n ^^^ m:Nat):Int)) (by omega) (by omega)
 unfold w64 at this
 rw[this]
 omega
theorem zdh {a n:Int}(ha:0<=a)(hn:0<n):0<=Int.tmod a n/\Int.tmod a n<n:=⟨Int.tmod_nonneg n ha,Int.tmod_lt_of_pos a hn⟩
def zcg (r:l30Rd)(p:Int):Prop:=r.b.length<=2000/\0<=r.p/\r.p<=p
theorem zez (u:UInt8):0<=((UInt8.toNat u:Nat):Int)/\((UInt8.toNat u:Nat):Int)<=255:=by
 have:=UInt8.toNat_lt u
 omega
theorem zgL {a n:Int}(ha:0<=a)(hn:0<n):0<=Int.tdiv a n/\Int.tdiv a n<=a:=⟨Int.tdiv_nonneg ha (by omega),Int.tdiv_le_self n ha⟩
theorem zb6 {r:l30Rd}{n p:Int}(h:zcg r p)(hp:p<=1099511627776)(hn:0<n)(hn':n<=1073741824): ∃ k,zau r n=some (k,r.p+1)/\0<=k/\k<n:=by
 obtain⟨hb,h0,h1⟩:=h
 unfold zau
 have e1:w64 (r.p+1)=r.p+1:=zai (by omega) (by omega)
 have e2:w64 (r.p+1-1)=r.p:=by rw[zai (by omega) (by omega)];omega
 simp only[jn,e1,e2]
 rw[aE (show ¬ n<1 by omega),aC]
 cases hl:(((r.b.length:Int))==(0:Int))with
 |true=>exact⟨0,rfl,by omega,hn⟩
 |false=>
  have hlen:0< (r.b.length:Int):=by
   have:(r.b.length:Int)≠0:=by simpa using hl
   omega
  rw[aC]
  by_cases hlt:r.p< (r.b.length:Int)
  ·obtain⟨u,hu⟩:=ze9 h0 hlt
   obtain⟨u0,u1⟩:=zez u
   rw[aF hlt,aD,hu,aA,if_neg (by omega),aA,zai (by omega) (by omega)]
   exact⟨_,rfl,zdh u0 hn⟩
  ·rw[aE hlt,aC,if_neg (by omega),aA]
   obtain⟨a0,a1⟩:=zdh h0 hlen
   obtain⟨u,hu⟩:=ze9 a0 a1
   obtain⟨u0,u1⟩:=zez u
   have e3:w64 (r.p*7)=r.p*7:=zai (by omega) (by omega)
   have e4:w64 (r.p*7+3)=r.p*7+3:=zai (by omega) (by omega)
   obtain⟨b0,b1⟩:=zdh (show 0<=r.p*7+3 by omega) hlen
   obtain⟨v,hv⟩:=ze9 b0 b1
   obtain⟨v0,v1⟩:=zez v
   obtain⟨d0,d1⟩:=zgL h0 hlen
   rw[hu,aA,if_neg (by omega),aA,e3,e4,hv,aA,aA,aA]
   rw[zai (n:=(UInt8.toNat u:Int)) (by omega) (by omega),zai (n:=(UInt8.toNat u:Int)*131) (by omega) (by omega),
    zai (n:=(UInt8.toNat v:Int)) (by omega) (by omega),zai (n:=(UInt8.toNat v:Int)*1117) (by omega) (by omega),
    zai (n:=(UInt8.toNat u:Int)*131+(UInt8.toNat v:Int)*1117) (by omega) (by omega),zai (n:=r.p*29) (by omega) (by omega),
    zai (n:=(UInt8.toNat u:Int)*131+(UInt8.toNat v:Int)*1117+r.p*29) (by omega) (by omega),
    zai (n:=Int.tdiv r.p (r.b.length:Int)) (by omega) (by omega),zai (n:=Int.tdiv r.p (r.b.length:Int)*53) (by omega) (by omega),
    zai (n:=(UInt8.toNat u:Int)*131+(UInt8.toNat v:Int)*1117+r.p*29+Int.tdiv r.p (r.b.length:Int)*53) (by omega) (by omega)]
   obtain⟨q0,q1⟩:=zgL (a:=(UInt8.toNat u:Int)*131+(UInt8.toNat v:Int)*1117+r.p*29+Int.tdiv r.p (r.b.length:Int)*53) (n:=64) (by omega) (by omega)
   rw[zai (n:=Int.tdiv ((UInt8.toNat u:Int)*131+(UInt8.toNat v:Int)*1117+r.p*29+Int.tdiv r.p (r.b.length:Int)*53) 64) (by omega) (by omega)]
   exact⟨_,rfl,zdh (zkF (by omega) (by omega) (by omega) (by omega)).1 hn⟩
theorem zcg.on {r:l30Rd}{p q:Int}(h:zcg r p)(k:Int)(hk:0<=k)(hq:r.p+k<=q):zcg ⟨r.b,r.p+k⟩ q:=⟨h.1,by have:=h.2.1;show 0<=r.p+k;omega,hq⟩
theorem zmZ {code:List Byte}(h:code.length<=1048576): ∃ b:List Byte,zcM code=some ⟨b,0⟩/\b.length<=2000:=by
 unfold zcM
 simp only[jn]
 by_cases hl:(2000:Int)< (code.length:Int)
 ·rw[aF hl,aD]
  have:slM code 0 2000=some (code.take 2000):=zgW (i:=2000) (by omega)
  rw[this,aA]
  exact⟨_,rfl,by simp;omega⟩
 ·rw[aE hl,aC]
  exact⟨_,rfl,by omega⟩
theorem zju {xs ys:List Str}(h:xs.length<=maxi):zfv xs ys=some (xs==ys):=by
 unfold zfv
 simp only[zgl,jn,zak]
 by_cases hn:xs.length=ys.length
 ·rw[hn,aO,aK,aC,<- hn]
  rw[zfp (α:=Str) (r0:=some false) (Z:=some true) (f:=fun m i=>zbS xs ys (fun _ _=>some true) m false i) hn (fun m i x y hx hy=>by
   simp only[zbS,zah hx,zae hx,zae hy,aD,aA,zac (zan hx) h,bne]
   cases x==y<;>rfl) (fun m=>by simp only[zbS,zad,aC]) (by omega)]
  cases xs==ys<;>rfl
 ·rw[beq_false_of_ne hn,Bool.not_false,aD,beq_false_of_ne (fun e=>hn (by rw[e]))]
def zfw:List Str->List Str->Int
 | [],_=>0
 |_:: _,[]=>0
 |x::xs,y::ys=>if x==y then zfw xs ys+1 else zoA (zfw xs (y::ys)) (zfw (x::xs) ys)
termination_by a b=>a.length+b.length
theorem ziZ (b:List Str):zfw [] b=0:=by rw[zfw]
theorem zhK (a:List Str):zfw a []=0:=by cases a<;>rw[zfw]
theorem zhL (x y:Str)(xs ys:List Str):zfw (x::xs) (y::ys)=if x==y then zfw xs ys+1 else zoA (zfw xs (y::ys)) (zfw (x::xs) ys):=by rw[zfw]
theorem zb9: ∀ (n:Nat) (a b:List Str),a.length+b.length<=n->0<=zfw a b/\zfw a b<=a.length
 |_,[],b,_=>by rw[ziZ];simp
 |_,x::xs,[],_=>by rw[zhK];simp;omega
 |0,x::xs,y::ys,h=>by simp at h
 |n+1,x::xs,y::ys,h=>by
  simp only[aL]at h
  have h1:=zb9 n xs ys (by omega)
  have h2:=zb9 n xs (y::ys) (by simp;omega)
  have h3:=zb9 n (x::xs) ys (by simp;omega)
  rw[zhL]
  simp only[aL]at*
  split
  ·omega
  ·unfold zoA;split<;>omega
theorem zm0 (a b:List Str):0<=zfw a b:=(zb9 _ a b (Nat.le_refl _)).1
theorem zm1 (a b:List Str):zfw a b<=a.length:=(zb9 _ a b (Nat.le_refl _)).2
def zhI (n:Nat)(g:Nat->Int):List Int:=(List.range n).map g
def zfx (n m:Nat)(f:Nat->Nat->Int):List (List Int):=(List.range n).map fun i=>zhI m (f i)
theorem zjv {n:Nat}{g g':Nat->Int}(h: ∀ k,k<n->g k=g' k):zhI n g=zhI n g':=by
 unfold zhI
 exact List.map_congr_left fun k hk=>h k (List.mem_range.1 hk)
theorem zdi {n m:Nat}{f f':Nat->Nat->Int}(h: ∀ i k,i<n->k<m->f i k=f' i k):zfx n m f=zfx n m f':=by
 unfold zfx
 exact List.map_congr_left fun i hi=>zjv fun k hk=>h i k (List.mem_range.1 hi) hk
theorem zir {n k:Nat}{g:Nat->Int}(h:k<n):gi (zhI n g) (k:Int)=some (g k):=zae (by simp[zhI,h])
theorem zis {n m i:Nat}{f:Nat->Nat->Int}(h:i<n):gi (zfx n m f) (i:Int)=some (zhI m (f i)):=zae (by simp[zfx,h])
theorem zl0 {n k:Nat}{g:Nat->Int}{v:Int}(h:k<n):siM (zhI n g) (k:Int) v=some (zhI n fun k'=>if k'=k then v else g k'):=by
 rw[zcf (by simp[zhI,h])]
 congr 1
 apply List.ext_getElem?
 intro j
 unfold zhI
 by_cases hj:j=k
 ·subst hj
  rw[List.getElem?_set_self (by simp[h])]
  simp[h]
 ·rw[List.getElem?_set_ne (Ne.symm hj)]
  by_cases hl:j<n
  ·simp[hl,hj]
  ·rw[List.getElem?_eq_none (by simp;omega),List.getElem?_eq_none (by simp;omega)]
theorem zl1 {n m i:Nat}{f:Nat->Nat->Int}{g:Nat->Int}(h:i<n):siM (zfx n m f) (i:Int) (zhI m g)=some (zfx n m fun i'=>if i'=i then g else f i'):=by
 rw[zcf (by simp[zfx,h])]
 congr 1
 apply List.ext_getElem?
 intro j
 unfold zfx
 by_cases hj:j=i
 ·subst hj
  rw[List.getElem?_set_self (by simp[h])]
  simp[h]
 ·rw[List.getElem?_set_ne (Ne.symm hj)]
  by_cases hl:j<n
  ·simp[hl,hj]
  ·rw[List.getElem?_eq_none (by simp;omega),List.getElem?_eq_none (by simp;omega)]
section
variable (a b:List Str)
def za3 (i k:Nat):Int:=zfw (a.drop i) (b.drop k)
def zbx (i k i' k':Nat):Int:=if i<i'\/(i=i'/\k<=k') then za3 a b i' k' else 0
def zo2:List (List Int):=zfx (a.length+1) (b.length+1) (za3 a b)
end
section
variable {a b:List Str}
theorem zkG (i:Nat):za3 a b i b.length=0:=by unfold za3;rw[List.drop_length,zhK]
theorem zjw (k:Nat):za3 a b a.length k=0:=by unfold za3;rw[List.drop_length,ziZ]
theorem zl2 (i k:Nat):0<=za3 a b i k:=zm0 _ _
theorem zl3 (i k:Nat):za3 a b i k<=a.length:=by
 have:=zm1 (a.drop i) (b.drop k)
 unfold za3
 simp only[List.length_drop]at this
 omega
theorem zjx {i k:Nat}{x y:Str}(hx:a[i]? =some x)(hy:b[k]? =some y):za3 a b i k=if x==y then za3 a b (i+1) (k+1)+1 else zoA (za3 a b (i+1) k) (za3 a b i (k+1)):=by
 have hi:=zan hx
 have hk:=zan hy
 have ex:a[i]=x:=by rw[aB hi]at hx;exact Option.some.inj hx
 have ey:b[k]=y:=by rw[aB hk]at hy;exact Option.some.inj hy
 unfold za3
 rw[aI hi,aI hk,zhL,ex,ey]
theorem zfC {i k:Nat}{v:Int}(hv:v=za3 a b i k)(n m:Nat):zfx n m (fun i'=>if i'=i then(fun k'=>if k'=k then v else zbx a b i (k+1) i k') else zbx a b i (k+1) i')=zfx n m (zbx a b i k):=by
 refine zdi fun i' k' _ _=>?_
 by_cases h1:i'=i
 ·subst h1
  rw[if_pos rfl]
  by_cases h2:k'=k
  ·subst h2
   rw[if_pos rfl,hv]
   simp[zbx]
  ·rw[if_neg h2]
   simp only[zbx,Nat.lt_irrefl,false_or,true_and]
   by_cases h3:k+1<=k'
   ·rw[if_pos h3,if_pos (by omega)]
   ·rw[if_neg h3,if_neg (by omega)]
 ·rw[if_neg h1]
  simp only[zbx]
  by_cases h3:i<i'
  ·rw[if_pos (.inl h3),if_pos (.inl h3)]
  ·rw[if_neg (by omega),if_neg (by omega)]
theorem zjy (i:Nat):zfx (a.length+1) (b.length+1) (zbx a b (i+1) 0)=zfx (a.length+1) (b.length+1) (zbx a b i b.length):=by
 refine zdi fun i' k' _ hk=>?_
 simp only[zbx,Nat.zero_le,and_true]
 by_cases h:i<i'
 ·rw[if_pos (by omega),if_pos (.inl h)]
 ·rw[if_neg (by omega)]
  by_cases h2:i=i'/\b.length<=k'
  ·rw[if_pos (.inr h2),show k'=b.length by omega,zkG]
  ·rw[if_neg (by omega)]
theorem zit:zfx (a.length+1) (b.length+1) (fun _ _=>0)=zfx (a.length+1) (b.length+1) (zbx a b a.length 0):=by
 refine zdi fun i' k' hi _=>?_
 simp only[zbx,Nat.zero_le,and_true]
 by_cases h:a.length<i'\/a.length=i'
 ·rw[if_pos h,show i'=a.length by omega,zjw]
 ·rw[if_neg h]
theorem zkH:zfx (a.length+1) (b.length+1) (zbx a b 0 0)=zo2 a b:=by
 refine zdi fun i' k' _ _=>?_
 simp only[zbx,Nat.zero_le,and_true]
 rw[if_pos (by omega)]
theorem zkI (hb:b.length<=maxi)(hN:(a.length:Int)+1<=9223372036854775807){i:Nat}(hi:i<a.length){R:Int->List (List Int)->Option (List (List Int))}: ∀ (k m:Nat),k<=b.length->k<m->
 zbP a b (i:Int) R m ((k:Int)-1) (zfx (a.length+1) (b.length+1) (zbx a b i k))=R (-1) (zfx (a.length+1) (b.length+1) (zbx a b i 0))
 |0,0,_,h=>by omega
 |0,m+1,_,_=>by
  simp only[zbP]
  rw[aE (by omega)];rfl
 |k+1,0,_,h=>by omega
 |k+1,m+1,hk,hm=>by
  unfold maxi at hb
  have hx:a[i]? =some a[i]:=aB hi
  have hy:b[k]? =some b[k]:=aB (by omega)
  have hst:=zjx hx hy
  have e1:(((k+1:Nat):Int)-1)=(k:Int):=by omega
  have e2:w64 ((i:Int)+1)=((i+1:Nat):Int):=by rw[zai (by omega) (by omega)];omega
  have e3:w64 ((k:Int)+1)=((k+1:Nat):Int):=by rw[zai (by omega) (by omega)];omega
  have e4:w64 ((k:Int)-1)=(k:Int)-1:=zai (by omega) (by omega)
  have s1:zbx a b i (k+1) (i+1) (k+1)=za3 a b (i+1) (k+1):=by simp[zbx]
  have s2:zbx a b i (k+1) (i+1) k=za3 a b (i+1) k:=by simp[zbx]
  have s3:zbx a b i (k+1) i (k+1)=za3 a b i (k+1):=by simp[zbx]
  have lo:=zl2 (a:=a) (b:=b) (i+1) (k+1)
  have hi':=zl3 (a:=a) (b:=b) (i+1) (k+1)
  have ih:=zkI (by unfold maxi;exact hb) hN hi (R:=R) k m (by omega) (by omega)
  simp only[zbP,jn,e1,e2,e3,e4,zae hx,zae hy,aA,aF (show(0:Int)<=(k:Int) by omega),aD,
   zis (show i<a.length+1 by omega),zis (show i+1<a.length+1 by omega),zir (show k<b.length+1 by omega),zir (show k+1<b.length+1 by omega),s1,s2,s3,
   zl0 (show k<b.length+1 by omega),zl1 (show i<a.length+1 by omega)]
  cases he:a[i]==b[k]with
  |true=>
   rw[he,if_pos rfl]at hst
   rw[aD,zai (by omega) (by omega),zfC hst.symm]
   exact ih
  |false=>
   rw[he,if_neg (by simp)]at hst
   rw[aC]
   unfold zoA at hst
   by_cases hc:za3 a b i (k+1)<=za3 a b (i+1) k
   ·rw[if_neg (by omega)]at hst
    rw[aF hc,aD,zfC hst.symm]
    exact ih
   ·rw[if_pos (by omega)]at hst
    rw[aE hc,aC,zfC hst.symm]
    exact ih
theorem zkJ (hb:b.length<=maxi)(hN:(a.length:Int)+1<=9223372036854775807)(hNb:(b.length:Int)+1<=9223372036854775807){R:Int->List (List Int)->Option (List (List Int))}: ∀ (i m:Nat),i<=a.length->i<m->
 za2 a b R m ((i:Int)-1) (zfx (a.length+1) (b.length+1) (zbx a b i 0))=R (-1) (zfx (a.length+1) (b.length+1) (zbx a b 0 0))
 |0,0,_,h=>by omega
 |0,m+1,_,_=>by
  simp only[za2]
  rw[aE (by omega)];rfl
 |i+1,0,_,h=>by omega
 |i+1,m+1,hi,hm=>by
  have e1:(((i+1:Nat):Int)-1)=(i:Int):=by omega
  have e2:w64 ((b.length:Int)-1)=(b.length:Int)-1:=zai (by omega) (by omega)
  have e3:w64 ((i:Int)-1)=(i:Int)-1:=zai (by omega) (by omega)
  simp only[za2,jn,e1,e2,aF (show(0:Int)<=(i:Int) by omega),aD]
  rw[zjy,zkI hb hN (by omega) b.length _ (Nat.le_refl _) (by omega),e3]
  exact zkJ hb hN hNb i m (by omega) (by omega)
theorem zkK (ha:a.length<=1000)(hb:b.length<=1000){R:List (List Int)->Int->Option (List (List Int))}: ∀ (n i m:Nat),i+n=a.length+1->n<m->
 zbQ a b R m ((List.range i).map (fun _=>zhI (b.length+1) fun _=>0)) (i:Int)=R (zfx (a.length+1) (b.length+1) fun _ _=>0) ((a.length+1:Nat):Int)
 |n,i,0,_,h=>by omega
 |0,i,m+1,hi,_=>by
  simp only[zbQ]
  rw[aE (by omega),show i=a.length+1 by omega]
  simp[zfx]
 |n+1,i,m+1,hi,hm=>by
  have e1:w64 ((b.length:Int)+1)=((b.length+1:Nat):Int):=by rw[zai (by omega) (by omega)];omega
  have e2:w64 ((i:Int)+1)=((i+1:Nat):Int):=by rw[zai (by omega) (by omega)];omega
  have hr:zhI (b.length+1) (fun _=>0)=List.replicate (b.length+1) (0:Int):=by
   unfold zhI
   rw[List.map_const',List.length_range]
  simp only[zbQ,e1,e2,aF (show(i:Int)<=(a.length:Int) by omega),aD,zjV (show b.length+1<=lim by unfold lim;omega),aA]
  rw[zhh (by simp[lim];omega),aA]
  have hset:(List.range i).map (fun _=>zhI (b.length+1) fun _=>0)++[List.replicate (b.length+1) (0:Int)]=(List.range (i+1)).map (fun _=>zhI (b.length+1) fun _=>0):=by
   simp[List.range_succ,hr]
  rw[hset]
  exact zkK ha hb n (i+1) m (by omega) (by omega)
theorem zm2 (ha:a.length<=1000)(hb:b.length<=1000):zft a b=some (zo2 a b):=by
 unfold zft
 have e2:w64 ((a.length:Int)-1)=(a.length:Int)-1:=zai (by omega) (by omega)
 simp only[jn,e2]
 have h1:=zkK (a:=a) (b:=b) ha hb
  (R:=fun y3 y6=>za2 a b (fun y28 y30=>some y30) (((a.length:Int)-1+1-0).toNat+1) ((a.length:Int)-1) y3) (a.length+1) 0 (((a.length:Int)+1-0).toNat+1) (by omega) (by omega)
 simp only[List.range_zero,List.map_nil]at h1
 refine h1.trans ?_
 rw[zit,zkJ (by unfold maxi;omega) (by omega) (by omega) a.length _ (Nat.le_refl _) (by omega),zkH]
end
def mtF:List Str->List Str->Nat->List Int
 | [],_,_=>[]
 |_::xs,[],k=> -1::mtF xs [] k
 |x::xs,y::ys,k=>if x==y then(k:Int)::mtF xs ys (k+1) else if zfw (x::xs) ys<=zfw xs (y::ys) then -1::mtF xs (y::ys) k else mtF (x::xs) ys (k+1)
termination_by a b _=>a.length+b.length
theorem zjh (b:List Str)(k:Nat):mtF [] b k=[]:=by rw[mtF]
theorem zii (x:Str)(xs:List Str)(k:Nat):mtF (x::xs) [] k = -1::mtF xs [] k:=by rw[mtF]
theorem zib (x y:Str)(xs ys:List Str)(k:Nat):mtF (x::xs) (y::ys) k=if x==y then(k:Int)::mtF xs ys (k+1) else if zfw (x::xs) ys<=zfw xs (y::ys) then -1::mtF xs (y::ys) k else mtF (x::xs) ys (k+1):=by rw[mtF]
def mt2 (a b:List Str):List Int:=mtF a b 0
theorem zn6 {xs:List Int}{x:Int}(h:xs.length<=1000000):apM xs [x]=some (xs++[x]):=zhh (by simp[lim];omega)
section
variable {a b:List Str}
theorem zkL {i k:Nat}(hi:i<=a.length)(hk:k<=b.length): ∃ r,gi (zo2 a b) (i:Int)=some r/\gi r (k:Int)=some (za3 a b i k):=
 ⟨_,zis (by omega),zir (by omega)⟩
theorem zeA {i:Nat}(h:i<a.length):a.drop i=a[i]::a.drop (i+1):=aI h
theorem zhM (ha:a.length<=1000)(hb:b.length<=1000): ∀ (m i k:Nat) (out:List Int),(a.length-i)+(b.length-k)<m->i<=a.length->k<=b.length->out.length=i->
 zc9 a b (zo2 a b) (fun y5 _ _=>some y5) m out (k:Int) (i:Int)=some (out++mtF (a.drop i) (b.drop k) k)
 |0,i,k,out,hm,_,_,_=>by omega
 |m+1,i,k,out,hm,hi,hk,ho=>by
  have e2:w64 ((i:Int)+1)=((i+1:Nat):Int):=by rw[zai (by omega) (by omega)];omega
  have e3:w64 ((k:Int)+1)=((k+1:Nat):Int):=by rw[zai (by omega) (by omega)];omega
  simp only[zc9,jn,e2,e3]
  by_cases hil:i<a.length
  case neg=>
   rw[aE (by omega),aC,show i=a.length by omega,List.drop_length,zjh,List.append_nil]
  have hx:a[i]? =some a[i]:=aB hil
  rw[aF (by omega),aD,zeA hil]
  by_cases hkl:k<b.length
  case neg=>
   have hke:k=b.length:=by omega
   rw[aE (by omega),aC,aC,aF (by omega),aD,aD,zn6 (by omega),aA,
    zhM ha hb m (i+1) k _ (by omega) (by omega) hk (by simp[ho])]
   rw[hke,List.drop_length,zii]
   simp
  have hy:b[k]? =some b[k]:=aB hkl
  rw[aF (by omega),aD,zae hx,aA,zae hy,aA,zeA hkl,zib]
  cases he:a[i]==b[k]with
  |true=>
   rw[aD,zn6 (by omega),aA,zhM ha hb m (i+1) (k+1) _ (by omega) (by omega) (by omega) (by simp[ho])]
   simp
  |false=>
   rw[aC,aE (by omega),aC]
   obtain⟨r1,h1,h2⟩:=zkL (a:=a) (b:=b) (i:=i+1) (k:=k) (by omega) (by omega)
   obtain⟨r3,h3,h4⟩:=zkL (a:=a) (b:=b) (i:=i) (k:=k+1) (by omega) (by omega)
   rw[h1,aA,h2,aA,h3,aA,h4,aA]
   have c1:za3 a b i (k+1)=zfw (a[i]::a.drop (i+1)) (b.drop (k+1)):=by unfold za3;rw[zeA hil]
   have c2:za3 a b (i+1) k=zfw (a.drop (i+1)) (b[k]::b.drop (k+1)):=by unfold za3;rw[zeA hkl]
   rw[<- c1,<- c2]
   by_cases hc:za3 a b i (k+1)<=za3 a b (i+1) k
   ·rw[aF hc,aD,zn6 (by omega),aA,zhM ha hb m (i+1) k _ (by omega) (by omega) hk (by simp[ho]),if_neg (by simp),if_pos hc,zeA hkl]
    simp
   ·rw[aE hc,aC,zhM ha hb m i (k+1) _ (by omega) hi (by omega) ho,if_neg (by simp),if_neg hc,zeA hil]
theorem zhN (ha:a.length<=1000)(hb:b.length<=1000):zfa a b=some (mt2 a b):=by
 unfold zfa
 rw[zm2 ha hb,aA]
 simp only[jn]
 have:=zhM ha hb (a.length+b.length+1) 0 0 [] (by omega) (by omega) (by omega) rfl
 simpa[mt2]using this
end
def Asc (hi:Int):Int->List Int->Prop
 |_,[]=>True
 |lo,x::l=>(x = -1/\Asc hi lo l)\/(lo<=x/\x<hi/\Asc hi (x+1) l)
theorem Asc.mono {hi:Int}: ∀ {l:List Int} {lo lo':Int},lo'<=lo->Asc hi lo l->Asc hi lo' l
 | [],_,_,_,_=>trivial
 |x::l,lo,lo',h, .inl ⟨h1,h2⟩=> .inl ⟨h1,Asc.mono h h2⟩
 |x::l,lo,lo',h, .inr ⟨h1,h2,h3⟩=> .inr ⟨by omega,h2,h3⟩
theorem zfm: ∀ (n:Nat) (a b:List Str) (k:Nat),a.length+b.length<=n->Asc ((k+b.length:Nat):Int) (k:Int) (mtF a b k)/\(mtF a b k).length=a.length
 |_,[],b,k,_=>by rw[zjh];exact⟨trivial,rfl⟩
 |0,x::xs,b,k,h=>by simp at h
 |n+1,x::xs,[],k,h=>by
  rw[zii]
  have:=zfm n xs [] k (by simp at h ⊢;omega)
  exact⟨.inl ⟨rfl,this.1⟩,by simp[this.2]⟩
 |n+1,x::xs,y::ys,k,h=>by
  simp only[aL]at h
  rw[zib]
  split
  ·have:=zfm n xs ys (k+1) (by omega)
   refine⟨.inr ⟨Int.le_refl _,by simp only[aL];omega,?_⟩,by simp[this.2]⟩
   have h1:=this.1
   rw[show((k+(y::ys).length:Nat):Int)=((k+1+ys.length:Nat):Int) by simp only[aL];omega,show(k:Int)+1=((k+1:Nat):Int) by omega]
   exact h1
  ·split
   ·have:=zfm n xs (y::ys) k (by simp;omega)
    exact⟨.inl ⟨rfl,this.1⟩,by simp[this.2]⟩
   ·have:=zfm n (x::xs) ys (k+1) (by simp;omega)
    refine⟨?_,by simp[this.2]⟩
    have h1:=this.1
    rw[show((k+(y::ys).length:Nat):Int)=((k+1+ys.length:Nat):Int) by simp only[aL];omega]
    exact h1.mono (by omega)
theorem zhJ (a b:List Str):Asc (b.length:Int) 0 (mt2 a b)/\(mt2 a b).length=a.length:=by
 have:=zfm _ a b 0 (Nat.le_refl _)
 simpa[mt2]using this
theorem Asc.snoc {hi:Int}(h0:0<=hi): ∀ {l:List Int} {lo:Int},lo<=hi->Asc hi lo l->Asc (hi+1) lo (l++[hi])
 | [],lo,h,_=> .inr ⟨h,by omega,trivial⟩
 |x::l,lo,h, .inl ⟨h1,h2⟩=> .inl ⟨h1,Asc.snoc h0 h h2⟩
 |x::l,lo,h, .inr ⟨h1,h2,h3⟩=> .inr ⟨h1,by omega,Asc.snoc h0 (by omega) h3⟩
end Go.Vm
namespace Go.Sx
open Go
theorem zjz {R α σ:Type} {xs:List α} {step:σ->α->Option σ} {r0:Option R} (Inv:Nat->σ->Prop) {f:Nat->σ->Int->Option R} {Z:σ->Option R} {s0:σ}
 (hs: ∀ m (i:Nat) x s,xs[i]? =some x->Inv i s->(f (m+1) s (i:Int)=match step s x with |some s'=>f m s' ((i+1:Nat):Int) |none=>r0) /\ ∀ s',step s x=some s'->Inv (i+1) s')
 (he: ∀ m s,Inv xs.length s->f (m+1) s (xs.length:Int)=Z s) {m:Nat} (hm:xs.length<m) (h0:Inv 0 s0):
 f m s0 0=(match xs.foldlM step s0 with |some s=>Z s |none=>r0) /\ ∀ s,xs.foldlM step s0=some s->Inv xs.length s:=by
 have key: ∀ k i m s,i+k=xs.length->k<m->Inv i s->f m s (i:Int)=(match (xs.drop i).foldlM step s with |some s=>Z s |none=>r0) /\ ∀ s',(xs.drop i).foldlM step s=some s'->Inv xs.length s':=by
  intro k
  induction k with
  |zero=>
   intro i m s hi hm hI
   obtain⟨m,rfl⟩: ∃ q,m=q+1:=⟨m-1,by omega⟩
   have hii:i=xs.length:=by omega
   subst hii
   rw[he m s hI,List.drop_length]
   exact⟨rfl,fun s' h=>by
    have:s=s':=by simpa using h
    rw[<- this];exact hI⟩
  |succ k ih=>
   intro i m s hi hm hI
   obtain⟨m,rfl⟩: ∃ q,m=q+1:=⟨m-1,by omega⟩
   have hlt:i<xs.length:=by omega
   obtain⟨h1,h2⟩:=hs m i xs[i] s (aB hlt) hI
   rw[h1,aI hlt,List.foldlM_cons]
   cases hst:step s xs[i]with
   |none=>exact⟨rfl,fun s' h=>by simp at h⟩
   |some s1=>
    obtain⟨h3,h4⟩:=ih (i+1) m s1 (by omega) (by omega) (h2 s1 hst)
    exact⟨h3,h4⟩
 have:=key xs.length 0 m s0 (by omega) hm h0
 simpa using this
theorem zds {R α:Type} {xs:List α} {p:α->Bool} {r:α->Option R} {Z:Option R} {f:Nat->Int->Option R}
 (hs: ∀ m (i:Nat) x,xs[i]? =some x->f (m+1) (i:Int)=bif p x then r x else f m ((i+1:Nat):Int)) (he: ∀ m,f (m+1) (xs.length:Int)=Z) {m:Nat} (hm:xs.length<m):
 f m 0=match xs.find? p with |some x=>r x |none=>Z:=by
 have key: ∀ k i m,i+k=xs.length->k<m->f m (i:Int)=match (xs.drop i).find? p with |some x=>r x |none=>Z:=by
  intro k
  induction k with
  |zero=>
   intro i m hi hm
   obtain⟨m,rfl⟩: ∃ q,m=q+1:=⟨m-1,by omega⟩
   rw[show i=xs.length by omega,he,List.drop_length]
   rfl
  |succ k ih=>
   intro i m hi hm
   obtain⟨m,rfl⟩: ∃ q,m=q+1:=⟨m-1,by omega⟩
   have hlt:i<xs.length:=by omega
   rw[hs m i xs[i] (aB hlt),aI hlt,List.find?_cons]
   cases p xs[i]with
   |true=>rfl
   |false=>exact ih (i+1) m (by omega) (by omega)
 have:=key xs.length 0 m (by omega) hm
 simpa using this
end Go.Sx
namespace Go.Vm
open Go Go.Sx
set_option linter.unusedSimpArgs false
set_option linter.unusedVariables false
def lnP (l:List Str):Part:=⟨false,l,[],[],[]⟩
def zc1 (o a b:List Str):Part:=bif a==o||a==b then lnP b else bif b==o then lnP a else⟨true,[],o,a,b⟩
def zjJ (out:List Part)(p:Part):List Part:=
 bif !p.Clash&&p.Lines.length==0 then out else
 match out[out.length-1]? with
 |some q=>bif !p.Clash && !q.Clash then out.set (out.length-1) ⟨q.Clash,q.Lines++p.Lines,q.Old,q.One,q.Two⟩ else out++[p]
 |none=>out++[p]
def PB (n:Nat)(out:List Part):Prop:=out.length<=n /\ ∀ q∈out,q.Lines.length<=1000*n
theorem PB.mono {n m:Nat}{out:List Part}(h:PB n out)(hm:n<=m):PB m out:=⟨Nat.le_trans h.1 hm,fun q hq=>Nat.le_trans (h.2 q hq) (Nat.mul_le_mul_left _ hm)⟩
theorem ziu {n:Nat}{out:List Part}{p:Part}(h:PB n out)(hp:p.Lines.length<=1000):PB (n+1) (zjJ out p):=by
 have happ:PB (n+1) (out++[p]):=⟨by simp;exact h.1,fun q hq=>by
  rcases List.mem_append.1 hq with h1 |h1
  ·have:=h.2 q h1;omega
  ·rw[List.mem_singleton]at h1;rw[h1];omega⟩
 unfold zjJ
 cases(!p.Clash&&p.Lines.length==0)with
 |true=>exact h.mono (by omega)
 |false=>
  rw[aC]
  split
  ·rename_i q hq
   cases(!p.Clash && !q.Clash)with
   |false=>exact happ
   |true=>
    rw[aD]
    refine⟨by rw[List.length_set];have:=h.1;omega,fun r hr=>?_⟩
    rcases List.mem_or_eq_of_mem_set hr with h1 |h1
    ·have:=h.2 r h1;omega
    ·rw[h1]
     have:=h.2 q (aH hq)
     simp only[List.length_append]
     omega
  ·exact happ
theorem zfD {o a b:List Str}(ha:a.length<=1000)(hb:b.length<=1000):(zc1 o a b).Lines.length<=1000:=by
 unfold zc1 lnP
 cases(a==o||a==b)
 ·cases b==o
  ·simp
  ·exact ha
 ·exact hb
theorem apL {xs ys:List Str}(h:xs.length<=4000000)(h':ys.length<=1000):apM xs ys=some (xs++ys):=zhh (by simp[lim];omega)
theorem zkM {o a b:List Str}(ho:o.length<=1000)(ha:a.length<=1000)(hb:b.length<=1000):zgD o a b=some (zc1 o a b):=by
 unfold zgD zc1 lnP
 simp only[jn,ze7 (show a.length<=maxi by unfold maxi;omega),ze7 (show b.length<=maxi by unfold maxi;omega),aA,apN (show o.length<=1048576 by omega),apN (show a.length<=1048576 by omega),apN (show b.length<=1048576 by omega)]
 cases a==o<;>cases a==b<;>cases b==o<;>rfl
theorem zm3 {n:Nat}(h:n<=4000000)(h0:0<n):w64 ((n:Int)-1)=((n-1:Nat):Int):=by rw[zai (by omega) (by omega)];omega
theorem zi0 {n:Nat}{out:List Part}{p:Part}(h:PB n out)(hn:n<=4000)(hp:p.Lines.length<=1000):zhf out p=some (zjJ out p):=by
 have hl:=h.1
 unfold zhf zjJ
 have hz:(((p.Lines.length:Int))==(0:Int))=(p.Lines.length==0):=by
  have: ∀ b c:Bool,(b=true↔c=true)->b=c:=by decide
  apply this;simp
 simp only[jn,hz,show(⟨p.Clash,p.Lines,p.Old,p.One,p.Two⟩:Part)=p from rfl]
 have happ:apM out [p]=some (out++[p]):=zhh (by simp[lim];omega)
 cases hc:p.Clash with
 |true=>
  simp only[aK,Bool.false_and,aC,happ,aA]
  by_cases h0:0<out.length
  ·rw[aF (by omega),aD,aB (by omega)]
  ·rw[aE (by omega),aC,List.getElem?_eq_none (by omega)]
 |false=>
  simp only[Bool.not_false,Bool.true_and,aD]
  cases hz2:(p.Lines.length==0)with
  |true=>rfl
  |false=>
   simp only[aC]
   by_cases h0:0<out.length
   ·obtain⟨q,hq⟩: ∃ q,out[out.length-1]? =some q:=⟨_,aB (by omega)⟩
    have hql:=h.2 q (aH hq)
    rw[aF (by omega),aD,zm3 (by omega) h0,zae hq,aA,hq]
    cases hqc:q.Clash with
    |true=>simp[happ,hqc]
    |false=>
     simp only[hqc,Bool.not_false,aD,aA]
     rw[apL (by omega) hp,aA,zcf (by omega),aA]
   ·rw[aE (by omega),aC,List.getElem?_eq_none (by omega),happ]
    rfl
def zbm {α:Type}(xs:List α)(l h:Int):List α:=(xs.take h.toNat).drop l.toNat
theorem zbJ {α:Type}(xs:List α)(l h:Int):(zbm xs l h).length<=xs.length:=by unfold zbm;simp;omega
def zdY (o a b:List Str)(i x y io ia ib:Int)(out:List Part):List Part:=
 match o[i.toNat]? with
 |some s=>zjJ (zjJ out (zc1 (zbm o io i) (zbm a ia x) (zbm b ib y))) (lnP [s])
 |none=>zjJ out (zc1 (zbm o io i) (zbm a ia x) (zbm b ib y))
def zbf (o a b:List Str):Int->List Int->List Int->Int->Int->Int->List Part->List Part
 |i,x::ma,y::mb,io,ia,ib,out=>
  bif decide (x<0)||decide (y<0) then zbf o a b (i+1) ma mb io ia ib out
  else zbf o a b (i+1) ma mb (i+1) (x+1) (y+1) (zdY o a b i x y io ia ib out)
 |_,[],_,_,_,_,out=>out
 |_,_:: _,[],_,_,_,out=>out
def zaZ (o a b:List Str):List Part:=zbf o a b 0 (mt2 o a++[(a.length:Int)]) (mt2 o b++[(b.length:Int)]) 0 0 0 []
theorem zhO {o a b:List Str}(ha:a.length<=1000)(hb:b.length<=1000){i x y io ia ib:Int}{n:Nat}{out:List Part}(h:PB n out):PB (n+2) (zdY o a b i x y io ia ib out):=by
 have h1:=ziu h (zfD (o:=zbm o io i) (Nat.le_trans (zbJ a ia x) ha) (Nat.le_trans (zbJ b ib y) hb))
 unfold zdY
 split
 ·exact ziu h1 (by simp[lnP])
 ·exact h1.mono (by omega)
theorem zfk {o a b:List Str}(ha:a.length<=1000)(hb:b.length<=1000): ∀ (ma mb:List Int) (i io ia ib:Int) (n:Nat) (out:List Part),PB n out->PB (n+2*ma.length) (zbf o a b i ma mb io ia ib out)
 | [],mb,i,io,ia,ib,n,out,h=>by rw[zbf.eq_def];exact h.mono (by omega)
 |x::ma,[],i,io,ia,ib,n,out,h=>by rw[zbf.eq_def];exact h.mono (by omega)
 |x::ma,y::mb,i,io,ia,ib,n,out,h=>by
  rw[zbf]
  cases(decide (x<0)||decide (y<0))with
  |true=>exact(zfk ha hb ma mb _ _ _ _ n out h).mono (by simp;omega)
  |false=>exact(zfk ha hb ma mb _ _ _ _ (n+2) _ (zhO ha hb h)).mono (by simp;omega)
theorem zkN {l:List Int}{i:Nat}{x:Int}(h:l[i]? =some x):l.drop i=x::l.drop (i+1):=by
 have hi:=zan h
 rw[aI hi]
 rw[aB hi]at h
 rw[Option.some.inj h]
theorem zfE {o a b:List Str}(ho:o.length<=1000)(ha:a.length<=1000)(hb:b.length<=1000){ma mb:List Int}(hla:ma.length=o.length+1)(hlb:mb.length=o.length+1):
 ∀ (n i m:Nat) (io ia ib:Int) (out:List Part),i+n=o.length+1->n<m->Asc ((a.length:Int)+1) ia (ma.drop i)->Asc ((b.length:Int)+1) ib (mb.drop i)->0<=io->io<=i->0<=ia->0<=ib->PB (2*i) out->
  zb5 o a b ma mb (fun y45 _ _ _ _=>some y45) m out io ia ib (i:Int)=some (zbf o a b i (ma.drop i) (mb.drop i) io ia ib out)
 |n,i,0,_,_,_,_,_,hm,_,_,_,_,_,_,_=>by omega
 |0,i,m+1,io,ia,ib,out,hi,_,_,_,_,_,_,_,_=>by
  simp only[zb5]
  rw[aE (by omega),aC,List.drop_eq_nil_of_le (by omega),zbf.eq_def]
 |n+1,i,m+1,io,ia,ib,out,hi,hm,hA,hB,h0,h1,h2,h3,hP=>by
  obtain⟨x,hx⟩: ∃ x,ma[i]? =some x:=⟨_,aB (by omega)⟩
  obtain⟨y,hy⟩: ∃ y,mb[i]? =some y:=⟨_,aB (by omega)⟩
  rw[zkN hx]at hA ⊢
  rw[zkN hy]at hB ⊢
  have ei:w64 ((i:Int)+1)=((i+1:Nat):Int):=by rw[zai (by omega) (by omega)];omega
  have ei':(i:Int)+1=((i+1:Nat):Int):=by omega
  rw[ei']at ei
  have dn:decide ((-1:Int)<0)=true:=rfl
  have hstay: ∀ (hA':Asc ((a.length:Int)+1) ia (ma.drop (i+1))) (hB':Asc ((b.length:Int)+1) ib (mb.drop (i+1))),zb5 o a b ma mb (fun y45 _ _ _ _=>some y45) m out io ia ib ((i+1:Nat):Int)=some (zbf o a b ((i+1:Nat):Int) (ma.drop (i+1)) (mb.drop (i+1)) io ia ib out):=
   fun hA' hB'=>zfE ho ha hb hla hlb n (i+1) m io ia ib out (by omega) (by omega) hA' hB' h0 (by omega) h2 h3 (hP.mono (by omega))
  rw[zbf]
  simp only[zb5,jn,zae hx,zae hy,aA,ei,ei',hla]
  rw[aF (show(i:Int)< ((o.length+1:Nat):Int) by omega),aD]
  rcases hA with ⟨rfl,hA⟩ |⟨ha1,ha2,hA⟩
  ·rcases hB with ⟨rfl,hB⟩ |⟨hb1,hb2,hB⟩
   ·simp only[dn,aD,Bool.true_or];exact hstay hA hB
   ·simp only[dn,aD,Bool.true_or];exact hstay hA (hB.mono (by omega))
  rcases hB with ⟨rfl,hB⟩ |⟨hb1,hb2,hB⟩
  ·rw[aE (show ¬ x<0 by omega),aC]
   simp only[dn,aD,Bool.false_or]
   exact hstay (hA.mono (by omega)) hB
  rw[aE (show ¬ x<0 by omega),aE (show ¬ y<0 by omega)]
  simp only[aC,Bool.or_false]
  have ex:w64 (x+1)=x+1:=zai (by omega) (by omega)
  have ey:w64 (y+1)=y+1:=zai (by omega) (by omega)
  have c1:=zbJ o io i
  have c2:=zbJ a ia x
  have c3:=zbJ b ib y
  have hP1:=ziu hP (zfD (o:=zbm o io i) (Nat.le_trans c2 ha) (Nat.le_trans c3 hb))
  have hS:=zhO (o:=o) ha hb (i:=i) (x:=x) (y:=y) (io:=io) (ia:=ia) (ib:=ib) hP
  have hfin:=zfE ho ha hb hla hlb n (i+1) m ((i+1:Nat):Int) (x+1) (y+1) (zdY o a b i x y io ia ib out) (by omega) (by omega) hA hB (by omega) (by omega) (by omega) (by omega) (hS.mono (by omega))
  rw[zjW h0 h1 (by omega),aA,zjW h2 ha1 (by omega),aA,zjW h3 hb1 (by omega),aA,
   show((o.take ((i:Int)).toNat).drop io.toNat)=zbm o io i from rfl,show((a.take x.toNat).drop ia.toNat)=zbm a ia x from rfl,show((b.take y.toNat).drop ib.toNat)=zbm b ib y from rfl,
   zkM (by omega) (by omega) (by omega),aA]
  rw[show(⟨(zc1 (zbm o io i) (zbm a ia x) (zbm b ib y)).Clash,(zc1 (zbm o io i) (zbm a ia x) (zbm b ib y)).Lines,(zc1 (zbm o io i) (zbm a ia x) (zbm b ib y)).Old,(zc1 (zbm o io i) (zbm a ia x) (zbm b ib y)).One,(zc1 (zbm o io i) (zbm a ia x) (zbm b ib y)).Two⟩:Part)=zc1 (zbm o io i) (zbm a ia x) (zbm b ib y) from rfl,
   zi0 hP (by omega) (zfD (Nat.le_trans c2 ha) (Nat.le_trans c3 hb)),aA]
  by_cases hio:i<o.length
  ·have hs:o[i]? =some o[i]:=aB hio
   rw[aF (by omega),aD,zae hs,aA,show(⟨false,[o[i]],[],[],[]⟩:Part)=lnP [o[i]] from rfl,zi0 hP1 (by omega) (by simp[lnP]),aA,ex,ey]
   have hm:zdY o a b i x y io ia ib out=zjJ (zjJ out (zc1 (zbm o io i) (zbm a ia x) (zbm b ib y))) (lnP [o[i]]):=by
    unfold zdY
    rw[show((i:Int)).toNat=i by omega,hs]
   rw[<- hm]
   exact hfin
  ·rw[aE (by omega),aC,ex,ey]
   have hm:zdY o a b i x y io ia ib out=zjJ out (zc1 (zbm o io i) (zbm a ia x) (zbm b ib y)):=by
    unfold zdY
    rw[show((i:Int)).toNat=i by omega,List.getElem?_eq_none (by omega)]
   rw[<- hm]
   exact hfin
theorem zgT (o a:List Str):Asc ((a.length:Int)+1) 0 (mt2 o a++[(a.length:Int)])/\(mt2 o a++[(a.length:Int)]).length=o.length+1:=by
 have h:=zhJ o a
 exact⟨Asc.snoc (by omega) (by omega) h.1,by simp[h.2]⟩
theorem zm4 {o a b:List Str}(ho:o.length<=1000)(ha:a.length<=1000)(hb:b.length<=1000):zin o a b=some (zaZ o a b):=by
 obtain⟨a1,a2⟩:=zgT o a
 obtain⟨b1,b2⟩:=zgT o b
 have l1:=(zhJ o a).2
 have l2:=(zhJ o b).2
 unfold zin
 rw[zhN ho ha,aA,zn6 (by omega),aA,zhN ho hb,aA,zn6 (by omega),aA]
 simp only[jn]
 have:=zfE ho ha hb a2 b2 (o.length+1) 0 ((((mt2 o a++[(a.length:Int)]).length:Int)-0).toNat+1) 0 0 0 [] (by omega) (by omega) a1 b1 (by omega) (by omega) (by omega) (by omega) ⟨by simp,by simp⟩
 exact this
end Go.Vm
namespace Go.Sx
open Go
end Go.Sx
namespace Go.Vm
open Go Go.Sx
set_option linter.unusedSimpArgs false
set_option linter.unusedVariables false
section
variable {o a b:List Str}{Q:Part->Prop}
theorem zi1 {out:List Part}{p:Part}(h3: ∀ q p:Part,Q q->Q p->q.Clash=false->p.Clash=false->Q ⟨q.Clash,q.Lines++p.Lines,q.Old,q.One,q.Two⟩)(h: ∀ q∈out,Q q)(hp:Q p): ∀ q∈zjJ out p,Q q:=by
 have happ: ∀ q∈out++[p],Q q:=fun q hq=>by
  rcases List.mem_append.1 hq with h1 |h1
  ·exact h q h1
  ·rw[List.mem_singleton]at h1;rw[h1];exact hp
 unfold zjJ
 cases(!p.Clash&&p.Lines.length==0)with
 |true=>exact h
 |false=>
  rw[aC]
  split
  ·rename_i q hq
   cases hc:(!p.Clash && !q.Clash)with
   |false=>exact happ
   |true=>
    simp only[aG,Bool.not_eq_true']at hc
    rw[aD]
    intro r hr
    rcases List.mem_or_eq_of_mem_set hr with h1 |h1
    ·exact h r h1
    ·rw[h1];exact h3 q p (h q (aH hq)) hp hc.2 hc.1
  ·exact happ
theorem zeB (h1: ∀ l h l' h' l'' h'',Q (zc1 (zbm o l h) (zbm a l' h') (zbm b l'' h''))) (h2: ∀ s∈o,Q (lnP [s]))
 (h3: ∀ q p:Part,Q q->Q p->q.Clash=false->p.Clash=false->Q ⟨q.Clash,q.Lines++p.Lines,q.Old,q.One,q.Two⟩): ∀ (ma mb:List Int) (i io ia ib:Int) (out:List Part),(∀ q∈out,Q q) -> ∀ q∈zbf o a b i ma mb io ia ib out,Q q
 | [],mb,i,io,ia,ib,out,h=>by rw[zbf.eq_def];exact h
 |x::ma,[],i,io,ia,ib,out,h=>by rw[zbf.eq_def];exact h
 |x::ma,y::mb,i,io,ia,ib,out,h=>by
  rw[zbf]
  cases(decide (x<0)||decide (y<0))with
  |true=>exact zeB h1 h2 h3 ma mb _ _ _ _ out h
  |false=>
   refine zeB h1 h2 h3 ma mb _ _ _ _ _ ?_
   have hp:=zi1 h3 h (h1 io i ia x ib y)
   unfold zdY
   split
   ·rename_i s hs
    exact zi1 h3 hp (h2 s (aH hs))
   ·exact hp
theorem zjA (h1: ∀ l h l' h' l'' h'',Q (zc1 (zbm o l h) (zbm a l' h') (zbm b l'' h''))) (h2: ∀ s∈o,Q (lnP [s]))
 (h3: ∀ q p:Part,Q q->Q p->q.Clash=false->p.Clash=false->Q ⟨q.Clash,q.Lines++p.Lines,q.Old,q.One,q.Two⟩): ∀ q∈zaZ o a b,Q q:=
 zeB h1 h2 h3 _ _ _ _ _ _ [] (by simp)
theorem zd9 {α:Type}{xs:List α}{l h:Int}{x:α}(hx:x∈zbm xs l h):x∈xs:=List.mem_of_mem_take (List.mem_of_mem_drop hx)
theorem zhP {P:Str->Prop}(ho: ∀ s∈o,P s)(ha: ∀ s∈a,P s)(hb: ∀ s∈b,P s): ∀ q∈zaZ o a b,(∀ s∈q.Lines,P s)/\(∀ s∈q.Old,P s)/\(∀ s∈q.One,P s)/\(∀ s∈q.Two,P s)/\q.Old.length<=o.length/\q.One.length<=a.length/\q.Two.length<=b.length:=by
 refine zjA (fun l h l' h' l'' h''=>?_) (fun s hs=>?_) (fun q p hq hp _ _=>?_)
 ·have c1:=zbJ o l h
  have c2:=zbJ a l' h'
  have c3:=zbJ b l'' h''
  unfold zc1 lnP
  cases(zbm a l' h'==zbm o l h||zbm a l' h'==zbm b l'' h'')with
  |true=>exact⟨fun s hs=>hb s (zd9 hs),by simp,by simp,by simp,by simp,by simp,by simp⟩
  |false=>
   rw[aC]
   cases(zbm b l'' h''==zbm o l h)with
   |true=>exact⟨fun s hs=>ha s (zd9 hs),by simp,by simp,by simp,by simp,by simp,by simp⟩
   |false=>exact⟨by simp,fun s hs=>ho s (zd9 hs),fun s hs=>ha s (zd9 hs),fun s hs=>hb s (zd9 hs),c1,c2,c3⟩
 ·exact⟨by simpa[lnP]using ho s hs,by simp[lnP],by simp[lnP],by simp[lnP],by simp[lnP],by simp[lnP],by simp[lnP]⟩
 ·exact⟨fun s hs=>(List.mem_append.1 hs).elim (hq.1 s) (hp.1 s),hq.2⟩
theorem zjB (ho:o.length<=1000)(ha:a.length<=1000)(hb:b.length<=1000):PB (2*(o.length+1)) (zaZ o a b):=by
 have:=zfk (o:=o) ha hb (mt2 o a++[(a.length:Int)]) (mt2 o b++[(b.length:Int)]) 0 0 0 0 0 [] ⟨by simp,by simp⟩
 rw[(zgT o a).2]at this
 exact this.mono (by omega)
end
section
variable {xs:List Memo}{o a b:List Str}
def okT (t:List Str):List Str×Bool:=bif zao t then(t,true) else([],false)
def zph (i:Nat)(s:List Str):Prop:=s.length<=22000*i /\ ∀ x∈s,zbY x=true
theorem zfF {s:List Str}(h:s.length<=1000000)(hl: ∀ x∈s,zbY x=true):Bk.fit s:=⟨by unfold maxi;omega,fun x hx=>by have:=zht (hl x hx);show x.length<=maxi;unfold maxi;omega⟩
theorem apT {s t:List Str}(h:s.length<=1000000)(h':t.length<=1000000):apM s t=some (s++t):=zhh (by simp[lim];omega)
theorem zkd (hto:zao o=true)(hta:zao a=true)(htb:zao b=true):(zaZ o a b).length<=22 /\ ∀ p∈zaZ o a b,p.Lines.length<=22000/\(∀ x∈p.Lines,zbY x=true)/\zao p.Old=true/\zao p.One=true/\zao p.Two=true:=by
 have lo:=zaI hto
 have la:=zaI hta
 have lb:=zaI htb
 have hP:=zjB (o:=o) (a:=a) (b:=b) (by omega) (by omega) (by omega)
 refine⟨Nat.le_trans hP.1 (by omega),fun p hp=>?_⟩
 obtain⟨h1,h2,h3,h4,h5,h6,h7⟩:=zhP (P:=fun s=>zbY s=true) (zbe hto) (zbe hta) (zbe htb) p hp
 have hl:=hP.2 p hp
 have mk: ∀ t:List Str,t.length<=10->(∀ s∈t,zbY s=true)->zao t=true:=fun t h1 h2=>by
  unfold zao
  rw[aE (by omega)]
  simp only[Bool.not_false,Bool.true_and,List.all_eq_true]
  exact h2
 exact⟨by omega,h1,mk _ (by omega) h2,mk _ (by omega) h3,mk _ (by omega) h4⟩
end
def LB (n:Nat)(t:List Str):Prop:=t.length<=n /\ ∀ s∈t,s.length<=100
theorem LB.fit {n:Nat}{t:List Str}(h:LB n t)(hn:n<=1000000):Bk.fit t:=⟨by have:=h.1;unfold maxi;omega,fun s hs=>by have:=h.2 s hs;show s.length<=maxi;unfold maxi;omega⟩
theorem LB.mono {n m:Nat}{t:List Str}(h:LB n t)(hm:n<=m):LB m t:=⟨Nat.le_trans h.1 hm,h.2⟩
theorem zgp {α:Type}{f:α->Nat}{c:Nat}: ∀ {t:List α},(∀ s∈t,f s<=c)->zc5 f t<=c*t.length
 | [],_=>by simp[zc5]
 |x::t,h=>by
  have h1:=h x (by simp)
  have h2:=zgp (t:=t) (fun s hs=>h s (by simp[hs]))
  simp only[zc5,aL,Nat.mul_add,Nat.mul_one]
  omega
theorem LB.bulk {n:Nat}{t:List Str}(h:LB n t):Bk.bulk t<=101*n:=by
 have h1:zc5 Bk.bulk t<=100*t.length:=zgp (f:=fun s:Str=>s.length) (c:=100) (fun s hs=>h.2 s hs)
 have:=h.1
 rw[zrT]
 omega
section
variable {r:l30Rd}{p:Int}
theorem zj8 (h:zcg r p)(hp:p<=1099511627776){l:List Str}(h0:0<l.length)(hl:l.length<=1000): ∃ s,zbC r l=some (s,r.p+1)/\s∈l:=by
 obtain⟨k,hk,k0,k1⟩:=zb6 (n:=(l.length:Int)) h hp (by omega) (by omega)
 obtain⟨s,hs⟩:=ze9 k0 k1
 unfold zbC
 rw[hk,aA,hs,aA]
 exact⟨s,rfl,aH (zk9 hs).2.1⟩
theorem zkO (h:zcg r p)(hp:p<=1099511627776){l:List Int}(h0:0<l.length)(hl:l.length<=1000): ∃ s,zcj r l=some (s,r.p+1)/\s∈l:=by
 obtain⟨k,hk,k0,k1⟩:=zb6 (n:=(l.length:Int)) h hp (by omega) (by omega)
 obtain⟨s,hs⟩:=ze9 k0 k1
 unfold zcj
 rw[hk,aA,hs,aA]
 exact⟨s,rfl,aH (zk9 hs).2.1⟩
theorem zm5 (h:zcg r p)(hp:p<=1099511627776): ∃ s,zdu r=some (s,r.p+1)/\s.length<=12:=by
 unfold zdu
 obtain⟨s,hs,hm⟩:=zj8 h hp (l:=([([97]:Str),([98]:Str),([99]:Str),([100]:Str),([]:Str),([120,32,121]:Str),([115,101,101,32,97]:Str),([115,101,101,32,100,47,101]:Str),([101,110,100]:Str)]:List Str)) (by simp) (by simp)
 rw[hs,aA]
 refine⟨s,rfl,?_⟩
 simp only[List.mem_cons,List.not_mem_nil,or_false]at hm
 rcases hm with rfl |rfl |rfl |rfl |rfl |rfl |rfl |rfl |rfl<;>simp
theorem on1 (h:zcg r p){q:Int}(hq:p+1<=q):zcg ⟨r.b,r.p+1⟩ q:=h.on 1 (by omega) (by have:=h.2.2;omega)
theorem zkP {x0:l30Rd}: ∀ (m:Nat) (out:List Str) (n q p:Int),0<=n->n<m->n<=100->LB 100 out->zcg ⟨x0.b,q⟩ p->p+n<=1099511627776->out.length+n<=100->
 ∃ out' q',zdK x0 (fun y15 y18 y19=>some (y15,y19)) m out n q=some (out',q')/\LB 100 out'/\(out'.length:Int)=out.length+n/\zcg ⟨x0.b,q'⟩ (p+n)
 |0,out,n,q,p,h0,hm,_,_,_,_,_=>by omega
 |m+1,out,n,q,p,h0,hm,hn,hf,hr,hp,hl=>by
  simp only[zdK]
  by_cases hn0:0<n
  ·obtain⟨s,hs,hs2⟩:=zm5 hr (by omega)
   have hs':zdu ⟨x0.b,q⟩=some (s,q+1):=hs
   rw[aF hn0,aD,hs',aA,ap1 (show out.length<=1048576 by omega),aA,zai (by omega) (by omega)]
   have hf':LB 100 (out++[s]):=⟨by simp;omega,fun x hx=>by
    rcases List.mem_append.1 hx with h1 |h1
    ·exact hf.2 x h1
    ·rw[List.mem_singleton]at h1;rw[h1];omega⟩
   obtain⟨o',q',e,f',l',r'⟩:=zkP (x0:=x0) m (out++[s]) (n-1) (q+1) (p+1) (by omega) (by omega) (by omega) hf' (on1 hr (by omega)) (by omega) (by simp;omega)
   exact⟨o',q',e,f',by rw[l'];simp;omega,by rw[show p+n=p+1+(n-1) by omega];exact r'⟩
  ·have hz:n=0:=by omega
   subst hz
   rw[aE hn0,aC]
   exact⟨out,q,rfl,hf,by omega,by simpa using hr⟩
theorem zm6 (h:zcg r p)(hp:p<=1000000000): ∃ t q,zfq r=some (t,q)/\LB 8 t/\zcg ⟨r.b,q⟩ (p+10):=by
 unfold zfq
 obtain⟨n,hn,hm⟩:=zkO h (by omega) (l:=[0,1,3,5,8]) (by simp) (by simp)
 have hn8:0<=n/\n<=8:=by
  simp only[List.mem_cons,List.not_mem_nil,or_false]at hm
  omega
 rw[hn,aA]
 simp only[jn]
 obtain⟨t,q,e,f,l,ro⟩:=zkP (x0:=r) ((n-0).toNat+1) [] n (r.p+1) (p+1) hn8.1 (by omega) (by omega) ⟨by simp,by simp⟩ (on1 h (by omega)) (by omega) (by simp;omega)
 refine⟨t,q,e,⟨by simp at l;omega,f.2⟩,ro.1,ro.2.1,?_⟩
 have:=ro.2.2
 omega
end
section
variable {o a b:List Str}{xs:List Memo}
def zom (l:List Part):List Part:=l.filter (·.Clash)
end
open Go Go.Sx Go.Proofs
theorem zaM (a b:Str):Op.bytesLess a b=decide (a<b):=bytesLess_eq a b
theorem zkQ (a b:Str):(decide (a<=b)||decide (b<=a))=true:=by
 rcases List.le_total a b with h |h<;>simp[h]
theorem zkR (a b c:Str):decide (a<=b)=true->decide (b<=c)=true->decide (a<=c)=true:=by
 simp only[decide_eq_true_eq]
 exact List.le_trans
theorem zal (a:Str): ¬ a<a:=List.lt_irrefl a
theorem zaQ {a b c:Str}:a<b->b<c->a<c:=List.lt_trans
theorem zbi {a b:Str}(h:a<=b)(hn:a≠b):a<b:=by
 rcases Decidable.em (a<b)with h1 |h1
 ·exact h1
 ·exact absurd (List.le_antisymm h (List.not_lt.1 h1)) hn
theorem zhu {a b:Str}: ¬ a<b↔b<=a:=List.not_lt
def Asd (xs:List Str):Prop:=xs.Pairwise (· < ·)
theorem Asd.ext: ∀ {xs ys:List Str},Asd xs->Asd ys->(∀ a,a∈xs↔a∈ys)->xs=ys
 | [],[],_,_,_=>rfl
 | [],y::ys,_,_,h=>by have:=(h y).2 (by simp);simp at this
 |x::xs,[],_,_,h=>by have:=(h x).1 (by simp);simp at this
 |x::xs,y::ys,hx,hy,h=>by
  have hx':=List.pairwise_cons.1 hx
  have hy':=List.pairwise_cons.1 hy
  have e:x=y:=by
   rcases List.mem_cons.1 ((h x).1 (by simp))with e |hm
   ·exact e
   ·rcases List.mem_cons.1 ((h y).2 (by simp))with e |hm2
    ·exact e.symm
    ·exact absurd (zaQ (hy'.1 x hm) (hx'.1 y hm2)) (zal y)
  subst e
  have ht: ∀ a,a∈xs↔a∈ys:=fun a=>by
   constructor
   ·intro ha
    rcases List.mem_cons.1 ((h a).1 (List.mem_cons_of_mem _ ha))with e |hm
    ·exact absurd (by rw[e]at ha;exact hx'.1 x ha) (zal x)
    ·exact hm
   ·intro ha
    rcases List.mem_cons.1 ((h a).2 (List.mem_cons_of_mem _ ha))with e |hm
    ·exact absurd (by rw[e]at ha;exact hy'.1 x ha) (zal x)
    ·exact hm
  rw[Asd.ext hx'.2 hy'.2 ht]
theorem zmK (l:List Str):(zf6 l).Pairwise (· <= ·):=by
 have:=List.pairwise_mergeSort (le:=fun x y:Str=>decide (x<=y)) zkR zkQ l
 exact this.imp (by simp)
theorem zlw {l:List Str}{a:Str}:a∈zf6 l↔a∈l:=List.mem_mergeSort
theorem zhQ: ∀ (l:List Str) (p:Option Str) (a:Str),a∈zdF p l\/some a=p↔a∈l\/some a=p
 | [],p,a=>by simp[zdF]
 |x::l,p,a=>by
  have ih:=zhQ l (some x) a
  unfold zdF
  by_cases hp:p=some x
  ·rw[if_pos hp,hp]
   rw[ih]
   simp only[List.mem_cons,Option.some.injEq]
   constructor
   ·rintro(h |h)
    ·exact .inl (.inr h)
    ·exact .inr h
   ·rintro((h |h) |h)
    ·exact .inr h
    ·exact .inl h
    ·exact .inr h
  ·rw[if_neg hp]
   simp only[List.mem_cons,Option.some.injEq]at ih ⊢
   constructor
   ·rintro((h |h) |h)
    ·exact .inl (.inl h)
    ·rcases ih.1 (.inl h)with h2 |h2
     ·exact .inl (.inr h2)
     ·exact .inl (.inl h2)
    ·exact .inr h
   ·rintro((h |h) |h)
    ·exact .inl (.inl h)
    ·rcases ih.2 (.inl h)with h2 |h2
     ·exact .inl (.inr h2)
     ·exact .inl (.inl h2)
    ·exact .inr h
theorem zi2 {l:List Str}{a:Str}:a∈zmX l↔a∈l:=by
 have:=zhQ l none a
 simpa[zmX]using this
theorem zgq: ∀ (l:List Str) (p:Option Str),l.Pairwise (· <= ·)->(∀ q,p=some q -> ∀ a∈l,q<=a)->Asd (zdF p l) /\ ∀ q,p=some q -> ∀ a∈zdF p l,q<a
 | [],p,_,_=>by simp[zdF,Asd]
 |x::l,p,h,hp=>by
  have h':=List.pairwise_cons.1 h
  obtain⟨i1,i2⟩:=zgq l (some x) h'.2 (fun q hq a ha=>by cases hq;exact h'.1 a ha)
  unfold zdF
  by_cases hpx:p=some x
  ·rw[if_pos hpx]
   exact⟨i1,fun q hq a ha=>by rw[hpx]at hq;exact i2 q hq a ha⟩
  ·rw[if_neg hpx]
   refine⟨List.pairwise_cons.2 ⟨fun a ha=>i2 x rfl a ha,i1⟩,fun q hq a ha=>?_⟩
   have hqx:q<x:=zbi (hp q hq x (by simp)) (fun e=>hpx (by rw[hq,e]))
   rcases List.mem_cons.1 ha with e |e
   ·rw[e];exact hqx
   ·exact zaQ hqx (i2 x rfl a e)
def zgr (xs:List Str)(s:Str):List Str:=zmX (zf6 (xs++[s]))
theorem zet (xs:List Str)(s:Str):Asd (zgr xs s):=(zgq _ none (zmK _) (fun q hq=>by cases hq)).1
theorem insS_mem {xs:List Str}{s a:Str}:a∈zgr xs s↔a∈xs\/a=s:=by
 unfold zgr
 rw[zi2,zlw,List.mem_append,List.mem_singleton]
theorem zfG: ∀ (zs:List Str) (p:Option Str),(zdF p zs).length<=zs.length
 | [],p=>by simp[zdF]
 |x::l,p=>by
  have:=zfG l (some x)
  unfold zdF
  split<;>simp<;>omega
theorem zhE (xs:List Str)(s:Str):(zgr xs s).length<=xs.length+1:=by
 have:=zfG (zf6 (xs++[s])) none
 unfold zgr zmX
 have h2:(zf6 (xs++[s])).length=(xs++[s]).length:=List.length_mergeSort _
 rw[h2]at this
 simpa using this
def zg8 (c:UInt8):Bool:=(decide (97<=(c.toNat:Int))&&decide ((c.toNat:Int)<=122))||(decide (48<=(c.toNat:Int))&&decide ((c.toNat:Int)<=57))
def zav (s:Str):Bool:=(decide (1<=(s.length:Int))&&decide ((s.length:Int)<=6))&&s.all zg8
theorem ziv (c:UInt8):zeQ c=some (zg8 c):=by
 unfold zeQ zg8
 simp only[jn]
 cases decide (97<=(c.toNat:Int))<;>cases decide ((c.toNat:Int)<=122)<;>cases decide (48<=(c.toNat:Int))<;>cases decide ((c.toNat:Int)<=57)<;>rfl
theorem zdt (a b c:Int):ze2 a b c=some (decide (b<=a)&&decide (a<=c)):=by
 unfold ze2
 simp only[jn]
 cases decide (b<=a)<;>rfl
theorem zch (a b c:Int):zex a b c=some (decide (b<=a)&&decide (a<=c)):=by
 unfold zex
 simp only[jn]
 cases decide (b<=a)<;>rfl
theorem zfH {s:Str}(h:s.length<=maxi):zfg s=some (zav s):=by
 unfold zfg zav
 simp only[jn,zak,zdt,aA]
 cases(decide (1<=(s.length:Int))&&decide ((s.length:Int)<=6))
 case false=>rfl
 simp only[aK,aC,Bool.true_and]
 rw[zat (α:=UInt8) (xs:=s) (p:=zg8) (r0:=some false) (Z:=some true) (f:=fun m i=>zct s (fun _ _=>some true) m false i) (fun m i x hx=>by
  simp only[zct,jn,zah hx,zgJ hx,aD,aA,zac (zan hx) h,ziv]
  cases zg8 x<;>rfl) (fun m=>by simp only[zct,zad,aC]) (by omega)]
 cases s.all zg8<;>rfl
theorem zn7 (a b:Int):decide (a<b) = !decide (b<=a):=by
 by_cases h:a<b
 ·rw[aF h,aE (by omega)];rfl
 ·rw[aE h,aF (by omega)];rfl
theorem zaX {s:Str}(h:s.length<=maxi):zd5 s=some (zav s):=by
 unfold zd5 zav
 simp only[jn,zak,zch,aA]
 rw[zat (α:=UInt8) (xs:=s) (p:=zg8) (r0:=some false) (Z:=some (decide (1<=(s.length:Int))&&decide ((s.length:Int)<=6))) (f:=fun m i=>zck s (fun _ _=>some (decide (1<=(s.length:Int))&&decide ((s.length:Int)<=6))) m false i) (fun m i x hx=>by
  simp only[zck,jn,zah hx,zgJ hx,aD,aA,zac (zan hx) h,zn7,zg8]
  cases decide (97<=(x.toNat:Int))<;>cases decide ((x.toNat:Int)<=122)<;>cases decide (48<=(x.toNat:Int))<;>cases decide ((x.toNat:Int)<=57)<;>rfl) (fun m=>by simp only[zck,zad,aC]) (by omega)]
 cases s.all zg8<;>cases(decide (1<=(s.length:Int))&&decide ((s.length:Int)<=6))<;>rfl
def ahd (s:Str):List Str->Nat
 | []=>0
 |x::xs=>bif Op.bytesLess x s then ahd s xs+1 else 0
theorem zmC (s:Str): ∀ xs,ahd s xs<=xs.length
 | []=>Nat.le_refl _
 |x::xs=>by
  have:=zmC s xs
  unfold ahd
  cases Op.bytesLess x s
  ·simp
  ·simp only[aD,aL];omega
theorem zi3 (s:Str): ∀ (xs:List Str) x,x∈xs.take (ahd s xs)->x<s
 | [],x,h=>by simp at h
 |y::xs,x,h=>by
  unfold ahd at h
  cases hy:Op.bytesLess y s with
  |false=>rw[hy]at h;simp at h
  |true=>
   rw[hy,aD,List.take_succ_cons]at h
   rcases List.mem_cons.1 h with e |e
   ·rw[e];rw[zaM]at hy;simpa using hy
   ·exact zi3 s xs x e
theorem zmD (s:Str): ∀ (xs:List Str) x,xs[ahd s xs]? =some x->s<=x
 | [],x,h=>by simp at h
 |y::xs,x,h=>by
  unfold ahd at h
  cases hy:Op.bytesLess y s with
  |false=>
   rw[hy,aC]at h
   have e:y=x:=by simpa using h
   rw[<- e]
   rw[zaM]at hy
   exact zhu.1 (by simpa using hy)
  |true=>
   rw[hy,aD]at h
   exact zmD s xs x (by simpa using h)
theorem zn8 {xs:List Str}{s:Str}(hl:xs.length<=1000000){K:Int->Option (List Str)}: ∀ (n i m:Nat),i+n=xs.length->n<m->(∀ j,j<i -> ∃ x,xs[j]? =some x/\x<s)->zcY xs s K m (i:Int)=K ((i+ahd s (xs.drop i):Nat):Int)
 |n,i,0,_,hm,_=>by omega
 |0,i,m+1,hi,_,_=>by
  simp only[zcY,jn]
  rw[aE (by omega),aC,aC,List.drop_eq_nil_of_le (by omega)]
  rfl
 |n+1,i,m+1,hi,hm,hall=>by
  have hlt:i<xs.length:=by omega
  have hx:xs[i]? =some xs[i]:=aB hlt
  simp only[zcY,jn]
  rw[aF (by omega),aD,zae hx,aA,aI hlt]
  unfold ahd
  cases hb:Op.bytesLess xs[i] s with
  |false=>rw[aC,aC];rfl
  |true=>
   rw[aD,aD,zac hlt (by unfold maxi;omega)]
   rw[zn8 hl n (i+1) m (by omega) (by omega) (fun j hj=>by
    rcases Nat.lt_or_ge j i with h1 |h1
    ·exact hall j h1
    ·have:j=i:=by omega
     subst this
     exact⟨_,hx,by rw[zaM]at hb;simpa using hb⟩)]
   congr 2
   omega
theorem zl4 {xs:List Str}{s:Str}(hl:xs.length<=1000000)(ha:Asd xs):zeD xs s=some (zgr xs s):=by
 unfold zeD
 simp only[jn]
 have h1:=zn8 (s:=s) hl (K:=fun y1=>bif decide (y1< (xs.length:Int)) then(gi xs y1).bind fun u52=>bif u52==s then some xs else(slM xs 0 y1).bind fun q19=>(apM [] q19).bind fun q24=>(apM q24 [s]).bind fun q31=>(slM xs y1 (xs.length:Int)).bind fun q36=>(apM q31 q36).bind fun q41=>some q41
  else bif false then some xs else(slM xs 0 y1).bind fun q19=>(apM [] q19).bind fun q24=>(apM q24 [s]).bind fun q31=>(slM xs y1 (xs.length:Int)).bind fun q36=>(apM q31 q36).bind fun q41=>some q41) xs.length 0 (xs.length+1) (by omega) (by omega) (fun j hj=>by omega)
 have hk:=zmC s xs
 simp only[Nat.zero_add,List.drop_zero]at h1
 refine h1.trans ?_
 -- the list with s in its place
 have hput:(slM xs 0 ((ahd s xs:Nat):Int)).bind (fun q19=>(apM [] q19).bind fun q24=>(apM q24 [s]).bind fun q31=>(slM xs ((ahd s xs:Nat):Int) (xs.length:Int)).bind fun q36=>(apM q31 q36).bind fun q41=>some q41)=some (xs.take (ahd s xs)++[s]++xs.drop (ahd s xs)):=by
  have hlt:(xs.take (ahd s xs)).length<=xs.length:=by simp;omega
  rw[zgW hk,aA,apN (by omega),aA,ap1 (by omega),aA,ziL hk,aA,zhh (by simp[lim];omega),aA]
 have hmem: ∀ a,a∈xs.take (ahd s xs)++[s]++xs.drop (ahd s xs)↔a∈xs\/a=s:=fun a=>by
  have:a∈xs↔a∈xs.take (ahd s xs)\/a∈xs.drop (ahd s xs):=by rw[<- List.mem_append,List.take_append_drop]
  rw[this]
  simp only[List.mem_append,List.mem_singleton]
  constructor
  ·rintro((h |h) |h)
   ·exact .inl (.inl h)
   ·exact .inr h
   ·exact .inl (.inr h)
  ·rintro((h |h) |h)
   ·exact .inl (.inl h)
   ·exact .inr h
   ·exact .inl (.inr h)
 have hfin:(∀ x∈xs.drop (ahd s xs),s<x)->some (xs.take (ahd s xs)++[s]++xs.drop (ahd s xs))=some (zgr xs s):=by
  intro hd
  congr 1
  refine Asd.ext ?_ (zet _ _) (fun a=>by rw[hmem,insS_mem])
  have ha':=ha
  rw[<- List.take_append_drop (ahd s xs) xs]at ha'
  obtain⟨p1,p2,p3⟩:=List.pairwise_append.1 ha'
  refine List.pairwise_append.2 ⟨List.pairwise_append.2 ⟨p1,List.pairwise_singleton _ _,fun a h b hb=>?_⟩,p2,fun a h b hb=>?_⟩
  ·rw[List.mem_singleton]at hb;rw[hb];exact zi3 s xs a h
  ·rcases List.mem_append.1 h with h2 |h2
   ·exact p3 a h2 b hb
   ·rw[List.mem_singleton]at h2;rw[h2];exact hd b hb
 by_cases hlt:ahd s xs<xs.length
 ·have hx:xs[ahd s xs]? =some xs[ahd s xs]:=aB hlt
  have hge:=zmD s xs _ hx
  rw[aF (by omega),aD,zae hx,aA]
  cases he:xs[ahd s xs]==s with
  |true=>
   have e:xs[ahd s xs]=s:=by simpa using he
   rw[aD]
   congr 1
   exact Asd.ext ha (zet _ _) (fun a=>by
    rw[insS_mem]
    constructor
    ·exact .inl
    ·rintro(h |h)
     ·exact h
     ·rw[h,<- e];exact List.getElem_mem hlt)
  |false=>
   have e:s≠xs[ahd s xs]:=fun e=>by rw[<- e]at he;simp at he
   rw[aC,hput]
   refine hfin (fun x hx2=>?_)
   rw[aI hlt]at hx2
   have hs1:s<xs[ahd s xs]:=zbi hge e
   rcases List.mem_cons.1 hx2 with h2 |h2
   ·rw[h2];exact hs1
   ·have hp:Asd (xs.drop (ahd s xs)):=List.Pairwise.sublist (List.drop_sublist _ _) ha
    rw[aI hlt]at hp
    exact zaQ hs1 ((List.pairwise_cons.1 hp).1 x h2)
 ·rw[aE (by omega),aC,aC,hput]
  refine hfin (fun x hx2=>?_)
  rw[List.drop_eq_nil_of_le (by omega)]at hx2
  simp at hx2
def RB (n:Nat)(v:Review):Prop:=v.Branch.length<=4/\v.Into.length<=4/\v.By.length<=4/\LB n v.Yes
theorem RB.fit {n:Nat}{v:Review}(h:RB n v)(hn:n<=1000):Bk.fit v:=
 ⟨by have:=h.1;show v.Branch.length<=maxi;unfold maxi;omega,by have:=h.2.1;show v.Into.length<=maxi;unfold maxi;omega,by have:=h.2.2.1;show v.By.length<=maxi;unfold maxi;omega,h.2.2.2.fit (by omega)⟩
def curS (c:UInt8):Str->Str->List Str
 |w,[]=>[w]
 |w,x::r=>bif x==c then w::curS c [] r else curS c (w++[x]) r
def zd8 (c:UInt8):Nat->Str->Str->List Str
 |_,w,[]=>[w]
 |0,w,x::r=>[w++x::r]
 |n+1,w,x::r=>bif x==c then w::zd8 c n [] r else zd8 c (n+1) (w++[x]) r
theorem zi4 (c:UInt8): ∀ (r w:Str),1<=(curS c w r).length
 | [],w=>by simp[curS]
 |x::r,w=>by
  unfold curS
  cases x==c
  ·exact zi4 c r _
  ·simp
theorem zep (c:UInt8)(w r:Str):zd8 c 0 w r=[w++r]:=by
 cases r<;>simp[zd8]
theorem zcP (c:UInt8): ∀ (r:Str) (n:Nat) (w:Str),(curS c w r).length<=n+1->zd8 c n w r=curS c w r
 | [],n,w,h=>by cases n<;>simp[zd8,curS]
 |x::r,0,w,h=>by
  unfold curS at h ⊢
  cases hx:x==c with
  |true=>
   rw[hx,aD]at h
   have:=zi4 c r []
   rw[aL]at h
   omega
  |false=>
   rw[hx,aC]at h
   have ih:=zcP c r 0 (w++[x]) h
   rw[aC,<- ih,zep,zep]
   simp
 |x::r,n+1,w,h=>by
  unfold curS at h ⊢
  unfold zd8
  cases hx:x==c with
  |true=>
   rw[hx,aD,aL]at h
   rw[aD,aD,zcP c r n [] (by omega)]
  |false=>
   rw[hx,aC]at h
   rw[aC,aC,zcP c r (n+1) _ h]
theorem zea (c:UInt8): ∀ (r:Str) (n:Nat) (w:Str),n+1<=(curS c w r).length->(zd8 c n w r).length=n+1
 | [],n,w,h=>by
  simp[curS]at h
  subst h
  simp[zd8]
 |x::r,0,w,h=>by simp[zd8]
 |x::r,n+1,w,h=>by
  unfold curS at h
  unfold zd8
  cases hx:x==c with
  |true=>
   rw[hx,aD,aL]at h
   rw[aD,aL,zea c r n [] (by omega)]
  |false=>
   rw[hx,aC]at h
   rw[aC,zea c r (n+1) _ h]
theorem zjK {c:UInt8}{w:Str}(h:c∉w):Lib.index w [c] = -1:=Lib.index_none fun j hj=>by
 cases ho:Lib.occAt w [c] j with
 |false=>rfl
 |true=>exact absurd (aH (Lib.occAt_head rfl ho)) h
theorem zlh {c:UInt8}{w r:Str}(h:c∉w):Lib.index (w++c::r) [c]=((w.length:Nat):Int):=Lib.index_first (by simp) (by simp[Lib.occAt,List.isPrefixOf]) fun j hj=>by
 cases ho:Lib.occAt (w++c::r) [c] j with
 |false=>rfl
 |true=>
  have:=Lib.occAt_head rfl ho
  rw[aM hj]at this
  exact absurd (aH this) h
theorem zfI (c:UInt8): ∀ (r w:Str),c∉w->Lib.split (w++r) [c]=curS c w r
 | [],w,h=>by
  unfold Lib.split curS
  rw[List.append_nil,Lib.count_miss (zjK h)]
  rfl
 |x::r,w,h=>by
  unfold curS
  cases hx:x==c with
  |true=>
   have e:x=c:=by simpa using hx
   subst e
   have hi:=zlh (r:=r) h
   rw[aD]
   have ih:=zfI x r [] (by simp)
   unfold Lib.split at ih ⊢
   have hd:(w++x::r).drop (w.length+1)=r:=by
    rw[show w++x::r=(w++[x])++r by simp,List.drop_left' (by simp)]
   have hc:Lib.count (w++x::r) [x]=Lib.count r [x]+1:=by
    rw[Lib.count_hit (by simp) hi]
    show 1+Lib.count ((w++x::r).drop (w.length+1)) [x]=_
    rw[hd]
    omega
   rw[hc]
   unfold Lib.splitK
   rw[if_neg (by rw[hi];simp),hi]
   have e1:(w++x::r).take (((w.length:Nat):Int).toNat+0)=w:=by simp
   have e2:(w++x::r).drop (((w.length:Nat):Int).toNat+[x].length)=r:=hd
   rw[e1,e2]
   simp only[List.nil_append]at ih
   rw[ih]
  |false=>
   have hne:x≠c:=by simpa using hx
   rw[aC,show w++x::r=(w++[x])++r by simp]
   exact zfI c r (w++[x]) (by
    rw[List.mem_append,List.mem_singleton]
    rintro(h1 |h1)
    ·exact h h1
    ·exact hne h1.symm)
theorem zl5 (c:UInt8)(s:Str):Lib.split s [c]=curS c [] s:=zfI c s [] (by simp)
theorem ziw (u c:UInt8):(((UInt8.toNat u:Nat):Int)==((UInt8.toNat c:Nat):Int))=(u==c):=by
 have: ∀ b c:Bool,(b=true↔c=true)->b=c:=by decide
 apply this
 rw[beq_iff_eq,beq_iff_eq,<- UInt8.toNat_inj]
 omega
theorem zkS {s:Str}{c:UInt8}{most:Nat}(hs:s.length<=1048576)(hm:most<=1000): ∀ (n:Nat) (out:List Str) (from_ i m:Nat),i+n=s.length->n<m->from_<=i->out.length<=most->
 zeN s c (most:Int) (fun y3 y6 y7=>(slM s y6 (s.length:Int)).bind fun q38=>(apM y3 [q38]).bind fun q43=>some q43) m out (from_:Int) (i:Int)=some (out++zd8 c (most-out.length) ((s.take i).drop from_) (s.drop i))
 |n,out,f,i,0,_,hm,_,_=>by omega
 |n,out,f,i,m+1,hi,hn,hf,ho=>by
  have hdone:(slM s (f:Int) (s.length:Int)).bind (fun q38=>(apM out [q38]).bind fun q43=>some q43)=some (out++[s.drop f]):=by
   rw[ziL (by omega),aA,ap1 (by omega),aA]
  have hw:(s.take i).drop f++s.drop i=s.drop f:=by
   rw[<- List.drop_append_of_le_length (by simp;omega),List.take_append_drop]
  simp only[zeN,jn]
  by_cases h1:(i:Int)< (s.length:Int)
  case neg=>
   rw[aE h1,aC,aC,hdone]
   have:s.drop i=[]:=List.drop_eq_nil_of_le (by omega)
   rw[this]at hw ⊢
   rw[List.append_nil]at hw
   rw[hw]
   cases most-out.length<;>simp[zd8]
  rw[aF h1,aD]
  have hlt:i<s.length:=by omega
  have hx:s[i]? =some s[i]:=aB hlt
  by_cases h2:(out.length:Int)< (most:Int)
  case neg=>
   rw[aE h2,aC,hdone]
   have:most-out.length=0:=by omega
   rw[this,zep,hw]
  obtain⟨n,rfl⟩: ∃ k,n=k+1:=⟨n-1,by omega⟩
  obtain⟨k,hk⟩: ∃ k,most-out.length=k+1:=⟨most-out.length-1,by omega⟩
  rw[aF h2,aD,zgJ hx,aA,ziw,hk,aI hlt]
  unfold zd8
  cases hb:s[i]==c with
  |true=>
   rw[aD,aD,zjW (by omega) (by omega) (by omega),aA,ap1 (by omega),aA,zac hlt (by unfold maxi;omega),zkS hs hm n _ (i+1) (i+1) m (by omega) (by omega) (by omega) (by simp;omega)]
   have e1:most-(out++[((s.take ((i:Nat):Int).toNat)).drop ((f:Nat):Int).toNat]).length=k:=by simp;omega
   have e2:(s.take (i+1)).drop (i+1)=[]:=List.drop_eq_nil_of_le (by simp;omega)
   rw[e1,e2]
   simp
  |false=>
   rw[aC,aC,zac hlt (by unfold maxi;omega),zkS hs hm n _ f (i+1) m (by omega) (by omega) (by omega) ho,hk]
   have e2:(s.take (i+1)).drop f=(s.take i).drop f++[s[i]]:=by
    rw[List.take_add_one,hx]
    rw[List.drop_append_of_le_length (by simp;omega)]
    rfl
   rw[e2]
theorem zl6 {s:Str}{c:UInt8}{most:Nat}(hs:s.length<=1048576)(hm:most<=1000):zho s c (most:Int)=some (zd8 c most [] s):=by
 unfold zho
 simp only[jn]
 have:=zkS (c:=c) (most:=most) hs hm s.length [] 0 0 (s.length+1) (by omega) (by omega) (Nat.le_refl _) (by simp)
 simpa using this
def zaw (s:Str):Bool:=decide ((curS 47 [] s).length<=3)&&(curS 47 [] s).all zav
theorem zha (c:UInt8): ∀ (r w:Str),∀ p∈curS c w r,p.length<=w.length+r.length
 | [],w,p,h=>by simp[curS]at h;rw[h];omega
 |x::r,w,p,h=>by
  unfold curS at h
  cases hx:x==c with
  |true=>
   rw[hx,aD]at h
   rcases List.mem_cons.1 h with e |e
   ·rw[e];omega
   ·have:=zha c r [] p e
    simp at this ⊢
    omega
  |false=>
   rw[hx,aC]at h
   have:=zha c r (w++[x]) p h
   simp at this ⊢
   omega
theorem zfl (c:UInt8): ∀ (r w:Str),(curS c w r).length<=r.length+1
 | [],w=>by simp[curS]
 |x::r,w=>by
  unfold curS
  cases x==c
  ·have:=zfl c r (w++[x]);simp at this ⊢;omega
  ·have:=zfl c r [];simp at this ⊢;omega
theorem zca {s:Str}(h:s.length<=1048576):zfO s=some (zaw s):=by
 unfold zfO strings_Split zaw
 rw[if_pos ⟨by omega,by simp⟩,aA,zl5]
 have hl:=zfl 47 s []
 by_cases h3:(3:Int)< ((curS 47 [] s).length:Int)
 ·rw[aF h3,aD,aE (by omega)];rfl
 rw[aE h3,aC,aF (by omega),Bool.true_and]
 simp only[jn,zak]
 rw[zat (α:=Str) (xs:=curS 47 [] s) (p:=zav) (r0:=some false) (Z:=some true) (f:=fun m i=>zcw (curS 47 [] s) (fun _ _=>some true) m false i) (fun m i x hx=>by
  have hf:=zha 47 s [] x (aH hx)
  simp only[zcw,zah hx,zae hx,aD,aA,zac (zan hx) (show(curS 47 [] s).length<=maxi by unfold maxi;omega),zfH (show x.length<=maxi by unfold maxi;simp at hf;omega)]
  cases zav x<;>rfl) (fun m=>by simp only[zcw,zad,aC]) (by omega)]
 cases(curS 47 [] s).all zav<;>rfl
theorem zgU (c:UInt8): ∀ (r:Str) (n:Nat) (w:Str),∀ p∈zd8 c n w r,p.length<=w.length+r.length
 | [],n,w,p,h=>by cases n<;>simp[zd8]at h<;>rw[h]<;>omega
 |x::r,0,w,p,h=>by simp[zd8]at h;rw[h];simp
 |x::r,n+1,w,p,h=>by
  unfold zd8 at h
  cases hx:x==c with
  |true=>
   rw[hx,aD]at h
   rcases List.mem_cons.1 h with e |e
   ·rw[e];omega
   ·have:=zgU c r n [] p e
    simp at this ⊢
    omega
  |false=>
   rw[hx,aC]at h
   have:=zgU c r (n+1) (w++[x]) p h
   simp at this ⊢
   omega
theorem zeb {s:Str}(h:s.length<=1048576):zeK s=some (zaw s):=by
 unfold zeK zaw
 have e47:(UInt8.ofNatLT 47 (by decide):UInt8)=47:=by decide
 have hc:=zl6 (c:=UInt8.ofNatLT 47 (by decide)) (most:=3) h (by omega)
 rw[show(3:Int)=((3:Nat):Int) from rfl,hc,aA,e47]
 simp only[jn,zak]
 have hlen:(zd8 47 3 [] s).length<=maxi:=by
  rcases Nat.lt_or_ge (curS 47 [] s).length 4 with h1 |h1
  ·rw[zcP 47 s 3 [] (by omega)];unfold maxi;omega
  ·rw[zea 47 s 3 [] h1];unfold maxi;omega
 rw[zat (α:=Str) (xs:=zd8 47 3 [] s) (p:=zav) (r0:=some false) (Z:=some (decide (((zd8 47 3 [] s).length:Int)<=((3:Nat):Int)))) (f:=fun m i=>zcl (zd8 47 3 [] s) (fun _ _=>some (decide (((zd8 47 3 [] s).length:Int)<=((3:Nat):Int)))) m false i) (fun m i x hx=>by
  have hf:=zgU 47 s 3 [] x (aH hx)
  simp only[zcl,zah hx,zae hx,aD,aA,zac (zan hx) hlen,zaX (show x.length<=maxi by unfold maxi;simp at hf;omega)]
  cases zav x<;>rfl) (fun m=>by simp only[zcl,zad,aC]) (by omega)]
 rcases Nat.lt_or_ge (curS 47 [] s).length 4 with h1 |h1
 ·rw[zcP 47 s 3 [] (by omega),aF (show((curS 47 [] s).length:Int)<=((3:Nat):Int) by omega),aF (show(curS 47 [] s).length<=3 by omega)]
  cases(curS 47 [] s).all zav<;>rfl
 ·rw[zea 47 s 3 [] h1,aE (show ¬ (curS 47 [] s).length<=3 by omega)]
  cases(zd8 47 3 [] s).all zav<;>rfl
theorem zh8 (a b:Str):(Op.bytesLess a b||a==b) = !Op.bytesLess b a:=by
 rw[zaM,zaM]
 by_cases h:b<a
 ·have h1: ¬ a<b:=fun h2=>zal a (zaQ h2 h)
  have h2: ¬ a=b:=fun e=>by rw[e]at h;exact zal b h
  simp[h,h1,h2]
 ·by_cases e:a=b
  ·simp[h,e]
  ·have:=zbi (zhu.1 h) e
   simp[h,this]
def OB (xs:List Owner):Prop:=xs.length<=1048576 /\ ∀ x∈xs,x.Path.length<=1048576/\x.Who.length<=1048576
theorem OB.of {xs:List Owner}(h:Bk.bulk xs<=1048576):OB xs:=⟨zcS h,fun x hx=>by
 have h1:Bk.bulk x<=1048576:=zgX h hx
 have h2:Bk.bulk x=x.Path.length+x.Who.length:=rfl
 omega⟩
theorem OB.at_ {xs:List Owner}(h:OB xs){i:Nat}{x:Owner}(hx:xs[i]? =some x):x.Path.length<=1048576/\x.Who.length<=1048576:=h.2 x (aH hx)
def zaJ (d p:Str):Bool:=(d++[47]).isPrefixOf p
theorem zkT {d p:Str}(hd:d.length<=1048576)(hp:p.length<=1048576)(h1:zaw d=true)(h2:zaw p=true):zbG d p=some (zaJ d p):=by
 unfold zbG strings_HasPrefix zaJ
 have hs:saM d ([47]:Str)=some (d++[47]):=by
  unfold saM
  rw[if_pos]
  simp only[aL,List.length_nil,lim]
  omega
 simp only[jn,zca hd,zca hp,h1,h2,aA,aD,hs,Lib.hasPrefix]
theorem zfJ {c:UInt8}: ∀ {d p:Str},(d++[c]).isPrefixOf p=(p.take d.length==d&&p[d.length]? ==some c)
 | [],[]=>by simp
 | [],x::p=>by
  by_cases e:c=x
  ·subst e;simp[List.isPrefixOf]
  ·have e1:(c==x)=false:=beq_false_of_ne e
   have e2:((some x:Option UInt8)==some c)=false:=beq_false_of_ne (fun h=>e (Option.some.inj h).symm)
   simp only[List.nil_append,List.isPrefixOf,e1,List.length_nil,List.take_zero,List.getElem?_cons_zero,e2,Bool.false_and,Bool.and_false]
 |y::d,[]=>by simp[List.isPrefixOf]
 |y::d,x::p=>by
  have ih:=zfJ (c:=c) (d:=d) (p:=p)
  simp only[List.cons_append,List.isPrefixOf,aL,List.take_succ_cons,List.getElem?_cons_succ,ih]
  by_cases e:y=x
  ·subst e
   simp
  ·have e1:(y==x)=false:=beq_false_of_ne e
   have e2:(x==y)=false:=beq_false_of_ne (fun h=>e h.symm)
   simp[e1,e2]
theorem zic {d p:Str}(hp:p.length<=1048576):zhx d p=some (zaJ d p):=by
 unfold zhx zaJ
 simp only[jn]
 rw[zfJ]
 by_cases hl:(d.length:Int)< (p.length:Int)
 ·have hlt:d.length<p.length:=by omega
  have hx:p[d.length]? =some p[d.length]:=aB hlt
  rw[aF hl,aD,zgW (by omega),aA,hx]
  cases p.take d.length==d with
  |false=>rfl
  |true=>
   rw[aD,zgJ hx,aA,Bool.true_and]
   congr 1
   have:=(show ∀ u:UInt8,(((UInt8.toNat u:Nat):Int)==(47:Int))=(some u==some (47:UInt8)) from fun u=>by
    have hb:=ziw u 47
    rw[show(((UInt8.toNat (47:UInt8):Nat):Int))=47 from rfl]at hb
    rw[hb]
    simp)
   exact this _
 ·rw[aE hl,aC,List.getElem?_eq_none (by omega)]
  simp
def zmL (s:Str):Bool:=s.all fun c=> !(c==124)
def zfV (t:List Str):Bool:=t.all zmL
theorem zix {t:List Str}(h:Bk.fit t):zeO t=some (zfV t&&zao t):=by
 have hl:=zku h
 unfold zeO zfV
 simp only[jn,zak,ziq h,aA]
 rw[zat (α:=Str) (xs:=t) (p:=zmL) (r0:=some false) (Z:=some (zao t)) (f:=fun m i=>zaF t (fun _ _=>some (zao t)) m false i) (fun m i x hx=>by
  have hx2:x.length<=maxi:=zmp h hx
  have b124: ∀ u:UInt8,(((UInt8.toNat u:Nat):Int)==(124:Int))=(u==124):=fun u=>by
   have hb:=ziw u 124
   rw[show(((UInt8.toNat (124:UInt8):Nat):Int))=124 from rfl]at hb
   exact hb
  simp only[zaF,zah hx,zae hx,aD,jn,Option.getD_some]
  rw[zat (α:=UInt8) (xs:=x) (p:=fun c=> !(c==124)) (r0:=some false) (Z:=zaF t (fun _ _=>some (zao t)) m false ((i+1:Nat):Int)) (f:=fun m' k=>zbu t (i:Int) (fun y10 y11=>zaF t (fun _ _=>some (zao t)) m y10 (w64 ((i:Int)+1))) m' false k) (fun m' k c hc=>by
   simp only[zbu,zae hx,aA,zah hc,aD,zgJ hc,b124,zac (zan hc) hx2]
   cases c==124<;>rfl) (fun m'=>by simp only[zbu,zae hx,aA,zad,aC,zac (zan hx) hl]) (by omega)]
  rfl) (fun m=>by simp only[zaF,zad,aC]) (by omega)]
 cases t.all zmL<;>rfl
def opB (o:Op):Bool:=
 zav o.Branch&&(zav o.Who&&
  (bif o.Kind==1 then zaw o.Path&&(zao o.Text&&(zfV o.Text&&(o.To==[]&&o.At==0)))
   else bif o.Kind==2 then zaw o.Path&&(o.To==[]&&(o.At==0&&(o.Text.length:Int)==0))
   else bif o.Kind==3 then zaw o.Path&&(zaw o.To&&(o.At==0&&(o.Text.length:Int)==0))
   else bif o.Kind==4||o.Kind==5 then zav o.To&&(o.Path==[]&&(o.At==0&&(o.Text.length:Int)==0))
   else bif o.Kind==6||o.Kind==7 then(decide (0<=o.At)&&decide (o.At<=15))&&(o.Path==[]&&(o.To==[]&&(o.Text.length:Int)==0))
   else false))
structure OpFit (o:Op):Prop where
 fit:Bk.fit o
 path:o.Path.length<=1048576
 to:o.To.length<=1048576
 text:Bk.bulk o.Text<=1048576
theorem OpFit.of {o:Op}(h:Bk.fit o)(hb:Bk.bulk o<=1048576):OpFit o:=by
 have e:Bk.bulk o=Bk.bulk o.Kind+(Bk.bulk o.Branch+(Bk.bulk o.Who+(Bk.bulk o.Path+(Bk.bulk o.To+(Bk.bulk o.At+Bk.bulk o.Text))))):=rfl
 have e1:Bk.bulk o.Path=o.Path.length:=rfl
 have e2:Bk.bulk o.To=o.To.length:=rfl
 exact⟨h,by omega,by omega,by omega⟩
theorem zm7 (o:Op)(p q r s:Bool):zen o p q r s=some ((p||o.Path==[])&&((q||o.To==[])&&((r||o.At==0)&&(s||(o.Text.length:Int)==0)))):=by
 unfold zen
 simp only[jn]
 cases p<;>cases q<;>cases r<;>cases s<;>cases(o.Path==([]:Str))<;>cases(o.To==([]:Str))<;>cases((o.At:Int)==(0:Int))<;>rfl
theorem zl7 {o:Op}(h:OpFit o):zhp o=some (opB o):=by
 obtain⟨f0,f1,f2,f3,f4,f5,f6⟩:=h.fit
 unfold zhp opB
 simp only[jn,zaX f1,zaX f2,zaX f4,zeb h.path,zeb h.to,zix f6,zm7,aA,zch]
 cases zav o.Branch
 ·rfl
 cases zav o.Who
 ·rfl
 simp only[aK,aC,Bool.true_and,Bool.true_or,Bool.false_or,Bool.and_true]
 cases(o.Kind==(1:Int))
 case true=>cases zaw o.Path<;>cases zao o.Text<;>cases zfV o.Text<;>cases(o.To==([]:Str))<;>cases(o.At==(0:Int))<;>rfl
 cases(o.Kind==(2:Int))
 case true=>cases zaw o.Path<;>cases(o.To==([]:Str))<;>cases(o.At==(0:Int))<;>cases((o.Text.length:Int)==0)<;>rfl
 cases(o.Kind==(3:Int))
 case true=>cases zaw o.Path<;>cases zaw o.To<;>cases(o.At==(0:Int))<;>cases((o.Text.length:Int)==0)<;>rfl
 simp only[aC]
 cases(o.Kind==(4:Int))<;>cases(o.Kind==(5:Int))<;>cases(o.Kind==(6:Int))<;>cases(o.Kind==(7:Int))<;>cases zav o.To<;>cases(o.Path==([]:Str))<;>cases(o.At==(0:Int))<;>cases(o.To==([]:Str))<;>cases((o.Text.length:Int)==0)<;>cases(decide (0<=o.At)&&decide (o.At<=15))<;>rfl
theorem zbT: ∀ {b c:Bool},(b=true↔c=true)->b=c:=by decide
theorem zj9 {i n:Nat}(hi:i<n)(hn:n<=maxi)(h0:(0:Int)< (i:Int)):w64 ((i:Int)-1)=((i-1:Nat):Int):=by
 rw[zai (by omega) (by unfold maxi at hn;omega)];omega
structure FB (f:File):Prop where
 path:f.Path.length<=1048576
 len:f.Text.length<=1048576
 text:Bk.fit f.Text
def TB (t:List File):Prop:=t.length<=1048576 /\ ∀ f∈t,FB f
theorem TB.at_ {t:List File}(h:TB t){i:Nat}{f:File}(hf:t[i]? =some f):FB f:=h.2 f (aH hf)
theorem TB.maxi {t:List File}(h:TB t):t.length<=maxi:=zaj h.1
theorem TB.nil:TB []:=⟨by simp,fun f hf=>by simp at hf⟩
def zcG:File:=⟨[],[]⟩
theorem zbq {t:List File}{i:Nat}{f:File}(h:t[i]? =some f):t.getD i zcG=f:=by simp[List.getD,h]
theorem zi5 {t:List File}{i:Nat}{f:File}(h:t[i]? =some f)(hl:t.length<=maxi)(h0:(0:Int)< (i:Int)): ∃ y,gi t (w64 ((i:Int)-1))=some y/\t.getD (i-1) zcG=y:=by
 have hi:=zan h
 have hx:t[i-1]? =some t[i-1]:=aB (by omega)
 exact⟨_,by rw[zj9 hi hl h0];exact zae hx,zbq hx⟩
def zgg (t:List File)(i:Nat):Bool:=zaw (t.getD i zcG).Path&&(zao (t.getD i zcG).Text&&(bif decide (0< (i:Int)) then Op.bytesLess (t.getD (i-1) zcG).Path (t.getD i zcG).Path else true))
def zgh (t:List File)(i:Nat):Bool:=zgg t i&&t.all fun f=> !zaJ (t.getD i zcG).Path f.Path
def ziy (t:List File)(i:Nat):Bool:=zgg t i&&(t.take i).all fun f=> !(zaw f.Path&&(zaw (t.getD i zcG).Path&&zaJ f.Path (t.getD i zcG).Path))
def zaq (t:List File):Bool:=decide ((t.length:Int)<=8)&&zgo (zgh t) 0 t.length
theorem zm8 (d:Str)(x:UInt8)(r:Str):d<d++x::r:=by
 induction d with
 |nil=>exact List.nil_lt_cons _ _
 |cons a d ih=>exact List.cons_lt_cons_self.2 ih
theorem zl8 {d p:Str}(h:zaJ d p=true):d<p:=by
 unfold zaJ at h
 obtain⟨t,rfl⟩:=List.isPrefixOf_iff_prefix.1 h
 rw[List.append_assoc]
 exact zm8 d 47 t
theorem zke {t:List File}{n:Nat}(h: ∀ i,i<n->zgg t i=true){i j:Nat}(hij:i<j)(hj:j<n):(t.getD i zcG).Path< (t.getD j zcG).Path:=by
 induction j with
 |zero=>omega
 |succ j ih=>
  have h1:=h (j+1) hj
  unfold zgg at h1
  rw[aF (by omega),aD,Nat.add_sub_cancel]at h1
  simp only[aG,zaM,decide_eq_true_eq]at h1
  rcases Nat.lt_or_ge i j with h2 |h2
  ·exact zaQ (ih h2 (by omega)) h1.2.2
  ·have:i=j:=by omega
   subst this
   exact h1.2.2
theorem zjC (t:List File):zgo (ziy t) 0 t.length=zgo (zgh t) 0 t.length:=by
 apply zbT
 rw[zaC,zaC]
 constructor
 ·intro h
  have hf: ∀ i,i<t.length->zgg t i=true:=fun i hi=>by
   have:=h i (Nat.zero_le _) (by omega)
   unfold ziy at this
   simp only[aG]at this
   exact this.1
  intro i _ hi
  have hi':i<t.length:=by omega
  unfold zgh
  rw[hf i hi',Bool.true_and,List.all_eq_true]
  intro f hm
  obtain⟨k,hk⟩:=List.mem_iff_getElem?.1 hm
  have hkl:=zan hk
  cases hb:zaJ (t.getD i zcG).Path f.Path with
  |false=>rfl
  |true=>
   exfalso
   have hlt:=zl8 hb
   rcases Nat.lt_trichotomy i k with h1 |h1 |h1
   ·have:=h k (Nat.zero_le _) (by omega)
    unfold ziy at this
    simp only[aG,List.all_eq_true]at this
    have h2:=this.2 t[i] (aH (i:=i) (by rw[List.getElem?_take_of_lt h1];exact aB hi'))
    have p1:=hf i hi'
    have p2:=hf k hkl
    unfold zgg at p1 p2
    simp only[aG]at p1 p2
    rw[zbq hk]at h2 p2
    rw[zbq (aB hi')]at hb p1
    rw[p1.1,p2.1,hb]at h2
    simp at h2
   ·subst h1
    rw[zbq hk]at hlt
    exact zal _ hlt
   ·have:=zke hf h1 hi'
    rw[zbq hk]at this
    exact zal _ (zaQ hlt this)
 ·intro h i _ hi
  have hi':i<t.length:=by omega
  have h1:=h i (Nat.zero_le _) hi
  unfold zgh at h1
  simp only[aG]at h1
  unfold ziy
  rw[h1.1,Bool.true_and,List.all_eq_true]
  intro f hm
  obtain⟨k,hk⟩:=List.mem_iff_getElem?.1 hm
  obtain⟨hk',hki⟩:=show t[k]? =some f/\k<i from by
   rw[List.getElem?_take]at hk
   split at hk
   ·exact⟨hk,by assumption⟩
   ·cases hk
  have h2:=h k (Nat.zero_le _) (by omega)
  unfold zgh at h2
  simp only[aG,List.all_eq_true]at h2
  have h3:=h2.2 t[i] (List.getElem_mem hi')
  rw[zbq hk']at h3
  rw[zbq (aB hi')]
  have h4:zaJ f.Path t[i].Path=false:=by simpa using h3
  rw[h4]
  simp
theorem zdO {t:List File}(h:TB t):zdy t=some (zaq t):=by
 have hm:=h.maxi
 unfold zdy zaq
 simp only[jn,zak]
 rw[zbs (n:=t.length) (g:=zgh t) (r0:=some false) (Z:=some (decide ((t.length:Int)<=8))) (f:=fun m i=>zdx t (fun _ _=>some (decide ((t.length:Int)<=8))) m false i) (fun m i hi=>by
  have hx:t[i]? =some t[i]:=aB hi
  have fx:=h.at_ hx
  simp only[zdx,jn,zah hx,zae hx,aD,aA,zac hi hm,zeb fx.path,ziq fx.text]
  unfold zgh zgg
  rw[zbq hx]
  have hin: ∀ K:Bool->Int->Option Bool,zb2 t (i:Int) K (t.length+1) false 0=bif t.all (fun f=> !zaJ t[i].Path f.Path) then K false (t.length:Int) else some false:=fun K=>by
   rw[zat (α:=File) (xs:=t) (p:=fun f=> !zaJ t[i].Path f.Path) (r0:=some false) (Z:=K false (t.length:Int)) (f:=fun m k=>zb2 t (i:Int) K m false k) (fun m k f hf=>by
    simp only[zb2,zah hf,zae hf,zae hx,aD,aA,zac (zan hf) hm,zic (h.at_ hf).path]
    cases zaJ t[i].Path f.Path<;>rfl) (fun m=>by simp only[zb2,zad,aC]) (by omega)]
  cases zaw t[i].Path
  ·rfl
  cases zao t[i].Text
  ·rfl
  simp only[aK,aC,Bool.true_and]
  by_cases h0:(0:Int)< (i:Int)
  ·obtain⟨y,hy,ey⟩:=zi5 hx hm h0
   rw[hy,ey,aF h0]
   simp only[aA,zh8,aD]
   cases Op.bytesLess y.Path t[i].Path
   ·rfl
   ·simp only[aK,aC,Bool.true_and,zak,hin]
  ·rw[aE h0]
   simp only[aC,Bool.true_and,zak,hin]) (fun m=>by simp only[zdx,zad,aC]) _ (by omega)]
 cases decide ((t.length:Int)<=8)<;>cases zgo (zgh t) 0 t.length<;>rfl
theorem ziz {d p:Str}(hd:d.length<=1048576)(hp:p.length<=1048576):zbG d p=some (zaw d&&(zaw p&&zaJ d p)):=by
 cases h1:zaw d with
 |false=>unfold zbG;simp only[jn,zca hd,h1,aA,aC,Bool.false_and]
 |true=>
  cases h2:zaw p with
  |false=>unfold zbG;simp only[jn,zca hd,zca hp,h1,h2,aA,aC,aD,Bool.false_and,Bool.and_false]
  |true=>rw[zkT hd hp h1 h2];rfl
theorem zkU {t:List File}(h:TB t):zf9 t=some (zaq t):=by
 have hm:=h.maxi
 unfold zf9 zaq
 by_cases h8:(8:Int)< (t.length:Int)
 ·rw[aF h8,aE (by omega)];rfl
 rw[aE h8,aF (by omega),aC,Bool.true_and,<- zjC]
 simp only[jn,zak]
 rw[zbs (n:=t.length) (g:=ziy t) (r0:=some false) (Z:=some true) (f:=fun m i=>zcx t (fun _ _=>some true) m false i) (fun m i hi=>by
  have hx:t[i]? =some t[i]:=aB hi
  have fx:=h.at_ hx
  simp only[zcx,jn,zah hx,zae hx,aD,aA,zac hi hm,zca fx.path,zkE fx.text,zgW (Nat.le_of_lt hi),zak]
  unfold ziy zgg
  rw[zbq hx]
  have hin: ∀ K:Bool->Int->Option Bool,zbg t[i] (t.take i) K ((t.take i).length+1) false 0=bif(t.take i).all (fun f=> !(zaw f.Path&&(zaw t[i].Path&&zaJ f.Path t[i].Path))) then K false ((t.take i).length:Int) else some false:=fun K=>by
   rw[zat (α:=File) (xs:=t.take i) (p:=fun f=> !(zaw f.Path&&(zaw t[i].Path&&zaJ f.Path t[i].Path))) (r0:=some false) (Z:=K false ((t.take i).length:Int)) (f:=fun m k=>zbg t[i] (t.take i) K m false k) (fun m k f hf=>by
    have hf2:FB f:=h.2 f (List.mem_of_mem_take (aH hf))
    simp only[zbg,zah hf,zae hf,aD,aA,zac (zan hf) (show(t.take i).length<=maxi by simp;omega),ziz hf2.path fx.path]
    cases(zaw f.Path&&(zaw t[i].Path&&zaJ f.Path t[i].Path))<;>rfl) (fun m=>by simp only[zbg,zad,aC]) (by omega)]
  cases zao t[i].Text
  ·cases zaw t[i].Path<;>rfl
  cases hp:zaw t[i].Path
  ·rfl
  simp only[aK,aC,Bool.true_and]
  by_cases h0:(0:Int)< (i:Int)
  ·obtain⟨y,hy,ey⟩:=zi5 hx hm h0
   rw[hy,ey,aF h0]
   simp only[aA,aD]
   cases Op.bytesLess y.Path t[i].Path
   ·rfl
   ·simp only[aK,aC,Bool.true_and,zak,hin,hp]
  ·rw[aE h0]
   simp only[aC,Bool.true_and,zak,hin,hp]) (fun m=>by simp only[zcx,zad,aC]) _ (by omega)]
 cases zgo (ziy t) 0 t.length<;>rfl
structure CB (c:Commit):Prop where
 par:c.Parents.length<=1048576
 who:c.Who.length<=1048576
 tree:TB c.Tree
structure RpB (r:Repo):Prop where
 coms:r.Commits.length<=1048576
 com: ∀ c∈r.Commits,CB c
 heads:r.Heads.length<=1048576
 head: ∀ h∈r.Heads,h.Name.length<=1048576
theorem RpB.cat {r:Repo}(h:RpB r){i:Nat}{c:Commit}(hc:r.Commits[i]? =some c):CB c:=h.com c (aH hc)
theorem RpB.hat {r:Repo}(h:RpB r){i:Nat}{c:Head}(hc:r.Heads[i]? =some c):c.Name.length<=1048576:=h.head c (aH hc)
def zdR:Head:=⟨[],0⟩
theorem zaY {t:List Head}{i:Nat}{f:Head}(h:t[i]? =some f):t.getD i zdR=f:=by simp[List.getD,h]
theorem zi6 {t:List Head}{i:Nat}{f:Head}(h:t[i]? =some f)(hl:t.length<=maxi)(h0:(0:Int)< (i:Int)): ∃ y,gi t (w64 ((i:Int)-1))=some y/\t.getD (i-1) zdR=y:=by
 have hi:=zan h
 have hx:t[i-1]? =some t[i-1]:=aB (by omega)
 exact⟨_,by rw[zj9 hi hl h0];exact zae hx,zaY hx⟩
def upB (i p:Int):Bool:=decide (0<=p)&&decide (p<=i-1)
def zlr (ps:List Int):Bool:=match ps with
 | [p,q]=> !(p==q)
 |_=>true
def zjL (i:Int)(c:Commit):Bool:=c.Parents.all (upB i)&&(decide ((c.Parents.length:Int)<=2)&&(zlr c.Parents&&(zav c.Who&&zaq c.Tree)))
def noCommit:Commit:=⟨[],[],[]⟩
def zj4 (cs:List Commit):Bool:=zgo (fun i=>zjL i (cs.getD i noCommit)) 0 cs.length
def zeX (n:Nat)(hs:List Head)(i:Nat):Bool:=zav (hs.getD i zdR).Name&&(upB n (hs.getD i zdR).At&&(bif decide (0< (i:Int)) then Op.bytesLess (hs.getD (i-1) zdR).Name (hs.getD i zdR).Name else true))
def zbZ (n:Nat)(hs:List Head):Bool:=zgo (zeX n hs) 0 hs.length&&decide ((hs.length:Int)<=5)
def repoB (r:Repo):Bool:=decide ((r.Commits.length:Int)<=16)&&(zj4 r.Commits&&zbZ r.Commits.length r.Heads)
theorem zbF {t:List Commit}{i:Nat}{f:Commit}(h:t[i]? =some f):t.getD i noCommit=f:=by simp[List.getD,h]
theorem zbL {n:Nat}(hn:n<=maxi):w64 ((n:Int)-1)=(n:Int)-1:=zai (by omega) (by unfold maxi at hn;omega)
def zm9 (i:Int)(ps:List Int)(k:Nat):Bool:=upB i (ps.getD k 0) && !(decide (0< (k:Int))&&(ps.getD k 0==ps.getD 0 0))
theorem zci {t:List Int}{i:Nat}{f:Int}(h:t[i]? =some f):t.getD i 0=f:=by simp[List.getD,h]
theorem zkV (i:Int)(ps:List Int)(h2:(ps.length:Int)<=2):zgo (zm9 i ps) 0 ps.length=(ps.all (upB i)&&zlr ps):=by
 match ps,h2 with
 | [],_=>rfl
 | [p],_=>simp[zgo,zm9,zlr]
 | [p,q],_=>
  simp only[zgo,zm9,zlr,aL,List.length_nil,List.all_cons,List.all_nil]
  have e:(q==p)=(p==q):=by
   apply zbT;rw[beq_iff_eq,beq_iff_eq];exact eq_comm
  simp[e]
  cases upB i p<;>cases upB i q<;>simp
 |p::q::s::l,h=>simp at h;omega
theorem zp4 {i:Nat}{c:Commit}(hi:i<=1048576)(hc:CB c)(K:Bool->Int->Option Bool):zb3 (i:Int) c K (c.Parents.length+1) false 0=bif zgo (zm9 i c.Parents) 0 c.Parents.length then K false (c.Parents.length:Int) else some false:=by
 have hm:=zaj hc.par
 rw[zbs (n:=c.Parents.length) (g:=zm9 i c.Parents) (r0:=some false) (Z:=K false (c.Parents.length:Int)) (f:=fun m k=>zb3 (i:Int) c K m false k) (fun m k hk=>by
  have hx:c.Parents[k]? =some c.Parents[k]:=aB hk
  have h00:c.Parents[0]? =some c.Parents[0]:=aB (by omega)
  have hg0:gi c.Parents 0=some c.Parents[0]:=zae (i:=0) h00
  simp only[zb3,jn,zah hx,zae hx,hg0,aD,aA,zac hk hm,zch,zbL (show i<=maxi by unfold maxi;omega)]
  unfold zm9
  rw[zci hx,zci h00,show(decide ((0:Int)<=c.Parents[k])&&decide (c.Parents[k]<=(i:Int)-1))=upB i c.Parents[k] from rfl]
  cases upB (i:Int) c.Parents[k]
  ·rfl
  ·cases decide ((0:Int)< (k:Int))
   ·rfl
   ·cases(c.Parents[k]==c.Parents[0])<;>rfl) (fun m=>by simp only[zb3,zad,aC]) _ (by omega)]
theorem zp5 {r:Repo}(h:RpB r):zb4 r (fun _ _=>jn (fun(y128:Bool)=>some y128) fun K130=>bif decide (((r.Commits.length:Int):Int)<=(16:Int)) then(K130 (decide (((r.Heads.length:Int):Int)<=(5:Int)))) else(K130 false)) (r.Heads.length+1) false 0=some (decide ((r.Commits.length:Int)<=16)&&zbZ r.Commits.length r.Heads):=by
 have hm:=zaj h.heads
 rw[zbs (n:=r.Heads.length) (g:=zeX r.Commits.length r.Heads) (r0:=some false) (Z:=some (decide ((r.Commits.length:Int)<=16)&&decide ((r.Heads.length:Int)<=5))) (f:=fun m k=>zb4 r _ m false k) (fun m k hk=>by
  have hx:r.Heads[k]? =some r.Heads[k]:=aB hk
  simp only[zb4,jn,zah hx,zae hx,aD,aA,zac hk hm,zch,zbL (zaj h.coms),zaX (zaj (h.hat hx))]
  unfold zeX
  rw[zaY hx,show(decide ((0:Int)<=r.Heads[k].At)&&decide (r.Heads[k].At<=(r.Commits.length:Int)-1))=upB r.Commits.length r.Heads[k].At from rfl]
  cases zav r.Heads[k].Name
  ·rfl
  cases upB r.Commits.length r.Heads[k].At
  ·rfl
  by_cases h0:(0:Int)< (k:Int)
  ·obtain⟨y,hy,ey⟩:=zi6 hx hm h0
   rw[hy,ey,aF h0]
   simp only[aA,zh8]
   cases Op.bytesLess y.Name r.Heads[k].Name<;>rfl
  ·rw[aE h0];rfl) (fun m=>by
   simp only[zb4,zad,aC,jn]
   cases decide ((r.Commits.length:Int)<=16)<;>rfl) _ (by omega)]
 unfold zbZ
 cases zgo (zeX r.Commits.length r.Heads) 0 r.Heads.length<;>cases decide ((r.Commits.length:Int)<=16)<;>rfl
theorem za8 {r:Repo}(h:RpB r):zby r=some (repoB r):=by
 have hm:=zaj h.coms
 unfold zby repoB zj4
 simp only[jn,zak]
 have h3:=zp5 h
 simp only[jn]at h3
 rw[zbs (n:=r.Commits.length) (g:=fun i=>zjL i (r.Commits.getD i noCommit)) (r0:=some false) (Z:=some (decide ((r.Commits.length:Int)<=16)&&zbZ r.Commits.length r.Heads)) (f:=fun m i=>zdA r _ m false i) (fun m i hi=>by
  have hx:r.Commits[i]? =some r.Commits[i]:=aB hi
  have hc:=h.cat hx
  have hco:=h.coms
  simp only[zdA,jn,zah hx,zae hx,aD,aA,zac hi hm,zak,zp4 (show i<=1048576 by omega) hc,zbF hx]
  unfold zjL
  by_cases h2:(2:Int)< (r.Commits[i].Parents.length:Int)
  ·rw[aF h2,aE (show ¬ (r.Commits[i].Parents.length:Int)<=2 by omega)]
   simp only[aD,Bool.false_and,Bool.and_false,aC]
   cases zgo (zm9 i r.Commits[i].Parents) 0 r.Commits[i].Parents.length<;>rfl
  ·rw[aE h2,aF (show(r.Commits[i].Parents.length:Int)<=2 by omega),zkV _ _ (by omega)]
   simp only[aC,Bool.true_and,zaX (zaj hc.who),zdO hc.tree,aA]
   cases r.Commits[i].Parents.all (upB i)<;>cases zlr r.Commits[i].Parents<;>cases zav r.Commits[i].Who<;>cases zaq r.Commits[i].Tree<;>rfl) (fun m=>by
   simp only[zdA,zad,aC,jn,zak,h3]) _ (by omega)]
 cases zgo (fun i=>zjL i (r.Commits.getD i noCommit)) 0 r.Commits.length<;>cases decide ((r.Commits.length:Int)<=16)<;>rfl
theorem zjD {r:Repo}(h:RpB r){hs:List Head}(hl:hs.length<=1048576)(hn: ∀ h∈hs,h.Name.length<=1048576):zfu r hs=some (zbZ r.Commits.length hs):=by
 have hm:=zaj hl
 unfold zfu zbZ
 by_cases h5:(5:Int)< (hs.length:Int)
 ·rw[aF h5,aE (show ¬ (hs.length:Int)<=5 by omega),Bool.and_false];rfl
 rw[aE h5,aF (show(hs.length:Int)<=5 by omega),aC,Bool.and_true]
 simp only[jn,zak]
 rw[zbs (n:=hs.length) (g:=zeX r.Commits.length hs) (r0:=some false) (Z:=some true) (f:=fun m k=>zbR r hs (fun _ _=>some true) m false k) (fun m k hk=>by
  have hx:hs[k]? =some hs[k]:=aB hk
  simp only[zbR,za7,jn,zah hx,zae hx,aD,aA,zac hk hm,zdt,zbL (zaj h.coms),zfH (zaj (hn _ (aH hx)))]
  unfold zeX
  rw[zaY hx,show(decide ((0:Int)<=hs[k].At)&&decide (hs[k].At<=(r.Commits.length:Int)-1))=upB r.Commits.length hs[k].At from rfl]
  cases zav hs[k].Name
  ·rfl
  cases upB r.Commits.length hs[k].At
  ·rfl
  by_cases h0:(0:Int)< (k:Int)
  ·obtain⟨y,hy,ey⟩:=zi6 hx hm h0
   rw[hy,ey,aF h0]
   simp only[aA]
   cases Op.bytesLess y.Name hs[k].Name<;>rfl
  ·rw[aE h0];rfl) (fun m=>by simp only[zbR,zad,aC]) _ (by omega)]
 cases zgo (zeX r.Commits.length hs) 0 hs.length<;>rfl
theorem zcb {r:Repo}(h:RpB r):zde r=some (repoB r):=by
 have hm:=zaj h.coms
 unfold zde repoB zj4
 by_cases h16:(16:Int)< (r.Commits.length:Int)
 ·rw[aF h16,aE (by omega)];rfl
 rw[aE h16,aF (by omega),aC,Bool.true_and]
 simp only[jn,zak]
 rw[zbs (n:=r.Commits.length) (g:=fun i=>zjL i (r.Commits.getD i noCommit)) (r0:=some false) (Z:=some (zbZ r.Commits.length r.Heads)) (f:=fun m i=>zcy r _ m false i) (fun m i hi=>by
  have hx:r.Commits[i]? =some r.Commits[i]:=aB hi
  have hc:=h.cat hx
  have hco:=h.coms
  have hpm:=zaj hc.par
  have hin: ∀ K:Bool->Int->Option Bool,zbh (i:Int) r.Commits[i] K (r.Commits[i].Parents.length+1) false 0=bif r.Commits[i].Parents.all (upB i) then K false (r.Commits[i].Parents.length:Int) else some false:=fun K=>by
   rw[zat (α:=Int) (xs:=r.Commits[i].Parents) (p:=upB i) (r0:=some false) (Z:=K false (r.Commits[i].Parents.length:Int)) (f:=fun m k=>zbh (i:Int) r.Commits[i] K m false k) (fun m k p hp=>by
    simp only[zbh,zah hp,zae hp,aD,aA,zac (zan hp) hpm,zdt,zbL (show i<=maxi by unfold maxi;omega)]
    rw[show(decide ((0:Int)<=p)&&decide (p<=(i:Int)-1))=upB i p from rfl]
    cases upB i p<;>rfl) (fun m=>by simp only[zbh,zad,aC]) (by omega)]
  simp only[zcy,jn,zah hx,zae hx,aD,aA,zac hi hm,zak,hin,zbF hx,zfH (zaj hc.who),zkU hc.tree]
  unfold zjL
  match hps:r.Commits[i].Parents with
  | []=>cases zav r.Commits[i].Who<;>cases zaq r.Commits[i].Tree<;>rfl
  | [p]=>
   simp only[aL,List.length_nil,List.all_cons,List.all_nil,zlr]
   cases upB i p<;>cases zav r.Commits[i].Who<;>cases zaq r.Commits[i].Tree<;>rfl
  | [p,q]=>
   simp only[aL,List.length_nil,List.all_cons,List.all_nil,zlr,gi,List.getElem?_cons_zero,List.getElem?_cons_succ,Int.toNat_zero,Int.toNat_one]
   cases upB i p<;>cases upB i q<;>cases hpq:p==q<;>cases zav r.Commits[i].Who<;>cases zaq r.Commits[i].Tree<;>simp[hpq]<;>rfl
  |p::q::s::l=>
   rw[aF (by simp only[aL];omega),aE (show ¬ (((p::q::s::l).length:Nat):Int)<=2 by simp only[aL];omega)]
   simp only[aD,Bool.false_and,Bool.and_false,aC]) (fun m=>by
   simp only[zcy,zad,aC,jn,zjD h h.heads h.head,aA]) _ (by omega)]
 cases zgo (fun i=>zjL i (r.Commits.getD i noCommit)) 0 r.Commits.length<;>rfl
def atB (r:Repo)(name:Str):Int:=match r.Heads.find? (fun h=>h.Name==name)with
 |some h=>h.At
 |none=> -1
theorem zcC {r:Repo}(h:RpB r)(name:Str):zee r name=some (atB r name):=by
 have hm:=zaj h.heads
 unfold zee atB
 simp only[jn,zak]
 rw[zds (p:=fun h:Head=>h.Name==name) (xs:=r.Heads) (r:=fun h=>some h.At) (Z:=some (-1)) (f:=fun m k=>zdw r name _ m 0 k) (fun m i x hx=>by
  simp only[zdw,zah hx,zae hx,aD,aA,zac (zan hx) hm]) (fun m=>by simp only[zdw,zad,aC]) (by omega)]
 cases r.Heads.find? (fun h=>h.Name==name)<;>rfl
theorem zpE {r:Repo}(h:RpB r)(name:Str):zhl r name=some (atB r name):=by
 have hm:=zaj h.heads
 unfold zhl atB
 simp only[jn,zak]
 rw[zds (p:=fun h:Head=>h.Name==name) (xs:=r.Heads) (r:=fun h=>some h.At) (Z:=some (-1)) (f:=fun m k=>zdo r name _ m 0 k) (fun m i x hx=>by
  simp only[zdo,zah hx,zae hx,aD,aA,zac (zan hx) hm]) (fun m=>by simp only[zdo,zad,aC]) (by omega)]
 cases r.Heads.find? (fun h=>h.Name==name)<;>rfl
def zjn (r:Repo)(name:Str):Int:=bif repoB r then atB r name else -1
theorem zka {r:Repo}(h:RpB r)(name:Str):zgb r name=some (zjn r name):=by
 unfold zgb zjn
 rw[zcb h,aA]
 cases repoB r with
 |false=>rfl
 |true=>rw[aK,aC,zpE h];rfl
theorem zgY {r:Repo}(h:RpB r)(a:Int):za7 r a=some (upB r.Commits.length a):=by
 unfold za7
 rw[zbL (zaj h.coms),zdt,aA]
 rfl
theorem zap {n:Nat}{a:Int}:upB n a=true↔0<=a/\a<=(n:Int)-1:=by
 unfold upB
 simp only[aG,decide_eq_true_eq]
theorem zlF {r:Repo}(h:RpB r){l:List Int}(hl:l.length<=100000):zdX r l=some (repoB r&&l.all (upB r.Commits.length)):=by
 unfold zdX
 rw[zcb h,aA]
 cases repoB r with
 |false=>rfl
 |true=>
  rw[aK,aC,Bool.true_and]
  simp only[jn,zak]
  rw[zat (α:=Int) (xs:=l) (p:=upB r.Commits.length) (r0:=some false) (Z:=some true) (f:=fun m k=>zbw r l (fun _ _=>some true) m false k) (fun m k p hp=>by
   simp only[zbw,zah hp,zae hp,aD,aA,zac (zan hp) (show l.length<=maxi by unfold maxi;omega),zgY h]
   cases upB r.Commits.length p<;>rfl) (fun m=>by simp only[zbw,zad,aC]) (by omega)]
  cases l.all (upB r.Commits.length)<;>rfl
def zjT (r:Repo)(has:List Int):Bool:=has.all (upB r.Commits.length)&&decide ((has.length:Int)<=16)
theorem zmU {r:Repo}(hr:RpB r){l:List Int}(hl:l.length<=1048576):zhj r l=some (zjT r l):=by
 unfold zhj zjT
 simp only[jn,zak]
 rw[zat (α:=Int) (xs:=l) (p:=upB r.Commits.length) (r0:=some false) (Z:=some (decide ((l.length:Int)<=16))) (f:=fun m k=>zgu r l _ m false k) (fun m k p hp=>by
  simp only[zgu,zah hp,zae hp,aD,aA,zac (zan hp) (show l.length<=maxi by unfold maxi;omega),zch,zbL (zaj hr.coms)]
  rw[show(decide ((0:Int)<=p)&&decide (p<=(r.Commits.length:Int)-1))=upB r.Commits.length p from rfl]
  cases upB r.Commits.length p<;>rfl) (fun m=>by simp only[zgu,zad,aC]) (by omega)]
 cases l.all (upB r.Commits.length)<;>rfl
theorem zcc {t:List File}(h:TB t):zd6 t=some t:=by
 have hm:=h.maxi
 have hl:=h.1
 unfold zd6
 simp only[jn,zak]
 rw[zaA (xs:=t) (p:=fun _=>true) (g:=fun f:File=>f) (Z:=fun acc=>some acc) (f:=fun m acc i=>zcn t _ m acc i) (fun m i x acc hx ha=>by
  have hi:=zan hx
  simp only[zcn,zah hx,zae hx,aD,aA,zac hi hm,apN (h.at_ hx).len,ap1 (show acc.length<=1048576 by omega)]) (fun m acc=>by simp only[zcn,zad,aC]) (by omega)]
 simp
theorem zek {t:List File}(h:TB t):zeh t=some t:=by
 have hm:=h.maxi
 have hl:=h.1
 unfold zeh
 simp only[jn,zak]
 rw[zaA (xs:=t) (p:=fun _=>true) (g:=fun f:File=>f) (Z:=fun acc=>some acc) (f:=fun m acc i=>zb1 t _ m acc i) (fun m i x acc hx ha=>by
  have hi:=zan hx
  simp only[zb1,zah hx,zae hx,aD,aA,zac hi hm,zjI (h.at_ hx).len,ap1 (show acc.length<=1048576 by omega)]) (fun m acc=>by simp only[zb1,zad,aC]) (by omega)]
 simp
theorem zcQ {c:Commit}(h:CB c):zbV c=some c:=by
 unfold zbV
 rw[apN h.par,aA,zcc h.tree,aA]
theorem zbr {r:Repo}(h:RpB r):za9 r=some r:=by
 have hm:=zaj h.coms
 have hl:=h.coms
 unfold za9
 simp only[jn,zak,apN h.heads,aA]
 rw[zaA (xs:=r.Commits) (p:=fun _=>true) (g:=fun f:Commit=>f) (Z:=fun acc=>some (Repo.mk acc r.Heads)) (f:=fun m acc i=>zco r _ m i acc r.Heads) (fun m i x acc hx ha=>by
  have hi:=zan hx
  simp only[zco,zah hx,zae hx,aD,aA,zac hi hm,zcQ (h.cat hx),ap1 (show acc.length<=1048576 by omega)]) (fun m acc=>by simp only[zco,zad,aC]) (by omega)]
 rw[show((r.Commits.filter fun _=>true).map fun f:Commit=>f)=r.Commits by simp]
def zd2 (n:Str)(a:Int):Bool->List Head->List Head
 |put,[]=>bif put then [] else [⟨n,a⟩]
 |put,h::hs=>(bif !put && !Op.bytesLess h.Name n then [⟨n,a⟩] else [])++((bif h.Name !=n then [h] else [])++zd2 n a (put || !Op.bytesLess h.Name n) hs)
theorem zhk (n:Str)(a:Int): ∀ (hs:List Head) (put:Bool),(zd2 n a put hs).length+(bif put then 1 else 0)<=hs.length+1
 | [],put=>by cases put<;>simp[zd2]
 |h::hs,put=>by
  have ih:=zhk n a hs (put || !Op.bytesLess h.Name n)
  unfold zd2
  cases put<;>cases hb:Op.bytesLess h.Name n<;>cases hn:(h.Name !=n)<;>simp[hb]at ih ⊢ <;>omega
theorem putH_mem (n:Str)(a:Int): ∀ (hs:List Head) (put:Bool) (x:Head),x∈zd2 n a put hs->x∈hs\/x=⟨n,a⟩
 | [],put,x,h=>by cases put<;>simp[zd2]at h;exact .inr h
 |h::hs,put,x,hx=>by
  unfold zd2 at hx
  rcases List.mem_append.1 hx with h1 |h1
  ·cases hc:(!put && !Op.bytesLess h.Name n)with
   |true=>rw[hc]at h1;simp at h1;exact .inr h1
   |false=>rw[hc]at h1;simp at h1
  ·rcases List.mem_append.1 h1 with h2 |h2
   ·cases hc:(h.Name !=n)with
    |true=>rw[hc]at h2;simp at h2;exact .inl (by rw[h2];simp)
    |false=>rw[hc]at h2;simp at h2
   ·rcases putH_mem n a hs _ x h2 with h3 |h3
    ·exact .inl (List.mem_cons_of_mem _ h3)
    ·exact .inr h3
theorem zhR {r:Repo}(h:RpB r)(hs:r.Heads.length<=100000)(n:Str)(a:Int)(cs:List Commit): ∀ (k i m:Nat) (put:Bool) (out:List Head),i+k=r.Heads.length->k<m->out.length<=2*i->
 zcp r n a (fun y14 _ y16 y19=>bif(!y14) then((apM y19 [Vm.Head.mk n a]).bind fun q160=>some (Vm.Repo.mk y16 q160)) else some (Vm.Repo.mk y16 y19)) m put (i:Int) cs out=some ⟨cs,out++zd2 n a put (r.Heads.drop i)⟩
 |k,i,0,put,out,_,hm,_=>by omega
 |0,i,m+1,put,out,hi,_,ho=>by
  obtain rfl:i=r.Heads.length:=by omega
  simp only[zcp,zad,aC,List.drop_length]
  cases put
  ·simp only[Bool.not_false,aD,ap1 (show out.length<=1048576 by omega),aA,zd2,aC]
  ·simp[zd2]
 |k+1,i,m+1,put,out,hi,hm,ho=>by
  have hlt:i<r.Heads.length:=by omega
  have hx:r.Heads[i]? =some r.Heads[i]:=aB hlt
  have hd:r.Heads.drop i=r.Heads[i]::r.Heads.drop (i+1):=aI hlt
  have hw:=zac hlt (zaj h.heads)
  have ih:=fun put out ho=>zhR h hs n a cs k (i+1) m put out (by omega) (by omega) ho
  simp only[zcp,jn,zah hx,zae hx,aD,aA,hw]
  rw[hd]
  unfold zd2
  have e1:=ap1 (x:=Vm.Head.mk n a) (show out.length<=1048576 by omega)
  have e2:=ap1 (x:=r.Heads[i]) (show out.length<=1048576 by omega)
  have e3:apM (out++[Vm.Head.mk n a]) [r.Heads[i]]=some (out++([Vm.Head.mk n a]++[r.Heads[i]])):=by rw[ap1 (show(out++[Vm.Head.mk n a]).length<=1048576 by simp;omega),List.append_assoc]
  have l1:(out++[r.Heads[i]]).length<=2*(i+1):=by simp;omega
  have l2:(out++[Vm.Head.mk n a]).length<=2*(i+1):=by simp;omega
  have l3:(out++([Vm.Head.mk n a]++[r.Heads[i]])).length<=2*(i+1):=by simp;omega
  have l0:out.length<=2*(i+1):=by omega
  cases put<;>cases Op.bytesLess r.Heads[i].Name n<;>cases(r.Heads[i].Name !=n)<;>
   simp only[aK,Bool.not_false,aD,aC,e1,e2,e3,aA,Bool.and_true,Bool.and_false,Bool.or_true,Bool.or_false,Bool.true_and,Bool.false_and,Bool.true_or,Bool.false_or,ih _ _ l0,ih _ _ l1,ih _ _ l2,ih _ _ l3,List.append_assoc,List.nil_append]
def headR (r:Repo)(n:Str)(a:Int):Repo:=⟨r.Commits,zd2 n a false r.Heads⟩
theorem ze8 {r:Repo}(h:RpB r)(hs:r.Heads.length<=100000)(n:Str)(a:Int):zel r n a=some (headR r n a):=by
 unfold zel headR
 simp only[jn,zak]
 have:=zhR h hs n a r.Commits r.Heads.length 0 (r.Heads.length+1) false [] (by omega) (by omega) (by simp)
 simpa using this
theorem RpB.headR {r:Repo}(h:RpB r)(hs:r.Heads.length<=100000){n:Str}(hn:n.length<=1048576)(a:Int):RpB (headR r n a):=
 ⟨h.coms,h.com,by have:=zhk n a r.Heads false;simp at this;show(zd2 n a false r.Heads).length<=_;omega,fun x hx=>by
  rcases putH_mem n a r.Heads false x hx with h1 |h1
  ·exact h.head x h1
  ·rw[h1];exact hn⟩
def addR (r:Repo)(n:Str)(c:Commit):Repo:=⟨r.Commits++[c],zd2 n r.Commits.length false r.Heads⟩
theorem RpB.push {r:Repo}(h:RpB r){c:Commit}(hc:CB c)(hl:r.Commits.length<=100000):RpB ⟨r.Commits++[c],r.Heads⟩:=
 ⟨by simp;omega,fun x hx=>by
  rcases List.mem_append.1 hx with h1 |h1
  ·exact h.com x h1
  ·rw[List.mem_singleton]at h1;rw[h1];exact hc,h.heads,h.head⟩
theorem RpB.addR {r:Repo}(h:RpB r)(hl:r.Commits.length<=100000)(hs:r.Heads.length<=100000){n:Str}(hn:n.length<=1048576){c:Commit}(hc:CB c):RpB (addR r n c):=
 (h.push hc hl).headR hs hn _
theorem zi7 {r:Repo}(h:RpB r)(hl:r.Commits.length<=100000)(hs:r.Heads.length<=100000)(n:Str){c:Commit}(hc:CB c):zdk r n c=some (addR r n c):=by
 unfold zdk
 rw[apN h.coms,aA,ap1 h.coms,aA,ze8 (h.push hc hl) hs,aA]
 rfl
theorem zab {r:Repo}(h:repoB r=true):r.Commits.length<=16/\r.Heads.length<=5:=by
 unfold repoB zbZ at h
 simp only[aG,decide_eq_true_eq]at h
 omega
def zeH (r:Repo)(n who:Str)(t:List File):Commit:=⟨bif decide (0<=atB r n) then [atB r n] else [],who,t⟩
def za5:Repo:=⟨[],[]⟩
def zdc (r:Repo)(n who:Str)(t:List File):Repo×Bool:=bif repoB r then(bif repoB (addR r n (zeH r n who t)) then(addR r n (zeH r n who t),true) else(r,false)) else(za5,false)
theorem CB.next {r:Repo}{n who:Str}{t:List File}(hw:who.length<=1048576)(ht:TB t):CB (zeH r n who t):=
 ⟨by unfold zeH;cases decide (0<=atB r n)<;>simp,hw,ht⟩
theorem zgs {r:Repo}(h:RpB r){n who:Str}{t:List File}(hn:n.length<=1048576)(hw:who.length<=1048576)(ht:TB t):zdL r n who t=some (zdc r n who t):=by
 unfold zdL zdc
 rw[za8 h,aA]
 cases hr:repoB r with
 |false=>rfl
 |true=>
  obtain⟨s1,s2⟩:=zab hr
  have hc:CB (zeH r n who t):=CB.next hw ht
  have ha:=zi7 h (by omega) (by omega) n hc
  have hb:=h.addR (by omega) (by omega) hn hc
  have hfin:(za9 r).bind (fun z57=>(zdk ⟨z57.Commits,z57.Heads⟩ n (zeH r n who t)).bind fun z66=>(zby z66).bind fun z204=>bif(!z204) then((za9 r).bind fun z219=>some (Vm.Repo.mk z219.Commits z219.Heads,false)) else(some (z66,true)))=some (bif repoB (addR r n (zeH r n who t)) then(addR r n (zeH r n who t),true) else(r,false)):=by
   rw[zbr h,aA,show(⟨r.Commits,r.Heads⟩:Repo)=r from rfl,ha,aA,za8 hb,aA]
   cases repoB (addR r n (zeH r n who t))<;>rfl
  rw[aK,aC,aD,zcc ht,aA]
  simp only[jn,zcC h,aA]
  unfold zeH at hfin ⊢
  cases hd:decide (0<=atB r n)<;>rw[hd]at hfin<;>exact hfin
def zeI (r:Repo)(n:Str)(a:Int):Repo×Bool:=bif repoB r then(bif decide (0<=atB r n) || !repoB (headR r n a) then(r,false) else(headR r n a,true)) else(za5,false)
theorem zgt {r:Repo}(h:RpB r){n:Str}(hn:n.length<=1048576)(a:Int):zbM r n a=some (zeI r n a):=by
 unfold zbM zeI
 rw[za8 h,aA]
 cases hr:repoB r with
 |false=>rfl
 |true=>
  obtain⟨s1,s2⟩:=zab hr
  rw[aK,aC,aD,zbr h,aA,show(⟨r.Commits,r.Heads⟩:Repo)=r from rfl,ze8 h (by omega),aA]
  simp only[jn,zcC h,aA,za8 (h.headR (by omega) hn a)]
  cases decide (0<=atB r n)<;>cases repoB (headR r n a)<;>rfl
def putF (g:File):Bool->List File->List File
 |put,[]=>bif put then [] else [g]
 |put,f::fs=>(bif !put && !Op.bytesLess f.Path g.Path then [g] else [])++((bif f.Path !=g.Path then [f] else [])++putF g (put || !Op.bytesLess f.Path g.Path) fs)
theorem zgV (g:File): ∀ (hs:List File) (put:Bool),(putF g put hs).length+(bif put then 1 else 0)<=hs.length+1
 | [],put=>by cases put<;>simp[putF]
 |h::hs,put=>by
  have ih:=zgV g hs (put || !Op.bytesLess h.Path g.Path)
  unfold putF
  cases put<;>cases hb:Op.bytesLess h.Path g.Path<;>cases hn:(h.Path !=g.Path)<;>simp[hb]at ih ⊢ <;>omega
theorem putF_mem (g:File): ∀ (hs:List File) (put:Bool) (x:File),x∈putF g put hs->x∈hs\/x=g
 | [],put,x,h=>by cases put<;>simp[putF]at h;exact .inr h
 |h::hs,put,x,hx=>by
  unfold putF at hx
  rcases List.mem_append.1 hx with h1 |h1
  ·cases hc:(!put && !Op.bytesLess h.Path g.Path)with
   |true=>rw[hc]at h1;simp at h1;exact .inr h1
   |false=>rw[hc]at h1;simp at h1
  ·rcases List.mem_append.1 h1 with h2 |h2
   ·cases hc:(h.Path !=g.Path)with
    |true=>rw[hc]at h2;simp at h2;exact .inl (by rw[h2];simp)
    |false=>rw[hc]at h2;simp at h2
   ·rcases putF_mem g hs _ x h2 with h3 |h3
    ·exact .inl (List.mem_cons_of_mem _ h3)
    ·exact .inr h3
theorem TB.putF {t:List File}(h:TB t)(hs:t.length<=100000){g:File}(hg:FB g):TB (putF g false t):=
 ⟨by have:=zgV g t false;simp at this;omega,fun x hx=>by
  rcases putF_mem g t false x hx with h1 |h1
  ·exact h.2 x h1
  ·rw[h1];exact hg⟩
theorem zi8 {t:List File}(h:TB t)(hs:t.length<=100000){g:File}(hg:FB g){K:List File->Bool->Int->Option (List File)}(hK: ∀ out put j,out.length<=2*t.length->K out put j=some (bif put then out else out++[g])): ∀ (k i m:Nat) (put:Bool) (out:List File),i+k=t.length->k<m->out.length<=2*i->
 zcT t g K m out put (i:Int)=some (out++putF g put (t.drop i))
 |k,i,0,put,out,_,hm,_=>by omega
 |0,i,m+1,put,out,hi,_,ho=>by
  obtain rfl:i=t.length:=by omega
  simp only[zcT,zad,aC,List.drop_length,hK out put _ ho]
  cases put<;>simp[putF]
 |k+1,i,m+1,put,out,hi,hm,ho=>by
  have hlt:i<t.length:=by omega
  have hx:t[i]? =some t[i]:=aB hlt
  have hd:t.drop i=t[i]::t.drop (i+1):=aI hlt
  have hw:=zac hlt h.maxi
  have ih:=fun put out ho=>zi8 h hs hg hK k (i+1) m put out (by omega) (by omega) ho
  simp only[zcT,jn,zah hx,zae hx,aD,aA,hw,apN hg.len]
  rw[hd]
  unfold putF
  have e1:=ap1 (x:=g) (show out.length<=1048576 by omega)
  have e2:=ap1 (x:=t[i]) (show out.length<=1048576 by omega)
  have e3:apM (out++[g]) [t[i]]=some (out++([g]++[t[i]])):=by rw[ap1 (show(out++[g]).length<=1048576 by simp;omega),List.append_assoc]
  have l1:(out++[t[i]]).length<=2*(i+1):=by simp;omega
  have l2:(out++[g]).length<=2*(i+1):=by simp;omega
  have l3:(out++([g]++[t[i]])).length<=2*(i+1):=by simp;omega
  have l0:out.length<=2*(i+1):=by omega
  have eg:Vm.File.mk g.Path g.Text=g:=rfl
  cases put<;>cases Op.bytesLess t[i].Path g.Path<;>cases(t[i].Path !=g.Path)<;>
   simp only[aK,Bool.not_false,aD,aC,eg,e1,e2,e3,aA,Bool.and_true,Bool.and_false,Bool.or_true,Bool.or_false,Bool.true_and,Bool.false_and,Bool.true_or,Bool.false_or,ih _ _ l0,ih _ _ l1,ih _ _ l2,ih _ _ l3,List.append_assoc,List.nil_append]
theorem zi9 {t:List File}(h:TB t)(hs:t.length<=100000){g:File}(hg:FB g):zeR t g=some (putF g false t):=by
 unfold zeR
 simp only[jn,zak]
 have:=zi8 h hs hg (K:=fun y6 y9 _=>bif(!y9) then((apM ([]:List Str) g.Text).bind fun q126=>(apM y6 [Vm.File.mk g.Path q126]).bind fun q144=>some q144) else some y6) (fun out put j ho=>by
  cases put
  ·simp only[Bool.not_false,aD,aC,apN hg.len,ap1 (show out.length<=1048576 by omega),aA]
  ·rfl) t.length 0 (t.length+1) false [] (by omega) (by omega) (by simp)
 simpa using this
theorem zaH {t:List File}(h:zaq t=true):t.length<=8:=by
 unfold zaq at h
 simp only[aG,decide_eq_true_eq]at h
 omega
def znp (t:List File)(g:File):List File×Bool:=bif zaq t then(bif zaq (putF g false t) then(putF g false t,true) else(t,false)) else([],false)
theorem ziA {t:List File}(h:TB t){g:File}(hg:FB g):zdz t g=some (znp t g):=by
 unfold zdz znp
 rw[zdO h,aA]
 cases ht:zaq t with
 |false=>rfl
 |true=>
  have hs:=zaH ht
  rw[aK,aC,aD,zcc h,aA,zi9 h (by omega) hg,aA,zdO (h.putF (by omega) hg),aA]
  cases zaq (putF g false t)<;>rfl
def zmw (p:Str)(f:File):Bool:=f.Path !=p && !zaJ p f.Path
def dropF (p:Str)(t:List File):List File:=t.filter (zmw p)
theorem zhS {t:List File}(h:TB t)(p:Str):zf7 t p=some (dropF p t):=by
 have hm:=h.maxi
 have hl:=h.1
 unfold zf7 dropF
 simp only[jn,zak]
 rw[zaA (xs:=t) (p:=zmw p) (g:=fun f:File=>f) (Z:=fun acc=>some acc) (f:=fun m acc i=>zcq t p _ m acc i) (fun m i x acc hx ha=>by
  have hi:=zan hx
  simp only[zcq,jn,zah hx,zae hx,aD,aA,zac hi hm,ap1 (show acc.length<=1048576 by omega),zic (h.at_ hx).path]
  unfold zmw
  cases(x.Path !=p)<;>cases zaJ p x.Path<;>rfl) (fun m acc=>by simp only[zcq,zad,aC]) (by omega)]
 simp
theorem TB.dropF {t:List File}(h:TB t)(p:Str):TB (dropF p t):=⟨Nat.le_trans (List.length_filter_le _ _) h.1,fun f hf=>h.2 f ((List.mem_filter.1 hf).1)⟩
def znA (t:List File)(p:Str):List File×Bool:=bif zaq t then(dropF p t,decide (((dropF p t).length:Int)< (t.length:Int))) else([],false)
theorem zhT {t:List File}(h:TB t)(p:Str):zcU t p=some (znA t p):=by
 unfold zcU znA
 rw[zdO h,aA]
 cases zaq t with
 |false=>rfl
 |true=>rw[aK,aC,aD,zcc h,aA,zhS h,aA]
theorem zeu {r:Repo}(h:repoB r=true){i:Nat}(hi:i<r.Commits.length):zjL i (r.Commits.getD i noCommit)=true:=by
 unfold repoB zj4 at h
 simp only[aG]at h
 exact zaC.1 h.2.1 i (Nat.zero_le _) (by omega)
def zaa (r:Repo)(i:Nat):List Int:=(r.Commits.getD i noCommit).Parents
theorem zar {r:Repo}(h:repoB r=true){i:Nat}(hi:i<r.Commits.length):(zaa r i).length<=2 /\ ∀ p∈zaa r i,0<=p/\p<=(i:Int)-1:=by
 have:=zeu h hi
 unfold zjL at this
 simp only[aG,decide_eq_true_eq,List.all_eq_true]at this
 obtain⟨h1,h2,_⟩:=this
 refine⟨by unfold zaa;omega,fun p hp=>?_⟩
 have:=h1 p hp
 unfold upB at this
 simp only[aG,decide_eq_true_eq]at this
 exact this
theorem ziR {r:Repo}{i:Nat}(hi:i<r.Commits.length):gi r.Commits (i:Int)=some (r.Commits.getD i noCommit):=by
 rw[zbF (aB hi)]
 exact zae (aB hi)
theorem zc3 {r:Repo}(h:repoB r=true){x:Head}(hx:x∈r.Heads):0<=x.At/\x.At<=(r.Commits.length:Int)-1/\zav x.Name=true:=by
 obtain⟨i,hi⟩:=List.mem_iff_getElem?.1 hx
 unfold repoB zbZ at h
 simp only[aG]at h
 have:=zaC.1 h.2.2.1 i (Nat.zero_le _) (by have:=zan hi;omega)
 unfold zeX upB at this
 rw[zaY hi]at this
 simp only[aG,decide_eq_true_eq]at this
 exact⟨this.2.1.1,this.2.1.2,this.1⟩
theorem at_range {r:Repo}(h:repoB r=true)(n:Str):atB r n = -1\/(0<=atB r n/\atB r n<=(r.Commits.length:Int)-1):=by
 unfold atB
 cases hf:r.Heads.find? (fun h=>h.Name==n)with
 |none=>exact .inl rfl
 |some x=>
  have:=zc3 h (List.mem_of_find?_eq_some hf)
  exact .inr ⟨this.1,this.2.1⟩
def zj1 (mk:List Bool)(p:Int):List Bool:=mk.set p.toNat true
theorem zf4 (mk:List Bool)(p:Int):(zj1 mk p).length=mk.length:=by simp[zj1]
theorem zhU: ∀ (ps:List Int) (mk:List Bool),(ps.foldl zj1 mk).length=mk.length
 | [],mk=>rfl
 |p::ps,mk=>by rw[List.foldl_cons,zhU ps,zf4]
def zik (r:Repo)(i:Nat)(mk:List Bool):List Bool:=bif mk.getD i false then(zaa r i).foldl zj1 mk else mk
theorem zeJ (r:Repo)(i:Nat)(mk:List Bool):(zik r i mk).length=mk.length:=by
 unfold zik
 cases mk.getD i false
 ·rfl
 ·exact zhU _ _
def zdE (r:Repo):Nat->List Bool->List Bool
 |0,mk=>mk
 |i+1,mk=>zdE r i (zik r i mk)
theorem zgM (r:Repo): ∀ (i:Nat) (mk:List Bool),(zdE r i mk).length=mk.length
 |0,mk=>rfl
 |i+1,mk=>by unfold zdE;rw[zgM r i,zeJ]
def za0 (r:Repo)(a:Nat):List Bool:=zdE r (a+1) ((List.replicate r.Commits.length false).set a true)
theorem zaK (r:Repo)(a:Nat):(za0 r a).length=r.Commits.length:=by unfold za0;rw[zgM];simp
def zia (mk:List Bool):List Int:=((List.range mk.length).filter fun i=>mk.getD i false).map Int.ofNat
def allA (r:Repo)(a:Int):List Int:=zia (za0 r a.toNat)
theorem zb7 {mk:List Bool}{i:Nat}(h:i<mk.length):gi mk (i:Int)=some (mk.getD i false):=by
 have hx:mk[i]? =some mk[i]:=aB h
 rw[zae hx]
 simp[List.getD,hx]
theorem zkW {mk:List Bool}{p:Int}{i:Nat}(h:mk.getD i false=true):(zj1 mk p).getD i false=true:=by
 unfold zj1
 by_cases e:p.toNat=i
 ·subst e
  have hl:p.toNat<mk.length:=by
   rcases Nat.lt_or_ge p.toNat mk.length with h1 |h1
   ·exact h1
   ·rw[List.getD,List.getElem?_eq_none (by omega)]at h;simp at h
  simp[List.getD,hl]
 ·simp only[List.getD,List.getElem?_set_ne e]at h ⊢
  exact h
theorem zmE {r:Repo}(h:repoB r=true){i:Nat}(hi:i<r.Commits.length){F:List Bool->Option (List Int)}: ∀ (j k m:Nat) (mk:List Bool),k+j=(zaa r i).length->j<m->mk.length=r.Commits.length->
 zcW r (i:Int) (fun _ y27=>F y27) m (k:Int) mk=F (bif mk.getD i false then((zaa r i).drop k).foldl zj1 mk else mk)
 |j,k,0,mk,_,hm,_=>by omega
 |0,k,m+1,mk,hk,_,hl=>by
  obtain rfl:k=(zaa r i).length:=by omega
  have e:(r.Commits.getD i noCommit).Parents=zaa r i:=rfl
  simp only[zcW,jn,ziR hi,aA,e,zad,aC,List.drop_length,List.foldl_nil]
  cases mk.getD i false<;>rfl
 |j+1,k,m+1,mk,hk,hm,hl=>by
  have hlt:k< (zaa r i).length:=by omega
  have hx:(zaa r i)[k]? =some (zaa r i)[k]:=aB hlt
  obtain⟨hs,hp⟩:=zar h hi
  obtain⟨p0,p1⟩:=hp _ (List.getElem_mem hlt)
  have e:(r.Commits.getD i noCommit).Parents=zaa r i:=rfl
  have hn:(((zaa r i)[k].toNat:Nat):Int)=(zaa r i)[k]:=by omega
  have hg:gi mk (zaa r i)[k]=some (mk.getD (zaa r i)[k].toNat false):=by
   rw[<- hn]
   exact zb7 (by omega)
  have hsi:siM mk (zaa r i)[k] true=some (zj1 mk (zaa r i)[k]):=by
   have:=zcf (xs:=mk) (i:=(zaa r i)[k].toNat) (by omega) true
   rw[hn]at this
   exact this
  simp only[zcW,jn,ziR hi,aA,e,zah hx,aD,zb7 (show i<mk.length by omega),zae hx,hg,hsi]
  cases hb:mk.getD i false with
  |false=>rfl
  |true=>
   rw[aD,aD,zac hlt (by unfold maxi;omega),zmE h hi j (k+1) m _ (by omega) (by omega) (by rw[zf4];exact hl),zkW hb,aD,aI hlt,List.foldl_cons]
theorem zmF {r:Repo}(h:repoB r=true){F:List Bool->Option (List Int)}: ∀ (i m:Nat) (mk:List Bool),i<=r.Commits.length->i<m->mk.length=r.Commits.length->
 zbE r (fun _ y=>F y) m ((i:Int)-1) mk=F (zdE r i mk)
 |i,0,mk,_,hm,_=>by omega
 |0,m+1,mk,_,_,_=>by
  simp only[zbE]
  rw[aE (by omega)]
  rfl
 |i+1,m+1,mk,hi,hm,hl=>by
  have hs:=(zab h).1
  have e:(((i+1:Nat):Int))-1=(i:Int):=by omega
  simp only[zbE,jn,e]
  rw[aF (by omega),aD]
  have hp:=(zar h (show i<r.Commits.length by omega)).1
  have h2:=zmE h (show i<r.Commits.length by omega) (F:=fun y27=>zbE r (fun _ y=>F y) m (w64 ((i:Int)-1)) y27) (zaa r i).length 0 4 mk (by omega) (by omega) hl
  refine(h2).trans ?_
  rw[zbL (show i<=maxi by unfold maxi;omega)]
  refine(zmF h i m _ (by omega) (by omega) ?_).trans rfl
  have:=zeJ r i mk
  unfold zik at this
  rw[List.drop_zero,this]
  exact hl
theorem zkX {mk:List Bool}(hl:mk.length<=1000): ∀ (k i m:Nat) (out:List Int),i+k=mk.length->k<m->out.length<=i->
 zbD mk (fun y69 _=>some y69) m out (i:Int)=some (out++((List.range' i k).filter fun i=>mk.getD i false).map Int.ofNat)
 |k,i,0,out,_,hm,_=>by omega
 |0,i,m+1,out,hi,_,_=>by
  obtain rfl:i=mk.length:=by omega
  simp only[zbD,zad,aC]
  simp
 |k+1,i,m+1,out,hi,hm,ho=>by
  have hlt:i<mk.length:=by omega
  have hx:mk[i]? =some mk[i]:=aB hlt
  simp only[zbD,jn,zah hx,aD,zb7 hlt,aA,zac hlt (show mk.length<=maxi by unfold maxi;omega),ap1 (x:=(i:Int)) (show out.length<=1048576 by omega)]
  rw[List.range'_succ,List.filter_cons]
  cases hb:mk.getD i false with
  |true=>
   rw[aD,zkX hl k (i+1) m _ (by omega) (by omega) (by simp;omega),if_pos rfl]
   simp
  |false=>
   rw[aC,zkX hl k (i+1) m _ (by omega) (by omega) (by omega),if_neg (by simp)]
theorem zb8 {r:Repo}(h:repoB r=true){a:Int}(h0:0<=a)(h1:a<=(r.Commits.length:Int)-1):zef r a=some (allA r a):=by
 have hs:=(zab h).1
 obtain⟨n,rfl⟩:=Int.eq_ofNat_of_zero_le h0
 have hn:n<r.Commits.length:=by omega
 have hl:(List.replicate r.Commits.length false).length=r.Commits.length:=by simp
 unfold zef
 rw[zjV (by simp[lim];omega),aA,zb7 (by rw[hl];exact hn),aA,zcf (by rw[hl];exact hn),aA]
 simp only[jn,zak]
 have e:=zmF h (F:=fun y18=>zbD y18 (fun y69 _=>some y69) (y18.length+1) ([]:List Int) 0) (n+1) (((n:Int)+1-0).toNat+1) ((List.replicate r.Commits.length false).set n true) (by omega) (by omega) (by simp)
 rw[show(((n+1:Nat):Int))-1=(n:Int) by omega]at e
 refine e.trans ?_
 have hml:=zaK r n
 unfold za0 at hml
 have e3:=zkX (mk:=zdE r (n+1) ((List.replicate r.Commits.length false).set n true)) (by omega) r.Commits.length 0 (r.Commits.length+1) [] (by omega) (by omega) (by simp)
 rw[hml]
 refine e3.trans ?_
 unfold allA zia za0
 rw[Int.toNat_natCast,hml,List.range_eq_range']
 rfl
theorem zaO {r:Repo}{a x:Int}(h:x∈allA r a):0<=x/\x<=(r.Commits.length:Int)-1:=by
 unfold allA zia at h
 rw[zaK]at h
 obtain⟨i,hi,rfl⟩:=List.mem_map.1 h
 have:=List.mem_range.1 (List.mem_filter.1 hi).1
 constructor
 ·exact Int.natCast_nonneg i
 ·show(i:Int)<=_;omega
theorem zaS (r:Repo)(a:Int):(allA r a).length<=r.Commits.length:=by
 unfold allA zia
 rw[zaK,List.length_map]
 exact Nat.le_trans (List.length_filter_le _ _) (by simp)
def zcF (l:List Int)(n:Int):Bool:=l.any fun x=>x==n
theorem zeL {l:List Int}(hl:l.length<=1000000)(n:Int):zf3 l n=some (zcF l n):=by
 unfold zf3 zcF
 simp only[jn,zak]
 rw[zds (p:=fun x:Int=>x==n) (xs:=l) (r:=fun _=>some true) (Z:=some false) (f:=fun m k=>zcX l n _ m false k) (fun m i x hx=>by
  simp only[zcX,zah hx,zae hx,aD,aA,zac (zan hx) (show l.length<=maxi by unfold maxi;omega)]) (fun m=>by simp only[zcX,zad,aC]) (by omega)]
 cases hf:l.find? (fun x=>x==n)with
 |some x=>
  have:l.any (fun x=>x==n)=true:=List.any_eq_true.2 ⟨x,List.mem_of_find?_eq_some hf,by simpa using List.find?_some hf⟩
  rw[this]
 |none=>
  have:l.any (fun x=>x==n)=false:=by
   rw[List.any_eq_false]
   intro x hx
   have:=List.find?_eq_none.1 hf x hx
   simpa using this
  rw[this]
def zlB (r:Repo)(l:List Int)(i:Nat):Bool:=zgo (fun k=>((k:Int)==(i:Int)) || !zcF (allA r (l.getD k 0)) (l.getD i 0)) 0 l.length
def zlu (p:Nat->Bool)(l:List Int):List Int:=((List.range l.length).filter p).map fun i=>l.getD i 0
def zfW (r:Repo)(a b:Int):List Int:=(allA r a).filter (zcF (allA r b))
def zaR (r:Repo)(a b:Int):List Int:=zlu (zlB r (zfW r a b)) (zfW r a b)
theorem zfn {l:List Int}{i:Nat}(h:i<l.length):gi l (i:Int)=some (l.getD i 0):=by
 rw[zci (aB h)]
 exact zae (aB h)
theorem zja {r:Repo}(h:repoB r=true){l:List Int}(hl:l.length<=1000)(hm: ∀ x∈l,0<=x/\x<=(r.Commits.length:Int)-1){i:Nat}(hi:i<l.length){F:Bool->Option (List Int)}: ∀ (n k m:Nat) (b:Bool),k+n=l.length->n<m->
 zbz r l (i:Int) (fun y _=>F y) m b (k:Int)=F (b&&zgo (fun k=>((k:Int)==(i:Int)) || !zcF (allA r (l.getD k 0)) (l.getD i 0)) k n)
 |n,k,0,b,_,hm'=>by omega
 |0,k,m+1,b,hk,_=>by
  obtain rfl:k=l.length:=by omega
  simp only[zbz,zad,aC,zgo,Bool.and_true]
 |n+1,k,m+1,b,hk,hm'=>by
  have hlt:k<l.length:=by omega
  have hx:l[k]? =some l[k]:=aB hlt
  have hs:=(zab h).1
  obtain⟨q0,q1⟩:=hm _ (List.getElem_mem hlt)
  have hal:=zaS r l[k]
  have ih:=fun b=>zja h hl hm hi (F:=F) n (k+1) m b (by omega) (by omega)
  simp only[zbz,zah hx,aD,zac hlt (show l.length<=maxi by unfold maxi;omega),zae hx,zfn hi,aA,zb8 h q0 q1,zeL (show(allA r l[k]).length<=1000000 by omega),ih,zgo,zci hx]
  cases b<;>cases((k:Int)==(i:Int))<;>simp
theorem zhb {r:Repo}(h:repoB r=true){l:List Int}(hl:l.length<=1000)(hm: ∀ x∈l,0<=x/\x<=(r.Commits.length:Int)-1): ∀ (k i m:Nat) (out:List Int),i+k=l.length->k<m->out.length<=i->
 zax r l (fun y _=>some y) m out (i:Int)=some (out++((List.range' i k).filter (zlB r l)).map fun i=>l.getD i 0)
 |k,i,0,out,_,hm',_=>by omega
 |0,i,m+1,out,hi,_,_=>by
  obtain rfl:i=l.length:=by omega
  simp only[zax,zad,aC]
  simp
 |k+1,i,m+1,out,hi,hm',ho=>by
  have hlt:i<l.length:=by omega
  have hx:l[i]? =some l[i]:=aB hlt
  have h3:=zja h hl hm hlt (F:=fun y104=>bif y104 then((gi l (i:Int)).bind fun u151=>(apM out [u151]).bind fun q160=>zax r l (fun y _=>some y) m q160 (w64 ((i:Int)+1))) else zax r l (fun y _=>some y) m out (w64 ((i:Int)+1))) l.length 0 (l.length+1) true (by omega) (by omega)
  simp only[zax,jn,zah hx,aD,zak]
  refine h3.trans ?_
  rw[Bool.true_and,List.range'_succ,List.filter_cons,zac hlt (show l.length<=maxi by unfold maxi;omega)]
  show(bif zlB r l i then _ else _)=_
  cases hb:zlB r l i with
  |true=>
   rw[aD,zae hx,aA,ap1 (show out.length<=1048576 by omega),aA,zhb h hl hm k (i+1) m _ (by omega) (by omega) (by simp;omega),if_pos rfl]
   simp[hx]
  |false=>
   rw[aC,zhb h hl hm k (i+1) m _ (by omega) (by omega) (by omega),if_neg (by simp)]
theorem zjE {r:Repo}(h:repoB r=true){a b:Int}(ha:0<=a)(ha':a<=(r.Commits.length:Int)-1)(hb:0<=b)(hb':b<=(r.Commits.length:Int)-1):zfr r a b=some (zaR r a b):=by
 have hs:=(zab h).1
 have la:=zaS r a
 have lb:=zaS r b
 unfold zfr
 rw[zb8 h ha ha',aA,zb8 h hb hb',aA]
 simp only[jn,zak]
 have hl:(zfW r a b).length<=1000:=Nat.le_trans (List.length_filter_le _ _) (by omega)
 have hm: ∀ x∈zfW r a b,0<=x/\x<=(r.Commits.length:Int)-1:=fun x hx=>zaO (List.mem_filter.1 hx).1
 rw[zaA (xs:=allA r a) (p:=zcF (allA r b)) (g:=fun x:Int=>x) (Z:=fun acc=>zax r acc (fun y _=>some y) (acc.length+1) ([]:List Int) 0) (f:=fun m acc i=>zbN (allA r a) (allA r b) _ m acc i) (fun m i x acc hx hacc=>by
  have hi:=zan hx
  simp only[zbN,jn,zah hx,zae hx,aD,aA,zac hi (show(allA r a).length<=maxi by unfold maxi;omega),zeL (show(allA r b).length<=1000000 by omega),ap1 (show acc.length<=1048576 by omega)]
  cases zcF (allA r b) x<;>rfl) (fun m acc=>by simp only[zbN,zad,aC]) (by omega)]
 have e:((allA r a).filter (zcF (allA r b))).map (fun x=>x)=zfW r a b:=by simp[zfW]
 rw[e]
 have:=zhb h hl hm (zfW r a b).length 0 ((zfW r a b).length+1) [] (by omega) (by omega) (by simp)
 refine this.trans ?_
 unfold zaR zlu
 rw[List.range_eq_range']
 rfl
theorem zkf {r:Repo}{a b x:Int}(h:x∈zaR r a b):0<=x/\x<=(r.Commits.length:Int)-1:=by
 unfold zaR zlu at h
 obtain⟨i,hi,rfl⟩:=List.mem_map.1 h
 have hr:=List.mem_range.1 (List.mem_filter.1 hi).1
 rw[zci (aB hr)]
 exact zaO (List.mem_filter.1 (List.getElem_mem hr)).1
theorem zkY (r:Repo)(a b:Int):(zaR r a b).length<=r.Commits.length:=by
 unfold zaR zlu
 rw[List.length_map]
 refine Nat.le_trans (List.length_filter_le _ _) ?_
 rw[List.length_range]
 exact Nat.le_trans (List.length_filter_le _ _) (zaS r a)
def ziB (s:List Str)(p:Part):Option (List Str):=bif p.Clash then none else some (s++p.Lines)
def zdZ (ps:List Part):List Str×Bool:=match ps.foldlM ziB []with
 |some s=>okT s
 |none=>([],false)
theorem zkZ {i:Nat}{s s':List Str}{p:Part}(hp:p.Lines.length<=22000)(hpl: ∀ x∈p.Lines,zbY x=true)(hI:zph i s)(hst:ziB s p=some s'):zph (i+1) s':=by
 unfold ziB at hst
 cases hc:p.Clash with
 |true=>rw[hc]at hst;cases hst
 |false=>
  rw[hc,aC]at hst
  cases hst
  refine⟨by rw[List.length_append];have:=hI.1;omega,fun x hx=>?_⟩
  rcases List.mem_append.1 hx with h1 |h1
  ·exact hI.2 x h1
  ·exact hpl x h1
theorem zk0 {o a b:List Str}(hto:zao o=true)(hta:zao a=true)(htb:zao b=true):zgE (zaZ o a b)=some (zdZ (zaZ o a b)):=by
 obtain⟨hlen,hparts⟩:=zkd hto hta htb
 unfold zgE zdZ
 simp only[jn,zak]
 obtain⟨h1,h2⟩:=zjz (xs:=zaZ o a b) (step:=ziB) (r0:=some (([]:List Str),false)) (Inv:=zph) (s0:=[]) (Z:=fun s=>(zc8 s).bind fun z30=>bif(!z30) then(some (([]:List Str),false)) else(some (s,true))) (f:=fun m s i=>zcs (zaZ o a b) (fun _ _ y7 _=>(zc8 y7).bind fun z30=>bif(!z30) then(some (([]:List Str),false)) else(some (y7,true))) m [] false s i) (fun m i p s hx hI=>by
  have hi:=zan hx
  obtain⟨p1,p2,_⟩:=hparts p (aH hx)
  refine⟨?_,fun s' hst=>zkZ p1 p2 hI hst⟩
  have hs:=hI.1
  simp only[zcs,zah hx,zae hx,aD,aA,zac hi (show(zaZ o a b).length<=maxi by unfold maxi;omega),apT (show s.length<=1000000 by omega) (show p.Lines.length<=1000000 by omega)]
  unfold ziB
  cases p.Clash<;>rfl) (fun m s hI=>by simp only[zcs,zad,aC]) (m:=(zaZ o a b).length+1) (by omega) ⟨by simp,by simp⟩
 refine h1.trans ?_
 cases hf:(zaZ o a b).foldlM ziB []with
 |none=>rfl
 |some s=>
  have hI:=h2 s hf
  have hs:=hI.1
  show(zc8 s).bind _=some (okT s)
  rw[ziq (zfF (by omega) hI.2),aA]
  unfold okT
  cases zao s<;>rfl
theorem zk1 {ps:List Part}:(zdZ ps).2=true->zao (zdZ ps).1=true:=by
 unfold zdZ okT
 cases ps.foldlM ziB []with
 |none=>intro h;cases h
 |some s=>
  show(bif zao s then(s,true) else(([]:List Str),false)).2=true->zao (bif zao s then(s,true) else(([]:List Str),false)).1=true
  cases ht:zao s with
  |true=>intro _;exact ht
  |false=>intro h;cases h
def getT (t:List File)(p:Str):List Str×Bool:=match t.find? (fun f=>f.Path==p)with
 |some f=>(f.Text,true)
 |none=>([],false)
theorem zhc {t:List File}(h:TB t)(p:Str):zgR t p=some (getT t p):=by
 have hm:=h.maxi
 unfold zgR getT
 simp only[jn,zak]
 rw[zds (p:=fun f:File=>f.Path==p) (xs:=t) (r:=fun f=>some (f.Text,true)) (Z:=some (([]:List Str),false)) (f:=fun m k=>zcZ t p _ m [] false k) (fun m i x hx=>by
  simp only[zcZ,zah hx,zae hx,aD,aA,zac (zan hx) hm]) (fun m=>by simp only[zcZ,zad,aC]) (by omega)]
 cases t.find? (fun f=>f.Path==p)<;>rfl
theorem zkt {t:List File}(h:TB t)(p:Str):(getT t p).1.length<=1048576/\Bk.fit (getT t p).1:=by
 unfold getT
 cases hf:t.find? (fun f=>f.Path==p)with
 |some f=>
  have:=h.2 f (List.mem_of_find?_eq_some hf)
  exact⟨this.len,this.text⟩
 |none=>exact⟨by simp,by simp[maxi],by simp⟩
def zay (t:List File):Prop:= ∀ f∈t,zao f.Text=true
theorem zbX {t:List File}(h:zay t)(p:Str):zao (getT t p).1=true:=by
 unfold getT
 cases hf:t.find? (fun f=>f.Path==p)with
 |some f=>exact h f (List.mem_of_find?_eq_some hf)
 |none=>rfl
def zfo (a b:List Str×Bool):Bool:=(a.2==b.2)&&(bif a.2 then a.1==b.1 else true)
theorem zhV {a b:List Str×Bool}(h:a.1.length<=1048576):zfN a.1 a.2 b.1 b.2=some (zfo a b):=by
 unfold zfN zfo
 simp only[jn,ze7 (zaj h),aA]
 cases a.2<;>cases b.2<;>rfl
def oneF (o a b:List File)(p:Str):List Str×Bool×Int:=
 let zo:=getT o p;let za:=getT a p;let zb:=getT b p
 bif zfo za zo||zfo za zb then(zb.1,zb.2,0)
 else bif zfo zb zo then(za.1,za.2,0)
 else bif !za.2 || !zb.2 then(zo.1,zo.2,1)
 else bif !zo.2 then([],false,2)
 else bif(zdZ (zaZ zo.1 za.1 zb.1)).2 then((zdZ (zaZ zo.1 za.1 zb.1)).1,true,0) else(zo.1,true,3)
theorem zl9 {o a b:List File}(ho:TB o)(ha:TB a)(hb:TB b)(to:zay o)(ta:zay a)(tb:zay b)(p:Str):zhq o a b p=some (oneF o a b p):=by
 have eo:=zbX to p
 have ea:=zbX ta p
 have eb:=zbX tb p
 have lo:=zaI eo
 have la:=zaI ea
 have lb:=zaI eb
 unfold zhq oneF
 simp only[jn,zhc ho,zhc ha,zhc hb,aA,zhV (a:=getT a p) (zkt ha p).1,zhV (a:=getT b p) (zkt hb p).1,zm4 (show(getT o p).1.length<=1000 by omega) (show(getT a p).1.length<=1000 by omega) (show(getT b p).1.length<=1000 by omega),zk0 eo ea eb]
 cases zfo (getT a p) (getT o p)<;>cases zfo (getT a p) (getT b p)<;>cases zfo (getT b p) (getT o p)<;>cases(getT a p).2<;>cases(getT b p).2<;>cases(getT o p).2<;>cases(zdZ (zaZ (getT o p).1 (getT a p).1 (getT b p).1)).2<;>rfl
theorem zhW {o a b:List File}(to:zay o)(ta:zay a)(tb:zay b)(p:Str):zao (oneF o a b p).1=true:=by
 have eo:=zbX to p
 have ea:=zbX ta p
 have eb:=zbX tb p
 unfold oneF
 simp only
 cases zfo (getT a p) (getT o p)||zfo (getT a p) (getT b p)with
 |true=>exact eb
 |false=>
  cases zfo (getT b p) (getT o p)with
  |true=>exact ea
  |false=>
   cases !(getT a p).2 || !(getT b p).2 with
   |true=>exact eo
   |false=>
    cases !(getT o p).2 with
    |true=>rfl
    |false=>
     cases hl:(zdZ (zaZ (getT o p).1 (getT a p).1 (getT b p).1)).2 with
     |true=>exact zk1 hl
     |false=>exact eo
def zcR (o a b:List File):List Str:=(b.map (·.Path)).foldl zgr ((a.map (·.Path)).foldl zgr ((o.map (·.Path)).foldl zgr []))
theorem zeY: ∀ (ps:List Str) (l:List Str),Asd l->Asd (ps.foldl zgr l)
 | [],l,h=>h
 |p::ps,l,h=>zeY ps _ (zet _ _)
theorem zcd: ∀ (ps:List Str) (l:List Str),(ps.foldl zgr l).length<=l.length+ps.length
 | [],l=>by simp
 |p::ps,l=>by
  have h1:=zcd ps (zgr l p)
  have h2:=zhE l p
  simp only[List.foldl_cons,aL]
  omega
theorem zec: ∀ (ps:List Str) (l:List Str) (x:Str),x∈ps.foldl zgr l↔x∈l\/x∈ps
 | [],l,x=>by simp
 |p::ps,l,x=>by
  rw[List.foldl_cons,zec ps,insS_mem,List.mem_cons]
  constructor
  ·rintro((h |h) |h)
   ·exact .inl h
   ·exact .inr (.inl h)
   ·exact .inr (.inr h)
  ·rintro(h |h |h)
   ·exact .inl (.inl h)
   ·exact .inl (.inr h)
   ·exact .inr h
theorem zdj {t:List File} (h:TB t) (ht:t.length<=1000) {f:Nat->List Str->Int->Option (List Str)} {Z:List Str->Option (List Str)}
 (hs: ∀ m (i:Nat) x acc,t[i]? =some x->f (m+1) acc (i:Int)=(zeD acc x.Path).bind fun z=>f m z (w64 ((i:Int)+1))) (he: ∀ m acc,f (m+1) acc (t.length:Int)=Z acc): ∀ (k i m:Nat) (acc:List Str),i+k=t.length->k<m->Asd acc->acc.length<=10000+i->
 f m acc (i:Int)=Z (((t.drop i).map (·.Path)).foldl zgr acc)
 |k,i,0,acc,_,hm,_,_=>by omega
 |0,i,m+1,acc,hi,_,_,_=>by
  obtain rfl:i=t.length:=by omega
  rw[he,List.drop_length];rfl
 |k+1,i,m+1,acc,hi,hm,ha,hl=>by
  have hlt:i<t.length:=by omega
  have hx:t[i]? =some t[i]:=aB hlt
  have hil:=zhE acc t[i].Path
  rw[hs m i _ acc hx,zl4 (by omega) ha,aA,zac hlt h.maxi,zdj h ht hs he k (i+1) m _ (by omega) (by omega) (zet _ _) (by omega),aI hlt]
  rfl
theorem zjF {o a b:List File}(ho:TB o)(ha:TB a)(hb:TB b)(so:o.length<=100)(sa:a.length<=100)(sb:b.length<=100):zfs o a b=some (zcR o a b):=by
 unfold zfs zcR
 simp only[jn,zak]
 have l1:=zcd (o.map (·.Path)) []
 have l2:=zcd (a.map (·.Path)) ((o.map (·.Path)).foldl zgr [])
 have a0:Asd ([]:List Str):=List.Pairwise.nil
 have a1:=zeY (o.map (·.Path)) [] a0
 have a2:=zeY (a.map (·.Path)) _ a1
 simp only[List.length_map,List.length_nil]at l1 l2
 have e3:=fun acc (h1:Asd acc) (h2:acc.length<=10000)=>zdj hb (by omega) (f:=fun m acc i=>zas b (fun y40 _=>some y40) m acc i) (Z:=fun acc=>some acc) (fun m i x acc hx=>by simp only[zas,zah hx,zae hx,aD,aA]) (fun m acc=>by simp only[zas,zad,aC]) b.length 0 (b.length+1) acc (by omega) (by omega) h1 (by omega)
 have e2:=fun acc (h1:Asd acc) (h2:acc.length<=10000)=>zdj ha (by omega) (f:=fun m acc i=>zaP a (fun y23 _=>zas b (fun y40 _=>some y40) (b.length+1) y23 0) m acc i) (Z:=fun acc=>zas b (fun y40 _=>some y40) (b.length+1) acc 0) (fun m i x acc hx=>by simp only[zaP,zah hx,zae hx,aD,aA]) (fun m acc=>by simp only[zaP,zad,aC]) a.length 0 (a.length+1) acc (by omega) (by omega) h1 (by omega)
 have e1:=fun acc (h1:Asd acc) (h2:acc.length<=10000)=>zdj ho (by omega) (f:=fun m acc i=>zbO o (fun y6 _=>zaP a (fun y23 _=>zas b (fun y40 _=>some y40) (b.length+1) y23 0) (a.length+1) y6 0) m acc i) (Z:=fun acc=>zaP a (fun y23 _=>zas b (fun y40 _=>some y40) (b.length+1) y23 0) (a.length+1) acc 0) (fun m i x acc hx=>by simp only[zbO,zah hx,zae hx,aD,aA]) (fun m acc=>by simp only[zbO,zad,aC]) o.length 0 (o.length+1) acc (by omega) (by omega) h1 (by omega)
 refine(e1 [] a0 (by simp)).trans ?_
 rw[List.drop_zero]
 refine(e2 _ a1 (by omega)).trans ?_
 rw[List.drop_zero]
 refine(e3 _ a2 (by omega)).trans ?_
 rw[List.drop_zero]
theorem zgN (o a b:List File):(zcR o a b).length<=o.length+a.length+b.length:=by
 unfold zcR
 have l1:=zcd (o.map (·.Path)) []
 have l2:=zcd (a.map (·.Path)) ((o.map (·.Path)).foldl zgr [])
 have l3:=zcd (b.map (·.Path)) ((a.map (·.Path)).foldl zgr ((o.map (·.Path)).foldl zgr []))
 simp only[List.length_map,List.length_nil]at l1 l2 l3
 omega
theorem pathsF_mem {o a b:List File}{x:Str}:x∈zcR o a b↔ (∃ f∈o,f.Path=x)\/(∃ f∈a,f.Path=x)\/(∃ f∈b,f.Path=x):=by
 unfold zcR
 rw[zec,zec,zec]
 simp only[List.mem_map,List.not_mem_nil,false_or]
 constructor
 ·rintro((h |h) |h)
  ·exact .inl h
  ·exact .inr (.inl h)
  ·exact .inr (.inr h)
 ·rintro(h |h |h)
  ·exact .inl (.inl h)
  ·exact .inl (.inr h)
  ·exact .inr h
def zlb (o a b:List File)(p:Str):Option File:=bif(oneF o a b p).2.1 then some ⟨p,(oneF o a b p).1⟩ else none
def zjM (o a b:List File)(p:Str):Option Clash:=bif decide (0< (oneF o a b p).2.2) then some ⟨p,(oneF o a b p).2.2⟩ else none
def zfe (o a b:List File):List File:=(zcR o a b).filterMap (zlb o a b)
def zgi (o a b:List File):List Clash:=(zcR o a b).filterMap (zjM o a b)
theorem zhX {o a b:List File}(ho:TB o)(ha:TB a)(hb:TB b)(to:zay o)(ta:zay a)(tb:zay b){ps:List Str}(hp:ps.length<=1000): ∀ (k i m:Nat) (fs:List File) (cs:List Clash),i+k=ps.length->k<m->fs.length<=i->cs.length<=i->
 zdB o a b ps (fun y16 y19 _=>some (y16,y19)) m fs cs (i:Int)=some (fs++(ps.drop i).filterMap (zlb o a b),cs++(ps.drop i).filterMap (zjM o a b))
 |k,i,0,fs,cs,_,hm,_,_=>by omega
 |0,i,m+1,fs,cs,hi,_,_,_=>by
  obtain rfl:i=ps.length:=by omega
  simp only[zdB,zad,aC,List.drop_length]
  simp
 |k+1,i,m+1,fs,cs,hi,hm,hf,hc=>by
  have hlt:i<ps.length:=by omega
  have hx:ps[i]? =some ps[i]:=aB hlt
  have ih:=fun fs cs h1 h2=>zhX ho ha hb to ta tb hp k (i+1) m fs cs (by omega) (by omega) h1 h2
  have ht:=zaI (zhW to ta tb ps[i])
  simp only[zdB,jn,zah hx,zae hx,aD,aA,zac hlt (show ps.length<=maxi by unfold maxi;omega),zl9 ho ha hb to ta tb,apN (show(oneF o a b ps[i]).1.length<=1048576 by omega),ap1 (x:=(⟨ps[i],(oneF o a b ps[i]).1⟩:File)) (show fs.length<=1048576 by omega),ap1 (x:=(⟨ps[i],(oneF o a b ps[i]).2.2⟩:Clash)) (show cs.length<=1048576 by omega)]
  rw[aI hlt,List.filterMap_cons,List.filterMap_cons]
  unfold zlb zjM at ih ⊢
  cases(oneF o a b ps[i]).2.1<;>cases decide (0< (oneF o a b ps[i]).2.2)<;>simp only[aD,aC]
  ·rw[ih _ _ (by omega) (by omega)]
  ·rw[ih _ _ (by omega) (by simp;omega)];simp
  ·rw[ih _ _ (by simp;omega) (by omega)];simp
  ·rw[ih _ _ (by simp;omega) (by simp;omega)];simp
theorem zna {o a b:List File}(ho:TB o)(ha:TB a)(hb:TB b)(to:zay o)(ta:zay a)(tb:zay b)(so:o.length<=100)(sa:a.length<=100)(sb:b.length<=100):zio o a b=some (zfe o a b,zgi o a b):=by
 have hl:=zgN o a b
 unfold zio
 rw[zjF ho ha hb so sa sb,aA]
 simp only[jn,zak]
 have:=zhX ho ha hb to ta tb (ps:=zcR o a b) (by omega) (zcR o a b).length 0 ((zcR o a b).length+1) [] [] (by omega) (by omega) (by simp) (by simp)
 refine this.trans ?_
 simp[zfe,zgi]
theorem zhY {o a b:List File}(ho:TB o)(ha:TB a)(hb:TB b)(to:zay o)(ta:zay a)(tb:zay b)(so:o.length<=100)(sa:a.length<=100)(sb:b.length<=100):TB (zfe o a b):=by
 have hl:=zgN o a b
 refine⟨Nat.le_trans (List.length_filterMap_le _ _) (by omega),fun f hf=>?_⟩
 obtain⟨p,hp,he⟩:=List.mem_filterMap.1 hf
 unfold zlb at he
 cases h2:(oneF o a b p).2.1 with
 |false=>rw[h2]at he;cases he
 |true=>
  rw[h2,aD]at he
  cases he
  have ht:=zhW to ta tb p
  have hlen:=zaI ht
  refine⟨?_,by show(oneF o a b p).1.length<=_;omega,zfF (s:=(oneF o a b p).1) (by omega) (zbe ht)⟩
  rcases pathsF_mem.1 hp with ⟨g,hg,e⟩ |⟨g,hg,e⟩ |⟨g,hg,e⟩
  ·rw[<- e];exact(ho.2 g hg).path
  ·rw[<- e];exact(ha.2 g hg).path
  ·rw[<- e];exact(hb.2 g hg).path
def zeM (o a b:List File):List File×List Clash:=bif((zgi o a b).length:Int)==0 && !zaq (zfe o a b) then(o,[⟨[],4⟩]) else(zfe o a b,zgi o a b)
theorem zhZ {o a b:List File}(ho:TB o)(ha:TB a)(hb:TB b)(to:zay o)(ta:zay a)(tb:zay b)(so:o.length<=100)(sa:a.length<=100)(sb:b.length<=100):zf8 o a b=some (zeM o a b):=by
 unfold zf8 zeM
 simp only[jn,zna ho ha hb to ta tb so sa sb,aA,zdO (zhY ho ha hb to ta tb so sa sb),zcc ho]
 cases(((zgi o a b).length:Int)==0)<;>cases zaq (zfe o a b)<;>rfl
theorem ziJ {o a b:List File}(ho:TB o)(ha:TB a)(hb:TB b)(to:zay o)(ta:zay a)(tb:zay b)(so:o.length<=100)(sa:a.length<=100)(sb:b.length<=100):TB (zeM o a b).1:=by
 unfold zeM
 cases(((zgi o a b).length:Int)==0 && !zaq (zfe o a b))
 ·exact zhY ho ha hb to ta tb so sa sb
 ·exact ho
theorem zaB {t:List File}(h:zaq t=true):zay t:=by
 intro f hf
 obtain⟨i,hi⟩:=List.mem_iff_getElem?.1 hf
 unfold zaq at h
 simp only[aG]at h
 have:=zaC.1 h.2 i (Nat.zero_le _) (by have:=zan hi;omega)
 unfold zgh zgg at this
 rw[zbq hi]at this
 simp only[aG]at this
 exact this.1.2.1
theorem zbU {t:List File}(h:zaq t=true){f:File}(hf:f∈t):zaw f.Path=true:=by
 obtain⟨i,hi⟩:=List.mem_iff_getElem?.1 hf
 unfold zaq at h
 simp only[aG]at h
 have:=zaC.1 h.2 i (Nat.zero_le _) (by have:=zan hi;omega)
 unfold zgh zgg at this
 rw[zbq hi]at this
 simp only[aG]at this
 exact this.1.1
theorem zhd (c:UInt8): ∀ (r w:Str),w.length+r.length+1=zc5 (fun p=>p.length+1) (curS c w r)
 | [],w=>by simp[curS,zc5]
 |x::r,w=>by
  unfold curS
  cases x==c with
  |true=>
   rw[aD]
   have:=zhd c r []
   simp only[zc5,List.length_nil,aL]at this ⊢
   omega
  |false=>
   rw[aC]
   have:=zhd c r (w++[x])
   simp only[List.length_append,aL,List.length_nil]at this ⊢
   omega
theorem zmG {c:Nat}: ∀ {l:List Str},(∀ p∈l,p.length+1<=c)->zc5 (fun p=>p.length+1) l<=c*l.length
 | [],_=>by simp[zc5]
 |x::l,h=>by
  have h1:=h x (by simp)
  have h2:=zmG (c:=c) (l:=l) (fun p hp=>h p (List.mem_cons_of_mem _ hp))
  simp only[zc5,aL,Nat.mul_add,Nat.mul_one]
  omega
theorem zbj {s:Str}(h:zav s=true):s.length<=6:=by
 unfold zav at h
 simp only[aG,decide_eq_true_eq]at h
 omega
theorem zcN {s:Str}(h:zaw s=true):s.length<=20:=by
 unfold zaw at h
 simp only[aG,decide_eq_true_eq,List.all_eq_true]at h
 have h1:=zhd 47 s []
 have h2:=zmG (c:=7) (l:=curS 47 [] s) (fun p hp=>by have:=zbj (h.2 p hp);omega)
 simp only[List.length_nil]at h1
 omega
theorem zk2 {d p:Str}(h:zaJ d p=true):d.length+1<=p.length:=by
 unfold zaJ at h
 have:=(List.isPrefixOf_iff_prefix.1 h).length_le
 simpa using this
def zd0 (p to:Str)(acc:List File)(g:File):List File:=bif !zmw p g then putF ⟨to++g.Path.drop p.length,g.Text⟩ false acc else acc
def zjG (t:List File)(p to:Str):List File×Bool:=
 bif zaq t then(bif((((dropF p t).length:Int))==(t.length:Int)) || !zaw to then(t,false) else(bif !zaq (t.foldl (zd0 p to) (dropF p t))||(((t.foldl (zd0 p to) (dropF p t)).length:Int) !=(t.length:Int)) then(t,false) else(t.foldl (zd0 p to) (dropF p t),true))) else([],false)
theorem zk3 {p to:Str}{acc:List File}{g:File}(hg:FB g)(hp:g.Path.length<=20)(ht:to.length<=20)(ha:TB acc)(hl:acc.length<=1000):TB (zd0 p to acc g)/\(zd0 p to acc g).length<=acc.length+1:=by
 unfold zd0
 cases !zmw p g
 ·exact⟨ha,by simp⟩
 ·refine⟨ha.putF (by omega) ⟨?_,hg.len,hg.text⟩,?_⟩
  ·simp only[List.length_append,List.length_drop];omega
  ·have:=zgV ⟨to++g.Path.drop p.length,g.Text⟩ acc false
   simp only[aC,aD]at this ⊢
   omega
theorem ziC {t:List File}(h:TB t)(hs:t.length<=8)(hp: ∀ f∈t,f.Path.length<=20){p to:Str}(ht:to.length<=20){K:List File->Int->Option (List File×Bool)}: ∀ (k i m:Nat) (acc:List File),i+k=t.length->k<m->TB acc->acc.length<=100+i->
 zaG t p to K m acc (i:Int)=K ((t.drop i).foldl (zd0 p to) acc) (t.length:Int)/\TB ((t.drop i).foldl (zd0 p to) acc)
 |k,i,0,acc,_,hm,_,_=>by omega
 |0,i,m+1,acc,hi,_,ha,_=>by
  obtain rfl:i=t.length:=by omega
  simp only[zaG,zad,aC,List.drop_length]
  exact⟨rfl,ha⟩
 |k+1,i,m+1,acc,hi,hm,ha,hl=>by
  have hlt:i<t.length:=by omega
  have hx:t[i]? =some t[i]:=aB hlt
  have hm':=List.getElem_mem hlt
  have hg:=h.at_ hx
  have hpl:=hp _ hm'
  obtain⟨i1,i2⟩:=zk3 (p:=p) (to:=to) hg hpl ht ha (by omega)
  have ih:=ziC h hs hp (p:=p) (to:=to) ht (K:=K) k (i+1) m (zd0 p to acc t[i]) (by omega) (by omega) i1 (by omega)
  rw[aI hlt,List.foldl_cons]
  refine⟨?_,ih.2⟩
  rw[<- ih.1]
  simp only[zaG,jn,zah hx,zae hx,aD,aA,zac hlt h.maxi,zic hg.path]
  unfold zd0 zmw
  have hrun:p.length<=t[i].Path.length->((slM t[i].Path (p.length:Int) (t[i].Path.length:Int)).bind fun q67=>(saM to q67).bind fun q69=>(zeR acc ⟨q69,t[i].Text⟩).bind fun z77=>zaG t p to K m z77 ((i+1:Nat):Int))=zaG t p to K m (putF ⟨to++t[i].Path.drop p.length,t[i].Text⟩ false acc) ((i+1:Nat):Int):=fun hle=>by
   have hsa:saM to (t[i].Path.drop p.length)=some (to++t[i].Path.drop p.length):=by
    unfold saM
    rw[if_pos]
    simp only[List.length_drop,lim]
    omega
   rw[ziL hle,aA,hsa,aA,zi9 (g:=⟨to++t[i].Path.drop p.length,t[i].Text⟩) ha (by omega) ⟨by simp only[List.length_append,List.length_drop];omega,hg.len,hg.text⟩,aA]
  cases he:t[i].Path==p with
  |true=>
   have e:t[i].Path=p:=by simpa using he
   have e2:(t[i].Path !=p)=false:=by rw[bne,he];rfl
   rw[e2]
   exact hrun (by rw[e];exact Nat.le_refl _)
  |false=>
   have e2:(t[i].Path !=p)=true:=by rw[bne,he];rfl
   rw[e2]
   cases hb:zaJ p t[i].Path with
   |false=>rfl
   |true=>exact hrun (by have:=zk2 hb;omega)
theorem zh0 {t:List File}(h:TB t)(p to:Str)(hto:to.length<=1048576):zcV t p to=some (zjG t p to):=by
 unfold zcV zjG
 rw[zdO h,aA]
 cases htr:zaq t with
 |false=>rfl
 |true=>
  have hs:=zaH htr
  rw[aK,aC,aD,zcc h,aA,zhS h,aA]
  simp only[jn,zak,zeb hto,aA]
  cases(((dropF p t).length:Int)==(t.length:Int))with
  |true=>rfl
  |false=>
   cases hpt:zaw to with
   |false=>rfl
   |true=>
    obtain⟨e1,e2⟩:=ziC h hs (fun f hf=>zcN (zbU htr hf)) (p:=p) (zcN hpt) (K:=fun y39 _=>(zdy y39).bind fun z115=>bif(!z115) then(some (t,false)) else(bif((y39.length:Int) !=(t.length:Int)) then(some (t,false)) else(some (y39,true)))) t.length 0 (t.length+1) (dropF p t) (by omega) (by omega) (h.dropF p) (by have:=List.length_filter_le (zmw p) t;unfold dropF;omega)
    rw[List.drop_zero]at e1 e2
    simp only[Bool.false_or,aK,aC,aD]
    refine e1.trans ?_
    show(zdy _).bind _=_
    rw[zdO e2,aA]
    cases zaq (t.foldl (zd0 p to) (dropF p t))<;>cases(((t.foldl (zd0 p to) (dropF p t)).length:Int) !=(t.length:Int))<;>rfl
structure Gd (q:Prop) (r:Repo):Prop where
 rb:RpB r
 ok:repoB r=true
 hd:q->r.Commits≠ []->r.Heads≠ []
abbrev Good:Repo->Prop:=Gd True
variable {q:Prop}
def zag (r:Repo)(i:Nat):List File:=(r.Commits.getD i noCommit).Tree
theorem Gd.tree {r:Repo}(h:Gd q r){i:Nat}(hi:i<r.Commits.length):TB (zag r i)/\zaq (zag r i)=true/\zay (zag r i)/\(zag r i).length<=8:=by
 have hx:r.Commits[i]? =some r.Commits[i]:=aB hi
 have h1:zaq (zag r i)=true:=by
  have:=zeu h.ok hi
  unfold zjL at this
  simp only[aG]at this
  exact this.2.2.2.2
 refine⟨?_,h1,zaB h1,zaH h1⟩
 unfold zag
 rw[zbF hx]
 exact(h.rb.cat hx).tree
theorem zfh:TB ([]:List File)/\zaq []=true/\zay []/\([]:List File).length<=8:=⟨TB.nil,rfl,fun f hf=>by simp at hf,by simp⟩
theorem zaN {r:Repo}{z:Int}(h0:0<=z)(h1:z<=(r.Commits.length:Int)-1):gi r.Commits z=some (r.Commits.getD z.toNat noCommit):=by
 obtain⟨n,rfl⟩:=Int.eq_ofNat_of_zero_le h0
 exact ziR (by omega)
theorem ziD (n:Str)(a:Int): ∀ (hs:List Head),zd2 n a false hs≠ []
 | []=>by simp[zd2]
 |h::hs=>by
  unfold zd2
  cases hb:Op.bytesLess h.Name n
  ·simp
  ·have:=ziD n a hs
   cases(h.Name !=n)<;>simp[this]
def zdI (n:Str)(a:Int)(h:Head):Head:=bif h.Name==n then⟨n,a⟩ else h
theorem zgH (n:Str)(a:Int): ∀ (hs:List Head),(∀ h∈hs,h.Name≠n)->zd2 n a true hs=hs
 | [],_=>rfl
 |h::hs,hn=>by
  have h1:(h.Name !=n)=true:=by simpa using hn h (by simp)
  unfold zd2
  rw[h1,Bool.true_or,zgH n a hs (fun x hx=>hn x (List.mem_cons_of_mem _ hx))]
  rfl
theorem zfi (n:Str)(a:Int): ∀ (hs:List Head),hs.Pairwise (fun x y=>x.Name<y.Name)->(∃ h∈hs,h.Name=n)->zd2 n a false hs=hs.map (zdI n a)
 | [],_,h=>by obtain⟨x,hx,_⟩:=h;simp at hx
 |h::hs,hp,he=>by
  obtain⟨p1,p2⟩:=List.pairwise_cons.1 hp
  unfold zd2
  rw[List.map_cons]
  cases hb:Op.bytesLess h.Name n with
  |true=>
   rw[zaM]at hb
   have hlt:h.Name<n:=by simpa using hb
   have hne:h.Name≠n:=fun e=>by rw[e]at hlt;exact zal _ hlt
   have h1:(h.Name !=n)=true:=by simpa using hne
   have h2:(h.Name==n)=false:=beq_false_of_ne hne
   have ht: ∃ x∈hs,x.Name=n:=by
    obtain⟨x,hx,e⟩:=he
    rcases List.mem_cons.1 hx with e2 |e2
    ·rw[e2]at e;exact absurd e hne
    ·exact⟨x,e2,e⟩
   rw[h1]
   simp only[aK,Bool.and_false,aC,aD,List.nil_append,Bool.or_false,List.singleton_append]
   rw[zfi n a hs p2 ht]
   unfold zdI
   rw[h2]
   rfl
  |false=>
   rw[zaM]at hb
   have hge:n<=h.Name:=zhu.1 (by simpa using hb)
   cases h2:h.Name==n with
   |true=>
    have e:h.Name=n:=by simpa using h2
    have h1:(h.Name !=n)=false:=by rw[bne,h2];rfl
    have hno: ∀ x∈hs,x.Name≠n:=fun x hx e2=>by
     have:=p1 x hx
     rw[e,e2]at this
     exact zal _ this
    rw[h1,Bool.not_false,Bool.or_true,zgH n a hs hno]
    have hm:hs.map (zdI n a)=hs:=by
     conv=>rhs;rw[<- List.map_id hs]
     refine List.map_congr_left (fun x hx=>?_)
     unfold zdI
     rw[beq_false_of_ne (hno x hx)]
     rfl
    rw[hm]
    unfold zdI
    rw[h2]
    rfl
   |false=>
    exfalso
    have hne:n≠h.Name:=fun e=>by rw[e]at h2;simp at h2
    have hlt:=zbi hge hne
    obtain⟨x,hx,e⟩:=he
    rcases List.mem_cons.1 hx with e2 |e2
    ·rw[e2]at e;exact hne e.symm
    ·have:=p1 x e2
     rw[e]at this
     exact zal _ (zaQ hlt this)
theorem zil {r:Repo}(h:repoB r=true):r.Heads.Pairwise (fun x y=>x.Name<y.Name):=by
 unfold repoB zbZ at h
 simp only[aG]at h
 have hg:=zaC.1 h.2.2.1
 have step: ∀ i,(hi:i+1<r.Heads.length)->(r.Heads[i]'(by omega)).Name<r.Heads[i+1].Name:=fun i hi=>by
  have:=hg (i+1) (by omega) (by omega)
  unfold zeX at this
  rw[zaY (aB hi),aF (by omega),Nat.add_sub_cancel,zaY (aB (show i<r.Heads.length by omega))]at this
  simp only[aD,aG,zaM,decide_eq_true_eq]at this
  exact this.2.2
 refine List.pairwise_iff_getElem.2 fun i j hi hj hij=>?_
 induction j with
 |zero=>omega
 |succ j ih=>
  rcases Nat.lt_or_ge i j with h1 |h1
  ·exact zaQ (ih (by omega) h1) (step j hj)
  ·have:i=j:=by omega
   subst this
   exact step i hj
theorem zli {r:Repo}{n:Str}(h:0<=atB r n): ∃ x∈r.Heads,x.Name=n:=by
 unfold atB at h
 cases hf:r.Heads.find? (fun h=>h.Name==n)with
 |none=>rw[hf]at h;simp at h
 |some x=>exact⟨x,List.mem_of_find?_eq_some hf,by simpa using List.find?_some hf⟩
theorem zid {r:Repo}(h:repoB r=true){n:Str}(ha:0<=atB r n)(b:Int):headR r n b=⟨r.Commits,r.Heads.map (zdI n b)⟩:=by
 unfold headR
 rw[zfi n b r.Heads (zil h) (zli ha)]
theorem zlx {r:Repo}(h:repoB r=true){n:Str}(ha:0<=atB r n){b:Int}(h0:0<=b)(h1:b<=(r.Commits.length:Int)-1):repoB (headR r n b)=true:=by
 rw[zid h ha]
 have hh:=h
 unfold repoB zbZ at h ⊢
 simp only[aG,List.length_map]at h ⊢
 refine⟨h.1,h.2.1,?_,h.2.2.2⟩
 have hg:=zaC.1 h.2.2.1
 refine zaC.2 fun i hi0 hi=>?_
 have hil:i<r.Heads.length:=by omega
 have hx:r.Heads[i]? =some r.Heads[i]:=aB hil
 have hm: ∀ j,j<r.Heads.length->((r.Heads.map (zdI n b)).getD j zdR).Name=(r.Heads.getD j zdR).Name:=fun j hj=>by
  have hxj:r.Heads[j]? =some r.Heads[j]:=aB hj
  rw[zaY hxj,zaY (f:=zdI n b r.Heads[j]) (by rw[List.getElem?_map,hxj];rfl)]
  unfold zdI
  cases he:r.Heads[j].Name==n with
  |true=>simpa using (by simpa using he:r.Heads[j].Name=n).symm
  |false=>rfl
 have hat:upB r.Commits.length ((r.Heads.map (zdI n b)).getD i zdR).At=true:=by
  rw[zaY (f:=zdI n b r.Heads[i]) (by rw[List.getElem?_map,hx];rfl)]
  unfold zdI upB
  cases r.Heads[i].Name==n with
  |true=>simp[h0,h1]
  |false=>
   have:=zc3 hh (List.getElem_mem hil)
   simp[this.1,this.2.1]
 have:=hg i hi0 (by omega)
 unfold zeX at this ⊢
 simp only[aG]at this ⊢
 refine⟨by rw[hm i hil];exact this.1,hat,?_⟩
 rw[hm i hil,hm (i-1) (by omega)]
 exact this.2.2
def zhF (r:Repo)(a b:Int):List File:=bif((zaR r a b).length:Int)==0 then [] else zag r ((zaR r a b).getD ((zaR r a b).length-1) 0).toNat
theorem zjN {r:Repo}(h:Gd q r){a b:Int}(ha:0<=a)(ha':a<=(r.Commits.length:Int)-1)(hb:0<=b)(hb':b<=(r.Commits.length:Int)-1):zgC r a b=some (zhF r a b)/\TB (zhF r a b)/\zaq (zhF r a b)=true:=by
 have hs:=(zab h.ok).1
 have hl:=zkY r a b
 unfold zgC zhF
 rw[zjE h.ok ha ha' hb hb',aA]
 cases hz:((zaR r a b).length:Int)==0 with
 |true=>exact⟨rfl,zfh.1,zfh.2.1⟩
 |false=>
  have hne:((zaR r a b).length:Int)≠0:=by simpa using hz
  have e:w64 (((zaR r a b).length:Int)-1)=(((zaR r a b).length-1:Nat):Int):=by rw[zai (by omega) (by omega)];omega
  have hlt:(zaR r a b).length-1< (zaR r a b).length:=by omega
  have hm:(zaR r a b).getD ((zaR r a b).length-1) 0∈zaR r a b:=by
   rw[zci (aB hlt)];exact List.getElem_mem hlt
  obtain⟨q0,q1⟩:=zkf hm
  rw[aC,aC,e,zfn hlt,aA,zaN q0 q1,aA]
  have:=h.tree (i:=((zaR r a b).getD ((zaR r a b).length-1) 0).toNat) (by omega)
  exact⟨rfl,this.1,this.2.1⟩
def zfY (r:Repo)(n:Str)(c:Commit):Repo×Int:=bif repoB (addR r n c) then(addR r n c,0) else(r,5)
def zgI (r:Repo)(n who:Str)(b:Int):Repo×Int:=
 bif zcF (allA r (atB r n)) b then(r,2)
 else bif zcF (allA r b) (atB r n) then(headR r n b,3)
 else
  let j:=zeM (zhF r (atB r n) b) (zag r (atB r n).toNat) (zag r b.toNat)
  bif decide (0< (j.2.length:Int)) then(r,4) else zfY r n ⟨[atB r n,b],who,j.1⟩
theorem Gd.add {r:Repo}(h:Gd q r){n:Str}{c:Commit}(hn:n.length<=1048576)(hc:CB c)(ho:repoB (addR r n c)=true):Gd q (addR r n c):=by
 obtain⟨s1,s2⟩:=zab h.ok
 exact⟨h.rb.addR (by omega) (by omega) hn hc,ho,fun _ _=>ziD _ _ _⟩
theorem Gd.head {r:Repo}(h:Gd q r){n:Str}{b:Int}(hn:n.length<=1048576)(ho:repoB (headR r n b)=true):Gd q (headR r n b):=by
 obtain⟨s1,s2⟩:=zab h.ok
 exact⟨h.rb.headR (by omega) hn b,ho,fun _ _=>ziD _ _ _⟩
theorem zfK {r:Repo}(h:Gd q r){n:Str}{c:Commit}(hn:n.length<=1048576)(hc:CB c):Gd q (zfY r n c).1:=by
 unfold zfY
 cases ho:repoB (addR r n c)with
 |true=>exact h.add hn hc ho
 |false=>exact h
theorem zh1 {r:Repo}(h:Gd q r){n:Str}{c:Commit}(hn:n.length<=1048576)(hc:CB c):((zdk r n c).bind fun z130=>(zby z130).bind fun z163=>bif(!z163) then(some (r,(5:Int))) else(some (z130,0)))=some (zfY r n c):=by
 obtain⟨s1,s2⟩:=zab h.ok
 rw[zi7 h.rb (by omega) (by omega) n hc,aA,za8 (h.rb.addR (by omega) (by omega) hn hc),aA]
 unfold zfY
 cases repoB (addR r n c)<;>rfl
theorem zjH {r:Repo}(h:Gd q r){n who:Str}{b:Int}(hn:n.length<=1048576)(hw:who.length<=1048576)(ha:0<=atB r n)(hb:0<=b)(hb':b<=(r.Commits.length:Int)-1):zdC r n who b=some (zgI r n who b)/\Gd q (zgI r n who b).1:=by
 obtain⟨s1,s2⟩:=zab h.ok
 have ha':atB r n<=(r.Commits.length:Int)-1:=by rcases at_range h.ok n with e |e<;>omega
 have l1:=zaS r (atB r n)
 have l2:=zaS r b
 obtain⟨e1,e2,e3⟩:=zjN h ha ha' hb hb'
 obtain⟨ta,ta2,ta3,ta4⟩:=h.tree (i:=(atB r n).toNat) (by omega)
 obtain⟨tb,tb2,tb3,tb4⟩:=h.tree (i:=b.toNat) (by omega)
 have hbs:=zaH e3
 have hj:=ziJ e2 ta tb (zaB e3) ta3 tb3 (by omega) (by omega) (by omega)
 have hc:CB ⟨[atB r n,b],who,(zeM (zhF r (atB r n) b) (zag r (atB r n).toNat) (zag r b.toNat)).1⟩:=⟨by simp,hw,hj⟩
 unfold zdC zgI
 simp only[zcC h.rb,aA,zb8 h.ok ha ha',zb8 h.ok hb hb',zeL (show(allA r (atB r n)).length<=1000000 by omega),zeL (show(allA r b).length<=1000000 by omega),ze8 h.rb (show r.Heads.length<=100000 by omega),zaN ha ha',zaN hb hb',e1]
 cases zcF (allA r (atB r n)) b with
 |true=>exact⟨rfl,h⟩
 |false=>
  cases zcF (allA r b) (atB r n)with
  |true=>exact⟨rfl,h.head hn (zlx h.ok ha hb hb')⟩
  |false=>
   simp only[aC]
   have hjoin:=zhZ e2 ta tb (zaB e3) ta3 tb3 (by omega) (by omega) (by omega)
   unfold zag at hjoin hc ⊢
   rw[hjoin,aA]
   cases decide (0< ((zeM (zhF r (atB r n) b) (r.Commits.getD (atB r n).toNat noCommit).Tree (r.Commits.getD b.toNat noCommit).Tree).2.length:Int))with
   |true=>exact⟨rfl,h⟩
   |false=>exact⟨zh1 h hn hc,zfK h hn hc⟩
def zj2 (r:Repo)(n who:Str)(b:Int):Bool:=decide (atB r n<0)||(!zav who || !upB r.Commits.length b)
def zln (r:Repo)(n who:Str)(b:Int):Repo×Int:=bif repoB r then(bif zj2 r n who b then(r,1) else zgI r n who b) else(za5,1)
theorem zih {r:Repo}{n who:Str}{b:Int}(h:zj2 r n who b=false):0<=atB r n/\0<=b/\b<=(r.Commits.length:Int)-1:=by
 unfold zj2 upB at h
 simp only[Bool.or_eq_false_iff,decide_eq_false_iff_not,Bool.not_eq_false',aG,decide_eq_true_eq]at h
 omega
theorem zf5 {r:Repo}(h:Gd q r){n who:Str}{b:Int}(hn:n.length<=1048576)(hw:who.length<=1048576):zbW r n who b=some (zln r n who b)/\Gd q (zln r n who b).1:=by
 unfold zbW zln
 have hwm:=zaj hw
 rw[za8 h.rb,aA,h.ok,aK,aC,aD]
 simp only[jn,zcC h.rb,aA,zaX hwm,zch,zbL (zaj h.rb.coms),zbr h.rb,show(⟨r.Commits,r.Heads⟩:Repo)=r from rfl]
 rw[show(decide ((0:Int)<=b)&&decide (b<=(r.Commits.length:Int)-1))=upB r.Commits.length b from rfl]
 have key:zj2 r n who b=false->((zdC r n who b).bind fun z58=>some (z58.1,z58.2))=some (zgI r n who b)/\Gd q (zgI r n who b).1:=fun hbad=>by
  obtain⟨p1,p2,p3⟩:=zih hbad
  obtain⟨q1,q2⟩:=zjH h hn hw p1 p2 p3
  rw[q1]
  exact⟨rfl,q2⟩
 unfold zj2 at key ⊢
 cases h1:decide (atB r n<0)with
 |true=>exact⟨rfl,h⟩
 |false=>
  cases h2:zav who with
  |false=>exact⟨rfl,h⟩
  |true=>
   cases h3:upB r.Commits.length b with
   |false=>exact⟨rfl,h⟩
   |true=>exact key (by rw[h1,h2,h3];rfl)
def zcL (r:Repo)(i:Nat):List File:=bif((zaa r i).length:Int)==0 then [] else zag r ((zaa r i).getD 0 0).toNat
theorem zff {r:Repo}(h:Gd q r){a:Int}(h0:0<=a)(h1:a<=(r.Commits.length:Int)-1):zbo r a=some (zcL r a.toNat)/\TB (zcL r a.toNat)/\zaq (zcL r a.toNat)=true:=by
 have hi:a.toNat<r.Commits.length:=by omega
 obtain⟨ps,pm⟩:=zar h.ok hi
 unfold zbo zcL
 rw[zaN h0 h1,aA]
 show(bif((zaa r a.toNat).length:Int)==0 then _ else _)=_/\_
 cases hz:((zaa r a.toNat).length:Int)==0 with
 |true=>exact⟨rfl,zfh.1,zfh.2.1⟩
 |false=>
  have hne:((zaa r a.toNat).length:Int)≠0:=by simpa using hz
  have hlt:0< (zaa r a.toNat).length:=by omega
  have hm:(zaa r a.toNat).getD 0 0∈zaa r a.toNat:=by
   rw[zci (aB hlt)];exact List.getElem_mem hlt
  obtain⟨q0,q1⟩:=pm _ hm
  have hg:gi (r.Commits.getD a.toNat noCommit).Parents 0=some ((zaa r a.toNat).getD 0 0):=zfn (l:=zaa r a.toNat) hlt
  rw[aC,aC,aA,hg,aA,zaN q0 (by omega),aA]
  have:=h.tree (i:=((zaa r a.toNat).getD 0 0).toNat) (by omega)
  exact⟨rfl,this.1,this.2.1⟩
def zfX (r:Repo)(n who:Str)(o b:List File):Repo×Int:=
 let j:=zeM o (zag r (atB r n).toNat) b
 bif decide (0< (j.2.length:Int)) then(r,4) else zfY r n ⟨[atB r n],who,j.1⟩
theorem zhv {r:Repo}(h:Gd q r){n who:Str}{o b:List File}(hn:n.length<=1048576)(hw:who.length<=1048576)(ha:0<=atB r n)(to:TB o)(to2:zaq o=true)(tb:TB b)(tb2:zaq b=true):zcD r n who o b=some (zfX r n who o b)/\Gd q (zfX r n who o b).1:=by
 have ha':atB r n<=(r.Commits.length:Int)-1:=by rcases at_range h.ok n with e |e<;>omega
 have hs:=(zab h.ok).1
 obtain⟨ta,ta2,ta3,ta4⟩:=h.tree (i:=(atB r n).toNat) (by omega)
 have ho:=zaH to2
 have hb:=zaH tb2
 have hj:=ziJ to ta tb (zaB to2) ta3 (zaB tb2) (by omega) (by omega) (by omega)
 have hc:CB ⟨[atB r n],who,(zeM o (zag r (atB r n).toNat) b).1⟩:=⟨by simp,hw,hj⟩
 have hjoin:=zhZ to ta tb (zaB to2) ta3 (zaB tb2) (by omega) (by omega) (by omega)
 unfold zcD zfX
 rw[zcC h.rb,aA,zaN ha ha',aA]
 unfold zag at hjoin hc ⊢
 rw[hjoin,aA]
 simp only
 cases decide (0< ((zeM o (r.Commits.getD (atB r n).toNat noCommit).Tree b).2.length:Int))with
 |true=>exact⟨rfl,h⟩
 |false=>exact⟨zh1 h hn hc,zfK h hn hc⟩
def zgf (r:Repo)(n who:Str)(b:Int):Repo×Int:=bif repoB r then(bif zj2 r n who b then(r,1) else zfX r n who (zcL r b.toNat) (zag r b.toNat)) else(za5,1)
def zfZ (r:Repo)(n who:Str)(b:Int):Repo×Int:=bif repoB r then(bif zj2 r n who b then(r,1) else zfX r n who (zag r b.toNat) (zcL r b.toNat)) else(za5,1)
theorem zif {r:Repo}(h:Gd q r){n who:Str}{b:Int}(hn:n.length<=1048576)(hw:who.length<=1048576):zdQ r n who b=some (zgf r n who b)/\Gd q (zgf r n who b).1:=by
 unfold zdQ zgf
 have hwm:=zaj hw
 rw[za8 h.rb,aA,h.ok,aK,aC,aD]
 simp only[jn,zcC h.rb,aA,zaX hwm,zch,zbL (zaj h.rb.coms),zbr h.rb,show(⟨r.Commits,r.Heads⟩:Repo)=r from rfl]
 rw[show(decide ((0:Int)<=b)&&decide (b<=(r.Commits.length:Int)-1))=upB r.Commits.length b from rfl]
 have key:zj2 r n who b=false->((gi r.Commits b).bind fun u77=>(zbo r b).bind fun z82=>(zcD r n who z82 u77.Tree).bind fun z93=>some (z93.1,z93.2))=some (zfX r n who (zcL r b.toNat) (zag r b.toNat))/\Gd q (zfX r n who (zcL r b.toNat) (zag r b.toNat)).1:=fun hbad=>by
  obtain⟨p1,p2,p3⟩:=zih hbad
  obtain⟨q1,q2,q3⟩:=zff h p2 p3
  obtain⟨tb,tb2,tb3,tb4⟩:=h.tree (i:=b.toNat) (by have:=(zab h.ok).1;omega)
  obtain⟨u1,u2⟩:=zhv h hn hw p1 q2 q3 tb tb2
  rw[zaN p2 p3,aA,q1,aA,show(r.Commits.getD b.toNat noCommit).Tree=zag r b.toNat from rfl,u1]
  exact⟨rfl,u2⟩
 unfold zj2 at key ⊢
 cases h1:decide (atB r n<0)with
 |true=>exact⟨rfl,h⟩
 |false=>
  cases h2:zav who with
  |false=>exact⟨rfl,h⟩
  |true=>
   cases h3:upB r.Commits.length b with
   |false=>exact⟨rfl,h⟩
   |true=>exact key (by rw[h1,h2,h3];rfl)
theorem zgz {r:Repo}(h:Gd q r){n who:Str}{b:Int}(hn:n.length<=1048576)(hw:who.length<=1048576):zcE r n who b=some (zfZ r n who b)/\Gd q (zfZ r n who b).1:=by
 unfold zcE zfZ
 have hwm:=zaj hw
 rw[za8 h.rb,aA,h.ok,aK,aC,aD]
 simp only[jn,zcC h.rb,aA,zaX hwm,zch,zbL (zaj h.rb.coms),zbr h.rb,show(⟨r.Commits,r.Heads⟩:Repo)=r from rfl]
 rw[show(decide ((0:Int)<=b)&&decide (b<=(r.Commits.length:Int)-1))=upB r.Commits.length b from rfl]
 have key:zj2 r n who b=false->((gi r.Commits b).bind fun u77=>(zbo r b).bind fun z82=>(zcD r n who u77.Tree z82).bind fun z93=>some (z93.1,z93.2))=some (zfX r n who (zag r b.toNat) (zcL r b.toNat))/\Gd q (zfX r n who (zag r b.toNat) (zcL r b.toNat)).1:=fun hbad=>by
  obtain⟨p1,p2,p3⟩:=zih hbad
  obtain⟨q1,q2,q3⟩:=zff h p2 p3
  obtain⟨tb,tb2,tb3,tb4⟩:=h.tree (i:=b.toNat) (by have:=(zab h.ok).1;omega)
  obtain⟨u1,u2⟩:=zhv h hn hw p1 tb tb2 q2 q3
  rw[zaN p2 p3,aA,q1,aA,show(r.Commits.getD b.toNat noCommit).Tree=zag r b.toNat from rfl,u1]
  exact⟨rfl,u2⟩
 unfold zj2 at key ⊢
 cases h1:decide (atB r n<0)with
 |true=>exact⟨rfl,h⟩
 |false=>
  cases h2:zav who with
  |false=>exact⟨rfl,h⟩
  |true=>
   cases h3:upB r.Commits.length b with
   |false=>exact⟨rfl,h⟩
   |true=>exact key (by rw[h1,h2,h3];rfl)
end Go.Vm
namespace Go.Vm
open Go Go.Sx
set_option linter.unusedSimpArgs false
set_option linter.unusedVariables false
def zgO (r:Repo)(o:Op)(z:List File×Bool):Repo×Int:=bif z.2 then(bif(zdc r o.Branch o.Who z.1).2 then((zdc r o.Branch o.Who z.1).1,0) else(r,5)) else(r,1)
theorem zh2 {r:Repo}(h:Good r){n who:Str}{t:List File}(hn:n.length<=1048576)(hw:who.length<=1048576)(ht:TB t):Good (zdc r n who t).1:=by
 unfold zdc
 rw[h.ok,aD]
 cases ho:repoB (addR r n (zeH r n who t))with
 |true=>exact h.add hn (CB.next hw ht) ho
 |false=>exact h
theorem zeC {r:Repo}(h:Good r){o:Op}{z:List File×Bool}(hn:o.Branch.length<=1048576)(hw:o.Who.length<=1048576)(hz:TB z.1):za6 r o z.1 z.2=some (zgO r o z)/\Good (zgO r o z).1:=by
 unfold za6 zgO
 have hg:=zh2 h hn hw hz
 rw[zgs h.rb hn hw hz,aA]
 cases z.2 with
 |false=>exact⟨rfl,h⟩
 |true=>
  cases(zdc r o.Branch o.Who z.1).2 with
  |false=>exact⟨rfl,h⟩
  |true=>exact⟨rfl,hg⟩
def zcH (r:Repo)(n:Str):List File:=bif decide (0<=atB r n) then zag r (atB r n).toNat else []
def zn9 (r:Repo)(o:Op):Repo×Int:=bif(zeI r o.To (atB r o.Branch)).2 then((zeI r o.To (atB r o.Branch)).1,0) else(r,1)
def doB (r:Repo)(o:Op):Repo×Int:=
 bif o.Kind==1 then zgO r o (znp (zcH r o.Branch) ⟨o.Path,o.Text⟩)
 else bif o.Kind==2 then zgO r o (znA (zcH r o.Branch) o.Path)
 else bif o.Kind==3 then zgO r o (zjG (zcH r o.Branch) o.Path o.To)
 else bif o.Kind==4 then zn9 r o
 else bif o.Kind==5 then zln r o.Branch o.Who (atB r o.To)
 else bif o.Kind==6 then zgf r o.Branch o.Who o.At
 else zfZ r o.Branch o.Who o.At
theorem zmM {t:List File}(h:TB t)(hs:t.length<=8){g:File}(hg:FB g):TB (znp t g).1:=by
 unfold znp
 cases zaq t
 ·exact TB.nil
 ·cases zaq (putF g false t)
  ·exact h
  ·exact h.putF (by omega) hg
theorem znb {t:List File}(h:TB t)(p:Str):TB (znA t p).1:=by
 unfold znA
 cases zaq t
 ·exact TB.nil
 ·exact h.dropF p
theorem zma {t:List File}(h:TB t)(p to:Str):TB (zjG t p to).1:=by
 unfold zjG
 cases htr:zaq t with
 |false=>exact TB.nil
 |true=>
  rw[aD]
  cases he:((((dropF p t).length:Int))==(t.length:Int))with
  |true=>exact h
  |false=>
   cases hpt:zaw to with
   |false=>exact h
   |true=>
    have hs:=zaH htr
    obtain⟨e1,e2⟩:=ziC h hs (fun f hf=>zcN (zbU htr hf)) (p:=p) (zcN hpt) (K:=fun _ _=>none) t.length 0 (t.length+1) (dropF p t) (by omega) (by omega) (h.dropF p) (by have:=List.length_filter_le (zmw p) t;unfold dropF;omega)
    rw[List.drop_zero]at e2
    simp only[Bool.false_or,aK,aC]
    cases(!zaq (t.foldl (zd0 p to) (dropF p t))||(((t.foldl (zd0 p to) (dropF p t)).length:Int) !=(t.length:Int)))with
    |true=>exact h
    |false=>exact e2
theorem zmb {r:Repo}(h:Good r){o:Op}(hf:OpFit o)(ho:opB o=true):zhr r o=some (doB r o)/\Good (doB r o).1:=by
 obtain⟨f0,f1,f2,f3,f4,f5,f6⟩:=hf.fit
 have hbw:zav o.Branch=true/\zav o.Who=true:=by
  unfold opB at ho
  simp only[aG]at ho
  exact⟨ho.1,ho.2.1⟩
 have hn:=zbj hbw.1
 have hw:=zbj hbw.2
 have hn':o.Branch.length<=1048576:=by omega
 have hw':o.Who.length<=1048576:=by omega
 have hst:TB (zcH r o.Branch)/\(zcH r o.Branch).length<=8:=by
  unfold zcH
  cases hd:decide (0<=atB r o.Branch)with
  |false=>exact⟨TB.nil,by simp⟩
  |true=>
   have h0:0<=atB r o.Branch:=by simpa using hd
   have ha':atB r o.Branch<=(r.Commits.length:Int)-1:=by rcases at_range h.ok o.Branch with e |e<;>omega
   have:=h.tree (i:=(atB r o.Branch).toNat) (by omega)
   exact⟨this.1,this.2.2.2⟩
 have hfb:FB ⟨o.Path,o.Text⟩:=⟨hf.path,zcS hf.text,f6⟩
 have hto:o.To.length<=1048576:=hf.to
 obtain⟨a1,a2⟩:=zeC h (z:=znp (zcH r o.Branch) ⟨o.Path,o.Text⟩) hn' hw' (zmM hst.1 hst.2 hfb)
 obtain⟨b1,b2⟩:=zeC h (z:=znA (zcH r o.Branch) o.Path) hn' hw' (znb hst.1 o.Path)
 obtain⟨c1,c2⟩:=zeC h (z:=zjG (zcH r o.Branch) o.Path o.To) hn' hw' (zma hst.1 o.Path o.To)
 obtain⟨d1,d2⟩:=zf5 h (n:=o.Branch) (who:=o.Who) (b:=atB r o.To) hn' hw'
 obtain⟨e1,e2⟩:=zif h (n:=o.Branch) (who:=o.Who) (b:=o.At) hn' hw'
 obtain⟨g1,g2⟩:=zgz h (n:=o.Branch) (who:=o.Who) (b:=o.At) hn' hw'
 have hrest: ∀ t,t=zcH r o.Branch->(bif((o.Kind:Int)==(1:Int)) then
  ((Vm.zdz t (Vm.File.mk o.Path o.Text)).bind fun z41=>(Vm.za6 r o z41.1 z41.2).bind fun z53=>some (z53.1,z53.2))
  else(bif((o.Kind:Int)==(2:Int)) then
   ((Vm.zcU t o.Path).bind fun z79=>(Vm.za6 r o z79.1 z79.2).bind fun z91=>some (z91.1,z91.2))
   else(bif((o.Kind:Int)==(3:Int)) then
    ((Vm.zcV t o.Path o.To).bind fun z117=>(Vm.za6 r o z117.1 z117.2).bind fun z129=>some (z129.1,z129.2))
    else(bif((o.Kind:Int)==(4:Int)) then
     ((Vm.zbM r o.To (atB r o.Branch)).bind fun z157=>bif(!z157.2) then(some (r,1)) else(some (z157.1,0)))
     else(bif((o.Kind:Int)==(5:Int)) then
      ((Vm.zee r o.To).bind fun z199=>(Vm.zbW r o.Branch o.Who z199).bind fun z208=>some (z208.1,z208.2))
      else(bif((o.Kind:Int)==(6:Int)) then
       ((Vm.zdQ r o.Branch o.Who o.At).bind fun z226=>some (z226.1,z226.2))
       else((Vm.zcE r o.Branch o.Who o.At).bind fun z243=>some (z243.1,z243.2))))))))=some (doB r o)/\Good (doB r o).1:=by
  intro t et
  subst et
  unfold doB
  cases o.Kind==1 with
  |true=>rw[aD,aD,ziA hst.1 hfb,aA,a1];exact⟨rfl,a2⟩
  |false=>
  cases o.Kind==2 with
  |true=>simp only[aD,aC];rw[zhT hst.1,aA,b1];exact⟨rfl,b2⟩
  |false=>
  cases o.Kind==3 with
  |true=>simp only[aD,aC];rw[zh0 hst.1 _ _ hto,aA,c1];exact⟨rfl,c2⟩
  |false=>
  cases o.Kind==4 with
  |true=>
   simp only[aD,aC]
   rw[zgt h.rb hto,aA]
   unfold zn9 zeI
   rw[h.ok,aD]
   cases hb:(decide (0<=atB r o.To) || !repoB (headR r o.To (atB r o.Branch)))with
   |true=>exact⟨rfl,h⟩
   |false=>
    refine⟨rfl,h.head hto ?_⟩
    simp only[Bool.or_eq_false_iff,Bool.not_eq_false']at hb
    exact hb.2
  |false=>
  cases o.Kind==5 with
  |true=>simp only[aD,aC];rw[zcC h.rb,aA,d1];exact⟨rfl,d2⟩
  |false=>
  cases o.Kind==6 with
  |true=>simp only[aD,aC];rw[e1];exact⟨rfl,e2⟩
  |false=>simp only[aD,aC];rw[g1];exact⟨rfl,g2⟩
 unfold zhr
 rw[zcC h.rb,aA]
 simp only[jn]
 cases hd:decide (0<=atB r o.Branch)with
 |false=>
  refine hrest [] ?_
  unfold zcH
  rw[hd];rfl
 |true=>
  have h0:0<=atB r o.Branch:=by simpa using hd
  have ha':atB r o.Branch<=(r.Commits.length:Int)-1:=by rcases at_range h.ok o.Branch with e |e<;>omega
  rw[aD,zaN h0 ha',aA]
  refine hrest _ ?_
  unfold zcH
  rw[hd];rfl
theorem zk4:Good za5:=⟨⟨by simp[za5],fun c hc=>by simp[za5]at hc,by simp[za5],fun c hc=>by simp[za5]at hc⟩,rfl,fun _ h=>absurd rfl h⟩
def OpL (o:Op):Prop:=Bk.fit o/\Bk.bulk o<=1000000
theorem ziE {l:List Op}(hl:l.length<=1000)(ho: ∀ o∈l,OpL o): ∀ (k i m:Nat) (r:Repo),i+k=l.length->k<m->Good r -> ∃ r',Good r'/\zbv l (fun _ y12 y15=>some (Vm.Repo.mk y12 y15)) m (i:Int) r.Commits r.Heads=some r'
 |k,i,0,r,_,hm,_=>by omega
 |0,i,m+1,r,hi,_,hg=>by
  obtain rfl:i=l.length:=by omega
  simp only[zbv,jn,zad,aC]
  exact⟨r,hg,rfl⟩
 |k+1,i,m+1,r,hi,hm,hg=>by
  have hlt:i<l.length:=by omega
  have hx:l[i]? =some l[i]:=aB hlt
  obtain⟨q1,q2⟩:=ho _ (List.getElem_mem hlt)
  have hof:=OpFit.of q1 (by omega)
  simp only[zbv,jn,zah hx,aD]
  cases decide ((i:Int)<30)with
  |false=>exact⟨r,hg,rfl⟩
  |true=>
   rw[aD,zae hx,aA,zl7 hof,aA,zac hlt (show l.length<=maxi by unfold maxi;omega)]
   cases hop:opB l[i]with
   |false=>exact ziE hl ho k (i+1) m r (by omega) (by omega) hg
   |true=>
    obtain⟨e1,e2⟩:=zmb hg hof hop
    rw[aD,aA,show(⟨r.Commits,r.Heads⟩:Repo)=r from rfl,e1,aA]
    exact ziE hl ho k (i+1) m (doB r l[i]).1 (by omega) (by omega) e2
theorem zh3 {l:List Op}(hl:l.length<=1000)(ho: ∀ o∈l,OpL o): ∃ r,Good r/\zeP l=some r:=by
 unfold zeP
 simp only[jn]
 exact ziE hl ho l.length 0 (l.length+1) za5 (by omega) (by omega) zk4
section
variable {r:l30Rd}{p:Int}
theorem zdD {q k:Int}(h:zcg r p)(hk:0<=k)(hq:p+k<=q):zcg ⟨r.b,r.p+k⟩ q:=h.on k hk (by have:=h.2.2;omega)
theorem zgZ (h:zcg r p)(hp:p<=1000000000): ∃ s,zdG r=some (s,r.p+1)/\s.length<=10:=by
 unfold zdG
 obtain⟨s,e,hm⟩:=zj8 h (by omega) (l:=[([109,97,105,110]:Str),([109,97,105,110]:Str),([115,105,100,101]:Str),([100,101,118]:Str)]) (by simp) (by simp)
 refine⟨s,by rw[e];rfl,?_⟩
 simp only[List.mem_cons,List.not_mem_nil,or_false]at hm
 rcases hm with e |e |e |e<;>rw[e]<;>simp
theorem zk5 (h:zcg r p)(hp:p<=1000000000): ∃ s,zew r=some (s,r.p+1)/\s.length<=10:=by
 unfold zew
 obtain⟨s,e,hm⟩:=zj8 h (by omega) (l:=[([97]:Str),([98]:Str),([100,47,101]:Str),([100,47,102]:Str),([103,47,104,47,105]:Str),([103,47,107]:Str),([122]:Str)]) (by simp) (by simp)
 refine⟨s,by rw[e];rfl,?_⟩
 simp only[List.mem_cons,List.not_mem_nil,or_false]at hm
 rcases hm with e |e |e |e |e |e |e<;>rw[e]<;>simp
theorem zfL {k a:Int}{b w q t:Str}{l:List Str}(hk:0<=k/\k<=100)(ha:0<=a/\a<=100)(h1:b.length<=10)(h2:w.length<=10)(h3:q.length<=10)(h4:t.length<=10)(h5:LB 8 l):OpL ⟨k,b,w,q,t,a,l⟩:=by
 have hb:=h5.bulk
 refine⟨⟨?_,?_,?_,?_,?_,?_,h5.fit (by omega)⟩,?_⟩
 ·show -9223372036854775808<=k/\k<=9223372036854775807;omega
 ·show b.length<=maxi;unfold maxi;omega
 ·show w.length<=maxi;unfold maxi;omega
 ·show q.length<=maxi;unfold maxi;omega
 ·show t.length<=maxi;unfold maxi;omega
 ·show -9223372036854775808<=a/\a<=9223372036854775807;omega
 ·show 0+(b.length+(w.length+(q.length+(t.length+(0+Bk.bulk l)))))<=_
  omega
theorem zgP:LB 8 ([]:List Str):=⟨by simp,fun s hs=>by simp at hs⟩
theorem zp6 (h:zcg r p)(hp:p<=1000000): ∃ o q,zhn r=some (o,q)/\OpL o/\zcg ⟨r.b,q⟩ (p+100):=by
 unfold zhn
 obtain⟨b,e1,hb⟩:=zgZ h (by omega)
 have h1:=zdD (q:=p+1) h (k:=1) (by omega) (by omega)
 obtain⟨w,e2,hw⟩:=zj8 h1 (by omega) (l:=[([97,110,110]:Str),([98,111,98]:Str),([99,105,100]:Str)]) (by simp) (by simp)
 have hwl:w.length<=10:=by
  simp only[List.mem_cons,List.not_mem_nil,or_false]at hw
  rcases hw with e |e |e<;>rw[e]<;>simp
 have h2:=zdD (q:=p+2) h1 (k:=1) (by omega) (by omega)
 obtain⟨k,e3,k0,k1⟩:=zb6 h2 (n:=12) (by omega) (by omega) (by omega)
 have h3:=zdD (q:=p+3) h2 (k:=1) (by omega) (by omega)
 rw[e1,aA,e2,aA]
 simp only[jn,e3,aA]
 obtain⟨pa,e4,hpa⟩:=zk5 h3 (by omega)
 have h4:=zdD (q:=p+4) h3 (k:=1) (by omega) (by omega)
 obtain⟨pb,e5,hpb⟩:=zk5 h4 (by omega)
 have h5:=zdD (q:=p+5) h4 (k:=1) (by omega) (by omega)
 obtain⟨fo,e6,hfo⟩:=zj8 h3 (by omega) (l:=[([115,105,100,101]:Str),([100,101,118]:Str),([111,108,100]:Str)]) (by simp) (by simp)
 have hfl:fo.length<=10:=by
  simp only[List.mem_cons,List.not_mem_nil,or_false]at hfo
  rcases hfo with e |e |e<;>rw[e]<;>simp
 obtain⟨br,e7,hbr⟩:=zgZ h3 (by omega)
 obtain⟨n,e8,n0,n1⟩:=zb6 h3 (n:=10) (by omega) (by omega) (by omega)
 obtain⟨t,q,e9,ht,hq⟩:=zm6 h4 (by omega)
 simp only[e4,e5,e6,e7,e8,e9,aA]
 have g4:zcg ⟨r.b,r.p+1+1+1+1⟩ (p+100):=zdD h3 (by omega) (by omega)
 have g5:zcg ⟨r.b,r.p+1+1+1+1+1⟩ (p+100):=zdD h4 (by omega) (by omega)
 have gq:zcg ⟨r.b,q⟩ (p+100):=⟨hq.1,hq.2.1,by have:=hq.2.2;show q<=_;have e:(⟨r.b,q⟩:l30Rd).p=q:=rfl;rw[e]at this;omega⟩
 cases k==0 with
 |true=>exact⟨_,_,rfl,zfL (by omega) (by omega) hb hwl hpa (by simp) zgP,g4⟩
 |false=>
 cases k==1 with
 |true=>exact⟨_,_,rfl,zfL (by omega) (by omega) hb hwl hpa hpb zgP,g5⟩
 |false=>
 have hfork:=zfL (k:=4) (a:=0) (by omega) (by omega) hb hwl (q:=[]) (by simp) hfl zgP
 have huni:=zfL (k:=5) (a:=0) (by omega) (by omega) hb hwl (q:=[]) (by simp) hbr zgP
 have hset:=zfL (k:=1) (a:=0) (by omega) (by omega) hb hwl hpa (t:=[]) (by simp) ht
 cases k==2 with
 |true=>exact⟨_,_,rfl,hfork,g4⟩
 |false=>
 cases k==3 with
 |true=>exact⟨_,_,rfl,hfork,g4⟩
 |false=>
 cases k==4 with
 |true=>exact⟨_,_,rfl,huni,g4⟩
 |false=>
 cases k==5 with
 |true=>exact⟨_,_,rfl,huni,g4⟩
 |false=>
 cases k==6 with
 |true=>exact⟨_,_,rfl,huni,g4⟩
 |false=>
 cases k==7 with
 |true=>exact⟨_,_,rfl,zfL (by omega) (by omega) hb hwl (by simp) (by simp) zgP,g4⟩
 |false=>
 cases k==8 with
 |true=>exact⟨_,_,rfl,zfL (by omega) (by omega) hb hwl (by simp) (by simp) zgP,g4⟩
 |false=>exact⟨_,_,rfl,hset,gq⟩
theorem zmH {x0:l30Rd}: ∀ (m:Nat) (out:List Op) (n q p:Int),0<=n->n<m->(∀ o∈out,OpL o)->zcg ⟨x0.b,q⟩ p->p+100*n<=1000000->out.length+n<=100->
 ∃ l q',zei x0 (fun y15 _ y19=>some (y15,y19)) m out n q=some (l,q')/\(∀ o∈l,OpL o)/\l.length<=100/\zcg ⟨x0.b,q'⟩ (p+100*n)
 |0,out,n,q,p,h0,hm,_,_,_,_=>by omega
 |m+1,out,n,q,p,h0,hm,ho,hr,hp,hl=>by
  simp only[zei]
  by_cases hn:0<n
  ·obtain⟨o,q1,e1,o1,r1⟩:=zp6 hr (by omega)
   rw[aF hn,aD,e1,aA,ap1 (show out.length<=1048576 by omega),aA,zai (by omega) (by omega)]
   obtain⟨l,q',e2,l1,l2,r2⟩:=zmH (x0:=x0) m (out++[o]) (n-1) q1 (p+100) (by omega) (by omega) (fun x hx=>by
    rcases List.mem_append.1 hx with h1 |h1
    ·exact ho x h1
    ·rw[List.mem_singleton]at h1;rw[h1];exact o1) r1 (by omega) (by simp;omega)
   exact⟨l,q',e2,l1,l2,⟨r2.1,r2.2.1,by have e:(⟨x0.b,q'⟩:l30Rd).p<=p+100+100*(n-1):=r2.2.2;show q'<=_;have e':q'<=p+100+100*(n-1):=e;omega⟩⟩
  ·rw[aE hn,aC]
   exact⟨out,q,rfl,ho,by omega,⟨hr.1,hr.2.1,by have e:q<=p:=hr.2.2;show q<=_;omega⟩⟩
theorem zoa (h:zcg r p)(hp:p<=100000): ∃ l q,zgA r=some (l,q)/\(∀ o∈l,OpL o)/\l.length<=100/\zcg ⟨r.b,q⟩ (p+2001):=by
 unfold zgA
 obtain⟨n,e,hm⟩:=zkO h (by omega) (l:=[0,3,8,14,20]) (by simp) (by simp)
 have hn:0<=n/\n<=20:=by
  simp only[List.mem_cons,List.not_mem_nil,or_false]at hm
  omega
 have h1:=zdD (q:=p+1) h (k:=1) (by omega) (by omega)
 rw[e,aA]
 simp only[jn]
 obtain⟨l,q,e2,l1,l2,r2⟩:=zmH (x0:=r) ((n-0).toNat+1) [] n (r.p+1) (p+1) hn.1 (by omega) (fun x hx=>by simp at hx) h1 (by omega) (by simp;omega)
 exact⟨l,q,e2,l1,l2,⟨r2.1,r2.2.1,by have:=r2.2.2;omega⟩⟩
theorem zmN (h:zcg r p)(hp:p<=100000): ∃ x q,zfb r=some (x,q)/\Good x/\zcg ⟨r.b,q⟩ (p+2001):=by
 obtain⟨l,q,e,l1,l2,r2⟩:=zoa h hp
 obtain⟨x,hx,e2⟩:=zh3 (by omega) l1
 refine⟨x,q,?_,hx,r2⟩
 unfold zfb
 rw[e,aA,e2,aA,zbr hx.rb,aA]
structure Drawn (r:Repo):Prop where
 rb:RpB r
 coms:r.Commits.length<=16
 heads:r.Heads.length<=6
theorem Gd.drawn {r:Repo}(h:Gd True r):Drawn r:=by
 obtain⟨s1,s2⟩:=zab h.ok
 exact⟨h.rb,s1,by omega⟩
theorem zoD {code:List Byte}(h:code.length<=1048576): ∃ b:List Byte,zcM code=some ⟨b,0⟩/\zcg ⟨b,0⟩ 0:=by
 obtain⟨b,e,hb⟩:=zmZ h
 exact⟨b,e,hb,by show(0:Int)<=0;omega,by show(0:Int)<=0;omega⟩
end
inductive Rc (r:Repo):Nat->Nat->Prop
 |refl (a:Nat):Rc r a a
 |step {a b:Nat} {p:Int}:Rc r a b->p∈zaa r b->Rc r a p.toNat
theorem Rc.trans {r:Repo}{a b c:Nat}(h:Rc r a b)(k:Rc r b c):Rc r a c:=by
 induction k with
 |refl=>exact h
 |step _ hp ih=>exact Rc.step ih hp
theorem Rc.head {r:Repo}{a c:Nat}(h:Rc r a c):c=a \/ ∃ p∈zaa r a,Rc r p.toNat c:=by
 induction h with
 |refl=>exact .inl rfl
 | @step b p hb hp ih=>
  rcases ih with e |⟨q,hq,hc⟩
  ·subst e
   exact .inr ⟨p,hp,Rc.refl _⟩
  ·exact .inr ⟨q,hq,Rc.step hc hp⟩
theorem Rc.le {r:Repo}(hr:repoB r=true){a c:Nat}(ha:a<r.Commits.length)(h:Rc r a c):c<=a/\c<r.Commits.length:=by
 induction h with
 |refl=>exact⟨Nat.le_refl _,ha⟩
 |step _ hp ih=>
  have:=(zar hr ih.2).2 _ hp
  omega
theorem zaE {l:List Int}{n:Int}:zcF l n=true↔n∈l:=by
 unfold zcF
 rw[List.any_eq_true]
 constructor
 ·rintro⟨x,hx,e⟩
  have:x=n:=by simpa using e
  rw[<- this];exact hx
 ·intro h
  exact⟨n,h,by simp⟩
def zgj (l:List Int):Prop:=l.Pairwise (· < ·)
theorem zgj.ext: ∀ {xs ys:List Int},zgj xs->zgj ys->(∀ a,a∈xs↔a∈ys)->xs=ys
 | [],[],_,_,_=>rfl
 | [],y::ys,_,_,h=>by have:=(h y).2 (by simp);simp at this
 |x::xs,[],_,_,h=>by have:=(h x).1 (by simp);simp at this
 |x::xs,y::ys,hx,hy,h=>by
  have hx':=List.pairwise_cons.1 hx
  have hy':=List.pairwise_cons.1 hy
  have e:x=y:=by
   rcases List.mem_cons.1 ((h x).1 (by simp))with e |hm
   ·exact e
   ·rcases List.mem_cons.1 ((h y).2 (by simp))with e |hm2
    ·exact e.symm
    ·have h1:=hx'.1 y hm2
     have h2:=hy'.1 x hm
     omega
  subst e
  rw[zgj.ext hx'.2 hy'.2 (fun a=>by
   constructor
   ·intro ha
    rcases List.mem_cons.1 ((h a).1 (List.mem_cons_of_mem _ ha))with e2 |e2
    ·have:=hx'.1 a ha;omega
    ·exact e2
   ·intro ha
    rcases List.mem_cons.1 ((h a).2 (List.mem_cons_of_mem _ ha))with e2 |e2
    ·have:=hy'.1 a ha;omega
    ·exact e2)]
theorem zki (x y:File):(x==y)=(x.Path==y.Path&&x.Text==y.Text):=by
 apply zbT
 obtain⟨a,b⟩:=x
 obtain⟨a',b'⟩:=y
 simp
theorem zgk {a b:List File}(h:TB a):zem a b=some (a==b):=by
 have hm:=h.maxi
 unfold zem
 simp only[zgl,jn,zak]
 by_cases hn:a.length=b.length
 ·rw[hn,aO,aK,aC,<- hn]
  rw[zfp (α:=File) (r0:=some false) (Z:=some true) (f:=fun m i=>zcA a b (fun _ _=>some true) m false i) hn (fun m i x y hx hy=>by
   simp only[zcA,jn,zah hx,zae hx,zae hy,aD,aA,zac (zan hx) hm,zju (zaj (h.at_ hx).len),zki,bne]
   cases x.Path==y.Path<;>cases x.Text==y.Text<;>rfl) (fun m=>by simp only[zcA,zad,aC]) (by omega)]
  cases a==b<;>rfl
 ·rw[beq_false_of_ne hn,Bool.not_false,aD,beq_false_of_ne (fun e=>hn (by rw[e]))]
theorem zjO {a b:List Int}(h:a.length<=1048576):ze3 a b=some (a==b):=by
 have hm:=zaj h
 unfold ze3
 simp only[zgl,jn,zak]
 by_cases hn:a.length=b.length
 ·rw[hn,aO,aK,aC,<- hn]
  rw[zfp (α:=Int) (r0:=some false) (Z:=some true) (f:=fun m i=>zcz a b (fun _ _=>some true) m false i) hn (fun m i x y hx hy=>by
   simp only[zcz,zah hx,zae hx,zae hy,aD,aA,zac (zan hx) hm,bne]
   cases x==y<;>rfl) (fun m=>by simp only[zcz,zad,aC]) (by omega)]
  cases a==b<;>rfl
 ·rw[beq_false_of_ne hn,Bool.not_false,aD,beq_false_of_ne (fun e=>hn (by rw[e]))]
section
variable {r:l30Rd}{p:Int}
theorem zqI (h:zcg r p)(hp:p<=1000000){n:Int}(hn:n<1):zau r n=some (0,r.p+1):=by
 obtain⟨hb,h0,h1⟩:=h
 unfold zau
 have e1:w64 (r.p+1)=r.p+1:=zai (by omega) (by omega)
 simp only[jn,e1]
 rw[aF hn,aD]
 rfl
theorem zlA (h:zcg r p)(hp:p<=200000){x:Repo}(hx:Drawn x): ∃ a,zgS r x=some (a,r.p+1+1) /\ -1<=a/\a<=16:=by
 have hc:=hx.coms
 unfold zgS
 obtain⟨k,e,k0,k1⟩:=zb6 h (n:=14) (by omega) (by omega) (by omega)
 have h1:=zdD (q:=p+1) h (k:=1) (by omega) (by omega)
 rw[e,aA]
 cases k==0 with
 |true=>
  obtain⟨a,e2,hm⟩:=zkO h1 (by omega) (l:=[(-1),(x.Commits.length:Int)]) (by simp) (by simp)
  simp only[aD,e2,aA]
  refine⟨a,rfl,?_⟩
  simp only[List.mem_cons,List.not_mem_nil,or_false]at hm
  omega
 |false=>
  simp only[aC]
  by_cases h0:0<x.Commits.length
  ·obtain⟨a,e2,a0,a1⟩:=zb6 h1 (n:=(x.Commits.length:Int)) (by omega) (by omega) (by omega)
   rw[e2,aA]
   exact⟨a,rfl,by omega,by omega⟩
  ·rw[zqI h1 (by omega) (by omega),aA]
   exact⟨0,rfl,by omega,by omega⟩
end
theorem TB.of {t:List File}(hf:Bk.fit t)(h:Bk.bulk t<=1048576):TB t:=⟨zcS h,fun f hm=>by
 have h1:Bk.bulk f<=1048576:=zgX h hm
 have h2:Bk.bulk f=f.Path.length+Bk.bulk f.Text:=rfl
 exact⟨by omega,zcS (show Bk.bulk f.Text<=1048576 by omega),(hf.2 f hm).2⟩⟩
theorem RpB.of {r:Repo}(hf:Bk.fit r)(h:Bk.bulk r<=1048576):RpB r:=by
 have h0:Bk.bulk r=Bk.bulk r.Commits+Bk.bulk r.Heads:=rfl
 have hc:Bk.bulk r.Commits<=1048576:=by omega
 have hh:Bk.bulk r.Heads<=1048576:=by omega
 refine⟨zcS hc,fun c hm=>?_,zcS hh,fun x hm=>?_⟩
 ·have h1:Bk.bulk c<=1048576:=zgX hc hm
  have h2:Bk.bulk c=Bk.bulk c.Parents+(c.Who.length+Bk.bulk c.Tree):=rfl
  exact⟨zcS (show Bk.bulk c.Parents<=1048576 by omega),by omega,TB.of (hf.1.2 c hm).2.2 (by omega)⟩
 ·have h1:Bk.bulk x<=1048576:=zgX hh hm
  have h2:Bk.bulk x=x.Name.length+0:=rfl
  omega
theorem zmx {r:Repo}(h:RpB r):zga r=some r:=by
 have hm:=zaj h.coms
 have hl:=h.coms
 unfold zga
 simp only[jn,zak,apN h.heads,aA]
 rw[zaA (xs:=r.Commits) (p:=fun _=>true) (g:=fun f:Commit=>f) (Z:=fun acc=>some (Repo.mk acc r.Heads)) (f:=fun m acc i=>zdS r _ m i acc r.Heads) (fun m i x acc hx ha=>by
  have hi:=zan hx
  have hc:=h.cat hx
  simp only[zdS,zah hx,zae hx,aD,aA,zac hi hm,apN hc.par,zek hc.tree,ap1 (show acc.length<=1048576 by omega)]) (fun m acc=>by simp only[zdS,zad,aC]) (by omega)]
 rw[show((r.Commits.filter fun _=>true).map fun f:Commit=>f)=r.Commits by simp]
theorem zk7 (n:Str)(a:Int): ∀ (A B:List Head),(∀ h∈A,h.Name<n)->(∀ h∈B,n<h.Name)->zd2 n a false (A++B)=A++[⟨n,a⟩]++B
 | [],[],_,_=>rfl
 | [],h::B,_,hB=>by
  have h1:=hB h (by simp)
  have h2:Op.bytesLess h.Name n=false:=by
   rw[zaM,decide_eq_false_iff_not]
   exact fun e=>zal _ (zaQ e h1)
  have h3:(h.Name !=n)=true:=by
   rw[bne_iff_ne]
   exact fun e=>by rw[e]at h1;exact zal _ h1
  show zd2 n a false (h::B)=_
  unfold zd2
  rw[h2,h3,Bool.not_false,Bool.and_true,Bool.false_or,aD,aD,zgH n a B fun x hx e=>by
   have:=hB x (by simp[hx])
   rw[e]at this
   exact zal _ this]
  rfl
 |h::A,B,hA,hB=>by
  have h1:=hA h (by simp)
  have h2:Op.bytesLess h.Name n=true:=by rw[zaM];simpa using h1
  have h3:(h.Name !=n)=true:=by
   rw[bne_iff_ne]
   exact fun e=>by rw[e]at h1;exact zal _ h1
  show zd2 n a false (h::(A++B))=_
  unfold zd2
  rw[h2,h3,aK,Bool.and_false,Bool.or_false,aC,aD,zk7 n a A B (fun x hx=>hA x (by simp[hx])) hB]
  rfl
def zjU (n:Str)(hs:List Head):Nat->Nat
 |0=>0
 |k+1=>bif Op.bytesLess n (hs.getD k zdR).Name then zjU n hs k else k+1
theorem zoL {hs:List Head}(hl:hs.length<=1048576){x:Head}{K:Int->Option (List Head)}: ∀ (k m:Nat),k<=hs.length->k<m->zeE hs x K m (k:Int)=K (zjU x.Name hs k:Int)
 |k,0,_,hm=>by omega
 |0,m+1,_,_=>rfl
 |k+1,m+1,hk,hm=>by
  have hx:hs[k]? =some hs[k]:=aB (by omega)
  have hw:w64 (((k+1:Nat):Int)-1)=(k:Int):=by rw[zai (by omega) (by omega)];omega
  simp only[zeE,jn,hw,zae hx,aA,zh8,Bool.not_not]
  rw[aF (by omega),aD]
  unfold zjU
  rw[zaY hx]
  cases Op.bytesLess x.Name hs[k].Name with
  |true=>rw[aD,aD,zoL hl k m (by omega) (by omega)]
  |false=>rfl
theorem zk8 {n:Str}{hs:List Head}(hp:hs.Pairwise (fun x y=>x.Name<y.Name))(hno: ∀ h∈hs,h.Name≠n): ∀ k,k<=hs.length->zjU n hs k<=k/\(∀ h∈hs.take (zjU n hs k),h.Name<n) /\ ∀ i h,zjU n hs k<=i->i<k->hs[i]? =some h->n<h.Name
 |0,_=>⟨Nat.le_refl _,fun h hh=>by simp[zjU]at hh,fun i h _ hi _=>by omega⟩
 |k+1,hk=>by
  have hx:hs[k]? =some hs[k]:=aB (by omega)
  unfold zjU
  rw[zaY hx]
  cases hb:Op.bytesLess n hs[k].Name with
  |true=>
   rw[aD]
   obtain⟨h1,h2,h3⟩:=zk8 hp hno k (by omega)
   refine⟨by omega,h2,fun i h hi hik hh=>?_⟩
   rcases Nat.lt_or_ge i k with h4 |h4
   ·exact h3 i h hi h4 hh
   ·obtain rfl:i=k:=by omega
    rw[hx]at hh
    cases hh
    rw[zaM]at hb
    simpa using hb
  |false=>
   rw[aC]
   have hlast:hs[k].Name<n:=by
    rw[zaM]at hb
    exact zbi (zhu.1 (by simpa using hb)) (hno _ (List.getElem_mem _))
   refine⟨Nat.le_refl _,fun h hh=>?_,fun i h h1 h2 _=>by omega⟩
   obtain⟨i,hi⟩:=List.getElem?_of_mem hh
   rw[List.getElem?_take]at hi
   split at hi
   ·rename_i hik
    obtain⟨hlt,rfl⟩:=List.getElem?_eq_some_iff.1 hi
    rcases Nat.lt_or_ge i k with h4 |h4
    ·exact zaQ (List.pairwise_iff_getElem.1 hp i k hlt (by omega) h4) hlast
    ·obtain rfl:i=k:=by omega
     exact hlast
   ·cases hi
theorem zlj {hs:List Head}(hl:hs.length<=1048576){n:Str}{a:Int}(hp:hs.Pairwise (fun x y=>x.Name<y.Name))(hno: ∀ h∈hs,h.Name≠n):zgm hs ⟨n,a⟩=some (zd2 n a false hs):=by
 obtain⟨h1,h2,h3⟩:=zk8 hp hno hs.length (Nat.le_refl _)
 unfold zgm
 simp only[jn]
 rw[zoL hl hs.length (hs.length+1) (Nat.le_refl _) (by omega),apN hl,aA]
 show(zbk hs (zjU n hs hs.length:Int) ⟨n,a⟩).bind _=_
 unfold zbk
 rw[if_pos ⟨by omega,by omega,by unfold lim;omega⟩,aA,Int.toNat_natCast]
 have:=zk7 n a (hs.take (zjU n hs hs.length)) (hs.drop (zjU n hs hs.length)) h2 (fun h hh=>by
  obtain⟨i,hi⟩:=List.getElem?_of_mem hh
  rw[List.getElem?_drop]at hi
  exact h3 _ h (by omega) (List.getElem?_eq_some_iff.1 hi).1 hi)
 rw[List.take_append_drop]at this
 rw[this]
theorem zot {r:Repo}(h:RpB r){n:Str}{a:Int}(hp:r.Heads.Pairwise (fun x y=>x.Name<y.Name))(hno: ∀ x∈r.Heads,x.Name≠n):zbc r n a=some (headR r n a):=by
 have hm:=zaj h.heads
 unfold zbc
 simp only[jn,zak]
 rw[zds (p:=fun _:Head=>false) (xs:=r.Heads) (r:=fun _=>none) (Z:=some (headR r n a)) (f:=fun m k=>zbb r n a _ m k [] [] r.Heads) (fun m i x hx=>by
  have:(x.Name==n)=false:=beq_false_of_ne (hno x (aH hx))
  simp only[zbb,zah hx,zae hx,aD,aC,aA,zac (zan hx) hm,this]) (fun m=>by
  simp only[zbb,zad,aC,zlj h.heads hp hno,aA]
  rfl) (by omega)]
 rw[show r.Heads.find? (fun _=>false)=none by simp]
theorem zou {r y:Repo}(h:RpB r)(hy:RpB y):zda r y=some (bif repoB y then(y,true) else(r,false)):=by
 unfold zda
 rw[show(⟨y.Commits,y.Heads⟩:Repo)=y from rfl,zcb hy,aA]
 cases repoB y with
 |true=>rfl
 |false=>rw[Bool.not_false,aD,aC,zmx h];rfl
theorem zlP {n:Str}{a:Int}: ∀ (hs:List Head) (j:Nat) (x:Head),hs.Pairwise (fun x y=>x.Name<y.Name)->hs[j]? =some x->x.Name=n->hs.set j ⟨x.Name,a⟩=hs.map (zdI n a)
 | [],j,x,_,h,_=>by simp at h
 |h::hs,0,x,hp,e,hn=>by
  obtain rfl:h=x:=by simpa using e
  rw[List.set_cons_zero,List.map_cons]
  have ht:hs.map (zdI n a)=hs:=by
   conv=>rhs;rw[<- List.map_id hs]
   refine List.map_congr_left (fun y hy=>?_)
   have h1:=(List.pairwise_cons.1 hp).1 y hy
   unfold zdI
   rw[beq_false_of_ne (fun e2=>by rw[hn,e2]at h1;exact zal _ h1)]
   rfl
  rw[ht]
  unfold zdI
  rw[hn,aO]
  rfl
 |h::hs,j+1,x,hp,e,hn=>by
  rw[List.getElem?_cons_succ]at e
  have h1:=(List.pairwise_cons.1 hp).1 x (aH e)
  rw[List.set_cons_succ,List.map_cons,zlP hs j x (List.pairwise_cons.1 hp).2 e hn]
  congr 1
  unfold zdI
  rw[beq_false_of_ne (fun e2=>by rw[hn,e2]at h1;exact zal _ h1)]
  rfl
theorem zmt {r:Repo}(h:RpB r){n:Str}{a:Int}{K:Int->List Commit->List Head->List Head->Option Repo}(hp:r.Heads.Pairwise (fun x y=>x.Name<y.Name))(he: ∃ x∈r.Heads,x.Name=n): ∀ (k i m:Nat),i+k=r.Heads.length->k<m->(∀ j x,j<i->r.Heads[j]? =some x->x.Name≠n)->
 zbb r n a K m (i:Int) [] [] r.Heads=some ⟨r.Commits,r.Heads.map (zdI n a)⟩
 |k,i,0,_,hm,_=>by omega
 |0,i,m+1,hi,_,hno=>by
  obtain⟨x,hx,e⟩:=he
  obtain⟨j,hj⟩:=List.getElem?_of_mem hx
  exact absurd e (hno j x (by have:=zan hj;omega) hj)
 |k+1,i,m+1,hi,hm,hno=>by
  have hlt:i<r.Heads.length:=by omega
  have hx:r.Heads[i]? =some r.Heads[i]:=aB hlt
  simp only[zbb,zah hx,zae hx,aD,aA,zac hlt (zaj h.heads),zcf hlt]
  cases hb:r.Heads[i].Name==n with
  |true=>rw[aD,zlP r.Heads i _ hp hx (by simpa using hb)]
  |false=>
   rw[aC]
   exact zmt h hp he k (i+1) m (by omega) (by omega) fun j x hj hjx=>by
    rcases Nat.lt_or_ge j i with h1 |h1
    ·exact hno j x h1 hjx
    ·obtain rfl:j=i:=by omega
     rw[hx]at hjx
     cases hjx
     exact fun e=>by simp[e]at hb
theorem znK {r:Repo}(h:RpB r)(hp:r.Heads.Pairwise (fun x y=>x.Name<y.Name))(n:Str)(a:Int):zbc r n a=some (headR r n a):=by
 by_cases he: ∃ x∈r.Heads,x.Name=n
 ·unfold headR
  rw[zfi n a r.Heads hp he]
  unfold zbc
  simp only[jn,zak]
  exact zmt h hp he r.Heads.length 0 (r.Heads.length+1) (by omega) (by omega) (fun j x hj=>by omega)
 ·exact zot h hp fun x hx e=>he ⟨x,hx,e⟩
theorem zed {n:Nat}{hs:List Head}:zbZ n hs=true↔ (∀ h∈hs,zav h.Name=true/\upB n h.At=true)/\hs.Pairwise (fun x y=>x.Name<y.Name)/\hs.length<=5:=by
 unfold zbZ
 rw[aG,decide_eq_true_eq,zaC]
 constructor
 ·rintro⟨hg,hl⟩
  refine⟨fun h hm=>?_,?_,by omega⟩
  ·obtain⟨i,hi⟩:=List.getElem?_of_mem hm
   have hlt:=(List.getElem?_eq_some_iff.1 hi).1
   have:=hg i (by omega) (by omega)
   unfold zeX at this
   rw[zaY hi]at this
   simp only[aG]at this
   exact⟨this.1,this.2.1⟩
  ·have step: ∀ i,(hi:i+1<hs.length)->(hs[i]'(by omega)).Name<hs[i+1].Name:=fun i hi=>by
    have:=hg (i+1) (by omega) (by omega)
    unfold zeX at this
    rw[zaY (aB hi),aF (by omega),Nat.add_sub_cancel,zaY (aB (show i<hs.length by omega))]at this
    simp only[aD,aG,zaM,decide_eq_true_eq]at this
    exact this.2.2
   refine List.pairwise_iff_getElem.2 fun i j hi hj hij=>?_
   induction j with
   |zero=>omega
   |succ j ih=>
    rcases Nat.lt_or_ge i j with h1 |h1
    ·exact zaQ (ih (by omega) h1) (step j hj)
    ·have:i=j:=by omega
     subst this
     exact step i hj
 ·rintro⟨h1,h2,h3⟩
  refine⟨fun i h0 hi=>?_,by omega⟩
  have hx:hs[i]? =some (hs[i]'(by omega)):=aB (by omega)
  have hm:=aH hx
  unfold zeX
  rw[zaY hx,(h1 _ hm).1,(h1 _ hm).2,Bool.true_and,Bool.true_and]
  by_cases hz:0< (i:Int)
  ·have hp:hs[i-1]? =some (hs[i-1]'(by omega)):=aB (by omega)
   rw[aF hz,aD,zaY hp,zaM]
   simpa using List.pairwise_iff_getElem.1 h2 (i-1) i (by omega) (by omega) (by omega)
  ·rw[aE hz]
   rfl
theorem zf0 {r:Repo}:repoB r=true↔ (r.Commits.length<=16/\zj4 r.Commits=true)/\zbZ r.Commits.length r.Heads=true:=by
 unfold repoB
 simp only[aG,decide_eq_true_eq]
 constructor
 ·rintro⟨h1,h2,h3⟩;exact⟨⟨by omega,h2⟩,h3⟩
 ·rintro⟨⟨h1,h2⟩,h3⟩;exact⟨by omega,h2,h3⟩
theorem zml {r:Repo}(hr:repoB r=true){x:Head}(hx:x∈r.Heads):atB r x.Name=x.At/\0<=x.At/\x.At<=(r.Commits.length:Int)-1:=by
 have hh:=zed.1 (zf0.1 hr).2
 have hu:=zap.1 (hh.1 x hx).2
 refine⟨?_,hu⟩
 unfold atB
 cases hf:r.Heads.find? (fun h=>h.Name==x.Name)with
 |none=>exact absurd (List.find?_eq_none.1 hf x hx) (by simp)
 |some y=>
  have hy:=List.mem_of_find?_eq_some hf
  have hn:y.Name=x.Name:=by simpa using List.find?_some hf
  obtain⟨i,hi,rfl⟩:=List.getElem_of_mem hx
  obtain⟨j,hj,rfl⟩:=List.getElem_of_mem hy
  have hp:=List.pairwise_iff_getElem.1 hh.2.1
  rcases Nat.lt_trichotomy i j with h1 |h1 |h1
  ·have:=hp i j hi hj h1
   rw[hn]at this
   exact absurd this (zal _)
  ·subst h1;rfl
  ·have:=hp j i hj hi h1
   rw[hn]at this
   exact absurd this (zal _)
theorem zpq (n:Str)(a:Int): ∀ hs:List Head,(⟨n,a⟩:Head)∈zd2 n a false hs
 | []=>by simp[zd2]
 |h::hs=>by
  unfold zd2
  cases Op.bytesLess h.Name n with
  |true=>
   rw[aK,Bool.and_false,Bool.or_false]
   exact aJ _ (aJ _ (zpq n a hs))
  |false=>simp
theorem zo4 {r:Repo}{n:Str}{a:Int}(h:repoB (headR r n a)=true):atB (headR r n a) n=a:=(zml h (zpq n a r.Heads)).1
theorem zon (x y:Commit):(x==y)=(x.Who==y.Who&&(x.Parents==y.Parents&&x.Tree==y.Tree)):=by
 apply zbT
 obtain⟨a,b,c⟩:=x
 obtain⟨a',b',c'⟩:=y
 simp only[beq_iff_eq,aG,Commit.mk.injEq]
 constructor
 ·rintro⟨h1,h2,h3⟩;exact⟨h2,h1,h3⟩
 ·rintro⟨h2,h1,h3⟩;exact⟨h1,h2,h3⟩
theorem zoo (x y:Head):(x==y)=(x.Name==y.Name&&x.At==y.At):=by
 apply zbT
 obtain⟨a,b⟩:=x
 obtain⟨a',b'⟩:=y
 simp
theorem zpi (x y:Repo):(x==y)=(x.Commits==y.Commits&&x.Heads==y.Heads):=by
 apply zbT
 obtain⟨a,b⟩:=x
 obtain⟨a',b'⟩:=y
 simp
theorem zjd {a b:Commit}(h:CB a):zfA a b=some (a==b):=by
 unfold zfA
 simp only[jn,zjO h.par,zgk h.tree,aA,zon]
 cases a.Who==b.Who with
 |false=>rfl
 |true=>cases a.Parents==b.Parents<;>rfl
theorem ziT {a b:Repo}(h:RpB a):zgc a b=some (a==b):=by
 have hc:=zaj h.coms
 have hh:=zaj h.heads
 rw[zpi]
 unfold zgc
 simp only[zgl,jn,zak]
 by_cases h1:a.Commits.length=b.Commits.length
 case neg=>
  rw[beq_false_of_ne h1,Bool.not_false,aD,aD,beq_false_of_ne (fun e=>h1 (by rw[e]))]
  rfl
 by_cases h2:a.Heads.length=b.Heads.length
 case neg=>
  have q:(a.Heads==b.Heads)=false:=beq_false_of_ne fun e=>h2 (by rw[e])
  rw[beq_false_of_ne h2,q,show(a.Commits.length==b.Commits.length)=true by rw[h1];exact aO _,Bool.and_false]
  rfl
 rw[show(a.Commits.length==b.Commits.length)=true by rw[h1];exact aO _,show(a.Heads.length==b.Heads.length)=true by rw[h2];exact aO _]
 simp only[aK,aC]
 rw[zfp (α:=Commit) (r0:=some false) (Z:=bif a.Heads==b.Heads then some true else some false) (f:=fun m i=>zeW a b _ m false i) h1 (fun m i x y hx hy=>by
  simp only[zeW,zah hx,zae hx,zae hy,aD,aA,zac (zan hx) hc,zjd (h.cat hx)]
  cases x==y<;>rfl) (fun m=>by
  simp only[zeW,zad,aC]
  exact zfp (α:=Head) (r0:=some false) (Z:=some true) (f:=fun m i=>zeV a b (fun _ _=>some true) m false i) h2 (fun m i x y hx hy=>by
   simp only[zeV,zah hx,zae hx,zae hy,aD,aA,zac (zan hx) hh,zoo]
   cases(x.Name==y.Name&&x.At==y.At)<;>rfl) (fun m=>by simp only[zeV,zad,aC]) (by omega)) (by omega)]
 cases a.Commits==b.Commits<;>cases a.Heads==b.Heads<;>rfl
theorem zqd {a b:Repo}(h:RpB b)(hp:b.Commits <+:a.Commits):zjs a b=some true:=by
 have hc:=zaj h.coms
 have hl:=hp.length_le
 unfold zjs
 rw[aE (by omega),aC]
 simp only[jn,zak]
 rw[zbs (n:=b.Commits.length) (g:=fun _=>true) (r0:=some false) (Z:=some true) (f:=fun m i=>zhC a b (fun _ _=>some true) m false i) (fun m i hi=>by
  have hx:b.Commits[i]? =some b.Commits[i]:=aB hi
  have hy:a.Commits[i]? =some b.Commits[i]:=by
   obtain⟨t,ht⟩:=hp
   rw[<- ht,aM hi,hx]
  simp only[zhC,zah hx,zae hx,zae hy,aD,aA,zac hi hc,zjd (h.cat hx),aO,aK,aC]) (fun m=>by simp only[zhC,zad,aC]) _ (by omega),zaC.2 (fun _ _ _=>rfl),aD]
theorem zfj (x:Repo):(⟨x.Commits,x.Heads⟩:Repo)=x:=rfl
theorem zh4 {R α σ:Type} {xs:List α} {g:σ->α->σ} {I:σ->Prop} {f:Nat->Int->σ->Option R} {Z:σ->Option R}
 (hs: ∀ m (i:Nat) x s,xs[i]? =some x->I s->f (m+1) (i:Int) s=f m ((i+1:Nat):Int) (g s x)/\I (g s x)) (he: ∀ m s,I s->f (m+1) (xs.length:Int) s=Z s):
 ∀ (k i m:Nat) (s:σ),i+k=xs.length->k<m->I s->f m (i:Int) s=Z ((xs.drop i).foldl g s)/\I ((xs.drop i).foldl g s)
 |k,i,0,s,_,hm,_=>by omega
 |0,i,m+1,s,hi,_,h=>by
  obtain rfl:i=xs.length:=by omega
  rw[List.drop_length,List.foldl_nil]
  exact⟨he m s h,h⟩
 |k+1,i,m+1,s,hi,hm,h=>by
  have hlt:i<xs.length:=by omega
  obtain⟨e1,e2⟩:=hs m i xs[i] s (aB hlt) h
  rw[e1,aI hlt,List.foldl_cons]
  exact zh4 hs he k (i+1) m _ (by omega) (by omega) e2
theorem zdp {R α σ:Type} {xs:List α} {g:σ->α->σ} {I:σ->Prop} {f:Nat->Int->σ->Option R} {Z:σ->Option R} {s:σ} (h:I s)
 (hs: ∀ m (i:Nat) x s,xs[i]? =some x->I s->f (m+1) (i:Int) s=f m ((i+1:Nat):Int) (g s x)/\I (g s x)) (he: ∀ m s,I s->f (m+1) (xs.length:Int) s=Z s):f (xs.length+1) 0 s=Z (xs.foldl g s):=by
 have:=(zh4 hs he xs.length 0 (xs.length+1) s (by omega) (by omega) h).1
 rwa [List.drop_zero]at this
theorem zlo {α:Type}(q:α->Bool): ∀ (xs:List α) (b:Bool),xs.foldl (fun b x=>b&&q x) b=(b&&xs.all q)
 | [],b=>by simp
 |x::xs,b=>by rw[List.foldl_cons,zlo q xs,List.all_cons,Bool.and_assoc]
def leftL (r:Repo)(good:List Int)(bad:Int):List Int:=(allA r bad).filter fun x=>good.all fun g=> !zcF (allA r g) x
theorem zf2 (r:Repo)(good:List Int)(bad:Int):(leftL r good bad).length<=r.Commits.length:=Nat.le_trans (List.length_filter_le _ _) (zaS r bad)
theorem zeq {r:Repo}{good:List Int}{bad x:Int}:x∈leftL r good bad↔x∈allA r bad /\ ∀ g∈good,x∉allA r g:=by
 unfold leftL
 rw[List.mem_filter,List.all_eq_true]
 constructor
 ·rintro⟨h1,h2⟩
  refine⟨h1,fun g hg hx=>?_⟩
  have:=h2 g hg
  rw[zaE.2 hx]at this
  cases this
 ·rintro⟨h1,h2⟩
  refine⟨h1,fun g hg=>?_⟩
  cases hb:zcF (allA r g) x with
  |false=>rfl
  |true=>exact absurd (zaE.1 hb) (h2 g hg)
section
variable {r:l30Rd}{p:Int}
end
def plI (l:List Int)(n:Int):Int:=(l.idxOf n:Int)
theorem zbp {l:List Int}{n:Int}(h:n∈l):0<=plI l n/\plI l n< (l.length:Int) /\ ∃ hi:(plI l n).toNat<l.length,l[(plI l n).toNat]=n:=by
 unfold plI
 have hl:=List.idxOf_lt_length_of_mem h
 refine⟨Int.natCast_nonneg _,by omega,hl,?_⟩
 exact List.getElem_idxOf hl
def zhs (p:Int):Prop:= -9223372036854775808<=p/\p<=9223372036854775807
def onP (has:List Int)(i:Nat)(p:Int):Bool:=upB i p||(decide (p<0)&&decide (-(has.length:Int)<=p))
def toP (has:List Int)(base i:Nat)(p:Int):Int:=bif upB i p then(base:Int)+p else has.getD (-1-p).toNat 0
def toC (has:List Int)(base i:Nat)(c:Commit):Commit:=⟨c.Parents.map (toP has base i),c.Who,c.Tree⟩
def okS (has:List Int):Nat->List Commit->Bool
 |_,[]=>true
 |i,c::cs=>c.Parents.all (onP has i)&&okS has (i+1) cs
def ze0 (has:List Int)(base:Nat):Nat->List Commit->List Commit
 |_,[]=>[]
 |i,c::cs=>toC has base i c::ze0 has base (i+1) cs
theorem zjS (has:List Int)(base:Nat): ∀ (cs:List Commit) (i:Nat),(ze0 has base i cs).length=cs.length
 | [],i=>rfl
 |c::cs,i=>by simp[ze0,zjS has base cs]
theorem zlK {has:List Int}{base:Nat}: ∀ {cs:List Commit} {i:Nat} {x:Commit},x∈ze0 has base i cs -> ∃ j c,c∈cs/\x=toC has base j c
 | [],i,x,h=>by simp[ze0]at h
 |c::cs,i,x,h=>by
  simp only[ze0,List.mem_cons]at h
  rcases h with rfl |h
  ·exact⟨i,c,by simp,rfl⟩
  ·obtain⟨j,d,hd,e⟩:=zlK h
   exact⟨j,d,List.mem_cons_of_mem _ hd,e⟩
def zj6 (has:List Int):Int:=bif decide (0< (has.length:Int)) then has.getD 0 0 else -1
def endAt (has:List Int)(base n:Nat):Int:=bif n==0 then zj6 has else((base+n-1:Nat):Int)
def zg9 (r:Repo)(has:List Int)(sent:List Commit)(n:Str):Repo:=headR ⟨r.Commits++ze0 has r.Commits.length 0 sent,r.Heads⟩ n (endAt has r.Commits.length sent.length)
def zkk (r:Repo)(has:List Int)(sent:List Commit)(n:Str):Repo×Bool:=bif repoB r then(bif okS has 0 sent&&(zjT r has&&repoB (zg9 r has sent n)) then(zg9 r has sent n,true) else(r,false)) else(za5,false)
def zj7 (f:Int->Int)(P:List Int)(k:Nat):List Int:=(P.take k).map f++P.drop k
theorem zmr (f:Int->Int)(P:List Int)(k:Nat):(zj7 f P k).length=P.length:=by unfold zj7;simp;omega
theorem zno {f:Int->Int}{P:List Int}{k:Nat}(h:k<P.length):(zj7 f P k)[k]? =some P[k]:=by
 unfold zj7
 rw[aN (by simp;omega)]
 simp[Nat.min_eq_left (Nat.le_of_lt h)]
theorem zkc {f:Int->Int}{P:List Int}{k:Nat}(h:k<P.length):(zj7 f P k).set k (f P[k])=zj7 f P (k+1):=by
 unfold zj7
 have hl:((P.take k).map f).length=k:=by simp;omega
 rw[List.set_append_right _ _ (by omega),hl,Nat.sub_self,aI h,List.set_cons_zero,List.take_add_one,aB h,List.map_append,List.append_assoc]
 rfl
theorem zms (f:Int->Int)(P:List Int):zj7 f P P.length=P.map f:=by unfold zj7;simp
section
variable {r:Repo}{has:List Int}{sent:List Commit}
theorem zrI {p:Int}(h:zhs p):w64 (-1-p) = -1-p:=zai (by unfold zhs at h;omega) (by unfold zhs at h;omega)
theorem zpG {p:Int}(h0:p<0)(h1: -(has.length:Int)<=p):gi has (-1-p)=some (has.getD (-1-p).toNat 0):=by
 have:=zfn (l:=has) (i:=(-1-p).toNat) (by omega)
 rwa [show(((-1-p).toNat:Nat):Int) = -1-p by omega]at this
theorem zsa (hr:RpB r)(hh:has.length<=1048576){i:Nat}(hi:i<=1048576){P:List Int}(hl:P.length<=1048576)(hf: ∀ p∈P,zhs p){K:Bool->Int->List Commit->List Head->List Int->Option (Repo×Bool)}{b:Bool}{j1:List Commit}{j2:List Head}: ∀ (j k m:Nat),k+j=P.length->j<m->
 zg6 r has i K m b (k:Int) j1 j2 (zj7 (toP has r.Commits.length i) P k)=bif(P.drop k).all (onP has i) then K b (P.length:Int) j1 j2 (P.map (toP has r.Commits.length i)) else some (r,false)
 |j,k,0,_,hm=>by omega
 |0,k,m+1,hk,_=>by
  obtain rfl:k=P.length:=by omega
  simp only[zg6,zms,List.length_map,zad,aC,List.drop_length,List.all_nil,aD]
 |j+1,k,m+1,hk,hm=>by
  have hlt:k<P.length:=by omega
  have hp:=hf _ (List.getElem_mem hlt)
  have hx:=zno (f:=toP has r.Commits.length i) hlt
  have hbase:=hr.coms
  have ih:=zsa (K:=K) (b:=b) (j1:=j1) (j2:=j2) hr hh hi hl hf j (k+1) m (by omega) (by omega)
  simp only[zg6,jn,zah hx,zae hx,aD,aA,zch,zbL (show i<=maxi by unfold maxi;omega),zcf (show k< (zj7 (toP has r.Commits.length i) P k).length by rw[zmr];exact hlt),zac hlt (show P.length<=maxi by unfold maxi;omega),zrI hp,zbL (show has.length<=maxi by unfold maxi;omega),zbr hr]
  rw[show(decide ((0:Int)<=P[k])&&decide (P[k]<=(i:Int)-1))=upB i P[k] from rfl,aI hlt,List.all_cons]
  cases hu:upB i P[k]with
  |true=>
   have hv:onP has i P[k]=true:=by unfold onP;rw[hu];rfl
   have ht:toP has r.Commits.length i P[k]=w64 ((r.Commits.length:Int)+P[k]):=by
    obtain⟨u0,u1⟩:=zap.1 hu
    unfold toP
    rw[hu,aD,zai (by omega) (by omega)]
   rw[aD,<- ht,zkc hlt,hv,Bool.true_and]
   exact ih
  |false=>
   rw[aC]
   by_cases hd:(decide ((0:Int) <= -1-P[k])&&decide (-1-P[k]<=(has.length:Int)-1))=true
   ·rw[hd,aD]
    simp only[aG,decide_eq_true_eq]at hd
    have hv:onP has i P[k]=true:=by
     unfold onP
     rw[hu,aF (show P[k]<0 by omega),aF (show -(has.length:Int)<=P[k] by omega)];rfl
    have ht:toP has r.Commits.length i P[k]=has.getD (-1-P[k]).toNat 0:=by unfold toP;rw[hu,aC]
    rw[aF (show P[k]<0 by omega),aD,zpG (by omega) (by omega),aA,<- ht,zkc hlt,hv,Bool.true_and]
    exact ih
   ·have hv:onP has i P[k]=false:=by
     unfold onP
     rw[hu,Bool.false_or]
     cases hq:decide (P[k]<0)&&decide (-(has.length:Int)<=P[k])with
     |false=>rfl
     |true=>
      exfalso
      simp only[aG,decide_eq_true_eq]at hq
      refine hd ?_
      simp only[aG,decide_eq_true_eq]
      omega
    have hd':(decide ((0:Int) <= -1-P[k])&&decide (-1-P[k]<=(has.length:Int)-1))=false:=by simpa using hd
    rw[hd',aC,aC,hv,Bool.false_and]
    rfl
theorem zoF (hr:RpB r)(hh:has.length<=1048576){i:Nat}(hi:i<=1048576){c:Commit}(hl:c.Parents.length<=1048576)(hf: ∀ p∈c.Parents,zhs p){K:Bool->Int->List Commit->List Head->List Int->Str->List File->Option (Repo×Bool)}{b:Bool}{j1:List Commit}{j2:List Head}{s:Str}{t:List File}: ∀ (j k m:Nat),k+j=c.Parents.length->j<m->
 zdT r has i c K m b (k:Int) j1 j2 ((c.Parents.take k).map (toP has r.Commits.length i)) s t=bif(c.Parents.drop k).all (onP has i) then K b (c.Parents.length:Int) j1 j2 (c.Parents.map (toP has r.Commits.length i)) s t else some (r,false)
 |j,k,0,_,hm=>by omega
 |0,k,m+1,hk,_=>by
  obtain rfl:k=c.Parents.length:=by omega
  simp only[zdT,zad,aC,List.drop_length,List.all_nil,aD,List.take_length]
 |j+1,k,m+1,hk,hm=>by
  have hlt:k<c.Parents.length:=by omega
  have hp:=hf _ (List.getElem_mem hlt)
  have hx:c.Parents[k]? =some c.Parents[k]:=aB hlt
  have hbase:=hr.coms
  have ih:=zoF (K:=K) (b:=b) (j1:=j1) (j2:=j2) (s:=s) (t:=t) hr hh hi hl hf j (k+1) m (by omega) (by omega)
  have htk:(c.Parents.take (k+1)).map (toP has r.Commits.length i)=(c.Parents.take k).map (toP has r.Commits.length i)++[toP has r.Commits.length i c.Parents[k]]:=by
   rw[List.take_add_one,hx,List.map_append];rfl
  have hap: ∀ v:Int,apM ((c.Parents.take k).map (toP has r.Commits.length i)) [v]=some ((c.Parents.take k).map (toP has r.Commits.length i)++[v]):=fun v=>ap1 (by simp;omega)
  have hn0:w64 (0-(has.length:Int)) = -(has.length:Int):=by rw[zai (by omega) (by omega)];omega
  rw[htk]at ih
  simp only[zdT,jn,zah hx,zae hx,aD,aA,zdt,zbL (show i<=maxi by unfold maxi;omega),zac hlt (show c.Parents.length<=maxi by unfold maxi;omega),zrI hp,hn0,hap,zmx hr]
  rw[show(decide ((0:Int)<=c.Parents[k])&&decide (c.Parents[k]<=(i:Int)-1))=upB i c.Parents[k] from rfl,aI hlt,List.all_cons]
  cases hu:upB i c.Parents[k]with
  |true=>
   have hv:onP has i c.Parents[k]=true:=by unfold onP;rw[hu];rfl
   have ht:toP has r.Commits.length i c.Parents[k]=w64 ((r.Commits.length:Int)+c.Parents[k]):=by
    obtain⟨u0,u1⟩:=zap.1 hu
    unfold toP
    rw[hu,aD,zai (by omega) (by omega)]
   rw[aD,<- ht,hv,Bool.true_and]
   exact ih
  |false=>
   rw[aC]
   by_cases hd:(decide (-(has.length:Int)<=c.Parents[k])&&decide (c.Parents[k] <= -1))=true
   ·rw[hd,aD]
    simp only[aG,decide_eq_true_eq]at hd
    have hv:onP has i c.Parents[k]=true:=by
     unfold onP
     rw[hu,aF (show c.Parents[k]<0 by omega),aF (show -(has.length:Int)<=c.Parents[k] by omega)];rfl
    have ht:toP has r.Commits.length i c.Parents[k]=has.getD (-1-c.Parents[k]).toNat 0:=by unfold toP;rw[hu,aC]
    rw[zpG (by omega) (by omega),aA,<- ht,hv,Bool.true_and]
    exact ih
   ·have hv:onP has i c.Parents[k]=false:=by
     unfold onP
     rw[hu,Bool.false_or]
     cases hq:decide (c.Parents[k]<0)&&decide (-(has.length:Int)<=c.Parents[k])with
     |false=>rfl
     |true=>
      exfalso
      simp only[aG,decide_eq_true_eq]at hq
      refine hd ?_
      simp only[aG,decide_eq_true_eq]
      omega
    have hd':(decide (-(has.length:Int)<=c.Parents[k])&&decide (c.Parents[k] <= -1))=false:=by simpa using hd
    rw[hd',aC,hv,Bool.false_and]
    rfl
def zoG (a:Int)(base:Nat)(i:Nat)(cs:List Commit):Int:=bif cs.length==0 then a else((base+i+cs.length-1:Nat):Int)
theorem zmQ (a:Int)(base i:Nat)(c:Commit)(cs:List Commit):zoG a base i (c::cs)=zoG ((base+i:Nat):Int) base (i+1) cs:=by
 unfold zoG
 cases cs with
 |nil=>simp
 |cons d cs=>simp<;>omega
theorem zsb (hr:RpB r)(hh:has.length<=1048576)(hs:r.Commits.length+sent.length<=1048576)(hc: ∀ c∈sent,CB c)(hf: ∀ c∈sent,∀ p∈c.Parents,zhs p){K:Bool->Int->Int->List Commit->List Head->List Commit->List Head->Option (Repo×Bool)}{hd:List Head}{F:Int->List Commit->Option (Repo×Bool)}(hK: ∀ b a i out j1 j2,K b a i out hd j1 j2=F a out): ∀ (k i m:Nat) (a:Int) (out:List Commit) (j1:List Commit) (j2:List Head),i+k=sent.length->k<m->out.length=r.Commits.length+i->
 zg7 r has sent K m false a (i:Int) out hd j1 j2=bif okS has i (sent.drop i) then F (zoG a r.Commits.length i (sent.drop i)) (out++ze0 has r.Commits.length i (sent.drop i)) else some (r,false)
 |k,i,0,a,out,j1,j2,_,hm,_=>by omega
 |0,i,m+1,a,out,j1,j2,hi,_,ho=>by
  obtain rfl:i=sent.length:=by omega
  simp only[zg7,zad,aC,List.drop_length,okS,ze0,aD,List.append_nil,hK,zoG,List.length_nil,aO]
 |k+1,i,m+1,a,out,j1,j2,hi,hm,ho=>by
  have hlt:i<sent.length:=by omega
  have hx:sent[i]? =some sent[i]:=aB hlt
  have hcb:=hc _ (List.getElem_mem hlt)
  have hpar:=hcb.par
  have hpf:=hf _ (List.getElem_mem hlt)
  have e0:zj7 (toP has r.Commits.length i) sent[i].Parents 0=sent[i].Parents:=by unfold zj7;simp
  have l2:=fun K'=>zsa (K:=K') (b:=false) (j1:=j1) (j2:=j2) hr hh (show i<=1048576 by omega) hpar hpf sent[i].Parents.length 0 (sent[i].Parents.length+1) (by omega) (by omega)
  rw[e0]at l2
  simp only[zg7,jn,zah hx,zae hx,aD,aA,zcQ hcb,zak,zac hlt (show sent.length<=maxi by unfold maxi;omega)]
  refine(l2 _).trans ?_
  rw[List.drop_zero,aI hlt]
  unfold okS ze0
  cases hon:sent[i].Parents.all (onP has i)with
  |false=>rfl
  |true=>
   have ih:=zsb hr hh hs hc hf hK k (i+1) m ((r.Commits.length+i:Nat):Int) (out++[toC has r.Commits.length i sent[i]]) j1 j2 (by omega) (by omega) (by simp;omega)
   rw[aD,Bool.true_and,ap1 (show out.length<=1048576 by omega),aA,zmQ]
   have e:w64 (((out++[Commit.mk (sent[i].Parents.map (toP has r.Commits.length i)) sent[i].Who sent[i].Tree]).length:Int)-1)=((r.Commits.length+i:Nat):Int):=by
    rw[zai (by simp<;>omega) (by simp<;>omega)]
    simp<;>omega
   rw[e]
   refine ih.trans ?_
   rw[List.append_assoc]
   rfl
theorem zoH (hr:RpB r)(hh:has.length<=1048576)(hs:r.Commits.length+sent.length<=1048576)(hc: ∀ c∈sent,CB c)(hf: ∀ c∈sent,∀ p∈c.Parents,zhs p){K:Bool->Int->Int->List Commit->List Head->List Commit->List Head->Option (Repo×Bool)}{hd:List Head}{F:Int->List Commit->Option (Repo×Bool)}(hK: ∀ b a i out j1 j2,K b a i j1 j2 out hd=F a out): ∀ (k i m:Nat) (a:Int) (out:List Commit) (j1:List Commit) (j2:List Head),i+k=sent.length->k<m->out.length=r.Commits.length+i->
 zdU r has sent K m false a (i:Int) j1 j2 out hd=bif okS has i (sent.drop i) then F (zoG a r.Commits.length i (sent.drop i)) (out++ze0 has r.Commits.length i (sent.drop i)) else some (r,false)
 |k,i,0,a,out,j1,j2,_,hm,_=>by omega
 |0,i,m+1,a,out,j1,j2,hi,_,ho=>by
  obtain rfl:i=sent.length:=by omega
  simp only[zdU,zad,aC,List.drop_length,okS,ze0,aD,List.append_nil,hK,zoG,List.length_nil,aO]
 |k+1,i,m+1,a,out,j1,j2,hi,hm,ho=>by
  have hlt:i<sent.length:=by omega
  have hx:sent[i]? =some sent[i]:=aB hlt
  have hcb:=hc _ (List.getElem_mem hlt)
  have hpar:=hcb.par
  have hpf:=hf _ (List.getElem_mem hlt)
  have l2:=fun K' s t=>zoF (K:=K') (b:=false) (j1:=j1) (j2:=j2) (s:=s) (t:=t) hr hh (show i<=1048576 by omega) hpar hpf sent[i].Parents.length 0 (sent[i].Parents.length+1) (by omega) (by omega)
  simp only[zdU,jn,zah hx,zae hx,aD,aA,zek hcb.tree,zak,zac hlt (show sent.length<=maxi by unfold maxi;omega)]
  refine(l2 _ _ _).trans ?_
  rw[List.drop_zero,aI hlt]
  unfold okS ze0
  cases hon:sent[i].Parents.all (onP has i)with
  |false=>rfl
  |true=>
   have ih:=zoH hr hh hs hc hf hK k (i+1) m ((r.Commits.length+i:Nat):Int) (out++[toC has r.Commits.length i sent[i]]) j1 j2 (by omega) (by omega) (by simp;omega)
   rw[aD,Bool.true_and,ap1 (show out.length<=1048576 by omega),aA,zmQ,show(out.length:Int)=((r.Commits.length+i:Nat):Int) by omega]
   refine ih.trans ?_
   rw[List.append_assoc]
   rfl
theorem zlL (n:Str)(a:Int): ∀ (hs:List Head),(⟨n,a⟩:Head)∈zd2 n a false hs
 | []=>by simp[zd2]
 |h::hs=>by
  have ih:=zlL n a hs
  unfold zd2
  cases hb:Op.bytesLess h.Name n with
  |false=>simp
  |true=>cases(h.Name !=n)<;>simp[ih]
theorem zqB (hb: ∀ c∈sent,CB c){c:Commit}(hc:c∈sent)(base j:Nat):CB (toC has base j c):=
 ⟨by show(c.Parents.map _).length<=_;rw[List.length_map];exact(hb c hc).par,(hb c hc).who,(hb c hc).tree⟩
theorem znd (hr:RpB r)(hs:r.Commits.length+sent.length<=1048576)(hc: ∀ c∈sent,CB c):RpB ⟨r.Commits++ze0 has r.Commits.length 0 sent,r.Heads⟩:=
 ⟨by simp[zjS];omega,fun x hx=>by
  rcases List.mem_append.1 hx with h1 |h1
  ·exact hr.com x h1
  ·obtain⟨j,c,hm,rfl⟩:=zlK h1
   exact zqB hc hm _ _,hr.heads,hr.head⟩
theorem znw (n:Nat)(hn:sent.length=n)(base:Nat):zoG (zj6 has) base 0 sent=endAt has base n:=by
 subst hn
 unfold zoG endAt
 rw[Nat.add_zero]
theorem zmR {K:Int->Option (Repo×Bool)}:(bif decide ((0:Int)< (has.length:Int)) then((gi has 0).bind fun u=>K u) else K (-1))=K (zj6 has):=by
 unfold zj6
 cases hd:decide ((0:Int)< (has.length:Int))with
 |false=>rfl
 |true=>
  have h0:0<has.length:=by simpa using hd
  have:=zfn h0
  rw[aD,aD,show(0:Int)=((0:Nat):Int) from rfl,this]
  rfl
theorem zoP (hr:RpB r)(hh:has.length<=1048576)(hs:r.Commits.length+sent.length<=1048576)(hc: ∀ c∈sent,CB c)(hf: ∀ c∈sent,∀ p∈c.Parents,zhs p){n:Str}(hn:n.length<=1048576):zks r has sent n=some (zkk r has sent n):=by
 unfold zks zkk
 rw[za8 hr,aA]
 cases hok:repoB r with
 |false=>rfl
 |true=>
  obtain⟨s1,s2⟩:=zab hok
  have hrb:=znd (has:=has) hr hs hc
  have hhd:=hrb.headR (show r.Heads.length<=100000 by omega) hn (endAt has r.Commits.length sent.length)
  simp only[aK,aC,aD,zbr hr,aA,jn,zak]
  rw[zmR]
  have key:=zsb (hd:=r.Heads) hr hh hs hc hf (K:=fun _ y49 _ y54 y57 _ _=>
   (zel (Repo.mk y54 y57) n y49).bind fun z344=>(zhj r has).bind fun z456=>
   bif(!z456) then(bif true then(some (r,false)) else(some (z344,true)))
   else((zby z344).bind fun z470=>bif(!z470) then(some (r,false)) else(some (z344,true)))) (F:=fun a out=>(zel (Repo.mk out r.Heads) n a).bind fun z344=>(zhj r has).bind fun z456=>
   bif(!z456) then(bif true then(some (r,false)) else(some (z344,true)))
   else((zby z344).bind fun z470=>bif(!z470) then(some (r,false)) else(some (z344,true)))) (fun _ _ _ _ _ _=>rfl) sent.length 0 (sent.length+1) (zj6 has) r.Commits [] [] (by omega) (by omega) (by omega)
  refine key.trans ?_
  rw[List.drop_zero,znw _ rfl]
  cases okS has 0 sent with
  |false=>rfl
  |true=>
   have e1:=ze8 hrb (show r.Heads.length<=100000 by omega) n (endAt has r.Commits.length sent.length)
   simp only[aD,Bool.true_and,e1,aA,zmU hr hh]
   have e2:=za8 hhd
   unfold zg9
   cases zjT r has with
   |false=>rfl
   |true=>
    simp only[aK,aC,Bool.true_and,e2,aA]
    cases repoB (headR ⟨r.Commits++ze0 has r.Commits.length 0 sent,r.Heads⟩ n (endAt has r.Commits.length sent.length))<;>rfl
theorem zkl (hr:RpB r)(hh:has.length<=1048576)(hs:r.Commits.length+sent.length<=1048576)(hc: ∀ c∈sent,CB c)(hf: ∀ c∈sent,∀ p∈c.Parents,zhs p){n:Str}(hn:n.length<=1048576):zgK r has sent n=some (zkk r has sent n):=by
 unfold zgK zkk
 rw[zcb hr,aA]
 cases hok:repoB r with
 |false=>rfl
 |true=>
  obtain⟨s1,s2⟩:=zab hok
  have hrb:=znd (has:=has) hr hs hc
  have hhd:=hrb.headR (show r.Heads.length<=100000 by omega) hn (endAt has r.Commits.length sent.length)
  have hw:w64 ((sent.length:Int)+(has.length:Int))=(sent.length:Int)+has.length:=zai (by omega) (by omega)
  simp only[aK,aC,aD,zmx hr,aA,jn,zak,hw]
  by_cases h16:(16:Int)< (has.length:Int)
  ·have ha:zjT r has=false:=by unfold zjT;rw[aE (show ¬ (has.length:Int)<=16 by omega),Bool.and_false]
   rw[aF h16,ha]
   simp
  rw[aE h16,aC,zlF hr (show has.length<=100000 by omega),hok,aA,Bool.true_and]
  cases hall:has.all (upB r.Commits.length)with
  |false=>
   have ha:zjT r has=false:=by unfold zjT;rw[hall,Bool.false_and]
   rw[ha]
   simp
  |true=>
   have ha:zjT r has=true:=by unfold zjT;rw[hall,aF (show(has.length:Int)<=16 by omega)];rfl
   rw[aK,aC,ha,Bool.true_and]
   cases hz:((sent.length:Int)+(has.length:Int)==0)with
   |true=>
    have h0:(sent.length:Int)+has.length=0:=by simpa using hz
    have hs0:sent=[]:=List.eq_nil_of_length_eq_zero (by omega)
    have hh0:has=[]:=List.eq_nil_of_length_eq_zero (by omega)
    have hbad:repoB (zg9 r has sent n)=false:=by
     cases hb:repoB (zg9 r has sent n)with
     |false=>rfl
     |true=>
      exfalso
      have hm:(⟨n,endAt has r.Commits.length sent.length⟩:Head)∈(zg9 r has sent n).Heads:=zlL n _ r.Heads
      have:=(zc3 hb hm).1
      rw[hs0,hh0]at this
      exact absurd this (by show ¬ (0:Int) <= -1;decide)
    rw[hbad,Bool.and_false]
    rfl
   |false=>
    have key:=zoH (hd:=r.Heads) hr hh hs hc hf (K:=fun _ y80 _ _ _ y93 y96=>
     (zbc (Repo.mk y93 y96) n y80).bind fun z610=>(zda r (Repo.mk z610.Commits z610.Heads)).bind fun z622=>some (Repo.mk z622.1.Commits z622.1.Heads,z622.2)) (F:=fun a out=>(zbc (Repo.mk out r.Heads) n a).bind fun z610=>(zda r (Repo.mk z610.Commits z610.Heads)).bind fun z622=>some (Repo.mk z622.1.Commits z622.1.Heads,z622.2)) (fun _ _ _ _ _ _=>rfl) sent.length 0 (sent.length+1) (zj6 has) r.Commits [] [] (by omega) (by omega) (by omega)
    rw[aC,zmR]
    refine key.trans ?_
    rw[List.drop_zero,znw _ rfl]
    cases okS has 0 sent with
    |false=>rfl
    |true=>
     rw[aD,Bool.true_and,znK hrb (show List.Pairwise _ r.Heads from zil hok),aA,show ∀ x:Repo,(⟨x.Commits,x.Heads⟩:Repo)=x from fun _=>rfl,zou hr hhd,aA]
     unfold zg9
     cases repoB (headR ⟨r.Commits++ze0 has r.Commits.length 0 sent,r.Heads⟩ n (endAt has r.Commits.length sent.length))<;>rfl
end
def zbl (l:List Int)(n:Int):Int:=bif zcF l n then plI l n else -1
theorem ziY {l:List Int}{n:Int}{i:Nat}(hi:i<l.length):(bif zcF (l.drop i) n then((i+(l.drop i).idxOf n:Nat):Int) else -1)=bif l[i]==n then(i:Int) else(bif zcF (l.drop (i+1)) n then((i+1+(l.drop (i+1)).idxOf n:Nat):Int) else -1):=by
 rw[aI hi,List.idxOf_cons]
 unfold zcF
 rw[List.any_cons]
 cases l[i]==n with
 |true=>simp
 |false=>
  simp only[Bool.false_or,aC]
  congr 1
  omega
theorem zlv {l:List Int}(hl:l.length<=1000000){n:Int}: ∀ (k i m:Nat),i+k=l.length->k<m->
 zc0 l n (fun _ _=>some (-1)) m 0 (i:Int)=some (bif zcF (l.drop i) n then((i+(l.drop i).idxOf n:Nat):Int) else -1)
 |k,i,0,_,hm=>by omega
 |0,i,m+1,hi,_=>by
  obtain rfl:i=l.length:=by omega
  simp only[zc0,zad,aC,List.drop_length]
  rfl
 |k+1,i,m+1,hi,hm=>by
  have hlt:i<l.length:=by omega
  have hx:l[i]? =some l[i]:=aB hlt
  simp only[zc0,zah hx,zae hx,aD,aA,zac hlt (show l.length<=maxi by unfold maxi;omega)]
  rw[ziY hlt,zlv hl k (i+1) m (by omega) (by omega)]
  cases l[i]==n<;>rfl
theorem zje {l:List Int}(hl:l.length<=1000000)(n:Int):zfc l n=some (zbl l n):=by
 unfold zfc
 simp only[jn,zak]
 have e:=zlv hl (n:=n) l.length 0 (l.length+1) (by omega) (by omega)
 refine e.trans ?_
 unfold zbl plI
 simp
theorem zmo (f:Int->Int)(P:List Int):zj7 f P 0=P:=by simp[zj7]
end Go.Vm
