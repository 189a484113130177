/- Plain law FnBlameWho, and what it uses: what the models answer. Conditions: each law's own premises. -/
import Derived.Test.YtifbmanldeabeaaGreatDoorGM0
import Derived.Test.YtifbmanldeabeaaGreatDoorGM2
import Derived.Test.YtifbmanldeabeaaGreatDoorGM4
import Derived.Test.YtifbmanldeabeaaGreatDoorGLw
import Derived.Sort.Walk0
import Derived.Lib.SplitLaws
import Derived.Test.YtifbmanldeabeaaGreatDoorGX
import Derived.Lib.Join
namespace Go.Vm
open Go Go.Sx
set_option linter.unusedSimpArgs false
set_option linter.unusedVariables false
def chB (c:UInt8):Bool:= !(decide ((c.toNat:Int)<32)||decide (126< (c.toNat:Int)))
def zde (s:Str):Bool:= !decide (12< (s.length:Int))&&s.all chB
def zau (xs:List Str):Bool:= !decide (10< (xs.length:Int))&&xs.all zde
theorem znt (a b:Int):decide (a<=b) = !decide (b<a):=by
 by_cases h:a<=b
 ·rw[aF h,aE (by omega)];rfl
 ·rw[aE h,aF (by omega)];rfl
theorem znu {s:Str}(h:s.length<=maxi):zgP s=some (zde s):=by
 unfold zgP zde
 simp only[jn,zak]
 cases decide ((12:Int)< (s.length:Int))
 case true=>rfl
 rw[aC,zaU (α:=UInt8) (xs:=s) (p:=chB) (r0:=some false) (Z:=some true) (f:=fun m i=>zcK s (fun _ _=>some true) m false i) (fun m i x hx=>by
  simp only[zcK,jn,zaj hx,zi0 hx,aD,aA,zab (zas hx) h,chB]
  cases decide ((x.toNat:Int)<32)<;>cases decide (126< (x.toNat:Int))<;>rfl) (fun m=>by simp only[zcK,zac,aC]) (by omega)]
 cases s.all chB<;>rfl
theorem znv {s:Str}(h:s.length<=maxi):zgM s=some (zde s):=by
 unfold zgM zde
 simp only[jn,zak,znt]
 rw[zaU (α:=UInt8) (xs:=s) (p:=chB) (r0:=some false) (Z:=some (!decide (12< (s.length:Int)))) (f:=fun m i=>zcD s (fun _ _=>some (!decide (12< (s.length:Int)))) m false i) (fun m i x hx=>by
  simp only[zcD,jn,zaj hx,zi0 hx,aD,aA,zab (zas hx) h,chB]
  cases decide ((x.toNat:Int)<32)<;>cases decide (126< (x.toNat:Int))<;>rfl) (fun m=>by simp only[zcD,zac,aC]) (by omega)]
 cases s.all chB<;>cases decide (12< (s.length:Int))<;>rfl
theorem zhz {xs:List Str}(h:Bk.fit xs):zcU xs=some (zau xs):=by
 have hl:=zct h
 unfold zcU zau
 simp only[jn,zak]
 cases decide ((10:Int)< (xs.length:Int))
 case true=>rfl
 rw[aC,zaU (α:=Str) (xs:=xs) (p:=zde) (r0:=some false) (Z:=some true) (f:=fun m i=>zcL xs (fun _ _=>some true) m false i) (fun m i x hx=>by
  have hx2:x.length<=maxi:=zgI h hx
  simp only[zcL,zaj hx,zad hx,aD,aA,zab (zas hx) hl,znu hx2]
  cases zde x<;>rfl) (fun m=>by simp only[zcL,zac,aC]) (by omega)]
 cases xs.all zde<;>rfl
theorem zhA {xs:List Str}(h:Bk.fit xs):zc2 xs=some (zau xs):=by
 have hl:=zct h
 unfold zc2 zau
 simp only[jn,zak,znt]
 rw[zaU (α:=Str) (xs:=xs) (p:=zde) (r0:=some false) (Z:=some (!decide (10< (xs.length:Int)))) (f:=fun m i=>zd0 xs (fun _ _=>some (!decide (10< (xs.length:Int)))) m false i) (fun m i x hx=>by
  have hx2:x.length<=maxi:=zgI h hx
  simp only[zd0,zaj hx,zad hx,aD,aA,zab (zas hx) hl,znv hx2]
  cases zde x<;>rfl) (fun m=>by simp only[zd0,zac,aC]) (by omega)]
 cases xs.all zde<;>cases decide (10< (xs.length:Int))<;>rfl
theorem zam {t:List Str}(h:zau t=true):t.length<=10:=by
 unfold zau at h
 simp only[aG,Bool.not_eq_true',decide_eq_false_iff_not]at h
 omega
theorem zaR {t:List Str}(h:zau t=true): ∀ s∈t,zde s=true:=by
 unfold zau at h
 simp only[aG,List.all_eq_true]at h
 exact h.2
theorem zjp {s:Str}(h:zde s=true):s.length<=12:=by
 unfold zde at h
 simp only[aG,Bool.not_eq_true',decide_eq_false_iff_not]at h
 omega
theorem zeU {xs ys:List Str}(h:xs.length<=maxi):zeo xs ys=some (xs==ys):=by
 unfold zeo
 simp only[zkN,jn,zak]
 by_cases hn:xs.length=ys.length
 ·rw[hn,aO,aK,aC,<- hn]
  rw[zkM (α:=Str) (r0:=some false) (Z:=some true) (f:=fun m i=>zcE xs ys (fun _ _=>some true) m false i) hn (fun m i x y hx hy=>by
   simp only[zcE,zaj hx,zad hx,zad hy,aD,aA,zab (zas hx) h,bne]
   cases x==y<;>rfl) (fun m=>by simp only[zcE,zac,aC]) (by omega)]
  cases xs==ys<;>rfl
 ·rw[beq_false_of_ne hn,Bool.not_false,aD,beq_false_of_ne (fun e=>hn (by rw[e]))]
theorem za9 {x:List Str}(h:x.length<=1048576):zbS x=some x:=by
 unfold zbS
 rw[apN h];rfl
theorem zps {a b:Int}(ha:0<=a)(ha':a<=9223372036854775807)(hb:0<=b)(hb':b<=9223372036854775807):0<=ztf a b/\ztf a b<=9223372036854775807:=by
 obtain⟨n,rfl⟩:=Int.eq_ofNat_of_zero_le ha
 obtain⟨m,rfl⟩:=Int.eq_ofNat_of_zero_le hb
 have hn:n<2 ^ 63:=by omega
 have hm:m<2 ^ 63:=by omega
 have hx:n ^^^ m<2 ^ 63:=Nat.xor_lt_two_pow hn hm
 have h1:(BitVec.ofInt 64 (n:Int) ^^^ BitVec.ofInt 64 (m:Int)).toNat=n ^^^ m:=by
  rw[BitVec.toNat_xor,BitVec.toNat_ofInt,BitVec.toNat_ofInt]
  have e1:((n:Int) % (2 ^ 64:Nat)).toNat=n:=by omega
  have e2:((m:Int) % (2 ^ 64:Nat)).toNat=m:=by omega
  rw[e1,e2]
 unfold ztf
 rw[h1]
 have:=zag (n:=((n ^^^ m:Nat):Int)) (by omega) (by omega)
 unfold w64 at this
 rw[this]
 omega
theorem zgC {a n:Int}(ha:0<=a)(hn:0<n):0<=Int.tmod a n/\Int.tmod a n<n:=⟨Int.tmod_nonneg n ha,Int.tmod_lt_of_pos a hn⟩
def zeg (r:l30Rd)(p:Int):Prop:=r.b.length<=2000/\0<=r.p/\r.p<=p
theorem ziK (u:UInt8):0<=((UInt8.toNat u:Nat):Int)/\((UInt8.toNat u:Nat):Int)<=255:=by
 have:=UInt8.toNat_lt u
 omega
theorem zlj {a n:Int}(ha:0<=a)(hn:0<n):0<=Int.tdiv a n/\Int.tdiv a n<=a:=⟨Int.tdiv_nonneg ha (by omega),Int.tdiv_le_self n ha⟩
theorem zd7 {r:l30Rd}{n p:Int}(h:zeg r p)(hp:p<=1099511627776)(hn:0<n)(hn':n<=1073741824): ∃ k,zav r n=some (k,r.p+1)/\0<=k/\k<n:=by
 obtain⟨hb,h0,h1⟩:=h
 unfold zav
 have e1:w64 (r.p+1)=r.p+1:=zag (by omega) (by omega)
 have e2:w64 (r.p+1-1)=r.p:=by rw[zag (by omega) (by omega)];omega
 simp only[jn,e1,e2]
 rw[aE (show ¬ n<1 by omega),aC]
 cases hl:(((r.b.length:Int))==(0:Int))with
 |true=>exact⟨0,rfl,by omega,hn⟩
 |false=>
  have hlen:0< (r.b.length:Int):=by
   have:(r.b.length:Int)≠0:=by simpa using hl
   omega
  rw[aC]
  by_cases hlt:r.p< (r.b.length:Int)
  ·obtain⟨u,hu⟩:=zil h0 hlt
   obtain⟨u0,u1⟩:=ziK u
   rw[aF hlt,aD,hu,aA,if_neg (by omega),aA,zag (by omega) (by omega)]
   exact⟨_,rfl,zgC u0 hn⟩
  ·rw[aE hlt,aC,if_neg (by omega),aA]
   obtain⟨a0,a1⟩:=zgC h0 hlen
   obtain⟨u,hu⟩:=zil a0 a1
   obtain⟨u0,u1⟩:=ziK u
   have e3:w64 (r.p*7)=r.p*7:=zag (by omega) (by omega)
   have e4:w64 (r.p*7+3)=r.p*7+3:=zag (by omega) (by omega)
   obtain⟨b0,b1⟩:=zgC (show 0<=r.p*7+3 by omega) hlen
   obtain⟨v,hv⟩:=zil b0 b1
   obtain⟨v0,v1⟩:=ziK v
   obtain⟨d0,d1⟩:=zlj h0 hlen
   rw[hu,aA,if_neg (by omega),aA,e3,e4,hv,aA,aA,aA]
   rw[zag (n:=(UInt8.toNat u:Int)) (by omega) (by omega),zag (n:=(UInt8.toNat u:Int)*131) (by omega) (by omega),
    zag (n:=(UInt8.toNat v:Int)) (by omega) (by omega),zag (n:=(UInt8.toNat v:Int)*1117) (by omega) (by omega),
    zag (n:=(UInt8.toNat u:Int)*131+(UInt8.toNat v:Int)*1117) (by omega) (by omega),zag (n:=r.p*29) (by omega) (by omega),
    zag (n:=(UInt8.toNat u:Int)*131+(UInt8.toNat v:Int)*1117+r.p*29) (by omega) (by omega),
    zag (n:=Int.tdiv r.p (r.b.length:Int)) (by omega) (by omega),zag (n:=Int.tdiv r.p (r.b.length:Int)*53) (by omega) (by omega),
    zag (n:=(UInt8.toNat u:Int)*131+(UInt8.toNat v:Int)*1117+r.p*29+Int.tdiv r.p (r.b.length:Int)*53) (by omega) (by omega)]
   obtain⟨q0,q1⟩:=zlj (a:=(UInt8.toNat u:Int)*131+(UInt8.toNat v:Int)*1117+r.p*29+Int.tdiv r.p (r.b.length:Int)*53) (n:=64) (by omega) (by omega)
   rw[zag (n:=Int.tdiv ((UInt8.toNat u:Int)*131+(UInt8.toNat v:Int)*1117+r.p*29+Int.tdiv r.p (r.b.length:Int)*53) 64) (by omega) (by omega)]
   exact⟨_,rfl,zgC (zps (by omega) (by omega) (by omega) (by omega)).1 hn⟩
theorem zeg.on {r:l30Rd}{p q:Int}(h:zeg r p)(k:Int)(hk:0<=k)(hq:r.p+k<=q):zeg ⟨r.b,r.p+k⟩ q:=⟨h.1,by have:=h.2.1;show 0<=r.p+k;omega,hq⟩
theorem zso {code:List Byte}(h:code.length<=1048576): ∃ b:List Byte,zeQ code=some ⟨b,0⟩/\b.length<=2000:=by
 unfold zeQ
 simp only[jn]
 by_cases hl:(2000:Int)< (code.length:Int)
 ·rw[aF hl,aD]
  have:slM code 0 2000=some (code.take 2000):=zfU (i:=2000) (by omega)
  rw[this,aA]
  exact⟨_,rfl,by simp;omega⟩
 ·rw[aE hl,aC]
  exact⟨_,rfl,by omega⟩
def zgo:List Str->List Str->Int
 | [],_=>0
 |_:: _,[]=>0
 |x::xs,y::ys=>if x==y then zgo xs ys+1 else zsf (zgo xs (y::ys)) (zgo (x::xs) ys)
termination_by a b=>a.length+b.length
theorem zlH (b:List Str):zgo [] b=0:=by rw[zgo]
theorem zjV (a:List Str):zgo a []=0:=by cases a<;>rw[zgo]
theorem zjW (x y:Str)(xs ys:List Str):zgo (x::xs) (y::ys)=if x==y then zgo xs ys+1 else zsf (zgo xs (y::ys)) (zgo (x::xs) ys):=by rw[zgo]
theorem zdn: ∀ (n:Nat) (a b:List Str),a.length+b.length<=n->0<=zgo a b/\zgo a b<=a.length
 |_,[],b,_=>by rw[zlH];simp
 |_,x::xs,[],_=>by rw[zjV];simp;omega
 |0,x::xs,y::ys,h=>by simp at h
 |n+1,x::xs,y::ys,h=>by
  simp only[aL]at h
  have h1:=zdn n xs ys (by omega)
  have h2:=zdn n xs (y::ys) (by simp;omega)
  have h3:=zdn n (x::xs) ys (by simp;omega)
  rw[zjW]
  simp only[aL]at*
  split
  ·omega
  ·unfold zsf;split<;>omega
theorem zqp (a b:List Str):0<=zgo a b:=(zdn _ a b (Nat.le_refl _)).1
theorem zqq (a b:List Str):zgo a b<=a.length:=(zdn _ a b (Nat.le_refl _)).2
def zgW (n:Nat)(g:Nat->Int):List Int:=(List.range n).map g
def zfq (n m:Nat)(f:Nat->Nat->Int):List (List Int):=(List.range n).map fun i=>zgW m (f i)
theorem zmi {n:Nat}{g g':Nat->Int}(h: ∀ k,k<n->g k=g' k):zgW n g=zgW n g':=by
 unfold zgW
 exact List.map_congr_left fun k hk=>h k (List.mem_range.1 hk)
theorem zeB {n m:Nat}{f f':Nat->Nat->Int}(h: ∀ i k,i<n->k<m->f i k=f' i k):zfq n m f=zfq n m f':=by
 unfold zfq
 exact List.map_congr_left fun i hi=>zmi fun k hk=>h i k (List.mem_range.1 hi) hk
theorem zhB {n k:Nat}{g:Nat->Int}(h:k<n):gi (zgW n g) (k:Int)=some (g k):=zad (by simp[zgW,h])
theorem zhC {n m i:Nat}{f:Nat->Nat->Int}(h:i<n):gi (zfq n m f) (i:Int)=some (zgW m (f i)):=zad (by simp[zfq,h])
theorem zlI {n k:Nat}{g:Nat->Int}{v:Int}(h:k<n):siM (zgW n g) (k:Int) v=some (zgW n fun k'=>if k'=k then v else g k'):=by
 rw[zbs (by simp[zgW,h])]
 congr 1
 apply List.ext_getElem?
 intro j
 unfold zgW
 by_cases hj:j=k
 ·subst hj
  rw[List.getElem?_set_self (by simp[h])]
  simp[h]
 ·rw[List.getElem?_set_ne (Ne.symm hj)]
  by_cases hl:j<n
  ·simp[hl,hj]
  ·rw[List.getElem?_eq_none (by simp;omega),List.getElem?_eq_none (by simp;omega)]
theorem zlJ {n m i:Nat}{f:Nat->Nat->Int}{g:Nat->Int}(h:i<n):siM (zfq n m f) (i:Int) (zgW m g)=some (zfq n m fun i'=>if i'=i then g else f i'):=by
 rw[zbs (by simp[zfq,h])]
 congr 1
 apply List.ext_getElem?
 intro j
 unfold zfq
 by_cases hj:j=i
 ·subst hj
  rw[List.getElem?_set_self (by simp[h])]
  simp[h]
 ·rw[List.getElem?_set_ne (Ne.symm hj)]
  by_cases hl:j<n
  ·simp[hl,hj]
  ·rw[List.getElem?_eq_none (by simp;omega),List.getElem?_eq_none (by simp;omega)]
section
variable (a b:List Str)
def za7 (i k:Nat):Int:=zgo (a.drop i) (b.drop k)
def zbb (i k i' k':Nat):Int:=if i<i'\/(i=i'/\k<=k') then za7 a b i' k' else 0
def zrq:List (List Int):=zfq (a.length+1) (b.length+1) (za7 a b)
end
section
variable {a b:List Str}
theorem znw (i:Nat):za7 a b i b.length=0:=by unfold za7;rw[List.drop_length,zjV]
theorem zmj (k:Nat):za7 a b a.length k=0:=by unfold za7;rw[List.drop_length,zlH]
theorem zlK (i k:Nat):0<=za7 a b i k:=zqp _ _
theorem zlL (i k:Nat):za7 a b i k<=a.length:=by
 have:=zqq (a.drop i) (b.drop k)
 unfold za7
 simp only[List.length_drop]at this
 omega
theorem ziL {i k:Nat}{x y:Str}(hx:a[i]? =some x)(hy:b[k]? =some y):za7 a b i k=if x==y then za7 a b (i+1) (k+1)+1 else zsf (za7 a b (i+1) k) (za7 a b i (k+1)):=by
 have hi:=zas hx
 have hk:=zas hy
 have ex:a[i]=x:=by rw[aB hi]at hx;exact Option.some.inj hx
 have ey:b[k]=y:=by rw[aB hk]at hy;exact Option.some.inj hy
 unfold za7
 rw[aI hi,aI hk,zjW,ex,ey]
theorem zej {i k:Nat}{v:Int}(hv:v=za7 a b i k)(n m:Nat):zfq n m (fun i'=>if i'=i then(fun k'=>if k'=k then v else zbb a b i (k+1) i k') else zbb a b i (k+1) i')=zfq n m (zbb a b i k):=by
 refine zeB fun i' k' _ _=>?_
 by_cases h1:i'=i
 ·subst h1
  rw[if_pos rfl]
  by_cases h2:k'=k
  ·subst h2
   rw[if_pos rfl,hv]
   simp[zbb]
  ·rw[if_neg h2]
   simp only[zbb,Nat.lt_irrefl,false_or,true_and]
   by_cases h3:k+1<=k'
   ·rw[if_pos h3,if_pos (by omega)]
   ·rw[if_neg h3,if_neg (by omega)]
 ·rw[if_neg h1]
  simp only[zbb]
  by_cases h3:i<i'
  ·rw[if_pos (.inl h3),if_pos (.inl h3)]
  ·rw[if_neg (by omega),if_neg (by omega)]
theorem ziM (i:Nat):zfq (a.length+1) (b.length+1) (zbb a b (i+1) 0)=zfq (a.length+1) (b.length+1) (zbb a b i b.length):=by
 refine zeB fun i' k' _ hk=>?_
 simp only[zbb,Nat.zero_le,and_true]
 by_cases h:i<i'
 ·rw[if_pos (by omega),if_pos (.inl h)]
 ·rw[if_neg (by omega)]
  by_cases h2:i=i'/\b.length<=k'
  ·rw[if_pos (.inr h2),show k'=b.length by omega,znw]
  ·rw[if_neg (by omega)]
theorem zhD:zfq (a.length+1) (b.length+1) (fun _ _=>0)=zfq (a.length+1) (b.length+1) (zbb a b a.length 0):=by
 refine zeB fun i' k' hi _=>?_
 simp only[zbb,Nat.zero_le,and_true]
 by_cases h:a.length<i'\/a.length=i'
 ·rw[if_pos h,show i'=a.length by omega,zmj]
 ·rw[if_neg h]
theorem zjX:zfq (a.length+1) (b.length+1) (zbb a b 0 0)=zrq a b:=by
 refine zeB fun i' k' _ _=>?_
 simp only[zbb,Nat.zero_le,and_true]
 rw[if_pos (by omega)]
theorem znx (hb:b.length<=maxi)(hN:(a.length:Int)+1<=9223372036854775807){i:Nat}(hi:i<a.length){R:Int->List (List Int)->Option (List (List Int))}: ∀ (k m:Nat),k<=b.length->k<m->
 zeN a b (i:Int) R m ((k:Int)-1) (zfq (a.length+1) (b.length+1) (zbb a b i k))=R (-1) (zfq (a.length+1) (b.length+1) (zbb a b i 0))
 |0,0,_,h=>by omega
 |0,m+1,_,_=>by
  simp only[zeN]
  rw[aE (by omega)];rfl
 |k+1,0,_,h=>by omega
 |k+1,m+1,hk,hm=>by
  unfold maxi at hb
  have hx:a[i]? =some a[i]:=aB hi
  have hy:b[k]? =some b[k]:=aB (by omega)
  have hst:=ziL hx hy
  have e1:(((k+1:Nat):Int)-1)=(k:Int):=by omega
  have e2:w64 ((i:Int)+1)=((i+1:Nat):Int):=by rw[zag (by omega) (by omega)];omega
  have e3:w64 ((k:Int)+1)=((k+1:Nat):Int):=by rw[zag (by omega) (by omega)];omega
  have e4:w64 ((k:Int)-1)=(k:Int)-1:=zag (by omega) (by omega)
  have s1:zbb a b i (k+1) (i+1) (k+1)=za7 a b (i+1) (k+1):=by simp[zbb]
  have s2:zbb a b i (k+1) (i+1) k=za7 a b (i+1) k:=by simp[zbb]
  have s3:zbb a b i (k+1) i (k+1)=za7 a b i (k+1):=by simp[zbb]
  have lo:=zlK (a:=a) (b:=b) (i+1) (k+1)
  have hi':=zlL (a:=a) (b:=b) (i+1) (k+1)
  have ih:=znx (by unfold maxi;exact hb) hN hi (R:=R) k m (by omega) (by omega)
  simp only[zeN,jn,e1,e2,e3,e4,zad hx,zad hy,aA,aF (show(0:Int)<=(k:Int) by omega),aD,
   zhC (show i<a.length+1 by omega),zhC (show i+1<a.length+1 by omega),zhB (show k<b.length+1 by omega),zhB (show k+1<b.length+1 by omega),s1,s2,s3,
   zlI (show k<b.length+1 by omega),zlJ (show i<a.length+1 by omega)]
  cases he:a[i]==b[k]with
  |true=>
   rw[he,if_pos rfl]at hst
   rw[aD,zag (by omega) (by omega),zej hst.symm]
   exact ih
  |false=>
   rw[he,if_neg (by simp)]at hst
   rw[aC,zej hst.symm]
   exact ih
theorem zny (hb:b.length<=maxi)(hN:(a.length:Int)+1<=9223372036854775807)(hNb:(b.length:Int)+1<=9223372036854775807){R:Int->List (List Int)->Option (List (List Int))}: ∀ (i m:Nat),i<=a.length->i<m->
 zdq a b R m ((i:Int)-1) (zfq (a.length+1) (b.length+1) (zbb a b i 0))=R (-1) (zfq (a.length+1) (b.length+1) (zbb a b 0 0))
 |0,0,_,h=>by omega
 |0,m+1,_,_=>by
  simp only[zdq]
  rw[aE (by omega)];rfl
 |i+1,0,_,h=>by omega
 |i+1,m+1,hi,hm=>by
  have e1:(((i+1:Nat):Int)-1)=(i:Int):=by omega
  have e2:w64 ((b.length:Int)-1)=(b.length:Int)-1:=zag (by omega) (by omega)
  have e3:w64 ((i:Int)-1)=(i:Int)-1:=zag (by omega) (by omega)
  simp only[zdq,jn,e1,e2,aF (show(0:Int)<=(i:Int) by omega),aD]
  rw[ziM,znx hb hN (by omega) b.length _ (Nat.le_refl _) (by omega),e3]
  exact zny hb hN hNb i m (by omega) (by omega)
theorem znz (hb:b.length<=1048576){N:Nat}(hN:N<=1048576){q:List (List Int)}(hq:q.length=N){R:Int->List (List Int)->Option (List (List Int))}: ∀ (n i m:Nat),i+n=N->n<m->
 zeO b q R m (i:Int) ((List.range i).map (fun _=>zgW (b.length+1) fun _=>0)++List.replicate n [])=R (N:Int) (zfq N (b.length+1) fun _ _=>0)
 |n,i,0,_,h=>by omega
 |0,i,m+1,hi,_=>by
  simp only[zeO]
  rw[hq,aE (by omega),show i=N by omega]
  simp[zfq]
 |n+1,i,m+1,hi,hm=>by
  have e1:w64 ((b.length:Int)+1)=((b.length+1:Nat):Int):=by rw[zag (by omega) (by omega)];omega
  have e2:w64 ((i:Int)+1)=((i+1:Nat):Int):=by rw[zag (by omega) (by omega)];omega
  have hl:((List.range i).map (fun _=>zgW (b.length+1) fun _=>0)++List.replicate (n+1) []).length=i+(n+1):=by simp
  obtain⟨u,hu⟩: ∃ u,((List.range i).map (fun _=>zgW (b.length+1) fun _=>0)++List.replicate (n+1) ([]:List Int))[i]? =some u:=⟨_,aB (by omega)⟩
  simp only[zeO,hq,e1,e2,aF (show(i:Int)< (N:Int) by omega),aD,zhP (show b.length+1<=lim by unfold lim;omega),aA,zad hu]
  rw[zbs (by rw[hl];omega),aA]
  have hset:((List.range i).map (fun _=>zgW (b.length+1) fun _=>0)++List.replicate (n+1) []).set i (List.replicate (b.length+1) (0:Int))=(List.range (i+1)).map (fun _=>zgW (b.length+1) fun _=>0)++List.replicate n []:=by
   rw[List.set_append,if_neg (by simp)]
   have hr:zgW (b.length+1) (fun _=>0)=List.replicate (b.length+1) (0:Int):=by
    unfold zgW
    rw[List.map_const',List.length_range]
   simp[List.range_succ,List.replicate_succ,hr]
  rw[hset]
  exact znz hb hN hq n (i+1) m (by omega) (by omega)
theorem zqr (ha:a.length<=1000)(hb:b.length<=1000):zk8 a b=some (zrq a b):=by
 unfold zk8
 have e1:w64 ((a.length:Int)+1)=((a.length+1:Nat):Int):=by rw[zag (by omega) (by omega)];omega
 have e2:w64 ((a.length:Int)-1)=(a.length:Int)-1:=zag (by omega) (by omega)
 rw[e1,zhP (by unfold lim;omega),aA]
 simp only[jn,e2]
 have h1:=znz (b:=b) (by omega) (N:=a.length+1) (by omega) (q:=List.replicate (a.length+1) []) (by simp)
  (R:=fun y6 y7=>zdq a b (fun y27 y29=>some y29) (((a.length:Int)-1+1-0).toNat+1) ((a.length:Int)-1) y7) (a.length+1) 0 (((List.replicate (a.length+1) ([]:List Int)).length-(0:Int)).toNat+1) (by omega) (by simp)
 simp only[List.range_zero,List.map_nil,List.nil_append]at h1
 refine h1.trans ?_
 rw[zhD,zny (by unfold maxi;omega) (by omega) (by omega) a.length _ (Nat.le_refl _) (by omega),zjX]
theorem znA (hb:b.length<=maxi)(hN:(a.length:Int)+1<=9223372036854775807){i:Nat}(hi:i<a.length){R:Int->List (List Int)->Option (List (List Int))}: ∀ (k m:Nat),k<=b.length->k<m->
 zb3 a b (i:Int) R m ((k:Int)-1) (zfq (a.length+1) (b.length+1) (zbb a b i k))=R (-1) (zfq (a.length+1) (b.length+1) (zbb a b i 0))
 |0,0,_,h=>by omega
 |0,m+1,_,_=>by
  simp only[zb3]
  rw[aE (by omega)];rfl
 |k+1,0,_,h=>by omega
 |k+1,m+1,hk,hm=>by
  unfold maxi at hb
  have hx:a[i]? =some a[i]:=aB hi
  have hy:b[k]? =some b[k]:=aB (by omega)
  have hst:=ziL hx hy
  have e1:(((k+1:Nat):Int)-1)=(k:Int):=by omega
  have e2:w64 ((i:Int)+1)=((i+1:Nat):Int):=by rw[zag (by omega) (by omega)];omega
  have e3:w64 ((k:Int)+1)=((k+1:Nat):Int):=by rw[zag (by omega) (by omega)];omega
  have e4:w64 ((k:Int)-1)=(k:Int)-1:=zag (by omega) (by omega)
  have s1:zbb a b i (k+1) (i+1) (k+1)=za7 a b (i+1) (k+1):=by simp[zbb]
  have s2:zbb a b i (k+1) (i+1) k=za7 a b (i+1) k:=by simp[zbb]
  have s3:zbb a b i (k+1) i (k+1)=za7 a b i (k+1):=by simp[zbb]
  have lo:=zlK (a:=a) (b:=b) (i+1) (k+1)
  have hi':=zlL (a:=a) (b:=b) (i+1) (k+1)
  have ih:=znA (by unfold maxi;exact hb) hN hi (R:=R) k m (by omega) (by omega)
  simp only[zb3,jn,e1,e2,e3,e4,zad hx,zad hy,aA,aF (show(0:Int)<=(k:Int) by omega),aD,
   zhC (show i<a.length+1 by omega),zhC (show i+1<a.length+1 by omega),zhB (show k<b.length+1 by omega),zhB (show k+1<b.length+1 by omega),s1,s2,s3,
   zlI (show k<b.length+1 by omega),zlJ (show i<a.length+1 by omega)]
  cases he:a[i]==b[k]with
  |true=>
   rw[he,if_pos rfl]at hst
   rw[aD,zag (by omega) (by omega),zej hst.symm]
   exact ih
  |false=>
   rw[he,if_neg (by simp)]at hst
   rw[aC]
   unfold zsf at hst
   by_cases hc:za7 a b i (k+1)<=za7 a b (i+1) k
   ·rw[if_neg (by omega)]at hst
    rw[aF hc,aD,zej hst.symm]
    exact ih
   ·rw[if_pos (by omega)]at hst
    rw[aE hc,aC,zej hst.symm]
    exact ih
theorem znB (hb:b.length<=maxi)(hN:(a.length:Int)+1<=9223372036854775807)(hNb:(b.length:Int)+1<=9223372036854775807){R:Int->List (List Int)->Option (List (List Int))}: ∀ (i m:Nat),i<=a.length->i<m->
 zbo a b R m ((i:Int)-1) (zfq (a.length+1) (b.length+1) (zbb a b i 0))=R (-1) (zfq (a.length+1) (b.length+1) (zbb a b 0 0))
 |0,0,_,h=>by omega
 |0,m+1,_,_=>by
  simp only[zbo]
  rw[aE (by omega)];rfl
 |i+1,0,_,h=>by omega
 |i+1,m+1,hi,hm=>by
  have e1:(((i+1:Nat):Int)-1)=(i:Int):=by omega
  have e2:w64 ((b.length:Int)-1)=(b.length:Int)-1:=zag (by omega) (by omega)
  have e3:w64 ((i:Int)-1)=(i:Int)-1:=zag (by omega) (by omega)
  simp only[zbo,jn,e1,e2,aF (show(0:Int)<=(i:Int) by omega),aD]
  rw[ziM,znA hb hN (by omega) b.length _ (Nat.le_refl _) (by omega),e3]
  exact znB hb hN hNb i m (by omega) (by omega)
theorem znC (ha:a.length<=1000)(hb:b.length<=1000){R:List (List Int)->Int->Option (List (List Int))}: ∀ (n i m:Nat),i+n=a.length+1->n<m->
 zb4 a b R m ((List.range i).map (fun _=>zgW (b.length+1) fun _=>0)) (i:Int)=R (zfq (a.length+1) (b.length+1) fun _ _=>0) ((a.length+1:Nat):Int)
 |n,i,0,_,h=>by omega
 |0,i,m+1,hi,_=>by
  simp only[zb4]
  rw[aE (by omega),show i=a.length+1 by omega]
  simp[zfq]
 |n+1,i,m+1,hi,hm=>by
  have e1:w64 ((b.length:Int)+1)=((b.length+1:Nat):Int):=by rw[zag (by omega) (by omega)];omega
  have e2:w64 ((i:Int)+1)=((i+1:Nat):Int):=by rw[zag (by omega) (by omega)];omega
  have hr:zgW (b.length+1) (fun _=>0)=List.replicate (b.length+1) (0:Int):=by
   unfold zgW
   rw[List.map_const',List.length_range]
  simp only[zb4,e1,e2,aF (show(i:Int)<=(a.length:Int) by omega),aD,zhP (show b.length+1<=lim by unfold lim;omega),aA]
  rw[zgw (by simp[lim];omega),aA]
  have hset:(List.range i).map (fun _=>zgW (b.length+1) fun _=>0)++[List.replicate (b.length+1) (0:Int)]=(List.range (i+1)).map (fun _=>zgW (b.length+1) fun _=>0):=by
   simp[List.range_succ,hr]
  rw[hset]
  exact znC ha hb n (i+1) m (by omega) (by omega)
theorem zqs (ha:a.length<=1000)(hb:b.length<=1000):zfM a b=some (zrq a b):=by
 unfold zfM
 have e2:w64 ((a.length:Int)-1)=(a.length:Int)-1:=zag (by omega) (by omega)
 simp only[jn,e2]
 have h1:=znC (a:=a) (b:=b) ha hb
  (R:=fun y3 y6=>zbo a b (fun y28 y30=>some y30) (((a.length:Int)-1+1-0).toNat+1) ((a.length:Int)-1) y3) (a.length+1) 0 (((a.length:Int)+1-0).toNat+1) (by omega) (by omega)
 simp only[List.range_zero,List.map_nil]at h1
 refine h1.trans ?_
 rw[zhD,znB (by unfold maxi;omega) (by omega) (by omega) a.length _ (Nat.le_refl _) (by omega),zjX]
end
def mtF:List Str->List Str->Nat->List Int
 | [],_,_=>[]
 |_::xs,[],k=> -1::mtF xs [] k
 |x::xs,y::ys,k=>if x==y then(k:Int)::mtF xs ys (k+1) else if zgo (x::xs) ys<=zgo xs (y::ys) then -1::mtF xs (y::ys) k else mtF (x::xs) ys (k+1)
termination_by a b _=>a.length+b.length
theorem zhE (b:List Str)(k:Nat):mtF [] b k=[]:=by rw[mtF]
theorem zgD (x:Str)(xs:List Str)(k:Nat):mtF (x::xs) [] k = -1::mtF xs [] k:=by rw[mtF]
theorem zge (x y:Str)(xs ys:List Str)(k:Nat):mtF (x::xs) (y::ys) k=if x==y then(k:Int)::mtF xs ys (k+1) else if zgo (x::xs) ys<=zgo xs (y::ys) then -1::mtF xs (y::ys) k else mtF (x::xs) ys (k+1):=by rw[mtF]
def mt2 (a b:List Str):List Int:=mtF a b 0
theorem zob {xs:List Int}{x:Int}(h:xs.length<=1000000):apM xs [x]=some (xs++[x]):=zgw (by simp[lim];omega)
section
variable {a b:List Str}
theorem zja {i k:Nat}(hi:i<=a.length)(hk:k<=b.length): ∃ r,gi (zrq a b) (i:Int)=some r/\gi r (k:Int)=some (za7 a b i k):=
 ⟨_,zhC (by omega),zhB (by omega)⟩
theorem zbV {i:Nat}(h:i<a.length):a.drop i=a[i]::a.drop (i+1):=aI h
theorem zjY (ha:a.length<=1000)(hb:b.length<=1000): ∀ (m i k:Nat) (out:List Int),(a.length-i)+(b.length-k)<m->i<=a.length->k<=b.length->out.length=i->
 zed a b (zrq a b) (fun y5 _ _=>some y5) m out (i:Int) (k:Int)=some (out++mtF (a.drop i) (b.drop k) k)
 |0,i,k,out,hm,_,_,_=>by omega
 |m+1,i,k,out,hm,hi,hk,ho=>by
  have e2:w64 ((i:Int)+1)=((i+1:Nat):Int):=by rw[zag (by omega) (by omega)];omega
  have e3:w64 ((k:Int)+1)=((k+1:Nat):Int):=by rw[zag (by omega) (by omega)];omega
  simp only[zed,jn,e2,e3]
  by_cases hil:i<a.length
  case neg=>
   rw[aE (by omega),aC,show i=a.length by omega,List.drop_length,zhE,List.append_nil]
  have hx:a[i]? =some a[i]:=aB hil
  rw[aF (by omega),aD,zbV hil]
  by_cases hkl:k<b.length
  case neg=>
   have hke:k=b.length:=by omega
   rw[aE (by omega),aC,aC,show((k:Int)==(b.length:Int))=true by simp[hke],aD,aD,zob (by omega),aA,
    zjY ha hb m (i+1) k _ (by omega) (by omega) hk (by simp[ho])]
   rw[hke,List.drop_length,zgD]
   simp
  have hy:b[k]? =some b[k]:=aB hkl
  rw[aF (by omega),aD,zad hx,aA,zad hy,aA,zbV hkl,zge]
  cases he:a[i]==b[k]with
  |true=>
   rw[aD,zob (by omega),aA,zjY ha hb m (i+1) (k+1) _ (by omega) (by omega) (by omega) (by simp[ho])]
   simp
  |false=>
   rw[aC,show((k:Int)==(b.length:Int))=false by simp;omega,aC]
   obtain⟨r1,h1,h2⟩:=zja (a:=a) (b:=b) (i:=i+1) (k:=k) (by omega) (by omega)
   obtain⟨r3,h3,h4⟩:=zja (a:=a) (b:=b) (i:=i) (k:=k+1) (by omega) (by omega)
   rw[h1,aA,h2,aA,h3,aA,h4,aA]
   have c1:za7 a b i (k+1)=zgo (a[i]::a.drop (i+1)) (b.drop (k+1)):=by unfold za7;rw[zbV hil]
   have c2:za7 a b (i+1) k=zgo (a.drop (i+1)) (b[k]::b.drop (k+1)):=by unfold za7;rw[zbV hkl]
   rw[<- c1,<- c2]
   by_cases hc:za7 a b i (k+1)<=za7 a b (i+1) k
   ·rw[aF hc,aD,zob (by omega),aA,zjY ha hb m (i+1) k _ (by omega) (by omega) hk (by simp[ho]),if_neg (by simp),if_pos hc,zbV hkl]
    simp
   ·rw[aE hc,aC,zjY ha hb m i (k+1) _ (by omega) hi (by omega) ho,if_neg (by simp),if_neg hc,zbV hil]
theorem zjq (ha:a.length<=1000)(hb:b.length<=1000):zeG a b=some (mt2 a b):=by
 unfold zeG
 rw[zqr ha hb,aA]
 simp only[jn]
 have:=zjY ha hb (a.length+b.length+1) 0 0 [] (by omega) (by omega) (by omega) rfl
 simpa[mt2]using this
theorem zjZ (ha:a.length<=1000)(hb:b.length<=1000): ∀ (m i k:Nat) (out:List Int),(a.length-i)+(b.length-k)<m->i<=a.length->k<=b.length->out.length=i->
 zc4 a b (zrq a b) (fun y5 _ _=>some y5) m out (k:Int) (i:Int)=some (out++mtF (a.drop i) (b.drop k) k)
 |0,i,k,out,hm,_,_,_=>by omega
 |m+1,i,k,out,hm,hi,hk,ho=>by
  have e2:w64 ((i:Int)+1)=((i+1:Nat):Int):=by rw[zag (by omega) (by omega)];omega
  have e3:w64 ((k:Int)+1)=((k+1:Nat):Int):=by rw[zag (by omega) (by omega)];omega
  simp only[zc4,jn,e2,e3]
  by_cases hil:i<a.length
  case neg=>
   rw[aE (by omega),aC,show i=a.length by omega,List.drop_length,zhE,List.append_nil]
  have hx:a[i]? =some a[i]:=aB hil
  rw[aF (by omega),aD,zbV hil]
  by_cases hkl:k<b.length
  case neg=>
   have hke:k=b.length:=by omega
   rw[aE (by omega),aC,aC,aF (by omega),aD,aD,zob (by omega),aA,
    zjZ ha hb m (i+1) k _ (by omega) (by omega) hk (by simp[ho])]
   rw[hke,List.drop_length,zgD]
   simp
  have hy:b[k]? =some b[k]:=aB hkl
  rw[aF (by omega),aD,zad hx,aA,zad hy,aA,zbV hkl,zge]
  cases he:a[i]==b[k]with
  |true=>
   rw[aD,zob (by omega),aA,zjZ ha hb m (i+1) (k+1) _ (by omega) (by omega) (by omega) (by simp[ho])]
   simp
  |false=>
   rw[aC,aE (by omega),aC]
   obtain⟨r1,h1,h2⟩:=zja (a:=a) (b:=b) (i:=i+1) (k:=k) (by omega) (by omega)
   obtain⟨r3,h3,h4⟩:=zja (a:=a) (b:=b) (i:=i) (k:=k+1) (by omega) (by omega)
   rw[h1,aA,h2,aA,h3,aA,h4,aA]
   have c1:za7 a b i (k+1)=zgo (a[i]::a.drop (i+1)) (b.drop (k+1)):=by unfold za7;rw[zbV hil]
   have c2:za7 a b (i+1) k=zgo (a.drop (i+1)) (b[k]::b.drop (k+1)):=by unfold za7;rw[zbV hkl]
   rw[<- c1,<- c2]
   by_cases hc:za7 a b i (k+1)<=za7 a b (i+1) k
   ·rw[aF hc,aD,zob (by omega),aA,zjZ ha hb m (i+1) k _ (by omega) (by omega) hk (by simp[ho]),if_neg (by simp),if_pos hc,zbV hkl]
    simp
   ·rw[aE hc,aC,zjZ ha hb m i (k+1) _ (by omega) hi (by omega) ho,if_neg (by simp),if_neg hc,zbV hil]
theorem zgX (ha:a.length<=1000)(hb:b.length<=1000):zc5 a b=some (mt2 a b):=by
 unfold zc5
 rw[zqs ha hb,aA]
 simp only[jn]
 have:=zjZ ha hb (a.length+b.length+1) 0 0 [] (by omega) (by omega) (by omega) rfl
 simpa[mt2]using this
end
def Asc (hi:Int):Int->List Int->Prop
 |_,[]=>True
 |lo,x::l=>(x = -1/\Asc hi lo l)\/(lo<=x/\x<hi/\Asc hi (x+1) l)
theorem Asc.mono {hi:Int}: ∀ {l:List Int} {lo lo':Int},lo'<=lo->Asc hi lo l->Asc hi lo' l
 | [],_,_,_,_=>trivial
 |x::l,lo,lo',h, .inl ⟨h1,h2⟩=> .inl ⟨h1,Asc.mono h h2⟩
 |x::l,lo,lo',h, .inr ⟨h1,h2,h3⟩=> .inr ⟨by omega,h2,h3⟩
theorem zgp: ∀ (n:Nat) (a b:List Str) (k:Nat),a.length+b.length<=n->Asc ((k+b.length:Nat):Int) (k:Int) (mtF a b k)/\(mtF a b k).length=a.length
 |_,[],b,k,_=>by rw[zhE];exact⟨trivial,rfl⟩
 |0,x::xs,b,k,h=>by simp at h
 |n+1,x::xs,[],k,h=>by
  rw[zgD]
  have:=zgp n xs [] k (by simp at h ⊢;omega)
  exact⟨.inl ⟨rfl,this.1⟩,by simp[this.2]⟩
 |n+1,x::xs,y::ys,k,h=>by
  simp only[aL]at h
  rw[zge]
  split
  ·have:=zgp n xs ys (k+1) (by omega)
   refine⟨.inr ⟨Int.le_refl _,by simp only[aL];omega,?_⟩,by simp[this.2]⟩
   have h1:=this.1
   rw[show((k+(y::ys).length:Nat):Int)=((k+1+ys.length:Nat):Int) by simp only[aL];omega,show(k:Int)+1=((k+1:Nat):Int) by omega]
   exact h1
  ·split
   ·have:=zgp n xs (y::ys) k (by simp;omega)
    exact⟨.inl ⟨rfl,this.1⟩,by simp[this.2]⟩
   ·have:=zgp n (x::xs) ys (k+1) (by simp;omega)
    refine⟨?_,by simp[this.2]⟩
    have h1:=this.1
    rw[show((k+(y::ys).length:Nat):Int)=((k+1+ys.length:Nat):Int) by simp only[aL];omega]
    exact h1.mono (by omega)
theorem zd8 (a b:List Str):Asc (b.length:Int) 0 (mt2 a b)/\(mt2 a b).length=a.length:=by
 have:=zgp _ a b 0 (Nat.le_refl _)
 simpa[mt2]using this
theorem Asc.snoc {hi:Int}(h0:0<=hi): ∀ {l:List Int} {lo:Int},lo<=hi->Asc hi lo l->Asc (hi+1) lo (l++[hi])
 | [],lo,h,_=> .inr ⟨h,by omega,trivial⟩
 |x::l,lo,h, .inl ⟨h1,h2⟩=> .inl ⟨h1,Asc.snoc h0 h h2⟩
 |x::l,lo,h, .inr ⟨h1,h2,h3⟩=> .inr ⟨h1,by omega,Asc.snoc h0 (by omega) h3⟩
end Go.Vm
namespace Go.Sx
open Go
theorem zku {R α σ:Type} {xs:List α} {step:σ->α->Option σ} {r0:Option R} (Inv:Nat->σ->Prop) {f:Nat->σ->Int->Option R} {Z:σ->Option R} {s0:σ}
 (hs: ∀ m (i:Nat) x s,xs[i]? =some x->Inv i s->(f (m+1) s (i:Int)=match step s x with |some s'=>f m s' ((i+1:Nat):Int) |none=>r0) /\ ∀ s',step s x=some s'->Inv (i+1) s')
 (he: ∀ m s,Inv xs.length s->f (m+1) s (xs.length:Int)=Z s) {m:Nat} (hm:xs.length<m) (h0:Inv 0 s0):
 f m s0 0=(match xs.foldlM step s0 with |some s=>Z s |none=>r0) /\ ∀ s,xs.foldlM step s0=some s->Inv xs.length s:=by
 have key: ∀ k i m s,i+k=xs.length->k<m->Inv i s->f m s (i:Int)=(match (xs.drop i).foldlM step s with |some s=>Z s |none=>r0) /\ ∀ s',(xs.drop i).foldlM step s=some s'->Inv xs.length s':=by
  intro k
  induction k with
  |zero=>
   intro i m s hi hm hI
   obtain⟨m,rfl⟩: ∃ q,m=q+1:=⟨m-1,by omega⟩
   have hii:i=xs.length:=by omega
   subst hii
   rw[he m s hI,List.drop_length]
   exact⟨rfl,fun s' h=>by
    have:s=s':=by simpa using h
    rw[<- this];exact hI⟩
  |succ k ih=>
   intro i m s hi hm hI
   obtain⟨m,rfl⟩: ∃ q,m=q+1:=⟨m-1,by omega⟩
   have hlt:i<xs.length:=by omega
   obtain⟨h1,h2⟩:=hs m i xs[i] s (aB hlt) hI
   rw[h1,aI hlt,List.foldlM_cons]
   cases hst:step s xs[i]with
   |none=>exact⟨rfl,fun s' h=>by simp at h⟩
   |some s1=>
    obtain⟨h3,h4⟩:=ih (i+1) m s1 (by omega) (by omega) (h2 s1 hst)
    exact⟨h3,h4⟩
 have:=key xs.length 0 m s0 (by omega) hm h0
 simpa using this
theorem zdy {R α:Type} {xs:List α} {p:α->Bool} {r:α->Option R} {Z:Option R} {f:Nat->Int->Option R}
 (hs: ∀ m (i:Nat) x,xs[i]? =some x->f (m+1) (i:Int)=bif p x then r x else f m ((i+1:Nat):Int)) (he: ∀ m,f (m+1) (xs.length:Int)=Z) {m:Nat} (hm:xs.length<m):
 f m 0=match xs.find? p with |some x=>r x |none=>Z:=by
 have key: ∀ k i m,i+k=xs.length->k<m->f m (i:Int)=match (xs.drop i).find? p with |some x=>r x |none=>Z:=by
  intro k
  induction k with
  |zero=>
   intro i m hi hm
   obtain⟨m,rfl⟩: ∃ q,m=q+1:=⟨m-1,by omega⟩
   rw[show i=xs.length by omega,he,List.drop_length]
   rfl
  |succ k ih=>
   intro i m hi hm
   obtain⟨m,rfl⟩: ∃ q,m=q+1:=⟨m-1,by omega⟩
   have hlt:i<xs.length:=by omega
   rw[hs m i xs[i] (aB hlt),aI hlt,List.find?_cons]
   cases p xs[i]with
   |true=>rfl
   |false=>exact ih (i+1) m (by omega) (by omega)
 have:=key xs.length 0 m (by omega) hm
 simpa using this
end Go.Sx
namespace Go.Vm
open Go Go.Sx
set_option linter.unusedSimpArgs false
set_option linter.unusedVariables false
def lnP (l:List Str):Part:=⟨false,l,[],[],[]⟩
def zc7 (o a b:List Str):Part:=bif a==o||a==b then lnP b else bif b==o then lnP a else⟨true,[],o,a,b⟩
def zkt (out:List Part)(p:Part):List Part:=
 bif !p.Clash&&p.Lines.length==0 then out else
 match out[out.length-1]? with
 |some q=>bif !p.Clash && !q.Clash then out.set (out.length-1) ⟨q.Clash,q.Lines++p.Lines,q.Old,q.One,q.Two⟩ else out++[p]
 |none=>out++[p]
def PB (n:Nat)(out:List Part):Prop:=out.length<=n /\ ∀ q∈out,q.Lines.length<=1000*n
theorem PB.mono {n m:Nat}{out:List Part}(h:PB n out)(hm:n<=m):PB m out:=⟨Nat.le_trans h.1 hm,fun q hq=>Nat.le_trans (h.2 q hq) (Nat.mul_le_mul_left _ hm)⟩
theorem zj0 {n:Nat}{out:List Part}{p:Part}(h:PB n out)(hp:p.Lines.length<=1000):PB (n+1) (zkt out p):=by
 have happ:PB (n+1) (out++[p]):=⟨by simp;exact h.1,fun q hq=>by
  rcases List.mem_append.1 hq with h1 |h1
  ·have:=h.2 q h1;omega
  ·rw[List.mem_singleton]at h1;rw[h1];omega⟩
 unfold zkt
 cases(!p.Clash&&p.Lines.length==0)with
 |true=>exact h.mono (by omega)
 |false=>
  rw[aC]
  split
  ·rename_i q hq
   cases(!p.Clash && !q.Clash)with
   |false=>exact happ
   |true=>
    rw[aD]
    refine⟨by rw[List.length_set];have:=h.1;omega,fun r hr=>?_⟩
    rcases List.mem_or_eq_of_mem_set hr with h1 |h1
    ·have:=h.2 r h1;omega
    ·rw[h1]
     have:=h.2 q (aH hq)
     simp only[List.length_append]
     omega
  ·exact happ
theorem zgq {o a b:List Str}(ha:a.length<=1000)(hb:b.length<=1000):(zc7 o a b).Lines.length<=1000:=by
 unfold zc7 lnP
 cases(a==o||a==b)
 ·cases b==o
  ·simp
  ·exact ha
 ·exact hb
theorem apL {xs ys:List Str}(h:xs.length<=4000000)(h':ys.length<=1000):apM xs ys=some (xs++ys):=zgw (by simp[lim];omega)
theorem znD {o a b:List Str}(ho:o.length<=1000)(ha:a.length<=1000)(hb:b.length<=1000):zgN o a b=some (zc7 o a b):=by
 unfold zgN zc7 lnP
 simp only[jn,zeU (show a.length<=maxi by unfold maxi;omega),zeU (show b.length<=maxi by unfold maxi;omega),aA,apN (show o.length<=1048576 by omega),apN (show a.length<=1048576 by omega),apN (show b.length<=1048576 by omega)]
 cases a==o<;>cases a==b<;>cases b==o<;>rfl
theorem zoZ {n:Nat}(h:n<=4000000)(h0:0<n):w64 ((n:Int)-1)=((n-1:Nat):Int):=by rw[zag (by omega) (by omega)];omega
theorem zlM {n:Nat}{out:List Part}{p:Part}(h:PB n out)(hn:n<=4000)(hp:p.Lines.length<=1000):zhx out p=some (zkt out p):=by
 have hl:=h.1
 unfold zhx zkt
 have hz:(((p.Lines.length:Int))==(0:Int))=(p.Lines.length==0):=by
  have: ∀ b c:Bool,(b=true↔c=true)->b=c:=by decide
  apply this;simp
 simp only[jn,hz,show(⟨p.Clash,p.Lines,p.Old,p.One,p.Two⟩:Part)=p from rfl]
 have happ:apM out [p]=some (out++[p]):=zgw (by simp[lim];omega)
 cases hc:p.Clash with
 |true=>
  simp only[aK,Bool.false_and,aC,happ,aA]
  by_cases h0:0<out.length
  ·rw[aF (by omega),aD,aB (by omega)]
  ·rw[aE (by omega),aC,List.getElem?_eq_none (by omega)]
 |false=>
  simp only[Bool.not_false,Bool.true_and,aD]
  cases hz2:(p.Lines.length==0)with
  |true=>rfl
  |false=>
   simp only[aC]
   by_cases h0:0<out.length
   ·obtain⟨q,hq⟩: ∃ q,out[out.length-1]? =some q:=⟨_,aB (by omega)⟩
    have hql:=h.2 q (aH hq)
    rw[aF (by omega),aD,zoZ (by omega) h0,zad hq,aA,hq]
    cases hqc:q.Clash with
    |true=>simp[happ,hqc]
    |false=>
     simp only[hqc,Bool.not_false,aD,aA]
     rw[apL (by omega) hp,aA,zbs (by omega),aA]
   ·rw[aE (by omega),aC,List.getElem?_eq_none (by omega),happ]
    rfl
def zbg {α:Type}(xs:List α)(l h:Int):List α:=(xs.take h.toNat).drop l.toNat
theorem zbP {α:Type}(xs:List α)(l h:Int):(zbg xs l h).length<=xs.length:=by unfold zbg;simp;omega
def zdw (o a b:List Str)(i x y io ia ib:Int)(out:List Part):List Part:=
 match o[i.toNat]? with
 |some s=>zkt (zkt out (zc7 (zbg o io i) (zbg a ia x) (zbg b ib y))) (lnP [s])
 |none=>zkt out (zc7 (zbg o io i) (zbg a ia x) (zbg b ib y))
def zbn (o a b:List Str):Int->List Int->List Int->Int->Int->Int->List Part->List Part
 |i,x::ma,y::mb,io,ia,ib,out=>
  bif decide (x<0)||decide (y<0) then zbn o a b (i+1) ma mb io ia ib out
  else zbn o a b (i+1) ma mb (i+1) (x+1) (y+1) (zdw o a b i x y io ia ib out)
 |_,[],_,_,_,_,out=>out
 |_,_:: _,[],_,_,_,out=>out
def za5 (o a b:List Str):List Part:=zbn o a b 0 (mt2 o a++[(a.length:Int)]) (mt2 o b++[(b.length:Int)]) 0 0 0 []
theorem ziN {o a b:List Str}(ha:a.length<=1000)(hb:b.length<=1000){i x y io ia ib:Int}{n:Nat}{out:List Part}(h:PB n out):PB (n+2) (zdw o a b i x y io ia ib out):=by
 have h1:=zj0 h (zgq (o:=zbg o io i) (Nat.le_trans (zbP a ia x) ha) (Nat.le_trans (zbP b ib y) hb))
 unfold zdw
 split
 ·exact zj0 h1 (by simp[lnP])
 ·exact h1.mono (by omega)
theorem zgY {o a b:List Str}(ha:a.length<=1000)(hb:b.length<=1000): ∀ (ma mb:List Int) (i io ia ib:Int) (n:Nat) (out:List Part),PB n out->PB (n+2*ma.length) (zbn o a b i ma mb io ia ib out)
 | [],mb,i,io,ia,ib,n,out,h=>by rw[zbn.eq_def];exact h.mono (by omega)
 |x::ma,[],i,io,ia,ib,n,out,h=>by rw[zbn.eq_def];exact h.mono (by omega)
 |x::ma,y::mb,i,io,ia,ib,n,out,h=>by
  rw[zbn]
  cases(decide (x<0)||decide (y<0))with
  |true=>exact(zgY ha hb ma mb _ _ _ _ n out h).mono (by simp;omega)
  |false=>exact(zgY ha hb ma mb _ _ _ _ (n+2) _ (ziN ha hb h)).mono (by simp;omega)
theorem zk9 {l:List Int}{i:Nat}{x:Int}(h:l[i]? =some x):l.drop i=x::l.drop (i+1):=by
 have hi:=zas h
 rw[aI hi]
 rw[aB hi]at h
 rw[Option.some.inj h]
theorem zhF {o a b:List Str}(ho:o.length<=1000)(ha:a.length<=1000)(hb:b.length<=1000){ma mb:List Int}(hla:ma.length=o.length+1)(hlb:mb.length=o.length+1):
 ∀ (n i m:Nat) (io ia ib:Int) (out:List Part),i+n=o.length+1->n<m->Asc ((a.length:Int)+1) ia (ma.drop i)->Asc ((b.length:Int)+1) ib (mb.drop i)->0<=io->io<=i->0<=ia->0<=ib->PB (2*i) out->
  zcz o a b ma mb (fun y45 _ _ _ _=>some y45) m out io ia ib (i:Int)=some (zbn o a b i (ma.drop i) (mb.drop i) io ia ib out)
 |n,i,0,_,_,_,_,_,hm,_,_,_,_,_,_,_=>by omega
 |0,i,m+1,io,ia,ib,out,hi,_,_,_,_,_,_,_,_=>by
  simp only[zcz]
  rw[aE (by omega),aC,List.drop_eq_nil_of_le (by omega),zbn.eq_def]
 |n+1,i,m+1,io,ia,ib,out,hi,hm,hA,hB,h0,h1,h2,h3,hP=>by
  obtain⟨x,hx⟩: ∃ x,ma[i]? =some x:=⟨_,aB (by omega)⟩
  obtain⟨y,hy⟩: ∃ y,mb[i]? =some y:=⟨_,aB (by omega)⟩
  rw[zk9 hx]at hA ⊢
  rw[zk9 hy]at hB ⊢
  have ei:w64 ((i:Int)+1)=((i+1:Nat):Int):=by rw[zag (by omega) (by omega)];omega
  have ei':(i:Int)+1=((i+1:Nat):Int):=by omega
  rw[ei']at ei
  have dn:decide ((-1:Int)<0)=true:=rfl
  have hstay: ∀ (hA':Asc ((a.length:Int)+1) ia (ma.drop (i+1))) (hB':Asc ((b.length:Int)+1) ib (mb.drop (i+1))),zcz o a b ma mb (fun y45 _ _ _ _=>some y45) m out io ia ib ((i+1:Nat):Int)=some (zbn o a b ((i+1:Nat):Int) (ma.drop (i+1)) (mb.drop (i+1)) io ia ib out):=
   fun hA' hB'=>zhF ho ha hb hla hlb n (i+1) m io ia ib out (by omega) (by omega) hA' hB' h0 (by omega) h2 h3 (hP.mono (by omega))
  rw[zbn]
  simp only[zcz,jn,zad hx,zad hy,aA,ei,ei',hla]
  rw[aF (show(i:Int)< ((o.length+1:Nat):Int) by omega),aD]
  rcases hA with ⟨rfl,hA⟩ |⟨ha1,ha2,hA⟩
  ·rcases hB with ⟨rfl,hB⟩ |⟨hb1,hb2,hB⟩
   ·simp only[dn,aD,Bool.true_or];exact hstay hA hB
   ·simp only[dn,aD,Bool.true_or];exact hstay hA (hB.mono (by omega))
  rcases hB with ⟨rfl,hB⟩ |⟨hb1,hb2,hB⟩
  ·rw[aE (show ¬ x<0 by omega),aC]
   simp only[dn,aD,Bool.false_or]
   exact hstay (hA.mono (by omega)) hB
  rw[aE (show ¬ x<0 by omega),aE (show ¬ y<0 by omega)]
  simp only[aC,Bool.or_false]
  have ex:w64 (x+1)=x+1:=zag (by omega) (by omega)
  have ey:w64 (y+1)=y+1:=zag (by omega) (by omega)
  have c1:=zbP o io i
  have c2:=zbP a ia x
  have c3:=zbP b ib y
  have hP1:=zj0 hP (zgq (o:=zbg o io i) (Nat.le_trans c2 ha) (Nat.le_trans c3 hb))
  have hS:=ziN (o:=o) ha hb (i:=i) (x:=x) (y:=y) (io:=io) (ia:=ia) (ib:=ib) hP
  have hfin:=zhF ho ha hb hla hlb n (i+1) m ((i+1:Nat):Int) (x+1) (y+1) (zdw o a b i x y io ia ib out) (by omega) (by omega) hA hB (by omega) (by omega) (by omega) (by omega) (hS.mono (by omega))
  rw[zgd h0 h1 (by omega),aA,zgd h2 ha1 (by omega),aA,zgd h3 hb1 (by omega),aA,
   show((o.take ((i:Int)).toNat).drop io.toNat)=zbg o io i from rfl,show((a.take x.toNat).drop ia.toNat)=zbg a ia x from rfl,show((b.take y.toNat).drop ib.toNat)=zbg b ib y from rfl,
   znD (by omega) (by omega) (by omega),aA]
  rw[show(⟨(zc7 (zbg o io i) (zbg a ia x) (zbg b ib y)).Clash,(zc7 (zbg o io i) (zbg a ia x) (zbg b ib y)).Lines,(zc7 (zbg o io i) (zbg a ia x) (zbg b ib y)).Old,(zc7 (zbg o io i) (zbg a ia x) (zbg b ib y)).One,(zc7 (zbg o io i) (zbg a ia x) (zbg b ib y)).Two⟩:Part)=zc7 (zbg o io i) (zbg a ia x) (zbg b ib y) from rfl,
   zlM hP (by omega) (zgq (Nat.le_trans c2 ha) (Nat.le_trans c3 hb)),aA]
  by_cases hio:i<o.length
  ·have hs:o[i]? =some o[i]:=aB hio
   rw[aF (by omega),aD,zad hs,aA,show(⟨false,[o[i]],[],[],[]⟩:Part)=lnP [o[i]] from rfl,zlM hP1 (by omega) (by simp[lnP]),aA,ex,ey]
   have hm:zdw o a b i x y io ia ib out=zkt (zkt out (zc7 (zbg o io i) (zbg a ia x) (zbg b ib y))) (lnP [o[i]]):=by
    unfold zdw
    rw[show((i:Int)).toNat=i by omega,hs]
   rw[<- hm]
   exact hfin
  ·rw[aE (by omega),aC,ex,ey]
   have hm:zdw o a b i x y io ia ib out=zkt out (zc7 (zbg o io i) (zbg a ia x) (zbg b ib y)):=by
    unfold zdw
    rw[show((i:Int)).toNat=i by omega,List.getElem?_eq_none (by omega)]
   rw[<- hm]
   exact hfin
theorem zgE (o a:List Str):Asc ((a.length:Int)+1) 0 (mt2 o a++[(a.length:Int)])/\(mt2 o a++[(a.length:Int)]).length=o.length+1:=by
 have h:=zd8 o a
 exact⟨Asc.snoc (by omega) (by omega) h.1,by simp[h.2]⟩
theorem zqt {o a b:List Str}(ho:o.length<=1000)(ha:a.length<=1000)(hb:b.length<=1000):zjx o a b=some (za5 o a b):=by
 obtain⟨a1,a2⟩:=zgE o a
 obtain⟨b1,b2⟩:=zgE o b
 have l1:=(zd8 o a).2
 have l2:=(zd8 o b).2
 unfold zjx
 rw[zgX ho ha,aA,zob (by omega),aA,zgX ho hb,aA,zob (by omega),aA]
 simp only[jn]
 have:=zhF ho ha hb a2 b2 (o.length+1) 0 ((((mt2 o a++[(a.length:Int)]).length:Int)-0).toNat+1) 0 0 0 [] (by omega) (by omega) a1 b1 (by omega) (by omega) (by omega) (by omega) ⟨by simp,by simp⟩
 exact this
end Go.Vm
namespace Go.Sx
open Go
end Go.Sx
namespace Go.Vm
open Go Go.Sx
set_option linter.unusedSimpArgs false
set_option linter.unusedVariables false
section
variable {o a b:List Str}{Q:Part->Prop}
theorem zlN {out:List Part}{p:Part}(h3: ∀ q p:Part,Q q->Q p->q.Clash=false->p.Clash=false->Q ⟨q.Clash,q.Lines++p.Lines,q.Old,q.One,q.Two⟩)(h: ∀ q∈out,Q q)(hp:Q p): ∀ q∈zkt out p,Q q:=by
 have happ: ∀ q∈out++[p],Q q:=fun q hq=>by
  rcases List.mem_append.1 hq with h1 |h1
  ·exact h q h1
  ·rw[List.mem_singleton]at h1;rw[h1];exact hp
 unfold zkt
 cases(!p.Clash&&p.Lines.length==0)with
 |true=>exact h
 |false=>
  rw[aC]
  split
  ·rename_i q hq
   cases hc:(!p.Clash && !q.Clash)with
   |false=>exact happ
   |true=>
    simp only[aG,Bool.not_eq_true']at hc
    rw[aD]
    intro r hr
    rcases List.mem_or_eq_of_mem_set hr with h1 |h1
    ·exact h r h1
    ·rw[h1];exact h3 q p (h q (aH hq)) hp hc.2 hc.1
  ·exact happ
theorem zf0 (h1: ∀ l h l' h' l'' h'',Q (zc7 (zbg o l h) (zbg a l' h') (zbg b l'' h''))) (h2: ∀ s∈o,Q (lnP [s]))
 (h3: ∀ q p:Part,Q q->Q p->q.Clash=false->p.Clash=false->Q ⟨q.Clash,q.Lines++p.Lines,q.Old,q.One,q.Two⟩): ∀ (ma mb:List Int) (i io ia ib:Int) (out:List Part),(∀ q∈out,Q q) -> ∀ q∈zbn o a b i ma mb io ia ib out,Q q
 | [],mb,i,io,ia,ib,out,h=>by rw[zbn.eq_def];exact h
 |x::ma,[],i,io,ia,ib,out,h=>by rw[zbn.eq_def];exact h
 |x::ma,y::mb,i,io,ia,ib,out,h=>by
  rw[zbn]
  cases(decide (x<0)||decide (y<0))with
  |true=>exact zf0 h1 h2 h3 ma mb _ _ _ _ out h
  |false=>
   refine zf0 h1 h2 h3 ma mb _ _ _ _ _ ?_
   have hp:=zlN h3 h (h1 io i ia x ib y)
   unfold zdw
   split
   ·rename_i s hs
    exact zlN h3 hp (h2 s (aH hs))
   ·exact hp
theorem zmk (h1: ∀ l h l' h' l'' h'',Q (zc7 (zbg o l h) (zbg a l' h') (zbg b l'' h''))) (h2: ∀ s∈o,Q (lnP [s]))
 (h3: ∀ q p:Part,Q q->Q p->q.Clash=false->p.Clash=false->Q ⟨q.Clash,q.Lines++p.Lines,q.Old,q.One,q.Two⟩): ∀ q∈za5 o a b,Q q:=
 zf0 h1 h2 h3 _ _ _ _ _ _ [] (by simp)
theorem zfw {α:Type}{xs:List α}{l h:Int}{x:α}(hx:x∈zbg xs l h):x∈xs:=List.mem_of_mem_take (List.mem_of_mem_drop hx)
theorem zj1 {P:Str->Prop}(ho: ∀ s∈o,P s)(ha: ∀ s∈a,P s)(hb: ∀ s∈b,P s): ∀ q∈za5 o a b,(∀ s∈q.Lines,P s)/\(∀ s∈q.Old,P s)/\(∀ s∈q.One,P s)/\(∀ s∈q.Two,P s)/\q.Old.length<=o.length/\q.One.length<=a.length/\q.Two.length<=b.length:=by
 refine zmk (fun l h l' h' l'' h''=>?_) (fun s hs=>?_) (fun q p hq hp _ _=>?_)
 ·have c1:=zbP o l h
  have c2:=zbP a l' h'
  have c3:=zbP b l'' h''
  unfold zc7 lnP
  cases(zbg a l' h'==zbg o l h||zbg a l' h'==zbg b l'' h'')with
  |true=>exact⟨fun s hs=>hb s (zfw hs),by simp,by simp,by simp,by simp,by simp,by simp⟩
  |false=>
   rw[aC]
   cases(zbg b l'' h''==zbg o l h)with
   |true=>exact⟨fun s hs=>ha s (zfw hs),by simp,by simp,by simp,by simp,by simp,by simp⟩
   |false=>exact⟨by simp,fun s hs=>ho s (zfw hs),fun s hs=>ha s (zfw hs),fun s hs=>hb s (zfw hs),c1,c2,c3⟩
 ·exact⟨by simpa[lnP]using ho s hs,by simp[lnP],by simp[lnP],by simp[lnP],by simp[lnP],by simp[lnP],by simp[lnP]⟩
 ·exact⟨fun s hs=>(List.mem_append.1 hs).elim (hq.1 s) (hp.1 s),hq.2⟩
theorem zml (ho:o.length<=1000)(ha:a.length<=1000)(hb:b.length<=1000):PB (2*(o.length+1)) (za5 o a b):=by
 have:=zgY (o:=o) ha hb (mt2 o a++[(a.length:Int)]) (mt2 o b++[(b.length:Int)]) 0 0 0 0 0 [] ⟨by simp,by simp⟩
 rw[(zgE o a).2]at this
 exact this.mono (by omega)
end
section
variable {xs:List Memo}{o a b:List Str}
def okT (t:List Str):List Str×Bool:=bif zau t then(t,true) else([],false)
def zte (i:Nat)(s:List Str):Prop:=s.length<=22000*i /\ ∀ x∈s,zde x=true
theorem zce {s:List Str}(h:s.length<=1000000)(hl: ∀ x∈s,zde x=true):Bk.fit s:=⟨by unfold maxi;omega,fun x hx=>by have:=zjp (hl x hx);show x.length<=maxi;unfold maxi;omega⟩
theorem apT {s t:List Str}(h:s.length<=1000000)(h':t.length<=1000000):apM s t=some (s++t):=zgw (by simp[lim];omega)
theorem zkQ (hto:zau o=true)(hta:zau a=true)(htb:zau b=true):(za5 o a b).length<=22 /\ ∀ p∈za5 o a b,p.Lines.length<=22000/\(∀ x∈p.Lines,zde x=true)/\zau p.Old=true/\zau p.One=true/\zau p.Two=true:=by
 have lo:=zam hto
 have la:=zam hta
 have lb:=zam htb
 have hP:=zml (o:=o) (a:=a) (b:=b) (by omega) (by omega) (by omega)
 refine⟨Nat.le_trans hP.1 (by omega),fun p hp=>?_⟩
 obtain⟨h1,h2,h3,h4,h5,h6,h7⟩:=zj1 (P:=fun s=>zde s=true) (zaR hto) (zaR hta) (zaR htb) p hp
 have hl:=hP.2 p hp
 have mk: ∀ t:List Str,t.length<=10->(∀ s∈t,zde s=true)->zau t=true:=fun t h1 h2=>by
  unfold zau
  rw[aE (by omega)]
  simp only[Bool.not_false,Bool.true_and,List.all_eq_true]
  exact h2
 exact⟨by omega,h1,mk _ (by omega) h2,mk _ (by omega) h3,mk _ (by omega) h4⟩
end
def LB (n:Nat)(t:List Str):Prop:=t.length<=n /\ ∀ s∈t,s.length<=100
theorem LB.fit {n:Nat}{t:List Str}(h:LB n t)(hn:n<=1000000):Bk.fit t:=⟨by have:=h.1;unfold maxi;omega,fun s hs=>by have:=h.2 s hs;show s.length<=maxi;unfold maxi;omega⟩
theorem LB.mono {n m:Nat}{t:List Str}(h:LB n t)(hm:n<=m):LB m t:=⟨Nat.le_trans h.1 hm,h.2⟩
theorem zh6 {α:Type}{f:α->Nat}{c:Nat}: ∀ {t:List α},(∀ s∈t,f s<=c)->sumB f t<=c*t.length
 | [],_=>by simp[sumB]
 |x::t,h=>by
  have h1:=h x (by simp)
  have h2:=zh6 (t:=t) (fun s hs=>h s (by simp[hs]))
  simp only[sumB,aL,Nat.mul_add,Nat.mul_one]
  omega
theorem LB.bulk {n:Nat}{t:List Str}(h:LB n t):Bk.bulk t<=101*n:=by
 have h1:sumB Bk.bulk t<=100*t.length:=zh6 (f:=fun s:Str=>s.length) (c:=100) (fun s hs=>h.2 s hs)
 have:=h.1
 rw[zvD]
 omega
section
variable {r:l30Rd}{p:Int}
theorem zmL (h:zeg r p)(hp:p<=1099511627776){l:List Str}(h0:0<l.length)(hl:l.length<=1000): ∃ s,zbt r l=some (s,r.p+1)/\s∈l:=by
 obtain⟨k,hk,k0,k1⟩:=zd7 (n:=(l.length:Int)) h hp (by omega) (by omega)
 obtain⟨s,hs⟩:=zil k0 k1
 unfold zbt
 rw[hk,aA,hs,aA]
 exact⟨s,rfl,aH (zmb hs).2.1⟩
theorem zpt (h:zeg r p)(hp:p<=1099511627776){l:List Int}(h0:0<l.length)(hl:l.length<=1000): ∃ s,zdT r l=some (s,r.p+1)/\s∈l:=by
 obtain⟨k,hk,k0,k1⟩:=zd7 (n:=(l.length:Int)) h hp (by omega) (by omega)
 obtain⟨s,hs⟩:=zil k0 k1
 unfold zdT
 rw[hk,aA,hs,aA]
 exact⟨s,rfl,aH (zmb hs).2.1⟩
theorem zsp (h:zeg r p)(hp:p<=1099511627776): ∃ s,zfl r=some (s,r.p+1)/\s.length<=12:=by
 unfold zfl
 obtain⟨s,hs,hm⟩:=zmL h hp (l:=([([97]:Str),([98]:Str),([99]:Str),([100]:Str),([]:Str),([120,32,121]:Str),([115,101,101,32,97]:Str),([115,101,101,32,100,47,101]:Str),([101,110,100]:Str)]:List Str)) (by simp) (by simp)
 rw[hs,aA]
 refine⟨s,rfl,?_⟩
 simp only[List.mem_cons,List.not_mem_nil,or_false]at hm
 rcases hm with rfl |rfl |rfl |rfl |rfl |rfl |rfl |rfl |rfl<;>simp
theorem on1 (h:zeg r p){q:Int}(hq:p+1<=q):zeg ⟨r.b,r.p+1⟩ q:=h.on 1 (by omega) (by have:=h.2.2;omega)
theorem zpu {x0:l30Rd}: ∀ (m:Nat) (out:List Str) (n q p:Int),0<=n->n<m->n<=100->LB 100 out->zeg ⟨x0.b,q⟩ p->p+n<=1099511627776->out.length+n<=100->
 ∃ out' q',ze1 x0 (fun y15 y18 y19=>some (y15,y19)) m out n q=some (out',q')/\LB 100 out'/\(out'.length:Int)=out.length+n/\zeg ⟨x0.b,q'⟩ (p+n)
 |0,out,n,q,p,h0,hm,_,_,_,_,_=>by omega
 |m+1,out,n,q,p,h0,hm,hn,hf,hr,hp,hl=>by
  simp only[ze1]
  by_cases hn0:0<n
  ·obtain⟨s,hs,hs2⟩:=zsp hr (by omega)
   have hs':zfl ⟨x0.b,q⟩=some (s,q+1):=hs
   rw[aF hn0,aD,hs',aA,ap1 (show out.length<=1048576 by omega),aA,zag (by omega) (by omega)]
   have hf':LB 100 (out++[s]):=⟨by simp;omega,fun x hx=>by
    rcases List.mem_append.1 hx with h1 |h1
    ·exact hf.2 x h1
    ·rw[List.mem_singleton]at h1;rw[h1];omega⟩
   obtain⟨o',q',e,f',l',r'⟩:=zpu (x0:=x0) m (out++[s]) (n-1) (q+1) (p+1) (by omega) (by omega) (by omega) hf' (on1 hr (by omega)) (by omega) (by simp;omega)
   exact⟨o',q',e,f',by rw[l'];simp;omega,by rw[show p+n=p+1+(n-1) by omega];exact r'⟩
  ·have hz:n=0:=by omega
   subst hz
   rw[aE hn0,aC]
   exact⟨out,q,rfl,hf,by omega,by simpa using hr⟩
theorem zsq (h:zeg r p)(hp:p<=1000000000): ∃ t q,zhl r=some (t,q)/\LB 8 t/\zeg ⟨r.b,q⟩ (p+10):=by
 unfold zhl
 obtain⟨n,hn,hm⟩:=zpt h (by omega) (l:=[0,1,3,5,8]) (by simp) (by simp)
 have hn8:0<=n/\n<=8:=by
  simp only[List.mem_cons,List.not_mem_nil,or_false]at hm
  omega
 rw[hn,aA]
 simp only[jn]
 obtain⟨t,q,e,f,l,ro⟩:=zpu (x0:=r) ((n-0).toNat+1) [] n (r.p+1) (p+1) hn8.1 (by omega) (by omega) ⟨by simp,by simp⟩ (on1 h (by omega)) (by omega) (by simp;omega)
 refine⟨t,q,e,⟨by simp at l;omega,f.2⟩,ro.1,ro.2.1,?_⟩
 have:=ro.2.2
 omega
end
section
variable {o a b:List Str}{xs:List Memo}
def zrr (l:List Part):List Part:=l.filter (·.Clash)
end
open Go Go.Sx Go.Proofs
theorem zaZ (a b:Str):Op.bytesLess a b=decide (a<b):=bytesLess_eq a b
theorem znE (a b:Str):(decide (a<=b)||decide (b<=a))=true:=by
 rcases List.le_total a b with h |h<;>simp[h]
theorem znF (a b c:Str):decide (a<=b)=true->decide (b<=c)=true->decide (a<=c)=true:=by
 simp only[decide_eq_true_eq]
 exact List.le_trans
theorem zar (a:Str): ¬ a<a:=List.lt_irrefl a
theorem zba {a b c:Str}:a<b->b<c->a<c:=List.lt_trans
theorem zbD {a b:Str}(h:a<=b)(hn:a≠b):a<b:=by
 rcases Decidable.em (a<b)with h1 |h1
 ·exact h1
 ·exact absurd (List.le_antisymm h (List.not_lt.1 h1)) hn
theorem ziO {a b:Str}: ¬ a<b↔b<=a:=List.not_lt
def Asd (xs:List Str):Prop:=xs.Pairwise (· < ·)
theorem Asd.ext: ∀ {xs ys:List Str},Asd xs->Asd ys->(∀ a,a∈xs↔a∈ys)->xs=ys
 | [],[],_,_,_=>rfl
 | [],y::ys,_,_,h=>by have:=(h y).2 (by simp);simp at this
 |x::xs,[],_,_,h=>by have:=(h x).1 (by simp);simp at this
 |x::xs,y::ys,hx,hy,h=>by
  have hx':=List.pairwise_cons.1 hx
  have hy':=List.pairwise_cons.1 hy
  have e:x=y:=by
   rcases List.mem_cons.1 ((h x).1 (by simp))with e |hm
   ·exact e
   ·rcases List.mem_cons.1 ((h y).2 (by simp))with e |hm2
    ·exact e.symm
    ·exact absurd (zba (hy'.1 x hm) (hx'.1 y hm2)) (zar y)
  subst e
  have ht: ∀ a,a∈xs↔a∈ys:=fun a=>by
   constructor
   ·intro ha
    rcases List.mem_cons.1 ((h a).1 (List.mem_cons_of_mem _ ha))with e |hm
    ·exact absurd (by rw[e]at ha;exact hx'.1 x ha) (zar x)
    ·exact hm
   ·intro ha
    rcases List.mem_cons.1 ((h a).2 (List.mem_cons_of_mem _ ha))with e |hm
    ·exact absurd (by rw[e]at ha;exact hy'.1 x ha) (zar x)
    ·exact hm
  rw[Asd.ext hx'.2 hy'.2 ht]
theorem zo0 (l:List Str):(zci l).Pairwise (· <= ·):=by
 have:=List.pairwise_mergeSort (le:=fun x y:Str=>decide (x<=y)) znF znE l
 exact this.imp (by simp)
theorem zk4 {l:List Str}{a:Str}:a∈zci l↔a∈l:=List.mem_mergeSort
theorem zj2: ∀ (l:List Str) (p:Option Str) (a:Str),a∈zdA p l\/some a=p↔a∈l\/some a=p
 | [],p,a=>by simp[zdA]
 |x::l,p,a=>by
  have ih:=zj2 l (some x) a
  unfold zdA
  by_cases hp:p=some x
  ·rw[if_pos hp,hp]
   rw[ih]
   simp only[List.mem_cons,Option.some.injEq]
   constructor
   ·rintro(h |h)
    ·exact .inl (.inr h)
    ·exact .inr h
   ·rintro((h |h) |h)
    ·exact .inr h
    ·exact .inl h
    ·exact .inr h
  ·rw[if_neg hp]
   simp only[List.mem_cons,Option.some.injEq]at ih ⊢
   constructor
   ·rintro((h |h) |h)
    ·exact .inl (.inl h)
    ·rcases ih.1 (.inl h)with h2 |h2
     ·exact .inl (.inr h2)
     ·exact .inl (.inl h2)
    ·exact .inr h
   ·rintro((h |h) |h)
    ·exact .inl (.inl h)
    ·rcases ih.2 (.inl h)with h2 |h2
     ·exact .inl (.inr h2)
     ·exact .inl (.inl h2)
    ·exact .inr h
theorem zkv {l:List Str}{a:Str}:a∈zof l↔a∈l:=by
 have:=zj2 l none a
 simpa[zof]using this
theorem zhq: ∀ (l:List Str) (p:Option Str),l.Pairwise (· <= ·)->(∀ q,p=some q -> ∀ a∈l,q<=a)->Asd (zdA p l) /\ ∀ q,p=some q -> ∀ a∈zdA p l,q<a
 | [],p,_,_=>by simp[zdA,Asd]
 |x::l,p,h,hp=>by
  have h':=List.pairwise_cons.1 h
  obtain⟨i1,i2⟩:=zhq l (some x) h'.2 (fun q hq a ha=>by cases hq;exact h'.1 a ha)
  unfold zdA
  by_cases hpx:p=some x
  ·rw[if_pos hpx]
   exact⟨i1,fun q hq a ha=>by rw[hpx]at hq;exact i2 q hq a ha⟩
  ·rw[if_neg hpx]
   refine⟨List.pairwise_cons.2 ⟨fun a ha=>i2 x rfl a ha,i1⟩,fun q hq a ha=>?_⟩
   have hqx:q<x:=zbD (hp q hq x (by simp)) (fun e=>hpx (by rw[hq,e]))
   rcases List.mem_cons.1 ha with e |e
   ·rw[e];exact hqx
   ·exact zba hqx (i2 x rfl a e)
def zfZ (xs:List Str)(s:Str):List Str:=zof (zci (xs++[s]))
theorem zcR (xs:List Str)(s:Str):Asd (zfZ xs s):=(zhq _ none (zo0 _) (fun q hq=>by cases hq)).1
theorem insS_mem {xs:List Str}{s a:Str}:a∈zfZ xs s↔a∈xs\/a=s:=by
 unfold zfZ
 rw[zkv,zk4,List.mem_append,List.mem_singleton]
theorem zhG: ∀ (zs:List Str) (p:Option Str),(zdA p zs).length<=zs.length
 | [],p=>by simp[zdA]
 |x::l,p=>by
  have:=zhG l (some x)
  unfold zdA
  split<;>simp<;>omega
theorem zdf (xs:List Str)(s:Str):(zfZ xs s).length<=xs.length+1:=by
 have:=zhG (zci (xs++[s])) none
 unfold zfZ zof
 have h2:(zci (xs++[s])).length=(xs++[s]).length:=List.length_mergeSort _
 rw[h2]at this
 simpa using this
def zi5 (c:UInt8):Bool:=(decide (97<=(c.toNat:Int))&&decide ((c.toNat:Int)<=122))||(decide (48<=(c.toNat:Int))&&decide ((c.toNat:Int)<=57))
def zaF (s:Str):Bool:=(decide (1<=(s.length:Int))&&decide ((s.length:Int)<=6))&&s.all zi5
theorem zla (c:UInt8):ze5 c=some (zi5 c):=by
 unfold ze5 zi5
 simp only[jn]
 cases decide (97<=(c.toNat:Int))<;>cases decide ((c.toNat:Int)<=122)<;>cases decide (48<=(c.toNat:Int))<;>cases decide ((c.toNat:Int)<=57)<;>rfl
theorem zfV (a b c:Int):zfD a b c=some (decide (b<=a)&&decide (a<=c)):=by
 unfold zfD
 simp only[jn]
 cases decide (b<=a)<;>rfl
theorem zeC (a b c:Int):zeY a b c=some (decide (b<=a)&&decide (a<=c)):=by
 unfold zeY
 simp only[jn]
 cases decide (b<=a)<;>rfl
theorem zcf {s:Str}(h:s.length<=maxi):zc9 s=some (zaF s):=by
 unfold zc9 zaF
 simp only[jn,zak,zfV,aA]
 cases(decide (1<=(s.length:Int))&&decide ((s.length:Int)<=6))
 case false=>rfl
 simp only[aK,aC,Bool.true_and]
 rw[zaU (α:=UInt8) (xs:=s) (p:=zi5) (r0:=some false) (Z:=some true) (f:=fun m i=>zcJ s (fun _ _=>some true) m false i) (fun m i x hx=>by
  simp only[zcJ,jn,zaj hx,zi0 hx,aD,aA,zab (zas hx) h,zla]
  cases zi5 x<;>rfl) (fun m=>by simp only[zcJ,zac,aC]) (by omega)]
 cases s.all zi5<;>rfl
theorem zsr (a b:Int):decide (a<b) = !decide (b<=a):=by
 by_cases h:a<b
 ·rw[aF h,aE (by omega)];rfl
 ·rw[aE h,aF (by omega)];rfl
theorem za8 {s:Str}(h:s.length<=maxi):zbW s=some (zaF s):=by
 unfold zbW zaF
 simp only[jn,zak,zeC,aA]
 rw[zaU (α:=UInt8) (xs:=s) (p:=zi5) (r0:=some false) (Z:=some (decide (1<=(s.length:Int))&&decide ((s.length:Int)<=6))) (f:=fun m i=>zcB s (fun _ _=>some (decide (1<=(s.length:Int))&&decide ((s.length:Int)<=6))) m false i) (fun m i x hx=>by
  simp only[zcB,jn,zaj hx,zi0 hx,aD,aA,zab (zas hx) h,zsr,zi5]
  cases decide (97<=(x.toNat:Int))<;>cases decide ((x.toNat:Int)<=122)<;>cases decide (48<=(x.toNat:Int))<;>cases decide ((x.toNat:Int)<=57)<;>rfl) (fun m=>by simp only[zcB,zac,aC]) (by omega)]
 cases s.all zi5<;>cases(decide (1<=(s.length:Int))&&decide ((s.length:Int)<=6))<;>rfl
def ahd (s:Str):List Str->Nat
 | []=>0
 |x::xs=>bif Op.bytesLess x s then ahd s xs+1 else 0
theorem zpv (s:Str): ∀ xs,ahd s xs<=xs.length
 | []=>Nat.le_refl _
 |x::xs=>by
  have:=zpv s xs
  unfold ahd
  cases Op.bytesLess x s
  ·simp
  ·simp only[aD,aL];omega
theorem zlO (s:Str): ∀ (xs:List Str) x,x∈xs.take (ahd s xs)->x<s
 | [],x,h=>by simp at h
 |y::xs,x,h=>by
  unfold ahd at h
  cases hy:Op.bytesLess y s with
  |false=>rw[hy]at h;simp at h
  |true=>
   rw[hy,aD,List.take_succ_cons]at h
   rcases List.mem_cons.1 h with e |e
   ·rw[e];rw[zaZ]at hy;simpa using hy
   ·exact zlO s xs x e
theorem zpw (s:Str): ∀ (xs:List Str) x,xs[ahd s xs]? =some x->s<=x
 | [],x,h=>by simp at h
 |y::xs,x,h=>by
  unfold ahd at h
  cases hy:Op.bytesLess y s with
  |false=>
   rw[hy,aC]at h
   have e:y=x:=by simpa using h
   rw[<- e]
   rw[zaZ]at hy
   exact ziO.1 (by simpa using hy)
  |true=>
   rw[hy,aD]at h
   exact zpw s xs x (by simpa using h)
theorem zss {xs:List Str}{s:Str}(hl:xs.length<=1000000){K:Int->Option (List Str)}: ∀ (n i m:Nat),i+n=xs.length->n<m->(∀ j,j<i -> ∃ x,xs[j]? =some x/\x<s)->zdj xs s K m (i:Int)=K ((i+ahd s (xs.drop i):Nat):Int)
 |n,i,0,_,hm,_=>by omega
 |0,i,m+1,hi,_,_=>by
  simp only[zdj,jn]
  rw[aE (by omega),aC,aC,List.drop_eq_nil_of_le (by omega)]
  rfl
 |n+1,i,m+1,hi,hm,hall=>by
  have hlt:i<xs.length:=by omega
  have hx:xs[i]? =some xs[i]:=aB hlt
  simp only[zdj,jn]
  rw[aF (by omega),aD,zad hx,aA,aI hlt]
  unfold ahd
  cases hb:Op.bytesLess xs[i] s with
  |false=>rw[aC,aC];rfl
  |true=>
   rw[aD,aD,zab hlt (by unfold maxi;omega)]
   rw[zss hl n (i+1) m (by omega) (by omega) (fun j hj=>by
    rcases Nat.lt_or_ge j i with h1 |h1
    ·exact hall j h1
    ·have:j=i:=by omega
     subst this
     exact⟨_,hx,by rw[zaZ]at hb;simpa using hb⟩)]
   congr 2
   omega
theorem ziF {xs:List Str}{s:Str}(hl:xs.length<=1000000)(ha:Asd xs):zdO xs s=some (zfZ xs s):=by
 unfold zdO
 simp only[jn]
 have h1:=zss (s:=s) hl (K:=fun y1=>bif decide (y1< (xs.length:Int)) then(gi xs y1).bind fun u52=>bif u52==s then some xs else(slM xs 0 y1).bind fun q19=>(apM [] q19).bind fun q24=>(apM q24 [s]).bind fun q31=>(slM xs y1 (xs.length:Int)).bind fun q36=>(apM q31 q36).bind fun q41=>some q41
  else bif false then some xs else(slM xs 0 y1).bind fun q19=>(apM [] q19).bind fun q24=>(apM q24 [s]).bind fun q31=>(slM xs y1 (xs.length:Int)).bind fun q36=>(apM q31 q36).bind fun q41=>some q41) xs.length 0 (xs.length+1) (by omega) (by omega) (fun j hj=>by omega)
 have hk:=zpv s xs
 simp only[Nat.zero_add,List.drop_zero]at h1
 refine h1.trans ?_
 -- the list with s in its place
 have hput:(slM xs 0 ((ahd s xs:Nat):Int)).bind (fun q19=>(apM [] q19).bind fun q24=>(apM q24 [s]).bind fun q31=>(slM xs ((ahd s xs:Nat):Int) (xs.length:Int)).bind fun q36=>(apM q31 q36).bind fun q41=>some q41)=some (xs.take (ahd s xs)++[s]++xs.drop (ahd s xs)):=by
  have hlt:(xs.take (ahd s xs)).length<=xs.length:=by simp;omega
  rw[zfU hk,aA,apN (by omega),aA,ap1 (by omega),aA,zji hk,aA,zgw (by simp[lim];omega),aA]
 have hmem: ∀ a,a∈xs.take (ahd s xs)++[s]++xs.drop (ahd s xs)↔a∈xs\/a=s:=fun a=>by
  have:a∈xs↔a∈xs.take (ahd s xs)\/a∈xs.drop (ahd s xs):=by rw[<- List.mem_append,List.take_append_drop]
  rw[this]
  simp only[List.mem_append,List.mem_singleton]
  constructor
  ·rintro((h |h) |h)
   ·exact .inl (.inl h)
   ·exact .inr h
   ·exact .inl (.inr h)
  ·rintro((h |h) |h)
   ·exact .inl (.inl h)
   ·exact .inr h
   ·exact .inl (.inr h)
 have hfin:(∀ x∈xs.drop (ahd s xs),s<x)->some (xs.take (ahd s xs)++[s]++xs.drop (ahd s xs))=some (zfZ xs s):=by
  intro hd
  congr 1
  refine Asd.ext ?_ (zcR _ _) (fun a=>by rw[hmem,insS_mem])
  have ha':=ha
  rw[<- List.take_append_drop (ahd s xs) xs]at ha'
  obtain⟨p1,p2,p3⟩:=List.pairwise_append.1 ha'
  refine List.pairwise_append.2 ⟨List.pairwise_append.2 ⟨p1,List.pairwise_singleton _ _,fun a h b hb=>?_⟩,p2,fun a h b hb=>?_⟩
  ·rw[List.mem_singleton]at hb;rw[hb];exact zlO s xs a h
  ·rcases List.mem_append.1 h with h2 |h2
   ·exact p3 a h2 b hb
   ·rw[List.mem_singleton]at h2;rw[h2];exact hd b hb
 by_cases hlt:ahd s xs<xs.length
 ·have hx:xs[ahd s xs]? =some xs[ahd s xs]:=aB hlt
  have hge:=zpw s xs _ hx
  rw[aF (by omega),aD,zad hx,aA]
  cases he:xs[ahd s xs]==s with
  |true=>
   have e:xs[ahd s xs]=s:=by simpa using he
   rw[aD]
   congr 1
   exact Asd.ext ha (zcR _ _) (fun a=>by
    rw[insS_mem]
    constructor
    ·exact .inl
    ·rintro(h |h)
     ·exact h
     ·rw[h,<- e];exact List.getElem_mem hlt)
  |false=>
   have e:s≠xs[ahd s xs]:=fun e=>by rw[<- e]at he;simp at he
   rw[aC,hput]
   refine hfin (fun x hx2=>?_)
   rw[aI hlt]at hx2
   have hs1:s<xs[ahd s xs]:=zbD hge e
   rcases List.mem_cons.1 hx2 with h2 |h2
   ·rw[h2];exact hs1
   ·have hp:Asd (xs.drop (ahd s xs)):=List.Pairwise.sublist (List.drop_sublist _ _) ha
    rw[aI hlt]at hp
    exact zba hs1 ((List.pairwise_cons.1 hp).1 x h2)
 ·rw[aE (by omega),aC,aC,hput]
  refine hfin (fun x hx2=>?_)
  rw[List.drop_eq_nil_of_le (by omega)]at hx2
  simp at hx2
def RB (n:Nat)(v:Review):Prop:=v.Branch.length<=4/\v.Into.length<=4/\v.By.length<=4/\LB n v.Yes
theorem RB.fit {n:Nat}{v:Review}(h:RB n v)(hn:n<=1000):Bk.fit v:=
 ⟨by have:=h.1;show v.Branch.length<=maxi;unfold maxi;omega,by have:=h.2.1;show v.Into.length<=maxi;unfold maxi;omega,by have:=h.2.2.1;show v.By.length<=maxi;unfold maxi;omega,h.2.2.2.fit (by omega)⟩
def curS (c:UInt8):Str->Str->List Str
 |w,[]=>[w]
 |w,x::r=>bif x==c then w::curS c [] r else curS c (w++[x]) r
def zeP (c:UInt8):Nat->Str->Str->List Str
 |_,w,[]=>[w]
 |0,w,x::r=>[w++x::r]
 |n+1,w,x::r=>bif x==c then w::zeP c n [] r else zeP c (n+1) (w++[x]) r
theorem zlP (c:UInt8): ∀ (r w:Str),1<=(curS c w r).length
 | [],w=>by simp[curS]
 |x::r,w=>by
  unfold curS
  cases x==c
  ·exact zlP c r _
  ·simp
theorem zeV (c:UInt8)(w r:Str):zeP c 0 w r=[w++r]:=by
 cases r<;>simp[zeP]
theorem zdF (c:UInt8): ∀ (r:Str) (n:Nat) (w:Str),(curS c w r).length<=n+1->zeP c n w r=curS c w r
 | [],n,w,h=>by cases n<;>simp[zeP,curS]
 |x::r,0,w,h=>by
  unfold curS at h ⊢
  cases hx:x==c with
  |true=>
   rw[hx,aD]at h
   have:=zlP c r []
   rw[aL]at h
   omega
  |false=>
   rw[hx,aC]at h
   have ih:=zdF c r 0 (w++[x]) h
   rw[aC,<- ih,zeV,zeV]
   simp
 |x::r,n+1,w,h=>by
  unfold curS at h ⊢
  unfold zeP
  cases hx:x==c with
  |true=>
   rw[hx,aD,aL]at h
   rw[aD,aD,zdF c r n [] (by omega)]
  |false=>
   rw[hx,aC]at h
   rw[aC,aC,zdF c r (n+1) _ h]
theorem zfx (c:UInt8): ∀ (r:Str) (n:Nat) (w:Str),n+1<=(curS c w r).length->(zeP c n w r).length=n+1
 | [],n,w,h=>by
  simp[curS]at h
  subst h
  simp[zeP]
 |x::r,0,w,h=>by simp[zeP]
 |x::r,n+1,w,h=>by
  unfold curS at h
  unfold zeP
  cases hx:x==c with
  |true=>
   rw[hx,aD,aL]at h
   rw[aD,aL,zfx c r n [] (by omega)]
  |false=>
   rw[hx,aC]at h
   rw[aC,zfx c r (n+1) _ h]
theorem zlQ {c:UInt8}{w:Str}(h:c∉w):Lib.index w [c] = -1:=Lib.index_none fun j hj=>by
 cases ho:Lib.occAt w [c] j with
 |false=>rfl
 |true=>exact absurd (aH (Lib.occAt_head rfl ho)) h
theorem znl {c:UInt8}{w r:Str}(h:c∉w):Lib.index (w++c::r) [c]=((w.length:Nat):Int):=Lib.index_first (by simp) (by simp[Lib.occAt,List.isPrefixOf]) fun j hj=>by
 cases ho:Lib.occAt (w++c::r) [c] j with
 |false=>rfl
 |true=>
  have:=Lib.occAt_head rfl ho
  rw[aM hj]at this
  exact absurd (aH this) h
theorem zhH (c:UInt8): ∀ (r w:Str),c∉w->Lib.split (w++r) [c]=curS c w r
 | [],w,h=>by
  unfold Lib.split curS
  rw[List.append_nil,Lib.count_miss (zlQ h)]
  rfl
 |x::r,w,h=>by
  unfold curS
  cases hx:x==c with
  |true=>
   have e:x=c:=by simpa using hx
   subst e
   have hi:=znl (r:=r) h
   rw[aD]
   have ih:=zhH x r [] (by simp)
   unfold Lib.split at ih ⊢
   have hd:(w++x::r).drop (w.length+1)=r:=by
    rw[show w++x::r=(w++[x])++r by simp,List.drop_left' (by simp)]
   have hc:Lib.count (w++x::r) [x]=Lib.count r [x]+1:=by
    rw[Lib.count_hit (by simp) hi]
    show 1+Lib.count ((w++x::r).drop (w.length+1)) [x]=_
    rw[hd]
    omega
   rw[hc]
   unfold Lib.splitK
   rw[if_neg (by rw[hi];simp),hi]
   have e1:(w++x::r).take (((w.length:Nat):Int).toNat+0)=w:=by simp
   have e2:(w++x::r).drop (((w.length:Nat):Int).toNat+[x].length)=r:=hd
   rw[e1,e2]
   simp only[List.nil_append]at ih
   rw[ih]
  |false=>
   have hne:x≠c:=by simpa using hx
   rw[aC,show w++x::r=(w++[x])++r by simp]
   exact zhH c r (w++[x]) (by
    rw[List.mem_append,List.mem_singleton]
    rintro(h1 |h1)
    ·exact h h1
    ·exact hne h1.symm)
theorem zo1 (c:UInt8)(s:Str):Lib.split s [c]=curS c [] s:=zhH c s [] (by simp)
theorem zlR (u c:UInt8):(((UInt8.toNat u:Nat):Int)==((UInt8.toNat c:Nat):Int))=(u==c):=by
 have: ∀ b c:Bool,(b=true↔c=true)->b=c:=by decide
 apply this
 rw[beq_iff_eq,beq_iff_eq,<- UInt8.toNat_inj]
 omega
theorem znG {s:Str}{c:UInt8}{most:Nat}(hs:s.length<=1048576)(hm:most<=1000): ∀ (n:Nat) (out:List Str) (from_ i m:Nat),i+n=s.length->n<m->from_<=i->out.length<=most->
 ze4 s c (most:Int) (fun y3 y6 y7=>(slM s y6 (s.length:Int)).bind fun q38=>(apM y3 [q38]).bind fun q43=>some q43) m out (from_:Int) (i:Int)=some (out++zeP c (most-out.length) ((s.take i).drop from_) (s.drop i))
 |n,out,f,i,0,_,hm,_,_=>by omega
 |n,out,f,i,m+1,hi,hn,hf,ho=>by
  have hdone:(slM s (f:Int) (s.length:Int)).bind (fun q38=>(apM out [q38]).bind fun q43=>some q43)=some (out++[s.drop f]):=by
   rw[zji (by omega),aA,ap1 (by omega),aA]
  have hw:(s.take i).drop f++s.drop i=s.drop f:=by
   rw[<- List.drop_append_of_le_length (by simp;omega),List.take_append_drop]
  simp only[ze4,jn]
  by_cases h1:(i:Int)< (s.length:Int)
  case neg=>
   rw[aE h1,aC,aC,hdone]
   have:s.drop i=[]:=List.drop_eq_nil_of_le (by omega)
   rw[this]at hw ⊢
   rw[List.append_nil]at hw
   rw[hw]
   cases most-out.length<;>simp[zeP]
  rw[aF h1,aD]
  have hlt:i<s.length:=by omega
  have hx:s[i]? =some s[i]:=aB hlt
  by_cases h2:(out.length:Int)< (most:Int)
  case neg=>
   rw[aE h2,aC,hdone]
   have:most-out.length=0:=by omega
   rw[this,zeV,hw]
  obtain⟨n,rfl⟩: ∃ k,n=k+1:=⟨n-1,by omega⟩
  obtain⟨k,hk⟩: ∃ k,most-out.length=k+1:=⟨most-out.length-1,by omega⟩
  rw[aF h2,aD,zi0 hx,aA,zlR,hk,aI hlt]
  unfold zeP
  cases hb:s[i]==c with
  |true=>
   rw[aD,aD,zgd (by omega) (by omega) (by omega),aA,ap1 (by omega),aA,zab hlt (by unfold maxi;omega),znG hs hm n _ (i+1) (i+1) m (by omega) (by omega) (by omega) (by simp;omega)]
   have e1:most-(out++[((s.take ((i:Nat):Int).toNat)).drop ((f:Nat):Int).toNat]).length=k:=by simp;omega
   have e2:(s.take (i+1)).drop (i+1)=[]:=List.drop_eq_nil_of_le (by simp;omega)
   rw[e1,e2]
   simp
  |false=>
   rw[aC,aC,zab hlt (by unfold maxi;omega),znG hs hm n _ f (i+1) m (by omega) (by omega) (by omega) ho,hk]
   have e2:(s.take (i+1)).drop f=(s.take i).drop f++[s[i]]:=by
    rw[List.take_add_one,hx]
    rw[List.drop_append_of_le_length (by simp;omega)]
    rfl
   rw[e2]
theorem zo2 {s:Str}{c:UInt8}{most:Nat}(hs:s.length<=1048576)(hm:most<=1000):zh9 s c (most:Int)=some (zeP c most [] s):=by
 unfold zh9
 simp only[jn]
 have:=znG (c:=c) (most:=most) hs hm s.length [] 0 0 (s.length+1) (by omega) (by omega) (Nat.le_refl _) (by simp)
 simpa using this
def zaL (s:Str):Bool:=decide ((curS 47 [] s).length<=3)&&(curS 47 [] s).all zaF
theorem zjb (c:UInt8): ∀ (r w:Str),∀ p∈curS c w r,p.length<=w.length+r.length
 | [],w,p,h=>by simp[curS]at h;rw[h];omega
 |x::r,w,p,h=>by
  unfold curS at h
  cases hx:x==c with
  |true=>
   rw[hx,aD]at h
   rcases List.mem_cons.1 h with e |e
   ·rw[e];omega
   ·have:=zjb c r [] p e
    simp at this ⊢
    omega
  |false=>
   rw[hx,aC]at h
   have:=zjb c r (w++[x]) p h
   simp at this ⊢
   omega
theorem zgZ (c:UInt8): ∀ (r w:Str),(curS c w r).length<=r.length+1
 | [],w=>by simp[curS]
 |x::r,w=>by
  unfold curS
  cases x==c
  ·have:=zgZ c r (w++[x]);simp at this ⊢;omega
  ·have:=zgZ c r [];simp at this ⊢;omega
theorem zbZ {s:Str}(h:s.length<=1048576):zeM s=some (zaL s):=by
 unfold zeM strings_Split zaL
 rw[if_pos ⟨by omega,by simp⟩,aA,zo1]
 have hl:=zgZ 47 s []
 by_cases h3:(3:Int)< ((curS 47 [] s).length:Int)
 ·rw[aF h3,aD,aE (by omega)];rfl
 rw[aE h3,aC,aF (by omega),Bool.true_and]
 simp only[jn,zak]
 rw[zaU (α:=Str) (xs:=curS 47 [] s) (p:=zaF) (r0:=some false) (Z:=some true) (f:=fun m i=>zcM (curS 47 [] s) (fun _ _=>some true) m false i) (fun m i x hx=>by
  have hf:=zjb 47 s [] x (aH hx)
  simp only[zcM,zaj hx,zad hx,aD,aA,zab (zas hx) (show(curS 47 [] s).length<=maxi by unfold maxi;omega),zcf (show x.length<=maxi by unfold maxi;simp at hf;omega)]
  cases zaF x<;>rfl) (fun m=>by simp only[zcM,zac,aC]) (by omega)]
 cases(curS 47 [] s).all zaF<;>rfl
theorem ziG (c:UInt8): ∀ (r:Str) (n:Nat) (w:Str),∀ p∈zeP c n w r,p.length<=w.length+r.length
 | [],n,w,p,h=>by cases n<;>simp[zeP]at h<;>rw[h]<;>omega
 |x::r,0,w,p,h=>by simp[zeP]at h;rw[h];simp
 |x::r,n+1,w,p,h=>by
  unfold zeP at h
  cases hx:x==c with
  |true=>
   rw[hx,aD]at h
   rcases List.mem_cons.1 h with e |e
   ·rw[e];omega
   ·have:=ziG c r n [] p e
    simp at this ⊢
    omega
  |false=>
   rw[hx,aC]at h
   have:=ziG c r (n+1) (w++[x]) p h
   simp at this ⊢
   omega
theorem zdG {s:Str}(h:s.length<=1048576):zcT s=some (zaL s):=by
 unfold zcT zaL
 have e47:(UInt8.ofNatLT 47 (by decide):UInt8)=47:=by decide
 have hc:=zo2 (c:=UInt8.ofNatLT 47 (by decide)) (most:=3) h (by omega)
 rw[show(3:Int)=((3:Nat):Int) from rfl,hc,aA,e47]
 simp only[jn,zak]
 have hlen:(zeP 47 3 [] s).length<=maxi:=by
  rcases Nat.lt_or_ge (curS 47 [] s).length 4 with h1 |h1
  ·rw[zdF 47 s 3 [] (by omega)];unfold maxi;omega
  ·rw[zfx 47 s 3 [] h1];unfold maxi;omega
 rw[zaU (α:=Str) (xs:=zeP 47 3 [] s) (p:=zaF) (r0:=some false) (Z:=some (decide (((zeP 47 3 [] s).length:Int)<=((3:Nat):Int)))) (f:=fun m i=>zcC (zeP 47 3 [] s) (fun _ _=>some (decide (((zeP 47 3 [] s).length:Int)<=((3:Nat):Int)))) m false i) (fun m i x hx=>by
  have hf:=ziG 47 s 3 [] x (aH hx)
  simp only[zcC,zaj hx,zad hx,aD,aA,zab (zas hx) hlen,za8 (show x.length<=maxi by unfold maxi;simp at hf;omega)]
  cases zaF x<;>rfl) (fun m=>by simp only[zcC,zac,aC]) (by omega)]
 rcases Nat.lt_or_ge (curS 47 [] s).length 4 with h1 |h1
 ·rw[zdF 47 s 3 [] (by omega),aF (show((curS 47 [] s).length:Int)<=((3:Nat):Int) by omega),aF (show(curS 47 [] s).length<=3 by omega)]
  cases(curS 47 [] s).all zaF<;>rfl
 ·rw[zfx 47 s 3 [] h1,aE (show ¬ (curS 47 [] s).length<=3 by omega)]
  cases(zeP 47 3 [] s).all zaF<;>rfl
theorem ziH (a b:Str):(Op.bytesLess a b||a==b) = !Op.bytesLess b a:=by
 rw[zaZ,zaZ]
 by_cases h:b<a
 ·have h1: ¬ a<b:=fun h2=>zar a (zba h2 h)
  have h2: ¬ a=b:=fun e=>by rw[e]at h;exact zar b h
  simp[h,h1,h2]
 ·by_cases e:a=b
  ·simp[h,e]
  ·have:=zbD (ziO.1 h) e
   simp[h,this]
def OB (xs:List Owner):Prop:=xs.length<=1048576 /\ ∀ x∈xs,x.Path.length<=1048576/\x.Who.length<=1048576
theorem OB.of {xs:List Owner}(h:Bk.bulk xs<=1048576):OB xs:=⟨zcu h,fun x hx=>by
 have h1:Bk.bulk x<=1048576:=ziI h hx
 have h2:Bk.bulk x=x.Path.length+x.Who.length:=rfl
 omega⟩
theorem OB.at_ {xs:List Owner}(h:OB xs){i:Nat}{x:Owner}(hx:xs[i]? =some x):x.Path.length<=1048576/\x.Who.length<=1048576:=h.2 x (aH hx)
def za6 (d p:Str):Bool:=(d++[47]).isPrefixOf p
theorem zkR {d p:Str}(hd:d.length<=1048576)(hp:p.length<=1048576)(h1:zaL d=true)(h2:zaL p=true):zbX d p=some (za6 d p):=by
 unfold zbX strings_HasPrefix za6
 have hs:saM d ([47]:Str)=some (d++[47]):=by
  unfold saM
  rw[if_pos]
  simp only[aL,List.length_nil,lim]
  omega
 simp only[jn,zbZ hd,zbZ hp,h1,h2,aA,aD,hs,Lib.hasPrefix]
theorem zhI {c:UInt8}: ∀ {d p:Str},(d++[c]).isPrefixOf p=(p.take d.length==d&&p[d.length]? ==some c)
 | [],[]=>by simp
 | [],x::p=>by
  by_cases e:c=x
  ·subst e;simp[List.isPrefixOf]
  ·have e1:(c==x)=false:=beq_false_of_ne e
   have e2:((some x:Option UInt8)==some c)=false:=beq_false_of_ne (fun h=>e (Option.some.inj h).symm)
   simp only[List.nil_append,List.isPrefixOf,e1,List.length_nil,List.take_zero,List.getElem?_cons_zero,e2,Bool.false_and,Bool.and_false]
 |y::d,[]=>by simp[List.isPrefixOf]
 |y::d,x::p=>by
  have ih:=zhI (c:=c) (d:=d) (p:=p)
  simp only[List.cons_append,List.isPrefixOf,aL,List.take_succ_cons,List.getElem?_cons_succ,ih]
  by_cases e:y=x
  ·subst e
   simp
  ·have e1:(y==x)=false:=beq_false_of_ne e
   have e2:(x==y)=false:=beq_false_of_ne (fun h=>e h.symm)
   simp[e1,e2]
theorem zkL {d p:Str}(hp:p.length<=1048576):zhQ d p=some (za6 d p):=by
 unfold zhQ za6
 simp only[jn]
 rw[zhI]
 by_cases hl:(d.length:Int)< (p.length:Int)
 ·have hlt:d.length<p.length:=by omega
  have hx:p[d.length]? =some p[d.length]:=aB hlt
  rw[aF hl,aD,zfU (by omega),aA,hx]
  cases p.take d.length==d with
  |false=>rfl
  |true=>
   rw[aD,zi0 hx,aA,Bool.true_and]
   congr 1
   have:=(show ∀ u:UInt8,(((UInt8.toNat u:Nat):Int)==(47:Int))=(some u==some (47:UInt8)) from fun u=>by
    have hb:=zlR u 47
    rw[show(((UInt8.toNat (47:UInt8):Nat):Int))=47 from rfl]at hb
    rw[hb]
    simp)
   exact this _
 ·rw[aE hl,aC,List.getElem?_eq_none (by omega)]
  simp
def zrs (s:Str):Bool:=s.all fun c=> !(c==124)
def ziP (t:List Str):Bool:=t.all zrs
theorem znH {t:List Str}(h:Bk.fit t):zgh t=some (ziP t&&zau t):=by
 have hl:=zct h
 unfold zgh ziP
 simp only[jn,zak,zhA h,aA]
 rw[zaU (α:=Str) (xs:=t) (p:=zrs) (r0:=some false) (Z:=some (zau t)) (f:=fun m i=>zbi t (fun _ _=>some (zau t)) m false i) (fun m i x hx=>by
  have hx2:x.length<=maxi:=zgI h hx
  have b124: ∀ u:UInt8,(((UInt8.toNat u:Nat):Int)==(124:Int))=(u==124):=fun u=>by
   have hb:=zlR u 124
   rw[show(((UInt8.toNat (124:UInt8):Nat):Int))=124 from rfl]at hb
   exact hb
  simp only[zbi,zaj hx,zad hx,aD,jn,Option.getD_some]
  rw[zaU (α:=UInt8) (xs:=x) (p:=fun c=> !(c==124)) (r0:=some false) (Z:=zbi t (fun _ _=>some (zau t)) m false ((i+1:Nat):Int)) (f:=fun m' k=>zcZ t (i:Int) (fun y10 y11=>zbi t (fun _ _=>some (zau t)) m y10 (w64 ((i:Int)+1))) m' false k) (fun m' k c hc=>by
   simp only[zcZ,zad hx,aA,zaj hc,aD,zi0 hc,b124,zab (zas hc) hx2]
   cases c==124<;>rfl) (fun m'=>by simp only[zcZ,zad hx,aA,zac,aC,zab (zas hx) hl]) (by omega)]
  rfl) (fun m=>by simp only[zbi,zac,aC]) (by omega)]
 cases t.all zrs<;>rfl
def opB (o:Op):Bool:=
 zaF o.Branch&&(zaF o.Who&&
  (bif o.Kind==1 then zaL o.Path&&(zau o.Text&&(ziP o.Text&&(o.To==[]&&o.At==0)))
   else bif o.Kind==2 then zaL o.Path&&(o.To==[]&&(o.At==0&&(o.Text.length:Int)==0))
   else bif o.Kind==3 then zaL o.Path&&(zaL o.To&&(o.At==0&&(o.Text.length:Int)==0))
   else bif o.Kind==4||o.Kind==5 then zaF o.To&&(o.Path==[]&&(o.At==0&&(o.Text.length:Int)==0))
   else bif o.Kind==6||o.Kind==7 then(decide (0<=o.At)&&decide (o.At<=15))&&(o.Path==[]&&(o.To==[]&&(o.Text.length:Int)==0))
   else false))
structure OpFit (o:Op):Prop where
 fit:Bk.fit o
 path:o.Path.length<=1048576
 to:o.To.length<=1048576
 text:Bk.bulk o.Text<=1048576
theorem OpFit.of {o:Op}(h:Bk.fit o)(hb:Bk.bulk o<=1048576):OpFit o:=by
 have e:Bk.bulk o=Bk.bulk o.Kind+(Bk.bulk o.Branch+(Bk.bulk o.Who+(Bk.bulk o.Path+(Bk.bulk o.To+(Bk.bulk o.At+Bk.bulk o.Text))))):=rfl
 have e1:Bk.bulk o.Path=o.Path.length:=rfl
 have e2:Bk.bulk o.To=o.To.length:=rfl
 exact⟨h,by omega,by omega,by omega⟩
theorem zst (o:Op)(p q r s:Bool):zeR o p q r s=some ((p||o.Path==[])&&((q||o.To==[])&&((r||o.At==0)&&(s||(o.Text.length:Int)==0)))):=by
 unfold zeR
 simp only[jn]
 cases p<;>cases q<;>cases r<;>cases s<;>cases(o.Path==([]:Str))<;>cases(o.To==([]:Str))<;>cases((o.At:Int)==(0:Int))<;>rfl
theorem zqT {o:Op}(h:OpFit o):zjD o=some (opB o):=by
 obtain⟨f0,f1,f2,f3,f4,f5,f6⟩:=h.fit
 unfold zjD opB
 simp only[jn,za8 f1,za8 f2,za8 f4,zdG h.path,zdG h.to,znH f6,zst,aA,zeC]
 cases zaF o.Branch
 ·rfl
 cases zaF o.Who
 ·rfl
 simp only[aK,aC,Bool.true_and,Bool.true_or,Bool.false_or,Bool.and_true]
 cases(o.Kind==(1:Int))
 case true=>cases zaL o.Path<;>cases zau o.Text<;>cases ziP o.Text<;>cases(o.To==([]:Str))<;>cases(o.At==(0:Int))<;>rfl
 cases(o.Kind==(2:Int))
 case true=>cases zaL o.Path<;>cases(o.To==([]:Str))<;>cases(o.At==(0:Int))<;>cases((o.Text.length:Int)==0)<;>rfl
 cases(o.Kind==(3:Int))
 case true=>cases zaL o.Path<;>cases zaL o.To<;>cases(o.At==(0:Int))<;>cases((o.Text.length:Int)==0)<;>rfl
 simp only[aC]
 cases(o.Kind==(4:Int))<;>cases(o.Kind==(5:Int))<;>cases(o.Kind==(6:Int))<;>cases(o.Kind==(7:Int))<;>cases zaF o.To<;>cases(o.Path==([]:Str))<;>cases(o.At==(0:Int))<;>cases(o.To==([]:Str))<;>cases((o.Text.length:Int)==0)<;>cases(decide (0<=o.At)&&decide (o.At<=15))<;>rfl
theorem zfo: ∀ {b c:Bool},(b=true↔c=true)->b=c:=by decide
theorem zlS {i n:Nat}(hi:i<n)(hn:n<=maxi)(h0:(0:Int)< (i:Int)):w64 ((i:Int)-1)=((i-1:Nat):Int):=by
 rw[zag (by omega) (by unfold maxi at hn;omega)];omega
structure FB (f:File):Prop where
 path:f.Path.length<=1048576
 len:f.Text.length<=1048576
 text:Bk.fit f.Text
def TB (t:List File):Prop:=t.length<=1048576 /\ ∀ f∈t,FB f
theorem TB.at_ {t:List File}(h:TB t){i:Nat}{f:File}(hf:t[i]? =some f):FB f:=h.2 f (aH hf)
theorem TB.maxi {t:List File}(h:TB t):t.length<=maxi:=zan h.1
theorem TB.nil:TB []:=⟨by simp,fun f hf=>by simp at hf⟩
def zdH:File:=⟨[],[]⟩
theorem zbK {t:List File}{i:Nat}{f:File}(h:t[i]? =some f):t.getD i zdH=f:=by simp[List.getD,h]
theorem zlT {t:List File}{i:Nat}{f:File}(h:t[i]? =some f)(hl:t.length<=maxi)(h0:(0:Int)< (i:Int)): ∃ y,gi t (w64 ((i:Int)-1))=some y/\t.getD (i-1) zdH=y:=by
 have hi:=zas h
 have hx:t[i-1]? =some t[i-1]:=aB (by omega)
 exact⟨_,by rw[zlS hi hl h0];exact zad hx,zbK hx⟩
def zh1 (t:List File)(i:Nat):Bool:=zaL (t.getD i zdH).Path&&(zau (t.getD i zdH).Text&&(bif decide (0< (i:Int)) then Op.bytesLess (t.getD (i-1) zdH).Path (t.getD i zdH).Path else true))
def zh2 (t:List File)(i:Nat):Bool:=zh1 t i&&t.all fun f=> !za6 (t.getD i zdH).Path f.Path
def zlb (t:List File)(i:Nat):Bool:=zh1 t i&&(t.take i).all fun f=> !(zaL f.Path&&(zaL (t.getD i zdH).Path&&za6 f.Path (t.getD i zdH).Path))
def zaD (t:List File):Bool:=decide ((t.length:Int)<=8)&&zgc (zh2 t) 0 t.length
theorem zqu (d:Str)(x:UInt8)(r:Str):d<d++x::r:=by
 induction d with
 |nil=>exact List.nil_lt_cons _ _
 |cons a d ih=>exact List.cons_lt_cons_self.2 ih
theorem zo3 {d p:Str}(h:za6 d p=true):d<p:=by
 unfold za6 at h
 obtain⟨t,rfl⟩:=List.isPrefixOf_iff_prefix.1 h
 rw[List.append_assoc]
 exact zqu d 47 t
theorem zkS {t:List File}{n:Nat}(h: ∀ i,i<n->zh1 t i=true){i j:Nat}(hij:i<j)(hj:j<n):(t.getD i zdH).Path< (t.getD j zdH).Path:=by
 induction j with
 |zero=>omega
 |succ j ih=>
  have h1:=h (j+1) hj
  unfold zh1 at h1
  rw[aF (by omega),aD,Nat.add_sub_cancel]at h1
  simp only[aG,zaZ,decide_eq_true_eq]at h1
  rcases Nat.lt_or_ge i j with h2 |h2
  ·exact zba (ih h2 (by omega)) h1.2.2
  ·have:i=j:=by omega
   subst this
   exact h1.2.2
theorem zmm (t:List File):zgc (zlb t) 0 t.length=zgc (zh2 t) 0 t.length:=by
 apply zfo
 rw[zaJ,zaJ]
 constructor
 ·intro h
  have hf: ∀ i,i<t.length->zh1 t i=true:=fun i hi=>by
   have:=h i (Nat.zero_le _) (by omega)
   unfold zlb at this
   simp only[aG]at this
   exact this.1
  intro i _ hi
  have hi':i<t.length:=by omega
  unfold zh2
  rw[hf i hi',Bool.true_and,List.all_eq_true]
  intro f hm
  obtain⟨k,hk⟩:=List.mem_iff_getElem?.1 hm
  have hkl:=zas hk
  cases hb:za6 (t.getD i zdH).Path f.Path with
  |false=>rfl
  |true=>
   exfalso
   have hlt:=zo3 hb
   rcases Nat.lt_trichotomy i k with h1 |h1 |h1
   ·have:=h k (Nat.zero_le _) (by omega)
    unfold zlb at this
    simp only[aG,List.all_eq_true]at this
    have h2:=this.2 t[i] (aH (i:=i) (by rw[List.getElem?_take_of_lt h1];exact aB hi'))
    have p1:=hf i hi'
    have p2:=hf k hkl
    unfold zh1 at p1 p2
    simp only[aG]at p1 p2
    rw[zbK hk]at h2 p2
    rw[zbK (aB hi')]at hb p1
    rw[p1.1,p2.1,hb]at h2
    simp at h2
   ·subst h1
    rw[zbK hk]at hlt
    exact zar _ hlt
   ·have:=zkS hf h1 hi'
    rw[zbK hk]at this
    exact zar _ (zba hlt this)
 ·intro h i _ hi
  have hi':i<t.length:=by omega
  have h1:=h i (Nat.zero_le _) hi
  unfold zh2 at h1
  simp only[aG]at h1
  unfold zlb
  rw[h1.1,Bool.true_and,List.all_eq_true]
  intro f hm
  obtain⟨k,hk⟩:=List.mem_iff_getElem?.1 hm
  obtain⟨hk',hki⟩:=show t[k]? =some f/\k<i from by
   rw[List.getElem?_take]at hk
   split at hk
   ·exact⟨hk,by assumption⟩
   ·cases hk
  have h2:=h k (Nat.zero_le _) (by omega)
  unfold zh2 at h2
  simp only[aG,List.all_eq_true]at h2
  have h3:=h2.2 t[i] (List.getElem_mem hi')
  rw[zbK hk']at h3
  rw[zbK (aB hi')]
  have h4:za6 f.Path t[i].Path=false:=by simpa using h3
  rw[h4]
  simp
theorem zgr {t:List File}(h:TB t):zec t=some (zaD t):=by
 have hm:=h.maxi
 unfold zec zaD
 simp only[jn,zak]
 rw[zbe (n:=t.length) (g:=zh2 t) (r0:=some false) (Z:=some (decide ((t.length:Int)<=8))) (f:=fun m i=>zd1 t (fun _ _=>some (decide ((t.length:Int)<=8))) m false i) (fun m i hi=>by
  have hx:t[i]? =some t[i]:=aB hi
  have fx:=h.at_ hx
  simp only[zd1,jn,zaj hx,zad hx,aD,aA,zab hi hm,zdG fx.path,zhA fx.text]
  unfold zh2 zh1
  rw[zbK hx]
  have hin: ∀ K:Bool->Int->Option Bool,zcw t (i:Int) K (t.length+1) false 0=bif t.all (fun f=> !za6 t[i].Path f.Path) then K false (t.length:Int) else some false:=fun K=>by
   rw[zaU (α:=File) (xs:=t) (p:=fun f=> !za6 t[i].Path f.Path) (r0:=some false) (Z:=K false (t.length:Int)) (f:=fun m k=>zcw t (i:Int) K m false k) (fun m k f hf=>by
    simp only[zcw,zaj hf,zad hf,zad hx,aD,aA,zab (zas hf) hm,zkL (h.at_ hf).path]
    cases za6 t[i].Path f.Path<;>rfl) (fun m=>by simp only[zcw,zac,aC]) (by omega)]
  cases zaL t[i].Path
  ·rfl
  cases zau t[i].Text
  ·rfl
  simp only[aK,aC,Bool.true_and]
  by_cases h0:(0:Int)< (i:Int)
  ·obtain⟨y,hy,ey⟩:=zlT hx hm h0
   rw[hy,ey,aF h0]
   simp only[aA,ziH,aD]
   cases Op.bytesLess y.Path t[i].Path
   ·rfl
   ·simp only[aK,aC,Bool.true_and,zak,hin]
  ·rw[aE h0]
   simp only[aC,Bool.true_and,zak,hin]) (fun m=>by simp only[zd1,zac,aC]) _ (by omega)]
 cases decide ((t.length:Int)<=8)<;>cases zgc (zh2 t) 0 t.length<;>rfl
theorem zmn {d p:Str}(hd:d.length<=1048576)(hp:p.length<=1048576):zbX d p=some (zaL d&&(zaL p&&za6 d p)):=by
 cases h1:zaL d with
 |false=>unfold zbX;simp only[jn,zbZ hd,h1,aA,aC,Bool.false_and]
 |true=>
  cases h2:zaL p with
  |false=>unfold zbX;simp only[jn,zbZ hd,zbZ hp,h1,h2,aA,aC,aD,Bool.false_and,Bool.and_false]
  |true=>rw[zkR hd hp h1 h2];rfl
theorem zeW {t:List File}(h:TB t):zda t=some (zaD t):=by
 have hm:=h.maxi
 unfold zda zaD
 by_cases h8:(8:Int)< (t.length:Int)
 ·rw[aF h8,aE (by omega)];rfl
 rw[aE h8,aF (by omega),aC,Bool.true_and,<- zmm]
 simp only[jn,zak]
 rw[zbe (n:=t.length) (g:=zlb t) (r0:=some false) (Z:=some true) (f:=fun m i=>zcN t (fun _ _=>some true) m false i) (fun m i hi=>by
  have hx:t[i]? =some t[i]:=aB hi
  have fx:=h.at_ hx
  simp only[zcN,jn,zaj hx,zad hx,aD,aA,zab hi hm,zbZ fx.path,zhz fx.text,zfU (Nat.le_of_lt hi),zak]
  unfold zlb zh1
  rw[zbK hx]
  have hin: ∀ K:Bool->Int->Option Bool,zbx t[i] (t.take i) K ((t.take i).length+1) false 0=bif(t.take i).all (fun f=> !(zaL f.Path&&(zaL t[i].Path&&za6 f.Path t[i].Path))) then K false ((t.take i).length:Int) else some false:=fun K=>by
   rw[zaU (α:=File) (xs:=t.take i) (p:=fun f=> !(zaL f.Path&&(zaL t[i].Path&&za6 f.Path t[i].Path))) (r0:=some false) (Z:=K false ((t.take i).length:Int)) (f:=fun m k=>zbx t[i] (t.take i) K m false k) (fun m k f hf=>by
    have hf2:FB f:=h.2 f (List.mem_of_mem_take (aH hf))
    simp only[zbx,zaj hf,zad hf,aD,aA,zab (zas hf) (show(t.take i).length<=maxi by simp;omega),zmn hf2.path fx.path]
    cases(zaL f.Path&&(zaL t[i].Path&&za6 f.Path t[i].Path))<;>rfl) (fun m=>by simp only[zbx,zac,aC]) (by omega)]
  cases zau t[i].Text
  ·cases zaL t[i].Path<;>rfl
  cases hp:zaL t[i].Path
  ·rfl
  simp only[aK,aC,Bool.true_and]
  by_cases h0:(0:Int)< (i:Int)
  ·obtain⟨y,hy,ey⟩:=zlT hx hm h0
   rw[hy,ey,aF h0]
   simp only[aA,aD]
   cases Op.bytesLess y.Path t[i].Path
   ·rfl
   ·simp only[aK,aC,Bool.true_and,zak,hin,hp]
  ·rw[aE h0]
   simp only[aC,Bool.true_and,zak,hin,hp]) (fun m=>by simp only[zcN,zac,aC]) _ (by omega)]
 cases zgc (zlb t) 0 t.length<;>rfl
structure CB (c:Commit):Prop where
 par:c.Parents.length<=1048576
 who:c.Who.length<=1048576
 tree:TB c.Tree
structure RpB (r:Repo):Prop where
 coms:r.Commits.length<=1048576
 com: ∀ c∈r.Commits,CB c
 heads:r.Heads.length<=1048576
 head: ∀ h∈r.Heads,h.Name.length<=1048576
theorem RpB.cat {r:Repo}(h:RpB r){i:Nat}{c:Commit}(hc:r.Commits[i]? =some c):CB c:=h.com c (aH hc)
theorem RpB.hat {r:Repo}(h:RpB r){i:Nat}{c:Head}(hc:r.Heads[i]? =some c):c.Name.length<=1048576:=h.head c (aH hc)
def zff:Head:=⟨[],0⟩
theorem zcb {t:List Head}{i:Nat}{f:Head}(h:t[i]? =some f):t.getD i zff=f:=by simp[List.getD,h]
theorem zlU {t:List Head}{i:Nat}{f:Head}(h:t[i]? =some f)(hl:t.length<=maxi)(h0:(0:Int)< (i:Int)): ∃ y,gi t (w64 ((i:Int)-1))=some y/\t.getD (i-1) zff=y:=by
 have hi:=zas h
 have hx:t[i-1]? =some t[i-1]:=aB (by omega)
 exact⟨_,by rw[zlS hi hl h0];exact zad hx,zcb hx⟩
def upB (i p:Int):Bool:=decide (0<=p)&&decide (p<=i-1)
def zpl (ps:List Int):Bool:=match ps with
 | [p,q]=> !(p==q)
 |_=>true
def zmG (i:Int)(c:Commit):Bool:=c.Parents.all (upB i)&&(decide ((c.Parents.length:Int)<=2)&&(zpl c.Parents&&(zaF c.Who&&zaD c.Tree)))
def noCommit:Commit:=⟨[],[],[]⟩
def zoc (cs:List Commit):Bool:=zgc (fun i=>zmG i (cs.getD i noCommit)) 0 cs.length
def zhJ (n:Nat)(hs:List Head)(i:Nat):Bool:=zaF (hs.getD i zff).Name&&(upB n (hs.getD i zff).At&&(bif decide (0< (i:Int)) then Op.bytesLess (hs.getD (i-1) zff).Name (hs.getD i zff).Name else true))
def zdI (n:Nat)(hs:List Head):Bool:=zgc (zhJ n hs) 0 hs.length&&decide ((hs.length:Int)<=5)
def zae (r:Repo):Bool:=decide ((r.Commits.length:Int)<=16)&&(zoc r.Commits&&zdI r.Commits.length r.Heads)
theorem zeD {t:List Commit}{i:Nat}{f:Commit}(h:t[i]? =some f):t.getD i noCommit=f:=by simp[List.getD,h]
theorem ze7 {n:Nat}(hn:n<=maxi):w64 ((n:Int)-1)=(n:Int)-1:=zag (by omega) (by unfold maxi at hn;omega)
def zqv (i:Int)(ps:List Int)(k:Nat):Bool:=upB i (ps.getD k 0) && !(decide (0< (k:Int))&&(ps.getD k 0==ps.getD 0 0))
theorem zcs {t:List Int}{i:Nat}{f:Int}(h:t[i]? =some f):t.getD i 0=f:=by simp[List.getD,h]
theorem znI (i:Int)(ps:List Int)(h2:(ps.length:Int)<=2):zgc (zqv i ps) 0 ps.length=(ps.all (upB i)&&zpl ps):=by
 match ps,h2 with
 | [],_=>rfl
 | [p],_=>simp[zgc,zqv,zpl]
 | [p,q],_=>
  simp only[zgc,zqv,zpl,aL,List.length_nil,List.all_cons,List.all_nil]
  have e:(q==p)=(p==q):=by
   apply zfo;rw[beq_iff_eq,beq_iff_eq];exact eq_comm
  simp[e]
  cases upB i p<;>cases upB i q<;>simp
 |p::q::s::l,h=>simp at h;omega
theorem zvr {i:Nat}{c:Commit}(hi:i<=1048576)(hc:CB c)(K:Bool->Int->Option Bool):zcx (i:Int) c K (c.Parents.length+1) false 0=bif zgc (zqv i c.Parents) 0 c.Parents.length then K false (c.Parents.length:Int) else some false:=by
 have hm:=zan hc.par
 rw[zbe (n:=c.Parents.length) (g:=zqv i c.Parents) (r0:=some false) (Z:=K false (c.Parents.length:Int)) (f:=fun m k=>zcx (i:Int) c K m false k) (fun m k hk=>by
  have hx:c.Parents[k]? =some c.Parents[k]:=aB hk
  have h00:c.Parents[0]? =some c.Parents[0]:=aB (by omega)
  have hg0:gi c.Parents 0=some c.Parents[0]:=zad (i:=0) h00
  simp only[zcx,jn,zaj hx,zad hx,hg0,aD,aA,zab hk hm,zeC,ze7 (show i<=maxi by unfold maxi;omega)]
  unfold zqv
  rw[zcs hx,zcs h00,show(decide ((0:Int)<=c.Parents[k])&&decide (c.Parents[k]<=(i:Int)-1))=upB i c.Parents[k] from rfl]
  cases upB (i:Int) c.Parents[k]
  ·rfl
  ·cases decide ((0:Int)< (k:Int))
   ·rfl
   ·cases(c.Parents[k]==c.Parents[0])<;>rfl) (fun m=>by simp only[zcx,zac,aC]) _ (by omega)]
theorem zvs {r:Repo}(h:RpB r):zcy r (fun _ _=>jn (fun(y128:Bool)=>some y128) fun K130=>bif decide (((r.Commits.length:Int):Int)<=(16:Int)) then(K130 (decide (((r.Heads.length:Int):Int)<=(5:Int)))) else(K130 false)) (r.Heads.length+1) false 0=some (decide ((r.Commits.length:Int)<=16)&&zdI r.Commits.length r.Heads):=by
 have hm:=zan h.heads
 rw[zbe (n:=r.Heads.length) (g:=zhJ r.Commits.length r.Heads) (r0:=some false) (Z:=some (decide ((r.Commits.length:Int)<=16)&&decide ((r.Heads.length:Int)<=5))) (f:=fun m k=>zcy r _ m false k) (fun m k hk=>by
  have hx:r.Heads[k]? =some r.Heads[k]:=aB hk
  simp only[zcy,jn,zaj hx,zad hx,aD,aA,zab hk hm,zeC,ze7 (zan h.coms),za8 (zan (h.hat hx))]
  unfold zhJ
  rw[zcb hx,show(decide ((0:Int)<=r.Heads[k].At)&&decide (r.Heads[k].At<=(r.Commits.length:Int)-1))=upB r.Commits.length r.Heads[k].At from rfl]
  cases zaF r.Heads[k].Name
  ·rfl
  cases upB r.Commits.length r.Heads[k].At
  ·rfl
  by_cases h0:(0:Int)< (k:Int)
  ·obtain⟨y,hy,ey⟩:=zlU hx hm h0
   rw[hy,ey,aF h0]
   simp only[aA,ziH]
   cases Op.bytesLess y.Name r.Heads[k].Name<;>rfl
  ·rw[aE h0];rfl) (fun m=>by
   simp only[zcy,zac,aC,jn]
   cases decide ((r.Commits.length:Int)<=16)<;>rfl) _ (by omega)]
 unfold zdI
 cases zgc (zhJ r.Commits.length r.Heads) 0 r.Heads.length<;>cases decide ((r.Commits.length:Int)<=16)<;>rfl
theorem zdJ {r:Repo}(h:RpB r):zcQ r=some (zae r):=by
 have hm:=zan h.coms
 unfold zcQ zae zoc
 simp only[jn,zak]
 have h3:=zvs h
 simp only[jn]at h3
 rw[zbe (n:=r.Commits.length) (g:=fun i=>zmG i (r.Commits.getD i noCommit)) (r0:=some false) (Z:=some (decide ((r.Commits.length:Int)<=16)&&zdI r.Commits.length r.Heads)) (f:=fun m i=>zd2 r _ m false i) (fun m i hi=>by
  have hx:r.Commits[i]? =some r.Commits[i]:=aB hi
  have hc:=h.cat hx
  have hco:=h.coms
  simp only[zd2,jn,zaj hx,zad hx,aD,aA,zab hi hm,zak,zvr (show i<=1048576 by omega) hc,zeD hx]
  unfold zmG
  by_cases h2:(2:Int)< (r.Commits[i].Parents.length:Int)
  ·rw[aF h2,aE (show ¬ (r.Commits[i].Parents.length:Int)<=2 by omega)]
   simp only[aD,Bool.false_and,Bool.and_false,aC]
   cases zgc (zqv i r.Commits[i].Parents) 0 r.Commits[i].Parents.length<;>rfl
  ·rw[aE h2,aF (show(r.Commits[i].Parents.length:Int)<=2 by omega),znI _ _ (by omega)]
   simp only[aC,Bool.true_and,za8 (zan hc.who),zgr hc.tree,aA]
   cases r.Commits[i].Parents.all (upB i)<;>cases zpl r.Commits[i].Parents<;>cases zaF r.Commits[i].Who<;>cases zaD r.Commits[i].Tree<;>rfl) (fun m=>by
   simp only[zd2,zac,aC,jn,zak,h3]) _ (by omega)]
 cases zgc (fun i=>zmG i (r.Commits.getD i noCommit)) 0 r.Commits.length<;>cases decide ((r.Commits.length:Int)<=16)<;>rfl
theorem zmo {r:Repo}(h:RpB r){hs:List Head}(hl:hs.length<=1048576)(hn: ∀ h∈hs,h.Name.length<=1048576):zfO r hs=some (zdI r.Commits.length hs):=by
 have hm:=zan hl
 unfold zfO zdI
 by_cases h5:(5:Int)< (hs.length:Int)
 ·rw[aF h5,aE (show ¬ (hs.length:Int)<=5 by omega),Bool.and_false];rfl
 rw[aE h5,aF (show(hs.length:Int)<=5 by omega),aC,Bool.and_true]
 simp only[jn,zak]
 rw[zbe (n:=hs.length) (g:=zhJ r.Commits.length hs) (r0:=some false) (Z:=some true) (f:=fun m k=>zb6 r hs (fun _ _=>some true) m false k) (fun m k hk=>by
  have hx:hs[k]? =some hs[k]:=aB hk
  simp only[zb6,zbI,jn,zaj hx,zad hx,aD,aA,zab hk hm,zfV,ze7 (zan h.coms),zcf (zan (hn _ (aH hx)))]
  unfold zhJ
  rw[zcb hx,show(decide ((0:Int)<=hs[k].At)&&decide (hs[k].At<=(r.Commits.length:Int)-1))=upB r.Commits.length hs[k].At from rfl]
  cases zaF hs[k].Name
  ·rfl
  cases upB r.Commits.length hs[k].At
  ·rfl
  by_cases h0:(0:Int)< (k:Int)
  ·obtain⟨y,hy,ey⟩:=zlU hx hm h0
   rw[hy,ey,aF h0]
   simp only[aA]
   cases Op.bytesLess y.Name hs[k].Name<;>rfl
  ·rw[aE h0];rfl) (fun m=>by simp only[zb6,zac,aC]) _ (by omega)]
 cases zgc (zhJ r.Commits.length hs) 0 hs.length<;>rfl
theorem zjr {r:Repo}(h:RpB r):zfa r=some (zae r):=by
 have hm:=zan h.coms
 unfold zfa zae zoc
 by_cases h16:(16:Int)< (r.Commits.length:Int)
 ·rw[aF h16,aE (by omega)];rfl
 rw[aE h16,aF (by omega),aC,Bool.true_and]
 simp only[jn,zak]
 rw[zbe (n:=r.Commits.length) (g:=fun i=>zmG i (r.Commits.getD i noCommit)) (r0:=some false) (Z:=some (zdI r.Commits.length r.Heads)) (f:=fun m i=>zcO r _ m false i) (fun m i hi=>by
  have hx:r.Commits[i]? =some r.Commits[i]:=aB hi
  have hc:=h.cat hx
  have hco:=h.coms
  have hpm:=zan hc.par
  have hin: ∀ K:Bool->Int->Option Bool,zby (i:Int) r.Commits[i] K (r.Commits[i].Parents.length+1) false 0=bif r.Commits[i].Parents.all (upB i) then K false (r.Commits[i].Parents.length:Int) else some false:=fun K=>by
   rw[zaU (α:=Int) (xs:=r.Commits[i].Parents) (p:=upB i) (r0:=some false) (Z:=K false (r.Commits[i].Parents.length:Int)) (f:=fun m k=>zby (i:Int) r.Commits[i] K m false k) (fun m k p hp=>by
    simp only[zby,zaj hp,zad hp,aD,aA,zab (zas hp) hpm,zfV,ze7 (show i<=maxi by unfold maxi;omega)]
    rw[show(decide ((0:Int)<=p)&&decide (p<=(i:Int)-1))=upB i p from rfl]
    cases upB i p<;>rfl) (fun m=>by simp only[zby,zac,aC]) (by omega)]
  simp only[zcO,jn,zaj hx,zad hx,aD,aA,zab hi hm,zak,hin,zeD hx,zcf (zan hc.who),zeW hc.tree]
  unfold zmG
  match hps:r.Commits[i].Parents with
  | []=>cases zaF r.Commits[i].Who<;>cases zaD r.Commits[i].Tree<;>rfl
  | [p]=>
   simp only[aL,List.length_nil,List.all_cons,List.all_nil,zpl]
   cases upB i p<;>cases zaF r.Commits[i].Who<;>cases zaD r.Commits[i].Tree<;>rfl
  | [p,q]=>
   simp only[aL,List.length_nil,List.all_cons,List.all_nil,zpl,gi,List.getElem?_cons_zero,List.getElem?_cons_succ,Int.toNat_zero,Int.toNat_one]
   cases upB i p<;>cases upB i q<;>cases hpq:p==q<;>cases zaF r.Commits[i].Who<;>cases zaD r.Commits[i].Tree<;>simp[hpq]<;>rfl
  |p::q::s::l=>
   rw[aF (by simp only[aL];omega),aE (show ¬ (((p::q::s::l).length:Nat):Int)<=2 by simp only[aL];omega)]
   simp only[aD,Bool.false_and,Bool.and_false,aC]) (fun m=>by
   simp only[zcO,zac,aC,jn,zmo h h.heads h.head,aA]) _ (by omega)]
 cases zgc (fun i=>zmG i (r.Commits.getD i noCommit)) 0 r.Commits.length<;>rfl
def atB (r:Repo)(name:Str):Int:=match r.Heads.find? (fun h=>h.Name==name)with
 |some h=>h.At
 |none=> -1
theorem zdC {r:Repo}(h:RpB r)(name:Str):zc3 r name=some (atB r name):=by
 have hm:=zan h.heads
 unfold zc3 atB
 simp only[jn,zak]
 rw[zdy (p:=fun h:Head=>h.Name==name) (xs:=r.Heads) (r:=fun h=>some h.At) (Z:=some (-1)) (f:=fun m k=>zd3 r name _ m 0 k) (fun m i x hx=>by
  simp only[zd3,zaj hx,zad hx,aD,aA,zab (zas hx) hm]) (fun m=>by simp only[zd3,zac,aC]) (by omega)]
 cases r.Heads.find? (fun h=>h.Name==name)<;>rfl
theorem zoB {r:Repo}(h:RpB r)(a:Int):zbI r a=some (upB r.Commits.length a):=by
 unfold zbI
 rw[ze7 (zan h.coms),zfV,aA]
 rfl
theorem zax {n:Nat}{a:Int}:upB n a=true↔0<=a/\a<=(n:Int)-1:=by
 unfold upB
 simp only[aG,decide_eq_true_eq]
theorem zxb {r:Repo}(h:RpB r){l:List Int}(hl:l.length<=100000):zio r l=some (zae r&&l.all (upB r.Commits.length)):=by
 unfold zio
 rw[zjr h,aA]
 cases zae r with
 |false=>rfl
 |true=>
  rw[aK,aC,Bool.true_and]
  simp only[jn,zak]
  rw[zaU (α:=Int) (xs:=l) (p:=upB r.Commits.length) (r0:=some false) (Z:=some true) (f:=fun m k=>zey r l (fun _ _=>some true) m false k) (fun m k p hp=>by
   simp only[zey,zaj hp,zad hp,aD,aA,zab (zas hp) (show l.length<=maxi by unfold maxi;omega),zoB h]
   cases upB r.Commits.length p<;>rfl) (fun m=>by simp only[zey,zac,aC]) (by omega)]
  cases l.all (upB r.Commits.length)<;>rfl
theorem zek {t:List File}(h:TB t):zdp t=some t:=by
 have hm:=h.maxi
 have hl:=h.1
 unfold zdp
 simp only[jn,zak]
 rw[zdD (xs:=t) (p:=fun _=>true) (g:=fun f:File=>f) (Z:=fun acc=>some acc) (f:=fun m acc i=>zcF t _ m acc i) (fun m i x acc hx ha=>by
  have hi:=zas hx
  simp only[zcF,zaj hx,zad hx,aD,aA,zab hi hm,apN (h.at_ hx).len,ap1 (show acc.length<=1048576 by omega)]) (fun m acc=>by simp only[zcF,zac,aC]) (by omega)]
 simp
theorem zhK {c:Commit}(h:CB c):zcW c=some c:=by
 unfold zcW
 rw[apN h.par,aA,zek h.tree,aA]
theorem zel {r:Repo}(h:RpB r):zbl r=some r:=by
 have hm:=zan h.coms
 have hl:=h.coms
 unfold zbl
 simp only[jn,zak,apN h.heads,aA]
 rw[zdD (xs:=r.Commits) (p:=fun _=>true) (g:=fun f:Commit=>f) (Z:=fun acc=>some (Repo.mk acc r.Heads)) (f:=fun m acc i=>zcG r _ m i acc r.Heads) (fun m i x acc hx ha=>by
  have hi:=zas hx
  simp only[zcG,zaj hx,zad hx,aD,aA,zab hi hm,zhK (h.cat hx),ap1 (show acc.length<=1048576 by omega)]) (fun m acc=>by simp only[zcG,zac,aC]) (by omega)]
 rw[show((r.Commits.filter fun _=>true).map fun f:Commit=>f)=r.Commits by simp]
def zfe (n:Str)(a:Int):Bool->List Head->List Head
 |put,[]=>bif put then [] else [⟨n,a⟩]
 |put,h::hs=>(bif !put && !Op.bytesLess h.Name n then [⟨n,a⟩] else [])++((bif h.Name !=n then [h] else [])++zfe n a (put || !Op.bytesLess h.Name n) hs)
theorem zid (n:Str)(a:Int): ∀ (hs:List Head) (put:Bool),(zfe n a put hs).length+(bif put then 1 else 0)<=hs.length+1
 | [],put=>by cases put<;>simp[zfe]
 |h::hs,put=>by
  have ih:=zid n a hs (put || !Op.bytesLess h.Name n)
  unfold zfe
  cases put<;>cases hb:Op.bytesLess h.Name n<;>cases hn:(h.Name !=n)<;>simp[hb]at ih ⊢ <;>omega
theorem putH_mem (n:Str)(a:Int): ∀ (hs:List Head) (put:Bool) (x:Head),x∈zfe n a put hs->x∈hs\/x=⟨n,a⟩
 | [],put,x,h=>by cases put<;>simp[zfe]at h;exact .inr h
 |h::hs,put,x,hx=>by
  unfold zfe at hx
  rcases List.mem_append.1 hx with h1 |h1
  ·cases hc:(!put && !Op.bytesLess h.Name n)with
   |true=>rw[hc]at h1;simp at h1;exact .inr h1
   |false=>rw[hc]at h1;simp at h1
  ·rcases List.mem_append.1 h1 with h2 |h2
   ·cases hc:(h.Name !=n)with
    |true=>rw[hc]at h2;simp at h2;exact .inl (by rw[h2];simp)
    |false=>rw[hc]at h2;simp at h2
   ·rcases putH_mem n a hs _ x h2 with h3 |h3
    ·exact .inl (List.mem_cons_of_mem _ h3)
    ·exact .inr h3
theorem zj3 {r:Repo}(h:RpB r)(hs:r.Heads.length<=100000)(n:Str)(a:Int)(cs:List Commit): ∀ (k i m:Nat) (put:Bool) (out:List Head),i+k=r.Heads.length->k<m->out.length<=2*i->
 zcH r n a (fun y14 _ y16 y19=>bif(!y14) then((apM y19 [Vm.Head.mk n a]).bind fun q160=>some (Vm.Repo.mk y16 q160)) else some (Vm.Repo.mk y16 y19)) m put (i:Int) cs out=some ⟨cs,out++zfe n a put (r.Heads.drop i)⟩
 |k,i,0,put,out,_,hm,_=>by omega
 |0,i,m+1,put,out,hi,_,ho=>by
  obtain rfl:i=r.Heads.length:=by omega
  simp only[zcH,zac,aC,List.drop_length]
  cases put
  ·simp only[Bool.not_false,aD,ap1 (show out.length<=1048576 by omega),aA,zfe,aC]
  ·simp[zfe]
 |k+1,i,m+1,put,out,hi,hm,ho=>by
  have hlt:i<r.Heads.length:=by omega
  have hx:r.Heads[i]? =some r.Heads[i]:=aB hlt
  have hd:r.Heads.drop i=r.Heads[i]::r.Heads.drop (i+1):=aI hlt
  have hw:=zab hlt (zan h.heads)
  have ih:=fun put out ho=>zj3 h hs n a cs k (i+1) m put out (by omega) (by omega) ho
  simp only[zcH,jn,zaj hx,zad hx,aD,aA,hw]
  rw[hd]
  unfold zfe
  have e1:=ap1 (x:=Vm.Head.mk n a) (show out.length<=1048576 by omega)
  have e2:=ap1 (x:=r.Heads[i]) (show out.length<=1048576 by omega)
  have e3:apM (out++[Vm.Head.mk n a]) [r.Heads[i]]=some (out++([Vm.Head.mk n a]++[r.Heads[i]])):=by rw[ap1 (show(out++[Vm.Head.mk n a]).length<=1048576 by simp;omega),List.append_assoc]
  have l1:(out++[r.Heads[i]]).length<=2*(i+1):=by simp;omega
  have l2:(out++[Vm.Head.mk n a]).length<=2*(i+1):=by simp;omega
  have l3:(out++([Vm.Head.mk n a]++[r.Heads[i]])).length<=2*(i+1):=by simp;omega
  have l0:out.length<=2*(i+1):=by omega
  cases put<;>cases Op.bytesLess r.Heads[i].Name n<;>cases(r.Heads[i].Name !=n)<;>
   simp only[aK,Bool.not_false,aD,aC,e1,e2,e3,aA,Bool.and_true,Bool.and_false,Bool.or_true,Bool.or_false,Bool.true_and,Bool.false_and,Bool.true_or,Bool.false_or,ih _ _ l0,ih _ _ l1,ih _ _ l2,ih _ _ l3,List.append_assoc,List.nil_append]
def headR (r:Repo)(n:Str)(a:Int):Repo:=⟨r.Commits,zfe n a false r.Heads⟩
theorem zie {r:Repo}(h:RpB r)(hs:r.Heads.length<=100000)(n:Str)(a:Int):zfB r n a=some (headR r n a):=by
 unfold zfB headR
 simp only[jn,zak]
 have:=zj3 h hs n a r.Commits r.Heads.length 0 (r.Heads.length+1) false [] (by omega) (by omega) (by simp)
 simpa using this
theorem RpB.headR {r:Repo}(h:RpB r)(hs:r.Heads.length<=100000){n:Str}(hn:n.length<=1048576)(a:Int):RpB (headR r n a):=
 ⟨h.coms,h.com,by have:=zid n a r.Heads false;simp at this;show(zfe n a false r.Heads).length<=_;omega,fun x hx=>by
  rcases putH_mem n a r.Heads false x hx with h1 |h1
  ·exact h.head x h1
  ·rw[h1];exact hn⟩
def addR (r:Repo)(n:Str)(c:Commit):Repo:=⟨r.Commits++[c],zfe n r.Commits.length false r.Heads⟩
theorem RpB.push {r:Repo}(h:RpB r){c:Commit}(hc:CB c)(hl:r.Commits.length<=100000):RpB ⟨r.Commits++[c],r.Heads⟩:=
 ⟨by simp;omega,fun x hx=>by
  rcases List.mem_append.1 hx with h1 |h1
  ·exact h.com x h1
  ·rw[List.mem_singleton]at h1;rw[h1];exact hc,h.heads,h.head⟩
theorem RpB.addR {r:Repo}(h:RpB r)(hl:r.Commits.length<=100000)(hs:r.Heads.length<=100000){n:Str}(hn:n.length<=1048576){c:Commit}(hc:CB c):RpB (addR r n c):=
 (h.push hc hl).headR hs hn _
theorem zmH {r:Repo}(h:RpB r)(hl:r.Commits.length<=100000)(hs:r.Heads.length<=100000)(n:Str){c:Commit}(hc:CB c):zdP r n c=some (addR r n c):=by
 unfold zdP
 rw[apN h.coms,aA,ap1 h.coms,aA,zie (h.push hc hl) hs,aA]
 rfl
theorem zah {r:Repo}(h:zae r=true):r.Commits.length<=16/\r.Heads.length<=5:=by
 unfold zae zdI at h
 simp only[aG,decide_eq_true_eq]at h
 omega
def zhL (r:Repo)(n who:Str)(t:List File):Commit:=⟨bif decide (0<=atB r n) then [atB r n] else [],who,t⟩
def zb0:Repo:=⟨[],[]⟩
def zfy (r:Repo)(n who:Str)(t:List File):Repo×Bool:=bif zae r then(bif zae (addR r n (zhL r n who t)) then(addR r n (zhL r n who t),true) else(r,false)) else(zb0,false)
theorem CB.next {r:Repo}{n who:Str}{t:List File}(hw:who.length<=1048576)(ht:TB t):CB (zhL r n who t):=
 ⟨by unfold zhL;cases decide (0<=atB r n)<;>simp,hw,ht⟩
theorem zkT {r:Repo}(h:RpB r){n who:Str}{t:List File}(hn:n.length<=1048576)(hw:who.length<=1048576)(ht:TB t):ze2 r n who t=some (zfy r n who t):=by
 unfold ze2 zfy
 rw[zdJ h,aA]
 cases hr:zae r with
 |false=>rfl
 |true=>
  obtain⟨s1,s2⟩:=zah hr
  have hc:CB (zhL r n who t):=CB.next hw ht
  have ha:=zmH h (by omega) (by omega) n hc
  have hb:=h.addR (by omega) (by omega) hn hc
  have hfin:(zbl r).bind (fun z57=>(zdP ⟨z57.Commits,z57.Heads⟩ n (zhL r n who t)).bind fun z66=>(zcQ z66).bind fun z204=>bif(!z204) then((zbl r).bind fun z219=>some (Vm.Repo.mk z219.Commits z219.Heads,false)) else(some (z66,true)))=some (bif zae (addR r n (zhL r n who t)) then(addR r n (zhL r n who t),true) else(r,false)):=by
   rw[zel h,aA,show(⟨r.Commits,r.Heads⟩:Repo)=r from rfl,ha,aA,zdJ hb,aA]
   cases zae (addR r n (zhL r n who t))<;>rfl
  rw[aK,aC,aD,zek ht,aA]
  simp only[jn,zdC h,aA]
  unfold zhL at hfin ⊢
  cases hd:decide (0<=atB r n)<;>rw[hd]at hfin<;>exact hfin
def zhM (r:Repo)(n:Str)(a:Int):Repo×Bool:=bif zae r then(bif decide (0<=atB r n) || !zae (headR r n a) then(r,false) else(headR r n a,true)) else(zb0,false)
theorem zkU {r:Repo}(h:RpB r){n:Str}(hn:n.length<=1048576)(a:Int):zdv r n a=some (zhM r n a):=by
 unfold zdv zhM
 rw[zdJ h,aA]
 cases hr:zae r with
 |false=>rfl
 |true=>
  obtain⟨s1,s2⟩:=zah hr
  rw[aK,aC,aD,zel h,aA,show(⟨r.Commits,r.Heads⟩:Repo)=r from rfl,zie h (by omega),aA]
  simp only[jn,zdC h,aA,zdJ (h.headR (by omega) hn a)]
  cases decide (0<=atB r n)<;>cases zae (headR r n a)<;>rfl
def putF (g:File):Bool->List File->List File
 |put,[]=>bif put then [] else [g]
 |put,f::fs=>(bif !put && !Op.bytesLess f.Path g.Path then [g] else [])++((bif f.Path !=g.Path then [f] else [])++putF g (put || !Op.bytesLess f.Path g.Path) fs)
theorem zk5 (g:File): ∀ (hs:List File) (put:Bool),(putF g put hs).length+(bif put then 1 else 0)<=hs.length+1
 | [],put=>by cases put<;>simp[putF]
 |h::hs,put=>by
  have ih:=zk5 g hs (put || !Op.bytesLess h.Path g.Path)
  unfold putF
  cases put<;>cases hb:Op.bytesLess h.Path g.Path<;>cases hn:(h.Path !=g.Path)<;>simp[hb]at ih ⊢ <;>omega
theorem putF_mem (g:File): ∀ (hs:List File) (put:Bool) (x:File),x∈putF g put hs->x∈hs\/x=g
 | [],put,x,h=>by cases put<;>simp[putF]at h;exact .inr h
 |h::hs,put,x,hx=>by
  unfold putF at hx
  rcases List.mem_append.1 hx with h1 |h1
  ·cases hc:(!put && !Op.bytesLess h.Path g.Path)with
   |true=>rw[hc]at h1;simp at h1;exact .inr h1
   |false=>rw[hc]at h1;simp at h1
  ·rcases List.mem_append.1 h1 with h2 |h2
   ·cases hc:(h.Path !=g.Path)with
    |true=>rw[hc]at h2;simp at h2;exact .inl (by rw[h2];simp)
    |false=>rw[hc]at h2;simp at h2
   ·rcases putF_mem g hs _ x h2 with h3 |h3
    ·exact .inl (List.mem_cons_of_mem _ h3)
    ·exact .inr h3
theorem TB.putF {t:List File}(h:TB t)(hs:t.length<=100000){g:File}(hg:FB g):TB (putF g false t):=
 ⟨by have:=zk5 g t false;simp at this;omega,fun x hx=>by
  rcases putF_mem g t false x hx with h1 |h1
  ·exact h.2 x h1
  ·rw[h1];exact hg⟩
theorem zog {t:List File}(h:TB t)(hs:t.length<=100000){g:File}(hg:FB g){K:List File->Bool->Int->Option (List File)}(hK: ∀ out put j,out.length<=2*t.length->K out put j=some (bif put then out else out++[g])): ∀ (k i m:Nat) (put:Bool) (out:List File),i+k=t.length->k<m->out.length<=2*i->
 zeI t g K m out put (i:Int)=some (out++putF g put (t.drop i))
 |k,i,0,put,out,_,hm,_=>by omega
 |0,i,m+1,put,out,hi,_,ho=>by
  obtain rfl:i=t.length:=by omega
  simp only[zeI,zac,aC,List.drop_length,hK out put _ ho]
  cases put<;>simp[putF]
 |k+1,i,m+1,put,out,hi,hm,ho=>by
  have hlt:i<t.length:=by omega
  have hx:t[i]? =some t[i]:=aB hlt
  have hd:t.drop i=t[i]::t.drop (i+1):=aI hlt
  have hw:=zab hlt h.maxi
  have ih:=fun put out ho=>zog h hs hg hK k (i+1) m put out (by omega) (by omega) ho
  simp only[zeI,jn,zaj hx,zad hx,aD,aA,hw,apN hg.len]
  rw[hd]
  unfold putF
  have e1:=ap1 (x:=g) (show out.length<=1048576 by omega)
  have e2:=ap1 (x:=t[i]) (show out.length<=1048576 by omega)
  have e3:apM (out++[g]) [t[i]]=some (out++([g]++[t[i]])):=by rw[ap1 (show(out++[g]).length<=1048576 by simp;omega),List.append_assoc]
  have l1:(out++[t[i]]).length<=2*(i+1):=by simp;omega
  have l2:(out++[g]).length<=2*(i+1):=by simp;omega
  have l3:(out++([g]++[t[i]])).length<=2*(i+1):=by simp;omega
  have l0:out.length<=2*(i+1):=by omega
  have eg:Vm.File.mk g.Path g.Text=g:=rfl
  cases put<;>cases Op.bytesLess t[i].Path g.Path<;>cases(t[i].Path !=g.Path)<;>
   simp only[aK,Bool.not_false,aD,aC,eg,e1,e2,e3,aA,Bool.and_true,Bool.and_false,Bool.or_true,Bool.or_false,Bool.true_and,Bool.false_and,Bool.true_or,Bool.false_or,ih _ _ l0,ih _ _ l1,ih _ _ l2,ih _ _ l3,List.append_assoc,List.nil_append]
theorem zoh {t:List File}(h:TB t)(hs:t.length<=100000){g:File}(hg:FB g):zgJ t g=some (putF g false t):=by
 unfold zgJ
 simp only[jn,zak]
 have:=zog h hs hg (K:=fun y6 y9 _=>bif(!y9) then((apM ([]:List Str) g.Text).bind fun q126=>(apM y6 [Vm.File.mk g.Path q126]).bind fun q144=>some q144) else some y6) (fun out put j ho=>by
  cases put
  ·simp only[Bool.not_false,aD,aC,apN hg.len,ap1 (show out.length<=1048576 by omega),aA]
  ·rfl) t.length 0 (t.length+1) false [] (by omega) (by omega) (by simp)
 simpa using this
theorem zaw {t:List File}(h:zaD t=true):t.length<=8:=by
 unfold zaD at h
 simp only[aG,decide_eq_true_eq]at h
 omega
def zsu (t:List File)(g:File):List File×Bool:=bif zaD t then(bif zaD (putF g false t) then(putF g false t,true) else(t,false)) else([],false)
theorem znJ {t:List File}(h:TB t){g:File}(hg:FB g):zfm t g=some (zsu t g):=by
 unfold zfm zsu
 rw[zgr h,aA]
 cases ht:zaD t with
 |false=>rfl
 |true=>
  have hs:=zaw ht
  rw[aK,aC,aD,zek h,aA,zoh h (by omega) hg,aA,zgr (h.putF (by omega) hg),aA]
  cases zaD (putF g false t)<;>rfl
def zrt (p:Str)(f:File):Bool:=f.Path !=p && !za6 p f.Path
def dropF (p:Str)(t:List File):List File:=t.filter (zrt p)
theorem zmM {t:List File}(h:TB t)(p:Str):zhS t p=some (dropF p t):=by
 have hm:=h.maxi
 have hl:=h.1
 unfold zhS dropF
 simp only[jn,zak]
 rw[zdD (xs:=t) (p:=zrt p) (g:=fun f:File=>f) (Z:=fun acc=>some acc) (f:=fun m acc i=>zdU t p _ m acc i) (fun m i x acc hx ha=>by
  have hi:=zas hx
  simp only[zdU,jn,zaj hx,zad hx,aD,aA,zab hi hm,ap1 (show acc.length<=1048576 by omega),zkL (h.at_ hx).path]
  unfold zrt
  cases(x.Path !=p)<;>cases za6 p x.Path<;>rfl) (fun m acc=>by simp only[zdU,zac,aC]) (by omega)]
 simp
theorem TB.dropF {t:List File}(h:TB t)(p:Str):TB (dropF p t):=⟨Nat.le_trans (List.length_filter_le _ _) h.1,fun f hf=>h.2 f ((List.mem_filter.1 hf).1)⟩
def zti (t:List File)(p:Str):List File×Bool:=bif zaD t then(dropF p t,decide (((dropF p t).length:Int)< (t.length:Int))) else([],false)
theorem zmN {t:List File}(h:TB t)(p:Str):zeJ t p=some (zti t p):=by
 unfold zeJ zti
 rw[zgr h,aA]
 cases zaD t with
 |false=>rfl
 |true=>rw[aK,aC,aD,zek h,aA,zmM h,aA]
theorem zfS {r:Repo}(h:zae r=true){i:Nat}(hi:i<r.Commits.length):zmG i (r.Commits.getD i noCommit)=true:=by
 unfold zae zoc at h
 simp only[aG]at h
 exact zaJ.1 h.2.1 i (Nat.zero_le _) (by omega)
def zaf (r:Repo)(i:Nat):List Int:=(r.Commits.getD i noCommit).Parents
theorem zaW {r:Repo}(h:zae r=true){i:Nat}(hi:i<r.Commits.length):(zaf r i).length<=2 /\ ∀ p∈zaf r i,0<=p/\p<=(i:Int)-1:=by
 have:=zfS h hi
 unfold zmG at this
 simp only[aG,decide_eq_true_eq,List.all_eq_true]at this
 obtain⟨h1,h2,_⟩:=this
 refine⟨by unfold zaf;omega,fun p hp=>?_⟩
 have:=h1 p hp
 unfold upB at this
 simp only[aG,decide_eq_true_eq]at this
 exact this
theorem zj4 {r:Repo}{i:Nat}(hi:i<r.Commits.length):gi r.Commits (i:Int)=some (r.Commits.getD i noCommit):=by
 rw[zeD (aB hi)]
 exact zad (aB hi)
theorem zg4 {r:Repo}(h:zae r=true){x:Head}(hx:x∈r.Heads):0<=x.At/\x.At<=(r.Commits.length:Int)-1/\zaF x.Name=true:=by
 obtain⟨i,hi⟩:=List.mem_iff_getElem?.1 hx
 unfold zae zdI at h
 simp only[aG]at h
 have:=zaJ.1 h.2.2.1 i (Nat.zero_le _) (by have:=zas hi;omega)
 unfold zhJ upB at this
 rw[zcb hi]at this
 simp only[aG,decide_eq_true_eq]at this
 exact⟨this.2.1.1,this.2.1.2,this.1⟩
theorem at_range {r:Repo}(h:zae r=true)(n:Str):atB r n = -1\/(0<=atB r n/\atB r n<=(r.Commits.length:Int)-1):=by
 unfold atB
 cases hf:r.Heads.find? (fun h=>h.Name==n)with
 |none=>exact .inl rfl
 |some x=>
  have:=zg4 h (List.mem_of_find?_eq_some hf)
  exact .inr ⟨this.1,this.2.1⟩
def zmO (mk:List Bool)(p:Int):List Bool:=mk.set p.toNat true
theorem zif (mk:List Bool)(p:Int):(zmO mk p).length=mk.length:=by simp[zmO]
theorem zj5: ∀ (ps:List Int) (mk:List Bool),(ps.foldl zmO mk).length=mk.length
 | [],mk=>rfl
 |p::ps,mk=>by rw[List.foldl_cons,zj5 ps,zif]
def zlc (r:Repo)(i:Nat)(mk:List Bool):List Bool:=bif mk.getD i false then(zaf r i).foldl zmO mk else mk
theorem zgs (r:Repo)(i:Nat)(mk:List Bool):(zlc r i mk).length=mk.length:=by
 unfold zlc
 cases mk.getD i false
 ·rfl
 ·exact zj5 _ _
def ze8 (r:Repo):Nat->List Bool->List Bool
 |0,mk=>mk
 |i+1,mk=>ze8 r i (zlc r i mk)
theorem ziQ (r:Repo): ∀ (i:Nat) (mk:List Bool),(ze8 r i mk).length=mk.length
 |0,mk=>rfl
 |i+1,mk=>by unfold ze8;rw[ziQ r i,zgs]
def zay (r:Repo)(a:Nat):List Bool:=ze8 r (a+1) ((List.replicate r.Commits.length false).set a true)
theorem zbr (r:Repo)(a:Nat):(zay r a).length=r.Commits.length:=by unfold zay;rw[ziQ];simp
def zld (mk:List Bool):List Int:=((List.range mk.length).filter fun i=>mk.getD i false).map Int.ofNat
def za4 (r:Repo)(a:Int):List Int:=zld (zay r a.toNat)
theorem zcS {mk:List Bool}{i:Nat}(h:i<mk.length):gi mk (i:Int)=some (mk.getD i false):=by
 have hx:mk[i]? =some mk[i]:=aB h
 rw[zad hx]
 simp[List.getD,hx]
theorem znK {mk:List Bool}{p:Int}{i:Nat}(h:mk.getD i false=true):(zmO mk p).getD i false=true:=by
 unfold zmO
 by_cases e:p.toNat=i
 ·subst e
  have hl:p.toNat<mk.length:=by
   rcases Nat.lt_or_ge p.toNat mk.length with h1 |h1
   ·exact h1
   ·rw[List.getD,List.getElem?_eq_none (by omega)]at h;simp at h
  simp[List.getD,hl]
 ·simp only[List.getD,List.getElem?_set_ne e]at h ⊢
  exact h
theorem zpx {r:Repo}(h:zae r=true){i:Nat}(hi:i<r.Commits.length){F:List Bool->Option (List Int)}: ∀ (j k m:Nat) (mk:List Bool),k+j=(zaf r i).length->j<m->mk.length=r.Commits.length->
 zdg r (i:Int) (fun _ y27=>F y27) m (k:Int) mk=F (bif mk.getD i false then((zaf r i).drop k).foldl zmO mk else mk)
 |j,k,0,mk,_,hm,_=>by omega
 |0,k,m+1,mk,hk,_,hl=>by
  obtain rfl:k=(zaf r i).length:=by omega
  have e:(r.Commits.getD i noCommit).Parents=zaf r i:=rfl
  simp only[zdg,jn,zj4 hi,aA,e,zac,aC,List.drop_length,List.foldl_nil]
  cases mk.getD i false<;>rfl
 |j+1,k,m+1,mk,hk,hm,hl=>by
  have hlt:k< (zaf r i).length:=by omega
  have hx:(zaf r i)[k]? =some (zaf r i)[k]:=aB hlt
  obtain⟨hs,hp⟩:=zaW h hi
  obtain⟨p0,p1⟩:=hp _ (List.getElem_mem hlt)
  have e:(r.Commits.getD i noCommit).Parents=zaf r i:=rfl
  have hn:(((zaf r i)[k].toNat:Nat):Int)=(zaf r i)[k]:=by omega
  have hg:gi mk (zaf r i)[k]=some (mk.getD (zaf r i)[k].toNat false):=by
   rw[<- hn]
   exact zcS (by omega)
  have hsi:siM mk (zaf r i)[k] true=some (zmO mk (zaf r i)[k]):=by
   have:=zbs (xs:=mk) (i:=(zaf r i)[k].toNat) (by omega) true
   rw[hn]at this
   exact this
  simp only[zdg,jn,zj4 hi,aA,e,zaj hx,aD,zcS (show i<mk.length by omega),zad hx,hg,hsi]
  cases hb:mk.getD i false with
  |false=>rfl
  |true=>
   rw[aD,aD,zab hlt (by unfold maxi;omega),zpx h hi j (k+1) m _ (by omega) (by omega) (by rw[zif];exact hl),znK hb,aD,aI hlt,List.foldl_cons]
theorem zpy {r:Repo}(h:zae r=true){F:List Bool->Option (List Int)}: ∀ (i m:Nat) (mk:List Bool),i<=r.Commits.length->i<m->mk.length=r.Commits.length->
 zbR r (fun _ y=>F y) m ((i:Int)-1) mk=F (ze8 r i mk)
 |i,0,mk,_,hm,_=>by omega
 |0,m+1,mk,_,_,_=>by
  simp only[zbR]
  rw[aE (by omega)]
  rfl
 |i+1,m+1,mk,hi,hm,hl=>by
  have hs:=(zah h).1
  have e:(((i+1:Nat):Int))-1=(i:Int):=by omega
  simp only[zbR,jn,e]
  rw[aF (by omega),aD]
  have hp:=(zaW h (show i<r.Commits.length by omega)).1
  have h2:=zpx h (show i<r.Commits.length by omega) (F:=fun y27=>zbR r (fun _ y=>F y) m (w64 ((i:Int)-1)) y27) (zaf r i).length 0 4 mk (by omega) (by omega) hl
  refine(h2).trans ?_
  rw[ze7 (show i<=maxi by unfold maxi;omega)]
  refine(zpy h i m _ (by omega) (by omega) ?_).trans rfl
  have:=zgs r i mk
  unfold zlc at this
  rw[List.drop_zero,this]
  exact hl
theorem znL {mk:List Bool}(hl:mk.length<=1000): ∀ (k i m:Nat) (out:List Int),i+k=mk.length->k<m->out.length<=i->
 zbQ mk (fun y69 _=>some y69) m out (i:Int)=some (out++((List.range' i k).filter fun i=>mk.getD i false).map Int.ofNat)
 |k,i,0,out,_,hm,_=>by omega
 |0,i,m+1,out,hi,_,_=>by
  obtain rfl:i=mk.length:=by omega
  simp only[zbQ,zac,aC]
  simp
 |k+1,i,m+1,out,hi,hm,ho=>by
  have hlt:i<mk.length:=by omega
  have hx:mk[i]? =some mk[i]:=aB hlt
  simp only[zbQ,jn,zaj hx,aD,zcS hlt,aA,zab hlt (show mk.length<=maxi by unfold maxi;omega),ap1 (x:=(i:Int)) (show out.length<=1048576 by omega)]
  rw[List.range'_succ,List.filter_cons]
  cases hb:mk.getD i false with
  |true=>
   rw[aD,znL hl k (i+1) m _ (by omega) (by omega) (by simp;omega),if_pos rfl]
   simp
  |false=>
   rw[aC,znL hl k (i+1) m _ (by omega) (by omega) (by omega),if_neg (by simp)]
theorem zfz {r:Repo}(h:zae r=true){a:Int}(h0:0<=a)(h1:a<=(r.Commits.length:Int)-1):zfI r a=some (za4 r a):=by
 have hs:=(zah h).1
 obtain⟨n,rfl⟩:=Int.eq_ofNat_of_zero_le h0
 have hn:n<r.Commits.length:=by omega
 have hl:(List.replicate r.Commits.length false).length=r.Commits.length:=by simp
 unfold zfI
 rw[zhP (by simp[lim];omega),aA,zcS (by rw[hl];exact hn),aA,zbs (by rw[hl];exact hn),aA]
 simp only[jn,zak]
 have e:=zpy h (F:=fun y18=>zbQ y18 (fun y69 _=>some y69) (y18.length+1) ([]:List Int) 0) (n+1) (((n:Int)+1-0).toNat+1) ((List.replicate r.Commits.length false).set n true) (by omega) (by omega) (by simp)
 rw[show(((n+1:Nat):Int))-1=(n:Int) by omega]at e
 refine e.trans ?_
 have hml:=zbr r n
 unfold zay at hml
 have e3:=znL (mk:=ze8 r (n+1) ((List.replicate r.Commits.length false).set n true)) (by omega) r.Commits.length 0 (r.Commits.length+1) [] (by omega) (by omega) (by simp)
 rw[hml]
 refine e3.trans ?_
 unfold za4 zld zay
 rw[Int.toNat_natCast,hml,List.range_eq_range']
 rfl
theorem zbh {r:Repo}{a x:Int}(h:x∈za4 r a):0<=x/\x<=(r.Commits.length:Int)-1:=by
 unfold za4 zld at h
 rw[zbr]at h
 obtain⟨i,hi,rfl⟩:=List.mem_map.1 h
 have:=List.mem_range.1 (List.mem_filter.1 hi).1
 constructor
 ·exact Int.natCast_nonneg i
 ·show(i:Int)<=_;omega
theorem zc1 (r:Repo)(a:Int):(za4 r a).length<=r.Commits.length:=by
 unfold za4 zld
 rw[zbr,List.length_map]
 exact Nat.le_trans (List.length_filter_le _ _) (by simp)
def zfp (l:List Int)(n:Int):Bool:=l.any fun x=>x==n
theorem zg5 {l:List Int}(hl:l.length<=1000000)(n:Int):zf1 l n=some (zfp l n):=by
 unfold zf1 zfp
 simp only[jn,zak]
 rw[zdy (p:=fun x:Int=>x==n) (xs:=l) (r:=fun _=>some true) (Z:=some false) (f:=fun m k=>zdh l n _ m false k) (fun m i x hx=>by
  simp only[zdh,zaj hx,zad hx,aD,aA,zab (zas hx) (show l.length<=maxi by unfold maxi;omega)]) (fun m=>by simp only[zdh,zac,aC]) (by omega)]
 cases hf:l.find? (fun x=>x==n)with
 |some x=>
  have:l.any (fun x=>x==n)=true:=List.any_eq_true.2 ⟨x,List.mem_of_find?_eq_some hf,by simpa using List.find?_some hf⟩
  rw[this]
 |none=>
  have:l.any (fun x=>x==n)=false:=by
   rw[List.any_eq_false]
   intro x hx
   have:=List.find?_eq_none.1 hf x hx
   simpa using this
  rw[this]
def znd (r:Repo)(l:List Int)(i:Nat):Bool:=zgc (fun k=>((k:Int)==(i:Int)) || !zfp (za4 r (l.getD k 0)) (l.getD i 0)) 0 l.length
def zmd (p:Nat->Bool)(l:List Int):List Int:=((List.range l.length).filter p).map fun i=>l.getD i 0
def zbH (r:Repo)(a b:Int):List Int:=(za4 r a).filter (zfp (za4 r b))
def zaE (r:Repo)(a b:Int):List Int:=zmd (znd r (zbH r a b)) (zbH r a b)
theorem zg6 {l:List Int}{i:Nat}(h:i<l.length):gi l (i:Int)=some (l.getD i 0):=by
 rw[zcs (aB h)]
 exact zad (aB h)
theorem zlV {r:Repo}(h:zae r=true){l:List Int}(hl:l.length<=1000)(hm: ∀ x∈l,0<=x/\x<=(r.Commits.length:Int)-1){i:Nat}(hi:i<l.length){F:Bool->Option (List Int)}: ∀ (n k m:Nat) (b:Bool),k+n=l.length->n<m->
 zbB r l (i:Int) (fun y _=>F y) m b (k:Int)=F (b&&zgc (fun k=>((k:Int)==(i:Int)) || !zfp (za4 r (l.getD k 0)) (l.getD i 0)) k n)
 |n,k,0,b,_,hm'=>by omega
 |0,k,m+1,b,hk,_=>by
  obtain rfl:k=l.length:=by omega
  simp only[zbB,zac,aC,zgc,Bool.and_true]
 |n+1,k,m+1,b,hk,hm'=>by
  have hlt:k<l.length:=by omega
  have hx:l[k]? =some l[k]:=aB hlt
  have hs:=(zah h).1
  obtain⟨q0,q1⟩:=hm _ (List.getElem_mem hlt)
  have hal:=zc1 r l[k]
  have ih:=fun b=>zlV h hl hm hi (F:=F) n (k+1) m b (by omega) (by omega)
  simp only[zbB,zaj hx,aD,zab hlt (show l.length<=maxi by unfold maxi;omega),zad hx,zg6 hi,aA,zfz h q0 q1,zg5 (show(za4 r l[k]).length<=1000000 by omega),ih,zgc,zcs hx]
  cases b<;>cases((k:Int)==(i:Int))<;>simp
theorem zjc {r:Repo}(h:zae r=true){l:List Int}(hl:l.length<=1000)(hm: ∀ x∈l,0<=x/\x<=(r.Commits.length:Int)-1): ∀ (k i m:Nat) (out:List Int),i+k=l.length->k<m->out.length<=i->
 zaO r l (fun y _=>some y) m out (i:Int)=some (out++((List.range' i k).filter (znd r l)).map fun i=>l.getD i 0)
 |k,i,0,out,_,hm',_=>by omega
 |0,i,m+1,out,hi,_,_=>by
  obtain rfl:i=l.length:=by omega
  simp only[zaO,zac,aC]
  simp
 |k+1,i,m+1,out,hi,hm',ho=>by
  have hlt:i<l.length:=by omega
  have hx:l[i]? =some l[i]:=aB hlt
  have h3:=zlV h hl hm hlt (F:=fun y104=>bif y104 then((gi l (i:Int)).bind fun u151=>(apM out [u151]).bind fun q160=>zaO r l (fun y _=>some y) m q160 (w64 ((i:Int)+1))) else zaO r l (fun y _=>some y) m out (w64 ((i:Int)+1))) l.length 0 (l.length+1) true (by omega) (by omega)
  simp only[zaO,jn,zaj hx,aD,zak]
  refine h3.trans ?_
  rw[Bool.true_and,List.range'_succ,List.filter_cons,zab hlt (show l.length<=maxi by unfold maxi;omega)]
  show(bif znd r l i then _ else _)=_
  cases hb:znd r l i with
  |true=>
   rw[aD,zad hx,aA,ap1 (show out.length<=1048576 by omega),aA,zjc h hl hm k (i+1) m _ (by omega) (by omega) (by simp;omega),if_pos rfl]
   simp[hx]
  |false=>
   rw[aC,zjc h hl hm k (i+1) m _ (by omega) (by omega) (by omega),if_neg (by simp)]
theorem zmp {r:Repo}(h:zae r=true){a b:Int}(ha:0<=a)(ha':a<=(r.Commits.length:Int)-1)(hb:0<=b)(hb':b<=(r.Commits.length:Int)-1):zfL r a b=some (zaE r a b):=by
 have hs:=(zah h).1
 have la:=zc1 r a
 have lb:=zc1 r b
 unfold zfL
 rw[zfz h ha ha',aA,zfz h hb hb',aA]
 simp only[jn,zak]
 have hl:(zbH r a b).length<=1000:=Nat.le_trans (List.length_filter_le _ _) (by omega)
 have hm: ∀ x∈zbH r a b,0<=x/\x<=(r.Commits.length:Int)-1:=fun x hx=>zbh (List.mem_filter.1 hx).1
 rw[zdD (xs:=za4 r a) (p:=zfp (za4 r b)) (g:=fun x:Int=>x) (Z:=fun acc=>zaO r acc (fun y _=>some y) (acc.length+1) ([]:List Int) 0) (f:=fun m acc i=>zb2 (za4 r a) (za4 r b) _ m acc i) (fun m i x acc hx hacc=>by
  have hi:=zas hx
  simp only[zb2,jn,zaj hx,zad hx,aD,aA,zab hi (show(za4 r a).length<=maxi by unfold maxi;omega),zg5 (show(za4 r b).length<=1000000 by omega),ap1 (show acc.length<=1048576 by omega)]
  cases zfp (za4 r b) x<;>rfl) (fun m acc=>by simp only[zb2,zac,aC]) (by omega)]
 have e:((za4 r a).filter (zfp (za4 r b))).map (fun x=>x)=zbH r a b:=by simp[zbH]
 rw[e]
 have:=zjc h hl hm (zbH r a b).length 0 ((zbH r a b).length+1) [] (by omega) (by omega) (by simp)
 refine this.trans ?_
 unfold zaE zmd
 rw[List.range_eq_range']
 rfl
theorem ziR {r:Repo}{a b x:Int}(h:x∈zaE r a b):0<=x/\x<=(r.Commits.length:Int)-1:=by
 unfold zaE zmd at h
 obtain⟨i,hi,rfl⟩:=List.mem_map.1 h
 have hr:=List.mem_range.1 (List.mem_filter.1 hi).1
 rw[zcs (aB hr)]
 exact zbh (List.mem_filter.1 (List.getElem_mem hr)).1
theorem zkV (r:Repo)(a b:Int):(zaE r a b).length<=r.Commits.length:=by
 unfold zaE zmd
 rw[List.length_map]
 refine Nat.le_trans (List.length_filter_le _ _) ?_
 rw[List.length_range]
 exact Nat.le_trans (List.length_filter_le _ _) (zc1 r a)
def zjO (s:List Str)(p:Part):Option (List Str):=bif p.Clash then none else some (s++p.Lines)
def zeh (ps:List Part):List Str×Bool:=match ps.foldlM zjO []with
 |some s=>okT s
 |none=>([],false)
theorem zlW {i:Nat}{s s':List Str}{p:Part}(hp:p.Lines.length<=22000)(hpl: ∀ x∈p.Lines,zde x=true)(hI:zte i s)(hst:zjO s p=some s'):zte (i+1) s':=by
 unfold zjO at hst
 cases hc:p.Clash with
 |true=>rw[hc]at hst;cases hst
 |false=>
  rw[hc,aC]at hst
  cases hst
  refine⟨by rw[List.length_append];have:=hI.1;omega,fun x hx=>?_⟩
  rcases List.mem_append.1 hx with h1 |h1
  ·exact hI.2 x h1
  ·exact hpl x h1
theorem znM {o a b:List Str}(hto:zau o=true)(hta:zau a=true)(htb:zau b=true):zgO (za5 o a b)=some (zeh (za5 o a b)):=by
 obtain⟨hlen,hparts⟩:=zkQ hto hta htb
 unfold zgO zeh
 simp only[jn,zak]
 obtain⟨h1,h2⟩:=zku (xs:=za5 o a b) (step:=zjO) (r0:=some (([]:List Str),false)) (Inv:=zte) (s0:=[]) (Z:=fun s=>(zc2 s).bind fun z30=>bif(!z30) then(some (([]:List Str),false)) else(some (s,true))) (f:=fun m s i=>zcI (za5 o a b) (fun _ _ y7 _=>(zc2 y7).bind fun z30=>bif(!z30) then(some (([]:List Str),false)) else(some (y7,true))) m [] false s i) (fun m i p s hx hI=>by
  have hi:=zas hx
  obtain⟨p1,p2,_⟩:=hparts p (aH hx)
  refine⟨?_,fun s' hst=>zlW p1 p2 hI hst⟩
  have hs:=hI.1
  simp only[zcI,zaj hx,zad hx,aD,aA,zab hi (show(za5 o a b).length<=maxi by unfold maxi;omega),apT (show s.length<=1000000 by omega) (show p.Lines.length<=1000000 by omega)]
  unfold zjO
  cases p.Clash<;>rfl) (fun m s hI=>by simp only[zcI,zac,aC]) (m:=(za5 o a b).length+1) (by omega) ⟨by simp,by simp⟩
 refine h1.trans ?_
 cases hf:(za5 o a b).foldlM zjO []with
 |none=>rfl
 |some s=>
  have hI:=h2 s hf
  have hs:=hI.1
  show(zc2 s).bind _=some (okT s)
  rw[zhA (zce (by omega) hI.2),aA]
  unfold okT
  cases zau s<;>rfl
theorem znN {ps:List Part}:(zeh ps).2=true->zau (zeh ps).1=true:=by
 unfold zeh okT
 cases ps.foldlM zjO []with
 |none=>intro h;cases h
 |some s=>
  show(bif zau s then(s,true) else(([]:List Str),false)).2=true->zau (bif zau s then(s,true) else(([]:List Str),false)).1=true
  cases ht:zau s with
  |true=>intro _;exact ht
  |false=>intro h;cases h
def getT (t:List File)(p:Str):List Str×Bool:=match t.find? (fun f=>f.Path==p)with
 |some f=>(f.Text,true)
 |none=>([],false)
theorem zei {t:List File}(h:TB t)(p:Str):zdN t p=some (getT t p):=by
 have hm:=h.maxi
 unfold zdN getT
 simp only[jn,zak]
 rw[zdy (p:=fun f:File=>f.Path==p) (xs:=t) (r:=fun f=>some (f.Text,true)) (Z:=some (([]:List Str),false)) (f:=fun m k=>zdi t p _ m [] false k) (fun m i x hx=>by
  simp only[zdi,zaj hx,zad hx,aD,aA,zab (zas hx) hm]) (fun m=>by simp only[zdi,zac,aC]) (by omega)]
 cases t.find? (fun f=>f.Path==p)<;>rfl
theorem zlX {t:List File}(h:TB t)(p:Str):(getT t p).1.length<=1048576/\Bk.fit (getT t p).1:=by
 unfold getT
 cases hf:t.find? (fun f=>f.Path==p)with
 |some f=>
  have:=h.2 f (List.mem_of_find?_eq_some hf)
  exact⟨this.len,this.text⟩
 |none=>exact⟨by simp,by simp[maxi],by simp⟩
def zaQ (t:List File):Prop:= ∀ f∈t,zau f.Text=true
theorem zbc {t:List File}(h:zaQ t)(p:Str):zau (getT t p).1=true:=by
 unfold getT
 cases hf:t.find? (fun f=>f.Path==p)with
 |some f=>exact h f (List.mem_of_find?_eq_some hf)
 |none=>rfl
def zgL (a b:List Str×Bool):Bool:=(a.2==b.2)&&(bif a.2 then a.1==b.1 else true)
theorem zj6 {a b:List Str×Bool}(h:a.1.length<=1048576):zfC a.1 a.2 b.1 b.2=some (zgL a b):=by
 unfold zfC zgL
 simp only[jn,zeU (zan h),aA]
 cases a.2<;>cases b.2<;>rfl
def oneF (o a b:List File)(p:Str):List Str×Bool×Int:=
 let zo:=getT o p;let za:=getT a p;let zb:=getT b p
 bif zgL za zo||zgL za zb then(zb.1,zb.2,0)
 else bif zgL zb zo then(za.1,za.2,0)
 else bif !za.2 || !zb.2 then(zo.1,zo.2,1)
 else bif !zo.2 then([],false,2)
 else bif(zeh (za5 zo.1 za.1 zb.1)).2 then((zeh (za5 zo.1 za.1 zb.1)).1,true,0) else(zo.1,true,3)
theorem zo4 {o a b:List File}(ho:TB o)(ha:TB a)(hb:TB b)(to:zaQ o)(ta:zaQ a)(tb:zaQ b)(p:Str):zia o a b p=some (oneF o a b p):=by
 have eo:=zbc to p
 have ea:=zbc ta p
 have eb:=zbc tb p
 have lo:=zam eo
 have la:=zam ea
 have lb:=zam eb
 unfold zia oneF
 simp only[jn,zei ho,zei ha,zei hb,aA,zj6 (a:=getT a p) (zlX ha p).1,zj6 (a:=getT b p) (zlX hb p).1,zqt (show(getT o p).1.length<=1000 by omega) (show(getT a p).1.length<=1000 by omega) (show(getT b p).1.length<=1000 by omega),znM eo ea eb]
 cases zgL (getT a p) (getT o p)<;>cases zgL (getT a p) (getT b p)<;>cases zgL (getT b p) (getT o p)<;>cases(getT a p).2<;>cases(getT b p).2<;>cases(getT o p).2<;>cases(zeh (za5 (getT o p).1 (getT a p).1 (getT b p).1)).2<;>rfl
theorem zj7 {o a b:List File}(to:zaQ o)(ta:zaQ a)(tb:zaQ b)(p:Str):zau (oneF o a b p).1=true:=by
 have eo:=zbc to p
 have ea:=zbc ta p
 have eb:=zbc tb p
 unfold oneF
 simp only
 cases zgL (getT a p) (getT o p)||zgL (getT a p) (getT b p)with
 |true=>exact eb
 |false=>
  cases zgL (getT b p) (getT o p)with
  |true=>exact ea
  |false=>
   cases !(getT a p).2 || !(getT b p).2 with
   |true=>exact eo
   |false=>
    cases !(getT o p).2 with
    |true=>rfl
    |false=>
     cases hl:(zeh (za5 (getT o p).1 (getT a p).1 (getT b p).1)).2 with
     |true=>exact znN hl
     |false=>exact eo
def zcg (o a b:List File):List Str:=(b.map (·.Path)).foldl zfZ ((a.map (·.Path)).foldl zfZ ((o.map (·.Path)).foldl zfZ []))
theorem zeX: ∀ (ps:List Str) (l:List Str),Asd l->Asd (ps.foldl zfZ l)
 | [],l,h=>h
 |p::ps,l,h=>zeX ps _ (zcR _ _)
theorem zdo: ∀ (ps:List Str) (l:List Str),(ps.foldl zfZ l).length<=l.length+ps.length
 | [],l=>by simp
 |p::ps,l=>by
  have h1:=zdo ps (zfZ l p)
  have h2:=zdf l p
  simp only[List.foldl_cons,aL]
  omega
theorem zfA: ∀ (ps:List Str) (l:List Str) (x:Str),x∈ps.foldl zfZ l↔x∈l\/x∈ps
 | [],l,x=>by simp
 |p::ps,l,x=>by
  rw[List.foldl_cons,zfA ps,insS_mem,List.mem_cons]
  constructor
  ·rintro((h |h) |h)
   ·exact .inl h
   ·exact .inr (.inl h)
   ·exact .inr (.inr h)
  ·rintro(h |h |h)
   ·exact .inl (.inl h)
   ·exact .inl (.inr h)
   ·exact .inr h
theorem zeE {t:List File} (h:TB t) (ht:t.length<=1000) {f:Nat->List Str->Int->Option (List Str)} {Z:List Str->Option (List Str)}
 (hs: ∀ m (i:Nat) x acc,t[i]? =some x->f (m+1) acc (i:Int)=(zdO acc x.Path).bind fun z=>f m z (w64 ((i:Int)+1))) (he: ∀ m acc,f (m+1) acc (t.length:Int)=Z acc): ∀ (k i m:Nat) (acc:List Str),i+k=t.length->k<m->Asd acc->acc.length<=10000+i->
 f m acc (i:Int)=Z (((t.drop i).map (·.Path)).foldl zfZ acc)
 |k,i,0,acc,_,hm,_,_=>by omega
 |0,i,m+1,acc,hi,_,_,_=>by
  obtain rfl:i=t.length:=by omega
  rw[he,List.drop_length];rfl
 |k+1,i,m+1,acc,hi,hm,ha,hl=>by
  have hlt:i<t.length:=by omega
  have hx:t[i]? =some t[i]:=aB hlt
  have hil:=zdf acc t[i].Path
  rw[hs m i _ acc hx,ziF (by omega) ha,aA,zab hlt h.maxi,zeE h ht hs he k (i+1) m _ (by omega) (by omega) (zcR _ _) (by omega),aI hlt]
  rfl
theorem zmq {o a b:List File}(ho:TB o)(ha:TB a)(hb:TB b)(so:o.length<=100)(sa:a.length<=100)(sb:b.length<=100):zfN o a b=some (zcg o a b):=by
 unfold zfN zcg
 simp only[jn,zak]
 have l1:=zdo (o.map (·.Path)) []
 have l2:=zdo (a.map (·.Path)) ((o.map (·.Path)).foldl zfZ [])
 have a0:Asd ([]:List Str):=List.Pairwise.nil
 have a1:=zeX (o.map (·.Path)) [] a0
 have a2:=zeX (a.map (·.Path)) _ a1
 simp only[List.length_map,List.length_nil]at l1 l2
 have e3:=fun acc (h1:Asd acc) (h2:acc.length<=10000)=>zeE hb (by omega) (f:=fun m acc i=>zaH b (fun y40 _=>some y40) m acc i) (Z:=fun acc=>some acc) (fun m i x acc hx=>by simp only[zaH,zaj hx,zad hx,aD,aA]) (fun m acc=>by simp only[zaH,zac,aC]) b.length 0 (b.length+1) acc (by omega) (by omega) h1 (by omega)
 have e2:=fun acc (h1:Asd acc) (h2:acc.length<=10000)=>zeE ha (by omega) (f:=fun m acc i=>za2 a (fun y23 _=>zaH b (fun y40 _=>some y40) (b.length+1) y23 0) m acc i) (Z:=fun acc=>zaH b (fun y40 _=>some y40) (b.length+1) acc 0) (fun m i x acc hx=>by simp only[za2,zaj hx,zad hx,aD,aA]) (fun m acc=>by simp only[za2,zac,aC]) a.length 0 (a.length+1) acc (by omega) (by omega) h1 (by omega)
 have e1:=fun acc (h1:Asd acc) (h2:acc.length<=10000)=>zeE ho (by omega) (f:=fun m acc i=>zb5 o (fun y6 _=>za2 a (fun y23 _=>zaH b (fun y40 _=>some y40) (b.length+1) y23 0) (a.length+1) y6 0) m acc i) (Z:=fun acc=>za2 a (fun y23 _=>zaH b (fun y40 _=>some y40) (b.length+1) y23 0) (a.length+1) acc 0) (fun m i x acc hx=>by simp only[zb5,zaj hx,zad hx,aD,aA]) (fun m acc=>by simp only[zb5,zac,aC]) o.length 0 (o.length+1) acc (by omega) (by omega) h1 (by omega)
 refine(e1 [] a0 (by simp)).trans ?_
 rw[List.drop_zero]
 refine(e2 _ a1 (by omega)).trans ?_
 rw[List.drop_zero]
 refine(e3 _ a2 (by omega)).trans ?_
 rw[List.drop_zero]
theorem zhr (o a b:List File):(zcg o a b).length<=o.length+a.length+b.length:=by
 unfold zcg
 have l1:=zdo (o.map (·.Path)) []
 have l2:=zdo (a.map (·.Path)) ((o.map (·.Path)).foldl zfZ [])
 have l3:=zdo (b.map (·.Path)) ((a.map (·.Path)).foldl zfZ ((o.map (·.Path)).foldl zfZ []))
 simp only[List.length_map,List.length_nil]at l1 l2 l3
 omega
theorem pathsF_mem {o a b:List File}{x:Str}:x∈zcg o a b↔ (∃ f∈o,f.Path=x)\/(∃ f∈a,f.Path=x)\/(∃ f∈b,f.Path=x):=by
 unfold zcg
 rw[zfA,zfA,zfA]
 simp only[List.mem_map,List.not_mem_nil,false_or]
 constructor
 ·rintro((h |h) |h)
  ·exact .inl h
  ·exact .inr (.inl h)
  ·exact .inr (.inr h)
 ·rintro(h |h |h)
  ·exact .inl (.inl h)
  ·exact .inl (.inr h)
  ·exact .inr h
def zle (o a b:List File)(p:Str):Option File:=bif(oneF o a b p).2.1 then some ⟨p,(oneF o a b p).1⟩ else none
def zjs (o a b:List File)(p:Str):Option Clash:=bif decide (0< (oneF o a b p).2.2) then some ⟨p,(oneF o a b p).2.2⟩ else none
def zfJ (o a b:List File):List File:=(zcg o a b).filterMap (zle o a b)
def zgF (o a b:List File):List Clash:=(zcg o a b).filterMap (zjs o a b)
theorem zj8 {o a b:List File}(ho:TB o)(ha:TB a)(hb:TB b)(to:zaQ o)(ta:zaQ a)(tb:zaQ b){ps:List Str}(hp:ps.length<=1000): ∀ (k i m:Nat) (fs:List File) (cs:List Clash),i+k=ps.length->k<m->fs.length<=i->cs.length<=i->
 zd4 o a b ps (fun y16 y19 _=>some (y16,y19)) m fs cs (i:Int)=some (fs++(ps.drop i).filterMap (zle o a b),cs++(ps.drop i).filterMap (zjs o a b))
 |k,i,0,fs,cs,_,hm,_,_=>by omega
 |0,i,m+1,fs,cs,hi,_,_,_=>by
  obtain rfl:i=ps.length:=by omega
  simp only[zd4,zac,aC,List.drop_length]
  simp
 |k+1,i,m+1,fs,cs,hi,hm,hf,hc=>by
  have hlt:i<ps.length:=by omega
  have hx:ps[i]? =some ps[i]:=aB hlt
  have ih:=fun fs cs h1 h2=>zj8 ho ha hb to ta tb hp k (i+1) m fs cs (by omega) (by omega) h1 h2
  have ht:=zam (zj7 to ta tb ps[i])
  simp only[zd4,jn,zaj hx,zad hx,aD,aA,zab hlt (show ps.length<=maxi by unfold maxi;omega),zo4 ho ha hb to ta tb,apN (show(oneF o a b ps[i]).1.length<=1048576 by omega),ap1 (x:=(⟨ps[i],(oneF o a b ps[i]).1⟩:File)) (show fs.length<=1048576 by omega),ap1 (x:=(⟨ps[i],(oneF o a b ps[i]).2.2⟩:Clash)) (show cs.length<=1048576 by omega)]
  rw[aI hlt,List.filterMap_cons,List.filterMap_cons]
  unfold zle zjs at ih ⊢
  cases(oneF o a b ps[i]).2.1<;>cases decide (0< (oneF o a b ps[i]).2.2)<;>simp only[aD,aC]
  ·rw[ih _ _ (by omega) (by omega)]
  ·rw[ih _ _ (by omega) (by simp;omega)];simp
  ·rw[ih _ _ (by simp;omega) (by omega)];simp
  ·rw[ih _ _ (by simp;omega) (by simp;omega)];simp
theorem zqw {o a b:List File}(ho:TB o)(ha:TB a)(hb:TB b)(to:zaQ o)(ta:zaQ a)(tb:zaQ b)(so:o.length<=100)(sa:a.length<=100)(sb:b.length<=100):zjy o a b=some (zfJ o a b,zgF o a b):=by
 have hl:=zhr o a b
 unfold zjy
 rw[zmq ho ha hb so sa sb,aA]
 simp only[jn,zak]
 have:=zj8 ho ha hb to ta tb (ps:=zcg o a b) (by omega) (zcg o a b).length 0 ((zcg o a b).length+1) [] [] (by omega) (by omega) (by simp) (by simp)
 refine this.trans ?_
 simp[zfJ,zgF]
theorem ziS {o a b:List File}(ho:TB o)(ha:TB a)(hb:TB b)(to:zaQ o)(ta:zaQ a)(tb:zaQ b)(so:o.length<=100)(sa:a.length<=100)(sb:b.length<=100):TB (zfJ o a b):=by
 have hl:=zhr o a b
 refine⟨Nat.le_trans (List.length_filterMap_le _ _) (by omega),fun f hf=>?_⟩
 obtain⟨p,hp,he⟩:=List.mem_filterMap.1 hf
 unfold zle at he
 cases h2:(oneF o a b p).2.1 with
 |false=>rw[h2]at he;cases he
 |true=>
  rw[h2,aD]at he
  cases he
  have ht:=zj7 to ta tb p
  have hlen:=zam ht
  refine⟨?_,by show(oneF o a b p).1.length<=_;omega,zce (s:=(oneF o a b p).1) (by omega) (zaR ht)⟩
  rcases pathsF_mem.1 hp with ⟨g,hg,e⟩ |⟨g,hg,e⟩ |⟨g,hg,e⟩
  ·rw[<- e];exact(ho.2 g hg).path
  ·rw[<- e];exact(ha.2 g hg).path
  ·rw[<- e];exact(hb.2 g hg).path
def zdM (o a b:List File):List File×List Clash:=bif((zgF o a b).length:Int)==0 && !zaD (zfJ o a b) then(o,[⟨[],4⟩]) else(zfJ o a b,zgF o a b)
theorem zkW {o a b:List File}(ho:TB o)(ha:TB a)(hb:TB b)(to:zaQ o)(ta:zaQ a)(tb:zaQ b)(so:o.length<=100)(sa:a.length<=100)(sb:b.length<=100):zf3 o a b=some (zdM o a b):=by
 unfold zf3 zdM
 simp only[jn,zqw ho ha hb to ta tb so sa sb,aA,zgr (ziS ho ha hb to ta tb so sa sb),zek ho]
 cases(((zgF o a b).length:Int)==0)<;>cases zaD (zfJ o a b)<;>rfl
theorem zkw {o a b:List File}(ho:TB o)(ha:TB a)(hb:TB b)(to:zaQ o)(ta:zaQ a)(tb:zaQ b)(so:o.length<=100)(sa:a.length<=100)(sb:b.length<=100):TB (zdM o a b).1:=by
 unfold zdM
 cases(((zgF o a b).length:Int)==0 && !zaD (zfJ o a b))
 ·exact ziS ho ha hb to ta tb so sa sb
 ·exact ho
theorem zal {t:List File}(h:zaD t=true):zaQ t:=by
 intro f hf
 obtain⟨i,hi⟩:=List.mem_iff_getElem?.1 hf
 unfold zaD at h
 simp only[aG]at h
 have:=zaJ.1 h.2 i (Nat.zero_le _) (by have:=zas hi;omega)
 unfold zh2 zh1 at this
 rw[zbK hi]at this
 simp only[aG]at this
 exact this.1.2.1
theorem za1 {t:List File}(h:zaD t=true){f:File}(hf:f∈t):zaL f.Path=true:=by
 obtain⟨i,hi⟩:=List.mem_iff_getElem?.1 hf
 unfold zaD at h
 simp only[aG]at h
 have:=zaJ.1 h.2 i (Nat.zero_le _) (by have:=zas hi;omega)
 unfold zh2 zh1 at this
 rw[zbK hi]at this
 simp only[aG]at this
 exact this.1.1
theorem zjd (c:UInt8): ∀ (r w:Str),w.length+r.length+1=sumB (fun p=>p.length+1) (curS c w r)
 | [],w=>by simp[curS,sumB]
 |x::r,w=>by
  unfold curS
  cases x==c with
  |true=>
   rw[aD]
   have:=zjd c r []
   simp only[sumB,List.length_nil,aL]at this ⊢
   omega
  |false=>
   rw[aC]
   have:=zjd c r (w++[x])
   simp only[List.length_append,aL,List.length_nil]at this ⊢
   omega
theorem zpz {c:Nat}: ∀ {l:List Str},(∀ p∈l,p.length+1<=c)->sumB (fun p=>p.length+1) l<=c*l.length
 | [],_=>by simp[sumB]
 |x::l,h=>by
  have h1:=h x (by simp)
  have h2:=zpz (c:=c) (l:=l) (fun p hp=>h p (List.mem_cons_of_mem _ hp))
  simp only[sumB,aL,Nat.mul_add,Nat.mul_one]
  omega
theorem zbk {s:Str}(h:zaF s=true):s.length<=6:=by
 unfold zaF at h
 simp only[aG,decide_eq_true_eq]at h
 omega
theorem zcc {s:Str}(h:zaL s=true):s.length<=20:=by
 unfold zaL at h
 simp only[aG,decide_eq_true_eq,List.all_eq_true]at h
 have h1:=zjd 47 s []
 have h2:=zpz (c:=7) (l:=curS 47 [] s) (fun p hp=>by have:=zbk (h.2 p hp);omega)
 simp only[List.length_nil]at h1
 omega
theorem zpA {d p:Str}(h:za6 d p=true):d.length+1<=p.length:=by
 unfold za6 at h
 have:=(List.isPrefixOf_iff_prefix.1 h).length_le
 simpa using this
def zhs (p to:Str)(acc:List File)(g:File):List File:=bif !zrt p g then putF ⟨to++g.Path.drop p.length,g.Text⟩ false acc else acc
def zoC (t:List File)(p to:Str):List File×Bool:=
 bif zaD t then(bif((((dropF p t).length:Int))==(t.length:Int)) || !zaL to then(t,false) else(bif !zaD (t.foldl (zhs p to) (dropF p t))||(((t.foldl (zhs p to) (dropF p t)).length:Int) !=(t.length:Int)) then(t,false) else(t.foldl (zhs p to) (dropF p t),true))) else([],false)
theorem zpB {p to:Str}{acc:List File}{g:File}(hg:FB g)(hp:g.Path.length<=20)(ht:to.length<=20)(ha:TB acc)(hl:acc.length<=1000):TB (zhs p to acc g)/\(zhs p to acc g).length<=acc.length+1:=by
 unfold zhs
 cases !zrt p g
 ·exact⟨ha,by simp⟩
 ·refine⟨ha.putF (by omega) ⟨?_,hg.len,hg.text⟩,?_⟩
  ·simp only[List.length_append,List.length_drop];omega
  ·have:=zk5 ⟨to++g.Path.drop p.length,g.Text⟩ acc false
   simp only[aC,aD]at this ⊢
   omega
theorem znO {t:List File}(h:TB t)(hs:t.length<=8)(hp: ∀ f∈t,f.Path.length<=20){p to:Str}(ht:to.length<=20){K:List File->Int->Option (List File×Bool)}: ∀ (k i m:Nat) (acc:List File),i+k=t.length->k<m->TB acc->acc.length<=100+i->
 zbj t p to K m acc (i:Int)=K ((t.drop i).foldl (zhs p to) acc) (t.length:Int)/\TB ((t.drop i).foldl (zhs p to) acc)
 |k,i,0,acc,_,hm,_,_=>by omega
 |0,i,m+1,acc,hi,_,ha,_=>by
  obtain rfl:i=t.length:=by omega
  simp only[zbj,zac,aC,List.drop_length]
  exact⟨rfl,ha⟩
 |k+1,i,m+1,acc,hi,hm,ha,hl=>by
  have hlt:i<t.length:=by omega
  have hx:t[i]? =some t[i]:=aB hlt
  have hm':=List.getElem_mem hlt
  have hg:=h.at_ hx
  have hpl:=hp _ hm'
  obtain⟨i1,i2⟩:=zpB (p:=p) (to:=to) hg hpl ht ha (by omega)
  have ih:=znO h hs hp (p:=p) (to:=to) ht (K:=K) k (i+1) m (zhs p to acc t[i]) (by omega) (by omega) i1 (by omega)
  rw[aI hlt,List.foldl_cons]
  refine⟨?_,ih.2⟩
  rw[<- ih.1]
  simp only[zbj,jn,zaj hx,zad hx,aD,aA,zab hlt h.maxi,zkL hg.path]
  unfold zhs zrt
  have hrun:p.length<=t[i].Path.length->((slM t[i].Path (p.length:Int) (t[i].Path.length:Int)).bind fun q67=>(saM to q67).bind fun q69=>(zgJ acc ⟨q69,t[i].Text⟩).bind fun z77=>zbj t p to K m z77 ((i+1:Nat):Int))=zbj t p to K m (putF ⟨to++t[i].Path.drop p.length,t[i].Text⟩ false acc) ((i+1:Nat):Int):=fun hle=>by
   have hsa:saM to (t[i].Path.drop p.length)=some (to++t[i].Path.drop p.length):=by
    unfold saM
    rw[if_pos]
    simp only[List.length_drop,lim]
    omega
   rw[zji hle,aA,hsa,aA,zoh (g:=⟨to++t[i].Path.drop p.length,t[i].Text⟩) ha (by omega) ⟨by simp only[List.length_append,List.length_drop];omega,hg.len,hg.text⟩,aA]
  cases he:t[i].Path==p with
  |true=>
   have e:t[i].Path=p:=by simpa using he
   have e2:(t[i].Path !=p)=false:=by rw[bne,he];rfl
   rw[e2]
   exact hrun (by rw[e];exact Nat.le_refl _)
  |false=>
   have e2:(t[i].Path !=p)=true:=by rw[bne,he];rfl
   rw[e2]
   cases hb:za6 p t[i].Path with
   |false=>rfl
   |true=>exact hrun (by have:=zpA hb;omega)
theorem zmP {t:List File}(h:TB t)(p to:Str)(hto:to.length<=1048576):zeK t p to=some (zoC t p to):=by
 unfold zeK zoC
 rw[zgr h,aA]
 cases htr:zaD t with
 |false=>rfl
 |true=>
  have hs:=zaw htr
  rw[aK,aC,aD,zek h,aA,zmM h,aA]
  simp only[jn,zak,zdG hto,aA]
  cases(((dropF p t).length:Int)==(t.length:Int))with
  |true=>rfl
  |false=>
   cases hpt:zaL to with
   |false=>rfl
   |true=>
    obtain⟨e1,e2⟩:=znO h hs (fun f hf=>zcc (za1 htr hf)) (p:=p) (zcc hpt) (K:=fun y39 _=>(zec y39).bind fun z115=>bif(!z115) then(some (t,false)) else(bif((y39.length:Int) !=(t.length:Int)) then(some (t,false)) else(some (y39,true)))) t.length 0 (t.length+1) (dropF p t) (by omega) (by omega) (h.dropF p) (by have:=List.length_filter_le (zrt p) t;unfold dropF;omega)
    rw[List.drop_zero]at e1 e2
    simp only[Bool.false_or,aK,aC,aD]
    refine e1.trans ?_
    show(zec _).bind _=_
    rw[zgr e2,aA]
    cases zaD (t.foldl (zhs p to) (dropF p t))<;>cases(((t.foldl (zhs p to) (dropF p t)).length:Int) !=(t.length:Int))<;>rfl
structure Gd (q:Prop) (r:Repo):Prop where
 rb:RpB r
 ok:zae r=true
 hd:q->r.Commits≠ []->r.Heads≠ []
abbrev Good:Repo->Prop:=Gd True
variable {q:Prop}
def zap (r:Repo)(i:Nat):List File:=(r.Commits.getD i noCommit).Tree
theorem Gd.tree {r:Repo}(h:Gd q r){i:Nat}(hi:i<r.Commits.length):TB (zap r i)/\zaD (zap r i)=true/\zaQ (zap r i)/\(zap r i).length<=8:=by
 have hx:r.Commits[i]? =some r.Commits[i]:=aB hi
 have h1:zaD (zap r i)=true:=by
  have:=zfS h.ok hi
  unfold zmG at this
  simp only[aG]at this
  exact this.2.2.2.2
 refine⟨?_,h1,zal h1,zaw h1⟩
 unfold zap
 rw[zeD hx]
 exact(h.rb.cat hx).tree
theorem zig:TB ([]:List File)/\zaD []=true/\zaQ []/\([]:List File).length<=8:=⟨TB.nil,rfl,fun f hf=>by simp at hf,by simp⟩
theorem zcA {r:Repo}{z:Int}(h0:0<=z)(h1:z<=(r.Commits.length:Int)-1):gi r.Commits z=some (r.Commits.getD z.toNat noCommit):=by
 obtain⟨n,rfl⟩:=Int.eq_ofNat_of_zero_le h0
 exact zj4 (by omega)
theorem zlf (n:Str)(a:Int): ∀ (hs:List Head),zfe n a false hs≠ []
 | []=>by simp[zfe]
 |h::hs=>by
  unfold zfe
  cases hb:Op.bytesLess h.Name n
  ·simp
  ·have:=zlf n a hs
   cases(h.Name !=n)<;>simp[this]
def ze9 (n:Str)(a:Int)(h:Head):Head:=bif h.Name==n then⟨n,a⟩ else h
theorem ziT (n:Str)(a:Int): ∀ (hs:List Head),(∀ h∈hs,h.Name≠n)->zfe n a true hs=hs
 | [],_=>rfl
 |h::hs,hn=>by
  have h1:(h.Name !=n)=true:=by simpa using hn h (by simp)
  unfold zfe
  rw[h1,Bool.true_or,ziT n a hs (fun x hx=>hn x (List.mem_cons_of_mem _ hx))]
  rfl
theorem zht (n:Str)(a:Int): ∀ (hs:List Head),hs.Pairwise (fun x y=>x.Name<y.Name)->(∃ h∈hs,h.Name=n)->zfe n a false hs=hs.map (ze9 n a)
 | [],_,h=>by obtain⟨x,hx,_⟩:=h;simp at hx
 |h::hs,hp,he=>by
  obtain⟨p1,p2⟩:=List.pairwise_cons.1 hp
  unfold zfe
  rw[List.map_cons]
  cases hb:Op.bytesLess h.Name n with
  |true=>
   rw[zaZ]at hb
   have hlt:h.Name<n:=by simpa using hb
   have hne:h.Name≠n:=fun e=>by rw[e]at hlt;exact zar _ hlt
   have h1:(h.Name !=n)=true:=by simpa using hne
   have h2:(h.Name==n)=false:=beq_false_of_ne hne
   have ht: ∃ x∈hs,x.Name=n:=by
    obtain⟨x,hx,e⟩:=he
    rcases List.mem_cons.1 hx with e2 |e2
    ·rw[e2]at e;exact absurd e hne
    ·exact⟨x,e2,e⟩
   rw[h1]
   simp only[aK,Bool.and_false,aC,aD,List.nil_append,Bool.or_false,List.singleton_append]
   rw[zht n a hs p2 ht]
   unfold ze9
   rw[h2]
   rfl
  |false=>
   rw[zaZ]at hb
   have hge:n<=h.Name:=ziO.1 (by simpa using hb)
   cases h2:h.Name==n with
   |true=>
    have e:h.Name=n:=by simpa using h2
    have h1:(h.Name !=n)=false:=by rw[bne,h2];rfl
    have hno: ∀ x∈hs,x.Name≠n:=fun x hx e2=>by
     have:=p1 x hx
     rw[e,e2]at this
     exact zar _ this
    rw[h1,Bool.not_false,Bool.or_true,ziT n a hs hno]
    have hm:hs.map (ze9 n a)=hs:=by
     conv=>rhs;rw[<- List.map_id hs]
     refine List.map_congr_left (fun x hx=>?_)
     unfold ze9
     rw[beq_false_of_ne (hno x hx)]
     rfl
    rw[hm]
    unfold ze9
    rw[h2]
    rfl
   |false=>
    exfalso
    have hne:n≠h.Name:=fun e=>by rw[e]at h2;simp at h2
    have hlt:=zbD hge hne
    obtain⟨x,hx,e⟩:=he
    rcases List.mem_cons.1 hx with e2 |e2
    ·rw[e2]at e;exact hne e.symm
    ·have:=p1 x e2
     rw[e]at this
     exact zar _ (zba hlt this)
theorem zjt {r:Repo}(h:zae r=true):r.Heads.Pairwise (fun x y=>x.Name<y.Name):=by
 unfold zae zdI at h
 simp only[aG]at h
 have hg:=zaJ.1 h.2.2.1
 have step: ∀ i,(hi:i+1<r.Heads.length)->(r.Heads[i]'(by omega)).Name<r.Heads[i+1].Name:=fun i hi=>by
  have:=hg (i+1) (by omega) (by omega)
  unfold zhJ at this
  rw[zcb (aB hi),aF (by omega),Nat.add_sub_cancel,zcb (aB (show i<r.Heads.length by omega))]at this
  simp only[aD,aG,zaZ,decide_eq_true_eq]at this
  exact this.2.2
 refine List.pairwise_iff_getElem.2 fun i j hi hj hij=>?_
 induction j with
 |zero=>omega
 |succ j ih=>
  rcases Nat.lt_or_ge i j with h1 |h1
  ·exact zba (ih (by omega) h1) (step j hj)
  ·have:i=j:=by omega
   subst this
   exact step i hj
theorem znm {r:Repo}{n:Str}(h:0<=atB r n): ∃ x∈r.Heads,x.Name=n:=by
 unfold atB at h
 cases hf:r.Heads.find? (fun h=>h.Name==n)with
 |none=>rw[hf]at h;simp at h
 |some x=>exact⟨x,List.mem_of_find?_eq_some hf,by simpa using List.find?_some hf⟩
theorem zj9 {r:Repo}(h:zae r=true){n:Str}(ha:0<=atB r n)(b:Int):headR r n b=⟨r.Commits,r.Heads.map (ze9 n b)⟩:=by
 unfold headR
 rw[zht n b r.Heads (zjt h) (znm ha)]
theorem zoi {r:Repo}(h:zae r=true){n:Str}(ha:0<=atB r n){b:Int}(h0:0<=b)(h1:b<=(r.Commits.length:Int)-1):zae (headR r n b)=true:=by
 rw[zj9 h ha]
 have hh:=h
 unfold zae zdI at h ⊢
 simp only[aG,List.length_map]at h ⊢
 refine⟨h.1,h.2.1,?_,h.2.2.2⟩
 have hg:=zaJ.1 h.2.2.1
 refine zaJ.2 fun i hi0 hi=>?_
 have hil:i<r.Heads.length:=by omega
 have hx:r.Heads[i]? =some r.Heads[i]:=aB hil
 have hm: ∀ j,j<r.Heads.length->((r.Heads.map (ze9 n b)).getD j zff).Name=(r.Heads.getD j zff).Name:=fun j hj=>by
  have hxj:r.Heads[j]? =some r.Heads[j]:=aB hj
  rw[zcb hxj,zcb (f:=ze9 n b r.Heads[j]) (by rw[List.getElem?_map,hxj];rfl)]
  unfold ze9
  cases he:r.Heads[j].Name==n with
  |true=>simpa using (by simpa using he:r.Heads[j].Name=n).symm
  |false=>rfl
 have hat:upB r.Commits.length ((r.Heads.map (ze9 n b)).getD i zff).At=true:=by
  rw[zcb (f:=ze9 n b r.Heads[i]) (by rw[List.getElem?_map,hx];rfl)]
  unfold ze9 upB
  cases r.Heads[i].Name==n with
  |true=>simp[h0,h1]
  |false=>
   have:=zg4 hh (List.getElem_mem hil)
   simp[this.1,this.2.1]
 have:=hg i hi0 (by omega)
 unfold zhJ at this ⊢
 simp only[aG]at this ⊢
 refine⟨by rw[hm i hil];exact this.1,hat,?_⟩
 rw[hm i hil,hm (i-1) (by omega)]
 exact this.2.2
def zfr (r:Repo)(a b:Int):List File:=bif((zaE r a b).length:Int)==0 then [] else zap r ((zaE r a b).getD ((zaE r a b).length-1) 0).toNat
theorem zfW {r:Repo}(h:Gd q r){a b:Int}(ha:0<=a)(ha':a<=(r.Commits.length:Int)-1)(hb:0<=b)(hb':b<=(r.Commits.length:Int)-1):zf2 r a b=some (zfr r a b)/\TB (zfr r a b)/\zaD (zfr r a b)=true:=by
 have hs:=(zah h.ok).1
 have hl:=zkV r a b
 unfold zf2 zfr
 rw[zmp h.ok ha ha' hb hb',aA]
 cases hz:((zaE r a b).length:Int)==0 with
 |true=>exact⟨rfl,zig.1,zig.2.1⟩
 |false=>
  have hne:((zaE r a b).length:Int)≠0:=by simpa using hz
  have e:w64 (((zaE r a b).length:Int)-1)=(((zaE r a b).length-1:Nat):Int):=by rw[zag (by omega) (by omega)];omega
  have hlt:(zaE r a b).length-1< (zaE r a b).length:=by omega
  have hm:(zaE r a b).getD ((zaE r a b).length-1) 0∈zaE r a b:=by
   rw[zcs (aB hlt)];exact List.getElem_mem hlt
  obtain⟨q0,q1⟩:=ziR hm
  rw[aC,aC,e,zg6 hlt,aA,zcA q0 q1,aA]
  have:=h.tree (i:=((zaE r a b).getD ((zaE r a b).length-1) 0).toNat) (by omega)
  exact⟨rfl,this.1,this.2.1⟩
def zfX (r:Repo)(n:Str)(c:Commit):Repo×Int:=bif zae (addR r n c) then(addR r n c,0) else(r,5)
def zhd (r:Repo)(n who:Str)(b:Int):Repo×Int:=
 bif zfp (za4 r (atB r n)) b then(r,2)
 else bif zfp (za4 r b) (atB r n) then(headR r n b,3)
 else
  let j:=zdM (zfr r (atB r n) b) (zap r (atB r n).toNat) (zap r b.toNat)
  bif decide (0< (j.2.length:Int)) then(r,4) else zfX r n ⟨[atB r n,b],who,j.1⟩
theorem Gd.add {r:Repo}(h:Gd q r){n:Str}{c:Commit}(hn:n.length<=1048576)(hc:CB c)(ho:zae (addR r n c)=true):Gd q (addR r n c):=by
 obtain⟨s1,s2⟩:=zah h.ok
 exact⟨h.rb.addR (by omega) (by omega) hn hc,ho,fun _ _=>zlf _ _ _⟩
theorem Gd.head {r:Repo}(h:Gd q r){n:Str}{b:Int}(hn:n.length<=1048576)(ho:zae (headR r n b)=true):Gd q (headR r n b):=by
 obtain⟨s1,s2⟩:=zah h.ok
 exact⟨h.rb.headR (by omega) hn b,ho,fun _ _=>zlf _ _ _⟩
theorem ziv {r:Repo}(h:Gd q r){n:Str}{c:Commit}(hn:n.length<=1048576)(hc:CB c):Gd q (zfX r n c).1:=by
 unfold zfX
 cases ho:zae (addR r n c)with
 |true=>exact h.add hn hc ho
 |false=>exact h
theorem zkX {r:Repo}(h:Gd q r){n:Str}{c:Commit}(hn:n.length<=1048576)(hc:CB c):((zdP r n c).bind fun z130=>(zcQ z130).bind fun z163=>bif(!z163) then(some (r,(5:Int))) else(some (z130,0)))=some (zfX r n c):=by
 obtain⟨s1,s2⟩:=zah h.ok
 rw[zmH h.rb (by omega) (by omega) n hc,aA,zdJ (h.rb.addR (by omega) (by omega) hn hc),aA]
 unfold zfX
 cases zae (addR r n c)<;>rfl
theorem zlk {r:Repo}(h:Gd q r){n who:Str}{b:Int}(hn:n.length<=1048576)(hw:who.length<=1048576)(ha:0<=atB r n)(hb:0<=b)(hb':b<=(r.Commits.length:Int)-1):zd5 r n who b=some (zhd r n who b)/\Gd q (zhd r n who b).1:=by
 obtain⟨s1,s2⟩:=zah h.ok
 have ha':atB r n<=(r.Commits.length:Int)-1:=by rcases at_range h.ok n with e |e<;>omega
 have l1:=zc1 r (atB r n)
 have l2:=zc1 r b
 obtain⟨e1,e2,e3⟩:=zfW h ha ha' hb hb'
 obtain⟨ta,ta2,ta3,ta4⟩:=h.tree (i:=(atB r n).toNat) (by omega)
 obtain⟨tb,tb2,tb3,tb4⟩:=h.tree (i:=b.toNat) (by omega)
 have hbs:=zaw e3
 have hj:=zkw e2 ta tb (zal e3) ta3 tb3 (by omega) (by omega) (by omega)
 have hc:CB ⟨[atB r n,b],who,(zdM (zfr r (atB r n) b) (zap r (atB r n).toNat) (zap r b.toNat)).1⟩:=⟨by simp,hw,hj⟩
 unfold zd5 zhd
 simp only[zdC h.rb,aA,zfz h.ok ha ha',zfz h.ok hb hb',zg5 (show(za4 r (atB r n)).length<=1000000 by omega),zg5 (show(za4 r b).length<=1000000 by omega),zie h.rb (show r.Heads.length<=100000 by omega),zcA ha ha',zcA hb hb',e1]
 cases zfp (za4 r (atB r n)) b with
 |true=>exact⟨rfl,h⟩
 |false=>
  cases zfp (za4 r b) (atB r n)with
  |true=>exact⟨rfl,h.head hn (zoi h.ok ha hb hb')⟩
  |false=>
   simp only[aC]
   have hjoin:=zkW e2 ta tb (zal e3) ta3 tb3 (by omega) (by omega) (by omega)
   unfold zap at hjoin hc ⊢
   rw[hjoin,aA]
   cases decide (0< ((zdM (zfr r (atB r n) b) (r.Commits.getD (atB r n).toNat noCommit).Tree (r.Commits.getD b.toNat noCommit).Tree).2.length:Int))with
   |true=>exact⟨rfl,h⟩
   |false=>exact⟨zkX h hn hc,ziv h hn hc⟩
def zlY (r:Repo)(n who:Str)(b:Int):Bool:=decide (atB r n<0)||(!zaF who || !upB r.Commits.length b)
def zpm (r:Repo)(n who:Str)(b:Int):Repo×Int:=bif zae r then(bif zlY r n who b then(r,1) else zhd r n who b) else(zb0,1)
theorem zlg {r:Repo}{n who:Str}{b:Int}(h:zlY r n who b=false):0<=atB r n/\0<=b/\b<=(r.Commits.length:Int)-1:=by
 unfold zlY upB at h
 simp only[Bool.or_eq_false_iff,decide_eq_false_iff_not,Bool.not_eq_false',aG,decide_eq_true_eq]at h
 omega
theorem zje {r:Repo}(h:Gd q r){n who:Str}{b:Int}(hn:n.length<=1048576)(hw:who.length<=1048576):zdb r n who b=some (zpm r n who b)/\Gd q (zpm r n who b).1:=by
 unfold zdb zpm
 have hwm:=zan hw
 rw[zdJ h.rb,aA,h.ok,aK,aC,aD]
 simp only[jn,zdC h.rb,aA,za8 hwm,zeC,ze7 (zan h.rb.coms),zel h.rb,show(⟨r.Commits,r.Heads⟩:Repo)=r from rfl]
 rw[show(decide ((0:Int)<=b)&&decide (b<=(r.Commits.length:Int)-1))=upB r.Commits.length b from rfl]
 have key:zlY r n who b=false->((zd5 r n who b).bind fun z58=>some (z58.1,z58.2))=some (zhd r n who b)/\Gd q (zhd r n who b).1:=fun hbad=>by
  obtain⟨p1,p2,p3⟩:=zlg hbad
  obtain⟨q1,q2⟩:=zlk h hn hw p1 p2 p3
  rw[q1]
  exact⟨rfl,q2⟩
 unfold zlY at key ⊢
 cases h1:decide (atB r n<0)with
 |true=>exact⟨rfl,h⟩
 |false=>
  cases h2:zaF who with
  |false=>exact⟨rfl,h⟩
  |true=>
   cases h3:upB r.Commits.length b with
   |false=>exact⟨rfl,h⟩
   |true=>exact key (by rw[h1,h2,h3];rfl)
def zem (r:Repo)(i:Nat):List File:=bif((zaf r i).length:Int)==0 then [] else zap r ((zaf r i).getD 0 0).toNat
theorem zjf {r:Repo}(h:Gd q r){a:Int}(h0:0<=a)(h1:a<=(r.Commits.length:Int)-1):zcv r a=some (zem r a.toNat)/\TB (zem r a.toNat)/\zaD (zem r a.toNat)=true:=by
 have hi:a.toNat<r.Commits.length:=by omega
 obtain⟨ps,pm⟩:=zaW h.ok hi
 unfold zcv zem
 rw[zcA h0 h1,aA]
 show(bif((zaf r a.toNat).length:Int)==0 then _ else _)=_/\_
 cases hz:((zaf r a.toNat).length:Int)==0 with
 |true=>exact⟨rfl,zig.1,zig.2.1⟩
 |false=>
  have hne:((zaf r a.toNat).length:Int)≠0:=by simpa using hz
  have hlt:0< (zaf r a.toNat).length:=by omega
  have hm:(zaf r a.toNat).getD 0 0∈zaf r a.toNat:=by
   rw[zcs (aB hlt)];exact List.getElem_mem hlt
  obtain⟨q0,q1⟩:=pm _ hm
  have hg:gi (r.Commits.getD a.toNat noCommit).Parents 0=some ((zaf r a.toNat).getD 0 0):=zg6 (l:=zaf r a.toNat) hlt
  rw[aC,aC,aA,hg,aA,zcA q0 (by omega),aA]
  have:=h.tree (i:=((zaf r a.toNat).getD 0 0).toNat) (by omega)
  exact⟨rfl,this.1,this.2.1⟩
def ziU (r:Repo)(n who:Str)(o b:List File):Repo×Int:=
 let j:=zdM o (zap r (atB r n).toNat) b
 bif decide (0< (j.2.length:Int)) then(r,4) else zfX r n ⟨[atB r n],who,j.1⟩
theorem zlZ {r:Repo}(h:Gd q r){n who:Str}{o b:List File}(hn:n.length<=1048576)(hw:who.length<=1048576)(ha:0<=atB r n)(to:TB o)(to2:zaD o=true)(tb:TB b)(tb2:zaD b=true):zd9 r n who o b=some (ziU r n who o b)/\Gd q (ziU r n who o b).1:=by
 have ha':atB r n<=(r.Commits.length:Int)-1:=by rcases at_range h.ok n with e |e<;>omega
 have hs:=(zah h.ok).1
 obtain⟨ta,ta2,ta3,ta4⟩:=h.tree (i:=(atB r n).toNat) (by omega)
 have ho:=zaw to2
 have hb:=zaw tb2
 have hj:=zkw to ta tb (zal to2) ta3 (zal tb2) (by omega) (by omega) (by omega)
 have hc:CB ⟨[atB r n],who,(zdM o (zap r (atB r n).toNat) b).1⟩:=⟨by simp,hw,hj⟩
 have hjoin:=zkW to ta tb (zal to2) ta3 (zal tb2) (by omega) (by omega) (by omega)
 unfold zd9 ziU
 rw[zdC h.rb,aA,zcA ha ha',aA]
 unfold zap at hjoin hc ⊢
 rw[hjoin,aA]
 simp only
 cases decide (0< ((zdM o (r.Commits.getD (atB r n).toNat noCommit).Tree b).2.length:Int))with
 |true=>exact⟨rfl,h⟩
 |false=>exact⟨zkX h hn hc,ziv h hn hc⟩
def zhe (r:Repo)(n who:Str)(b:Int):Repo×Int:=bif zae r then(bif zlY r n who b then(r,1) else ziU r n who (zem r b.toNat) (zap r b.toNat)) else(zb0,1)
def zg0 (r:Repo)(n who:Str)(b:Int):Repo×Int:=bif zae r then(bif zlY r n who b then(r,1) else ziU r n who (zap r b.toNat) (zem r b.toNat)) else(zb0,1)
theorem zll {r:Repo}(h:Gd q r){n who:Str}{b:Int}(hn:n.length<=1048576)(hw:who.length<=1048576):zfb r n who b=some (zhe r n who b)/\Gd q (zhe r n who b).1:=by
 unfold zfb zhe
 have hwm:=zan hw
 rw[zdJ h.rb,aA,h.ok,aK,aC,aD]
 simp only[jn,zdC h.rb,aA,za8 hwm,zeC,ze7 (zan h.rb.coms),zel h.rb,show(⟨r.Commits,r.Heads⟩:Repo)=r from rfl]
 rw[show(decide ((0:Int)<=b)&&decide (b<=(r.Commits.length:Int)-1))=upB r.Commits.length b from rfl]
 have key:zlY r n who b=false->((gi r.Commits b).bind fun u77=>(zcv r b).bind fun z82=>(zd9 r n who z82 u77.Tree).bind fun z93=>some (z93.1,z93.2))=some (ziU r n who (zem r b.toNat) (zap r b.toNat))/\Gd q (ziU r n who (zem r b.toNat) (zap r b.toNat)).1:=fun hbad=>by
  obtain⟨p1,p2,p3⟩:=zlg hbad
  obtain⟨q1,q2,q3⟩:=zjf h p2 p3
  obtain⟨tb,tb2,tb3,tb4⟩:=h.tree (i:=b.toNat) (by have:=(zah h.ok).1;omega)
  obtain⟨u1,u2⟩:=zlZ h hn hw p1 q2 q3 tb tb2
  rw[zcA p2 p3,aA,q1,aA,show(r.Commits.getD b.toNat noCommit).Tree=zap r b.toNat from rfl,u1]
  exact⟨rfl,u2⟩
 unfold zlY at key ⊢
 cases h1:decide (atB r n<0)with
 |true=>exact⟨rfl,h⟩
 |false=>
  cases h2:zaF who with
  |false=>exact⟨rfl,h⟩
  |true=>
   cases h3:upB r.Commits.length b with
   |false=>exact⟨rfl,h⟩
   |true=>exact key (by rw[h1,h2,h3];rfl)
theorem zi6 {r:Repo}(h:Gd q r){n who:Str}{b:Int}(hn:n.length<=1048576)(hw:who.length<=1048576):zdE r n who b=some (zg0 r n who b)/\Gd q (zg0 r n who b).1:=by
 unfold zdE zg0
 have hwm:=zan hw
 rw[zdJ h.rb,aA,h.ok,aK,aC,aD]
 simp only[jn,zdC h.rb,aA,za8 hwm,zeC,ze7 (zan h.rb.coms),zel h.rb,show(⟨r.Commits,r.Heads⟩:Repo)=r from rfl]
 rw[show(decide ((0:Int)<=b)&&decide (b<=(r.Commits.length:Int)-1))=upB r.Commits.length b from rfl]
 have key:zlY r n who b=false->((gi r.Commits b).bind fun u77=>(zcv r b).bind fun z82=>(zd9 r n who u77.Tree z82).bind fun z93=>some (z93.1,z93.2))=some (ziU r n who (zap r b.toNat) (zem r b.toNat))/\Gd q (ziU r n who (zap r b.toNat) (zem r b.toNat)).1:=fun hbad=>by
  obtain⟨p1,p2,p3⟩:=zlg hbad
  obtain⟨q1,q2,q3⟩:=zjf h p2 p3
  obtain⟨tb,tb2,tb3,tb4⟩:=h.tree (i:=b.toNat) (by have:=(zah h.ok).1;omega)
  obtain⟨u1,u2⟩:=zlZ h hn hw p1 tb tb2 q2 q3
  rw[zcA p2 p3,aA,q1,aA,show(r.Commits.getD b.toNat noCommit).Tree=zap r b.toNat from rfl,u1]
  exact⟨rfl,u2⟩
 unfold zlY at key ⊢
 cases h1:decide (atB r n<0)with
 |true=>exact⟨rfl,h⟩
 |false=>
  cases h2:zaF who with
  |false=>exact⟨rfl,h⟩
  |true=>
   cases h3:upB r.Commits.length b with
   |false=>exact⟨rfl,h⟩
   |true=>exact key (by rw[h1,h2,h3];rfl)
end Go.Vm
namespace Go.Vm
open Go Go.Sx
set_option linter.unusedSimpArgs false
set_option linter.unusedVariables false
def zlm (r:Repo)(o:Op)(z:List File×Bool):Repo×Int:=bif z.2 then(bif(zfy r o.Branch o.Who z.1).2 then((zfy r o.Branch o.Who z.1).1,0) else(r,5)) else(r,1)
theorem zmQ {r:Repo}(h:Good r){n who:Str}{t:List File}(hn:n.length<=1048576)(hw:who.length<=1048576)(ht:TB t):Good (zfy r n who t).1:=by
 unfold zfy
 rw[h.ok,aD]
 cases ho:zae (addR r n (zhL r n who t))with
 |true=>exact h.add hn (CB.next hw ht) ho
 |false=>exact h
theorem ziV {r:Repo}(h:Good r){o:Op}{z:List File×Bool}(hn:o.Branch.length<=1048576)(hw:o.Who.length<=1048576)(hz:TB z.1):zch r o z.1 z.2=some (zlm r o z)/\Good (zlm r o z).1:=by
 unfold zch zlm
 have hg:=zmQ h hn hw hz
 rw[zkT h.rb hn hw hz,aA]
 cases z.2 with
 |false=>exact⟨rfl,h⟩
 |true=>
  cases(zfy r o.Branch o.Who z.1).2 with
  |false=>exact⟨rfl,h⟩
  |true=>exact⟨rfl,hg⟩
def zfK (r:Repo)(n:Str):List File:=bif decide (0<=atB r n) then zap r (atB r n).toNat else []
def zus (r:Repo)(o:Op):Repo×Int:=bif(zhM r o.To (atB r o.Branch)).2 then((zhM r o.To (atB r o.Branch)).1,0) else(r,1)
def doB (r:Repo)(o:Op):Repo×Int:=
 bif o.Kind==1 then zlm r o (zsu (zfK r o.Branch) ⟨o.Path,o.Text⟩)
 else bif o.Kind==2 then zlm r o (zti (zfK r o.Branch) o.Path)
 else bif o.Kind==3 then zlm r o (zoC (zfK r o.Branch) o.Path o.To)
 else bif o.Kind==4 then zus r o
 else bif o.Kind==5 then zpm r o.Branch o.Who (atB r o.To)
 else bif o.Kind==6 then zhe r o.Branch o.Who o.At
 else zg0 r o.Branch o.Who o.At
theorem zru {t:List File}(h:TB t)(hs:t.length<=8){g:File}(hg:FB g):TB (zsu t g).1:=by
 unfold zsu
 cases zaD t
 ·exact TB.nil
 ·cases zaD (putF g false t)
  ·exact h
  ·exact h.putF (by omega) hg
theorem zsv {t:List File}(h:TB t)(p:Str):TB (zti t p).1:=by
 unfold zti
 cases zaD t
 ·exact TB.nil
 ·exact h.dropF p
theorem zqU {t:List File}(h:TB t)(p to:Str):TB (zoC t p to).1:=by
 unfold zoC
 cases htr:zaD t with
 |false=>exact TB.nil
 |true=>
  rw[aD]
  cases he:((((dropF p t).length:Int))==(t.length:Int))with
  |true=>exact h
  |false=>
   cases hpt:zaL to with
   |false=>exact h
   |true=>
    have hs:=zaw htr
    obtain⟨e1,e2⟩:=znO h hs (fun f hf=>zcc (za1 htr hf)) (p:=p) (zcc hpt) (K:=fun _ _=>none) t.length 0 (t.length+1) (dropF p t) (by omega) (by omega) (h.dropF p) (by have:=List.length_filter_le (zrt p) t;unfold dropF;omega)
    rw[List.drop_zero]at e2
    simp only[Bool.false_or,aK,aC]
    cases(!zaD (t.foldl (zhs p to) (dropF p t))||(((t.foldl (zhs p to) (dropF p t)).length:Int) !=(t.length:Int)))with
    |true=>exact h
    |false=>exact e2
theorem zqV {r:Repo}(h:Good r){o:Op}(hf:OpFit o)(ho:opB o=true):zjE r o=some (doB r o)/\Good (doB r o).1:=by
 obtain⟨f0,f1,f2,f3,f4,f5,f6⟩:=hf.fit
 have hbw:zaF o.Branch=true/\zaF o.Who=true:=by
  unfold opB at ho
  simp only[aG]at ho
  exact⟨ho.1,ho.2.1⟩
 have hn:=zbk hbw.1
 have hw:=zbk hbw.2
 have hn':o.Branch.length<=1048576:=by omega
 have hw':o.Who.length<=1048576:=by omega
 have hst:TB (zfK r o.Branch)/\(zfK r o.Branch).length<=8:=by
  unfold zfK
  cases hd:decide (0<=atB r o.Branch)with
  |false=>exact⟨TB.nil,by simp⟩
  |true=>
   have h0:0<=atB r o.Branch:=by simpa using hd
   have ha':atB r o.Branch<=(r.Commits.length:Int)-1:=by rcases at_range h.ok o.Branch with e |e<;>omega
   have:=h.tree (i:=(atB r o.Branch).toNat) (by omega)
   exact⟨this.1,this.2.2.2⟩
 have hfb:FB ⟨o.Path,o.Text⟩:=⟨hf.path,zcu hf.text,f6⟩
 have hto:o.To.length<=1048576:=hf.to
 obtain⟨a1,a2⟩:=ziV h (z:=zsu (zfK r o.Branch) ⟨o.Path,o.Text⟩) hn' hw' (zru hst.1 hst.2 hfb)
 obtain⟨b1,b2⟩:=ziV h (z:=zti (zfK r o.Branch) o.Path) hn' hw' (zsv hst.1 o.Path)
 obtain⟨c1,c2⟩:=ziV h (z:=zoC (zfK r o.Branch) o.Path o.To) hn' hw' (zqU hst.1 o.Path o.To)
 obtain⟨d1,d2⟩:=zje h (n:=o.Branch) (who:=o.Who) (b:=atB r o.To) hn' hw'
 obtain⟨e1,e2⟩:=zll h (n:=o.Branch) (who:=o.Who) (b:=o.At) hn' hw'
 obtain⟨g1,g2⟩:=zi6 h (n:=o.Branch) (who:=o.Who) (b:=o.At) hn' hw'
 have hrest: ∀ t,t=zfK r o.Branch->(bif((o.Kind:Int)==(1:Int)) then
  ((Vm.zfm t (Vm.File.mk o.Path o.Text)).bind fun z41=>(Vm.zch r o z41.1 z41.2).bind fun z53=>some (z53.1,z53.2))
  else(bif((o.Kind:Int)==(2:Int)) then
   ((Vm.zeJ t o.Path).bind fun z79=>(Vm.zch r o z79.1 z79.2).bind fun z91=>some (z91.1,z91.2))
   else(bif((o.Kind:Int)==(3:Int)) then
    ((Vm.zeK t o.Path o.To).bind fun z117=>(Vm.zch r o z117.1 z117.2).bind fun z129=>some (z129.1,z129.2))
    else(bif((o.Kind:Int)==(4:Int)) then
     ((Vm.zdv r o.To (atB r o.Branch)).bind fun z157=>bif(!z157.2) then(some (r,1)) else(some (z157.1,0)))
     else(bif((o.Kind:Int)==(5:Int)) then
      ((Vm.zc3 r o.To).bind fun z199=>(Vm.zdb r o.Branch o.Who z199).bind fun z208=>some (z208.1,z208.2))
      else(bif((o.Kind:Int)==(6:Int)) then
       ((Vm.zfb r o.Branch o.Who o.At).bind fun z226=>some (z226.1,z226.2))
       else((Vm.zdE r o.Branch o.Who o.At).bind fun z243=>some (z243.1,z243.2))))))))=some (doB r o)/\Good (doB r o).1:=by
  intro t et
  subst et
  unfold doB
  cases o.Kind==1 with
  |true=>rw[aD,aD,znJ hst.1 hfb,aA,a1];exact⟨rfl,a2⟩
  |false=>
  cases o.Kind==2 with
  |true=>simp only[aD,aC];rw[zmN hst.1,aA,b1];exact⟨rfl,b2⟩
  |false=>
  cases o.Kind==3 with
  |true=>simp only[aD,aC];rw[zmP hst.1 _ _ hto,aA,c1];exact⟨rfl,c2⟩
  |false=>
  cases o.Kind==4 with
  |true=>
   simp only[aD,aC]
   rw[zkU h.rb hto,aA]
   unfold zus zhM
   rw[h.ok,aD]
   cases hb:(decide (0<=atB r o.To) || !zae (headR r o.To (atB r o.Branch)))with
   |true=>exact⟨rfl,h⟩
   |false=>
    refine⟨rfl,h.head hto ?_⟩
    simp only[Bool.or_eq_false_iff,Bool.not_eq_false']at hb
    exact hb.2
  |false=>
  cases o.Kind==5 with
  |true=>simp only[aD,aC];rw[zdC h.rb,aA,d1];exact⟨rfl,d2⟩
  |false=>
  cases o.Kind==6 with
  |true=>simp only[aD,aC];rw[e1];exact⟨rfl,e2⟩
  |false=>simp only[aD,aC];rw[g1];exact⟨rfl,g2⟩
 unfold zjE
 rw[zdC h.rb,aA]
 simp only[jn]
 cases hd:decide (0<=atB r o.Branch)with
 |false=>
  refine hrest [] ?_
  unfold zfK
  rw[hd];rfl
 |true=>
  have h0:0<=atB r o.Branch:=by simpa using hd
  have ha':atB r o.Branch<=(r.Commits.length:Int)-1:=by rcases at_range h.ok o.Branch with e |e<;>omega
  rw[aD,zcA h0 ha',aA]
  refine hrest _ ?_
  unfold zfK
  rw[hd];rfl
theorem zpC:Good zb0:=⟨⟨by simp[zb0],fun c hc=>by simp[zb0]at hc,by simp[zb0],fun c hc=>by simp[zb0]at hc⟩,rfl,fun _ h=>absurd rfl h⟩
def OpL (o:Op):Prop:=Bk.fit o/\Bk.bulk o<=1000000
theorem znP {l:List Op}(hl:l.length<=1000)(ho: ∀ o∈l,OpL o): ∀ (k i m:Nat) (r:Repo),i+k=l.length->k<m->Good r -> ∃ r',Good r'/\zc0 l (fun _ y12 y15=>some (Vm.Repo.mk y12 y15)) m (i:Int) r.Commits r.Heads=some r'
 |k,i,0,r,_,hm,_=>by omega
 |0,i,m+1,r,hi,_,hg=>by
  obtain rfl:i=l.length:=by omega
  simp only[zc0,jn,zac,aC]
  exact⟨r,hg,rfl⟩
 |k+1,i,m+1,r,hi,hm,hg=>by
  have hlt:i<l.length:=by omega
  have hx:l[i]? =some l[i]:=aB hlt
  obtain⟨q1,q2⟩:=ho _ (List.getElem_mem hlt)
  have hof:=OpFit.of q1 (by omega)
  simp only[zc0,jn,zaj hx,aD]
  cases decide ((i:Int)<30)with
  |false=>exact⟨r,hg,rfl⟩
  |true=>
   rw[aD,zad hx,aA,zqT hof,aA,zab hlt (show l.length<=maxi by unfold maxi;omega)]
   cases hop:opB l[i]with
   |false=>exact znP hl ho k (i+1) m r (by omega) (by omega) hg
   |true=>
    obtain⟨e1,e2⟩:=zqV hg hof hop
    rw[aD,aA,show(⟨r.Commits,r.Heads⟩:Repo)=r from rfl,e1,aA]
    exact znP hl ho k (i+1) m (doB r l[i]).1 (by omega) (by omega) e2
theorem zmR {l:List Op}(hl:l.length<=1000)(ho: ∀ o∈l,OpL o): ∃ r,Good r/\zgi l=some r:=by
 unfold zgi
 simp only[jn]
 exact znP hl ho l.length 0 (l.length+1) zb0 (by omega) (by omega) zpC
section
variable {r:l30Rd}{p:Int}
theorem zhu {q k:Int}(h:zeg r p)(hk:0<=k)(hq:p+k<=q):zeg ⟨r.b,r.p+k⟩ q:=h.on k hk (by have:=h.2.2;omega)
theorem zmS (h:zeg r p)(hp:p<=1000000000): ∃ s,ze0 r=some (s,r.p+1)/\s.length<=10:=by
 unfold ze0
 obtain⟨s,e,hm⟩:=zmL h (by omega) (l:=[([109,97,105,110]:Str),([109,97,105,110]:Str),([115,105,100,101]:Str),([100,101,118]:Str)]) (by simp) (by simp)
 refine⟨s,by rw[e];rfl,?_⟩
 simp only[List.mem_cons,List.not_mem_nil,or_false]at hm
 rcases hm with e |e |e |e<;>rw[e]<;>simp
theorem zot (h:zeg r p)(hp:p<=1000000000): ∃ s,zd6 r=some (s,r.p+1)/\s.length<=10:=by
 unfold zd6
 obtain⟨s,e,hm⟩:=zmL h (by omega) (l:=[([97]:Str),([98]:Str),([100,47,101]:Str),([100,47,102]:Str),([103,47,104,47,105]:Str),([103,47,107]:Str),([122]:Str)]) (by simp) (by simp)
 refine⟨s,by rw[e];rfl,?_⟩
 simp only[List.mem_cons,List.not_mem_nil,or_false]at hm
 rcases hm with e |e |e |e |e |e |e<;>rw[e]<;>simp
theorem zka {k a:Int}{b w q t:Str}{l:List Str}(hk:0<=k/\k<=100)(ha:0<=a/\a<=100)(h1:b.length<=10)(h2:w.length<=10)(h3:q.length<=10)(h4:t.length<=10)(h5:LB 8 l):OpL ⟨k,b,w,q,t,a,l⟩:=by
 have hb:=h5.bulk
 refine⟨⟨?_,?_,?_,?_,?_,?_,h5.fit (by omega)⟩,?_⟩
 ·show -9223372036854775808<=k/\k<=9223372036854775807;omega
 ·show b.length<=maxi;unfold maxi;omega
 ·show w.length<=maxi;unfold maxi;omega
 ·show q.length<=maxi;unfold maxi;omega
 ·show t.length<=maxi;unfold maxi;omega
 ·show -9223372036854775808<=a/\a<=9223372036854775807;omega
 ·show 0+(b.length+(w.length+(q.length+(t.length+(0+Bk.bulk l)))))<=_
  omega
theorem zln:LB 8 ([]:List Str):=⟨by simp,fun s hs=>by simp at hs⟩
theorem zxc (h:zeg r p)(hp:p<=1000000): ∃ o q,zjC r=some (o,q)/\OpL o/\zeg ⟨r.b,q⟩ (p+100):=by
 unfold zjC
 obtain⟨b,e1,hb⟩:=zmS h (by omega)
 have h1:=zhu (q:=p+1) h (k:=1) (by omega) (by omega)
 obtain⟨w,e2,hw⟩:=zmL h1 (by omega) (l:=[([97,110,110]:Str),([98,111,98]:Str),([99,105,100]:Str)]) (by simp) (by simp)
 have hwl:w.length<=10:=by
  simp only[List.mem_cons,List.not_mem_nil,or_false]at hw
  rcases hw with e |e |e<;>rw[e]<;>simp
 have h2:=zhu (q:=p+2) h1 (k:=1) (by omega) (by omega)
 obtain⟨k,e3,k0,k1⟩:=zd7 h2 (n:=12) (by omega) (by omega) (by omega)
 have h3:=zhu (q:=p+3) h2 (k:=1) (by omega) (by omega)
 rw[e1,aA,e2,aA]
 simp only[jn,e3,aA]
 obtain⟨pa,e4,hpa⟩:=zot h3 (by omega)
 have h4:=zhu (q:=p+4) h3 (k:=1) (by omega) (by omega)
 obtain⟨pb,e5,hpb⟩:=zot h4 (by omega)
 have h5:=zhu (q:=p+5) h4 (k:=1) (by omega) (by omega)
 obtain⟨fo,e6,hfo⟩:=zmL h3 (by omega) (l:=[([115,105,100,101]:Str),([100,101,118]:Str),([111,108,100]:Str)]) (by simp) (by simp)
 have hfl:fo.length<=10:=by
  simp only[List.mem_cons,List.not_mem_nil,or_false]at hfo
  rcases hfo with e |e |e<;>rw[e]<;>simp
 obtain⟨br,e7,hbr⟩:=zmS h3 (by omega)
 obtain⟨n,e8,n0,n1⟩:=zd7 h3 (n:=10) (by omega) (by omega) (by omega)
 obtain⟨t,q,e9,ht,hq⟩:=zsq h4 (by omega)
 simp only[e4,e5,e6,e7,e8,e9,aA]
 have g4:zeg ⟨r.b,r.p+1+1+1+1⟩ (p+100):=zhu h3 (by omega) (by omega)
 have g5:zeg ⟨r.b,r.p+1+1+1+1+1⟩ (p+100):=zhu h4 (by omega) (by omega)
 have gq:zeg ⟨r.b,q⟩ (p+100):=⟨hq.1,hq.2.1,by have:=hq.2.2;show q<=_;have e:(⟨r.b,q⟩:l30Rd).p=q:=rfl;rw[e]at this;omega⟩
 cases k==0 with
 |true=>exact⟨_,_,rfl,zka (by omega) (by omega) hb hwl hpa (by simp) zln,g4⟩
 |false=>
 cases k==1 with
 |true=>exact⟨_,_,rfl,zka (by omega) (by omega) hb hwl hpa hpb zln,g5⟩
 |false=>
 have hfork:=zka (k:=4) (a:=0) (by omega) (by omega) hb hwl (q:=[]) (by simp) hfl zln
 have huni:=zka (k:=5) (a:=0) (by omega) (by omega) hb hwl (q:=[]) (by simp) hbr zln
 have hset:=zka (k:=1) (a:=0) (by omega) (by omega) hb hwl hpa (t:=[]) (by simp) ht
 cases k==2 with
 |true=>exact⟨_,_,rfl,hfork,g4⟩
 |false=>
 cases k==3 with
 |true=>exact⟨_,_,rfl,hfork,g4⟩
 |false=>
 cases k==4 with
 |true=>exact⟨_,_,rfl,huni,g4⟩
 |false=>
 cases k==5 with
 |true=>exact⟨_,_,rfl,huni,g4⟩
 |false=>
 cases k==6 with
 |true=>exact⟨_,_,rfl,huni,g4⟩
 |false=>
 cases k==7 with
 |true=>exact⟨_,_,rfl,zka (by omega) (by omega) hb hwl (by simp) (by simp) zln,g4⟩
 |false=>
 cases k==8 with
 |true=>exact⟨_,_,rfl,zka (by omega) (by omega) hb hwl (by simp) (by simp) zln,g4⟩
 |false=>exact⟨_,_,rfl,hset,gq⟩
theorem zrN {x0:l30Rd}: ∀ (m:Nat) (out:List Op) (n q p:Int),0<=n->n<m->(∀ o∈out,OpL o)->zeg ⟨x0.b,q⟩ p->p+100*n<=1000000->out.length+n<=100->
 ∃ l q',zfu x0 (fun y15 _ y19=>some (y15,y19)) m out n q=some (l,q')/\(∀ o∈l,OpL o)/\l.length<=100/\zeg ⟨x0.b,q'⟩ (p+100*n)
 |0,out,n,q,p,h0,hm,_,_,_,_=>by omega
 |m+1,out,n,q,p,h0,hm,ho,hr,hp,hl=>by
  simp only[zfu]
  by_cases hn:0<n
  ·obtain⟨o,q1,e1,o1,r1⟩:=zxc hr (by omega)
   rw[aF hn,aD,e1,aA,ap1 (show out.length<=1048576 by omega),aA,zag (by omega) (by omega)]
   obtain⟨l,q',e2,l1,l2,r2⟩:=zrN (x0:=x0) m (out++[o]) (n-1) q1 (p+100) (by omega) (by omega) (fun x hx=>by
    rcases List.mem_append.1 hx with h1 |h1
    ·exact ho x h1
    ·rw[List.mem_singleton]at h1;rw[h1];exact o1) r1 (by omega) (by simp;omega)
   exact⟨l,q',e2,l1,l2,⟨r2.1,r2.2.1,by have e:(⟨x0.b,q'⟩:l30Rd).p<=p+100+100*(n-1):=r2.2.2;show q'<=_;have e':q'<=p+100+100*(n-1):=e;omega⟩⟩
  ·rw[aE hn,aC]
   exact⟨out,q,rfl,ho,by omega,⟨hr.1,hr.2.1,by have e:q<=p:=hr.2.2;show q<=_;omega⟩⟩
theorem zut (h:zeg r p)(hp:p<=100000): ∃ l q,ziy r=some (l,q)/\(∀ o∈l,OpL o)/\l.length<=100/\zeg ⟨r.b,q⟩ (p+2001):=by
 unfold ziy
 obtain⟨n,e,hm⟩:=zpt h (by omega) (l:=[0,3,8,14,20]) (by simp) (by simp)
 have hn:0<=n/\n<=20:=by
  simp only[List.mem_cons,List.not_mem_nil,or_false]at hm
  omega
 have h1:=zhu (q:=p+1) h (k:=1) (by omega) (by omega)
 rw[e,aA]
 simp only[jn]
 obtain⟨l,q,e2,l1,l2,r2⟩:=zrN (x0:=r) ((n-0).toNat+1) [] n (r.p+1) (p+1) hn.1 (by omega) (fun x hx=>by simp at hx) h1 (by omega) (by simp;omega)
 exact⟨l,q,e2,l1,l2,⟨r2.1,r2.2.1,by have:=r2.2.2;omega⟩⟩
theorem zsw (h:zeg r p)(hp:p<=100000): ∃ x q,zhm r=some (x,q)/\Good x/\zeg ⟨r.b,q⟩ (p+2001):=by
 obtain⟨l,q,e,l1,l2,r2⟩:=zut h hp
 obtain⟨x,hx,e2⟩:=zmR (by omega) l1
 refine⟨x,q,?_,hx,r2⟩
 unfold zhm
 rw[e,aA,e2,aA,zel hx.rb,aA]
structure Drawn (r:Repo):Prop where
 rb:RpB r
 coms:r.Commits.length<=16
 heads:r.Heads.length<=6
theorem Gd.drawn {r:Repo}(h:Gd True r):Drawn r:=by
 obtain⟨s1,s2⟩:=zah h.ok
 exact⟨h.rb,s1,by omega⟩
theorem zrO {x:Repo}(h:RpB x){i:Nat}{c:Commit}(hc:CB c):RpB ⟨x.Commits.set i c,x.Heads⟩:=
 ⟨by simp;exact h.coms,fun y hy=>by
  rcases List.mem_or_eq_of_mem_set hy with h1 |h1
  ·exact h.com y h1
  ·rw[h1];exact hc,h.heads,h.head⟩
theorem zno (h:zeg r p)(hp:p<=100000): ∃ x q,zer r=some (x,q)/\Drawn x/\zeg ⟨r.b,q⟩ (p+2010):=by
 obtain⟨x,q,e,hg,r2⟩:=zsw h hp
 obtain⟨s1,s2⟩:=zah hg.ok
 have hd:=hg.drawn
 unfold zer
 rw[e,aA]
 simp only[jn]
 have rq:zeg ⟨r.b,q⟩ (p+2010):=⟨r2.1,r2.2.1,by have:=r2.2.2;omega⟩
 cases hc:decide ((0:Int)< (x.Commits.length:Int))with
 |false=>exact⟨x,q,rfl,hd,rq⟩
 |true=>
  have h0:(0:Int)< (x.Commits.length:Int):=by simpa using hc
  obtain⟨k,e3,k0,k1⟩:=zd7 r2 (n:=(x.Commits.length:Int)) (by omega) h0 (by omega)
  have r3:zeg ⟨r.b,q+1⟩ (p+2002):=zhu (q:=p+2002) r2 (k:=1) (by omega) (by omega)
  obtain⟨z,e4,z0,z1⟩:=zd7 r3 (n:=16) (by omega) (by omega) (by omega)
  have r4:zeg ⟨r.b,q+1+1⟩ (p+2010):=zhu (q:=p+2010) r3 (k:=1) (by omega) (by omega)
  obtain⟨n,rfl⟩:=Int.eq_ofNat_of_zero_le k0
  have hn:n<x.Commits.length:=by omega
  have hx:x.Commits[n]? =some x.Commits[n]:=aB hn
  have hcb:=hg.rb.cat hx
  simp only at e3 e4
  simp only[aD,e3,e4,aA]
  cases z==0 with
  |true=>
   rw[aD,zad hx,aA,zbs hn,aA]
   exact⟨_,_,rfl,⟨zrO hg.rb ⟨by simp,hcb.who,hcb.tree⟩,by simp;exact s1,hd.heads⟩,r4⟩
  |false=>
  cases z==1 with
  |true=>
   rw[aC,aD,zad hx,aA,zbs hn,aA]
   exact⟨_,_,rfl,⟨zrO hg.rb ⟨hcb.par,by simp,hcb.tree⟩,by simp;exact s1,hd.heads⟩,r4⟩
  |false=>
  cases z==2 with
  |true=>
   have hne:x.Heads≠ []:=hg.hd trivial (fun e=>by rw[e]at hn;simp at hn)
   have hh:x.Heads[0]? =some (x.Heads[0]'(List.length_pos_iff.2 hne)):=aB _
   rw[aC,aC,aD,show gi x.Heads 0=some (x.Heads[0]'(List.length_pos_iff.2 hne)) from zad (i:=0) hh,aA,ap1 hg.rb.heads,aA]
   refine⟨_,_,rfl,⟨⟨hg.rb.coms,hg.rb.com,by simp;omega,fun y hy=>?_⟩,s1,by simp;omega⟩,r4⟩
   rcases List.mem_append.1 hy with h1 |h1
   ·exact hg.rb.head y h1
   ·rw[List.mem_singleton]at h1;rw[h1];exact hg.rb.head _ (List.getElem_mem _)
  |false=>exact⟨x,_,rfl,hd,r4⟩
theorem zwy {code:List Byte}(h:code.length<=1048576): ∃ b:List Byte,zeQ code=some ⟨b,0⟩/\zeg ⟨b,0⟩ 0:=by
 obtain⟨b,e,hb⟩:=zso h
 exact⟨b,e,hb,by show(0:Int)<=0;omega,by show(0:Int)<=0;omega⟩
end
inductive Rc (r:Repo):Nat->Nat->Prop
 |refl (a:Nat):Rc r a a
 |step {a b:Nat} {p:Int}:Rc r a b->p∈zaf r b->Rc r a p.toNat
theorem Rc.trans {r:Repo}{a b c:Nat}(h:Rc r a b)(k:Rc r b c):Rc r a c:=by
 induction k with
 |refl=>exact h
 |step _ hp ih=>exact Rc.step ih hp
theorem Rc.head {r:Repo}{a c:Nat}(h:Rc r a c):c=a \/ ∃ p∈zaf r a,Rc r p.toNat c:=by
 induction h with
 |refl=>exact .inl rfl
 | @step b p hb hp ih=>
  rcases ih with e |⟨q,hq,hc⟩
  ·subst e
   exact .inr ⟨p,hp,Rc.refl _⟩
  ·exact .inr ⟨q,hq,Rc.step hc hp⟩
theorem Rc.le {r:Repo}(hr:zae r=true){a c:Nat}(ha:a<r.Commits.length)(h:Rc r a c):c<=a/\c<r.Commits.length:=by
 induction h with
 |refl=>exact⟨Nat.le_refl _,ha⟩
 |step _ hp ih=>
  have:=(zaW hr ih.2).2 _ hp
  omega
def zh4 (l:List Int):Prop:=l.Pairwise (· < ·)
theorem zh4.ext: ∀ {xs ys:List Int},zh4 xs->zh4 ys->(∀ a,a∈xs↔a∈ys)->xs=ys
 | [],[],_,_,_=>rfl
 | [],y::ys,_,_,h=>by have:=(h y).2 (by simp);simp at this
 |x::xs,[],_,_,h=>by have:=(h x).1 (by simp);simp at this
 |x::xs,y::ys,hx,hy,h=>by
  have hx':=List.pairwise_cons.1 hx
  have hy':=List.pairwise_cons.1 hy
  have e:x=y:=by
   rcases List.mem_cons.1 ((h x).1 (by simp))with e |hm
   ·exact e
   ·rcases List.mem_cons.1 ((h y).2 (by simp))with e |hm2
    ·exact e.symm
    ·have h1:=hx'.1 y hm2
     have h2:=hy'.1 x hm
     omega
  subst e
  rw[zh4.ext hx'.2 hy'.2 (fun a=>by
   constructor
   ·intro ha
    rcases List.mem_cons.1 ((h a).1 (List.mem_cons_of_mem _ ha))with e2 |e2
    ·have:=hx'.1 a ha;omega
    ·exact e2
   ·intro ha
    rcases List.mem_cons.1 ((h a).2 (List.mem_cons_of_mem _ ha))with e2 |e2
    ·have:=hy'.1 a ha;omega
    ·exact e2)]
section
variable {r:l30Rd}{p:Int}
theorem zzP (h:zeg r p)(hp:p<=1000000){n:Int}(hn:n<1):zav r n=some (0,r.p+1):=by
 obtain⟨hb,h0,h1⟩:=h
 unfold zav
 have e1:w64 (r.p+1)=r.p+1:=zag (by omega) (by omega)
 simp only[jn,e1]
 rw[aF hn,aD]
 rfl
theorem ztT (h:zeg r p)(hp:p<=200000){x:Repo}(hx:Drawn x): ∃ a,zlD r x=some (a,r.p+1+1) /\ -1<=a/\a<=16:=by
 have hc:=hx.coms
 unfold zlD
 obtain⟨k,e,k0,k1⟩:=zd7 h (n:=14) (by omega) (by omega) (by omega)
 have h1:=zhu (q:=p+1) h (k:=1) (by omega) (by omega)
 rw[e,aA]
 cases k==0 with
 |true=>
  obtain⟨a,e2,hm⟩:=zpt h1 (by omega) (l:=[(-1),(x.Commits.length:Int)]) (by simp) (by simp)
  simp only[aD,e2,aA]
  refine⟨a,rfl,?_⟩
  simp only[List.mem_cons,List.not_mem_nil,or_false]at hm
  omega
 |false=>
  simp only[aC]
  by_cases h0:0<x.Commits.length
  ·obtain⟨a,e2,a0,a1⟩:=zd7 h1 (n:=(x.Commits.length:Int)) (by omega) (by omega) (by omega)
   rw[e2,aA]
   exact⟨a,rfl,by omega,by omega⟩
  ·rw[zzP h1 (by omega) (by omega),aA]
   exact⟨0,rfl,by omega,by omega⟩
end
theorem znp {r:Repo}(h:RpB r){a:Int}(ha:upB r.Commits.length a=true):TB (zap r a.toNat):=by
 obtain⟨a0,a1⟩:=zax.1 ha
 have hx:r.Commits[a.toNat]? =some (r.Commits[a.toNat]'(by omega)):=aB _
 unfold zap
 rw[zeD hx]
 exact(h.cat hx).tree
def znQ (r:Repo):Nat->Nat->List Int
 |0,_=>[]
 |f+1,a=>(a:Int)::(match zaf r a with | []=>[] |p:: _=>znQ r f p.toNat)
theorem zhv (r:Repo)(f a:Nat):znQ r (f+1) a=(a:Int)::(match zaf r a with | []=>[] |p:: _=>znQ r f p.toNat):=rfl
theorem zk6 {r:Repo}(hr:zae r=true){a:Nat}(ha:a<r.Commits.length){p:Int}{ps:List Int}(hp:zaf r a=p::ps):0<=p/\p.toNat<a/\p.toNat<r.Commits.length/\((p.toNat:Nat):Int)=p:=by
 have:=(zaW hr ha).2 p (by rw[hp];simp)
 omega
theorem zqW {r:Repo}(hr:zae r=true){a:Nat}(ha:a<r.Commits.length):zes r (a:Int)=some (match zaf r a with | []=> -1 |p:: _=>p):=by
 have e:(r.Commits.getD a noCommit).Parents=zaf r a:=rfl
 unfold zes
 simp only[zj4 ha,aA,e]
 cases hp:zaf r a with
 |nil=>rfl
 |cons p ps=>
  have hz:(((p::ps).length:Int)==(0:Int))=false:=by
   rw[beq_eq_false_iff_ne]
   simp only[aL]
   omega
  rw[hz,aC,show gi (p::ps) 0=some p from rfl,aA]
theorem zl0: ∀ (n:Nat) (a b:List Str) (k:Nat),a.length+b.length<=n -> ∀ (i:Nat) (j:Int),(mtF a b k)[i]? =some j->0<=j->(k:Int)<=j /\ ∃ s,a[i]? =some s/\b[(j-k).toNat]? =some s
 |n,[],b,k,_,i,j,h,_=>by rw[zhE]at h;simp at h
 |0,x::xs,b,k,hn,_,_,_,_=>by simp at hn
 |n+1,x::xs,[],k,hn,i,j,h,h0=>by
  rw[zgD]at h
  cases i with
  |zero=>simp at h;omega
  |succ i=>
   rw[List.getElem?_cons_succ]at h
   obtain⟨h1,s,h2,h3⟩:=zl0 n xs [] k (by simp at hn ⊢;omega) i j h h0
   exact⟨h1,s,by rw[List.getElem?_cons_succ];exact h2,h3⟩
 |n+1,x::xs,y::ys,k,hn,i,j,h,h0=>by
  simp only[aL]at hn
  rw[zge]at h
  by_cases he:(x==y)=true
  ·rw[if_pos he]at h
   cases i with
   |zero=>
    simp only[List.getElem?_cons_zero,Option.some.injEq]at h
    refine⟨by omega,x,by simp,?_⟩
    rw[show(j-k).toNat=0 by omega,List.getElem?_cons_zero,eq_of_beq he]
   |succ i=>
    rw[List.getElem?_cons_succ]at h
    obtain⟨h1,s,h2,h3⟩:=zl0 n xs ys (k+1) (by omega) i j h h0
    refine⟨by omega,s,by rw[List.getElem?_cons_succ];exact h2,?_⟩
    rw[show(j-k).toNat=(j-((k+1:Nat):Int)).toNat+1 by omega,List.getElem?_cons_succ]
    exact h3
  ·rw[if_neg he]at h
   by_cases hl:zgo (x::xs) ys<=zgo xs (y::ys)
   ·rw[if_pos hl]at h
    cases i with
    |zero=>simp at h;omega
    |succ i=>
     rw[List.getElem?_cons_succ]at h
     obtain⟨h1,s,h2,h3⟩:=zl0 n xs (y::ys) k (by simp;omega) i j h h0
     exact⟨h1,s,by rw[List.getElem?_cons_succ];exact h2,h3⟩
   ·rw[if_neg hl]at h
    obtain⟨h1,s,h2,h3⟩:=zl0 n (x::xs) ys (k+1) (by simp;omega) i j h h0
    refine⟨by omega,s,h2,?_⟩
    rw[show(j-k).toNat=(j-((k+1:Nat):Int)).toNat+1 by omega,List.getElem?_cons_succ]
    exact h3
theorem zr7 {a b:List Str}{i:Nat}{j:Int}(h:(mt2 a b)[i]? =some j)(h0:0<=j): ∃ s,a[i]? =some s/\b[j.toNat]? =some s:=by
 obtain⟨_,s,h1,h2⟩:=zl0 _ a b 0 (Nat.le_refl _) i j h h0
 refine⟨s,h1,?_⟩
 rwa [show(j-((0:Nat):Int)).toNat=j.toNat by simp]at h2
theorem asc_in {hi:Int}: ∀ {l:List Int} {lo:Int},Asc hi lo l -> ∀ x∈l,x = -1\/(lo<=x/\x<hi)
 | [],_,_,x,h=>by simp at h
 |y::l,lo, .inl ⟨h1,h2⟩,x,h=>by
  rcases List.mem_cons.1 h with e |e
  ·exact .inl (by rw[e];exact h1)
  ·exact asc_in h2 x e
 |y::l,lo, .inr ⟨h1,h2,h3⟩,x,h=>by
  rcases List.mem_cons.1 h with e |e
  ·exact .inr (by rw[e];exact⟨h1,h2⟩)
  ·rcases asc_in h3 x e with q |q
   ·exact .inl q
   ·exact .inr (by omega)
theorem asc_pair {hi:Int}: ∀ {l:List Int} {lo:Int},Asc hi lo l->l.Pairwise fun x y=>0<=x->0<=y->x≠y
 | [],_,_=>List.Pairwise.nil
 |y::l,lo, .inl ⟨h1,h2⟩=>List.pairwise_cons.2 ⟨fun z _ q _=>by omega,asc_pair h2⟩
 |y::l,lo, .inr ⟨h1,h2,h3⟩=>List.pairwise_cons.2 ⟨fun z hz _ q=>by
  rcases asc_in h3 z hz with e |e<;>omega,asc_pair h3⟩
theorem ztj {a b:List Str}{i:Nat}{j:Int}(h:(mt2 a b)[i]? =some j):i<a.length/\(j = -1\/(0<=j/\j< (b.length:Int))):=by
 obtain⟨h1,h2⟩:=zd8 a b
 refine⟨by rw[<- h2];exact(List.getElem?_eq_some_iff.1 h).1,?_⟩
 exact asc_in h1 j (aH h)
def ovS (out:List Int)(z:Int×Int):List Int:=bif decide (0<=z.1) then out.set z.1.toNat z.2 else out
def ovL (out m by_:List Int):List Int:=(m.zip by_).foldl ovS out
theorem zo5 (out:List Int)(z:Int×Int):(ovS out z).length=out.length:=by
 unfold ovS
 cases decide (0<=z.1)<;>simp
theorem zuu: ∀ (zs:List (Int×Int)) (out:List Int),(zs.foldl ovS out).length=out.length
 | [],out=>rfl
 |z::zs,out=>by rw[List.foldl_cons,zuu zs,zo5]
theorem zxd {out:List Int}{z:Int×Int}{k:Nat}(h:z.1≠(k:Int)):(ovS out z).getD k 0=out.getD k 0:=by
 unfold ovS
 by_cases h0:0<=z.1
 ·rw[aF h0,aD,List.getD_eq_getElem?_getD,List.getElem?_set_ne (by omega),List.getD_eq_getElem?_getD]
 ·rw[aE h0,aC]
theorem zvt {out:List Int}{z:Int×Int}{k:Nat}(h:z.1=(k:Int))(hk:k<out.length):(ovS out z).getD k 0=z.2:=by
 unfold ovS
 rw[aF (by omega),aD,List.getD_eq_getElem?_getD,show z.1.toNat=k by omega,List.getElem?_set_self hk]
 rfl
theorem zqx: ∀ (zs:List (Int×Int)) (out:List Int) {k:Nat},(∀ z∈zs,z.1≠(k:Int))->(zs.foldl ovS out).getD k 0=out.getD k 0
 | [],out,k,_=>rfl
 |z::zs,out,k,h=>by rw[List.foldl_cons,zqx zs _ fun y hy=>h y (List.mem_cons_of_mem _ hy),zxd (h z (by simp))]
theorem ztk: ∀ (zs:List (Int×Int)) (out:List Int) {k:Nat} {z:Int×Int},zs.Pairwise (fun x y=>0<=x.1->0<=y.1->x.1≠y.1)->k<out.length->z∈zs->z.1=(k:Int)->(zs.foldl ovS out).getD k 0=z.2
 | [],out,k,z,_,_,h,_=>by simp at h
 |y::zs,out,k,z,hp,hk,h,e=>by
  obtain⟨h1,h2⟩:=List.pairwise_cons.1 hp
  rw[List.foldl_cons]
  rcases List.mem_cons.1 h with q |q
  ·subst q
   rw[zqx zs _ fun y hy e2=>h1 y hy (by omega) (by omega) (by omega),zvt e hk]
  ·exact ztk zs _ h2 (by rw[zo5];exact hk) q e
theorem zr8 {m by_:List Int}{hi:Int}{lo:Int}(h:Asc hi lo m)(hl:m.length<=by_.length):(m.zip by_).Pairwise fun x y=>0<=x.1->0<=y.1->x.1≠y.1:=by
 have:=asc_pair h
 rw[<- List.map_fst_zip (l₁:=m) (l₂:=by_) hl,List.pairwise_map]at this
 exact this
def blT (r:Repo)(p:Str)(a:Nat):List Str:=(getT (zap r a) p).1
def blN (r:Repo)(p:Str):Nat->Nat->List Int
 |0,a=>List.replicate (blT r p a).length (a:Int)
 |f+1,a=>match zaf r a with
  | []=>List.replicate (blT r p a).length (a:Int)
  |q:: _=>ovL (List.replicate (blT r p a).length (a:Int)) (mt2 (blT r p q.toNat) (blT r p a)) (blN r p f q.toNat)
theorem zkb (r:Repo)(p:Str): ∀ (f a:Nat),(blN r p f a).length=(blT r p a).length
 |0,a=>by simp[blN]
 |f+1,a=>by
  unfold blN
  cases zaf r a with
  |nil=>simp
  |cons q ps=>
   show(ovL _ _ _).length=_
   unfold ovL
   rw[zuu,List.length_replicate]
theorem zpD {r:Repo}{p:Str}{f a:Nat}(h:zaf r a=[]):blN r p f a=List.replicate (blT r p a).length (a:Int):=by
 cases f with
 |zero=>rfl
 |succ f=>simp only[blN,h]
theorem zmI {r:Repo}{p:Str}{f a:Nat}{q:Int}{ps:List Int}(h:zaf r a=q::ps):blN r p (f+1) a=ovL (List.replicate (blT r p a).length (a:Int)) (mt2 (blT r p q.toNat) (blT r p a)) (blN r p f q.toNat):=by
 simp only[blN,h]
theorem blN_at {r:Repo}{p:Str}{f a k:Nat}(hk:k< (blT r p a).length):
 (∃ q ps i,zaf r a=q::ps/\(mt2 (blT r p q.toNat) (blT r p a))[i]? =some (k:Int)/\i< (blT r p q.toNat).length/\(blN r p (f+1) a).getD k 0=(blN r p f q.toNat).getD i 0)\/
 ((blN r p (f+1) a).getD k 0=(a:Int) /\ ∀ q ps,zaf r a=q::ps->(k:Int)∉mt2 (blT r p q.toNat) (blT r p a)):=by
 have hrep:(List.replicate (blT r p a).length (a:Int)).getD k 0=(a:Int):=by
  rw[List.getD_eq_getElem?_getD,List.getElem?_replicate,if_pos hk]
  rfl
 cases hp:zaf r a with
 |nil=>
  refine .inr ⟨?_,fun q ps e=>by cases e⟩
  rw[zpD hp]
  exact hrep
 |cons q ps=>
  rw[zmI hp]
  obtain⟨ha,hl⟩:=zd8 (blT r p q.toNat) (blT r p a)
  have hle:(mt2 (blT r p q.toNat) (blT r p a)).length<=(blN r p f q.toNat).length:=by rw[hl,zkb];exact Nat.le_refl _
  by_cases hm:(k:Int)∈mt2 (blT r p q.toNat) (blT r p a)
  ·obtain⟨i,hi⟩:=List.getElem?_of_mem hm
   have hil:=(ztj hi).1
   refine .inl ⟨q,ps,i,rfl,hi,hil,?_⟩
   have hb:i< (blN r p f q.toNat).length:=by rw[zkb];exact hil
   have hz:((k:Int),(blN r p f q.toNat)[i])∈(mt2 (blT r p q.toNat) (blT r p a)).zip (blN r p f q.toNat):=by
    refine aH (i:=i) ?_
    rw[List.getElem?_zip_eq_some]
    exact⟨hi,aB hb⟩
   unfold ovL
   rw[ztk _ _ (zr8 ha hle) (by rw[List.length_replicate];exact hk) hz rfl,List.getD_eq_getElem?_getD,aB hb]
   rfl
  ·refine .inr ⟨?_,fun q' ps' e=>by cases e;exact hm⟩
   unfold ovL
   rw[zqx _ _ fun z hz e=>hm (by rw[<- e];exact(List.of_mem_zip (a:=z.1) (b:=z.2) hz).1)]
   exact hrep
theorem zoD (r:Repo)(f a:Nat):(a:Int)∈znQ r (f+1) a:=by rw[zhv];simp
theorem ztl {r:Repo}(hr:zae r=true){p:Str}: ∀ (f a:Nat),a<=f->a<r.Commits.length -> ∀ k,k< (blT r p a).length->
 ∃ c:Nat,(blN r p f a).getD k 0=(c:Int)/\(c:Int)∈znQ r (f+1) a/\c<=a /\ ∃ (s:Str) (i:Nat),(blT r p a)[k]? =some s/\(blT r p c)[i]? =some s
 |0,a,hf,ha,k,hk=>by
  refine⟨a,?_,zoD r 0 a,Nat.le_refl _,_,k,aB hk,aB hk⟩
  show(List.replicate (blT r p a).length (a:Int)).getD k 0=(a:Int)
  rw[List.getD_eq_getElem?_getD,List.getElem?_replicate,if_pos hk]
  rfl
 |f+1,a,hf,ha,k,hk=>by
  rcases blN_at (r:=r) (p:=p) (f:=f) (a:=a) hk with ⟨q,ps,i,hp,hm,hi,e⟩ |⟨e,_⟩
  ·obtain⟨p0,p1,p2,p3⟩:=zk6 hr ha hp
   obtain⟨c,c1,c2,c3,s,j,c4,c5⟩:=ztl hr f q.toNat (by omega) p2 i hi
   obtain⟨s',s1,s2⟩:=zr7 hm (by omega)
   rw[c4]at s1
   cases s1
   rw[Int.toNat_natCast]at s2
   refine⟨c,by rw[e];exact c1,?_,by omega,s,j,s2,c5⟩
   rw[zhv,hp]
   exact List.mem_cons_of_mem _ c2
  ·exact⟨a,e,zoD r _ a,Nat.le_refl _,_,k,aB hk,aB hk⟩
theorem TB.of {t:List File}(hf:Bk.fit t)(h:Bk.bulk t<=1048576):TB t:=⟨zcu h,fun f hm=>by
 have h1:Bk.bulk f<=1048576:=ziI h hm
 have h2:Bk.bulk f=f.Path.length+Bk.bulk f.Text:=rfl
 exact⟨by omega,zcu (show Bk.bulk f.Text<=1048576 by omega),(hf.2 f hm).2⟩⟩
theorem RpB.of {r:Repo}(hf:Bk.fit r)(h:Bk.bulk r<=1048576):RpB r:=by
 have h0:Bk.bulk r=Bk.bulk r.Commits+Bk.bulk r.Heads:=rfl
 have hc:Bk.bulk r.Commits<=1048576:=by omega
 have hh:Bk.bulk r.Heads<=1048576:=by omega
 refine⟨zcu hc,fun c hm=>?_,zcu hh,fun x hm=>?_⟩
 ·have h1:Bk.bulk c<=1048576:=ziI hc hm
  have h2:Bk.bulk c=Bk.bulk c.Parents+(c.Who.length+Bk.bulk c.Tree):=rfl
  exact⟨zcu (show Bk.bulk c.Parents<=1048576 by omega),by omega,TB.of (hf.1.2 c hm).2.2 (by omega)⟩
 ·have h1:Bk.bulk x<=1048576:=ziI hh hm
  have h2:Bk.bulk x=x.Name.length+0:=rfl
  omega
theorem zp9 (x:Repo):(⟨x.Commits,x.Heads⟩:Repo)=x:=rfl
theorem zkc {R α σ:Type} {xs:List α} {g:σ->α->σ} {I:σ->Prop} {f:Nat->Int->σ->Option R} {Z:σ->Option R}
 (hs: ∀ m (i:Nat) x s,xs[i]? =some x->I s->f (m+1) (i:Int) s=f m ((i+1:Nat):Int) (g s x)/\I (g s x)) (he: ∀ m s,I s->f (m+1) (xs.length:Int) s=Z s):
 ∀ (k i m:Nat) (s:σ),i+k=xs.length->k<m->I s->f m (i:Int) s=Z ((xs.drop i).foldl g s)/\I ((xs.drop i).foldl g s)
 |k,i,0,s,_,hm,_=>by omega
 |0,i,m+1,s,hi,_,h=>by
  obtain rfl:i=xs.length:=by omega
  rw[List.drop_length,List.foldl_nil]
  exact⟨he m s h,h⟩
 |k+1,i,m+1,s,hi,hm,h=>by
  have hlt:i<xs.length:=by omega
  obtain⟨e1,e2⟩:=hs m i xs[i] s (aB hlt) h
  rw[e1,aI hlt,List.foldl_cons]
  exact zkc hs he k (i+1) m _ (by omega) (by omega) e2
theorem zhw {R α σ:Type} {xs:List α} {g:σ->α->σ} {I:σ->Prop} {f:Nat->Int->σ->Option R} {Z:σ->Option R} {s:σ} (h:I s)
 (hs: ∀ m (i:Nat) x s,xs[i]? =some x->I s->f (m+1) (i:Int) s=f m ((i+1:Nat):Int) (g s x)/\I (g s x)) (he: ∀ m s,I s->f (m+1) (xs.length:Int) s=Z s):f (xs.length+1) 0 s=Z (xs.foldl g s):=by
 have:=(zkc hs he xs.length 0 (xs.length+1) s (by omega) (by omega) h).1
 rwa [List.drop_zero]at this
section
variable {r:l30Rd}{p:Int}
end
def zod (p:Int):Prop:= -9223372036854775808<=p/\p<=9223372036854775807
section
variable {r:Repo}{has:List Int}{sent:List Commit}
end
set_option linter.unusedSectionVars false
section
variable {r:Repo}(h:RpB r)(hr:zae r=true){a:Int}(ha:upB r.Commits.length a=true)
include h hr ha
theorem zqX:zaX r a=some (zap r a.toNat):=by
 obtain⟨a0,a1⟩:=zax.1 ha
 unfold zaX
 rw[aE (by omega),aC,zcA a0 a1]
 rfl
end
structure SentB (sent:List Commit):Prop where
 len:sent.length<=16
 cb: ∀ c∈sent,CB c
 fit: ∀ c∈sent,∀ p∈c.Parents,zod p
theorem SentB.take {sent:List Commit}(h:SentB sent)(k:Nat):SentB (sent.take k):=
 ⟨Nat.le_trans (List.length_take_le' k sent) h.len,fun c hc=>h.cb c (List.mem_of_mem_take hc),fun c hc=>h.fit c (List.mem_of_mem_take hc)⟩
theorem SentB.set {sent:List Commit}(h:SentB sent){c:Commit}(hc:CB c)(hf: ∀ p∈c.Parents,zod p)(k:Nat):SentB (sent.set k c):=
 ⟨by rw[List.length_set];exact h.len,fun d hd=>by
  rcases List.mem_or_eq_of_mem_set hd with q |q
  ·exact h.cb d q
  ·rw[q];exact hc,fun d hd=>by
  rcases List.mem_or_eq_of_mem_set hd with q |q
  ·exact h.fit d q
  ·rw[q];exact hf⟩
section
variable {x:Repo}(hr:zae x=true){a b:Int}(ha:upB x.Commits.length a=true)(hb:upB x.Commits.length b=true)
include hr ha
include hb
end
theorem znh {t:List File}(h:TB t)(p:Str):zfE t p=some (getT t p):=by
 have hm:=h.maxi
 unfold zfE getT
 simp only[jn,zak]
 rw[zdy (p:=fun f:File=>f.Path==p) (xs:=t) (r:=fun f=>some (f.Text,true)) (Z:=some ([],false)) (f:=fun m k=>zcV t p _ m [] false k) (fun m i x hx=>by
  have hf:=h.at_ hx
  simp only[zcV,zaj hx,zad hx,aD,aA,za9 hf.len,zab (zas hx) hm]) (fun m=>by simp only[zcV,zac,aC]) (by omega)]
 cases t.find? (fun f=>f.Path==p)<;>rfl
section
variable {r:Repo}(h:RpB r)(hr:zae r=true){a:Nat}(ha:a<r.Commits.length)
include h hr ha
theorem zh7:TB (zap r a)/\zaD (zap r a)=true/\zaQ (zap r a):=by
 have ua:upB r.Commits.length (a:Int)=true:=zax.2 (by omega)
 have ht:=znp h ua
 rw[Int.toNat_natCast]at ht
 have:=zfS hr ha
 unfold zmG at this
 simp only[aG]at this
 exact⟨ht,this.2.2.2.2,zal this.2.2.2.2⟩
theorem ztU (p:Str):zau (blT r p a)=true:=zbc (zh7 h hr ha).2.2 p
theorem zkd (p:Str):(blT r p a).length<=10:=zam (ztU h hr ha p)
end
theorem zo6 {r:Repo}{p:Str}{a:Nat}(h:(getT (zap r a) p).2=false):blT r p a=[]:=by
 unfold blT getT at*
 cases hf:(zap r a).find? (fun f=>f.Path==p)with
 |none=>rfl
 |some f=>rw[hf]at h;cases h
theorem zrP {m by_:List Int}{i:Nat}{z:Int×Int}(h:(m.zip by_)[i]? =some z):m[i]? =some z.1/\by_[i]? =some z.2:=List.getElem?_zip_eq_some.1 h
theorem zvu {d:List Int}{p:Int}(h0:0<=p)(h:p.toNat<d.length):gi d p=some (d.getD p.toNat 0):=by
 have:=zg6 (l:=d) h
 rwa [show((p.toNat:Nat):Int)=p by omega]at this
theorem zxe {out:List Int}{z:Int×Int}(h0:0<=z.1)(h1:z.1< (out.length:Int)):(∃ u,gi out z.1=some u)/\siM out z.1 z.2=some (ovS out z):=by
 have hl:z.1.toNat<out.length:=by omega
 refine⟨⟨_,zvu h0 hl⟩,?_⟩
 have:=zbs hl z.2
 rw[show((z.1.toNat:Nat):Int)=z.1 by omega]at this
 rw[this]
 unfold ovS
 rw[aF h0]
 rfl
theorem zuv {out:List Int}{z:Int×Int}(h0: ¬ 0<=z.1):ovS out z=out:=by
 unfold ovS
 rw[aE h0]
 rfl
theorem zxf {m by_ out:List Int}(hl:m.length=by_.length)(hm:m.length<=1000)(hin: ∀ x∈m,x< (out.length:Int)){K:Int->List Int->Option (List Int)}:zef by_ m K (m.length+1) 0 out=K (m.length:Int) (ovL out m by_):=by
 have hz:(m.zip by_).length=m.length:=by rw[List.length_zip];omega
 have e:=zhw (xs:=m.zip by_) (g:=ovS) (I:=fun s=>s.length=out.length) (Z:=fun s=>K (m.length:Int) s) (f:=fun n i s=>zef by_ m K n i s) (s:=out) rfl (fun n i z s hz' hs=>by
  obtain⟨h1,h2⟩:=zrP hz'
  have hix:=zas h1
  refine⟨?_,by rw[zo5];exact hs⟩
  simp only[zef,jn,zaj h1,zad h1,zad h2,aD,aA,zab hix (show m.length<=maxi by unfold maxi;omega)]
  by_cases h0:0<=z.1
  ·obtain⟨⟨u,e1⟩,e2⟩:=zxe h0 (by rw[hs];exact hin _ (aH h1))
   rw[aF h0,aD,e1,aA,e2,aA]
  ·rw[aE h0,aC,zuv h0]) (fun n s _=>by
  rw[hz]
  simp only[zef,zac,aC])
 rw[hz]at e
 exact e
theorem zxg {m:List Int}{out:List Int}{w:List Int×Bool}(hl:m.length=w.1.length)(hm:m.length<=1000)(hin: ∀ x∈m,x< (out.length:Int)){K:Int->List Int->Option (List Int×Bool)}:zbG w m K (m.length+1) 0 out=K (m.length:Int) (ovL out m w.1):=by
 have hz:(m.zip w.1).length=m.length:=by rw[List.length_zip];omega
 have e:=zhw (xs:=m.zip w.1) (g:=ovS) (I:=fun s=>s.length=out.length) (Z:=fun s=>K (m.length:Int) s) (f:=fun n i s=>zbG w m K n i s) (s:=out) rfl (fun n i z s hz' hs=>by
  obtain⟨h1,h2⟩:=zrP hz'
  have hix:=zas h1
  refine⟨?_,by rw[zo5];exact hs⟩
  simp only[zbG,jn,zaj h1,zad h1,zad h2,aD,aA,zab hix (show m.length<=maxi by unfold maxi;omega)]
  by_cases h0:0<=z.1
  ·obtain⟨⟨u,e1⟩,e2⟩:=zxe h0 (by rw[hs];exact hin _ (aH h1))
   rw[aF h0,aD,e1,aA,e2,aA]
  ·rw[aE h0,aC,zuv h0]) (fun n s _=>by
  rw[hz]
  simp only[zbG,zac,aC])
 rw[hz]at e
 exact e
theorem zqY {a:Int}{w:List Str×Bool}(hw:w.1.length<=1000){K:List Int->Int->Option (List Int)}: ∀ (k i m:Nat),i+k=w.1.length->k<m->zgn a w K m (List.replicate i a) (i:Int)=K (List.replicate w.1.length a) (w.1.length:Int)
 |k,i,0,_,hm=>by omega
 |0,i,m+1,hi,_=>by
  obtain rfl:i=w.1.length:=by omega
  simp only[zgn,zac,aC]
 |k+1,i,m+1,hi,hm=>by
  have hlt:i<w.1.length:=by omega
  simp only[zgn]
  rw[aF (by omega),aD,ap1 (by simp;omega),aA,zab hlt (show w.1.length<=maxi by unfold maxi;omega),<- List.replicate_succ']
  exact zqY hw k (i+1) m (by omega) (by omega)
theorem zzQ (a:Int)(k i:Nat):(List.replicate i a++List.replicate (k+1) (0:Int)).set i a=List.replicate (i+1) a++List.replicate k 0:=by
 have h:(List.replicate i a).length=i:=by simp
 rw[List.set_append_right _ _ (by rw[h];exact Nat.le_refl _),h,Nat.sub_self,List.replicate_succ,List.set_cons_zero,List.replicate_succ',List.append_assoc]
 rfl
theorem zqZ {a:Int}{q:List Int}(hq:q.length<=1000){K:Int->List Int->Option (List Int×Bool)}: ∀ (k i m:Nat),i+k=q.length->k<m->zdx a q K m (i:Int) (List.replicate i a++List.replicate k 0)=K (q.length:Int) (List.replicate q.length a)
 |k,i,0,_,hm=>by omega
 |0,i,m+1,hi,_=>by
  obtain rfl:i=q.length:=by omega
  simp only[zdx,zac,aC,List.replicate_zero,List.append_nil]
 |k+1,i,m+1,hi,hm=>by
  have hlt:i<q.length:=by omega
  have hl:i< (List.replicate i a++List.replicate (k+1) (0:Int)).length:=by simp only[List.length_append,List.length_replicate];omega
  simp only[zdx]
  rw[aF (by omega),aD,zg6 hl,aA,zbs hl,aA,zab hlt (show q.length<=maxi by unfold maxi;omega),zzQ]
  exact zqZ hq k (i+1) m (by omega) (by omega)
theorem zuw {a b:List Str}: ∀ x∈mt2 a b,x< (b.length:Int):=fun x hx=>by
 obtain⟨i,hi⟩:=List.getElem?_of_mem hx
 have:=(ztj hi).2
 omega
theorem znR {r:Repo}{a:Nat}(ha:a<r.Commits.length):gi r.Commits (a:Int)=some (r.Commits.getD a noCommit):=zj4 ha
theorem zsx {r:Repo}{p:Str}{f a:Nat}(h:blT r p a=[]):blN r p f a=[]:=List.eq_nil_of_length_eq_zero (by rw[zkb,h];rfl)
theorem zpE {r:Repo}{p:Str}{f a:Nat}{q:Int}{ps:List Int}(hp:zaf r a=q::ps)(hq:blT r p q.toNat=[]):blN r p (f+1) a=List.replicate (blT r p a).length (a:Int):=by
 rw[zmI hp,hq]
 unfold mt2 ovL
 rw[zhE]
 rfl
theorem zux {r:Repo}(h:RpB r)(hr:zae r=true)(p:Str): ∀ (f a m:Nat),a<=f->a<r.Commits.length->f<m->spec_l11Of_r m r (a:Int) p=some (blN r p f a)
 |f,a,0,_,_,hm=>by omega
 |f,a,m+1,hf,ha,hm=>by
  obtain⟨t1,t2,t3⟩:=zh7 h hr ha
  have hsm:=zkd h hr ha p
  simp only[spec_l11Of_r,znR ha,aA]
  rw[show(r.Commits.getD a noCommit).Tree=zap r a from rfl,zei t1,aA]
  cases hg:(getT (zap r a) p).2 with
  |false=>rw[Bool.not_false,aD,zsx (zo6 hg)]
  |true=>
   rw[aK,aC]
   simp only[jn,zak]
   have e:=zqY (a:=(a:Int)) (w:=getT (zap r a) p) (show(blT r p a).length<=1000 by omega) (K:=fun(y19:List Int) (y22:Int)=>
    bif((((r.Commits.getD a noCommit).Parents.length:Int):Int)==(0:Int)) then
     (some y19)
    else
     ((gi (r.Commits.getD a noCommit).Parents 0).bind fun u52=>
     (gi r.Commits u52).bind fun u54=>
     (Vm.zdN u54.Tree p).bind fun z59=>
     bif(!z59.2) then
      (some y19)
     else
      ((Vm.spec_l11Of_r m r u52 p).bind fun z69=>
      (Vm.zc5 z59.1 (getT (zap r a) p).1).bind fun z77=>
      zef z69 z77 (fun(_:Int) (y85:List Int)=>some y85) (z77.length+1) 0 y19))) (blT r p a).length 0 ((blT r p a).length+1) (by show 0+(blT r p a).length=(blT r p a).length;omega) (by omega)
   refine e.trans ?_
   show(bif(((zaf r a).length:Int)==(0:Int)) then some (List.replicate (blT r p a).length (a:Int)) else(gi (zaf r a) 0).bind _)=_
   cases hp:zaf r a with
   |nil=>rw[zpD hp];rfl
   |cons q ps=>
    obtain⟨p0,p1,p2,p3⟩:=zk6 hr ha hp
    obtain⟨q1,q2,q3⟩:=zh7 h hr p2
    have hsq:=zkd h hr p2 p
    obtain⟨g,rfl⟩: ∃ g,f=g+1:=⟨f-1,by omega⟩
    have g0:gi (q::ps) 0=some q:=rfl
    have gq:gi r.Commits q=some (r.Commits.getD q.toNat noCommit):=by rw[<- p3];exact znR p2
    rw[beq_false_of_ne (by simp only[aL];omega),aC,g0,aA,gq,aA,show(r.Commits.getD q.toNat noCommit).Tree=zap r q.toNat from rfl,zei q1,aA]
    cases hg2:(getT (zap r q.toNat) p).2 with
    |false=>rw[Bool.not_false,aD,zpE hp (zo6 hg2)];rfl
    |true=>
     have ih:=zux h hr p g q.toNat m (by omega) p2 (by omega)
     rw[p3]at ih
     rw[aK,aC,ih,aA]
     show(zc5 (blT r p q.toNat) (blT r p a)).bind _=_
     rw[zgX (by omega) (by omega),aA]
     obtain⟨_,hl⟩:=zd8 (blT r p q.toNat) (blT r p a)
     rw[zxf (by rw[hl,zkb]) (by rw[hl];omega) (by rw[List.length_replicate];exact zuw),zmI hp]
     rfl
theorem zq0 {r:Repo}(h:RpB r)(hr:zae r=true)(p:Str): ∀ (f a m:Nat),a<=f->a<r.Commits.length->f<m->impl_Repo_blame_r m r (a:Int) p=some (blN r p f a,(getT (zap r a) p).2)
 |f,a,0,_,_,hm=>by omega
 |f,a,m+1,hf,ha,hm=>by
  obtain⟨t1,t2,t3⟩:=zh7 h hr ha
  have ua:upB r.Commits.length (a:Int)=true:=zax.2 (by omega)
  have hsm:=zkd h hr ha p
  have et:=zqX h hr ua
  rw[Int.toNat_natCast]at et
  simp only[impl_Repo_blame_r,et,aA,znh t1]
  cases hg:(getT (zap r a) p).2 with
  |false=>rw[Bool.not_false,aD,zsx (zo6 hg)]
  |true=>
   rw[aK,aC]
   show(mkM ((blT r p a).length:Int) (0:Int)).bind _=_
   rw[zhP (by unfold lim;omega),aA]
   simp only[jn,zak]
   have e:=zqZ (a:=(a:Int)) (q:=List.replicate (blT r p a).length 0) (by rw[List.length_replicate];omega) (K:=fun(_:Int) (y25:List Int)=>
    (Vm.zes r (a:Int)).bind fun z44=>
    bif decide ((z44:Int)< (0:Int)) then
     (some (y25,true))
    else
     ((Vm.impl_Repo_blame_r m r z44 p).bind fun z54=>
     bif(!z54.2) then
      (some (y25,true))
     else
      ((Vm.zaX r z44).bind fun z64=>
      (Vm.zfE z64 p).bind fun z73=>
      (Vm.zeG z73.1 (getT (zap r a) p).1).bind fun z81=>
      zbG z54 z81 (fun(_:Int) (y93:List Int)=>some (y93,true)) (z81.length+1) 0 y25))) (blT r p a).length 0 ((List.replicate (blT r p a).length (0:Int)).length+1) (by rw[List.length_replicate];omega) (by rw[List.length_replicate];omega)
   refine e.trans ?_
   rw[List.length_replicate,zqW hr ha,aA]
   cases hp:zaf r a with
   |nil=>
    simp only
    rw[aF (by omega),aD,zpD hp]
   |cons q ps=>
    obtain⟨p0,p1,p2,p3⟩:=zk6 hr ha hp
    obtain⟨q1,q2,q3⟩:=zh7 h hr p2
    have hsq:=zkd h hr p2 p
    have uq:upB r.Commits.length q=true:=zax.2 (by omega)
    obtain⟨g,rfl⟩: ∃ g,f=g+1:=⟨f-1,by omega⟩
    have ih:=zq0 h hr p g q.toNat m (by omega) p2 (by omega)
    rw[p3]at ih
    simp only
    rw[aE (by omega),aC,ih,aA]
    cases hg2:(getT (zap r q.toNat) p).2 with
    |false=>
     rw[Bool.not_false,aD,zpE hp (zo6 hg2)]
    |true=>
     rw[aK,aC,zqX h hr uq,aA,znh q1,aA]
     show(zeG (blT r p q.toNat) (blT r p a)).bind _=_
     rw[zjq (by omega) (by omega),aA]
     obtain⟨_,hl⟩:=zd8 (blT r p q.toNat) (blT r p a)
     rw[zxg (w:=(blN r p g q.toNat,true)) (by rw[hl,zkb]) (by rw[hl];omega) (by rw[List.length_replicate];exact zuw),zmI hp]
def zhN (r:Repo)(a:Int)(p:Str):List Int:=bif zae r&&upB r.Commits.length a then blN r p a.toNat a.toNat else []
theorem ztV {r:Repo}(h:RpB r)(hr:zae r=true){a:Nat}(ha:a<r.Commits.length)(p:Str):zns r (a:Int) p=some (blN r p a a):=by
 unfold zns
 exact zux h hr p a a _ (Nat.le_refl _) ha (by omega)
theorem zqy {r:Repo}(h:RpB r)(a:Int)(p:Str):zi8 r a p=some (zhN r a p):=by
 unfold zi8 zhN
 simp only[jn,zdJ h,zeC,ze7 (zan h.coms),aA]
 rw[show(decide ((0:Int)<=a)&&decide (a<=(r.Commits.length:Int)-1))=upB r.Commits.length a from rfl]
 cases hr:zae r with
 |false=>rfl
 |true=>
  cases ha:upB r.Commits.length a with
  |false=>rfl
  |true=>
   obtain⟨a0,a1⟩:=zax.1 ha
   have e:=ztV h hr (a:=a.toNat) (by omega) p
   rw[show((a.toNat:Nat):Int)=a by omega]at e
   simp only[aK,aC,Bool.and_true,aD,e,aA]
theorem znS {r:Repo}(h:RpB r)(a:Int)(p:Str):ziq r a p=some (zhN r a p):=by
 unfold ziq zhN
 rw[zxb h (by simp),aA]
 simp only[List.all_cons,List.all_nil,Bool.and_true]
 cases hr:zae r&&upB r.Commits.length a with
 |false=>rfl
 |true=>
  simp only[aG]at hr
  obtain⟨a0,a1⟩:=zax.1 hr.2
  have e:=zq0 h hr.1 p a.toNat a.toNat (a.toNat+2) (Nat.le_refl _) (by omega) (by omega)
  rw[show((a.toNat:Nat):Int)=a by omega]at e
  unfold zmc
  rw[aK,aC,aD,e]
  rfl
theorem zrv {r:Repo}(h:RpB r)(a:Int)(p:Str):(zhN r a p).length<=10:=by
 unfold zhN
 cases hr:zae r&&upB r.Commits.length a with
 |false=>simp
 |true=>
  simp only[aG]at hr
  obtain⟨a0,a1⟩:=zax.1 hr.2
  rw[aD,zkb]
  exact zkd h hr.1 (by omega) p
theorem zqz {r:Repo}{a:Int}{p:Str}(h:zhN r a p≠ []):zae r=true/\upB r.Commits.length a=true/\zhN r a p=blN r p a.toNat a.toNat:=by
 unfold zhN at h ⊢
 cases hr:zae r&&upB r.Commits.length a with
 |false=>rw[hr]at h;exact absurd rfl h
 |true=>
  simp only[aG]at hr
  exact⟨hr.1,hr.2,rfl⟩
theorem zou {code:List Byte}(h:code.length<=1048576): ∃ x a p,zfR code=some (x,a,p)/\Drawn x /\ -1<=a/\a<=16/\p.length<=1048576:=by
 unfold zfR
 obtain⟨b,e,hr⟩:=zwy h
 obtain⟨x,q,e2,hx,r2⟩:=zno hr (by omega)
 obtain⟨a,e3,a0,a1⟩:=ztT r2 (by omega) hx
 have hcm:=hx.coms
 have r3:zeg ⟨b,q+1+1⟩ (0+2010+2):=zhu (r:=⟨b,q+1⟩) (zhu (r:=⟨b,q⟩) (q:=0+2010+1) r2 (by omega) (by omega)) (by omega) (by omega)
 simp only[e,aA,e2,zp9,e3,jn,zeC,ze7 (zan hx.rb.coms)]
 have hP: ∀ {qq p:Int},zeg ⟨b,qq⟩ p->p<=200000 -> ∃ s:Str,((zd6 ⟨b,qq⟩).bind fun z261=>some (x,a,z261.1))=some (x,a,s)/\s.length<=1048576:=fun {qq p} hq hp=>by
  obtain⟨s,es,hs⟩:=zot hq (by omega)
  exact⟨s,by rw[es];rfl,by omega⟩
 cases hu:(decide ((0:Int)<=a)&&decide (a<=(x.Commits.length:Int)-1))with
 |false=>
  obtain⟨s,es,hs⟩:=hP r3 (by omega)
  exact⟨x,a,s,by simp only[aC];exact es,hx,a0,a1,hs⟩
 |true=>
  simp only[aG,decide_eq_true_eq]at hu
  have hg:=zcA hu.1 hu.2
  have ht:=znp hx.rb (zax.2 hu)
  unfold zap at ht
  have htl:=ht.1
  simp only[aD,hg,aA]
  by_cases h0:0< (x.Commits.getD a.toNat noCommit).Tree.length
  ·obtain⟨k,e4,k0,k1⟩:=zd7 r3 (n:=4) (by omega) (by omega) (by omega)
   have r4:zeg ⟨b,q+1+1+1⟩ (0+2010+3):=zhu (r:=⟨b,q+1+1⟩) r3 (k:=1) (by omega) (by omega)
   simp only at e4
   rw[aF (by omega),aD,e4,aA]
   simp only
   cases decide ((0:Int)<k)with
   |false=>
    obtain⟨s,es,hs⟩:=hP r4 (by omega)
    exact⟨x,a,s,by simp only[aC];exact es,hx,a0,a1,hs⟩
   |true=>
    obtain⟨j,e5,j0,j1⟩:=zd7 r4 (n:=((x.Commits.getD a.toNat noCommit).Tree.length:Int)) (by omega) (by omega) (by omega)
    simp only[aD]at e5 ⊢
    rw[e5,aA]
    have hj:j.toNat< (x.Commits.getD a.toNat noCommit).Tree.length:=by omega
    have gj:gi (x.Commits.getD a.toNat noCommit).Tree j=some ((x.Commits.getD a.toNat noCommit).Tree[j.toNat]):=by
     have:=zad (aB hj)
     rwa [show((j.toNat:Nat):Int)=j by omega]at this
    simp only
    rw[gj,aA]
    exact⟨x,a,_,rfl,hx,a0,a1,(ht.2 _ (List.getElem_mem hj)).path⟩
  ·obtain⟨s,es,hs⟩:=hP r3 (by omega)
   exact⟨x,a,s,by rw[aE (by omega),aC];simp only[aC];exact es,hx,a0,a1,hs⟩
theorem zeF {α:Type}{f:α->Nat}{c:Nat}: ∀ {t:List α},(∀ s∈t,f s<=c)->sumB f t<=c*t.length
 | [],_=>by simp[sumB]
 |x::t,h=>by
  have h1:=h x (by simp)
  have h2:=zeF (t:=t) (fun s hs=>h s (by simp[hs]))
  simp only[sumB,aL,Nat.mul_add,Nat.mul_one]
  omega
theorem zo7 {t:List Str}(h:zau t=true):Bk.bulk t<=130:=by
 have hl:=zam h
 have hs:sumB Bk.bulk t<=12*t.length:=zeF fun s hs=>by
  have:=zjp (zaR h s hs)
  show s.length<=12
  omega
 show t.length+sumB Bk.bulk t<=130
 omega
theorem zo8 {t:List File}(h:zaD t=true):Bk.bulk t<=1208:=by
 have hl:=zaw h
 have hs:sumB Bk.bulk t<=150*t.length:=zeF fun f hf=>by
  have h1:=zcc (za1 h hf)
  have h2:=zo7 (zal h f hf)
  show f.Path.length+Bk.bulk f.Text<=150
  omega
 show t.length+sumB Bk.bulk t<=1208
 omega
theorem zpF {r:Repo}(h:zae r=true){c:Commit}(hc:c∈r.Commits):c.Parents.length<=2/\(∀ p∈c.Parents,0<=p/\p<=16)/\zaF c.Who=true/\zaD c.Tree=true:=by
 obtain⟨i,hi⟩:=List.mem_iff_getElem?.1 hc
 have hil:=zas hi
 have s1:=(zah h).1
 have:=zfS h (i:=i) (by omega)
 rw[zeD hi]at this
 unfold zmG at this
 simp only[aG,decide_eq_true_eq,List.all_eq_true]at this
 refine⟨by omega,fun p hp=>?_,this.2.2.2.1,this.2.2.2.2⟩
 have h1:=this.1 p hp
 unfold upB at h1
 simp only[aG,decide_eq_true_eq]at h1
 omega
theorem zo9 {r:Repo}(h:zae r=true):Bk.bulk r<=20000:=by
 obtain⟨s1,s2⟩:=zah h
 have h1:sumB Bk.bulk r.Commits<=1218*r.Commits.length:=zeF fun c hc=>by
  obtain⟨c1,_,c3,c4⟩:=zpF h hc
  have:=zbk c3
  have:=zo8 c4
  have hp:sumB Bk.bulk c.Parents<=0*c.Parents.length:=zeF fun p hp=>Nat.le_refl 0
  show c.Parents.length+sumB Bk.bulk c.Parents+(c.Who.length+Bk.bulk c.Tree)<=1218
  omega
 have h2:sumB Bk.bulk r.Heads<=6*r.Heads.length:=zeF fun x hx=>by
  have:=zbk (zg4 h hx).2.2
  show x.Name.length+0<=6
  omega
 show r.Commits.length+sumB Bk.bulk r.Commits+(r.Heads.length+sumB Bk.bulk r.Heads)<=20000
 omega
theorem zpa {t:List File}(h:zaD t=true):Bk.fit t:=⟨by have:=zaw h;unfold maxi;omega,fun f hf=>⟨by have:=zcc (za1 h hf);show f.Path.length<=maxi;unfold maxi;omega,by
 have h1:=zal h f hf
 have h2:=zam h1
 exact zce (by omega) (zaR h1)⟩⟩
theorem zpb {r:Repo}(h:zae r=true):Bk.fit r:=by
 obtain⟨s1,s2⟩:=zah h
 refine⟨⟨by unfold maxi;omega,fun c hc=>?_⟩,by unfold maxi;omega,fun x hx=>?_⟩
 ·obtain⟨c1,c2,c3,c4⟩:=zpF h hc
  refine⟨⟨by unfold maxi;omega,fun p hp=>?_⟩,by have:=zbk c3;show c.Who.length<=maxi;unfold maxi;omega,zpa c4⟩
  have:=c2 p hp
  show -9223372036854775808<=p/\p<=9223372036854775807
  omega
 ·obtain⟨h1,h2,h3⟩:=zg4 h hx
  refine⟨by have:=zbk h3;show x.Name.length<=maxi;unfold maxi;omega,?_⟩
  show -9223372036854775808<=x.At/\x.At<=9223372036854775807
  omega
theorem zh4.lt {l:List Int}(h:zh4 l){i k:Nat}(hik:i<k)(hk:k<l.length):l.getD i 0<l.getD k 0:=by
 have h1:i<l.length:=by omega
 have:=List.pairwise_iff_getElem.1 h i k h1 hk hik
 rw[zcs (aB h1),zcs (aB hk)]
 exact this
theorem zh4.inj {l:List Int}(h:zh4 l){i k:Nat}(hi:i<l.length)(hk:k<l.length)(e:l.getD i 0=l.getD k 0):i=k:=by
 rcases Nat.lt_trichotomy i k with h1 |h1 |h1
 ·have:=h.lt h1 hk;omega
 ·exact h1
 ·have:=h.lt h1 hi;omega
end Go.Vm
