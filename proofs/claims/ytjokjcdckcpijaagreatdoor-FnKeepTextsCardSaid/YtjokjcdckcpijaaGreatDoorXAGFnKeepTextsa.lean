/- Plain law FnKeepTexts, and what it uses: what the models answer. Conditions: each law's own premises. -/
import Derived.Test.YtjokjcdckcpijaaGreatDoorXAM0
import Derived.Test.YtjokjcdckcpijaaGreatDoorXALw
import Derived.Sort.Walk0
import Derived.Lib.SplitLaws
import Derived.Test.YtjokjcdckcpijaaGreatDoorXAX
import Derived.Lib.Join
namespace Go.Vm
open Go Go.Sx
set_option linter.unusedSimpArgs false
set_option linter.unusedVariables false
def chB (c:UInt8):Bool:= !(decide ((c.toNat:Int)<32)||decide (126< (c.toNat:Int)))
def zdk (s:Str):Bool:= !decide (12< (s.length:Int))&&s.all chB
def zao (xs:List Str):Bool:= !decide (10< (xs.length:Int))&&xs.all zdk
theorem zkB (a b:Int):decide (a<=b) = !decide (b<a):=by
 by_cases h:a<=b
 ·rw[aF h,aE (by omega)];rfl
 ·rw[aE h,aF (by omega)];rfl
theorem zkC {s:Str}(h:s.length<=maxi):zeB s=some (zdk s):=by
 unfold zeB zdk
 simp only[jn,zaA]
 cases decide ((12:Int)< (s.length:Int))
 case true=>rfl
 rw[aC,za5 (α:=UInt8) (xs:=s) (p:=chB) (r0:=some false) (Z:=some true) (f:=fun m i=>zb0 s (fun _ _=>some true) m false i) (fun m i x hx=>by
  simp only[zb0,jn,zat hx,zgR hx,aD,aA,zag (zaP hx) h,chB]
  cases decide ((x.toNat:Int)<32)<;>cases decide (126< (x.toNat:Int))<;>rfl) (fun m=>by simp only[zb0,zai,aC]) (by omega)]
 cases s.all chB<;>rfl
theorem zkD {s:Str}(h:s.length<=maxi):zex s=some (zdk s):=by
 unfold zex zdk
 simp only[jn,zaA,zkB]
 rw[za5 (α:=UInt8) (xs:=s) (p:=chB) (r0:=some false) (Z:=some (!decide (12< (s.length:Int)))) (f:=fun m i=>zbS s (fun _ _=>some (!decide (12< (s.length:Int)))) m false i) (fun m i x hx=>by
  simp only[zbS,jn,zat hx,zgR hx,aD,aA,zag (zaP hx) h,chB]
  cases decide ((x.toNat:Int)<32)<;>cases decide (126< (x.toNat:Int))<;>rfl) (fun m=>by simp only[zbS,zai,aC]) (by omega)]
 cases s.all chB<;>cases decide (12< (s.length:Int))<;>rfl
theorem zes {xs:List Str}(h:Bk.fit xs):zbv xs=some (zao xs):=by
 have hl:=zj2 h
 unfold zbv zao
 simp only[jn,zaA]
 cases decide ((10:Int)< (xs.length:Int))
 case true=>rfl
 rw[aC,za5 (α:=Str) (xs:=xs) (p:=zdk) (r0:=some false) (Z:=some true) (f:=fun m i=>zb1 xs (fun _ _=>some true) m false i) (fun m i x hx=>by
  have hx2:x.length<=maxi:=zlP h hx
  simp only[zb1,zat hx,zaf hx,aD,aA,zag (zaP hx) hl,zkC hx2]
  cases zdk x<;>rfl) (fun m=>by simp only[zb1,zai,aC]) (by omega)]
 cases xs.all zdk<;>rfl
theorem ziA {xs:List Str}(h:Bk.fit xs):zcW xs=some (zao xs):=by
 have hl:=zj2 h
 unfold zcW zao
 simp only[jn,zaA,zkB]
 rw[za5 (α:=Str) (xs:=xs) (p:=zdk) (r0:=some false) (Z:=some (!decide (10< (xs.length:Int)))) (f:=fun m i=>zc1 xs (fun _ _=>some (!decide (10< (xs.length:Int)))) m false i) (fun m i x hx=>by
  have hx2:x.length<=maxi:=zlP h hx
  simp only[zc1,zat hx,zaf hx,aD,aA,zag (zaP hx) hl,zkD hx2]
  cases zdk x<;>rfl) (fun m=>by simp only[zc1,zai,aC]) (by omega)]
 cases xs.all zdk<;>cases decide (10< (xs.length:Int))<;>rfl
theorem zaj {t:List Str}(h:zao t=true):t.length<=10:=by
 unfold zao at h
 simp only[aG,Bool.not_eq_true',decide_eq_false_iff_not]at h
 omega
theorem zaO {t:List Str}(h:zao t=true): ∀ s∈t,zdk s=true:=by
 unfold zao at h
 simp only[aG,List.all_eq_true]at h
 exact h.2
theorem zg0 {s:Str}(h:zdk s=true):s.length<=12:=by
 unfold zdk at h
 simp only[aG,Bool.not_eq_true',decide_eq_false_iff_not]at h
 omega
theorem zkE {xs ys:List Str}(h:xs.length<=maxi):zaE xs ys=some (xs==ys):=by
 unfold zaE
 simp only[zj3,jn,zaA]
 by_cases hn:xs.length=ys.length
 ·rw[hn,aO,aK,aC,<- hn]
  rw[zj1 (α:=Str) (r0:=some false) (Z:=some true) (f:=fun m i=>zaq xs ys (fun _ _=>some true) m false i) hn (fun m i x y hx hy=>by
   simp only[zaq,zat hx,zaf hx,zaf hy,aD,aA,zag (zaP hx) h,bne]
   cases x==y<;>rfl) (fun m=>by simp only[zaq,zai,aC]) (by omega)]
  cases xs==ys<;>rfl
 ·rw[beq_false_of_ne hn,Bool.not_false,aD,beq_false_of_ne (fun e=>hn (by rw[e]))]
theorem zfd {xs ys:List Str}(h:xs.length<=maxi):zcP xs ys=some (xs==ys):=by
 unfold zcP
 simp only[zj3,jn,zaA]
 by_cases hn:xs.length=ys.length
 ·rw[hn,aO,aK,aC,<- hn]
  rw[zj1 (α:=Str) (r0:=some false) (Z:=some true) (f:=fun m i=>zbX xs ys (fun _ _=>some true) m false i) hn (fun m i x y hx hy=>by
   simp only[zbX,zat hx,zaf hx,zaf hy,aD,aA,zag (zaP hx) h,bne]
   cases x==y<;>rfl) (fun m=>by simp only[zbX,zai,aC]) (by omega)]
  cases xs==ys<;>rfl
 ·rw[beq_false_of_ne hn,Bool.not_false,aD,beq_false_of_ne (fun e=>hn (by rw[e]))]
theorem ziB {x:List Str}(h:x.length<=1048576):zdw x=some x:=by
 unfold zdw
 rw[apN h];rfl
theorem zkF {a b:Int}(ha:0<=a)(ha':a<=9223372036854775807)(hb:0<=b)(hb':b<=9223372036854775807):0<=zom a b/\zom a b<=9223372036854775807:=by
 obtain⟨n,rfl⟩:=Int.eq_ofNat_of_zero_le ha
 obtain⟨m,rfl⟩:=Int.eq_ofNat_of_zero_le hb
 have hn:n<2 ^ 63:=by omega
 have hm:m<2 ^ 63:=by omega
 have hx:n ^^^ m<2 ^ 63:=Nat.xor_lt_two_pow hn hm
 have h1:(BitVec.ofInt 64 (n:Int) ^^^ BitVec.ofInt 64 (m:Int)).toNat=n ^^^ m:=by
  rw[BitVec.toNat_xor,BitVec.toNat_ofInt,BitVec.toNat_ofInt]
  have e1:((n:Int) % (2 ^ 64:Nat)).toNat=n:=by omega
  have e2:((m:Int) % (2 ^ 64:Nat)).toNat=m:=by omega
  rw[e1,e2]
 unfold zom
 rw[h1]
 have:=zar (n:=((n ^^^ m:Nat):Int)) (by omega) (by omega)
 unfold w64 at this
 rw[this]
 omega
theorem zeI {a n:Int}(ha:0<=a)(hn:0<n):0<=Int.tmod a n/\Int.tmod a n<n:=⟨Int.tmod_nonneg n ha,Int.tmod_lt_of_pos a hn⟩
def zen (r:l30Rd)(p:Int):Prop:=r.b.length<=2000/\0<=r.p/\r.p<=p
theorem zfw (u:UInt8):0<=((UInt8.toNat u:Nat):Int)/\((UInt8.toNat u:Nat):Int)<=255:=by
 have:=UInt8.toNat_lt u
 omega
theorem zg1 {a n:Int}(ha:0<=a)(hn:0<n):0<=Int.tdiv a n/\Int.tdiv a n<=a:=⟨Int.tdiv_nonneg ha (by omega),Int.tdiv_le_self n ha⟩
theorem zfe {r:l30Rd}{n p:Int}(h:zen r p)(hp:p<=1099511627776)(hn:0<n)(hn':n<=1073741824): ∃ k,zaC r n=some (k,r.p+1)/\0<=k/\k<n:=by
 obtain⟨hb,h0,h1⟩:=h
 unfold zaC
 have e1:w64 (r.p+1)=r.p+1:=zar (by omega) (by omega)
 have e2:w64 (r.p+1-1)=r.p:=by rw[zar (by omega) (by omega)];omega
 simp only[jn,e1,e2]
 rw[aE (show ¬ n<1 by omega),aC]
 cases hl:(((r.b.length:Int))==(0:Int))with
 |true=>exact⟨0,rfl,by omega,hn⟩
 |false=>
  have hlen:0< (r.b.length:Int):=by
   have:(r.b.length:Int)≠0:=by simpa using hl
   omega
  rw[aC]
  by_cases hlt:r.p< (r.b.length:Int)
  ·obtain⟨u,hu⟩:=zfK h0 hlt
   obtain⟨u0,u1⟩:=zfw u
   rw[aF hlt,aD,hu,aA,if_neg (by omega),aA,zar (by omega) (by omega)]
   exact⟨_,rfl,zeI u0 hn⟩
  ·rw[aE hlt,aC,if_neg (by omega),aA]
   obtain⟨a0,a1⟩:=zeI h0 hlen
   obtain⟨u,hu⟩:=zfK a0 a1
   obtain⟨u0,u1⟩:=zfw u
   have e3:w64 (r.p*7)=r.p*7:=zar (by omega) (by omega)
   have e4:w64 (r.p*7+3)=r.p*7+3:=zar (by omega) (by omega)
   obtain⟨b0,b1⟩:=zeI (show 0<=r.p*7+3 by omega) hlen
   obtain⟨v,hv⟩:=zfK b0 b1
   obtain⟨v0,v1⟩:=zfw v
   obtain⟨d0,d1⟩:=zg1 h0 hlen
   rw[hu,aA,if_neg (by omega),aA,e3,e4,hv,aA,aA,aA]
   rw[zar (n:=(UInt8.toNat u:Int)) (by omega) (by omega),zar (n:=(UInt8.toNat u:Int)*131) (by omega) (by omega),
    zar (n:=(UInt8.toNat v:Int)) (by omega) (by omega),zar (n:=(UInt8.toNat v:Int)*1117) (by omega) (by omega),
    zar (n:=(UInt8.toNat u:Int)*131+(UInt8.toNat v:Int)*1117) (by omega) (by omega),zar (n:=r.p*29) (by omega) (by omega),
    zar (n:=(UInt8.toNat u:Int)*131+(UInt8.toNat v:Int)*1117+r.p*29) (by omega) (by omega),
    zar (n:=Int.tdiv r.p (r.b.length:Int)) (by omega) (by omega),zar (n:=Int.tdiv r.p (r.b.length:Int)*53) (by omega) (by omega),
    zar (n:=(UInt8.toNat u:Int)*131+(UInt8.toNat v:Int)*1117+r.p*29+Int.tdiv r.p (r.b.length:Int)*53) (by omega) (by omega)]
   obtain⟨q0,q1⟩:=zg1 (a:=(UInt8.toNat u:Int)*131+(UInt8.toNat v:Int)*1117+r.p*29+Int.tdiv r.p (r.b.length:Int)*53) (n:=64) (by omega) (by omega)
   rw[zar (n:=Int.tdiv ((UInt8.toNat u:Int)*131+(UInt8.toNat v:Int)*1117+r.p*29+Int.tdiv r.p (r.b.length:Int)*53) 64) (by omega) (by omega)]
   exact⟨_,rfl,zeI (zkF (by omega) (by omega) (by omega) (by omega)).1 hn⟩
theorem zen.on {r:l30Rd}{p q:Int}(h:zen r p)(k:Int)(hk:0<=k)(hq:r.p+k<=q):zen ⟨r.b,r.p+k⟩ q:=⟨h.1,by have:=h.2.1;show 0<=r.p+k;omega,hq⟩
theorem zn3 {code:List Byte}(h:code.length<=1048576): ∃ b:List Byte,zcY code=some ⟨b,0⟩/\b.length<=2000:=by
 unfold zcY
 simp only[jn]
 by_cases hl:(2000:Int)< (code.length:Int)
 ·rw[aF hl,aD]
  have:slM code 0 2000=some (code.take 2000):=zfI (i:=2000) (by omega)
  rw[this,aA]
  exact⟨_,rfl,by simp;omega⟩
 ·rw[aE hl,aC]
  exact⟨_,rfl,by omega⟩
theorem zfx {xs ys:List Str}(h:xs.length<=maxi):zcK xs ys=some (xs==ys):=by
 unfold zcK
 simp only[zj3,jn,zaA]
 by_cases hn:xs.length=ys.length
 ·rw[hn,aO,aK,aC,<- hn]
  rw[zj1 (α:=Str) (r0:=some false) (Z:=some true) (f:=fun m i=>zbH xs ys (fun _ _=>some true) m false i) hn (fun m i x y hx hy=>by
   simp only[zbH,zat hx,zaf hx,zaf hy,aD,aA,zag (zaP hx) h,bne]
   cases x==y<;>rfl) (fun m=>by simp only[zbH,zai,aC]) (by omega)]
  cases xs==ys<;>rfl
 ·rw[beq_false_of_ne hn,Bool.not_false,aD,beq_false_of_ne (fun e=>hn (by rw[e]))]
def zf2:List Str->List Str->Int
 | [],_=>0
 |_:: _,[]=>0
 |x::xs,y::ys=>if x==y then zf2 xs ys+1 else maxI (zf2 xs (y::ys)) (zf2 (x::xs) ys)
termination_by a b=>a.length+b.length
theorem zi6 (b:List Str):zf2 [] b=0:=by rw[zf2]
theorem zhA (a:List Str):zf2 a []=0:=by cases a<;>rw[zf2]
theorem zhB (x y:Str)(xs ys:List Str):zf2 (x::xs) (y::ys)=if x==y then zf2 xs ys+1 else maxI (zf2 xs (y::ys)) (zf2 (x::xs) ys):=by rw[zf2]
theorem zdG: ∀ (n:Nat) (a b:List Str),a.length+b.length<=n->0<=zf2 a b/\zf2 a b<=a.length
 |_,[],b,_=>by rw[zi6];simp
 |_,x::xs,[],_=>by rw[zhA];simp;omega
 |0,x::xs,y::ys,h=>by simp at h
 |n+1,x::xs,y::ys,h=>by
  simp only[aL]at h
  have h1:=zdG n xs ys (by omega)
  have h2:=zdG n xs (y::ys) (by simp;omega)
  have h3:=zdG n (x::xs) ys (by simp;omega)
  rw[zhB]
  simp only[aL]at*
  split
  ·omega
  ·unfold maxI;split<;>omega
theorem zn4 (a b:List Str):0<=zf2 a b:=(zdG _ a b (Nat.le_refl _)).1
theorem zn5 (a b:List Str):zf2 a b<=a.length:=(zdG _ a b (Nat.le_refl _)).2
def zhv (n:Nat)(g:Nat->Int):List Int:=(List.range n).map g
def zf3 (n m:Nat)(f:Nat->Nat->Int):List (List Int):=(List.range n).map fun i=>zhv m (f i)
theorem zjF {n:Nat}{g g':Nat->Int}(h: ∀ k,k<n->g k=g' k):zhv n g=zhv n g':=by
 unfold zhv
 exact List.map_congr_left fun k hk=>h k (List.mem_range.1 hk)
theorem zeJ {n m:Nat}{f f':Nat->Nat->Int}(h: ∀ i k,i<n->k<m->f i k=f' i k):zf3 n m f=zf3 n m f':=by
 unfold zf3
 exact List.map_congr_left fun i hi=>zjF fun k hk=>h i k (List.mem_range.1 hi) hk
theorem ziC {n k:Nat}{g:Nat->Int}(h:k<n):gi (zhv n g) (k:Int)=some (g k):=zaf (by simp[zhv,h])
theorem ziD {n m i:Nat}{f:Nat->Nat->Int}(h:i<n):gi (zf3 n m f) (i:Int)=some (zhv m (f i)):=zaf (by simp[zf3,h])
theorem zmh {n k:Nat}{g:Nat->Int}{v:Int}(h:k<n):siM (zhv n g) (k:Int) v=some (zhv n fun k'=>if k'=k then v else g k'):=by
 rw[zfu (by simp[zhv,h])]
 congr 1
 apply List.ext_getElem?
 intro j
 unfold zhv
 by_cases hj:j=k
 ·subst hj
  rw[List.getElem?_set_self (by simp[h])]
  simp[h]
 ·rw[List.getElem?_set_ne (Ne.symm hj)]
  by_cases hl:j<n
  ·simp[hl,hj]
  ·rw[List.getElem?_eq_none (by simp;omega),List.getElem?_eq_none (by simp;omega)]
theorem zmi {n m i:Nat}{f:Nat->Nat->Int}{g:Nat->Int}(h:i<n):siM (zf3 n m f) (i:Int) (zhv m g)=some (zf3 n m fun i'=>if i'=i then g else f i'):=by
 rw[zfu (by simp[zf3,h])]
 congr 1
 apply List.ext_getElem?
 intro j
 unfold zf3
 by_cases hj:j=i
 ·subst hj
  rw[List.getElem?_set_self (by simp[h])]
  simp[h]
 ·rw[List.getElem?_set_ne (Ne.symm hj)]
  by_cases hl:j<n
  ·simp[hl,hj]
  ·rw[List.getElem?_eq_none (by simp;omega),List.getElem?_eq_none (by simp;omega)]
section
variable (a b:List Str)
def zcp (i k:Nat):Int:=zf2 (a.drop i) (b.drop k)
def zc8 (i k i' k':Nat):Int:=if i<i'\/(i=i'/\k<=k') then zcp a b i' k' else 0
def zrv:List (List Int):=zf3 (a.length+1) (b.length+1) (zcp a b)
end
section
variable {a b:List Str}
theorem zkG (i:Nat):zcp a b i b.length=0:=by unfold zcp;rw[List.drop_length,zhA]
theorem zjG (k:Nat):zcp a b a.length k=0:=by unfold zcp;rw[List.drop_length,zi6]
theorem zmj (i k:Nat):0<=zcp a b i k:=zn4 _ _
theorem zmk (i k:Nat):zcp a b i k<=a.length:=by
 have:=zn5 (a.drop i) (b.drop k)
 unfold zcp
 simp only[List.length_drop]at this
 omega
theorem zjH {i k:Nat}{x y:Str}(hx:a[i]? =some x)(hy:b[k]? =some y):zcp a b i k=if x==y then zcp a b (i+1) (k+1)+1 else maxI (zcp a b (i+1) k) (zcp a b i (k+1)):=by
 have hi:=zaP hx
 have hk:=zaP hy
 have ex:a[i]=x:=by rw[aB hi]at hx;exact Option.some.inj hx
 have ey:b[k]=y:=by rw[aB hk]at hy;exact Option.some.inj hy
 unfold zcp
 rw[aI hi,aI hk,zhB,ex,ey]
theorem zgl {i k:Nat}{v:Int}(hv:v=zcp a b i k)(n m:Nat):zf3 n m (fun i'=>if i'=i then(fun k'=>if k'=k then v else zc8 a b i (k+1) i k') else zc8 a b i (k+1) i')=zf3 n m (zc8 a b i k):=by
 refine zeJ fun i' k' _ _=>?_
 by_cases h1:i'=i
 ·subst h1
  rw[if_pos rfl]
  by_cases h2:k'=k
  ·subst h2
   rw[if_pos rfl,hv]
   simp[zc8]
  ·rw[if_neg h2]
   simp only[zc8,Nat.lt_irrefl,false_or,true_and]
   by_cases h3:k+1<=k'
   ·rw[if_pos h3,if_pos (by omega)]
   ·rw[if_neg h3,if_neg (by omega)]
 ·rw[if_neg h1]
  simp only[zc8]
  by_cases h3:i<i'
  ·rw[if_pos (.inl h3),if_pos (.inl h3)]
  ·rw[if_neg (by omega),if_neg (by omega)]
theorem zjI (i:Nat):zf3 (a.length+1) (b.length+1) (zc8 a b (i+1) 0)=zf3 (a.length+1) (b.length+1) (zc8 a b i b.length):=by
 refine zeJ fun i' k' _ hk=>?_
 simp only[zc8,Nat.zero_le,and_true]
 by_cases h:i<i'
 ·rw[if_pos (by omega),if_pos (.inl h)]
 ·rw[if_neg (by omega)]
  by_cases h2:i=i'/\b.length<=k'
  ·rw[if_pos (.inr h2),show k'=b.length by omega,zkG]
  ·rw[if_neg (by omega)]
theorem ziE:zf3 (a.length+1) (b.length+1) (fun _ _=>0)=zf3 (a.length+1) (b.length+1) (zc8 a b a.length 0):=by
 refine zeJ fun i' k' hi _=>?_
 simp only[zc8,Nat.zero_le,and_true]
 by_cases h:a.length<i'\/a.length=i'
 ·rw[if_pos h,show i'=a.length by omega,zjG]
 ·rw[if_neg h]
theorem zkH:zf3 (a.length+1) (b.length+1) (zc8 a b 0 0)=zrv a b:=by
 refine zeJ fun i' k' _ _=>?_
 simp only[zc8,Nat.zero_le,and_true]
 rw[if_pos (by omega)]
theorem zkI (hb:b.length<=maxi)(hN:(a.length:Int)+1<=9223372036854775807){i:Nat}(hi:i<a.length){R:Int->List (List Int)->Option (List (List Int))}: ∀ (k m:Nat),k<=b.length->k<m->
 zbB a b (i:Int) R m ((k:Int)-1) (zf3 (a.length+1) (b.length+1) (zc8 a b i k))=R (-1) (zf3 (a.length+1) (b.length+1) (zc8 a b i 0))
 |0,0,_,h=>by omega
 |0,m+1,_,_=>by
  simp only[zbB]
  rw[aE (by omega)];rfl
 |k+1,0,_,h=>by omega
 |k+1,m+1,hk,hm=>by
  unfold maxi at hb
  have hx:a[i]? =some a[i]:=aB hi
  have hy:b[k]? =some b[k]:=aB (by omega)
  have hst:=zjH hx hy
  have e1:(((k+1:Nat):Int)-1)=(k:Int):=by omega
  have e2:w64 ((i:Int)+1)=((i+1:Nat):Int):=by rw[zar (by omega) (by omega)];omega
  have e3:w64 ((k:Int)+1)=((k+1:Nat):Int):=by rw[zar (by omega) (by omega)];omega
  have e4:w64 ((k:Int)-1)=(k:Int)-1:=zar (by omega) (by omega)
  have s1:zc8 a b i (k+1) (i+1) (k+1)=zcp a b (i+1) (k+1):=by simp[zc8]
  have s2:zc8 a b i (k+1) (i+1) k=zcp a b (i+1) k:=by simp[zc8]
  have s3:zc8 a b i (k+1) i (k+1)=zcp a b i (k+1):=by simp[zc8]
  have lo:=zmj (a:=a) (b:=b) (i+1) (k+1)
  have hi':=zmk (a:=a) (b:=b) (i+1) (k+1)
  have ih:=zkI (by unfold maxi;exact hb) hN hi (R:=R) k m (by omega) (by omega)
  simp only[zbB,jn,e1,e2,e3,e4,zaf hx,zaf hy,aA,aF (show(0:Int)<=(k:Int) by omega),aD,
   ziD (show i<a.length+1 by omega),ziD (show i+1<a.length+1 by omega),ziC (show k<b.length+1 by omega),ziC (show k+1<b.length+1 by omega),s1,s2,s3,
   zmh (show k<b.length+1 by omega),zmi (show i<a.length+1 by omega)]
  cases he:a[i]==b[k]with
  |true=>
   rw[he,if_pos rfl]at hst
   rw[aD,zar (by omega) (by omega),zgl hst.symm]
   exact ih
  |false=>
   rw[he,if_neg (by simp)]at hst
   rw[aC]
   unfold maxI at hst
   by_cases hc:zcp a b i (k+1)<=zcp a b (i+1) k
   ·rw[if_neg (by omega)]at hst
    rw[aF hc,aD,zgl hst.symm]
    exact ih
   ·rw[if_pos (by omega)]at hst
    rw[aE hc,aC,zgl hst.symm]
    exact ih
theorem zkJ (hb:b.length<=maxi)(hN:(a.length:Int)+1<=9223372036854775807)(hNb:(b.length:Int)+1<=9223372036854775807){R:Int->List (List Int)->Option (List (List Int))}: ∀ (i m:Nat),i<=a.length->i<m->
 za9 a b R m ((i:Int)-1) (zf3 (a.length+1) (b.length+1) (zc8 a b i 0))=R (-1) (zf3 (a.length+1) (b.length+1) (zc8 a b 0 0))
 |0,0,_,h=>by omega
 |0,m+1,_,_=>by
  simp only[za9]
  rw[aE (by omega)];rfl
 |i+1,0,_,h=>by omega
 |i+1,m+1,hi,hm=>by
  have e1:(((i+1:Nat):Int)-1)=(i:Int):=by omega
  have e2:w64 ((b.length:Int)-1)=(b.length:Int)-1:=zar (by omega) (by omega)
  have e3:w64 ((i:Int)-1)=(i:Int)-1:=zar (by omega) (by omega)
  simp only[za9,jn,e1,e2,aF (show(0:Int)<=(i:Int) by omega),aD]
  rw[zjI,zkI hb hN (by omega) b.length _ (Nat.le_refl _) (by omega),e3]
  exact zkJ hb hN hNb i m (by omega) (by omega)
theorem zkK (ha:a.length<=1000)(hb:b.length<=1000){R:List (List Int)->Int->Option (List (List Int))}: ∀ (n i m:Nat),i+n=a.length+1->n<m->
 zbC a b R m ((List.range i).map (fun _=>zhv (b.length+1) fun _=>0)) (i:Int)=R (zf3 (a.length+1) (b.length+1) fun _ _=>0) ((a.length+1:Nat):Int)
 |n,i,0,_,h=>by omega
 |0,i,m+1,hi,_=>by
  simp only[zbC]
  rw[aE (by omega),show i=a.length+1 by omega]
  simp[zf3]
 |n+1,i,m+1,hi,hm=>by
  have e1:w64 ((b.length:Int)+1)=((b.length+1:Nat):Int):=by rw[zar (by omega) (by omega)];omega
  have e2:w64 ((i:Int)+1)=((i+1:Nat):Int):=by rw[zar (by omega) (by omega)];omega
  have hr:zhv (b.length+1) (fun _=>0)=List.replicate (b.length+1) (0:Int):=by
   unfold zhv
   rw[List.map_const',List.length_range]
  simp only[zbC,e1,e2,aF (show(i:Int)<=(a.length:Int) by omega),aD,zo3 (show b.length+1<=lim by unfold lim;omega),aA]
  rw[zgP (by simp[lim];omega),aA]
  have hset:(List.range i).map (fun _=>zhv (b.length+1) fun _=>0)++[List.replicate (b.length+1) (0:Int)]=(List.range (i+1)).map (fun _=>zhv (b.length+1) fun _=>0):=by
   simp[List.range_succ,hr]
  rw[hset]
  exact zkK ha hb n (i+1) m (by omega) (by omega)
theorem zn6 (ha:a.length<=1000)(hb:b.length<=1000):zd0 a b=some (zrv a b):=by
 unfold zd0
 have e2:w64 ((a.length:Int)-1)=(a.length:Int)-1:=zar (by omega) (by omega)
 simp only[jn,e2]
 have h1:=zkK (a:=a) (b:=b) ha hb
  (R:=fun y3 y6=>za9 a b (fun y28 y30=>some y30) (((a.length:Int)-1+1-0).toNat+1) ((a.length:Int)-1) y3) (a.length+1) 0 (((a.length:Int)+1-0).toNat+1) (by omega) (by omega)
 simp only[List.range_zero,List.map_nil]at h1
 refine h1.trans ?_
 rw[ziE,zkJ (by unfold maxi;omega) (by omega) (by omega) a.length _ (Nat.le_refl _) (by omega),zkH]
end
def mtF:List Str->List Str->Nat->List Int
 | [],_,_=>[]
 |_::xs,[],k=> -1::mtF xs [] k
 |x::xs,y::ys,k=>if x==y then(k:Int)::mtF xs ys (k+1) else if zf2 (x::xs) ys<=zf2 xs (y::ys) then -1::mtF xs (y::ys) k else mtF (x::xs) ys (k+1)
termination_by a b _=>a.length+b.length
theorem zhi (b:List Str)(k:Nat):mtF [] b k=[]:=by rw[mtF]
theorem zhj (x:Str)(xs:List Str)(k:Nat):mtF (x::xs) [] k = -1::mtF xs [] k:=by rw[mtF]
theorem zgI (x y:Str)(xs ys:List Str)(k:Nat):mtF (x::xs) (y::ys) k=if x==y then(k:Int)::mtF xs ys (k+1) else if zf2 (x::xs) ys<=zf2 xs (y::ys) then -1::mtF xs (y::ys) k else mtF (x::xs) ys (k+1):=by rw[mtF]
def mt2 (a b:List Str):List Int:=mtF a b 0
theorem zp4 {xs:List Int}{x:Int}(h:xs.length<=1000000):apM xs [x]=some (xs++[x]):=zgP (by simp[lim];omega)
section
variable {a b:List Str}
theorem zkL {i k:Nat}(hi:i<=a.length)(hk:k<=b.length): ∃ r,gi (zrv a b) (i:Int)=some r/\gi r (k:Int)=some (zcp a b i k):=
 ⟨_,ziD (by omega),ziC (by omega)⟩
theorem zfy {i:Nat}(h:i<a.length):a.drop i=a[i]::a.drop (i+1):=aI h
theorem zhC (ha:a.length<=1000)(hb:b.length<=1000): ∀ (m i k:Nat) (out:List Int),(a.length-i)+(b.length-k)<m->i<=a.length->k<=b.length->out.length=i->
 zbD a b (zrv a b) (fun y5 _ _=>some y5) m out (k:Int) (i:Int)=some (out++mtF (a.drop i) (b.drop k) k)
 |0,i,k,out,hm,_,_,_=>by omega
 |m+1,i,k,out,hm,hi,hk,ho=>by
  have e2:w64 ((i:Int)+1)=((i+1:Nat):Int):=by rw[zar (by omega) (by omega)];omega
  have e3:w64 ((k:Int)+1)=((k+1:Nat):Int):=by rw[zar (by omega) (by omega)];omega
  simp only[zbD,jn,e2,e3]
  by_cases hil:i<a.length
  case neg=>
   rw[aE (by omega),aC,show i=a.length by omega,List.drop_length,zhi,List.append_nil]
  have hx:a[i]? =some a[i]:=aB hil
  rw[aF (by omega),aD,zfy hil]
  by_cases hkl:k<b.length
  case neg=>
   have hke:k=b.length:=by omega
   rw[aE (by omega),aC,aC,aF (by omega),aD,aD,zp4 (by omega),aA,
    zhC ha hb m (i+1) k _ (by omega) (by omega) hk (by simp[ho])]
   rw[hke,List.drop_length,zhj]
   simp
  have hy:b[k]? =some b[k]:=aB hkl
  rw[aF (by omega),aD,zaf hx,aA,zaf hy,aA,zfy hkl,zgI]
  cases he:a[i]==b[k]with
  |true=>
   rw[aD,zp4 (by omega),aA,zhC ha hb m (i+1) (k+1) _ (by omega) (by omega) (by omega) (by simp[ho])]
   simp
  |false=>
   rw[aC,aE (by omega),aC]
   obtain⟨r1,h1,h2⟩:=zkL (a:=a) (b:=b) (i:=i+1) (k:=k) (by omega) (by omega)
   obtain⟨r3,h3,h4⟩:=zkL (a:=a) (b:=b) (i:=i) (k:=k+1) (by omega) (by omega)
   rw[h1,aA,h2,aA,h3,aA,h4,aA]
   have c1:zcp a b i (k+1)=zf2 (a[i]::a.drop (i+1)) (b.drop (k+1)):=by unfold zcp;rw[zfy hil]
   have c2:zcp a b (i+1) k=zf2 (a.drop (i+1)) (b[k]::b.drop (k+1)):=by unfold zcp;rw[zfy hkl]
   rw[<- c1,<- c2]
   by_cases hc:zcp a b i (k+1)<=zcp a b (i+1) k
   ·rw[aF hc,aD,zp4 (by omega),aA,zhC ha hb m (i+1) k _ (by omega) (by omega) hk (by simp[ho]),if_neg (by simp),if_pos hc,zfy hkl]
    simp
   ·rw[aE hc,aC,zhC ha hb m i (k+1) _ (by omega) hi (by omega) ho,if_neg (by simp),if_neg hc,zfy hil]
theorem zhD (ha:a.length<=1000)(hb:b.length<=1000):zdt a b=some (mt2 a b):=by
 unfold zdt
 rw[zn6 ha hb,aA]
 simp only[jn]
 have:=zhC ha hb (a.length+b.length+1) 0 0 [] (by omega) (by omega) (by omega) rfl
 simpa[mt2]using this
end
def Asc (hi:Int):Int->List Int->Prop
 |_,[]=>True
 |lo,x::l=>(x = -1/\Asc hi lo l)\/(lo<=x/\x<hi/\Asc hi (x+1) l)
theorem Asc.mono {hi:Int}: ∀ {l:List Int} {lo lo':Int},lo'<=lo->Asc hi lo l->Asc hi lo' l
 | [],_,_,_,_=>trivial
 |x::l,lo,lo',h, .inl ⟨h1,h2⟩=> .inl ⟨h1,Asc.mono h h2⟩
 |x::l,lo,lo',h, .inr ⟨h1,h2,h3⟩=> .inr ⟨by omega,h2,h3⟩
theorem zfV: ∀ (n:Nat) (a b:List Str) (k:Nat),a.length+b.length<=n->Asc ((k+b.length:Nat):Int) (k:Int) (mtF a b k)/\(mtF a b k).length=a.length
 |_,[],b,k,_=>by rw[zhi];exact⟨trivial,rfl⟩
 |0,x::xs,b,k,h=>by simp at h
 |n+1,x::xs,[],k,h=>by
  rw[zhj]
  have:=zfV n xs [] k (by simp at h ⊢;omega)
  exact⟨.inl ⟨rfl,this.1⟩,by simp[this.2]⟩
 |n+1,x::xs,y::ys,k,h=>by
  simp only[aL]at h
  rw[zgI]
  split
  ·have:=zfV n xs ys (k+1) (by omega)
   refine⟨.inr ⟨Int.le_refl _,by simp only[aL];omega,?_⟩,by simp[this.2]⟩
   have h1:=this.1
   rw[show((k+(y::ys).length:Nat):Int)=((k+1+ys.length:Nat):Int) by simp only[aL];omega,show(k:Int)+1=((k+1:Nat):Int) by omega]
   exact h1
  ·split
   ·have:=zfV n xs (y::ys) k (by simp;omega)
    exact⟨.inl ⟨rfl,this.1⟩,by simp[this.2]⟩
   ·have:=zfV n (x::xs) ys (k+1) (by simp;omega)
    refine⟨?_,by simp[this.2]⟩
    have h1:=this.1
    rw[show((k+(y::ys).length:Nat):Int)=((k+1+ys.length:Nat):Int) by simp only[aL];omega]
    exact h1.mono (by omega)
theorem zgm (a b:List Str):Asc (b.length:Int) 0 (mt2 a b)/\(mt2 a b).length=a.length:=by
 have:=zfV _ a b 0 (Nat.le_refl _)
 simpa[mt2]using this
theorem Asc.snoc {hi:Int}(h0:0<=hi): ∀ {l:List Int} {lo:Int},lo<=hi->Asc hi lo l->Asc (hi+1) lo (l++[hi])
 | [],lo,h,_=> .inr ⟨h,by omega,trivial⟩
 |x::l,lo,h, .inl ⟨h1,h2⟩=> .inl ⟨h1,Asc.snoc h0 h h2⟩
 |x::l,lo,h, .inr ⟨h1,h2,h3⟩=> .inr ⟨h1,by omega,Asc.snoc h0 (by omega) h3⟩
end Go.Vm
namespace Go.Sx
open Go
theorem zjJ {R α σ:Type} {xs:List α} {step:σ->α->Option σ} {r0:Option R} (Inv:Nat->σ->Prop) {f:Nat->σ->Int->Option R} {Z:σ->Option R} {s0:σ}
 (hs: ∀ m (i:Nat) x s,xs[i]? =some x->Inv i s->(f (m+1) s (i:Int)=match step s x with |some s'=>f m s' ((i+1:Nat):Int) |none=>r0) /\ ∀ s',step s x=some s'->Inv (i+1) s')
 (he: ∀ m s,Inv xs.length s->f (m+1) s (xs.length:Int)=Z s) {m:Nat} (hm:xs.length<m) (h0:Inv 0 s0):
 f m s0 0=(match xs.foldlM step s0 with |some s=>Z s |none=>r0) /\ ∀ s,xs.foldlM step s0=some s->Inv xs.length s:=by
 have key: ∀ k i m s,i+k=xs.length->k<m->Inv i s->f m s (i:Int)=(match (xs.drop i).foldlM step s with |some s=>Z s |none=>r0) /\ ∀ s',(xs.drop i).foldlM step s=some s'->Inv xs.length s':=by
  intro k
  induction k with
  |zero=>
   intro i m s hi hm hI
   obtain⟨m,rfl⟩: ∃ q,m=q+1:=⟨m-1,by omega⟩
   have hii:i=xs.length:=by omega
   subst hii
   rw[he m s hI,List.drop_length]
   exact⟨rfl,fun s' h=>by
    have:s=s':=by simpa using h
    rw[<- this];exact hI⟩
  |succ k ih=>
   intro i m s hi hm hI
   obtain⟨m,rfl⟩: ∃ q,m=q+1:=⟨m-1,by omega⟩
   have hlt:i<xs.length:=by omega
   obtain⟨h1,h2⟩:=hs m i xs[i] s (aB hlt) hI
   rw[h1,aI hlt,List.foldlM_cons]
   cases hst:step s xs[i]with
   |none=>exact⟨rfl,fun s' h=>by simp at h⟩
   |some s1=>
    obtain⟨h3,h4⟩:=ih (i+1) m s1 (by omega) (by omega) (h2 s1 hst)
    exact⟨h3,h4⟩
 have:=key xs.length 0 m s0 (by omega) hm h0
 simpa using this
theorem zgn {R α:Type} {xs:List α} {p:α->Bool} {r:α->Option R} {Z:Option R} {f:Nat->Int->Option R}
 (hs: ∀ m (i:Nat) x,xs[i]? =some x->f (m+1) (i:Int)=bif p x then r x else f m ((i+1:Nat):Int)) (he: ∀ m,f (m+1) (xs.length:Int)=Z) {m:Nat} (hm:xs.length<m):
 f m 0=match xs.find? p with |some x=>r x |none=>Z:=by
 have key: ∀ k i m,i+k=xs.length->k<m->f m (i:Int)=match (xs.drop i).find? p with |some x=>r x |none=>Z:=by
  intro k
  induction k with
  |zero=>
   intro i m hi hm
   obtain⟨m,rfl⟩: ∃ q,m=q+1:=⟨m-1,by omega⟩
   rw[show i=xs.length by omega,he,List.drop_length]
   rfl
  |succ k ih=>
   intro i m hi hm
   obtain⟨m,rfl⟩: ∃ q,m=q+1:=⟨m-1,by omega⟩
   have hlt:i<xs.length:=by omega
   rw[hs m i xs[i] (aB hlt),aI hlt,List.find?_cons]
   cases p xs[i]with
   |true=>rfl
   |false=>exact ih (i+1) m (by omega) (by omega)
 have:=key xs.length 0 m (by omega) hm
 simpa using this
end Go.Sx
namespace Go.Vm
open Go Go.Sx
set_option linter.unusedSimpArgs false
set_option linter.unusedVariables false
def lnP (l:List Str):Part:=⟨false,l,[],[],[]⟩
def zed (o a b:List Str):Part:=bif a==o||a==b then lnP b else bif b==o then lnP a else⟨true,[],o,a,b⟩
def zi3 (out:List Part)(p:Part):List Part:=
 bif !p.Clash&&p.Lines.length==0 then out else
 match out[out.length-1]? with
 |some q=>bif !p.Clash && !q.Clash then out.set (out.length-1) ⟨q.Clash,q.Lines++p.Lines,q.Old,q.One,q.Two⟩ else out++[p]
 |none=>out++[p]
def PB (n:Nat)(out:List Part):Prop:=out.length<=n /\ ∀ q∈out,q.Lines.length<=1000*n
theorem PB.mono {n m:Nat}{out:List Part}(h:PB n out)(hm:n<=m):PB m out:=⟨Nat.le_trans h.1 hm,fun q hq=>Nat.le_trans (h.2 q hq) (Nat.mul_le_mul_left _ hm)⟩
theorem ziF {n:Nat}{out:List Part}{p:Part}(h:PB n out)(hp:p.Lines.length<=1000):PB (n+1) (zi3 out p):=by
 have happ:PB (n+1) (out++[p]):=⟨by simp;exact h.1,fun q hq=>by
  rcases List.mem_append.1 hq with h1 |h1
  ·have:=h.2 q h1;omega
  ·rw[List.mem_singleton]at h1;rw[h1];omega⟩
 unfold zi3
 cases(!p.Clash&&p.Lines.length==0)with
 |true=>exact h.mono (by omega)
 |false=>
  rw[aC]
  split
  ·rename_i q hq
   cases(!p.Clash && !q.Clash)with
   |false=>exact happ
   |true=>
    rw[aD]
    refine⟨by rw[List.length_set];have:=h.1;omega,fun r hr=>?_⟩
    rcases List.mem_or_eq_of_mem_set hr with h1 |h1
    ·have:=h.2 r h1;omega
    ·rw[h1]
     have:=h.2 q (aH hq)
     simp only[List.length_append]
     omega
  ·exact happ
theorem zgo {o a b:List Str}(ha:a.length<=1000)(hb:b.length<=1000):(zed o a b).Lines.length<=1000:=by
 unfold zed lnP
 cases(a==o||a==b)
 ·cases b==o
  ·simp
  ·exact ha
 ·exact hb
theorem apL {xs ys:List Str}(h:xs.length<=4000000)(h':ys.length<=1000):apM xs ys=some (xs++ys):=zgP (by simp[lim];omega)
theorem zkM {o a b:List Str}(ho:o.length<=1000)(ha:a.length<=1000)(hb:b.length<=1000):zez o a b=some (zed o a b):=by
 unfold zez zed lnP
 simp only[jn,zfd (show a.length<=maxi by unfold maxi;omega),zfd (show b.length<=maxi by unfold maxi;omega),aA,apN (show o.length<=1048576 by omega),apN (show a.length<=1048576 by omega),apN (show b.length<=1048576 by omega)]
 cases a==o<;>cases a==b<;>cases b==o<;>rfl
theorem zn7 {n:Nat}(h:n<=4000000)(h0:0<n):w64 ((n:Int)-1)=((n-1:Nat):Int):=by rw[zar (by omega) (by omega)];omega
theorem zi7 {n:Nat}{out:List Part}{p:Part}(h:PB n out)(hn:n<=4000)(hp:p.Lines.length<=1000):zeN out p=some (zi3 out p):=by
 have hl:=h.1
 unfold zeN zi3
 have hz:(((p.Lines.length:Int))==(0:Int))=(p.Lines.length==0):=by
  have: ∀ b c:Bool,(b=true↔c=true)->b=c:=by decide
  apply this;simp
 simp only[jn,hz,show(⟨p.Clash,p.Lines,p.Old,p.One,p.Two⟩:Part)=p from rfl]
 have happ:apM out [p]=some (out++[p]):=zgP (by simp[lim];omega)
 cases hc:p.Clash with
 |true=>
  simp only[aK,Bool.false_and,aC,happ,aA]
  by_cases h0:0<out.length
  ·rw[aF (by omega),aD,aB (by omega)]
  ·rw[aE (by omega),aC,List.getElem?_eq_none (by omega)]
 |false=>
  simp only[Bool.not_false,Bool.true_and,aD]
  cases hz2:(p.Lines.length==0)with
  |true=>rfl
  |false=>
   simp only[aC]
   by_cases h0:0<out.length
   ·obtain⟨q,hq⟩: ∃ q,out[out.length-1]? =some q:=⟨_,aB (by omega)⟩
    have hql:=h.2 q (aH hq)
    rw[aF (by omega),aD,zn7 (by omega) h0,zaf hq,aA,hq]
    cases hqc:q.Clash with
    |true=>simp[happ,hqc]
    |false=>
     simp only[hqc,Bool.not_false,aD,aA]
     rw[apL (by omega) hp,aA,zfu (by omega),aA]
   ·rw[aE (by omega),aC,List.getElem?_eq_none (by omega),happ]
    rfl
def zcT {α:Type}(xs:List α)(l h:Int):List α:=(xs.take h.toNat).drop l.toNat
theorem zdl {α:Type}(xs:List α)(l h:Int):(zcT xs l h).length<=xs.length:=by unfold zcT;simp;omega
def zeR (o a b:List Str)(i x y io ia ib:Int)(out:List Part):List Part:=
 match o[i.toNat]? with
 |some s=>zi3 (zi3 out (zed (zcT o io i) (zcT a ia x) (zcT b ib y))) (lnP [s])
 |none=>zi3 out (zed (zcT o io i) (zcT a ia x) (zcT b ib y))
def zbM (o a b:List Str):Int->List Int->List Int->Int->Int->Int->List Part->List Part
 |i,x::ma,y::mb,io,ia,ib,out=>
  bif decide (x<0)||decide (y<0) then zbM o a b (i+1) ma mb io ia ib out
  else zbM o a b (i+1) ma mb (i+1) (x+1) (y+1) (zeR o a b i x y io ia ib out)
 |_,[],_,_,_,_,out=>out
 |_,_:: _,[],_,_,_,out=>out
def zbq (o a b:List Str):List Part:=zbM o a b 0 (mt2 o a++[(a.length:Int)]) (mt2 o b++[(b.length:Int)]) 0 0 0 []
theorem zhE {o a b:List Str}(ha:a.length<=1000)(hb:b.length<=1000){i x y io ia ib:Int}{n:Nat}{out:List Part}(h:PB n out):PB (n+2) (zeR o a b i x y io ia ib out):=by
 have h1:=ziF h (zgo (o:=zcT o io i) (Nat.le_trans (zdl a ia x) ha) (Nat.le_trans (zdl b ib y) hb))
 unfold zeR
 split
 ·exact ziF h1 (by simp[lnP])
 ·exact h1.mono (by omega)
theorem zfL {o a b:List Str}(ha:a.length<=1000)(hb:b.length<=1000): ∀ (ma mb:List Int) (i io ia ib:Int) (n:Nat) (out:List Part),PB n out->PB (n+2*ma.length) (zbM o a b i ma mb io ia ib out)
 | [],mb,i,io,ia,ib,n,out,h=>by rw[zbM.eq_def];exact h.mono (by omega)
 |x::ma,[],i,io,ia,ib,n,out,h=>by rw[zbM.eq_def];exact h.mono (by omega)
 |x::ma,y::mb,i,io,ia,ib,n,out,h=>by
  rw[zbM]
  cases(decide (x<0)||decide (y<0))with
  |true=>exact(zfL ha hb ma mb _ _ _ _ n out h).mono (by simp;omega)
  |false=>exact(zfL ha hb ma mb _ _ _ _ (n+2) _ (zhE ha hb h)).mono (by simp;omega)
theorem zkN {l:List Int}{i:Nat}{x:Int}(h:l[i]? =some x):l.drop i=x::l.drop (i+1):=by
 have hi:=zaP h
 rw[aI hi]
 rw[aB hi]at h
 rw[Option.some.inj h]
theorem zgp {o a b:List Str}(ho:o.length<=1000)(ha:a.length<=1000)(hb:b.length<=1000){ma mb:List Int}(hla:ma.length=o.length+1)(hlb:mb.length=o.length+1):
 ∀ (n i m:Nat) (io ia ib:Int) (out:List Part),i+n=o.length+1->n<m->Asc ((a.length:Int)+1) ia (ma.drop i)->Asc ((b.length:Int)+1) ib (mb.drop i)->0<=io->io<=i->0<=ia->0<=ib->PB (2*i) out->
  zck o a b ma mb (fun y45 _ _ _ _=>some y45) m out io ia ib (i:Int)=some (zbM o a b i (ma.drop i) (mb.drop i) io ia ib out)
 |n,i,0,_,_,_,_,_,hm,_,_,_,_,_,_,_=>by omega
 |0,i,m+1,io,ia,ib,out,hi,_,_,_,_,_,_,_,_=>by
  simp only[zck]
  rw[aE (by omega),aC,List.drop_eq_nil_of_le (by omega),zbM.eq_def]
 |n+1,i,m+1,io,ia,ib,out,hi,hm,hA,hB,h0,h1,h2,h3,hP=>by
  obtain⟨x,hx⟩: ∃ x,ma[i]? =some x:=⟨_,aB (by omega)⟩
  obtain⟨y,hy⟩: ∃ y,mb[i]? =some y:=⟨_,aB (by omega)⟩
  rw[zkN hx]at hA ⊢
  rw[zkN hy]at hB ⊢
  have ei:w64 ((i:Int)+1)=((i+1:Nat):Int):=by rw[zar (by omega) (by omega)];omega
  have ei':(i:Int)+1=((i+1:Nat):Int):=by omega
  rw[ei']at ei
  have dn:decide ((-1:Int)<0)=true:=rfl
  have hstay: ∀ (hA':Asc ((a.length:Int)+1) ia (ma.drop (i+1))) (hB':Asc ((b.length:Int)+1) ib (mb.drop (i+1))),zck o a b ma mb (fun y45 _ _ _ _=>some y45) m out io ia ib ((i+1:Nat):Int)=some (zbM o a b ((i+1:Nat):Int) (ma.drop (i+1)) (mb.drop (i+1)) io ia ib out):=
   fun hA' hB'=>zgp ho ha hb hla hlb n (i+1) m io ia ib out (by omega) (by omega) hA' hB' h0 (by omega) h2 h3 (hP.mono (by omega))
  rw[zbM]
  simp only[zck,jn,zaf hx,zaf hy,aA,ei,ei',hla]
  rw[aF (show(i:Int)< ((o.length+1:Nat):Int) by omega),aD]
  rcases hA with ⟨rfl,hA⟩ |⟨ha1,ha2,hA⟩
  ·rcases hB with ⟨rfl,hB⟩ |⟨hb1,hb2,hB⟩
   ·simp only[dn,aD,Bool.true_or];exact hstay hA hB
   ·simp only[dn,aD,Bool.true_or];exact hstay hA (hB.mono (by omega))
  rcases hB with ⟨rfl,hB⟩ |⟨hb1,hb2,hB⟩
  ·rw[aE (show ¬ x<0 by omega),aC]
   simp only[dn,aD,Bool.false_or]
   exact hstay (hA.mono (by omega)) hB
  rw[aE (show ¬ x<0 by omega),aE (show ¬ y<0 by omega)]
  simp only[aC,Bool.or_false]
  have ex:w64 (x+1)=x+1:=zar (by omega) (by omega)
  have ey:w64 (y+1)=y+1:=zar (by omega) (by omega)
  have c1:=zdl o io i
  have c2:=zdl a ia x
  have c3:=zdl b ib y
  have hP1:=ziF hP (zgo (o:=zcT o io i) (Nat.le_trans c2 ha) (Nat.le_trans c3 hb))
  have hS:=zhE (o:=o) ha hb (i:=i) (x:=x) (y:=y) (io:=io) (ia:=ia) (ib:=ib) hP
  have hfin:=zgp ho ha hb hla hlb n (i+1) m ((i+1:Nat):Int) (x+1) (y+1) (zeR o a b i x y io ia ib out) (by omega) (by omega) hA hB (by omega) (by omega) (by omega) (by omega) (hS.mono (by omega))
  rw[zh4 h0 h1 (by omega),aA,zh4 h2 ha1 (by omega),aA,zh4 h3 hb1 (by omega),aA,
   show((o.take ((i:Int)).toNat).drop io.toNat)=zcT o io i from rfl,show((a.take x.toNat).drop ia.toNat)=zcT a ia x from rfl,show((b.take y.toNat).drop ib.toNat)=zcT b ib y from rfl,
   zkM (by omega) (by omega) (by omega),aA]
  rw[show(⟨(zed (zcT o io i) (zcT a ia x) (zcT b ib y)).Clash,(zed (zcT o io i) (zcT a ia x) (zcT b ib y)).Lines,(zed (zcT o io i) (zcT a ia x) (zcT b ib y)).Old,(zed (zcT o io i) (zcT a ia x) (zcT b ib y)).One,(zed (zcT o io i) (zcT a ia x) (zcT b ib y)).Two⟩:Part)=zed (zcT o io i) (zcT a ia x) (zcT b ib y) from rfl,
   zi7 hP (by omega) (zgo (Nat.le_trans c2 ha) (Nat.le_trans c3 hb)),aA]
  by_cases hio:i<o.length
  ·have hs:o[i]? =some o[i]:=aB hio
   rw[aF (by omega),aD,zaf hs,aA,show(⟨false,[o[i]],[],[],[]⟩:Part)=lnP [o[i]] from rfl,zi7 hP1 (by omega) (by simp[lnP]),aA,ex,ey]
   have hm:zeR o a b i x y io ia ib out=zi3 (zi3 out (zed (zcT o io i) (zcT a ia x) (zcT b ib y))) (lnP [o[i]]):=by
    unfold zeR
    rw[show((i:Int)).toNat=i by omega,hs]
   rw[<- hm]
   exact hfin
  ·rw[aE (by omega),aC,ex,ey]
   have hm:zeR o a b i x y io ia ib out=zi3 out (zed (zcT o io i) (zcT a ia x) (zcT b ib y)):=by
    unfold zeR
    rw[show((i:Int)).toNat=i by omega,List.getElem?_eq_none (by omega)]
   rw[<- hm]
   exact hfin
theorem zgJ (o a:List Str):Asc ((a.length:Int)+1) 0 (mt2 o a++[(a.length:Int)])/\(mt2 o a++[(a.length:Int)]).length=o.length+1:=by
 have h:=zgm o a
 exact⟨Asc.snoc (by omega) (by omega) h.1,by simp[h.2]⟩
theorem zn8 {o a b:List Str}(ho:o.length<=1000)(ha:a.length<=1000)(hb:b.length<=1000):zfO o a b=some (zbq o a b):=by
 obtain⟨a1,a2⟩:=zgJ o a
 obtain⟨b1,b2⟩:=zgJ o b
 have l1:=(zgm o a).2
 have l2:=(zgm o b).2
 unfold zfO
 rw[zhD ho ha,aA,zp4 (by omega),aA,zhD ho hb,aA,zp4 (by omega),aA]
 simp only[jn]
 have:=zgp ho ha hb a2 b2 (o.length+1) 0 ((((mt2 o a++[(a.length:Int)]).length:Int)-0).toNat+1) 0 0 0 [] (by omega) (by omega) a1 b1 (by omega) (by omega) (by omega) (by omega) ⟨by simp,by simp⟩
 exact this
end Go.Vm
namespace Go.Sx
open Go
end Go.Sx
namespace Go.Vm
open Go Go.Sx
set_option linter.unusedSimpArgs false
set_option linter.unusedVariables false
section
variable {o a b:List Str}{Q:Part->Prop}
theorem zi8 {out:List Part}{p:Part}(h3: ∀ q p:Part,Q q->Q p->q.Clash=false->p.Clash=false->Q ⟨q.Clash,q.Lines++p.Lines,q.Old,q.One,q.Two⟩)(h: ∀ q∈out,Q q)(hp:Q p): ∀ q∈zi3 out p,Q q:=by
 have happ: ∀ q∈out++[p],Q q:=fun q hq=>by
  rcases List.mem_append.1 hq with h1 |h1
  ·exact h q h1
  ·rw[List.mem_singleton]at h1;rw[h1];exact hp
 unfold zi3
 cases(!p.Clash&&p.Lines.length==0)with
 |true=>exact h
 |false=>
  rw[aC]
  split
  ·rename_i q hq
   cases hc:(!p.Clash && !q.Clash)with
   |false=>exact happ
   |true=>
    simp only[aG,Bool.not_eq_true']at hc
    rw[aD]
    intro r hr
    rcases List.mem_or_eq_of_mem_set hr with h1 |h1
    ·exact h r h1
    ·rw[h1];exact h3 q p (h q (aH hq)) hp hc.2 hc.1
  ·exact happ
theorem zfz (h1: ∀ l h l' h' l'' h'',Q (zed (zcT o l h) (zcT a l' h') (zcT b l'' h''))) (h2: ∀ s∈o,Q (lnP [s]))
 (h3: ∀ q p:Part,Q q->Q p->q.Clash=false->p.Clash=false->Q ⟨q.Clash,q.Lines++p.Lines,q.Old,q.One,q.Two⟩): ∀ (ma mb:List Int) (i io ia ib:Int) (out:List Part),(∀ q∈out,Q q) -> ∀ q∈zbM o a b i ma mb io ia ib out,Q q
 | [],mb,i,io,ia,ib,out,h=>by rw[zbM.eq_def];exact h
 |x::ma,[],i,io,ia,ib,out,h=>by rw[zbM.eq_def];exact h
 |x::ma,y::mb,i,io,ia,ib,out,h=>by
  rw[zbM]
  cases(decide (x<0)||decide (y<0))with
  |true=>exact zfz h1 h2 h3 ma mb _ _ _ _ out h
  |false=>
   refine zfz h1 h2 h3 ma mb _ _ _ _ _ ?_
   have hp:=zi8 h3 h (h1 io i ia x ib y)
   unfold zeR
   split
   ·rename_i s hs
    exact zi8 h3 hp (h2 s (aH hs))
   ·exact hp
theorem zjK (h1: ∀ l h l' h' l'' h'',Q (zed (zcT o l h) (zcT a l' h') (zcT b l'' h''))) (h2: ∀ s∈o,Q (lnP [s]))
 (h3: ∀ q p:Part,Q q->Q p->q.Clash=false->p.Clash=false->Q ⟨q.Clash,q.Lines++p.Lines,q.Old,q.One,q.Two⟩): ∀ q∈zbq o a b,Q q:=
 zfz h1 h2 h3 _ _ _ _ _ _ [] (by simp)
theorem zff {α:Type}{xs:List α}{l h:Int}{x:α}(hx:x∈zcT xs l h):x∈xs:=List.mem_of_mem_take (List.mem_of_mem_drop hx)
theorem zhF {P:Str->Prop}(ho: ∀ s∈o,P s)(ha: ∀ s∈a,P s)(hb: ∀ s∈b,P s): ∀ q∈zbq o a b,(∀ s∈q.Lines,P s)/\(∀ s∈q.Old,P s)/\(∀ s∈q.One,P s)/\(∀ s∈q.Two,P s)/\q.Old.length<=o.length/\q.One.length<=a.length/\q.Two.length<=b.length:=by
 refine zjK (fun l h l' h' l'' h''=>?_) (fun s hs=>?_) (fun q p hq hp _ _=>?_)
 ·have c1:=zdl o l h
  have c2:=zdl a l' h'
  have c3:=zdl b l'' h''
  unfold zed lnP
  cases(zcT a l' h'==zcT o l h||zcT a l' h'==zcT b l'' h'')with
  |true=>exact⟨fun s hs=>hb s (zff hs),by simp,by simp,by simp,by simp,by simp,by simp⟩
  |false=>
   rw[aC]
   cases(zcT b l'' h''==zcT o l h)with
   |true=>exact⟨fun s hs=>ha s (zff hs),by simp,by simp,by simp,by simp,by simp,by simp⟩
   |false=>exact⟨by simp,fun s hs=>ho s (zff hs),fun s hs=>ha s (zff hs),fun s hs=>hb s (zff hs),c1,c2,c3⟩
 ·exact⟨by simpa[lnP]using ho s hs,by simp[lnP],by simp[lnP],by simp[lnP],by simp[lnP],by simp[lnP],by simp[lnP]⟩
 ·exact⟨fun s hs=>(List.mem_append.1 hs).elim (hq.1 s) (hp.1 s),hq.2⟩
theorem zjL (ho:o.length<=1000)(ha:a.length<=1000)(hb:b.length<=1000):PB (2*(o.length+1)) (zbq o a b):=by
 have:=zfL (o:=o) ha hb (mt2 o a++[(a.length:Int)]) (mt2 o b++[(b.length:Int)]) 0 0 0 0 0 [] ⟨by simp,by simp⟩
 rw[(zgJ o a).2]at this
 exact this.mono (by omega)
end
section
variable {xs:List Memo}{o a b:List Str}
def okT (t:List Str):List Str×Bool:=bif zao t then(t,true) else([],false)
def zp5 (i:Nat)(s:List Str):Prop:=s.length<=22000*i /\ ∀ x∈s,zdk x=true
theorem zc9 {s:List Str}(h:s.length<=1000000)(hl: ∀ x∈s,zdk x=true):Bk.fit s:=⟨by unfold maxi;omega,fun x hx=>by have:=zg0 (hl x hx);show x.length<=maxi;unfold maxi;omega⟩
theorem apT {s t:List Str}(h:s.length<=1000000)(h':t.length<=1000000):apM s t=some (s++t):=zgP (by simp[lim];omega)
theorem zi9 (hto:zao o=true)(hta:zao a=true)(htb:zao b=true):(zbq o a b).length<=22 /\ ∀ p∈zbq o a b,p.Lines.length<=22000/\(∀ x∈p.Lines,zdk x=true)/\zao p.Old=true/\zao p.One=true/\zao p.Two=true:=by
 have lo:=zaj hto
 have la:=zaj hta
 have lb:=zaj htb
 have hP:=zjL (o:=o) (a:=a) (b:=b) (by omega) (by omega) (by omega)
 refine⟨Nat.le_trans hP.1 (by omega),fun p hp=>?_⟩
 obtain⟨h1,h2,h3,h4,h5,h6,h7⟩:=zhF (P:=fun s=>zdk s=true) (zaO hto) (zaO hta) (zaO htb) p hp
 have hl:=hP.2 p hp
 have mk: ∀ t:List Str,t.length<=10->(∀ s∈t,zdk s=true)->zao t=true:=fun t h1 h2=>by
  unfold zao
  rw[aE (by omega)]
  simp only[Bool.not_false,Bool.true_and,List.all_eq_true]
  exact h2
 exact⟨by omega,h1,mk _ (by omega) h2,mk _ (by omega) h3,mk _ (by omega) h4⟩
end
def LB (n:Nat)(t:List Str):Prop:=t.length<=n /\ ∀ s∈t,s.length<=100
theorem LB.fit {n:Nat}{t:List Str}(h:LB n t)(hn:n<=1000000):Bk.fit t:=⟨by have:=h.1;unfold maxi;omega,fun s hs=>by have:=h.2 s hs;show s.length<=maxi;unfold maxi;omega⟩
theorem LB.mono {n m:Nat}{t:List Str}(h:LB n t)(hm:n<=m):LB m t:=⟨Nat.le_trans h.1 hm,h.2⟩
theorem zgb {α:Type}{f:α->Nat}{c:Nat}: ∀ {t:List α},(∀ s∈t,f s<=c)->zbs f t<=c*t.length
 | [],_=>by simp[zbs]
 |x::t,h=>by
  have h1:=h x (by simp)
  have h2:=zgb (t:=t) (fun s hs=>h s (by simp[hs]))
  simp only[zbs,aL,Nat.mul_add,Nat.mul_one]
  omega
theorem LB.bulk {n:Nat}{t:List Str}(h:LB n t):Bk.bulk t<=101*n:=by
 have h1:zbs Bk.bulk t<=100*t.length:=zgb (f:=fun s:Str=>s.length) (c:=100) (fun s hs=>h.2 s hs)
 have:=h.1
 rw[zrz]
 omega
section
variable {r:l30Rd}{p:Int}
theorem zkg (h:zen r p)(hp:p<=1099511627776){l:List Str}(h0:0<l.length)(hl:l.length<=1000): ∃ s,za6 r l=some (s,r.p+1)/\s∈l:=by
 obtain⟨k,hk,k0,k1⟩:=zfe (n:=(l.length:Int)) h hp (by omega) (by omega)
 obtain⟨s,hs⟩:=zfK k0 k1
 unfold za6
 rw[hk,aA,hs,aA]
 exact⟨s,rfl,aH (zgC hs).2.1⟩
theorem zlI (h:zen r p)(hp:p<=1099511627776){l:List Int}(h0:0<l.length)(hl:l.length<=1000): ∃ s,zbP r l=some (s,r.p+1)/\s∈l:=by
 obtain⟨k,hk,k0,k1⟩:=zfe (n:=(l.length:Int)) h hp (by omega) (by omega)
 obtain⟨s,hs⟩:=zfK k0 k1
 unfold zbP
 rw[hk,aA,hs,aA]
 exact⟨s,rfl,aH (zgC hs).2.1⟩
theorem zn9 (h:zen r p)(hp:p<=1099511627776): ∃ s,zcZ r=some (s,r.p+1)/\s.length<=12:=by
 unfold zcZ
 obtain⟨s,hs,hm⟩:=zkg h hp (l:=([([97]:Str),([98]:Str),([99]:Str),([100]:Str),([]:Str),([120,32,121]:Str),([115,101,101,32,97]:Str),([115,101,101,32,100,47,101]:Str),([101,110,100]:Str)]:List Str)) (by simp) (by simp)
 rw[hs,aA]
 refine⟨s,rfl,?_⟩
 simp only[List.mem_cons,List.not_mem_nil,or_false]at hm
 rcases hm with rfl |rfl |rfl |rfl |rfl |rfl |rfl |rfl |rfl<;>simp
theorem on1 (h:zen r p){q:Int}(hq:p+1<=q):zen ⟨r.b,r.p+1⟩ q:=h.on 1 (by omega) (by have:=h.2.2;omega)
theorem zkO {x0:l30Rd}: ∀ (m:Nat) (out:List Str) (n q p:Int),0<=n->n<m->n<=100->LB 100 out->zen ⟨x0.b,q⟩ p->p+n<=1099511627776->out.length+n<=100->
 ∃ out' q',zcH x0 (fun y15 y18 y19=>some (y15,y19)) m out n q=some (out',q')/\LB 100 out'/\(out'.length:Int)=out.length+n/\zen ⟨x0.b,q'⟩ (p+n)
 |0,out,n,q,p,h0,hm,_,_,_,_,_=>by omega
 |m+1,out,n,q,p,h0,hm,hn,hf,hr,hp,hl=>by
  simp only[zcH]
  by_cases hn0:0<n
  ·obtain⟨s,hs,hs2⟩:=zn9 hr (by omega)
   have hs':zcZ ⟨x0.b,q⟩=some (s,q+1):=hs
   rw[aF hn0,aD,hs',aA,ap1 (show out.length<=1048576 by omega),aA,zar (by omega) (by omega)]
   have hf':LB 100 (out++[s]):=⟨by simp;omega,fun x hx=>by
    rcases List.mem_append.1 hx with h1 |h1
    ·exact hf.2 x h1
    ·rw[List.mem_singleton]at h1;rw[h1];omega⟩
   obtain⟨o',q',e,f',l',r'⟩:=zkO (x0:=x0) m (out++[s]) (n-1) (q+1) (p+1) (by omega) (by omega) (by omega) hf' (on1 hr (by omega)) (by omega) (by simp;omega)
   exact⟨o',q',e,f',by rw[l'];simp;omega,by rw[show p+n=p+1+(n-1) by omega];exact r'⟩
  ·have hz:n=0:=by omega
   subst hz
   rw[aE hn0,aC]
   exact⟨out,q,rfl,hf,by omega,by simpa using hr⟩
theorem zoa (h:zen r p)(hp:p<=1000000000): ∃ t q,zdX r=some (t,q)/\LB 8 t/\zen ⟨r.b,q⟩ (p+10):=by
 unfold zdX
 obtain⟨n,hn,hm⟩:=zlI h (by omega) (l:=[0,1,3,5,8]) (by simp) (by simp)
 have hn8:0<=n/\n<=8:=by
  simp only[List.mem_cons,List.not_mem_nil,or_false]at hm
  omega
 rw[hn,aA]
 simp only[jn]
 obtain⟨t,q,e,f,l,ro⟩:=zkO (x0:=r) ((n-0).toNat+1) [] n (r.p+1) (p+1) hn8.1 (by omega) (by omega) ⟨by simp,by simp⟩ (on1 h (by omega)) (by omega) (by simp;omega)
 refine⟨t,q,e,⟨by simp at l;omega,f.2⟩,ro.1,ro.2.1,?_⟩
 have:=ro.2.2
 omega
end
section
variable {o a b:List Str}{xs:List Memo}
def zml (l:List Part):List Part:=l.filter (·.Clash)
end
open Go Go.Sx Go.Proofs
theorem zbd (a b:Str):Op.bytesLess a b=decide (a<b):=bytesLess_eq a b
theorem zkP (a b:Str):(decide (a<=b)||decide (b<=a))=true:=by
 rcases List.le_total a b with h |h<;>simp[h]
theorem zkQ (a b c:Str):decide (a<=b)=true->decide (b<=c)=true->decide (a<=c)=true:=by
 simp only[decide_eq_true_eq]
 exact List.le_trans
theorem zas (a:Str): ¬ a<a:=List.lt_irrefl a
theorem zbh {a b c:Str}:a<b->b<c->a<c:=List.lt_trans
theorem zcC {a b:Str}(h:a<=b)(hn:a≠b):a<b:=by
 rcases Decidable.em (a<b)with h1 |h1
 ·exact h1
 ·exact absurd (List.le_antisymm h (List.not_lt.1 h1)) hn
theorem zhk {a b:Str}: ¬ a<b↔b<=a:=List.not_lt
def Asd (xs:List Str):Prop:=xs.Pairwise (· < ·)
theorem Asd.ext: ∀ {xs ys:List Str},Asd xs->Asd ys->(∀ a,a∈xs↔a∈ys)->xs=ys
 | [],[],_,_,_=>rfl
 | [],y::ys,_,_,h=>by have:=(h y).2 (by simp);simp at this
 |x::xs,[],_,_,h=>by have:=(h x).1 (by simp);simp at this
 |x::xs,y::ys,hx,hy,h=>by
  have hx':=List.pairwise_cons.1 hx
  have hy':=List.pairwise_cons.1 hy
  have e:x=y:=by
   rcases List.mem_cons.1 ((h x).1 (by simp))with e |hm
   ·exact e
   ·rcases List.mem_cons.1 ((h y).2 (by simp))with e |hm2
    ·exact e.symm
    ·exact absurd (zbh (hy'.1 x hm) (hx'.1 y hm2)) (zas y)
  subst e
  have ht: ∀ a,a∈xs↔a∈ys:=fun a=>by
   constructor
   ·intro ha
    rcases List.mem_cons.1 ((h a).1 (List.mem_cons_of_mem _ ha))with e |hm
    ·exact absurd (by rw[e]at ha;exact hx'.1 x ha) (zas x)
    ·exact hm
   ·intro ha
    rcases List.mem_cons.1 ((h a).2 (List.mem_cons_of_mem _ ha))with e |hm
    ·exact absurd (by rw[e]at ha;exact hy'.1 x ha) (zas x)
    ·exact hm
  rw[Asd.ext hx'.2 hy'.2 ht]
theorem zmm (l:List Str):(zfp l).Pairwise (· <= ·):=by
 have:=List.pairwise_mergeSort (le:=fun x y:Str=>decide (x<=y)) zkQ zkP l
 exact this.imp (by simp)
theorem zkn {l:List Str}{a:Str}:a∈zfp l↔a∈l:=List.mem_mergeSort
theorem zhG: ∀ (l:List Str) (p:Option Str) (a:Str),a∈zdW p l\/some a=p↔a∈l\/some a=p
 | [],p,a=>by simp[zdW]
 |x::l,p,a=>by
  have ih:=zhG l (some x) a
  unfold zdW
  by_cases hp:p=some x
  ·rw[if_pos hp,hp]
   rw[ih]
   simp only[List.mem_cons,Option.some.injEq]
   constructor
   ·rintro(h |h)
    ·exact .inl (.inr h)
    ·exact .inr h
   ·rintro((h |h) |h)
    ·exact .inr h
    ·exact .inl h
    ·exact .inr h
  ·rw[if_neg hp]
   simp only[List.mem_cons,Option.some.injEq]at ih ⊢
   constructor
   ·rintro((h |h) |h)
    ·exact .inl (.inl h)
    ·rcases ih.1 (.inl h)with h2 |h2
     ·exact .inl (.inr h2)
     ·exact .inl (.inl h2)
    ·exact .inr h
   ·rintro((h |h) |h)
    ·exact .inl (.inl h)
    ·rcases ih.2 (.inl h)with h2 |h2
     ·exact .inl (.inr h2)
     ·exact .inl (.inl h2)
    ·exact .inr h
theorem zig {l:List Str}{a:Str}:a∈zmI l↔a∈l:=by
 have:=zhG l none a
 simpa[zmI]using this
theorem zgc: ∀ (l:List Str) (p:Option Str),l.Pairwise (· <= ·)->(∀ q,p=some q -> ∀ a∈l,q<=a)->Asd (zdW p l) /\ ∀ q,p=some q -> ∀ a∈zdW p l,q<a
 | [],p,_,_=>by simp[zdW,Asd]
 |x::l,p,h,hp=>by
  have h':=List.pairwise_cons.1 h
  obtain⟨i1,i2⟩:=zgc l (some x) h'.2 (fun q hq a ha=>by cases hq;exact h'.1 a ha)
  unfold zdW
  by_cases hpx:p=some x
  ·rw[if_pos hpx]
   exact⟨i1,fun q hq a ha=>by rw[hpx]at hq;exact i2 q hq a ha⟩
  ·rw[if_neg hpx]
   refine⟨List.pairwise_cons.2 ⟨fun a ha=>i2 x rfl a ha,i1⟩,fun q hq a ha=>?_⟩
   have hqx:q<x:=zcC (hp q hq x (by simp)) (fun e=>hpx (by rw[hq,e]))
   rcases List.mem_cons.1 ha with e |e
   ·rw[e];exact hqx
   ·exact zbh hqx (i2 x rfl a e)
def zfM (xs:List Str)(s:Str):List Str:=zmI (zfp (xs++[s]))
theorem zeo (xs:List Str)(s:Str):Asd (zfM xs s):=(zgc _ none (zmm _) (fun q hq=>by cases hq)).1
theorem insS_mem {xs:List Str}{s a:Str}:a∈zfM xs s↔a∈xs\/a=s:=by
 unfold zfM
 rw[zig,zkn,List.mem_append,List.mem_singleton]
theorem zgq: ∀ (zs:List Str) (p:Option Str),(zdW p zs).length<=zs.length
 | [],p=>by simp[zdW]
 |x::l,p=>by
  have:=zgq l (some x)
  unfold zdW
  split<;>simp<;>omega
theorem zfH (xs:List Str)(s:Str):(zfM xs s).length<=xs.length+1:=by
 have:=zgq (zfp (xs++[s])) none
 unfold zfM zmI
 have h2:(zfp (xs++[s])).length=(xs++[s]).length:=List.length_mergeSort _
 rw[h2]at this
 simpa using this
def zg2 (c:UInt8):Bool:=(decide (97<=(c.toNat:Int))&&decide ((c.toNat:Int)<=122))||(decide (48<=(c.toNat:Int))&&decide ((c.toNat:Int)<=57))
def zaN (s:Str):Bool:=(decide (1<=(s.length:Int))&&decide ((s.length:Int)<=6))&&s.all zg2
theorem ziG (c:UInt8):zdv c=some (zg2 c):=by
 unfold zdv zg2
 simp only[jn]
 cases decide (97<=(c.toNat:Int))<;>cases decide ((c.toNat:Int)<=122)<;>cases decide (48<=(c.toNat:Int))<;>cases decide ((c.toNat:Int)<=57)<;>rfl
theorem zdm (a b c:Int):zcc a b c=some (decide (b<=a)&&decide (a<=c)):=by
 unfold zcc
 simp only[jn]
 cases decide (b<=a)<;>rfl
theorem ze0 (a b c:Int):zdq a b c=some (decide (b<=a)&&decide (a<=c)):=by
 unfold zdq
 simp only[jn]
 cases decide (b<=a)<;>rfl
theorem zgr {s:Str}(h:s.length<=maxi):zdd s=some (zaN s):=by
 unfold zdd zaN
 simp only[jn,zaA,zdm,aA]
 cases(decide (1<=(s.length:Int))&&decide ((s.length:Int)<=6))
 case false=>rfl
 simp only[aK,aC,Bool.true_and]
 rw[za5 (α:=UInt8) (xs:=s) (p:=zg2) (r0:=some false) (Z:=some true) (f:=fun m i=>zbZ s (fun _ _=>some true) m false i) (fun m i x hx=>by
  simp only[zbZ,jn,zat hx,zgR hx,aD,aA,zag (zaP hx) h,ziG]
  cases zg2 x<;>rfl) (fun m=>by simp only[zbZ,zai,aC]) (by omega)]
 cases s.all zg2<;>rfl
theorem zp6 (a b:Int):decide (a<b) = !decide (b<=a):=by
 by_cases h:a<b
 ·rw[aF h,aE (by omega)];rfl
 ·rw[aE h,aF (by omega)];rfl
theorem zb9 {s:Str}(h:s.length<=maxi):zbt s=some (zaN s):=by
 unfold zbt zaN
 simp only[jn,zaA,ze0,aA]
 rw[za5 (α:=UInt8) (xs:=s) (p:=zg2) (r0:=some false) (Z:=some (decide (1<=(s.length:Int))&&decide ((s.length:Int)<=6))) (f:=fun m i=>zbQ s (fun _ _=>some (decide (1<=(s.length:Int))&&decide ((s.length:Int)<=6))) m false i) (fun m i x hx=>by
  simp only[zbQ,jn,zat hx,zgR hx,aD,aA,zag (zaP hx) h,zp6,zg2]
  cases decide (97<=(x.toNat:Int))<;>cases decide ((x.toNat:Int)<=122)<;>cases decide (48<=(x.toNat:Int))<;>cases decide ((x.toNat:Int)<=57)<;>rfl) (fun m=>by simp only[zbQ,zai,aC]) (by omega)]
 cases s.all zg2<;>cases(decide (1<=(s.length:Int))&&decide ((s.length:Int)<=6))<;>rfl
def ahd (s:Str):List Str->Nat
 | []=>0
 |x::xs=>bif Op.bytesLess x s then ahd s xs+1 else 0
theorem zm9 (s:Str): ∀ xs,ahd s xs<=xs.length
 | []=>Nat.le_refl _
 |x::xs=>by
  have:=zm9 s xs
  unfold ahd
  cases Op.bytesLess x s
  ·simp
  ·simp only[aD,aL];omega
theorem zja (s:Str): ∀ (xs:List Str) x,x∈xs.take (ahd s xs)->x<s
 | [],x,h=>by simp at h
 |y::xs,x,h=>by
  unfold ahd at h
  cases hy:Op.bytesLess y s with
  |false=>rw[hy]at h;simp at h
  |true=>
   rw[hy,aD,List.take_succ_cons]at h
   rcases List.mem_cons.1 h with e |e
   ·rw[e];rw[zbd]at hy;simpa using hy
   ·exact zja s xs x e
theorem zna (s:Str): ∀ (xs:List Str) x,xs[ahd s xs]? =some x->s<=x
 | [],x,h=>by simp at h
 |y::xs,x,h=>by
  unfold ahd at h
  cases hy:Op.bytesLess y s with
  |false=>
   rw[hy,aC]at h
   have e:y=x:=by simpa using h
   rw[<- e]
   rw[zbd]at hy
   exact zhk.1 (by simpa using hy)
  |true=>
   rw[hy,aD]at h
   exact zna s xs x (by simpa using h)
theorem zp7 {xs:List Str}{s:Str}(hl:xs.length<=1000000){K:Int->Option (List Str)}: ∀ (n i m:Nat),i+n=xs.length->n<m->(∀ j,j<i -> ∃ x,xs[j]? =some x/\x<s)->zcA xs s K m (i:Int)=K ((i+ahd s (xs.drop i):Nat):Int)
 |n,i,0,_,hm,_=>by omega
 |0,i,m+1,hi,_,_=>by
  simp only[zcA,jn]
  rw[aE (by omega),aC,aC,List.drop_eq_nil_of_le (by omega)]
  rfl
 |n+1,i,m+1,hi,hm,hall=>by
  have hlt:i<xs.length:=by omega
  have hx:xs[i]? =some xs[i]:=aB hlt
  simp only[zcA,jn]
  rw[aF (by omega),aD,zaf hx,aA,aI hlt]
  unfold ahd
  cases hb:Op.bytesLess xs[i] s with
  |false=>rw[aC,aC];rfl
  |true=>
   rw[aD,aD,zag hlt (by unfold maxi;omega)]
   rw[zp7 hl n (i+1) m (by omega) (by omega) (fun j hj=>by
    rcases Nat.lt_or_ge j i with h1 |h1
    ·exact hall j h1
    ·have:j=i:=by omega
     subst this
     exact⟨_,hx,by rw[zbd]at hb;simpa using hb⟩)]
   congr 2
   omega
theorem zmn {xs:List Str}{s:Str}(hl:xs.length<=1000000)(ha:Asd xs):zdj xs s=some (zfM xs s):=by
 unfold zdj
 simp only[jn]
 have h1:=zp7 (s:=s) hl (K:=fun y1=>bif decide (y1< (xs.length:Int)) then(gi xs y1).bind fun u52=>bif u52==s then some xs else(slM xs 0 y1).bind fun q19=>(apM [] q19).bind fun q24=>(apM q24 [s]).bind fun q31=>(slM xs y1 (xs.length:Int)).bind fun q36=>(apM q31 q36).bind fun q41=>some q41
  else bif false then some xs else(slM xs 0 y1).bind fun q19=>(apM [] q19).bind fun q24=>(apM q24 [s]).bind fun q31=>(slM xs y1 (xs.length:Int)).bind fun q36=>(apM q31 q36).bind fun q41=>some q41) xs.length 0 (xs.length+1) (by omega) (by omega) (fun j hj=>by omega)
 have hk:=zm9 s xs
 simp only[Nat.zero_add,List.drop_zero]at h1
 refine h1.trans ?_
 -- the list with s in its place
 have hput:(slM xs 0 ((ahd s xs:Nat):Int)).bind (fun q19=>(apM [] q19).bind fun q24=>(apM q24 [s]).bind fun q31=>(slM xs ((ahd s xs:Nat):Int) (xs.length:Int)).bind fun q36=>(apM q31 q36).bind fun q41=>some q41)=some (xs.take (ahd s xs)++[s]++xs.drop (ahd s xs)):=by
  have hlt:(xs.take (ahd s xs)).length<=xs.length:=by simp;omega
  rw[zfI hk,aA,apN (by omega),aA,ap1 (by omega),aA,zeZ hk,aA,zgP (by simp[lim];omega),aA]
 have hmem: ∀ a,a∈xs.take (ahd s xs)++[s]++xs.drop (ahd s xs)↔a∈xs\/a=s:=fun a=>by
  have:a∈xs↔a∈xs.take (ahd s xs)\/a∈xs.drop (ahd s xs):=by rw[<- List.mem_append,List.take_append_drop]
  rw[this]
  simp only[List.mem_append,List.mem_singleton]
  constructor
  ·rintro((h |h) |h)
   ·exact .inl (.inl h)
   ·exact .inr h
   ·exact .inl (.inr h)
  ·rintro((h |h) |h)
   ·exact .inl (.inl h)
   ·exact .inr h
   ·exact .inl (.inr h)
 have hfin:(∀ x∈xs.drop (ahd s xs),s<x)->some (xs.take (ahd s xs)++[s]++xs.drop (ahd s xs))=some (zfM xs s):=by
  intro hd
  congr 1
  refine Asd.ext ?_ (zeo _ _) (fun a=>by rw[hmem,insS_mem])
  have ha':=ha
  rw[<- List.take_append_drop (ahd s xs) xs]at ha'
  obtain⟨p1,p2,p3⟩:=List.pairwise_append.1 ha'
  refine List.pairwise_append.2 ⟨List.pairwise_append.2 ⟨p1,List.pairwise_singleton _ _,fun a h b hb=>?_⟩,p2,fun a h b hb=>?_⟩
  ·rw[List.mem_singleton]at hb;rw[hb];exact zja s xs a h
  ·rcases List.mem_append.1 h with h2 |h2
   ·exact p3 a h2 b hb
   ·rw[List.mem_singleton]at h2;rw[h2];exact hd b hb
 by_cases hlt:ahd s xs<xs.length
 ·have hx:xs[ahd s xs]? =some xs[ahd s xs]:=aB hlt
  have hge:=zna s xs _ hx
  rw[aF (by omega),aD,zaf hx,aA]
  cases he:xs[ahd s xs]==s with
  |true=>
   have e:xs[ahd s xs]=s:=by simpa using he
   rw[aD]
   congr 1
   exact Asd.ext ha (zeo _ _) (fun a=>by
    rw[insS_mem]
    constructor
    ·exact .inl
    ·rintro(h |h)
     ·exact h
     ·rw[h,<- e];exact List.getElem_mem hlt)
  |false=>
   have e:s≠xs[ahd s xs]:=fun e=>by rw[<- e]at he;simp at he
   rw[aC,hput]
   refine hfin (fun x hx2=>?_)
   rw[aI hlt]at hx2
   have hs1:s<xs[ahd s xs]:=zcC hge e
   rcases List.mem_cons.1 hx2 with h2 |h2
   ·rw[h2];exact hs1
   ·have hp:Asd (xs.drop (ahd s xs)):=List.Pairwise.sublist (List.drop_sublist _ _) ha
    rw[aI hlt]at hp
    exact zbh hs1 ((List.pairwise_cons.1 hp).1 x h2)
 ·rw[aE (by omega),aC,aC,hput]
  refine hfin (fun x hx2=>?_)
  rw[List.drop_eq_nil_of_le (by omega)]at hx2
  simp at hx2
def RB (n:Nat)(v:Review):Prop:=v.Branch.length<=4/\v.Into.length<=4/\v.By.length<=4/\LB n v.Yes
theorem RB.fit {n:Nat}{v:Review}(h:RB n v)(hn:n<=1000):Bk.fit v:=
 ⟨by have:=h.1;show v.Branch.length<=maxi;unfold maxi;omega,by have:=h.2.1;show v.Into.length<=maxi;unfold maxi;omega,by have:=h.2.2.1;show v.By.length<=maxi;unfold maxi;omega,h.2.2.2.fit (by omega)⟩
def curS (c:UInt8):Str->Str->List Str
 |w,[]=>[w]
 |w,x::r=>bif x==c then w::curS c [] r else curS c (w++[x]) r
def zdV (c:UInt8):Nat->Str->Str->List Str
 |_,w,[]=>[w]
 |0,w,x::r=>[w++x::r]
 |n+1,w,x::r=>bif x==c then w::zdV c n [] r else zdV c (n+1) (w++[x]) r
theorem zjb (c:UInt8): ∀ (r w:Str),1<=(curS c w r).length
 | [],w=>by simp[curS]
 |x::r,w=>by
  unfold curS
  cases x==c
  ·exact zjb c r _
  ·simp
theorem zdH (c:UInt8)(w r:Str):zdV c 0 w r=[w++r]:=by
 cases r<;>simp[zdV]
theorem zdI (c:UInt8): ∀ (r:Str) (n:Nat) (w:Str),(curS c w r).length<=n+1->zdV c n w r=curS c w r
 | [],n,w,h=>by cases n<;>simp[zdV,curS]
 |x::r,0,w,h=>by
  unfold curS at h ⊢
  cases hx:x==c with
  |true=>
   rw[hx,aD]at h
   have:=zjb c r []
   rw[aL]at h
   omega
  |false=>
   rw[hx,aC]at h
   have ih:=zdI c r 0 (w++[x]) h
   rw[aC,<- ih,zdH,zdH]
   simp
 |x::r,n+1,w,h=>by
  unfold curS at h ⊢
  unfold zdV
  cases hx:x==c with
  |true=>
   rw[hx,aD,aL]at h
   rw[aD,aD,zdI c r n [] (by omega)]
  |false=>
   rw[hx,aC]at h
   rw[aC,aC,zdI c r (n+1) _ h]
theorem zfg (c:UInt8): ∀ (r:Str) (n:Nat) (w:Str),n+1<=(curS c w r).length->(zdV c n w r).length=n+1
 | [],n,w,h=>by
  simp[curS]at h
  subst h
  simp[zdV]
 |x::r,0,w,h=>by simp[zdV]
 |x::r,n+1,w,h=>by
  unfold curS at h
  unfold zdV
  cases hx:x==c with
  |true=>
   rw[hx,aD,aL]at h
   rw[aD,aL,zfg c r n [] (by omega)]
  |false=>
   rw[hx,aC]at h
   rw[aC,zfg c r (n+1) _ h]
theorem zhH {c:UInt8}{w:Str}(h:c∉w):Lib.index w [c] = -1:=Lib.index_none fun j hj=>by
 cases ho:Lib.occAt w [c] j with
 |false=>rfl
 |true=>exact absurd (aH (Lib.occAt_head rfl ho)) h
theorem zjc {c:UInt8}{w r:Str}(h:c∉w):Lib.index (w++c::r) [c]=((w.length:Nat):Int):=Lib.index_first (by simp) (by simp[Lib.occAt,List.isPrefixOf]) fun j hj=>by
 cases ho:Lib.occAt (w++c::r) [c] j with
 |false=>rfl
 |true=>
  have:=Lib.occAt_head rfl ho
  rw[aM hj]at this
  exact absurd (aH this) h
theorem zgs (c:UInt8): ∀ (r w:Str),c∉w->Lib.split (w++r) [c]=curS c w r
 | [],w,h=>by
  unfold Lib.split curS
  rw[List.append_nil,Lib.count_miss (zhH h)]
  rfl
 |x::r,w,h=>by
  unfold curS
  cases hx:x==c with
  |true=>
   have e:x=c:=by simpa using hx
   subst e
   have hi:=zjc (r:=r) h
   rw[aD]
   have ih:=zgs x r [] (by simp)
   unfold Lib.split at ih ⊢
   have hd:(w++x::r).drop (w.length+1)=r:=by
    rw[show w++x::r=(w++[x])++r by simp,List.drop_left' (by simp)]
   have hc:Lib.count (w++x::r) [x]=Lib.count r [x]+1:=by
    rw[Lib.count_hit (by simp) hi]
    show 1+Lib.count ((w++x::r).drop (w.length+1)) [x]=_
    rw[hd]
    omega
   rw[hc]
   unfold Lib.splitK
   rw[if_neg (by rw[hi];simp),hi]
   have e1:(w++x::r).take (((w.length:Nat):Int).toNat+0)=w:=by simp
   have e2:(w++x::r).drop (((w.length:Nat):Int).toNat+[x].length)=r:=hd
   rw[e1,e2]
   simp only[List.nil_append]at ih
   rw[ih]
  |false=>
   have hne:x≠c:=by simpa using hx
   rw[aC,show w++x::r=(w++[x])++r by simp]
   exact zgs c r (w++[x]) (by
    rw[List.mem_append,List.mem_singleton]
    rintro(h1 |h1)
    ·exact h h1
    ·exact hne h1.symm)
theorem zmo (c:UInt8)(s:Str):Lib.split s [c]=curS c [] s:=zgs c s [] (by simp)
theorem ziH (u c:UInt8):(((UInt8.toNat u:Nat):Int)==((UInt8.toNat c:Nat):Int))=(u==c):=by
 have: ∀ b c:Bool,(b=true↔c=true)->b=c:=by decide
 apply this
 rw[beq_iff_eq,beq_iff_eq,<- UInt8.toNat_inj]
 omega
theorem zkR {s:Str}{c:UInt8}{most:Nat}(hs:s.length<=1048576)(hm:most<=1000): ∀ (n:Nat) (out:List Str) (from_ i m:Nat),i+n=s.length->n<m->from_<=i->out.length<=most->
 zdr s c (most:Int) (fun y3 y6 y7=>(slM s y6 (s.length:Int)).bind fun q38=>(apM y3 [q38]).bind fun q43=>some q43) m out (from_:Int) (i:Int)=some (out++zdV c (most-out.length) ((s.take i).drop from_) (s.drop i))
 |n,out,f,i,0,_,hm,_,_=>by omega
 |n,out,f,i,m+1,hi,hn,hf,ho=>by
  have hdone:(slM s (f:Int) (s.length:Int)).bind (fun q38=>(apM out [q38]).bind fun q43=>some q43)=some (out++[s.drop f]):=by
   rw[zeZ (by omega),aA,ap1 (by omega),aA]
  have hw:(s.take i).drop f++s.drop i=s.drop f:=by
   rw[<- List.drop_append_of_le_length (by simp;omega),List.take_append_drop]
  simp only[zdr,jn]
  by_cases h1:(i:Int)< (s.length:Int)
  case neg=>
   rw[aE h1,aC,aC,hdone]
   have:s.drop i=[]:=List.drop_eq_nil_of_le (by omega)
   rw[this]at hw ⊢
   rw[List.append_nil]at hw
   rw[hw]
   cases most-out.length<;>simp[zdV]
  rw[aF h1,aD]
  have hlt:i<s.length:=by omega
  have hx:s[i]? =some s[i]:=aB hlt
  by_cases h2:(out.length:Int)< (most:Int)
  case neg=>
   rw[aE h2,aC,hdone]
   have:most-out.length=0:=by omega
   rw[this,zdH,hw]
  obtain⟨n,rfl⟩: ∃ k,n=k+1:=⟨n-1,by omega⟩
  obtain⟨k,hk⟩: ∃ k,most-out.length=k+1:=⟨most-out.length-1,by omega⟩
  rw[aF h2,aD,zgR hx,aA,ziH,hk,aI hlt]
  unfold zdV
  cases hb:s[i]==c with
  |true=>
   rw[aD,aD,zh4 (by omega) (by omega) (by omega),aA,ap1 (by omega),aA,zag hlt (by unfold maxi;omega),zkR hs hm n _ (i+1) (i+1) m (by omega) (by omega) (by omega) (by simp;omega)]
   have e1:most-(out++[((s.take ((i:Nat):Int).toNat)).drop ((f:Nat):Int).toNat]).length=k:=by simp;omega
   have e2:(s.take (i+1)).drop (i+1)=[]:=List.drop_eq_nil_of_le (by simp;omega)
   rw[e1,e2]
   simp
  |false=>
   rw[aC,aC,zag hlt (by unfold maxi;omega),zkR hs hm n _ f (i+1) m (by omega) (by omega) (by omega) ho,hk]
   have e2:(s.take (i+1)).drop f=(s.take i).drop f++[s[i]]:=by
    rw[List.take_add_one,hx]
    rw[List.drop_append_of_le_length (by simp;omega)]
    rfl
   rw[e2]
theorem zmp {s:Str}{c:UInt8}{most:Nat}(hs:s.length<=1048576)(hm:most<=1000):ze8 s c (most:Int)=some (zdV c most [] s):=by
 unfold ze8
 simp only[jn]
 have:=zkR (c:=c) (most:=most) hs hm s.length [] 0 0 (s.length+1) (by omega) (by omega) (Nat.le_refl _) (by simp)
 simpa using this
def za0 (s:Str):Bool:=decide ((curS 47 [] s).length<=3)&&(curS 47 [] s).all zaN
theorem zhl (c:UInt8): ∀ (r w:Str),∀ p∈curS c w r,p.length<=w.length+r.length
 | [],w,p,h=>by simp[curS]at h;rw[h];omega
 |x::r,w,p,h=>by
  unfold curS at h
  cases hx:x==c with
  |true=>
   rw[hx,aD]at h
   rcases List.mem_cons.1 h with e |e
   ·rw[e];omega
   ·have:=zhl c r [] p e
    simp at this ⊢
    omega
  |false=>
   rw[hx,aC]at h
   have:=zhl c r (w++[x]) p h
   simp at this ⊢
   omega
theorem zfN (c:UInt8): ∀ (r w:Str),(curS c w r).length<=r.length+1
 | [],w=>by simp[curS]
 |x::r,w=>by
  unfold curS
  cases x==c
  ·have:=zfN c r (w++[x]);simp at this ⊢;omega
  ·have:=zfN c r [];simp at this ⊢;omega
theorem zdJ {s:Str}(h:s.length<=1048576):zdC s=some (za0 s):=by
 unfold zdC strings_Split za0
 rw[if_pos ⟨by omega,by simp⟩,aA,zmo]
 have hl:=zfN 47 s []
 by_cases h3:(3:Int)< ((curS 47 [] s).length:Int)
 ·rw[aF h3,aD,aE (by omega)];rfl
 rw[aE h3,aC,aF (by omega),Bool.true_and]
 simp only[jn,zaA]
 rw[za5 (α:=Str) (xs:=curS 47 [] s) (p:=zaN) (r0:=some false) (Z:=some true) (f:=fun m i=>zb2 (curS 47 [] s) (fun _ _=>some true) m false i) (fun m i x hx=>by
  have hf:=zhl 47 s [] x (aH hx)
  simp only[zb2,zat hx,zaf hx,aD,aA,zag (zaP hx) (show(curS 47 [] s).length<=maxi by unfold maxi;omega),zgr (show x.length<=maxi by unfold maxi;simp at hf;omega)]
  cases zaN x<;>rfl) (fun m=>by simp only[zb2,zai,aC]) (by omega)]
 cases(curS 47 [] s).all zaN<;>rfl
theorem zgK (c:UInt8): ∀ (r:Str) (n:Nat) (w:Str),∀ p∈zdV c n w r,p.length<=w.length+r.length
 | [],n,w,p,h=>by cases n<;>simp[zdV]at h<;>rw[h]<;>omega
 |x::r,0,w,p,h=>by simp[zdV]at h;rw[h];simp
 |x::r,n+1,w,p,h=>by
  unfold zdV at h
  cases hx:x==c with
  |true=>
   rw[hx,aD]at h
   rcases List.mem_cons.1 h with e |e
   ·rw[e];omega
   ·have:=zgK c r n [] p e
    simp at this ⊢
    omega
  |false=>
   rw[hx,aC]at h
   have:=zgK c r (n+1) (w++[x]) p h
   simp at this ⊢
   omega
theorem zfh {s:Str}(h:s.length<=1048576):zcs s=some (za0 s):=by
 unfold zcs za0
 have e47:(UInt8.ofNatLT 47 (by decide):UInt8)=47:=by decide
 have hc:=zmp (c:=UInt8.ofNatLT 47 (by decide)) (most:=3) h (by omega)
 rw[show(3:Int)=((3:Nat):Int) from rfl,hc,aA,e47]
 simp only[jn,zaA]
 have hlen:(zdV 47 3 [] s).length<=maxi:=by
  rcases Nat.lt_or_ge (curS 47 [] s).length 4 with h1 |h1
  ·rw[zdI 47 s 3 [] (by omega)];unfold maxi;omega
  ·rw[zfg 47 s 3 [] h1];unfold maxi;omega
 rw[za5 (α:=Str) (xs:=zdV 47 3 [] s) (p:=zaN) (r0:=some false) (Z:=some (decide (((zdV 47 3 [] s).length:Int)<=((3:Nat):Int)))) (f:=fun m i=>zbR (zdV 47 3 [] s) (fun _ _=>some (decide (((zdV 47 3 [] s).length:Int)<=((3:Nat):Int)))) m false i) (fun m i x hx=>by
  have hf:=zgK 47 s 3 [] x (aH hx)
  simp only[zbR,zat hx,zaf hx,aD,aA,zag (zaP hx) hlen,zb9 (show x.length<=maxi by unfold maxi;simp at hf;omega)]
  cases zaN x<;>rfl) (fun m=>by simp only[zbR,zai,aC]) (by omega)]
 rcases Nat.lt_or_ge (curS 47 [] s).length 4 with h1 |h1
 ·rw[zdI 47 s 3 [] (by omega),aF (show((curS 47 [] s).length:Int)<=((3:Nat):Int) by omega),aF (show(curS 47 [] s).length<=3 by omega)]
  cases(curS 47 [] s).all zaN<;>rfl
 ·rw[zfg 47 s 3 [] h1,aE (show ¬ (curS 47 [] s).length<=3 by omega)]
  cases(zdV 47 3 [] s).all zaN<;>rfl
theorem zjd (a b:Str):(Op.bytesLess a b||a==b) = !Op.bytesLess b a:=by
 rw[zbd,zbd]
 by_cases h:b<a
 ·have h1: ¬ a<b:=fun h2=>zas a (zbh h2 h)
  have h2: ¬ a=b:=fun e=>by rw[e]at h;exact zas b h
  simp[h,h1,h2]
 ·by_cases e:a=b
  ·simp[h,e]
  ·have:=zcC (zhk.1 h) e
   simp[h,this]
def OB (xs:List Owner):Prop:=xs.length<=1048576 /\ ∀ x∈xs,x.Path.length<=1048576/\x.Who.length<=1048576
theorem OB.of {xs:List Owner}(h:Bk.bulk xs<=1048576):OB xs:=⟨zdF h,fun x hx=>by
 have h1:Bk.bulk x<=1048576:=zgQ h hx
 have h2:Bk.bulk x=x.Path.length+x.Who.length:=rfl
 omega⟩
theorem OB.at_ {xs:List Owner}(h:OB xs){i:Nat}{x:Owner}(hx:xs[i]? =some x):x.Path.length<=1048576/\x.Who.length<=1048576:=h.2 x (aH hx)
def zbf (d p:Str):Bool:=(d++[47]).isPrefixOf p
theorem zkS {d p:Str}(hd:d.length<=1048576)(hp:p.length<=1048576)(h1:za0 d=true)(h2:za0 p=true):zcd d p=some (zbf d p):=by
 unfold zcd strings_HasPrefix zbf
 have hs:saM d ([47]:Str)=some (d++[47]):=by
  unfold saM
  rw[if_pos]
  simp only[aL,List.length_nil,lim]
  omega
 simp only[jn,zdJ hd,zdJ hp,h1,h2,aA,aD,hs,Lib.hasPrefix]
theorem zgt {c:UInt8}: ∀ {d p:Str},(d++[c]).isPrefixOf p=(p.take d.length==d&&p[d.length]? ==some c)
 | [],[]=>by simp
 | [],x::p=>by
  by_cases e:c=x
  ·subst e;simp[List.isPrefixOf]
  ·have e1:(c==x)=false:=beq_false_of_ne e
   have e2:((some x:Option UInt8)==some c)=false:=beq_false_of_ne (fun h=>e (Option.some.inj h).symm)
   simp only[List.nil_append,List.isPrefixOf,e1,List.length_nil,List.take_zero,List.getElem?_cons_zero,e2,Bool.false_and,Bool.and_false]
 |y::d,[]=>by simp[List.isPrefixOf]
 |y::d,x::p=>by
  have ih:=zgt (c:=c) (d:=d) (p:=p)
  simp only[List.cons_append,List.isPrefixOf,aL,List.take_succ_cons,List.getElem?_cons_succ,ih]
  by_cases e:y=x
  ·subst e
   simp
  ·have e1:(y==x)=false:=beq_false_of_ne e
   have e2:(x==y)=false:=beq_false_of_ne (fun h=>e h.symm)
   simp[e1,e2]
theorem ziI {d p:Str}(hp:p.length<=1048576):zeX d p=some (zbf d p):=by
 unfold zeX zbf
 simp only[jn]
 rw[zgt]
 by_cases hl:(d.length:Int)< (p.length:Int)
 ·have hlt:d.length<p.length:=by omega
  have hx:p[d.length]? =some p[d.length]:=aB hlt
  rw[aF hl,aD,zfI (by omega),aA,hx]
  cases p.take d.length==d with
  |false=>rfl
  |true=>
   rw[aD,zgR hx,aA,Bool.true_and]
   congr 1
   have:=(show ∀ u:UInt8,(((UInt8.toNat u:Nat):Int)==(47:Int))=(some u==some (47:UInt8)) from fun u=>by
    have hb:=ziH u 47
    rw[show(((UInt8.toNat (47:UInt8):Nat):Int))=47 from rfl]at hb
    rw[hb]
    simp)
   exact this _
 ·rw[aE hl,aC,List.getElem?_eq_none (by omega)]
  simp
def zmq (s:Str):Bool:=s.all fun c=> !(c==124)
def ze1 (t:List Str):Bool:=t.all zmq
theorem ziJ {t:List Str}(h:Bk.fit t):zds t=some (ze1 t&&zao t):=by
 have hl:=zj2 h
 unfold zds ze1
 simp only[jn,zaA,ziA h,aA]
 rw[za5 (α:=Str) (xs:=t) (p:=zmq) (r0:=some false) (Z:=some (zao t)) (f:=fun m i=>zaL t (fun _ _=>some (zao t)) m false i) (fun m i x hx=>by
  have hx2:x.length<=maxi:=zlP h hx
  have b124: ∀ u:UInt8,(((UInt8.toNat u:Nat):Int)==(124:Int))=(u==124):=fun u=>by
   have hb:=ziH u 124
   rw[show(((UInt8.toNat (124:UInt8):Nat):Int))=124 from rfl]at hb
   exact hb
  simp only[zaL,zat hx,zaf hx,aD,jn,Option.getD_some]
  rw[za5 (α:=UInt8) (xs:=x) (p:=fun c=> !(c==124)) (r0:=some false) (Z:=zaL t (fun _ _=>some (zao t)) m false ((i+1:Nat):Int)) (f:=fun m' k=>zbi t (i:Int) (fun y10 y11=>zaL t (fun _ _=>some (zao t)) m y10 (w64 ((i:Int)+1))) m' false k) (fun m' k c hc=>by
   simp only[zbi,zaf hx,aA,zat hc,aD,zgR hc,b124,zag (zaP hc) hx2]
   cases c==124<;>rfl) (fun m'=>by simp only[zbi,zaf hx,aA,zai,aC,zag (zaP hx) hl]) (by omega)]
  rfl) (fun m=>by simp only[zaL,zai,aC]) (by omega)]
 cases t.all zmq<;>rfl
def opB (o:Op):Bool:=
 zaN o.Branch&&(zaN o.Who&&
  (bif o.Kind==1 then za0 o.Path&&(zao o.Text&&(ze1 o.Text&&(o.To==[]&&o.At==0)))
   else bif o.Kind==2 then za0 o.Path&&(o.To==[]&&(o.At==0&&(o.Text.length:Int)==0))
   else bif o.Kind==3 then za0 o.Path&&(za0 o.To&&(o.At==0&&(o.Text.length:Int)==0))
   else bif o.Kind==4||o.Kind==5 then zaN o.To&&(o.Path==[]&&(o.At==0&&(o.Text.length:Int)==0))
   else bif o.Kind==6||o.Kind==7 then(decide (0<=o.At)&&decide (o.At<=15))&&(o.Path==[]&&(o.To==[]&&(o.Text.length:Int)==0))
   else false))
structure OpFit (o:Op):Prop where
 fit:Bk.fit o
 path:o.Path.length<=1048576
 to:o.To.length<=1048576
 text:Bk.bulk o.Text<=1048576
theorem OpFit.of {o:Op}(h:Bk.fit o)(hb:Bk.bulk o<=1048576):OpFit o:=by
 have e:Bk.bulk o=Bk.bulk o.Kind+(Bk.bulk o.Branch+(Bk.bulk o.Who+(Bk.bulk o.Path+(Bk.bulk o.To+(Bk.bulk o.At+Bk.bulk o.Text))))):=rfl
 have e1:Bk.bulk o.Path=o.Path.length:=rfl
 have e2:Bk.bulk o.To=o.To.length:=rfl
 exact⟨h,by omega,by omega,by omega⟩
theorem zob (o:Op)(p q r s:Bool):zcg o p q r s=some ((p||o.Path==[])&&((q||o.To==[])&&((r||o.At==0)&&(s||(o.Text.length:Int)==0)))):=by
 unfold zcg
 simp only[jn]
 cases p<;>cases q<;>cases r<;>cases s<;>cases(o.Path==([]:Str))<;>cases(o.To==([]:Str))<;>cases((o.At:Int)==(0:Int))<;>rfl
theorem zmr {o:Op}(h:OpFit o):ze9 o=some (opB o):=by
 obtain⟨f0,f1,f2,f3,f4,f5,f6⟩:=h.fit
 unfold ze9 opB
 simp only[jn,zb9 f1,zb9 f2,zb9 f4,zfh h.path,zfh h.to,ziJ f6,zob,aA,ze0]
 cases zaN o.Branch
 ·rfl
 cases zaN o.Who
 ·rfl
 simp only[aK,aC,Bool.true_and,Bool.true_or,Bool.false_or,Bool.and_true]
 cases(o.Kind==(1:Int))
 case true=>cases za0 o.Path<;>cases zao o.Text<;>cases ze1 o.Text<;>cases(o.To==([]:Str))<;>cases(o.At==(0:Int))<;>rfl
 cases(o.Kind==(2:Int))
 case true=>cases za0 o.Path<;>cases(o.To==([]:Str))<;>cases(o.At==(0:Int))<;>cases((o.Text.length:Int)==0)<;>rfl
 cases(o.Kind==(3:Int))
 case true=>cases za0 o.Path<;>cases za0 o.To<;>cases(o.At==(0:Int))<;>cases((o.Text.length:Int)==0)<;>rfl
 simp only[aC]
 cases(o.Kind==(4:Int))<;>cases(o.Kind==(5:Int))<;>cases(o.Kind==(6:Int))<;>cases(o.Kind==(7:Int))<;>cases zaN o.To<;>cases(o.Path==([]:Str))<;>cases(o.At==(0:Int))<;>cases(o.To==([]:Str))<;>cases((o.Text.length:Int)==0)<;>cases(decide (0<=o.At)&&decide (o.At<=15))<;>rfl
theorem zd6: ∀ {b c:Bool},(b=true↔c=true)->b=c:=by decide
theorem zkT {i n:Nat}(hi:i<n)(hn:n<=maxi)(h0:(0:Int)< (i:Int)):w64 ((i:Int)-1)=((i-1:Nat):Int):=by
 rw[zar (by omega) (by unfold maxi at hn;omega)];omega
structure FB (f:File):Prop where
 path:f.Path.length<=1048576
 len:f.Text.length<=1048576
 text:Bk.fit f.Text
def TB (t:List File):Prop:=t.length<=1048576 /\ ∀ f∈t,FB f
theorem TB.at_ {t:List File}(h:TB t){i:Nat}{f:File}(hf:t[i]? =some f):FB f:=h.2 f (aH hf)
theorem TB.maxi {t:List File}(h:TB t):t.length<=maxi:=zaG h.1
theorem TB.nil:TB []:=⟨by simp,fun f hf=>by simp at hf⟩
def zee:File:=⟨[],[]⟩
theorem zcO {t:List File}{i:Nat}{f:File}(h:t[i]? =some f):t.getD i zee=f:=by simp[List.getD,h]
theorem zje {t:List File}{i:Nat}{f:File}(h:t[i]? =some f)(hl:t.length<=maxi)(h0:(0:Int)< (i:Int)): ∃ y,gi t (w64 ((i:Int)-1))=some y/\t.getD (i-1) zee=y:=by
 have hi:=zaP h
 have hx:t[i-1]? =some t[i-1]:=aB (by omega)
 exact⟨_,by rw[zkT hi hl h0];exact zaf hx,zcO hx⟩
def zgG (t:List File)(i:Nat):Bool:=za0 (t.getD i zee).Path&&(zao (t.getD i zee).Text&&(bif decide (0< (i:Int)) then Op.bytesLess (t.getD (i-1) zee).Path (t.getD i zee).Path else true))
def zgH (t:List File)(i:Nat):Bool:=zgG t i&&t.all fun f=> !zbf (t.getD i zee).Path f.Path
def ziK (t:List File)(i:Nat):Bool:=zgG t i&&(t.take i).all fun f=> !(za0 f.Path&&(za0 (t.getD i zee).Path&&zbf f.Path (t.getD i zee).Path))
def zay (t:List File):Bool:=decide ((t.length:Int)<=8)&&zfJ (zgH t) 0 t.length
theorem zoc (d:Str)(x:UInt8)(r:Str):d<d++x::r:=by
 induction d with
 |nil=>exact List.nil_lt_cons _ _
 |cons a d ih=>exact List.cons_lt_cons_self.2 ih
theorem zms {d p:Str}(h:zbf d p=true):d<p:=by
 unfold zbf at h
 obtain⟨t,rfl⟩:=List.isPrefixOf_iff_prefix.1 h
 rw[List.append_assoc]
 exact zoc d 47 t
theorem zjf {t:List File}{n:Nat}(h: ∀ i,i<n->zgG t i=true){i j:Nat}(hij:i<j)(hj:j<n):(t.getD i zee).Path< (t.getD j zee).Path:=by
 induction j with
 |zero=>omega
 |succ j ih=>
  have h1:=h (j+1) hj
  unfold zgG at h1
  rw[aF (by omega),aD,Nat.add_sub_cancel]at h1
  simp only[aG,zbd,decide_eq_true_eq]at h1
  rcases Nat.lt_or_ge i j with h2 |h2
  ·exact zbh (ih h2 (by omega)) h1.2.2
  ·have:i=j:=by omega
   subst this
   exact h1.2.2
theorem zjM (t:List File):zfJ (ziK t) 0 t.length=zfJ (zgH t) 0 t.length:=by
 apply zd6
 rw[zau,zau]
 constructor
 ·intro h
  have hf: ∀ i,i<t.length->zgG t i=true:=fun i hi=>by
   have:=h i (Nat.zero_le _) (by omega)
   unfold ziK at this
   simp only[aG]at this
   exact this.1
  intro i _ hi
  have hi':i<t.length:=by omega
  unfold zgH
  rw[hf i hi',Bool.true_and,List.all_eq_true]
  intro f hm
  obtain⟨k,hk⟩:=List.mem_iff_getElem?.1 hm
  have hkl:=zaP hk
  cases hb:zbf (t.getD i zee).Path f.Path with
  |false=>rfl
  |true=>
   exfalso
   have hlt:=zms hb
   rcases Nat.lt_trichotomy i k with h1 |h1 |h1
   ·have:=h k (Nat.zero_le _) (by omega)
    unfold ziK at this
    simp only[aG,List.all_eq_true]at this
    have h2:=this.2 t[i] (aH (i:=i) (by rw[List.getElem?_take_of_lt h1];exact aB hi'))
    have p1:=hf i hi'
    have p2:=hf k hkl
    unfold zgG at p1 p2
    simp only[aG]at p1 p2
    rw[zcO hk]at h2 p2
    rw[zcO (aB hi')]at hb p1
    rw[p1.1,p2.1,hb]at h2
    simp at h2
   ·subst h1
    rw[zcO hk]at hlt
    exact zas _ hlt
   ·have:=zjf hf h1 hi'
    rw[zcO hk]at this
    exact zas _ (zbh hlt this)
 ·intro h i _ hi
  have hi':i<t.length:=by omega
  have h1:=h i (Nat.zero_le _) hi
  unfold zgH at h1
  simp only[aG]at h1
  unfold ziK
  rw[h1.1,Bool.true_and,List.all_eq_true]
  intro f hm
  obtain⟨k,hk⟩:=List.mem_iff_getElem?.1 hm
  obtain⟨hk',hki⟩:=show t[k]? =some f/\k<i from by
   rw[List.getElem?_take]at hk
   split at hk
   ·exact⟨hk,by assumption⟩
   ·cases hk
  have h2:=h k (Nat.zero_le _) (by omega)
  unfold zgH at h2
  simp only[aG,List.all_eq_true]at h2
  have h3:=h2.2 t[i] (List.getElem_mem hi')
  rw[zcO hk']at h3
  rw[zcO (aB hi')]
  have h4:zbf f.Path t[i].Path=false:=by simpa using h3
  rw[h4]
  simp
theorem ze2 {t:List File}(h:TB t):zco t=some (zay t):=by
 have hm:=h.maxi
 unfold zco zay
 simp only[jn,zaA]
 rw[zbg (n:=t.length) (g:=zgH t) (r0:=some false) (Z:=some (decide ((t.length:Int)<=8))) (f:=fun m i=>zc3 t (fun _ _=>some (decide ((t.length:Int)<=8))) m false i) (fun m i hi=>by
  have hx:t[i]? =some t[i]:=aB hi
  have fx:=h.at_ hx
  simp only[zc3,jn,zat hx,zaf hx,aD,aA,zag hi hm,zfh fx.path,ziA fx.text]
  unfold zgH zgG
  rw[zcO hx]
  have hin: ∀ K:Bool->Int->Option Bool,zch t (i:Int) K (t.length+1) false 0=bif t.all (fun f=> !zbf t[i].Path f.Path) then K false (t.length:Int) else some false:=fun K=>by
   rw[za5 (α:=File) (xs:=t) (p:=fun f=> !zbf t[i].Path f.Path) (r0:=some false) (Z:=K false (t.length:Int)) (f:=fun m k=>zch t (i:Int) K m false k) (fun m k f hf=>by
    simp only[zch,zat hf,zaf hf,zaf hx,aD,aA,zag (zaP hf) hm,ziI (h.at_ hf).path]
    cases zbf t[i].Path f.Path<;>rfl) (fun m=>by simp only[zch,zai,aC]) (by omega)]
  cases za0 t[i].Path
  ·rfl
  cases zao t[i].Text
  ·rfl
  simp only[aK,aC,Bool.true_and]
  by_cases h0:(0:Int)< (i:Int)
  ·obtain⟨y,hy,ey⟩:=zje hx hm h0
   rw[hy,ey,aF h0]
   simp only[aA,zjd,aD]
   cases Op.bytesLess y.Path t[i].Path
   ·rfl
   ·simp only[aK,aC,Bool.true_and,zaA,hin]
  ·rw[aE h0]
   simp only[aC,Bool.true_and,zaA,hin]) (fun m=>by simp only[zc3,zai,aC]) _ (by omega)]
 cases decide ((t.length:Int)<=8)<;>cases zfJ (zgH t) 0 t.length<;>rfl
theorem zjN {d p:Str}(hd:d.length<=1048576)(hp:p.length<=1048576):zcd d p=some (za0 d&&(za0 p&&zbf d p)):=by
 cases h1:za0 d with
 |false=>unfold zcd;simp only[jn,zdJ hd,h1,aA,aC,Bool.false_and]
 |true=>
  cases h2:za0 p with
  |false=>unfold zcd;simp only[jn,zdJ hd,zdJ hp,h1,h2,aA,aC,aD,Bool.false_and,Bool.and_false]
  |true=>rw[zkS hd hp h1 h2];rfl
theorem zkU {t:List File}(h:TB t):zeb t=some (zay t):=by
 have hm:=h.maxi
 unfold zeb zay
 by_cases h8:(8:Int)< (t.length:Int)
 ·rw[aF h8,aE (by omega)];rfl
 rw[aE h8,aF (by omega),aC,Bool.true_and,<- zjM]
 simp only[jn,zaA]
 rw[zbg (n:=t.length) (g:=ziK t) (r0:=some false) (Z:=some true) (f:=fun m i=>zb3 t (fun _ _=>some true) m false i) (fun m i hi=>by
  have hx:t[i]? =some t[i]:=aB hi
  have fx:=h.at_ hx
  simp only[zb3,jn,zat hx,zaf hx,aD,aA,zag hi hm,zdJ fx.path,zes fx.text,zfI (Nat.le_of_lt hi),zaA]
  unfold ziK zgG
  rw[zcO hx]
  have hin: ∀ K:Bool->Int->Option Bool,zbl t[i] (t.take i) K ((t.take i).length+1) false 0=bif(t.take i).all (fun f=> !(za0 f.Path&&(za0 t[i].Path&&zbf f.Path t[i].Path))) then K false ((t.take i).length:Int) else some false:=fun K=>by
   rw[za5 (α:=File) (xs:=t.take i) (p:=fun f=> !(za0 f.Path&&(za0 t[i].Path&&zbf f.Path t[i].Path))) (r0:=some false) (Z:=K false ((t.take i).length:Int)) (f:=fun m k=>zbl t[i] (t.take i) K m false k) (fun m k f hf=>by
    have hf2:FB f:=h.2 f (List.mem_of_mem_take (aH hf))
    simp only[zbl,zat hf,zaf hf,aD,aA,zag (zaP hf) (show(t.take i).length<=maxi by simp;omega),zjN hf2.path fx.path]
    cases(za0 f.Path&&(za0 t[i].Path&&zbf f.Path t[i].Path))<;>rfl) (fun m=>by simp only[zbl,zai,aC]) (by omega)]
  cases zao t[i].Text
  ·cases za0 t[i].Path<;>rfl
  cases hp:za0 t[i].Path
  ·rfl
  simp only[aK,aC,Bool.true_and]
  by_cases h0:(0:Int)< (i:Int)
  ·obtain⟨y,hy,ey⟩:=zje hx hm h0
   rw[hy,ey,aF h0]
   simp only[aA,aD]
   cases Op.bytesLess y.Path t[i].Path
   ·rfl
   ·simp only[aK,aC,Bool.true_and,zaA,hin,hp]
  ·rw[aE h0]
   simp only[aC,Bool.true_and,zaA,hin,hp]) (fun m=>by simp only[zb3,zai,aC]) _ (by omega)]
 cases zfJ (ziK t) 0 t.length<;>rfl
structure CB (c:Commit):Prop where
 par:c.Parents.length<=1048576
 who:c.Who.length<=1048576
 tree:TB c.Tree
structure RpB (r:Repo):Prop where
 coms:r.Commits.length<=1048576
 com: ∀ c∈r.Commits,CB c
 heads:r.Heads.length<=1048576
 head: ∀ h∈r.Heads,h.Name.length<=1048576
theorem RpB.cat {r:Repo}(h:RpB r){i:Nat}{c:Commit}(hc:r.Commits[i]? =some c):CB c:=h.com c (aH hc)
theorem RpB.hat {r:Repo}(h:RpB r){i:Nat}{c:Head}(hc:r.Heads[i]? =some c):c.Name.length<=1048576:=h.head c (aH hc)
def ze4:Head:=⟨[],0⟩
theorem zcD {t:List Head}{i:Nat}{f:Head}(h:t[i]? =some f):t.getD i ze4=f:=by simp[List.getD,h]
theorem zjg {t:List Head}{i:Nat}{f:Head}(h:t[i]? =some f)(hl:t.length<=maxi)(h0:(0:Int)< (i:Int)): ∃ y,gi t (w64 ((i:Int)-1))=some y/\t.getD (i-1) ze4=y:=by
 have hi:=zaP h
 have hx:t[i-1]? =some t[i-1]:=aB (by omega)
 exact⟨_,by rw[zkT hi hl h0];exact zaf hx,zcD hx⟩
def upB (i p:Int):Bool:=decide (0<=p)&&decide (p<=i-1)
def zlD (ps:List Int):Bool:=match ps with
 | [p,q]=> !(p==q)
 |_=>true
def zjE (i:Int)(c:Commit):Bool:=c.Parents.all (upB i)&&(decide ((c.Parents.length:Int)<=2)&&(zlD c.Parents&&(zaN c.Who&&zay c.Tree)))
def noCommit:Commit:=⟨[],[],[]⟩
def zkh (cs:List Commit):Bool:=zfJ (fun i=>zjE i (cs.getD i noCommit)) 0 cs.length
def zfW (n:Nat)(hs:List Head)(i:Nat):Bool:=zaN (hs.getD i ze4).Name&&(upB n (hs.getD i ze4).At&&(bif decide (0< (i:Int)) then Op.bytesLess (hs.getD (i-1) ze4).Name (hs.getD i ze4).Name else true))
def zdK (n:Nat)(hs:List Head):Bool:=zfJ (zfW n hs) 0 hs.length&&decide ((hs.length:Int)<=5)
def zac (r:Repo):Bool:=decide ((r.Commits.length:Int)<=16)&&(zkh r.Commits&&zdK r.Commits.length r.Heads)
theorem zdf {t:List Commit}{i:Nat}{f:Commit}(h:t[i]? =some f):t.getD i noCommit=f:=by simp[List.getD,h]
theorem ze5 {n:Nat}(hn:n<=maxi):w64 ((n:Int)-1)=(n:Int)-1:=zar (by omega) (by unfold maxi at hn;omega)
def zod (i:Int)(ps:List Int)(k:Nat):Bool:=upB i (ps.getD k 0) && !(decide (0< (k:Int))&&(ps.getD k 0==ps.getD 0 0))
theorem zdy {t:List Int}{i:Nat}{f:Int}(h:t[i]? =some f):t.getD i 0=f:=by simp[List.getD,h]
theorem zkV (i:Int)(ps:List Int)(h2:(ps.length:Int)<=2):zfJ (zod i ps) 0 ps.length=(ps.all (upB i)&&zlD ps):=by
 match ps,h2 with
 | [],_=>rfl
 | [p],_=>simp[zfJ,zod,zlD]
 | [p,q],_=>
  simp only[zfJ,zod,zlD,aL,List.length_nil,List.all_cons,List.all_nil]
  have e:(q==p)=(p==q):=by
   apply zd6;rw[beq_iff_eq,beq_iff_eq];exact eq_comm
  simp[e]
  cases upB i p<;>cases upB i q<;>simp
 |p::q::s::l,h=>simp at h;omega
theorem zsH {i:Nat}{c:Commit}(hi:i<=1048576)(hc:CB c)(K:Bool->Int->Option Bool):zci (i:Int) c K (c.Parents.length+1) false 0=bif zfJ (zod i c.Parents) 0 c.Parents.length then K false (c.Parents.length:Int) else some false:=by
 have hm:=zaG hc.par
 rw[zbg (n:=c.Parents.length) (g:=zod i c.Parents) (r0:=some false) (Z:=K false (c.Parents.length:Int)) (f:=fun m k=>zci (i:Int) c K m false k) (fun m k hk=>by
  have hx:c.Parents[k]? =some c.Parents[k]:=aB hk
  have h00:c.Parents[0]? =some c.Parents[0]:=aB (by omega)
  have hg0:gi c.Parents 0=some c.Parents[0]:=zaf (i:=0) h00
  simp only[zci,jn,zat hx,zaf hx,hg0,aD,aA,zag hk hm,ze0,ze5 (show i<=maxi by unfold maxi;omega)]
  unfold zod
  rw[zdy hx,zdy h00,show(decide ((0:Int)<=c.Parents[k])&&decide (c.Parents[k]<=(i:Int)-1))=upB i c.Parents[k] from rfl]
  cases upB (i:Int) c.Parents[k]
  ·rfl
  ·cases decide ((0:Int)< (k:Int))
   ·rfl
   ·cases(c.Parents[k]==c.Parents[0])<;>rfl) (fun m=>by simp only[zci,zai,aC]) _ (by omega)]
theorem zsI {r:Repo}(h:RpB r):zcj r (fun _ _=>jn (fun(y128:Bool)=>some y128) fun K130=>bif decide (((r.Commits.length:Int):Int)<=(16:Int)) then(K130 (decide (((r.Heads.length:Int):Int)<=(5:Int)))) else(K130 false)) (r.Heads.length+1) false 0=some (decide ((r.Commits.length:Int)<=16)&&zdK r.Commits.length r.Heads):=by
 have hm:=zaG h.heads
 rw[zbg (n:=r.Heads.length) (g:=zfW r.Commits.length r.Heads) (r0:=some false) (Z:=some (decide ((r.Commits.length:Int)<=16)&&decide ((r.Heads.length:Int)<=5))) (f:=fun m k=>zcj r _ m false k) (fun m k hk=>by
  have hx:r.Heads[k]? =some r.Heads[k]:=aB hk
  simp only[zcj,jn,zat hx,zaf hx,aD,aA,zag hk hm,ze0,ze5 (zaG h.coms),zb9 (zaG (h.hat hx))]
  unfold zfW
  rw[zcD hx,show(decide ((0:Int)<=r.Heads[k].At)&&decide (r.Heads[k].At<=(r.Commits.length:Int)-1))=upB r.Commits.length r.Heads[k].At from rfl]
  cases zaN r.Heads[k].Name
  ·rfl
  cases upB r.Commits.length r.Heads[k].At
  ·rfl
  by_cases h0:(0:Int)< (k:Int)
  ·obtain⟨y,hy,ey⟩:=zjg hx hm h0
   rw[hy,ey,aF h0]
   simp only[aA,zjd]
   cases Op.bytesLess y.Name r.Heads[k].Name<;>rfl
  ·rw[aE h0];rfl) (fun m=>by
   simp only[zcj,zai,aC,jn]
   cases decide ((r.Commits.length:Int)<=16)<;>rfl) _ (by omega)]
 unfold zdK
 cases zfJ (zfW r.Commits.length r.Heads) 0 r.Heads.length<;>cases decide ((r.Commits.length:Int)<=16)<;>rfl
theorem zcX {r:Repo}(h:RpB r):zbx r=some (zac r):=by
 have hm:=zaG h.coms
 unfold zbx zac zkh
 simp only[jn,zaA]
 have h3:=zsI h
 simp only[jn]at h3
 rw[zbg (n:=r.Commits.length) (g:=fun i=>zjE i (r.Commits.getD i noCommit)) (r0:=some false) (Z:=some (decide ((r.Commits.length:Int)<=16)&&zdK r.Commits.length r.Heads)) (f:=fun m i=>zc5 r _ m false i) (fun m i hi=>by
  have hx:r.Commits[i]? =some r.Commits[i]:=aB hi
  have hc:=h.cat hx
  have hco:=h.coms
  simp only[zc5,jn,zat hx,zaf hx,aD,aA,zag hi hm,zaA,zsH (show i<=1048576 by omega) hc,zdf hx]
  unfold zjE
  by_cases h2:(2:Int)< (r.Commits[i].Parents.length:Int)
  ·rw[aF h2,aE (show ¬ (r.Commits[i].Parents.length:Int)<=2 by omega)]
   simp only[aD,Bool.false_and,Bool.and_false,aC]
   cases zfJ (zod i r.Commits[i].Parents) 0 r.Commits[i].Parents.length<;>rfl
  ·rw[aE h2,aF (show(r.Commits[i].Parents.length:Int)<=2 by omega),zkV _ _ (by omega)]
   simp only[aC,Bool.true_and,zb9 (zaG hc.who),ze2 hc.tree,aA]
   cases r.Commits[i].Parents.all (upB i)<;>cases zlD r.Commits[i].Parents<;>cases zaN r.Commits[i].Who<;>cases zay r.Commits[i].Tree<;>rfl) (fun m=>by
   simp only[zc5,zai,aC,jn,zaA,h3]) _ (by omega)]
 cases zfJ (fun i=>zjE i (r.Commits.getD i noCommit)) 0 r.Commits.length<;>cases decide ((r.Commits.length:Int)<=16)<;>rfl
theorem zjO {r:Repo}(h:RpB r){hs:List Head}(hl:hs.length<=1048576)(hn: ∀ h∈hs,h.Name.length<=1048576):zd2 r hs=some (zdK r.Commits.length hs):=by
 have hm:=zaG hl
 unfold zd2 zdK
 by_cases h5:(5:Int)< (hs.length:Int)
 ·rw[aF h5,aE (show ¬ (hs.length:Int)<=5 by omega),Bool.and_false];rfl
 rw[aE h5,aF (show(hs.length:Int)<=5 by omega),aC,Bool.and_true]
 simp only[jn,zaA]
 rw[zbg (n:=hs.length) (g:=zfW r.Commits.length hs) (r0:=some false) (Z:=some true) (f:=fun m k=>zbE r hs (fun _ _=>some true) m false k) (fun m k hk=>by
  have hx:hs[k]? =some hs[k]:=aB hk
  simp only[zbE,zcl,jn,zat hx,zaf hx,aD,aA,zag hk hm,zdm,ze5 (zaG h.coms),zgr (zaG (hn _ (aH hx)))]
  unfold zfW
  rw[zcD hx,show(decide ((0:Int)<=hs[k].At)&&decide (hs[k].At<=(r.Commits.length:Int)-1))=upB r.Commits.length hs[k].At from rfl]
  cases zaN hs[k].Name
  ·rfl
  cases upB r.Commits.length hs[k].At
  ·rfl
  by_cases h0:(0:Int)< (k:Int)
  ·obtain⟨y,hy,ey⟩:=zjg hx hm h0
   rw[hy,ey,aF h0]
   simp only[aA]
   cases Op.bytesLess y.Name hs[k].Name<;>rfl
  ·rw[aE h0];rfl) (fun m=>by simp only[zbE,zai,aC]) _ (by omega)]
 cases zfJ (zfW r.Commits.length hs) 0 hs.length<;>rfl
theorem zhI {r:Repo}(h:RpB r):zeC r=some (zac r):=by
 have hm:=zaG h.coms
 unfold zeC zac zkh
 by_cases h16:(16:Int)< (r.Commits.length:Int)
 ·rw[aF h16,aE (by omega)];rfl
 rw[aE h16,aF (by omega),aC,Bool.true_and]
 simp only[jn,zaA]
 rw[zbg (n:=r.Commits.length) (g:=fun i=>zjE i (r.Commits.getD i noCommit)) (r0:=some false) (Z:=some (zdK r.Commits.length r.Heads)) (f:=fun m i=>zb4 r _ m false i) (fun m i hi=>by
  have hx:r.Commits[i]? =some r.Commits[i]:=aB hi
  have hc:=h.cat hx
  have hco:=h.coms
  have hpm:=zaG hc.par
  have hin: ∀ K:Bool->Int->Option Bool,zbm (i:Int) r.Commits[i] K (r.Commits[i].Parents.length+1) false 0=bif r.Commits[i].Parents.all (upB i) then K false (r.Commits[i].Parents.length:Int) else some false:=fun K=>by
   rw[za5 (α:=Int) (xs:=r.Commits[i].Parents) (p:=upB i) (r0:=some false) (Z:=K false (r.Commits[i].Parents.length:Int)) (f:=fun m k=>zbm (i:Int) r.Commits[i] K m false k) (fun m k p hp=>by
    simp only[zbm,zat hp,zaf hp,aD,aA,zag (zaP hp) hpm,zdm,ze5 (show i<=maxi by unfold maxi;omega)]
    rw[show(decide ((0:Int)<=p)&&decide (p<=(i:Int)-1))=upB i p from rfl]
    cases upB i p<;>rfl) (fun m=>by simp only[zbm,zai,aC]) (by omega)]
  simp only[zb4,jn,zat hx,zaf hx,aD,aA,zag hi hm,zaA,hin,zdf hx,zgr (zaG hc.who),zkU hc.tree]
  unfold zjE
  match hps:r.Commits[i].Parents with
  | []=>cases zaN r.Commits[i].Who<;>cases zay r.Commits[i].Tree<;>rfl
  | [p]=>
   simp only[aL,List.length_nil,List.all_cons,List.all_nil,zlD]
   cases upB i p<;>cases zaN r.Commits[i].Who<;>cases zay r.Commits[i].Tree<;>rfl
  | [p,q]=>
   simp only[aL,List.length_nil,List.all_cons,List.all_nil,zlD,gi,List.getElem?_cons_zero,List.getElem?_cons_succ,Int.toNat_zero,Int.toNat_one]
   cases upB i p<;>cases upB i q<;>cases hpq:p==q<;>cases zaN r.Commits[i].Who<;>cases zay r.Commits[i].Tree<;>simp[hpq]<;>rfl
  |p::q::s::l=>
   rw[aF (by simp only[aL];omega),aE (show ¬ (((p::q::s::l).length:Nat):Int)<=2 by simp only[aL];omega)]
   simp only[aD,Bool.false_and,Bool.and_false,aC]) (fun m=>by
   simp only[zb4,zai,aC,jn,zjO h h.heads h.head,aA]) _ (by omega)]
 cases zfJ (fun i=>zjE i (r.Commits.getD i noCommit)) 0 r.Commits.length<;>rfl
def atB (r:Repo)(name:Str):Int:=match r.Heads.find? (fun h=>h.Name==name)with
 |some h=>h.At
 |none=> -1
theorem zd7 {r:Repo}(h:RpB r)(name:Str):zca r name=some (atB r name):=by
 have hm:=zaG h.heads
 unfold zca atB
 simp only[jn,zaA]
 rw[zgn (p:=fun h:Head=>h.Name==name) (xs:=r.Heads) (r:=fun h=>some h.At) (Z:=some (-1)) (f:=fun m k=>zc2 r name _ m 0 k) (fun m i x hx=>by
  simp only[zc2,zat hx,zaf hx,aD,aA,zag (zaP hx) hm]) (fun m=>by simp only[zc2,zai,aC]) (by omega)]
 cases r.Heads.find? (fun h=>h.Name==name)<;>rfl
theorem zdL {t:List File}(h:TB t):zbu t=some t:=by
 have hm:=h.maxi
 have hl:=h.1
 unfold zbu
 simp only[jn,zaA]
 rw[zev (xs:=t) (p:=fun _=>true) (g:=fun f:File=>f) (Z:=fun acc=>some acc) (f:=fun m acc i=>zbT t _ m acc i) (fun m i x acc hx ha=>by
  have hi:=zaP hx
  simp only[zbT,zat hx,zaf hx,aD,aA,zag hi hm,apN (h.at_ hx).len,ap1 (show acc.length<=1048576 by omega)]) (fun m acc=>by simp only[zbT,zai,aC]) (by omega)]
 simp
theorem zgu {c:Commit}(h:CB c):zbN c=some c:=by
 unfold zbN
 rw[apN h.par,aA,zdL h.tree,aA]
theorem zdM {r:Repo}(h:RpB r):zaS r=some r:=by
 have hm:=zaG h.coms
 have hl:=h.coms
 unfold zaS
 simp only[jn,zaA,apN h.heads,aA]
 rw[zev (xs:=r.Commits) (p:=fun _=>true) (g:=fun f:Commit=>f) (Z:=fun acc=>some (Repo.mk acc r.Heads)) (f:=fun m acc i=>zbU r _ m i acc r.Heads) (fun m i x acc hx ha=>by
  have hi:=zaP hx
  simp only[zbU,zat hx,zaf hx,aD,aA,zag hi hm,zgu (h.cat hx),ap1 (show acc.length<=1048576 by omega)]) (fun m acc=>by simp only[zbU,zai,aC]) (by omega)]
 rw[show((r.Commits.filter fun _=>true).map fun f:Commit=>f)=r.Commits by simp]
def zel (n:Str)(a:Int):Bool->List Head->List Head
 |put,[]=>bif put then [] else [⟨n,a⟩]
 |put,h::hs=>(bif !put && !Op.bytesLess h.Name n then [⟨n,a⟩] else [])++((bif h.Name !=n then [h] else [])++zel n a (put || !Op.bytesLess h.Name n) hs)
theorem zfi (n:Str)(a:Int): ∀ (hs:List Head) (put:Bool),(zel n a put hs).length+(bif put then 1 else 0)<=hs.length+1
 | [],put=>by cases put<;>simp[zel]
 |h::hs,put=>by
  have ih:=zfi n a hs (put || !Op.bytesLess h.Name n)
  unfold zel
  cases put<;>cases hb:Op.bytesLess h.Name n<;>cases hn:(h.Name !=n)<;>simp[hb]at ih ⊢ <;>omega
theorem putH_mem (n:Str)(a:Int): ∀ (hs:List Head) (put:Bool) (x:Head),x∈zel n a put hs->x∈hs\/x=⟨n,a⟩
 | [],put,x,h=>by cases put<;>simp[zel]at h;exact .inr h
 |h::hs,put,x,hx=>by
  unfold zel at hx
  rcases List.mem_append.1 hx with h1 |h1
  ·cases hc:(!put && !Op.bytesLess h.Name n)with
   |true=>rw[hc]at h1;simp at h1;exact .inr h1
   |false=>rw[hc]at h1;simp at h1
  ·rcases List.mem_append.1 h1 with h2 |h2
   ·cases hc:(h.Name !=n)with
    |true=>rw[hc]at h2;simp at h2;exact .inl (by rw[h2];simp)
    |false=>rw[hc]at h2;simp at h2
   ·rcases putH_mem n a hs _ x h2 with h3 |h3
    ·exact .inl (List.mem_cons_of_mem _ h3)
    ·exact .inr h3
theorem zhJ {r:Repo}(h:RpB r)(hs:r.Heads.length<=100000)(n:Str)(a:Int)(cs:List Commit): ∀ (k i m:Nat) (put:Bool) (out:List Head),i+k=r.Heads.length->k<m->out.length<=2*i->
 zbV r n a (fun y14 _ y16 y19=>bif(!y14) then((apM y19 [Vm.Head.mk n a]).bind fun q160=>some (Vm.Repo.mk y16 q160)) else some (Vm.Repo.mk y16 y19)) m put (i:Int) cs out=some ⟨cs,out++zel n a put (r.Heads.drop i)⟩
 |k,i,0,put,out,_,hm,_=>by omega
 |0,i,m+1,put,out,hi,_,ho=>by
  obtain rfl:i=r.Heads.length:=by omega
  simp only[zbV,zai,aC,List.drop_length]
  cases put
  ·simp only[Bool.not_false,aD,ap1 (show out.length<=1048576 by omega),aA,zel,aC]
  ·simp[zel]
 |k+1,i,m+1,put,out,hi,hm,ho=>by
  have hlt:i<r.Heads.length:=by omega
  have hx:r.Heads[i]? =some r.Heads[i]:=aB hlt
  have hd:r.Heads.drop i=r.Heads[i]::r.Heads.drop (i+1):=aI hlt
  have hw:=zag hlt (zaG h.heads)
  have ih:=fun put out ho=>zhJ h hs n a cs k (i+1) m put out (by omega) (by omega) ho
  simp only[zbV,jn,zat hx,zaf hx,aD,aA,hw]
  rw[hd]
  unfold zel
  have e1:=ap1 (x:=Vm.Head.mk n a) (show out.length<=1048576 by omega)
  have e2:=ap1 (x:=r.Heads[i]) (show out.length<=1048576 by omega)
  have e3:apM (out++[Vm.Head.mk n a]) [r.Heads[i]]=some (out++([Vm.Head.mk n a]++[r.Heads[i]])):=by rw[ap1 (show(out++[Vm.Head.mk n a]).length<=1048576 by simp;omega),List.append_assoc]
  have l1:(out++[r.Heads[i]]).length<=2*(i+1):=by simp;omega
  have l2:(out++[Vm.Head.mk n a]).length<=2*(i+1):=by simp;omega
  have l3:(out++([Vm.Head.mk n a]++[r.Heads[i]])).length<=2*(i+1):=by simp;omega
  have l0:out.length<=2*(i+1):=by omega
  cases put<;>cases Op.bytesLess r.Heads[i].Name n<;>cases(r.Heads[i].Name !=n)<;>
   simp only[aK,Bool.not_false,aD,aC,e1,e2,e3,aA,Bool.and_true,Bool.and_false,Bool.or_true,Bool.or_false,Bool.true_and,Bool.false_and,Bool.true_or,Bool.false_or,ih _ _ l0,ih _ _ l1,ih _ _ l2,ih _ _ l3,List.append_assoc,List.nil_append]
def headR (r:Repo)(n:Str)(a:Int):Repo:=⟨r.Commits,zel n a false r.Heads⟩
theorem zgv {r:Repo}(h:RpB r)(hs:r.Heads.length<=100000)(n:Str)(a:Int):zdA r n a=some (headR r n a):=by
 unfold zdA headR
 simp only[jn,zaA]
 have:=zhJ h hs n a r.Commits r.Heads.length 0 (r.Heads.length+1) false [] (by omega) (by omega) (by simp)
 simpa using this
theorem RpB.headR {r:Repo}(h:RpB r)(hs:r.Heads.length<=100000){n:Str}(hn:n.length<=1048576)(a:Int):RpB (headR r n a):=
 ⟨h.coms,h.com,by have:=zfi n a r.Heads false;simp at this;show(zel n a false r.Heads).length<=_;omega,fun x hx=>by
  rcases putH_mem n a r.Heads false x hx with h1 |h1
  ·exact h.head x h1
  ·rw[h1];exact hn⟩
def addR (r:Repo)(n:Str)(c:Commit):Repo:=⟨r.Commits++[c],zel n r.Commits.length false r.Heads⟩
theorem RpB.push {r:Repo}(h:RpB r){c:Commit}(hc:CB c)(hl:r.Commits.length<=100000):RpB ⟨r.Commits++[c],r.Heads⟩:=
 ⟨by simp;omega,fun x hx=>by
  rcases List.mem_append.1 hx with h1 |h1
  ·exact h.com x h1
  ·rw[List.mem_singleton]at h1;rw[h1];exact hc,h.heads,h.head⟩
theorem RpB.addR {r:Repo}(h:RpB r)(hl:r.Commits.length<=100000)(hs:r.Heads.length<=100000){n:Str}(hn:n.length<=1048576){c:Commit}(hc:CB c):RpB (addR r n c):=
 (h.push hc hl).headR hs hn _
theorem zjh {r:Repo}(h:RpB r)(hl:r.Commits.length<=100000)(hs:r.Heads.length<=100000)(n:Str){c:Commit}(hc:CB c):zcN r n c=some (addR r n c):=by
 unfold zcN
 rw[apN h.coms,aA,ap1 h.coms,aA,zgv (h.push hc hl) hs,aA]
 rfl
theorem zah {r:Repo}(h:zac r=true):r.Commits.length<=16/\r.Heads.length<=5:=by
 unfold zac zdK at h
 simp only[aG,decide_eq_true_eq]at h
 omega
def zet (r:Repo)(n who:Str)(t:List File):Commit:=⟨bif decide (0<=atB r n) then [atB r n] else [],who,t⟩
def zbr:Repo:=⟨[],[]⟩
def zdz (r:Repo)(n who:Str)(t:List File):Repo×Bool:=bif zac r then(bif zac (addR r n (zet r n who t)) then(addR r n (zet r n who t),true) else(r,false)) else(zbr,false)
theorem CB.next {r:Repo}{n who:Str}{t:List File}(hw:who.length<=1048576)(ht:TB t):CB (zet r n who t):=
 ⟨by unfold zet;cases decide (0<=atB r n)<;>simp,hw,ht⟩
theorem zgS {r:Repo}(h:RpB r){n who:Str}{t:List File}(hn:n.length<=1048576)(hw:who.length<=1048576)(ht:TB t):zcI r n who t=some (zdz r n who t):=by
 unfold zcI zdz
 rw[zcX h,aA]
 cases hr:zac r with
 |false=>rfl
 |true=>
  obtain⟨s1,s2⟩:=zah hr
  have hc:CB (zet r n who t):=CB.next hw ht
  have ha:=zjh h (by omega) (by omega) n hc
  have hb:=h.addR (by omega) (by omega) hn hc
  have hfin:(zaS r).bind (fun z57=>(zcN ⟨z57.Commits,z57.Heads⟩ n (zet r n who t)).bind fun z66=>(zbx z66).bind fun z204=>bif(!z204) then((zaS r).bind fun z219=>some (Vm.Repo.mk z219.Commits z219.Heads,false)) else(some (z66,true)))=some (bif zac (addR r n (zet r n who t)) then(addR r n (zet r n who t),true) else(r,false)):=by
   rw[zdM h,aA,show(⟨r.Commits,r.Heads⟩:Repo)=r from rfl,ha,aA,zcX hb,aA]
   cases zac (addR r n (zet r n who t))<;>rfl
  rw[aK,aC,aD,zdL ht,aA]
  simp only[jn,zd7 h,aA]
  unfold zet at hfin ⊢
  cases hd:decide (0<=atB r n)<;>rw[hd]at hfin<;>exact hfin
def zeu (r:Repo)(n:Str)(a:Int):Repo×Bool:=bif zac r then(bif decide (0<=atB r n) || !zac (headR r n a) then(r,false) else(headR r n a,true)) else(zbr,false)
theorem zgT {r:Repo}(h:RpB r){n:Str}(hn:n.length<=1048576)(a:Int):zby r n a=some (zeu r n a):=by
 unfold zby zeu
 rw[zcX h,aA]
 cases hr:zac r with
 |false=>rfl
 |true=>
  obtain⟨s1,s2⟩:=zah hr
  rw[aK,aC,aD,zdM h,aA,show(⟨r.Commits,r.Heads⟩:Repo)=r from rfl,zgv h (by omega),aA]
  simp only[jn,zd7 h,aA,zcX (h.headR (by omega) hn a)]
  cases decide (0<=atB r n)<;>cases zac (headR r n a)<;>rfl
def putF (g:File):Bool->List File->List File
 |put,[]=>bif put then [] else [g]
 |put,f::fs=>(bif !put && !Op.bytesLess f.Path g.Path then [g] else [])++((bif f.Path !=g.Path then [f] else [])++putF g (put || !Op.bytesLess f.Path g.Path) fs)
theorem zgL (g:File): ∀ (hs:List File) (put:Bool),(putF g put hs).length+(bif put then 1 else 0)<=hs.length+1
 | [],put=>by cases put<;>simp[putF]
 |h::hs,put=>by
  have ih:=zgL g hs (put || !Op.bytesLess h.Path g.Path)
  unfold putF
  cases put<;>cases hb:Op.bytesLess h.Path g.Path<;>cases hn:(h.Path !=g.Path)<;>simp[hb]at ih ⊢ <;>omega
theorem putF_mem (g:File): ∀ (hs:List File) (put:Bool) (x:File),x∈putF g put hs->x∈hs\/x=g
 | [],put,x,h=>by cases put<;>simp[putF]at h;exact .inr h
 |h::hs,put,x,hx=>by
  unfold putF at hx
  rcases List.mem_append.1 hx with h1 |h1
  ·cases hc:(!put && !Op.bytesLess h.Path g.Path)with
   |true=>rw[hc]at h1;simp at h1;exact .inr h1
   |false=>rw[hc]at h1;simp at h1
  ·rcases List.mem_append.1 h1 with h2 |h2
   ·cases hc:(h.Path !=g.Path)with
    |true=>rw[hc]at h2;simp at h2;exact .inl (by rw[h2];simp)
    |false=>rw[hc]at h2;simp at h2
   ·rcases putF_mem g hs _ x h2 with h3 |h3
    ·exact .inl (List.mem_cons_of_mem _ h3)
    ·exact .inr h3
theorem TB.putF {t:List File}(h:TB t)(hs:t.length<=100000){g:File}(hg:FB g):TB (putF g false t):=
 ⟨by have:=zgL g t false;simp at this;omega,fun x hx=>by
  rcases putF_mem g t false x hx with h1 |h1
  ·exact h.2 x h1
  ·rw[h1];exact hg⟩
theorem zji {t:List File}(h:TB t)(hs:t.length<=100000){g:File}(hg:FB g){K:List File->Bool->Int->Option (List File)}(hK: ∀ out put j,out.length<=2*t.length->K out put j=some (bif put then out else out++[g])): ∀ (k i m:Nat) (put:Bool) (out:List File),i+k=t.length->k<m->out.length<=2*i->
 zcv t g K m out put (i:Int)=some (out++putF g put (t.drop i))
 |k,i,0,put,out,_,hm,_=>by omega
 |0,i,m+1,put,out,hi,_,ho=>by
  obtain rfl:i=t.length:=by omega
  simp only[zcv,zai,aC,List.drop_length,hK out put _ ho]
  cases put<;>simp[putF]
 |k+1,i,m+1,put,out,hi,hm,ho=>by
  have hlt:i<t.length:=by omega
  have hx:t[i]? =some t[i]:=aB hlt
  have hd:t.drop i=t[i]::t.drop (i+1):=aI hlt
  have hw:=zag hlt h.maxi
  have ih:=fun put out ho=>zji h hs hg hK k (i+1) m put out (by omega) (by omega) ho
  simp only[zcv,jn,zat hx,zaf hx,aD,aA,hw,apN hg.len]
  rw[hd]
  unfold putF
  have e1:=ap1 (x:=g) (show out.length<=1048576 by omega)
  have e2:=ap1 (x:=t[i]) (show out.length<=1048576 by omega)
  have e3:apM (out++[g]) [t[i]]=some (out++([g]++[t[i]])):=by rw[ap1 (show(out++[g]).length<=1048576 by simp;omega),List.append_assoc]
  have l1:(out++[t[i]]).length<=2*(i+1):=by simp;omega
  have l2:(out++[g]).length<=2*(i+1):=by simp;omega
  have l3:(out++([g]++[t[i]])).length<=2*(i+1):=by simp;omega
  have l0:out.length<=2*(i+1):=by omega
  have eg:Vm.File.mk g.Path g.Text=g:=rfl
  cases put<;>cases Op.bytesLess t[i].Path g.Path<;>cases(t[i].Path !=g.Path)<;>
   simp only[aK,Bool.not_false,aD,aC,eg,e1,e2,e3,aA,Bool.and_true,Bool.and_false,Bool.or_true,Bool.or_false,Bool.true_and,Bool.false_and,Bool.true_or,Bool.false_or,ih _ _ l0,ih _ _ l1,ih _ _ l2,ih _ _ l3,List.append_assoc,List.nil_append]
theorem zjj {t:List File}(h:TB t)(hs:t.length<=100000){g:File}(hg:FB g):zdS t g=some (putF g false t):=by
 unfold zdS
 simp only[jn,zaA]
 have:=zji h hs hg (K:=fun y6 y9 _=>bif(!y9) then((apM ([]:List Str) g.Text).bind fun q126=>(apM y6 [Vm.File.mk g.Path q126]).bind fun q144=>some q144) else some y6) (fun out put j ho=>by
  cases put
  ·simp only[Bool.not_false,aD,aC,apN hg.len,ap1 (show out.length<=1048576 by omega),aA]
  ·rfl) t.length 0 (t.length+1) false [] (by omega) (by omega) (by simp)
 simpa using this
theorem za2 {t:List File}(h:zay t=true):t.length<=8:=by
 unfold zay at h
 simp only[aG,decide_eq_true_eq]at h
 omega
def zn1 (t:List File)(g:File):List File×Bool:=bif zay t then(bif zay (putF g false t) then(putF g false t,true) else(t,false)) else([],false)
theorem ziL {t:List File}(h:TB t){g:File}(hg:FB g):zc4 t g=some (zn1 t g):=by
 unfold zc4 zn1
 rw[ze2 h,aA]
 cases ht:zay t with
 |false=>rfl
 |true=>
  have hs:=za2 ht
  rw[aK,aC,aD,zdL h,aA,zjj h (by omega) hg,aA,ze2 (h.putF (by omega) hg),aA]
  cases zay (putF g false t)<;>rfl
def zm7 (p:Str)(f:File):Bool:=f.Path !=p && !zbf p f.Path
def dropF (p:Str)(t:List File):List File:=t.filter (zm7 p)
theorem zhK {t:List File}(h:TB t)(p:Str):zd9 t p=some (dropF p t):=by
 have hm:=h.maxi
 have hl:=h.1
 unfold zd9 dropF
 simp only[jn,zaA]
 rw[zev (xs:=t) (p:=zm7 p) (g:=fun f:File=>f) (Z:=fun acc=>some acc) (f:=fun m acc i=>zbW t p _ m acc i) (fun m i x acc hx ha=>by
  have hi:=zaP hx
  simp only[zbW,jn,zat hx,zaf hx,aD,aA,zag hi hm,ap1 (show acc.length<=1048576 by omega),ziI (h.at_ hx).path]
  unfold zm7
  cases(x.Path !=p)<;>cases zbf p x.Path<;>rfl) (fun m acc=>by simp only[zbW,zai,aC]) (by omega)]
 simp
theorem TB.dropF {t:List File}(h:TB t)(p:Str):TB (dropF p t):=⟨Nat.le_trans (List.length_filter_le _ _) h.1,fun f hf=>h.2 f ((List.mem_filter.1 hf).1)⟩
def zpv (t:List File)(p:Str):List File×Bool:=bif zay t then(dropF p t,decide (((dropF p t).length:Int)< (t.length:Int))) else([],false)
theorem zhL {t:List File}(h:TB t)(p:Str):zcw t p=some (zpv t p):=by
 unfold zcw zpv
 rw[ze2 h,aA]
 cases zay t with
 |false=>rfl
 |true=>rw[aK,aC,aD,zdL h,aA,zhK h,aA]
theorem zeY {r:Repo}(h:zac r=true){i:Nat}(hi:i<r.Commits.length):zjE i (r.Commits.getD i noCommit)=true:=by
 unfold zac zkh at h
 simp only[aG]at h
 exact zau.1 h.2.1 i (Nat.zero_le _) (by omega)
def zae (r:Repo)(i:Nat):List Int:=(r.Commits.getD i noCommit).Parents
theorem zaT {r:Repo}(h:zac r=true){i:Nat}(hi:i<r.Commits.length):(zae r i).length<=2 /\ ∀ p∈zae r i,0<=p/\p<=(i:Int)-1:=by
 have:=zeY h hi
 unfold zjE at this
 simp only[aG,decide_eq_true_eq,List.all_eq_true]at this
 obtain⟨h1,h2,_⟩:=this
 refine⟨by unfold zae;omega,fun p hp=>?_⟩
 have:=h1 p hp
 unfold upB at this
 simp only[aG,decide_eq_true_eq]at this
 exact this
theorem zjk {r:Repo}{i:Nat}(hi:i<r.Commits.length):gi r.Commits (i:Int)=some (r.Commits.getD i noCommit):=by
 rw[zdf (aB hi)]
 exact zaf (aB hi)
theorem zfj {r:Repo}(h:zac r=true){x:Head}(hx:x∈r.Heads):0<=x.At/\x.At<=(r.Commits.length:Int)-1/\zaN x.Name=true:=by
 obtain⟨i,hi⟩:=List.mem_iff_getElem?.1 hx
 unfold zac zdK at h
 simp only[aG]at h
 have:=zau.1 h.2.2.1 i (Nat.zero_le _) (by have:=zaP hi;omega)
 unfold zfW upB at this
 rw[zcD hi]at this
 simp only[aG,decide_eq_true_eq]at this
 exact⟨this.2.1.1,this.2.1.2,this.1⟩
theorem at_range {r:Repo}(h:zac r=true)(n:Str):atB r n = -1\/(0<=atB r n/\atB r n<=(r.Commits.length:Int)-1):=by
 unfold atB
 cases hf:r.Heads.find? (fun h=>h.Name==n)with
 |none=>exact .inl rfl
 |some x=>
  have:=zfj h (List.mem_of_find?_eq_some hf)
  exact .inr ⟨this.1,this.2.1⟩
def zlE (mk:List Bool)(p:Int):List Bool:=mk.set p.toNat true
theorem zih (mk:List Bool)(p:Int):(zlE mk p).length=mk.length:=by simp[zlE]
theorem zhM: ∀ (ps:List Int) (mk:List Bool),(ps.foldl zlE mk).length=mk.length
 | [],mk=>rfl
 |p::ps,mk=>by rw[List.foldl_cons,zhM ps,zih]
def zkW (r:Repo)(i:Nat)(mk:List Bool):List Bool:=bif mk.getD i false then(zae r i).foldl zlE mk else mk
theorem zg3 (r:Repo)(i:Nat)(mk:List Bool):(zkW r i mk).length=mk.length:=by
 unfold zkW
 cases mk.getD i false
 ·rfl
 ·exact zhM _ _
def zfr (r:Repo):Nat->List Bool->List Bool
 |0,mk=>mk
 |i+1,mk=>zfr r i (zkW r i mk)
theorem zg4 (r:Repo): ∀ (i:Nat) (mk:List Bool),(zfr r i mk).length=mk.length
 |0,mk=>rfl
 |i+1,mk=>by unfold zfr;rw[zg4 r i,zg3]
def zct (r:Repo)(a:Nat):List Bool:=zfr r (a+1) ((List.replicate r.Commits.length false).set a true)
theorem zdN (r:Repo)(a:Nat):(zct r a).length=r.Commits.length:=by unfold zct;rw[zg4];simp
def zlJ (mk:List Bool):List Int:=((List.range mk.length).filter fun i=>mk.getD i false).map Int.ofNat
def zaF (r:Repo)(a:Int):List Int:=zlJ (zct r a.toNat)
theorem zgU {mk:List Bool}{i:Nat}(h:i<mk.length):gi mk (i:Int)=some (mk.getD i false):=by
 have hx:mk[i]? =some mk[i]:=aB h
 rw[zaf hx]
 simp[List.getD,hx]
theorem zkX {mk:List Bool}{p:Int}{i:Nat}(h:mk.getD i false=true):(zlE mk p).getD i false=true:=by
 unfold zlE
 by_cases e:p.toNat=i
 ·subst e
  have hl:p.toNat<mk.length:=by
   rcases Nat.lt_or_ge p.toNat mk.length with h1 |h1
   ·exact h1
   ·rw[List.getD,List.getElem?_eq_none (by omega)]at h;simp at h
  simp[List.getD,hl]
 ·simp only[List.getD,List.getElem?_set_ne e]at h ⊢
  exact h
theorem znb {r:Repo}(h:zac r=true){i:Nat}(hi:i<r.Commits.length){F:List Bool->Option (List Int)}: ∀ (j k m:Nat) (mk:List Bool),k+j=(zae r i).length->j<m->mk.length=r.Commits.length->
 zcy r (i:Int) (fun _ y27=>F y27) m (k:Int) mk=F (bif mk.getD i false then((zae r i).drop k).foldl zlE mk else mk)
 |j,k,0,mk,_,hm,_=>by omega
 |0,k,m+1,mk,hk,_,hl=>by
  obtain rfl:k=(zae r i).length:=by omega
  have e:(r.Commits.getD i noCommit).Parents=zae r i:=rfl
  simp only[zcy,jn,zjk hi,aA,e,zai,aC,List.drop_length,List.foldl_nil]
  cases mk.getD i false<;>rfl
 |j+1,k,m+1,mk,hk,hm,hl=>by
  have hlt:k< (zae r i).length:=by omega
  have hx:(zae r i)[k]? =some (zae r i)[k]:=aB hlt
  obtain⟨hs,hp⟩:=zaT h hi
  obtain⟨p0,p1⟩:=hp _ (List.getElem_mem hlt)
  have e:(r.Commits.getD i noCommit).Parents=zae r i:=rfl
  have hn:(((zae r i)[k].toNat:Nat):Int)=(zae r i)[k]:=by omega
  have hg:gi mk (zae r i)[k]=some (mk.getD (zae r i)[k].toNat false):=by
   rw[<- hn]
   exact zgU (by omega)
  have hsi:siM mk (zae r i)[k] true=some (zlE mk (zae r i)[k]):=by
   have:=zfu (xs:=mk) (i:=(zae r i)[k].toNat) (by omega) true
   rw[hn]at this
   exact this
  simp only[zcy,jn,zjk hi,aA,e,zat hx,aD,zgU (show i<mk.length by omega),zaf hx,hg,hsi]
  cases hb:mk.getD i false with
  |false=>rfl
  |true=>
   rw[aD,aD,zag hlt (by unfold maxi;omega),znb h hi j (k+1) m _ (by omega) (by omega) (by rw[zih];exact hl),zkX hb,aD,aI hlt,List.foldl_cons]
theorem znc {r:Repo}(h:zac r=true){F:List Bool->Option (List Int)}: ∀ (i m:Nat) (mk:List Bool),i<=r.Commits.length->i<m->mk.length=r.Commits.length->
 zbJ r (fun _ y=>F y) m ((i:Int)-1) mk=F (zfr r i mk)
 |i,0,mk,_,hm,_=>by omega
 |0,m+1,mk,_,_,_=>by
  simp only[zbJ]
  rw[aE (by omega)]
  rfl
 |i+1,m+1,mk,hi,hm,hl=>by
  have hs:=(zah h).1
  have e:(((i+1:Nat):Int))-1=(i:Int):=by omega
  simp only[zbJ,jn,e]
  rw[aF (by omega),aD]
  have hp:=(zaT h (show i<r.Commits.length by omega)).1
  have h2:=znb h (show i<r.Commits.length by omega) (F:=fun y27=>zbJ r (fun _ y=>F y) m (w64 ((i:Int)-1)) y27) (zae r i).length 0 4 mk (by omega) (by omega) hl
  refine(h2).trans ?_
  rw[ze5 (show i<=maxi by unfold maxi;omega)]
  refine(znc h i m _ (by omega) (by omega) ?_).trans rfl
  have:=zg3 r i mk
  unfold zkW at this
  rw[List.drop_zero,this]
  exact hl
theorem zkY {mk:List Bool}(hl:mk.length<=1000): ∀ (k i m:Nat) (out:List Int),i+k=mk.length->k<m->out.length<=i->
 zbI mk (fun y69 _=>some y69) m out (i:Int)=some (out++((List.range' i k).filter fun i=>mk.getD i false).map Int.ofNat)
 |k,i,0,out,_,hm,_=>by omega
 |0,i,m+1,out,hi,_,_=>by
  obtain rfl:i=mk.length:=by omega
  simp only[zbI,zai,aC]
  simp
 |k+1,i,m+1,out,hi,hm,ho=>by
  have hlt:i<mk.length:=by omega
  have hx:mk[i]? =some mk[i]:=aB hlt
  simp only[zbI,jn,zat hx,aD,zgU hlt,aA,zag hlt (show mk.length<=maxi by unfold maxi;omega),ap1 (x:=(i:Int)) (show out.length<=1048576 by omega)]
  rw[List.range'_succ,List.filter_cons]
  cases hb:mk.getD i false with
  |true=>
   rw[aD,zkY hl k (i+1) m _ (by omega) (by omega) (by simp;omega),if_pos rfl]
   simp
  |false=>
   rw[aC,zkY hl k (i+1) m _ (by omega) (by omega) (by omega),if_neg (by simp)]
theorem zfk {r:Repo}(h:zac r=true){a:Int}(h0:0<=a)(h1:a<=(r.Commits.length:Int)-1):zdi r a=some (zaF r a):=by
 have hs:=(zah h).1
 obtain⟨n,rfl⟩:=Int.eq_ofNat_of_zero_le h0
 have hn:n<r.Commits.length:=by omega
 have hl:(List.replicate r.Commits.length false).length=r.Commits.length:=by simp
 unfold zdi
 rw[zo3 (by simp[lim];omega),aA,zgU (by rw[hl];exact hn),aA,zfu (by rw[hl];exact hn),aA]
 simp only[jn,zaA]
 have e:=znc h (F:=fun y18=>zbI y18 (fun y69 _=>some y69) (y18.length+1) ([]:List Int) 0) (n+1) (((n:Int)+1-0).toNat+1) ((List.replicate r.Commits.length false).set n true) (by omega) (by omega) (by simp)
 rw[show(((n+1:Nat):Int))-1=(n:Int) by omega]at e
 refine e.trans ?_
 have hml:=zdN r n
 unfold zct at hml
 have e3:=zkY (mk:=zfr r (n+1) ((List.replicate r.Commits.length false).set n true)) (by omega) r.Commits.length 0 (r.Commits.length+1) [] (by omega) (by omega) (by simp)
 rw[hml]
 refine e3.trans ?_
 unfold zaF zlJ zct
 rw[Int.toNat_natCast,hml,List.range_eq_range']
 rfl
theorem za4 {r:Repo}{a x:Int}(h:x∈zaF r a):0<=x/\x<=(r.Commits.length:Int)-1:=by
 unfold zaF zlJ at h
 rw[zdN]at h
 obtain⟨i,hi,rfl⟩:=List.mem_map.1 h
 have:=List.mem_range.1 (List.mem_filter.1 hi).1
 constructor
 ·exact Int.natCast_nonneg i
 ·show(i:Int)<=_;omega
theorem zde (r:Repo)(a:Int):(zaF r a).length<=r.Commits.length:=by
 unfold zaF zlJ
 rw[zdN,List.length_map]
 exact Nat.le_trans (List.length_filter_le _ _) (by simp)
def zeS (l:List Int)(n:Int):Bool:=l.any fun x=>x==n
theorem zf4 {l:List Int}(hl:l.length<=1000000)(n:Int):zdT l n=some (zeS l n):=by
 unfold zdT zeS
 simp only[jn,zaA]
 rw[zgn (p:=fun x:Int=>x==n) (xs:=l) (r:=fun _=>some true) (Z:=some false) (f:=fun m k=>zcz l n _ m false k) (fun m i x hx=>by
  simp only[zcz,zat hx,zaf hx,aD,aA,zag (zaP hx) (show l.length<=maxi by unfold maxi;omega)]) (fun m=>by simp only[zcz,zai,aC]) (by omega)]
 cases hf:l.find? (fun x=>x==n)with
 |some x=>
  have:l.any (fun x=>x==n)=true:=List.any_eq_true.2 ⟨x,List.mem_of_find?_eq_some hf,by simpa using List.find?_some hf⟩
  rw[this]
 |none=>
  have:l.any (fun x=>x==n)=false:=by
   rw[List.any_eq_false]
   intro x hx
   have:=List.find?_eq_none.1 hf x hx
   simpa using this
  rw[this]
def zkZ (r:Repo)(l:List Int)(i:Nat):Bool:=zfJ (fun k=>((k:Int)==(i:Int)) || !zeS (zaF r (l.getD k 0)) (l.getD i 0)) 0 l.length
def zki (p:Nat->Bool)(l:List Int):List Int:=((List.range l.length).filter p).map fun i=>l.getD i 0
def zeq (r:Repo)(a b:Int):List Int:=(zaF r a).filter (zeS (zaF r b))
def za7 (r:Repo)(a b:Int):List Int:=zki (zkZ r (zeq r a b)) (zeq r a b)
theorem zgw {l:List Int}{i:Nat}(h:i<l.length):gi l (i:Int)=some (l.getD i 0):=by
 rw[zdy (aB h)]
 exact zaf (aB h)
theorem zjl {r:Repo}(h:zac r=true){l:List Int}(hl:l.length<=1000)(hm: ∀ x∈l,0<=x/\x<=(r.Commits.length:Int)-1){i:Nat}(hi:i<l.length){F:Bool->Option (List Int)}: ∀ (n k m:Nat) (b:Bool),k+n=l.length->n<m->
 za8 r l (i:Int) (fun y _=>F y) m b (k:Int)=F (b&&zfJ (fun k=>((k:Int)==(i:Int)) || !zeS (zaF r (l.getD k 0)) (l.getD i 0)) k n)
 |n,k,0,b,_,hm'=>by omega
 |0,k,m+1,b,hk,_=>by
  obtain rfl:k=l.length:=by omega
  simp only[za8,zai,aC,zfJ,Bool.and_true]
 |n+1,k,m+1,b,hk,hm'=>by
  have hlt:k<l.length:=by omega
  have hx:l[k]? =some l[k]:=aB hlt
  have hs:=(zah h).1
  obtain⟨q0,q1⟩:=hm _ (List.getElem_mem hlt)
  have hal:=zde r l[k]
  have ih:=fun b=>zjl h hl hm hi (F:=F) n (k+1) m b (by omega) (by omega)
  simp only[za8,zat hx,aD,zag hlt (show l.length<=maxi by unfold maxi;omega),zaf hx,zgw hi,aA,zfk h q0 q1,zf4 (show(zaF r l[k]).length<=1000000 by omega),ih,zfJ,zdy hx]
  cases b<;>cases((k:Int)==(i:Int))<;>simp
theorem zhm {r:Repo}(h:zac r=true){l:List Int}(hl:l.length<=1000)(hm: ∀ x∈l,0<=x/\x<=(r.Commits.length:Int)-1): ∀ (k i m:Nat) (out:List Int),i+k=l.length->k<m->out.length<=i->
 zaH r l (fun y _=>some y) m out (i:Int)=some (out++((List.range' i k).filter (zkZ r l)).map fun i=>l.getD i 0)
 |k,i,0,out,_,hm',_=>by omega
 |0,i,m+1,out,hi,_,_=>by
  obtain rfl:i=l.length:=by omega
  simp only[zaH,zai,aC]
  simp
 |k+1,i,m+1,out,hi,hm',ho=>by
  have hlt:i<l.length:=by omega
  have hx:l[i]? =some l[i]:=aB hlt
  have h3:=zjl h hl hm hlt (F:=fun y104=>bif y104 then((gi l (i:Int)).bind fun u151=>(apM out [u151]).bind fun q160=>zaH r l (fun y _=>some y) m q160 (w64 ((i:Int)+1))) else zaH r l (fun y _=>some y) m out (w64 ((i:Int)+1))) l.length 0 (l.length+1) true (by omega) (by omega)
  simp only[zaH,jn,zat hx,aD,zaA]
  refine h3.trans ?_
  rw[Bool.true_and,List.range'_succ,List.filter_cons,zag hlt (show l.length<=maxi by unfold maxi;omega)]
  show(bif zkZ r l i then _ else _)=_
  cases hb:zkZ r l i with
  |true=>
   rw[aD,zaf hx,aA,ap1 (show out.length<=1048576 by omega),aA,zhm h hl hm k (i+1) m _ (by omega) (by omega) (by simp;omega),if_pos rfl]
   simp[hx]
  |false=>
   rw[aC,zhm h hl hm k (i+1) m _ (by omega) (by omega) (by omega),if_neg (by simp)]
theorem zjP {r:Repo}(h:zac r=true){a b:Int}(ha:0<=a)(ha':a<=(r.Commits.length:Int)-1)(hb:0<=b)(hb':b<=(r.Commits.length:Int)-1):zdY r a b=some (za7 r a b):=by
 have hs:=(zah h).1
 have la:=zde r a
 have lb:=zde r b
 unfold zdY
 rw[zfk h ha ha',aA,zfk h hb hb',aA]
 simp only[jn,zaA]
 have hl:(zeq r a b).length<=1000:=Nat.le_trans (List.length_filter_le _ _) (by omega)
 have hm: ∀ x∈zeq r a b,0<=x/\x<=(r.Commits.length:Int)-1:=fun x hx=>za4 (List.mem_filter.1 hx).1
 rw[zev (xs:=zaF r a) (p:=zeS (zaF r b)) (g:=fun x:Int=>x) (Z:=fun acc=>zaH r acc (fun y _=>some y) (acc.length+1) ([]:List Int) 0) (f:=fun m acc i=>zbz (zaF r a) (zaF r b) _ m acc i) (fun m i x acc hx hacc=>by
  have hi:=zaP hx
  simp only[zbz,jn,zat hx,zaf hx,aD,aA,zag hi (show(zaF r a).length<=maxi by unfold maxi;omega),zf4 (show(zaF r b).length<=1000000 by omega),ap1 (show acc.length<=1048576 by omega)]
  cases zeS (zaF r b) x<;>rfl) (fun m acc=>by simp only[zbz,zai,aC]) (by omega)]
 have e:((zaF r a).filter (zeS (zaF r b))).map (fun x=>x)=zeq r a b:=by simp[zeq]
 rw[e]
 have:=zhm h hl hm (zeq r a b).length 0 ((zeq r a b).length+1) [] (by omega) (by omega) (by simp)
 refine this.trans ?_
 unfold za7 zki
 rw[List.range_eq_range']
 rfl
theorem zjm {r:Repo}{a b x:Int}(h:x∈za7 r a b):0<=x/\x<=(r.Commits.length:Int)-1:=by
 unfold za7 zki at h
 obtain⟨i,hi,rfl⟩:=List.mem_map.1 h
 have hr:=List.mem_range.1 (List.mem_filter.1 hi).1
 rw[zdy (aB hr)]
 exact za4 (List.mem_filter.1 (List.getElem_mem hr)).1
theorem zk0 (r:Repo)(a b:Int):(za7 r a b).length<=r.Commits.length:=by
 unfold za7 zki
 rw[List.length_map]
 refine Nat.le_trans (List.length_filter_le _ _) ?_
 rw[List.length_range]
 exact Nat.le_trans (List.length_filter_le _ _) (zde r a)
def ziM (s:List Str)(p:Part):Option (List Str):=bif p.Clash then none else some (s++p.Lines)
def zeT (ps:List Part):List Str×Bool:=match ps.foldlM ziM []with
 |some s=>okT s
 |none=>([],false)
theorem zk1 {i:Nat}{s s':List Str}{p:Part}(hp:p.Lines.length<=22000)(hpl: ∀ x∈p.Lines,zdk x=true)(hI:zp5 i s)(hst:ziM s p=some s'):zp5 (i+1) s':=by
 unfold ziM at hst
 cases hc:p.Clash with
 |true=>rw[hc]at hst;cases hst
 |false=>
  rw[hc,aC]at hst
  cases hst
  refine⟨by rw[List.length_append];have:=hI.1;omega,fun x hx=>?_⟩
  rcases List.mem_append.1 hx with h1 |h1
  ·exact hI.2 x h1
  ·exact hpl x h1
theorem zk2 {o a b:List Str}(hto:zao o=true)(hta:zao a=true)(htb:zao b=true):zeA (zbq o a b)=some (zeT (zbq o a b)):=by
 obtain⟨hlen,hparts⟩:=zi9 hto hta htb
 unfold zeA zeT
 simp only[jn,zaA]
 obtain⟨h1,h2⟩:=zjJ (xs:=zbq o a b) (step:=ziM) (r0:=some (([]:List Str),false)) (Inv:=zp5) (s0:=[]) (Z:=fun s=>(zcW s).bind fun z30=>bif(!z30) then(some (([]:List Str),false)) else(some (s,true))) (f:=fun m s i=>zbY (zbq o a b) (fun _ _ y7 _=>(zcW y7).bind fun z30=>bif(!z30) then(some (([]:List Str),false)) else(some (y7,true))) m [] false s i) (fun m i p s hx hI=>by
  have hi:=zaP hx
  obtain⟨p1,p2,_⟩:=hparts p (aH hx)
  refine⟨?_,fun s' hst=>zk1 p1 p2 hI hst⟩
  have hs:=hI.1
  simp only[zbY,zat hx,zaf hx,aD,aA,zag hi (show(zbq o a b).length<=maxi by unfold maxi;omega),apT (show s.length<=1000000 by omega) (show p.Lines.length<=1000000 by omega)]
  unfold ziM
  cases p.Clash<;>rfl) (fun m s hI=>by simp only[zbY,zai,aC]) (m:=(zbq o a b).length+1) (by omega) ⟨by simp,by simp⟩
 refine h1.trans ?_
 cases hf:(zbq o a b).foldlM ziM []with
 |none=>rfl
 |some s=>
  have hI:=h2 s hf
  have hs:=hI.1
  show(zcW s).bind _=some (okT s)
  rw[ziA (zc9 (by omega) hI.2),aA]
  unfold okT
  cases zao s<;>rfl
theorem zk3 {ps:List Part}:(zeT ps).2=true->zao (zeT ps).1=true:=by
 unfold zeT okT
 cases ps.foldlM ziM []with
 |none=>intro h;cases h
 |some s=>
  show(bif zao s then(s,true) else(([]:List Str),false)).2=true->zao (bif zao s then(s,true) else(([]:List Str),false)).1=true
  cases ht:zao s with
  |true=>intro _;exact ht
  |false=>intro h;cases h
def getT (t:List File)(p:Str):List Str×Bool:=match t.find? (fun f=>f.Path==p)with
 |some f=>(f.Text,true)
 |none=>([],false)
theorem zhn {t:List File}(h:TB t)(p:Str):zei t p=some (getT t p):=by
 have hm:=h.maxi
 unfold zei getT
 simp only[jn,zaA]
 rw[zgn (p:=fun f:File=>f.Path==p) (xs:=t) (r:=fun f=>some (f.Text,true)) (Z:=some (([]:List Str),false)) (f:=fun m k=>zcB t p _ m [] false k) (fun m i x hx=>by
  simp only[zcB,zat hx,zaf hx,aD,aA,zag (zaP hx) hm]) (fun m=>by simp only[zcB,zai,aC]) (by omega)]
 cases t.find? (fun f=>f.Path==p)<;>rfl
theorem zjQ {t:List File}(h:TB t)(p:Str):(getT t p).1.length<=1048576/\Bk.fit (getT t p).1:=by
 unfold getT
 cases hf:t.find? (fun f=>f.Path==p)with
 |some f=>
  have:=h.2 f (List.mem_of_find?_eq_some hf)
  exact⟨this.len,this.text⟩
 |none=>exact⟨by simp,by simp[maxi],by simp⟩
def za3 (t:List File):Prop:= ∀ f∈t,zao f.Text=true
theorem zda {t:List File}(h:za3 t)(p:Str):zao (getT t p).1=true:=by
 unfold getT
 cases hf:t.find? (fun f=>f.Path==p)with
 |some f=>exact h f (List.mem_of_find?_eq_some hf)
 |none=>rfl
def zfX (a b:List Str×Bool):Bool:=(a.2==b.2)&&(bif a.2 then a.1==b.1 else true)
theorem zhN {a b:List Str×Bool}(h:a.1.length<=1048576):zdB a.1 a.2 b.1 b.2=some (zfX a b):=by
 unfold zdB zfX
 simp only[jn,zfd (zaG h),aA]
 cases a.2<;>cases b.2<;>rfl
def oneF (o a b:List File)(p:Str):List Str×Bool×Int:=
 let zo:=getT o p;let za:=getT a p;let zb:=getT b p
 bif zfX za zo||zfX za zb then(zb.1,zb.2,0)
 else bif zfX zb zo then(za.1,za.2,0)
 else bif !za.2 || !zb.2 then(zo.1,zo.2,1)
 else bif !zo.2 then([],false,2)
 else bif(zeT (zbq zo.1 za.1 zb.1)).2 then((zeT (zbq zo.1 za.1 zb.1)).1,true,0) else(zo.1,true,3)
theorem zmt {o a b:List File}(ho:TB o)(ha:TB a)(hb:TB b)(to:za3 o)(ta:za3 a)(tb:za3 b)(p:Str):zfa o a b p=some (oneF o a b p):=by
 have eo:=zda to p
 have ea:=zda ta p
 have eb:=zda tb p
 have lo:=zaj eo
 have la:=zaj ea
 have lb:=zaj eb
 unfold zfa oneF
 simp only[jn,zhn ho,zhn ha,zhn hb,aA,zhN (a:=getT a p) (zjQ ha p).1,zhN (a:=getT b p) (zjQ hb p).1,zn8 (show(getT o p).1.length<=1000 by omega) (show(getT a p).1.length<=1000 by omega) (show(getT b p).1.length<=1000 by omega),zk2 eo ea eb]
 cases zfX (getT a p) (getT o p)<;>cases zfX (getT a p) (getT b p)<;>cases zfX (getT b p) (getT o p)<;>cases(getT a p).2<;>cases(getT b p).2<;>cases(getT o p).2<;>cases(zeT (zbq (getT o p).1 (getT a p).1 (getT b p).1)).2<;>rfl
theorem zhO {o a b:List File}(to:za3 o)(ta:za3 a)(tb:za3 b)(p:Str):zao (oneF o a b p).1=true:=by
 have eo:=zda to p
 have ea:=zda ta p
 have eb:=zda tb p
 unfold oneF
 simp only
 cases zfX (getT a p) (getT o p)||zfX (getT a p) (getT b p)with
 |true=>exact eb
 |false=>
  cases zfX (getT b p) (getT o p)with
  |true=>exact ea
  |false=>
   cases !(getT a p).2 || !(getT b p).2 with
   |true=>exact eo
   |false=>
    cases !(getT o p).2 with
    |true=>rfl
    |false=>
     cases hl:(zeT (zbq (getT o p).1 (getT a p).1 (getT b p).1)).2 with
     |true=>exact zk3 hl
     |false=>exact eo
def zdO (o a b:List File):List Str:=(b.map (·.Path)).foldl zfM ((a.map (·.Path)).foldl zfM ((o.map (·.Path)).foldl zfM []))
theorem zeW: ∀ (ps:List Str) (l:List Str),Asd l->Asd (ps.foldl zfM l)
 | [],l,h=>h
 |p::ps,l,h=>zeW ps _ (zeo _ _)
theorem zdP: ∀ (ps:List Str) (l:List Str),(ps.foldl zfM l).length<=l.length+ps.length
 | [],l=>by simp
 |p::ps,l=>by
  have h1:=zdP ps (zfM l p)
  have h2:=zfH l p
  simp only[List.foldl_cons,aL]
  omega
theorem zfl: ∀ (ps:List Str) (l:List Str) (x:Str),x∈ps.foldl zfM l↔x∈l\/x∈ps
 | [],l,x=>by simp
 |p::ps,l,x=>by
  rw[List.foldl_cons,zfl ps,insS_mem,List.mem_cons]
  constructor
  ·rintro((h |h) |h)
   ·exact .inl h
   ·exact .inr (.inl h)
   ·exact .inr (.inr h)
  ·rintro(h |h |h)
   ·exact .inl (.inl h)
   ·exact .inl (.inr h)
   ·exact .inr h
theorem zeK {t:List File} (h:TB t) (ht:t.length<=1000) {f:Nat->List Str->Int->Option (List Str)} {Z:List Str->Option (List Str)}
 (hs: ∀ m (i:Nat) x acc,t[i]? =some x->f (m+1) acc (i:Int)=(zdj acc x.Path).bind fun z=>f m z (w64 ((i:Int)+1))) (he: ∀ m acc,f (m+1) acc (t.length:Int)=Z acc): ∀ (k i m:Nat) (acc:List Str),i+k=t.length->k<m->Asd acc->acc.length<=10000+i->
 f m acc (i:Int)=Z (((t.drop i).map (·.Path)).foldl zfM acc)
 |k,i,0,acc,_,hm,_,_=>by omega
 |0,i,m+1,acc,hi,_,_,_=>by
  obtain rfl:i=t.length:=by omega
  rw[he,List.drop_length];rfl
 |k+1,i,m+1,acc,hi,hm,ha,hl=>by
  have hlt:i<t.length:=by omega
  have hx:t[i]? =some t[i]:=aB hlt
  have hil:=zfH acc t[i].Path
  rw[hs m i _ acc hx,zmn (by omega) ha,aA,zag hlt h.maxi,zeK h ht hs he k (i+1) m _ (by omega) (by omega) (zeo _ _) (by omega),aI hlt]
  rfl
theorem zjR {o a b:List File}(ho:TB o)(ha:TB a)(hb:TB b)(so:o.length<=100)(sa:a.length<=100)(sb:b.length<=100):zdZ o a b=some (zdO o a b):=by
 unfold zdZ zdO
 simp only[jn,zaA]
 have l1:=zdP (o.map (·.Path)) []
 have l2:=zdP (a.map (·.Path)) ((o.map (·.Path)).foldl zfM [])
 have a0:Asd ([]:List Str):=List.Pairwise.nil
 have a1:=zeW (o.map (·.Path)) [] a0
 have a2:=zeW (a.map (·.Path)) _ a1
 simp only[List.length_map,List.length_nil]at l1 l2
 have e3:=fun acc (h1:Asd acc) (h2:acc.length<=10000)=>zeK hb (by omega) (f:=fun m acc i=>zaz b (fun y40 _=>some y40) m acc i) (Z:=fun acc=>some acc) (fun m i x acc hx=>by simp only[zaz,zat hx,zaf hx,aD,aA]) (fun m acc=>by simp only[zaz,zai,aC]) b.length 0 (b.length+1) acc (by omega) (by omega) h1 (by omega)
 have e2:=fun acc (h1:Asd acc) (h2:acc.length<=10000)=>zeK ha (by omega) (f:=fun m acc i=>zaW a (fun y23 _=>zaz b (fun y40 _=>some y40) (b.length+1) y23 0) m acc i) (Z:=fun acc=>zaz b (fun y40 _=>some y40) (b.length+1) acc 0) (fun m i x acc hx=>by simp only[zaW,zat hx,zaf hx,aD,aA]) (fun m acc=>by simp only[zaW,zai,aC]) a.length 0 (a.length+1) acc (by omega) (by omega) h1 (by omega)
 have e1:=fun acc (h1:Asd acc) (h2:acc.length<=10000)=>zeK ho (by omega) (f:=fun m acc i=>zbA o (fun y6 _=>zaW a (fun y23 _=>zaz b (fun y40 _=>some y40) (b.length+1) y23 0) (a.length+1) y6 0) m acc i) (Z:=fun acc=>zaW a (fun y23 _=>zaz b (fun y40 _=>some y40) (b.length+1) y23 0) (a.length+1) acc 0) (fun m i x acc hx=>by simp only[zbA,zat hx,zaf hx,aD,aA]) (fun m acc=>by simp only[zbA,zai,aC]) o.length 0 (o.length+1) acc (by omega) (by omega) h1 (by omega)
 refine(e1 [] a0 (by simp)).trans ?_
 rw[List.drop_zero]
 refine(e2 _ a1 (by omega)).trans ?_
 rw[List.drop_zero]
 refine(e3 _ a2 (by omega)).trans ?_
 rw[List.drop_zero]
theorem zg5 (o a b:List File):(zdO o a b).length<=o.length+a.length+b.length:=by
 unfold zdO
 have l1:=zdP (o.map (·.Path)) []
 have l2:=zdP (a.map (·.Path)) ((o.map (·.Path)).foldl zfM [])
 have l3:=zdP (b.map (·.Path)) ((a.map (·.Path)).foldl zfM ((o.map (·.Path)).foldl zfM []))
 simp only[List.length_map,List.length_nil]at l1 l2 l3
 omega
theorem pathsF_mem {o a b:List File}{x:Str}:x∈zdO o a b↔ (∃ f∈o,f.Path=x)\/(∃ f∈a,f.Path=x)\/(∃ f∈b,f.Path=x):=by
 unfold zdO
 rw[zfl,zfl,zfl]
 simp only[List.mem_map,List.not_mem_nil,false_or]
 constructor
 ·rintro((h |h) |h)
  ·exact .inl h
  ·exact .inr (.inl h)
  ·exact .inr (.inr h)
 ·rintro(h |h |h)
  ·exact .inl (.inl h)
  ·exact .inl (.inr h)
  ·exact .inr h
def ziN (o a b:List File)(p:Str):Option File:=bif(oneF o a b p).2.1 then some ⟨p,(oneF o a b p).1⟩ else none
def zhP (o a b:List File)(p:Str):Option Clash:=bif decide (0< (oneF o a b p).2.2) then some ⟨p,(oneF o a b p).2.2⟩ else none
def zfs (o a b:List File):List File:=(zdO o a b).filterMap (ziN o a b)
def zf0 (o a b:List File):List Clash:=(zdO o a b).filterMap (zhP o a b)
theorem zhQ {o a b:List File}(ho:TB o)(ha:TB a)(hb:TB b)(to:za3 o)(ta:za3 a)(tb:za3 b){ps:List Str}(hp:ps.length<=1000): ∀ (k i m:Nat) (fs:List File) (cs:List Clash),i+k=ps.length->k<m->fs.length<=i->cs.length<=i->
 zc6 o a b ps (fun y16 y19 _=>some (y16,y19)) m fs cs (i:Int)=some (fs++(ps.drop i).filterMap (ziN o a b),cs++(ps.drop i).filterMap (zhP o a b))
 |k,i,0,fs,cs,_,hm,_,_=>by omega
 |0,i,m+1,fs,cs,hi,_,_,_=>by
  obtain rfl:i=ps.length:=by omega
  simp only[zc6,zai,aC,List.drop_length]
  simp
 |k+1,i,m+1,fs,cs,hi,hm,hf,hc=>by
  have hlt:i<ps.length:=by omega
  have hx:ps[i]? =some ps[i]:=aB hlt
  have ih:=fun fs cs h1 h2=>zhQ ho ha hb to ta tb hp k (i+1) m fs cs (by omega) (by omega) h1 h2
  have ht:=zaj (zhO to ta tb ps[i])
  simp only[zc6,jn,zat hx,zaf hx,aD,aA,zag hlt (show ps.length<=maxi by unfold maxi;omega),zmt ho ha hb to ta tb,apN (show(oneF o a b ps[i]).1.length<=1048576 by omega),ap1 (x:=(⟨ps[i],(oneF o a b ps[i]).1⟩:File)) (show fs.length<=1048576 by omega),ap1 (x:=(⟨ps[i],(oneF o a b ps[i]).2.2⟩:Clash)) (show cs.length<=1048576 by omega)]
  rw[aI hlt,List.filterMap_cons,List.filterMap_cons]
  unfold ziN zhP at ih ⊢
  cases(oneF o a b ps[i]).2.1<;>cases decide (0< (oneF o a b ps[i]).2.2)<;>simp only[aD,aC]
  ·rw[ih _ _ (by omega) (by omega)]
  ·rw[ih _ _ (by omega) (by simp;omega)];simp
  ·rw[ih _ _ (by simp;omega) (by omega)];simp
  ·rw[ih _ _ (by simp;omega) (by simp;omega)];simp
theorem zoe {o a b:List File}(ho:TB o)(ha:TB a)(hb:TB b)(to:za3 o)(ta:za3 a)(tb:za3 b)(so:o.length<=100)(sa:a.length<=100)(sb:b.length<=100):zfP o a b=some (zfs o a b,zf0 o a b):=by
 have hl:=zg5 o a b
 unfold zfP
 rw[zjR ho ha hb so sa sb,aA]
 simp only[jn,zaA]
 have:=zhQ ho ha hb to ta tb (ps:=zdO o a b) (by omega) (zdO o a b).length 0 ((zdO o a b).length+1) [] [] (by omega) (by omega) (by simp) (by simp)
 refine this.trans ?_
 simp[zfs,zf0]
theorem zhR {o a b:List File}(ho:TB o)(ha:TB a)(hb:TB b)(to:za3 o)(ta:za3 a)(tb:za3 b)(so:o.length<=100)(sa:a.length<=100)(sb:b.length<=100):TB (zfs o a b):=by
 have hl:=zg5 o a b
 refine⟨Nat.le_trans (List.length_filterMap_le _ _) (by omega),fun f hf=>?_⟩
 obtain⟨p,hp,he⟩:=List.mem_filterMap.1 hf
 unfold ziN at he
 cases h2:(oneF o a b p).2.1 with
 |false=>rw[h2]at he;cases he
 |true=>
  rw[h2,aD]at he
  cases he
  have ht:=zhO to ta tb p
  have hlen:=zaj ht
  refine⟨?_,by show(oneF o a b p).1.length<=_;omega,zc9 (s:=(oneF o a b p).1) (by omega) (zaO ht)⟩
  rcases pathsF_mem.1 hp with ⟨g,hg,e⟩ |⟨g,hg,e⟩ |⟨g,hg,e⟩
  ·rw[<- e];exact(ho.2 g hg).path
  ·rw[<- e];exact(ha.2 g hg).path
  ·rw[<- e];exact(hb.2 g hg).path
def zd8 (o a b:List File):List File×List Clash:=bif((zf0 o a b).length:Int)==0 && !zay (zfs o a b) then(o,[⟨[],4⟩]) else(zfs o a b,zf0 o a b)
theorem zhS {o a b:List File}(ho:TB o)(ha:TB a)(hb:TB b)(to:za3 o)(ta:za3 a)(tb:za3 b)(so:o.length<=100)(sa:a.length<=100)(sb:b.length<=100):zea o a b=some (zd8 o a b):=by
 unfold zea zd8
 simp only[jn,zoe ho ha hb to ta tb so sa sb,aA,ze2 (zhR ho ha hb to ta tb so sa sb),zdL ho]
 cases(((zf0 o a b).length:Int)==0)<;>cases zay (zfs o a b)<;>rfl
theorem zii {o a b:List File}(ho:TB o)(ha:TB a)(hb:TB b)(to:za3 o)(ta:za3 a)(tb:za3 b)(so:o.length<=100)(sa:a.length<=100)(sb:b.length<=100):TB (zd8 o a b).1:=by
 unfold zd8
 cases(((zf0 o a b).length:Int)==0 && !zay (zfs o a b))
 ·exact zhR ho ha hb to ta tb so sa sb
 ·exact ho
theorem zax {t:List File}(h:zay t=true):za3 t:=by
 intro f hf
 obtain⟨i,hi⟩:=List.mem_iff_getElem?.1 hf
 unfold zay at h
 simp only[aG]at h
 have:=zau.1 h.2 i (Nat.zero_le _) (by have:=zaP hi;omega)
 unfold zgH zgG at this
 rw[zcO hi]at this
 simp only[aG]at this
 exact this.1.2.1
theorem zce {t:List File}(h:zay t=true){f:File}(hf:f∈t):za0 f.Path=true:=by
 obtain⟨i,hi⟩:=List.mem_iff_getElem?.1 hf
 unfold zay at h
 simp only[aG]at h
 have:=zau.1 h.2 i (Nat.zero_le _) (by have:=zaP hi;omega)
 unfold zgH zgG at this
 rw[zcO hi]at this
 simp only[aG]at this
 exact this.1.1
theorem zho (c:UInt8): ∀ (r w:Str),w.length+r.length+1=zbs (fun p=>p.length+1) (curS c w r)
 | [],w=>by simp[curS,zbs]
 |x::r,w=>by
  unfold curS
  cases x==c with
  |true=>
   rw[aD]
   have:=zho c r []
   simp only[zbs,List.length_nil,aL]at this ⊢
   omega
  |false=>
   rw[aC]
   have:=zho c r (w++[x])
   simp only[List.length_append,aL,List.length_nil]at this ⊢
   omega
theorem znd {c:Nat}: ∀ {l:List Str},(∀ p∈l,p.length+1<=c)->zbs (fun p=>p.length+1) l<=c*l.length
 | [],_=>by simp[zbs]
 |x::l,h=>by
  have h1:=h x (by simp)
  have h2:=znd (c:=c) (l:=l) (fun p hp=>h p (List.mem_cons_of_mem _ hp))
  simp only[zbs,aL,Nat.mul_add,Nat.mul_one]
  omega
theorem zcE {s:Str}(h:zaN s=true):s.length<=6:=by
 unfold zaN at h
 simp only[aG,decide_eq_true_eq]at h
 omega
theorem zdn {s:Str}(h:za0 s=true):s.length<=20:=by
 unfold za0 at h
 simp only[aG,decide_eq_true_eq,List.all_eq_true]at h
 have h1:=zho 47 s []
 have h2:=znd (c:=7) (l:=curS 47 [] s) (fun p hp=>by have:=zcE (h.2 p hp);omega)
 simp only[List.length_nil]at h1
 omega
theorem zk4 {d p:Str}(h:zbf d p=true):d.length+1<=p.length:=by
 unfold zbf at h
 have:=(List.isPrefixOf_iff_prefix.1 h).length_le
 simpa using this
def zeU (p to:Str)(acc:List File)(g:File):List File:=bif !zm7 p g then putF ⟨to++g.Path.drop p.length,g.Text⟩ false acc else acc
def zjS (t:List File)(p to:Str):List File×Bool:=
 bif zay t then(bif((((dropF p t).length:Int))==(t.length:Int)) || !za0 to then(t,false) else(bif !zay (t.foldl (zeU p to) (dropF p t))||(((t.foldl (zeU p to) (dropF p t)).length:Int) !=(t.length:Int)) then(t,false) else(t.foldl (zeU p to) (dropF p t),true))) else([],false)
theorem zk5 {p to:Str}{acc:List File}{g:File}(hg:FB g)(hp:g.Path.length<=20)(ht:to.length<=20)(ha:TB acc)(hl:acc.length<=1000):TB (zeU p to acc g)/\(zeU p to acc g).length<=acc.length+1:=by
 unfold zeU
 cases !zm7 p g
 ·exact⟨ha,by simp⟩
 ·refine⟨ha.putF (by omega) ⟨?_,hg.len,hg.text⟩,?_⟩
  ·simp only[List.length_append,List.length_drop];omega
  ·have:=zgL ⟨to++g.Path.drop p.length,g.Text⟩ acc false
   simp only[aC,aD]at this ⊢
   omega
theorem ziO {t:List File}(h:TB t)(hs:t.length<=8)(hp: ∀ f∈t,f.Path.length<=20){p to:Str}(ht:to.length<=20){K:List File->Int->Option (List File×Bool)}: ∀ (k i m:Nat) (acc:List File),i+k=t.length->k<m->TB acc->acc.length<=100+i->
 zaM t p to K m acc (i:Int)=K ((t.drop i).foldl (zeU p to) acc) (t.length:Int)/\TB ((t.drop i).foldl (zeU p to) acc)
 |k,i,0,acc,_,hm,_,_=>by omega
 |0,i,m+1,acc,hi,_,ha,_=>by
  obtain rfl:i=t.length:=by omega
  simp only[zaM,zai,aC,List.drop_length]
  exact⟨rfl,ha⟩
 |k+1,i,m+1,acc,hi,hm,ha,hl=>by
  have hlt:i<t.length:=by omega
  have hx:t[i]? =some t[i]:=aB hlt
  have hm':=List.getElem_mem hlt
  have hg:=h.at_ hx
  have hpl:=hp _ hm'
  obtain⟨i1,i2⟩:=zk5 (p:=p) (to:=to) hg hpl ht ha (by omega)
  have ih:=ziO h hs hp (p:=p) (to:=to) ht (K:=K) k (i+1) m (zeU p to acc t[i]) (by omega) (by omega) i1 (by omega)
  rw[aI hlt,List.foldl_cons]
  refine⟨?_,ih.2⟩
  rw[<- ih.1]
  simp only[zaM,jn,zat hx,zaf hx,aD,aA,zag hlt h.maxi,ziI hg.path]
  unfold zeU zm7
  have hrun:p.length<=t[i].Path.length->((slM t[i].Path (p.length:Int) (t[i].Path.length:Int)).bind fun q67=>(saM to q67).bind fun q69=>(zdS acc ⟨q69,t[i].Text⟩).bind fun z77=>zaM t p to K m z77 ((i+1:Nat):Int))=zaM t p to K m (putF ⟨to++t[i].Path.drop p.length,t[i].Text⟩ false acc) ((i+1:Nat):Int):=fun hle=>by
   have hsa:saM to (t[i].Path.drop p.length)=some (to++t[i].Path.drop p.length):=by
    unfold saM
    rw[if_pos]
    simp only[List.length_drop,lim]
    omega
   rw[zeZ hle,aA,hsa,aA,zjj (g:=⟨to++t[i].Path.drop p.length,t[i].Text⟩) ha (by omega) ⟨by simp only[List.length_append,List.length_drop];omega,hg.len,hg.text⟩,aA]
  cases he:t[i].Path==p with
  |true=>
   have e:t[i].Path=p:=by simpa using he
   have e2:(t[i].Path !=p)=false:=by rw[bne,he];rfl
   rw[e2]
   exact hrun (by rw[e];exact Nat.le_refl _)
  |false=>
   have e2:(t[i].Path !=p)=true:=by rw[bne,he];rfl
   rw[e2]
   cases hb:zbf p t[i].Path with
   |false=>rfl
   |true=>exact hrun (by have:=zk4 hb;omega)
theorem zhT {t:List File}(h:TB t)(p to:Str)(hto:to.length<=1048576):zcx t p to=some (zjS t p to):=by
 unfold zcx zjS
 rw[ze2 h,aA]
 cases htr:zay t with
 |false=>rfl
 |true=>
  have hs:=za2 htr
  rw[aK,aC,aD,zdL h,aA,zhK h,aA]
  simp only[jn,zaA,zfh hto,aA]
  cases(((dropF p t).length:Int)==(t.length:Int))with
  |true=>rfl
  |false=>
   cases hpt:za0 to with
   |false=>rfl
   |true=>
    obtain⟨e1,e2⟩:=ziO h hs (fun f hf=>zdn (zce htr hf)) (p:=p) (zdn hpt) (K:=fun y39 _=>(zco y39).bind fun z115=>bif(!z115) then(some (t,false)) else(bif((y39.length:Int) !=(t.length:Int)) then(some (t,false)) else(some (y39,true)))) t.length 0 (t.length+1) (dropF p t) (by omega) (by omega) (h.dropF p) (by have:=List.length_filter_le (zm7 p) t;unfold dropF;omega)
    rw[List.drop_zero]at e1 e2
    simp only[Bool.false_or,aK,aC,aD]
    refine e1.trans ?_
    show(zco _).bind _=_
    rw[ze2 e2,aA]
    cases zay (t.foldl (zeU p to) (dropF p t))<;>cases(((t.foldl (zeU p to) (dropF p t)).length:Int) !=(t.length:Int))<;>rfl
structure Gd (q:Prop) (r:Repo):Prop where
 rb:RpB r
 ok:zac r=true
 hd:q->r.Commits≠ []->r.Heads≠ []
abbrev Good:Repo->Prop:=Gd True
variable {q:Prop}
def zal (r:Repo)(i:Nat):List File:=(r.Commits.getD i noCommit).Tree
theorem Gd.tree {r:Repo}(h:Gd q r){i:Nat}(hi:i<r.Commits.length):TB (zal r i)/\zay (zal r i)=true/\za3 (zal r i)/\(zal r i).length<=8:=by
 have hx:r.Commits[i]? =some r.Commits[i]:=aB hi
 have h1:zay (zal r i)=true:=by
  have:=zeY h.ok hi
  unfold zjE at this
  simp only[aG]at this
  exact this.2.2.2.2
 refine⟨?_,h1,zax h1,za2 h1⟩
 unfold zal
 rw[zdf hx]
 exact(h.rb.cat hx).tree
theorem zf5:TB ([]:List File)/\zay []=true/\za3 []/\([]:List File).length<=8:=⟨TB.nil,rfl,fun f hf=>by simp at hf,by simp⟩
theorem zdg {r:Repo}{z:Int}(h0:0<=z)(h1:z<=(r.Commits.length:Int)-1):gi r.Commits z=some (r.Commits.getD z.toNat noCommit):=by
 obtain⟨n,rfl⟩:=Int.eq_ofNat_of_zero_le h0
 exact zjk (by omega)
theorem ziP (n:Str)(a:Int): ∀ (hs:List Head),zel n a false hs≠ []
 | []=>by simp[zel]
 |h::hs=>by
  unfold zel
  cases hb:Op.bytesLess h.Name n
  ·simp
  ·have:=ziP n a hs
   cases(h.Name !=n)<;>simp[this]
def zfc (n:Str)(a:Int)(h:Head):Head:=bif h.Name==n then⟨n,a⟩ else h
theorem zg6 (n:Str)(a:Int): ∀ (hs:List Head),(∀ h∈hs,h.Name≠n)->zel n a true hs=hs
 | [],_=>rfl
 |h::hs,hn=>by
  have h1:(h.Name !=n)=true:=by simpa using hn h (by simp)
  unfold zel
  rw[h1,Bool.true_or,zg6 n a hs (fun x hx=>hn x (List.mem_cons_of_mem _ hx))]
  rfl
theorem zg7 (n:Str)(a:Int): ∀ (hs:List Head),hs.Pairwise (fun x y=>x.Name<y.Name)->(∃ h∈hs,h.Name=n)->zel n a false hs=hs.map (zfc n a)
 | [],_,h=>by obtain⟨x,hx,_⟩:=h;simp at hx
 |h::hs,hp,he=>by
  obtain⟨p1,p2⟩:=List.pairwise_cons.1 hp
  unfold zel
  rw[List.map_cons]
  cases hb:Op.bytesLess h.Name n with
  |true=>
   rw[zbd]at hb
   have hlt:h.Name<n:=by simpa using hb
   have hne:h.Name≠n:=fun e=>by rw[e]at hlt;exact zas _ hlt
   have h1:(h.Name !=n)=true:=by simpa using hne
   have h2:(h.Name==n)=false:=beq_false_of_ne hne
   have ht: ∃ x∈hs,x.Name=n:=by
    obtain⟨x,hx,e⟩:=he
    rcases List.mem_cons.1 hx with e2 |e2
    ·rw[e2]at e;exact absurd e hne
    ·exact⟨x,e2,e⟩
   rw[h1]
   simp only[aK,Bool.and_false,aC,aD,List.nil_append,Bool.or_false,List.singleton_append]
   rw[zg7 n a hs p2 ht]
   unfold zfc
   rw[h2]
   rfl
  |false=>
   rw[zbd]at hb
   have hge:n<=h.Name:=zhk.1 (by simpa using hb)
   cases h2:h.Name==n with
   |true=>
    have e:h.Name=n:=by simpa using h2
    have h1:(h.Name !=n)=false:=by rw[bne,h2];rfl
    have hno: ∀ x∈hs,x.Name≠n:=fun x hx e2=>by
     have:=p1 x hx
     rw[e,e2]at this
     exact zas _ this
    rw[h1,Bool.not_false,Bool.or_true,zg6 n a hs hno]
    have hm:hs.map (zfc n a)=hs:=by
     conv=>rhs;rw[<- List.map_id hs]
     refine List.map_congr_left (fun x hx=>?_)
     unfold zfc
     rw[beq_false_of_ne (hno x hx)]
     rfl
    rw[hm]
    unfold zfc
    rw[h2]
    rfl
   |false=>
    exfalso
    have hne:n≠h.Name:=fun e=>by rw[e]at h2;simp at h2
    have hlt:=zcC hge hne
    obtain⟨x,hx,e⟩:=he
    rcases List.mem_cons.1 hx with e2 |e2
    ·rw[e2]at e;exact hne e.symm
    ·have:=p1 x e2
     rw[e]at this
     exact zas _ (zbh hlt this)
theorem zk6 {r:Repo}(h:zac r=true):r.Heads.Pairwise (fun x y=>x.Name<y.Name):=by
 unfold zac zdK at h
 simp only[aG]at h
 have hg:=zau.1 h.2.2.1
 have step: ∀ i,(hi:i+1<r.Heads.length)->(r.Heads[i]'(by omega)).Name<r.Heads[i+1].Name:=fun i hi=>by
  have:=hg (i+1) (by omega) (by omega)
  unfold zfW at this
  rw[zcD (aB hi),aF (by omega),Nat.add_sub_cancel,zcD (aB (show i<r.Heads.length by omega))]at this
  simp only[aD,aG,zbd,decide_eq_true_eq]at this
  exact this.2.2
 refine List.pairwise_iff_getElem.2 fun i j hi hj hij=>?_
 induction j with
 |zero=>omega
 |succ j ih=>
  rcases Nat.lt_or_ge i j with h1 |h1
  ·exact zbh (ih (by omega) h1) (step j hj)
  ·have:i=j:=by omega
   subst this
   exact step i hj
theorem zko {r:Repo}{n:Str}(h:0<=atB r n): ∃ x∈r.Heads,x.Name=n:=by
 unfold atB at h
 cases hf:r.Heads.find? (fun h=>h.Name==n)with
 |none=>rw[hf]at h;simp at h
 |some x=>exact⟨x,List.mem_of_find?_eq_some hf,by simpa using List.find?_some hf⟩
theorem ziQ {r:Repo}(h:zac r=true){n:Str}(ha:0<=atB r n)(b:Int):headR r n b=⟨r.Commits,r.Heads.map (zfc n b)⟩:=by
 unfold headR
 rw[zg7 n b r.Heads (zk6 h) (zko ha)]
theorem zkp {r:Repo}(h:zac r=true){n:Str}(ha:0<=atB r n){b:Int}(h0:0<=b)(h1:b<=(r.Commits.length:Int)-1):zac (headR r n b)=true:=by
 rw[ziQ h ha]
 have hh:=h
 unfold zac zdK at h ⊢
 simp only[aG,List.length_map]at h ⊢
 refine⟨h.1,h.2.1,?_,h.2.2.2⟩
 have hg:=zau.1 h.2.2.1
 refine zau.2 fun i hi0 hi=>?_
 have hil:i<r.Heads.length:=by omega
 have hx:r.Heads[i]? =some r.Heads[i]:=aB hil
 have hm: ∀ j,j<r.Heads.length->((r.Heads.map (zfc n b)).getD j ze4).Name=(r.Heads.getD j ze4).Name:=fun j hj=>by
  have hxj:r.Heads[j]? =some r.Heads[j]:=aB hj
  rw[zcD hxj,zcD (f:=zfc n b r.Heads[j]) (by rw[List.getElem?_map,hxj];rfl)]
  unfold zfc
  cases he:r.Heads[j].Name==n with
  |true=>simpa using (by simpa using he:r.Heads[j].Name=n).symm
  |false=>rfl
 have hat:upB r.Commits.length ((r.Heads.map (zfc n b)).getD i ze4).At=true:=by
  rw[zcD (f:=zfc n b r.Heads[i]) (by rw[List.getElem?_map,hx];rfl)]
  unfold zfc upB
  cases r.Heads[i].Name==n with
  |true=>simp[h0,h1]
  |false=>
   have:=zfj hh (List.getElem_mem hil)
   simp[this.1,this.2.1]
 have:=hg i hi0 (by omega)
 unfold zfW at this ⊢
 simp only[aG]at this ⊢
 refine⟨by rw[hm i hil];exact this.1,hat,?_⟩
 rw[hm i hil,hm (i-1) (by omega)]
 exact this.2.2
def zf6 (r:Repo)(a b:Int):List File:=bif((za7 r a b).length:Int)==0 then [] else zal r ((za7 r a b).getD ((za7 r a b).length-1) 0).toNat
theorem zhU {r:Repo}(h:Gd q r){a b:Int}(ha:0<=a)(ha':a<=(r.Commits.length:Int)-1)(hb:0<=b)(hb':b<=(r.Commits.length:Int)-1):zey r a b=some (zf6 r a b)/\TB (zf6 r a b)/\zay (zf6 r a b)=true:=by
 have hs:=(zah h.ok).1
 have hl:=zk0 r a b
 unfold zey zf6
 rw[zjP h.ok ha ha' hb hb',aA]
 cases hz:((za7 r a b).length:Int)==0 with
 |true=>exact⟨rfl,zf5.1,zf5.2.1⟩
 |false=>
  have hne:((za7 r a b).length:Int)≠0:=by simpa using hz
  have e:w64 (((za7 r a b).length:Int)-1)=(((za7 r a b).length-1:Nat):Int):=by rw[zar (by omega) (by omega)];omega
  have hlt:(za7 r a b).length-1< (za7 r a b).length:=by omega
  have hm:(za7 r a b).getD ((za7 r a b).length-1) 0∈za7 r a b:=by
   rw[zdy (aB hlt)];exact List.getElem_mem hlt
  obtain⟨q0,q1⟩:=zjm hm
  rw[aC,aC,e,zgw hlt,aA,zdg q0 q1,aA]
  have:=h.tree (i:=((za7 r a b).getD ((za7 r a b).length-1) 0).toNat) (by omega)
  exact⟨rfl,this.1,this.2.1⟩
def zft (r:Repo)(n:Str)(c:Commit):Repo×Int:=bif zac (addR r n c) then(addR r n c,0) else(r,5)
def zgM (r:Repo)(n who:Str)(b:Int):Repo×Int:=
 bif zeS (zaF r (atB r n)) b then(r,2)
 else bif zeS (zaF r b) (atB r n) then(headR r n b,3)
 else
  let j:=zd8 (zf6 r (atB r n) b) (zal r (atB r n).toNat) (zal r b.toNat)
  bif decide (0< (j.2.length:Int)) then(r,4) else zft r n ⟨[atB r n,b],who,j.1⟩
theorem Gd.add {r:Repo}(h:Gd q r){n:Str}{c:Commit}(hn:n.length<=1048576)(hc:CB c)(ho:zac (addR r n c)=true):Gd q (addR r n c):=by
 obtain⟨s1,s2⟩:=zah h.ok
 exact⟨h.rb.addR (by omega) (by omega) hn hc,ho,fun _ _=>ziP _ _ _⟩
theorem Gd.head {r:Repo}(h:Gd q r){n:Str}{b:Int}(hn:n.length<=1048576)(ho:zac (headR r n b)=true):Gd q (headR r n b):=by
 obtain⟨s1,s2⟩:=zah h.ok
 exact⟨h.rb.headR (by omega) hn b,ho,fun _ _=>ziP _ _ _⟩
theorem zgx {r:Repo}(h:Gd q r){n:Str}{c:Commit}(hn:n.length<=1048576)(hc:CB c):Gd q (zft r n c).1:=by
 unfold zft
 cases ho:zac (addR r n c)with
 |true=>exact h.add hn hc ho
 |false=>exact h
theorem zhV {r:Repo}(h:Gd q r){n:Str}{c:Commit}(hn:n.length<=1048576)(hc:CB c):((zcN r n c).bind fun z130=>(zbx z130).bind fun z163=>bif(!z163) then(some (r,(5:Int))) else(some (z130,0)))=some (zft r n c):=by
 obtain⟨s1,s2⟩:=zah h.ok
 rw[zjh h.rb (by omega) (by omega) n hc,aA,zcX (h.rb.addR (by omega) (by omega) hn hc),aA]
 unfold zft
 cases zac (addR r n c)<;>rfl
theorem zjT {r:Repo}(h:Gd q r){n who:Str}{b:Int}(hn:n.length<=1048576)(hw:who.length<=1048576)(ha:0<=atB r n)(hb:0<=b)(hb':b<=(r.Commits.length:Int)-1):zc7 r n who b=some (zgM r n who b)/\Gd q (zgM r n who b).1:=by
 obtain⟨s1,s2⟩:=zah h.ok
 have ha':atB r n<=(r.Commits.length:Int)-1:=by rcases at_range h.ok n with e |e<;>omega
 have l1:=zde r (atB r n)
 have l2:=zde r b
 obtain⟨e1,e2,e3⟩:=zhU h ha ha' hb hb'
 obtain⟨ta,ta2,ta3,ta4⟩:=h.tree (i:=(atB r n).toNat) (by omega)
 obtain⟨tb,tb2,tb3,tb4⟩:=h.tree (i:=b.toNat) (by omega)
 have hbs:=za2 e3
 have hj:=zii e2 ta tb (zax e3) ta3 tb3 (by omega) (by omega) (by omega)
 have hc:CB ⟨[atB r n,b],who,(zd8 (zf6 r (atB r n) b) (zal r (atB r n).toNat) (zal r b.toNat)).1⟩:=⟨by simp,hw,hj⟩
 unfold zc7 zgM
 simp only[zd7 h.rb,aA,zfk h.ok ha ha',zfk h.ok hb hb',zf4 (show(zaF r (atB r n)).length<=1000000 by omega),zf4 (show(zaF r b).length<=1000000 by omega),zgv h.rb (show r.Heads.length<=100000 by omega),zdg ha ha',zdg hb hb',e1]
 cases zeS (zaF r (atB r n)) b with
 |true=>exact⟨rfl,h⟩
 |false=>
  cases zeS (zaF r b) (atB r n)with
  |true=>exact⟨rfl,h.head hn (zkp h.ok ha hb hb')⟩
  |false=>
   simp only[aC]
   have hjoin:=zhS e2 ta tb (zax e3) ta3 tb3 (by omega) (by omega) (by omega)
   unfold zal at hjoin hc ⊢
   rw[hjoin,aA]
   cases decide (0< ((zd8 (zf6 r (atB r n) b) (r.Commits.getD (atB r n).toNat noCommit).Tree (r.Commits.getD b.toNat noCommit).Tree).2.length:Int))with
   |true=>exact⟨rfl,h⟩
   |false=>exact⟨zhV h hn hc,zgx h hn hc⟩
def zij (r:Repo)(n who:Str)(b:Int):Bool:=decide (atB r n<0)||(!zaN who || !upB r.Commits.length b)
def zjU (r:Repo)(n who:Str)(b:Int):Repo×Int:=bif zac r then(bif zij r n who b then(r,1) else zgM r n who b) else(zbr,1)
theorem zhW {r:Repo}{n who:Str}{b:Int}(h:zij r n who b=false):0<=atB r n/\0<=b/\b<=(r.Commits.length:Int)-1:=by
 unfold zij upB at h
 simp only[Bool.or_eq_false_iff,decide_eq_false_iff_not,Bool.not_eq_false',aG,decide_eq_true_eq]at h
 omega
theorem zfm {r:Repo}(h:Gd q r){n who:Str}{b:Int}(hn:n.length<=1048576)(hw:who.length<=1048576):zbj r n who b=some (zjU r n who b)/\Gd q (zjU r n who b).1:=by
 unfold zbj zjU
 have hwm:=zaG hw
 rw[zcX h.rb,aA,h.ok,aK,aC,aD]
 simp only[jn,zd7 h.rb,aA,zb9 hwm,ze0,ze5 (zaG h.rb.coms),zdM h.rb,show(⟨r.Commits,r.Heads⟩:Repo)=r from rfl]
 rw[show(decide ((0:Int)<=b)&&decide (b<=(r.Commits.length:Int)-1))=upB r.Commits.length b from rfl]
 have key:zij r n who b=false->((zc7 r n who b).bind fun z58=>some (z58.1,z58.2))=some (zgM r n who b)/\Gd q (zgM r n who b).1:=fun hbad=>by
  obtain⟨p1,p2,p3⟩:=zhW hbad
  obtain⟨q1,q2⟩:=zjT h hn hw p1 p2 p3
  rw[q1]
  exact⟨rfl,q2⟩
 unfold zij at key ⊢
 cases h1:decide (atB r n<0)with
 |true=>exact⟨rfl,h⟩
 |false=>
  cases h2:zaN who with
  |false=>exact⟨rfl,h⟩
  |true=>
   cases h3:upB r.Commits.length b with
   |false=>exact⟨rfl,h⟩
   |true=>exact key (by rw[h1,h2,h3];rfl)
def zcL (r:Repo)(i:Nat):List File:=bif((zae r i).length:Int)==0 then [] else zal r ((zae r i).getD 0 0).toNat
theorem zfA {r:Repo}(h:Gd q r){a:Int}(h0:0<=a)(h1:a<=(r.Commits.length:Int)-1):zbe r a=some (zcL r a.toNat)/\TB (zcL r a.toNat)/\zay (zcL r a.toNat)=true:=by
 have hi:a.toNat<r.Commits.length:=by omega
 obtain⟨ps,pm⟩:=zaT h.ok hi
 unfold zbe zcL
 rw[zdg h0 h1,aA]
 show(bif((zae r a.toNat).length:Int)==0 then _ else _)=_/\_
 cases hz:((zae r a.toNat).length:Int)==0 with
 |true=>exact⟨rfl,zf5.1,zf5.2.1⟩
 |false=>
  have hne:((zae r a.toNat).length:Int)≠0:=by simpa using hz
  have hlt:0< (zae r a.toNat).length:=by omega
  have hm:(zae r a.toNat).getD 0 0∈zae r a.toNat:=by
   rw[zdy (aB hlt)];exact List.getElem_mem hlt
  obtain⟨q0,q1⟩:=pm _ hm
  have hg:gi (r.Commits.getD a.toNat noCommit).Parents 0=some ((zae r a.toNat).getD 0 0):=zgw (l:=zae r a.toNat) hlt
  rw[aC,aC,aA,hg,aA,zdg q0 (by omega),aA]
  have:=h.tree (i:=((zae r a.toNat).getD 0 0).toNat) (by omega)
  exact⟨rfl,this.1,this.2.1⟩
def ze3 (r:Repo)(n who:Str)(o b:List File):Repo×Int:=
 let j:=zd8 o (zal r (atB r n).toNat) b
 bif decide (0< (j.2.length:Int)) then(r,4) else zft r n ⟨[atB r n],who,j.1⟩
theorem zg8 {r:Repo}(h:Gd q r){n who:Str}{o b:List File}(hn:n.length<=1048576)(hw:who.length<=1048576)(ha:0<=atB r n)(to:TB o)(to2:zay o=true)(tb:TB b)(tb2:zay b=true):zcb r n who o b=some (ze3 r n who o b)/\Gd q (ze3 r n who o b).1:=by
 have ha':atB r n<=(r.Commits.length:Int)-1:=by rcases at_range h.ok n with e |e<;>omega
 have hs:=(zah h.ok).1
 obtain⟨ta,ta2,ta3,ta4⟩:=h.tree (i:=(atB r n).toNat) (by omega)
 have ho:=za2 to2
 have hb:=za2 tb2
 have hj:=zii to ta tb (zax to2) ta3 (zax tb2) (by omega) (by omega) (by omega)
 have hc:CB ⟨[atB r n],who,(zd8 o (zal r (atB r n).toNat) b).1⟩:=⟨by simp,hw,hj⟩
 have hjoin:=zhS to ta tb (zax to2) ta3 (zax tb2) (by omega) (by omega) (by omega)
 unfold zcb ze3
 rw[zd7 h.rb,aA,zdg ha ha',aA]
 unfold zal at hjoin hc ⊢
 rw[hjoin,aA]
 simp only
 cases decide (0< ((zd8 o (r.Commits.getD (atB r n).toNat noCommit).Tree b).2.length:Int))with
 |true=>exact⟨rfl,h⟩
 |false=>exact⟨zhV h hn hc,zgx h hn hc⟩
def zdQ (r:Repo)(n who:Str)(b:Int):Repo×Int:=bif zac r then(bif zij r n who b then(r,1) else ze3 r n who (zcL r b.toNat) (zal r b.toNat)) else(zbr,1)
def zdE (r:Repo)(n who:Str)(b:Int):Repo×Int:=bif zac r then(bif zij r n who b then(r,1) else ze3 r n who (zal r b.toNat) (zcL r b.toNat)) else(zbr,1)
theorem zgd {r:Repo}(h:Gd q r){n who:Str}{b:Int}(hn:n.length<=1048576)(hw:who.length<=1048576):zcQ r n who b=some (zdQ r n who b)/\Gd q (zdQ r n who b).1:=by
 unfold zcQ zdQ
 have hwm:=zaG hw
 rw[zcX h.rb,aA,h.ok,aK,aC,aD]
 simp only[jn,zd7 h.rb,aA,zb9 hwm,ze0,ze5 (zaG h.rb.coms),zdM h.rb,show(⟨r.Commits,r.Heads⟩:Repo)=r from rfl]
 rw[show(decide ((0:Int)<=b)&&decide (b<=(r.Commits.length:Int)-1))=upB r.Commits.length b from rfl]
 have key:zij r n who b=false->((gi r.Commits b).bind fun u77=>(zbe r b).bind fun z82=>(zcb r n who z82 u77.Tree).bind fun z93=>some (z93.1,z93.2))=some (ze3 r n who (zcL r b.toNat) (zal r b.toNat))/\Gd q (ze3 r n who (zcL r b.toNat) (zal r b.toNat)).1:=fun hbad=>by
  obtain⟨p1,p2,p3⟩:=zhW hbad
  obtain⟨q1,q2,q3⟩:=zfA h p2 p3
  obtain⟨tb,tb2,tb3,tb4⟩:=h.tree (i:=b.toNat) (by have:=(zah h.ok).1;omega)
  obtain⟨u1,u2⟩:=zg8 h hn hw p1 q2 q3 tb tb2
  rw[zdg p2 p3,aA,q1,aA,show(r.Commits.getD b.toNat noCommit).Tree=zal r b.toNat from rfl,u1]
  exact⟨rfl,u2⟩
 unfold zij at key ⊢
 cases h1:decide (atB r n<0)with
 |true=>exact⟨rfl,h⟩
 |false=>
  cases h2:zaN who with
  |false=>exact⟨rfl,h⟩
  |true=>
   cases h3:upB r.Commits.length b with
   |false=>exact⟨rfl,h⟩
   |true=>exact key (by rw[h1,h2,h3];rfl)
theorem ze6 {r:Repo}(h:Gd q r){n who:Str}{b:Int}(hn:n.length<=1048576)(hw:who.length<=1048576):zbK r n who b=some (zdE r n who b)/\Gd q (zdE r n who b).1:=by
 unfold zbK zdE
 have hwm:=zaG hw
 rw[zcX h.rb,aA,h.ok,aK,aC,aD]
 simp only[jn,zd7 h.rb,aA,zb9 hwm,ze0,ze5 (zaG h.rb.coms),zdM h.rb,show(⟨r.Commits,r.Heads⟩:Repo)=r from rfl]
 rw[show(decide ((0:Int)<=b)&&decide (b<=(r.Commits.length:Int)-1))=upB r.Commits.length b from rfl]
 have key:zij r n who b=false->((gi r.Commits b).bind fun u77=>(zbe r b).bind fun z82=>(zcb r n who u77.Tree z82).bind fun z93=>some (z93.1,z93.2))=some (ze3 r n who (zal r b.toNat) (zcL r b.toNat))/\Gd q (ze3 r n who (zal r b.toNat) (zcL r b.toNat)).1:=fun hbad=>by
  obtain⟨p1,p2,p3⟩:=zhW hbad
  obtain⟨q1,q2,q3⟩:=zfA h p2 p3
  obtain⟨tb,tb2,tb3,tb4⟩:=h.tree (i:=b.toNat) (by have:=(zah h.ok).1;omega)
  obtain⟨u1,u2⟩:=zg8 h hn hw p1 tb tb2 q2 q3
  rw[zdg p2 p3,aA,q1,aA,show(r.Commits.getD b.toNat noCommit).Tree=zal r b.toNat from rfl,u1]
  exact⟨rfl,u2⟩
 unfold zij at key ⊢
 cases h1:decide (atB r n<0)with
 |true=>exact⟨rfl,h⟩
 |false=>
  cases h2:zaN who with
  |false=>exact⟨rfl,h⟩
  |true=>
   cases h3:upB r.Commits.length b with
   |false=>exact⟨rfl,h⟩
   |true=>exact key (by rw[h1,h2,h3];rfl)
end Go.Vm
namespace Go.Vm
open Go Go.Sx
set_option linter.unusedSimpArgs false
set_option linter.unusedVariables false
def zg9 (r:Repo)(o:Op)(z:List File×Bool):Repo×Int:=bif z.2 then(bif(zdz r o.Branch o.Who z.1).2 then((zdz r o.Branch o.Who z.1).1,0) else(r,5)) else(r,1)
theorem zhX {r:Repo}(h:Good r){n who:Str}{t:List File}(hn:n.length<=1048576)(hw:who.length<=1048576)(ht:TB t):Good (zdz r n who t).1:=by
 unfold zdz
 rw[h.ok,aD]
 cases ho:zac (addR r n (zet r n who t))with
 |true=>exact h.add hn (CB.next hw ht) ho
 |false=>exact h
theorem zfB {r:Repo}(h:Good r){o:Op}{z:List File×Bool}(hn:o.Branch.length<=1048576)(hw:o.Who.length<=1048576)(hz:TB z.1):zbc r o z.1 z.2=some (zg9 r o z)/\Good (zg9 r o z).1:=by
 unfold zbc zg9
 have hg:=zhX h hn hw hz
 rw[zgS h.rb hn hw hz,aA]
 cases z.2 with
 |false=>exact⟨rfl,h⟩
 |true=>
  cases(zdz r o.Branch o.Who z.1).2 with
  |false=>exact⟨rfl,h⟩
  |true=>exact⟨rfl,hg⟩
def zef (r:Repo)(n:Str):List File:=bif decide (0<=atB r n) then zal r (atB r n).toNat else []
def zp8 (r:Repo)(o:Op):Repo×Int:=bif(zeu r o.To (atB r o.Branch)).2 then((zeu r o.To (atB r o.Branch)).1,0) else(r,1)
def doB (r:Repo)(o:Op):Repo×Int:=
 bif o.Kind==1 then zg9 r o (zn1 (zef r o.Branch) ⟨o.Path,o.Text⟩)
 else bif o.Kind==2 then zg9 r o (zpv (zef r o.Branch) o.Path)
 else bif o.Kind==3 then zg9 r o (zjS (zef r o.Branch) o.Path o.To)
 else bif o.Kind==4 then zp8 r o
 else bif o.Kind==5 then zjU r o.Branch o.Who (atB r o.To)
 else bif o.Kind==6 then zdQ r o.Branch o.Who o.At
 else zdE r o.Branch o.Who o.At
theorem zmu {t:List File}(h:TB t)(hs:t.length<=8){g:File}(hg:FB g):TB (zn1 t g).1:=by
 unfold zn1
 cases zay t
 ·exact TB.nil
 ·cases zay (putF g false t)
  ·exact h
  ·exact h.putF (by omega) hg
theorem zof {t:List File}(h:TB t)(p:Str):TB (zpv t p).1:=by
 unfold zpv
 cases zay t
 ·exact TB.nil
 ·exact h.dropF p
theorem zmv {t:List File}(h:TB t)(p to:Str):TB (zjS t p to).1:=by
 unfold zjS
 cases htr:zay t with
 |false=>exact TB.nil
 |true=>
  rw[aD]
  cases he:((((dropF p t).length:Int))==(t.length:Int))with
  |true=>exact h
  |false=>
   cases hpt:za0 to with
   |false=>exact h
   |true=>
    have hs:=za2 htr
    obtain⟨e1,e2⟩:=ziO h hs (fun f hf=>zdn (zce htr hf)) (p:=p) (zdn hpt) (K:=fun _ _=>none) t.length 0 (t.length+1) (dropF p t) (by omega) (by omega) (h.dropF p) (by have:=List.length_filter_le (zm7 p) t;unfold dropF;omega)
    rw[List.drop_zero]at e2
    simp only[Bool.false_or,aK,aC]
    cases(!zay (t.foldl (zeU p to) (dropF p t))||(((t.foldl (zeU p to) (dropF p t)).length:Int) !=(t.length:Int)))with
    |true=>exact h
    |false=>exact e2
theorem zmw {r:Repo}(h:Good r){o:Op}(hf:OpFit o)(ho:opB o=true):zfb r o=some (doB r o)/\Good (doB r o).1:=by
 obtain⟨f0,f1,f2,f3,f4,f5,f6⟩:=hf.fit
 have hbw:zaN o.Branch=true/\zaN o.Who=true:=by
  unfold opB at ho
  simp only[aG]at ho
  exact⟨ho.1,ho.2.1⟩
 have hn:=zcE hbw.1
 have hw:=zcE hbw.2
 have hn':o.Branch.length<=1048576:=by omega
 have hw':o.Who.length<=1048576:=by omega
 have hst:TB (zef r o.Branch)/\(zef r o.Branch).length<=8:=by
  unfold zef
  cases hd:decide (0<=atB r o.Branch)with
  |false=>exact⟨TB.nil,by simp⟩
  |true=>
   have h0:0<=atB r o.Branch:=by simpa using hd
   have ha':atB r o.Branch<=(r.Commits.length:Int)-1:=by rcases at_range h.ok o.Branch with e |e<;>omega
   have:=h.tree (i:=(atB r o.Branch).toNat) (by omega)
   exact⟨this.1,this.2.2.2⟩
 have hfb:FB ⟨o.Path,o.Text⟩:=⟨hf.path,zdF hf.text,f6⟩
 have hto:o.To.length<=1048576:=hf.to
 obtain⟨a1,a2⟩:=zfB h (z:=zn1 (zef r o.Branch) ⟨o.Path,o.Text⟩) hn' hw' (zmu hst.1 hst.2 hfb)
 obtain⟨b1,b2⟩:=zfB h (z:=zpv (zef r o.Branch) o.Path) hn' hw' (zof hst.1 o.Path)
 obtain⟨c1,c2⟩:=zfB h (z:=zjS (zef r o.Branch) o.Path o.To) hn' hw' (zmv hst.1 o.Path o.To)
 obtain⟨d1,d2⟩:=zfm h (n:=o.Branch) (who:=o.Who) (b:=atB r o.To) hn' hw'
 obtain⟨e1,e2⟩:=zgd h (n:=o.Branch) (who:=o.Who) (b:=o.At) hn' hw'
 obtain⟨g1,g2⟩:=ze6 h (n:=o.Branch) (who:=o.Who) (b:=o.At) hn' hw'
 have hrest: ∀ t,t=zef r o.Branch->(bif((o.Kind:Int)==(1:Int)) then
  ((Vm.zc4 t (Vm.File.mk o.Path o.Text)).bind fun z41=>(Vm.zbc r o z41.1 z41.2).bind fun z53=>some (z53.1,z53.2))
  else(bif((o.Kind:Int)==(2:Int)) then
   ((Vm.zcw t o.Path).bind fun z79=>(Vm.zbc r o z79.1 z79.2).bind fun z91=>some (z91.1,z91.2))
   else(bif((o.Kind:Int)==(3:Int)) then
    ((Vm.zcx t o.Path o.To).bind fun z117=>(Vm.zbc r o z117.1 z117.2).bind fun z129=>some (z129.1,z129.2))
    else(bif((o.Kind:Int)==(4:Int)) then
     ((Vm.zby r o.To (atB r o.Branch)).bind fun z157=>bif(!z157.2) then(some (r,1)) else(some (z157.1,0)))
     else(bif((o.Kind:Int)==(5:Int)) then
      ((Vm.zca r o.To).bind fun z199=>(Vm.zbj r o.Branch o.Who z199).bind fun z208=>some (z208.1,z208.2))
      else(bif((o.Kind:Int)==(6:Int)) then
       ((Vm.zcQ r o.Branch o.Who o.At).bind fun z226=>some (z226.1,z226.2))
       else((Vm.zbK r o.Branch o.Who o.At).bind fun z243=>some (z243.1,z243.2))))))))=some (doB r o)/\Good (doB r o).1:=by
  intro t et
  subst et
  unfold doB
  cases o.Kind==1 with
  |true=>rw[aD,aD,ziL hst.1 hfb,aA,a1];exact⟨rfl,a2⟩
  |false=>
  cases o.Kind==2 with
  |true=>simp only[aD,aC];rw[zhL hst.1,aA,b1];exact⟨rfl,b2⟩
  |false=>
  cases o.Kind==3 with
  |true=>simp only[aD,aC];rw[zhT hst.1 _ _ hto,aA,c1];exact⟨rfl,c2⟩
  |false=>
  cases o.Kind==4 with
  |true=>
   simp only[aD,aC]
   rw[zgT h.rb hto,aA]
   unfold zp8 zeu
   rw[h.ok,aD]
   cases hb:(decide (0<=atB r o.To) || !zac (headR r o.To (atB r o.Branch)))with
   |true=>exact⟨rfl,h⟩
   |false=>
    refine⟨rfl,h.head hto ?_⟩
    simp only[Bool.or_eq_false_iff,Bool.not_eq_false']at hb
    exact hb.2
  |false=>
  cases o.Kind==5 with
  |true=>simp only[aD,aC];rw[zd7 h.rb,aA,d1];exact⟨rfl,d2⟩
  |false=>
  cases o.Kind==6 with
  |true=>simp only[aD,aC];rw[e1];exact⟨rfl,e2⟩
  |false=>simp only[aD,aC];rw[g1];exact⟨rfl,g2⟩
 unfold zfb
 rw[zd7 h.rb,aA]
 simp only[jn]
 cases hd:decide (0<=atB r o.Branch)with
 |false=>
  refine hrest [] ?_
  unfold zef
  rw[hd];rfl
 |true=>
  have h0:0<=atB r o.Branch:=by simpa using hd
  have ha':atB r o.Branch<=(r.Commits.length:Int)-1:=by rcases at_range h.ok o.Branch with e |e<;>omega
  rw[aD,zdg h0 ha',aA]
  refine hrest _ ?_
  unfold zef
  rw[hd];rfl
theorem zk7:Good zbr:=⟨⟨by simp[zbr],fun c hc=>by simp[zbr]at hc,by simp[zbr],fun c hc=>by simp[zbr]at hc⟩,rfl,fun _ h=>absurd rfl h⟩
def OpL (o:Op):Prop:=Bk.fit o/\Bk.bulk o<=1000000
theorem ziR {l:List Op}(hl:l.length<=1000)(ho: ∀ o∈l,OpL o): ∀ (k i m:Nat) (r:Repo),i+k=l.length->k<m->Good r -> ∃ r',Good r'/\zbk l (fun _ y12 y15=>some (Vm.Repo.mk y12 y15)) m (i:Int) r.Commits r.Heads=some r'
 |k,i,0,r,_,hm,_=>by omega
 |0,i,m+1,r,hi,_,hg=>by
  obtain rfl:i=l.length:=by omega
  simp only[zbk,jn,zai,aC]
  exact⟨r,hg,rfl⟩
 |k+1,i,m+1,r,hi,hm,hg=>by
  have hlt:i<l.length:=by omega
  have hx:l[i]? =some l[i]:=aB hlt
  obtain⟨q1,q2⟩:=ho _ (List.getElem_mem hlt)
  have hof:=OpFit.of q1 (by omega)
  simp only[zbk,jn,zat hx,aD]
  cases decide ((i:Int)<30)with
  |false=>exact⟨r,hg,rfl⟩
  |true=>
   rw[aD,zaf hx,aA,zmr hof,aA,zag hlt (show l.length<=maxi by unfold maxi;omega)]
   cases hop:opB l[i]with
   |false=>exact ziR hl ho k (i+1) m r (by omega) (by omega) hg
   |true=>
    obtain⟨e1,e2⟩:=zmw hg hof hop
    rw[aD,aA,show(⟨r.Commits,r.Heads⟩:Repo)=r from rfl,e1,aA]
    exact ziR hl ho k (i+1) m (doB r l[i]).1 (by omega) (by omega) e2
theorem zhY {l:List Op}(hl:l.length<=1000)(ho: ∀ o∈l,OpL o): ∃ r,Good r/\zdu l=some r:=by
 unfold zdu
 simp only[jn]
 exact ziR hl ho l.length 0 (l.length+1) zbr (by omega) (by omega) zk7
section
variable {r:l30Rd}{p:Int}
theorem zgy {q k:Int}(h:zen r p)(hk:0<=k)(hq:p+k<=q):zen ⟨r.b,r.p+k⟩ q:=h.on k hk (by have:=h.2.2;omega)
theorem zhZ (h:zen r p)(hp:p<=1000000000): ∃ s,zcu r=some (s,r.p+1)/\s.length<=10:=by
 unfold zcu
 obtain⟨s,e,hm⟩:=zkg h (by omega) (l:=[([109,97,105,110]:Str),([109,97,105,110]:Str),([115,105,100,101]:Str),([100,101,118]:Str)]) (by simp) (by simp)
 refine⟨s,by rw[e];rfl,?_⟩
 simp only[List.mem_cons,List.not_mem_nil,or_false]at hm
 rcases hm with e |e |e |e<;>rw[e]<;>simp
theorem zk8 (h:zen r p)(hp:p<=1000000000): ∃ s,zcG r=some (s,r.p+1)/\s.length<=10:=by
 unfold zcG
 obtain⟨s,e,hm⟩:=zkg h (by omega) (l:=[([97]:Str),([98]:Str),([100,47,101]:Str),([100,47,102]:Str),([103,47,104,47,105]:Str),([103,47,107]:Str),([122]:Str)]) (by simp) (by simp)
 refine⟨s,by rw[e];rfl,?_⟩
 simp only[List.mem_cons,List.not_mem_nil,or_false]at hm
 rcases hm with e |e |e |e |e |e |e<;>rw[e]<;>simp
theorem zgz {k a:Int}{b w q t:Str}{l:List Str}(hk:0<=k/\k<=100)(ha:0<=a/\a<=100)(h1:b.length<=10)(h2:w.length<=10)(h3:q.length<=10)(h4:t.length<=10)(h5:LB 8 l):OpL ⟨k,b,w,q,t,a,l⟩:=by
 have hb:=h5.bulk
 refine⟨⟨?_,?_,?_,?_,?_,?_,h5.fit (by omega)⟩,?_⟩
 ·show -9223372036854775808<=k/\k<=9223372036854775807;omega
 ·show b.length<=maxi;unfold maxi;omega
 ·show w.length<=maxi;unfold maxi;omega
 ·show q.length<=maxi;unfold maxi;omega
 ·show t.length<=maxi;unfold maxi;omega
 ·show -9223372036854775808<=a/\a<=9223372036854775807;omega
 ·show 0+(b.length+(w.length+(q.length+(t.length+(0+Bk.bulk l)))))<=_
  omega
theorem zha:LB 8 ([]:List Str):=⟨by simp,fun s hs=>by simp at hs⟩
theorem zsJ (h:zen r p)(hp:p<=1000000): ∃ o q,ze7 r=some (o,q)/\OpL o/\zen ⟨r.b,q⟩ (p+100):=by
 unfold ze7
 obtain⟨b,e1,hb⟩:=zhZ h (by omega)
 have h1:=zgy (q:=p+1) h (k:=1) (by omega) (by omega)
 obtain⟨w,e2,hw⟩:=zkg h1 (by omega) (l:=[([97,110,110]:Str),([98,111,98]:Str),([99,105,100]:Str)]) (by simp) (by simp)
 have hwl:w.length<=10:=by
  simp only[List.mem_cons,List.not_mem_nil,or_false]at hw
  rcases hw with e |e |e<;>rw[e]<;>simp
 have h2:=zgy (q:=p+2) h1 (k:=1) (by omega) (by omega)
 obtain⟨k,e3,k0,k1⟩:=zfe h2 (n:=12) (by omega) (by omega) (by omega)
 have h3:=zgy (q:=p+3) h2 (k:=1) (by omega) (by omega)
 rw[e1,aA,e2,aA]
 simp only[jn,e3,aA]
 obtain⟨pa,e4,hpa⟩:=zk8 h3 (by omega)
 have h4:=zgy (q:=p+4) h3 (k:=1) (by omega) (by omega)
 obtain⟨pb,e5,hpb⟩:=zk8 h4 (by omega)
 have h5:=zgy (q:=p+5) h4 (k:=1) (by omega) (by omega)
 obtain⟨fo,e6,hfo⟩:=zkg h3 (by omega) (l:=[([115,105,100,101]:Str),([100,101,118]:Str),([111,108,100]:Str)]) (by simp) (by simp)
 have hfl:fo.length<=10:=by
  simp only[List.mem_cons,List.not_mem_nil,or_false]at hfo
  rcases hfo with e |e |e<;>rw[e]<;>simp
 obtain⟨br,e7,hbr⟩:=zhZ h3 (by omega)
 obtain⟨n,e8,n0,n1⟩:=zfe h3 (n:=10) (by omega) (by omega) (by omega)
 obtain⟨t,q,e9,ht,hq⟩:=zoa h4 (by omega)
 simp only[e4,e5,e6,e7,e8,e9,aA]
 have g4:zen ⟨r.b,r.p+1+1+1+1⟩ (p+100):=zgy h3 (by omega) (by omega)
 have g5:zen ⟨r.b,r.p+1+1+1+1+1⟩ (p+100):=zgy h4 (by omega) (by omega)
 have gq:zen ⟨r.b,q⟩ (p+100):=⟨hq.1,hq.2.1,by have:=hq.2.2;show q<=_;have e:(⟨r.b,q⟩:l30Rd).p=q:=rfl;rw[e]at this;omega⟩
 cases k==0 with
 |true=>exact⟨_,_,rfl,zgz (by omega) (by omega) hb hwl hpa (by simp) zha,g4⟩
 |false=>
 cases k==1 with
 |true=>exact⟨_,_,rfl,zgz (by omega) (by omega) hb hwl hpa hpb zha,g5⟩
 |false=>
 have hfork:=zgz (k:=4) (a:=0) (by omega) (by omega) hb hwl (q:=[]) (by simp) hfl zha
 have huni:=zgz (k:=5) (a:=0) (by omega) (by omega) hb hwl (q:=[]) (by simp) hbr zha
 have hset:=zgz (k:=1) (a:=0) (by omega) (by omega) hb hwl hpa (t:=[]) (by simp) ht
 cases k==2 with
 |true=>exact⟨_,_,rfl,hfork,g4⟩
 |false=>
 cases k==3 with
 |true=>exact⟨_,_,rfl,hfork,g4⟩
 |false=>
 cases k==4 with
 |true=>exact⟨_,_,rfl,huni,g4⟩
 |false=>
 cases k==5 with
 |true=>exact⟨_,_,rfl,huni,g4⟩
 |false=>
 cases k==6 with
 |true=>exact⟨_,_,rfl,huni,g4⟩
 |false=>
 cases k==7 with
 |true=>exact⟨_,_,rfl,zgz (by omega) (by omega) hb hwl (by simp) (by simp) zha,g4⟩
 |false=>
 cases k==8 with
 |true=>exact⟨_,_,rfl,zgz (by omega) (by omega) hb hwl (by simp) (by simp) zha,g4⟩
 |false=>exact⟨_,_,rfl,hset,gq⟩
theorem zne {x0:l30Rd}: ∀ (m:Nat) (out:List Op) (n q p:Int),0<=n->n<m->(∀ o∈out,OpL o)->zen ⟨x0.b,q⟩ p->p+100*n<=1000000->out.length+n<=100->
 ∃ l q',zc0 x0 (fun y15 _ y19=>some (y15,y19)) m out n q=some (l,q')/\(∀ o∈l,OpL o)/\l.length<=100/\zen ⟨x0.b,q'⟩ (p+100*n)
 |0,out,n,q,p,h0,hm,_,_,_,_=>by omega
 |m+1,out,n,q,p,h0,hm,ho,hr,hp,hl=>by
  simp only[zc0]
  by_cases hn:0<n
  ·obtain⟨o,q1,e1,o1,r1⟩:=zsJ hr (by omega)
   rw[aF hn,aD,e1,aA,ap1 (show out.length<=1048576 by omega),aA,zar (by omega) (by omega)]
   obtain⟨l,q',e2,l1,l2,r2⟩:=zne (x0:=x0) m (out++[o]) (n-1) q1 (p+100) (by omega) (by omega) (fun x hx=>by
    rcases List.mem_append.1 hx with h1 |h1
    ·exact ho x h1
    ·rw[List.mem_singleton]at h1;rw[h1];exact o1) r1 (by omega) (by simp;omega)
   exact⟨l,q',e2,l1,l2,⟨r2.1,r2.2.1,by have e:(⟨x0.b,q'⟩:l30Rd).p<=p+100+100*(n-1):=r2.2.2;show q'<=_;have e':q'<=p+100+100*(n-1):=e;omega⟩⟩
  ·rw[aE hn,aC]
   exact⟨out,q,rfl,ho,by omega,⟨hr.1,hr.2.1,by have e:q<=p:=hr.2.2;show q<=_;omega⟩⟩
theorem zp9 (h:zen r p)(hp:p<=100000): ∃ l q,zew r=some (l,q)/\(∀ o∈l,OpL o)/\l.length<=100/\zen ⟨r.b,q⟩ (p+2001):=by
 unfold zew
 obtain⟨n,e,hm⟩:=zlI h (by omega) (l:=[0,3,8,14,20]) (by simp) (by simp)
 have hn:0<=n/\n<=20:=by
  simp only[List.mem_cons,List.not_mem_nil,or_false]at hm
  omega
 have h1:=zgy (q:=p+1) h (k:=1) (by omega) (by omega)
 rw[e,aA]
 simp only[jn]
 obtain⟨l,q,e2,l1,l2,r2⟩:=zne (x0:=r) ((n-0).toNat+1) [] n (r.p+1) (p+1) hn.1 (by omega) (fun x hx=>by simp at hx) h1 (by omega) (by simp;omega)
 exact⟨l,q,e2,l1,l2,⟨r2.1,r2.2.1,by have:=r2.2.2;omega⟩⟩
theorem zog (h:zen r p)(hp:p<=100000): ∃ x q,zd1 r=some (x,q)/\Good x/\zen ⟨r.b,q⟩ (p+2001):=by
 obtain⟨l,q,e,l1,l2,r2⟩:=zp9 h hp
 obtain⟨x,hx,e2⟩:=zhY (by omega) l1
 refine⟨x,q,?_,hx,r2⟩
 unfold zd1
 rw[e,aA,e2,aA,zdM hx.rb,aA]
structure Drawn (r:Repo):Prop where
 rb:RpB r
 coms:r.Commits.length<=16
 heads:r.Heads.length<=6
theorem Gd.drawn {r:Repo}(h:Gd True r):Drawn r:=by
 obtain⟨s1,s2⟩:=zah h.ok
 exact⟨h.rb,s1,by omega⟩
theorem znf {x:Repo}(h:RpB x){i:Nat}{c:Commit}(hc:CB c):RpB ⟨x.Commits.set i c,x.Heads⟩:=
 ⟨by simp;exact h.coms,fun y hy=>by
  rcases List.mem_or_eq_of_mem_set hy with h1 |h1
  ·exact h.com y h1
  ·rw[h1];exact hc,h.heads,h.head⟩
theorem zjV (h:zen r p)(hp:p<=100000): ∃ x q,zcJ r=some (x,q)/\Drawn x/\zen ⟨r.b,q⟩ (p+2010):=by
 obtain⟨x,q,e,hg,r2⟩:=zog h hp
 obtain⟨s1,s2⟩:=zah hg.ok
 have hd:=hg.drawn
 unfold zcJ
 rw[e,aA]
 simp only[jn]
 have rq:zen ⟨r.b,q⟩ (p+2010):=⟨r2.1,r2.2.1,by have:=r2.2.2;omega⟩
 cases hc:decide ((0:Int)< (x.Commits.length:Int))with
 |false=>exact⟨x,q,rfl,hd,rq⟩
 |true=>
  have h0:(0:Int)< (x.Commits.length:Int):=by simpa using hc
  obtain⟨k,e3,k0,k1⟩:=zfe r2 (n:=(x.Commits.length:Int)) (by omega) h0 (by omega)
  have r3:zen ⟨r.b,q+1⟩ (p+2002):=zgy (q:=p+2002) r2 (k:=1) (by omega) (by omega)
  obtain⟨z,e4,z0,z1⟩:=zfe r3 (n:=16) (by omega) (by omega) (by omega)
  have r4:zen ⟨r.b,q+1+1⟩ (p+2010):=zgy (q:=p+2010) r3 (k:=1) (by omega) (by omega)
  obtain⟨n,rfl⟩:=Int.eq_ofNat_of_zero_le k0
  have hn:n<x.Commits.length:=by omega
  have hx:x.Commits[n]? =some x.Commits[n]:=aB hn
  have hcb:=hg.rb.cat hx
  simp only at e3 e4
  simp only[aD,e3,e4,aA]
  cases z==0 with
  |true=>
   rw[aD,zaf hx,aA,zfu hn,aA]
   exact⟨_,_,rfl,⟨znf hg.rb ⟨by simp,hcb.who,hcb.tree⟩,by simp;exact s1,hd.heads⟩,r4⟩
  |false=>
  cases z==1 with
  |true=>
   rw[aC,aD,zaf hx,aA,zfu hn,aA]
   exact⟨_,_,rfl,⟨znf hg.rb ⟨hcb.par,by simp,hcb.tree⟩,by simp;exact s1,hd.heads⟩,r4⟩
  |false=>
  cases z==2 with
  |true=>
   have hne:x.Heads≠ []:=hg.hd trivial (fun e=>by rw[e]at hn;simp at hn)
   have hh:x.Heads[0]? =some (x.Heads[0]'(List.length_pos_iff.2 hne)):=aB _
   rw[aC,aC,aD,show gi x.Heads 0=some (x.Heads[0]'(List.length_pos_iff.2 hne)) from zaf (i:=0) hh,aA,ap1 hg.rb.heads,aA]
   refine⟨_,_,rfl,⟨⟨hg.rb.coms,hg.rb.com,by simp;omega,fun y hy=>?_⟩,s1,by simp;omega⟩,r4⟩
   rcases List.mem_append.1 hy with h1 |h1
   ·exact hg.rb.head y h1
   ·rw[List.mem_singleton]at h1;rw[h1];exact hg.rb.head _ (List.getElem_mem _)
  |false=>exact⟨x,_,rfl,hd,r4⟩
theorem zsK {code:List Byte}(h:code.length<=1048576): ∃ b:List Byte,zcY code=some ⟨b,0⟩/\zen ⟨b,0⟩ 0:=by
 obtain⟨b,e,hb⟩:=zn3 h
 exact⟨b,e,hb,by show(0:Int)<=0;omega,by show(0:Int)<=0;omega⟩
end
inductive Rc (r:Repo):Nat->Nat->Prop
 |refl (a:Nat):Rc r a a
 |step {a b:Nat} {p:Int}:Rc r a b->p∈zae r b->Rc r a p.toNat
theorem Rc.trans {r:Repo}{a b c:Nat}(h:Rc r a b)(k:Rc r b c):Rc r a c:=by
 induction k with
 |refl=>exact h
 |step _ hp ih=>exact Rc.step ih hp
theorem Rc.head {r:Repo}{a c:Nat}(h:Rc r a c):c=a \/ ∃ p∈zae r a,Rc r p.toNat c:=by
 induction h with
 |refl=>exact .inl rfl
 | @step b p hb hp ih=>
  rcases ih with e |⟨q,hq,hc⟩
  ·subst e
   exact .inr ⟨p,hp,Rc.refl _⟩
  ·exact .inr ⟨q,hq,Rc.step hc hp⟩
theorem Rc.le {r:Repo}(hr:zac r=true){a c:Nat}(ha:a<r.Commits.length)(h:Rc r a c):c<=a/\c<r.Commits.length:=by
 induction h with
 |refl=>exact⟨Nat.le_refl _,ha⟩
 |step _ hp ih=>
  have:=(zaT hr ih.2).2 _ hp
  omega
def zfS (l:List Int):Prop:=l.Pairwise (· < ·)
theorem zfS.ext: ∀ {xs ys:List Int},zfS xs->zfS ys->(∀ a,a∈xs↔a∈ys)->xs=ys
 | [],[],_,_,_=>rfl
 | [],y::ys,_,_,h=>by have:=(h y).2 (by simp);simp at this
 |x::xs,[],_,_,h=>by have:=(h x).1 (by simp);simp at this
 |x::xs,y::ys,hx,hy,h=>by
  have hx':=List.pairwise_cons.1 hx
  have hy':=List.pairwise_cons.1 hy
  have e:x=y:=by
   rcases List.mem_cons.1 ((h x).1 (by simp))with e |hm
   ·exact e
   ·rcases List.mem_cons.1 ((h y).2 (by simp))with e |hm2
    ·exact e.symm
    ·have h1:=hx'.1 y hm2
     have h2:=hy'.1 x hm
     omega
  subst e
  rw[zfS.ext hx'.2 hy'.2 (fun a=>by
   constructor
   ·intro ha
    rcases List.mem_cons.1 ((h a).1 (List.mem_cons_of_mem _ ha))with e2 |e2
    ·have:=hx'.1 a ha;omega
    ·exact e2
   ·intro ha
    rcases List.mem_cons.1 ((h a).2 (List.mem_cons_of_mem _ ha))with e2 |e2
    ·have:=hy'.1 a ha;omega
    ·exact e2)]
theorem TB.of {t:List File}(hf:Bk.fit t)(h:Bk.bulk t<=1048576):TB t:=⟨zdF h,fun f hm=>by
 have h1:Bk.bulk f<=1048576:=zgQ h hm
 have h2:Bk.bulk f=f.Path.length+Bk.bulk f.Text:=rfl
 exact⟨by omega,zdF (show Bk.bulk f.Text<=1048576 by omega),(hf.2 f hm).2⟩⟩
theorem RpB.of {r:Repo}(hf:Bk.fit r)(h:Bk.bulk r<=1048576):RpB r:=by
 have h0:Bk.bulk r=Bk.bulk r.Commits+Bk.bulk r.Heads:=rfl
 have hc:Bk.bulk r.Commits<=1048576:=by omega
 have hh:Bk.bulk r.Heads<=1048576:=by omega
 refine⟨zdF hc,fun c hm=>?_,zdF hh,fun x hm=>?_⟩
 ·have h1:Bk.bulk c<=1048576:=zgQ hc hm
  have h2:Bk.bulk c=Bk.bulk c.Parents+(c.Who.length+Bk.bulk c.Tree):=rfl
  exact⟨zdF (show Bk.bulk c.Parents<=1048576 by omega),by omega,TB.of (hf.1.2 c hm).2.2 (by omega)⟩
 ·have h1:Bk.bulk x<=1048576:=zgQ hh hm
  have h2:Bk.bulk x=x.Name.length+0:=rfl
  omega
theorem zmx (x:Repo):(⟨x.Commits,x.Heads⟩:Repo)=x:=rfl
theorem zhp {α:Type}(q:α->Bool): ∀ (xs:List α) (b:Bool),xs.foldl (fun b x=>b||q x) b=(b||xs.any q)
 | [],b=>by simp
 |x::xs,b=>by rw[List.foldl_cons,zhp q xs,List.any_cons,Bool.or_assoc]
section
variable {r:l30Rd}{p:Int}
end
def zis (p:Int):Prop:= -9223372036854775808<=p/\p<=9223372036854775807
section
variable {r:Repo}{has:List Int}{sent:List Commit}
end
set_option linter.unusedSectionVars false
structure SentB (sent:List Commit):Prop where
 len:sent.length<=16
 cb: ∀ c∈sent,CB c
 fit: ∀ c∈sent,∀ p∈c.Parents,zis p
theorem SentB.take {sent:List Commit}(h:SentB sent)(k:Nat):SentB (sent.take k):=
 ⟨Nat.le_trans (List.length_take_le' k sent) h.len,fun c hc=>h.cb c (List.mem_of_mem_take hc),fun c hc=>h.fit c (List.mem_of_mem_take hc)⟩
theorem SentB.set {sent:List Commit}(h:SentB sent){c:Commit}(hc:CB c)(hf: ∀ p∈c.Parents,zis p)(k:Nat):SentB (sent.set k c):=
 ⟨by rw[List.length_set];exact h.len,fun d hd=>by
  rcases List.mem_or_eq_of_mem_set hd with q |q
  ·exact h.cb d q
  ·rw[q];exact hc,fun d hd=>by
  rcases List.mem_or_eq_of_mem_set hd with q |q
  ·exact h.fit d q
  ·rw[q];exact hf⟩
section
variable {x:Repo}(hr:zac x=true){a b:Int}(ha:upB x.Commits.length a=true)(hb:upB x.Commits.length b=true)
include hr ha
include hb
end
theorem zeL {α:Type}{f:α->Nat}{c:Nat}: ∀ {t:List α},(∀ s∈t,f s<=c)->zbs f t<=c*t.length
 | [],_=>by simp[zbs]
 |x::t,h=>by
  have h1:=h x (by simp)
  have h2:=zeL (t:=t) (fun s hs=>h s (by simp[hs]))
  simp only[zbs,aL,Nat.mul_add,Nat.mul_one]
  omega
theorem zmy {t:List Str}(h:zao t=true):Bk.bulk t<=130:=by
 have hl:=zaj h
 have hs:zbs Bk.bulk t<=12*t.length:=zeL fun s hs=>by
  have:=zg0 (zaO h s hs)
  show s.length<=12
  omega
 show t.length+zbs Bk.bulk t<=130
 omega
theorem zmz {t:List File}(h:zay t=true):Bk.bulk t<=1208:=by
 have hl:=za2 h
 have hs:zbs Bk.bulk t<=150*t.length:=zeL fun f hf=>by
  have h1:=zdn (zce h hf)
  have h2:=zmy (zax h f hf)
  show f.Path.length+Bk.bulk f.Text<=150
  omega
 show t.length+zbs Bk.bulk t<=1208
 omega
theorem zng {r:Repo}(h:zac r=true){c:Commit}(hc:c∈r.Commits):c.Parents.length<=2/\(∀ p∈c.Parents,0<=p/\p<=16)/\zaN c.Who=true/\zay c.Tree=true:=by
 obtain⟨i,hi⟩:=List.mem_iff_getElem?.1 hc
 have hil:=zaP hi
 have s1:=(zah h).1
 have:=zeY h (i:=i) (by omega)
 rw[zdf hi]at this
 unfold zjE at this
 simp only[aG,decide_eq_true_eq,List.all_eq_true]at this
 refine⟨by omega,fun p hp=>?_,this.2.2.2.1,this.2.2.2.2⟩
 have h1:=this.1 p hp
 unfold upB at h1
 simp only[aG,decide_eq_true_eq]at h1
 omega
theorem zmA {r:Repo}(h:zac r=true):Bk.bulk r<=20000:=by
 obtain⟨s1,s2⟩:=zah h
 have h1:zbs Bk.bulk r.Commits<=1218*r.Commits.length:=zeL fun c hc=>by
  obtain⟨c1,_,c3,c4⟩:=zng h hc
  have:=zcE c3
  have:=zmz c4
  have hp:zbs Bk.bulk c.Parents<=0*c.Parents.length:=zeL fun p hp=>Nat.le_refl 0
  show c.Parents.length+zbs Bk.bulk c.Parents+(c.Who.length+Bk.bulk c.Tree)<=1218
  omega
 have h2:zbs Bk.bulk r.Heads<=6*r.Heads.length:=zeL fun x hx=>by
  have:=zcE (zfj h hx).2.2
  show x.Name.length+0<=6
  omega
 show r.Commits.length+zbs Bk.bulk r.Commits+(r.Heads.length+zbs Bk.bulk r.Heads)<=20000
 omega
theorem zmB {t:List File}(h:zay t=true):Bk.fit t:=⟨by have:=za2 h;unfold maxi;omega,fun f hf=>⟨by have:=zdn (zce h hf);show f.Path.length<=maxi;unfold maxi;omega,by
 have h1:=zax h f hf
 have h2:=zaj h1
 exact zc9 (by omega) (zaO h1)⟩⟩
theorem zmC {r:Repo}(h:zac r=true):Bk.fit r:=by
 obtain⟨s1,s2⟩:=zah h
 refine⟨⟨by unfold maxi;omega,fun c hc=>?_⟩,by unfold maxi;omega,fun x hx=>?_⟩
 ·obtain⟨c1,c2,c3,c4⟩:=zng h hc
  refine⟨⟨by unfold maxi;omega,fun p hp=>?_⟩,by have:=zcE c3;show c.Who.length<=maxi;unfold maxi;omega,zmB c4⟩
  have:=c2 p hp
  show -9223372036854775808<=p/\p<=9223372036854775807
  omega
 ·obtain⟨h1,h2,h3⟩:=zfj h hx
  refine⟨by have:=zcE h3;show x.Name.length<=maxi;unfold maxi;omega,?_⟩
  show -9223372036854775808<=x.At/\x.At<=9223372036854775807
  omega
theorem zfS.lt {l:List Int}(h:zfS l){i k:Nat}(hik:i<k)(hk:k<l.length):l.getD i 0<l.getD k 0:=by
 have h1:i<l.length:=by omega
 have:=List.pairwise_iff_getElem.1 h i k h1 hk hik
 rw[zdy (aB h1),zdy (aB hk)]
 exact this
theorem zfS.inj {l:List Int}(h:zfS l){i k:Nat}(hi:i<l.length)(hk:k<l.length)(e:l.getD i 0=l.getD k 0):i=k:=by
 rcases Nat.lt_trichotomy i k with h1 |h1 |h1
 ·have:=h.lt h1 hk;omega
 ·exact h1
 ·have:=h.lt h1 hi;omega
section
variable {r:Repo}(h:RpB r)(hr:zac r=true)
include h hr
end
def zoN (r:Repo)(n:Str)(x:Repo):Prop:=x=r\/x=zbr\/zac x=true
theorem zoN.bulk {r x:Repo}{n:Str}(h:zoN r n x):Bk.bulk x<=Bk.bulk r+20000:=by
 rcases h with h |h |h
 ·rw[h];omega
 ·rw[h];show 0+0+(0+0)<=_;omega
 ·have:=zmA h;omega
theorem zoN.fit {r x:Repo}{n:Str}(hf:Bk.fit r)(h:zoN r n x):Bk.fit x:=by
 rcases h with h |h |h
 ·rw[h];exact hf
 ·rw[h];exact⟨⟨by simp[zbr,maxi],by simp[zbr]⟩,by simp[zbr,maxi],by simp[zbr]⟩
 ·exact zmC h
def ChH:Int->List Hunk->Prop
 |_,[]=>True
 |lo,d::l=>lo<=d.At/\ChH (d.At+d.Less.length+1) l
theorem ChH.mono: ∀ {l:List Hunk} {lo lo':Int},lo'<=lo->ChH lo l->ChH lo' l
 | [],_,_,_,_=>trivial
 |d::l,_,_,h,⟨h1,h2⟩=>⟨Int.le_trans h h1,h2⟩
theorem zfC {R α σ:Type} {xs:List α} {g:σ->α->σ} {I:Nat->σ->Prop} {f:Nat->σ->Int->Option R} {Z:σ->Option R}
 (hs: ∀ m (i:Nat) x s,xs[i]? =some x->I i s->f (m+1) s (i:Int)=f m (g s x) ((i+1:Nat):Int)/\I (i+1) (g s x)) (he: ∀ m s,I xs.length s->f (m+1) s (xs.length:Int)=Z s):
 ∀ (k i m:Nat) (s:σ),i+k=xs.length->k<m->I i s->f m s (i:Int)=Z ((xs.drop i).foldl g s)/\I xs.length ((xs.drop i).foldl g s)
 |k,i,0,s,_,hm,_=>by omega
 |0,i,m+1,s,hi,_,h=>by
  obtain rfl:i=xs.length:=by omega
  rw[List.drop_length,List.foldl_nil]
  exact⟨he m s h,h⟩
 |k+1,i,m+1,s,hi,hm,h=>by
  have hlt:i<xs.length:=by omega
  obtain⟨e1,e2⟩:=hs m i xs[i] s (aB hlt) h
  rw[e1,aI hlt,List.foldl_cons]
  exact zfC hs he k (i+1) m _ (by omega) (by omega) e2
theorem zcq {R α σ:Type} {xs:List α} {g:σ->α->σ} {I:Nat->σ->Prop} {f:Nat->σ->Int->Option R} {Z:σ->Option R} {s:σ} (h:I 0 s)
 (hs: ∀ m (i:Nat) x s,xs[i]? =some x->I i s->f (m+1) s (i:Int)=f m (g s x) ((i+1:Nat):Int)/\I (i+1) (g s x)) (he: ∀ m s,I xs.length s->f (m+1) s (xs.length:Int)=Z s):f (xs.length+1) s 0=Z (xs.foldl g s)/\I xs.length (xs.foldl g s):=by
 have:=zfC hs he xs.length 0 (xs.length+1) s (by omega) (by omega) h
 rwa [List.drop_zero]at this
section
variable {o b:List Str}(ho:o.length<=1000)(hb:b.length<=1000){ps:List Int}(hps:ps.length=o.length+1)
include ho hb hps
end
section
variable {o b:List Str}(ho:o.length<=1000)(hb:b.length<=1000)
include ho hb
end
section
variable {a b:List File}(ha:TB a)(hb:TB b)(ta:zay a=true)(tb:zay b=true)
include ha hb ta tb
end
def prefL:List Str->List Str->Nat
 |a::l,b::m=>bif a==b then prefL l m+1 else 0
 |_,_=>0
theorem zjn: ∀ (a b:List Str),a.take (prefL a b)=b.take (prefL a b)/\prefL a b<=a.length/\prefL a b<=b.length
 | [],b=>by simp[prefL]
 |a::l,[]=>by simp[prefL]
 |a::l,b::m=>by
  obtain⟨h1,h2,h3⟩:=zjn l m
  unfold prefL
  cases h:a==b with
  |false=>simp
  |true=>
   have e:a=b:=by simpa using h
   simp only[aD,List.take_succ_cons,aL,h1,e]
   exact⟨trivial,by omega,by omega⟩
def znh (t:List Str):List Str->Nat->Nat×Nat->Nat×Nat
 | [],_,r=>r
 |b::bs,i,r=>znh t bs (i+1) (bif decide (r.2<prefL (b::bs) t) then(i,prefL (b::bs) t) else r)
def zoh (base t:List Str)(r:Nat×Nat):Prop:=r.1+r.2<=base.length/\r.2<=t.length/\(base.drop r.1).take r.2=t.take r.2
theorem zk9 {base t:List Str}: ∀ (bs:List Str) (i:Nat) (r:Nat×Nat),base.drop i=bs->zoh base t r->zoh base t (znh t bs i r)
 | [],_,r,_,h=>h
 |b::bs,i,r,hb,h=>by
  unfold znh
  have hl:i+(b::bs).length<=base.length:=by
   have h1:(base.drop i).length=(b::bs).length:=by rw[hb]
   simp only[List.length_drop,aL]at h1 ⊢
   omega
  refine zk9 bs (i+1) _ ?_ ?_
  ·rw[<- List.drop_drop,hb]
   rfl
  ·cases decide (r.2<prefL (b::bs) t)with
   |false=>exact h
   |true=>
    obtain⟨h1,h2,h3⟩:=zjn (b::bs) t
    refine⟨by show i+prefL (b::bs) t<=_;omega,h3,?_⟩
    show(base.drop i).take (prefL (b::bs) t)=_
    rw[hb,h1]
    rfl
def zfq (base t:List Str):Nat×Nat:=znh t base 0 (0,0)
theorem ziS (base t:List Str):zoh base t (zfq base t):=zk9 base 0 _ rfl ⟨by simp,by simp,by simp⟩
theorem zmD (base t:List Str):(zfq base t).1<=base.length/\(zfq base t).2<=t.length:=⟨by have:=(ziS base t).1;omega,(ziS base t).2.1⟩
def zh0 (out:List Delta)(x:Str):List Delta:=match out.getLast? with
 |some d=>bif decide (0<d.Lines.length) then out.dropLast++[⟨d.From,d.Many,d.Lines++[x]⟩] else out++[⟨0,0,[x]⟩]
 |none=>out++[⟨0,0,[x]⟩]
def zdR (base:List Str):Nat->List Delta->List Str->List Delta
 |0,out,_=>out
 |_+1,out,[]=>out
 |n+1,out,x::t=>bif decide (0< (zfq base (x::t)).2) then zdR base n (out++[⟨(zfq base (x::t)).1,(zfq base (x::t)).2,[]⟩]) ((x::t).drop (zfq base (x::t)).2) else zdR base n (zh0 out x) t
def deltaL (base t:List Str):List Delta:=zdR base t.length [] t
def zcF (base:List Str)(d:Delta):List Str:=bif decide (0<d.Lines.length) then d.Lines else(base.drop d.From.toNat).take d.Many.toNat
def doL (base:List Str)(ds:List Delta):List Str:=ds.flatMap (zcF base)
def zfD (base t:List Str)(d:Delta):Prop:=(0<d.Lines.length/\d.From=0/\d.Many=0 /\ ∀ x∈d.Lines,x∈t)\/(d.Lines=[]/\0<=d.From/\1<=d.Many/\d.From+d.Many<=(base.length:Int))
theorem zf7 {base:List Str}{ds:List Delta}{d:Delta}:doL base (ds++[d])=doL base ds++zcF base d:=by simp[doL]
theorem zmE {base t0:List Str}{out:List Delta}{x:Str}(h: ∀ d∈out,zfD base t0 d)(hx:x∈t0):(∀ d∈zh0 out x,zfD base t0 d)/\doL base (zh0 out x)=doL base out++[x]/\(zh0 out x).length<=out.length+1:=by
 have new:(∀ d∈out++[⟨0,0,[x]⟩],zfD base t0 d)/\doL base (out++[⟨0,0,[x]⟩])=doL base out++[x]/\(out++[(⟨0,0,[x]⟩:Delta)]).length<=out.length+1:=by
  refine⟨fun d hd=>?_,by rw[zf7];rfl,by simp⟩
  rcases List.mem_append.1 hd with e |e
  ·exact h d e
  ·rw[List.mem_singleton.1 e]
   exact .inl ⟨by simp,rfl,rfl,fun y hy=>by rw[List.mem_singleton.1 hy];exact hx⟩
 unfold zh0
 cases hl:out.getLast? with
 |none=>exact new
 |some d=>
  simp only
  cases hd:decide (0<d.Lines.length)with
  |false=>exact new
  |true=>
   have hp:0<d.Lines.length:=by simpa using hd
   obtain⟨pre,rfl⟩:=List.getLast?_eq_some_iff.1 hl
   rw[aD,List.dropLast_concat]
   have hdk:=h d (by simp)
   have hq:d.From=0/\d.Many=0 /\ ∀ y∈d.Lines,y∈t0:=by
    rcases hdk with ⟨_,h1,h2,h3⟩ |⟨h1,_⟩
    ·exact⟨h1,h2,h3⟩
    ·rw[h1]at hp;simp at hp
   refine⟨fun e he=>?_,?_,by simp⟩
   ·rcases List.mem_append.1 he with e1 |e1
    ·exact h e (by simp[e1])
    ·rw[List.mem_singleton.1 e1]
     refine .inl ⟨by simp,hq.1,hq.2.1,fun y hy=>?_⟩
     rcases List.mem_append.1 hy with e2 |e2
     ·exact hq.2.2 y e2
     ·rw[List.mem_singleton.1 e2];exact hx
   ·rw[zf7,zf7,List.append_assoc]
    have e1:zcF base d=d.Lines:=by unfold zcF;rw[hd];rfl
    have e2:zcF base ⟨d.From,d.Many,d.Lines++[x]⟩=d.Lines++[x]:=by unfold zcF;rw[aF (by simp)];rfl
    rw[e1,e2]
theorem zgA {base t0:List Str}: ∀ (n:Nat) (out:List Delta) (t:List Str),t.length<=n->doL base out++t=t0->(∀ d∈out,zfD base t0 d)->out.length+t.length<=t0.length->
 doL base (zdR base n out t)=t0/\(∀ d∈zdR base n out t,zfD base t0 d)/\(zdR base n out t).length<=t0.length
 |0,out,t,hn,he,hp,hl=>by
  have:t=[]:=List.eq_nil_of_length_eq_zero (by omega)
  subst this
  exact⟨by rw[<- he];simp[zdR],hp,by unfold zdR;omega⟩
 |n+1,out,[],_,he,hp,hl=>⟨by rw[<- he];simp[zdR],hp,by unfold zdR;omega⟩
 |n+1,out,x::t,hn,he,hp,hl=>by
  obtain⟨r1,r2,r3⟩:=ziS base (x::t)
  unfold zdR
  simp only[aL]at hn hl
  have hx:x∈t0:=by rw[<- he];simp
  cases hm:decide (0< (zfq base (x::t)).2)with
  |true=>
   have hm':0< (zfq base (x::t)).2:=by simpa using hm
   rw[aD]
   have hpc:zcF base ⟨((zfq base (x::t)).1:Int),((zfq base (x::t)).2:Int),[]⟩=(x::t).take (zfq base (x::t)).2:=by
    unfold zcF
    simp only[List.length_nil,Nat.lt_irrefl,decide_false,aC,Int.toNat_natCast]
    exact r3
   refine zgA n _ _ (by rw[List.length_drop,aL];omega) ?_ (fun d hd=>?_) ?_
   ·rw[zf7,hpc,List.append_assoc,List.take_append_drop]
    exact he
   ·rcases List.mem_append.1 hd with e |e
    ·exact hp d e
    ·rw[List.mem_singleton.1 e]
     exact .inr ⟨rfl,by show(0:Int)<=((zfq base (x::t)).1:Int);omega,by show(1:Int)<=((zfq base (x::t)).2:Int);omega,by show((zfq base (x::t)).1:Int)+((zfq base (x::t)).2:Int)<=_;omega⟩
   ·simp only[List.length_append,aL,List.length_nil,List.length_drop]
    omega
  |false=>
   rw[aC]
   obtain⟨p1,p2,p3⟩:=zmE hp hx
   exact zgA n _ t (by omega) (by rw[p2,List.append_assoc];exact he) p1 (by omega)
theorem zdo (base t:List Str):doL base (deltaL base t)=t/\(∀ d∈deltaL base t,zfD base t d)/\(deltaL base t).length<=t.length:=
 zgA t.length [] t (Nat.le_refl _) rfl (fun d hd=>by simp at hd) (by simp)
theorem ziT {base:List Str}{d:Delta}: ∀ {ds:List Delta},d∈ds->(zcF base d).length<=(doL base ds).length
 |e::ds,h=>by
  simp only[doL,List.flatMap_cons,List.length_append]
  rcases List.mem_cons.1 h with e1 |e1
  ·rw[e1];omega
  ·have:=ziT (base:=base) e1
   unfold doL at this
   omega
theorem zjW {base t:List Str}(ht:zao t=true){d:Delta}(hd:d∈deltaL base t):zao d.Lines=true:=by
 obtain⟨h1,h2,_⟩:=zdo base t
 have hl:=ziT (base:=base) hd
 rw[h1]at hl
 have htl:=zaj ht
 have htx:=zaO ht
 rcases h2 d hd with ⟨p1,_,_,p4⟩ |⟨p1,_⟩
 ·have e1:zcF base d=d.Lines:=by unfold zcF;rw[aF p1];rfl
  rw[e1]at hl
  unfold zao
  simp only[aG,Bool.not_eq_true',decide_eq_false_iff_not,List.all_eq_true]
  exact⟨by omega,fun x hx=>htx x (p4 x hx)⟩
 ·rw[p1];rfl
def OD (n:Nat)(l:List Owner):Prop:=l.length<=n /\ ∀ o∈l,o.Path.length<=10/\o.Who.length<=10
theorem OD.fit {n:Nat}{l:List Owner}(h:OD n l)(hn:n<=1000):Bk.fit l:=⟨by have:=h.1;unfold maxi;omega,fun o ho=>by
 have:=h.2 o ho
 exact⟨by show o.Path.length<=maxi;unfold maxi;omega,by show o.Who.length<=maxi;unfold maxi;omega⟩⟩
theorem zfn {R σ:Type} {n:Nat} {I:Nat->σ->Prop} {f:Nat->σ->Int->Option R} {Z:σ->Option R}
 (hs: ∀ m (i:Nat) s,i<n->I i s -> ∃ s',f (m+1) s (i:Int)=f m s' ((i+1:Nat):Int)/\I (i+1) s') (he: ∀ m s,I n s->f (m+1) s (n:Int)=Z s):
 ∀ (k i m:Nat) (s:σ),i+k=n->k<m->I i s -> ∃ s',f m s (i:Int)=Z s'/\I n s'
 |k,i,0,s,_,hm,_=>by omega
 |0,i,m+1,s,hi,_,h=>by
  obtain rfl:i=n:=by omega
  exact⟨s,he m s h,h⟩
 |k+1,i,m+1,s,hi,hm,h=>by
  obtain⟨s1,e1,h1⟩:=hs m i s (by omega) h
  obtain⟨s2,e2,h2⟩:=zfn hs he k (i+1) m s1 (by omega) (by omega) h1
  exact⟨s2,e1.trans e2,h2⟩
theorem zh1 {a b:List Str}(ha:a.length<=1000): ∀ (k i m:Nat),i+k=a.length->k<m->zb5 a b (fun z=>some z) m (i:Int)=some ((i+prefL (a.drop i) (b.drop i):Nat):Int)
 |k,i,0,_,hm=>by omega
 |0,i,m+1,hi,_=>by
  obtain rfl:i=a.length:=by omega
  simp only[zb5,jn,zai,aC,List.drop_length]
  simp[prefL]
 |k+1,i,m+1,hi,hm=>by
  have hlt:i<a.length:=by omega
  have hx:a[i]? =some a[i]:=aB hlt
  have ih:=zh1 (b:=b) ha k (i+1) m (by omega) (by omega)
  simp only[zb5,jn,zat hx,zaf hx,aD,aA,zag hlt (show a.length<=maxi by unfold maxi;omega)]
  rw[aI hlt]
  by_cases hb:i<b.length
  ·have hy:b[i]? =some b[i]:=aB hb
   rw[zat hy,zaf hy,aD,aA,aI hb]
   unfold prefL
   cases a[i]==b[i]with
   |false=>rfl
   |true=>
    rw[aD,aD,ih]
    congr 2
    omega
  ·rw[aE (by omega),aC,aC,show b.drop i=[] from List.drop_eq_nil_of_le (by omega)]
   rfl
theorem zla {a b:List Str}(ha:a.length<=1000):zeD a b=some ((prefL a b:Nat):Int):=by
 unfold zeD
 simp only[jn]
 have:=zh1 (b:=b) ha a.length 0 (a.length+1) (by omega) (by omega)
 simpa using this
theorem zni {base t:List Str}(hb:base.length<=1000){K:Int->Int->Int->Option (List Delta)}: ∀ (k i m:Nat) (r:Nat×Nat),i+k=base.length->k<m->
 zbL base t K m (r.1:Int) (r.2:Int) (i:Int)=K ((znh t (base.drop i) i r).1:Int) ((znh t (base.drop i) i r).2:Int) (base.length:Int)
 |k,i,0,_,_,hm=>by omega
 |0,i,m+1,r,hi,_=>by
  obtain rfl:i=base.length:=by omega
  simp only[zbL,zai,aC,List.drop_length,znh]
 |k+1,i,m+1,r,hi,hm=>by
  have hlt:i<base.length:=by omega
  have hx:base[i]? =some base[i]:=aB hlt
  have ih:=fun r=>zni (t:=t) hb (K:=K) k (i+1) m r (by omega) (by omega)
  have hd:(base.drop i).length<=1000:=by rw[List.length_drop];omega
  have e1:decide ((r.2:Int)< (prefL (base.drop i) t:Int))=decide (r.2<prefL (base.drop i) t):=decide_eq_decide.2 (by omega)
  simp only[zbL,jn,zat hx,aD,zeZ (show i<=base.length by omega),aA,zla hd,zag hlt (show base.length<=maxi by unfold maxi;omega),e1]
  rw[aI hlt]at*
  unfold znh
  cases decide (r.2<prefL (base[i]::base.drop (i+1)) t)with
  |true=>exact ih (i,prefL (base[i]::base.drop (i+1)) t)
  |false=>exact ih r
theorem pushD_cases (out:List Delta)(x:Str):(out=[]/\zh0 out x=[⟨0,0,[x]⟩]) \/ ∃ pre d,out=pre++[d]/\zh0 out x=bif decide (0<d.Lines.length) then pre++[⟨d.From,d.Many,d.Lines++[x]⟩] else pre++[d]++[⟨0,0,[x]⟩]:=by
 cases h:out.getLast? with
 |none=>
  have:out=[]:=List.getLast?_eq_none_iff.1 h
  subst this
  exact .inl ⟨rfl,rfl⟩
 |some d=>
  obtain⟨pre,rfl⟩:=List.getLast?_eq_some_iff.1 h
  refine .inr ⟨pre,d,rfl,?_⟩
  unfold zh0
  rw[h]
  simp only[List.dropLast_concat]
theorem zjo {base:List Str}(hb:base.length<=1000): ∀ (n:Nat) (out:List Delta) (t:List Str) (m:Nat),t.length<=n->t.length<m->out.length+t.length<=1000->(∀ d∈out,d.Lines.length+t.length<=1000)->
 zdx base (fun _ a=>some a) m t out=some (zdR base n out t)
 |_,_,_,0,_,hm,_,_=>by omega
 |0,out,t,m+1,hn,_,_,_=>by
  have:t=[]:=List.eq_nil_of_length_eq_zero (by omega)
  subst this
  rfl
 |n+1,out,[],m+1,_,_,_,_=>rfl
 |n+1,out,x::t,m+1,hn,hm,hl,hd=>by
  have ih:=fun out t h1 h2 h3 h4=>zjo hb n out t m h1 h2 h3 h4
  obtain⟨r1,r2⟩:=zmD base (x::t)
  simp only[aL]at hn hm hl hd r2
  have run:=fun K=>zni (t:=x::t) hb (K:=K) base.length 0 (base.length+1) (0,0) (by omega) (by omega)
  rw[List.drop_zero]at run
  have run': ∀ K:Int->Int->Int->Option (List Delta),zbL base (x::t) K (((base.length:Int)-0).toNat+1) 0 0 0=K ((zfq base (x::t)).1:Int) ((zfq base (x::t)).2:Int) (base.length:Int):=fun K=>by
   rw[zaA]
   exact run K
  have hg:gi (x::t) 0=some x:=zaf (i:=0) rfl
  have hs1:slM (x::t) (maxI 1 0) (((x::t).length:Nat):Int)=some t:=zeZ (xs:=x::t) (i:=1) (by simp)
  unfold zdR
  simp only[zdx,jn,run']
  rw[aF (show(0:Int)< (((x::t).length:Nat):Int) by simp only[aL];omega),aD,show decide ((0:Int)< ((zfq base (x::t)).2:Int))=decide (0< (zfq base (x::t)).2) from decide_eq_decide.2 (by omega)]
  cases hm0:decide (0< (zfq base (x::t)).2)with
  |true=>
   have hm':0< (zfq base (x::t)).2:=by simpa using hm0
   have hmx:maxI 1 ((zfq base (x::t)).2:Int)=((zfq base (x::t)).2:Int):=by
    unfold maxI
    by_cases h1:(1:Int)< ((zfq base (x::t)).2:Int)
    ·rw[if_pos h1]
    ·rw[if_neg h1];omega
   have hs2:slM (x::t) ((zfq base (x::t)).2:Int) (((x::t).length:Nat):Int)=some ((x::t).drop (zfq base (x::t)).2):=zeZ (by simp only[aL];omega)
   rw[aD,aD,ap1 (by omega),aA,hmx,hs2,aA]
   refine ih _ _ (by rw[List.length_drop,aL];omega) (by rw[List.length_drop,aL];omega) (by rw[List.length_drop];simp only[List.length_append,aL,List.length_nil];omega) (fun d h1=>?_)
   rw[List.length_drop,aL]
   rcases List.mem_append.1 h1 with h1 |h1
   ·have:=hd d h1;omega
   ·rw[List.mem_singleton.1 h1];simp only[List.length_nil];omega
  |false=>
   have hm':(zfq base (x::t)).2=0:=by simpa using hm0
   rw[aC,aC,hm',show((0:Nat):Int)=0 from rfl]
   rcases pushD_cases out x with ⟨e1,e2⟩ |⟨pre,d,e1,e2⟩
   ·rw[e2,e1]
    have hw:decide ((0:Int)<=w64 ((([]:List Delta).length:Int)-1))=false:=by decide
    simp only[hw,aC,hg,aA,ap1 (xs:=([]:List Delta)) (x:=⟨0,0,[x]⟩) (by simp),List.nil_append,hs1]
    exact ih _ _ (by omega) (by omega) (by simp;omega) (fun d h1=>by rw[List.mem_singleton.1 h1];simp;omega)
   ·rw[e2,e1]
    rw[e1]at hl hd
    simp only[List.length_append,aL,List.length_nil]at hl
    have hdd:=hd d (by simp)
    have hw:w64 (((pre++[d]).length:Int)-1)=(pre.length:Int):=by
     have hle:((pre++[d]).length:Int)=(pre.length:Int)+1:=by simp
     rw[hle,zar (by omega) (by omega)]
     omega
    have hgd:gi (pre++[d]) (pre.length:Int)=some d:=zaf (by simp)
    have hset: ∀ y,siM (pre++[d]) (pre.length:Int) y=some (pre++[y]):=fun y=>by
     rw[zfu (by simp)]
     simp
    rw[hw,aF (show(0:Int)<=(pre.length:Int) by omega),aD,hgd,aA,aA,show decide ((0:Int)< (d.Lines.length:Int))=decide (0<d.Lines.length) from decide_eq_decide.2 (by omega)]
    cases decide (0<d.Lines.length)with
    |true=>
     simp only[aD,hg,aA,ap1 (xs:=d.Lines) (x:=x) (by omega),hset,hs1]
     refine ih _ _ (by omega) (by omega) (by simp;omega) (fun e h1=>?_)
     rcases List.mem_append.1 h1 with h1 |h1
     ·have:=hd e (by simp[h1]);omega
     ·rw[List.mem_singleton.1 h1];simp;omega
    |false=>
     simp only[aC,hg,aA,ap1 (xs:=pre++[d]) (x:=(⟨0,0,[x]⟩:Delta)) (by simp;omega),hs1]
     refine ih _ _ (by omega) (by omega) (by simp;omega) (fun e h1=>?_)
     rcases List.mem_append.1 h1 with h1 |h1
     ·have:=hd e h1;omega
     ·rw[List.mem_singleton.1 h1];simp;omega
theorem zjp {base t:List Str}(hb:base.length<=1000)(ht:t.length<=1000):zeO base t=some (deltaL base t):=by
 unfold zeO deltaL
 simp only[jn,zaA]
 exact zjo hb t.length [] t (t.length+1) (Nat.le_refl _) (by omega) (by simp;omega) (fun d h=>by simp at h)
section
variable {base t:List Str}(hb:zao base=true)(ht:zao t=true)
include hb ht
theorem zjX:zd3 (deltaL base t)=some true:=by
 have lb:=zaj hb
 have lt:=zaj ht
 obtain⟨d1,d2,d3⟩:=zdo base t
 unfold zd3
 rw[aE (by omega),aC]
 simp only[jn,zaA]
 generalize hds:deltaL base t=ds at*
 rw[zbg (n:=ds.length) (g:=fun _=>true) (r0:=some false) (Z:=some true) (f:=fun m i=>zbF ds (fun _ _=>some true) m false i) (fun m i hi=>by
  have hx:ds[i]? =some ds[i]:=aB hi
  have hm:=List.getElem_mem hi
  have ptx:zao ds[i].Lines=true:=zjW ht (base:=base) (d:=ds[i]) (by rw[hds];exact hm)
  simp only[zbF,jn,zat hx,zaf hx,aD,aA,zag hi (show ds.length<=maxi by unfold maxi;omega),zdm]
  rcases d2 ds[i] hm with ⟨p1,p2,p3,_⟩ |⟨p1,p2,p3,p4⟩
  ·have pl:=zaj ptx
   rw[aF (show(0:Int)< (ds[i].Lines.length:Int) by omega),aD,p2,p3,zes (zc9 (show ds[i].Lines.length<=1000000 by omega) (zaO ptx)),ptx]
   rfl
  ·have e1:w64 (10-ds[i].From)=10-ds[i].From:=zar (by omega) (by omega)
   rw[p1]
   simp only[List.length_nil,e1,aF p2,aF (show ds[i].From<=10 by omega),aF p3,aF (show ds[i].Many<=10-ds[i].From by omega)]
   rfl) (fun m=>by simp only[zbF,zai,aC]) _ (by omega),zau.2 (fun _ _ _=>rfl),aD]
theorem zmF (ds:List Delta)(i:Nat):(doL base (ds.take i)).length<=(doL base ds).length:=by
 have:doL base ds=doL base (ds.take i)++doL base (ds.drop i):=by
  unfold doL
  rw[<- List.flatMap_append,List.take_append_drop]
 rw[this,List.length_append]
 omega
theorem zhb:zcm base (deltaL base t)=some (t,true):=by
 have lb:=zaj hb
 have lt:=zaj ht
 obtain⟨d1,d2,d3⟩:=zdo base t
 have hok:=zjX hb ht
 unfold zcm
 rw[zes (zc9 (show base.length<=1000000 by omega) (zaO hb)),hb]
 simp only[jn,hok,aA,aK,aC,zaA]
 generalize deltaL base t=ds at*
 have:=(zcq (xs:=ds) (g:=fun s d=>s++zcF base d) (I:=fun i s=>s=doL base (ds.take i)) (Z:=fun a=>(zbv a).bind fun d=>bif(!d) then some (([]:List Str),false) else some (a,true)) (f:=fun m s i=>zbG base ds (fun _ _ a _=>(zbv a).bind fun d=>bif(!d) then some (([]:List Str),false) else some (a,true)) m [] false s i) (s:=[]) (by simp[doL]) (fun m i x s hx hI=>by
  have hi:=zaP hx
  have hm:=aH hx
  have hsl:=zmF hb ht ds i
  rw[d1,<- hI]at hsl
  have hpl:=ziT (base:=base) hm
  rw[d1]at hpl
  refine⟨?_,?_⟩
  ·simp only[zbG,jn,zat hx,zaf hx,aD,aA,zag hi (show ds.length<=maxi by unfold maxi;omega)]
   rw[show decide ((0:Int)< (x.Lines.length:Int))=decide (0<x.Lines.length) from decide_eq_decide.2 (by omega)]
   unfold zcF at hpl ⊢
   cases hd:decide (0<x.Lines.length)with
   |true=>
    rw[hd,aD]at hpl
    rw[aD,aD,apT (by omega) (by omega),aA]
   |false=>
    rw[hd,aC]at hpl
    have hn0: ¬ 0<x.Lines.length:=by simpa using hd
    rcases d2 x hm with ⟨p1,_⟩ |⟨p1,p2,p3,p4⟩
    ·omega
    ·have e1:w64 (x.From+x.Many)=x.From+x.Many:=zar (by omega) (by omega)
     rw[aC,aC,e1,aE (by omega),aC,zh4 p2 (by omega) p4,aA]
     have e2:(base.take (x.From+x.Many).toNat).drop x.From.toNat=(base.drop x.From.toNat).take x.Many.toNat:=by
      rw[List.drop_take]
      congr 1
      omega
     rw[e2,apT (by omega) (by omega),aA]
  ·rw[hI,List.take_add_one,hx]
   simp[doL]) (fun m s _=>by simp only[zbG,zai,aC])).1
 refine this.trans ?_
 have e3:ds.foldl (fun s d=>s++zcF base d) []=t:=by
  have h1: ∀ (l:List Delta) (s:List Str),l.foldl (fun s d=>s++zcF base d) s=s++l.flatMap (zcF base):=by
   intro l
   induction l with
   |nil=>intro s;simp
   |cons d l ih=>intro s;rw[List.foldl_cons,ih,List.flatMap_cons,List.append_assoc]
  rw[h1,List.nil_append]
  exact d1
 rw[e3,zes (zc9 (show t.length<=1000000 by omega) (zaO ht)),ht]
 rfl
end
theorem zgB (d:List Delta)(h:d.length<=1000): ∃ z,zec d=some z:=by
 unfold zec
 simp only[jn,zaA]
 obtain⟨s,e,_⟩:=zfn (n:=d.length) (I:=fun _ (_:Int)=>True) (Z:=fun a=>some a) (f:=fun m s i=>zb6 d (fun a _=>some a) m s i) (fun m i s hi _=>by
  have hx:d[i]? =some d[i]:=aB hi
  refine⟨w64 (s+(d[i].Lines.length:Int)),?_,trivial⟩
  simp only[zb6,zat hx,zaf hx,aD,aA,zag hi (show d.length<=maxi by unfold maxi;omega)]) (fun m s _=>by simp only[zb6,zai,aC]) d.length 0 (d.length+1) (d.length:Int) (by omega) (by omega) trivial
 exact⟨s,e⟩
def zpw (list:List (List Str))(ds:List Int)(i:Nat)(t:List Str)(b dep:Int)(d:List Delta):Prop:=(b = -1/\d=deltaL [] t/\dep=1) \/ ∃ k o dk,k<i/\b=(k:Int)/\list[k]? =some o/\ds[k]? =some dk/\d=deltaL o t/\dep=dk+1/\dk<=2
def zrw (list:List (List Str))(i:Nat)(s:List Packed×List Int):Prop:=s.1.length=i/\s.2.length=i /\ ∀ j,j<i -> ∃ p dep t,s.1[j]? =some p/\s.2[j]? =some dep/\list[j]? =some t/\1<=dep/\dep<=3/\zpw list s.2 j t p.Base dep p.Delta
theorem zpw.snoc {list:List (List Str)}{ds:List Int}{i:Nat}{t:List Str}{b dep z:Int}{d:List Delta}(h:zpw list ds i t b dep d):zpw list (ds++[z]) i t b dep d:=by
 rcases h with h |⟨k,o,dk,h1,h2,h3,h4,h5⟩
 ·exact .inl h
 ·exact .inr ⟨k,o,dk,h1,h2,h3,by rw[aM (List.getElem?_eq_some_iff.1 h4).1];exact h4,h5⟩
section
variable {list:List (List Str)}(h12:list.length<=12)(hl: ∀ t∈list,zao t=true)
include h12 hl
theorem ziU: ∃ p ds,zeE list=some p/\zrw list list.length (p,ds):=by
 unfold zeE
 rw[aE (by omega),aC]
 simp only[jn,zaA]
 rw[zbg (n:=list.length) (g:=fun _=>true) (r0:=some []) (Z:=zaQ list (fun a _ _=>some a) (list.length+1) [] [] 0) (f:=fun m i=>zb7 list (fun _ _=>zaQ list (fun a _ _=>some a) (list.length+1) [] [] 0) m [] i) (fun m i hi=>by
  have hx:list[i]? =some list[i]:=aB hi
  have ht:=hl _ (List.getElem_mem hi)
  have htl:=zaj ht
  simp only[zb7,zat hx,zaf hx,aD,aA,zag hi (show list.length<=maxi by unfold maxi;omega),zes (zc9 (show list[i].length<=1000000 by omega) (zaO ht)),ht,aK,aC]) (fun m=>by simp only[zb7,zai,aC]) _ (by omega),zau.2 (fun _ _ _=>rfl),aD]
 obtain⟨s,e,hI⟩:=zfn (n:=list.length) (I:=zrw list) (Z:=fun s=>some s.1) (f:=fun m s i=>zaQ list (fun a _ _=>some a) m s.1 s.2 i) (fun m i s hi hI=>by
  obtain⟨i1,i2,i3⟩:=hI
  have hx:list[i]? =some list[i]:=aB hi
  have ht:=hl _ (List.getElem_mem hi)
  have htl:=zaj ht
  have htk:(list.take i).length=i:=by rw[List.length_take];omega
  -- the best one ahead
  have inner: ∀ K:Int->Int->Int->List Delta->Option (List Packed),(∀ e z z' b d,K e z b d=K e z' b d) -> ∃ b dep d,zbp s.2 list[i] (list.take i) K (i+1) 1 0 (-1) (deltaL [] list[i])=K dep 0 b d/\1<=dep/\dep<=3/\zpw list s.2 i list[i] b dep d:=fun K hK=>by
   obtain⟨q,e,h1,h2,h3⟩:=zfn (n:=i) (I:=fun _ (q:Int×Int×List Delta)=>1<=q.1/\q.1<=3/\zpw list s.2 i list[i] q.2.1 q.1 q.2.2) (Z:=fun q=>K q.1 0 q.2.1 q.2.2) (f:=fun m q k=>zbp s.2 list[i] (list.take i) K m q.1 k q.2.1 q.2.2) (fun m k q hk hq=>by
    have hxk:(list.take i)[k]? =some list[k]:=by rw[List.getElem?_take_of_lt hk];exact aB (by omega)
    have hok:=zaj (hl _ (List.getElem_mem (show k<list.length by omega)))
    obtain⟨p,dep,t,j1,j2,j3,j4,j5,j6⟩:=i3 k hk
    obtain⟨qb,qd,qp⟩:=hq
    have hpl:q.2.2.length<=1000:=by
     rcases qp with ⟨_,w,_⟩ |⟨_,o,_,_,_,_,_,w,_⟩<;>rw[w]
     ·have:=(zdo [] list[i]).2.2;omega
     ·have:=(zdo o list[i]).2.2;omega
    have hnl:(deltaL list[k] list[i]).length<=1000:=by have:=(zdo list[k] list[i]).2.2;omega
    obtain⟨z1,s1⟩:=zgB _ hnl
    obtain⟨z2,s2⟩:=zgB _ hpl
    simp only[zbp,jn,zat hxk,zaf hxk,zaf j2,aD,aA,zag (show k< (list.take i).length by omega) (show(list.take i).length<=maxi by unfold maxi;omega),zjp (show list[k].length<=1000 by omega) (show list[i].length<=1000 by omega),s1,s2]
    cases h3:decide ((3:Int)<=dep)with
    |true=>exact⟨q,rfl,qb,qd,qp⟩
    |false=>
     have h3':dep<=2:=by
      have: ¬ (3:Int)<=dep:=by simpa using h3
      omega
     simp only[aC]
     cases decide (z1<z2)with
     |false=>exact⟨q,rfl,qb,qd,qp⟩
     |true=>
      refine⟨(dep+1,(k:Int),deltaL list[k] list[i]),?_,by show 1<=dep+1;omega,by show dep+1<=3;omega, .inr ⟨k,list[k],dep,hk,rfl,aB (by omega),j2,rfl,rfl,h3'⟩⟩
      simp only[aD,zar (show -9223372036854775808<=dep+1 by omega) (show dep+1<=9223372036854775807 by omega)]) (fun m q _=>by
     have:=zai (list.take i).length
     rw[htk]at this
     simp only[zbp,htk,this,aC]
     exact hK _ _ _ _ _) i 0 (i+1) (1,-1,deltaL [] list[i]) (by omega) (by omega) ⟨by show(1:Int)<=1;omega,by show(1:Int)<=3;omega, .inl ⟨rfl,rfl,rfl⟩⟩
   exact⟨q.2.1,q.1,q.2.2,e,h1,h2,h3⟩
  obtain⟨b,dep,d,e,h1,h2,h3⟩:=inner (fun h o i' j=>(apM s.1 [Packed.mk i' j]).bind fun k=>(apM s.2 [h]).bind fun l=>zaQ list (fun a _ _=>some a) m k l ((i+1:Nat):Int)) (fun _ _ _ _ _=>rfl)
  refine⟨(s.1++[⟨b,d⟩],s.2++[dep]),?_,by simp[i1],by simp[i2],fun j hj=>?_⟩
  ·simp only[zaQ,jn,zat hx,zaf hx,aD,aA,zjp (base:=[]) (by simp) (show list[i].length<=1000 by omega),zfI (show i<=list.length by omega),zag hi (show list.length<=maxi by unfold maxi;omega),zaA,htk]
   rw[e,ap1 (by omega),aA,ap1 (by omega),aA]
  ·rcases Nat.lt_or_ge j i with hji |hji
   ·obtain⟨p,dp,t,j1,j2,j3,j4,j5,j6⟩:=i3 j hji
    exact⟨p,dp,t,by rw[aM (by omega)];exact j1,by rw[aM (by omega)];exact j2,j3,j4,j5,j6.snoc⟩
   ·obtain rfl:j=i:=by omega
    exact⟨⟨b,d⟩,dep,list[j],by rw[aN (by omega),i1];simp,by rw[aN (by omega),i2];simp,hx,h1,h2,h3.snoc⟩) (fun m s _=>by simp only[zaQ,zai,aC]) list.length 0 (list.length+1) ([],[]) (by omega) (by omega) ⟨rfl,rfl,fun j hj=>by omega⟩
 exact⟨s.1,s.2,e,hI⟩
theorem zlb {p:List Packed}{ds:List Int}(hp:zrw list list.length (p,ds)):zeF p=some (list,true):=by
 obtain⟨p1,p2,p3⟩:=hp
 simp only at p1 p2 p3
 unfold zeF
 rw[aE (by omega),aC]
 simp only[jn,zaA]
 obtain⟨s,e,hI⟩:=zfn (n:=p.length) (I:=fun i (s:List (List Str)×List Int)=>s=(list.take i,ds.take i)) (Z:=fun s=>some (s.1,true)) (f:=fun m s i=>zb8 p (fun _ _ a _ _=>some (a,true)) m [] false s.1 s.2 i) (fun m i s hi hI=>by
  subst hI
  have hx:p[i]? =some p[i]:=aB hi
  obtain⟨q,dep,t,j1,j2,j3,j4,j5,j6⟩:=p3 i (by omega)
  rw[hx]at j1
  cases j1
  have ht:=hl t (aH j3)
  have htl:(list.take i).length<=1000:=by rw[List.length_take];omega
  have hdl:(ds.take i).length<=1000:=by rw[List.length_take];omega
  have g1:list.take i++[t]=list.take (i+1):=by rw[List.take_add_one,j3];rfl
  have g2:ds.take i++[dep]=ds.take (i+1):=by rw[List.take_add_one,j2];rfl
  have hw:w64 ((i:Int)-1)=(i:Int)-1:=zar (by omega) (by omega)
  refine⟨_,?_,rfl⟩
  simp only[zb8,jn,zat hx,zaf hx,aD,aA,zag hi (show p.length<=maxi by unfold maxi;omega),zdm,hw]
  rcases j6 with ⟨b1,b2,b3⟩ |⟨k,o,dk,b1,b2,b3,b4,b5,b6,b7⟩
  ·subst b3
   rw[b1,b2]
   have e0:zcm [] (deltaL [] t)=some (t,true):=zhb rfl ht
   rw[aF (show(-1:Int) <= -1 by omega),aF (show(-1:Int)<=(i:Int)-1 by omega),aE (show ¬ (0:Int) <= -1 by omega)]
   simp only[Bool.and_self,aK,aC,e0,aA,aE (show ¬ (3:Int)<1 by omega),ap1 (x:=t) (show(list.take i).length<=1048576 by omega),ap1 (x:=(1:Int)) (show(ds.take i).length<=1048576 by omega),g1,g2]
  ·have ho:=hl o (aH b3)
   have e0:zcm o (deltaL o t)=some (t,true):=zhb ho ht
   have k1:gi (list.take i) (k:Int)=some o:=zaf (by rw[List.getElem?_take_of_lt b1];exact b3)
   have k2:gi (ds.take i) (k:Int)=some dk:=zaf (by rw[List.getElem?_take_of_lt b1];exact b4)
   have hw2:w64 (dk+1)=dep:=by rw[zar (by omega) (by omega)];omega
   rw[b2,aF (show(-1:Int)<=(k:Int) by omega),aF (show(k:Int)<=(i:Int)-1 by omega),aF (show(0:Int)<=(k:Int) by omega),b5]
   simp only[Bool.and_self,aK,aC,aD,k1,k2,hw2,e0,aA,aE (show ¬ (3:Int)<dep by omega),ap1 (x:=t) (show(list.take i).length<=1048576 by omega),ap1 (x:=dep) (show(ds.take i).length<=1048576 by omega),g1,g2]) (fun m s _=>by simp only[zb8,zai,aC]) p.length 0 (p.length+1) ([],[]) (by omega) (by omega) rfl
 refine e.trans ?_
 rw[hI,p1,List.take_length]
theorem zjY {p:List Packed}{ds:List Int}(hp:zrw list list.length (p,ds)){i:Nat}{t:List Str}(ht:list[i]? =some t):zd4 p (i:Int)=some (t,true):=by
 have hi:=zaP ht
 have hpl:=hp.1
 simp only at hpl
 unfold zd4
 rw[zlb h12 hl hp,aA]
 simp only[jn,aK,aC,zdm,aA,ze5 (show p.length<=maxi by unfold maxi;omega)]
 rw[aF (show(0:Int)<=(i:Int) by omega),aF (show(i:Int)<=(p.length:Int)-1 by omega),zaf ht]
 rfl
end
end Go.Vm
