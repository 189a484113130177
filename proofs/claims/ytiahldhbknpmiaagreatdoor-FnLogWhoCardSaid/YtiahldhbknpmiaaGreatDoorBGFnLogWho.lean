/- Plain law FnLogWho, and what it uses: what the models answer. Conditions: each law's own premises. -/
import Derived.Test.YtiahldhbknpmiaaGreatDoorBM0
import Derived.Test.YtiahldhbknpmiaaGreatDoorBM1
import Derived.Test.YtiahldhbknpmiaaGreatDoorBM2
import Derived.Test.YtiahldhbknpmiaaGreatDoorBM5
import Derived.Test.YtiahldhbknpmiaaGreatDoorBM11
import Derived.Test.YtiahldhbknpmiaaGreatDoorBLw
import Derived.Sort.Walk0
import Derived.Lib.SplitLaws
import Derived.Test.YtiahldhbknpmiaaGreatDoorBX
import Derived.Lib.Join
namespace Go.Vm
open Go Go.Sx
set_option linter.unusedSimpArgs false
set_option linter.unusedVariables false
def chB (c:UInt8):Bool:= !(decide ((c.toNat:Int)<32)||decide (126< (c.toNat:Int)))
def zbQ (s:Str):Bool:= !decide (12< (s.length:Int))&&s.all chB
def zao (xs:List Str):Bool:= !decide (10< (xs.length:Int))&&xs.all zbQ
theorem zjO (a b:Int):decide (a<=b) = !decide (b<a):=by
 by_cases h:a<=b
 ·rw[aF h,aE (by omega)];rfl
 ·rw[aE h,aF (by omega)];rfl
theorem zjP {s:Str}(h:s.length<=maxi):zgi s=some (zbQ s):=by
 unfold zgi zbQ
 simp only[jn,zap]
 cases decide ((12:Int)< (s.length:Int))
 case true=>rfl
 rw[aC,zat (α:=UInt8) (xs:=s) (p:=chB) (r0:=some false) (Z:=some true) (f:=fun m i=>zcl s (fun _ _=>some true) m false i) (fun m i x hx=>by
  simp only[zcl,jn,zan hx,zf2 hx,aD,aA,zae (zar hx) h,chB]
  cases decide ((x.toNat:Int)<32)<;>cases decide (126< (x.toNat:Int))<;>rfl) (fun m=>by simp only[zcl,zaf,aC]) (by omega)]
 cases s.all chB<;>rfl
theorem zjQ {s:Str}(h:s.length<=maxi):zgf s=some (zbQ s):=by
 unfold zgf zbQ
 simp only[jn,zap,zjO]
 rw[zat (α:=UInt8) (xs:=s) (p:=chB) (r0:=some false) (Z:=some (!decide (12< (s.length:Int)))) (f:=fun m i=>zcd s (fun _ _=>some (!decide (12< (s.length:Int)))) m false i) (fun m i x hx=>by
  simp only[zcd,jn,zan hx,zf2 hx,aD,aA,zae (zar hx) h,chB]
  cases decide ((x.toNat:Int)<32)<;>cases decide (126< (x.toNat:Int))<;>rfl) (fun m=>by simp only[zcd,zaf,aC]) (by omega)]
 cases s.all chB<;>cases decide (12< (s.length:Int))<;>rfl
theorem zep {xs:List Str}(h:Bk.fit xs):zca xs=some (zao xs):=by
 have hl:=zjE h
 unfold zca zao
 simp only[jn,zap]
 cases decide ((10:Int)< (xs.length:Int))
 case true=>rfl
 rw[aC,zat (α:=Str) (xs:=xs) (p:=zbQ) (r0:=some false) (Z:=some true) (f:=fun m i=>zcm xs (fun _ _=>some true) m false i) (fun m i x hx=>by
  have hx2:x.length<=maxi:=zlB h hx
  simp only[zcm,zan hx,zad hx,aD,aA,zae (zar hx) hl,zjP hx2]
  cases zbQ x<;>rfl) (fun m=>by simp only[zcm,zaf,aC]) (by omega)]
 cases xs.all zbQ<;>rfl
theorem zh5 {xs:List Str}(h:Bk.fit xs):zcX xs=some (zao xs):=by
 have hl:=zjE h
 unfold zcX zao
 simp only[jn,zap,zjO]
 rw[zat (α:=Str) (xs:=xs) (p:=zbQ) (r0:=some false) (Z:=some (!decide (10< (xs.length:Int)))) (f:=fun m i=>zdj xs (fun _ _=>some (!decide (10< (xs.length:Int)))) m false i) (fun m i x hx=>by
  have hx2:x.length<=maxi:=zlB h hx
  simp only[zdj,zan hx,zad hx,aD,aA,zae (zar hx) hl,zjQ hx2]
  cases zbQ x<;>rfl) (fun m=>by simp only[zdj,zaf,aC]) (by omega)]
 cases xs.all zbQ<;>cases decide (10< (xs.length:Int))<;>rfl
theorem zav {t:List Str}(h:zao t=true):t.length<=10:=by
 unfold zao at h
 simp only[aG,Bool.not_eq_true',decide_eq_false_iff_not]at h
 omega
theorem zaO {t:List Str}(h:zao t=true): ∀ s∈t,zbQ s=true:=by
 unfold zao at h
 simp only[aG,List.all_eq_true]at h
 exact h.2
theorem zg0 {s:Str}(h:zbQ s=true):s.length<=12:=by
 unfold zbQ at h
 simp only[aG,Bool.not_eq_true',decide_eq_false_iff_not]at h
 omega
theorem ze5 {xs ys:List Str}(h:xs.length<=maxi):zff xs ys=some (xs==ys):=by
 unfold zff
 simp only[zhQ,jn,zap]
 by_cases hn:xs.length=ys.length
 ·rw[hn,aO,aK,aC,<- hn]
  rw[zgZ (α:=Str) (r0:=some false) (Z:=some true) (f:=fun m i=>zci xs ys (fun _ _=>some true) m false i) hn (fun m i x y hx hy=>by
   simp only[zci,zan hx,zad hx,zad hy,aD,aA,zae (zar hx) h,bne]
   cases x==y<;>rfl) (fun m=>by simp only[zci,zaf,aC]) (by omega)]
  cases xs==ys<;>rfl
 ·rw[beq_false_of_ne hn,Bool.not_false,aD,beq_false_of_ne (fun e=>hn (by rw[e]))]
theorem zjR {a b:Int}(ha:0<=a)(ha':a<=9223372036854775807)(hb:0<=b)(hb':b<=9223372036854775807):0<=zng a b/\zng a b<=9223372036854775807:=by
 obtain⟨n,rfl⟩:=Int.eq_ofNat_of_zero_le ha
 obtain⟨m,rfl⟩:=Int.eq_ofNat_of_zero_le hb
 have hn:n<2 ^ 63:=by omega
 have hm:m<2 ^ 63:=by omega
 have hx:n ^^^ m<2 ^ 63:=Nat.xor_lt_two_pow hn hm
 have h1:(BitVec.ofInt 64 (n:Int) ^^^ BitVec.ofInt 64 (m:Int)).toNat=n ^^^ m:=by
  rw[BitVec.toNat_xor,BitVec.toNat_ofInt,BitVec.toNat_ofInt]
  have e1:((n:Int) % (2 ^ 64:Nat)).toNat=n:=by omega
  have e2:((m:Int) % (2 ^ 64:Nat)).toNat=m:=by omega
  rw[e1,e2]
 unfold zng
 rw[h1]
 have:=zag (n:=((n ^^^ m:Nat):Int)) (by omega) (by omega)
 unfold w64 at this
 rw[this]
 omega
theorem zcF {a n:Int}(ha:0<=a)(hn:0<n):0<=Int.tmod a n/\Int.tmod a n<n:=⟨Int.tmod_nonneg n ha,Int.tmod_lt_of_pos a hn⟩
def zb6 (r:l30Rd)(p:Int):Prop:=r.b.length<=2000/\0<=r.p/\r.p<=p
theorem zec (u:UInt8):0<=((UInt8.toNat u:Nat):Int)/\((UInt8.toNat u:Nat):Int)<=255:=by
 have:=UInt8.toNat_lt u
 omega
theorem zf6 {a n:Int}(ha:0<=a)(hn:0<n):0<=Int.tdiv a n/\Int.tdiv a n<=a:=⟨Int.tdiv_nonneg ha (by omega),Int.tdiv_le_self n ha⟩
theorem zb4 {r:l30Rd}{n p:Int}(h:zb6 r p)(hp:p<=1099511627776)(hn:0<n)(hn':n<=1073741824): ∃ k,zax r n=some (k,r.p+1)/\0<=k/\k<n:=by
 obtain⟨hb,h0,h1⟩:=h
 unfold zax
 have e1:w64 (r.p+1)=r.p+1:=zag (by omega) (by omega)
 have e2:w64 (r.p+1-1)=r.p:=by rw[zag (by omega) (by omega)];omega
 simp only[jn,e1,e2]
 rw[aE (show ¬ n<1 by omega),aC]
 cases hl:(((r.b.length:Int))==(0:Int))with
 |true=>exact⟨0,rfl,by omega,hn⟩
 |false=>
  have hlen:0< (r.b.length:Int):=by
   have:(r.b.length:Int)≠0:=by simpa using hl
   omega
  rw[aC]
  by_cases hlt:r.p< (r.b.length:Int)
  ·obtain⟨u,hu⟩:=zeJ h0 hlt
   obtain⟨u0,u1⟩:=zec u
   rw[aF hlt,aD,hu,aA,if_neg (by omega),aA,zag (by omega) (by omega)]
   exact⟨_,rfl,zcF u0 hn⟩
  ·rw[aE hlt,aC,if_neg (by omega),aA]
   obtain⟨a0,a1⟩:=zcF h0 hlen
   obtain⟨u,hu⟩:=zeJ a0 a1
   obtain⟨u0,u1⟩:=zec u
   have e3:w64 (r.p*7)=r.p*7:=zag (by omega) (by omega)
   have e4:w64 (r.p*7+3)=r.p*7+3:=zag (by omega) (by omega)
   obtain⟨b0,b1⟩:=zcF (show 0<=r.p*7+3 by omega) hlen
   obtain⟨v,hv⟩:=zeJ b0 b1
   obtain⟨v0,v1⟩:=zec v
   obtain⟨d0,d1⟩:=zf6 h0 hlen
   rw[hu,aA,if_neg (by omega),aA,e3,e4,hv,aA,aA,aA]
   rw[zag (n:=(UInt8.toNat u:Int)) (by omega) (by omega),zag (n:=(UInt8.toNat u:Int)*131) (by omega) (by omega),
    zag (n:=(UInt8.toNat v:Int)) (by omega) (by omega),zag (n:=(UInt8.toNat v:Int)*1117) (by omega) (by omega),
    zag (n:=(UInt8.toNat u:Int)*131+(UInt8.toNat v:Int)*1117) (by omega) (by omega),zag (n:=r.p*29) (by omega) (by omega),
    zag (n:=(UInt8.toNat u:Int)*131+(UInt8.toNat v:Int)*1117+r.p*29) (by omega) (by omega),
    zag (n:=Int.tdiv r.p (r.b.length:Int)) (by omega) (by omega),zag (n:=Int.tdiv r.p (r.b.length:Int)*53) (by omega) (by omega),
    zag (n:=(UInt8.toNat u:Int)*131+(UInt8.toNat v:Int)*1117+r.p*29+Int.tdiv r.p (r.b.length:Int)*53) (by omega) (by omega)]
   obtain⟨q0,q1⟩:=zf6 (a:=(UInt8.toNat u:Int)*131+(UInt8.toNat v:Int)*1117+r.p*29+Int.tdiv r.p (r.b.length:Int)*53) (n:=64) (by omega) (by omega)
   rw[zag (n:=Int.tdiv ((UInt8.toNat u:Int)*131+(UInt8.toNat v:Int)*1117+r.p*29+Int.tdiv r.p (r.b.length:Int)*53) 64) (by omega) (by omega)]
   exact⟨_,rfl,zcF (zjR (by omega) (by omega) (by omega) (by omega)).1 hn⟩
theorem zb6.on {r:l30Rd}{p q:Int}(h:zb6 r p)(k:Int)(hk:0<=k)(hq:r.p+k<=q):zb6 ⟨r.b,r.p+k⟩ q:=⟨h.1,by have:=h.2.1;show 0<=r.p+k;omega,hq⟩
theorem zmn {code:List Byte}(h:code.length<=1048576): ∃ b:List Byte,zcR code=some ⟨b,0⟩/\b.length<=2000:=by
 unfold zcR
 simp only[jn]
 by_cases hl:(2000:Int)< (code.length:Int)
 ·rw[aF hl,aD]
  have:slM code 0 2000=some (code.take 2000):=zgp (i:=2000) (by omega)
  rw[this,aA]
  exact⟨_,rfl,by simp;omega⟩
 ·rw[aE hl,aC]
  exact⟨_,rfl,by omega⟩
def zeK:List Str->List Str->Int
 | [],_=>0
 |_:: _,[]=>0
 |x::xs,y::ys=>if x==y then zeK xs ys+1 else zmU (zeK xs (y::ys)) (zeK (x::xs) ys)
termination_by a b=>a.length+b.length
theorem ziu (b:List Str):zeK [] b=0:=by rw[zeK]
theorem zhm (a:List Str):zeK a []=0:=by cases a<;>rw[zeK]
theorem zhn (x y:Str)(xs ys:List Str):zeK (x::xs) (y::ys)=if x==y then zeK xs ys+1 else zmU (zeK xs (y::ys)) (zeK (x::xs) ys):=by rw[zeK]
theorem zbV: ∀ (n:Nat) (a b:List Str),a.length+b.length<=n->0<=zeK a b/\zeK a b<=a.length
 |_,[],b,_=>by rw[ziu];simp
 |_,x::xs,[],_=>by rw[zhm];simp;omega
 |0,x::xs,y::ys,h=>by simp at h
 |n+1,x::xs,y::ys,h=>by
  simp only[aL]at h
  have h1:=zbV n xs ys (by omega)
  have h2:=zbV n xs (y::ys) (by simp;omega)
  have h3:=zbV n (x::xs) ys (by simp;omega)
  rw[zhn]
  simp only[aL]at*
  split
  ·omega
  ·unfold zmU;split<;>omega
theorem zmo (a b:List Str):0<=zeK a b:=(zbV _ a b (Nat.le_refl _)).1
theorem zmp (a b:List Str):zeK a b<=a.length:=(zbV _ a b (Nat.le_refl _)).2
def zfI (n:Nat)(g:Nat->Int):List Int:=(List.range n).map g
def zed (n m:Nat)(f:Nat->Nat->Int):List (List Int):=(List.range n).map fun i=>zfI m (f i)
theorem zi0 {n:Nat}{g g':Nat->Int}(h: ∀ k,k<n->g k=g' k):zfI n g=zfI n g':=by
 unfold zfI
 exact List.map_congr_left fun k hk=>h k (List.mem_range.1 hk)
theorem zcY {n m:Nat}{f f':Nat->Nat->Int}(h: ∀ i k,i<n->k<m->f i k=f' i k):zed n m f=zed n m f':=by
 unfold zed
 exact List.map_congr_left fun i hi=>zi0 fun k hk=>h i k (List.mem_range.1 hi) hk
theorem zf7 {n k:Nat}{g:Nat->Int}(h:k<n):gi (zfI n g) (k:Int)=some (g k):=zad (by simp[zfI,h])
theorem zf8 {n m i:Nat}{f:Nat->Nat->Int}(h:i<n):gi (zed n m f) (i:Int)=some (zfI m (f i)):=zad (by simp[zed,h])
theorem zjk {n k:Nat}{g:Nat->Int}{v:Int}(h:k<n):siM (zfI n g) (k:Int) v=some (zfI n fun k'=>if k'=k then v else g k'):=by
 rw[zcu (by simp[zfI,h])]
 congr 1
 apply List.ext_getElem?
 intro j
 unfold zfI
 by_cases hj:j=k
 ·subst hj
  rw[List.getElem?_set_self (by simp[h])]
  simp[h]
 ·rw[List.getElem?_set_ne (Ne.symm hj)]
  by_cases hl:j<n
  ·simp[hl,hj]
  ·rw[List.getElem?_eq_none (by simp;omega),List.getElem?_eq_none (by simp;omega)]
theorem zjl {n m i:Nat}{f:Nat->Nat->Int}{g:Nat->Int}(h:i<n):siM (zed n m f) (i:Int) (zfI m g)=some (zed n m fun i'=>if i'=i then g else f i'):=by
 rw[zcu (by simp[zed,h])]
 congr 1
 apply List.ext_getElem?
 intro j
 unfold zed
 by_cases hj:j=i
 ·subst hj
  rw[List.getElem?_set_self (by simp[h])]
  simp[h]
 ·rw[List.getElem?_set_ne (Ne.symm hj)]
  by_cases hl:j<n
  ·simp[hl,hj]
  ·rw[List.getElem?_eq_none (by simp;omega),List.getElem?_eq_none (by simp;omega)]
section
variable (a b:List Str)
def zaM (i k:Nat):Int:=zeK (a.drop i) (b.drop k)
def zaX (i k i' k':Nat):Int:=if i<i'\/(i=i'/\k<=k') then zaM a b i' k' else 0
def znh:List (List Int):=zed (a.length+1) (b.length+1) (zaM a b)
end
section
variable {a b:List Str}
theorem zjS (i:Nat):zaM a b i b.length=0:=by unfold zaM;rw[List.drop_length,zhm]
theorem zi1 (k:Nat):zaM a b a.length k=0:=by unfold zaM;rw[List.drop_length,ziu]
theorem zjm (i k:Nat):0<=zaM a b i k:=zmo _ _
theorem zjn (i k:Nat):zaM a b i k<=a.length:=by
 have:=zmp (a.drop i) (b.drop k)
 unfold zaM
 simp only[List.length_drop]at this
 omega
theorem zhb {i k:Nat}{x y:Str}(hx:a[i]? =some x)(hy:b[k]? =some y):zaM a b i k=if x==y then zaM a b (i+1) (k+1)+1 else zmU (zaM a b (i+1) k) (zaM a b i (k+1)):=by
 have hi:=zar hx
 have hk:=zar hy
 have ex:a[i]=x:=by rw[aB hi]at hx;exact Option.some.inj hx
 have ey:b[k]=y:=by rw[aB hk]at hy;exact Option.some.inj hy
 unfold zaM
 rw[aI hi,aI hk,zhn,ex,ey]
theorem zdC {i k:Nat}{v:Int}(hv:v=zaM a b i k)(n m:Nat):zed n m (fun i'=>if i'=i then(fun k'=>if k'=k then v else zaX a b i (k+1) i k') else zaX a b i (k+1) i')=zed n m (zaX a b i k):=by
 refine zcY fun i' k' _ _=>?_
 by_cases h1:i'=i
 ·subst h1
  rw[if_pos rfl]
  by_cases h2:k'=k
  ·subst h2
   rw[if_pos rfl,hv]
   simp[zaX]
  ·rw[if_neg h2]
   simp only[zaX,Nat.lt_irrefl,false_or,true_and]
   by_cases h3:k+1<=k'
   ·rw[if_pos h3,if_pos (by omega)]
   ·rw[if_neg h3,if_neg (by omega)]
 ·rw[if_neg h1]
  simp only[zaX]
  by_cases h3:i<i'
  ·rw[if_pos (.inl h3),if_pos (.inl h3)]
  ·rw[if_neg (by omega),if_neg (by omega)]
theorem zhc (i:Nat):zed (a.length+1) (b.length+1) (zaX a b (i+1) 0)=zed (a.length+1) (b.length+1) (zaX a b i b.length):=by
 refine zcY fun i' k' _ hk=>?_
 simp only[zaX,Nat.zero_le,and_true]
 by_cases h:i<i'
 ·rw[if_pos (by omega),if_pos (.inl h)]
 ·rw[if_neg (by omega)]
  by_cases h2:i=i'/\b.length<=k'
  ·rw[if_pos (.inr h2),show k'=b.length by omega,zjS]
  ·rw[if_neg (by omega)]
theorem zf9:zed (a.length+1) (b.length+1) (fun _ _=>0)=zed (a.length+1) (b.length+1) (zaX a b a.length 0):=by
 refine zcY fun i' k' hi _=>?_
 simp only[zaX,Nat.zero_le,and_true]
 by_cases h:a.length<i'\/a.length=i'
 ·rw[if_pos h,show i'=a.length by omega,zi1]
 ·rw[if_neg h]
theorem zif:zed (a.length+1) (b.length+1) (zaX a b 0 0)=znh a b:=by
 refine zcY fun i' k' _ _=>?_
 simp only[zaX,Nat.zero_le,and_true]
 rw[if_pos (by omega)]
theorem zjT (hb:b.length<=maxi)(hN:(a.length:Int)+1<=9223372036854775807){i:Nat}(hi:i<a.length){R:Int->List (List Int)->Option (List (List Int))}: ∀ (k m:Nat),k<=b.length->k<m->
 zbK a b (i:Int) R m ((k:Int)-1) (zed (a.length+1) (b.length+1) (zaX a b i k))=R (-1) (zed (a.length+1) (b.length+1) (zaX a b i 0))
 |0,0,_,h=>by omega
 |0,m+1,_,_=>by
  simp only[zbK]
  rw[aE (by omega)];rfl
 |k+1,0,_,h=>by omega
 |k+1,m+1,hk,hm=>by
  unfold maxi at hb
  have hx:a[i]? =some a[i]:=aB hi
  have hy:b[k]? =some b[k]:=aB (by omega)
  have hst:=zhb hx hy
  have e1:(((k+1:Nat):Int)-1)=(k:Int):=by omega
  have e2:w64 ((i:Int)+1)=((i+1:Nat):Int):=by rw[zag (by omega) (by omega)];omega
  have e3:w64 ((k:Int)+1)=((k+1:Nat):Int):=by rw[zag (by omega) (by omega)];omega
  have e4:w64 ((k:Int)-1)=(k:Int)-1:=zag (by omega) (by omega)
  have s1:zaX a b i (k+1) (i+1) (k+1)=zaM a b (i+1) (k+1):=by simp[zaX]
  have s2:zaX a b i (k+1) (i+1) k=zaM a b (i+1) k:=by simp[zaX]
  have s3:zaX a b i (k+1) i (k+1)=zaM a b i (k+1):=by simp[zaX]
  have lo:=zjm (a:=a) (b:=b) (i+1) (k+1)
  have hi':=zjn (a:=a) (b:=b) (i+1) (k+1)
  have ih:=zjT (by unfold maxi;exact hb) hN hi (R:=R) k m (by omega) (by omega)
  simp only[zbK,jn,e1,e2,e3,e4,zad hx,zad hy,aA,aF (show(0:Int)<=(k:Int) by omega),aD,
   zf8 (show i<a.length+1 by omega),zf8 (show i+1<a.length+1 by omega),zf7 (show k<b.length+1 by omega),zf7 (show k+1<b.length+1 by omega),s1,s2,s3,
   zjk (show k<b.length+1 by omega),zjl (show i<a.length+1 by omega)]
  cases he:a[i]==b[k]with
  |true=>
   rw[he,if_pos rfl]at hst
   rw[aD,zag (by omega) (by omega),zdC hst.symm]
   exact ih
  |false=>
   rw[he,if_neg (by simp)]at hst
   rw[aC]
   unfold zmU at hst
   by_cases hc:zaM a b i (k+1)<=zaM a b (i+1) k
   ·rw[if_neg (by omega)]at hst
    rw[aF hc,aD,zdC hst.symm]
    exact ih
   ·rw[if_pos (by omega)]at hst
    rw[aE hc,aC,zdC hst.symm]
    exact ih
theorem zjU (hb:b.length<=maxi)(hN:(a.length:Int)+1<=9223372036854775807)(hNb:(b.length:Int)+1<=9223372036854775807){R:Int->List (List Int)->Option (List (List Int))}: ∀ (i m:Nat),i<=a.length->i<m->
 za4 a b R m ((i:Int)-1) (zed (a.length+1) (b.length+1) (zaX a b i 0))=R (-1) (zed (a.length+1) (b.length+1) (zaX a b 0 0))
 |0,0,_,h=>by omega
 |0,m+1,_,_=>by
  simp only[za4]
  rw[aE (by omega)];rfl
 |i+1,0,_,h=>by omega
 |i+1,m+1,hi,hm=>by
  have e1:(((i+1:Nat):Int)-1)=(i:Int):=by omega
  have e2:w64 ((b.length:Int)-1)=(b.length:Int)-1:=zag (by omega) (by omega)
  have e3:w64 ((i:Int)-1)=(i:Int)-1:=zag (by omega) (by omega)
  simp only[za4,jn,e1,e2,aF (show(0:Int)<=(i:Int) by omega),aD]
  rw[zhc,zjT hb hN (by omega) b.length _ (Nat.le_refl _) (by omega),e3]
  exact zjU hb hN hNb i m (by omega) (by omega)
theorem zjV (ha:a.length<=1000)(hb:b.length<=1000){R:List (List Int)->Int->Option (List (List Int))}: ∀ (n i m:Nat),i+n=a.length+1->n<m->
 zbL a b R m ((List.range i).map (fun _=>zfI (b.length+1) fun _=>0)) (i:Int)=R (zed (a.length+1) (b.length+1) fun _ _=>0) ((a.length+1:Nat):Int)
 |n,i,0,_,h=>by omega
 |0,i,m+1,hi,_=>by
  simp only[zbL]
  rw[aE (by omega),show i=a.length+1 by omega]
  simp[zed]
 |n+1,i,m+1,hi,hm=>by
  have e1:w64 ((b.length:Int)+1)=((b.length+1:Nat):Int):=by rw[zag (by omega) (by omega)];omega
  have e2:w64 ((i:Int)+1)=((i+1:Nat):Int):=by rw[zag (by omega) (by omega)];omega
  have hr:zfI (b.length+1) (fun _=>0)=List.replicate (b.length+1) (0:Int):=by
   unfold zfI
   rw[List.map_const',List.length_range]
  simp only[zbL,e1,e2,aF (show(i:Int)<=(a.length:Int) by omega),aD,zjy (show b.length+1<=lim by unfold lim;omega),aA]
  rw[zfv (by simp[lim];omega),aA]
  have hset:(List.range i).map (fun _=>zfI (b.length+1) fun _=>0)++[List.replicate (b.length+1) (0:Int)]=(List.range (i+1)).map (fun _=>zfI (b.length+1) fun _=>0):=by
   simp[List.range_succ,hr]
  rw[hset]
  exact zjV ha hb n (i+1) m (by omega) (by omega)
theorem zmq (ha:a.length<=1000)(hb:b.length<=1000):zfo a b=some (znh a b):=by
 unfold zfo
 have e2:w64 ((a.length:Int)-1)=(a.length:Int)-1:=zag (by omega) (by omega)
 simp only[jn,e2]
 have h1:=zjV (a:=a) (b:=b) ha hb
  (R:=fun y3 y6=>za4 a b (fun y28 y30=>some y30) (((a.length:Int)-1+1-0).toNat+1) ((a.length:Int)-1) y3) (a.length+1) 0 (((a.length:Int)+1-0).toNat+1) (by omega) (by omega)
 simp only[List.range_zero,List.map_nil]at h1
 refine h1.trans ?_
 rw[zf9,zjU (by unfold maxi;omega) (by omega) (by omega) a.length _ (Nat.le_refl _) (by omega),zif]
end
def mtF:List Str->List Str->Nat->List Int
 | [],_,_=>[]
 |_::xs,[],k=> -1::mtF xs [] k
 |x::xs,y::ys,k=>if x==y then(k:Int)::mtF xs ys (k+1) else if zeK (x::xs) ys<=zeK xs (y::ys) then -1::mtF xs (y::ys) k else mtF (x::xs) ys (k+1)
termination_by a b _=>a.length+b.length
theorem zh1 (b:List Str)(k:Nat):mtF [] b k=[]:=by rw[mtF]
theorem zgS (x:Str)(xs:List Str)(k:Nat):mtF (x::xs) [] k = -1::mtF xs [] k:=by rw[mtF]
theorem zgy (x y:Str)(xs ys:List Str)(k:Nat):mtF (x::xs) (y::ys) k=if x==y then(k:Int)::mtF xs ys (k+1) else if zeK (x::xs) ys<=zeK xs (y::ys) then -1::mtF xs (y::ys) k else mtF (x::xs) ys (k+1):=by rw[mtF]
def mt2 (a b:List Str):List Int:=mtF a b 0
theorem zlE {xs:List Int}{x:Int}(h:xs.length<=1000000):apM xs [x]=some (xs++[x]):=zfv (by simp[lim];omega)
section
variable {a b:List Str}
theorem zhM {i k:Nat}(hi:i<=a.length)(hk:k<=b.length): ∃ r,gi (znh a b) (i:Int)=some r/\gi r (k:Int)=some (zaM a b i k):=
 ⟨_,zf8 (by omega),zf7 (by omega)⟩
theorem zbO {i:Nat}(h:i<a.length):a.drop i=a[i]::a.drop (i+1):=aI h
theorem zho (ha:a.length<=1000)(hb:b.length<=1000): ∀ (m i k:Nat) (out:List Int),(a.length-i)+(b.length-k)<m->i<=a.length->k<=b.length->out.length=i->
 zc8 a b (znh a b) (fun y5 _ _=>some y5) m out (k:Int) (i:Int)=some (out++mtF (a.drop i) (b.drop k) k)
 |0,i,k,out,hm,_,_,_=>by omega
 |m+1,i,k,out,hm,hi,hk,ho=>by
  have e2:w64 ((i:Int)+1)=((i+1:Nat):Int):=by rw[zag (by omega) (by omega)];omega
  have e3:w64 ((k:Int)+1)=((k+1:Nat):Int):=by rw[zag (by omega) (by omega)];omega
  simp only[zc8,jn,e2,e3]
  by_cases hil:i<a.length
  case neg=>
   rw[aE (by omega),aC,show i=a.length by omega,List.drop_length,zh1,List.append_nil]
  have hx:a[i]? =some a[i]:=aB hil
  rw[aF (by omega),aD,zbO hil]
  by_cases hkl:k<b.length
  case neg=>
   have hke:k=b.length:=by omega
   rw[aE (by omega),aC,aC,aF (by omega),aD,aD,zlE (by omega),aA,
    zho ha hb m (i+1) k _ (by omega) (by omega) hk (by simp[ho])]
   rw[hke,List.drop_length,zgS]
   simp
  have hy:b[k]? =some b[k]:=aB hkl
  rw[aF (by omega),aD,zad hx,aA,zad hy,aA,zbO hkl,zgy]
  cases he:a[i]==b[k]with
  |true=>
   rw[aD,zlE (by omega),aA,zho ha hb m (i+1) (k+1) _ (by omega) (by omega) (by omega) (by simp[ho])]
   simp
  |false=>
   rw[aC,aE (by omega),aC]
   obtain⟨r1,h1,h2⟩:=zhM (a:=a) (b:=b) (i:=i+1) (k:=k) (by omega) (by omega)
   obtain⟨r3,h3,h4⟩:=zhM (a:=a) (b:=b) (i:=i) (k:=k+1) (by omega) (by omega)
   rw[h1,aA,h2,aA,h3,aA,h4,aA]
   have c1:zaM a b i (k+1)=zeK (a[i]::a.drop (i+1)) (b.drop (k+1)):=by unfold zaM;rw[zbO hil]
   have c2:zaM a b (i+1) k=zeK (a.drop (i+1)) (b[k]::b.drop (k+1)):=by unfold zaM;rw[zbO hkl]
   rw[<- c1,<- c2]
   by_cases hc:zaM a b i (k+1)<=zaM a b (i+1) k
   ·rw[aF hc,aD,zlE (by omega),aA,zho ha hb m (i+1) k _ (by omega) (by omega) hk (by simp[ho]),if_neg (by simp),if_pos hc,zbO hkl]
    simp
   ·rw[aE hc,aC,zho ha hb m i (k+1) _ (by omega) hi (by omega) ho,if_neg (by simp),if_neg hc,zbO hil]
theorem zhp (ha:a.length<=1000)(hb:b.length<=1000):zeW a b=some (mt2 a b):=by
 unfold zeW
 rw[zmq ha hb,aA]
 simp only[jn]
 have:=zho ha hb (a.length+b.length+1) 0 0 [] (by omega) (by omega) (by omega) rfl
 simpa[mt2]using this
end
def Asc (hi:Int):Int->List Int->Prop
 |_,[]=>True
 |lo,x::l=>(x = -1/\Asc hi lo l)\/(lo<=x/\x<hi/\Asc hi (x+1) l)
theorem Asc.mono {hi:Int}: ∀ {l:List Int} {lo lo':Int},lo'<=lo->Asc hi lo l->Asc hi lo' l
 | [],_,_,_,_=>trivial
 |x::l,lo,lo',h, .inl ⟨h1,h2⟩=> .inl ⟨h1,Asc.mono h h2⟩
 |x::l,lo,lo',h, .inr ⟨h1,h2,h3⟩=> .inr ⟨by omega,h2,h3⟩
theorem zeZ: ∀ (n:Nat) (a b:List Str) (k:Nat),a.length+b.length<=n->Asc ((k+b.length:Nat):Int) (k:Int) (mtF a b k)/\(mtF a b k).length=a.length
 |_,[],b,k,_=>by rw[zh1];exact⟨trivial,rfl⟩
 |0,x::xs,b,k,h=>by simp at h
 |n+1,x::xs,[],k,h=>by
  rw[zgS]
  have:=zeZ n xs [] k (by simp at h ⊢;omega)
  exact⟨.inl ⟨rfl,this.1⟩,by simp[this.2]⟩
 |n+1,x::xs,y::ys,k,h=>by
  simp only[aL]at h
  rw[zgy]
  split
  ·have:=zeZ n xs ys (k+1) (by omega)
   refine⟨.inr ⟨Int.le_refl _,by simp only[aL];omega,?_⟩,by simp[this.2]⟩
   have h1:=this.1
   rw[show((k+(y::ys).length:Nat):Int)=((k+1+ys.length:Nat):Int) by simp only[aL];omega,show(k:Int)+1=((k+1:Nat):Int) by omega]
   exact h1
  ·split
   ·have:=zeZ n xs (y::ys) k (by simp;omega)
    exact⟨.inl ⟨rfl,this.1⟩,by simp[this.2]⟩
   ·have:=zeZ n (x::xs) ys (k+1) (by simp;omega)
    refine⟨?_,by simp[this.2]⟩
    have h1:=this.1
    rw[show((k+(y::ys).length:Nat):Int)=((k+1+ys.length:Nat):Int) by simp only[aL];omega]
    exact h1.mono (by omega)
theorem zfx (a b:List Str):Asc (b.length:Int) 0 (mt2 a b)/\(mt2 a b).length=a.length:=by
 have:=zeZ _ a b 0 (Nat.le_refl _)
 simpa[mt2]using this
theorem Asc.snoc {hi:Int}(h0:0<=hi): ∀ {l:List Int} {lo:Int},lo<=hi->Asc hi lo l->Asc (hi+1) lo (l++[hi])
 | [],lo,h,_=> .inr ⟨h,by omega,trivial⟩
 |x::l,lo,h, .inl ⟨h1,h2⟩=> .inl ⟨h1,Asc.snoc h0 h h2⟩
 |x::l,lo,h, .inr ⟨h1,h2,h3⟩=> .inr ⟨h1,by omega,Asc.snoc h0 (by omega) h3⟩
end Go.Vm
namespace Go.Sx
open Go
theorem zhd {R α σ:Type} {xs:List α} {step:σ->α->Option σ} {r0:Option R} (Inv:Nat->σ->Prop) {f:Nat->σ->Int->Option R} {Z:σ->Option R} {s0:σ}
 (hs: ∀ m (i:Nat) x s,xs[i]? =some x->Inv i s->(f (m+1) s (i:Int)=match step s x with |some s'=>f m s' ((i+1:Nat):Int) |none=>r0) /\ ∀ s',step s x=some s'->Inv (i+1) s')
 (he: ∀ m s,Inv xs.length s->f (m+1) s (xs.length:Int)=Z s) {m:Nat} (hm:xs.length<m) (h0:Inv 0 s0):
 f m s0 0=(match xs.foldlM step s0 with |some s=>Z s |none=>r0) /\ ∀ s,xs.foldlM step s0=some s->Inv xs.length s:=by
 have key: ∀ k i m s,i+k=xs.length->k<m->Inv i s->f m s (i:Int)=(match (xs.drop i).foldlM step s with |some s=>Z s |none=>r0) /\ ∀ s',(xs.drop i).foldlM step s=some s'->Inv xs.length s':=by
  intro k
  induction k with
  |zero=>
   intro i m s hi hm hI
   obtain⟨m,rfl⟩: ∃ q,m=q+1:=⟨m-1,by omega⟩
   have hii:i=xs.length:=by omega
   subst hii
   rw[he m s hI,List.drop_length]
   exact⟨rfl,fun s' h=>by
    have:s=s':=by simpa using h
    rw[<- this];exact hI⟩
  |succ k ih=>
   intro i m s hi hm hI
   obtain⟨m,rfl⟩: ∃ q,m=q+1:=⟨m-1,by omega⟩
   have hlt:i<xs.length:=by omega
   obtain⟨h1,h2⟩:=hs m i xs[i] s (aB hlt) hI
   rw[h1,aI hlt,List.foldlM_cons]
   cases hst:step s xs[i]with
   |none=>exact⟨rfl,fun s' h=>by simp at h⟩
   |some s1=>
    obtain⟨h3,h4⟩:=ih (i+1) m s1 (by omega) (by omega) (h2 s1 hst)
    exact⟨h3,h4⟩
 have:=key xs.length 0 m s0 (by omega) hm h0
 simpa using this
theorem zcG {R α:Type} {xs:List α} {p:α->Bool} {r:α->Option R} {Z:Option R} {f:Nat->Int->Option R}
 (hs: ∀ m (i:Nat) x,xs[i]? =some x->f (m+1) (i:Int)=bif p x then r x else f m ((i+1:Nat):Int)) (he: ∀ m,f (m+1) (xs.length:Int)=Z) {m:Nat} (hm:xs.length<m):
 f m 0=match xs.find? p with |some x=>r x |none=>Z:=by
 have key: ∀ k i m,i+k=xs.length->k<m->f m (i:Int)=match (xs.drop i).find? p with |some x=>r x |none=>Z:=by
  intro k
  induction k with
  |zero=>
   intro i m hi hm
   obtain⟨m,rfl⟩: ∃ q,m=q+1:=⟨m-1,by omega⟩
   rw[show i=xs.length by omega,he,List.drop_length]
   rfl
  |succ k ih=>
   intro i m hi hm
   obtain⟨m,rfl⟩: ∃ q,m=q+1:=⟨m-1,by omega⟩
   have hlt:i<xs.length:=by omega
   rw[hs m i xs[i] (aB hlt),aI hlt,List.find?_cons]
   cases p xs[i]with
   |true=>rfl
   |false=>exact ih (i+1) m (by omega) (by omega)
 have:=key xs.length 0 m (by omega) hm
 simpa using this
end Go.Sx
namespace Go.Vm
open Go Go.Sx
set_option linter.unusedSimpArgs false
set_option linter.unusedVariables false
def lnP (l:List Str):Part:=⟨false,l,[],[],[]⟩
def zbx (o a b:List Str):Part:=bif a==o||a==b then lnP b else bif b==o then lnP a else⟨true,[],o,a,b⟩
def zg1 (out:List Part)(p:Part):List Part:=
 bif !p.Clash&&p.Lines.length==0 then out else
 match out[out.length-1]? with
 |some q=>bif !p.Clash && !q.Clash then out.set (out.length-1) ⟨q.Clash,q.Lines++p.Lines,q.Old,q.One,q.Two⟩ else out++[p]
 |none=>out++[p]
def PB (n:Nat)(out:List Part):Prop:=out.length<=n /\ ∀ q∈out,q.Lines.length<=1000*n
theorem PB.mono {n m:Nat}{out:List Part}(h:PB n out)(hm:n<=m):PB m out:=⟨Nat.le_trans h.1 hm,fun q hq=>Nat.le_trans (h.2 q hq) (Nat.mul_le_mul_left _ hm)⟩
theorem zg8 {n:Nat}{out:List Part}{p:Part}(h:PB n out)(hp:p.Lines.length<=1000):PB (n+1) (zg1 out p):=by
 have happ:PB (n+1) (out++[p]):=⟨by simp;exact h.1,fun q hq=>by
  rcases List.mem_append.1 hq with h1 |h1
  ·have:=h.2 q h1;omega
  ·rw[List.mem_singleton]at h1;rw[h1];omega⟩
 unfold zg1
 cases(!p.Clash&&p.Lines.length==0)with
 |true=>exact h.mono (by omega)
 |false=>
  rw[aC]
  split
  ·rename_i q hq
   cases(!p.Clash && !q.Clash)with
   |false=>exact happ
   |true=>
    rw[aD]
    refine⟨by rw[List.length_set];have:=h.1;omega,fun r hr=>?_⟩
    rcases List.mem_or_eq_of_mem_set hr with h1 |h1
    ·have:=h.2 r h1;omega
    ·rw[h1]
     have:=h.2 q (aH hq)
     simp only[List.length_append]
     omega
  ·exact happ
theorem zeg {o a b:List Str}(ha:a.length<=1000)(hb:b.length<=1000):(zbx o a b).Lines.length<=1000:=by
 unfold zbx lnP
 cases(a==o||a==b)
 ·cases b==o
  ·simp
  ·exact ha
 ·exact hb
theorem apL {xs ys:List Str}(h:xs.length<=4000000)(h':ys.length<=1000):apM xs ys=some (xs++ys):=zfv (by simp[lim];omega)
theorem zjW {o a b:List Str}(ho:o.length<=1000)(ha:a.length<=1000)(hb:b.length<=1000):zgg o a b=some (zbx o a b):=by
 unfold zgg zbx lnP
 simp only[jn,ze5 (show a.length<=maxi by unfold maxi;omega),ze5 (show b.length<=maxi by unfold maxi;omega),aA,apN (show o.length<=1048576 by omega),apN (show a.length<=1048576 by omega),apN (show b.length<=1048576 by omega)]
 cases a==o<;>cases a==b<;>cases b==o<;>rfl
theorem zkP {n:Nat}(h:n<=4000000)(h0:0<n):w64 ((n:Int)-1)=((n-1:Nat):Int):=by rw[zag (by omega) (by omega)];omega
theorem ziv {n:Nat}{out:List Part}{p:Part}(h:PB n out)(hn:n<=4000)(hp:p.Lines.length<=1000):zgT out p=some (zg1 out p):=by
 have hl:=h.1
 unfold zgT zg1
 have hz:(((p.Lines.length:Int))==(0:Int))=(p.Lines.length==0):=by
  have: ∀ b c:Bool,(b=true↔c=true)->b=c:=by decide
  apply this;simp
 simp only[jn,hz,show(⟨p.Clash,p.Lines,p.Old,p.One,p.Two⟩:Part)=p from rfl]
 have happ:apM out [p]=some (out++[p]):=zfv (by simp[lim];omega)
 cases hc:p.Clash with
 |true=>
  simp only[aK,Bool.false_and,aC,happ,aA]
  by_cases h0:0<out.length
  ·rw[aF (by omega),aD,aB (by omega)]
  ·rw[aE (by omega),aC,List.getElem?_eq_none (by omega)]
 |false=>
  simp only[Bool.not_false,Bool.true_and,aD]
  cases hz2:(p.Lines.length==0)with
  |true=>rfl
  |false=>
   simp only[aC]
   by_cases h0:0<out.length
   ·obtain⟨q,hq⟩: ∃ q,out[out.length-1]? =some q:=⟨_,aB (by omega)⟩
    have hql:=h.2 q (aH hq)
    rw[aF (by omega),aD,zkP (by omega) h0,zad hq,aA,hq]
    cases hqc:q.Clash with
    |true=>simp[happ,hqc]
    |false=>
     simp only[hqc,Bool.not_false,aD,aA]
     rw[apL (by omega) hp,aA,zcu (by omega),aA]
   ·rw[aE (by omega),aC,List.getElem?_eq_none (by omega),happ]
    rfl
def zaH {α:Type}(xs:List α)(l h:Int):List α:=(xs.take h.toNat).drop l.toNat
theorem za7 {α:Type}(xs:List α)(l h:Int):(zaH xs l h).length<=xs.length:=by unfold zaH;simp;omega
def zbF (o a b:List Str)(i x y io ia ib:Int)(out:List Part):List Part:=
 match o[i.toNat]? with
 |some s=>zg1 (zg1 out (zbx (zaH o io i) (zaH a ia x) (zaH b ib y))) (lnP [s])
 |none=>zg1 out (zbx (zaH o io i) (zaH a ia x) (zaH b ib y))
def zaR (o a b:List Str):Int->List Int->List Int->Int->Int->Int->List Part->List Part
 |i,x::ma,y::mb,io,ia,ib,out=>
  bif decide (x<0)||decide (y<0) then zaR o a b (i+1) ma mb io ia ib out
  else zaR o a b (i+1) ma mb (i+1) (x+1) (y+1) (zbF o a b i x y io ia ib out)
 |_,[],_,_,_,_,out=>out
 |_,_:: _,[],_,_,_,out=>out
def zaD (o a b:List Str):List Part:=zaR o a b 0 (mt2 o a++[(a.length:Int)]) (mt2 o b++[(b.length:Int)]) 0 0 0 []
theorem zfW {o a b:List Str}(ha:a.length<=1000)(hb:b.length<=1000){i x y io ia ib:Int}{n:Nat}{out:List Part}(h:PB n out):PB (n+2) (zbF o a b i x y io ia ib out):=by
 have h1:=zg8 h (zeg (o:=zaH o io i) (Nat.le_trans (za7 a ia x) ha) (Nat.le_trans (za7 b ib y) hb))
 unfold zbF
 split
 ·exact zg8 h1 (by simp[lnP])
 ·exact h1.mono (by omega)
theorem zeS {o a b:List Str}(ha:a.length<=1000)(hb:b.length<=1000): ∀ (ma mb:List Int) (i io ia ib:Int) (n:Nat) (out:List Part),PB n out->PB (n+2*ma.length) (zaR o a b i ma mb io ia ib out)
 | [],mb,i,io,ia,ib,n,out,h=>by rw[zaR.eq_def];exact h.mono (by omega)
 |x::ma,[],i,io,ia,ib,n,out,h=>by rw[zaR.eq_def];exact h.mono (by omega)
 |x::ma,y::mb,i,io,ia,ib,n,out,h=>by
  rw[zaR]
  cases(decide (x<0)||decide (y<0))with
  |true=>exact(zeS ha hb ma mb _ _ _ _ n out h).mono (by simp;omega)
  |false=>exact(zeS ha hb ma mb _ _ _ _ (n+2) _ (zfW ha hb h)).mono (by simp;omega)
theorem zhN {l:List Int}{i:Nat}{x:Int}(h:l[i]? =some x):l.drop i=x::l.drop (i+1):=by
 have hi:=zar h
 rw[aI hi]
 rw[aB hi]at h
 rw[Option.some.inj h]
theorem ze6 {o a b:List Str}(ho:o.length<=1000)(ha:a.length<=1000)(hb:b.length<=1000){ma mb:List Int}(hla:ma.length=o.length+1)(hlb:mb.length=o.length+1):
 ∀ (n i m:Nat) (io ia ib:Int) (out:List Part),i+n=o.length+1->n<m->Asc ((a.length:Int)+1) ia (ma.drop i)->Asc ((b.length:Int)+1) ib (mb.drop i)->0<=io->io<=i->0<=ia->0<=ib->PB (2*i) out->
  zb2 o a b ma mb (fun y45 _ _ _ _=>some y45) m out io ia ib (i:Int)=some (zaR o a b i (ma.drop i) (mb.drop i) io ia ib out)
 |n,i,0,_,_,_,_,_,hm,_,_,_,_,_,_,_=>by omega
 |0,i,m+1,io,ia,ib,out,hi,_,_,_,_,_,_,_,_=>by
  simp only[zb2]
  rw[aE (by omega),aC,List.drop_eq_nil_of_le (by omega),zaR.eq_def]
 |n+1,i,m+1,io,ia,ib,out,hi,hm,hA,hB,h0,h1,h2,h3,hP=>by
  obtain⟨x,hx⟩: ∃ x,ma[i]? =some x:=⟨_,aB (by omega)⟩
  obtain⟨y,hy⟩: ∃ y,mb[i]? =some y:=⟨_,aB (by omega)⟩
  rw[zhN hx]at hA ⊢
  rw[zhN hy]at hB ⊢
  have ei:w64 ((i:Int)+1)=((i+1:Nat):Int):=by rw[zag (by omega) (by omega)];omega
  have ei':(i:Int)+1=((i+1:Nat):Int):=by omega
  rw[ei']at ei
  have dn:decide ((-1:Int)<0)=true:=rfl
  have hstay: ∀ (hA':Asc ((a.length:Int)+1) ia (ma.drop (i+1))) (hB':Asc ((b.length:Int)+1) ib (mb.drop (i+1))),zb2 o a b ma mb (fun y45 _ _ _ _=>some y45) m out io ia ib ((i+1:Nat):Int)=some (zaR o a b ((i+1:Nat):Int) (ma.drop (i+1)) (mb.drop (i+1)) io ia ib out):=
   fun hA' hB'=>ze6 ho ha hb hla hlb n (i+1) m io ia ib out (by omega) (by omega) hA' hB' h0 (by omega) h2 h3 (hP.mono (by omega))
  rw[zaR]
  simp only[zb2,jn,zad hx,zad hy,aA,ei,ei',hla]
  rw[aF (show(i:Int)< ((o.length+1:Nat):Int) by omega),aD]
  rcases hA with ⟨rfl,hA⟩ |⟨ha1,ha2,hA⟩
  ·rcases hB with ⟨rfl,hB⟩ |⟨hb1,hb2,hB⟩
   ·simp only[dn,aD,Bool.true_or];exact hstay hA hB
   ·simp only[dn,aD,Bool.true_or];exact hstay hA (hB.mono (by omega))
  rcases hB with ⟨rfl,hB⟩ |⟨hb1,hb2,hB⟩
  ·rw[aE (show ¬ x<0 by omega),aC]
   simp only[dn,aD,Bool.false_or]
   exact hstay (hA.mono (by omega)) hB
  rw[aE (show ¬ x<0 by omega),aE (show ¬ y<0 by omega)]
  simp only[aC,Bool.or_false]
  have ex:w64 (x+1)=x+1:=zag (by omega) (by omega)
  have ey:w64 (y+1)=y+1:=zag (by omega) (by omega)
  have c1:=za7 o io i
  have c2:=za7 a ia x
  have c3:=za7 b ib y
  have hP1:=zg8 hP (zeg (o:=zaH o io i) (Nat.le_trans c2 ha) (Nat.le_trans c3 hb))
  have hS:=zfW (o:=o) ha hb (i:=i) (x:=x) (y:=y) (io:=io) (ia:=ia) (ib:=ib) hP
  have hfin:=ze6 ho ha hb hla hlb n (i+1) m ((i+1:Nat):Int) (x+1) (y+1) (zbF o a b i x y io ia ib out) (by omega) (by omega) hA hB (by omega) (by omega) (by omega) (by omega) (hS.mono (by omega))
  rw[zgJ h0 h1 (by omega),aA,zgJ h2 ha1 (by omega),aA,zgJ h3 hb1 (by omega),aA,
   show((o.take ((i:Int)).toNat).drop io.toNat)=zaH o io i from rfl,show((a.take x.toNat).drop ia.toNat)=zaH a ia x from rfl,show((b.take y.toNat).drop ib.toNat)=zaH b ib y from rfl,
   zjW (by omega) (by omega) (by omega),aA]
  rw[show(⟨(zbx (zaH o io i) (zaH a ia x) (zaH b ib y)).Clash,(zbx (zaH o io i) (zaH a ia x) (zaH b ib y)).Lines,(zbx (zaH o io i) (zaH a ia x) (zaH b ib y)).Old,(zbx (zaH o io i) (zaH a ia x) (zaH b ib y)).One,(zbx (zaH o io i) (zaH a ia x) (zaH b ib y)).Two⟩:Part)=zbx (zaH o io i) (zaH a ia x) (zaH b ib y) from rfl,
   ziv hP (by omega) (zeg (Nat.le_trans c2 ha) (Nat.le_trans c3 hb)),aA]
  by_cases hio:i<o.length
  ·have hs:o[i]? =some o[i]:=aB hio
   rw[aF (by omega),aD,zad hs,aA,show(⟨false,[o[i]],[],[],[]⟩:Part)=lnP [o[i]] from rfl,ziv hP1 (by omega) (by simp[lnP]),aA,ex,ey]
   have hm:zbF o a b i x y io ia ib out=zg1 (zg1 out (zbx (zaH o io i) (zaH a ia x) (zaH b ib y))) (lnP [o[i]]):=by
    unfold zbF
    rw[show((i:Int)).toNat=i by omega,hs]
   rw[<- hm]
   exact hfin
  ·rw[aE (by omega),aC,ex,ey]
   have hm:zbF o a b i x y io ia ib out=zg1 out (zbx (zaH o io i) (zaH a ia x) (zaH b ib y)):=by
    unfold zbF
    rw[show((i:Int)).toNat=i by omega,List.getElem?_eq_none (by omega)]
   rw[<- hm]
   exact hfin
theorem zew (o a:List Str):Asc ((a.length:Int)+1) 0 (mt2 o a++[(a.length:Int)])/\(mt2 o a++[(a.length:Int)]).length=o.length+1:=by
 have h:=zfx o a
 exact⟨Asc.snoc (by omega) (by omega) h.1,by simp[h.2]⟩
theorem zmr {o a b:List Str}(ho:o.length<=1000)(ha:a.length<=1000)(hb:b.length<=1000):zim o a b=some (zaD o a b):=by
 obtain⟨a1,a2⟩:=zew o a
 obtain⟨b1,b2⟩:=zew o b
 have l1:=(zfx o a).2
 have l2:=(zfx o b).2
 unfold zim
 rw[zhp ho ha,aA,zlE (by omega),aA,zhp ho hb,aA,zlE (by omega),aA]
 simp only[jn]
 have:=ze6 ho ha hb a2 b2 (o.length+1) 0 ((((mt2 o a++[(a.length:Int)]).length:Int)-0).toNat+1) 0 0 0 [] (by omega) (by omega) a1 b1 (by omega) (by omega) (by omega) (by omega) ⟨by simp,by simp⟩
 exact this
end Go.Vm
namespace Go.Sx
open Go
end Go.Sx
namespace Go.Vm
open Go Go.Sx
set_option linter.unusedSimpArgs false
set_option linter.unusedVariables false
section
variable {o a b:List Str}{Q:Part->Prop}
theorem ziw {out:List Part}{p:Part}(h3: ∀ q p:Part,Q q->Q p->q.Clash=false->p.Clash=false->Q ⟨q.Clash,q.Lines++p.Lines,q.Old,q.One,q.Two⟩)(h: ∀ q∈out,Q q)(hp:Q p): ∀ q∈zg1 out p,Q q:=by
 have happ: ∀ q∈out++[p],Q q:=fun q hq=>by
  rcases List.mem_append.1 hq with h1 |h1
  ·exact h q h1
  ·rw[List.mem_singleton]at h1;rw[h1];exact hp
 unfold zg1
 cases(!p.Clash&&p.Lines.length==0)with
 |true=>exact h
 |false=>
  rw[aC]
  split
  ·rename_i q hq
   cases hc:(!p.Clash && !q.Clash)with
   |false=>exact happ
   |true=>
    simp only[aG,Bool.not_eq_true']at hc
    rw[aD]
    intro r hr
    rcases List.mem_or_eq_of_mem_set hr with h1 |h1
    ·exact h r h1
    ·rw[h1];exact h3 q p (h q (aH hq)) hp hc.2 hc.1
  ·exact happ
theorem zee (h1: ∀ l h l' h' l'' h'',Q (zbx (zaH o l h) (zaH a l' h') (zaH b l'' h''))) (h2: ∀ s∈o,Q (lnP [s]))
 (h3: ∀ q p:Part,Q q->Q p->q.Clash=false->p.Clash=false->Q ⟨q.Clash,q.Lines++p.Lines,q.Old,q.One,q.Two⟩): ∀ (ma mb:List Int) (i io ia ib:Int) (out:List Part),(∀ q∈out,Q q) -> ∀ q∈zaR o a b i ma mb io ia ib out,Q q
 | [],mb,i,io,ia,ib,out,h=>by rw[zaR.eq_def];exact h
 |x::ma,[],i,io,ia,ib,out,h=>by rw[zaR.eq_def];exact h
 |x::ma,y::mb,i,io,ia,ib,out,h=>by
  rw[zaR]
  cases(decide (x<0)||decide (y<0))with
  |true=>exact zee h1 h2 h3 ma mb _ _ _ _ out h
  |false=>
   refine zee h1 h2 h3 ma mb _ _ _ _ _ ?_
   have hp:=ziw h3 h (h1 io i ia x ib y)
   unfold zbF
   split
   ·rename_i s hs
    exact ziw h3 hp (h2 s (aH hs))
   ·exact hp
theorem zi2 (h1: ∀ l h l' h' l'' h'',Q (zbx (zaH o l h) (zaH a l' h') (zaH b l'' h''))) (h2: ∀ s∈o,Q (lnP [s]))
 (h3: ∀ q p:Part,Q q->Q p->q.Clash=false->p.Clash=false->Q ⟨q.Clash,q.Lines++p.Lines,q.Old,q.One,q.Two⟩): ∀ q∈zaD o a b,Q q:=
 zee h1 h2 h3 _ _ _ _ _ _ [] (by simp)
theorem zdP {α:Type}{xs:List α}{l h:Int}{x:α}(hx:x∈zaH xs l h):x∈xs:=List.mem_of_mem_take (List.mem_of_mem_drop hx)
theorem zhq {P:Str->Prop}(ho: ∀ s∈o,P s)(ha: ∀ s∈a,P s)(hb: ∀ s∈b,P s): ∀ q∈zaD o a b,(∀ s∈q.Lines,P s)/\(∀ s∈q.Old,P s)/\(∀ s∈q.One,P s)/\(∀ s∈q.Two,P s)/\q.Old.length<=o.length/\q.One.length<=a.length/\q.Two.length<=b.length:=by
 refine zi2 (fun l h l' h' l'' h''=>?_) (fun s hs=>?_) (fun q p hq hp _ _=>?_)
 ·have c1:=za7 o l h
  have c2:=za7 a l' h'
  have c3:=za7 b l'' h''
  unfold zbx lnP
  cases(zaH a l' h'==zaH o l h||zaH a l' h'==zaH b l'' h'')with
  |true=>exact⟨fun s hs=>hb s (zdP hs),by simp,by simp,by simp,by simp,by simp,by simp⟩
  |false=>
   rw[aC]
   cases(zaH b l'' h''==zaH o l h)with
   |true=>exact⟨fun s hs=>ha s (zdP hs),by simp,by simp,by simp,by simp,by simp,by simp⟩
   |false=>exact⟨by simp,fun s hs=>ho s (zdP hs),fun s hs=>ha s (zdP hs),fun s hs=>hb s (zdP hs),c1,c2,c3⟩
 ·exact⟨by simpa[lnP]using ho s hs,by simp[lnP],by simp[lnP],by simp[lnP],by simp[lnP],by simp[lnP],by simp[lnP]⟩
 ·exact⟨fun s hs=>(List.mem_append.1 hs).elim (hq.1 s) (hp.1 s),hq.2⟩
theorem zi3 (ho:o.length<=1000)(ha:a.length<=1000)(hb:b.length<=1000):PB (2*(o.length+1)) (zaD o a b):=by
 have:=zeS (o:=o) ha hb (mt2 o a++[(a.length:Int)]) (mt2 o b++[(b.length:Int)]) 0 0 0 0 0 [] ⟨by simp,by simp⟩
 rw[(zew o a).2]at this
 exact this.mono (by omega)
end
section
variable {xs:List Memo}{o a b:List Str}
def okT (t:List Str):List Str×Bool:=bif zao t then(t,true) else([],false)
def zoa (i:Nat)(s:List Str):Prop:=s.length<=22000*i /\ ∀ x∈s,zbQ x=true
theorem zcr {s:List Str}(h:s.length<=1000000)(hl: ∀ x∈s,zbQ x=true):Bk.fit s:=⟨by unfold maxi;omega,fun x hx=>by have:=zg0 (hl x hx);show x.length<=maxi;unfold maxi;omega⟩
theorem apT {s t:List Str}(h:s.length<=1000000)(h':t.length<=1000000):apM s t=some (s++t):=zfv (by simp[lim];omega)
theorem zh2 (hto:zao o=true)(hta:zao a=true)(htb:zao b=true):(zaD o a b).length<=22 /\ ∀ p∈zaD o a b,p.Lines.length<=22000/\(∀ x∈p.Lines,zbQ x=true)/\zao p.Old=true/\zao p.One=true/\zao p.Two=true:=by
 have lo:=zav hto
 have la:=zav hta
 have lb:=zav htb
 have hP:=zi3 (o:=o) (a:=a) (b:=b) (by omega) (by omega) (by omega)
 refine⟨Nat.le_trans hP.1 (by omega),fun p hp=>?_⟩
 obtain⟨h1,h2,h3,h4,h5,h6,h7⟩:=zhq (P:=fun s=>zbQ s=true) (zaO hto) (zaO hta) (zaO htb) p hp
 have hl:=hP.2 p hp
 have mk: ∀ t:List Str,t.length<=10->(∀ s∈t,zbQ s=true)->zao t=true:=fun t h1 h2=>by
  unfold zao
  rw[aE (by omega)]
  simp only[Bool.not_false,Bool.true_and,List.all_eq_true]
  exact h2
 exact⟨by omega,h1,mk _ (by omega) h2,mk _ (by omega) h3,mk _ (by omega) h4⟩
end
def LB (n:Nat)(t:List Str):Prop:=t.length<=n /\ ∀ s∈t,s.length<=100
theorem LB.fit {n:Nat}{t:List Str}(h:LB n t)(hn:n<=1000000):Bk.fit t:=⟨by have:=h.1;unfold maxi;omega,fun s hs=>by have:=h.2 s hs;show s.length<=maxi;unfold maxi;omega⟩
theorem LB.mono {n m:Nat}{t:List Str}(h:LB n t)(hm:n<=m):LB m t:=⟨Nat.le_trans h.1 hm,h.2⟩
theorem zfR {α:Type}{f:α->Nat}{c:Nat}: ∀ {t:List α},(∀ s∈t,f s<=c)->zc6 f t<=c*t.length
 | [],_=>by simp[zc6]
 |x::t,h=>by
  have h1:=h x (by simp)
  have h2:=zfR (t:=t) (fun s hs=>h s (by simp[hs]))
  simp only[zc6,aL,Nat.mul_add,Nat.mul_one]
  omega
theorem LB.bulk {n:Nat}{t:List Str}(h:LB n t):Bk.bulk t<=101*n:=by
 have h1:zc6 Bk.bulk t<=100*t.length:=zfR (f:=fun s:Str=>s.length) (c:=100) (fun s hs=>h.2 s hs)
 have:=h.1
 rw[zqL]
 omega
section
variable {r:l30Rd}{p:Int}
theorem ziR (h:zb6 r p)(hp:p<=1099511627776){l:List Str}(h0:0<l.length)(hl:l.length<=1000): ∃ s,zcw r l=some (s,r.p+1)/\s∈l:=by
 obtain⟨k,hk,k0,k1⟩:=zb4 (n:=(l.length:Int)) h hp (by omega) (by omega)
 obtain⟨s,hs⟩:=zeJ k0 k1
 unfold zcw
 rw[hk,aA,hs,aA]
 exact⟨s,rfl,aH (zkl hs).2.1⟩
theorem zjG (h:zb6 r p)(hp:p<=1099511627776){l:List Int}(h0:0<l.length)(hl:l.length<=1000): ∃ s,zdf r l=some (s,r.p+1)/\s∈l:=by
 obtain⟨k,hk,k0,k1⟩:=zb4 (n:=(l.length:Int)) h hp (by omega) (by omega)
 obtain⟨s,hs⟩:=zeJ k0 k1
 unfold zdf
 rw[hk,aA,hs,aA]
 exact⟨s,rfl,aH (zkl hs).2.1⟩
theorem zms (h:zb6 r p)(hp:p<=1099511627776): ∃ s,zdi r=some (s,r.p+1)/\s.length<=12:=by
 unfold zdi
 obtain⟨s,hs,hm⟩:=ziR h hp (l:=([([97]:Str),([98]:Str),([99]:Str),([100]:Str),([]:Str),([120,32,121]:Str),([115,101,101,32,97]:Str),([115,101,101,32,100,47,101]:Str),([101,110,100]:Str)]:List Str)) (by simp) (by simp)
 rw[hs,aA]
 refine⟨s,rfl,?_⟩
 simp only[List.mem_cons,List.not_mem_nil,or_false]at hm
 rcases hm with rfl |rfl |rfl |rfl |rfl |rfl |rfl |rfl |rfl<;>simp
theorem on1 (h:zb6 r p){q:Int}(hq:p+1<=q):zb6 ⟨r.b,r.p+1⟩ q:=h.on 1 (by omega) (by have:=h.2.2;omega)
theorem zjX {x0:l30Rd}: ∀ (m:Nat) (out:List Str) (n q p:Int),0<=n->n<m->n<=100->LB 100 out->zb6 ⟨x0.b,q⟩ p->p+n<=1099511627776->out.length+n<=100->
 ∃ out' q',zdF x0 (fun y15 y18 y19=>some (y15,y19)) m out n q=some (out',q')/\LB 100 out'/\(out'.length:Int)=out.length+n/\zb6 ⟨x0.b,q'⟩ (p+n)
 |0,out,n,q,p,h0,hm,_,_,_,_,_=>by omega
 |m+1,out,n,q,p,h0,hm,hn,hf,hr,hp,hl=>by
  simp only[zdF]
  by_cases hn0:0<n
  ·obtain⟨s,hs,hs2⟩:=zms hr (by omega)
   have hs':zdi ⟨x0.b,q⟩=some (s,q+1):=hs
   rw[aF hn0,aD,hs',aA,ap1 (show out.length<=1048576 by omega),aA,zag (by omega) (by omega)]
   have hf':LB 100 (out++[s]):=⟨by simp;omega,fun x hx=>by
    rcases List.mem_append.1 hx with h1 |h1
    ·exact hf.2 x h1
    ·rw[List.mem_singleton]at h1;rw[h1];omega⟩
   obtain⟨o',q',e,f',l',r'⟩:=zjX (x0:=x0) m (out++[s]) (n-1) (q+1) (p+1) (by omega) (by omega) (by omega) hf' (on1 hr (by omega)) (by omega) (by simp;omega)
   exact⟨o',q',e,f',by rw[l'];simp;omega,by rw[show p+n=p+1+(n-1) by omega];exact r'⟩
  ·have hz:n=0:=by omega
   subst hz
   rw[aE hn0,aC]
   exact⟨out,q,rfl,hf,by omega,by simpa using hr⟩
theorem zmt (h:zb6 r p)(hp:p<=1000000000): ∃ t q,zfl r=some (t,q)/\LB 8 t/\zb6 ⟨r.b,q⟩ (p+10):=by
 unfold zfl
 obtain⟨n,hn,hm⟩:=zjG h (by omega) (l:=[0,1,3,5,8]) (by simp) (by simp)
 have hn8:0<=n/\n<=8:=by
  simp only[List.mem_cons,List.not_mem_nil,or_false]at hm
  omega
 rw[hn,aA]
 simp only[jn]
 obtain⟨t,q,e,f,l,ro⟩:=zjX (x0:=r) ((n-0).toNat+1) [] n (r.p+1) (p+1) hn8.1 (by omega) (by omega) ⟨by simp,by simp⟩ (on1 h (by omega)) (by omega) (by simp;omega)
 refine⟨t,q,e,⟨by simp at l;omega,f.2⟩,ro.1,ro.2.1,?_⟩
 have:=ro.2.2
 omega
end
section
variable {o a b:List Str}{xs:List Memo}
def znQ (l:List Part):List Part:=l.filter (·.Clash)
end
open Go Go.Sx Go.Proofs
theorem zaK (a b:Str):Op.bytesLess a b=decide (a<b):=bytesLess_eq a b
theorem zjY (a b:Str):(decide (a<=b)||decide (b<=a))=true:=by
 rcases List.le_total a b with h |h<;>simp[h]
theorem zjZ (a b c:Str):decide (a<=b)=true->decide (b<=c)=true->decide (a<=c)=true:=by
 simp only[decide_eq_true_eq]
 exact List.le_trans
theorem zaj (a:Str): ¬ a<a:=List.lt_irrefl a
theorem zaI {a b c:Str}:a<b->b<c->a<c:=List.lt_trans
theorem zbi {a b:Str}(h:a<=b)(hn:a≠b):a<b:=by
 rcases Decidable.em (a<b)with h1 |h1
 ·exact h1
 ·exact absurd (List.le_antisymm h (List.not_lt.1 h1)) hn
theorem zg9 {a b:Str}: ¬ a<b↔b<=a:=List.not_lt
def Asd (xs:List Str):Prop:=xs.Pairwise (· < ·)
theorem Asd.ext: ∀ {xs ys:List Str},Asd xs->Asd ys->(∀ a,a∈xs↔a∈ys)->xs=ys
 | [],[],_,_,_=>rfl
 | [],y::ys,_,_,h=>by have:=(h y).2 (by simp);simp at this
 |x::xs,[],_,_,h=>by have:=(h x).1 (by simp);simp at this
 |x::xs,y::ys,hx,hy,h=>by
  have hx':=List.pairwise_cons.1 hx
  have hy':=List.pairwise_cons.1 hy
  have e:x=y:=by
   rcases List.mem_cons.1 ((h x).1 (by simp))with e |hm
   ·exact e
   ·rcases List.mem_cons.1 ((h y).2 (by simp))with e |hm2
    ·exact e.symm
    ·exact absurd (zaI (hy'.1 x hm) (hx'.1 y hm2)) (zaj y)
  subst e
  have ht: ∀ a,a∈xs↔a∈ys:=fun a=>by
   constructor
   ·intro ha
    rcases List.mem_cons.1 ((h a).1 (List.mem_cons_of_mem _ ha))with e |hm
    ·exact absurd (by rw[e]at ha;exact hx'.1 x ha) (zaj x)
    ·exact hm
   ·intro ha
    rcases List.mem_cons.1 ((h a).2 (List.mem_cons_of_mem _ ha))with e |hm
    ·exact absurd (by rw[e]at ha;exact hy'.1 x ha) (zaj x)
    ·exact hm
  rw[Asd.ext hx'.2 hy'.2 ht]
theorem zkQ (l:List Str):(zdE l).Pairwise (· <= ·):=by
 have:=List.pairwise_mergeSort (le:=fun x y:Str=>decide (x<=y)) zjZ zjY l
 exact this.imp (by simp)
theorem zjo {l:List Str}{a:Str}:a∈zdE l↔a∈l:=List.mem_mergeSort
theorem zhr: ∀ (l:List Str) (p:Option Str) (a:Str),a∈zcW p l\/some a=p↔a∈l\/some a=p
 | [],p,a=>by simp[zcW]
 |x::l,p,a=>by
  have ih:=zhr l (some x) a
  unfold zcW
  by_cases hp:p=some x
  ·rw[if_pos hp,hp]
   rw[ih]
   simp only[List.mem_cons,Option.some.injEq]
   constructor
   ·rintro(h |h)
    ·exact .inl (.inr h)
    ·exact .inr h
   ·rintro((h |h) |h)
    ·exact .inr h
    ·exact .inl h
    ·exact .inr h
  ·rw[if_neg hp]
   simp only[List.mem_cons,Option.some.injEq]at ih ⊢
   constructor
   ·rintro((h |h) |h)
    ·exact .inl (.inl h)
    ·rcases ih.1 (.inl h)with h2 |h2
     ·exact .inl (.inr h2)
     ·exact .inl (.inl h2)
    ·exact .inr h
   ·rintro((h |h) |h)
    ·exact .inl (.inl h)
    ·rcases ih.2 (.inl h)with h2 |h2
     ·exact .inl (.inr h2)
     ·exact .inl (.inl h2)
    ·exact .inr h
theorem zhe {l:List Str}{a:Str}:a∈zkZ l↔a∈l:=by
 have:=zhr l none a
 simpa[zkZ]using this
theorem zeM: ∀ (l:List Str) (p:Option Str),l.Pairwise (· <= ·)->(∀ q,p=some q -> ∀ a∈l,q<=a)->Asd (zcW p l) /\ ∀ q,p=some q -> ∀ a∈zcW p l,q<a
 | [],p,_,_=>by simp[zcW,Asd]
 |x::l,p,h,hp=>by
  have h':=List.pairwise_cons.1 h
  obtain⟨i1,i2⟩:=zeM l (some x) h'.2 (fun q hq a ha=>by cases hq;exact h'.1 a ha)
  unfold zcW
  by_cases hpx:p=some x
  ·rw[if_pos hpx]
   exact⟨i1,fun q hq a ha=>by rw[hpx]at hq;exact i2 q hq a ha⟩
  ·rw[if_neg hpx]
   refine⟨List.pairwise_cons.2 ⟨fun a ha=>i2 x rfl a ha,i1⟩,fun q hq a ha=>?_⟩
   have hqx:q<x:=zbi (hp q hq x (by simp)) (fun e=>hpx (by rw[hq,e]))
   rcases List.mem_cons.1 ha with e |e
   ·rw[e];exact hqx
   ·exact zaI hqx (i2 x rfl a e)
def zfX (xs:List Str)(s:Str):List Str:=zkZ (zdE (xs++[s]))
theorem zd7 (xs:List Str)(s:Str):Asd (zfX xs s):=(zeM _ none (zkQ _) (fun q hq=>by cases hq)).1
theorem insS_mem {xs:List Str}{s a:Str}:a∈zfX xs s↔a∈xs\/a=s:=by
 unfold zfX
 rw[zhe,zjo,List.mem_append,List.mem_singleton]
theorem ze7: ∀ (zs:List Str) (p:Option Str),(zcW p zs).length<=zs.length
 | [],p=>by simp[zcW]
 |x::l,p=>by
  have:=ze7 l (some x)
  unfold zcW
  split<;>simp<;>omega
theorem zhk (xs:List Str)(s:Str):(zfX xs s).length<=xs.length+1:=by
 have:=ze7 (zdE (xs++[s])) none
 unfold zfX zkZ
 have h2:(zdE (xs++[s])).length=(xs++[s]).length:=List.length_mergeSort _
 rw[h2]at this
 simpa using this
def zgu (c:UInt8):Bool:=(decide (97<=(c.toNat:Int))&&decide ((c.toNat:Int)<=122))||(decide (48<=(c.toNat:Int))&&decide ((c.toNat:Int)<=57))
def zay (s:Str):Bool:=(decide (1<=(s.length:Int))&&decide ((s.length:Int)<=6))&&s.all zgu
theorem zh6 (c:UInt8):zeE c=some (zgu c):=by
 unfold zeE zgu
 simp only[jn]
 cases decide (97<=(c.toNat:Int))<;>cases decide ((c.toNat:Int)<=122)<;>cases decide (48<=(c.toNat:Int))<;>cases decide ((c.toNat:Int)<=57)<;>rfl
theorem zdQ (a b c:Int):zfD a b c=some (decide (b<=a)&&decide (a<=c)):=by
 unfold zfD
 simp only[jn]
 cases decide (b<=a)<;>rfl
theorem zcC (a b c:Int):zfe a b c=some (decide (b<=a)&&decide (a<=c)):=by
 unfold zfe
 simp only[jn]
 cases decide (b<=a)<;>rfl
theorem zeq {s:Str}(h:s.length<=maxi):zeQ s=some (zay s):=by
 unfold zeQ zay
 simp only[jn,zap,zdQ,aA]
 cases(decide (1<=(s.length:Int))&&decide ((s.length:Int)<=6))
 case false=>rfl
 simp only[aK,aC,Bool.true_and]
 rw[zat (α:=UInt8) (xs:=s) (p:=zgu) (r0:=some false) (Z:=some true) (f:=fun m i=>zck s (fun _ _=>some true) m false i) (fun m i x hx=>by
  simp only[zck,jn,zan hx,zf2 hx,aD,aA,zae (zar hx) h,zh6]
  cases zgu x<;>rfl) (fun m=>by simp only[zck,zaf,aC]) (by omega)]
 cases s.all zgu<;>rfl
theorem znt (a b:Int):decide (a<b) = !decide (b<=a):=by
 by_cases h:a<b
 ·rw[aF h,aE (by omega)];rfl
 ·rw[aE h,aF (by omega)];rfl
theorem za0 {s:Str}(h:s.length<=maxi):zd1 s=some (zay s):=by
 unfold zd1 zay
 simp only[jn,zap,zcC,aA]
 rw[zat (α:=UInt8) (xs:=s) (p:=zgu) (r0:=some false) (Z:=some (decide (1<=(s.length:Int))&&decide ((s.length:Int)<=6))) (f:=fun m i=>zcb s (fun _ _=>some (decide (1<=(s.length:Int))&&decide ((s.length:Int)<=6))) m false i) (fun m i x hx=>by
  simp only[zcb,jn,zan hx,zf2 hx,aD,aA,zae (zar hx) h,znt,zgu]
  cases decide (97<=(x.toNat:Int))<;>cases decide ((x.toNat:Int)<=122)<;>cases decide (48<=(x.toNat:Int))<;>cases decide ((x.toNat:Int)<=57)<;>rfl) (fun m=>by simp only[zcb,zaf,aC]) (by omega)]
 cases s.all zgu<;>cases(decide (1<=(s.length:Int))&&decide ((s.length:Int)<=6))<;>rfl
def ahd (s:Str):List Str->Nat
 | []=>0
 |x::xs=>bif Op.bytesLess x s then ahd s xs+1 else 0
theorem zlG (s:Str): ∀ xs,ahd s xs<=xs.length
 | []=>Nat.le_refl _
 |x::xs=>by
  have:=zlG s xs
  unfold ahd
  cases Op.bytesLess x s
  ·simp
  ·simp only[aD,aL];omega
theorem zix (s:Str): ∀ (xs:List Str) x,x∈xs.take (ahd s xs)->x<s
 | [],x,h=>by simp at h
 |y::xs,x,h=>by
  unfold ahd at h
  cases hy:Op.bytesLess y s with
  |false=>rw[hy]at h;simp at h
  |true=>
   rw[hy,aD,List.take_succ_cons]at h
   rcases List.mem_cons.1 h with e |e
   ·rw[e];rw[zaK]at hy;simpa using hy
   ·exact zix s xs x e
theorem zlH (s:Str): ∀ (xs:List Str) x,xs[ahd s xs]? =some x->s<=x
 | [],x,h=>by simp at h
 |y::xs,x,h=>by
  unfold ahd at h
  cases hy:Op.bytesLess y s with
  |false=>
   rw[hy,aC]at h
   have e:y=x:=by simpa using h
   rw[<- e]
   rw[zaK]at hy
   exact zg9.1 (by simpa using hy)
  |true=>
   rw[hy,aD]at h
   exact zlH s xs x (by simpa using h)
theorem znu {xs:List Str}{s:Str}(hl:xs.length<=1000000){K:Int->Option (List Str)}: ∀ (n i m:Nat),i+n=xs.length->n<m->(∀ j,j<i -> ∃ x,xs[j]? =some x/\x<s)->zcO xs s K m (i:Int)=K ((i+ahd s (xs.drop i):Nat):Int)
 |n,i,0,_,hm,_=>by omega
 |0,i,m+1,hi,_,_=>by
  simp only[zcO,jn]
  rw[aE (by omega),aC,aC,List.drop_eq_nil_of_le (by omega)]
  rfl
 |n+1,i,m+1,hi,hm,hall=>by
  have hlt:i<xs.length:=by omega
  have hx:xs[i]? =some xs[i]:=aB hlt
  simp only[zcO,jn]
  rw[aF (by omega),aD,zad hx,aA,aI hlt]
  unfold ahd
  cases hb:Op.bytesLess xs[i] s with
  |false=>rw[aC,aC];rfl
  |true=>
   rw[aD,aD,zae hlt (by unfold maxi;omega)]
   rw[znu hl n (i+1) m (by omega) (by omega) (fun j hj=>by
    rcases Nat.lt_or_ge j i with h1 |h1
    ·exact hall j h1
    ·have:j=i:=by omega
     subst this
     exact⟨_,hx,by rw[zaK]at hb;simpa using hb⟩)]
   congr 2
   omega
theorem zk4 {xs:List Str}{s:Str}(hl:xs.length<=1000000)(ha:Asd xs):zeo xs s=some (zfX xs s):=by
 unfold zeo
 simp only[jn]
 have h1:=znu (s:=s) hl (K:=fun y1=>bif decide (y1< (xs.length:Int)) then(gi xs y1).bind fun u52=>bif u52==s then some xs else(slM xs 0 y1).bind fun q19=>(apM [] q19).bind fun q24=>(apM q24 [s]).bind fun q31=>(slM xs y1 (xs.length:Int)).bind fun q36=>(apM q31 q36).bind fun q41=>some q41
  else bif false then some xs else(slM xs 0 y1).bind fun q19=>(apM [] q19).bind fun q24=>(apM q24 [s]).bind fun q31=>(slM xs y1 (xs.length:Int)).bind fun q36=>(apM q31 q36).bind fun q41=>some q41) xs.length 0 (xs.length+1) (by omega) (by omega) (fun j hj=>by omega)
 have hk:=zlG s xs
 simp only[Nat.zero_add,List.drop_zero]at h1
 refine h1.trans ?_
 -- the list with s in its place
 have hput:(slM xs 0 ((ahd s xs:Nat):Int)).bind (fun q19=>(apM [] q19).bind fun q24=>(apM q24 [s]).bind fun q31=>(slM xs ((ahd s xs:Nat):Int) (xs.length:Int)).bind fun q36=>(apM q31 q36).bind fun q41=>some q41)=some (xs.take (ahd s xs)++[s]++xs.drop (ahd s xs)):=by
  have hlt:(xs.take (ahd s xs)).length<=xs.length:=by simp;omega
  rw[zgp hk,aA,apN (by omega),aA,ap1 (by omega),aA,zir hk,aA,zfv (by simp[lim];omega),aA]
 have hmem: ∀ a,a∈xs.take (ahd s xs)++[s]++xs.drop (ahd s xs)↔a∈xs\/a=s:=fun a=>by
  have:a∈xs↔a∈xs.take (ahd s xs)\/a∈xs.drop (ahd s xs):=by rw[<- List.mem_append,List.take_append_drop]
  rw[this]
  simp only[List.mem_append,List.mem_singleton]
  constructor
  ·rintro((h |h) |h)
   ·exact .inl (.inl h)
   ·exact .inr h
   ·exact .inl (.inr h)
  ·rintro((h |h) |h)
   ·exact .inl (.inl h)
   ·exact .inr h
   ·exact .inl (.inr h)
 have hfin:(∀ x∈xs.drop (ahd s xs),s<x)->some (xs.take (ahd s xs)++[s]++xs.drop (ahd s xs))=some (zfX xs s):=by
  intro hd
  congr 1
  refine Asd.ext ?_ (zd7 _ _) (fun a=>by rw[hmem,insS_mem])
  have ha':=ha
  rw[<- List.take_append_drop (ahd s xs) xs]at ha'
  obtain⟨p1,p2,p3⟩:=List.pairwise_append.1 ha'
  refine List.pairwise_append.2 ⟨List.pairwise_append.2 ⟨p1,List.pairwise_singleton _ _,fun a h b hb=>?_⟩,p2,fun a h b hb=>?_⟩
  ·rw[List.mem_singleton]at hb;rw[hb];exact zix s xs a h
  ·rcases List.mem_append.1 h with h2 |h2
   ·exact p3 a h2 b hb
   ·rw[List.mem_singleton]at h2;rw[h2];exact hd b hb
 by_cases hlt:ahd s xs<xs.length
 ·have hx:xs[ahd s xs]? =some xs[ahd s xs]:=aB hlt
  have hge:=zlH s xs _ hx
  rw[aF (by omega),aD,zad hx,aA]
  cases he:xs[ahd s xs]==s with
  |true=>
   have e:xs[ahd s xs]=s:=by simpa using he
   rw[aD]
   congr 1
   exact Asd.ext ha (zd7 _ _) (fun a=>by
    rw[insS_mem]
    constructor
    ·exact .inl
    ·rintro(h |h)
     ·exact h
     ·rw[h,<- e];exact List.getElem_mem hlt)
  |false=>
   have e:s≠xs[ahd s xs]:=fun e=>by rw[<- e]at he;simp at he
   rw[aC,hput]
   refine hfin (fun x hx2=>?_)
   rw[aI hlt]at hx2
   have hs1:s<xs[ahd s xs]:=zbi hge e
   rcases List.mem_cons.1 hx2 with h2 |h2
   ·rw[h2];exact hs1
   ·have hp:Asd (xs.drop (ahd s xs)):=List.Pairwise.sublist (List.drop_sublist _ _) ha
    rw[aI hlt]at hp
    exact zaI hs1 ((List.pairwise_cons.1 hp).1 x h2)
 ·rw[aE (by omega),aC,aC,hput]
  refine hfin (fun x hx2=>?_)
  rw[List.drop_eq_nil_of_le (by omega)]at hx2
  simp at hx2
def RB (n:Nat)(v:Review):Prop:=v.Branch.length<=4/\v.Into.length<=4/\v.By.length<=4/\LB n v.Yes
theorem RB.fit {n:Nat}{v:Review}(h:RB n v)(hn:n<=1000):Bk.fit v:=
 ⟨by have:=h.1;show v.Branch.length<=maxi;unfold maxi;omega,by have:=h.2.1;show v.Into.length<=maxi;unfold maxi;omega,by have:=h.2.2.1;show v.By.length<=maxi;unfold maxi;omega,h.2.2.2.fit (by omega)⟩
def curS (c:UInt8):Str->Str->List Str
 |w,[]=>[w]
 |w,x::r=>bif x==c then w::curS c [] r else curS c (w++[x]) r
def zdX (c:UInt8):Nat->Str->Str->List Str
 |_,w,[]=>[w]
 |0,w,x::r=>[w++x::r]
 |n+1,w,x::r=>bif x==c then w::zdX c n [] r else zdX c (n+1) (w++[x]) r
theorem ziy (c:UInt8): ∀ (r w:Str),1<=(curS c w r).length
 | [],w=>by simp[curS]
 |x::r,w=>by
  unfold curS
  cases x==c
  ·exact ziy c r _
  ·simp
theorem zd5 (c:UInt8)(w r:Str):zdX c 0 w r=[w++r]:=by
 cases r<;>simp[zdX]
theorem zcz (c:UInt8): ∀ (r:Str) (n:Nat) (w:Str),(curS c w r).length<=n+1->zdX c n w r=curS c w r
 | [],n,w,h=>by cases n<;>simp[zdX,curS]
 |x::r,0,w,h=>by
  unfold curS at h ⊢
  cases hx:x==c with
  |true=>
   rw[hx,aD]at h
   have:=ziy c r []
   rw[aL]at h
   omega
  |false=>
   rw[hx,aC]at h
   have ih:=zcz c r 0 (w++[x]) h
   rw[aC,<- ih,zd5,zd5]
   simp
 |x::r,n+1,w,h=>by
  unfold curS at h ⊢
  unfold zdX
  cases hx:x==c with
  |true=>
   rw[hx,aD,aL]at h
   rw[aD,aD,zcz c r n [] (by omega)]
  |false=>
   rw[hx,aC]at h
   rw[aC,aC,zcz c r (n+1) _ h]
theorem zdR (c:UInt8): ∀ (r:Str) (n:Nat) (w:Str),n+1<=(curS c w r).length->(zdX c n w r).length=n+1
 | [],n,w,h=>by
  simp[curS]at h
  subst h
  simp[zdX]
 |x::r,0,w,h=>by simp[zdX]
 |x::r,n+1,w,h=>by
  unfold curS at h
  unfold zdX
  cases hx:x==c with
  |true=>
   rw[hx,aD,aL]at h
   rw[aD,aL,zdR c r n [] (by omega)]
  |false=>
   rw[hx,aC]at h
   rw[aC,zdR c r (n+1) _ h]
theorem zje {c:UInt8}{w:Str}(h:c∉w):Lib.index w [c] = -1:=Lib.index_none fun j hj=>by
 cases ho:Lib.occAt w [c] j with
 |false=>rfl
 |true=>exact absurd (aH (Lib.occAt_head rfl ho)) h
theorem zkp {c:UInt8}{w r:Str}(h:c∉w):Lib.index (w++c::r) [c]=((w.length:Nat):Int):=Lib.index_first (by simp) (by simp[Lib.occAt,List.isPrefixOf]) fun j hj=>by
 cases ho:Lib.occAt (w++c::r) [c] j with
 |false=>rfl
 |true=>
  have:=Lib.occAt_head rfl ho
  rw[aM hj]at this
  exact absurd (aH this) h
theorem ze8 (c:UInt8): ∀ (r w:Str),c∉w->Lib.split (w++r) [c]=curS c w r
 | [],w,h=>by
  unfold Lib.split curS
  rw[List.append_nil,Lib.count_miss (zje h)]
  rfl
 |x::r,w,h=>by
  unfold curS
  cases hx:x==c with
  |true=>
   have e:x=c:=by simpa using hx
   subst e
   have hi:=zkp (r:=r) h
   rw[aD]
   have ih:=ze8 x r [] (by simp)
   unfold Lib.split at ih ⊢
   have hd:(w++x::r).drop (w.length+1)=r:=by
    rw[show w++x::r=(w++[x])++r by simp,List.drop_left' (by simp)]
   have hc:Lib.count (w++x::r) [x]=Lib.count r [x]+1:=by
    rw[Lib.count_hit (by simp) hi]
    show 1+Lib.count ((w++x::r).drop (w.length+1)) [x]=_
    rw[hd]
    omega
   rw[hc]
   unfold Lib.splitK
   rw[if_neg (by rw[hi];simp),hi]
   have e1:(w++x::r).take (((w.length:Nat):Int).toNat+0)=w:=by simp
   have e2:(w++x::r).drop (((w.length:Nat):Int).toNat+[x].length)=r:=hd
   rw[e1,e2]
   simp only[List.nil_append]at ih
   rw[ih]
  |false=>
   have hne:x≠c:=by simpa using hx
   rw[aC,show w++x::r=(w++[x])++r by simp]
   exact ze8 c r (w++[x]) (by
    rw[List.mem_append,List.mem_singleton]
    rintro(h1 |h1)
    ·exact h h1
    ·exact hne h1.symm)
theorem zk5 (c:UInt8)(s:Str):Lib.split s [c]=curS c [] s:=ze8 c s [] (by simp)
theorem zh7 (u c:UInt8):(((UInt8.toNat u:Nat):Int)==((UInt8.toNat c:Nat):Int))=(u==c):=by
 have: ∀ b c:Bool,(b=true↔c=true)->b=c:=by decide
 apply this
 rw[beq_iff_eq,beq_iff_eq,<- UInt8.toNat_inj]
 omega
theorem zj0 {s:Str}{c:UInt8}{most:Nat}(hs:s.length<=1048576)(hm:most<=1000): ∀ (n:Nat) (out:List Str) (from_ i m:Nat),i+n=s.length->n<m->from_<=i->out.length<=most->
 zeA s c (most:Int) (fun y3 y6 y7=>(slM s y6 (s.length:Int)).bind fun q38=>(apM y3 [q38]).bind fun q43=>some q43) m out (from_:Int) (i:Int)=some (out++zdX c (most-out.length) ((s.take i).drop from_) (s.drop i))
 |n,out,f,i,0,_,hm,_,_=>by omega
 |n,out,f,i,m+1,hi,hn,hf,ho=>by
  have hdone:(slM s (f:Int) (s.length:Int)).bind (fun q38=>(apM out [q38]).bind fun q43=>some q43)=some (out++[s.drop f]):=by
   rw[zir (by omega),aA,ap1 (by omega),aA]
  have hw:(s.take i).drop f++s.drop i=s.drop f:=by
   rw[<- List.drop_append_of_le_length (by simp;omega),List.take_append_drop]
  simp only[zeA,jn]
  by_cases h1:(i:Int)< (s.length:Int)
  case neg=>
   rw[aE h1,aC,aC,hdone]
   have:s.drop i=[]:=List.drop_eq_nil_of_le (by omega)
   rw[this]at hw ⊢
   rw[List.append_nil]at hw
   rw[hw]
   cases most-out.length<;>simp[zdX]
  rw[aF h1,aD]
  have hlt:i<s.length:=by omega
  have hx:s[i]? =some s[i]:=aB hlt
  by_cases h2:(out.length:Int)< (most:Int)
  case neg=>
   rw[aE h2,aC,hdone]
   have:most-out.length=0:=by omega
   rw[this,zd5,hw]
  obtain⟨n,rfl⟩: ∃ k,n=k+1:=⟨n-1,by omega⟩
  obtain⟨k,hk⟩: ∃ k,most-out.length=k+1:=⟨most-out.length-1,by omega⟩
  rw[aF h2,aD,zf2 hx,aA,zh7,hk,aI hlt]
  unfold zdX
  cases hb:s[i]==c with
  |true=>
   rw[aD,aD,zgJ (by omega) (by omega) (by omega),aA,ap1 (by omega),aA,zae hlt (by unfold maxi;omega),zj0 hs hm n _ (i+1) (i+1) m (by omega) (by omega) (by omega) (by simp;omega)]
   have e1:most-(out++[((s.take ((i:Nat):Int).toNat)).drop ((f:Nat):Int).toNat]).length=k:=by simp;omega
   have e2:(s.take (i+1)).drop (i+1)=[]:=List.drop_eq_nil_of_le (by simp;omega)
   rw[e1,e2]
   simp
  |false=>
   rw[aC,aC,zae hlt (by unfold maxi;omega),zj0 hs hm n _ f (i+1) m (by omega) (by omega) (by omega) ho,hk]
   have e2:(s.take (i+1)).drop f=(s.take i).drop f++[s[i]]:=by
    rw[List.take_add_one,hx]
    rw[List.drop_append_of_le_length (by simp;omega)]
    rfl
   rw[e2]
theorem zk6 {s:Str}{c:UInt8}{most:Nat}(hs:s.length<=1048576)(hm:most<=1000):zhg s c (most:Int)=some (zdX c most [] s):=by
 unfold zhg
 simp only[jn]
 have:=zj0 (c:=c) (most:=most) hs hm s.length [] 0 0 (s.length+1) (by omega) (by omega) (Nat.le_refl _) (by simp)
 simpa using this
def zaC (s:Str):Bool:=decide ((curS 47 [] s).length<=3)&&(curS 47 [] s).all zay
theorem zgz (c:UInt8): ∀ (r w:Str),∀ p∈curS c w r,p.length<=w.length+r.length
 | [],w,p,h=>by simp[curS]at h;rw[h];omega
 |x::r,w,p,h=>by
  unfold curS at h
  cases hx:x==c with
  |true=>
   rw[hx,aD]at h
   rcases List.mem_cons.1 h with e |e
   ·rw[e];omega
   ·have:=zgz c r [] p e
    simp at this ⊢
    omega
  |false=>
   rw[hx,aC]at h
   have:=zgz c r (w++[x]) p h
   simp at this ⊢
   omega
theorem zeT (c:UInt8): ∀ (r w:Str),(curS c w r).length<=r.length+1
 | [],w=>by simp[curS]
 |x::r,w=>by
  unfold curS
  cases x==c
  ·have:=zeT c r (w++[x]);simp at this ⊢;omega
  ·have:=zeT c r [];simp at this ⊢;omega
theorem zbW {s:Str}(h:s.length<=1048576):zfE s=some (zaC s):=by
 unfold zfE strings_Split zaC
 rw[if_pos ⟨by omega,by simp⟩,aA,zk5]
 have hl:=zeT 47 s []
 by_cases h3:(3:Int)< ((curS 47 [] s).length:Int)
 ·rw[aF h3,aD,aE (by omega)];rfl
 rw[aE h3,aC,aF (by omega),Bool.true_and]
 simp only[jn,zap]
 rw[zat (α:=Str) (xs:=curS 47 [] s) (p:=zay) (r0:=some false) (Z:=some true) (f:=fun m i=>zcn (curS 47 [] s) (fun _ _=>some true) m false i) (fun m i x hx=>by
  have hf:=zgz 47 s [] x (aH hx)
  simp only[zcn,zan hx,zad hx,aD,aA,zae (zar hx) (show(curS 47 [] s).length<=maxi by unfold maxi;omega),zeq (show x.length<=maxi by unfold maxi;simp at hf;omega)]
  cases zay x<;>rfl) (fun m=>by simp only[zcn,zaf,aC]) (by omega)]
 cases(curS 47 [] s).all zay<;>rfl
theorem zgm (c:UInt8): ∀ (r:Str) (n:Nat) (w:Str),∀ p∈zdX c n w r,p.length<=w.length+r.length
 | [],n,w,p,h=>by cases n<;>simp[zdX]at h<;>rw[h]<;>omega
 |x::r,0,w,p,h=>by simp[zdX]at h;rw[h];simp
 |x::r,n+1,w,p,h=>by
  unfold zdX at h
  cases hx:x==c with
  |true=>
   rw[hx,aD]at h
   rcases List.mem_cons.1 h with e |e
   ·rw[e];omega
   ·have:=zgm c r n [] p e
    simp at this ⊢
    omega
  |false=>
   rw[hx,aC]at h
   have:=zgm c r (n+1) (w++[x]) p h
   simp at this ⊢
   omega
theorem zdS {s:Str}(h:s.length<=1048576):zeI s=some (zaC s):=by
 unfold zeI zaC
 have e47:(UInt8.ofNatLT 47 (by decide):UInt8)=47:=by decide
 have hc:=zk6 (c:=UInt8.ofNatLT 47 (by decide)) (most:=3) h (by omega)
 rw[show(3:Int)=((3:Nat):Int) from rfl,hc,aA,e47]
 simp only[jn,zap]
 have hlen:(zdX 47 3 [] s).length<=maxi:=by
  rcases Nat.lt_or_ge (curS 47 [] s).length 4 with h1 |h1
  ·rw[zcz 47 s 3 [] (by omega)];unfold maxi;omega
  ·rw[zdR 47 s 3 [] h1];unfold maxi;omega
 rw[zat (α:=Str) (xs:=zdX 47 3 [] s) (p:=zay) (r0:=some false) (Z:=some (decide (((zdX 47 3 [] s).length:Int)<=((3:Nat):Int)))) (f:=fun m i=>zcc (zdX 47 3 [] s) (fun _ _=>some (decide (((zdX 47 3 [] s).length:Int)<=((3:Nat):Int)))) m false i) (fun m i x hx=>by
  have hf:=zgm 47 s 3 [] x (aH hx)
  simp only[zcc,zan hx,zad hx,aD,aA,zae (zar hx) hlen,za0 (show x.length<=maxi by unfold maxi;simp at hf;omega)]
  cases zay x<;>rfl) (fun m=>by simp only[zcc,zaf,aC]) (by omega)]
 rcases Nat.lt_or_ge (curS 47 [] s).length 4 with h1 |h1
 ·rw[zcz 47 s 3 [] (by omega),aF (show((curS 47 [] s).length:Int)<=((3:Nat):Int) by omega),aF (show(curS 47 [] s).length<=3 by omega)]
  cases(curS 47 [] s).all zay<;>rfl
 ·rw[zdR 47 s 3 [] h1,aE (show ¬ (curS 47 [] s).length<=3 by omega)]
  cases(zdX 47 3 [] s).all zay<;>rfl
theorem zhI (a b:Str):(Op.bytesLess a b||a==b) = !Op.bytesLess b a:=by
 rw[zaK,zaK]
 by_cases h:b<a
 ·have h1: ¬ a<b:=fun h2=>zaj a (zaI h2 h)
  have h2: ¬ a=b:=fun e=>by rw[e]at h;exact zaj b h
  simp[h,h1,h2]
 ·by_cases e:a=b
  ·simp[h,e]
  ·have:=zbi (zg9.1 h) e
   simp[h,this]
def OB (xs:List Owner):Prop:=xs.length<=1048576 /\ ∀ x∈xs,x.Path.length<=1048576/\x.Who.length<=1048576
theorem OB.of {xs:List Owner}(h:Bk.bulk xs<=1048576):OB xs:=⟨zcE h,fun x hx=>by
 have h1:Bk.bulk x<=1048576:=zgq h hx
 have h2:Bk.bulk x=x.Path.length+x.Who.length:=rfl
 omega⟩
theorem OB.at_ {xs:List Owner}(h:OB xs){i:Nat}{x:Owner}(hx:xs[i]? =some x):x.Path.length<=1048576/\x.Who.length<=1048576:=h.2 x (aH hx)
def zaG (d p:Str):Bool:=(d++[47]).isPrefixOf p
theorem zj1 {d p:Str}(hd:d.length<=1048576)(hp:p.length<=1048576)(h1:zaC d=true)(h2:zaC p=true):zbC d p=some (zaG d p):=by
 unfold zbC strings_HasPrefix zaG
 have hs:saM d ([47]:Str)=some (d++[47]):=by
  unfold saM
  rw[if_pos]
  simp only[aL,List.length_nil,lim]
  omega
 simp only[jn,zbW hd,zbW hp,h1,h2,aA,aD,hs,Lib.hasPrefix]
theorem ze9 {c:UInt8}: ∀ {d p:Str},(d++[c]).isPrefixOf p=(p.take d.length==d&&p[d.length]? ==some c)
 | [],[]=>by simp
 | [],x::p=>by
  by_cases e:c=x
  ·subst e;simp[List.isPrefixOf]
  ·have e1:(c==x)=false:=beq_false_of_ne e
   have e2:((some x:Option UInt8)==some c)=false:=beq_false_of_ne (fun h=>e (Option.some.inj h).symm)
   simp only[List.nil_append,List.isPrefixOf,e1,List.length_nil,List.take_zero,List.getElem?_cons_zero,e2,Bool.false_and,Bool.and_false]
 |y::d,[]=>by simp[List.isPrefixOf]
 |y::d,x::p=>by
  have ih:=ze9 (c:=c) (d:=d) (p:=p)
  simp only[List.cons_append,List.isPrefixOf,aL,List.take_succ_cons,List.getElem?_cons_succ,ih]
  by_cases e:y=x
  ·subst e
   simp
  ·have e1:(y==x)=false:=beq_false_of_ne e
   have e2:(x==y)=false:=beq_false_of_ne (fun h=>e h.symm)
   simp[e1,e2]
theorem zh8 {d p:Str}(hp:p.length<=1048576):zhL d p=some (zaG d p):=by
 unfold zhL zaG
 simp only[jn]
 rw[ze9]
 by_cases hl:(d.length:Int)< (p.length:Int)
 ·have hlt:d.length<p.length:=by omega
  have hx:p[d.length]? =some p[d.length]:=aB hlt
  rw[aF hl,aD,zgp (by omega),aA,hx]
  cases p.take d.length==d with
  |false=>rfl
  |true=>
   rw[aD,zf2 hx,aA,Bool.true_and]
   congr 1
   have:=(show ∀ u:UInt8,(((UInt8.toNat u:Nat):Int)==(47:Int))=(some u==some (47:UInt8)) from fun u=>by
    have hb:=zh7 u 47
    rw[show(((UInt8.toNat (47:UInt8):Nat):Int))=47 from rfl]at hb
    rw[hb]
    simp)
   exact this _
 ·rw[aE hl,aC,List.getElem?_eq_none (by omega)]
  simp
def zmd (s:Str):Bool:=s.all fun c=> !(c==124)
def zfy (t:List Str):Bool:=t.all zmd
theorem zh9 {t:List Str}(h:Bk.fit t):zeB t=some (zfy t&&zao t):=by
 have hl:=zjE h
 unfold zeB zfy
 simp only[jn,zap,zh5 h,aA]
 rw[zat (α:=Str) (xs:=t) (p:=zmd) (r0:=some false) (Z:=some (zao t)) (f:=fun m i=>zaE t (fun _ _=>some (zao t)) m false i) (fun m i x hx=>by
  have hx2:x.length<=maxi:=zlB h hx
  have b124: ∀ u:UInt8,(((UInt8.toNat u:Nat):Int)==(124:Int))=(u==124):=fun u=>by
   have hb:=zh7 u 124
   rw[show(((UInt8.toNat (124:UInt8):Nat):Int))=124 from rfl]at hb
   exact hb
  simp only[zaE,zan hx,zad hx,aD,jn,Option.getD_some]
  rw[zat (α:=UInt8) (xs:=x) (p:=fun c=> !(c==124)) (r0:=some false) (Z:=zaE t (fun _ _=>some (zao t)) m false ((i+1:Nat):Int)) (f:=fun m' k=>zbp t (i:Int) (fun y10 y11=>zaE t (fun _ _=>some (zao t)) m y10 (w64 ((i:Int)+1))) m' false k) (fun m' k c hc=>by
   simp only[zbp,zad hx,aA,zan hc,aD,zf2 hc,b124,zae (zar hc) hx2]
   cases c==124<;>rfl) (fun m'=>by simp only[zbp,zad hx,aA,zaf,aC,zae (zar hx) hl]) (by omega)]
  rfl) (fun m=>by simp only[zaE,zaf,aC]) (by omega)]
 cases t.all zmd<;>rfl
def opB (o:Op):Bool:=
 zay o.Branch&&(zay o.Who&&
  (bif o.Kind==1 then zaC o.Path&&(zao o.Text&&(zfy o.Text&&(o.To==[]&&o.At==0)))
   else bif o.Kind==2 then zaC o.Path&&(o.To==[]&&(o.At==0&&(o.Text.length:Int)==0))
   else bif o.Kind==3 then zaC o.Path&&(zaC o.To&&(o.At==0&&(o.Text.length:Int)==0))
   else bif o.Kind==4||o.Kind==5 then zay o.To&&(o.Path==[]&&(o.At==0&&(o.Text.length:Int)==0))
   else bif o.Kind==6||o.Kind==7 then(decide (0<=o.At)&&decide (o.At<=15))&&(o.Path==[]&&(o.To==[]&&(o.Text.length:Int)==0))
   else false))
structure OpFit (o:Op):Prop where
 fit:Bk.fit o
 path:o.Path.length<=1048576
 to:o.To.length<=1048576
 text:Bk.bulk o.Text<=1048576
theorem OpFit.of {o:Op}(h:Bk.fit o)(hb:Bk.bulk o<=1048576):OpFit o:=by
 have e:Bk.bulk o=Bk.bulk o.Kind+(Bk.bulk o.Branch+(Bk.bulk o.Who+(Bk.bulk o.Path+(Bk.bulk o.To+(Bk.bulk o.At+Bk.bulk o.Text))))):=rfl
 have e1:Bk.bulk o.Path=o.Path.length:=rfl
 have e2:Bk.bulk o.To=o.To.length:=rfl
 exact⟨h,by omega,by omega,by omega⟩
theorem zmu (o:Op)(p q r s:Bool):zd9 o p q r s=some ((p||o.Path==[])&&((q||o.To==[])&&((r||o.At==0)&&(s||(o.Text.length:Int)==0)))):=by
 unfold zd9
 simp only[jn]
 cases p<;>cases q<;>cases r<;>cases s<;>cases(o.Path==([]:Str))<;>cases(o.To==([]:Str))<;>cases((o.At:Int)==(0:Int))<;>rfl
theorem zk7 {o:Op}(h:OpFit o):zhh o=some (opB o):=by
 obtain⟨f0,f1,f2,f3,f4,f5,f6⟩:=h.fit
 unfold zhh opB
 simp only[jn,za0 f1,za0 f2,za0 f4,zdS h.path,zdS h.to,zh9 f6,zmu,aA,zcC]
 cases zay o.Branch
 ·rfl
 cases zay o.Who
 ·rfl
 simp only[aK,aC,Bool.true_and,Bool.true_or,Bool.false_or,Bool.and_true]
 cases(o.Kind==(1:Int))
 case true=>cases zaC o.Path<;>cases zao o.Text<;>cases zfy o.Text<;>cases(o.To==([]:Str))<;>cases(o.At==(0:Int))<;>rfl
 cases(o.Kind==(2:Int))
 case true=>cases zaC o.Path<;>cases(o.To==([]:Str))<;>cases(o.At==(0:Int))<;>cases((o.Text.length:Int)==0)<;>rfl
 cases(o.Kind==(3:Int))
 case true=>cases zaC o.Path<;>cases zaC o.To<;>cases(o.At==(0:Int))<;>cases((o.Text.length:Int)==0)<;>rfl
 simp only[aC]
 cases(o.Kind==(4:Int))<;>cases(o.Kind==(5:Int))<;>cases(o.Kind==(6:Int))<;>cases(o.Kind==(7:Int))<;>cases zay o.To<;>cases(o.Path==([]:Str))<;>cases(o.At==(0:Int))<;>cases(o.To==([]:Str))<;>cases((o.Text.length:Int)==0)<;>cases(decide (0<=o.At)&&decide (o.At<=15))<;>rfl
theorem zdc: ∀ {b c:Bool},(b=true↔c=true)->b=c:=by decide
theorem zj2 {i n:Nat}(hi:i<n)(hn:n<=maxi)(h0:(0:Int)< (i:Int)):w64 ((i:Int)-1)=((i-1:Nat):Int):=by
 rw[zag (by omega) (by unfold maxi at hn;omega)];omega
structure FB (f:File):Prop where
 path:f.Path.length<=1048576
 len:f.Text.length<=1048576
 text:Bk.fit f.Text
def TB (t:List File):Prop:=t.length<=1048576 /\ ∀ f∈t,FB f
theorem TB.at_ {t:List File}(h:TB t){i:Nat}{f:File}(hf:t[i]? =some f):FB f:=h.2 f (aH hf)
theorem TB.maxi {t:List File}(h:TB t):t.length<=maxi:=zal h.1
theorem TB.nil:TB []:=⟨by simp,fun f hf=>by simp at hf⟩
def zcs:File:=⟨[],[]⟩
theorem za9 {t:List File}{i:Nat}{f:File}(h:t[i]? =some f):t.getD i zcs=f:=by simp[List.getD,h]
theorem ziz {t:List File}{i:Nat}{f:File}(h:t[i]? =some f)(hl:t.length<=maxi)(h0:(0:Int)< (i:Int)): ∃ y,gi t (w64 ((i:Int)-1))=some y/\t.getD (i-1) zcs=y:=by
 have hi:=zar h
 have hx:t[i-1]? =some t[i-1]:=aB (by omega)
 exact⟨_,by rw[zj2 hi hl h0];exact zad hx,za9 hx⟩
def zft (t:List File)(i:Nat):Bool:=zaC (t.getD i zcs).Path&&(zao (t.getD i zcs).Text&&(bif decide (0< (i:Int)) then Op.bytesLess (t.getD (i-1) zcs).Path (t.getD i zcs).Path else true))
def zfu (t:List File)(i:Nat):Bool:=zft t i&&t.all fun f=> !zaG (t.getD i zcs).Path f.Path
def zia (t:List File)(i:Nat):Bool:=zft t i&&(t.take i).all fun f=> !(zaC f.Path&&(zaC (t.getD i zcs).Path&&zaG f.Path (t.getD i zcs).Path))
def zaq (t:List File):Bool:=decide ((t.length:Int)<=8)&&zfT (zfu t) 0 t.length
theorem zmv (d:Str)(x:UInt8)(r:Str):d<d++x::r:=by
 induction d with
 |nil=>exact List.nil_lt_cons _ _
 |cons a d ih=>exact List.cons_lt_cons_self.2 ih
theorem zk8 {d p:Str}(h:zaG d p=true):d<p:=by
 unfold zaG at h
 obtain⟨t,rfl⟩:=List.isPrefixOf_iff_prefix.1 h
 rw[List.append_assoc]
 exact zmv d 47 t
theorem zig {t:List File}{n:Nat}(h: ∀ i,i<n->zft t i=true){i j:Nat}(hij:i<j)(hj:j<n):(t.getD i zcs).Path< (t.getD j zcs).Path:=by
 induction j with
 |zero=>omega
 |succ j ih=>
  have h1:=h (j+1) hj
  unfold zft at h1
  rw[aF (by omega),aD,Nat.add_sub_cancel]at h1
  simp only[aG,zaK,decide_eq_true_eq]at h1
  rcases Nat.lt_or_ge i j with h2 |h2
  ·exact zaI (ih h2 (by omega)) h1.2.2
  ·have:i=j:=by omega
   subst this
   exact h1.2.2
theorem zi4 (t:List File):zfT (zia t) 0 t.length=zfT (zfu t) 0 t.length:=by
 apply zdc
 rw[zaP,zaP]
 constructor
 ·intro h
  have hf: ∀ i,i<t.length->zft t i=true:=fun i hi=>by
   have:=h i (Nat.zero_le _) (by omega)
   unfold zia at this
   simp only[aG]at this
   exact this.1
  intro i _ hi
  have hi':i<t.length:=by omega
  unfold zfu
  rw[hf i hi',Bool.true_and,List.all_eq_true]
  intro f hm
  obtain⟨k,hk⟩:=List.mem_iff_getElem?.1 hm
  have hkl:=zar hk
  cases hb:zaG (t.getD i zcs).Path f.Path with
  |false=>rfl
  |true=>
   exfalso
   have hlt:=zk8 hb
   rcases Nat.lt_trichotomy i k with h1 |h1 |h1
   ·have:=h k (Nat.zero_le _) (by omega)
    unfold zia at this
    simp only[aG,List.all_eq_true]at this
    have h2:=this.2 t[i] (aH (i:=i) (by rw[List.getElem?_take_of_lt h1];exact aB hi'))
    have p1:=hf i hi'
    have p2:=hf k hkl
    unfold zft at p1 p2
    simp only[aG]at p1 p2
    rw[za9 hk]at h2 p2
    rw[za9 (aB hi')]at hb p1
    rw[p1.1,p2.1,hb]at h2
    simp at h2
   ·subst h1
    rw[za9 hk]at hlt
    exact zaj _ hlt
   ·have:=zig hf h1 hi'
    rw[za9 hk]at this
    exact zaj _ (zaI hlt this)
 ·intro h i _ hi
  have hi':i<t.length:=by omega
  have h1:=h i (Nat.zero_le _) hi
  unfold zfu at h1
  simp only[aG]at h1
  unfold zia
  rw[h1.1,Bool.true_and,List.all_eq_true]
  intro f hm
  obtain⟨k,hk⟩:=List.mem_iff_getElem?.1 hm
  obtain⟨hk',hki⟩:=show t[k]? =some f/\k<i from by
   rw[List.getElem?_take]at hk
   split at hk
   ·exact⟨hk,by assumption⟩
   ·cases hk
  have h2:=h k (Nat.zero_le _) (by omega)
  unfold zfu at h2
  simp only[aG,List.all_eq_true]at h2
  have h3:=h2.2 t[i] (List.getElem_mem hi')
  rw[za9 hk']at h3
  rw[za9 (aB hi')]
  have h4:zaG f.Path t[i].Path=false:=by simpa using h3
  rw[h4]
  simp
theorem zdy {t:List File}(h:TB t):zdx t=some (zaq t):=by
 have hm:=h.maxi
 unfold zdx zaq
 simp only[jn,zap]
 rw[zb9 (n:=t.length) (g:=zfu t) (r0:=some false) (Z:=some (decide ((t.length:Int)<=8))) (f:=fun m i=>zdl t (fun _ _=>some (decide ((t.length:Int)<=8))) m false i) (fun m i hi=>by
  have hx:t[i]? =some t[i]:=aB hi
  have fx:=h.at_ hx
  simp only[zdl,jn,zan hx,zad hx,aD,aA,zae hi hm,zdS fx.path,zh5 fx.text]
  unfold zfu zft
  rw[za9 hx]
  have hin: ∀ K:Bool->Int->Option Bool,zbZ t (i:Int) K (t.length+1) false 0=bif t.all (fun f=> !zaG t[i].Path f.Path) then K false (t.length:Int) else some false:=fun K=>by
   rw[zat (α:=File) (xs:=t) (p:=fun f=> !zaG t[i].Path f.Path) (r0:=some false) (Z:=K false (t.length:Int)) (f:=fun m k=>zbZ t (i:Int) K m false k) (fun m k f hf=>by
    simp only[zbZ,zan hf,zad hf,zad hx,aD,aA,zae (zar hf) hm,zh8 (h.at_ hf).path]
    cases zaG t[i].Path f.Path<;>rfl) (fun m=>by simp only[zbZ,zaf,aC]) (by omega)]
  cases zaC t[i].Path
  ·rfl
  cases zao t[i].Text
  ·rfl
  simp only[aK,aC,Bool.true_and]
  by_cases h0:(0:Int)< (i:Int)
  ·obtain⟨y,hy,ey⟩:=ziz hx hm h0
   rw[hy,ey,aF h0]
   simp only[aA,zhI,aD]
   cases Op.bytesLess y.Path t[i].Path
   ·rfl
   ·simp only[aK,aC,Bool.true_and,zap,hin]
  ·rw[aE h0]
   simp only[aC,Bool.true_and,zap,hin]) (fun m=>by simp only[zdl,zaf,aC]) _ (by omega)]
 cases decide ((t.length:Int)<=8)<;>cases zfT (zfu t) 0 t.length<;>rfl
theorem zi5 {d p:Str}(hd:d.length<=1048576)(hp:p.length<=1048576):zbC d p=some (zaC d&&(zaC p&&zaG d p)):=by
 cases h1:zaC d with
 |false=>unfold zbC;simp only[jn,zbW hd,h1,aA,aC,Bool.false_and]
 |true=>
  cases h2:zaC p with
  |false=>unfold zbC;simp only[jn,zbW hd,zbW hp,h1,h2,aA,aC,aD,Bool.false_and,Bool.and_false]
  |true=>rw[zj1 hd hp h1 h2];rfl
theorem zer {t:List File}(h:TB t):zdM t=some (zaq t):=by
 have hm:=h.maxi
 unfold zdM zaq
 by_cases h8:(8:Int)< (t.length:Int)
 ·rw[aF h8,aE (by omega)];rfl
 rw[aE h8,aF (by omega),aC,Bool.true_and,<- zi4]
 simp only[jn,zap]
 rw[zb9 (n:=t.length) (g:=zia t) (r0:=some false) (Z:=some true) (f:=fun m i=>zco t (fun _ _=>some true) m false i) (fun m i hi=>by
  have hx:t[i]? =some t[i]:=aB hi
  have fx:=h.at_ hx
  simp only[zco,jn,zan hx,zad hx,aD,aA,zae hi hm,zbW fx.path,zep fx.text,zgp (Nat.le_of_lt hi),zap]
  unfold zia zft
  rw[za9 hx]
  have hin: ∀ K:Bool->Int->Option Bool,zbg t[i] (t.take i) K ((t.take i).length+1) false 0=bif(t.take i).all (fun f=> !(zaC f.Path&&(zaC t[i].Path&&zaG f.Path t[i].Path))) then K false ((t.take i).length:Int) else some false:=fun K=>by
   rw[zat (α:=File) (xs:=t.take i) (p:=fun f=> !(zaC f.Path&&(zaC t[i].Path&&zaG f.Path t[i].Path))) (r0:=some false) (Z:=K false ((t.take i).length:Int)) (f:=fun m k=>zbg t[i] (t.take i) K m false k) (fun m k f hf=>by
    have hf2:FB f:=h.2 f (List.mem_of_mem_take (aH hf))
    simp only[zbg,zan hf,zad hf,aD,aA,zae (zar hf) (show(t.take i).length<=maxi by simp;omega),zi5 hf2.path fx.path]
    cases(zaC f.Path&&(zaC t[i].Path&&zaG f.Path t[i].Path))<;>rfl) (fun m=>by simp only[zbg,zaf,aC]) (by omega)]
  cases zao t[i].Text
  ·cases zaC t[i].Path<;>rfl
  cases hp:zaC t[i].Path
  ·rfl
  simp only[aK,aC,Bool.true_and]
  by_cases h0:(0:Int)< (i:Int)
  ·obtain⟨y,hy,ey⟩:=ziz hx hm h0
   rw[hy,ey,aF h0]
   simp only[aA,aD]
   cases Op.bytesLess y.Path t[i].Path
   ·rfl
   ·simp only[aK,aC,Bool.true_and,zap,hin,hp]
  ·rw[aE h0]
   simp only[aC,Bool.true_and,zap,hin,hp]) (fun m=>by simp only[zco,zaf,aC]) _ (by omega)]
 cases zfT (zia t) 0 t.length<;>rfl
structure CB (c:Commit):Prop where
 par:c.Parents.length<=1048576
 who:c.Who.length<=1048576
 tree:TB c.Tree
structure RpB (r:Repo):Prop where
 coms:r.Commits.length<=1048576
 com: ∀ c∈r.Commits,CB c
 heads:r.Heads.length<=1048576
 head: ∀ h∈r.Heads,h.Name.length<=1048576
theorem RpB.cat {r:Repo}(h:RpB r){i:Nat}{c:Commit}(hc:r.Commits[i]? =some c):CB c:=h.com c (aH hc)
theorem RpB.hat {r:Repo}(h:RpB r){i:Nat}{c:Head}(hc:r.Heads[i]? =some c):c.Name.length<=1048576:=h.head c (aH hc)
def zdD:Head:=⟨[],0⟩
theorem za6 {t:List Head}{i:Nat}{f:Head}(h:t[i]? =some f):t.getD i zdD=f:=by simp[List.getD,h]
theorem ziA {t:List Head}{i:Nat}{f:Head}(h:t[i]? =some f)(hl:t.length<=maxi)(h0:(0:Int)< (i:Int)): ∃ y,gi t (w64 ((i:Int)-1))=some y/\t.getD (i-1) zdD=y:=by
 have hi:=zar h
 have hx:t[i-1]? =some t[i-1]:=aB (by omega)
 exact⟨_,by rw[zj2 hi hl h0];exact zad hx,za6 hx⟩
def upB (i p:Int):Bool:=decide (0<=p)&&decide (p<=i-1)
def zl0 (ps:List Int):Bool:=match ps with
 | [p,q]=> !(p==q)
 |_=>true
def zjz (i:Int)(c:Commit):Bool:=c.Parents.all (upB i)&&(decide ((c.Parents.length:Int)<=2)&&(zl0 c.Parents&&(zay c.Who&&zaq c.Tree)))
def noCommit:Commit:=⟨[],[],[]⟩
def zkh (cs:List Commit):Bool:=zfT (fun i=>zjz i (cs.getD i noCommit)) 0 cs.length
def zeO (n:Nat)(hs:List Head)(i:Nat):Bool:=zay (hs.getD i zdD).Name&&(upB n (hs.getD i zdD).At&&(bif decide (0< (i:Int)) then Op.bytesLess (hs.getD (i-1) zdD).Name (hs.getD i zdD).Name else true))
def zb5 (n:Nat)(hs:List Head):Bool:=zfT (zeO n hs) 0 hs.length&&decide ((hs.length:Int)<=5)
def zaa (r:Repo):Bool:=decide ((r.Commits.length:Int)<=16)&&(zkh r.Commits&&zb5 r.Commits.length r.Heads)
theorem zdq {t:List Commit}{i:Nat}{f:Commit}(h:t[i]? =some f):t.getD i noCommit=f:=by simp[List.getD,h]
theorem zcq {n:Nat}(hn:n<=maxi):w64 ((n:Int)-1)=(n:Int)-1:=zag (by omega) (by unfold maxi at hn;omega)
def zmw (i:Int)(ps:List Int)(k:Nat):Bool:=upB i (ps.getD k 0) && !(decide (0< (k:Int))&&(ps.getD k 0==ps.getD 0 0))
theorem zbP {t:List Int}{i:Nat}{f:Int}(h:t[i]? =some f):t.getD i 0=f:=by simp[List.getD,h]
theorem zj3 (i:Int)(ps:List Int)(h2:(ps.length:Int)<=2):zfT (zmw i ps) 0 ps.length=(ps.all (upB i)&&zl0 ps):=by
 match ps,h2 with
 | [],_=>rfl
 | [p],_=>simp[zfT,zmw,zl0]
 | [p,q],_=>
  simp only[zfT,zmw,zl0,aL,List.length_nil,List.all_cons,List.all_nil]
  have e:(q==p)=(p==q):=by
   apply zdc;rw[beq_iff_eq,beq_iff_eq];exact eq_comm
  simp[e]
  cases upB i p<;>cases upB i q<;>simp
 |p::q::s::l,h=>simp at h;omega
theorem zoZ {i:Nat}{c:Commit}(hi:i<=1048576)(hc:CB c)(K:Bool->Int->Option Bool):zb0 (i:Int) c K (c.Parents.length+1) false 0=bif zfT (zmw i c.Parents) 0 c.Parents.length then K false (c.Parents.length:Int) else some false:=by
 have hm:=zal hc.par
 rw[zb9 (n:=c.Parents.length) (g:=zmw i c.Parents) (r0:=some false) (Z:=K false (c.Parents.length:Int)) (f:=fun m k=>zb0 (i:Int) c K m false k) (fun m k hk=>by
  have hx:c.Parents[k]? =some c.Parents[k]:=aB hk
  have h00:c.Parents[0]? =some c.Parents[0]:=aB (by omega)
  have hg0:gi c.Parents 0=some c.Parents[0]:=zad (i:=0) h00
  simp only[zb0,jn,zan hx,zad hx,hg0,aD,aA,zae hk hm,zcC,zcq (show i<=maxi by unfold maxi;omega)]
  unfold zmw
  rw[zbP hx,zbP h00,show(decide ((0:Int)<=c.Parents[k])&&decide (c.Parents[k]<=(i:Int)-1))=upB i c.Parents[k] from rfl]
  cases upB (i:Int) c.Parents[k]
  ·rfl
  ·cases decide ((0:Int)< (k:Int))
   ·rfl
   ·cases(c.Parents[k]==c.Parents[0])<;>rfl) (fun m=>by simp only[zb0,zaf,aC]) _ (by omega)]
theorem zo0 {r:Repo}(h:RpB r):zb1 r (fun _ _=>jn (fun(y128:Bool)=>some y128) fun K130=>bif decide (((r.Commits.length:Int):Int)<=(16:Int)) then(K130 (decide (((r.Heads.length:Int):Int)<=(5:Int)))) else(K130 false)) (r.Heads.length+1) false 0=some (decide ((r.Commits.length:Int)<=16)&&zb5 r.Commits.length r.Heads):=by
 have hm:=zal h.heads
 rw[zb9 (n:=r.Heads.length) (g:=zeO r.Commits.length r.Heads) (r0:=some false) (Z:=some (decide ((r.Commits.length:Int)<=16)&&decide ((r.Heads.length:Int)<=5))) (f:=fun m k=>zb1 r _ m false k) (fun m k hk=>by
  have hx:r.Heads[k]? =some r.Heads[k]:=aB hk
  simp only[zb1,jn,zan hx,zad hx,aD,aA,zae hk hm,zcC,zcq (zal h.coms),za0 (zal (h.hat hx))]
  unfold zeO
  rw[za6 hx,show(decide ((0:Int)<=r.Heads[k].At)&&decide (r.Heads[k].At<=(r.Commits.length:Int)-1))=upB r.Commits.length r.Heads[k].At from rfl]
  cases zay r.Heads[k].Name
  ·rfl
  cases upB r.Commits.length r.Heads[k].At
  ·rfl
  by_cases h0:(0:Int)< (k:Int)
  ·obtain⟨y,hy,ey⟩:=ziA hx hm h0
   rw[hy,ey,aF h0]
   simp only[aA,zhI]
   cases Op.bytesLess y.Name r.Heads[k].Name<;>rfl
  ·rw[aE h0];rfl) (fun m=>by
   simp only[zb1,zaf,aC,jn]
   cases decide ((r.Commits.length:Int)<=16)<;>rfl) _ (by omega)]
 unfold zb5
 cases zfT (zeO r.Commits.length r.Heads) 0 r.Heads.length<;>cases decide ((r.Commits.length:Int)<=16)<;>rfl
theorem zbT {r:Repo}(h:RpB r):zcS r=some (zaa r):=by
 have hm:=zal h.coms
 unfold zcS zaa zkh
 simp only[jn,zap]
 have h3:=zo0 h
 simp only[jn]at h3
 rw[zb9 (n:=r.Commits.length) (g:=fun i=>zjz i (r.Commits.getD i noCommit)) (r0:=some false) (Z:=some (decide ((r.Commits.length:Int)<=16)&&zb5 r.Commits.length r.Heads)) (f:=fun m i=>zdn r _ m false i) (fun m i hi=>by
  have hx:r.Commits[i]? =some r.Commits[i]:=aB hi
  have hc:=h.cat hx
  have hco:=h.coms
  simp only[zdn,jn,zan hx,zad hx,aD,aA,zae hi hm,zap,zoZ (show i<=1048576 by omega) hc,zdq hx]
  unfold zjz
  by_cases h2:(2:Int)< (r.Commits[i].Parents.length:Int)
  ·rw[aF h2,aE (show ¬ (r.Commits[i].Parents.length:Int)<=2 by omega)]
   simp only[aD,Bool.false_and,Bool.and_false,aC]
   cases zfT (zmw i r.Commits[i].Parents) 0 r.Commits[i].Parents.length<;>rfl
  ·rw[aE h2,aF (show(r.Commits[i].Parents.length:Int)<=2 by omega),zj3 _ _ (by omega)]
   simp only[aC,Bool.true_and,za0 (zal hc.who),zdy hc.tree,aA]
   cases r.Commits[i].Parents.all (upB i)<;>cases zl0 r.Commits[i].Parents<;>cases zay r.Commits[i].Who<;>cases zaq r.Commits[i].Tree<;>rfl) (fun m=>by
   simp only[zdn,zaf,aC,jn,zap,h3]) _ (by omega)]
 cases zfT (fun i=>zjz i (r.Commits.getD i noCommit)) 0 r.Commits.length<;>cases decide ((r.Commits.length:Int)<=16)<;>rfl
theorem zi6 {r:Repo}(h:RpB r){hs:List Head}(hl:hs.length<=1048576)(hn: ∀ h∈hs,h.Name.length<=1048576):zfq r hs=some (zb5 r.Commits.length hs):=by
 have hm:=zal hl
 unfold zfq zb5
 by_cases h5:(5:Int)< (hs.length:Int)
 ·rw[aF h5,aE (show ¬ (hs.length:Int)<=5 by omega),Bool.and_false];rfl
 rw[aE h5,aF (show(hs.length:Int)<=5 by omega),aC,Bool.and_true]
 simp only[jn,zap]
 rw[zb9 (n:=hs.length) (g:=zeO r.Commits.length hs) (r0:=some false) (Z:=some true) (f:=fun m k=>zbM r hs (fun _ _=>some true) m false k) (fun m k hk=>by
  have hx:hs[k]? =some hs[k]:=aB hk
  simp only[zbM,za8,jn,zan hx,zad hx,aD,aA,zae hk hm,zdQ,zcq (zal h.coms),zeq (zal (hn _ (aH hx)))]
  unfold zeO
  rw[za6 hx,show(decide ((0:Int)<=hs[k].At)&&decide (hs[k].At<=(r.Commits.length:Int)-1))=upB r.Commits.length hs[k].At from rfl]
  cases zay hs[k].Name
  ·rfl
  cases upB r.Commits.length hs[k].At
  ·rfl
  by_cases h0:(0:Int)< (k:Int)
  ·obtain⟨y,hy,ey⟩:=ziA hx hm h0
   rw[hy,ey,aF h0]
   simp only[aA]
   cases Op.bytesLess y.Name hs[k].Name<;>rfl
  ·rw[aE h0];rfl) (fun m=>by simp only[zbM,zaf,aC]) _ (by omega)]
 cases zfT (zeO r.Commits.length hs) 0 hs.length<;>rfl
theorem zb7 {r:Repo}(h:RpB r):zdg r=some (zaa r):=by
 have hm:=zal h.coms
 unfold zdg zaa zkh
 by_cases h16:(16:Int)< (r.Commits.length:Int)
 ·rw[aF h16,aE (by omega)];rfl
 rw[aE h16,aF (by omega),aC,Bool.true_and]
 simp only[jn,zap]
 rw[zb9 (n:=r.Commits.length) (g:=fun i=>zjz i (r.Commits.getD i noCommit)) (r0:=some false) (Z:=some (zb5 r.Commits.length r.Heads)) (f:=fun m i=>zcp r _ m false i) (fun m i hi=>by
  have hx:r.Commits[i]? =some r.Commits[i]:=aB hi
  have hc:=h.cat hx
  have hco:=h.coms
  have hpm:=zal hc.par
  have hin: ∀ K:Bool->Int->Option Bool,zbh (i:Int) r.Commits[i] K (r.Commits[i].Parents.length+1) false 0=bif r.Commits[i].Parents.all (upB i) then K false (r.Commits[i].Parents.length:Int) else some false:=fun K=>by
   rw[zat (α:=Int) (xs:=r.Commits[i].Parents) (p:=upB i) (r0:=some false) (Z:=K false (r.Commits[i].Parents.length:Int)) (f:=fun m k=>zbh (i:Int) r.Commits[i] K m false k) (fun m k p hp=>by
    simp only[zbh,zan hp,zad hp,aD,aA,zae (zar hp) hpm,zdQ,zcq (show i<=maxi by unfold maxi;omega)]
    rw[show(decide ((0:Int)<=p)&&decide (p<=(i:Int)-1))=upB i p from rfl]
    cases upB i p<;>rfl) (fun m=>by simp only[zbh,zaf,aC]) (by omega)]
  simp only[zcp,jn,zan hx,zad hx,aD,aA,zae hi hm,zap,hin,zdq hx,zeq (zal hc.who),zer hc.tree]
  unfold zjz
  match hps:r.Commits[i].Parents with
  | []=>cases zay r.Commits[i].Who<;>cases zaq r.Commits[i].Tree<;>rfl
  | [p]=>
   simp only[aL,List.length_nil,List.all_cons,List.all_nil,zl0]
   cases upB i p<;>cases zay r.Commits[i].Who<;>cases zaq r.Commits[i].Tree<;>rfl
  | [p,q]=>
   simp only[aL,List.length_nil,List.all_cons,List.all_nil,zl0,gi,List.getElem?_cons_zero,List.getElem?_cons_succ,Int.toNat_zero,Int.toNat_one]
   cases upB i p<;>cases upB i q<;>cases hpq:p==q<;>cases zay r.Commits[i].Who<;>cases zaq r.Commits[i].Tree<;>simp[hpq]<;>rfl
  |p::q::s::l=>
   rw[aF (by simp only[aL];omega),aE (show ¬ (((p::q::s::l).length:Nat):Int)<=2 by simp only[aL];omega)]
   simp only[aD,Bool.false_and,Bool.and_false,aC]) (fun m=>by
   simp only[zcp,zaf,aC,jn,zi6 h h.heads h.head,aA]) _ (by omega)]
 cases zfT (fun i=>zjz i (r.Commits.getD i noCommit)) 0 r.Commits.length<;>rfl
def atB (r:Repo)(name:Str):Int:=match r.Heads.find? (fun h=>h.Name==name)with
 |some h=>h.At
 |none=> -1
theorem zb8 {r:Repo}(h:RpB r)(name:Str):zd6 r name=some (atB r name):=by
 have hm:=zal h.heads
 unfold zd6 atB
 simp only[jn,zap]
 rw[zcG (p:=fun h:Head=>h.Name==name) (xs:=r.Heads) (r:=fun h=>some h.At) (Z:=some (-1)) (f:=fun m k=>zdk r name _ m 0 k) (fun m i x hx=>by
  simp only[zdk,zan hx,zad hx,aD,aA,zae (zar hx) hm]) (fun m=>by simp only[zdk,zaf,aC]) (by omega)]
 cases r.Heads.find? (fun h=>h.Name==name)<;>rfl
theorem zgL {r:Repo}(h:RpB r)(a:Int):za8 r a=some (upB r.Commits.length a):=by
 unfold za8
 rw[zcq (zal h.coms),zdQ,aA]
 rfl
theorem zau {n:Nat}{a:Int}:upB n a=true↔0<=a/\a<=(n:Int)-1:=by
 unfold upB
 simp only[aG,decide_eq_true_eq]
theorem zmV {r:Repo}(h:RpB r){l:List Int}(hl:l.length<=100000):zfi r l=some (zaa r&&l.all (upB r.Commits.length)):=by
 unfold zfi
 rw[zb7 h,aA]
 cases zaa r with
 |false=>rfl
 |true=>
  rw[aK,aC,Bool.true_and]
  simp only[jn,zap]
  rw[zat (α:=Int) (xs:=l) (p:=upB r.Commits.length) (r0:=some false) (Z:=some true) (f:=fun m k=>zdr r l (fun _ _=>some true) m false k) (fun m k p hp=>by
   simp only[zdr,zan hp,zad hp,aD,aA,zae (zar hp) (show l.length<=maxi by unfold maxi;omega),zgL h]
   cases upB r.Commits.length p<;>rfl) (fun m=>by simp only[zdr,zaf,aC]) (by omega)]
  cases l.all (upB r.Commits.length)<;>rfl
theorem zbG {t:List File}(h:TB t):zdV t=some t:=by
 have hm:=h.maxi
 have hl:=h.1
 unfold zdV
 simp only[jn,zap]
 rw[zbr (xs:=t) (p:=fun _=>true) (g:=fun f:File=>f) (Z:=fun acc=>some acc) (f:=fun m acc i=>zce t _ m acc i) (fun m i x acc hx ha=>by
  have hi:=zar hx
  simp only[zce,zan hx,zad hx,aD,aA,zae hi hm,apN (h.at_ hx).len,ap1 (show acc.length<=1048576 by omega)]) (fun m acc=>by simp only[zce,zaf,aC]) (by omega)]
 simp
theorem zfa {c:Commit}(h:CB c):zcH c=some c:=by
 unfold zcH
 rw[apN h.par,aA,zbG h.tree,aA]
theorem zbX {r:Repo}(h:RpB r):zbs r=some r:=by
 have hm:=zal h.coms
 have hl:=h.coms
 unfold zbs
 simp only[jn,zap,apN h.heads,aA]
 rw[zbr (xs:=r.Commits) (p:=fun _=>true) (g:=fun f:Commit=>f) (Z:=fun acc=>some (Repo.mk acc r.Heads)) (f:=fun m acc i=>zcf r _ m i acc r.Heads) (fun m i x acc hx ha=>by
  have hi:=zar hx
  simp only[zcf,zan hx,zad hx,aD,aA,zae hi hm,zfa (h.cat hx),ap1 (show acc.length<=1048576 by omega)]) (fun m acc=>by simp only[zcf,zaf,aC]) (by omega)]
 rw[show((r.Commits.filter fun _=>true).map fun f:Commit=>f)=r.Commits by simp]
def zdZ (n:Str)(a:Int):Bool->List Head->List Head
 |put,[]=>bif put then [] else [⟨n,a⟩]
 |put,h::hs=>(bif !put && !Op.bytesLess h.Name n then [⟨n,a⟩] else [])++((bif h.Name !=n then [h] else [])++zdZ n a (put || !Op.bytesLess h.Name n) hs)
theorem zg2 (n:Str)(a:Int): ∀ (hs:List Head) (put:Bool),(zdZ n a put hs).length+(bif put then 1 else 0)<=hs.length+1
 | [],put=>by cases put<;>simp[zdZ]
 |h::hs,put=>by
  have ih:=zg2 n a hs (put || !Op.bytesLess h.Name n)
  unfold zdZ
  cases put<;>cases hb:Op.bytesLess h.Name n<;>cases hn:(h.Name !=n)<;>simp[hb]at ih ⊢ <;>omega
theorem putH_mem (n:Str)(a:Int): ∀ (hs:List Head) (put:Bool) (x:Head),x∈zdZ n a put hs->x∈hs\/x=⟨n,a⟩
 | [],put,x,h=>by cases put<;>simp[zdZ]at h;exact .inr h
 |h::hs,put,x,hx=>by
  unfold zdZ at hx
  rcases List.mem_append.1 hx with h1 |h1
  ·cases hc:(!put && !Op.bytesLess h.Name n)with
   |true=>rw[hc]at h1;simp at h1;exact .inr h1
   |false=>rw[hc]at h1;simp at h1
  ·rcases List.mem_append.1 h1 with h2 |h2
   ·cases hc:(h.Name !=n)with
    |true=>rw[hc]at h2;simp at h2;exact .inl (by rw[h2];simp)
    |false=>rw[hc]at h2;simp at h2
   ·rcases putH_mem n a hs _ x h2 with h3 |h3
    ·exact .inl (List.mem_cons_of_mem _ h3)
    ·exact .inr h3
theorem zhs {r:Repo}(h:RpB r)(hs:r.Heads.length<=100000)(n:Str)(a:Int)(cs:List Commit): ∀ (k i m:Nat) (put:Bool) (out:List Head),i+k=r.Heads.length->k<m->out.length<=2*i->
 zcg r n a (fun y14 _ y16 y19=>bif(!y14) then((apM y19 [Vm.Head.mk n a]).bind fun q160=>some (Vm.Repo.mk y16 q160)) else some (Vm.Repo.mk y16 y19)) m put (i:Int) cs out=some ⟨cs,out++zdZ n a put (r.Heads.drop i)⟩
 |k,i,0,put,out,_,hm,_=>by omega
 |0,i,m+1,put,out,hi,_,ho=>by
  obtain rfl:i=r.Heads.length:=by omega
  simp only[zcg,zaf,aC,List.drop_length]
  cases put
  ·simp only[Bool.not_false,aD,ap1 (show out.length<=1048576 by omega),aA,zdZ,aC]
  ·simp[zdZ]
 |k+1,i,m+1,put,out,hi,hm,ho=>by
  have hlt:i<r.Heads.length:=by omega
  have hx:r.Heads[i]? =some r.Heads[i]:=aB hlt
  have hd:r.Heads.drop i=r.Heads[i]::r.Heads.drop (i+1):=aI hlt
  have hw:=zae hlt (zal h.heads)
  have ih:=fun put out ho=>zhs h hs n a cs k (i+1) m put out (by omega) (by omega) ho
  simp only[zcg,jn,zan hx,zad hx,aD,aA,hw]
  rw[hd]
  unfold zdZ
  have e1:=ap1 (x:=Vm.Head.mk n a) (show out.length<=1048576 by omega)
  have e2:=ap1 (x:=r.Heads[i]) (show out.length<=1048576 by omega)
  have e3:apM (out++[Vm.Head.mk n a]) [r.Heads[i]]=some (out++([Vm.Head.mk n a]++[r.Heads[i]])):=by rw[ap1 (show(out++[Vm.Head.mk n a]).length<=1048576 by simp;omega),List.append_assoc]
  have l1:(out++[r.Heads[i]]).length<=2*(i+1):=by simp;omega
  have l2:(out++[Vm.Head.mk n a]).length<=2*(i+1):=by simp;omega
  have l3:(out++([Vm.Head.mk n a]++[r.Heads[i]])).length<=2*(i+1):=by simp;omega
  have l0:out.length<=2*(i+1):=by omega
  cases put<;>cases Op.bytesLess r.Heads[i].Name n<;>cases(r.Heads[i].Name !=n)<;>
   simp only[aK,Bool.not_false,aD,aC,e1,e2,e3,aA,Bool.and_true,Bool.and_false,Bool.or_true,Bool.or_false,Bool.true_and,Bool.false_and,Bool.true_or,Bool.false_or,ih _ _ l0,ih _ _ l1,ih _ _ l2,ih _ _ l3,List.append_assoc,List.nil_append]
def headR (r:Repo)(n:Str)(a:Int):Repo:=⟨r.Commits,zdZ n a false r.Heads⟩
theorem zfb {r:Repo}(h:RpB r)(hs:r.Heads.length<=100000)(n:Str)(a:Int):zfA r n a=some (headR r n a):=by
 unfold zfA headR
 simp only[jn,zap]
 have:=zhs h hs n a r.Commits r.Heads.length 0 (r.Heads.length+1) false [] (by omega) (by omega) (by simp)
 simpa using this
theorem RpB.headR {r:Repo}(h:RpB r)(hs:r.Heads.length<=100000){n:Str}(hn:n.length<=1048576)(a:Int):RpB (headR r n a):=
 ⟨h.coms,h.com,by have:=zg2 n a r.Heads false;simp at this;show(zdZ n a false r.Heads).length<=_;omega,fun x hx=>by
  rcases putH_mem n a r.Heads false x hx with h1 |h1
  ·exact h.head x h1
  ·rw[h1];exact hn⟩
def addR (r:Repo)(n:Str)(c:Commit):Repo:=⟨r.Commits++[c],zdZ n r.Commits.length false r.Heads⟩
theorem RpB.push {r:Repo}(h:RpB r){c:Commit}(hc:CB c)(hl:r.Commits.length<=100000):RpB ⟨r.Commits++[c],r.Heads⟩:=
 ⟨by simp;omega,fun x hx=>by
  rcases List.mem_append.1 hx with h1 |h1
  ·exact h.com x h1
  ·rw[List.mem_singleton]at h1;rw[h1];exact hc,h.heads,h.head⟩
theorem RpB.addR {r:Repo}(h:RpB r)(hl:r.Commits.length<=100000)(hs:r.Heads.length<=100000){n:Str}(hn:n.length<=1048576){c:Commit}(hc:CB c):RpB (addR r n c):=
 (h.push hc hl).headR hs hn _
theorem ziB {r:Repo}(h:RpB r)(hl:r.Commits.length<=100000)(hs:r.Heads.length<=100000)(n:Str){c:Commit}(hc:CB c):zda r n c=some (addR r n c):=by
 unfold zda
 rw[apN h.coms,aA,ap1 h.coms,aA,zfb (h.push hc hl) hs,aA]
 rfl
theorem zab {r:Repo}(h:zaa r=true):r.Commits.length<=16/\r.Heads.length<=5:=by
 unfold zaa zb5 at h
 simp only[aG,decide_eq_true_eq]at h
 omega
def zes (r:Repo)(n who:Str)(t:List File):Commit:=⟨bif decide (0<=atB r n) then [atB r n] else [],who,t⟩
def zbv:Repo:=⟨[],[]⟩
def zcZ (r:Repo)(n who:Str)(t:List File):Repo×Bool:=bif zaa r then(bif zaa (addR r n (zes r n who t)) then(addR r n (zes r n who t),true) else(r,false)) else(zbv,false)
theorem CB.next {r:Repo}{n who:Str}{t:List File}(hw:who.length<=1048576)(ht:TB t):CB (zes r n who t):=
 ⟨by unfold zes;cases decide (0<=atB r n)<;>simp,hw,ht⟩
theorem zfM {r:Repo}(h:RpB r){n who:Str}{t:List File}(hn:n.length<=1048576)(hw:who.length<=1048576)(ht:TB t):zdG r n who t=some (zcZ r n who t):=by
 unfold zdG zcZ
 rw[zbT h,aA]
 cases hr:zaa r with
 |false=>rfl
 |true=>
  obtain⟨s1,s2⟩:=zab hr
  have hc:CB (zes r n who t):=CB.next hw ht
  have ha:=ziB h (by omega) (by omega) n hc
  have hb:=h.addR (by omega) (by omega) hn hc
  have hfin:(zbs r).bind (fun z57=>(zda ⟨z57.Commits,z57.Heads⟩ n (zes r n who t)).bind fun z66=>(zcS z66).bind fun z204=>bif(!z204) then((zbs r).bind fun z219=>some (Vm.Repo.mk z219.Commits z219.Heads,false)) else(some (z66,true)))=some (bif zaa (addR r n (zes r n who t)) then(addR r n (zes r n who t),true) else(r,false)):=by
   rw[zbX h,aA,show(⟨r.Commits,r.Heads⟩:Repo)=r from rfl,ha,aA,zbT hb,aA]
   cases zaa (addR r n (zes r n who t))<;>rfl
  rw[aK,aC,aD,zbG ht,aA]
  simp only[jn,zb8 h,aA]
  unfold zes at hfin ⊢
  cases hd:decide (0<=atB r n)<;>rw[hd]at hfin<;>exact hfin
def zet (r:Repo)(n:Str)(a:Int):Repo×Bool:=bif zaa r then(bif decide (0<=atB r n) || !zaa (headR r n a) then(r,false) else(headR r n a,true)) else(zbv,false)
theorem zfN {r:Repo}(h:RpB r){n:Str}(hn:n.length<=1048576)(a:Int):zbH r n a=some (zet r n a):=by
 unfold zbH zet
 rw[zbT h,aA]
 cases hr:zaa r with
 |false=>rfl
 |true=>
  obtain⟨s1,s2⟩:=zab hr
  rw[aK,aC,aD,zbX h,aA,show(⟨r.Commits,r.Heads⟩:Repo)=r from rfl,zfb h (by omega),aA]
  simp only[jn,zb8 h,aA,zbT (h.headR (by omega) hn a)]
  cases decide (0<=atB r n)<;>cases zaa (headR r n a)<;>rfl
def putF (g:File):Bool->List File->List File
 |put,[]=>bif put then [] else [g]
 |put,f::fs=>(bif !put && !Op.bytesLess f.Path g.Path then [g] else [])++((bif f.Path !=g.Path then [f] else [])++putF g (put || !Op.bytesLess f.Path g.Path) fs)
theorem zgn (g:File): ∀ (hs:List File) (put:Bool),(putF g put hs).length+(bif put then 1 else 0)<=hs.length+1
 | [],put=>by cases put<;>simp[putF]
 |h::hs,put=>by
  have ih:=zgn g hs (put || !Op.bytesLess h.Path g.Path)
  unfold putF
  cases put<;>cases hb:Op.bytesLess h.Path g.Path<;>cases hn:(h.Path !=g.Path)<;>simp[hb]at ih ⊢ <;>omega
theorem putF_mem (g:File): ∀ (hs:List File) (put:Bool) (x:File),x∈putF g put hs->x∈hs\/x=g
 | [],put,x,h=>by cases put<;>simp[putF]at h;exact .inr h
 |h::hs,put,x,hx=>by
  unfold putF at hx
  rcases List.mem_append.1 hx with h1 |h1
  ·cases hc:(!put && !Op.bytesLess h.Path g.Path)with
   |true=>rw[hc]at h1;simp at h1;exact .inr h1
   |false=>rw[hc]at h1;simp at h1
  ·rcases List.mem_append.1 h1 with h2 |h2
   ·cases hc:(h.Path !=g.Path)with
    |true=>rw[hc]at h2;simp at h2;exact .inl (by rw[h2];simp)
    |false=>rw[hc]at h2;simp at h2
   ·rcases putF_mem g hs _ x h2 with h3 |h3
    ·exact .inl (List.mem_cons_of_mem _ h3)
    ·exact .inr h3
theorem TB.putF {t:List File}(h:TB t)(hs:t.length<=100000){g:File}(hg:FB g):TB (putF g false t):=
 ⟨by have:=zgn g t false;simp at this;omega,fun x hx=>by
  rcases putF_mem g t false x hx with h1 |h1
  ·exact h.2 x h1
  ·rw[h1];exact hg⟩
theorem ziC {t:List File}(h:TB t)(hs:t.length<=100000){g:File}(hg:FB g){K:List File->Bool->Int->Option (List File)}(hK: ∀ out put j,out.length<=2*t.length->K out put j=some (bif put then out else out++[g])): ∀ (k i m:Nat) (put:Bool) (out:List File),i+k=t.length->k<m->out.length<=2*i->
 zcJ t g K m out put (i:Int)=some (out++putF g put (t.drop i))
 |k,i,0,put,out,_,hm,_=>by omega
 |0,i,m+1,put,out,hi,_,ho=>by
  obtain rfl:i=t.length:=by omega
  simp only[zcJ,zaf,aC,List.drop_length,hK out put _ ho]
  cases put<;>simp[putF]
 |k+1,i,m+1,put,out,hi,hm,ho=>by
  have hlt:i<t.length:=by omega
  have hx:t[i]? =some t[i]:=aB hlt
  have hd:t.drop i=t[i]::t.drop (i+1):=aI hlt
  have hw:=zae hlt h.maxi
  have ih:=fun put out ho=>ziC h hs hg hK k (i+1) m put out (by omega) (by omega) ho
  simp only[zcJ,jn,zan hx,zad hx,aD,aA,hw,apN hg.len]
  rw[hd]
  unfold putF
  have e1:=ap1 (x:=g) (show out.length<=1048576 by omega)
  have e2:=ap1 (x:=t[i]) (show out.length<=1048576 by omega)
  have e3:apM (out++[g]) [t[i]]=some (out++([g]++[t[i]])):=by rw[ap1 (show(out++[g]).length<=1048576 by simp;omega),List.append_assoc]
  have l1:(out++[t[i]]).length<=2*(i+1):=by simp;omega
  have l2:(out++[g]).length<=2*(i+1):=by simp;omega
  have l3:(out++([g]++[t[i]])).length<=2*(i+1):=by simp;omega
  have l0:out.length<=2*(i+1):=by omega
  have eg:Vm.File.mk g.Path g.Text=g:=rfl
  cases put<;>cases Op.bytesLess t[i].Path g.Path<;>cases(t[i].Path !=g.Path)<;>
   simp only[aK,Bool.not_false,aD,aC,eg,e1,e2,e3,aA,Bool.and_true,Bool.and_false,Bool.or_true,Bool.or_false,Bool.true_and,Bool.false_and,Bool.true_or,Bool.false_or,ih _ _ l0,ih _ _ l1,ih _ _ l2,ih _ _ l3,List.append_assoc,List.nil_append]
theorem ziD {t:List File}(h:TB t)(hs:t.length<=100000){g:File}(hg:FB g):zeC t g=some (putF g false t):=by
 unfold zeC
 simp only[jn,zap]
 have:=ziC h hs hg (K:=fun y6 y9 _=>bif(!y9) then((apM ([]:List Str) g.Text).bind fun q126=>(apM y6 [Vm.File.mk g.Path q126]).bind fun q144=>some q144) else some y6) (fun out put j ho=>by
  cases put
  ·simp only[Bool.not_false,aD,aC,apN hg.len,ap1 (show out.length<=1048576 by omega),aA]
  ·rfl) t.length 0 (t.length+1) false [] (by omega) (by omega) (by simp)
 simpa using this
theorem zam {t:List File}(h:zaq t=true):t.length<=8:=by
 unfold zaq at h
 simp only[aG,decide_eq_true_eq]at h
 omega
def zmT (t:List File)(g:File):List File×Bool:=bif zaq t then(bif zaq (putF g false t) then(putF g false t,true) else(t,false)) else([],false)
theorem zib {t:List File}(h:TB t){g:File}(hg:FB g):zdm t g=some (zmT t g):=by
 unfold zdm zmT
 rw[zdy h,aA]
 cases ht:zaq t with
 |false=>rfl
 |true=>
  have hs:=zam ht
  rw[aK,aC,aD,zbG h,aA,ziD h (by omega) hg,aA,zdy (h.putF (by omega) hg),aA]
  cases zaq (putF g false t)<;>rfl
def zlF (p:Str)(f:File):Bool:=f.Path !=p && !zaG p f.Path
def dropF (p:Str)(t:List File):List File:=t.filter (zlF p)
theorem zht {t:List File}(h:TB t)(p:Str):zfP t p=some (dropF p t):=by
 have hm:=h.maxi
 have hl:=h.1
 unfold zfP dropF
 simp only[jn,zap]
 rw[zbr (xs:=t) (p:=zlF p) (g:=fun f:File=>f) (Z:=fun acc=>some acc) (f:=fun m acc i=>zch t p _ m acc i) (fun m i x acc hx ha=>by
  have hi:=zar hx
  simp only[zch,jn,zan hx,zad hx,aD,aA,zae hi hm,ap1 (show acc.length<=1048576 by omega),zh8 (h.at_ hx).path]
  unfold zlF
  cases(x.Path !=p)<;>cases zaG p x.Path<;>rfl) (fun m acc=>by simp only[zch,zaf,aC]) (by omega)]
 simp
theorem TB.dropF {t:List File}(h:TB t)(p:Str):TB (dropF p t):=⟨Nat.le_trans (List.length_filter_le _ _) h.1,fun f hf=>h.2 f ((List.mem_filter.1 hf).1)⟩
def zmX (t:List File)(p:Str):List File×Bool:=bif zaq t then(dropF p t,decide (((dropF p t).length:Int)< (t.length:Int))) else([],false)
theorem zhu {t:List File}(h:TB t)(p:Str):zcK t p=some (zmX t p):=by
 unfold zcK zmX
 rw[zdy h,aA]
 cases zaq t with
 |false=>rfl
 |true=>rw[aK,aC,aD,zbG h,aA,zht h,aA]
theorem zfw {r:Repo}(h:zaa r=true){i:Nat}(hi:i<r.Commits.length):zjz i (r.Commits.getD i noCommit)=true:=by
 unfold zaa zkh at h
 simp only[aG]at h
 exact zaP.1 h.2.1 i (Nat.zero_le _) (by omega)
def zac (r:Repo)(i:Nat):List Int:=(r.Commits.getD i noCommit).Parents
theorem zaU {r:Repo}(h:zaa r=true){i:Nat}(hi:i<r.Commits.length):(zac r i).length<=2 /\ ∀ p∈zac r i,0<=p/\p<=(i:Int)-1:=by
 have:=zfw h hi
 unfold zjz at this
 simp only[aG,decide_eq_true_eq,List.all_eq_true]at this
 obtain⟨h1,h2,_⟩:=this
 refine⟨by unfold zac;omega,fun p hp=>?_⟩
 have:=h1 p hp
 unfold upB at this
 simp only[aG,decide_eq_true_eq]at this
 exact this
theorem zhR {r:Repo}{i:Nat}(hi:i<r.Commits.length):gi r.Commits (i:Int)=some (r.Commits.getD i noCommit):=by
 rw[zdq (aB hi)]
 exact zad (aB hi)
theorem zfJ {r:Repo}(h:zaa r=true){x:Head}(hx:x∈r.Heads):0<=x.At/\x.At<=(r.Commits.length:Int)-1/\zay x.Name=true:=by
 obtain⟨i,hi⟩:=List.mem_iff_getElem?.1 hx
 unfold zaa zb5 at h
 simp only[aG]at h
 have:=zaP.1 h.2.2.1 i (Nat.zero_le _) (by have:=zar hi;omega)
 unfold zeO upB at this
 rw[za6 hi]at this
 simp only[aG,decide_eq_true_eq]at this
 exact⟨this.2.1.1,this.2.1.2,this.1⟩
theorem at_range {r:Repo}(h:zaa r=true)(n:Str):atB r n = -1\/(0<=atB r n/\atB r n<=(r.Commits.length:Int)-1):=by
 unfold atB
 cases hf:r.Heads.find? (fun h=>h.Name==n)with
 |none=>exact .inl rfl
 |some x=>
  have:=zfJ h (List.mem_of_find?_eq_some hf)
  exact .inr ⟨this.1,this.2.1⟩
def zjN (mk:List Bool)(p:Int):List Bool:=mk.set p.toNat true
theorem zgo (mk:List Bool)(p:Int):(zjN mk p).length=mk.length:=by simp[zjN]
theorem zhv: ∀ (ps:List Int) (mk:List Bool),(ps.foldl zjN mk).length=mk.length
 | [],mk=>rfl
 |p::ps,mk=>by rw[List.foldl_cons,zhv ps,zgo]
def ziX (r:Repo)(i:Nat)(mk:List Bool):List Bool:=bif mk.getD i false then(zac r i).foldl zjN mk else mk
theorem zeU (r:Repo)(i:Nat)(mk:List Bool):(ziX r i mk).length=mk.length:=by
 unfold ziX
 cases mk.getD i false
 ·rfl
 ·exact zhv _ _
def zd2 (r:Repo):Nat->List Bool->List Bool
 |0,mk=>mk
 |i+1,mk=>zd2 r i (ziX r i mk)
theorem zga (r:Repo): ∀ (i:Nat) (mk:List Bool),(zd2 r i mk).length=mk.length
 |0,mk=>rfl
 |i+1,mk=>by unfold zd2;rw[zga r i,zeU]
def zaT (r:Repo)(a:Nat):List Bool:=zd2 r (a+1) ((List.replicate r.Commits.length false).set a true)
theorem zaV (r:Repo)(a:Nat):(zaT r a).length=r.Commits.length:=by unfold zaT;rw[zga];simp
def zju (mk:List Bool):List Int:=((List.range mk.length).filter fun i=>mk.getD i false).map Int.ofNat
def zaJ (r:Repo)(a:Int):List Int:=zju (zaT r a.toNat)
theorem zcA {mk:List Bool}{i:Nat}(h:i<mk.length):gi mk (i:Int)=some (mk.getD i false):=by
 have hx:mk[i]? =some mk[i]:=aB h
 rw[zad hx]
 simp[List.getD,hx]
theorem zj4 {mk:List Bool}{p:Int}{i:Nat}(h:mk.getD i false=true):(zjN mk p).getD i false=true:=by
 unfold zjN
 by_cases e:p.toNat=i
 ·subst e
  have hl:p.toNat<mk.length:=by
   rcases Nat.lt_or_ge p.toNat mk.length with h1 |h1
   ·exact h1
   ·rw[List.getD,List.getElem?_eq_none (by omega)]at h;simp at h
  simp[List.getD,hl]
 ·simp only[List.getD,List.getElem?_set_ne e]at h ⊢
  exact h
theorem zlI {r:Repo}(h:zaa r=true){i:Nat}(hi:i<r.Commits.length){F:List Bool->Option (List Int)}: ∀ (j k m:Nat) (mk:List Bool),k+j=(zac r i).length->j<m->mk.length=r.Commits.length->
 zcM r (i:Int) (fun _ y27=>F y27) m (k:Int) mk=F (bif mk.getD i false then((zac r i).drop k).foldl zjN mk else mk)
 |j,k,0,mk,_,hm,_=>by omega
 |0,k,m+1,mk,hk,_,hl=>by
  obtain rfl:k=(zac r i).length:=by omega
  have e:(r.Commits.getD i noCommit).Parents=zac r i:=rfl
  simp only[zcM,jn,zhR hi,aA,e,zaf,aC,List.drop_length,List.foldl_nil]
  cases mk.getD i false<;>rfl
 |j+1,k,m+1,mk,hk,hm,hl=>by
  have hlt:k< (zac r i).length:=by omega
  have hx:(zac r i)[k]? =some (zac r i)[k]:=aB hlt
  obtain⟨hs,hp⟩:=zaU h hi
  obtain⟨p0,p1⟩:=hp _ (List.getElem_mem hlt)
  have e:(r.Commits.getD i noCommit).Parents=zac r i:=rfl
  have hn:(((zac r i)[k].toNat:Nat):Int)=(zac r i)[k]:=by omega
  have hg:gi mk (zac r i)[k]=some (mk.getD (zac r i)[k].toNat false):=by
   rw[<- hn]
   exact zcA (by omega)
  have hsi:siM mk (zac r i)[k] true=some (zjN mk (zac r i)[k]):=by
   have:=zcu (xs:=mk) (i:=(zac r i)[k].toNat) (by omega) true
   rw[hn]at this
   exact this
  simp only[zcM,jn,zhR hi,aA,e,zan hx,aD,zcA (show i<mk.length by omega),zad hx,hg,hsi]
  cases hb:mk.getD i false with
  |false=>rfl
  |true=>
   rw[aD,aD,zae hlt (by unfold maxi;omega),zlI h hi j (k+1) m _ (by omega) (by omega) (by rw[zgo];exact hl),zj4 hb,aD,aI hlt,List.foldl_cons]
theorem zlJ {r:Repo}(h:zaa r=true){F:List Bool->Option (List Int)}: ∀ (i m:Nat) (mk:List Bool),i<=r.Commits.length->i<m->mk.length=r.Commits.length->
 zbz r (fun _ y=>F y) m ((i:Int)-1) mk=F (zd2 r i mk)
 |i,0,mk,_,hm,_=>by omega
 |0,m+1,mk,_,_,_=>by
  simp only[zbz]
  rw[aE (by omega)]
  rfl
 |i+1,m+1,mk,hi,hm,hl=>by
  have hs:=(zab h).1
  have e:(((i+1:Nat):Int))-1=(i:Int):=by omega
  simp only[zbz,jn,e]
  rw[aF (by omega),aD]
  have hp:=(zaU h (show i<r.Commits.length by omega)).1
  have h2:=zlI h (show i<r.Commits.length by omega) (F:=fun y27=>zbz r (fun _ y=>F y) m (w64 ((i:Int)-1)) y27) (zac r i).length 0 4 mk (by omega) (by omega) hl
  refine(h2).trans ?_
  rw[zcq (show i<=maxi by unfold maxi;omega)]
  refine(zlJ h i m _ (by omega) (by omega) ?_).trans rfl
  have:=zeU r i mk
  unfold ziX at this
  rw[List.drop_zero,this]
  exact hl
theorem zj5 {mk:List Bool}(hl:mk.length<=1000): ∀ (k i m:Nat) (out:List Int),i+k=mk.length->k<m->out.length<=i->
 zby mk (fun y69 _=>some y69) m out (i:Int)=some (out++((List.range' i k).filter fun i=>mk.getD i false).map Int.ofNat)
 |k,i,0,out,_,hm,_=>by omega
 |0,i,m+1,out,hi,_,_=>by
  obtain rfl:i=mk.length:=by omega
  simp only[zby,zaf,aC]
  simp
 |k+1,i,m+1,out,hi,hm,ho=>by
  have hlt:i<mk.length:=by omega
  have hx:mk[i]? =some mk[i]:=aB hlt
  simp only[zby,jn,zan hx,aD,zcA hlt,aA,zae hlt (show mk.length<=maxi by unfold maxi;omega),ap1 (x:=(i:Int)) (show out.length<=1048576 by omega)]
  rw[List.range'_succ,List.filter_cons]
  cases hb:mk.getD i false with
  |true=>
   rw[aD,zj5 hl k (i+1) m _ (by omega) (by omega) (by simp;omega),if_pos rfl]
   simp
  |false=>
   rw[aC,zj5 hl k (i+1) m _ (by omega) (by omega) (by omega),if_neg (by simp)]
theorem zc0 {r:Repo}(h:zaa r=true){a:Int}(h0:0<=a)(h1:a<=(r.Commits.length:Int)-1):ze1 r a=some (zaJ r a):=by
 have hs:=(zab h).1
 obtain⟨n,rfl⟩:=Int.eq_ofNat_of_zero_le h0
 have hn:n<r.Commits.length:=by omega
 have hl:(List.replicate r.Commits.length false).length=r.Commits.length:=by simp
 unfold ze1
 rw[zjy (by simp[lim];omega),aA,zcA (by rw[hl];exact hn),aA,zcu (by rw[hl];exact hn),aA]
 simp only[jn,zap]
 have e:=zlJ h (F:=fun y18=>zby y18 (fun y69 _=>some y69) (y18.length+1) ([]:List Int) 0) (n+1) (((n:Int)+1-0).toNat+1) ((List.replicate r.Commits.length false).set n true) (by omega) (by omega) (by simp)
 rw[show(((n+1:Nat):Int))-1=(n:Int) by omega]at e
 refine e.trans ?_
 have hml:=zaV r n
 unfold zaT at hml
 have e3:=zj5 (mk:=zd2 r (n+1) ((List.replicate r.Commits.length false).set n true)) (by omega) r.Commits.length 0 (r.Commits.length+1) [] (by omega) (by omega) (by simp)
 rw[hml]
 refine e3.trans ?_
 unfold zaJ zju zaT
 rw[Int.toNat_natCast,hml,List.range_eq_range']
 rfl
theorem zbk {r:Repo}{a x:Int}(h:x∈zaJ r a):0<=x/\x<=(r.Commits.length:Int)-1:=by
 unfold zaJ zju at h
 rw[zaV]at h
 obtain⟨i,hi,rfl⟩:=List.mem_map.1 h
 have:=List.mem_range.1 (List.mem_filter.1 hi).1
 constructor
 ·exact Int.natCast_nonneg i
 ·show(i:Int)<=_;omega
theorem zbf (r:Repo)(a:Int):(zaJ r a).length<=r.Commits.length:=by
 unfold zaJ zju
 rw[zaV,List.length_map]
 exact Nat.le_trans (List.length_filter_le _ _) (by simp)
def zen (l:List Int)(n:Int):Bool:=l.any fun x=>x==n
theorem zex {l:List Int}(hl:l.length<=1000000)(n:Int):zfU l n=some (zen l n):=by
 unfold zfU zen
 simp only[jn,zap]
 rw[zcG (p:=fun x:Int=>x==n) (xs:=l) (r:=fun _=>some true) (Z:=some false) (f:=fun m k=>zcN l n _ m false k) (fun m i x hx=>by
  simp only[zcN,zan hx,zad hx,aD,aA,zae (zar hx) (show l.length<=maxi by unfold maxi;omega)]) (fun m=>by simp only[zcN,zaf,aC]) (by omega)]
 cases hf:l.find? (fun x=>x==n)with
 |some x=>
  have:l.any (fun x=>x==n)=true:=List.any_eq_true.2 ⟨x,List.mem_of_find?_eq_some hf,by simpa using List.find?_some hf⟩
  rw[this]
 |none=>
  have:l.any (fun x=>x==n)=false:=by
   rw[List.any_eq_false]
   intro x hx
   have:=List.find?_eq_none.1 hf x hx
   simpa using this
  rw[this]
def zkz (r:Repo)(l:List Int)(i:Nat):Bool:=zfT (fun k=>((k:Int)==(i:Int)) || !zen (zaJ r (l.getD k 0)) (l.getD i 0)) 0 l.length
def zki (p:Nat->Bool)(l:List Int):List Int:=((List.range l.length).filter p).map fun i=>l.getD i 0
def zdJ (r:Repo)(a b:Int):List Int:=(zaJ r a).filter (zen (zaJ r b))
def zaB (r:Repo)(a b:Int):List Int:=zki (zkz r (zdJ r a b)) (zdJ r a b)
theorem zgX {l:List Int}{i:Nat}(h:i<l.length):gi l (i:Int)=some (l.getD i 0):=by
 rw[zbP (aB h)]
 exact zad (aB h)
theorem ziE {r:Repo}(h:zaa r=true){l:List Int}(hl:l.length<=1000)(hm: ∀ x∈l,0<=x/\x<=(r.Commits.length:Int)-1){i:Nat}(hi:i<l.length){F:Bool->Option (List Int)}: ∀ (n k m:Nat) (b:Bool),k+n=l.length->n<m->
 zbw r l (i:Int) (fun y _=>F y) m b (k:Int)=F (b&&zfT (fun k=>((k:Int)==(i:Int)) || !zen (zaJ r (l.getD k 0)) (l.getD i 0)) k n)
 |n,k,0,b,_,hm'=>by omega
 |0,k,m+1,b,hk,_=>by
  obtain rfl:k=l.length:=by omega
  simp only[zbw,zaf,aC,zfT,Bool.and_true]
 |n+1,k,m+1,b,hk,hm'=>by
  have hlt:k<l.length:=by omega
  have hx:l[k]? =some l[k]:=aB hlt
  have hs:=(zab h).1
  obtain⟨q0,q1⟩:=hm _ (List.getElem_mem hlt)
  have hal:=zbf r l[k]
  have ih:=fun b=>ziE h hl hm hi (F:=F) n (k+1) m b (by omega) (by omega)
  simp only[zbw,zan hx,aD,zae hlt (show l.length<=maxi by unfold maxi;omega),zad hx,zgX hi,aA,zc0 h q0 q1,zex (show(zaJ r l[k]).length<=1000000 by omega),ih,zfT,zbP hx]
  cases b<;>cases((k:Int)==(i:Int))<;>simp
theorem zgA {r:Repo}(h:zaa r=true){l:List Int}(hl:l.length<=1000)(hm: ∀ x∈l,0<=x/\x<=(r.Commits.length:Int)-1): ∀ (k i m:Nat) (out:List Int),i+k=l.length->k<m->out.length<=i->
 zaA r l (fun y _=>some y) m out (i:Int)=some (out++((List.range' i k).filter (zkz r l)).map fun i=>l.getD i 0)
 |k,i,0,out,_,hm',_=>by omega
 |0,i,m+1,out,hi,_,_=>by
  obtain rfl:i=l.length:=by omega
  simp only[zaA,zaf,aC]
  simp
 |k+1,i,m+1,out,hi,hm',ho=>by
  have hlt:i<l.length:=by omega
  have hx:l[i]? =some l[i]:=aB hlt
  have h3:=ziE h hl hm hlt (F:=fun y104=>bif y104 then((gi l (i:Int)).bind fun u151=>(apM out [u151]).bind fun q160=>zaA r l (fun y _=>some y) m q160 (w64 ((i:Int)+1))) else zaA r l (fun y _=>some y) m out (w64 ((i:Int)+1))) l.length 0 (l.length+1) true (by omega) (by omega)
  simp only[zaA,jn,zan hx,aD,zap]
  refine h3.trans ?_
  rw[Bool.true_and,List.range'_succ,List.filter_cons,zae hlt (show l.length<=maxi by unfold maxi;omega)]
  show(bif zkz r l i then _ else _)=_
  cases hb:zkz r l i with
  |true=>
   rw[aD,zad hx,aA,ap1 (show out.length<=1048576 by omega),aA,zgA h hl hm k (i+1) m _ (by omega) (by omega) (by simp;omega),if_pos rfl]
   simp[hx]
  |false=>
   rw[aC,zgA h hl hm k (i+1) m _ (by omega) (by omega) (by omega),if_neg (by simp)]
theorem zi7 {r:Repo}(h:zaa r=true){a b:Int}(ha:0<=a)(ha':a<=(r.Commits.length:Int)-1)(hb:0<=b)(hb':b<=(r.Commits.length:Int)-1):zfm r a b=some (zaB r a b):=by
 have hs:=(zab h).1
 have la:=zbf r a
 have lb:=zbf r b
 unfold zfm
 rw[zc0 h ha ha',aA,zc0 h hb hb',aA]
 simp only[jn,zap]
 have hl:(zdJ r a b).length<=1000:=Nat.le_trans (List.length_filter_le _ _) (by omega)
 have hm: ∀ x∈zdJ r a b,0<=x/\x<=(r.Commits.length:Int)-1:=fun x hx=>zbk (List.mem_filter.1 hx).1
 rw[zbr (xs:=zaJ r a) (p:=zen (zaJ r b)) (g:=fun x:Int=>x) (Z:=fun acc=>zaA r acc (fun y _=>some y) (acc.length+1) ([]:List Int) 0) (f:=fun m acc i=>zbI (zaJ r a) (zaJ r b) _ m acc i) (fun m i x acc hx hacc=>by
  have hi:=zar hx
  simp only[zbI,jn,zan hx,zad hx,aD,aA,zae hi (show(zaJ r a).length<=maxi by unfold maxi;omega),zex (show(zaJ r b).length<=1000000 by omega),ap1 (show acc.length<=1048576 by omega)]
  cases zen (zaJ r b) x<;>rfl) (fun m acc=>by simp only[zbI,zaf,aC]) (by omega)]
 have e:((zaJ r a).filter (zen (zaJ r b))).map (fun x=>x)=zdJ r a b:=by simp[zdJ]
 rw[e]
 have:=zgA h hl hm (zdJ r a b).length 0 ((zdJ r a b).length+1) [] (by omega) (by omega) (by simp)
 refine this.trans ?_
 unfold zaB zki
 rw[List.range_eq_range']
 rfl
theorem ziF {r:Repo}{a b x:Int}(h:x∈zaB r a b):0<=x/\x<=(r.Commits.length:Int)-1:=by
 unfold zaB zki at h
 obtain⟨i,hi,rfl⟩:=List.mem_map.1 h
 have hr:=List.mem_range.1 (List.mem_filter.1 hi).1
 rw[zbP (aB hr)]
 exact zbk (List.mem_filter.1 (List.getElem_mem hr)).1
theorem zjf (r:Repo)(a b:Int):(zaB r a b).length<=r.Commits.length:=by
 unfold zaB zki
 rw[List.length_map]
 refine Nat.le_trans (List.length_filter_le _ _) ?_
 rw[List.length_range]
 exact Nat.le_trans (List.length_filter_le _ _) (zbf r a)
def zgK (s:List Str)(p:Part):Option (List Str):=bif p.Clash then none else some (s++p.Lines)
def zcy (ps:List Part):List Str×Bool:=match ps.foldlM zgK []with
 |some s=>okT s
 |none=>([],false)
theorem zih {i:Nat}{s s':List Str}{p:Part}(hp:p.Lines.length<=22000)(hpl: ∀ x∈p.Lines,zbQ x=true)(hI:zoa i s)(hst:zgK s p=some s'):zoa (i+1) s':=by
 unfold zgK at hst
 cases hc:p.Clash with
 |true=>rw[hc]at hst;cases hst
 |false=>
  rw[hc,aC]at hst
  cases hst
  refine⟨by rw[List.length_append];have:=hI.1;omega,fun x hx=>?_⟩
  rcases List.mem_append.1 hx with h1 |h1
  ·exact hI.2 x h1
  ·exact hpl x h1
theorem zj6 {o a b:List Str}(hto:zao o=true)(hta:zao a=true)(htb:zao b=true):zgh (zaD o a b)=some (zcy (zaD o a b)):=by
 obtain⟨hlen,hparts⟩:=zh2 hto hta htb
 unfold zgh zcy
 simp only[jn,zap]
 obtain⟨h1,h2⟩:=zhd (xs:=zaD o a b) (step:=zgK) (r0:=some (([]:List Str),false)) (Inv:=zoa) (s0:=[]) (Z:=fun s=>(zcX s).bind fun z30=>bif(!z30) then(some (([]:List Str),false)) else(some (s,true))) (f:=fun m s i=>zcj (zaD o a b) (fun _ _ y7 _=>(zcX y7).bind fun z30=>bif(!z30) then(some (([]:List Str),false)) else(some (y7,true))) m [] false s i) (fun m i p s hx hI=>by
  have hi:=zar hx
  obtain⟨p1,p2,_⟩:=hparts p (aH hx)
  refine⟨?_,fun s' hst=>zih p1 p2 hI hst⟩
  have hs:=hI.1
  simp only[zcj,zan hx,zad hx,aD,aA,zae hi (show(zaD o a b).length<=maxi by unfold maxi;omega),apT (show s.length<=1000000 by omega) (show p.Lines.length<=1000000 by omega)]
  unfold zgK
  cases p.Clash<;>rfl) (fun m s hI=>by simp only[zcj,zaf,aC]) (m:=(zaD o a b).length+1) (by omega) ⟨by simp,by simp⟩
 refine h1.trans ?_
 cases hf:(zaD o a b).foldlM zgK []with
 |none=>rfl
 |some s=>
  have hI:=h2 s hf
  have hs:=hI.1
  show(zcX s).bind _=some (okT s)
  rw[zh5 (zcr (by omega) hI.2),aA]
  unfold okT
  cases zao s<;>rfl
theorem zj7 {ps:List Part}:(zcy ps).2=true->zao (zcy ps).1=true:=by
 unfold zcy okT
 cases ps.foldlM zgK []with
 |none=>intro h;cases h
 |some s=>
  show(bif zao s then(s,true) else(([]:List Str),false)).2=true->zao (bif zao s then(s,true) else(([]:List Str),false)).1=true
  cases ht:zao s with
  |true=>intro _;exact ht
  |false=>intro h;cases h
def getT (t:List File)(p:Str):List Str×Bool:=match t.find? (fun f=>f.Path==p)with
 |some f=>(f.Text,true)
 |none=>([],false)
theorem zgB {t:List File}(h:TB t)(p:Str):zgx t p=some (getT t p):=by
 have hm:=h.maxi
 unfold zgx getT
 simp only[jn,zap]
 rw[zcG (p:=fun f:File=>f.Path==p) (xs:=t) (r:=fun f=>some (f.Text,true)) (Z:=some (([]:List Str),false)) (f:=fun m k=>zcP t p _ m [] false k) (fun m i x hx=>by
  simp only[zcP,zan hx,zad hx,aD,aA,zae (zar hx) hm]) (fun m=>by simp only[zcP,zaf,aC]) (by omega)]
 cases t.find? (fun f=>f.Path==p)<;>rfl
theorem ziG {t:List File}(h:TB t)(p:Str):(getT t p).1.length<=1048576/\Bk.fit (getT t p).1:=by
 unfold getT
 cases hf:t.find? (fun f=>f.Path==p)with
 |some f=>
  have:=h.2 f (List.mem_of_find?_eq_some hf)
  exact⟨this.len,this.text⟩
 |none=>exact⟨by simp,by simp[maxi],by simp⟩
def zaw (t:List File):Prop:= ∀ f∈t,zao f.Text=true
theorem za5 {t:List File}(h:zaw t)(p:Str):zao (getT t p).1=true:=by
 unfold getT
 cases hf:t.find? (fun f=>f.Path==p)with
 |some f=>exact h f (List.mem_of_find?_eq_some hf)
 |none=>rfl
def zey (a b:List Str×Bool):Bool:=(a.2==b.2)&&(bif a.2 then a.1==b.1 else true)
theorem zhw {a b:List Str×Bool}(h:a.1.length<=1048576):zfB a.1 a.2 b.1 b.2=some (zey a b):=by
 unfold zfB zey
 simp only[jn,ze5 (zal h),aA]
 cases a.2<;>cases b.2<;>rfl
def oneF (o a b:List File)(p:Str):List Str×Bool×Int:=
 let zo:=getT o p;let za:=getT a p;let zb:=getT b p
 bif zey za zo||zey za zb then(zb.1,zb.2,0)
 else bif zey zb zo then(za.1,za.2,0)
 else bif !za.2 || !zb.2 then(zo.1,zo.2,1)
 else bif !zo.2 then([],false,2)
 else bif(zcy (zaD zo.1 za.1 zb.1)).2 then((zcy (zaD zo.1 za.1 zb.1)).1,true,0) else(zo.1,true,3)
theorem zk9 {o a b:List File}(ho:TB o)(ha:TB a)(hb:TB b)(to:zaw o)(ta:zaw a)(tb:zaw b)(p:Str):zhi o a b p=some (oneF o a b p):=by
 have eo:=za5 to p
 have ea:=za5 ta p
 have eb:=za5 tb p
 have lo:=zav eo
 have la:=zav ea
 have lb:=zav eb
 unfold zhi oneF
 simp only[jn,zgB ho,zgB ha,zgB hb,aA,zhw (a:=getT a p) (ziG ha p).1,zhw (a:=getT b p) (ziG hb p).1,zmr (show(getT o p).1.length<=1000 by omega) (show(getT a p).1.length<=1000 by omega) (show(getT b p).1.length<=1000 by omega),zj6 eo ea eb]
 cases zey (getT a p) (getT o p)<;>cases zey (getT a p) (getT b p)<;>cases zey (getT b p) (getT o p)<;>cases(getT a p).2<;>cases(getT b p).2<;>cases(getT o p).2<;>cases(zcy (zaD (getT o p).1 (getT a p).1 (getT b p).1)).2<;>rfl
theorem zhx {o a b:List File}(to:zaw o)(ta:zaw a)(tb:zaw b)(p:Str):zao (oneF o a b p).1=true:=by
 have eo:=za5 to p
 have ea:=za5 ta p
 have eb:=za5 tb p
 unfold oneF
 simp only
 cases zey (getT a p) (getT o p)||zey (getT a p) (getT b p)with
 |true=>exact eb
 |false=>
  cases zey (getT b p) (getT o p)with
  |true=>exact ea
  |false=>
   cases !(getT a p).2 || !(getT b p).2 with
   |true=>exact eo
   |false=>
    cases !(getT o p).2 with
    |true=>rfl
    |false=>
     cases hl:(zcy (zaD (getT o p).1 (getT a p).1 (getT b p).1)).2 with
     |true=>exact zj7 hl
     |false=>exact eo
def zbb (o a b:List File):List Str:=(b.map (·.Path)).foldl zfX ((a.map (·.Path)).foldl zfX ((o.map (·.Path)).foldl zfX []))
theorem zcV: ∀ (ps:List Str) (l:List Str),Asd l->Asd (ps.foldl zfX l)
 | [],l,h=>h
 |p::ps,l,h=>zcV ps _ (zd7 _ _)
theorem zbY: ∀ (ps:List Str) (l:List Str),(ps.foldl zfX l).length<=l.length+ps.length
 | [],l=>by simp
 |p::ps,l=>by
  have h1:=zbY ps (zfX l p)
  have h2:=zhk l p
  simp only[List.foldl_cons,aL]
  omega
theorem zdT: ∀ (ps:List Str) (l:List Str) (x:Str),x∈ps.foldl zfX l↔x∈l\/x∈ps
 | [],l,x=>by simp
 |p::ps,l,x=>by
  rw[List.foldl_cons,zdT ps,insS_mem,List.mem_cons]
  constructor
  ·rintro((h |h) |h)
   ·exact .inl h
   ·exact .inr (.inl h)
   ·exact .inr (.inr h)
  ·rintro(h |h |h)
   ·exact .inl (.inl h)
   ·exact .inl (.inr h)
   ·exact .inr h
theorem zc1 {t:List File} (h:TB t) (ht:t.length<=1000) {f:Nat->List Str->Int->Option (List Str)} {Z:List Str->Option (List Str)}
 (hs: ∀ m (i:Nat) x acc,t[i]? =some x->f (m+1) acc (i:Int)=(zeo acc x.Path).bind fun z=>f m z (w64 ((i:Int)+1))) (he: ∀ m acc,f (m+1) acc (t.length:Int)=Z acc): ∀ (k i m:Nat) (acc:List Str),i+k=t.length->k<m->Asd acc->acc.length<=10000+i->
 f m acc (i:Int)=Z (((t.drop i).map (·.Path)).foldl zfX acc)
 |k,i,0,acc,_,hm,_,_=>by omega
 |0,i,m+1,acc,hi,_,_,_=>by
  obtain rfl:i=t.length:=by omega
  rw[he,List.drop_length];rfl
 |k+1,i,m+1,acc,hi,hm,ha,hl=>by
  have hlt:i<t.length:=by omega
  have hx:t[i]? =some t[i]:=aB hlt
  have hil:=zhk acc t[i].Path
  rw[hs m i _ acc hx,zk4 (by omega) ha,aA,zae hlt h.maxi,zc1 h ht hs he k (i+1) m _ (by omega) (by omega) (zd7 _ _) (by omega),aI hlt]
  rfl
theorem zi8 {o a b:List File}(ho:TB o)(ha:TB a)(hb:TB b)(so:o.length<=100)(sa:a.length<=100)(sb:b.length<=100):zfn o a b=some (zbb o a b):=by
 unfold zfn zbb
 simp only[jn,zap]
 have l1:=zbY (o.map (·.Path)) []
 have l2:=zbY (a.map (·.Path)) ((o.map (·.Path)).foldl zfX [])
 have a0:Asd ([]:List Str):=List.Pairwise.nil
 have a1:=zcV (o.map (·.Path)) [] a0
 have a2:=zcV (a.map (·.Path)) _ a1
 simp only[List.length_map,List.length_nil]at l1 l2
 have e3:=fun acc (h1:Asd acc) (h2:acc.length<=10000)=>zc1 hb (by omega) (f:=fun m acc i=>zas b (fun y40 _=>some y40) m acc i) (Z:=fun acc=>some acc) (fun m i x acc hx=>by simp only[zas,zan hx,zad hx,aD,aA]) (fun m acc=>by simp only[zas,zaf,aC]) b.length 0 (b.length+1) acc (by omega) (by omega) h1 (by omega)
 have e2:=fun acc (h1:Asd acc) (h2:acc.length<=10000)=>zc1 ha (by omega) (f:=fun m acc i=>zaL a (fun y23 _=>zas b (fun y40 _=>some y40) (b.length+1) y23 0) m acc i) (Z:=fun acc=>zas b (fun y40 _=>some y40) (b.length+1) acc 0) (fun m i x acc hx=>by simp only[zaL,zan hx,zad hx,aD,aA]) (fun m acc=>by simp only[zaL,zaf,aC]) a.length 0 (a.length+1) acc (by omega) (by omega) h1 (by omega)
 have e1:=fun acc (h1:Asd acc) (h2:acc.length<=10000)=>zc1 ho (by omega) (f:=fun m acc i=>zbJ o (fun y6 _=>zaL a (fun y23 _=>zas b (fun y40 _=>some y40) (b.length+1) y23 0) (a.length+1) y6 0) m acc i) (Z:=fun acc=>zaL a (fun y23 _=>zas b (fun y40 _=>some y40) (b.length+1) y23 0) (a.length+1) acc 0) (fun m i x acc hx=>by simp only[zbJ,zan hx,zad hx,aD,aA]) (fun m acc=>by simp only[zbJ,zaf,aC]) o.length 0 (o.length+1) acc (by omega) (by omega) h1 (by omega)
 refine(e1 [] a0 (by simp)).trans ?_
 rw[List.drop_zero]
 refine(e2 _ a1 (by omega)).trans ?_
 rw[List.drop_zero]
 refine(e3 _ a2 (by omega)).trans ?_
 rw[List.drop_zero]
theorem zeN (o a b:List File):(zbb o a b).length<=o.length+a.length+b.length:=by
 unfold zbb
 have l1:=zbY (o.map (·.Path)) []
 have l2:=zbY (a.map (·.Path)) ((o.map (·.Path)).foldl zfX [])
 have l3:=zbY (b.map (·.Path)) ((a.map (·.Path)).foldl zfX ((o.map (·.Path)).foldl zfX []))
 simp only[List.length_map,List.length_nil]at l1 l2 l3
 omega
theorem pathsF_mem {o a b:List File}{x:Str}:x∈zbb o a b↔ (∃ f∈o,f.Path=x)\/(∃ f∈a,f.Path=x)\/(∃ f∈b,f.Path=x):=by
 unfold zbb
 rw[zdT,zdT,zdT]
 simp only[List.mem_map,List.not_mem_nil,false_or]
 constructor
 ·rintro((h |h) |h)
  ·exact .inl h
  ·exact .inr (.inl h)
  ·exact .inr (.inr h)
 ·rintro(h |h |h)
  ·exact .inl (.inl h)
  ·exact .inl (.inr h)
  ·exact .inr h
def zgY (o a b:List File)(p:Str):Option File:=bif(oneF o a b p).2.1 then some ⟨p,(oneF o a b p).1⟩ else none
def zfY (o a b:List File)(p:Str):Option Clash:=bif decide (0< (oneF o a b p).2.2) then some ⟨p,(oneF o a b p).2.2⟩ else none
def zdu (o a b:List File):List File:=(zbb o a b).filterMap (zgY o a b)
def zd0 (o a b:List File):List Clash:=(zbb o a b).filterMap (zfY o a b)
theorem zhy {o a b:List File}(ho:TB o)(ha:TB a)(hb:TB b)(to:zaw o)(ta:zaw a)(tb:zaw b){ps:List Str}(hp:ps.length<=1000): ∀ (k i m:Nat) (fs:List File) (cs:List Clash),i+k=ps.length->k<m->fs.length<=i->cs.length<=i->
 zdo o a b ps (fun y16 y19 _=>some (y16,y19)) m fs cs (i:Int)=some (fs++(ps.drop i).filterMap (zgY o a b),cs++(ps.drop i).filterMap (zfY o a b))
 |k,i,0,fs,cs,_,hm,_,_=>by omega
 |0,i,m+1,fs,cs,hi,_,_,_=>by
  obtain rfl:i=ps.length:=by omega
  simp only[zdo,zaf,aC,List.drop_length]
  simp
 |k+1,i,m+1,fs,cs,hi,hm,hf,hc=>by
  have hlt:i<ps.length:=by omega
  have hx:ps[i]? =some ps[i]:=aB hlt
  have ih:=fun fs cs h1 h2=>zhy ho ha hb to ta tb hp k (i+1) m fs cs (by omega) (by omega) h1 h2
  have ht:=zav (zhx to ta tb ps[i])
  simp only[zdo,jn,zan hx,zad hx,aD,aA,zae hlt (show ps.length<=maxi by unfold maxi;omega),zk9 ho ha hb to ta tb,apN (show(oneF o a b ps[i]).1.length<=1048576 by omega),ap1 (x:=(⟨ps[i],(oneF o a b ps[i]).1⟩:File)) (show fs.length<=1048576 by omega),ap1 (x:=(⟨ps[i],(oneF o a b ps[i]).2.2⟩:Clash)) (show cs.length<=1048576 by omega)]
  rw[aI hlt,List.filterMap_cons,List.filterMap_cons]
  unfold zgY zfY at ih ⊢
  cases(oneF o a b ps[i]).2.1<;>cases decide (0< (oneF o a b ps[i]).2.2)<;>simp only[aD,aC]
  ·rw[ih _ _ (by omega) (by omega)]
  ·rw[ih _ _ (by omega) (by simp;omega)];simp
  ·rw[ih _ _ (by simp;omega) (by omega)];simp
  ·rw[ih _ _ (by simp;omega) (by simp;omega)];simp
theorem zmx {o a b:List File}(ho:TB o)(ha:TB a)(hb:TB b)(to:zaw o)(ta:zaw a)(tb:zaw b)(so:o.length<=100)(sa:a.length<=100)(sb:b.length<=100):zin o a b=some (zdu o a b,zd0 o a b):=by
 have hl:=zeN o a b
 unfold zin
 rw[zi8 ho ha hb so sa sb,aA]
 simp only[jn,zap]
 have:=zhy ho ha hb to ta tb (ps:=zbb o a b) (by omega) (zbb o a b).length 0 ((zbb o a b).length+1) [] [] (by omega) (by omega) (by simp) (by simp)
 refine this.trans ?_
 simp[zdu,zd0]
theorem zfZ {o a b:List File}(ho:TB o)(ha:TB a)(hb:TB b)(to:zaw o)(ta:zaw a)(tb:zaw b)(so:o.length<=100)(sa:a.length<=100)(sb:b.length<=100):TB (zdu o a b):=by
 have hl:=zeN o a b
 refine⟨Nat.le_trans (List.length_filterMap_le _ _) (by omega),fun f hf=>?_⟩
 obtain⟨p,hp,he⟩:=List.mem_filterMap.1 hf
 unfold zgY at he
 cases h2:(oneF o a b p).2.1 with
 |false=>rw[h2]at he;cases he
 |true=>
  rw[h2,aD]at he
  cases he
  have ht:=zhx to ta tb p
  have hlen:=zav ht
  refine⟨?_,by show(oneF o a b p).1.length<=_;omega,zcr (s:=(oneF o a b p).1) (by omega) (zaO ht)⟩
  rcases pathsF_mem.1 hp with ⟨g,hg,e⟩ |⟨g,hg,e⟩ |⟨g,hg,e⟩
  ·rw[<- e];exact(ho.2 g hg).path
  ·rw[<- e];exact(ha.2 g hg).path
  ·rw[<- e];exact(hb.2 g hg).path
def zbo (o a b:List File):List File×List Clash:=bif((zd0 o a b).length:Int)==0 && !zaq (zdu o a b) then(o,[⟨[],4⟩]) else(zdu o a b,zd0 o a b)
theorem zgM {o a b:List File}(ho:TB o)(ha:TB a)(hb:TB b)(to:zaw o)(ta:zaw a)(tb:zaw b)(so:o.length<=100)(sa:a.length<=100)(sb:b.length<=100):zfC o a b=some (zbo o a b):=by
 unfold zfC zbo
 simp only[jn,zmx ho ha hb to ta tb so sa sb,aA,zdy (zfZ ho ha hb to ta tb so sa sb),zbG ho]
 cases(((zd0 o a b).length:Int)==0)<;>cases zaq (zdu o a b)<;>rfl
theorem zf3 {o a b:List File}(ho:TB o)(ha:TB a)(hb:TB b)(to:zaw o)(ta:zaw a)(tb:zaw b)(so:o.length<=100)(sa:a.length<=100)(sb:b.length<=100):TB (zbo o a b).1:=by
 unfold zbo
 cases(((zd0 o a b).length:Int)==0 && !zaq (zdu o a b))
 ·exact zfZ ho ha hb to ta tb so sa sb
 ·exact ho
theorem zak {t:List File}(h:zaq t=true):zaw t:=by
 intro f hf
 obtain⟨i,hi⟩:=List.mem_iff_getElem?.1 hf
 unfold zaq at h
 simp only[aG]at h
 have:=zaP.1 h.2 i (Nat.zero_le _) (by have:=zar hi;omega)
 unfold zfu zft at this
 rw[za9 hi]at this
 simp only[aG]at this
 exact this.1.2.1
theorem zb3 {t:List File}(h:zaq t=true){f:File}(hf:f∈t):zaC f.Path=true:=by
 obtain⟨i,hi⟩:=List.mem_iff_getElem?.1 hf
 unfold zaq at h
 simp only[aG]at h
 have:=zaP.1 h.2 i (Nat.zero_le _) (by have:=zar hi;omega)
 unfold zfu zft at this
 rw[za9 hi]at this
 simp only[aG]at this
 exact this.1.1
theorem zgC (c:UInt8): ∀ (r w:Str),w.length+r.length+1=zc6 (fun p=>p.length+1) (curS c w r)
 | [],w=>by simp[curS,zc6]
 |x::r,w=>by
  unfold curS
  cases x==c with
  |true=>
   rw[aD]
   have:=zgC c r []
   simp only[zc6,List.length_nil,aL]at this ⊢
   omega
  |false=>
   rw[aC]
   have:=zgC c r (w++[x])
   simp only[List.length_append,aL,List.length_nil]at this ⊢
   omega
theorem zlK {c:Nat}: ∀ {l:List Str},(∀ p∈l,p.length+1<=c)->zc6 (fun p=>p.length+1) l<=c*l.length
 | [],_=>by simp[zc6]
 |x::l,h=>by
  have h1:=h x (by simp)
  have h2:=zlK (c:=c) (l:=l) (fun p hp=>h p (List.mem_cons_of_mem _ hp))
  simp only[zc6,aL,Nat.mul_add,Nat.mul_one]
  omega
theorem zbj {s:Str}(h:zay s=true):s.length<=6:=by
 unfold zay at h
 simp only[aG,decide_eq_true_eq]at h
 omega
theorem zcB {s:Str}(h:zaC s=true):s.length<=20:=by
 unfold zaC at h
 simp only[aG,decide_eq_true_eq,List.all_eq_true]at h
 have h1:=zgC 47 s []
 have h2:=zlK (c:=7) (l:=curS 47 [] s) (fun p hp=>by have:=zbj (h.2 p hp);omega)
 simp only[List.length_nil]at h1
 omega
theorem zj8 {d p:Str}(h:zaG d p=true):d.length+1<=p.length:=by
 unfold zaG at h
 have:=(List.isPrefixOf_iff_prefix.1 h).length_le
 simpa using this
def zdK (p to:Str)(acc:List File)(g:File):List File:=bif !zlF p g then putF ⟨to++g.Path.drop p.length,g.Text⟩ false acc else acc
def zi9 (t:List File)(p to:Str):List File×Bool:=
 bif zaq t then(bif((((dropF p t).length:Int))==(t.length:Int)) || !zaC to then(t,false) else(bif !zaq (t.foldl (zdK p to) (dropF p t))||(((t.foldl (zdK p to) (dropF p t)).length:Int) !=(t.length:Int)) then(t,false) else(t.foldl (zdK p to) (dropF p t),true))) else([],false)
theorem zj9 {p to:Str}{acc:List File}{g:File}(hg:FB g)(hp:g.Path.length<=20)(ht:to.length<=20)(ha:TB acc)(hl:acc.length<=1000):TB (zdK p to acc g)/\(zdK p to acc g).length<=acc.length+1:=by
 unfold zdK
 cases !zlF p g
 ·exact⟨ha,by simp⟩
 ·refine⟨ha.putF (by omega) ⟨?_,hg.len,hg.text⟩,?_⟩
  ·simp only[List.length_append,List.length_drop];omega
  ·have:=zgn ⟨to++g.Path.drop p.length,g.Text⟩ acc false
   simp only[aC,aD]at this ⊢
   omega
theorem zic {t:List File}(h:TB t)(hs:t.length<=8)(hp: ∀ f∈t,f.Path.length<=20){p to:Str}(ht:to.length<=20){K:List File->Int->Option (List File×Bool)}: ∀ (k i m:Nat) (acc:List File),i+k=t.length->k<m->TB acc->acc.length<=100+i->
 zaF t p to K m acc (i:Int)=K ((t.drop i).foldl (zdK p to) acc) (t.length:Int)/\TB ((t.drop i).foldl (zdK p to) acc)
 |k,i,0,acc,_,hm,_,_=>by omega
 |0,i,m+1,acc,hi,_,ha,_=>by
  obtain rfl:i=t.length:=by omega
  simp only[zaF,zaf,aC,List.drop_length]
  exact⟨rfl,ha⟩
 |k+1,i,m+1,acc,hi,hm,ha,hl=>by
  have hlt:i<t.length:=by omega
  have hx:t[i]? =some t[i]:=aB hlt
  have hm':=List.getElem_mem hlt
  have hg:=h.at_ hx
  have hpl:=hp _ hm'
  obtain⟨i1,i2⟩:=zj9 (p:=p) (to:=to) hg hpl ht ha (by omega)
  have ih:=zic h hs hp (p:=p) (to:=to) ht (K:=K) k (i+1) m (zdK p to acc t[i]) (by omega) (by omega) i1 (by omega)
  rw[aI hlt,List.foldl_cons]
  refine⟨?_,ih.2⟩
  rw[<- ih.1]
  simp only[zaF,jn,zan hx,zad hx,aD,aA,zae hlt h.maxi,zh8 hg.path]
  unfold zdK zlF
  have hrun:p.length<=t[i].Path.length->((slM t[i].Path (p.length:Int) (t[i].Path.length:Int)).bind fun q67=>(saM to q67).bind fun q69=>(zeC acc ⟨q69,t[i].Text⟩).bind fun z77=>zaF t p to K m z77 ((i+1:Nat):Int))=zaF t p to K m (putF ⟨to++t[i].Path.drop p.length,t[i].Text⟩ false acc) ((i+1:Nat):Int):=fun hle=>by
   have hsa:saM to (t[i].Path.drop p.length)=some (to++t[i].Path.drop p.length):=by
    unfold saM
    rw[if_pos]
    simp only[List.length_drop,lim]
    omega
   rw[zir hle,aA,hsa,aA,ziD (g:=⟨to++t[i].Path.drop p.length,t[i].Text⟩) ha (by omega) ⟨by simp only[List.length_append,List.length_drop];omega,hg.len,hg.text⟩,aA]
  cases he:t[i].Path==p with
  |true=>
   have e:t[i].Path=p:=by simpa using he
   have e2:(t[i].Path !=p)=false:=by rw[bne,he];rfl
   rw[e2]
   exact hrun (by rw[e];exact Nat.le_refl _)
  |false=>
   have e2:(t[i].Path !=p)=true:=by rw[bne,he];rfl
   rw[e2]
   cases hb:zaG p t[i].Path with
   |false=>rfl
   |true=>exact hrun (by have:=zj8 hb;omega)
theorem zhz {t:List File}(h:TB t)(p to:Str)(hto:to.length<=1048576):zcL t p to=some (zi9 t p to):=by
 unfold zcL zi9
 rw[zdy h,aA]
 cases htr:zaq t with
 |false=>rfl
 |true=>
  have hs:=zam htr
  rw[aK,aC,aD,zbG h,aA,zht h,aA]
  simp only[jn,zap,zdS hto,aA]
  cases(((dropF p t).length:Int)==(t.length:Int))with
  |true=>rfl
  |false=>
   cases hpt:zaC to with
   |false=>rfl
   |true=>
    obtain⟨e1,e2⟩:=zic h hs (fun f hf=>zcB (zb3 htr hf)) (p:=p) (zcB hpt) (K:=fun y39 _=>(zdx y39).bind fun z115=>bif(!z115) then(some (t,false)) else(bif((y39.length:Int) !=(t.length:Int)) then(some (t,false)) else(some (y39,true)))) t.length 0 (t.length+1) (dropF p t) (by omega) (by omega) (h.dropF p) (by have:=List.length_filter_le (zlF p) t;unfold dropF;omega)
    rw[List.drop_zero]at e1 e2
    simp only[Bool.false_or,aK,aC,aD]
    refine e1.trans ?_
    show(zdx _).bind _=_
    rw[zdy e2,aA]
    cases zaq (t.foldl (zdK p to) (dropF p t))<;>cases(((t.foldl (zdK p to) (dropF p t)).length:Int) !=(t.length:Int))<;>rfl
structure Gd (q:Prop) (r:Repo):Prop where
 rb:RpB r
 ok:zaa r=true
 hd:q->r.Commits≠ []->r.Heads≠ []
abbrev Good:Repo->Prop:=Gd True
variable {q:Prop}
def zah (r:Repo)(i:Nat):List File:=(r.Commits.getD i noCommit).Tree
theorem Gd.tree {r:Repo}(h:Gd q r){i:Nat}(hi:i<r.Commits.length):TB (zah r i)/\zaq (zah r i)=true/\zaw (zah r i)/\(zah r i).length<=8:=by
 have hx:r.Commits[i]? =some r.Commits[i]:=aB hi
 have h1:zaq (zah r i)=true:=by
  have:=zfw h.ok hi
  unfold zjz at this
  simp only[aG]at this
  exact this.2.2.2.2
 refine⟨?_,h1,zak h1,zam h1⟩
 unfold zah
 rw[zdq hx]
 exact(h.rb.cat hx).tree
theorem zeP:TB ([]:List File)/\zaq []=true/\zaw []/\([]:List File).length<=8:=⟨TB.nil,rfl,fun f hf=>by simp at hf,by simp⟩
theorem za3 {r:Repo}{z:Int}(h0:0<=z)(h1:z<=(r.Commits.length:Int)-1):gi r.Commits z=some (r.Commits.getD z.toNat noCommit):=by
 obtain⟨n,rfl⟩:=Int.eq_ofNat_of_zero_le h0
 exact zhR (by omega)
theorem zid (n:Str)(a:Int): ∀ (hs:List Head),zdZ n a false hs≠ []
 | []=>by simp[zdZ]
 |h::hs=>by
  unfold zdZ
  cases hb:Op.bytesLess h.Name n
  ·simp
  ·have:=zid n a hs
   cases(h.Name !=n)<;>simp[this]
def zdz (n:Str)(a:Int)(h:Head):Head:=bif h.Name==n then⟨n,a⟩ else h
theorem zgb (n:Str)(a:Int): ∀ (hs:List Head),(∀ h∈hs,h.Name≠n)->zdZ n a true hs=hs
 | [],_=>rfl
 |h::hs,hn=>by
  have h1:(h.Name !=n)=true:=by simpa using hn h (by simp)
  unfold zdZ
  rw[h1,Bool.true_or,zgb n a hs (fun x hx=>hn x (List.mem_cons_of_mem _ hx))]
  rfl
theorem ze0 (n:Str)(a:Int): ∀ (hs:List Head),hs.Pairwise (fun x y=>x.Name<y.Name)->(∃ h∈hs,h.Name=n)->zdZ n a false hs=hs.map (zdz n a)
 | [],_,h=>by obtain⟨x,hx,_⟩:=h;simp at hx
 |h::hs,hp,he=>by
  obtain⟨p1,p2⟩:=List.pairwise_cons.1 hp
  unfold zdZ
  rw[List.map_cons]
  cases hb:Op.bytesLess h.Name n with
  |true=>
   rw[zaK]at hb
   have hlt:h.Name<n:=by simpa using hb
   have hne:h.Name≠n:=fun e=>by rw[e]at hlt;exact zaj _ hlt
   have h1:(h.Name !=n)=true:=by simpa using hne
   have h2:(h.Name==n)=false:=beq_false_of_ne hne
   have ht: ∃ x∈hs,x.Name=n:=by
    obtain⟨x,hx,e⟩:=he
    rcases List.mem_cons.1 hx with e2 |e2
    ·rw[e2]at e;exact absurd e hne
    ·exact⟨x,e2,e⟩
   rw[h1]
   simp only[aK,Bool.and_false,aC,aD,List.nil_append,Bool.or_false,List.singleton_append]
   rw[ze0 n a hs p2 ht]
   unfold zdz
   rw[h2]
   rfl
  |false=>
   rw[zaK]at hb
   have hge:n<=h.Name:=zg9.1 (by simpa using hb)
   cases h2:h.Name==n with
   |true=>
    have e:h.Name=n:=by simpa using h2
    have h1:(h.Name !=n)=false:=by rw[bne,h2];rfl
    have hno: ∀ x∈hs,x.Name≠n:=fun x hx e2=>by
     have:=p1 x hx
     rw[e,e2]at this
     exact zaj _ this
    rw[h1,Bool.not_false,Bool.or_true,zgb n a hs hno]
    have hm:hs.map (zdz n a)=hs:=by
     conv=>rhs;rw[<- List.map_id hs]
     refine List.map_congr_left (fun x hx=>?_)
     unfold zdz
     rw[beq_false_of_ne (hno x hx)]
     rfl
    rw[hm]
    unfold zdz
    rw[h2]
    rfl
   |false=>
    exfalso
    have hne:n≠h.Name:=fun e=>by rw[e]at h2;simp at h2
    have hlt:=zbi hge hne
    obtain⟨x,hx,e⟩:=he
    rcases List.mem_cons.1 hx with e2 |e2
    ·rw[e2]at e;exact hne e.symm
    ·have:=p1 x e2
     rw[e]at this
     exact zaj _ (zaI hlt this)
theorem zii {r:Repo}(h:zaa r=true):r.Heads.Pairwise (fun x y=>x.Name<y.Name):=by
 unfold zaa zb5 at h
 simp only[aG]at h
 have hg:=zaP.1 h.2.2.1
 have step: ∀ i,(hi:i+1<r.Heads.length)->(r.Heads[i]'(by omega)).Name<r.Heads[i+1].Name:=fun i hi=>by
  have:=hg (i+1) (by omega) (by omega)
  unfold zeO at this
  rw[za6 (aB hi),aF (by omega),Nat.add_sub_cancel,za6 (aB (show i<r.Heads.length by omega))]at this
  simp only[aD,aG,zaK,decide_eq_true_eq]at this
  exact this.2.2
 refine List.pairwise_iff_getElem.2 fun i j hi hj hij=>?_
 induction j with
 |zero=>omega
 |succ j ih=>
  rcases Nat.lt_or_ge i j with h1 |h1
  ·exact zaI (ih (by omega) h1) (step j hj)
  ·have:i=j:=by omega
   subst this
   exact step i hj
theorem zkq {r:Repo}{n:Str}(h:0<=atB r n): ∃ x∈r.Heads,x.Name=n:=by
 unfold atB at h
 cases hf:r.Heads.find? (fun h=>h.Name==n)with
 |none=>rw[hf]at h;simp at h
 |some x=>exact⟨x,List.mem_of_find?_eq_some hf,by simpa using List.find?_some hf⟩
theorem zhO {r:Repo}(h:zaa r=true){n:Str}(ha:0<=atB r n)(b:Int):headR r n b=⟨r.Commits,r.Heads.map (zdz n b)⟩:=by
 unfold headR
 rw[ze0 n b r.Heads (zii h) (zkq ha)]
theorem zkM {r:Repo}(h:zaa r=true){n:Str}(ha:0<=atB r n){b:Int}(h0:0<=b)(h1:b<=(r.Commits.length:Int)-1):zaa (headR r n b)=true:=by
 rw[zhO h ha]
 have hh:=h
 unfold zaa zb5 at h ⊢
 simp only[aG,List.length_map]at h ⊢
 refine⟨h.1,h.2.1,?_,h.2.2.2⟩
 have hg:=zaP.1 h.2.2.1
 refine zaP.2 fun i hi0 hi=>?_
 have hil:i<r.Heads.length:=by omega
 have hx:r.Heads[i]? =some r.Heads[i]:=aB hil
 have hm: ∀ j,j<r.Heads.length->((r.Heads.map (zdz n b)).getD j zdD).Name=(r.Heads.getD j zdD).Name:=fun j hj=>by
  have hxj:r.Heads[j]? =some r.Heads[j]:=aB hj
  rw[za6 hxj,za6 (f:=zdz n b r.Heads[j]) (by rw[List.getElem?_map,hxj];rfl)]
  unfold zdz
  cases he:r.Heads[j].Name==n with
  |true=>simpa using (by simpa using he:r.Heads[j].Name=n).symm
  |false=>rfl
 have hat:upB r.Commits.length ((r.Heads.map (zdz n b)).getD i zdD).At=true:=by
  rw[za6 (f:=zdz n b r.Heads[i]) (by rw[List.getElem?_map,hx];rfl)]
  unfold zdz upB
  cases r.Heads[i].Name==n with
  |true=>simp[h0,h1]
  |false=>
   have:=zfJ hh (List.getElem_mem hil)
   simp[this.1,this.2.1]
 have:=hg i hi0 (by omega)
 unfold zeO at this ⊢
 simp only[aG]at this ⊢
 refine⟨by rw[hm i hil];exact this.1,hat,?_⟩
 rw[hm i hil,hm (i-1) (by omega)]
 exact this.2.2
def zf0 (r:Repo)(a b:Int):List File:=bif((zaB r a b).length:Int)==0 then [] else zah r ((zaB r a b).getD ((zaB r a b).length-1) 0).toNat
theorem zij {r:Repo}(h:Gd q r){a b:Int}(ha:0<=a)(ha':a<=(r.Commits.length:Int)-1)(hb:0<=b)(hb':b<=(r.Commits.length:Int)-1):zfQ r a b=some (zf0 r a b)/\TB (zf0 r a b)/\zaq (zf0 r a b)=true:=by
 have hs:=(zab h.ok).1
 have hl:=zjf r a b
 unfold zfQ zf0
 rw[zi7 h.ok ha ha' hb hb',aA]
 cases hz:((zaB r a b).length:Int)==0 with
 |true=>exact⟨rfl,zeP.1,zeP.2.1⟩
 |false=>
  have hne:((zaB r a b).length:Int)≠0:=by simpa using hz
  have e:w64 (((zaB r a b).length:Int)-1)=(((zaB r a b).length-1:Nat):Int):=by rw[zag (by omega) (by omega)];omega
  have hlt:(zaB r a b).length-1< (zaB r a b).length:=by omega
  have hm:(zaB r a b).getD ((zaB r a b).length-1) 0∈zaB r a b:=by
   rw[zbP (aB hlt)];exact List.getElem_mem hlt
  obtain⟨q0,q1⟩:=ziF hm
  rw[aC,aC,e,zgX hlt,aA,za3 q0 q1,aA]
  have:=h.tree (i:=((zaB r a b).getD ((zaB r a b).length-1) 0).toNat) (by omega)
  exact⟨rfl,this.1,this.2.1⟩
def zdU (r:Repo)(n:Str)(c:Commit):Repo×Int:=bif zaa (addR r n c) then(addR r n c,0) else(r,5)
def zf1 (r:Repo)(n who:Str)(b:Int):Repo×Int:=
 bif zen (zaJ r (atB r n)) b then(r,2)
 else bif zen (zaJ r b) (atB r n) then(headR r n b,3)
 else
  let j:=zbo (zf0 r (atB r n) b) (zah r (atB r n).toNat) (zah r b.toNat)
  bif decide (0< (j.2.length:Int)) then(r,4) else zdU r n ⟨[atB r n,b],who,j.1⟩
theorem Gd.add {r:Repo}(h:Gd q r){n:Str}{c:Commit}(hn:n.length<=1048576)(hc:CB c)(ho:zaa (addR r n c)=true):Gd q (addR r n c):=by
 obtain⟨s1,s2⟩:=zab h.ok
 exact⟨h.rb.addR (by omega) (by omega) hn hc,ho,fun _ _=>zid _ _ _⟩
theorem Gd.head {r:Repo}(h:Gd q r){n:Str}{b:Int}(hn:n.length<=1048576)(ho:zaa (headR r n b)=true):Gd q (headR r n b):=by
 obtain⟨s1,s2⟩:=zab h.ok
 exact⟨h.rb.headR (by omega) hn b,ho,fun _ _=>zid _ _ _⟩
theorem zfc {r:Repo}(h:Gd q r){n:Str}{c:Commit}(hn:n.length<=1048576)(hc:CB c):Gd q (zdU r n c).1:=by
 unfold zdU
 cases ho:zaa (addR r n c)with
 |true=>exact h.add hn hc ho
 |false=>exact h
theorem zhA {r:Repo}(h:Gd q r){n:Str}{c:Commit}(hn:n.length<=1048576)(hc:CB c):((zda r n c).bind fun z130=>(zcS z130).bind fun z163=>bif(!z163) then(some (r,(5:Int))) else(some (z130,0)))=some (zdU r n c):=by
 obtain⟨s1,s2⟩:=zab h.ok
 rw[ziB h.rb (by omega) (by omega) n hc,aA,zbT (h.rb.addR (by omega) (by omega) hn hc),aA]
 unfold zdU
 cases zaa (addR r n c)<;>rfl
theorem zja {r:Repo}(h:Gd q r){n who:Str}{b:Int}(hn:n.length<=1048576)(hw:who.length<=1048576)(ha:0<=atB r n)(hb:0<=b)(hb':b<=(r.Commits.length:Int)-1):zdp r n who b=some (zf1 r n who b)/\Gd q (zf1 r n who b).1:=by
 obtain⟨s1,s2⟩:=zab h.ok
 have ha':atB r n<=(r.Commits.length:Int)-1:=by rcases at_range h.ok n with e |e<;>omega
 have l1:=zbf r (atB r n)
 have l2:=zbf r b
 obtain⟨e1,e2,e3⟩:=zij h ha ha' hb hb'
 obtain⟨ta,ta2,ta3,ta4⟩:=h.tree (i:=(atB r n).toNat) (by omega)
 obtain⟨tb,tb2,tb3,tb4⟩:=h.tree (i:=b.toNat) (by omega)
 have hbs:=zam e3
 have hj:=zf3 e2 ta tb (zak e3) ta3 tb3 (by omega) (by omega) (by omega)
 have hc:CB ⟨[atB r n,b],who,(zbo (zf0 r (atB r n) b) (zah r (atB r n).toNat) (zah r b.toNat)).1⟩:=⟨by simp,hw,hj⟩
 unfold zdp zf1
 simp only[zb8 h.rb,aA,zc0 h.ok ha ha',zc0 h.ok hb hb',zex (show(zaJ r (atB r n)).length<=1000000 by omega),zex (show(zaJ r b).length<=1000000 by omega),zfb h.rb (show r.Heads.length<=100000 by omega),za3 ha ha',za3 hb hb',e1]
 cases zen (zaJ r (atB r n)) b with
 |true=>exact⟨rfl,h⟩
 |false=>
  cases zen (zaJ r b) (atB r n)with
  |true=>exact⟨rfl,h.head hn (zkM h.ok ha hb hb')⟩
  |false=>
   simp only[aC]
   have hjoin:=zgM e2 ta tb (zak e3) ta3 tb3 (by omega) (by omega) (by omega)
   unfold zah at hjoin hc ⊢
   rw[hjoin,aA]
   cases decide (0< ((zbo (zf0 r (atB r n) b) (r.Commits.getD (atB r n).toNat noCommit).Tree (r.Commits.getD b.toNat noCommit).Tree).2.length:Int))with
   |true=>exact⟨rfl,h⟩
   |false=>exact⟨zhA h hn hc,zfc h hn hc⟩
def zhP (r:Repo)(n who:Str)(b:Int):Bool:=decide (atB r n<0)||(!zay who || !upB r.Commits.length b)
def zkA (r:Repo)(n who:Str)(b:Int):Repo×Int:=bif zaa r then(bif zhP r n who b then(r,1) else zf1 r n who b) else(zbv,1)
theorem zfO {r:Repo}{n who:Str}{b:Int}(h:zhP r n who b=false):0<=atB r n/\0<=b/\b<=(r.Commits.length:Int)-1:=by
 unfold zhP upB at h
 simp only[Bool.or_eq_false_iff,decide_eq_false_iff_not,Bool.not_eq_false',aG,decide_eq_true_eq]at h
 omega
theorem zfK {r:Repo}(h:Gd q r){n who:Str}{b:Int}(hn:n.length<=1048576)(hw:who.length<=1048576):zbR r n who b=some (zkA r n who b)/\Gd q (zkA r n who b).1:=by
 unfold zbR zkA
 have hwm:=zal hw
 rw[zbT h.rb,aA,h.ok,aK,aC,aD]
 simp only[jn,zb8 h.rb,aA,za0 hwm,zcC,zcq (zal h.rb.coms),zbX h.rb,show(⟨r.Commits,r.Heads⟩:Repo)=r from rfl]
 rw[show(decide ((0:Int)<=b)&&decide (b<=(r.Commits.length:Int)-1))=upB r.Commits.length b from rfl]
 have key:zhP r n who b=false->((zdp r n who b).bind fun z58=>some (z58.1,z58.2))=some (zf1 r n who b)/\Gd q (zf1 r n who b).1:=fun hbad=>by
  obtain⟨p1,p2,p3⟩:=zfO hbad
  obtain⟨q1,q2⟩:=zja h hn hw p1 p2 p3
  rw[q1]
  exact⟨rfl,q2⟩
 unfold zhP at key ⊢
 cases h1:decide (atB r n<0)with
 |true=>exact⟨rfl,h⟩
 |false=>
  cases h2:zay who with
  |false=>exact⟨rfl,h⟩
  |true=>
   cases h3:upB r.Commits.length b with
   |false=>exact⟨rfl,h⟩
   |true=>exact key (by rw[h1,h2,h3];rfl)
def zaS (r:Repo)(i:Nat):List File:=bif((zac r i).length:Int)==0 then [] else zah r ((zac r i).getD 0 0).toNat
theorem zdd {r:Repo}(h:Gd q r){a:Int}(h0:0<=a)(h1:a<=(r.Commits.length:Int)-1):zbl r a=some (zaS r a.toNat)/\TB (zaS r a.toNat)/\zaq (zaS r a.toNat)=true:=by
 have hi:a.toNat<r.Commits.length:=by omega
 obtain⟨ps,pm⟩:=zaU h.ok hi
 unfold zbl zaS
 rw[za3 h0 h1,aA]
 show(bif((zac r a.toNat).length:Int)==0 then _ else _)=_/\_
 cases hz:((zac r a.toNat).length:Int)==0 with
 |true=>exact⟨rfl,zeP.1,zeP.2.1⟩
 |false=>
  have hne:((zac r a.toNat).length:Int)≠0:=by simpa using hz
  have hlt:0< (zac r a.toNat).length:=by omega
  have hm:(zac r a.toNat).getD 0 0∈zac r a.toNat:=by
   rw[zbP (aB hlt)];exact List.getElem_mem hlt
  obtain⟨q0,q1⟩:=pm _ hm
  have hg:gi (r.Commits.getD a.toNat noCommit).Parents 0=some ((zac r a.toNat).getD 0 0):=zgX (l:=zac r a.toNat) hlt
  rw[aC,aC,aA,hg,aA,za3 q0 (by omega),aA]
  have:=h.tree (i:=((zac r a.toNat).getD 0 0).toNat) (by omega)
  exact⟨rfl,this.1,this.2.1⟩
def zdv (r:Repo)(n who:Str)(o b:List File):Repo×Int:=
 let j:=zbo o (zah r (atB r n).toNat) b
 bif decide (0< (j.2.length:Int)) then(r,4) else zdU r n ⟨[atB r n],who,j.1⟩
theorem zg3 {r:Repo}(h:Gd q r){n who:Str}{o b:List File}(hn:n.length<=1048576)(hw:who.length<=1048576)(ha:0<=atB r n)(to:TB o)(to2:zaq o=true)(tb:TB b)(tb2:zaq b=true):zcv r n who o b=some (zdv r n who o b)/\Gd q (zdv r n who o b).1:=by
 have ha':atB r n<=(r.Commits.length:Int)-1:=by rcases at_range h.ok n with e |e<;>omega
 have hs:=(zab h.ok).1
 obtain⟨ta,ta2,ta3,ta4⟩:=h.tree (i:=(atB r n).toNat) (by omega)
 have ho:=zam to2
 have hb:=zam tb2
 have hj:=zf3 to ta tb (zak to2) ta3 (zak tb2) (by omega) (by omega) (by omega)
 have hc:CB ⟨[atB r n],who,(zbo o (zah r (atB r n).toNat) b).1⟩:=⟨by simp,hw,hj⟩
 have hjoin:=zgM to ta tb (zak to2) ta3 (zak tb2) (by omega) (by omega) (by omega)
 unfold zcv zdv
 rw[zb8 h.rb,aA,za3 ha ha',aA]
 unfold zah at hjoin hc ⊢
 rw[hjoin,aA]
 simp only
 cases decide (0< ((zbo o (r.Commits.getD (atB r n).toNat noCommit).Tree b).2.length:Int))with
 |true=>exact⟨rfl,h⟩
 |false=>exact⟨zhA h hn hc,zfc h hn hc⟩
def zcU (r:Repo)(n who:Str)(b:Int):Repo×Int:=bif zaa r then(bif zhP r n who b then(r,1) else zdv r n who (zaS r b.toNat) (zah r b.toNat)) else(zbv,1)
def zdw (r:Repo)(n who:Str)(b:Int):Repo×Int:=bif zaa r then(bif zhP r n who b then(r,1) else zdv r n who (zah r b.toNat) (zaS r b.toNat)) else(zbv,1)
theorem zgv {r:Repo}(h:Gd q r){n who:Str}{b:Int}(hn:n.length<=1048576)(hw:who.length<=1048576):zcD r n who b=some (zcU r n who b)/\Gd q (zcU r n who b).1:=by
 unfold zcD zcU
 have hwm:=zal hw
 rw[zbT h.rb,aA,h.ok,aK,aC,aD]
 simp only[jn,zb8 h.rb,aA,za0 hwm,zcC,zcq (zal h.rb.coms),zbX h.rb,show(⟨r.Commits,r.Heads⟩:Repo)=r from rfl]
 rw[show(decide ((0:Int)<=b)&&decide (b<=(r.Commits.length:Int)-1))=upB r.Commits.length b from rfl]
 have key:zhP r n who b=false->((gi r.Commits b).bind fun u77=>(zbl r b).bind fun z82=>(zcv r n who z82 u77.Tree).bind fun z93=>some (z93.1,z93.2))=some (zdv r n who (zaS r b.toNat) (zah r b.toNat))/\Gd q (zdv r n who (zaS r b.toNat) (zah r b.toNat)).1:=fun hbad=>by
  obtain⟨p1,p2,p3⟩:=zfO hbad
  obtain⟨q1,q2,q3⟩:=zdd h p2 p3
  obtain⟨tb,tb2,tb3,tb4⟩:=h.tree (i:=b.toNat) (by have:=(zab h.ok).1;omega)
  obtain⟨u1,u2⟩:=zg3 h hn hw p1 q2 q3 tb tb2
  rw[za3 p2 p3,aA,q1,aA,show(r.Commits.getD b.toNat noCommit).Tree=zah r b.toNat from rfl,u1]
  exact⟨rfl,u2⟩
 unfold zhP at key ⊢
 cases h1:decide (atB r n<0)with
 |true=>exact⟨rfl,h⟩
 |false=>
  cases h2:zay who with
  |false=>exact⟨rfl,h⟩
  |true=>
   cases h3:upB r.Commits.length b with
   |false=>exact⟨rfl,h⟩
   |true=>exact key (by rw[h1,h2,h3];rfl)
theorem zeV {r:Repo}(h:Gd q r){n who:Str}{b:Int}(hn:n.length<=1048576)(hw:who.length<=1048576):zbU r n who b=some (zdw r n who b)/\Gd q (zdw r n who b).1:=by
 unfold zbU zdw
 have hwm:=zal hw
 rw[zbT h.rb,aA,h.ok,aK,aC,aD]
 simp only[jn,zb8 h.rb,aA,za0 hwm,zcC,zcq (zal h.rb.coms),zbX h.rb,show(⟨r.Commits,r.Heads⟩:Repo)=r from rfl]
 rw[show(decide ((0:Int)<=b)&&decide (b<=(r.Commits.length:Int)-1))=upB r.Commits.length b from rfl]
 have key:zhP r n who b=false->((gi r.Commits b).bind fun u77=>(zbl r b).bind fun z82=>(zcv r n who u77.Tree z82).bind fun z93=>some (z93.1,z93.2))=some (zdv r n who (zah r b.toNat) (zaS r b.toNat))/\Gd q (zdv r n who (zah r b.toNat) (zaS r b.toNat)).1:=fun hbad=>by
  obtain⟨p1,p2,p3⟩:=zfO hbad
  obtain⟨q1,q2,q3⟩:=zdd h p2 p3
  obtain⟨tb,tb2,tb3,tb4⟩:=h.tree (i:=b.toNat) (by have:=(zab h.ok).1;omega)
  obtain⟨u1,u2⟩:=zg3 h hn hw p1 tb tb2 q2 q3
  rw[za3 p2 p3,aA,q1,aA,show(r.Commits.getD b.toNat noCommit).Tree=zah r b.toNat from rfl,u1]
  exact⟨rfl,u2⟩
 unfold zhP at key ⊢
 cases h1:decide (atB r n<0)with
 |true=>exact⟨rfl,h⟩
 |false=>
  cases h2:zay who with
  |false=>exact⟨rfl,h⟩
  |true=>
   cases h3:upB r.Commits.length b with
   |false=>exact⟨rfl,h⟩
   |true=>exact key (by rw[h1,h2,h3];rfl)
end Go.Vm
namespace Go.Vm
open Go Go.Sx
set_option linter.unusedSimpArgs false
set_option linter.unusedVariables false
def zgc (r:Repo)(o:Op)(z:List File×Bool):Repo×Int:=bif z.2 then(bif(zcZ r o.Branch o.Who z.1).2 then((zcZ r o.Branch o.Who z.1).1,0) else(r,5)) else(r,1)
theorem zhB {r:Repo}(h:Good r){n who:Str}{t:List File}(hn:n.length<=1048576)(hw:who.length<=1048576)(ht:TB t):Good (zcZ r n who t).1:=by
 unfold zcZ
 rw[h.ok,aD]
 cases ho:zaa (addR r n (zes r n who t))with
 |true=>exact h.add hn (CB.next hw ht) ho
 |false=>exact h
theorem zef {r:Repo}(h:Good r){o:Op}{z:List File×Bool}(hn:o.Branch.length<=1048576)(hw:o.Who.length<=1048576)(hz:TB z.1):zba r o z.1 z.2=some (zgc r o z)/\Good (zgc r o z).1:=by
 unfold zba zgc
 have hg:=zhB h hn hw hz
 rw[zfM h.rb hn hw hz,aA]
 cases z.2 with
 |false=>exact⟨rfl,h⟩
 |true=>
  cases(zcZ r o.Branch o.Who z.1).2 with
  |false=>exact⟨rfl,h⟩
  |true=>exact⟨rfl,hg⟩
def zct (r:Repo)(n:Str):List File:=bif decide (0<=atB r n) then zah r (atB r n).toNat else []
def znv (r:Repo)(o:Op):Repo×Int:=bif(zet r o.To (atB r o.Branch)).2 then((zet r o.To (atB r o.Branch)).1,0) else(r,1)
def doB (r:Repo)(o:Op):Repo×Int:=
 bif o.Kind==1 then zgc r o (zmT (zct r o.Branch) ⟨o.Path,o.Text⟩)
 else bif o.Kind==2 then zgc r o (zmX (zct r o.Branch) o.Path)
 else bif o.Kind==3 then zgc r o (zi9 (zct r o.Branch) o.Path o.To)
 else bif o.Kind==4 then znv r o
 else bif o.Kind==5 then zkA r o.Branch o.Who (atB r o.To)
 else bif o.Kind==6 then zcU r o.Branch o.Who o.At
 else zdw r o.Branch o.Who o.At
theorem zme {t:List File}(h:TB t)(hs:t.length<=8){g:File}(hg:FB g):TB (zmT t g).1:=by
 unfold zmT
 cases zaq t
 ·exact TB.nil
 ·cases zaq (putF g false t)
  ·exact h
  ·exact h.putF (by omega) hg
theorem zmy {t:List File}(h:TB t)(p:Str):TB (zmX t p).1:=by
 unfold zmX
 cases zaq t
 ·exact TB.nil
 ·exact h.dropF p
theorem zla {t:List File}(h:TB t)(p to:Str):TB (zi9 t p to).1:=by
 unfold zi9
 cases htr:zaq t with
 |false=>exact TB.nil
 |true=>
  rw[aD]
  cases he:((((dropF p t).length:Int))==(t.length:Int))with
  |true=>exact h
  |false=>
   cases hpt:zaC to with
   |false=>exact h
   |true=>
    have hs:=zam htr
    obtain⟨e1,e2⟩:=zic h hs (fun f hf=>zcB (zb3 htr hf)) (p:=p) (zcB hpt) (K:=fun _ _=>none) t.length 0 (t.length+1) (dropF p t) (by omega) (by omega) (h.dropF p) (by have:=List.length_filter_le (zlF p) t;unfold dropF;omega)
    rw[List.drop_zero]at e2
    simp only[Bool.false_or,aK,aC]
    cases(!zaq (t.foldl (zdK p to) (dropF p t))||(((t.foldl (zdK p to) (dropF p t)).length:Int) !=(t.length:Int)))with
    |true=>exact h
    |false=>exact e2
theorem zlb {r:Repo}(h:Good r){o:Op}(hf:OpFit o)(ho:opB o=true):zhj r o=some (doB r o)/\Good (doB r o).1:=by
 obtain⟨f0,f1,f2,f3,f4,f5,f6⟩:=hf.fit
 have hbw:zay o.Branch=true/\zay o.Who=true:=by
  unfold opB at ho
  simp only[aG]at ho
  exact⟨ho.1,ho.2.1⟩
 have hn:=zbj hbw.1
 have hw:=zbj hbw.2
 have hn':o.Branch.length<=1048576:=by omega
 have hw':o.Who.length<=1048576:=by omega
 have hst:TB (zct r o.Branch)/\(zct r o.Branch).length<=8:=by
  unfold zct
  cases hd:decide (0<=atB r o.Branch)with
  |false=>exact⟨TB.nil,by simp⟩
  |true=>
   have h0:0<=atB r o.Branch:=by simpa using hd
   have ha':atB r o.Branch<=(r.Commits.length:Int)-1:=by rcases at_range h.ok o.Branch with e |e<;>omega
   have:=h.tree (i:=(atB r o.Branch).toNat) (by omega)
   exact⟨this.1,this.2.2.2⟩
 have hfb:FB ⟨o.Path,o.Text⟩:=⟨hf.path,zcE hf.text,f6⟩
 have hto:o.To.length<=1048576:=hf.to
 obtain⟨a1,a2⟩:=zef h (z:=zmT (zct r o.Branch) ⟨o.Path,o.Text⟩) hn' hw' (zme hst.1 hst.2 hfb)
 obtain⟨b1,b2⟩:=zef h (z:=zmX (zct r o.Branch) o.Path) hn' hw' (zmy hst.1 o.Path)
 obtain⟨c1,c2⟩:=zef h (z:=zi9 (zct r o.Branch) o.Path o.To) hn' hw' (zla hst.1 o.Path o.To)
 obtain⟨d1,d2⟩:=zfK h (n:=o.Branch) (who:=o.Who) (b:=atB r o.To) hn' hw'
 obtain⟨e1,e2⟩:=zgv h (n:=o.Branch) (who:=o.Who) (b:=o.At) hn' hw'
 obtain⟨g1,g2⟩:=zeV h (n:=o.Branch) (who:=o.Who) (b:=o.At) hn' hw'
 have hrest: ∀ t,t=zct r o.Branch->(bif((o.Kind:Int)==(1:Int)) then
  ((Vm.zdm t (Vm.File.mk o.Path o.Text)).bind fun z41=>(Vm.zba r o z41.1 z41.2).bind fun z53=>some (z53.1,z53.2))
  else(bif((o.Kind:Int)==(2:Int)) then
   ((Vm.zcK t o.Path).bind fun z79=>(Vm.zba r o z79.1 z79.2).bind fun z91=>some (z91.1,z91.2))
   else(bif((o.Kind:Int)==(3:Int)) then
    ((Vm.zcL t o.Path o.To).bind fun z117=>(Vm.zba r o z117.1 z117.2).bind fun z129=>some (z129.1,z129.2))
    else(bif((o.Kind:Int)==(4:Int)) then
     ((Vm.zbH r o.To (atB r o.Branch)).bind fun z157=>bif(!z157.2) then(some (r,1)) else(some (z157.1,0)))
     else(bif((o.Kind:Int)==(5:Int)) then
      ((Vm.zd6 r o.To).bind fun z199=>(Vm.zbR r o.Branch o.Who z199).bind fun z208=>some (z208.1,z208.2))
      else(bif((o.Kind:Int)==(6:Int)) then
       ((Vm.zcD r o.Branch o.Who o.At).bind fun z226=>some (z226.1,z226.2))
       else((Vm.zbU r o.Branch o.Who o.At).bind fun z243=>some (z243.1,z243.2))))))))=some (doB r o)/\Good (doB r o).1:=by
  intro t et
  subst et
  unfold doB
  cases o.Kind==1 with
  |true=>rw[aD,aD,zib hst.1 hfb,aA,a1];exact⟨rfl,a2⟩
  |false=>
  cases o.Kind==2 with
  |true=>simp only[aD,aC];rw[zhu hst.1,aA,b1];exact⟨rfl,b2⟩
  |false=>
  cases o.Kind==3 with
  |true=>simp only[aD,aC];rw[zhz hst.1 _ _ hto,aA,c1];exact⟨rfl,c2⟩
  |false=>
  cases o.Kind==4 with
  |true=>
   simp only[aD,aC]
   rw[zfN h.rb hto,aA]
   unfold znv zet
   rw[h.ok,aD]
   cases hb:(decide (0<=atB r o.To) || !zaa (headR r o.To (atB r o.Branch)))with
   |true=>exact⟨rfl,h⟩
   |false=>
    refine⟨rfl,h.head hto ?_⟩
    simp only[Bool.or_eq_false_iff,Bool.not_eq_false']at hb
    exact hb.2
  |false=>
  cases o.Kind==5 with
  |true=>simp only[aD,aC];rw[zb8 h.rb,aA,d1];exact⟨rfl,d2⟩
  |false=>
  cases o.Kind==6 with
  |true=>simp only[aD,aC];rw[e1];exact⟨rfl,e2⟩
  |false=>simp only[aD,aC];rw[g1];exact⟨rfl,g2⟩
 unfold zhj
 rw[zb8 h.rb,aA]
 simp only[jn]
 cases hd:decide (0<=atB r o.Branch)with
 |false=>
  refine hrest [] ?_
  unfold zct
  rw[hd];rfl
 |true=>
  have h0:0<=atB r o.Branch:=by simpa using hd
  have ha':atB r o.Branch<=(r.Commits.length:Int)-1:=by rcases at_range h.ok o.Branch with e |e<;>omega
  rw[aD,za3 h0 ha',aA]
  refine hrest _ ?_
  unfold zct
  rw[hd];rfl
theorem zka:Good zbv:=⟨⟨by simp[zbv],fun c hc=>by simp[zbv]at hc,by simp[zbv],fun c hc=>by simp[zbv]at hc⟩,rfl,fun _ h=>absurd rfl h⟩
def OpL (o:Op):Prop:=Bk.fit o/\Bk.bulk o<=1000000
theorem zie {l:List Op}(hl:l.length<=1000)(ho: ∀ o∈l,OpL o): ∀ (k i m:Nat) (r:Repo),i+k=l.length->k<m->Good r -> ∃ r',Good r'/\zbq l (fun _ y12 y15=>some (Vm.Repo.mk y12 y15)) m (i:Int) r.Commits r.Heads=some r'
 |k,i,0,r,_,hm,_=>by omega
 |0,i,m+1,r,hi,_,hg=>by
  obtain rfl:i=l.length:=by omega
  simp only[zbq,jn,zaf,aC]
  exact⟨r,hg,rfl⟩
 |k+1,i,m+1,r,hi,hm,hg=>by
  have hlt:i<l.length:=by omega
  have hx:l[i]? =some l[i]:=aB hlt
  obtain⟨q1,q2⟩:=ho _ (List.getElem_mem hlt)
  have hof:=OpFit.of q1 (by omega)
  simp only[zbq,jn,zan hx,aD]
  cases decide ((i:Int)<30)with
  |false=>exact⟨r,hg,rfl⟩
  |true=>
   rw[aD,zad hx,aA,zk7 hof,aA,zae hlt (show l.length<=maxi by unfold maxi;omega)]
   cases hop:opB l[i]with
   |false=>exact zie hl ho k (i+1) m r (by omega) (by omega) hg
   |true=>
    obtain⟨e1,e2⟩:=zlb hg hof hop
    rw[aD,aA,show(⟨r.Commits,r.Heads⟩:Repo)=r from rfl,e1,aA]
    exact zie hl ho k (i+1) m (doB r l[i]).1 (by omega) (by omega) e2
theorem zhC {l:List Op}(hl:l.length<=1000)(ho: ∀ o∈l,OpL o): ∃ r,Good r/\zeD l=some r:=by
 unfold zeD
 simp only[jn]
 exact zie hl ho l.length 0 (l.length+1) zbv (by omega) (by omega) zka
section
variable {r:l30Rd}{p:Int}
theorem zdN {q k:Int}(h:zb6 r p)(hk:0<=k)(hq:p+k<=q):zb6 ⟨r.b,r.p+k⟩ q:=h.on k hk (by have:=h.2.2;omega)
theorem zhD (h:zb6 r p)(hp:p<=1000000000): ∃ s,zdO r=some (s,r.p+1)/\s.length<=10:=by
 unfold zdO
 obtain⟨s,e,hm⟩:=ziR h (by omega) (l:=[([109,97,105,110]:Str),([109,97,105,110]:Str),([115,105,100,101]:Str),([100,101,118]:Str)]) (by simp) (by simp)
 refine⟨s,by rw[e];rfl,?_⟩
 simp only[List.mem_cons,List.not_mem_nil,or_false]at hm
 rcases hm with e |e |e |e<;>rw[e]<;>simp
theorem zkb (h:zb6 r p)(hp:p<=1000000000): ∃ s,zeu r=some (s,r.p+1)/\s.length<=10:=by
 unfold zeu
 obtain⟨s,e,hm⟩:=ziR h (by omega) (l:=[([97]:Str),([98]:Str),([100,47,101]:Str),([100,47,102]:Str),([103,47,104,47,105]:Str),([103,47,107]:Str),([122]:Str)]) (by simp) (by simp)
 refine⟨s,by rw[e];rfl,?_⟩
 simp only[List.mem_cons,List.not_mem_nil,or_false]at hm
 rcases hm with e |e |e |e |e |e |e<;>rw[e]<;>simp
theorem zfd {k a:Int}{b w q t:Str}{l:List Str}(hk:0<=k/\k<=100)(ha:0<=a/\a<=100)(h1:b.length<=10)(h2:w.length<=10)(h3:q.length<=10)(h4:t.length<=10)(h5:LB 8 l):OpL ⟨k,b,w,q,t,a,l⟩:=by
 have hb:=h5.bulk
 refine⟨⟨?_,?_,?_,?_,?_,?_,h5.fit (by omega)⟩,?_⟩
 ·show -9223372036854775808<=k/\k<=9223372036854775807;omega
 ·show b.length<=maxi;unfold maxi;omega
 ·show w.length<=maxi;unfold maxi;omega
 ·show q.length<=maxi;unfold maxi;omega
 ·show t.length<=maxi;unfold maxi;omega
 ·show -9223372036854775808<=a/\a<=9223372036854775807;omega
 ·show 0+(b.length+(w.length+(q.length+(t.length+(0+Bk.bulk l)))))<=_
  omega
theorem zgd:LB 8 ([]:List Str):=⟨by simp,fun s hs=>by simp at hs⟩
theorem zo1 (h:zb6 r p)(hp:p<=1000000): ∃ o q,zhf r=some (o,q)/\OpL o/\zb6 ⟨r.b,q⟩ (p+100):=by
 unfold zhf
 obtain⟨b,e1,hb⟩:=zhD h (by omega)
 have h1:=zdN (q:=p+1) h (k:=1) (by omega) (by omega)
 obtain⟨w,e2,hw⟩:=ziR h1 (by omega) (l:=[([97,110,110]:Str),([98,111,98]:Str),([99,105,100]:Str)]) (by simp) (by simp)
 have hwl:w.length<=10:=by
  simp only[List.mem_cons,List.not_mem_nil,or_false]at hw
  rcases hw with e |e |e<;>rw[e]<;>simp
 have h2:=zdN (q:=p+2) h1 (k:=1) (by omega) (by omega)
 obtain⟨k,e3,k0,k1⟩:=zb4 h2 (n:=12) (by omega) (by omega) (by omega)
 have h3:=zdN (q:=p+3) h2 (k:=1) (by omega) (by omega)
 rw[e1,aA,e2,aA]
 simp only[jn,e3,aA]
 obtain⟨pa,e4,hpa⟩:=zkb h3 (by omega)
 have h4:=zdN (q:=p+4) h3 (k:=1) (by omega) (by omega)
 obtain⟨pb,e5,hpb⟩:=zkb h4 (by omega)
 have h5:=zdN (q:=p+5) h4 (k:=1) (by omega) (by omega)
 obtain⟨fo,e6,hfo⟩:=ziR h3 (by omega) (l:=[([115,105,100,101]:Str),([100,101,118]:Str),([111,108,100]:Str)]) (by simp) (by simp)
 have hfl:fo.length<=10:=by
  simp only[List.mem_cons,List.not_mem_nil,or_false]at hfo
  rcases hfo with e |e |e<;>rw[e]<;>simp
 obtain⟨br,e7,hbr⟩:=zhD h3 (by omega)
 obtain⟨n,e8,n0,n1⟩:=zb4 h3 (n:=10) (by omega) (by omega) (by omega)
 obtain⟨t,q,e9,ht,hq⟩:=zmt h4 (by omega)
 simp only[e4,e5,e6,e7,e8,e9,aA]
 have g4:zb6 ⟨r.b,r.p+1+1+1+1⟩ (p+100):=zdN h3 (by omega) (by omega)
 have g5:zb6 ⟨r.b,r.p+1+1+1+1+1⟩ (p+100):=zdN h4 (by omega) (by omega)
 have gq:zb6 ⟨r.b,q⟩ (p+100):=⟨hq.1,hq.2.1,by have:=hq.2.2;show q<=_;have e:(⟨r.b,q⟩:l30Rd).p=q:=rfl;rw[e]at this;omega⟩
 cases k==0 with
 |true=>exact⟨_,_,rfl,zfd (by omega) (by omega) hb hwl hpa (by simp) zgd,g4⟩
 |false=>
 cases k==1 with
 |true=>exact⟨_,_,rfl,zfd (by omega) (by omega) hb hwl hpa hpb zgd,g5⟩
 |false=>
 have hfork:=zfd (k:=4) (a:=0) (by omega) (by omega) hb hwl (q:=[]) (by simp) hfl zgd
 have huni:=zfd (k:=5) (a:=0) (by omega) (by omega) hb hwl (q:=[]) (by simp) hbr zgd
 have hset:=zfd (k:=1) (a:=0) (by omega) (by omega) hb hwl hpa (t:=[]) (by simp) ht
 cases k==2 with
 |true=>exact⟨_,_,rfl,hfork,g4⟩
 |false=>
 cases k==3 with
 |true=>exact⟨_,_,rfl,hfork,g4⟩
 |false=>
 cases k==4 with
 |true=>exact⟨_,_,rfl,huni,g4⟩
 |false=>
 cases k==5 with
 |true=>exact⟨_,_,rfl,huni,g4⟩
 |false=>
 cases k==6 with
 |true=>exact⟨_,_,rfl,huni,g4⟩
 |false=>
 cases k==7 with
 |true=>exact⟨_,_,rfl,zfd (by omega) (by omega) hb hwl (by simp) (by simp) zgd,g4⟩
 |false=>
 cases k==8 with
 |true=>exact⟨_,_,rfl,zfd (by omega) (by omega) hb hwl (by simp) (by simp) zgd,g4⟩
 |false=>exact⟨_,_,rfl,hset,gq⟩
theorem zlL {x0:l30Rd}: ∀ (m:Nat) (out:List Op) (n q p:Int),0<=n->n<m->(∀ o∈out,OpL o)->zb6 ⟨x0.b,q⟩ p->p+100*n<=1000000->out.length+n<=100->
 ∃ l q',zd3 x0 (fun y15 _ y19=>some (y15,y19)) m out n q=some (l,q')/\(∀ o∈l,OpL o)/\l.length<=100/\zb6 ⟨x0.b,q'⟩ (p+100*n)
 |0,out,n,q,p,h0,hm,_,_,_,_=>by omega
 |m+1,out,n,q,p,h0,hm,ho,hr,hp,hl=>by
  simp only[zd3]
  by_cases hn:0<n
  ·obtain⟨o,q1,e1,o1,r1⟩:=zo1 hr (by omega)
   rw[aF hn,aD,e1,aA,ap1 (show out.length<=1048576 by omega),aA,zag (by omega) (by omega)]
   obtain⟨l,q',e2,l1,l2,r2⟩:=zlL (x0:=x0) m (out++[o]) (n-1) q1 (p+100) (by omega) (by omega) (fun x hx=>by
    rcases List.mem_append.1 hx with h1 |h1
    ·exact ho x h1
    ·rw[List.mem_singleton]at h1;rw[h1];exact o1) r1 (by omega) (by simp;omega)
   exact⟨l,q',e2,l1,l2,⟨r2.1,r2.2.1,by have e:(⟨x0.b,q'⟩:l30Rd).p<=p+100+100*(n-1):=r2.2.2;show q'<=_;have e':q'<=p+100+100*(n-1):=e;omega⟩⟩
  ·rw[aE hn,aC]
   exact⟨out,q,rfl,ho,by omega,⟨hr.1,hr.2.1,by have e:q<=p:=hr.2.2;show q<=_;omega⟩⟩
theorem znw (h:zb6 r p)(hp:p<=100000): ∃ l q,zge r=some (l,q)/\(∀ o∈l,OpL o)/\l.length<=100/\zb6 ⟨r.b,q⟩ (p+2001):=by
 unfold zge
 obtain⟨n,e,hm⟩:=zjG h (by omega) (l:=[0,3,8,14,20]) (by simp) (by simp)
 have hn:0<=n/\n<=20:=by
  simp only[List.mem_cons,List.not_mem_nil,or_false]at hm
  omega
 have h1:=zdN (q:=p+1) h (k:=1) (by omega) (by omega)
 rw[e,aA]
 simp only[jn]
 obtain⟨l,q,e2,l1,l2,r2⟩:=zlL (x0:=r) ((n-0).toNat+1) [] n (r.p+1) (p+1) hn.1 (by omega) (fun x hx=>by simp at hx) h1 (by omega) (by simp;omega)
 exact⟨l,q,e2,l1,l2,⟨r2.1,r2.2.1,by have:=r2.2.2;omega⟩⟩
theorem zmz (h:zb6 r p)(hp:p<=100000): ∃ x q,zfp r=some (x,q)/\Good x/\zb6 ⟨r.b,q⟩ (p+2001):=by
 obtain⟨l,q,e,l1,l2,r2⟩:=znw h hp
 obtain⟨x,hx,e2⟩:=zhC (by omega) l1
 refine⟨x,q,?_,hx,r2⟩
 unfold zfp
 rw[e,aA,e2,aA,zbX hx.rb,aA]
structure Drawn (r:Repo):Prop where
 rb:RpB r
 coms:r.Commits.length<=16
 heads:r.Heads.length<=6
theorem Gd.drawn {r:Repo}(h:Gd True r):Drawn r:=by
 obtain⟨s1,s2⟩:=zab h.ok
 exact⟨h.rb,s1,by omega⟩
theorem zlM {x:Repo}(h:RpB x){i:Nat}{c:Commit}(hc:CB c):RpB ⟨x.Commits.set i c,x.Heads⟩:=
 ⟨by simp;exact h.coms,fun y hy=>by
  rcases List.mem_or_eq_of_mem_set hy with h1 |h1
  ·exact h.com y h1
  ·rw[h1];exact hc,h.heads,h.head⟩
theorem zhY (h:zb6 r p)(hp:p<=100000): ∃ x q,zcT r=some (x,q)/\Drawn x/\zb6 ⟨r.b,q⟩ (p+2010):=by
 obtain⟨x,q,e,hg,r2⟩:=zmz h hp
 obtain⟨s1,s2⟩:=zab hg.ok
 have hd:=hg.drawn
 unfold zcT
 rw[e,aA]
 simp only[jn]
 have rq:zb6 ⟨r.b,q⟩ (p+2010):=⟨r2.1,r2.2.1,by have:=r2.2.2;omega⟩
 cases hc:decide ((0:Int)< (x.Commits.length:Int))with
 |false=>exact⟨x,q,rfl,hd,rq⟩
 |true=>
  have h0:(0:Int)< (x.Commits.length:Int):=by simpa using hc
  obtain⟨k,e3,k0,k1⟩:=zb4 r2 (n:=(x.Commits.length:Int)) (by omega) h0 (by omega)
  have r3:zb6 ⟨r.b,q+1⟩ (p+2002):=zdN (q:=p+2002) r2 (k:=1) (by omega) (by omega)
  obtain⟨z,e4,z0,z1⟩:=zb4 r3 (n:=16) (by omega) (by omega) (by omega)
  have r4:zb6 ⟨r.b,q+1+1⟩ (p+2010):=zdN (q:=p+2010) r3 (k:=1) (by omega) (by omega)
  obtain⟨n,rfl⟩:=Int.eq_ofNat_of_zero_le k0
  have hn:n<x.Commits.length:=by omega
  have hx:x.Commits[n]? =some x.Commits[n]:=aB hn
  have hcb:=hg.rb.cat hx
  simp only at e3 e4
  simp only[aD,e3,e4,aA]
  cases z==0 with
  |true=>
   rw[aD,zad hx,aA,zcu hn,aA]
   exact⟨_,_,rfl,⟨zlM hg.rb ⟨by simp,hcb.who,hcb.tree⟩,by simp;exact s1,hd.heads⟩,r4⟩
  |false=>
  cases z==1 with
  |true=>
   rw[aC,aD,zad hx,aA,zcu hn,aA]
   exact⟨_,_,rfl,⟨zlM hg.rb ⟨hcb.par,by simp,hcb.tree⟩,by simp;exact s1,hd.heads⟩,r4⟩
  |false=>
  cases z==2 with
  |true=>
   have hne:x.Heads≠ []:=hg.hd trivial (fun e=>by rw[e]at hn;simp at hn)
   have hh:x.Heads[0]? =some (x.Heads[0]'(List.length_pos_iff.2 hne)):=aB _
   rw[aC,aC,aD,show gi x.Heads 0=some (x.Heads[0]'(List.length_pos_iff.2 hne)) from zad (i:=0) hh,aA,ap1 hg.rb.heads,aA]
   refine⟨_,_,rfl,⟨⟨hg.rb.coms,hg.rb.com,by simp;omega,fun y hy=>?_⟩,s1,by simp;omega⟩,r4⟩
   rcases List.mem_append.1 hy with h1 |h1
   ·exact hg.rb.head y h1
   ·rw[List.mem_singleton]at h1;rw[h1];exact hg.rb.head _ (List.getElem_mem _)
  |false=>exact⟨x,_,rfl,hd,r4⟩
theorem zon {code:List Byte}(h:code.length<=1048576): ∃ b:List Byte,zcR code=some ⟨b,0⟩/\zb6 ⟨b,0⟩ 0:=by
 obtain⟨b,e,hb⟩:=zmn h
 exact⟨b,e,hb,by show(0:Int)<=0;omega,by show(0:Int)<=0;omega⟩
end
inductive Rc (r:Repo):Nat->Nat->Prop
 |refl (a:Nat):Rc r a a
 |step {a b:Nat} {p:Int}:Rc r a b->p∈zac r b->Rc r a p.toNat
theorem Rc.trans {r:Repo}{a b c:Nat}(h:Rc r a b)(k:Rc r b c):Rc r a c:=by
 induction k with
 |refl=>exact h
 |step _ hp ih=>exact Rc.step ih hp
theorem Rc.head {r:Repo}{a c:Nat}(h:Rc r a c):c=a \/ ∃ p∈zac r a,Rc r p.toNat c:=by
 induction h with
 |refl=>exact .inl rfl
 | @step b p hb hp ih=>
  rcases ih with e |⟨q,hq,hc⟩
  ·subst e
   exact .inr ⟨p,hp,Rc.refl _⟩
  ·exact .inr ⟨q,hq,Rc.step hc hp⟩
theorem Rc.le {r:Repo}(hr:zaa r=true){a c:Nat}(ha:a<r.Commits.length)(h:Rc r a c):c<=a/\c<r.Commits.length:=by
 induction h with
 |refl=>exact⟨Nat.le_refl _,ha⟩
 |step _ hp ih=>
  have:=(zaU hr ih.2).2 _ hp
  omega
def zhZ (l:List Int):Prop:=l.Pairwise (· < ·)
theorem zhZ.ext: ∀ {xs ys:List Int},zhZ xs->zhZ ys->(∀ a,a∈xs↔a∈ys)->xs=ys
 | [],[],_,_,_=>rfl
 | [],y::ys,_,_,h=>by have:=(h y).2 (by simp);simp at this
 |x::xs,[],_,_,h=>by have:=(h x).1 (by simp);simp at this
 |x::xs,y::ys,hx,hy,h=>by
  have hx':=List.pairwise_cons.1 hx
  have hy':=List.pairwise_cons.1 hy
  have e:x=y:=by
   rcases List.mem_cons.1 ((h x).1 (by simp))with e |hm
   ·exact e
   ·rcases List.mem_cons.1 ((h y).2 (by simp))with e |hm2
    ·exact e.symm
    ·have h1:=hx'.1 y hm2
     have h2:=hy'.1 x hm
     omega
  subst e
  rw[zhZ.ext hx'.2 hy'.2 (fun a=>by
   constructor
   ·intro ha
    rcases List.mem_cons.1 ((h a).1 (List.mem_cons_of_mem _ ha))with e2 |e2
    ·have:=hx'.1 a ha;omega
    ·exact e2
   ·intro ha
    rcases List.mem_cons.1 ((h a).2 (List.mem_cons_of_mem _ ha))with e2 |e2
    ·have:=hy'.1 a ha;omega
    ·exact e2)]
theorem ziH {a b:List Int}(h:a.length<=1048576):zfg a b=some (a==b):=by
 have hm:=zal h
 unfold zfg
 simp only[zhQ,jn,zap]
 by_cases hn:a.length=b.length
 ·rw[hn,aO,aK,aC,<- hn]
  rw[zgZ (α:=Int) (r0:=some false) (Z:=some true) (f:=fun m i=>zdB a b (fun _ _=>some true) m false i) hn (fun m i x y hx hy=>by
   simp only[zdB,zan hx,zad hx,zad hy,aD,aA,zae (zar hx) hm,bne]
   cases x==y<;>rfl) (fun m=>by simp only[zdB,zaf,aC]) (by omega)]
  cases a==b<;>rfl
 ·rw[beq_false_of_ne hn,Bool.not_false,aD,beq_false_of_ne (fun e=>hn (by rw[e]))]
section
variable {r:l30Rd}{p:Int}
theorem zoo (h:zb6 r p)(hp:p<=1000000){n:Int}(hn:n<1):zax r n=some (0,r.p+1):=by
 obtain⟨hb,h0,h1⟩:=h
 unfold zax
 have e1:w64 (r.p+1)=r.p+1:=zag (by omega) (by omega)
 simp only[jn,e1]
 rw[aF hn,aD]
 rfl
theorem zjp (h:zb6 r p)(hp:p<=200000){x:Repo}(hx:Drawn x): ∃ a,zfV r x=some (a,r.p+1+1) /\ -1<=a/\a<=16:=by
 have hc:=hx.coms
 unfold zfV
 obtain⟨k,e,k0,k1⟩:=zb4 h (n:=14) (by omega) (by omega) (by omega)
 have h1:=zdN (q:=p+1) h (k:=1) (by omega) (by omega)
 rw[e,aA]
 cases k==0 with
 |true=>
  obtain⟨a,e2,hm⟩:=zjG h1 (by omega) (l:=[(-1),(x.Commits.length:Int)]) (by simp) (by simp)
  simp only[aD,e2,aA]
  refine⟨a,rfl,?_⟩
  simp only[List.mem_cons,List.not_mem_nil,or_false]at hm
  omega
 |false=>
  simp only[aC]
  by_cases h0:0<x.Commits.length
  ·obtain⟨a,e2,a0,a1⟩:=zb4 h1 (n:=(x.Commits.length:Int)) (by omega) (by omega) (by omega)
   rw[e2,aA]
   exact⟨a,rfl,by omega,by omega⟩
  ·rw[zoo h1 (by omega) (by omega),aA]
   exact⟨0,rfl,by omega,by omega⟩
end
theorem zmG {r:Repo}(h:zaa r=true){i:Nat}(hi:i<r.Commits.length){F:List Bool->Option (List Bool)}: ∀ (j k m:Nat) (mk:List Bool),k+j=(zac r i).length->j<m->mk.length=r.Commits.length->
 zbn F (r.Commits.getD i noCommit) m (k:Int) mk=F (((zac r i).drop k).foldl zjN mk)
 |j,k,0,mk,_,hm,_=>by omega
 |0,k,m+1,mk,hk,_,hl=>by
  obtain rfl:k=(zac r i).length:=by omega
  have e:(r.Commits.getD i noCommit).Parents=zac r i:=rfl
  simp only[zbn,e,zaf,aC,List.drop_length,List.foldl_nil]
 |j+1,k,m+1,mk,hk,hm,hl=>by
  have hlt:k< (zac r i).length:=by omega
  have hx:(zac r i)[k]? =some (zac r i)[k]:=aB hlt
  obtain⟨hs,hp⟩:=zaU h hi
  obtain⟨p0,p1⟩:=hp _ (List.getElem_mem hlt)
  have e:(r.Commits.getD i noCommit).Parents=zac r i:=rfl
  have hn:(((zac r i)[k].toNat:Nat):Int)=(zac r i)[k]:=by omega
  have hg:gi mk (zac r i)[k]=some (mk.getD (zac r i)[k].toNat false):=by
   rw[<- hn]
   exact zcA (by omega)
  have hsi:siM mk (zac r i)[k] true=some (zjN mk (zac r i)[k]):=by
   have:=zcu (xs:=mk) (i:=(zac r i)[k].toNat) (by omega) true
   rw[hn]at this
   exact this
  simp only[zbn,e,zan hx,aD,zad hx,hg,hsi,aA]
  rw[zae hlt (by unfold maxi;omega),zmG h hi j (k+1) m _ (by omega) (by omega) (by rw[zgo];exact hl),aI hlt,List.foldl_cons]
theorem zmH {r:Repo}(h:zaa r=true): ∀ (i m:Nat) (mk:List Bool),i<=r.Commits.length->i<m->mk.length=r.Commits.length->
 za1 r (fun _ y=>some y) m ((i:Int)-1) mk=some (zd2 r i mk)
 |i,0,mk,_,hm,_=>by omega
 |0,m+1,mk,_,_,_=>by
  simp only[za1]
  rw[aE (by omega)]
  rfl
 |i+1,m+1,mk,hi,hm,hl=>by
  have hs:=(zab h).1
  have hil:i<r.Commits.length:=by omega
  have e:(((i+1:Nat):Int))-1=(i:Int):=by omega
  have e0:(r.Commits.getD i noCommit).Parents=zac r i:=rfl
  have hstep:(((i:Int)-1))=(i:Int)-1:=rfl
  simp only[za1,jn,e]
  rw[aF (by omega),aD,zcA (by omega),aA]
  have ih:=zmH h i m (ziX r i mk) (by omega) (by omega) (by rw[zeU];exact hl)
  unfold zd2
  rw[<- ih]
  unfold ziX
  have hw:w64 ((i:Int)-1)=(i:Int)-1:=zcq (show i<=maxi by unfold maxi;omega)
  cases mk.getD i false with
  |false=>simp only[aC,hw]
  |true=>
   have h2:=zmG h hil (F:=fun y27=>za1 r (fun _ y=>some y) m (w64 ((i:Int)-1)) y27) (zac r i).length 0 ((zac r i).length+1) mk (by omega) (by omega) hl
   simp only[aD,zhR hil,aA,e0,zap]
   refine h2.trans ?_
   rw[List.drop_zero,hw]
theorem zd8 {r:Repo}(h:zaa r=true){a:Int}(h0:0<=a)(h1:a<=(r.Commits.length:Int)-1):zbE r a=some (zaT r a.toNat):=by
 have hs:=(zab h).1
 obtain⟨n,rfl⟩:=Int.eq_ofNat_of_zero_le h0
 have hn:n<r.Commits.length:=by omega
 have hl:(List.replicate r.Commits.length false).length=r.Commits.length:=by simp
 unfold zbE zaT
 rw[zjy (by simp[lim];omega),aA,zcA (by rw[hl];exact hn),aA,zcu (by rw[hl];exact hn),aA]
 simp only[jn]
 have e:=zmH h (n+1) (((n:Int)+1-0).toNat+1) ((List.replicate r.Commits.length false).set n true) (by omega) (by omega) (by simp)
 rw[show(((n+1:Nat):Int))-1=(n:Int) by omega]at e
 refine e.trans ?_
 rw[Int.toNat_natCast]
theorem ziI {mk:List Bool}(hl:mk.length<=1000): ∀ (k i m:Nat) (out:List Int),i+k=mk.length->k<m->out.length<=i->
 zej mk (fun y69 _=>some y69) m out (i:Int)=some (out++((List.range' i k).filter fun i=>mk.getD i false).map Int.ofNat)
 |k,i,0,out,_,hm,_=>by omega
 |0,i,m+1,out,hi,_,_=>by
  obtain rfl:i=mk.length:=by omega
  simp only[zej,zaf,aC]
  simp
 |k+1,i,m+1,out,hi,hm,ho=>by
  have hlt:i<mk.length:=by omega
  have hx:mk[i]? =some mk[i]:=aB hlt
  simp only[zej,jn,zan hx,aD,zcA hlt,aA,zae hlt (show mk.length<=maxi by unfold maxi;omega),ap1 (x:=(i:Int)) (show out.length<=1048576 by omega)]
  rw[List.range'_succ,List.filter_cons]
  cases hb:mk.getD i false with
  |true=>
   rw[aD,ziI hl k (i+1) m _ (by omega) (by omega) (by simp;omega),if_pos rfl]
   simp
  |false=>
   rw[aC,ziI hl k (i+1) m _ (by omega) (by omega) (by omega),if_neg (by simp)]
theorem zh3 {mk:List Bool}(hl:mk.length<=1000):zc3 mk=some (zju mk):=by
 unfold zc3 zju
 simp only[jn,zap]
 rw[show(0:Int)=((0:Nat):Int) from rfl,ziI hl mk.length 0 (mk.length+1) [] (by omega) (by omega) (by simp),List.range_eq_range']
 rfl
def zkj (r:Repo)(a:Int):List Int:=bif zaa r&&upB r.Commits.length a then zaJ r a else []
theorem znp {r:Repo}(h:RpB r)(a:Int):zkf r a=some (zkj r a):=by
 unfold zkf zkj
 rw[zmV h (by simp),aA]
 simp only[List.all_cons,List.all_nil,Bool.and_true]
 cases hr:zaa r&&upB r.Commits.length a with
 |false=>rfl
 |true=>
  simp only[aG]at hr
  obtain⟨a0,a1⟩:=zau.1 hr.2
  have hs:=(zab hr.1).1
  rw[aK,aC,aD,zd8 hr.1 a0 a1,aA,zh3 (by rw[zaV];omega),aA]
  rfl
theorem TB.of {t:List File}(hf:Bk.fit t)(h:Bk.bulk t<=1048576):TB t:=⟨zcE h,fun f hm=>by
 have h1:Bk.bulk f<=1048576:=zgq h hm
 have h2:Bk.bulk f=f.Path.length+Bk.bulk f.Text:=rfl
 exact⟨by omega,zcE (show Bk.bulk f.Text<=1048576 by omega),(hf.2 f hm).2⟩⟩
theorem RpB.of {r:Repo}(hf:Bk.fit r)(h:Bk.bulk r<=1048576):RpB r:=by
 have h0:Bk.bulk r=Bk.bulk r.Commits+Bk.bulk r.Heads:=rfl
 have hc:Bk.bulk r.Commits<=1048576:=by omega
 have hh:Bk.bulk r.Heads<=1048576:=by omega
 refine⟨zcE hc,fun c hm=>?_,zcE hh,fun x hm=>?_⟩
 ·have h1:Bk.bulk c<=1048576:=zgq hc hm
  have h2:Bk.bulk c=Bk.bulk c.Parents+(c.Who.length+Bk.bulk c.Tree):=rfl
  exact⟨zcE (show Bk.bulk c.Parents<=1048576 by omega),by omega,TB.of (hf.1.2 c hm).2.2 (by omega)⟩
 ·have h1:Bk.bulk x<=1048576:=zgq hh hm
  have h2:Bk.bulk x=x.Name.length+0:=rfl
  omega
def zl1 (p:Int):Prop:= -9223372036854775808<=p/\p<=9223372036854775807
section
variable {r:Repo}{has:List Int}{sent:List Commit}
end
theorem zqg {xs:List Int}(hn:xs.length<=1000): ∀ (m i:Nat) (ys:List Int),ys.length=xs.length->(∀ k,k<xs.length->ys[k]? =if k<i\/xs.length-1-i<k then xs[xs.length-1-k]? else xs[k]?)->2*i<=xs.length+1->i<=xs.length->1<=m->xs.length<=m+i->
 zeX (fun _ _ y=>some y) m (i:Int) ((xs.length:Int)-1-i) ys=some xs.reverse
 |0,i,ys,_,_,_,_,h1,_=>by omega
 |m+1,i,ys,hl,hy,h2,hin,_,hm=>by
  simp only[zeX]
  by_cases hc:(i:Int)< (xs.length:Int)-1-i
  ·have hj:((xs.length-1-i:Nat):Int)=(xs.length:Int)-1-i:=by omega
   have hil:i<ys.length:=by omega
   have hjl:xs.length-1-i<ys.length:=by omega
   have e1:gi ys (i:Int)=some ys[i]:=zad (aB hil)
   have e2:gi ys ((xs.length:Int)-1-i)=some ys[xs.length-1-i]:=by rw[<- hj];exact zad (aB hjl)
   have e3:siM ys (i:Int) ys[xs.length-1-i]=some (ys.set i ys[xs.length-1-i]):=zcu hil _
   have e4:siM (ys.set i ys[xs.length-1-i]) ((xs.length:Int)-1-i) ys[i]=some ((ys.set i ys[xs.length-1-i]).set (xs.length-1-i) ys[i]):=by
    rw[<- hj];exact zcu (by rw[List.length_set];exact hjl) _
   have hw1:w64 ((i:Int)+1)=((i+1:Nat):Int):=zae (show i<1000 by omega) (by unfold maxi;omega)
   have hw2:w64 ((xs.length:Int)-1-i-1)=(xs.length:Int)-1-((i+1:Nat):Int):=by rw[zag (by omega) (by omega)];omega
   rw[aF hc,aD]
   simp only[e1,e2,e3,e4,aA,hw1,hw2]
   refine zqg hn m (i+1) _ (by simp[hl]) (fun k hk=>?_) (by omega) (by omega) (by omega) (by omega)
   have yi:ys[i]? =xs[i]? :=by rw[hy i (by omega),if_neg (by omega)]
   have yj:ys[xs.length-1-i]? =xs[xs.length-1-i]? :=by rw[hy _ (by omega),if_neg (by omega)]
   by_cases k1:k=xs.length-1-i
   ·subst k1
    rw[List.getElem?_set_self (by rw[List.length_set];exact hjl),if_pos (by omega),<- aB hil,yi,show xs.length-1-(xs.length-1-i)=i by omega]
   ·rw[List.getElem?_set_ne (Ne.symm k1)]
    by_cases k2:k=i
    ·subst k2
     rw[List.getElem?_set_self hil,if_pos (by omega),<- aB hjl,yj]
    ·rw[List.getElem?_set_ne (Ne.symm k2),hy k hk]
     by_cases k3:k<i\/xs.length-1-i<k
     ·rw[if_pos k3,if_pos (by omega)]
     ·rw[if_neg k3,if_neg (by omega)]
  ·rw[aE hc,aC]
   congr 1
   apply List.ext_getElem?
   intro k
   by_cases hk:k<xs.length
   ·rw[hy k hk,List.getElem?_reverse hk]
    split
    ·rfl
    ·rw[show xs.length-1-k=k by omega]
   ·rw[List.getElem?_eq_none (by omega),List.getElem?_eq_none (by rw[List.length_reverse];omega)]
theorem zpB {xs:List Int}(hn:xs.length<=1000):zeH xs=some xs.reverse:=by
 unfold zeH
 simp only[jn]
 have hw:w64 ((xs.length:Int)-1)=(xs.length:Int)-1:=zcq (by unfold maxi;omega)
 rw[hw]
 have:=zqg hn (((xs.length:Int)-1-0).toNat+1) 0 xs rfl (fun k hk=>by rw[if_neg (by omega)]) (by omega) (by omega) (by omega) (by omega)
 rw[show(xs.length:Int)-1-((0:Nat):Int)=(xs.length:Int)-1 by omega]at this
 exact this
def byW (r:Repo)(w:Str)(x:Int):Bool:=(r.Commits.getD x.toNat noCommit).Who==w
def zu2 (r:Repo)(a:Int)(w:Str):List Int:=((zaJ r a).filter (byW r w)).reverse
def zlh (r:Repo)(a:Int)(w:Str):List Int:=bif zaa r&&upB r.Commits.length a then zu2 r a w else []
theorem zrg (r:Repo)(a:Int)(w:Str):(zu2 r a w).length<=r.Commits.length:=by
 unfold zu2
 rw[List.length_reverse]
 exact Nat.le_trans (List.length_filter_le _ _) (zbf r a)
theorem zpC {r:Repo}(h:RpB r)(a:Int)(w:Str):zlX r a w=some (zlh r a w):=by
 unfold zlX ze2 zlh
 rw[zmV h (by simp),aA]
 simp only[List.all_cons,List.all_nil,Bool.and_true,jn]
 cases hr:zaa r&&upB r.Commits.length a with
 |false=>rfl
 |true=>
  simp only[aG]at hr
  obtain⟨a0,a1⟩:=zau.1 hr.2
  have hs:=(zab hr.1).1
  have hal:=zbf r a
  rw[aK,aC,aD,zd8 hr.1 a0 a1,aA,zh3 (by rw[zaV];omega),aA,zap]
  rw[show zju (zaT r a.toNat)=zaJ r a from rfl]
  rw[zbr (xs:=zaJ r a) (p:=byW r w) (g:=fun x:Int=>x) (Z:=fun acc=>(zeH acc).bind fun z104=>some z104) (f:=fun m acc i=>zbS r w (zaJ r a) _ m acc i) (fun m i x acc hx ha=>by
   have hxm:=zbk (aH hx)
   have hi:=zar hx
   simp only[zbS,zlw,jn,zan hx,zad hx,aD,aA,za3 hxm.1 hxm.2,zae (zar hx) (show(zaJ r a).length<=maxi by unfold maxi;omega),ap1 (show acc.length<=1048576 by omega)]
   unfold byW
   cases(r.Commits.getD x.toNat noCommit).Who==w<;>rfl) (fun m acc=>by simp only[zbS,zaf,aC]) (by omega)]
  rw[List.map_id',zpB (Nat.le_trans (List.length_filter_le _ _) (by omega))]
  rfl
theorem zlq {zs:List Int}{p:Int->Bool}{i:Nat}(h:i<zs.length):((zs.take (i+1)).filter p).reverse=(bif p zs[i] then [zs[i]] else [])++((zs.take i).filter p).reverse:=by
 rw[List.take_add_one,aB h,Option.toList_some,List.filter_append,List.reverse_append]
 cases hp:p zs[i]<;>simp[hp]
theorem zm0 {r:Repo}(hr:zaa r=true){a:Int}{w:Str}: ∀ (i m:Nat) (acc:List Int),i<=(zaJ r a).length->i<m->acc.length+i<=1000->
 zis r w (zaJ r a) (fun y _=>some y) m acc ((i:Int)-1)=some (acc++(((zaJ r a).take i).filter (byW r w)).reverse)
 |i,0,acc,_,hm,_=>by omega
 |0,m+1,acc,_,_,_=>by
  simp only[zis,jn]
  rw[aE (by omega),aC]
  simp
 |i+1,m+1,acc,hi,hm,ha=>by
  have hlt:i< (zaJ r a).length:=by omega
  have hx:(zaJ r a)[i]? =some (zaJ r a)[i]:=aB hlt
  have hxm:=zbk (List.getElem_mem hlt)
  have e:(((i+1:Nat):Int))-1=(i:Int):=by omega
  simp only[zis,jn,e]
  rw[aF (by omega),aD,zcq (show i<=maxi by unfold maxi;omega)]
  simp only[zad hx,aA,za3 hxm.1 hxm.2,ap1 (show acc.length<=1048576 by omega)]
  rw[zlq hlt]
  have hw:((r.Commits.getD (zaJ r a)[i].toNat noCommit).Who==w)=byW r w (zaJ r a)[i]:=rfl
  rw[hw]
  cases byW r w (zaJ r a)[i]with
  |false=>rw[aC,aC,zm0 hr i m acc (by omega) (by omega) (by omega)];rfl
  |true=>rw[aD,aD,zm0 hr i m _ (by omega) (by omega) (by simp;omega),List.append_assoc]
theorem zpD {r:Repo}(h:RpB r)(a:Int)(w:Str):zln r a w=some (zlh r a w):=by
 unfold zln zlh
 simp only[jn,zbT h,zcC,zcq (zal h.coms),aA]
 rw[show(decide ((0:Int)<=a)&&decide (a<=(r.Commits.length:Int)-1))=upB r.Commits.length a from rfl]
 cases hr:zaa r with
 |false=>rfl
 |true=>
  cases ha:upB r.Commits.length a with
  |false=>rfl
  |true=>
   obtain⟨a0,a1⟩:=zau.1 ha
   have hs:=(zab hr).1
   have hal:=zbf r a
   simp only[aK,aC,Bool.and_true,aD,zc0 hr a0 a1,aA]
   rw[zcq (show(zaJ r a).length<=maxi by unfold maxi;omega)]
   have:=zm0 hr (w:=w) (zaJ r a).length ((((zaJ r a).length:Int)-1+1-0).toNat+1) [] (Nat.le_refl _) (by omega) (by simp;omega)
   rw[this,List.take_length]
   rfl
theorem zob {code:List Byte}(h:code.length<=1048576): ∃ x a w,zji code=some (x,a,w)/\Drawn x /\ -1<=a/\a<=16:=by
 unfold zji
 obtain⟨b,e,hr⟩:=zon h
 obtain⟨x,q,e2,hx,r2⟩:=zhY hr (by omega)
 obtain⟨a,e3,a0,a1⟩:=zjp r2 (by omega) hx
 have r3:zb6 ⟨b,q+1+1⟩ (0+2010+2):=zdN (r:=⟨b,q+1⟩) (zdN (r:=⟨b,q⟩) (q:=0+2010+1) r2 (by omega) (by omega)) (by omega) (by omega)
 obtain⟨w,e4,_⟩:=ziR r3 (by omega) (l:=([([97,110,110]:Str),([98,111,98]:Str),([110,111,98,111,100,121]:Str)]:List Str)) (by simp) (by simp)
 simp only[e,aA,e2,show(⟨x.Commits,x.Heads⟩:Repo)=x from rfl,e3,e4]
 exact⟨x,a,w,rfl,hx,a0,a1⟩
theorem zm1 {x:Repo}(hr:zaa x=true){a:Int}{w:Str}{L:List Int}(hL:L.length<=1000): ∀ (i m n:Nat),i<=(zaJ x a).length->i<m->L.drop n=(((zaJ x a).take i).filter (byW x w)).reverse->n<=L.length->
 zhH (x,a,w) L (zaJ x a) (fun _ y58 _=>some ((y58:Int)==(L.length:Int))) m false (n:Int) ((i:Int)-1)=some true
 |i,0,n,_,hm,_,_=>by omega
 |0,m+1,n,_,_,hd,hn=>by
  simp only[zhH,jn]
  rw[aE (by omega),aC]
  have:L.drop n=[]:=by rw[hd];simp
  rw[List.drop_eq_nil_iff]at this
  have e:n=L.length:=by omega
  rw[e]
  simp
 |i+1,m+1,n,hi,hm,hd,hn=>by
  have hlt:i< (zaJ x a).length:=by omega
  have hx:(zaJ x a)[i]? =some (zaJ x a)[i]:=aB hlt
  have hxm:=zbk (List.getElem_mem hlt)
  have hal:=zbf x a
  have hs:=(zab hr).1
  have e:(((i+1:Nat):Int))-1=(i:Int):=by omega
  simp only[zhH,jn,e]
  rw[aF (by omega),aD,zcq (show i<=maxi by unfold maxi;omega)]
  simp only[zad hx,aA,za3 hxm.1 hxm.2]
  rw[zlq hlt]at hd
  have hw:((x.Commits.getD (zaJ x a)[i].toNat noCommit).Who==w)=byW x w (zaJ x a)[i]:=rfl
  rw[hw]
  cases hb:byW x w (zaJ x a)[i]with
  |false=>
   rw[hb,aC,List.nil_append]at hd
   rw[aC]
   exact zm1 hr hL i m n (by omega) (by omega) hd hn
  |true=>
   rw[hb,aD,List.singleton_append]at hd
   have hnl:n<L.length:=by
    rcases Nat.lt_or_ge n L.length with h1 |h1
    ·exact h1
    ·rw[List.drop_eq_nil_of_le h1]at hd;cases hd
   rw[aI hnl]at hd
   have h1:=(List.cons.inj hd).1
   have h2:=(List.cons.inj hd).2
   rw[aD,aE (by omega),aC,zad (aB hnl),aA,h1,bne_self_eq_false,aC,zae hnl (show L.length<=maxi by unfold maxi;omega)]
   exact zm1 hr hL i m (n+1) (by omega) (by omega) h2 hnl
theorem zqh {code:List Byte}(h:Bk.fit code):zlo code=some true:=by
 unfold zlo
 by_cases hc:(1048576:Int)< (code.length:Int)
 ·rw[aF hc];rfl
 obtain⟨x,a,w,e,hx,a0,a1⟩:=zob (code:=code) (by omega)
 have hb:=hx.rb
 have hcm:=hx.coms
 rw[aE hc,aC,e,aA,show(⟨(x,a,w).1.Commits,(x,a,w).1.Heads⟩:Repo)=x from rfl]
 have hlen:(zlh x a w).length<=16:=by
  unfold zlh
  cases zaa x&&upB x.Commits.length a with
  |false=>simp
  |true=>exact Nat.le_trans (zrg _ _ _) hcm
 simp only[zpD hb,zpC hb,zb7 hb,aA,jn,ziH (show(zlh x a w).length<=1048576 by omega),aO,aK,aC]
 cases hr:zaa x with
 |false=>rfl
 |true=>
  simp only[aK,aC]
  by_cases h1:a<0
  ·rw[aF h1];rfl
  rw[aE h1,aC]
  by_cases h3:(x.Commits.length:Int)<=a
  ·rw[aF h3];rfl
  rw[aE h3,aC,znp hb,aA]
  have ua:upB x.Commits.length a=true:=zau.2 (by omega)
  have eN:zlh x a w=zu2 x a w:=by unfold zlh;rw[hr,ua];rfl
  have eA:zkj x a=zaJ x a:=by unfold zkj;rw[hr,ua];rfl
  have hal:=zbf x a
  rw[eN]at hlen ⊢
  rw[eA,zcq (show(zaJ x a).length<=maxi by unfold maxi;omega)]
  exact zm1 hr (by omega) (zaJ x a).length _ 0 (Nat.le_refl _) (by omega) (by rw[List.drop_zero,List.take_length];rfl) (by omega)
section
variable {r:l30Rd}{p:Int}
end
set_option linter.unusedSectionVars false
structure SentB (sent:List Commit):Prop where
 len:sent.length<=16
 cb: ∀ c∈sent,CB c
 fit: ∀ c∈sent,∀ p∈c.Parents,zl1 p
theorem SentB.take {sent:List Commit}(h:SentB sent)(k:Nat):SentB (sent.take k):=
 ⟨Nat.le_trans (List.length_take_le' k sent) h.len,fun c hc=>h.cb c (List.mem_of_mem_take hc),fun c hc=>h.fit c (List.mem_of_mem_take hc)⟩
theorem SentB.set {sent:List Commit}(h:SentB sent){c:Commit}(hc:CB c)(hf: ∀ p∈c.Parents,zl1 p)(k:Nat):SentB (sent.set k c):=
 ⟨by rw[List.length_set];exact h.len,fun d hd=>by
  rcases List.mem_or_eq_of_mem_set hd with q |q
  ·exact h.cb d q
  ·rw[q];exact hc,fun d hd=>by
  rcases List.mem_or_eq_of_mem_set hd with q |q
  ·exact h.fit d q
  ·rw[q];exact hf⟩
section
variable {x:Repo}(hr:zaa x=true){a b:Int}(ha:upB x.Commits.length a=true)(hb:upB x.Commits.length b=true)
include hr ha
include hb
end
theorem zc2 {α:Type}{f:α->Nat}{c:Nat}: ∀ {t:List α},(∀ s∈t,f s<=c)->zc6 f t<=c*t.length
 | [],_=>by simp[zc6]
 |x::t,h=>by
  have h1:=h x (by simp)
  have h2:=zc2 (t:=t) (fun s hs=>h s (by simp[hs]))
  simp only[zc6,aL,Nat.mul_add,Nat.mul_one]
  omega
theorem zlc {t:List Str}(h:zao t=true):Bk.bulk t<=130:=by
 have hl:=zav h
 have hs:zc6 Bk.bulk t<=12*t.length:=zc2 fun s hs=>by
  have:=zg0 (zaO h s hs)
  show s.length<=12
  omega
 show t.length+zc6 Bk.bulk t<=130
 omega
theorem zld {t:List File}(h:zaq t=true):Bk.bulk t<=1208:=by
 have hl:=zam h
 have hs:zc6 Bk.bulk t<=150*t.length:=zc2 fun f hf=>by
  have h1:=zcB (zb3 h hf)
  have h2:=zlc (zak h f hf)
  show f.Path.length+Bk.bulk f.Text<=150
  omega
 show t.length+zc6 Bk.bulk t<=1208
 omega
theorem zlQ {r:Repo}(h:zaa r=true){c:Commit}(hc:c∈r.Commits):c.Parents.length<=2/\(∀ p∈c.Parents,0<=p/\p<=16)/\zay c.Who=true/\zaq c.Tree=true:=by
 obtain⟨i,hi⟩:=List.mem_iff_getElem?.1 hc
 have hil:=zar hi
 have s1:=(zab h).1
 have:=zfw h (i:=i) (by omega)
 rw[zdq hi]at this
 unfold zjz at this
 simp only[aG,decide_eq_true_eq,List.all_eq_true]at this
 refine⟨by omega,fun p hp=>?_,this.2.2.2.1,this.2.2.2.2⟩
 have h1:=this.1 p hp
 unfold upB at h1
 simp only[aG,decide_eq_true_eq]at h1
 omega
theorem zle {r:Repo}(h:zaa r=true):Bk.bulk r<=20000:=by
 obtain⟨s1,s2⟩:=zab h
 have h1:zc6 Bk.bulk r.Commits<=1218*r.Commits.length:=zc2 fun c hc=>by
  obtain⟨c1,_,c3,c4⟩:=zlQ h hc
  have:=zbj c3
  have:=zld c4
  have hp:zc6 Bk.bulk c.Parents<=0*c.Parents.length:=zc2 fun p hp=>Nat.le_refl 0
  show c.Parents.length+zc6 Bk.bulk c.Parents+(c.Who.length+Bk.bulk c.Tree)<=1218
  omega
 have h2:zc6 Bk.bulk r.Heads<=6*r.Heads.length:=zc2 fun x hx=>by
  have:=zbj (zfJ h hx).2.2
  show x.Name.length+0<=6
  omega
 show r.Commits.length+zc6 Bk.bulk r.Commits+(r.Heads.length+zc6 Bk.bulk r.Heads)<=20000
 omega
theorem zlf {t:List File}(h:zaq t=true):Bk.fit t:=⟨by have:=zam h;unfold maxi;omega,fun f hf=>⟨by have:=zcB (zb3 h hf);show f.Path.length<=maxi;unfold maxi;omega,by
 have h1:=zak h f hf
 have h2:=zav h1
 exact zcr (by omega) (zaO h1)⟩⟩
theorem zlg {r:Repo}(h:zaa r=true):Bk.fit r:=by
 obtain⟨s1,s2⟩:=zab h
 refine⟨⟨by unfold maxi;omega,fun c hc=>?_⟩,by unfold maxi;omega,fun x hx=>?_⟩
 ·obtain⟨c1,c2,c3,c4⟩:=zlQ h hc
  refine⟨⟨by unfold maxi;omega,fun p hp=>?_⟩,by have:=zbj c3;show c.Who.length<=maxi;unfold maxi;omega,zlf c4⟩
  have:=c2 p hp
  show -9223372036854775808<=p/\p<=9223372036854775807
  omega
 ·obtain⟨h1,h2,h3⟩:=zfJ h hx
  refine⟨by have:=zbj h3;show x.Name.length<=maxi;unfold maxi;omega,?_⟩
  show -9223372036854775808<=x.At/\x.At<=9223372036854775807
  omega
theorem zhZ.lt {l:List Int}(h:zhZ l){i k:Nat}(hik:i<k)(hk:k<l.length):l.getD i 0<l.getD k 0:=by
 have h1:i<l.length:=by omega
 have:=List.pairwise_iff_getElem.1 h i k h1 hk hik
 rw[zbP (aB h1),zbP (aB hk)]
 exact this
theorem zhZ.inj {l:List Int}(h:zhZ l){i k:Nat}(hi:i<l.length)(hk:k<l.length)(e:l.getD i 0=l.getD k 0):i=k:=by
 rcases Nat.lt_trichotomy i k with h1 |h1 |h1
 ·have:=h.lt h1 hk;omega
 ·exact h1
 ·have:=h.lt h1 hi;omega
section
variable {r:Repo}(h:RpB r)(hr:zaa r=true)
include h hr
end
def znK (r:Repo)(n:Str)(x:Repo):Prop:=x=r\/x=zbv\/zaa x=true
theorem znK.bulk {r x:Repo}{n:Str}(h:znK r n x):Bk.bulk x<=Bk.bulk r+20000:=by
 rcases h with h |h |h
 ·rw[h];omega
 ·rw[h];show 0+0+(0+0)<=_;omega
 ·have:=zle h;omega
theorem znK.fit {r x:Repo}{n:Str}(hf:Bk.fit r)(h:znK r n x):Bk.fit x:=by
 rcases h with h |h |h
 ·rw[h];exact hf
 ·rw[h];exact⟨⟨by simp[zbv,maxi],by simp[zbv]⟩,by simp[zbv,maxi],by simp[zbv]⟩
 ·exact zlg h
def ChH:Int->List Hunk->Prop
 |_,[]=>True
 |lo,d::l=>lo<=d.At/\ChH (d.At+d.Less.length+1) l
theorem ChH.mono: ∀ {l:List Hunk} {lo lo':Int},lo'<=lo->ChH lo l->ChH lo' l
 | [],_,_,_,_=>trivial
 |d::l,_,_,h,⟨h1,h2⟩=>⟨Int.le_trans h h1,h2⟩
def zkO:List Str->List Str->Nat
 |a::l,b::m=>bif a==b then zkO l m+1 else 0
 |_,_=>0
def zp1 (t:List Str):List Str->Nat->Nat×Nat->Nat×Nat
 | [],_,r=>r
 |b::bs,i,r=>zp1 t bs (i+1) (bif decide (r.2<zkO (b::bs) t) then(i,zkO (b::bs) t) else r)
def zm9 (base t:List Str):Nat×Nat:=zp1 t base 0 (0,0)
def znJ (out:List Delta)(x:Str):List Delta:=match out.getLast? with
 |some d=>bif decide (0<d.Lines.length) then out.dropLast++[⟨d.From,d.Many,d.Lines++[x]⟩] else out++[⟨0,0,[x]⟩]
 |none=>out++[⟨0,0,[x]⟩]
def zit (base:List Str):Nat->List Delta->List Str->List Delta
 |0,out,_=>out
 |_+1,out,[]=>out
 |n+1,out,x::t=>bif decide (0< (zm9 base (x::t)).2) then zit base n (out++[⟨(zm9 base (x::t)).1,(zm9 base (x::t)).2,[]⟩]) ((x::t).drop (zm9 base (x::t)).2) else zit base n (znJ out x) t
def zko (base t:List Str):List Delta:=zit base t.length [] t
def OD (n:Nat)(l:List Owner):Prop:=l.length<=n /\ ∀ o∈l,o.Path.length<=10/\o.Who.length<=10
theorem OD.fit {n:Nat}{l:List Owner}(h:OD n l)(hn:n<=1000):Bk.fit l:=⟨by have:=h.1;unfold maxi;omega,fun o ho=>by
 have:=h.2 o ho
 exact⟨by show o.Path.length<=maxi;unfold maxi;omega,by show o.Who.length<=maxi;unfold maxi;omega⟩⟩
section
variable {base t:List Str}(hb:zao base=true)(ht:zao t=true)
include hb ht
end
def zoU (list:List (List Str))(ds:List Int)(i:Nat)(t:List Str)(b dep:Int)(d:List Delta):Prop:=(b = -1/\d=zko [] t/\dep=1) \/ ∃ k o dk,k<i/\b=(k:Int)/\list[k]? =some o/\ds[k]? =some dk/\d=zko o t/\dep=dk+1/\dk<=2
theorem zoU.snoc {list:List (List Str)}{ds:List Int}{i:Nat}{t:List Str}{b dep z:Int}{d:List Delta}(h:zoU list ds i t b dep d):zoU list (ds++[z]) i t b dep d:=by
 rcases h with h |⟨k,o,dk,h1,h2,h3,h4,h5⟩
 ·exact .inl h
 ·exact .inr ⟨k,o,dk,h1,h2,h3,by rw[aM (List.getElem?_eq_some_iff.1 h4).1];exact h4,h5⟩
section
variable {list:List (List Str)}(h12:list.length<=12)(hl: ∀ t∈list,zao t=true)
include h12 hl
end
end Go.Vm
