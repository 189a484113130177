/- Plain law FnBlameLog, and what it uses: what the models answer. Conditions: each law's own premises. -/
import Derived.Test.YtpijdodljeieaaaGreatDoorAM0
import Derived.Test.YtpijdodljeieaaaGreatDoorAM1
import Derived.Test.YtpijdodljeieaaaGreatDoorAM2
import Derived.Test.YtpijdodljeieaaaGreatDoorAM4
import Derived.Test.YtpijdodljeieaaaGreatDoorAM8
import Derived.Test.YtpijdodljeieaaaGreatDoorAM13
import Derived.Test.YtpijdodljeieaaaGreatDoorALw
import Derived.Sort.Walk0
import Derived.Lib.SplitLaws
import Derived.Test.YtpijdodljeieaaaGreatDoorAX
import Derived.Lib.Join
namespace Go.Vm
open Go Go.Sx
set_option linter.unusedSimpArgs false
set_option linter.unusedVariables false
def chB (c:UInt8):Bool:= !(decide ((c.toNat:Int)<32)||decide (126< (c.toNat:Int)))
def zbD (s:Str):Bool:= !decide (12< (s.length:Int))&&s.all chB
def zaq (xs:List Str):Bool:= !decide (10< (xs.length:Int))&&xs.all zbD
theorem zjz (a b:Int):decide (a<=b) = !decide (b<a):=by
 by_cases h:a<=b
 ·rw[aF h,aE (by omega)];rfl
 ·rw[aE h,aF (by omega)];rfl
theorem zjA {s:Str}(h:s.length<=maxi):zfZ s=some (zbD s):=by
 unfold zfZ zbD
 simp only[jn,zap]
 cases decide ((12:Int)< (s.length:Int))
 case true=>rfl
 rw[aC,zau (α:=UInt8) (xs:=s) (p:=chB) (r0:=some false) (Z:=some true) (f:=fun m i=>zb4 s (fun _ _=>some true) m false i) (fun m i x hx=>by
  simp only[zb4,jn,zam hx,zf2 hx,aD,aA,zac (zat hx) h,chB]
  cases decide ((x.toNat:Int)<32)<;>cases decide (126< (x.toNat:Int))<;>rfl) (fun m=>by simp only[zb4,zag,aC]) (by omega)]
 cases s.all chB<;>rfl
theorem zjB {s:Str}(h:s.length<=maxi):zfV s=some (zbD s):=by
 unfold zfV zbD
 simp only[jn,zap,zjz]
 rw[zau (α:=UInt8) (xs:=s) (p:=chB) (r0:=some false) (Z:=some (!decide (12< (s.length:Int)))) (f:=fun m i=>zbW s (fun _ _=>some (!decide (12< (s.length:Int)))) m false i) (fun m i x hx=>by
  simp only[zbW,jn,zam hx,zf2 hx,aD,aA,zac (zat hx) h,chB]
  cases decide ((x.toNat:Int)<32)<;>cases decide (126< (x.toNat:Int))<;>rfl) (fun m=>by simp only[zbW,zag,aC]) (by omega)]
 cases s.all chB<;>cases decide (12< (s.length:Int))<;>rfl
theorem zic {xs:List Str}(h:Bk.fit xs):zfc xs=some (zaq xs):=by
 have hl:=zjt h
 unfold zfc zaq
 simp only[jn,zap]
 cases decide ((10:Int)< (xs.length:Int))
 case true=>rfl
 rw[aC,zau (α:=Str) (xs:=xs) (p:=zbD) (r0:=some false) (Z:=some true) (f:=fun m i=>zb5 xs (fun _ _=>some true) m false i) (fun m i x hx=>by
  have hx2:x.length<=maxi:=zk3 h hx
  simp only[zb5,zam hx,zad hx,aD,aA,zac (zat hx) hl,zjA hx2]
  cases zbD x<;>rfl) (fun m=>by simp only[zb5,zag,aC]) (by omega)]
 cases xs.all zbD<;>rfl
theorem zhM {xs:List Str}(h:Bk.fit xs):zcJ xs=some (zaq xs):=by
 have hl:=zjt h
 unfold zcJ zaq
 simp only[jn,zap,zjz]
 rw[zau (α:=Str) (xs:=xs) (p:=zbD) (r0:=some false) (Z:=some (!decide (10< (xs.length:Int)))) (f:=fun m i=>zc4 xs (fun _ _=>some (!decide (10< (xs.length:Int)))) m false i) (fun m i x hx=>by
  have hx2:x.length<=maxi:=zk3 h hx
  simp only[zc4,zam hx,zad hx,aD,aA,zac (zat hx) hl,zjB hx2]
  cases zbD x<;>rfl) (fun m=>by simp only[zc4,zag,aC]) (by omega)]
 cases xs.all zbD<;>cases decide (10< (xs.length:Int))<;>rfl
theorem zaE {t:List Str}(h:zaq t=true):t.length<=10:=by
 unfold zaq at h
 simp only[aG,Bool.not_eq_true',decide_eq_false_iff_not]at h
 omega
theorem za0 {t:List Str}(h:zaq t=true): ∀ s∈t,zbD s=true:=by
 unfold zaq at h
 simp only[aG,List.all_eq_true]at h
 exact h.2
theorem zgK {s:Str}(h:zbD s=true):s.length<=12:=by
 unfold zbD at h
 simp only[aG,Bool.not_eq_true',decide_eq_false_iff_not]at h
 omega
theorem zpD {xs ys:List Str}(h:xs.length<=maxi):zdO xs ys=some (xs==ys):=by
 unfold zdO
 simp only[zhq,jn,zap]
 by_cases hn:xs.length=ys.length
 ·rw[hn,aO,aK,aC,<- hn]
  rw[zgw (α:=Str) (r0:=some false) (Z:=some true) (f:=fun m i=>zca xs ys (fun _ _=>some true) m false i) hn (fun m i x y hx hy=>by
   simp only[zca,zam hx,zad hx,zad hy,aD,aA,zac (zat hx) h,bne]
   cases x==y<;>rfl) (fun m=>by simp only[zca,zag,aC]) (by omega)]
  cases xs==ys<;>rfl
 ·rw[beq_false_of_ne hn,Bool.not_false,aD,beq_false_of_ne (fun e=>hn (by rw[e]))]
theorem zeW {xs ys:List Str}(h:xs.length<=maxi):zeG xs ys=some (xs==ys):=by
 unfold zeG
 simp only[zhq,jn,zap]
 by_cases hn:xs.length=ys.length
 ·rw[hn,aO,aK,aC,<- hn]
  rw[zgw (α:=Str) (r0:=some false) (Z:=some true) (f:=fun m i=>zb1 xs ys (fun _ _=>some true) m false i) hn (fun m i x y hx hy=>by
   simp only[zb1,zam hx,zad hx,zad hy,aD,aA,zac (zat hx) h,bne]
   cases x==y<;>rfl) (fun m=>by simp only[zb1,zag,aC]) (by omega)]
  cases xs==ys<;>rfl
 ·rw[beq_false_of_ne hn,Bool.not_false,aD,beq_false_of_ne (fun e=>hn (by rw[e]))]
theorem zgR {x:List Str}(h:x.length<=1048576):zdY x=some x:=by
 unfold zdY
 rw[apN h];rfl
theorem zjC {a b:Int}(ha:0<=a)(ha':a<=9223372036854775807)(hb:0<=b)(hb':b<=9223372036854775807):0<=zmz a b/\zmz a b<=9223372036854775807:=by
 obtain⟨n,rfl⟩:=Int.eq_ofNat_of_zero_le ha
 obtain⟨m,rfl⟩:=Int.eq_ofNat_of_zero_le hb
 have hn:n<2 ^ 63:=by omega
 have hm:m<2 ^ 63:=by omega
 have hx:n ^^^ m<2 ^ 63:=Nat.xor_lt_two_pow hn hm
 have h1:(BitVec.ofInt 64 (n:Int) ^^^ BitVec.ofInt 64 (m:Int)).toNat=n ^^^ m:=by
  rw[BitVec.toNat_xor,BitVec.toNat_ofInt,BitVec.toNat_ofInt]
  have e1:((n:Int) % (2 ^ 64:Nat)).toNat=n:=by omega
  have e2:((m:Int) % (2 ^ 64:Nat)).toNat=m:=by omega
  rw[e1,e2]
 unfold zmz
 rw[h1]
 have:=zai (n:=((n ^^^ m:Nat):Int)) (by omega) (by omega)
 unfold w64 at this
 rw[this]
 omega
theorem zcP {a n:Int}(ha:0<=a)(hn:0<n):0<=Int.tmod a n/\Int.tmod a n<n:=⟨Int.tmod_nonneg n ha,Int.tmod_lt_of_pos a hn⟩
def zbB (r:l30Rd)(p:Int):Prop:=r.b.length<=2000/\0<=r.p/\r.p<=p
theorem zd1 (u:UInt8):0<=((UInt8.toNat u:Nat):Int)/\((UInt8.toNat u:Nat):Int)<=255:=by
 have:=UInt8.toNat_lt u
 omega
theorem zf6 {a n:Int}(ha:0<=a)(hn:0<n):0<=Int.tdiv a n/\Int.tdiv a n<=a:=⟨Int.tdiv_nonneg ha (by omega),Int.tdiv_le_self n ha⟩
theorem zbs {r:l30Rd}{n p:Int}(h:zbB r p)(hp:p<=1099511627776)(hn:0<n)(hn':n<=1073741824): ∃ k,zaz r n=some (k,r.p+1)/\0<=k/\k<n:=by
 obtain⟨hb,h0,h1⟩:=h
 unfold zaz
 have e1:w64 (r.p+1)=r.p+1:=zai (by omega) (by omega)
 have e2:w64 (r.p+1-1)=r.p:=by rw[zai (by omega) (by omega)];omega
 simp only[jn,e1,e2]
 rw[aE (show ¬ n<1 by omega),aC]
 cases hl:(((r.b.length:Int))==(0:Int))with
 |true=>exact⟨0,rfl,by omega,hn⟩
 |false=>
  have hlen:0< (r.b.length:Int):=by
   have:(r.b.length:Int)≠0:=by simpa using hl
   omega
  rw[aC]
  by_cases hlt:r.p< (r.b.length:Int)
  ·obtain⟨u,hu⟩:=zez h0 hlt
   obtain⟨u0,u1⟩:=zd1 u
   rw[aF hlt,aD,hu,aA,if_neg (by omega),aA,zai (by omega) (by omega)]
   exact⟨_,rfl,zcP u0 hn⟩
  ·rw[aE hlt,aC,if_neg (by omega),aA]
   obtain⟨a0,a1⟩:=zcP h0 hlen
   obtain⟨u,hu⟩:=zez a0 a1
   obtain⟨u0,u1⟩:=zd1 u
   have e3:w64 (r.p*7)=r.p*7:=zai (by omega) (by omega)
   have e4:w64 (r.p*7+3)=r.p*7+3:=zai (by omega) (by omega)
   obtain⟨b0,b1⟩:=zcP (show 0<=r.p*7+3 by omega) hlen
   obtain⟨v,hv⟩:=zez b0 b1
   obtain⟨v0,v1⟩:=zd1 v
   obtain⟨d0,d1⟩:=zf6 h0 hlen
   rw[hu,aA,if_neg (by omega),aA,e3,e4,hv,aA,aA,aA]
   rw[zai (n:=(UInt8.toNat u:Int)) (by omega) (by omega),zai (n:=(UInt8.toNat u:Int)*131) (by omega) (by omega),
    zai (n:=(UInt8.toNat v:Int)) (by omega) (by omega),zai (n:=(UInt8.toNat v:Int)*1117) (by omega) (by omega),
    zai (n:=(UInt8.toNat u:Int)*131+(UInt8.toNat v:Int)*1117) (by omega) (by omega),zai (n:=r.p*29) (by omega) (by omega),
    zai (n:=(UInt8.toNat u:Int)*131+(UInt8.toNat v:Int)*1117+r.p*29) (by omega) (by omega),
    zai (n:=Int.tdiv r.p (r.b.length:Int)) (by omega) (by omega),zai (n:=Int.tdiv r.p (r.b.length:Int)*53) (by omega) (by omega),
    zai (n:=(UInt8.toNat u:Int)*131+(UInt8.toNat v:Int)*1117+r.p*29+Int.tdiv r.p (r.b.length:Int)*53) (by omega) (by omega)]
   obtain⟨q0,q1⟩:=zf6 (a:=(UInt8.toNat u:Int)*131+(UInt8.toNat v:Int)*1117+r.p*29+Int.tdiv r.p (r.b.length:Int)*53) (n:=64) (by omega) (by omega)
   rw[zai (n:=Int.tdiv ((UInt8.toNat u:Int)*131+(UInt8.toNat v:Int)*1117+r.p*29+Int.tdiv r.p (r.b.length:Int)*53) 64) (by omega) (by omega)]
   exact⟨_,rfl,zcP (zjC (by omega) (by omega) (by omega) (by omega)).1 hn⟩
theorem zbB.on {r:l30Rd}{p q:Int}(h:zbB r p)(k:Int)(hk:0<=k)(hq:r.p+k<=q):zbB ⟨r.b,r.p+k⟩ q:=⟨h.1,by have:=h.2.1;show 0<=r.p+k;omega,hq⟩
theorem zlD {code:List Byte}(h:code.length<=1048576): ∃ b:List Byte,zcu code=some ⟨b,0⟩/\b.length<=2000:=by
 unfold zcu
 simp only[jn]
 by_cases hl:(2000:Int)< (code.length:Int)
 ·rw[aF hl,aD]
  have:slM code 0 2000=some (code.take 2000):=zfv (i:=2000) (by omega)
  rw[this,aA]
  exact⟨_,rfl,by simp;omega⟩
 ·rw[aE hl,aC]
  exact⟨_,rfl,by omega⟩
def zes:List Str->List Str->Int
 | [],_=>0
 |_:: _,[]=>0
 |x::xs,y::ys=>if x==y then zes xs ys+1 else zne (zes xs (y::ys)) (zes (x::xs) ys)
termination_by a b=>a.length+b.length
theorem zil (b:List Str):zes [] b=0:=by rw[zes]
theorem zgU (a:List Str):zes a []=0:=by cases a<;>rw[zes]
theorem zgV (x y:Str)(xs ys:List Str):zes (x::xs) (y::ys)=if x==y then zes xs ys+1 else zne (zes xs (y::ys)) (zes (x::xs) ys):=by rw[zes]
theorem zbL: ∀ (n:Nat) (a b:List Str),a.length+b.length<=n->0<=zes a b/\zes a b<=a.length
 |_,[],b,_=>by rw[zil];simp
 |_,x::xs,[],_=>by rw[zgU];simp;omega
 |0,x::xs,y::ys,h=>by simp at h
 |n+1,x::xs,y::ys,h=>by
  simp only[aL]at h
  have h1:=zbL n xs ys (by omega)
  have h2:=zbL n xs (y::ys) (by simp;omega)
  have h3:=zbL n (x::xs) ys (by simp;omega)
  rw[zgV]
  simp only[aL]at*
  split
  ·omega
  ·unfold zne;split<;>omega
theorem zlE (a b:List Str):0<=zes a b:=(zbL _ a b (Nat.le_refl _)).1
theorem zlF (a b:List Str):zes a b<=a.length:=(zbL _ a b (Nat.le_refl _)).2
def zfB (n:Nat)(g:Nat->Int):List Int:=(List.range n).map g
def zeb (n m:Nat)(f:Nat->Nat->Int):List (List Int):=(List.range n).map fun i=>zfB m (f i)
theorem ziG {n:Nat}{g g':Nat->Int}(h: ∀ k,k<n->g k=g' k):zfB n g=zfB n g':=by
 unfold zfB
 exact List.map_congr_left fun k hk=>h k (List.mem_range.1 hk)
theorem zcQ {n m:Nat}{f f':Nat->Nat->Int}(h: ∀ i k,i<n->k<m->f i k=f' i k):zeb n m f=zeb n m f':=by
 unfold zeb
 exact List.map_congr_left fun i hi=>ziG fun k hk=>h i k (List.mem_range.1 hi) hk
theorem zgg {n k:Nat}{g:Nat->Int}(h:k<n):gi (zfB n g) (k:Int)=some (g k):=zad (by simp[zfB,h])
theorem zgh {n m i:Nat}{f:Nat->Nat->Int}(h:i<n):gi (zeb n m f) (i:Int)=some (zfB m (f i)):=zad (by simp[zeb,h])
theorem zje {n k:Nat}{g:Nat->Int}{v:Int}(h:k<n):siM (zfB n g) (k:Int) v=some (zfB n fun k'=>if k'=k then v else g k'):=by
 rw[zc2 (by simp[zfB,h])]
 congr 1
 apply List.ext_getElem?
 intro j
 unfold zfB
 by_cases hj:j=k
 ·subst hj
  rw[List.getElem?_set_self (by simp[h])]
  simp[h]
 ·rw[List.getElem?_set_ne (Ne.symm hj)]
  by_cases hl:j<n
  ·simp[hl,hj]
  ·rw[List.getElem?_eq_none (by simp;omega),List.getElem?_eq_none (by simp;omega)]
theorem zjf {n m i:Nat}{f:Nat->Nat->Int}{g:Nat->Int}(h:i<n):siM (zeb n m f) (i:Int) (zfB m g)=some (zeb n m fun i'=>if i'=i then g else f i'):=by
 rw[zc2 (by simp[zeb,h])]
 congr 1
 apply List.ext_getElem?
 intro j
 unfold zeb
 by_cases hj:j=i
 ·subst hj
  rw[List.getElem?_set_self (by simp[h])]
  simp[h]
 ·rw[List.getElem?_set_ne (Ne.symm hj)]
  by_cases hl:j<n
  ·simp[hl,hj]
  ·rw[List.getElem?_eq_none (by simp;omega),List.getElem?_eq_none (by simp;omega)]
section
variable (a b:List Str)
def zaP (i k:Nat):Int:=zes (a.drop i) (b.drop k)
def zaU (i k i' k':Nat):Int:=if i<i'\/(i=i'/\k<=k') then zaP a b i' k' else 0
def zmN:List (List Int):=zeb (a.length+1) (b.length+1) (zaP a b)
end
section
variable {a b:List Str}
theorem zjD (i:Nat):zaP a b i b.length=0:=by unfold zaP;rw[List.drop_length,zgU]
theorem ziH (k:Nat):zaP a b a.length k=0:=by unfold zaP;rw[List.drop_length,zil]
theorem zjg (i k:Nat):0<=zaP a b i k:=zlE _ _
theorem zjh (i k:Nat):zaP a b i k<=a.length:=by
 have:=zlF (a.drop i) (b.drop k)
 unfold zaP
 simp only[List.length_drop]at this
 omega
theorem zgW {i k:Nat}{x y:Str}(hx:a[i]? =some x)(hy:b[k]? =some y):zaP a b i k=if x==y then zaP a b (i+1) (k+1)+1 else zne (zaP a b (i+1) k) (zaP a b i (k+1)):=by
 have hi:=zat hx
 have hk:=zat hy
 have ex:a[i]=x:=by rw[aB hi]at hx;exact Option.some.inj hx
 have ey:b[k]=y:=by rw[aB hk]at hy;exact Option.some.inj hy
 unfold zaP
 rw[aI hi,aI hk,zgV,ex,ey]
theorem zdw {i k:Nat}{v:Int}(hv:v=zaP a b i k)(n m:Nat):zeb n m (fun i'=>if i'=i then(fun k'=>if k'=k then v else zaU a b i (k+1) i k') else zaU a b i (k+1) i')=zeb n m (zaU a b i k):=by
 refine zcQ fun i' k' _ _=>?_
 by_cases h1:i'=i
 ·subst h1
  rw[if_pos rfl]
  by_cases h2:k'=k
  ·subst h2
   rw[if_pos rfl,hv]
   simp[zaU]
  ·rw[if_neg h2]
   simp only[zaU,Nat.lt_irrefl,false_or,true_and]
   by_cases h3:k+1<=k'
   ·rw[if_pos h3,if_pos (by omega)]
   ·rw[if_neg h3,if_neg (by omega)]
 ·rw[if_neg h1]
  simp only[zaU]
  by_cases h3:i<i'
  ·rw[if_pos (.inl h3),if_pos (.inl h3)]
  ·rw[if_neg (by omega),if_neg (by omega)]
theorem zgX (i:Nat):zeb (a.length+1) (b.length+1) (zaU a b (i+1) 0)=zeb (a.length+1) (b.length+1) (zaU a b i b.length):=by
 refine zcQ fun i' k' _ hk=>?_
 simp only[zaU,Nat.zero_le,and_true]
 by_cases h:i<i'
 ·rw[if_pos (by omega),if_pos (.inl h)]
 ·rw[if_neg (by omega)]
  by_cases h2:i=i'/\b.length<=k'
  ·rw[if_pos (.inr h2),show k'=b.length by omega,zjD]
  ·rw[if_neg (by omega)]
theorem zgi:zeb (a.length+1) (b.length+1) (fun _ _=>0)=zeb (a.length+1) (b.length+1) (zaU a b a.length 0):=by
 refine zcQ fun i' k' hi _=>?_
 simp only[zaU,Nat.zero_le,and_true]
 by_cases h:a.length<i'\/a.length=i'
 ·rw[if_pos h,show i'=a.length by omega,ziH]
 ·rw[if_neg h]
theorem zid:zeb (a.length+1) (b.length+1) (zaU a b 0 0)=zmN a b:=by
 refine zcQ fun i' k' _ _=>?_
 simp only[zaU,Nat.zero_le,and_true]
 rw[if_pos (by omega)]
theorem zmn (hb:b.length<=maxi)(hN:(a.length:Int)+1<=9223372036854775807){i:Nat}(hi:i<a.length){R:Int->List (List Int)->Option (List (List Int))}: ∀ (k m:Nat),k<=b.length->k<m->
 zgz a b (i:Int) R m ((k:Int)-1) (zeb (a.length+1) (b.length+1) (zaU a b i k))=R (-1) (zeb (a.length+1) (b.length+1) (zaU a b i 0))
 |0,0,_,h=>by omega
 |0,m+1,_,_=>by
  simp only[zgz]
  rw[aE (by omega)];rfl
 |k+1,0,_,h=>by omega
 |k+1,m+1,hk,hm=>by
  unfold maxi at hb
  have hx:a[i]? =some a[i]:=aB hi
  have hy:b[k]? =some b[k]:=aB (by omega)
  have hst:=zgW hx hy
  have e1:(((k+1:Nat):Int)-1)=(k:Int):=by omega
  have e2:w64 ((i:Int)+1)=((i+1:Nat):Int):=by rw[zai (by omega) (by omega)];omega
  have e3:w64 ((k:Int)+1)=((k+1:Nat):Int):=by rw[zai (by omega) (by omega)];omega
  have e4:w64 ((k:Int)-1)=(k:Int)-1:=zai (by omega) (by omega)
  have s1:zaU a b i (k+1) (i+1) (k+1)=zaP a b (i+1) (k+1):=by simp[zaU]
  have s2:zaU a b i (k+1) (i+1) k=zaP a b (i+1) k:=by simp[zaU]
  have s3:zaU a b i (k+1) i (k+1)=zaP a b i (k+1):=by simp[zaU]
  have lo:=zjg (a:=a) (b:=b) (i+1) (k+1)
  have hi':=zjh (a:=a) (b:=b) (i+1) (k+1)
  have ih:=zmn (by unfold maxi;exact hb) hN hi (R:=R) k m (by omega) (by omega)
  simp only[zgz,jn,e1,e2,e3,e4,zad hx,zad hy,aA,aF (show(0:Int)<=(k:Int) by omega),aD,
   zgh (show i<a.length+1 by omega),zgh (show i+1<a.length+1 by omega),zgg (show k<b.length+1 by omega),zgg (show k+1<b.length+1 by omega),s1,s2,s3,
   zje (show k<b.length+1 by omega),zjf (show i<a.length+1 by omega)]
  cases he:a[i]==b[k]with
  |true=>
   rw[he,if_pos rfl]at hst
   rw[aD,zai (by omega) (by omega),zdw hst.symm]
   exact ih
  |false=>
   rw[he,if_neg (by simp)]at hst
   rw[aC,zdw hst.symm]
   exact ih
theorem zmo (hb:b.length<=maxi)(hN:(a.length:Int)+1<=9223372036854775807)(hNb:(b.length:Int)+1<=9223372036854775807){R:Int->List (List Int)->Option (List (List Int))}: ∀ (i m:Nat),i<=a.length->i<m->
 zfg a b R m ((i:Int)-1) (zeb (a.length+1) (b.length+1) (zaU a b i 0))=R (-1) (zeb (a.length+1) (b.length+1) (zaU a b 0 0))
 |0,0,_,h=>by omega
 |0,m+1,_,_=>by
  simp only[zfg]
  rw[aE (by omega)];rfl
 |i+1,0,_,h=>by omega
 |i+1,m+1,hi,hm=>by
  have e1:(((i+1:Nat):Int)-1)=(i:Int):=by omega
  have e2:w64 ((b.length:Int)-1)=(b.length:Int)-1:=zai (by omega) (by omega)
  have e3:w64 ((i:Int)-1)=(i:Int)-1:=zai (by omega) (by omega)
  simp only[zfg,jn,e1,e2,aF (show(0:Int)<=(i:Int) by omega),aD]
  rw[zgX,zmn hb hN (by omega) b.length _ (Nat.le_refl _) (by omega),e3]
  exact zmo hb hN hNb i m (by omega) (by omega)
theorem zmp (hb:b.length<=1048576){N:Nat}(hN:N<=1048576){q:List (List Int)}(hq:q.length=N){R:Int->List (List Int)->Option (List (List Int))}: ∀ (n i m:Nat),i+n=N->n<m->
 zgA b q R m (i:Int) ((List.range i).map (fun _=>zfB (b.length+1) fun _=>0)++List.replicate n [])=R (N:Int) (zeb N (b.length+1) fun _ _=>0)
 |n,i,0,_,h=>by omega
 |0,i,m+1,hi,_=>by
  simp only[zgA]
  rw[hq,aE (by omega),show i=N by omega]
  simp[zeb]
 |n+1,i,m+1,hi,hm=>by
  have e1:w64 ((b.length:Int)+1)=((b.length+1:Nat):Int):=by rw[zai (by omega) (by omega)];omega
  have e2:w64 ((i:Int)+1)=((i+1:Nat):Int):=by rw[zai (by omega) (by omega)];omega
  have hl:((List.range i).map (fun _=>zfB (b.length+1) fun _=>0)++List.replicate (n+1) []).length=i+(n+1):=by simp
  obtain⟨u,hu⟩: ∃ u,((List.range i).map (fun _=>zfB (b.length+1) fun _=>0)++List.replicate (n+1) ([]:List Int))[i]? =some u:=⟨_,aB (by omega)⟩
  simp only[zgA,hq,e1,e2,aF (show(i:Int)< (N:Int) by omega),aD,zjw (show b.length+1<=lim by unfold lim;omega),aA,zad hu]
  rw[zc2 (by rw[hl];omega),aA]
  have hset:((List.range i).map (fun _=>zfB (b.length+1) fun _=>0)++List.replicate (n+1) []).set i (List.replicate (b.length+1) (0:Int))=(List.range (i+1)).map (fun _=>zfB (b.length+1) fun _=>0)++List.replicate n []:=by
   rw[List.set_append,if_neg (by simp)]
   have hr:zfB (b.length+1) (fun _=>0)=List.replicate (b.length+1) (0:Int):=by
    unfold zfB
    rw[List.map_const',List.length_range]
   simp[List.range_succ,List.replicate_succ,hr]
  rw[hset]
  exact zmp hb hN hq n (i+1) m (by omega) (by omega)
theorem zn6 (ha:a.length<=1000)(hb:b.length<=1000):zk4 a b=some (zmN a b):=by
 unfold zk4
 have e1:w64 ((a.length:Int)+1)=((a.length+1:Nat):Int):=by rw[zai (by omega) (by omega)];omega
 have e2:w64 ((a.length:Int)-1)=(a.length:Int)-1:=zai (by omega) (by omega)
 rw[e1,zjw (by unfold lim;omega),aA]
 simp only[jn,e2]
 have h1:=zmp (b:=b) (by omega) (N:=a.length+1) (by omega) (q:=List.replicate (a.length+1) []) (by simp)
  (R:=fun y6 y7=>zfg a b (fun y27 y29=>some y29) (((a.length:Int)-1+1-0).toNat+1) ((a.length:Int)-1) y7) (a.length+1) 0 (((List.replicate (a.length+1) ([]:List Int)).length-(0:Int)).toNat+1) (by omega) (by simp)
 simp only[List.range_zero,List.map_nil,List.nil_append]at h1
 refine h1.trans ?_
 rw[zgi,zmo (by unfold maxi;omega) (by omega) (by omega) a.length _ (Nat.le_refl _) (by omega),zid]
theorem zjE (hb:b.length<=maxi)(hN:(a.length:Int)+1<=9223372036854775807){i:Nat}(hi:i<a.length){R:Int->List (List Int)->Option (List (List Int))}: ∀ (k m:Nat),k<=b.length->k<m->
 zbw a b (i:Int) R m ((k:Int)-1) (zeb (a.length+1) (b.length+1) (zaU a b i k))=R (-1) (zeb (a.length+1) (b.length+1) (zaU a b i 0))
 |0,0,_,h=>by omega
 |0,m+1,_,_=>by
  simp only[zbw]
  rw[aE (by omega)];rfl
 |k+1,0,_,h=>by omega
 |k+1,m+1,hk,hm=>by
  unfold maxi at hb
  have hx:a[i]? =some a[i]:=aB hi
  have hy:b[k]? =some b[k]:=aB (by omega)
  have hst:=zgW hx hy
  have e1:(((k+1:Nat):Int)-1)=(k:Int):=by omega
  have e2:w64 ((i:Int)+1)=((i+1:Nat):Int):=by rw[zai (by omega) (by omega)];omega
  have e3:w64 ((k:Int)+1)=((k+1:Nat):Int):=by rw[zai (by omega) (by omega)];omega
  have e4:w64 ((k:Int)-1)=(k:Int)-1:=zai (by omega) (by omega)
  have s1:zaU a b i (k+1) (i+1) (k+1)=zaP a b (i+1) (k+1):=by simp[zaU]
  have s2:zaU a b i (k+1) (i+1) k=zaP a b (i+1) k:=by simp[zaU]
  have s3:zaU a b i (k+1) i (k+1)=zaP a b i (k+1):=by simp[zaU]
  have lo:=zjg (a:=a) (b:=b) (i+1) (k+1)
  have hi':=zjh (a:=a) (b:=b) (i+1) (k+1)
  have ih:=zjE (by unfold maxi;exact hb) hN hi (R:=R) k m (by omega) (by omega)
  simp only[zbw,jn,e1,e2,e3,e4,zad hx,zad hy,aA,aF (show(0:Int)<=(k:Int) by omega),aD,
   zgh (show i<a.length+1 by omega),zgh (show i+1<a.length+1 by omega),zgg (show k<b.length+1 by omega),zgg (show k+1<b.length+1 by omega),s1,s2,s3,
   zje (show k<b.length+1 by omega),zjf (show i<a.length+1 by omega)]
  cases he:a[i]==b[k]with
  |true=>
   rw[he,if_pos rfl]at hst
   rw[aD,zai (by omega) (by omega),zdw hst.symm]
   exact ih
  |false=>
   rw[he,if_neg (by simp)]at hst
   rw[aC]
   unfold zne at hst
   by_cases hc:zaP a b i (k+1)<=zaP a b (i+1) k
   ·rw[if_neg (by omega)]at hst
    rw[aF hc,aD,zdw hst.symm]
    exact ih
   ·rw[if_pos (by omega)]at hst
    rw[aE hc,aC,zdw hst.symm]
    exact ih
theorem zjF (hb:b.length<=maxi)(hN:(a.length:Int)+1<=9223372036854775807)(hNb:(b.length:Int)+1<=9223372036854775807){R:Int->List (List Int)->Option (List (List Int))}: ∀ (i m:Nat),i<=a.length->i<m->
 zaW a b R m ((i:Int)-1) (zeb (a.length+1) (b.length+1) (zaU a b i 0))=R (-1) (zeb (a.length+1) (b.length+1) (zaU a b 0 0))
 |0,0,_,h=>by omega
 |0,m+1,_,_=>by
  simp only[zaW]
  rw[aE (by omega)];rfl
 |i+1,0,_,h=>by omega
 |i+1,m+1,hi,hm=>by
  have e1:(((i+1:Nat):Int)-1)=(i:Int):=by omega
  have e2:w64 ((b.length:Int)-1)=(b.length:Int)-1:=zai (by omega) (by omega)
  have e3:w64 ((i:Int)-1)=(i:Int)-1:=zai (by omega) (by omega)
  simp only[zaW,jn,e1,e2,aF (show(0:Int)<=(i:Int) by omega),aD]
  rw[zgX,zjE hb hN (by omega) b.length _ (Nat.le_refl _) (by omega),e3]
  exact zjF hb hN hNb i m (by omega) (by omega)
theorem zjG (ha:a.length<=1000)(hb:b.length<=1000){R:List (List Int)->Int->Option (List (List Int))}: ∀ (n i m:Nat),i+n=a.length+1->n<m->
 zbx a b R m ((List.range i).map (fun _=>zfB (b.length+1) fun _=>0)) (i:Int)=R (zeb (a.length+1) (b.length+1) fun _ _=>0) ((a.length+1:Nat):Int)
 |n,i,0,_,h=>by omega
 |0,i,m+1,hi,_=>by
  simp only[zbx]
  rw[aE (by omega),show i=a.length+1 by omega]
  simp[zeb]
 |n+1,i,m+1,hi,hm=>by
  have e1:w64 ((b.length:Int)+1)=((b.length+1:Nat):Int):=by rw[zai (by omega) (by omega)];omega
  have e2:w64 ((i:Int)+1)=((i+1:Nat):Int):=by rw[zai (by omega) (by omega)];omega
  have hr:zfB (b.length+1) (fun _=>0)=List.replicate (b.length+1) (0:Int):=by
   unfold zfB
   rw[List.map_const',List.length_range]
  simp only[zbx,e1,e2,aF (show(i:Int)<=(a.length:Int) by omega),aD,zjw (show b.length+1<=lim by unfold lim;omega),aA]
  rw[zgk (by simp[lim];omega),aA]
  have hset:(List.range i).map (fun _=>zfB (b.length+1) fun _=>0)++[List.replicate (b.length+1) (0:Int)]=(List.range (i+1)).map (fun _=>zfB (b.length+1) fun _=>0):=by
   simp[List.range_succ,hr]
  rw[hset]
  exact zjG ha hb n (i+1) m (by omega) (by omega)
theorem zlG (ha:a.length<=1000)(hb:b.length<=1000):zeR a b=some (zmN a b):=by
 unfold zeR
 have e2:w64 ((a.length:Int)-1)=(a.length:Int)-1:=zai (by omega) (by omega)
 simp only[jn,e2]
 have h1:=zjG (a:=a) (b:=b) ha hb
  (R:=fun y3 y6=>zaW a b (fun y28 y30=>some y30) (((a.length:Int)-1+1-0).toNat+1) ((a.length:Int)-1) y3) (a.length+1) 0 (((a.length:Int)+1-0).toNat+1) (by omega) (by omega)
 simp only[List.range_zero,List.map_nil]at h1
 refine h1.trans ?_
 rw[zgi,zjF (by unfold maxi;omega) (by omega) (by omega) a.length _ (Nat.le_refl _) (by omega),zid]
end
def mtF:List Str->List Str->Nat->List Int
 | [],_,_=>[]
 |_::xs,[],k=> -1::mtF xs [] k
 |x::xs,y::ys,k=>if x==y then(k:Int)::mtF xs ys (k+1) else if zes (x::xs) ys<=zes xs (y::ys) then -1::mtF xs (y::ys) k else mtF (x::xs) ys (k+1)
termination_by a b _=>a.length+b.length
theorem zgr (b:List Str)(k:Nat):mtF [] b k=[]:=by rw[mtF]
theorem zgb (x:Str)(xs:List Str)(k:Nat):mtF (x::xs) [] k = -1::mtF xs [] k:=by rw[mtF]
theorem zfH (x y:Str)(xs ys:List Str)(k:Nat):mtF (x::xs) (y::ys) k=if x==y then(k:Int)::mtF xs ys (k+1) else if zes (x::xs) ys<=zes xs (y::ys) then -1::mtF xs (y::ys) k else mtF (x::xs) ys (k+1):=by rw[mtF]
def mt2 (a b:List Str):List Int:=mtF a b 0
theorem zl2 {xs:List Int}{x:Int}(h:xs.length<=1000000):apM xs [x]=some (xs++[x]):=zgk (by simp[lim];omega)
section
variable {a b:List Str}
theorem zhD {i k:Nat}(hi:i<=a.length)(hk:k<=b.length): ∃ r,gi (zmN a b) (i:Int)=some r/\gi r (k:Int)=some (zaP a b i k):=
 ⟨_,zgh (by omega),zgg (by omega)⟩
theorem zbR {i:Nat}(h:i<a.length):a.drop i=a[i]::a.drop (i+1):=aI h
theorem zkz (ha:a.length<=1000)(hb:b.length<=1000): ∀ (m i k:Nat) (out:List Int),(a.length-i)+(b.length-k)<m->i<=a.length->k<=b.length->out.length=i->
 zf5 a b (zmN a b) (fun y5 _ _=>some y5) m out (i:Int) (k:Int)=some (out++mtF (a.drop i) (b.drop k) k)
 |0,i,k,out,hm,_,_,_=>by omega
 |m+1,i,k,out,hm,hi,hk,ho=>by
  have e2:w64 ((i:Int)+1)=((i+1:Nat):Int):=by rw[zai (by omega) (by omega)];omega
  have e3:w64 ((k:Int)+1)=((k+1:Nat):Int):=by rw[zai (by omega) (by omega)];omega
  simp only[zf5,jn,e2,e3]
  by_cases hil:i<a.length
  case neg=>
   rw[aE (by omega),aC,show i=a.length by omega,List.drop_length,zgr,List.append_nil]
  have hx:a[i]? =some a[i]:=aB hil
  rw[aF (by omega),aD,zbR hil]
  by_cases hkl:k<b.length
  case neg=>
   have hke:k=b.length:=by omega
   rw[aE (by omega),aC,aC,show((k:Int)==(b.length:Int))=true by simp[hke],aD,aD,zl2 (by omega),aA,
    zkz ha hb m (i+1) k _ (by omega) (by omega) hk (by simp[ho])]
   rw[hke,List.drop_length,zgb]
   simp
  have hy:b[k]? =some b[k]:=aB hkl
  rw[aF (by omega),aD,zad hx,aA,zad hy,aA,zbR hkl,zfH]
  cases he:a[i]==b[k]with
  |true=>
   rw[aD,zl2 (by omega),aA,zkz ha hb m (i+1) (k+1) _ (by omega) (by omega) (by omega) (by simp[ho])]
   simp
  |false=>
   rw[aC,show((k:Int)==(b.length:Int))=false by simp;omega,aC]
   obtain⟨r1,h1,h2⟩:=zhD (a:=a) (b:=b) (i:=i+1) (k:=k) (by omega) (by omega)
   obtain⟨r3,h3,h4⟩:=zhD (a:=a) (b:=b) (i:=i) (k:=k+1) (by omega) (by omega)
   rw[h1,aA,h2,aA,h3,aA,h4,aA]
   have c1:zaP a b i (k+1)=zes (a[i]::a.drop (i+1)) (b.drop (k+1)):=by unfold zaP;rw[zbR hil]
   have c2:zaP a b (i+1) k=zes (a.drop (i+1)) (b[k]::b.drop (k+1)):=by unfold zaP;rw[zbR hkl]
   rw[<- c1,<- c2]
   by_cases hc:zaP a b i (k+1)<=zaP a b (i+1) k
   ·rw[aF hc,aD,zl2 (by omega),aA,zkz ha hb m (i+1) k _ (by omega) (by omega) hk (by simp[ho]),if_neg (by simp),if_pos hc,zbR hkl]
    simp
   ·rw[aE hc,aC,zkz ha hb m i (k+1) _ (by omega) hi (by omega) ho,if_neg (by simp),if_neg hc,zbR hil]
theorem zlr (ha:a.length<=1000)(hb:b.length<=1000):zfQ a b=some (mt2 a b):=by
 unfold zfQ
 rw[zn6 ha hb,aA]
 simp only[jn]
 have:=zkz ha hb (a.length+b.length+1) 0 0 [] (by omega) (by omega) (by omega) rfl
 simpa[mt2]using this
theorem zgY (ha:a.length<=1000)(hb:b.length<=1000): ∀ (m i k:Nat) (out:List Int),(a.length-i)+(b.length-k)<m->i<=a.length->k<=b.length->out.length=i->
 zcK a b (zmN a b) (fun y5 _ _=>some y5) m out (k:Int) (i:Int)=some (out++mtF (a.drop i) (b.drop k) k)
 |0,i,k,out,hm,_,_,_=>by omega
 |m+1,i,k,out,hm,hi,hk,ho=>by
  have e2:w64 ((i:Int)+1)=((i+1:Nat):Int):=by rw[zai (by omega) (by omega)];omega
  have e3:w64 ((k:Int)+1)=((k+1:Nat):Int):=by rw[zai (by omega) (by omega)];omega
  simp only[zcK,jn,e2,e3]
  by_cases hil:i<a.length
  case neg=>
   rw[aE (by omega),aC,show i=a.length by omega,List.drop_length,zgr,List.append_nil]
  have hx:a[i]? =some a[i]:=aB hil
  rw[aF (by omega),aD,zbR hil]
  by_cases hkl:k<b.length
  case neg=>
   have hke:k=b.length:=by omega
   rw[aE (by omega),aC,aC,aF (by omega),aD,aD,zl2 (by omega),aA,
    zgY ha hb m (i+1) k _ (by omega) (by omega) hk (by simp[ho])]
   rw[hke,List.drop_length,zgb]
   simp
  have hy:b[k]? =some b[k]:=aB hkl
  rw[aF (by omega),aD,zad hx,aA,zad hy,aA,zbR hkl,zfH]
  cases he:a[i]==b[k]with
  |true=>
   rw[aD,zl2 (by omega),aA,zgY ha hb m (i+1) (k+1) _ (by omega) (by omega) (by omega) (by simp[ho])]
   simp
  |false=>
   rw[aC,aE (by omega),aC]
   obtain⟨r1,h1,h2⟩:=zhD (a:=a) (b:=b) (i:=i+1) (k:=k) (by omega) (by omega)
   obtain⟨r3,h3,h4⟩:=zhD (a:=a) (b:=b) (i:=i) (k:=k+1) (by omega) (by omega)
   rw[h1,aA,h2,aA,h3,aA,h4,aA]
   have c1:zaP a b i (k+1)=zes (a[i]::a.drop (i+1)) (b.drop (k+1)):=by unfold zaP;rw[zbR hil]
   have c2:zaP a b (i+1) k=zes (a.drop (i+1)) (b[k]::b.drop (k+1)):=by unfold zaP;rw[zbR hkl]
   rw[<- c1,<- c2]
   by_cases hc:zaP a b i (k+1)<=zaP a b (i+1) k
   ·rw[aF hc,aD,zl2 (by omega),aA,zgY ha hb m (i+1) k _ (by omega) (by omega) hk (by simp[ho]),if_neg (by simp),if_pos hc,zbR hkl]
    simp
   ·rw[aE hc,aC,zgY ha hb m i (k+1) _ (by omega) hi (by omega) ho,if_neg (by simp),if_neg hc,zbR hil]
theorem zfn (ha:a.length<=1000)(hb:b.length<=1000):zcj a b=some (mt2 a b):=by
 unfold zcj
 rw[zlG ha hb,aA]
 simp only[jn]
 have:=zgY ha hb (a.length+b.length+1) 0 0 [] (by omega) (by omega) (by omega) rfl
 simpa[mt2]using this
end
def Asc (hi:Int):Int->List Int->Prop
 |_,[]=>True
 |lo,x::l=>(x = -1/\Asc hi lo l)\/(lo<=x/\x<hi/\Asc hi (x+1) l)
theorem Asc.mono {hi:Int}: ∀ {l:List Int} {lo lo':Int},lo'<=lo->Asc hi lo l->Asc hi lo' l
 | [],_,_,_,_=>trivial
 |x::l,lo,lo',h, .inl ⟨h1,h2⟩=> .inl ⟨h1,Asc.mono h h2⟩
 |x::l,lo,lo',h, .inr ⟨h1,h2,h3⟩=> .inr ⟨by omega,h2,h3⟩
theorem zeN: ∀ (n:Nat) (a b:List Str) (k:Nat),a.length+b.length<=n->Asc ((k+b.length:Nat):Int) (k:Int) (mtF a b k)/\(mtF a b k).length=a.length
 |_,[],b,k,_=>by rw[zgr];exact⟨trivial,rfl⟩
 |0,x::xs,b,k,h=>by simp at h
 |n+1,x::xs,[],k,h=>by
  rw[zgb]
  have:=zeN n xs [] k (by simp at h ⊢;omega)
  exact⟨.inl ⟨rfl,this.1⟩,by simp[this.2]⟩
 |n+1,x::xs,y::ys,k,h=>by
  simp only[aL]at h
  rw[zfH]
  split
  ·have:=zeN n xs ys (k+1) (by omega)
   refine⟨.inr ⟨Int.le_refl _,by simp only[aL];omega,?_⟩,by simp[this.2]⟩
   have h1:=this.1
   rw[show((k+(y::ys).length:Nat):Int)=((k+1+ys.length:Nat):Int) by simp only[aL];omega,show(k:Int)+1=((k+1:Nat):Int) by omega]
   exact h1
  ·split
   ·have:=zeN n xs (y::ys) k (by simp;omega)
    exact⟨.inl ⟨rfl,this.1⟩,by simp[this.2]⟩
   ·have:=zeN n (x::xs) ys (k+1) (by simp;omega)
    refine⟨?_,by simp[this.2]⟩
    have h1:=this.1
    rw[show((k+(y::ys).length:Nat):Int)=((k+1+ys.length:Nat):Int) by simp only[aL];omega]
    exact h1.mono (by omega)
theorem zdQ (a b:List Str):Asc (b.length:Int) 0 (mt2 a b)/\(mt2 a b).length=a.length:=by
 have:=zeN _ a b 0 (Nat.le_refl _)
 simpa[mt2]using this
theorem Asc.snoc {hi:Int}(h0:0<=hi): ∀ {l:List Int} {lo:Int},lo<=hi->Asc hi lo l->Asc (hi+1) lo (l++[hi])
 | [],lo,h,_=> .inr ⟨h,by omega,trivial⟩
 |x::l,lo,h, .inl ⟨h1,h2⟩=> .inl ⟨h1,Asc.snoc h0 h h2⟩
 |x::l,lo,h, .inr ⟨h1,h2,h3⟩=> .inr ⟨h1,by omega,Asc.snoc h0 (by omega) h3⟩
end Go.Vm
namespace Go.Sx
open Go
theorem ziI {R α σ:Type} {xs:List α} {step:σ->α->Option σ} {r0:Option R} (Inv:Nat->σ->Prop) {f:Nat->σ->Int->Option R} {Z:σ->Option R} {s0:σ}
 (hs: ∀ m (i:Nat) x s,xs[i]? =some x->Inv i s->(f (m+1) s (i:Int)=match step s x with |some s'=>f m s' ((i+1:Nat):Int) |none=>r0) /\ ∀ s',step s x=some s'->Inv (i+1) s')
 (he: ∀ m s,Inv xs.length s->f (m+1) s (xs.length:Int)=Z s) {m:Nat} (hm:xs.length<m) (h0:Inv 0 s0):
 f m s0 0=(match xs.foldlM step s0 with |some s=>Z s |none=>r0) /\ ∀ s,xs.foldlM step s0=some s->Inv xs.length s:=by
 have key: ∀ k i m s,i+k=xs.length->k<m->Inv i s->f m s (i:Int)=(match (xs.drop i).foldlM step s with |some s=>Z s |none=>r0) /\ ∀ s',(xs.drop i).foldlM step s=some s'->Inv xs.length s':=by
  intro k
  induction k with
  |zero=>
   intro i m s hi hm hI
   obtain⟨m,rfl⟩: ∃ q,m=q+1:=⟨m-1,by omega⟩
   have hii:i=xs.length:=by omega
   subst hii
   rw[he m s hI,List.drop_length]
   exact⟨rfl,fun s' h=>by
    have:s=s':=by simpa using h
    rw[<- this];exact hI⟩
  |succ k ih=>
   intro i m s hi hm hI
   obtain⟨m,rfl⟩: ∃ q,m=q+1:=⟨m-1,by omega⟩
   have hlt:i<xs.length:=by omega
   obtain⟨h1,h2⟩:=hs m i xs[i] s (aB hlt) hI
   rw[h1,aI hlt,List.foldlM_cons]
   cases hst:step s xs[i]with
   |none=>exact⟨rfl,fun s' h=>by simp at h⟩
   |some s1=>
    obtain⟨h3,h4⟩:=ih (i+1) m s1 (by omega) (by omega) (h2 s1 hst)
    exact⟨h3,h4⟩
 have:=key xs.length 0 m s0 (by omega) hm h0
 simpa using this
theorem zcf {R α:Type} {xs:List α} {p:α->Bool} {r:α->Option R} {Z:Option R} {f:Nat->Int->Option R}
 (hs: ∀ m (i:Nat) x,xs[i]? =some x->f (m+1) (i:Int)=bif p x then r x else f m ((i+1:Nat):Int)) (he: ∀ m,f (m+1) (xs.length:Int)=Z) {m:Nat} (hm:xs.length<m):
 f m 0=match xs.find? p with |some x=>r x |none=>Z:=by
 have key: ∀ k i m,i+k=xs.length->k<m->f m (i:Int)=match (xs.drop i).find? p with |some x=>r x |none=>Z:=by
  intro k
  induction k with
  |zero=>
   intro i m hi hm
   obtain⟨m,rfl⟩: ∃ q,m=q+1:=⟨m-1,by omega⟩
   rw[show i=xs.length by omega,he,List.drop_length]
   rfl
  |succ k ih=>
   intro i m hi hm
   obtain⟨m,rfl⟩: ∃ q,m=q+1:=⟨m-1,by omega⟩
   have hlt:i<xs.length:=by omega
   rw[hs m i xs[i] (aB hlt),aI hlt,List.find?_cons]
   cases p xs[i]with
   |true=>rfl
   |false=>exact ih (i+1) m (by omega) (by omega)
 have:=key xs.length 0 m (by omega) hm
 simpa using this
end Go.Sx
namespace Go.Vm
open Go Go.Sx
set_option linter.unusedSimpArgs false
set_option linter.unusedVariables false
def lnP (l:List Str):Part:=⟨false,l,[],[],[]⟩
def zcE (o a b:List Str):Part:=bif a==o||a==b then lnP b else bif b==o then lnP a else⟨true,[],o,a,b⟩
def ziV (out:List Part)(p:Part):List Part:=
 bif !p.Clash&&p.Lines.length==0 then out else
 match out[out.length-1]? with
 |some q=>bif !p.Clash && !q.Clash then out.set (out.length-1) ⟨q.Clash,q.Lines++p.Lines,q.Old,q.One,q.Two⟩ else out++[p]
 |none=>out++[p]
def PB (n:Nat)(out:List Part):Prop:=out.length<=n /\ ∀ q∈out,q.Lines.length<=1000*n
theorem PB.mono {n m:Nat}{out:List Part}(h:PB n out)(hm:n<=m):PB m out:=⟨Nat.le_trans h.1 hm,fun q hq=>Nat.le_trans (h.2 q hq) (Nat.mul_le_mul_left _ hm)⟩
theorem zhN {n:Nat}{out:List Part}{p:Part}(h:PB n out)(hp:p.Lines.length<=1000):PB (n+1) (ziV out p):=by
 have happ:PB (n+1) (out++[p]):=⟨by simp;exact h.1,fun q hq=>by
  rcases List.mem_append.1 hq with h1 |h1
  ·have:=h.2 q h1;omega
  ·rw[List.mem_singleton]at h1;rw[h1];omega⟩
 unfold ziV
 cases(!p.Clash&&p.Lines.length==0)with
 |true=>exact h.mono (by omega)
 |false=>
  rw[aC]
  split
  ·rename_i q hq
   cases(!p.Clash && !q.Clash)with
   |false=>exact happ
   |true=>
    rw[aD]
    refine⟨by rw[List.length_set];have:=h.1;omega,fun r hr=>?_⟩
    rcases List.mem_or_eq_of_mem_set hr with h1 |h1
    ·have:=h.2 r h1;omega
    ·rw[h1]
     have:=h.2 q (aH hq)
     simp only[List.length_append]
     omega
  ·exact happ
theorem zeX {o a b:List Str}(ha:a.length<=1000)(hb:b.length<=1000):(zcE o a b).Lines.length<=1000:=by
 unfold zcE lnP
 cases(a==o||a==b)
 ·cases b==o
  ·simp
  ·exact ha
 ·exact hb
theorem apL {xs ys:List Str}(h:xs.length<=4000000)(h':ys.length<=1000):apM xs ys=some (xs++ys):=zgk (by simp[lim];omega)
theorem zjH {o a b:List Str}(ho:o.length<=1000)(ha:a.length<=1000)(hb:b.length<=1000):zfX o a b=some (zcE o a b):=by
 unfold zfX zcE lnP
 simp only[jn,zeW (show a.length<=maxi by unfold maxi;omega),zeW (show b.length<=maxi by unfold maxi;omega),aA,apN (show o.length<=1048576 by omega),apN (show a.length<=1048576 by omega),apN (show b.length<=1048576 by omega)]
 cases a==o<;>cases a==b<;>cases b==o<;>rfl
theorem zlH {n:Nat}(h:n<=4000000)(h0:0<n):w64 ((n:Int)-1)=((n-1:Nat):Int):=by rw[zai (by omega) (by omega)];omega
theorem zim {n:Nat}{out:List Part}{p:Part}(h:PB n out)(hn:n<=4000)(hp:p.Lines.length<=1000):zgx out p=some (ziV out p):=by
 have hl:=h.1
 unfold zgx ziV
 have hz:(((p.Lines.length:Int))==(0:Int))=(p.Lines.length==0):=by
  have: ∀ b c:Bool,(b=true↔c=true)->b=c:=by decide
  apply this;simp
 simp only[jn,hz,show(⟨p.Clash,p.Lines,p.Old,p.One,p.Two⟩:Part)=p from rfl]
 have happ:apM out [p]=some (out++[p]):=zgk (by simp[lim];omega)
 cases hc:p.Clash with
 |true=>
  simp only[aK,Bool.false_and,aC,happ,aA]
  by_cases h0:0<out.length
  ·rw[aF (by omega),aD,aB (by omega)]
  ·rw[aE (by omega),aC,List.getElem?_eq_none (by omega)]
 |false=>
  simp only[Bool.not_false,Bool.true_and,aD]
  cases hz2:(p.Lines.length==0)with
  |true=>rfl
  |false=>
   simp only[aC]
   by_cases h0:0<out.length
   ·obtain⟨q,hq⟩: ∃ q,out[out.length-1]? =some q:=⟨_,aB (by omega)⟩
    have hql:=h.2 q (aH hq)
    rw[aF (by omega),aD,zlH (by omega) h0,zad hq,aA,hq]
    cases hqc:q.Clash with
    |true=>simp[happ,hqc]
    |false=>
     simp only[hqc,Bool.not_false,aD,aA]
     rw[apL (by omega) hp,aA,zc2 (by omega),aA]
   ·rw[aE (by omega),aC,List.getElem?_eq_none (by omega),happ]
    rfl
def za5 {α:Type}(xs:List α)(l h:Int):List α:=(xs.take h.toNat).drop l.toNat
theorem zbr {α:Type}(xs:List α)(l h:Int):(za5 xs l h).length<=xs.length:=by unfold za5;simp;omega
def zds (o a b:List Str)(i x y io ia ib:Int)(out:List Part):List Part:=
 match o[i.toNat]? with
 |some s=>ziV (ziV out (zcE (za5 o io i) (za5 a ia x) (za5 b ib y))) (lnP [s])
 |none=>ziV out (zcE (za5 o io i) (za5 a ia x) (za5 b ib y))
def za1 (o a b:List Str):Int->List Int->List Int->Int->Int->Int->List Part->List Part
 |i,x::ma,y::mb,io,ia,ib,out=>
  bif decide (x<0)||decide (y<0) then za1 o a b (i+1) ma mb io ia ib out
  else za1 o a b (i+1) ma mb (i+1) (x+1) (y+1) (zds o a b i x y io ia ib out)
 |_,[],_,_,_,_,out=>out
 |_,_:: _,[],_,_,_,out=>out
def zaV (o a b:List Str):List Part:=za1 o a b 0 (mt2 o a++[(a.length:Int)]) (mt2 o b++[(b.length:Int)]) 0 0 0 []
theorem zgZ {o a b:List Str}(ha:a.length<=1000)(hb:b.length<=1000){i x y io ia ib:Int}{n:Nat}{out:List Part}(h:PB n out):PB (n+2) (zds o a b i x y io ia ib out):=by
 have h1:=zhN h (zeX (o:=za5 o io i) (Nat.le_trans (zbr a ia x) ha) (Nat.le_trans (zbr b ib y) hb))
 unfold zds
 split
 ·exact zhN h1 (by simp[lnP])
 ·exact h1.mono (by omega)
theorem zeL {o a b:List Str}(ha:a.length<=1000)(hb:b.length<=1000): ∀ (ma mb:List Int) (i io ia ib:Int) (n:Nat) (out:List Part),PB n out->PB (n+2*ma.length) (za1 o a b i ma mb io ia ib out)
 | [],mb,i,io,ia,ib,n,out,h=>by rw[za1.eq_def];exact h.mono (by omega)
 |x::ma,[],i,io,ia,ib,n,out,h=>by rw[za1.eq_def];exact h.mono (by omega)
 |x::ma,y::mb,i,io,ia,ib,n,out,h=>by
  rw[za1]
  cases(decide (x<0)||decide (y<0))with
  |true=>exact(zeL ha hb ma mb _ _ _ _ n out h).mono (by simp;omega)
  |false=>exact(zeL ha hb ma mb _ _ _ _ (n+2) _ (zgZ ha hb h)).mono (by simp;omega)
theorem zjI {l:List Int}{i:Nat}{x:Int}(h:l[i]? =some x):l.drop i=x::l.drop (i+1):=by
 have hi:=zat h
 rw[aI hi]
 rw[aB hi]at h
 rw[Option.some.inj h]
theorem zeY {o a b:List Str}(ho:o.length<=1000)(ha:a.length<=1000)(hb:b.length<=1000){ma mb:List Int}(hla:ma.length=o.length+1)(hlb:mb.length=o.length+1):
 ∀ (n i m:Nat) (io ia ib:Int) (out:List Part),i+n=o.length+1->n<m->Asc ((a.length:Int)+1) ia (ma.drop i)->Asc ((b.length:Int)+1) ib (mb.drop i)->0<=io->io<=i->0<=ia->0<=ib->PB (2*i) out->
  zbJ o a b ma mb (fun y45 _ _ _ _=>some y45) m out io ia ib (i:Int)=some (za1 o a b i (ma.drop i) (mb.drop i) io ia ib out)
 |n,i,0,_,_,_,_,_,hm,_,_,_,_,_,_,_=>by omega
 |0,i,m+1,io,ia,ib,out,hi,_,_,_,_,_,_,_,_=>by
  simp only[zbJ]
  rw[aE (by omega),aC,List.drop_eq_nil_of_le (by omega),za1.eq_def]
 |n+1,i,m+1,io,ia,ib,out,hi,hm,hA,hB,h0,h1,h2,h3,hP=>by
  obtain⟨x,hx⟩: ∃ x,ma[i]? =some x:=⟨_,aB (by omega)⟩
  obtain⟨y,hy⟩: ∃ y,mb[i]? =some y:=⟨_,aB (by omega)⟩
  rw[zjI hx]at hA ⊢
  rw[zjI hy]at hB ⊢
  have ei:w64 ((i:Int)+1)=((i+1:Nat):Int):=by rw[zai (by omega) (by omega)];omega
  have ei':(i:Int)+1=((i+1:Nat):Int):=by omega
  rw[ei']at ei
  have dn:decide ((-1:Int)<0)=true:=rfl
  have hstay: ∀ (hA':Asc ((a.length:Int)+1) ia (ma.drop (i+1))) (hB':Asc ((b.length:Int)+1) ib (mb.drop (i+1))),zbJ o a b ma mb (fun y45 _ _ _ _=>some y45) m out io ia ib ((i+1:Nat):Int)=some (za1 o a b ((i+1:Nat):Int) (ma.drop (i+1)) (mb.drop (i+1)) io ia ib out):=
   fun hA' hB'=>zeY ho ha hb hla hlb n (i+1) m io ia ib out (by omega) (by omega) hA' hB' h0 (by omega) h2 h3 (hP.mono (by omega))
  rw[za1]
  simp only[zbJ,jn,zad hx,zad hy,aA,ei,ei',hla]
  rw[aF (show(i:Int)< ((o.length+1:Nat):Int) by omega),aD]
  rcases hA with ⟨rfl,hA⟩ |⟨ha1,ha2,hA⟩
  ·rcases hB with ⟨rfl,hB⟩ |⟨hb1,hb2,hB⟩
   ·simp only[dn,aD,Bool.true_or];exact hstay hA hB
   ·simp only[dn,aD,Bool.true_or];exact hstay hA (hB.mono (by omega))
  rcases hB with ⟨rfl,hB⟩ |⟨hb1,hb2,hB⟩
  ·rw[aE (show ¬ x<0 by omega),aC]
   simp only[dn,aD,Bool.false_or]
   exact hstay (hA.mono (by omega)) hB
  rw[aE (show ¬ x<0 by omega),aE (show ¬ y<0 by omega)]
  simp only[aC,Bool.or_false]
  have ex:w64 (x+1)=x+1:=zai (by omega) (by omega)
  have ey:w64 (y+1)=y+1:=zai (by omega) (by omega)
  have c1:=zbr o io i
  have c2:=zbr a ia x
  have c3:=zbr b ib y
  have hP1:=zhN hP (zeX (o:=za5 o io i) (Nat.le_trans c2 ha) (Nat.le_trans c3 hb))
  have hS:=zgZ (o:=o) ha hb (i:=i) (x:=x) (y:=y) (io:=io) (ia:=ia) (ib:=ib) hP
  have hfin:=zeY ho ha hb hla hlb n (i+1) m ((i+1:Nat):Int) (x+1) (y+1) (zds o a b i x y io ia ib out) (by omega) (by omega) hA hB (by omega) (by omega) (by omega) (by omega) (hS.mono (by omega))
  rw[zi3 h0 h1 (by omega),aA,zi3 h2 ha1 (by omega),aA,zi3 h3 hb1 (by omega),aA,
   show((o.take ((i:Int)).toNat).drop io.toNat)=za5 o io i from rfl,show((a.take x.toNat).drop ia.toNat)=za5 a ia x from rfl,show((b.take y.toNat).drop ib.toNat)=za5 b ib y from rfl,
   zjH (by omega) (by omega) (by omega),aA]
  rw[show(⟨(zcE (za5 o io i) (za5 a ia x) (za5 b ib y)).Clash,(zcE (za5 o io i) (za5 a ia x) (za5 b ib y)).Lines,(zcE (za5 o io i) (za5 a ia x) (za5 b ib y)).Old,(zcE (za5 o io i) (za5 a ia x) (za5 b ib y)).One,(zcE (za5 o io i) (za5 a ia x) (za5 b ib y)).Two⟩:Part)=zcE (za5 o io i) (za5 a ia x) (za5 b ib y) from rfl,
   zim hP (by omega) (zeX (Nat.le_trans c2 ha) (Nat.le_trans c3 hb)),aA]
  by_cases hio:i<o.length
  ·have hs:o[i]? =some o[i]:=aB hio
   rw[aF (by omega),aD,zad hs,aA,show(⟨false,[o[i]],[],[],[]⟩:Part)=lnP [o[i]] from rfl,zim hP1 (by omega) (by simp[lnP]),aA,ex,ey]
   have hm:zds o a b i x y io ia ib out=ziV (ziV out (zcE (za5 o io i) (za5 a ia x) (za5 b ib y))) (lnP [o[i]]):=by
    unfold zds
    rw[show((i:Int)).toNat=i by omega,hs]
   rw[<- hm]
   exact hfin
  ·rw[aE (by omega),aC,ex,ey]
   have hm:zds o a b i x y io ia ib out=ziV out (zcE (za5 o io i) (za5 a ia x) (za5 b ib y)):=by
    unfold zds
    rw[show((i:Int)).toNat=i by omega,List.getElem?_eq_none (by omega)]
   rw[<- hm]
   exact hfin
theorem zgc (o a:List Str):Asc ((a.length:Int)+1) 0 (mt2 o a++[(a.length:Int)])/\(mt2 o a++[(a.length:Int)]).length=o.length+1:=by
 have h:=zdQ o a
 exact⟨Asc.snoc (by omega) (by omega) h.1,by simp[h.2]⟩
theorem zlI {o a b:List Str}(ho:o.length<=1000)(ha:a.length<=1000)(hb:b.length<=1000):zhJ o a b=some (zaV o a b):=by
 obtain⟨a1,a2⟩:=zgc o a
 obtain⟨b1,b2⟩:=zgc o b
 have l1:=(zdQ o a).2
 have l2:=(zdQ o b).2
 unfold zhJ
 rw[zfn ho ha,aA,zl2 (by omega),aA,zfn ho hb,aA,zl2 (by omega),aA]
 simp only[jn]
 have:=zeY ho ha hb a2 b2 (o.length+1) 0 ((((mt2 o a++[(a.length:Int)]).length:Int)-0).toNat+1) 0 0 0 [] (by omega) (by omega) a1 b1 (by omega) (by omega) (by omega) (by omega) ⟨by simp,by simp⟩
 exact this
end Go.Vm
namespace Go.Sx
open Go
end Go.Sx
namespace Go.Vm
open Go Go.Sx
set_option linter.unusedSimpArgs false
set_option linter.unusedVariables false
section
variable {o a b:List Str}{Q:Part->Prop}
theorem zin {out:List Part}{p:Part}(h3: ∀ q p:Part,Q q->Q p->q.Clash=false->p.Clash=false->Q ⟨q.Clash,q.Lines++p.Lines,q.Old,q.One,q.Two⟩)(h: ∀ q∈out,Q q)(hp:Q p): ∀ q∈ziV out p,Q q:=by
 have happ: ∀ q∈out++[p],Q q:=fun q hq=>by
  rcases List.mem_append.1 hq with h1 |h1
  ·exact h q h1
  ·rw[List.mem_singleton]at h1;rw[h1];exact hp
 unfold ziV
 cases(!p.Clash&&p.Lines.length==0)with
 |true=>exact h
 |false=>
  rw[aC]
  split
  ·rename_i q hq
   cases hc:(!p.Clash && !q.Clash)with
   |false=>exact happ
   |true=>
    simp only[aG,Bool.not_eq_true']at hc
    rw[aD]
    intro r hr
    rcases List.mem_or_eq_of_mem_set hr with h1 |h1
    ·exact h r h1
    ·rw[h1];exact h3 q p (h q (aH hq)) hp hc.2 hc.1
  ·exact happ
theorem zd2 (h1: ∀ l h l' h' l'' h'',Q (zcE (za5 o l h) (za5 a l' h') (za5 b l'' h''))) (h2: ∀ s∈o,Q (lnP [s]))
 (h3: ∀ q p:Part,Q q->Q p->q.Clash=false->p.Clash=false->Q ⟨q.Clash,q.Lines++p.Lines,q.Old,q.One,q.Two⟩): ∀ (ma mb:List Int) (i io ia ib:Int) (out:List Part),(∀ q∈out,Q q) -> ∀ q∈za1 o a b i ma mb io ia ib out,Q q
 | [],mb,i,io,ia,ib,out,h=>by rw[za1.eq_def];exact h
 |x::ma,[],i,io,ia,ib,out,h=>by rw[za1.eq_def];exact h
 |x::ma,y::mb,i,io,ia,ib,out,h=>by
  rw[za1]
  cases(decide (x<0)||decide (y<0))with
  |true=>exact zd2 h1 h2 h3 ma mb _ _ _ _ out h
  |false=>
   refine zd2 h1 h2 h3 ma mb _ _ _ _ _ ?_
   have hp:=zin h3 h (h1 io i ia x ib y)
   unfold zds
   split
   ·rename_i s hs
    exact zin h3 hp (h2 s (aH hs))
   ·exact hp
theorem ziJ (h1: ∀ l h l' h' l'' h'',Q (zcE (za5 o l h) (za5 a l' h') (za5 b l'' h''))) (h2: ∀ s∈o,Q (lnP [s]))
 (h3: ∀ q p:Part,Q q->Q p->q.Clash=false->p.Clash=false->Q ⟨q.Clash,q.Lines++p.Lines,q.Old,q.One,q.Two⟩): ∀ q∈zaV o a b,Q q:=
 zd2 h1 h2 h3 _ _ _ _ _ _ [] (by simp)
theorem zdD {α:Type}{xs:List α}{l h:Int}{x:α}(hx:x∈za5 xs l h):x∈xs:=List.mem_of_mem_take (List.mem_of_mem_drop hx)
theorem zg0 {P:Str->Prop}(ho: ∀ s∈o,P s)(ha: ∀ s∈a,P s)(hb: ∀ s∈b,P s): ∀ q∈zaV o a b,(∀ s∈q.Lines,P s)/\(∀ s∈q.Old,P s)/\(∀ s∈q.One,P s)/\(∀ s∈q.Two,P s)/\q.Old.length<=o.length/\q.One.length<=a.length/\q.Two.length<=b.length:=by
 refine ziJ (fun l h l' h' l'' h''=>?_) (fun s hs=>?_) (fun q p hq hp _ _=>?_)
 ·have c1:=zbr o l h
  have c2:=zbr a l' h'
  have c3:=zbr b l'' h''
  unfold zcE lnP
  cases(za5 a l' h'==za5 o l h||za5 a l' h'==za5 b l'' h'')with
  |true=>exact⟨fun s hs=>hb s (zdD hs),by simp,by simp,by simp,by simp,by simp,by simp⟩
  |false=>
   rw[aC]
   cases(za5 b l'' h''==za5 o l h)with
   |true=>exact⟨fun s hs=>ha s (zdD hs),by simp,by simp,by simp,by simp,by simp,by simp⟩
   |false=>exact⟨by simp,fun s hs=>ho s (zdD hs),fun s hs=>ha s (zdD hs),fun s hs=>hb s (zdD hs),c1,c2,c3⟩
 ·exact⟨by simpa[lnP]using ho s hs,by simp[lnP],by simp[lnP],by simp[lnP],by simp[lnP],by simp[lnP],by simp[lnP]⟩
 ·exact⟨fun s hs=>(List.mem_append.1 hs).elim (hq.1 s) (hp.1 s),hq.2⟩
theorem ziK (ho:o.length<=1000)(ha:a.length<=1000)(hb:b.length<=1000):PB (2*(o.length+1)) (zaV o a b):=by
 have:=zeL (o:=o) ha hb (mt2 o a++[(a.length:Int)]) (mt2 o b++[(b.length:Int)]) 0 0 0 0 0 [] ⟨by simp,by simp⟩
 rw[(zgc o a).2]at this
 exact this.mono (by omega)
end
section
variable {xs:List Memo}{o a b:List Str}
def okT (t:List Str):List Str×Bool:=bif zaq t then(t,true) else([],false)
def zn7 (i:Nat)(s:List Str):Prop:=s.length<=22000*i /\ ∀ x∈s,zbD x=true
theorem zeZ {s:List Str}(h:s.length<=1000000)(hl: ∀ x∈s,zbD x=true):Bk.fit s:=⟨by unfold maxi;omega,fun x hx=>by have:=zgK (hl x hx);show x.length<=maxi;unfold maxi;omega⟩
theorem apT {s t:List Str}(h:s.length<=1000000)(h':t.length<=1000000):apM s t=some (s++t):=zgk (by simp[lim];omega)
theorem zji (hto:zaq o=true)(hta:zaq a=true)(htb:zaq b=true):(zaV o a b).length<=22 /\ ∀ p∈zaV o a b,p.Lines.length<=22000/\(∀ x∈p.Lines,zbD x=true)/\zaq p.Old=true/\zaq p.One=true/\zaq p.Two=true:=by
 have lo:=zaE hto
 have la:=zaE hta
 have lb:=zaE htb
 have hP:=ziK (o:=o) (a:=a) (b:=b) (by omega) (by omega) (by omega)
 refine⟨Nat.le_trans hP.1 (by omega),fun p hp=>?_⟩
 obtain⟨h1,h2,h3,h4,h5,h6,h7⟩:=zg0 (P:=fun s=>zbD s=true) (za0 hto) (za0 hta) (za0 htb) p hp
 have hl:=hP.2 p hp
 have mk: ∀ t:List Str,t.length<=10->(∀ s∈t,zbD s=true)->zaq t=true:=fun t h1 h2=>by
  unfold zaq
  rw[aE (by omega)]
  simp only[Bool.not_false,Bool.true_and,List.all_eq_true]
  exact h2
 exact⟨by omega,h1,mk _ (by omega) h2,mk _ (by omega) h3,mk _ (by omega) h4⟩
end
def LB (n:Nat)(t:List Str):Prop:=t.length<=n /\ ∀ s∈t,s.length<=100
theorem LB.fit {n:Nat}{t:List Str}(h:LB n t)(hn:n<=1000000):Bk.fit t:=⟨by have:=h.1;unfold maxi;omega,fun s hs=>by have:=h.2 s hs;show s.length<=maxi;unfold maxi;omega⟩
theorem LB.mono {n m:Nat}{t:List Str}(h:LB n t)(hm:n<=m):LB m t:=⟨Nat.le_trans h.1 hm,h.2⟩
theorem zfK {α:Type}{f:α->Nat}{c:Nat}: ∀ {t:List α},(∀ s∈t,f s<=c)->zcF f t<=c*t.length
 | [],_=>by simp[zcF]
 |x::t,h=>by
  have h1:=h x (by simp)
  have h2:=zfK (t:=t) (fun s hs=>h s (by simp[hs]))
  simp only[zcF,aL,Nat.mul_add,Nat.mul_one]
  omega
theorem LB.bulk {n:Nat}{t:List Str}(h:LB n t):Bk.bulk t<=101*n:=by
 have h1:zcF Bk.bulk t<=100*t.length:=zfK (f:=fun s:Str=>s.length) (c:=100) (fun s hs=>h.2 s hs)
 have:=h.1
 rw[zqU]
 omega
section
variable {r:l30Rd}{p:Int}
theorem zh5 (h:zbB r p)(hp:p<=1099511627776){l:List Str}(h0:0<l.length)(hl:l.length<=1000): ∃ s,zbg r l=some (s,r.p+1)/\s∈l:=by
 obtain⟨k,hk,k0,k1⟩:=zbs (n:=(l.length:Int)) h hp (by omega) (by omega)
 obtain⟨s,hs⟩:=zez k0 k1
 unfold zbg
 rw[hk,aA,hs,aA]
 exact⟨s,rfl,aH (zjs hs).2.1⟩
theorem zj7 (h:zbB r p)(hp:p<=1099511627776){l:List Int}(h0:0<l.length)(hl:l.length<=1000): ∃ s,zcV r l=some (s,r.p+1)/\s∈l:=by
 obtain⟨k,hk,k0,k1⟩:=zbs (n:=(l.length:Int)) h hp (by omega) (by omega)
 obtain⟨s,hs⟩:=zez k0 k1
 unfold zcV
 rw[hk,aA,hs,aA]
 exact⟨s,rfl,aH (zjs hs).2.1⟩
theorem zlJ (h:zbB r p)(hp:p<=1099511627776): ∃ s,zc3 r=some (s,r.p+1)/\s.length<=12:=by
 unfold zc3
 obtain⟨s,hs,hm⟩:=zh5 h hp (l:=([([97]:Str),([98]:Str),([99]:Str),([100]:Str),([]:Str),([120,32,121]:Str),([115,101,101,32,97]:Str),([115,101,101,32,100,47,101]:Str),([101,110,100]:Str)]:List Str)) (by simp) (by simp)
 rw[hs,aA]
 refine⟨s,rfl,?_⟩
 simp only[List.mem_cons,List.not_mem_nil,or_false]at hm
 rcases hm with rfl |rfl |rfl |rfl |rfl |rfl |rfl |rfl |rfl<;>simp
theorem on1 (h:zbB r p){q:Int}(hq:p+1<=q):zbB ⟨r.b,r.p+1⟩ q:=h.on 1 (by omega) (by have:=h.2.2;omega)
theorem zjJ {x0:l30Rd}: ∀ (m:Nat) (out:List Str) (n q p:Int),0<=n->n<m->n<=100->LB 100 out->zbB ⟨x0.b,q⟩ p->p+n<=1099511627776->out.length+n<=100->
 ∃ out' q',zdh x0 (fun y15 y18 y19=>some (y15,y19)) m out n q=some (out',q')/\LB 100 out'/\(out'.length:Int)=out.length+n/\zbB ⟨x0.b,q'⟩ (p+n)
 |0,out,n,q,p,h0,hm,_,_,_,_,_=>by omega
 |m+1,out,n,q,p,h0,hm,hn,hf,hr,hp,hl=>by
  simp only[zdh]
  by_cases hn0:0<n
  ·obtain⟨s,hs,hs2⟩:=zlJ hr (by omega)
   have hs':zc3 ⟨x0.b,q⟩=some (s,q+1):=hs
   rw[aF hn0,aD,hs',aA,ap1 (show out.length<=1048576 by omega),aA,zai (by omega) (by omega)]
   have hf':LB 100 (out++[s]):=⟨by simp;omega,fun x hx=>by
    rcases List.mem_append.1 hx with h1 |h1
    ·exact hf.2 x h1
    ·rw[List.mem_singleton]at h1;rw[h1];omega⟩
   obtain⟨o',q',e,f',l',r'⟩:=zjJ (x0:=x0) m (out++[s]) (n-1) (q+1) (p+1) (by omega) (by omega) (by omega) hf' (on1 hr (by omega)) (by omega) (by simp;omega)
   exact⟨o',q',e,f',by rw[l'];simp;omega,by rw[show p+n=p+1+(n-1) by omega];exact r'⟩
  ·have hz:n=0:=by omega
   subst hz
   rw[aE hn0,aC]
   exact⟨out,q,rfl,hf,by omega,by simpa using hr⟩
theorem zkA (h:zbB r p)(hp:p<=1000000000): ∃ t q,zei r=some (t,q)/\LB 8 t/\zbB ⟨r.b,q⟩ (p+10):=by
 unfold zei
 obtain⟨n,hn,hm⟩:=zj7 h (by omega) (l:=[0,1,3,5,8]) (by simp) (by simp)
 have hn8:0<=n/\n<=8:=by
  simp only[List.mem_cons,List.not_mem_nil,or_false]at hm
  omega
 rw[hn,aA]
 simp only[jn]
 obtain⟨t,q,e,f,l,ro⟩:=zjJ (x0:=r) ((n-0).toNat+1) [] n (r.p+1) (p+1) hn8.1 (by omega) (by omega) ⟨by simp,by simp⟩ (on1 h (by omega)) (by omega) (by simp;omega)
 refine⟨t,q,e,⟨by simp at l;omega,f.2⟩,ro.1,ro.2.1,?_⟩
 have:=ro.2.2
 omega
end
section
variable {o a b:List Str}{xs:List Memo}
def zm6 (l:List Part):List Part:=l.filter (·.Clash)
end
open Go Go.Sx Go.Proofs
theorem zaN (a b:Str):Op.bytesLess a b=decide (a<b):=bytesLess_eq a b
theorem zjK (a b:Str):(decide (a<=b)||decide (b<=a))=true:=by
 rcases List.le_total a b with h |h<;>simp[h]
theorem zjL (a b c:Str):decide (a<=b)=true->decide (b<=c)=true->decide (a<=c)=true:=by
 simp only[decide_eq_true_eq]
 exact List.le_trans
theorem zao (a:Str): ¬ a<a:=List.lt_irrefl a
theorem zaQ {a b c:Str}:a<b->b<c->a<c:=List.lt_trans
theorem zbb {a b:Str}(h:a<=b)(hn:a≠b):a<b:=by
 rcases Decidable.em (a<b)with h1 |h1
 ·exact h1
 ·exact absurd (List.le_antisymm h (List.not_lt.1 h1)) hn
theorem zgS {a b:Str}: ¬ a<b↔b<=a:=List.not_lt
def Asd (xs:List Str):Prop:=xs.Pairwise (· < ·)
theorem Asd.ext: ∀ {xs ys:List Str},Asd xs->Asd ys->(∀ a,a∈xs↔a∈ys)->xs=ys
 | [],[],_,_,_=>rfl
 | [],y::ys,_,_,h=>by have:=(h y).2 (by simp);simp at this
 |x::xs,[],_,_,h=>by have:=(h x).1 (by simp);simp at this
 |x::xs,y::ys,hx,hy,h=>by
  have hx':=List.pairwise_cons.1 hx
  have hy':=List.pairwise_cons.1 hy
  have e:x=y:=by
   rcases List.mem_cons.1 ((h x).1 (by simp))with e |hm
   ·exact e
   ·rcases List.mem_cons.1 ((h y).2 (by simp))with e |hm2
    ·exact e.symm
    ·exact absurd (zaQ (hy'.1 x hm) (hx'.1 y hm2)) (zao y)
  subst e
  have ht: ∀ a,a∈xs↔a∈ys:=fun a=>by
   constructor
   ·intro ha
    rcases List.mem_cons.1 ((h a).1 (List.mem_cons_of_mem _ ha))with e |hm
    ·exact absurd (by rw[e]at ha;exact hx'.1 x ha) (zao x)
    ·exact hm
   ·intro ha
    rcases List.mem_cons.1 ((h a).2 (List.mem_cons_of_mem _ ha))with e |hm
    ·exact absurd (by rw[e]at ha;exact hy'.1 x ha) (zao x)
    ·exact hm
  rw[Asd.ext hx'.2 hy'.2 ht]
theorem zls (l:List Str):(zfu l).Pairwise (· <= ·):=by
 have:=List.pairwise_mergeSort (le:=fun x y:Str=>decide (x<=y)) zjL zjK l
 exact this.imp (by simp)
theorem zkr {l:List Str}{a:Str}:a∈zfu l↔a∈l:=List.mem_mergeSort
theorem zg1: ∀ (l:List Str) (p:Option Str) (a:Str),a∈zde p l\/some a=p↔a∈l\/some a=p
 | [],p,a=>by simp[zde]
 |x::l,p,a=>by
  have ih:=zg1 l (some x) a
  unfold zde
  by_cases hp:p=some x
  ·rw[if_pos hp,hp]
   rw[ih]
   simp only[List.mem_cons,Option.some.injEq]
   constructor
   ·rintro(h |h)
    ·exact .inl (.inr h)
    ·exact .inr h
   ·rintro((h |h) |h)
    ·exact .inr h
    ·exact .inl h
    ·exact .inr h
  ·rw[if_neg hp]
   simp only[List.mem_cons,Option.some.injEq]at ih ⊢
   constructor
   ·rintro((h |h) |h)
    ·exact .inl (.inl h)
    ·rcases ih.1 (.inl h)with h2 |h2
     ·exact .inl (.inr h2)
     ·exact .inl (.inl h2)
    ·exact .inr h
   ·rintro((h |h) |h)
    ·exact .inl (.inl h)
    ·rcases ih.2 (.inl h)with h2 |h2
     ·exact .inl (.inr h2)
     ·exact .inl (.inl h2)
    ·exact .inr h
theorem zio {l:List Str}{a:Str}:a∈zly l↔a∈l:=by
 have:=zg1 l none a
 simpa[zly]using this
theorem zfL: ∀ (l:List Str) (p:Option Str),l.Pairwise (· <= ·)->(∀ q,p=some q -> ∀ a∈l,q<=a)->Asd (zde p l) /\ ∀ q,p=some q -> ∀ a∈zde p l,q<a
 | [],p,_,_=>by simp[zde,Asd]
 |x::l,p,h,hp=>by
  have h':=List.pairwise_cons.1 h
  obtain⟨i1,i2⟩:=zfL l (some x) h'.2 (fun q hq a ha=>by cases hq;exact h'.1 a ha)
  unfold zde
  by_cases hpx:p=some x
  ·rw[if_pos hpx]
   exact⟨i1,fun q hq a ha=>by rw[hpx]at hq;exact i2 q hq a ha⟩
  ·rw[if_neg hpx]
   refine⟨List.pairwise_cons.2 ⟨fun a ha=>i2 x rfl a ha,i1⟩,fun q hq a ha=>?_⟩
   have hqx:q<x:=zbb (hp q hq x (by simp)) (fun e=>hpx (by rw[hq,e]))
   rcases List.mem_cons.1 ha with e |e
   ·rw[e];exact hqx
   ·exact zaQ hqx (i2 x rfl a e)
def zfM (xs:List Str)(s:Str):List Str:=zly (zfu (xs++[s]))
theorem zdW (xs:List Str)(s:Str):Asd (zfM xs s):=(zfL _ none (zls _) (fun q hq=>by cases hq)).1
theorem insS_mem {xs:List Str}{s a:Str}:a∈zfM xs s↔a∈xs\/a=s:=by
 unfold zfM
 rw[zio,zkr,List.mem_append,List.mem_singleton]
theorem ze0: ∀ (zs:List Str) (p:Option Str),(zde p zs).length<=zs.length
 | [],p=>by simp[zde]
 |x::l,p=>by
  have:=ze0 l (some x)
  unfold zde
  split<;>simp<;>omega
theorem zgP (xs:List Str)(s:Str):(zfM xs s).length<=xs.length+1:=by
 have:=ze0 (zfu (xs++[s])) none
 unfold zfM zly
 have h2:(zfu (xs++[s])).length=(xs++[s]).length:=List.length_mergeSort _
 rw[h2]at this
 simpa using this
def zgq (c:UInt8):Bool:=(decide (97<=(c.toNat:Int))&&decide ((c.toNat:Int)<=122))||(decide (48<=(c.toNat:Int))&&decide ((c.toNat:Int)<=57))
def zax (s:Str):Bool:=(decide (1<=(s.length:Int))&&decide ((s.length:Int)<=6))&&s.all zgq
theorem zhO (c:UInt8):zeh c=some (zgq c):=by
 unfold zeh zgq
 simp only[jn]
 cases decide (97<=(c.toNat:Int))<;>cases decide ((c.toNat:Int)<=122)<;>cases decide (48<=(c.toNat:Int))<;>cases decide ((c.toNat:Int)<=57)<;>rfl
theorem zdE (a b c:Int):zeH a b c=some (decide (b<=a)&&decide (a<=c)):=by
 unfold zeH
 simp only[jn]
 cases decide (b<=a)<;>rfl
theorem zco (a b c:Int):ze9 a b c=some (decide (b<=a)&&decide (a<=c)):=by
 unfold ze9
 simp only[jn]
 cases decide (b<=a)<;>rfl
theorem ze1 {s:Str}(h:s.length<=maxi):zeI s=some (zax s):=by
 unfold zeI zax
 simp only[jn,zap,zdE,aA]
 cases(decide (1<=(s.length:Int))&&decide ((s.length:Int)<=6))
 case false=>rfl
 simp only[aK,aC,Bool.true_and]
 rw[zau (α:=UInt8) (xs:=s) (p:=zgq) (r0:=some false) (Z:=some true) (f:=fun m i=>zb3 s (fun _ _=>some true) m false i) (fun m i x hx=>by
  simp only[zb3,jn,zam hx,zf2 hx,aD,aA,zac (zat hx) h,zhO]
  cases zgq x<;>rfl) (fun m=>by simp only[zb3,zag,aC]) (by omega)]
 cases s.all zgq<;>rfl
theorem zmR (a b:Int):decide (a<b) = !decide (b<=a):=by
 by_cases h:a<b
 ·rw[aF h,aE (by omega)];rfl
 ·rw[aE h,aF (by omega)];rfl
theorem zaT {s:Str}(h:s.length<=maxi):zdx s=some (zax s):=by
 unfold zdx zax
 simp only[jn,zap,zco,aA]
 rw[zau (α:=UInt8) (xs:=s) (p:=zgq) (r0:=some false) (Z:=some (decide (1<=(s.length:Int))&&decide ((s.length:Int)<=6))) (f:=fun m i=>zbU s (fun _ _=>some (decide (1<=(s.length:Int))&&decide ((s.length:Int)<=6))) m false i) (fun m i x hx=>by
  simp only[zbU,jn,zam hx,zf2 hx,aD,aA,zac (zat hx) h,zmR,zgq]
  cases decide (97<=(x.toNat:Int))<;>cases decide ((x.toNat:Int)<=122)<;>cases decide (48<=(x.toNat:Int))<;>cases decide ((x.toNat:Int)<=57)<;>rfl) (fun m=>by simp only[zbU,zag,aC]) (by omega)]
 cases s.all zgq<;>cases(decide (1<=(s.length:Int))&&decide ((s.length:Int)<=6))<;>rfl
def ahd (s:Str):List Str->Nat
 | []=>0
 |x::xs=>bif Op.bytesLess x s then ahd s xs+1 else 0
theorem zla (s:Str): ∀ xs,ahd s xs<=xs.length
 | []=>Nat.le_refl _
 |x::xs=>by
  have:=zla s xs
  unfold ahd
  cases Op.bytesLess x s
  ·simp
  ·simp only[aD,aL];omega
theorem ziq (s:Str): ∀ (xs:List Str) x,x∈xs.take (ahd s xs)->x<s
 | [],x,h=>by simp at h
 |y::xs,x,h=>by
  unfold ahd at h
  cases hy:Op.bytesLess y s with
  |false=>rw[hy]at h;simp at h
  |true=>
   rw[hy,aD,List.take_succ_cons]at h
   rcases List.mem_cons.1 h with e |e
   ·rw[e];rw[zaN]at hy;simpa using hy
   ·exact ziq s xs x e
theorem zlb (s:Str): ∀ (xs:List Str) x,xs[ahd s xs]? =some x->s<=x
 | [],x,h=>by simp at h
 |y::xs,x,h=>by
  unfold ahd at h
  cases hy:Op.bytesLess y s with
  |false=>
   rw[hy,aC]at h
   have e:y=x:=by simpa using h
   rw[<- e]
   rw[zaN]at hy
   exact zgS.1 (by simpa using hy)
  |true=>
   rw[hy,aD]at h
   exact zlb s xs x (by simpa using h)
theorem zmS {xs:List Str}{s:Str}(hl:xs.length<=1000000){K:Int->Option (List Str)}: ∀ (n i m:Nat),i+n=xs.length->n<m->(∀ j,j<i -> ∃ x,xs[j]? =some x/\x<s)->zcC xs s K m (i:Int)=K ((i+ahd s (xs.drop i):Nat):Int)
 |n,i,0,_,hm,_=>by omega
 |0,i,m+1,hi,_,_=>by
  simp only[zcC,jn]
  rw[aE (by omega),aC,aC,List.drop_eq_nil_of_le (by omega)]
  rfl
 |n+1,i,m+1,hi,hm,hall=>by
  have hlt:i<xs.length:=by omega
  have hx:xs[i]? =some xs[i]:=aB hlt
  simp only[zcC,jn]
  rw[aF (by omega),aD,zad hx,aA,aI hlt]
  unfold ahd
  cases hb:Op.bytesLess xs[i] s with
  |false=>rw[aC,aC];rfl
  |true=>
   rw[aD,aD,zac hlt (by unfold maxi;omega)]
   rw[zmS hl n (i+1) m (by omega) (by omega) (fun j hj=>by
    rcases Nat.lt_or_ge j i with h1 |h1
    ·exact hall j h1
    ·have:j=i:=by omega
     subst this
     exact⟨_,hx,by rw[zaN]at hb;simpa using hb⟩)]
   congr 2
   omega
theorem zkQ {xs:List Str}{s:Str}(hl:xs.length<=1000000)(ha:Asd xs):zd6 xs s=some (zfM xs s):=by
 unfold zd6
 simp only[jn]
 have h1:=zmS (s:=s) hl (K:=fun y1=>bif decide (y1< (xs.length:Int)) then(gi xs y1).bind fun u52=>bif u52==s then some xs else(slM xs 0 y1).bind fun q19=>(apM [] q19).bind fun q24=>(apM q24 [s]).bind fun q31=>(slM xs y1 (xs.length:Int)).bind fun q36=>(apM q31 q36).bind fun q41=>some q41
  else bif false then some xs else(slM xs 0 y1).bind fun q19=>(apM [] q19).bind fun q24=>(apM q24 [s]).bind fun q31=>(slM xs y1 (xs.length:Int)).bind fun q36=>(apM q31 q36).bind fun q41=>some q41) xs.length 0 (xs.length+1) (by omega) (by omega) (fun j hj=>by omega)
 have hk:=zla s xs
 simp only[Nat.zero_add,List.drop_zero]at h1
 refine h1.trans ?_
 -- the list with s in its place
 have hput:(slM xs 0 ((ahd s xs:Nat):Int)).bind (fun q19=>(apM [] q19).bind fun q24=>(apM q24 [s]).bind fun q31=>(slM xs ((ahd s xs:Nat):Int) (xs.length:Int)).bind fun q36=>(apM q31 q36).bind fun q41=>some q41)=some (xs.take (ahd s xs)++[s]++xs.drop (ahd s xs)):=by
  have hlt:(xs.take (ahd s xs)).length<=xs.length:=by simp;omega
  rw[zfv hk,aA,apN (by omega),aA,ap1 (by omega),aA,zhp hk,aA,zgk (by simp[lim];omega),aA]
 have hmem: ∀ a,a∈xs.take (ahd s xs)++[s]++xs.drop (ahd s xs)↔a∈xs\/a=s:=fun a=>by
  have:a∈xs↔a∈xs.take (ahd s xs)\/a∈xs.drop (ahd s xs):=by rw[<- List.mem_append,List.take_append_drop]
  rw[this]
  simp only[List.mem_append,List.mem_singleton]
  constructor
  ·rintro((h |h) |h)
   ·exact .inl (.inl h)
   ·exact .inr h
   ·exact .inl (.inr h)
  ·rintro((h |h) |h)
   ·exact .inl (.inl h)
   ·exact .inr h
   ·exact .inl (.inr h)
 have hfin:(∀ x∈xs.drop (ahd s xs),s<x)->some (xs.take (ahd s xs)++[s]++xs.drop (ahd s xs))=some (zfM xs s):=by
  intro hd
  congr 1
  refine Asd.ext ?_ (zdW _ _) (fun a=>by rw[hmem,insS_mem])
  have ha':=ha
  rw[<- List.take_append_drop (ahd s xs) xs]at ha'
  obtain⟨p1,p2,p3⟩:=List.pairwise_append.1 ha'
  refine List.pairwise_append.2 ⟨List.pairwise_append.2 ⟨p1,List.pairwise_singleton _ _,fun a h b hb=>?_⟩,p2,fun a h b hb=>?_⟩
  ·rw[List.mem_singleton]at hb;rw[hb];exact ziq s xs a h
  ·rcases List.mem_append.1 h with h2 |h2
   ·exact p3 a h2 b hb
   ·rw[List.mem_singleton]at h2;rw[h2];exact hd b hb
 by_cases hlt:ahd s xs<xs.length
 ·have hx:xs[ahd s xs]? =some xs[ahd s xs]:=aB hlt
  have hge:=zlb s xs _ hx
  rw[aF (by omega),aD,zad hx,aA]
  cases he:xs[ahd s xs]==s with
  |true=>
   have e:xs[ahd s xs]=s:=by simpa using he
   rw[aD]
   congr 1
   exact Asd.ext ha (zdW _ _) (fun a=>by
    rw[insS_mem]
    constructor
    ·exact .inl
    ·rintro(h |h)
     ·exact h
     ·rw[h,<- e];exact List.getElem_mem hlt)
  |false=>
   have e:s≠xs[ahd s xs]:=fun e=>by rw[<- e]at he;simp at he
   rw[aC,hput]
   refine hfin (fun x hx2=>?_)
   rw[aI hlt]at hx2
   have hs1:s<xs[ahd s xs]:=zbb hge e
   rcases List.mem_cons.1 hx2 with h2 |h2
   ·rw[h2];exact hs1
   ·have hp:Asd (xs.drop (ahd s xs)):=List.Pairwise.sublist (List.drop_sublist _ _) ha
    rw[aI hlt]at hp
    exact zaQ hs1 ((List.pairwise_cons.1 hp).1 x h2)
 ·rw[aE (by omega),aC,aC,hput]
  refine hfin (fun x hx2=>?_)
  rw[List.drop_eq_nil_of_le (by omega)]at hx2
  simp at hx2
def RB (n:Nat)(v:Review):Prop:=v.Branch.length<=4/\v.Into.length<=4/\v.By.length<=4/\LB n v.Yes
theorem RB.fit {n:Nat}{v:Review}(h:RB n v)(hn:n<=1000):Bk.fit v:=
 ⟨by have:=h.1;show v.Branch.length<=maxi;unfold maxi;omega,by have:=h.2.1;show v.Into.length<=maxi;unfold maxi;omega,by have:=h.2.2.1;show v.By.length<=maxi;unfold maxi;omega,h.2.2.2.fit (by omega)⟩
def curS (c:UInt8):Str->Str->List Str
 |w,[]=>[w]
 |w,x::r=>bif x==c then w::curS c [] r else curS c (w++[x]) r
def zdA (c:UInt8):Nat->Str->Str->List Str
 |_,w,[]=>[w]
 |0,w,x::r=>[w++x::r]
 |n+1,w,x::r=>bif x==c then w::zdA c n [] r else zdA c (n+1) (w++[x]) r
theorem zir (c:UInt8): ∀ (r w:Str),1<=(curS c w r).length
 | [],w=>by simp[curS]
 |x::r,w=>by
  unfold curS
  cases x==c
  ·exact zir c r _
  ·simp
theorem zdR (c:UInt8)(w r:Str):zdA c 0 w r=[w++r]:=by
 cases r<;>simp[zdA]
theorem zcp (c:UInt8): ∀ (r:Str) (n:Nat) (w:Str),(curS c w r).length<=n+1->zdA c n w r=curS c w r
 | [],n,w,h=>by cases n<;>simp[zdA,curS]
 |x::r,0,w,h=>by
  unfold curS at h ⊢
  cases hx:x==c with
  |true=>
   rw[hx,aD]at h
   have:=zir c r []
   rw[aL]at h
   omega
  |false=>
   rw[hx,aC]at h
   have ih:=zcp c r 0 (w++[x]) h
   rw[aC,<- ih,zdR,zdR]
   simp
 |x::r,n+1,w,h=>by
  unfold curS at h ⊢
  unfold zdA
  cases hx:x==c with
  |true=>
   rw[hx,aD,aL]at h
   rw[aD,aD,zcp c r n [] (by omega)]
  |false=>
   rw[hx,aC]at h
   rw[aC,aC,zcp c r (n+1) _ h]
theorem zdF (c:UInt8): ∀ (r:Str) (n:Nat) (w:Str),n+1<=(curS c w r).length->(zdA c n w r).length=n+1
 | [],n,w,h=>by
  simp[curS]at h
  subst h
  simp[zdA]
 |x::r,0,w,h=>by simp[zdA]
 |x::r,n+1,w,h=>by
  unfold curS at h
  unfold zdA
  cases hx:x==c with
  |true=>
   rw[hx,aD,aL]at h
   rw[aD,aL,zdF c r n [] (by omega)]
  |false=>
   rw[hx,aC]at h
   rw[aC,zdF c r (n+1) _ h]
theorem ziW {c:UInt8}{w:Str}(h:c∉w):Lib.index w [c] = -1:=Lib.index_none fun j hj=>by
 cases ho:Lib.occAt w [c] j with
 |false=>rfl
 |true=>exact absurd (aH (Lib.occAt_head rfl ho)) h
theorem zkc {c:UInt8}{w r:Str}(h:c∉w):Lib.index (w++c::r) [c]=((w.length:Nat):Int):=Lib.index_first (by simp) (by simp[Lib.occAt,List.isPrefixOf]) fun j hj=>by
 cases ho:Lib.occAt (w++c::r) [c] j with
 |false=>rfl
 |true=>
  have:=Lib.occAt_head rfl ho
  rw[aM hj]at this
  exact absurd (aH this) h
theorem ze2 (c:UInt8): ∀ (r w:Str),c∉w->Lib.split (w++r) [c]=curS c w r
 | [],w,h=>by
  unfold Lib.split curS
  rw[List.append_nil,Lib.count_miss (ziW h)]
  rfl
 |x::r,w,h=>by
  unfold curS
  cases hx:x==c with
  |true=>
   have e:x=c:=by simpa using hx
   subst e
   have hi:=zkc (r:=r) h
   rw[aD]
   have ih:=ze2 x r [] (by simp)
   unfold Lib.split at ih ⊢
   have hd:(w++x::r).drop (w.length+1)=r:=by
    rw[show w++x::r=(w++[x])++r by simp,List.drop_left' (by simp)]
   have hc:Lib.count (w++x::r) [x]=Lib.count r [x]+1:=by
    rw[Lib.count_hit (by simp) hi]
    show 1+Lib.count ((w++x::r).drop (w.length+1)) [x]=_
    rw[hd]
    omega
   rw[hc]
   unfold Lib.splitK
   rw[if_neg (by rw[hi];simp),hi]
   have e1:(w++x::r).take (((w.length:Nat):Int).toNat+0)=w:=by simp
   have e2:(w++x::r).drop (((w.length:Nat):Int).toNat+[x].length)=r:=hd
   rw[e1,e2]
   simp only[List.nil_append]at ih
   rw[ih]
  |false=>
   have hne:x≠c:=by simpa using hx
   rw[aC,show w++x::r=(w++[x])++r by simp]
   exact ze2 c r (w++[x]) (by
    rw[List.mem_append,List.mem_singleton]
    rintro(h1 |h1)
    ·exact h h1
    ·exact hne h1.symm)
theorem zkR (c:UInt8)(s:Str):Lib.split s [c]=curS c [] s:=ze2 c s [] (by simp)
theorem zhP (u c:UInt8):(((UInt8.toNat u:Nat):Int)==((UInt8.toNat c:Nat):Int))=(u==c):=by
 have: ∀ b c:Bool,(b=true↔c=true)->b=c:=by decide
 apply this
 rw[beq_iff_eq,beq_iff_eq,<- UInt8.toNat_inj]
 omega
theorem zjM {s:Str}{c:UInt8}{most:Nat}(hs:s.length<=1048576)(hm:most<=1000): ∀ (n:Nat) (out:List Str) (from_ i m:Nat),i+n=s.length->n<m->from_<=i->out.length<=most->
 zee s c (most:Int) (fun y3 y6 y7=>(slM s y6 (s.length:Int)).bind fun q38=>(apM y3 [q38]).bind fun q43=>some q43) m out (from_:Int) (i:Int)=some (out++zdA c (most-out.length) ((s.take i).drop from_) (s.drop i))
 |n,out,f,i,0,_,hm,_,_=>by omega
 |n,out,f,i,m+1,hi,hn,hf,ho=>by
  have hdone:(slM s (f:Int) (s.length:Int)).bind (fun q38=>(apM out [q38]).bind fun q43=>some q43)=some (out++[s.drop f]):=by
   rw[zhp (by omega),aA,ap1 (by omega),aA]
  have hw:(s.take i).drop f++s.drop i=s.drop f:=by
   rw[<- List.drop_append_of_le_length (by simp;omega),List.take_append_drop]
  simp only[zee,jn]
  by_cases h1:(i:Int)< (s.length:Int)
  case neg=>
   rw[aE h1,aC,aC,hdone]
   have:s.drop i=[]:=List.drop_eq_nil_of_le (by omega)
   rw[this]at hw ⊢
   rw[List.append_nil]at hw
   rw[hw]
   cases most-out.length<;>simp[zdA]
  rw[aF h1,aD]
  have hlt:i<s.length:=by omega
  have hx:s[i]? =some s[i]:=aB hlt
  by_cases h2:(out.length:Int)< (most:Int)
  case neg=>
   rw[aE h2,aC,hdone]
   have:most-out.length=0:=by omega
   rw[this,zdR,hw]
  obtain⟨n,rfl⟩: ∃ k,n=k+1:=⟨n-1,by omega⟩
  obtain⟨k,hk⟩: ∃ k,most-out.length=k+1:=⟨most-out.length-1,by omega⟩
  rw[aF h2,aD,zf2 hx,aA,zhP,hk,aI hlt]
  unfold zdA
  cases hb:s[i]==c with
  |true=>
   rw[aD,aD,zi3 (by omega) (by omega) (by omega),aA,ap1 (by omega),aA,zac hlt (by unfold maxi;omega),zjM hs hm n _ (i+1) (i+1) m (by omega) (by omega) (by omega) (by simp;omega)]
   have e1:most-(out++[((s.take ((i:Nat):Int).toNat)).drop ((f:Nat):Int).toNat]).length=k:=by simp;omega
   have e2:(s.take (i+1)).drop (i+1)=[]:=List.drop_eq_nil_of_le (by simp;omega)
   rw[e1,e2]
   simp
  |false=>
   rw[aC,aC,zac hlt (by unfold maxi;omega),zjM hs hm n _ f (i+1) m (by omega) (by omega) (by omega) ho,hk]
   have e2:(s.take (i+1)).drop f=(s.take i).drop f++[s[i]]:=by
    rw[List.take_add_one,hx]
    rw[List.drop_append_of_le_length (by simp;omega)]
    rfl
   rw[e2]
theorem zkS {s:Str}{c:UInt8}{most:Nat}(hs:s.length<=1048576)(hm:most<=1000):zgG s c (most:Int)=some (zdA c most [] s):=by
 unfold zgG
 simp only[jn]
 have:=zjM (c:=c) (most:=most) hs hm s.length [] 0 0 (s.length+1) (by omega) (by omega) (Nat.le_refl _) (by simp)
 simpa using this
def zaC (s:Str):Bool:=decide ((curS 47 [] s).length<=3)&&(curS 47 [] s).all zax
theorem zgs (c:UInt8): ∀ (r w:Str),∀ p∈curS c w r,p.length<=w.length+r.length
 | [],w,p,h=>by simp[curS]at h;rw[h];omega
 |x::r,w,p,h=>by
  unfold curS at h
  cases hx:x==c with
  |true=>
   rw[hx,aD]at h
   rcases List.mem_cons.1 h with e |e
   ·rw[e];omega
   ·have:=zgs c r [] p e
    simp at this ⊢
    omega
  |false=>
   rw[hx,aC]at h
   have:=zgs c r (w++[x]) p h
   simp at this ⊢
   omega
theorem zeM (c:UInt8): ∀ (r w:Str),(curS c w r).length<=r.length+1
 | [],w=>by simp[curS]
 |x::r,w=>by
  unfold curS
  cases x==c
  ·have:=zeM c r (w++[x]);simp at this ⊢;omega
  ·have:=zeM c r [];simp at this ⊢;omega
theorem zbM {s:Str}(h:s.length<=1048576):zfd s=some (zaC s):=by
 unfold zfd strings_Split zaC
 rw[if_pos ⟨by omega,by simp⟩,aA,zkR]
 have hl:=zeM 47 s []
 by_cases h3:(3:Int)< ((curS 47 [] s).length:Int)
 ·rw[aF h3,aD,aE (by omega)];rfl
 rw[aE h3,aC,aF (by omega),Bool.true_and]
 simp only[jn,zap]
 rw[zau (α:=Str) (xs:=curS 47 [] s) (p:=zax) (r0:=some false) (Z:=some true) (f:=fun m i=>zb6 (curS 47 [] s) (fun _ _=>some true) m false i) (fun m i x hx=>by
  have hf:=zgs 47 s [] x (aH hx)
  simp only[zb6,zam hx,zad hx,aD,aA,zac (zat hx) (show(curS 47 [] s).length<=maxi by unfold maxi;omega),ze1 (show x.length<=maxi by unfold maxi;simp at hf;omega)]
  cases zax x<;>rfl) (fun m=>by simp only[zb6,zag,aC]) (by omega)]
 cases(curS 47 [] s).all zax<;>rfl
theorem zgd (c:UInt8): ∀ (r:Str) (n:Nat) (w:Str),∀ p∈zdA c n w r,p.length<=w.length+r.length
 | [],n,w,p,h=>by cases n<;>simp[zdA]at h<;>rw[h]<;>omega
 |x::r,0,w,p,h=>by simp[zdA]at h;rw[h];simp
 |x::r,n+1,w,p,h=>by
  unfold zdA at h
  cases hx:x==c with
  |true=>
   rw[hx,aD]at h
   rcases List.mem_cons.1 h with e |e
   ·rw[e];omega
   ·have:=zgd c r n [] p e
    simp at this ⊢
    omega
  |false=>
   rw[hx,aC]at h
   have:=zgd c r (n+1) (w++[x]) p h
   simp at this ⊢
   omega
theorem zdG {s:Str}(h:s.length<=1048576):zec s=some (zaC s):=by
 unfold zec zaC
 have e47:(UInt8.ofNatLT 47 (by decide):UInt8)=47:=by decide
 have hc:=zkS (c:=UInt8.ofNatLT 47 (by decide)) (most:=3) h (by omega)
 rw[show(3:Int)=((3:Nat):Int) from rfl,hc,aA,e47]
 simp only[jn,zap]
 have hlen:(zdA 47 3 [] s).length<=maxi:=by
  rcases Nat.lt_or_ge (curS 47 [] s).length 4 with h1 |h1
  ·rw[zcp 47 s 3 [] (by omega)];unfold maxi;omega
  ·rw[zdF 47 s 3 [] h1];unfold maxi;omega
 rw[zau (α:=Str) (xs:=zdA 47 3 [] s) (p:=zax) (r0:=some false) (Z:=some (decide (((zdA 47 3 [] s).length:Int)<=((3:Nat):Int)))) (f:=fun m i=>zbV (zdA 47 3 [] s) (fun _ _=>some (decide (((zdA 47 3 [] s).length:Int)<=((3:Nat):Int)))) m false i) (fun m i x hx=>by
  have hf:=zgd 47 s 3 [] x (aH hx)
  simp only[zbV,zam hx,zad hx,aD,aA,zac (zat hx) hlen,zaT (show x.length<=maxi by unfold maxi;simp at hf;omega)]
  cases zax x<;>rfl) (fun m=>by simp only[zbV,zag,aC]) (by omega)]
 rcases Nat.lt_or_ge (curS 47 [] s).length 4 with h1 |h1
 ·rw[zcp 47 s 3 [] (by omega),aF (show((curS 47 [] s).length:Int)<=((3:Nat):Int) by omega),aF (show(curS 47 [] s).length<=3 by omega)]
  cases(curS 47 [] s).all zax<;>rfl
 ·rw[zdF 47 s 3 [] h1,aE (show ¬ (curS 47 [] s).length<=3 by omega)]
  cases(zdA 47 3 [] s).all zax<;>rfl
theorem zhv (a b:Str):(Op.bytesLess a b||a==b) = !Op.bytesLess b a:=by
 rw[zaN,zaN]
 by_cases h:b<a
 ·have h1: ¬ a<b:=fun h2=>zao a (zaQ h2 h)
  have h2: ¬ a=b:=fun e=>by rw[e]at h;exact zao b h
  simp[h,h1,h2]
 ·by_cases e:a=b
  ·simp[h,e]
  ·have:=zbb (zgS.1 h) e
   simp[h,this]
def OB (xs:List Owner):Prop:=xs.length<=1048576 /\ ∀ x∈xs,x.Path.length<=1048576/\x.Who.length<=1048576
theorem OB.of {xs:List Owner}(h:Bk.bulk xs<=1048576):OB xs:=⟨zcw h,fun x hx=>by
 have h1:Bk.bulk x<=1048576:=zgf h hx
 have h2:Bk.bulk x=x.Path.length+x.Who.length:=rfl
 omega⟩
theorem OB.at_ {xs:List Owner}(h:OB xs){i:Nat}{x:Owner}(hx:xs[i]? =some x):x.Path.length<=1048576/\x.Who.length<=1048576:=h.2 x (aH hx)
def zaI (d p:Str):Bool:=(d++[47]).isPrefixOf p
theorem zjN {d p:Str}(hd:d.length<=1048576)(hp:p.length<=1048576)(h1:zaC d=true)(h2:zaC p=true):zbq d p=some (zaI d p):=by
 unfold zbq strings_HasPrefix zaI
 have hs:saM d ([47]:Str)=some (d++[47]):=by
  unfold saM
  rw[if_pos]
  simp only[aL,List.length_nil,lim]
  omega
 simp only[jn,zbM hd,zbM hp,h1,h2,aA,aD,hs,Lib.hasPrefix]
theorem ze3 {c:UInt8}: ∀ {d p:Str},(d++[c]).isPrefixOf p=(p.take d.length==d&&p[d.length]? ==some c)
 | [],[]=>by simp
 | [],x::p=>by
  by_cases e:c=x
  ·subst e;simp[List.isPrefixOf]
  ·have e1:(c==x)=false:=beq_false_of_ne e
   have e2:((some x:Option UInt8)==some c)=false:=beq_false_of_ne (fun h=>e (Option.some.inj h).symm)
   simp only[List.nil_append,List.isPrefixOf,e1,List.length_nil,List.take_zero,List.getElem?_cons_zero,e2,Bool.false_and,Bool.and_false]
 |y::d,[]=>by simp[List.isPrefixOf]
 |y::d,x::p=>by
  have ih:=ze3 (c:=c) (d:=d) (p:=p)
  simp only[List.cons_append,List.isPrefixOf,aL,List.take_succ_cons,List.getElem?_cons_succ,ih]
  by_cases e:y=x
  ·subst e
   simp
  ·have e1:(y==x)=false:=beq_false_of_ne e
   have e2:(x==y)=false:=beq_false_of_ne (fun h=>e h.symm)
   simp[e1,e2]
theorem zhQ {d p:Str}(hp:p.length<=1048576):zhi d p=some (zaI d p):=by
 unfold zhi zaI
 simp only[jn]
 rw[ze3]
 by_cases hl:(d.length:Int)< (p.length:Int)
 ·have hlt:d.length<p.length:=by omega
  have hx:p[d.length]? =some p[d.length]:=aB hlt
  rw[aF hl,aD,zfv (by omega),aA,hx]
  cases p.take d.length==d with
  |false=>rfl
  |true=>
   rw[aD,zf2 hx,aA,Bool.true_and]
   congr 1
   have:=(show ∀ u:UInt8,(((UInt8.toNat u:Nat):Int)==(47:Int))=(some u==some (47:UInt8)) from fun u=>by
    have hb:=zhP u 47
    rw[show(((UInt8.toNat (47:UInt8):Nat):Int))=47 from rfl]at hb
    rw[hb]
    simp)
   exact this _
 ·rw[aE hl,aC,List.getElem?_eq_none (by omega)]
  simp
def zlt (s:Str):Bool:=s.all fun c=> !(c==124)
def zfk (t:List Str):Bool:=t.all zlt
theorem zhR {t:List Str}(h:Bk.fit t):zef t=some (zfk t&&zaq t):=by
 have hl:=zjt h
 unfold zef zfk
 simp only[jn,zap,zhM h,aA]
 rw[zau (α:=Str) (xs:=t) (p:=zlt) (r0:=some false) (Z:=some (zaq t)) (f:=fun m i=>zaF t (fun _ _=>some (zaq t)) m false i) (fun m i x hx=>by
  have hx2:x.length<=maxi:=zk3 h hx
  have b124: ∀ u:UInt8,(((UInt8.toNat u:Nat):Int)==(124:Int))=(u==124):=fun u=>by
   have hb:=zhP u 124
   rw[show(((UInt8.toNat (124:UInt8):Nat):Int))=124 from rfl]at hb
   exact hb
  simp only[zaF,zam hx,zad hx,aD,jn,Option.getD_some]
  rw[zau (α:=UInt8) (xs:=x) (p:=fun c=> !(c==124)) (r0:=some false) (Z:=zaF t (fun _ _=>some (zaq t)) m false ((i+1:Nat):Int)) (f:=fun m' k=>zbh t (i:Int) (fun y10 y11=>zaF t (fun _ _=>some (zaq t)) m y10 (w64 ((i:Int)+1))) m' false k) (fun m' k c hc=>by
   simp only[zbh,zad hx,aA,zam hc,aD,zf2 hc,b124,zac (zat hc) hx2]
   cases c==124<;>rfl) (fun m'=>by simp only[zbh,zad hx,aA,zag,aC,zac (zat hx) hl]) (by omega)]
  rfl) (fun m=>by simp only[zaF,zag,aC]) (by omega)]
 cases t.all zlt<;>rfl
def opB (o:Op):Bool:=
 zax o.Branch&&(zax o.Who&&
  (bif o.Kind==1 then zaC o.Path&&(zaq o.Text&&(zfk o.Text&&(o.To==[]&&o.At==0)))
   else bif o.Kind==2 then zaC o.Path&&(o.To==[]&&(o.At==0&&(o.Text.length:Int)==0))
   else bif o.Kind==3 then zaC o.Path&&(zaC o.To&&(o.At==0&&(o.Text.length:Int)==0))
   else bif o.Kind==4||o.Kind==5 then zax o.To&&(o.Path==[]&&(o.At==0&&(o.Text.length:Int)==0))
   else bif o.Kind==6||o.Kind==7 then(decide (0<=o.At)&&decide (o.At<=15))&&(o.Path==[]&&(o.To==[]&&(o.Text.length:Int)==0))
   else false))
structure OpFit (o:Op):Prop where
 fit:Bk.fit o
 path:o.Path.length<=1048576
 to:o.To.length<=1048576
 text:Bk.bulk o.Text<=1048576
theorem OpFit.of {o:Op}(h:Bk.fit o)(hb:Bk.bulk o<=1048576):OpFit o:=by
 have e:Bk.bulk o=Bk.bulk o.Kind+(Bk.bulk o.Branch+(Bk.bulk o.Who+(Bk.bulk o.Path+(Bk.bulk o.To+(Bk.bulk o.At+Bk.bulk o.Text))))):=rfl
 have e1:Bk.bulk o.Path=o.Path.length:=rfl
 have e2:Bk.bulk o.To=o.To.length:=rfl
 exact⟨h,by omega,by omega,by omega⟩
theorem zlK (o:Op)(p q r s:Bool):zdN o p q r s=some ((p||o.Path==[])&&((q||o.To==[])&&((r||o.At==0)&&(s||(o.Text.length:Int)==0)))):=by
 unfold zdN
 simp only[jn]
 cases p<;>cases q<;>cases r<;>cases s<;>cases(o.Path==([]:Str))<;>cases(o.To==([]:Str))<;>cases((o.At:Int)==(0:Int))<;>rfl
theorem zkT {o:Op}(h:OpFit o):zgH o=some (opB o):=by
 obtain⟨f0,f1,f2,f3,f4,f5,f6⟩:=h.fit
 unfold zgH opB
 simp only[jn,zaT f1,zaT f2,zaT f4,zdG h.path,zdG h.to,zhR f6,zlK,aA,zco]
 cases zax o.Branch
 ·rfl
 cases zax o.Who
 ·rfl
 simp only[aK,aC,Bool.true_and,Bool.true_or,Bool.false_or,Bool.and_true]
 cases(o.Kind==(1:Int))
 case true=>cases zaC o.Path<;>cases zaq o.Text<;>cases zfk o.Text<;>cases(o.To==([]:Str))<;>cases(o.At==(0:Int))<;>rfl
 cases(o.Kind==(2:Int))
 case true=>cases zaC o.Path<;>cases(o.To==([]:Str))<;>cases(o.At==(0:Int))<;>cases((o.Text.length:Int)==0)<;>rfl
 cases(o.Kind==(3:Int))
 case true=>cases zaC o.Path<;>cases zaC o.To<;>cases(o.At==(0:Int))<;>cases((o.Text.length:Int)==0)<;>rfl
 simp only[aC]
 cases(o.Kind==(4:Int))<;>cases(o.Kind==(5:Int))<;>cases(o.Kind==(6:Int))<;>cases(o.Kind==(7:Int))<;>cases zax o.To<;>cases(o.Path==([]:Str))<;>cases(o.At==(0:Int))<;>cases(o.To==([]:Str))<;>cases((o.Text.length:Int)==0)<;>cases(decide (0<=o.At)&&decide (o.At<=15))<;>rfl
theorem zcX: ∀ {b c:Bool},(b=true↔c=true)->b=c:=by decide
theorem zjO {i n:Nat}(hi:i<n)(hn:n<=maxi)(h0:(0:Int)< (i:Int)):w64 ((i:Int)-1)=((i-1:Nat):Int):=by
 rw[zai (by omega) (by unfold maxi at hn;omega)];omega
structure FB (f:File):Prop where
 path:f.Path.length<=1048576
 len:f.Text.length<=1048576
 text:Bk.fit f.Text
def TB (t:List File):Prop:=t.length<=1048576 /\ ∀ f∈t,FB f
theorem TB.at_ {t:List File}(h:TB t){i:Nat}{f:File}(hf:t[i]? =some f):FB f:=h.2 f (aH hf)
theorem TB.maxi {t:List File}(h:TB t):t.length<=maxi:=zaj h.1
theorem TB.nil:TB []:=⟨by simp,fun f hf=>by simp at hf⟩
def zch:File:=⟨[],[]⟩
theorem zbe {t:List File}{i:Nat}{f:File}(h:t[i]? =some f):t.getD i zch=f:=by simp[List.getD,h]
theorem zis {t:List File}{i:Nat}{f:File}(h:t[i]? =some f)(hl:t.length<=maxi)(h0:(0:Int)< (i:Int)): ∃ y,gi t (w64 ((i:Int)-1))=some y/\t.getD (i-1) zch=y:=by
 have hi:=zat h
 have hx:t[i-1]? =some t[i-1]:=aB (by omega)
 exact⟨_,by rw[zjO hi hl h0];exact zad hx,zbe hx⟩
def zfC (t:List File)(i:Nat):Bool:=zaC (t.getD i zch).Path&&(zaq (t.getD i zch).Text&&(bif decide (0< (i:Int)) then Op.bytesLess (t.getD (i-1) zch).Path (t.getD i zch).Path else true))
def zfD (t:List File)(i:Nat):Bool:=zfC t i&&t.all fun f=> !zaI (t.getD i zch).Path f.Path
def zhS (t:List File)(i:Nat):Bool:=zfC t i&&(t.take i).all fun f=> !(zaC f.Path&&(zaC (t.getD i zch).Path&&zaI f.Path (t.getD i zch).Path))
def zar (t:List File):Bool:=decide ((t.length:Int)<=8)&&zfJ (zfD t) 0 t.length
theorem zlL (d:Str)(x:UInt8)(r:Str):d<d++x::r:=by
 induction d with
 |nil=>exact List.nil_lt_cons _ _
 |cons a d ih=>exact List.cons_lt_cons_self.2 ih
theorem zkU {d p:Str}(h:zaI d p=true):d<p:=by
 unfold zaI at h
 obtain⟨t,rfl⟩:=List.isPrefixOf_iff_prefix.1 h
 rw[List.append_assoc]
 exact zlL d 47 t
theorem zjj {t:List File}{n:Nat}(h: ∀ i,i<n->zfC t i=true){i j:Nat}(hij:i<j)(hj:j<n):(t.getD i zch).Path< (t.getD j zch).Path:=by
 induction j with
 |zero=>omega
 |succ j ih=>
  have h1:=h (j+1) hj
  unfold zfC at h1
  rw[aF (by omega),aD,Nat.add_sub_cancel]at h1
  simp only[aG,zaN,decide_eq_true_eq]at h1
  rcases Nat.lt_or_ge i j with h2 |h2
  ·exact zaQ (ih h2 (by omega)) h1.2.2
  ·have:i=j:=by omega
   subst this
   exact h1.2.2
theorem ziL (t:List File):zfJ (zhS t) 0 t.length=zfJ (zfD t) 0 t.length:=by
 apply zcX
 rw[zaJ,zaJ]
 constructor
 ·intro h
  have hf: ∀ i,i<t.length->zfC t i=true:=fun i hi=>by
   have:=h i (Nat.zero_le _) (by omega)
   unfold zhS at this
   simp only[aG]at this
   exact this.1
  intro i _ hi
  have hi':i<t.length:=by omega
  unfold zfD
  rw[hf i hi',Bool.true_and,List.all_eq_true]
  intro f hm
  obtain⟨k,hk⟩:=List.mem_iff_getElem?.1 hm
  have hkl:=zat hk
  cases hb:zaI (t.getD i zch).Path f.Path with
  |false=>rfl
  |true=>
   exfalso
   have hlt:=zkU hb
   rcases Nat.lt_trichotomy i k with h1 |h1 |h1
   ·have:=h k (Nat.zero_le _) (by omega)
    unfold zhS at this
    simp only[aG,List.all_eq_true]at this
    have h2:=this.2 t[i] (aH (i:=i) (by rw[List.getElem?_take_of_lt h1];exact aB hi'))
    have p1:=hf i hi'
    have p2:=hf k hkl
    unfold zfC at p1 p2
    simp only[aG]at p1 p2
    rw[zbe hk]at h2 p2
    rw[zbe (aB hi')]at hb p1
    rw[p1.1,p2.1,hb]at h2
    simp at h2
   ·subst h1
    rw[zbe hk]at hlt
    exact zao _ hlt
   ·have:=zjj hf h1 hi'
    rw[zbe hk]at this
    exact zao _ (zaQ hlt this)
 ·intro h i _ hi
  have hi':i<t.length:=by omega
  have h1:=h i (Nat.zero_le _) hi
  unfold zfD at h1
  simp only[aG]at h1
  unfold zhS
  rw[h1.1,Bool.true_and,List.all_eq_true]
  intro f hm
  obtain⟨k,hk⟩:=List.mem_iff_getElem?.1 hm
  obtain⟨hk',hki⟩:=show t[k]? =some f/\k<i from by
   rw[List.getElem?_take]at hk
   split at hk
   ·exact⟨hk,by assumption⟩
   ·cases hk
  have h2:=h k (Nat.zero_le _) (by omega)
  unfold zfD at h2
  simp only[aG,List.all_eq_true]at h2
  have h3:=h2.2 t[i] (List.getElem_mem hi')
  rw[zbe hk']at h3
  rw[zbe (aB hi')]
  have h4:zaI f.Path t[i].Path=false:=by simpa using h3
  rw[h4]
  simp
theorem zdj {t:List File}(h:TB t):zc7 t=some (zar t):=by
 have hm:=h.maxi
 unfold zc7 zar
 simp only[jn,zap]
 rw[zbn (n:=t.length) (g:=zfD t) (r0:=some false) (Z:=some (decide ((t.length:Int)<=8))) (f:=fun m i=>zc6 t (fun _ _=>some (decide ((t.length:Int)<=8))) m false i) (fun m i hi=>by
  have hx:t[i]? =some t[i]:=aB hi
  have fx:=h.at_ hx
  simp only[zc6,jn,zam hx,zad hx,aD,aA,zac hi hm,zdG fx.path,zhM fx.text]
  unfold zfD zfC
  rw[zbe hx]
  have hin: ∀ K:Bool->Int->Option Bool,zbG t (i:Int) K (t.length+1) false 0=bif t.all (fun f=> !zaI t[i].Path f.Path) then K false (t.length:Int) else some false:=fun K=>by
   rw[zau (α:=File) (xs:=t) (p:=fun f=> !zaI t[i].Path f.Path) (r0:=some false) (Z:=K false (t.length:Int)) (f:=fun m k=>zbG t (i:Int) K m false k) (fun m k f hf=>by
    simp only[zbG,zam hf,zad hf,zad hx,aD,aA,zac (zat hf) hm,zhQ (h.at_ hf).path]
    cases zaI t[i].Path f.Path<;>rfl) (fun m=>by simp only[zbG,zag,aC]) (by omega)]
  cases zaC t[i].Path
  ·rfl
  cases zaq t[i].Text
  ·rfl
  simp only[aK,aC,Bool.true_and]
  by_cases h0:(0:Int)< (i:Int)
  ·obtain⟨y,hy,ey⟩:=zis hx hm h0
   rw[hy,ey,aF h0]
   simp only[aA,zhv,aD]
   cases Op.bytesLess y.Path t[i].Path
   ·rfl
   ·simp only[aK,aC,Bool.true_and,zap,hin]
  ·rw[aE h0]
   simp only[aC,Bool.true_and,zap,hin]) (fun m=>by simp only[zc6,zag,aC]) _ (by omega)]
 cases decide ((t.length:Int)<=8)<;>cases zfJ (zfD t) 0 t.length<;>rfl
theorem ziM {d p:Str}(hd:d.length<=1048576)(hp:p.length<=1048576):zbq d p=some (zaC d&&(zaC p&&zaI d p)):=by
 cases h1:zaC d with
 |false=>unfold zbq;simp only[jn,zbM hd,h1,aA,aC,Bool.false_and]
 |true=>
  cases h2:zaC p with
  |false=>unfold zbq;simp only[jn,zbM hd,zbM hp,h1,h2,aA,aC,aD,Bool.false_and,Bool.and_false]
  |true=>rw[zjN hd hp h1 h2];rfl
theorem ziC {t:List File}(h:TB t):zfe t=some (zar t):=by
 have hm:=h.maxi
 unfold zfe zar
 by_cases h8:(8:Int)< (t.length:Int)
 ·rw[aF h8,aE (by omega)];rfl
 rw[aE h8,aF (by omega),aC,Bool.true_and,<- ziL]
 simp only[jn,zap]
 rw[zbn (n:=t.length) (g:=zhS t) (r0:=some false) (Z:=some true) (f:=fun m i=>zb7 t (fun _ _=>some true) m false i) (fun m i hi=>by
  have hx:t[i]? =some t[i]:=aB hi
  have fx:=h.at_ hx
  simp only[zb7,jn,zam hx,zad hx,aD,aA,zac hi hm,zbM fx.path,zic fx.text,zfv (Nat.le_of_lt hi),zap]
  unfold zhS zfC
  rw[zbe hx]
  have hin: ∀ K:Bool->Int->Option Bool,za2 t[i] (t.take i) K ((t.take i).length+1) false 0=bif(t.take i).all (fun f=> !(zaC f.Path&&(zaC t[i].Path&&zaI f.Path t[i].Path))) then K false ((t.take i).length:Int) else some false:=fun K=>by
   rw[zau (α:=File) (xs:=t.take i) (p:=fun f=> !(zaC f.Path&&(zaC t[i].Path&&zaI f.Path t[i].Path))) (r0:=some false) (Z:=K false ((t.take i).length:Int)) (f:=fun m k=>za2 t[i] (t.take i) K m false k) (fun m k f hf=>by
    have hf2:FB f:=h.2 f (List.mem_of_mem_take (aH hf))
    simp only[za2,zam hf,zad hf,aD,aA,zac (zat hf) (show(t.take i).length<=maxi by simp;omega),ziM hf2.path fx.path]
    cases(zaC f.Path&&(zaC t[i].Path&&zaI f.Path t[i].Path))<;>rfl) (fun m=>by simp only[za2,zag,aC]) (by omega)]
  cases zaq t[i].Text
  ·cases zaC t[i].Path<;>rfl
  cases hp:zaC t[i].Path
  ·rfl
  simp only[aK,aC,Bool.true_and]
  by_cases h0:(0:Int)< (i:Int)
  ·obtain⟨y,hy,ey⟩:=zis hx hm h0
   rw[hy,ey,aF h0]
   simp only[aA,aD]
   cases Op.bytesLess y.Path t[i].Path
   ·rfl
   ·simp only[aK,aC,Bool.true_and,zap,hin,hp]
  ·rw[aE h0]
   simp only[aC,Bool.true_and,zap,hin,hp]) (fun m=>by simp only[zb7,zag,aC]) _ (by omega)]
 cases zfJ (zhS t) 0 t.length<;>rfl
structure CB (c:Commit):Prop where
 par:c.Parents.length<=1048576
 who:c.Who.length<=1048576
 tree:TB c.Tree
structure RpB (r:Repo):Prop where
 coms:r.Commits.length<=1048576
 com: ∀ c∈r.Commits,CB c
 heads:r.Heads.length<=1048576
 head: ∀ h∈r.Heads,h.Name.length<=1048576
theorem RpB.cat {r:Repo}(h:RpB r){i:Nat}{c:Commit}(hc:r.Commits[i]? =some c):CB c:=h.com c (aH hc)
theorem RpB.hat {r:Repo}(h:RpB r){i:Nat}{c:Head}(hc:r.Heads[i]? =some c):c.Name.length<=1048576:=h.head c (aH hc)
def zdt:Head:=⟨[],0⟩
theorem zaX {t:List Head}{i:Nat}{f:Head}(h:t[i]? =some f):t.getD i zdt=f:=by simp[List.getD,h]
theorem zit {t:List Head}{i:Nat}{f:Head}(h:t[i]? =some f)(hl:t.length<=maxi)(h0:(0:Int)< (i:Int)): ∃ y,gi t (w64 ((i:Int)-1))=some y/\t.getD (i-1) zdt=y:=by
 have hi:=zat h
 have hx:t[i-1]? =some t[i-1]:=aB (by omega)
 exact⟨_,by rw[zjO hi hl h0];exact zad hx,zaX hx⟩
def upB (i p:Int):Bool:=decide (0<=p)&&decide (p<=i-1)
def zlm (ps:List Int):Bool:=match ps with
 | [p,q]=> !(p==q)
 |_=>true
def zi8 (i:Int)(c:Commit):Bool:=c.Parents.all (upB i)&&(decide ((c.Parents.length:Int)<=2)&&(zlm c.Parents&&(zax c.Who&&zar c.Tree)))
def noCommit:Commit:=⟨[],[],[]⟩
def zj3 (cs:List Commit):Bool:=zfJ (fun i=>zi8 i (cs.getD i noCommit)) 0 cs.length
def zet (n:Nat)(hs:List Head)(i:Nat):Bool:=zax (hs.getD i zdt).Name&&(upB n (hs.getD i zdt).At&&(bif decide (0< (i:Int)) then Op.bytesLess (hs.getD (i-1) zdt).Name (hs.getD i zdt).Name else true))
def zbN (n:Nat)(hs:List Head):Bool:=zfJ (zet n hs) 0 hs.length&&decide ((hs.length:Int)<=5)
def zaa (r:Repo):Bool:=decide ((r.Commits.length:Int)<=16)&&(zj3 r.Commits&&zbN r.Commits.length r.Heads)
theorem zdb {t:List Commit}{i:Nat}{f:Commit}(h:t[i]? =some f):t.getD i noCommit=f:=by simp[List.getD,h]
theorem zcI {n:Nat}(hn:n<=maxi):w64 ((n:Int)-1)=(n:Int)-1:=zai (by omega) (by unfold maxi at hn;omega)
def zlM (i:Int)(ps:List Int)(k:Nat):Bool:=upB i (ps.getD k 0) && !(decide (0< (k:Int))&&(ps.getD k 0==ps.getD 0 0))
theorem zbS {t:List Int}{i:Nat}{f:Int}(h:t[i]? =some f):t.getD i 0=f:=by simp[List.getD,h]
theorem zjP (i:Int)(ps:List Int)(h2:(ps.length:Int)<=2):zfJ (zlM i ps) 0 ps.length=(ps.all (upB i)&&zlm ps):=by
 match ps,h2 with
 | [],_=>rfl
 | [p],_=>simp[zfJ,zlM,zlm]
 | [p,q],_=>
  simp only[zfJ,zlM,zlm,aL,List.length_nil,List.all_cons,List.all_nil]
  have e:(q==p)=(p==q):=by
   apply zcX;rw[beq_iff_eq,beq_iff_eq];exact eq_comm
  simp[e]
  cases upB i p<;>cases upB i q<;>simp
 |p::q::s::l,h=>simp at h;omega
theorem zoO {i:Nat}{c:Commit}(hi:i<=1048576)(hc:CB c)(K:Bool->Int->Option Bool):zbH (i:Int) c K (c.Parents.length+1) false 0=bif zfJ (zlM i c.Parents) 0 c.Parents.length then K false (c.Parents.length:Int) else some false:=by
 have hm:=zaj hc.par
 rw[zbn (n:=c.Parents.length) (g:=zlM i c.Parents) (r0:=some false) (Z:=K false (c.Parents.length:Int)) (f:=fun m k=>zbH (i:Int) c K m false k) (fun m k hk=>by
  have hx:c.Parents[k]? =some c.Parents[k]:=aB hk
  have h00:c.Parents[0]? =some c.Parents[0]:=aB (by omega)
  have hg0:gi c.Parents 0=some c.Parents[0]:=zad (i:=0) h00
  simp only[zbH,jn,zam hx,zad hx,hg0,aD,aA,zac hk hm,zco,zcI (show i<=maxi by unfold maxi;omega)]
  unfold zlM
  rw[zbS hx,zbS h00,show(decide ((0:Int)<=c.Parents[k])&&decide (c.Parents[k]<=(i:Int)-1))=upB i c.Parents[k] from rfl]
  cases upB (i:Int) c.Parents[k]
  ·rfl
  ·cases decide ((0:Int)< (k:Int))
   ·rfl
   ·cases(c.Parents[k]==c.Parents[0])<;>rfl) (fun m=>by simp only[zbH,zag,aC]) _ (by omega)]
theorem zoP {r:Repo}(h:RpB r):zbI r (fun _ _=>jn (fun(y128:Bool)=>some y128) fun K130=>bif decide (((r.Commits.length:Int):Int)<=(16:Int)) then(K130 (decide (((r.Heads.length:Int):Int)<=(5:Int)))) else(K130 false)) (r.Heads.length+1) false 0=some (decide ((r.Commits.length:Int)<=16)&&zbN r.Commits.length r.Heads):=by
 have hm:=zaj h.heads
 rw[zbn (n:=r.Heads.length) (g:=zet r.Commits.length r.Heads) (r0:=some false) (Z:=some (decide ((r.Commits.length:Int)<=16)&&decide ((r.Heads.length:Int)<=5))) (f:=fun m k=>zbI r _ m false k) (fun m k hk=>by
  have hx:r.Heads[k]? =some r.Heads[k]:=aB hk
  simp only[zbI,jn,zam hx,zad hx,aD,aA,zac hk hm,zco,zcI (zaj h.coms),zaT (zaj (h.hat hx))]
  unfold zet
  rw[zaX hx,show(decide ((0:Int)<=r.Heads[k].At)&&decide (r.Heads[k].At<=(r.Commits.length:Int)-1))=upB r.Commits.length r.Heads[k].At from rfl]
  cases zax r.Heads[k].Name
  ·rfl
  cases upB r.Commits.length r.Heads[k].At
  ·rfl
  by_cases h0:(0:Int)< (k:Int)
  ·obtain⟨y,hy,ey⟩:=zit hx hm h0
   rw[hy,ey,aF h0]
   simp only[aA,zhv]
   cases Op.bytesLess y.Name r.Heads[k].Name<;>rfl
  ·rw[aE h0];rfl) (fun m=>by
   simp only[zbI,zag,aC,jn]
   cases decide ((r.Commits.length:Int)<=16)<;>rfl) _ (by omega)]
 unfold zbN
 cases zfJ (zet r.Commits.length r.Heads) 0 r.Heads.length<;>cases decide ((r.Commits.length:Int)<=16)<;>rfl
theorem zbE {r:Repo}(h:RpB r):zcr r=some (zaa r):=by
 have hm:=zaj h.coms
 unfold zcr zaa zj3
 simp only[jn,zap]
 have h3:=zoP h
 simp only[jn]at h3
 rw[zbn (n:=r.Commits.length) (g:=fun i=>zi8 i (r.Commits.getD i noCommit)) (r0:=some false) (Z:=some (decide ((r.Commits.length:Int)<=16)&&zbN r.Commits.length r.Heads)) (f:=fun m i=>zc8 r _ m false i) (fun m i hi=>by
  have hx:r.Commits[i]? =some r.Commits[i]:=aB hi
  have hc:=h.cat hx
  have hco:=h.coms
  simp only[zc8,jn,zam hx,zad hx,aD,aA,zac hi hm,zap,zoO (show i<=1048576 by omega) hc,zdb hx]
  unfold zi8
  by_cases h2:(2:Int)< (r.Commits[i].Parents.length:Int)
  ·rw[aF h2,aE (show ¬ (r.Commits[i].Parents.length:Int)<=2 by omega)]
   simp only[aD,Bool.false_and,Bool.and_false,aC]
   cases zfJ (zlM i r.Commits[i].Parents) 0 r.Commits[i].Parents.length<;>rfl
  ·rw[aE h2,aF (show(r.Commits[i].Parents.length:Int)<=2 by omega),zjP _ _ (by omega)]
   simp only[aC,Bool.true_and,zaT (zaj hc.who),zdj hc.tree,aA]
   cases r.Commits[i].Parents.all (upB i)<;>cases zlm r.Commits[i].Parents<;>cases zax r.Commits[i].Who<;>cases zar r.Commits[i].Tree<;>rfl) (fun m=>by
   simp only[zc8,zag,aC,jn,zap,h3]) _ (by omega)]
 cases zfJ (fun i=>zi8 i (r.Commits.getD i noCommit)) 0 r.Commits.length<;>cases decide ((r.Commits.length:Int)<=16)<;>rfl
theorem ziN {r:Repo}(h:RpB r){hs:List Head}(hl:hs.length<=1048576)(hn: ∀ h∈hs,h.Name.length<=1048576):zeT r hs=some (zbN r.Commits.length hs):=by
 have hm:=zaj hl
 unfold zeT zbN
 by_cases h5:(5:Int)< (hs.length:Int)
 ·rw[aF h5,aE (show ¬ (hs.length:Int)<=5 by omega),Bool.and_false];rfl
 rw[aE h5,aF (show(hs.length:Int)<=5 by omega),aC,Bool.and_true]
 simp only[jn,zap]
 rw[zbn (n:=hs.length) (g:=zet r.Commits.length hs) (r0:=some false) (Z:=some true) (f:=fun m k=>zbz r hs (fun _ _=>some true) m false k) (fun m k hk=>by
  have hx:hs[k]? =some hs[k]:=aB hk
  simp only[zbz,zby,jn,zam hx,zad hx,aD,aA,zac hk hm,zdE,zcI (zaj h.coms),ze1 (zaj (hn _ (aH hx)))]
  unfold zet
  rw[zaX hx,show(decide ((0:Int)<=hs[k].At)&&decide (hs[k].At<=(r.Commits.length:Int)-1))=upB r.Commits.length hs[k].At from rfl]
  cases zax hs[k].Name
  ·rfl
  cases upB r.Commits.length hs[k].At
  ·rfl
  by_cases h0:(0:Int)< (k:Int)
  ·obtain⟨y,hy,ey⟩:=zit hx hm h0
   rw[hy,ey,aF h0]
   simp only[aA]
   cases Op.bytesLess y.Name hs[k].Name<;>rfl
  ·rw[aE h0];rfl) (fun m=>by simp only[zbz,zag,aC]) _ (by omega)]
 cases zfJ (zet r.Commits.length hs) 0 hs.length<;>rfl
theorem zc1 {r:Repo}(h:RpB r):zct r=some (zaa r):=by
 have hm:=zaj h.coms
 unfold zct zaa zj3
 by_cases h16:(16:Int)< (r.Commits.length:Int)
 ·rw[aF h16,aE (by omega)];rfl
 rw[aE h16,aF (by omega),aC,Bool.true_and]
 simp only[jn,zap]
 rw[zbn (n:=r.Commits.length) (g:=fun i=>zi8 i (r.Commits.getD i noCommit)) (r0:=some false) (Z:=some (zbN r.Commits.length r.Heads)) (f:=fun m i=>zb8 r _ m false i) (fun m i hi=>by
  have hx:r.Commits[i]? =some r.Commits[i]:=aB hi
  have hc:=h.cat hx
  have hco:=h.coms
  have hpm:=zaj hc.par
  have hin: ∀ K:Bool->Int->Option Bool,za3 (i:Int) r.Commits[i] K (r.Commits[i].Parents.length+1) false 0=bif r.Commits[i].Parents.all (upB i) then K false (r.Commits[i].Parents.length:Int) else some false:=fun K=>by
   rw[zau (α:=Int) (xs:=r.Commits[i].Parents) (p:=upB i) (r0:=some false) (Z:=K false (r.Commits[i].Parents.length:Int)) (f:=fun m k=>za3 (i:Int) r.Commits[i] K m false k) (fun m k p hp=>by
    simp only[za3,zam hp,zad hp,aD,aA,zac (zat hp) hpm,zdE,zcI (show i<=maxi by unfold maxi;omega)]
    rw[show(decide ((0:Int)<=p)&&decide (p<=(i:Int)-1))=upB i p from rfl]
    cases upB i p<;>rfl) (fun m=>by simp only[za3,zag,aC]) (by omega)]
  simp only[zb8,jn,zam hx,zad hx,aD,aA,zac hi hm,zap,hin,zdb hx,ze1 (zaj hc.who),ziC hc.tree]
  unfold zi8
  match hps:r.Commits[i].Parents with
  | []=>cases zax r.Commits[i].Who<;>cases zar r.Commits[i].Tree<;>rfl
  | [p]=>
   simp only[aL,List.length_nil,List.all_cons,List.all_nil,zlm]
   cases upB i p<;>cases zax r.Commits[i].Who<;>cases zar r.Commits[i].Tree<;>rfl
  | [p,q]=>
   simp only[aL,List.length_nil,List.all_cons,List.all_nil,zlm,gi,List.getElem?_cons_zero,List.getElem?_cons_succ,Int.toNat_zero,Int.toNat_one]
   cases upB i p<;>cases upB i q<;>cases hpq:p==q<;>cases zax r.Commits[i].Who<;>cases zar r.Commits[i].Tree<;>simp[hpq]<;>rfl
  |p::q::s::l=>
   rw[aF (by simp only[aL];omega),aE (show ¬ (((p::q::s::l).length:Nat):Int)<=2 by simp only[aL];omega)]
   simp only[aD,Bool.false_and,Bool.and_false,aC]) (fun m=>by
   simp only[zb8,zag,aC,jn,ziN h h.heads h.head,aA]) _ (by omega)]
 cases zfJ (fun i=>zi8 i (r.Commits.getD i noCommit)) 0 r.Commits.length<;>rfl
def atB (r:Repo)(name:Str):Int:=match r.Heads.find? (fun h=>h.Name==name)with
 |some h=>h.At
 |none=> -1
theorem zcc {r:Repo}(h:RpB r)(name:Str):zdJ r name=some (atB r name):=by
 have hm:=zaj h.heads
 unfold zdJ atB
 simp only[jn,zap]
 rw[zcf (p:=fun h:Head=>h.Name==name) (xs:=r.Heads) (r:=fun h=>some h.At) (Z:=some (-1)) (f:=fun m k=>zc5 r name _ m 0 k) (fun m i x hx=>by
  simp only[zc5,zam hx,zad hx,aD,aA,zac (zat hx) hm]) (fun m=>by simp only[zc5,zag,aC]) (by omega)]
 cases r.Heads.find? (fun h=>h.Name==name)<;>rfl
theorem zk2 {r:Repo}(h:RpB r)(a:Int):zby r a=some (upB r.Commits.length a):=by
 unfold zby
 rw[zcI (zaj h.coms),zdE,aA]
 rfl
theorem zaK {n:Nat}{a:Int}:upB n a=true↔0<=a/\a<=(n:Int)-1:=by
 unfold upB
 simp only[aG,decide_eq_true_eq]
theorem znh {r:Repo}(h:RpB r){l:List Int}(hl:l.length<=100000):zf4 r l=some (zaa r&&l.all (upB r.Commits.length)):=by
 unfold zf4
 rw[zc1 h,aA]
 cases zaa r with
 |false=>rfl
 |true=>
  rw[aK,aC,Bool.true_and]
  simp only[jn,zap]
  rw[zau (α:=Int) (xs:=l) (p:=upB r.Commits.length) (r0:=some false) (Z:=some true) (f:=fun m k=>zdp r l (fun _ _=>some true) m false k) (fun m k p hp=>by
   simp only[zdp,zam hp,zad hp,aD,aA,zac (zat hp) (show l.length<=maxi by unfold maxi;omega),zk2 h]
   cases upB r.Commits.length p<;>rfl) (fun m=>by simp only[zdp,zag,aC]) (by omega)]
  cases l.all (upB r.Commits.length)<;>rfl
theorem zbC {t:List File}(h:TB t):zcY t=some t:=by
 have hm:=h.maxi
 have hl:=h.1
 unfold zcY
 simp only[jn,zap]
 rw[za8 (xs:=t) (p:=fun _=>true) (g:=fun f:File=>f) (Z:=fun acc=>some acc) (f:=fun m acc i=>zbX t _ m acc i) (fun m i x acc hx ha=>by
  have hi:=zat hx
  simp only[zbX,zam hx,zad hx,aD,aA,zac hi hm,apN (h.at_ hx).len,ap1 (show acc.length<=1048576 by omega)]) (fun m acc=>by simp only[zbX,zag,aC]) (by omega)]
 simp
theorem ze4 {c:Commit}(h:CB c):zcm c=some c:=by
 unfold zcm
 rw[apN h.par,aA,zbC h.tree,aA]
theorem zbt {r:Repo}(h:RpB r):za9 r=some r:=by
 have hm:=zaj h.coms
 have hl:=h.coms
 unfold za9
 simp only[jn,zap,apN h.heads,aA]
 rw[za8 (xs:=r.Commits) (p:=fun _=>true) (g:=fun f:Commit=>f) (Z:=fun acc=>some (Repo.mk acc r.Heads)) (f:=fun m acc i=>zbY r _ m i acc r.Heads) (fun m i x acc hx ha=>by
  have hi:=zat hx
  simp only[zbY,zam hx,zad hx,aD,aA,zac hi hm,ze4 (h.cat hx),ap1 (show acc.length<=1048576 by omega)]) (fun m acc=>by simp only[zbY,zag,aC]) (by omega)]
 rw[show((r.Commits.filter fun _=>true).map fun f:Commit=>f)=r.Commits by simp]
def zdB (n:Str)(a:Int):Bool->List Head->List Head
 |put,[]=>bif put then [] else [⟨n,a⟩]
 |put,h::hs=>(bif !put && !Op.bytesLess h.Name n then [⟨n,a⟩] else [])++((bif h.Name !=n then [h] else [])++zdB n a (put || !Op.bytesLess h.Name n) hs)
theorem zgB (n:Str)(a:Int): ∀ (hs:List Head) (put:Bool),(zdB n a put hs).length+(bif put then 1 else 0)<=hs.length+1
 | [],put=>by cases put<;>simp[zdB]
 |h::hs,put=>by
  have ih:=zgB n a hs (put || !Op.bytesLess h.Name n)
  unfold zdB
  cases put<;>cases hb:Op.bytesLess h.Name n<;>cases hn:(h.Name !=n)<;>simp[hb]at ih ⊢ <;>omega
theorem putH_mem (n:Str)(a:Int): ∀ (hs:List Head) (put:Bool) (x:Head),x∈zdB n a put hs->x∈hs\/x=⟨n,a⟩
 | [],put,x,h=>by cases put<;>simp[zdB]at h;exact .inr h
 |h::hs,put,x,hx=>by
  unfold zdB at hx
  rcases List.mem_append.1 hx with h1 |h1
  ·cases hc:(!put && !Op.bytesLess h.Name n)with
   |true=>rw[hc]at h1;simp at h1;exact .inr h1
   |false=>rw[hc]at h1;simp at h1
  ·rcases List.mem_append.1 h1 with h2 |h2
   ·cases hc:(h.Name !=n)with
    |true=>rw[hc]at h2;simp at h2;exact .inl (by rw[h2];simp)
    |false=>rw[hc]at h2;simp at h2
   ·rcases putH_mem n a hs _ x h2 with h3 |h3
    ·exact .inl (List.mem_cons_of_mem _ h3)
    ·exact .inr h3
theorem zg2 {r:Repo}(h:RpB r)(hs:r.Heads.length<=100000)(n:Str)(a:Int)(cs:List Commit): ∀ (k i m:Nat) (put:Bool) (out:List Head),i+k=r.Heads.length->k<m->out.length<=2*i->
 zbZ r n a (fun y14 _ y16 y19=>bif(!y14) then((apM y19 [Vm.Head.mk n a]).bind fun q160=>some (Vm.Repo.mk y16 q160)) else some (Vm.Repo.mk y16 y19)) m put (i:Int) cs out=some ⟨cs,out++zdB n a put (r.Heads.drop i)⟩
 |k,i,0,put,out,_,hm,_=>by omega
 |0,i,m+1,put,out,hi,_,ho=>by
  obtain rfl:i=r.Heads.length:=by omega
  simp only[zbZ,zag,aC,List.drop_length]
  cases put
  ·simp only[Bool.not_false,aD,ap1 (show out.length<=1048576 by omega),aA,zdB,aC]
  ·simp[zdB]
 |k+1,i,m+1,put,out,hi,hm,ho=>by
  have hlt:i<r.Heads.length:=by omega
  have hx:r.Heads[i]? =some r.Heads[i]:=aB hlt
  have hd:r.Heads.drop i=r.Heads[i]::r.Heads.drop (i+1):=aI hlt
  have hw:=zac hlt (zaj h.heads)
  have ih:=fun put out ho=>zg2 h hs n a cs k (i+1) m put out (by omega) (by omega) ho
  simp only[zbZ,jn,zam hx,zad hx,aD,aA,hw]
  rw[hd]
  unfold zdB
  have e1:=ap1 (x:=Vm.Head.mk n a) (show out.length<=1048576 by omega)
  have e2:=ap1 (x:=r.Heads[i]) (show out.length<=1048576 by omega)
  have e3:apM (out++[Vm.Head.mk n a]) [r.Heads[i]]=some (out++([Vm.Head.mk n a]++[r.Heads[i]])):=by rw[ap1 (show(out++[Vm.Head.mk n a]).length<=1048576 by simp;omega),List.append_assoc]
  have l1:(out++[r.Heads[i]]).length<=2*(i+1):=by simp;omega
  have l2:(out++[Vm.Head.mk n a]).length<=2*(i+1):=by simp;omega
  have l3:(out++([Vm.Head.mk n a]++[r.Heads[i]])).length<=2*(i+1):=by simp;omega
  have l0:out.length<=2*(i+1):=by omega
  cases put<;>cases Op.bytesLess r.Heads[i].Name n<;>cases(r.Heads[i].Name !=n)<;>
   simp only[aK,Bool.not_false,aD,aC,e1,e2,e3,aA,Bool.and_true,Bool.and_false,Bool.or_true,Bool.or_false,Bool.true_and,Bool.false_and,Bool.true_or,Bool.false_or,ih _ _ l0,ih _ _ l1,ih _ _ l2,ih _ _ l3,List.append_assoc,List.nil_append]
def headR (r:Repo)(n:Str)(a:Int):Repo:=⟨r.Commits,zdB n a false r.Heads⟩
theorem ze5 {r:Repo}(h:RpB r)(hs:r.Heads.length<=100000)(n:Str)(a:Int):zfa r n a=some (headR r n a):=by
 unfold zfa headR
 simp only[jn,zap]
 have:=zg2 h hs n a r.Commits r.Heads.length 0 (r.Heads.length+1) false [] (by omega) (by omega) (by simp)
 simpa using this
theorem RpB.headR {r:Repo}(h:RpB r)(hs:r.Heads.length<=100000){n:Str}(hn:n.length<=1048576)(a:Int):RpB (headR r n a):=
 ⟨h.coms,h.com,by have:=zgB n a r.Heads false;simp at this;show(zdB n a false r.Heads).length<=_;omega,fun x hx=>by
  rcases putH_mem n a r.Heads false x hx with h1 |h1
  ·exact h.head x h1
  ·rw[h1];exact hn⟩
def addR (r:Repo)(n:Str)(c:Commit):Repo:=⟨r.Commits++[c],zdB n r.Commits.length false r.Heads⟩
theorem RpB.push {r:Repo}(h:RpB r){c:Commit}(hc:CB c)(hl:r.Commits.length<=100000):RpB ⟨r.Commits++[c],r.Heads⟩:=
 ⟨by simp;omega,fun x hx=>by
  rcases List.mem_append.1 hx with h1 |h1
  ·exact h.com x h1
  ·rw[List.mem_singleton]at h1;rw[h1];exact hc,h.heads,h.head⟩
theorem RpB.addR {r:Repo}(h:RpB r)(hl:r.Commits.length<=100000)(hs:r.Heads.length<=100000){n:Str}(hn:n.length<=1048576){c:Commit}(hc:CB c):RpB (addR r n c):=
 (h.push hc hl).headR hs hn _
theorem ziu {r:Repo}(h:RpB r)(hl:r.Commits.length<=100000)(hs:r.Heads.length<=100000)(n:Str){c:Commit}(hc:CB c):zcT r n c=some (addR r n c):=by
 unfold zcT
 rw[apN h.coms,aA,ap1 h.coms,aA,ze5 (h.push hc hl) hs,aA]
 rfl
theorem zae {r:Repo}(h:zaa r=true):r.Commits.length<=16/\r.Heads.length<=5:=by
 unfold zaa zbN at h
 simp only[aG,decide_eq_true_eq]at h
 omega
def zbO (r:Repo)(n who:Str)(t:List File):Commit:=⟨bif decide (0<=atB r n) then [atB r n] else [],who,t⟩
def zbm:Repo:=⟨[],[]⟩
def zbT (r:Repo)(n who:Str)(t:List File):Repo×Bool:=bif zaa r then(bif zaa (addR r n (zbO r n who t)) then(addR r n (zbO r n who t),true) else(r,false)) else(zbm,false)
theorem CB.next {r:Repo}{n who:Str}{t:List File}(hw:who.length<=1048576)(ht:TB t):CB (zbO r n who t):=
 ⟨by unfold zbO;cases decide (0<=atB r n)<;>simp,hw,ht⟩
theorem zeC {r:Repo}(h:RpB r){n who:Str}{t:List File}(hn:n.length<=1048576)(hw:who.length<=1048576)(ht:TB t):zcZ r n who t=some (zbT r n who t):=by
 unfold zcZ zbT
 rw[zbE h,aA]
 cases hr:zaa r with
 |false=>rfl
 |true=>
  obtain⟨s1,s2⟩:=zae hr
  have hc:CB (zbO r n who t):=CB.next hw ht
  have ha:=ziu h (by omega) (by omega) n hc
  have hb:=h.addR (by omega) (by omega) hn hc
  have hfin:(za9 r).bind (fun z57=>(zcT ⟨z57.Commits,z57.Heads⟩ n (zbO r n who t)).bind fun z66=>(zcr z66).bind fun z204=>bif(!z204) then((za9 r).bind fun z219=>some (Vm.Repo.mk z219.Commits z219.Heads,false)) else(some (z66,true)))=some (bif zaa (addR r n (zbO r n who t)) then(addR r n (zbO r n who t),true) else(r,false)):=by
   rw[zbt h,aA,show(⟨r.Commits,r.Heads⟩:Repo)=r from rfl,ha,aA,zbE hb,aA]
   cases zaa (addR r n (zbO r n who t))<;>rfl
  rw[aK,aC,aD,zbC ht,aA]
  simp only[jn,zcc h,aA]
  unfold zbO at hfin ⊢
  cases hd:decide (0<=atB r n)<;>rw[hd]at hfin<;>exact hfin
def zdc (r:Repo)(n:Str)(a:Int):Repo×Bool:=bif zaa r then(bif decide (0<=atB r n) || !zaa (headR r n a) then(r,false) else(headR r n a,true)) else(zbm,false)
theorem zeD {r:Repo}(h:RpB r){n:Str}(hn:n.length<=1048576)(a:Int):zbp r n a=some (zdc r n a):=by
 unfold zbp zdc
 rw[zbE h,aA]
 cases hr:zaa r with
 |false=>rfl
 |true=>
  obtain⟨s1,s2⟩:=zae hr
  rw[aK,aC,aD,zbt h,aA,show(⟨r.Commits,r.Heads⟩:Repo)=r from rfl,ze5 h (by omega),aA]
  simp only[jn,zcc h,aA,zbE (h.headR (by omega) hn a)]
  cases decide (0<=atB r n)<;>cases zaa (headR r n a)<;>rfl
def putF (g:File):Bool->List File->List File
 |put,[]=>bif put then [] else [g]
 |put,f::fs=>(bif !put && !Op.bytesLess f.Path g.Path then [g] else [])++((bif f.Path !=g.Path then [f] else [])++putF g (put || !Op.bytesLess f.Path g.Path) fs)
theorem zge (g:File): ∀ (hs:List File) (put:Bool),(putF g put hs).length+(bif put then 1 else 0)<=hs.length+1
 | [],put=>by cases put<;>simp[putF]
 |h::hs,put=>by
  have ih:=zge g hs (put || !Op.bytesLess h.Path g.Path)
  unfold putF
  cases put<;>cases hb:Op.bytesLess h.Path g.Path<;>cases hn:(h.Path !=g.Path)<;>simp[hb]at ih ⊢ <;>omega
theorem putF_mem (g:File): ∀ (hs:List File) (put:Bool) (x:File),x∈putF g put hs->x∈hs\/x=g
 | [],put,x,h=>by cases put<;>simp[putF]at h;exact .inr h
 |h::hs,put,x,hx=>by
  unfold putF at hx
  rcases List.mem_append.1 hx with h1 |h1
  ·cases hc:(!put && !Op.bytesLess h.Path g.Path)with
   |true=>rw[hc]at h1;simp at h1;exact .inr h1
   |false=>rw[hc]at h1;simp at h1
  ·rcases List.mem_append.1 h1 with h2 |h2
   ·cases hc:(h.Path !=g.Path)with
    |true=>rw[hc]at h2;simp at h2;exact .inl (by rw[h2];simp)
    |false=>rw[hc]at h2;simp at h2
   ·rcases putF_mem g hs _ x h2 with h3 |h3
    ·exact .inl (List.mem_cons_of_mem _ h3)
    ·exact .inr h3
theorem TB.putF {t:List File}(h:TB t)(hs:t.length<=100000){g:File}(hg:FB g):TB (putF g false t):=
 ⟨by have:=zge g t false;simp at this;omega,fun x hx=>by
  rcases putF_mem g t false x hx with h1 |h1
  ·exact h.2 x h1
  ·rw[h1];exact hg⟩
theorem ziv {t:List File}(h:TB t)(hs:t.length<=100000){g:File}(hg:FB g){K:List File->Bool->Int->Option (List File)}(hK: ∀ out put j,out.length<=2*t.length->K out put j=some (bif put then out else out++[g])): ∀ (k i m:Nat) (put:Bool) (out:List File),i+k=t.length->k<m->out.length<=2*i->
 zcx t g K m out put (i:Int)=some (out++putF g put (t.drop i))
 |k,i,0,put,out,_,hm,_=>by omega
 |0,i,m+1,put,out,hi,_,ho=>by
  obtain rfl:i=t.length:=by omega
  simp only[zcx,zag,aC,List.drop_length,hK out put _ ho]
  cases put<;>simp[putF]
 |k+1,i,m+1,put,out,hi,hm,ho=>by
  have hlt:i<t.length:=by omega
  have hx:t[i]? =some t[i]:=aB hlt
  have hd:t.drop i=t[i]::t.drop (i+1):=aI hlt
  have hw:=zac hlt h.maxi
  have ih:=fun put out ho=>ziv h hs hg hK k (i+1) m put out (by omega) (by omega) ho
  simp only[zcx,jn,zam hx,zad hx,aD,aA,hw,apN hg.len]
  rw[hd]
  unfold putF
  have e1:=ap1 (x:=g) (show out.length<=1048576 by omega)
  have e2:=ap1 (x:=t[i]) (show out.length<=1048576 by omega)
  have e3:apM (out++[g]) [t[i]]=some (out++([g]++[t[i]])):=by rw[ap1 (show(out++[g]).length<=1048576 by simp;omega),List.append_assoc]
  have l1:(out++[t[i]]).length<=2*(i+1):=by simp;omega
  have l2:(out++[g]).length<=2*(i+1):=by simp;omega
  have l3:(out++([g]++[t[i]])).length<=2*(i+1):=by simp;omega
  have l0:out.length<=2*(i+1):=by omega
  have eg:Vm.File.mk g.Path g.Text=g:=rfl
  cases put<;>cases Op.bytesLess t[i].Path g.Path<;>cases(t[i].Path !=g.Path)<;>
   simp only[aK,Bool.not_false,aD,aC,eg,e1,e2,e3,aA,Bool.and_true,Bool.and_false,Bool.or_true,Bool.or_false,Bool.true_and,Bool.false_and,Bool.true_or,Bool.false_or,ih _ _ l0,ih _ _ l1,ih _ _ l2,ih _ _ l3,List.append_assoc,List.nil_append]
theorem ziw {t:List File}(h:TB t)(hs:t.length<=100000){g:File}(hg:FB g):zej t g=some (putF g false t):=by
 unfold zej
 simp only[jn,zap]
 have:=ziv h hs hg (K:=fun y6 y9 _=>bif(!y9) then((apM ([]:List Str) g.Text).bind fun q126=>(apM y6 [Vm.File.mk g.Path q126]).bind fun q144=>some q144) else some y6) (fun out put j ho=>by
  cases put
  ·simp only[Bool.not_false,aD,aC,apN hg.len,ap1 (show out.length<=1048576 by omega),aA]
  ·rfl) t.length 0 (t.length+1) false [] (by omega) (by omega) (by simp)
 simpa using this
theorem zaD {t:List File}(h:zar t=true):t.length<=8:=by
 unfold zar at h
 simp only[aG,decide_eq_true_eq]at h
 omega
def zlB (t:List File)(g:File):List File×Bool:=bif zar t then(bif zar (putF g false t) then(putF g false t,true) else(t,false)) else([],false)
theorem zgT {t:List File}(h:TB t){g:File}(hg:FB g):zcU t g=some (zlB t g):=by
 unfold zcU zlB
 rw[zdj h,aA]
 cases ht:zar t with
 |false=>rfl
 |true=>
  have hs:=zaD ht
  rw[aK,aC,aD,zbC h,aA,ziw h (by omega) hg,aA,zdj (h.putF (by omega) hg),aA]
  cases zar (putF g false t)<;>rfl
def zk5 (p:Str)(f:File):Bool:=f.Path !=p && !zaI p f.Path
def dropF (p:Str)(t:List File):List File:=t.filter (zk5 p)
theorem zg3 {t:List File}(h:TB t)(p:Str):zfw t p=some (dropF p t):=by
 have hm:=h.maxi
 have hl:=h.1
 unfold zfw dropF
 simp only[jn,zap]
 rw[za8 (xs:=t) (p:=zk5 p) (g:=fun f:File=>f) (Z:=fun acc=>some acc) (f:=fun m acc i=>zb0 t p _ m acc i) (fun m i x acc hx ha=>by
  have hi:=zat hx
  simp only[zb0,jn,zam hx,zad hx,aD,aA,zac hi hm,ap1 (show acc.length<=1048576 by omega),zhQ (h.at_ hx).path]
  unfold zk5
  cases(x.Path !=p)<;>cases zaI p x.Path<;>rfl) (fun m acc=>by simp only[zb0,zag,aC]) (by omega)]
 simp
theorem TB.dropF {t:List File}(h:TB t)(p:Str):TB (dropF p t):=⟨Nat.le_trans (List.length_filter_le _ _) h.1,fun f hf=>h.2 f ((List.mem_filter.1 hf).1)⟩
def zmi (t:List File)(p:Str):List File×Bool:=bif zar t then(dropF p t,decide (((dropF p t).length:Int)< (t.length:Int))) else([],false)
theorem zg4 {t:List File}(h:TB t)(p:Str):zcy t p=some (zmi t p):=by
 unfold zcy zmi
 rw[zdj h,aA]
 cases zar t with
 |false=>rfl
 |true=>rw[aK,aC,aD,zbC h,aA,zg3 h,aA]
theorem zex {r:Repo}(h:zaa r=true){i:Nat}(hi:i<r.Commits.length):zi8 i (r.Commits.getD i noCommit)=true:=by
 unfold zaa zj3 at h
 simp only[aG]at h
 exact zaJ.1 h.2.1 i (Nat.zero_le _) (by omega)
def zab (r:Repo)(i:Nat):List Int:=(r.Commits.getD i noCommit).Parents
theorem zaS {r:Repo}(h:zaa r=true){i:Nat}(hi:i<r.Commits.length):(zab r i).length<=2 /\ ∀ p∈zab r i,0<=p/\p<=(i:Int)-1:=by
 have:=zex h hi
 unfold zi8 at this
 simp only[aG,decide_eq_true_eq,List.all_eq_true]at this
 obtain⟨h1,h2,_⟩:=this
 refine⟨by unfold zab;omega,fun p hp=>?_⟩
 have:=h1 p hp
 unfold upB at this
 simp only[aG,decide_eq_true_eq]at this
 exact this
theorem zhr {r:Repo}{i:Nat}(hi:i<r.Commits.length):gi r.Commits (i:Int)=some (r.Commits.getD i noCommit):=by
 rw[zdb (aB hi)]
 exact zad (aB hi)
theorem zfr {r:Repo}(h:zaa r=true){x:Head}(hx:x∈r.Heads):0<=x.At/\x.At<=(r.Commits.length:Int)-1/\zax x.Name=true:=by
 obtain⟨i,hi⟩:=List.mem_iff_getElem?.1 hx
 unfold zaa zbN at h
 simp only[aG]at h
 have:=zaJ.1 h.2.2.1 i (Nat.zero_le _) (by have:=zat hi;omega)
 unfold zet upB at this
 rw[zaX hi]at this
 simp only[aG,decide_eq_true_eq]at this
 exact⟨this.2.1.1,this.2.1.2,this.1⟩
theorem at_range {r:Repo}(h:zaa r=true)(n:Str):atB r n = -1\/(0<=atB r n/\atB r n<=(r.Commits.length:Int)-1):=by
 unfold atB
 cases hf:r.Heads.find? (fun h=>h.Name==n)with
 |none=>exact .inl rfl
 |some x=>
  have:=zfr h (List.mem_of_find?_eq_some hf)
  exact .inr ⟨this.1,this.2.1⟩
def zks (mk:List Bool)(p:Int):List Bool:=mk.set p.toNat true
theorem zho (mk:List Bool)(p:Int):(zks mk p).length=mk.length:=by simp[zks]
theorem zg5: ∀ (ps:List Int) (mk:List Bool),(ps.foldl zks mk).length=mk.length
 | [],mk=>rfl
 |p::ps,mk=>by rw[List.foldl_cons,zg5 ps,zho]
def zjx (r:Repo)(i:Nat)(mk:List Bool):List Bool:=bif mk.getD i false then(zab r i).foldl zks mk else mk
theorem zf0 (r:Repo)(i:Nat)(mk:List Bool):(zjx r i mk).length=mk.length:=by
 unfold zjx
 cases mk.getD i false
 ·rfl
 ·exact zg5 _ _
def zey (r:Repo):Nat->List Bool->List Bool
 |0,mk=>mk
 |i+1,mk=>zey r i (zjx r i mk)
theorem zf7 (r:Repo): ∀ (i:Nat) (mk:List Bool),(zey r i mk).length=mk.length
 |0,mk=>rfl
 |i+1,mk=>by unfold zey;rw[zf7 r i,zf0]
def zdl (r:Repo)(a:Nat):List Bool:=zey r (a+1) ((List.replicate r.Commits.length false).set a true)
theorem zcR (r:Repo)(a:Nat):(zdl r a).length=r.Commits.length:=by unfold zdl;rw[zf7];simp
def zl6 (mk:List Bool):List Int:=((List.range mk.length).filter fun i=>mk.getD i false).map Int.ofNat
def za6 (r:Repo)(a:Int):List Int:=zl6 (zdl r a.toNat)
theorem zeE {mk:List Bool}{i:Nat}(h:i<mk.length):gi mk (i:Int)=some (mk.getD i false):=by
 have hx:mk[i]? =some mk[i]:=aB h
 rw[zad hx]
 simp[List.getD,hx]
theorem zjQ {mk:List Bool}{p:Int}{i:Nat}(h:mk.getD i false=true):(zks mk p).getD i false=true:=by
 unfold zks
 by_cases e:p.toNat=i
 ·subst e
  have hl:p.toNat<mk.length:=by
   rcases Nat.lt_or_ge p.toNat mk.length with h1 |h1
   ·exact h1
   ·rw[List.getD,List.getElem?_eq_none (by omega)]at h;simp at h
  simp[List.getD,hl]
 ·simp only[List.getD,List.getElem?_set_ne e]at h ⊢
  exact h
theorem zlc {r:Repo}(h:zaa r=true){i:Nat}(hi:i<r.Commits.length){F:List Bool->Option (List Int)}: ∀ (j k m:Nat) (mk:List Bool),k+j=(zab r i).length->j<m->mk.length=r.Commits.length->
 zcA r (i:Int) (fun _ y27=>F y27) m (k:Int) mk=F (bif mk.getD i false then((zab r i).drop k).foldl zks mk else mk)
 |j,k,0,mk,_,hm,_=>by omega
 |0,k,m+1,mk,hk,_,hl=>by
  obtain rfl:k=(zab r i).length:=by omega
  have e:(r.Commits.getD i noCommit).Parents=zab r i:=rfl
  simp only[zcA,jn,zhr hi,aA,e,zag,aC,List.drop_length,List.foldl_nil]
  cases mk.getD i false<;>rfl
 |j+1,k,m+1,mk,hk,hm,hl=>by
  have hlt:k< (zab r i).length:=by omega
  have hx:(zab r i)[k]? =some (zab r i)[k]:=aB hlt
  obtain⟨hs,hp⟩:=zaS h hi
  obtain⟨p0,p1⟩:=hp _ (List.getElem_mem hlt)
  have e:(r.Commits.getD i noCommit).Parents=zab r i:=rfl
  have hn:(((zab r i)[k].toNat:Nat):Int)=(zab r i)[k]:=by omega
  have hg:gi mk (zab r i)[k]=some (mk.getD (zab r i)[k].toNat false):=by
   rw[<- hn]
   exact zeE (by omega)
  have hsi:siM mk (zab r i)[k] true=some (zks mk (zab r i)[k]):=by
   have:=zc2 (xs:=mk) (i:=(zab r i)[k].toNat) (by omega) true
   rw[hn]at this
   exact this
  simp only[zcA,jn,zhr hi,aA,e,zam hx,aD,zeE (show i<mk.length by omega),zad hx,hg,hsi]
  cases hb:mk.getD i false with
  |false=>rfl
  |true=>
   rw[aD,aD,zac hlt (by unfold maxi;omega),zlc h hi j (k+1) m _ (by omega) (by omega) (by rw[zho];exact hl),zjQ hb,aD,aI hlt,List.foldl_cons]
theorem zld {r:Repo}(h:zaa r=true){F:List Bool->Option (List Int)}: ∀ (i m:Nat) (mk:List Bool),i<=r.Commits.length->i<m->mk.length=r.Commits.length->
 zbl r (fun _ y=>F y) m ((i:Int)-1) mk=F (zey r i mk)
 |i,0,mk,_,hm,_=>by omega
 |0,m+1,mk,_,_,_=>by
  simp only[zbl]
  rw[aE (by omega)]
  rfl
 |i+1,m+1,mk,hi,hm,hl=>by
  have hs:=(zae h).1
  have e:(((i+1:Nat):Int))-1=(i:Int):=by omega
  simp only[zbl,jn,e]
  rw[aF (by omega),aD]
  have hp:=(zaS h (show i<r.Commits.length by omega)).1
  have h2:=zlc h (show i<r.Commits.length by omega) (F:=fun y27=>zbl r (fun _ y=>F y) m (w64 ((i:Int)-1)) y27) (zab r i).length 0 4 mk (by omega) (by omega) hl
  refine(h2).trans ?_
  rw[zcI (show i<=maxi by unfold maxi;omega)]
  refine(zld h i m _ (by omega) (by omega) ?_).trans rfl
  have:=zf0 r i mk
  unfold zjx at this
  rw[List.drop_zero,this]
  exact hl
theorem zjR {mk:List Bool}(hl:mk.length<=1000): ∀ (k i m:Nat) (out:List Int),i+k=mk.length->k<m->out.length<=i->
 zbk mk (fun y69 _=>some y69) m out (i:Int)=some (out++((List.range' i k).filter fun i=>mk.getD i false).map Int.ofNat)
 |k,i,0,out,_,hm,_=>by omega
 |0,i,m+1,out,hi,_,_=>by
  obtain rfl:i=mk.length:=by omega
  simp only[zbk,zag,aC]
  simp
 |k+1,i,m+1,out,hi,hm,ho=>by
  have hlt:i<mk.length:=by omega
  have hx:mk[i]? =some mk[i]:=aB hlt
  simp only[zbk,jn,zam hx,aD,zeE hlt,aA,zac hlt (show mk.length<=maxi by unfold maxi;omega),ap1 (x:=(i:Int)) (show out.length<=1048576 by omega)]
  rw[List.range'_succ,List.filter_cons]
  cases hb:mk.getD i false with
  |true=>
   rw[aD,zjR hl k (i+1) m _ (by omega) (by omega) (by simp;omega),if_pos rfl]
   simp
  |false=>
   rw[aC,zjR hl k (i+1) m _ (by omega) (by omega) (by omega),if_neg (by simp)]
theorem zdH {r:Repo}(h:zaa r=true){a:Int}(h0:0<=a)(h1:a<=(r.Commits.length:Int)-1):zfq r a=some (za6 r a):=by
 have hs:=(zae h).1
 obtain⟨n,rfl⟩:=Int.eq_ofNat_of_zero_le h0
 have hn:n<r.Commits.length:=by omega
 have hl:(List.replicate r.Commits.length false).length=r.Commits.length:=by simp
 unfold zfq
 rw[zjw (by simp[lim];omega),aA,zeE (by rw[hl];exact hn),aA,zc2 (by rw[hl];exact hn),aA]
 simp only[jn,zap]
 have e:=zld h (F:=fun y18=>zbk y18 (fun y69 _=>some y69) (y18.length+1) ([]:List Int) 0) (n+1) (((n:Int)+1-0).toNat+1) ((List.replicate r.Commits.length false).set n true) (by omega) (by omega) (by simp)
 rw[show(((n+1:Nat):Int))-1=(n:Int) by omega]at e
 refine e.trans ?_
 have hml:=zcR r n
 unfold zdl at hml
 have e3:=zjR (mk:=zey r (n+1) ((List.replicate r.Commits.length false).set n true)) (by omega) r.Commits.length 0 (r.Commits.length+1) [] (by omega) (by omega) (by simp)
 rw[hml]
 refine e3.trans ?_
 unfold za6 zl6 zdl
 rw[Int.toNat_natCast,hml,List.range_eq_range']
 rfl
theorem zcL {r:Repo}{a x:Int}(h:x∈za6 r a):0<=x/\x<=(r.Commits.length:Int)-1:=by
 unfold za6 zl6 at h
 rw[zcR]at h
 obtain⟨i,hi,rfl⟩:=List.mem_map.1 h
 have:=List.mem_range.1 (List.mem_filter.1 hi).1
 constructor
 ·exact Int.natCast_nonneg i
 ·show(i:Int)<=_;omega
theorem zcb (r:Repo)(a:Int):(za6 r a).length<=r.Commits.length:=by
 unfold za6 zl6
 rw[zcR,List.length_map]
 exact Nat.le_trans (List.length_filter_le _ _) (by simp)
def zfA (l:List Int)(n:Int):Bool:=l.any fun x=>x==n
theorem zeK {l:List Int}(hl:l.length<=1000000)(n:Int):zfO l n=some (zfA l n):=by
 unfold zfO zfA
 simp only[jn,zap]
 rw[zcf (p:=fun x:Int=>x==n) (xs:=l) (r:=fun _=>some true) (Z:=some false) (f:=fun m k=>zcB l n _ m false k) (fun m i x hx=>by
  simp only[zcB,zam hx,zad hx,aD,aA,zac (zat hx) (show l.length<=maxi by unfold maxi;omega)]) (fun m=>by simp only[zcB,zag,aC]) (by omega)]
 cases hf:l.find? (fun x=>x==n)with
 |some x=>
  have:l.any (fun x=>x==n)=true:=List.any_eq_true.2 ⟨x,List.mem_of_find?_eq_some hf,by simpa using List.find?_some hf⟩
  rw[this]
 |none=>
  have:l.any (fun x=>x==n)=false:=by
   rw[List.any_eq_false]
   intro x hx
   have:=List.find?_eq_none.1 hf x hx
   simpa using this
  rw[this]
def zku (r:Repo)(l:List Int)(i:Nat):Bool:=zfJ (fun k=>((k:Int)==(i:Int)) || !zfA (za6 r (l.getD k 0)) (l.getD i 0)) 0 l.length
def zko (p:Nat->Bool)(l:List Int):List Int:=((List.range l.length).filter p).map fun i=>l.getD i 0
def zfl (r:Repo)(a b:Int):List Int:=(za6 r a).filter (zfA (za6 r b))
def zaM (r:Repo)(a b:Int):List Int:=zko (zku r (zfl r a b)) (zfl r a b)
theorem zek {l:List Int}{i:Nat}(h:i<l.length):gi l (i:Int)=some (l.getD i 0):=by
 rw[zbS (aB h)]
 exact zad (aB h)
theorem zix {r:Repo}(h:zaa r=true){l:List Int}(hl:l.length<=1000)(hm: ∀ x∈l,0<=x/\x<=(r.Commits.length:Int)-1){i:Nat}(hi:i<l.length){F:Bool->Option (List Int)}: ∀ (n k m:Nat) (b:Bool),k+n=l.length->n<m->
 zbj r l (i:Int) (fun y _=>F y) m b (k:Int)=F (b&&zfJ (fun k=>((k:Int)==(i:Int)) || !zfA (za6 r (l.getD k 0)) (l.getD i 0)) k n)
 |n,k,0,b,_,hm'=>by omega
 |0,k,m+1,b,hk,_=>by
  obtain rfl:k=l.length:=by omega
  simp only[zbj,zag,aC,zfJ,Bool.and_true]
 |n+1,k,m+1,b,hk,hm'=>by
  have hlt:k<l.length:=by omega
  have hx:l[k]? =some l[k]:=aB hlt
  have hs:=(zae h).1
  obtain⟨q0,q1⟩:=hm _ (List.getElem_mem hlt)
  have hal:=zcb r l[k]
  have ih:=fun b=>zix h hl hm hi (F:=F) n (k+1) m b (by omega) (by omega)
  simp only[zbj,zam hx,aD,zac hlt (show l.length<=maxi by unfold maxi;omega),zad hx,zek hi,aA,zdH h q0 q1,zeK (show(za6 r l[k]).length<=1000000 by omega),ih,zfJ,zbS hx]
  cases b<;>cases((k:Int)==(i:Int))<;>simp
theorem zgt {r:Repo}(h:zaa r=true){l:List Int}(hl:l.length<=1000)(hm: ∀ x∈l,0<=x/\x<=(r.Commits.length:Int)-1): ∀ (k i m:Nat) (out:List Int),i+k=l.length->k<m->out.length<=i->
 zaA r l (fun y _=>some y) m out (i:Int)=some (out++((List.range' i k).filter (zku r l)).map fun i=>l.getD i 0)
 |k,i,0,out,_,hm',_=>by omega
 |0,i,m+1,out,hi,_,_=>by
  obtain rfl:i=l.length:=by omega
  simp only[zaA,zag,aC]
  simp
 |k+1,i,m+1,out,hi,hm',ho=>by
  have hlt:i<l.length:=by omega
  have hx:l[i]? =some l[i]:=aB hlt
  have h3:=zix h hl hm hlt (F:=fun y104=>bif y104 then((gi l (i:Int)).bind fun u151=>(apM out [u151]).bind fun q160=>zaA r l (fun y _=>some y) m q160 (w64 ((i:Int)+1))) else zaA r l (fun y _=>some y) m out (w64 ((i:Int)+1))) l.length 0 (l.length+1) true (by omega) (by omega)
  simp only[zaA,jn,zam hx,aD,zap]
  refine h3.trans ?_
  rw[Bool.true_and,List.range'_succ,List.filter_cons,zac hlt (show l.length<=maxi by unfold maxi;omega)]
  show(bif zku r l i then _ else _)=_
  cases hb:zku r l i with
  |true=>
   rw[aD,zad hx,aA,ap1 (show out.length<=1048576 by omega),aA,zgt h hl hm k (i+1) m _ (by omega) (by omega) (by simp;omega),if_pos rfl]
   simp[hx]
  |false=>
   rw[aC,zgt h hl hm k (i+1) m _ (by omega) (by omega) (by omega),if_neg (by simp)]
theorem ziO {r:Repo}(h:zaa r=true){a b:Int}(ha:0<=a)(ha':a<=(r.Commits.length:Int)-1)(hb:0<=b)(hb':b<=(r.Commits.length:Int)-1):zeP r a b=some (zaM r a b):=by
 have hs:=(zae h).1
 have la:=zcb r a
 have lb:=zcb r b
 unfold zeP
 rw[zdH h ha ha',aA,zdH h hb hb',aA]
 simp only[jn,zap]
 have hl:(zfl r a b).length<=1000:=Nat.le_trans (List.length_filter_le _ _) (by omega)
 have hm: ∀ x∈zfl r a b,0<=x/\x<=(r.Commits.length:Int)-1:=fun x hx=>zcL (List.mem_filter.1 hx).1
 rw[za8 (xs:=za6 r a) (p:=zfA (za6 r b)) (g:=fun x:Int=>x) (Z:=fun acc=>zaA r acc (fun y _=>some y) (acc.length+1) ([]:List Int) 0) (f:=fun m acc i=>zbu (za6 r a) (za6 r b) _ m acc i) (fun m i x acc hx hacc=>by
  have hi:=zat hx
  simp only[zbu,jn,zam hx,zad hx,aD,aA,zac hi (show(za6 r a).length<=maxi by unfold maxi;omega),zeK (show(za6 r b).length<=1000000 by omega),ap1 (show acc.length<=1048576 by omega)]
  cases zfA (za6 r b) x<;>rfl) (fun m acc=>by simp only[zbu,zag,aC]) (by omega)]
 have e:((za6 r a).filter (zfA (za6 r b))).map (fun x=>x)=zfl r a b:=by simp[zfl]
 rw[e]
 have:=zgt h hl hm (zfl r a b).length 0 ((zfl r a b).length+1) [] (by omega) (by omega) (by simp)
 refine this.trans ?_
 unfold zaM zko
 rw[List.range_eq_range']
 rfl
theorem zjk {r:Repo}{a b x:Int}(h:x∈zaM r a b):0<=x/\x<=(r.Commits.length:Int)-1:=by
 unfold zaM zko at h
 obtain⟨i,hi,rfl⟩:=List.mem_map.1 h
 have hr:=List.mem_range.1 (List.mem_filter.1 hi).1
 rw[zbS (aB hr)]
 exact zcL (List.mem_filter.1 (List.getElem_mem hr)).1
theorem zjS (r:Repo)(a b:Int):(zaM r a b).length<=r.Commits.length:=by
 unfold zaM zko
 rw[List.length_map]
 refine Nat.le_trans (List.length_filter_le _ _) ?_
 rw[List.length_range]
 exact Nat.le_trans (List.length_filter_le _ _) (zcb r a)
def zhT (s:List Str)(p:Part):Option (List Str):=bif p.Clash then none else some (s++p.Lines)
def zdu (ps:List Part):List Str×Bool:=match ps.foldlM zhT []with
 |some s=>okT s
 |none=>([],false)
theorem zjT {i:Nat}{s s':List Str}{p:Part}(hp:p.Lines.length<=22000)(hpl: ∀ x∈p.Lines,zbD x=true)(hI:zn7 i s)(hst:zhT s p=some s'):zn7 (i+1) s':=by
 unfold zhT at hst
 cases hc:p.Clash with
 |true=>rw[hc]at hst;cases hst
 |false=>
  rw[hc,aC]at hst
  cases hst
  refine⟨by rw[List.length_append];have:=hI.1;omega,fun x hx=>?_⟩
  rcases List.mem_append.1 hx with h1 |h1
  ·exact hI.2 x h1
  ·exact hpl x h1
theorem zjU {o a b:List Str}(hto:zaq o=true)(hta:zaq a=true)(htb:zaq b=true):zfY (zaV o a b)=some (zdu (zaV o a b)):=by
 obtain⟨hlen,hparts⟩:=zji hto hta htb
 unfold zfY zdu
 simp only[jn,zap]
 obtain⟨h1,h2⟩:=ziI (xs:=zaV o a b) (step:=zhT) (r0:=some (([]:List Str),false)) (Inv:=zn7) (s0:=[]) (Z:=fun s=>(zcJ s).bind fun z30=>bif(!z30) then(some (([]:List Str),false)) else(some (s,true))) (f:=fun m s i=>zb2 (zaV o a b) (fun _ _ y7 _=>(zcJ y7).bind fun z30=>bif(!z30) then(some (([]:List Str),false)) else(some (y7,true))) m [] false s i) (fun m i p s hx hI=>by
  have hi:=zat hx
  obtain⟨p1,p2,_⟩:=hparts p (aH hx)
  refine⟨?_,fun s' hst=>zjT p1 p2 hI hst⟩
  have hs:=hI.1
  simp only[zb2,zam hx,zad hx,aD,aA,zac hi (show(zaV o a b).length<=maxi by unfold maxi;omega),apT (show s.length<=1000000 by omega) (show p.Lines.length<=1000000 by omega)]
  unfold zhT
  cases p.Clash<;>rfl) (fun m s hI=>by simp only[zb2,zag,aC]) (m:=(zaV o a b).length+1) (by omega) ⟨by simp,by simp⟩
 refine h1.trans ?_
 cases hf:(zaV o a b).foldlM zhT []with
 |none=>rfl
 |some s=>
  have hI:=h2 s hf
  have hs:=hI.1
  show(zcJ s).bind _=some (okT s)
  rw[zhM (zeZ (by omega) hI.2),aA]
  unfold okT
  cases zaq s<;>rfl
theorem zjV {ps:List Part}:(zdu ps).2=true->zaq (zdu ps).1=true:=by
 unfold zdu okT
 cases ps.foldlM zhT []with
 |none=>intro h;cases h
 |some s=>
  show(bif zaq s then(s,true) else(([]:List Str),false)).2=true->zaq (bif zaq s then(s,true) else(([]:List Str),false)).1=true
  cases ht:zaq s with
  |true=>intro _;exact ht
  |false=>intro h;cases h
def getT (t:List File)(p:Str):List Str×Bool:=match t.find? (fun f=>f.Path==p)with
 |some f=>(f.Text,true)
 |none=>([],false)
theorem zdX {t:List File}(h:TB t)(p:Str):zdU t p=some (getT t p):=by
 have hm:=h.maxi
 unfold zdU getT
 simp only[jn,zap]
 rw[zcf (p:=fun f:File=>f.Path==p) (xs:=t) (r:=fun f=>some (f.Text,true)) (Z:=some (([]:List Str),false)) (f:=fun m k=>zcD t p _ m [] false k) (fun m i x hx=>by
  simp only[zcD,zam hx,zad hx,aD,aA,zac (zat hx) hm]) (fun m=>by simp only[zcD,zag,aC]) (by omega)]
 cases t.find? (fun f=>f.Path==p)<;>rfl
theorem zi9 {t:List File}(h:TB t)(p:Str):(getT t p).1.length<=1048576/\Bk.fit (getT t p).1:=by
 unfold getT
 cases hf:t.find? (fun f=>f.Path==p)with
 |some f=>
  have:=h.2 f (List.mem_of_find?_eq_some hf)
  exact⟨this.len,this.text⟩
 |none=>exact⟨by simp,by simp[maxi],by simp⟩
def zay (t:List File):Prop:= ∀ f∈t,zaq f.Text=true
theorem zbo {t:List File}(h:zay t)(p:Str):zaq (getT t p).1=true:=by
 unfold getT
 cases hf:t.find? (fun f=>f.Path==p)with
 |some f=>exact h f (List.mem_of_find?_eq_some hf)
 |none=>rfl
def zeO (a b:List Str×Bool):Bool:=(a.2==b.2)&&(bif a.2 then a.1==b.1 else true)
theorem zg6 {a b:List Str×Bool}(h:a.1.length<=1048576):zfb a.1 a.2 b.1 b.2=some (zeO a b):=by
 unfold zfb zeO
 simp only[jn,zeW (zaj h),aA]
 cases a.2<;>cases b.2<;>rfl
def oneF (o a b:List File)(p:Str):List Str×Bool×Int:=
 let zo:=getT o p;let za:=getT a p;let zb:=getT b p
 bif zeO za zo||zeO za zb then(zb.1,zb.2,0)
 else bif zeO zb zo then(za.1,za.2,0)
 else bif !za.2 || !zb.2 then(zo.1,zo.2,1)
 else bif !zo.2 then([],false,2)
 else bif(zdu (zaV zo.1 za.1 zb.1)).2 then((zdu (zaV zo.1 za.1 zb.1)).1,true,0) else(zo.1,true,3)
theorem zkV {o a b:List File}(ho:TB o)(ha:TB a)(hb:TB b)(to:zay o)(ta:zay a)(tb:zay b)(p:Str):zgI o a b p=some (oneF o a b p):=by
 have eo:=zbo to p
 have ea:=zbo ta p
 have eb:=zbo tb p
 have lo:=zaE eo
 have la:=zaE ea
 have lb:=zaE eb
 unfold zgI oneF
 simp only[jn,zdX ho,zdX ha,zdX hb,aA,zg6 (a:=getT a p) (zi9 ha p).1,zg6 (a:=getT b p) (zi9 hb p).1,zlI (show(getT o p).1.length<=1000 by omega) (show(getT a p).1.length<=1000 by omega) (show(getT b p).1.length<=1000 by omega),zjU eo ea eb]
 cases zeO (getT a p) (getT o p)<;>cases zeO (getT a p) (getT b p)<;>cases zeO (getT b p) (getT o p)<;>cases(getT a p).2<;>cases(getT b p).2<;>cases(getT o p).2<;>cases(zdu (zaV (getT o p).1 (getT a p).1 (getT b p).1)).2<;>rfl
theorem zg7 {o a b:List File}(to:zay o)(ta:zay a)(tb:zay b)(p:Str):zaq (oneF o a b p).1=true:=by
 have eo:=zbo to p
 have ea:=zbo ta p
 have eb:=zbo tb p
 unfold oneF
 simp only
 cases zeO (getT a p) (getT o p)||zeO (getT a p) (getT b p)with
 |true=>exact eb
 |false=>
  cases zeO (getT b p) (getT o p)with
  |true=>exact ea
  |false=>
   cases !(getT a p).2 || !(getT b p).2 with
   |true=>exact eo
   |false=>
    cases !(getT o p).2 with
    |true=>rfl
    |false=>
     cases hl:(zdu (zaV (getT o p).1 (getT a p).1 (getT b p).1)).2 with
     |true=>exact zjV hl
     |false=>exact eo
def zcq (o a b:List File):List Str:=(b.map (·.Path)).foldl zfM ((a.map (·.Path)).foldl zfM ((o.map (·.Path)).foldl zfM []))
theorem zeq: ∀ (ps:List Str) (l:List Str),Asd l->Asd (ps.foldl zfM l)
 | [],l,h=>h
 |p::ps,l,h=>zeq ps _ (zdW _ _)
theorem zbP: ∀ (ps:List Str) (l:List Str),(ps.foldl zfM l).length<=l.length+ps.length
 | [],l=>by simp
 |p::ps,l=>by
  have h1:=zbP ps (zfM l p)
  have h2:=zgP l p
  simp only[List.foldl_cons,aL]
  omega
theorem zdI: ∀ (ps:List Str) (l:List Str) (x:Str),x∈ps.foldl zfM l↔x∈l\/x∈ps
 | [],l,x=>by simp
 |p::ps,l,x=>by
  rw[List.foldl_cons,zdI ps,insS_mem,List.mem_cons]
  constructor
  ·rintro((h |h) |h)
   ·exact .inl h
   ·exact .inr (.inl h)
   ·exact .inr (.inr h)
  ·rintro(h |h |h)
   ·exact .inl (.inl h)
   ·exact .inl (.inr h)
   ·exact .inr h
theorem zcS {t:List File} (h:TB t) (ht:t.length<=1000) {f:Nat->List Str->Int->Option (List Str)} {Z:List Str->Option (List Str)}
 (hs: ∀ m (i:Nat) x acc,t[i]? =some x->f (m+1) acc (i:Int)=(zd6 acc x.Path).bind fun z=>f m z (w64 ((i:Int)+1))) (he: ∀ m acc,f (m+1) acc (t.length:Int)=Z acc): ∀ (k i m:Nat) (acc:List Str),i+k=t.length->k<m->Asd acc->acc.length<=10000+i->
 f m acc (i:Int)=Z (((t.drop i).map (·.Path)).foldl zfM acc)
 |k,i,0,acc,_,hm,_,_=>by omega
 |0,i,m+1,acc,hi,_,_,_=>by
  obtain rfl:i=t.length:=by omega
  rw[he,List.drop_length];rfl
 |k+1,i,m+1,acc,hi,hm,ha,hl=>by
  have hlt:i<t.length:=by omega
  have hx:t[i]? =some t[i]:=aB hlt
  have hil:=zgP acc t[i].Path
  rw[hs m i _ acc hx,zkQ (by omega) ha,aA,zac hlt h.maxi,zcS h ht hs he k (i+1) m _ (by omega) (by omega) (zdW _ _) (by omega),aI hlt]
  rfl
theorem ziP {o a b:List File}(ho:TB o)(ha:TB a)(hb:TB b)(so:o.length<=100)(sa:a.length<=100)(sb:b.length<=100):zeQ o a b=some (zcq o a b):=by
 unfold zeQ zcq
 simp only[jn,zap]
 have l1:=zbP (o.map (·.Path)) []
 have l2:=zbP (a.map (·.Path)) ((o.map (·.Path)).foldl zfM [])
 have a0:Asd ([]:List Str):=List.Pairwise.nil
 have a1:=zeq (o.map (·.Path)) [] a0
 have a2:=zeq (a.map (·.Path)) _ a1
 simp only[List.length_map,List.length_nil]at l1 l2
 have e3:=fun acc (h1:Asd acc) (h2:acc.length<=10000)=>zcS hb (by omega) (f:=fun m acc i=>zas b (fun y40 _=>some y40) m acc i) (Z:=fun acc=>some acc) (fun m i x acc hx=>by simp only[zas,zam hx,zad hx,aD,aA]) (fun m acc=>by simp only[zas,zag,aC]) b.length 0 (b.length+1) acc (by omega) (by omega) h1 (by omega)
 have e2:=fun acc (h1:Asd acc) (h2:acc.length<=10000)=>zcS ha (by omega) (f:=fun m acc i=>zaL a (fun y23 _=>zas b (fun y40 _=>some y40) (b.length+1) y23 0) m acc i) (Z:=fun acc=>zas b (fun y40 _=>some y40) (b.length+1) acc 0) (fun m i x acc hx=>by simp only[zaL,zam hx,zad hx,aD,aA]) (fun m acc=>by simp only[zaL,zag,aC]) a.length 0 (a.length+1) acc (by omega) (by omega) h1 (by omega)
 have e1:=fun acc (h1:Asd acc) (h2:acc.length<=10000)=>zcS ho (by omega) (f:=fun m acc i=>zbv o (fun y6 _=>zaL a (fun y23 _=>zas b (fun y40 _=>some y40) (b.length+1) y23 0) (a.length+1) y6 0) m acc i) (Z:=fun acc=>zaL a (fun y23 _=>zas b (fun y40 _=>some y40) (b.length+1) y23 0) (a.length+1) acc 0) (fun m i x acc hx=>by simp only[zbv,zam hx,zad hx,aD,aA]) (fun m acc=>by simp only[zbv,zag,aC]) o.length 0 (o.length+1) acc (by omega) (by omega) h1 (by omega)
 refine(e1 [] a0 (by simp)).trans ?_
 rw[List.drop_zero]
 refine(e2 _ a1 (by omega)).trans ?_
 rw[List.drop_zero]
 refine(e3 _ a2 (by omega)).trans ?_
 rw[List.drop_zero]
theorem zf8 (o a b:List File):(zcq o a b).length<=o.length+a.length+b.length:=by
 unfold zcq
 have l1:=zbP (o.map (·.Path)) []
 have l2:=zbP (a.map (·.Path)) ((o.map (·.Path)).foldl zfM [])
 have l3:=zbP (b.map (·.Path)) ((a.map (·.Path)).foldl zfM ((o.map (·.Path)).foldl zfM []))
 simp only[List.length_map,List.length_nil]at l1 l2 l3
 omega
theorem pathsF_mem {o a b:List File}{x:Str}:x∈zcq o a b↔ (∃ f∈o,f.Path=x)\/(∃ f∈a,f.Path=x)\/(∃ f∈b,f.Path=x):=by
 unfold zcq
 rw[zdI,zdI,zdI]
 simp only[List.mem_map,List.not_mem_nil,false_or]
 constructor
 ·rintro((h |h) |h)
  ·exact .inl h
  ·exact .inr (.inl h)
  ·exact .inr (.inr h)
 ·rintro(h |h |h)
  ·exact .inl (.inl h)
  ·exact .inl (.inr h)
  ·exact .inr h
def zj4 (o a b:List File)(p:Str):Option File:=bif(oneF o a b p).2.1 then some ⟨p,(oneF o a b p).1⟩ else none
def ziX (o a b:List File)(p:Str):Option Clash:=bif decide (0< (oneF o a b p).2.2) then some ⟨p,(oneF o a b p).2.2⟩ else none
def zeB (o a b:List File):List File:=(zcq o a b).filterMap (zj4 o a b)
def zfE (o a b:List File):List Clash:=(zcq o a b).filterMap (ziX o a b)
theorem zg8 {o a b:List File}(ho:TB o)(ha:TB a)(hb:TB b)(to:zay o)(ta:zay a)(tb:zay b){ps:List Str}(hp:ps.length<=1000): ∀ (k i m:Nat) (fs:List File) (cs:List Clash),i+k=ps.length->k<m->fs.length<=i->cs.length<=i->
 zc9 o a b ps (fun y16 y19 _=>some (y16,y19)) m fs cs (i:Int)=some (fs++(ps.drop i).filterMap (zj4 o a b),cs++(ps.drop i).filterMap (ziX o a b))
 |k,i,0,fs,cs,_,hm,_,_=>by omega
 |0,i,m+1,fs,cs,hi,_,_,_=>by
  obtain rfl:i=ps.length:=by omega
  simp only[zc9,zag,aC,List.drop_length]
  simp
 |k+1,i,m+1,fs,cs,hi,hm,hf,hc=>by
  have hlt:i<ps.length:=by omega
  have hx:ps[i]? =some ps[i]:=aB hlt
  have ih:=fun fs cs h1 h2=>zg8 ho ha hb to ta tb hp k (i+1) m fs cs (by omega) (by omega) h1 h2
  have ht:=zaE (zg7 to ta tb ps[i])
  simp only[zc9,jn,zam hx,zad hx,aD,aA,zac hlt (show ps.length<=maxi by unfold maxi;omega),zkV ho ha hb to ta tb,apN (show(oneF o a b ps[i]).1.length<=1048576 by omega),ap1 (x:=(⟨ps[i],(oneF o a b ps[i]).1⟩:File)) (show fs.length<=1048576 by omega),ap1 (x:=(⟨ps[i],(oneF o a b ps[i]).2.2⟩:Clash)) (show cs.length<=1048576 by omega)]
  rw[aI hlt,List.filterMap_cons,List.filterMap_cons]
  unfold zj4 ziX at ih ⊢
  cases(oneF o a b ps[i]).2.1<;>cases decide (0< (oneF o a b ps[i]).2.2)<;>simp only[aD,aC]
  ·rw[ih _ _ (by omega) (by omega)]
  ·rw[ih _ _ (by omega) (by simp;omega)];simp
  ·rw[ih _ _ (by simp;omega) (by omega)];simp
  ·rw[ih _ _ (by simp;omega) (by simp;omega)];simp
theorem zlN {o a b:List File}(ho:TB o)(ha:TB a)(hb:TB b)(to:zay o)(ta:zay a)(tb:zay b)(so:o.length<=100)(sa:a.length<=100)(sb:b.length<=100):zhK o a b=some (zeB o a b,zfE o a b):=by
 have hl:=zf8 o a b
 unfold zhK
 rw[ziP ho ha hb so sa sb,aA]
 simp only[jn,zap]
 have:=zg8 ho ha hb to ta tb (ps:=zcq o a b) (by omega) (zcq o a b).length 0 ((zcq o a b).length+1) [] [] (by omega) (by omega) (by simp) (by simp)
 refine this.trans ?_
 simp[zeB,zfE]
theorem zg9 {o a b:List File}(ho:TB o)(ha:TB a)(hb:TB b)(to:zay o)(ta:zay a)(tb:zay b)(so:o.length<=100)(sa:a.length<=100)(sb:b.length<=100):TB (zeB o a b):=by
 have hl:=zf8 o a b
 refine⟨Nat.le_trans (List.length_filterMap_le _ _) (by omega),fun f hf=>?_⟩
 obtain⟨p,hp,he⟩:=List.mem_filterMap.1 hf
 unfold zj4 at he
 cases h2:(oneF o a b p).2.1 with
 |false=>rw[h2]at he;cases he
 |true=>
  rw[h2,aD]at he
  cases he
  have ht:=zg7 to ta tb p
  have hlen:=zaE ht
  refine⟨?_,by show(oneF o a b p).1.length<=_;omega,zeZ (s:=(oneF o a b p).1) (by omega) (za0 ht)⟩
  rcases pathsF_mem.1 hp with ⟨g,hg,e⟩ |⟨g,hg,e⟩ |⟨g,hg,e⟩
  ·rw[<- e];exact(ho.2 g hg).path
  ·rw[<- e];exact(ha.2 g hg).path
  ·rw[<- e];exact(hb.2 g hg).path
def zed (o a b:List File):List File×List Clash:=bif((zfE o a b).length:Int)==0 && !zar (zeB o a b) then(o,[⟨[],4⟩]) else(zeB o a b,zfE o a b)
theorem zha {o a b:List File}(ho:TB o)(ha:TB a)(hb:TB b)(to:zay o)(ta:zay a)(tb:zay b)(so:o.length<=100)(sa:a.length<=100)(sb:b.length<=100):zfx o a b=some (zed o a b):=by
 unfold zfx zed
 simp only[jn,zlN ho ha hb to ta tb so sa sb,aA,zdj (zg9 ho ha hb to ta tb so sa sb),zbC ho]
 cases(((zfE o a b).length:Int)==0)<;>cases zar (zeB o a b)<;>rfl
theorem zh6 {o a b:List File}(ho:TB o)(ha:TB a)(hb:TB b)(to:zay o)(ta:zay a)(tb:zay b)(so:o.length<=100)(sa:a.length<=100)(sb:b.length<=100):TB (zed o a b).1:=by
 unfold zed
 cases(((zfE o a b).length:Int)==0 && !zar (zeB o a b))
 ·exact zg9 ho ha hb to ta tb so sa sb
 ·exact ho
theorem zaB {t:List File}(h:zar t=true):zay t:=by
 intro f hf
 obtain⟨i,hi⟩:=List.mem_iff_getElem?.1 hf
 unfold zar at h
 simp only[aG]at h
 have:=zaJ.1 h.2 i (Nat.zero_le _) (by have:=zat hi;omega)
 unfold zfD zfC at this
 rw[zbe hi]at this
 simp only[aG]at this
 exact this.1.2.1
theorem zbQ {t:List File}(h:zar t=true){f:File}(hf:f∈t):zaC f.Path=true:=by
 obtain⟨i,hi⟩:=List.mem_iff_getElem?.1 hf
 unfold zar at h
 simp only[aG]at h
 have:=zaJ.1 h.2 i (Nat.zero_le _) (by have:=zat hi;omega)
 unfold zfD zfC at this
 rw[zbe hi]at this
 simp only[aG]at this
 exact this.1.1
theorem zgu (c:UInt8): ∀ (r w:Str),w.length+r.length+1=zcF (fun p=>p.length+1) (curS c w r)
 | [],w=>by simp[curS,zcF]
 |x::r,w=>by
  unfold curS
  cases x==c with
  |true=>
   rw[aD]
   have:=zgu c r []
   simp only[zcF,List.length_nil,aL]at this ⊢
   omega
  |false=>
   rw[aC]
   have:=zgu c r (w++[x])
   simp only[List.length_append,aL,List.length_nil]at this ⊢
   omega
theorem zle {c:Nat}: ∀ {l:List Str},(∀ p∈l,p.length+1<=c)->zcF (fun p=>p.length+1) l<=c*l.length
 | [],_=>by simp[zcF]
 |x::l,h=>by
  have h1:=h x (by simp)
  have h2:=zle (c:=c) (l:=l) (fun p hp=>h p (List.mem_cons_of_mem _ hp))
  simp only[zcF,aL,Nat.mul_add,Nat.mul_one]
  omega
theorem zbd {s:Str}(h:zax s=true):s.length<=6:=by
 unfold zax at h
 simp only[aG,decide_eq_true_eq]at h
 omega
theorem zcn {s:Str}(h:zaC s=true):s.length<=20:=by
 unfold zaC at h
 simp only[aG,decide_eq_true_eq,List.all_eq_true]at h
 have h1:=zgu 47 s []
 have h2:=zle (c:=7) (l:=curS 47 [] s) (fun p hp=>by have:=zbd (h.2 p hp);omega)
 simp only[List.length_nil]at h1
 omega
theorem zjW {d p:Str}(h:zaI d p=true):d.length+1<=p.length:=by
 unfold zaI at h
 have:=(List.isPrefixOf_iff_prefix.1 h).length_le
 simpa using this
def zdv (p to:Str)(acc:List File)(g:File):List File:=bif !zk5 p g then putF ⟨to++g.Path.drop p.length,g.Text⟩ false acc else acc
def ziQ (t:List File)(p to:Str):List File×Bool:=
 bif zar t then(bif((((dropF p t).length:Int))==(t.length:Int)) || !zaC to then(t,false) else(bif !zar (t.foldl (zdv p to) (dropF p t))||(((t.foldl (zdv p to) (dropF p t)).length:Int) !=(t.length:Int)) then(t,false) else(t.foldl (zdv p to) (dropF p t),true))) else([],false)
theorem zjX {p to:Str}{acc:List File}{g:File}(hg:FB g)(hp:g.Path.length<=20)(ht:to.length<=20)(ha:TB acc)(hl:acc.length<=1000):TB (zdv p to acc g)/\(zdv p to acc g).length<=acc.length+1:=by
 unfold zdv
 cases !zk5 p g
 ·exact⟨ha,by simp⟩
 ·refine⟨ha.putF (by omega) ⟨?_,hg.len,hg.text⟩,?_⟩
  ·simp only[List.length_append,List.length_drop];omega
  ·have:=zge ⟨to++g.Path.drop p.length,g.Text⟩ acc false
   simp only[aC,aD]at this ⊢
   omega
theorem zhU {t:List File}(h:TB t)(hs:t.length<=8)(hp: ∀ f∈t,f.Path.length<=20){p to:Str}(ht:to.length<=20){K:List File->Int->Option (List File×Bool)}: ∀ (k i m:Nat) (acc:List File),i+k=t.length->k<m->TB acc->acc.length<=100+i->
 zaG t p to K m acc (i:Int)=K ((t.drop i).foldl (zdv p to) acc) (t.length:Int)/\TB ((t.drop i).foldl (zdv p to) acc)
 |k,i,0,acc,_,hm,_,_=>by omega
 |0,i,m+1,acc,hi,_,ha,_=>by
  obtain rfl:i=t.length:=by omega
  simp only[zaG,zag,aC,List.drop_length]
  exact⟨rfl,ha⟩
 |k+1,i,m+1,acc,hi,hm,ha,hl=>by
  have hlt:i<t.length:=by omega
  have hx:t[i]? =some t[i]:=aB hlt
  have hm':=List.getElem_mem hlt
  have hg:=h.at_ hx
  have hpl:=hp _ hm'
  obtain⟨i1,i2⟩:=zjX (p:=p) (to:=to) hg hpl ht ha (by omega)
  have ih:=zhU h hs hp (p:=p) (to:=to) ht (K:=K) k (i+1) m (zdv p to acc t[i]) (by omega) (by omega) i1 (by omega)
  rw[aI hlt,List.foldl_cons]
  refine⟨?_,ih.2⟩
  rw[<- ih.1]
  simp only[zaG,jn,zam hx,zad hx,aD,aA,zac hlt h.maxi,zhQ hg.path]
  unfold zdv zk5
  have hrun:p.length<=t[i].Path.length->((slM t[i].Path (p.length:Int) (t[i].Path.length:Int)).bind fun q67=>(saM to q67).bind fun q69=>(zej acc ⟨q69,t[i].Text⟩).bind fun z77=>zaG t p to K m z77 ((i+1:Nat):Int))=zaG t p to K m (putF ⟨to++t[i].Path.drop p.length,t[i].Text⟩ false acc) ((i+1:Nat):Int):=fun hle=>by
   have hsa:saM to (t[i].Path.drop p.length)=some (to++t[i].Path.drop p.length):=by
    unfold saM
    rw[if_pos]
    simp only[List.length_drop,lim]
    omega
   rw[zhp hle,aA,hsa,aA,ziw (g:=⟨to++t[i].Path.drop p.length,t[i].Text⟩) ha (by omega) ⟨by simp only[List.length_append,List.length_drop];omega,hg.len,hg.text⟩,aA]
  cases he:t[i].Path==p with
  |true=>
   have e:t[i].Path=p:=by simpa using he
   have e2:(t[i].Path !=p)=false:=by rw[bne,he];rfl
   rw[e2]
   exact hrun (by rw[e];exact Nat.le_refl _)
  |false=>
   have e2:(t[i].Path !=p)=true:=by rw[bne,he];rfl
   rw[e2]
   cases hb:zaI p t[i].Path with
   |false=>rfl
   |true=>exact hrun (by have:=zjW hb;omega)
theorem zhb {t:List File}(h:TB t)(p to:Str)(hto:to.length<=1048576):zcz t p to=some (ziQ t p to):=by
 unfold zcz ziQ
 rw[zdj h,aA]
 cases htr:zar t with
 |false=>rfl
 |true=>
  have hs:=zaD htr
  rw[aK,aC,aD,zbC h,aA,zg3 h,aA]
  simp only[jn,zap,zdG hto,aA]
  cases(((dropF p t).length:Int)==(t.length:Int))with
  |true=>rfl
  |false=>
   cases hpt:zaC to with
   |false=>rfl
   |true=>
    obtain⟨e1,e2⟩:=zhU h hs (fun f hf=>zcn (zbQ htr hf)) (p:=p) (zcn hpt) (K:=fun y39 _=>(zc7 y39).bind fun z115=>bif(!z115) then(some (t,false)) else(bif((y39.length:Int) !=(t.length:Int)) then(some (t,false)) else(some (y39,true)))) t.length 0 (t.length+1) (dropF p t) (by omega) (by omega) (h.dropF p) (by have:=List.length_filter_le (zk5 p) t;unfold dropF;omega)
    rw[List.drop_zero]at e1 e2
    simp only[Bool.false_or,aK,aC,aD]
    refine e1.trans ?_
    show(zc7 _).bind _=_
    rw[zdj e2,aA]
    cases zar (t.foldl (zdv p to) (dropF p t))<;>cases(((t.foldl (zdv p to) (dropF p t)).length:Int) !=(t.length:Int))<;>rfl
structure Gd (q:Prop) (r:Repo):Prop where
 rb:RpB r
 ok:zaa r=true
 hd:q->r.Commits≠ []->r.Heads≠ []
abbrev Good:Repo->Prop:=Gd True
variable {q:Prop}
def zaf (r:Repo)(i:Nat):List File:=(r.Commits.getD i noCommit).Tree
theorem Gd.tree {r:Repo}(h:Gd q r){i:Nat}(hi:i<r.Commits.length):TB (zaf r i)/\zar (zaf r i)=true/\zay (zaf r i)/\(zaf r i).length<=8:=by
 have hx:r.Commits[i]? =some r.Commits[i]:=aB hi
 have h1:zar (zaf r i)=true:=by
  have:=zex h.ok hi
  unfold zi8 at this
  simp only[aG]at this
  exact this.2.2.2.2
 refine⟨?_,h1,zaB h1,zaD h1⟩
 unfold zaf
 rw[zdb hx]
 exact(h.rb.cat hx).tree
theorem zer:TB ([]:List File)/\zar []=true/\zay []/\([]:List File).length<=8:=⟨TB.nil,rfl,fun f hf=>by simp at hf,by simp⟩
theorem zbf {r:Repo}{z:Int}(h0:0<=z)(h1:z<=(r.Commits.length:Int)-1):gi r.Commits z=some (r.Commits.getD z.toNat noCommit):=by
 obtain⟨n,rfl⟩:=Int.eq_ofNat_of_zero_le h0
 exact zhr (by omega)
theorem zhV (n:Str)(a:Int): ∀ (hs:List Head),zdB n a false hs≠ []
 | []=>by simp[zdB]
 |h::hs=>by
  unfold zdB
  cases hb:Op.bytesLess h.Name n
  ·simp
  ·have:=zhV n a hs
   cases(h.Name !=n)<;>simp[this]
def zdP (n:Str)(a:Int)(h:Head):Head:=bif h.Name==n then⟨n,a⟩ else h
theorem zgj (n:Str)(a:Int): ∀ (hs:List Head),(∀ h∈hs,h.Name≠n)->zdB n a true hs=hs
 | [],_=>rfl
 |h::hs,hn=>by
  have h1:(h.Name !=n)=true:=by simpa using hn h (by simp)
  unfold zdB
  rw[h1,Bool.true_or,zgj n a hs (fun x hx=>hn x (List.mem_cons_of_mem _ hx))]
  rfl
theorem zfp (n:Str)(a:Int): ∀ (hs:List Head),hs.Pairwise (fun x y=>x.Name<y.Name)->(∃ h∈hs,h.Name=n)->zdB n a false hs=hs.map (zdP n a)
 | [],_,h=>by obtain⟨x,hx,_⟩:=h;simp at hx
 |h::hs,hp,he=>by
  obtain⟨p1,p2⟩:=List.pairwise_cons.1 hp
  unfold zdB
  rw[List.map_cons]
  cases hb:Op.bytesLess h.Name n with
  |true=>
   rw[zaN]at hb
   have hlt:h.Name<n:=by simpa using hb
   have hne:h.Name≠n:=fun e=>by rw[e]at hlt;exact zao _ hlt
   have h1:(h.Name !=n)=true:=by simpa using hne
   have h2:(h.Name==n)=false:=beq_false_of_ne hne
   have ht: ∃ x∈hs,x.Name=n:=by
    obtain⟨x,hx,e⟩:=he
    rcases List.mem_cons.1 hx with e2 |e2
    ·rw[e2]at e;exact absurd e hne
    ·exact⟨x,e2,e⟩
   rw[h1]
   simp only[aK,Bool.and_false,aC,aD,List.nil_append,Bool.or_false,List.singleton_append]
   rw[zfp n a hs p2 ht]
   unfold zdP
   rw[h2]
   rfl
  |false=>
   rw[zaN]at hb
   have hge:n<=h.Name:=zgS.1 (by simpa using hb)
   cases h2:h.Name==n with
   |true=>
    have e:h.Name=n:=by simpa using h2
    have h1:(h.Name !=n)=false:=by rw[bne,h2];rfl
    have hno: ∀ x∈hs,x.Name≠n:=fun x hx e2=>by
     have:=p1 x hx
     rw[e,e2]at this
     exact zao _ this
    rw[h1,Bool.not_false,Bool.or_true,zgj n a hs hno]
    have hm:hs.map (zdP n a)=hs:=by
     conv=>rhs;rw[<- List.map_id hs]
     refine List.map_congr_left (fun x hx=>?_)
     unfold zdP
     rw[beq_false_of_ne (hno x hx)]
     rfl
    rw[hm]
    unfold zdP
    rw[h2]
    rfl
   |false=>
    exfalso
    have hne:n≠h.Name:=fun e=>by rw[e]at h2;simp at h2
    have hlt:=zbb hge hne
    obtain⟨x,hx,e⟩:=he
    rcases List.mem_cons.1 hx with e2 |e2
    ·rw[e2]at e;exact hne e.symm
    ·have:=p1 x e2
     rw[e]at this
     exact zao _ (zaQ hlt this)
theorem zhw {r:Repo}(h:zaa r=true):r.Heads.Pairwise (fun x y=>x.Name<y.Name):=by
 unfold zaa zbN at h
 simp only[aG]at h
 have hg:=zaJ.1 h.2.2.1
 have step: ∀ i,(hi:i+1<r.Heads.length)->(r.Heads[i]'(by omega)).Name<r.Heads[i+1].Name:=fun i hi=>by
  have:=hg (i+1) (by omega) (by omega)
  unfold zet at this
  rw[zaX (aB hi),aF (by omega),Nat.add_sub_cancel,zaX (aB (show i<r.Heads.length by omega))]at this
  simp only[aD,aG,zaN,decide_eq_true_eq]at this
  exact this.2.2
 refine List.pairwise_iff_getElem.2 fun i j hi hj hij=>?_
 induction j with
 |zero=>omega
 |succ j ih=>
  rcases Nat.lt_or_ge i j with h1 |h1
  ·exact zaQ (ih (by omega) h1) (step j hj)
  ·have:i=j:=by omega
   subst this
   exact step i hj
theorem zjy {r:Repo}{n:Str}(h:0<=atB r n): ∃ x∈r.Heads,x.Name=n:=by
 unfold atB at h
 cases hf:r.Heads.find? (fun h=>h.Name==n)with
 |none=>rw[hf]at h;simp at h
 |some x=>exact⟨x,List.mem_of_find?_eq_some hf,by simpa using List.find?_some hf⟩
theorem zhx {r:Repo}(h:zaa r=true){n:Str}(ha:0<=atB r n)(b:Int):headR r n b=⟨r.Commits,r.Heads.map (zdP n b)⟩:=by
 unfold headR
 rw[zfp n b r.Heads (zhw h) (zjy ha)]
theorem zkt {r:Repo}(h:zaa r=true){n:Str}(ha:0<=atB r n){b:Int}(h0:0<=b)(h1:b<=(r.Commits.length:Int)-1):zaa (headR r n b)=true:=by
 rw[zhx h ha]
 have hh:=h
 unfold zaa zbN at h ⊢
 simp only[aG,List.length_map]at h ⊢
 refine⟨h.1,h.2.1,?_,h.2.2.2⟩
 have hg:=zaJ.1 h.2.2.1
 refine zaJ.2 fun i hi0 hi=>?_
 have hil:i<r.Heads.length:=by omega
 have hx:r.Heads[i]? =some r.Heads[i]:=aB hil
 have hm: ∀ j,j<r.Heads.length->((r.Heads.map (zdP n b)).getD j zdt).Name=(r.Heads.getD j zdt).Name:=fun j hj=>by
  have hxj:r.Heads[j]? =some r.Heads[j]:=aB hj
  rw[zaX hxj,zaX (f:=zdP n b r.Heads[j]) (by rw[List.getElem?_map,hxj];rfl)]
  unfold zdP
  cases he:r.Heads[j].Name==n with
  |true=>simpa using (by simpa using he:r.Heads[j].Name=n).symm
  |false=>rfl
 have hat:upB r.Commits.length ((r.Heads.map (zdP n b)).getD i zdt).At=true:=by
  rw[zaX (f:=zdP n b r.Heads[i]) (by rw[List.getElem?_map,hx];rfl)]
  unfold zdP upB
  cases r.Heads[i].Name==n with
  |true=>simp[h0,h1]
  |false=>
   have:=zfr hh (List.getElem_mem hil)
   simp[this.1,this.2.1]
 have:=hg i hi0 (by omega)
 unfold zet at this ⊢
 simp only[aG]at this ⊢
 refine⟨by rw[hm i hil];exact this.1,hat,?_⟩
 rw[hm i hil,hm (i-1) (by omega)]
 exact this.2.2
def zgQ (r:Repo)(a b:Int):List File:=bif((zaM r a b).length:Int)==0 then [] else zaf r ((zaM r a b).getD ((zaM r a b).length-1) 0).toNat
theorem ziY {r:Repo}(h:Gd q r){a b:Int}(ha:0<=a)(ha':a<=(r.Commits.length:Int)-1)(hb:0<=b)(hb':b<=(r.Commits.length:Int)-1):zfW r a b=some (zgQ r a b)/\TB (zgQ r a b)/\zar (zgQ r a b)=true:=by
 have hs:=(zae h.ok).1
 have hl:=zjS r a b
 unfold zfW zgQ
 rw[ziO h.ok ha ha' hb hb',aA]
 cases hz:((zaM r a b).length:Int)==0 with
 |true=>exact⟨rfl,zer.1,zer.2.1⟩
 |false=>
  have hne:((zaM r a b).length:Int)≠0:=by simpa using hz
  have e:w64 (((zaM r a b).length:Int)-1)=(((zaM r a b).length-1:Nat):Int):=by rw[zai (by omega) (by omega)];omega
  have hlt:(zaM r a b).length-1< (zaM r a b).length:=by omega
  have hm:(zaM r a b).getD ((zaM r a b).length-1) 0∈zaM r a b:=by
   rw[zbS (aB hlt)];exact List.getElem_mem hlt
  obtain⟨q0,q1⟩:=zjk hm
  rw[aC,aC,e,zek hlt,aA,zbf q0 q1,aA]
  have:=h.tree (i:=((zaM r a b).getD ((zaM r a b).length-1) 0).toNat) (by omega)
  exact⟨rfl,this.1,this.2.1⟩
def ze6 (r:Repo)(n:Str)(c:Commit):Repo×Int:=bif zaa (addR r n c) then(addR r n c,0) else(r,5)
def zf1 (r:Repo)(n who:Str)(b:Int):Repo×Int:=
 bif zfA (za6 r (atB r n)) b then(r,2)
 else bif zfA (za6 r b) (atB r n) then(headR r n b,3)
 else
  let j:=zed (zgQ r (atB r n) b) (zaf r (atB r n).toNat) (zaf r b.toNat)
  bif decide (0< (j.2.length:Int)) then(r,4) else ze6 r n ⟨[atB r n,b],who,j.1⟩
theorem Gd.add {r:Repo}(h:Gd q r){n:Str}{c:Commit}(hn:n.length<=1048576)(hc:CB c)(ho:zaa (addR r n c)=true):Gd q (addR r n c):=by
 obtain⟨s1,s2⟩:=zae h.ok
 exact⟨h.rb.addR (by omega) (by omega) hn hc,ho,fun _ _=>zhV _ _ _⟩
theorem Gd.head {r:Repo}(h:Gd q r){n:Str}{b:Int}(hn:n.length<=1048576)(ho:zaa (headR r n b)=true):Gd q (headR r n b):=by
 obtain⟨s1,s2⟩:=zae h.ok
 exact⟨h.rb.headR (by omega) hn b,ho,fun _ _=>zhV _ _ _⟩
theorem ze7 {r:Repo}(h:Gd q r){n:Str}{c:Commit}(hn:n.length<=1048576)(hc:CB c):Gd q (ze6 r n c).1:=by
 unfold ze6
 cases ho:zaa (addR r n c)with
 |true=>exact h.add hn hc ho
 |false=>exact h
theorem zhc {r:Repo}(h:Gd q r){n:Str}{c:Commit}(hn:n.length<=1048576)(hc:CB c):((zcT r n c).bind fun z130=>(zcr z130).bind fun z163=>bif(!z163) then(some (r,(5:Int))) else(some (z130,0)))=some (ze6 r n c):=by
 obtain⟨s1,s2⟩:=zae h.ok
 rw[ziu h.rb (by omega) (by omega) n hc,aA,zbE (h.rb.addR (by omega) (by omega) hn hc),aA]
 unfold ze6
 cases zaa (addR r n c)<;>rfl
theorem ziR {r:Repo}(h:Gd q r){n who:Str}{b:Int}(hn:n.length<=1048576)(hw:who.length<=1048576)(ha:0<=atB r n)(hb:0<=b)(hb':b<=(r.Commits.length:Int)-1):zda r n who b=some (zf1 r n who b)/\Gd q (zf1 r n who b).1:=by
 obtain⟨s1,s2⟩:=zae h.ok
 have ha':atB r n<=(r.Commits.length:Int)-1:=by rcases at_range h.ok n with e |e<;>omega
 have l1:=zcb r (atB r n)
 have l2:=zcb r b
 obtain⟨e1,e2,e3⟩:=ziY h ha ha' hb hb'
 obtain⟨ta,ta2,ta3,ta4⟩:=h.tree (i:=(atB r n).toNat) (by omega)
 obtain⟨tb,tb2,tb3,tb4⟩:=h.tree (i:=b.toNat) (by omega)
 have hbs:=zaD e3
 have hj:=zh6 e2 ta tb (zaB e3) ta3 tb3 (by omega) (by omega) (by omega)
 have hc:CB ⟨[atB r n,b],who,(zed (zgQ r (atB r n) b) (zaf r (atB r n).toNat) (zaf r b.toNat)).1⟩:=⟨by simp,hw,hj⟩
 unfold zda zf1
 simp only[zcc h.rb,aA,zdH h.ok ha ha',zdH h.ok hb hb',zeK (show(za6 r (atB r n)).length<=1000000 by omega),zeK (show(za6 r b).length<=1000000 by omega),ze5 h.rb (show r.Heads.length<=100000 by omega),zbf ha ha',zbf hb hb',e1]
 cases zfA (za6 r (atB r n)) b with
 |true=>exact⟨rfl,h⟩
 |false=>
  cases zfA (za6 r b) (atB r n)with
  |true=>exact⟨rfl,h.head hn (zkt h.ok ha hb hb')⟩
  |false=>
   simp only[aC]
   have hjoin:=zha e2 ta tb (zaB e3) ta3 tb3 (by omega) (by omega) (by omega)
   unfold zaf at hjoin hc ⊢
   rw[hjoin,aA]
   cases decide (0< ((zed (zgQ r (atB r n) b) (r.Commits.getD (atB r n).toNat noCommit).Tree (r.Commits.getD b.toNat noCommit).Tree).2.length:Int))with
   |true=>exact⟨rfl,h⟩
   |false=>exact⟨zhc h hn hc,ze7 h hn hc⟩
def zi7 (r:Repo)(n who:Str)(b:Int):Bool:=decide (atB r n<0)||(!zax who || !upB r.Commits.length b)
def zkh (r:Repo)(n who:Str)(b:Int):Repo×Int:=bif zaa r then(bif zi7 r n who b then(r,1) else zf1 r n who b) else(zbm,1)
theorem zhE {r:Repo}{n who:Str}{b:Int}(h:zi7 r n who b=false):0<=atB r n/\0<=b/\b<=(r.Commits.length:Int)-1:=by
 unfold zi7 upB at h
 simp only[Bool.or_eq_false_iff,decide_eq_false_iff_not,Bool.not_eq_false',aG,decide_eq_true_eq]at h
 omega
theorem zfs {r:Repo}(h:Gd q r){n who:Str}{b:Int}(hn:n.length<=1048576)(hw:who.length<=1048576):zbA r n who b=some (zkh r n who b)/\Gd q (zkh r n who b).1:=by
 unfold zbA zkh
 have hwm:=zaj hw
 rw[zbE h.rb,aA,h.ok,aK,aC,aD]
 simp only[jn,zcc h.rb,aA,zaT hwm,zco,zcI (zaj h.rb.coms),zbt h.rb,show(⟨r.Commits,r.Heads⟩:Repo)=r from rfl]
 rw[show(decide ((0:Int)<=b)&&decide (b<=(r.Commits.length:Int)-1))=upB r.Commits.length b from rfl]
 have key:zi7 r n who b=false->((zda r n who b).bind fun z58=>some (z58.1,z58.2))=some (zf1 r n who b)/\Gd q (zf1 r n who b).1:=fun hbad=>by
  obtain⟨p1,p2,p3⟩:=zhE hbad
  obtain⟨q1,q2⟩:=ziR h hn hw p1 p2 p3
  rw[q1]
  exact⟨rfl,q2⟩
 unfold zi7 at key ⊢
 cases h1:decide (atB r n<0)with
 |true=>exact⟨rfl,h⟩
 |false=>
  cases h2:zax who with
  |false=>exact⟨rfl,h⟩
  |true=>
   cases h3:upB r.Commits.length b with
   |false=>exact⟨rfl,h⟩
   |true=>exact key (by rw[h1,h2,h3];rfl)
def zcg (r:Repo)(i:Nat):List File:=bif((zab r i).length:Int)==0 then [] else zaf r ((zab r i).getD 0 0).toNat
theorem zeF {r:Repo}(h:Gd q r){a:Int}(h0:0<=a)(h1:a<=(r.Commits.length:Int)-1):zbc r a=some (zcg r a.toNat)/\TB (zcg r a.toNat)/\zar (zcg r a.toNat)=true:=by
 have hi:a.toNat<r.Commits.length:=by omega
 obtain⟨ps,pm⟩:=zaS h.ok hi
 unfold zbc zcg
 rw[zbf h0 h1,aA]
 show(bif((zab r a.toNat).length:Int)==0 then _ else _)=_/\_
 cases hz:((zab r a.toNat).length:Int)==0 with
 |true=>exact⟨rfl,zer.1,zer.2.1⟩
 |false=>
  have hne:((zab r a.toNat).length:Int)≠0:=by simpa using hz
  have hlt:0< (zab r a.toNat).length:=by omega
  have hm:(zab r a.toNat).getD 0 0∈zab r a.toNat:=by
   rw[zbS (aB hlt)];exact List.getElem_mem hlt
  obtain⟨q0,q1⟩:=pm _ hm
  have hg:gi (r.Commits.getD a.toNat noCommit).Parents 0=some ((zab r a.toNat).getD 0 0):=zek (l:=zab r a.toNat) hlt
  rw[aC,aC,aA,hg,aA,zbf q0 (by omega),aA]
  have:=h.tree (i:=((zab r a.toNat).getD 0 0).toNat) (by omega)
  exact⟨rfl,this.1,this.2.1⟩
def zfm (r:Repo)(n who:Str)(o b:List File):Repo×Int:=
 let j:=zed o (zaf r (atB r n).toNat) b
 bif decide (0< (j.2.length:Int)) then(r,4) else ze6 r n ⟨[atB r n],who,j.1⟩
theorem zgL {r:Repo}(h:Gd q r){n who:Str}{o b:List File}(hn:n.length<=1048576)(hw:who.length<=1048576)(ha:0<=atB r n)(to:TB o)(to2:zar o=true)(tb:TB b)(tb2:zar b=true):zcd r n who o b=some (zfm r n who o b)/\Gd q (zfm r n who o b).1:=by
 have ha':atB r n<=(r.Commits.length:Int)-1:=by rcases at_range h.ok n with e |e<;>omega
 have hs:=(zae h.ok).1
 obtain⟨ta,ta2,ta3,ta4⟩:=h.tree (i:=(atB r n).toNat) (by omega)
 have ho:=zaD to2
 have hb:=zaD tb2
 have hj:=zh6 to ta tb (zaB to2) ta3 (zaB tb2) (by omega) (by omega) (by omega)
 have hc:CB ⟨[atB r n],who,(zed o (zaf r (atB r n).toNat) b).1⟩:=⟨by simp,hw,hj⟩
 have hjoin:=zha to ta tb (zaB to2) ta3 (zaB tb2) (by omega) (by omega) (by omega)
 unfold zcd zfm
 rw[zcc h.rb,aA,zbf ha ha',aA]
 unfold zaf at hjoin hc ⊢
 rw[hjoin,aA]
 simp only
 cases decide (0< ((zed o (r.Commits.getD (atB r n).toNat noCommit).Tree b).2.length:Int))with
 |true=>exact⟨rfl,h⟩
 |false=>exact⟨zhc h hn hc,ze7 h hn hc⟩
def zfz (r:Repo)(n who:Str)(b:Int):Repo×Int:=bif zaa r then(bif zi7 r n who b then(r,1) else zfm r n who (zcg r b.toNat) (zaf r b.toNat)) else(zbm,1)
def zfo (r:Repo)(n who:Str)(b:Int):Repo×Int:=bif zaa r then(bif zi7 r n who b then(r,1) else zfm r n who (zaf r b.toNat) (zcg r b.toNat)) else(zbm,1)
theorem zhz {r:Repo}(h:Gd q r){n who:Str}{b:Int}(hn:n.length<=1048576)(hw:who.length<=1048576):zdk r n who b=some (zfz r n who b)/\Gd q (zfz r n who b).1:=by
 unfold zdk zfz
 have hwm:=zaj hw
 rw[zbE h.rb,aA,h.ok,aK,aC,aD]
 simp only[jn,zcc h.rb,aA,zaT hwm,zco,zcI (zaj h.rb.coms),zbt h.rb,show(⟨r.Commits,r.Heads⟩:Repo)=r from rfl]
 rw[show(decide ((0:Int)<=b)&&decide (b<=(r.Commits.length:Int)-1))=upB r.Commits.length b from rfl]
 have key:zi7 r n who b=false->((gi r.Commits b).bind fun u77=>(zbc r b).bind fun z82=>(zcd r n who z82 u77.Tree).bind fun z93=>some (z93.1,z93.2))=some (zfm r n who (zcg r b.toNat) (zaf r b.toNat))/\Gd q (zfm r n who (zcg r b.toNat) (zaf r b.toNat)).1:=fun hbad=>by
  obtain⟨p1,p2,p3⟩:=zhE hbad
  obtain⟨q1,q2,q3⟩:=zeF h p2 p3
  obtain⟨tb,tb2,tb3,tb4⟩:=h.tree (i:=b.toNat) (by have:=(zae h.ok).1;omega)
  obtain⟨u1,u2⟩:=zgL h hn hw p1 q2 q3 tb tb2
  rw[zbf p2 p3,aA,q1,aA,show(r.Commits.getD b.toNat noCommit).Tree=zaf r b.toNat from rfl,u1]
  exact⟨rfl,u2⟩
 unfold zi7 at key ⊢
 cases h1:decide (atB r n<0)with
 |true=>exact⟨rfl,h⟩
 |false=>
  cases h2:zax who with
  |false=>exact⟨rfl,h⟩
  |true=>
   cases h3:upB r.Commits.length b with
   |false=>exact⟨rfl,h⟩
   |true=>exact key (by rw[h1,h2,h3];rfl)
theorem zfR {r:Repo}(h:Gd q r){n who:Str}{b:Int}(hn:n.length<=1048576)(hw:who.length<=1048576):zce r n who b=some (zfo r n who b)/\Gd q (zfo r n who b).1:=by
 unfold zce zfo
 have hwm:=zaj hw
 rw[zbE h.rb,aA,h.ok,aK,aC,aD]
 simp only[jn,zcc h.rb,aA,zaT hwm,zco,zcI (zaj h.rb.coms),zbt h.rb,show(⟨r.Commits,r.Heads⟩:Repo)=r from rfl]
 rw[show(decide ((0:Int)<=b)&&decide (b<=(r.Commits.length:Int)-1))=upB r.Commits.length b from rfl]
 have key:zi7 r n who b=false->((gi r.Commits b).bind fun u77=>(zbc r b).bind fun z82=>(zcd r n who u77.Tree z82).bind fun z93=>some (z93.1,z93.2))=some (zfm r n who (zaf r b.toNat) (zcg r b.toNat))/\Gd q (zfm r n who (zaf r b.toNat) (zcg r b.toNat)).1:=fun hbad=>by
  obtain⟨p1,p2,p3⟩:=zhE hbad
  obtain⟨q1,q2,q3⟩:=zeF h p2 p3
  obtain⟨tb,tb2,tb3,tb4⟩:=h.tree (i:=b.toNat) (by have:=(zae h.ok).1;omega)
  obtain⟨u1,u2⟩:=zgL h hn hw p1 tb tb2 q2 q3
  rw[zbf p2 p3,aA,q1,aA,show(r.Commits.getD b.toNat noCommit).Tree=zaf r b.toNat from rfl,u1]
  exact⟨rfl,u2⟩
 unfold zi7 at key ⊢
 cases h1:decide (atB r n<0)with
 |true=>exact⟨rfl,h⟩
 |false=>
  cases h2:zax who with
  |false=>exact⟨rfl,h⟩
  |true=>
   cases h3:upB r.Commits.length b with
   |false=>exact⟨rfl,h⟩
   |true=>exact key (by rw[h1,h2,h3];rfl)
end Go.Vm
namespace Go.Vm
open Go Go.Sx
set_option linter.unusedSimpArgs false
set_option linter.unusedVariables false
def zf9 (r:Repo)(o:Op)(z:List File×Bool):Repo×Int:=bif z.2 then(bif(zbT r o.Branch o.Who z.1).2 then((zbT r o.Branch o.Who z.1).1,0) else(r,5)) else(r,1)
theorem zhd {r:Repo}(h:Good r){n who:Str}{t:List File}(hn:n.length<=1048576)(hw:who.length<=1048576)(ht:TB t):Good (zbT r n who t).1:=by
 unfold zbT
 rw[h.ok,aD]
 cases ho:zaa (addR r n (zbO r n who t))with
 |true=>exact h.add hn (CB.next hw ht) ho
 |false=>exact h
theorem zd3 {r:Repo}(h:Good r){o:Op}{z:List File×Bool}(hn:o.Branch.length<=1048576)(hw:o.Who.length<=1048576)(hz:TB z.1):zaY r o z.1 z.2=some (zf9 r o z)/\Good (zf9 r o z).1:=by
 unfold zaY zf9
 have hg:=zhd h hn hw hz
 rw[zeC h.rb hn hw hz,aA]
 cases z.2 with
 |false=>exact⟨rfl,h⟩
 |true=>
  cases(zbT r o.Branch o.Who z.1).2 with
  |false=>exact⟨rfl,h⟩
  |true=>exact⟨rfl,hg⟩
def zci (r:Repo)(n:Str):List File:=bif decide (0<=atB r n) then zaf r (atB r n).toNat else []
def zmT (r:Repo)(o:Op):Repo×Int:=bif(zdc r o.To (atB r o.Branch)).2 then((zdc r o.To (atB r o.Branch)).1,0) else(r,1)
def doB (r:Repo)(o:Op):Repo×Int:=
 bif o.Kind==1 then zf9 r o (zlB (zci r o.Branch) ⟨o.Path,o.Text⟩)
 else bif o.Kind==2 then zf9 r o (zmi (zci r o.Branch) o.Path)
 else bif o.Kind==3 then zf9 r o (ziQ (zci r o.Branch) o.Path o.To)
 else bif o.Kind==4 then zmT r o
 else bif o.Kind==5 then zkh r o.Branch o.Who (atB r o.To)
 else bif o.Kind==6 then zfz r o.Branch o.Who o.At
 else zfo r o.Branch o.Who o.At
theorem zk6 {t:List File}(h:TB t)(hs:t.length<=8){g:File}(hg:FB g):TB (zlB t g).1:=by
 unfold zlB
 cases zar t
 ·exact TB.nil
 ·cases zar (putF g false t)
  ·exact h
  ·exact h.putF (by omega) hg
theorem zlO {t:List File}(h:TB t)(p:Str):TB (zmi t p).1:=by
 unfold zmi
 cases zar t
 ·exact TB.nil
 ·exact h.dropF p
theorem zkW {t:List File}(h:TB t)(p to:Str):TB (ziQ t p to).1:=by
 unfold ziQ
 cases htr:zar t with
 |false=>exact TB.nil
 |true=>
  rw[aD]
  cases he:((((dropF p t).length:Int))==(t.length:Int))with
  |true=>exact h
  |false=>
   cases hpt:zaC to with
   |false=>exact h
   |true=>
    have hs:=zaD htr
    obtain⟨e1,e2⟩:=zhU h hs (fun f hf=>zcn (zbQ htr hf)) (p:=p) (zcn hpt) (K:=fun _ _=>none) t.length 0 (t.length+1) (dropF p t) (by omega) (by omega) (h.dropF p) (by have:=List.length_filter_le (zk5 p) t;unfold dropF;omega)
    rw[List.drop_zero]at e2
    simp only[Bool.false_or,aK,aC]
    cases(!zar (t.foldl (zdv p to) (dropF p t))||(((t.foldl (zdv p to) (dropF p t)).length:Int) !=(t.length:Int)))with
    |true=>exact h
    |false=>exact e2
theorem zkX {r:Repo}(h:Good r){o:Op}(hf:OpFit o)(ho:opB o=true):zgJ r o=some (doB r o)/\Good (doB r o).1:=by
 obtain⟨f0,f1,f2,f3,f4,f5,f6⟩:=hf.fit
 have hbw:zax o.Branch=true/\zax o.Who=true:=by
  unfold opB at ho
  simp only[aG]at ho
  exact⟨ho.1,ho.2.1⟩
 have hn:=zbd hbw.1
 have hw:=zbd hbw.2
 have hn':o.Branch.length<=1048576:=by omega
 have hw':o.Who.length<=1048576:=by omega
 have hst:TB (zci r o.Branch)/\(zci r o.Branch).length<=8:=by
  unfold zci
  cases hd:decide (0<=atB r o.Branch)with
  |false=>exact⟨TB.nil,by simp⟩
  |true=>
   have h0:0<=atB r o.Branch:=by simpa using hd
   have ha':atB r o.Branch<=(r.Commits.length:Int)-1:=by rcases at_range h.ok o.Branch with e |e<;>omega
   have:=h.tree (i:=(atB r o.Branch).toNat) (by omega)
   exact⟨this.1,this.2.2.2⟩
 have hfb:FB ⟨o.Path,o.Text⟩:=⟨hf.path,zcw hf.text,f6⟩
 have hto:o.To.length<=1048576:=hf.to
 obtain⟨a1,a2⟩:=zd3 h (z:=zlB (zci r o.Branch) ⟨o.Path,o.Text⟩) hn' hw' (zk6 hst.1 hst.2 hfb)
 obtain⟨b1,b2⟩:=zd3 h (z:=zmi (zci r o.Branch) o.Path) hn' hw' (zlO hst.1 o.Path)
 obtain⟨c1,c2⟩:=zd3 h (z:=ziQ (zci r o.Branch) o.Path o.To) hn' hw' (zkW hst.1 o.Path o.To)
 obtain⟨d1,d2⟩:=zfs h (n:=o.Branch) (who:=o.Who) (b:=atB r o.To) hn' hw'
 obtain⟨e1,e2⟩:=zhz h (n:=o.Branch) (who:=o.Who) (b:=o.At) hn' hw'
 obtain⟨g1,g2⟩:=zfR h (n:=o.Branch) (who:=o.Who) (b:=o.At) hn' hw'
 have hrest: ∀ t,t=zci r o.Branch->(bif((o.Kind:Int)==(1:Int)) then
  ((Vm.zcU t (Vm.File.mk o.Path o.Text)).bind fun z41=>(Vm.zaY r o z41.1 z41.2).bind fun z53=>some (z53.1,z53.2))
  else(bif((o.Kind:Int)==(2:Int)) then
   ((Vm.zcy t o.Path).bind fun z79=>(Vm.zaY r o z79.1 z79.2).bind fun z91=>some (z91.1,z91.2))
   else(bif((o.Kind:Int)==(3:Int)) then
    ((Vm.zcz t o.Path o.To).bind fun z117=>(Vm.zaY r o z117.1 z117.2).bind fun z129=>some (z129.1,z129.2))
    else(bif((o.Kind:Int)==(4:Int)) then
     ((Vm.zbp r o.To (atB r o.Branch)).bind fun z157=>bif(!z157.2) then(some (r,1)) else(some (z157.1,0)))
     else(bif((o.Kind:Int)==(5:Int)) then
      ((Vm.zdJ r o.To).bind fun z199=>(Vm.zbA r o.Branch o.Who z199).bind fun z208=>some (z208.1,z208.2))
      else(bif((o.Kind:Int)==(6:Int)) then
       ((Vm.zdk r o.Branch o.Who o.At).bind fun z226=>some (z226.1,z226.2))
       else((Vm.zce r o.Branch o.Who o.At).bind fun z243=>some (z243.1,z243.2))))))))=some (doB r o)/\Good (doB r o).1:=by
  intro t et
  subst et
  unfold doB
  cases o.Kind==1 with
  |true=>rw[aD,aD,zgT hst.1 hfb,aA,a1];exact⟨rfl,a2⟩
  |false=>
  cases o.Kind==2 with
  |true=>simp only[aD,aC];rw[zg4 hst.1,aA,b1];exact⟨rfl,b2⟩
  |false=>
  cases o.Kind==3 with
  |true=>simp only[aD,aC];rw[zhb hst.1 _ _ hto,aA,c1];exact⟨rfl,c2⟩
  |false=>
  cases o.Kind==4 with
  |true=>
   simp only[aD,aC]
   rw[zeD h.rb hto,aA]
   unfold zmT zdc
   rw[h.ok,aD]
   cases hb:(decide (0<=atB r o.To) || !zaa (headR r o.To (atB r o.Branch)))with
   |true=>exact⟨rfl,h⟩
   |false=>
    refine⟨rfl,h.head hto ?_⟩
    simp only[Bool.or_eq_false_iff,Bool.not_eq_false']at hb
    exact hb.2
  |false=>
  cases o.Kind==5 with
  |true=>simp only[aD,aC];rw[zcc h.rb,aA,d1];exact⟨rfl,d2⟩
  |false=>
  cases o.Kind==6 with
  |true=>simp only[aD,aC];rw[e1];exact⟨rfl,e2⟩
  |false=>simp only[aD,aC];rw[g1];exact⟨rfl,g2⟩
 unfold zgJ
 rw[zcc h.rb,aA]
 simp only[jn]
 cases hd:decide (0<=atB r o.Branch)with
 |false=>
  refine hrest [] ?_
  unfold zci
  rw[hd];rfl
 |true=>
  have h0:0<=atB r o.Branch:=by simpa using hd
  have ha':atB r o.Branch<=(r.Commits.length:Int)-1:=by rcases at_range h.ok o.Branch with e |e<;>omega
  rw[aD,zbf h0 ha',aA]
  refine hrest _ ?_
  unfold zci
  rw[hd];rfl
theorem zjY:Good zbm:=⟨⟨by simp[zbm],fun c hc=>by simp[zbm]at hc,by simp[zbm],fun c hc=>by simp[zbm]at hc⟩,rfl,fun _ h=>absurd rfl h⟩
def OpL (o:Op):Prop:=Bk.fit o/\Bk.bulk o<=1000000
theorem zhW {l:List Op}(hl:l.length<=1000)(ho: ∀ o∈l,OpL o): ∀ (k i m:Nat) (r:Repo),i+k=l.length->k<m->Good r -> ∃ r',Good r'/\zbi l (fun _ y12 y15=>some (Vm.Repo.mk y12 y15)) m (i:Int) r.Commits r.Heads=some r'
 |k,i,0,r,_,hm,_=>by omega
 |0,i,m+1,r,hi,_,hg=>by
  obtain rfl:i=l.length:=by omega
  simp only[zbi,jn,zag,aC]
  exact⟨r,hg,rfl⟩
 |k+1,i,m+1,r,hi,hm,hg=>by
  have hlt:i<l.length:=by omega
  have hx:l[i]? =some l[i]:=aB hlt
  obtain⟨q1,q2⟩:=ho _ (List.getElem_mem hlt)
  have hof:=OpFit.of q1 (by omega)
  simp only[zbi,jn,zam hx,aD]
  cases decide ((i:Int)<30)with
  |false=>exact⟨r,hg,rfl⟩
  |true=>
   rw[aD,zad hx,aA,zkT hof,aA,zac hlt (show l.length<=maxi by unfold maxi;omega)]
   cases hop:opB l[i]with
   |false=>exact zhW hl ho k (i+1) m r (by omega) (by omega) hg
   |true=>
    obtain⟨e1,e2⟩:=zkX hg hof hop
    rw[aD,aA,show(⟨r.Commits,r.Heads⟩:Repo)=r from rfl,e1,aA]
    exact zhW hl ho k (i+1) m (doB r l[i]).1 (by omega) (by omega) e2
theorem zhe {l:List Op}(hl:l.length<=1000)(ho: ∀ o∈l,OpL o): ∃ r,Good r/\zeg l=some r:=by
 unfold zeg
 simp only[jn]
 exact zhW hl ho l.length 0 (l.length+1) zbm (by omega) (by omega) zjY
section
variable {r:l30Rd}{p:Int}
theorem zdg {q k:Int}(h:zbB r p)(hk:0<=k)(hq:p+k<=q):zbB ⟨r.b,r.p+k⟩ q:=h.on k hk (by have:=h.2.2;omega)
theorem zhf (h:zbB r p)(hp:p<=1000000000): ∃ s,zdq r=some (s,r.p+1)/\s.length<=10:=by
 unfold zdq
 obtain⟨s,e,hm⟩:=zh5 h (by omega) (l:=[([109,97,105,110]:Str),([109,97,105,110]:Str),([115,105,100,101]:Str),([100,101,118]:Str)]) (by simp) (by simp)
 refine⟨s,by rw[e];rfl,?_⟩
 simp only[List.mem_cons,List.not_mem_nil,or_false]at hm
 rcases hm with e |e |e |e<;>rw[e]<;>simp
theorem zhF (h:zbB r p)(hp:p<=1000000000): ∃ s,zcv r=some (s,r.p+1)/\s.length<=10:=by
 unfold zcv
 obtain⟨s,e,hm⟩:=zh5 h (by omega) (l:=[([97]:Str),([98]:Str),([100,47,101]:Str),([100,47,102]:Str),([103,47,104,47,105]:Str),([103,47,107]:Str),([122]:Str)]) (by simp) (by simp)
 refine⟨s,by rw[e];rfl,?_⟩
 simp only[List.mem_cons,List.not_mem_nil,or_false]at hm
 rcases hm with e |e |e |e |e |e |e<;>rw[e]<;>simp
theorem ze8 {k a:Int}{b w q t:Str}{l:List Str}(hk:0<=k/\k<=100)(ha:0<=a/\a<=100)(h1:b.length<=10)(h2:w.length<=10)(h3:q.length<=10)(h4:t.length<=10)(h5:LB 8 l):OpL ⟨k,b,w,q,t,a,l⟩:=by
 have hb:=h5.bulk
 refine⟨⟨?_,?_,?_,?_,?_,?_,h5.fit (by omega)⟩,?_⟩
 ·show -9223372036854775808<=k/\k<=9223372036854775807;omega
 ·show b.length<=maxi;unfold maxi;omega
 ·show w.length<=maxi;unfold maxi;omega
 ·show q.length<=maxi;unfold maxi;omega
 ·show t.length<=maxi;unfold maxi;omega
 ·show -9223372036854775808<=a/\a<=9223372036854775807;omega
 ·show 0+(b.length+(w.length+(q.length+(t.length+(0+Bk.bulk l)))))<=_
  omega
theorem zga:LB 8 ([]:List Str):=⟨by simp,fun s hs=>by simp at hs⟩
theorem zoQ (h:zbB r p)(hp:p<=1000000): ∃ o q,zgF r=some (o,q)/\OpL o/\zbB ⟨r.b,q⟩ (p+100):=by
 unfold zgF
 obtain⟨b,e1,hb⟩:=zhf h (by omega)
 have h1:=zdg (q:=p+1) h (k:=1) (by omega) (by omega)
 obtain⟨w,e2,hw⟩:=zh5 h1 (by omega) (l:=[([97,110,110]:Str),([98,111,98]:Str),([99,105,100]:Str)]) (by simp) (by simp)
 have hwl:w.length<=10:=by
  simp only[List.mem_cons,List.not_mem_nil,or_false]at hw
  rcases hw with e |e |e<;>rw[e]<;>simp
 have h2:=zdg (q:=p+2) h1 (k:=1) (by omega) (by omega)
 obtain⟨k,e3,k0,k1⟩:=zbs h2 (n:=12) (by omega) (by omega) (by omega)
 have h3:=zdg (q:=p+3) h2 (k:=1) (by omega) (by omega)
 rw[e1,aA,e2,aA]
 simp only[jn,e3,aA]
 obtain⟨pa,e4,hpa⟩:=zhF h3 (by omega)
 have h4:=zdg (q:=p+4) h3 (k:=1) (by omega) (by omega)
 obtain⟨pb,e5,hpb⟩:=zhF h4 (by omega)
 have h5:=zdg (q:=p+5) h4 (k:=1) (by omega) (by omega)
 obtain⟨fo,e6,hfo⟩:=zh5 h3 (by omega) (l:=[([115,105,100,101]:Str),([100,101,118]:Str),([111,108,100]:Str)]) (by simp) (by simp)
 have hfl:fo.length<=10:=by
  simp only[List.mem_cons,List.not_mem_nil,or_false]at hfo
  rcases hfo with e |e |e<;>rw[e]<;>simp
 obtain⟨br,e7,hbr⟩:=zhf h3 (by omega)
 obtain⟨n,e8,n0,n1⟩:=zbs h3 (n:=10) (by omega) (by omega) (by omega)
 obtain⟨t,q,e9,ht,hq⟩:=zkA h4 (by omega)
 simp only[e4,e5,e6,e7,e8,e9,aA]
 have g4:zbB ⟨r.b,r.p+1+1+1+1⟩ (p+100):=zdg h3 (by omega) (by omega)
 have g5:zbB ⟨r.b,r.p+1+1+1+1+1⟩ (p+100):=zdg h4 (by omega) (by omega)
 have gq:zbB ⟨r.b,q⟩ (p+100):=⟨hq.1,hq.2.1,by have:=hq.2.2;show q<=_;have e:(⟨r.b,q⟩:l30Rd).p=q:=rfl;rw[e]at this;omega⟩
 cases k==0 with
 |true=>exact⟨_,_,rfl,ze8 (by omega) (by omega) hb hwl hpa (by simp) zga,g4⟩
 |false=>
 cases k==1 with
 |true=>exact⟨_,_,rfl,ze8 (by omega) (by omega) hb hwl hpa hpb zga,g5⟩
 |false=>
 have hfork:=ze8 (k:=4) (a:=0) (by omega) (by omega) hb hwl (q:=[]) (by simp) hfl zga
 have huni:=ze8 (k:=5) (a:=0) (by omega) (by omega) hb hwl (q:=[]) (by simp) hbr zga
 have hset:=ze8 (k:=1) (a:=0) (by omega) (by omega) hb hwl hpa (t:=[]) (by simp) ht
 cases k==2 with
 |true=>exact⟨_,_,rfl,hfork,g4⟩
 |false=>
 cases k==3 with
 |true=>exact⟨_,_,rfl,hfork,g4⟩
 |false=>
 cases k==4 with
 |true=>exact⟨_,_,rfl,huni,g4⟩
 |false=>
 cases k==5 with
 |true=>exact⟨_,_,rfl,huni,g4⟩
 |false=>
 cases k==6 with
 |true=>exact⟨_,_,rfl,huni,g4⟩
 |false=>
 cases k==7 with
 |true=>exact⟨_,_,rfl,ze8 (by omega) (by omega) hb hwl (by simp) (by simp) zga,g4⟩
 |false=>
 cases k==8 with
 |true=>exact⟨_,_,rfl,ze8 (by omega) (by omega) hb hwl (by simp) (by simp) zga,g4⟩
 |false=>exact⟨_,_,rfl,hset,gq⟩
theorem zlf {x0:l30Rd}: ∀ (m:Nat) (out:List Op) (n q p:Int),0<=n->n<m->(∀ o∈out,OpL o)->zbB ⟨x0.b,q⟩ p->p+100*n<=1000000->out.length+n<=100->
 ∃ l q',zdK x0 (fun y15 _ y19=>some (y15,y19)) m out n q=some (l,q')/\(∀ o∈l,OpL o)/\l.length<=100/\zbB ⟨x0.b,q'⟩ (p+100*n)
 |0,out,n,q,p,h0,hm,_,_,_,_=>by omega
 |m+1,out,n,q,p,h0,hm,ho,hr,hp,hl=>by
  simp only[zdK]
  by_cases hn:0<n
  ·obtain⟨o,q1,e1,o1,r1⟩:=zoQ hr (by omega)
   rw[aF hn,aD,e1,aA,ap1 (show out.length<=1048576 by omega),aA,zai (by omega) (by omega)]
   obtain⟨l,q',e2,l1,l2,r2⟩:=zlf (x0:=x0) m (out++[o]) (n-1) q1 (p+100) (by omega) (by omega) (fun x hx=>by
    rcases List.mem_append.1 hx with h1 |h1
    ·exact ho x h1
    ·rw[List.mem_singleton]at h1;rw[h1];exact o1) r1 (by omega) (by simp;omega)
   exact⟨l,q',e2,l1,l2,⟨r2.1,r2.2.1,by have e:(⟨x0.b,q'⟩:l30Rd).p<=p+100+100*(n-1):=r2.2.2;show q'<=_;have e':q'<=p+100+100*(n-1):=e;omega⟩⟩
  ·rw[aE hn,aC]
   exact⟨out,q,rfl,ho,by omega,⟨hr.1,hr.2.1,by have e:q<=p:=hr.2.2;show q<=_;omega⟩⟩
theorem zmU (h:zbB r p)(hp:p<=100000): ∃ l q,zfU r=some (l,q)/\(∀ o∈l,OpL o)/\l.length<=100/\zbB ⟨r.b,q⟩ (p+2001):=by
 unfold zfU
 obtain⟨n,e,hm⟩:=zj7 h (by omega) (l:=[0,3,8,14,20]) (by simp) (by simp)
 have hn:0<=n/\n<=20:=by
  simp only[List.mem_cons,List.not_mem_nil,or_false]at hm
  omega
 have h1:=zdg (q:=p+1) h (k:=1) (by omega) (by omega)
 rw[e,aA]
 simp only[jn]
 obtain⟨l,q,e2,l1,l2,r2⟩:=zlf (x0:=r) ((n-0).toNat+1) [] n (r.p+1) (p+1) hn.1 (by omega) (fun x hx=>by simp at hx) h1 (by omega) (by simp;omega)
 exact⟨l,q,e2,l1,l2,⟨r2.1,r2.2.1,by have:=r2.2.2;omega⟩⟩
theorem zlP (h:zbB r p)(hp:p<=100000): ∃ x q,zeS r=some (x,q)/\Good x/\zbB ⟨r.b,q⟩ (p+2001):=by
 obtain⟨l,q,e,l1,l2,r2⟩:=zmU h hp
 obtain⟨x,hx,e2⟩:=zhe (by omega) l1
 refine⟨x,q,?_,hx,r2⟩
 unfold zeS
 rw[e,aA,e2,aA,zbt hx.rb,aA]
structure Drawn (r:Repo):Prop where
 rb:RpB r
 coms:r.Commits.length<=16
 heads:r.Heads.length<=6
theorem Gd.drawn {r:Repo}(h:Gd True r):Drawn r:=by
 obtain⟨s1,s2⟩:=zae h.ok
 exact⟨h.rb,s1,by omega⟩
theorem zlg {x:Repo}(h:RpB x){i:Nat}{c:Commit}(hc:CB c):RpB ⟨x.Commits.set i c,x.Heads⟩:=
 ⟨by simp;exact h.coms,fun y hy=>by
  rcases List.mem_or_eq_of_mem_set hy with h1 |h1
  ·exact h.com y h1
  ·rw[h1];exact hc,h.heads,h.head⟩
theorem zhA (h:zbB r p)(hp:p<=100000): ∃ x q,zcs r=some (x,q)/\Drawn x/\zbB ⟨r.b,q⟩ (p+2010):=by
 obtain⟨x,q,e,hg,r2⟩:=zlP h hp
 obtain⟨s1,s2⟩:=zae hg.ok
 have hd:=hg.drawn
 unfold zcs
 rw[e,aA]
 simp only[jn]
 have rq:zbB ⟨r.b,q⟩ (p+2010):=⟨r2.1,r2.2.1,by have:=r2.2.2;omega⟩
 cases hc:decide ((0:Int)< (x.Commits.length:Int))with
 |false=>exact⟨x,q,rfl,hd,rq⟩
 |true=>
  have h0:(0:Int)< (x.Commits.length:Int):=by simpa using hc
  obtain⟨k,e3,k0,k1⟩:=zbs r2 (n:=(x.Commits.length:Int)) (by omega) h0 (by omega)
  have r3:zbB ⟨r.b,q+1⟩ (p+2002):=zdg (q:=p+2002) r2 (k:=1) (by omega) (by omega)
  obtain⟨z,e4,z0,z1⟩:=zbs r3 (n:=16) (by omega) (by omega) (by omega)
  have r4:zbB ⟨r.b,q+1+1⟩ (p+2010):=zdg (q:=p+2010) r3 (k:=1) (by omega) (by omega)
  obtain⟨n,rfl⟩:=Int.eq_ofNat_of_zero_le k0
  have hn:n<x.Commits.length:=by omega
  have hx:x.Commits[n]? =some x.Commits[n]:=aB hn
  have hcb:=hg.rb.cat hx
  simp only at e3 e4
  simp only[aD,e3,e4,aA]
  cases z==0 with
  |true=>
   rw[aD,zad hx,aA,zc2 hn,aA]
   exact⟨_,_,rfl,⟨zlg hg.rb ⟨by simp,hcb.who,hcb.tree⟩,by simp;exact s1,hd.heads⟩,r4⟩
  |false=>
  cases z==1 with
  |true=>
   rw[aC,aD,zad hx,aA,zc2 hn,aA]
   exact⟨_,_,rfl,⟨zlg hg.rb ⟨hcb.par,by simp,hcb.tree⟩,by simp;exact s1,hd.heads⟩,r4⟩
  |false=>
  cases z==2 with
  |true=>
   have hne:x.Heads≠ []:=hg.hd trivial (fun e=>by rw[e]at hn;simp at hn)
   have hh:x.Heads[0]? =some (x.Heads[0]'(List.length_pos_iff.2 hne)):=aB _
   rw[aC,aC,aD,show gi x.Heads 0=some (x.Heads[0]'(List.length_pos_iff.2 hne)) from zad (i:=0) hh,aA,ap1 hg.rb.heads,aA]
   refine⟨_,_,rfl,⟨⟨hg.rb.coms,hg.rb.com,by simp;omega,fun y hy=>?_⟩,s1,by simp;omega⟩,r4⟩
   rcases List.mem_append.1 hy with h1 |h1
   ·exact hg.rb.head y h1
   ·rw[List.mem_singleton]at h1;rw[h1];exact hg.rb.head _ (List.getElem_mem _)
  |false=>exact⟨x,_,rfl,hd,r4⟩
theorem znZ {code:List Byte}(h:code.length<=1048576): ∃ b:List Byte,zcu code=some ⟨b,0⟩/\zbB ⟨b,0⟩ 0:=by
 obtain⟨b,e,hb⟩:=zlD h
 exact⟨b,e,hb,by show(0:Int)<=0;omega,by show(0:Int)<=0;omega⟩
end
inductive Rc (r:Repo):Nat->Nat->Prop
 |refl (a:Nat):Rc r a a
 |step {a b:Nat} {p:Int}:Rc r a b->p∈zab r b->Rc r a p.toNat
theorem Rc.trans {r:Repo}{a b c:Nat}(h:Rc r a b)(k:Rc r b c):Rc r a c:=by
 induction k with
 |refl=>exact h
 |step _ hp ih=>exact Rc.step ih hp
theorem Rc.head {r:Repo}{a c:Nat}(h:Rc r a c):c=a \/ ∃ p∈zab r a,Rc r p.toNat c:=by
 induction h with
 |refl=>exact .inl rfl
 | @step b p hb hp ih=>
  rcases ih with e |⟨q,hq,hc⟩
  ·subst e
   exact .inr ⟨p,hp,Rc.refl _⟩
  ·exact .inr ⟨q,hq,Rc.step hc hp⟩
theorem Rc.le {r:Repo}(hr:zaa r=true){a c:Nat}(ha:a<r.Commits.length)(h:Rc r a c):c<=a/\c<r.Commits.length:=by
 induction h with
 |refl=>exact⟨Nat.le_refl _,ha⟩
 |step _ hp ih=>
  have:=(zaS hr ih.2).2 _ hp
  omega
def mkd (mk:List Bool)(j:Nat):Prop:=mk.getD j false=true
theorem zpb {mk:List Bool}{j:Nat}(h:mkd mk j):j<mk.length:=by
 unfold mkd at h
 rcases Nat.lt_or_ge j mk.length with h1 |h1
 ·exact h1
 ·rw[List.getD,List.getElem?_eq_none (by omega)]at h;simp at h
theorem zou {mk:List Bool}{p:Int}{j:Nat}:mkd (zks mk p) j↔mkd mk j\/(j=p.toNat/\j<mk.length):=by
 unfold mkd zks
 by_cases e:p.toNat=j
 ·subst e
  by_cases hl:p.toNat<mk.length
  ·simp[List.getD,hl]
  ·rw[List.set_eq_of_length_le (by omega)]
   simp[hl]
 ·simp only[List.getD,List.getElem?_set_ne e]
  constructor
  ·exact .inl
  ·rintro(h |⟨h,_⟩)
   ·exact h
   ·exact absurd h.symm e
theorem znq: ∀ (ps:List Int) (mk:List Bool) (j:Nat),mkd (ps.foldl zks mk) j↔mkd mk j\/(∃ p∈ps,j=p.toNat/\j<mk.length)
 | [],mk,j=>by simp
 |p::ps,mk,j=>by
  rw[List.foldl_cons,znq ps,zou,zho]
  constructor
  ·rintro((h |h) |⟨q,hq,h⟩)
   ·exact .inl h
   ·exact .inr ⟨p,by simp,h⟩
   ·exact .inr ⟨q,List.mem_cons_of_mem _ hq,h⟩
  ·rintro(h |⟨q,hq,h⟩)
   ·exact .inl (.inl h)
   ·rcases List.mem_cons.1 hq with e |e
    ·subst e;exact .inl (.inr h)
    ·exact .inr ⟨q,e,h⟩
theorem stepM_mkd {r:Repo}{i:Nat}{mk:List Bool}{j:Nat}:mkd (zjx r i mk) j↔mkd mk j\/(mkd mk i /\ ∃ p∈zab r i,j=p.toNat/\j<mk.length):=by
 unfold zjx
 cases hb:mk.getD i false with
 |true=>
  rw[aD,znq]
  constructor
  ·rintro(h |h)
   ·exact .inl h
   ·exact .inr ⟨hb,h⟩
  ·rintro(h |⟨_,h⟩)
   ·exact .inl h
   ·exact .inr h
 |false=>
  rw[aC]
  constructor
  ·exact .inl
  ·rintro(h |⟨h,_⟩)
   ·exact h
   ·unfold mkd at h;rw[hb]at h;cases h
def zv2 (r:Repo)(a i:Nat)(mk:List Bool):Prop:=(∀ j,mkd mk j->Rc r a j)/\mkd mk a /\ ∀ j,i<=j->mkd mk j -> ∀ p∈zab r j,mkd mk p.toNat
theorem zmW {r:Repo}(hr:zaa r=true){a:Nat}: ∀ (i:Nat) (mk:List Bool),i<=r.Commits.length->mk.length=r.Commits.length->zv2 r a i mk->zv2 r a 0 (zey r i mk)
 |0,mk,_,_,h=>h
 |i+1,mk,hi,hl,h=>by
  unfold zey
  refine zmW hr i _ (by omega) (by rw[zf0];exact hl) ?_
  obtain⟨h1,h2,h3⟩:=h
  have hp:=(zaS hr (show i<r.Commits.length by omega)).2
  refine⟨fun j hj=>?_,stepM_mkd.2 (.inl h2),fun j hij hj p hpj=>?_⟩
  ·rcases stepM_mkd.1 hj with h |⟨h,p,hpp,e,_⟩
   ·exact h1 j h
   ·rw[e];exact Rc.step (h1 i h) hpp
  ·have hj':mkd mk j:=by
    rcases stepM_mkd.1 hj with h |⟨h,q,hqq,e,_⟩
    ·exact h
    ·have:=hp q hqq;omega
   have hjl:=zpb hj'
   have hpb:=(zaS hr (show j<r.Commits.length by omega)).2 p hpj
   rcases Nat.lt_or_ge i j with h4 |h4
   ·exact stepM_mkd.2 (.inl (h3 j (by omega) hj' p hpj))
   ·have e:j=i:=by omega
    subst e
    exact stepM_mkd.2 (.inr ⟨hj',p,hpj,rfl,by omega⟩)
theorem zkl {r:Repo}(hr:zaa r=true){a:Nat}(ha:a<r.Commits.length)(j:Nat):mkd (zdl r a) j↔Rc r a j:=by
 have h0:zv2 r a (a+1) ((List.replicate r.Commits.length false).set a true):=by
  have hm: ∀ j,mkd ((List.replicate r.Commits.length false).set a true) j↔j=a:=fun j=>by
   have:=zou (mk:=List.replicate r.Commits.length false) (p:=(a:Int)) (j:=j)
   unfold zks at this
   rw[Int.toNat_natCast]at this
   rw[this]
   constructor
   ·rintro(h |h)
    ·unfold mkd at h
     rw[List.getD,List.getElem?_replicate]at h
     split at h<;>simp at h
    ·exact h.1
   ·intro e
    exact .inr ⟨e,by rw[e];simpa using ha⟩
  refine⟨fun j hj=>?_,(hm a).2 rfl,fun j hij hj=>?_⟩
  ·rw[(hm j).1 hj];exact Rc.refl _
  ·have:=(hm j).1 hj;omega
 have h:=zmW hr (a+1) _ (by omega) (by simp) h0
 constructor
 ·exact h.1 j
 ·intro hc
  induction hc with
  |refl=>exact h.2.1
  |step _ hp ih=>exact h.2.2 _ (Nat.zero_le _) ih _ hp
theorem zd8 {r:Repo}(hr:zaa r=true){a:Int}(h0:0<=a)(h1:a<=(r.Commits.length:Int)-1)(x:Int):x∈za6 r a↔0<=x/\Rc r a.toNat x.toNat:=by
 unfold za6 zl6
 rw[zcR,List.mem_map]
 constructor
 ·rintro⟨i,hi,rfl⟩
  rw[List.mem_filter,List.mem_range]at hi
  exact⟨Int.natCast_nonneg i,(zkl hr (show a.toNat<r.Commits.length by omega) i).1 hi.2⟩
 ·rintro⟨hx,h⟩
  have hl:=(h.le hr (by omega)).2
  exact⟨x.toNat,List.mem_filter.2 ⟨List.mem_range.2 hl,(zkl hr (show a.toNat<r.Commits.length by omega) x.toNat).2 h⟩,Int.toNat_of_nonneg hx⟩
theorem zdf {l:List Int}{n:Int}:zfA l n=true↔n∈l:=by
 unfold zfA
 rw[List.any_eq_true]
 constructor
 ·rintro⟨x,hx,e⟩
  have:x=n:=by simpa using e
  rw[<- this];exact hx
 ·intro h
  exact⟨n,h,by simp⟩
def ziS (l:List Int):Prop:=l.Pairwise (· < ·)
theorem ziS.ext: ∀ {xs ys:List Int},ziS xs->ziS ys->(∀ a,a∈xs↔a∈ys)->xs=ys
 | [],[],_,_,_=>rfl
 | [],y::ys,_,_,h=>by have:=(h y).2 (by simp);simp at this
 |x::xs,[],_,_,h=>by have:=(h x).1 (by simp);simp at this
 |x::xs,y::ys,hx,hy,h=>by
  have hx':=List.pairwise_cons.1 hx
  have hy':=List.pairwise_cons.1 hy
  have e:x=y:=by
   rcases List.mem_cons.1 ((h x).1 (by simp))with e |hm
   ·exact e
   ·rcases List.mem_cons.1 ((h y).2 (by simp))with e |hm2
    ·exact e.symm
    ·have h1:=hx'.1 y hm2
     have h2:=hy'.1 x hm
     omega
  subst e
  rw[ziS.ext hx'.2 hy'.2 (fun a=>by
   constructor
   ·intro ha
    rcases List.mem_cons.1 ((h a).1 (List.mem_cons_of_mem _ ha))with e2 |e2
    ·have:=hx'.1 a ha;omega
    ·exact e2
   ·intro ha
    rcases List.mem_cons.1 ((h a).2 (List.mem_cons_of_mem _ ha))with e2 |e2
    ·have:=hy'.1 a ha;omega
    ·exact e2)]
theorem zlX (x y:File):(x==y)=(x.Path==y.Path&&x.Text==y.Text):=by
 apply zcX
 obtain⟨a,b⟩:=x
 obtain⟨a',b'⟩:=y
 simp
theorem zhg {a b:List Int}(h:a.length<=1048576):zdy a b=some (a==b):=by
 have hm:=zaj h
 unfold zdy
 simp only[zhq,jn,zap]
 by_cases hn:a.length=b.length
 ·rw[hn,aO,aK,aC,<- hn]
  rw[zgw (α:=Int) (r0:=some false) (Z:=some true) (f:=fun m i=>zb9 a b (fun _ _=>some true) m false i) hn (fun m i x y hx hy=>by
   simp only[zb9,zam hx,zad hx,zad hy,aD,aA,zac (zat hx) hm,bne]
   cases x==y<;>rfl) (fun m=>by simp only[zb9,zag,aC]) (by omega)]
  cases a==b<;>rfl
 ·rw[beq_false_of_ne hn,Bool.not_false,aD,beq_false_of_ne (fun e=>hn (by rw[e]))]
theorem znr {l:List Int}(hl:l.length<=1000000)(n:Int):zkj l n=some (zfA l n):=by
 unfold zkj zfA
 simp only[jn,zap]
 rw[zcf (p:=fun x:Int=>x==n) (xs:=l) (r:=fun _=>some true) (Z:=some false) (f:=fun m k=>zhn l n _ m false k) (fun m i x hx=>by
  simp only[zhn,zam hx,zad hx,aD,aA,zac (zat hx) (show l.length<=maxi by unfold maxi;omega)]) (fun m=>by simp only[zhn,zag,aC]) (by omega)]
 cases hf:l.find? (fun x=>x==n)with
 |some x=>
  have:l.any (fun x=>x==n)=true:=List.any_eq_true.2 ⟨x,List.mem_of_find?_eq_some hf,by simpa using List.find?_some hf⟩
  rw[this]
 |none=>
  have:l.any (fun x=>x==n)=false:=by
   rw[List.any_eq_false]
   intro x hx
   have:=List.find?_eq_none.1 hf x hx
   simpa using this
  rw[this]
section
variable {r:l30Rd}{p:Int}
theorem zqL (h:zbB r p)(hp:p<=1000000){n:Int}(hn:n<1):zaz r n=some (0,r.p+1):=by
 obtain⟨hb,h0,h1⟩:=h
 unfold zaz
 have e1:w64 (r.p+1)=r.p+1:=zai (by omega) (by omega)
 simp only[jn,e1]
 rw[aF hn,aD]
 rfl
theorem zlW (h:zbB r p)(hp:p<=200000){x:Repo}(hx:Drawn x): ∃ a,zhZ r x=some (a,r.p+1+1) /\ -1<=a/\a<=16:=by
 have hc:=hx.coms
 unfold zhZ
 obtain⟨k,e,k0,k1⟩:=zbs h (n:=14) (by omega) (by omega) (by omega)
 have h1:=zdg (q:=p+1) h (k:=1) (by omega) (by omega)
 rw[e,aA]
 cases k==0 with
 |true=>
  obtain⟨a,e2,hm⟩:=zj7 h1 (by omega) (l:=[(-1),(x.Commits.length:Int)]) (by simp) (by simp)
  simp only[aD,e2,aA]
  refine⟨a,rfl,?_⟩
  simp only[List.mem_cons,List.not_mem_nil,or_false]at hm
  omega
 |false=>
  simp only[aC]
  by_cases h0:0<x.Commits.length
  ·obtain⟨a,e2,a0,a1⟩:=zbs h1 (n:=(x.Commits.length:Int)) (by omega) (by omega) (by omega)
   rw[e2,aA]
   exact⟨a,rfl,by omega,by omega⟩
  ·rw[zqL h1 (by omega) (by omega),aA]
   exact⟨0,rfl,by omega,by omega⟩
end
theorem zgv {r:Repo}(h:RpB r){a:Int}(ha:upB r.Commits.length a=true):TB (zaf r a.toNat):=by
 obtain⟨a0,a1⟩:=zaK.1 ha
 have hx:r.Commits[a.toNat]? =some (r.Commits[a.toNat]'(by omega)):=aB _
 unfold zaf
 rw[zdb hx]
 exact(h.cat hx).tree
theorem zpE {r:Repo}(h:zaa r=true){i:Nat}(hi:i<r.Commits.length){F:List Bool->Option (List Bool)}: ∀ (j k m:Nat) (mk:List Bool),k+j=(zab r i).length->j<m->mk.length=r.Commits.length->
 zdL F (r.Commits.getD i noCommit) m (k:Int) mk=F (((zab r i).drop k).foldl zks mk)
 |j,k,0,mk,_,hm,_=>by omega
 |0,k,m+1,mk,hk,_,hl=>by
  obtain rfl:k=(zab r i).length:=by omega
  have e:(r.Commits.getD i noCommit).Parents=zab r i:=rfl
  simp only[zdL,e,zag,aC,List.drop_length,List.foldl_nil]
 |j+1,k,m+1,mk,hk,hm,hl=>by
  have hlt:k< (zab r i).length:=by omega
  have hx:(zab r i)[k]? =some (zab r i)[k]:=aB hlt
  obtain⟨hs,hp⟩:=zaS h hi
  obtain⟨p0,p1⟩:=hp _ (List.getElem_mem hlt)
  have e:(r.Commits.getD i noCommit).Parents=zab r i:=rfl
  have hn:(((zab r i)[k].toNat:Nat):Int)=(zab r i)[k]:=by omega
  have hg:gi mk (zab r i)[k]=some (mk.getD (zab r i)[k].toNat false):=by
   rw[<- hn]
   exact zeE (by omega)
  have hsi:siM mk (zab r i)[k] true=some (zks mk (zab r i)[k]):=by
   have:=zc2 (xs:=mk) (i:=(zab r i)[k].toNat) (by omega) true
   rw[hn]at this
   exact this
  simp only[zdL,e,zam hx,aD,zad hx,hg,hsi,aA]
  rw[zac hlt (by unfold maxi;omega),zpE h hi j (k+1) m _ (by omega) (by omega) (by rw[zho];exact hl),aI hlt,List.foldl_cons]
theorem zpF {r:Repo}(h:zaa r=true): ∀ (i m:Nat) (mk:List Bool),i<=r.Commits.length->i<m->mk.length=r.Commits.length->
 zcN r (fun _ y=>some y) m ((i:Int)-1) mk=some (zey r i mk)
 |i,0,mk,_,hm,_=>by omega
 |0,m+1,mk,_,_,_=>by
  simp only[zcN]
  rw[aE (by omega)]
  rfl
 |i+1,m+1,mk,hi,hm,hl=>by
  have hs:=(zae h).1
  have hil:i<r.Commits.length:=by omega
  have e:(((i+1:Nat):Int))-1=(i:Int):=by omega
  have e0:(r.Commits.getD i noCommit).Parents=zab r i:=rfl
  have hstep:(((i:Int)-1))=(i:Int)-1:=rfl
  simp only[zcN,jn,e]
  rw[aF (by omega),aD,zeE (by omega),aA]
  have ih:=zpF h i m (zjx r i mk) (by omega) (by omega) (by rw[zf0];exact hl)
  unfold zey
  rw[<- ih]
  unfold zjx
  have hw:w64 ((i:Int)-1)=(i:Int)-1:=zcI (show i<=maxi by unfold maxi;omega)
  cases mk.getD i false with
  |false=>simp only[aC,hw]
  |true=>
   have h2:=zpE h hil (F:=fun y27=>zcN r (fun _ y=>some y) m (w64 ((i:Int)-1)) y27) (zab r i).length 0 ((zab r i).length+1) mk (by omega) (by omega) hl
   simp only[aD,zhr hil,aA,e0,zap]
   refine h2.trans ?_
   rw[List.drop_zero,hw]
theorem zns {r:Repo}(h:zaa r=true){a:Int}(h0:0<=a)(h1:a<=(r.Commits.length:Int)-1):zgl r a=some (zdl r a.toNat):=by
 have hs:=(zae h).1
 obtain⟨n,rfl⟩:=Int.eq_ofNat_of_zero_le h0
 have hn:n<r.Commits.length:=by omega
 have hl:(List.replicate r.Commits.length false).length=r.Commits.length:=by simp
 unfold zgl zdl
 rw[zjw (by simp[lim];omega),aA,zeE (by rw[hl];exact hn),aA,zc2 (by rw[hl];exact hn),aA]
 simp only[jn]
 have e:=zpF h (n+1) (((n:Int)+1-0).toNat+1) ((List.replicate r.Commits.length false).set n true) (by omega) (by omega) (by simp)
 rw[show(((n+1:Nat):Int))-1=(n:Int) by omega]at e
 refine e.trans ?_
 rw[Int.toNat_natCast]
theorem zmr {mk:List Bool}(hl:mk.length<=1000): ∀ (k i m:Nat) (out:List Int),i+k=mk.length->k<m->out.length<=i->
 zht mk (fun y69 _=>some y69) m out (i:Int)=some (out++((List.range' i k).filter fun i=>mk.getD i false).map Int.ofNat)
 |k,i,0,out,_,hm,_=>by omega
 |0,i,m+1,out,hi,_,_=>by
  obtain rfl:i=mk.length:=by omega
  simp only[zht,zag,aC]
  simp
 |k+1,i,m+1,out,hi,hm,ho=>by
  have hlt:i<mk.length:=by omega
  have hx:mk[i]? =some mk[i]:=aB hlt
  simp only[zht,jn,zam hx,aD,zeE hlt,aA,zac hlt (show mk.length<=maxi by unfold maxi;omega),ap1 (x:=(i:Int)) (show out.length<=1048576 by omega)]
  rw[List.range'_succ,List.filter_cons]
  cases hb:mk.getD i false with
  |true=>
   rw[aD,zmr hl k (i+1) m _ (by omega) (by omega) (by simp;omega),if_pos rfl]
   simp
  |false=>
   rw[aC,zmr hl k (i+1) m _ (by omega) (by omega) (by omega),if_neg (by simp)]
theorem zpG {mk:List Bool}(hl:mk.length<=1000):zkI mk=some (zl6 mk):=by
 unfold zkI zl6
 simp only[jn,zap]
 rw[show(0:Int)=((0:Nat):Int) from rfl,zmr hl mk.length 0 (mk.length+1) [] (by omega) (by omega) (by simp),List.range_eq_range']
 rfl
theorem zft {r:Repo}(hr:zaa r=true){a:Nat}(ha:a<r.Commits.length){p:Int}{ps:List Int}(hp:zab r a=p::ps):0<=p/\p.toNat<a/\p.toNat<r.Commits.length/\((p.toNat:Nat):Int)=p:=by
 have:=(zaS hr ha).2 p (by rw[hp];simp)
 omega
theorem zkC {r:Repo}(hr:zaa r=true){a:Nat}(ha:a<r.Commits.length):zdi r (a:Int)=some (match zab r a with | []=> -1 |p:: _=>p):=by
 have e:(r.Commits.getD a noCommit).Parents=zab r a:=rfl
 unfold zdi
 simp only[zhr ha,aA,e]
 cases hp:zab r a with
 |nil=>rfl
 |cons p ps=>
  have hz:(((p::ps).length:Int)==(0:Int))=false:=by
   rw[beq_eq_false_iff_ne]
   simp only[aL]
   omega
  rw[hz,aC,show gi (p::ps) 0=some p from rfl,aA]
theorem zov: ∀ (a:List Str) (k:Nat),mtF a a k=(List.range' k a.length).map Int.ofNat
 | [],k=>by rw[zgr];rfl
 |x::xs,k=>by
  rw[zfH,if_pos (aO x),zov xs (k+1),aL,List.range'_succ,List.map_cons]
  rfl
theorem zqM {a:List Str}{i:Nat}(h:i<a.length):(mt2 a a)[i]? =some (i:Int):=by
 unfold mt2
 rw[zov,List.getElem?_map,List.getElem?_range' (by omega)]
 simp
theorem asc_in {hi:Int}: ∀ {l:List Int} {lo:Int},Asc hi lo l -> ∀ x∈l,x = -1\/(lo<=x/\x<hi)
 | [],_,_,x,h=>by simp at h
 |y::l,lo, .inl ⟨h1,h2⟩,x,h=>by
  rcases List.mem_cons.1 h with e |e
  ·exact .inl (by rw[e];exact h1)
  ·exact asc_in h2 x e
 |y::l,lo, .inr ⟨h1,h2,h3⟩,x,h=>by
  rcases List.mem_cons.1 h with e |e
  ·exact .inr (by rw[e];exact⟨h1,h2⟩)
  ·rcases asc_in h3 x e with q |q
   ·exact .inl q
   ·exact .inr (by omega)
theorem asc_pair {hi:Int}: ∀ {l:List Int} {lo:Int},Asc hi lo l->l.Pairwise fun x y=>0<=x->0<=y->x≠y
 | [],_,_=>List.Pairwise.nil
 |y::l,lo, .inl ⟨h1,h2⟩=>List.pairwise_cons.2 ⟨fun z _ q _=>by omega,asc_pair h2⟩
 |y::l,lo, .inr ⟨h1,h2,h3⟩=>List.pairwise_cons.2 ⟨fun z hz _ q=>by
  rcases asc_in h3 z hz with e |e<;>omega,asc_pair h3⟩
theorem zmq {a b:List Str}{i:Nat}{j:Int}(h:(mt2 a b)[i]? =some j):i<a.length/\(j = -1\/(0<=j/\j< (b.length:Int))):=by
 obtain⟨h1,h2⟩:=zdQ a b
 refine⟨by rw[<- h2];exact(List.getElem?_eq_some_iff.1 h).1,?_⟩
 exact asc_in h1 j (aH h)
def ovS (out:List Int)(z:Int×Int):List Int:=bif decide (0<=z.1) then out.set z.1.toNat z.2 else out
def ovL (out m by_:List Int):List Int:=(m.zip by_).foldl ovS out
theorem zkd (out:List Int)(z:Int×Int):(ovS out z).length=out.length:=by
 unfold ovS
 cases decide (0<=z.1)<;>simp
theorem zno: ∀ (zs:List (Int×Int)) (out:List Int),(zs.foldl ovS out).length=out.length
 | [],out=>rfl
 |z::zs,out=>by rw[List.foldl_cons,zno zs,zkd]
theorem zpB {out:List Int}{z:Int×Int}{k:Nat}(h:z.1≠(k:Int)):(ovS out z).getD k 0=out.getD k 0:=by
 unfold ovS
 by_cases h0:0<=z.1
 ·rw[aF h0,aD,List.getD_eq_getElem?_getD,List.getElem?_set_ne (by omega),List.getD_eq_getElem?_getD]
 ·rw[aE h0,aC]
theorem zn8 {out:List Int}{z:Int×Int}{k:Nat}(h:z.1=(k:Int))(hk:k<out.length):(ovS out z).getD k 0=z.2:=by
 unfold ovS
 rw[aF (by omega),aD,List.getD_eq_getElem?_getD,show z.1.toNat=k by omega,List.getElem?_set_self hk]
 rfl
theorem zk7: ∀ (zs:List (Int×Int)) (out:List Int) {k:Nat},(∀ z∈zs,z.1≠(k:Int))->(zs.foldl ovS out).getD k 0=out.getD k 0
 | [],out,k,_=>rfl
 |z::zs,out,k,h=>by rw[List.foldl_cons,zk7 zs _ fun y hy=>h y (List.mem_cons_of_mem _ hy),zpB (h z (by simp))]
theorem zmV: ∀ (zs:List (Int×Int)) (out:List Int) {k:Nat} {z:Int×Int},zs.Pairwise (fun x y=>0<=x.1->0<=y.1->x.1≠y.1)->k<out.length->z∈zs->z.1=(k:Int)->(zs.foldl ovS out).getD k 0=z.2
 | [],out,k,z,_,_,h,_=>by simp at h
 |y::zs,out,k,z,hp,hk,h,e=>by
  obtain⟨h1,h2⟩:=List.pairwise_cons.1 hp
  rw[List.foldl_cons]
  rcases List.mem_cons.1 h with q |q
  ·subst q
   rw[zk7 zs _ fun y hy e2=>h1 y hy (by omega) (by omega) (by omega),zn8 e hk]
  ·exact zmV zs _ h2 (by rw[zkd];exact hk) q e
theorem zme {m by_:List Int}{hi:Int}{lo:Int}(h:Asc hi lo m)(hl:m.length<=by_.length):(m.zip by_).Pairwise fun x y=>0<=x.1->0<=y.1->x.1≠y.1:=by
 have:=asc_pair h
 rw[<- List.map_fst_zip (l₁:=m) (l₂:=by_) hl,List.pairwise_map]at this
 exact this
def blT (r:Repo)(p:Str)(a:Nat):List Str:=(getT (zaf r a) p).1
def blN (r:Repo)(p:Str):Nat->Nat->List Int
 |0,a=>List.replicate (blT r p a).length (a:Int)
 |f+1,a=>match zab r a with
  | []=>List.replicate (blT r p a).length (a:Int)
  |q:: _=>ovL (List.replicate (blT r p a).length (a:Int)) (mt2 (blT r p q.toNat) (blT r p a)) (blN r p f q.toNat)
theorem zd5 (r:Repo)(p:Str): ∀ (f a:Nat),(blN r p f a).length=(blT r p a).length
 |0,a=>by simp[blN]
 |f+1,a=>by
  unfold blN
  cases zab r a with
  |nil=>simp
  |cons q ps=>
   show(ovL _ _ _).length=_
   unfold ovL
   rw[zno,List.length_replicate]
theorem zjq {r:Repo}{p:Str}{f a:Nat}(h:zab r a=[]):blN r p f a=List.replicate (blT r p a).length (a:Int):=by
 cases f with
 |zero=>rfl
 |succ f=>simp only[blN,h]
theorem zh7 {r:Repo}{p:Str}{f a:Nat}{q:Int}{ps:List Int}(h:zab r a=q::ps):blN r p (f+1) a=ovL (List.replicate (blT r p a).length (a:Int)) (mt2 (blT r p q.toNat) (blT r p a)) (blN r p f q.toNat):=by
 simp only[blN,h]
theorem blN_at {r:Repo}{p:Str}{f a k:Nat}(hk:k< (blT r p a).length):
 (∃ q ps i,zab r a=q::ps/\(mt2 (blT r p q.toNat) (blT r p a))[i]? =some (k:Int)/\i< (blT r p q.toNat).length/\(blN r p (f+1) a).getD k 0=(blN r p f q.toNat).getD i 0)\/
 ((blN r p (f+1) a).getD k 0=(a:Int) /\ ∀ q ps,zab r a=q::ps->(k:Int)∉mt2 (blT r p q.toNat) (blT r p a)):=by
 have hrep:(List.replicate (blT r p a).length (a:Int)).getD k 0=(a:Int):=by
  rw[List.getD_eq_getElem?_getD,List.getElem?_replicate,if_pos hk]
  rfl
 cases hp:zab r a with
 |nil=>
  refine .inr ⟨?_,fun q ps e=>by cases e⟩
  rw[zjq hp]
  exact hrep
 |cons q ps=>
  rw[zh7 hp]
  obtain⟨ha,hl⟩:=zdQ (blT r p q.toNat) (blT r p a)
  have hle:(mt2 (blT r p q.toNat) (blT r p a)).length<=(blN r p f q.toNat).length:=by rw[hl,zd5];exact Nat.le_refl _
  by_cases hm:(k:Int)∈mt2 (blT r p q.toNat) (blT r p a)
  ·obtain⟨i,hi⟩:=List.getElem?_of_mem hm
   have hil:=(zmq hi).1
   refine .inl ⟨q,ps,i,rfl,hi,hil,?_⟩
   have hb:i< (blN r p f q.toNat).length:=by rw[zd5];exact hil
   have hz:((k:Int),(blN r p f q.toNat)[i])∈(mt2 (blT r p q.toNat) (blT r p a)).zip (blN r p f q.toNat):=by
    refine aH (i:=i) ?_
    rw[List.getElem?_zip_eq_some]
    exact⟨hi,aB hb⟩
   unfold ovL
   rw[zmV _ _ (zme ha hle) (by rw[List.length_replicate];exact hk) hz rfl,List.getD_eq_getElem?_getD,aB hb]
   rfl
  ·refine .inr ⟨?_,fun q' ps' e=>by cases e;exact hm⟩
   unfold ovL
   rw[zk7 _ _ fun z hz e=>hm (by rw[<- e];exact(List.of_mem_zip (a:=z.1) (b:=z.2) hz).1)]
   exact hrep
theorem zmX {r:Repo}{p:Str}{a i:Nat}{s:Str}(h:(blT r p a)[i]? =some s):(getT (zaf r a) p).2=true:=by
 unfold blT getT at h
 unfold getT
 cases hf:(zaf r a).find? (fun f=>f.Path==p)with
 |none=>rw[hf]at h;simp at h
 |some f=>rfl
def zr0 (p:Str)(f:File):Bool:=f.Path==p||zaI p f.Path
def znt (p:Str)(t:List File):List File:=t.filter (zr0 p)
theorem zm9 (t:List File)(p:Str):getT (znt p t) p=getT t p:=by
 unfold getT znt
 rw[List.find?_filter]
 have:(fun f:File=>decide (zr0 p f=true/\(f.Path==p)=true))=fun f=>f.Path==p:=by
  funext f
  unfold zr0
  cases f.Path==p<;>simp
 rw[this]
def zs6 (r:Repo)(p:Str)(a:Nat):Bool:=bif((zab r a).length:Int)==0 then decide (0< ((znt p (zaf r a)).length:Int)) else(zab r a).all fun q=> !(znt p (zaf r q.toNat)==znt p (zaf r a))
theorem zpH {r:Repo}{p:Str}{c k:Nat}(hk:k< (blT r p c).length)(h2:(zab r c).length<2)(hw: ∀ q ps,zab r c=q::ps->(k:Int)∉mt2 (blT r p q.toNat) (blT r p c)):zs6 r p c=true:=by
 unfold zs6
 match hp:zab r c with
 | []=>
  rw[show(((([]:List Int).length:Nat):Int)==0)=true from rfl,aD,decide_eq_true_eq]
  have ht:=zmX (aB hk)
  rw[<- zm9]at ht
  cases he:znt p (zaf r c)with
  |nil=>rw[he]at ht;cases ht
  |cons f fs=>simp
 | [q]=>
  rw[show(((([q]:List Int).length:Nat):Int)==0)=false from rfl,aC]
  simp only[List.all_cons,List.all_nil,Bool.and_true]
  rw[Bool.not_eq_true',beq_eq_false_iff_ne]
  intro e
  have e2:blT r p q.toNat=blT r p c:=by
   unfold blT
   rw[<- zm9,e,zm9]
  refine hw q [] hp ?_
  rw[e2]
  exact aH (zqM hk)
 |q::q'::ps=>rw[hp]at h2;simp only[aL]at h2;omega
theorem znu {r:Repo}(hr:zaa r=true){p:Str}: ∀ (f a:Nat),a<=f->a<r.Commits.length -> ∀ k,k< (blT r p a).length->
 ∃ c j:Nat,(blN r p f a).getD k 0=(c:Int)/\Rc r a c/\j< (blT r p c).length /\ ∀ q ps,zab r c=q::ps->(j:Int)∉mt2 (blT r p q.toNat) (blT r p c)
 |0,a,hf,ha,k,hk=>by
  have hz:zab r a=[]:=by
   cases hp:zab r a with
   |nil=>rfl
   |cons q ps=>have:=zft hr ha hp;omega
  refine⟨a,k,?_,Rc.refl _,hk,fun q ps e=>by rw[hz]at e;cases e⟩
  show(List.replicate (blT r p a).length (a:Int)).getD k 0=(a:Int)
  rw[List.getD_eq_getElem?_getD,List.getElem?_replicate,if_pos hk]
  rfl
 |f+1,a,hf,ha,k,hk=>by
  rcases blN_at (r:=r) (p:=p) (f:=f) (a:=a) hk with ⟨q,ps,i,hp,hm,hi,e⟩ |⟨e,hw⟩
  ·obtain⟨p0,p1,p2,p3⟩:=zft hr ha hp
   obtain⟨c,j,c1,c2,c3,c4⟩:=znu hr f q.toNat (by omega) p2 i hi
   exact⟨c,j,by rw[e];exact c1,(Rc.step (Rc.refl _) (by rw[hp];simp)).trans c2,c3,c4⟩
  ·exact⟨a,k,e,Rc.refl _,hk,hw⟩
theorem TB.of {t:List File}(hf:Bk.fit t)(h:Bk.bulk t<=1048576):TB t:=⟨zcw h,fun f hm=>by
 have h1:Bk.bulk f<=1048576:=zgf h hm
 have h2:Bk.bulk f=f.Path.length+Bk.bulk f.Text:=rfl
 exact⟨by omega,zcw (show Bk.bulk f.Text<=1048576 by omega),(hf.2 f hm).2⟩⟩
theorem RpB.of {r:Repo}(hf:Bk.fit r)(h:Bk.bulk r<=1048576):RpB r:=by
 have h0:Bk.bulk r=Bk.bulk r.Commits+Bk.bulk r.Heads:=rfl
 have hc:Bk.bulk r.Commits<=1048576:=by omega
 have hh:Bk.bulk r.Heads<=1048576:=by omega
 refine⟨zcw hc,fun c hm=>?_,zcw hh,fun x hm=>?_⟩
 ·have h1:Bk.bulk c<=1048576:=zgf hc hm
  have h2:Bk.bulk c=Bk.bulk c.Parents+(c.Who.length+Bk.bulk c.Tree):=rfl
  exact⟨zcw (show Bk.bulk c.Parents<=1048576 by omega),by omega,TB.of (hf.1.2 c hm).2.2 (by omega)⟩
 ·have h1:Bk.bulk x<=1048576:=zgf hh hm
  have h2:Bk.bulk x=x.Name.length+0:=rfl
  omega
theorem zfI (x:Repo):(⟨x.Commits,x.Heads⟩:Repo)=x:=rfl
theorem zkD {R α σ:Type} {xs:List α} {g:σ->α->σ} {I:σ->Prop} {f:Nat->Int->σ->Option R} {Z:σ->Option R}
 (hs: ∀ m (i:Nat) x s,xs[i]? =some x->I s->f (m+1) (i:Int) s=f m ((i+1:Nat):Int) (g s x)/\I (g s x)) (he: ∀ m s,I s->f (m+1) (xs.length:Int) s=Z s):
 ∀ (k i m:Nat) (s:σ),i+k=xs.length->k<m->I s->f m (i:Int) s=Z ((xs.drop i).foldl g s)/\I ((xs.drop i).foldl g s)
 |k,i,0,s,_,hm,_=>by omega
 |0,i,m+1,s,hi,_,h=>by
  obtain rfl:i=xs.length:=by omega
  rw[List.drop_length,List.foldl_nil]
  exact⟨he m s h,h⟩
 |k+1,i,m+1,s,hi,hm,h=>by
  have hlt:i<xs.length:=by omega
  obtain⟨e1,e2⟩:=hs m i xs[i] s (aB hlt) h
  rw[e1,aI hlt,List.foldl_cons]
  exact zkD hs he k (i+1) m _ (by omega) (by omega) e2
theorem zjZ {R α σ:Type} {xs:List α} {g:σ->α->σ} {I:σ->Prop} {f:Nat->Int->σ->Option R} {Z:σ->Option R} {s:σ} (h:I s)
 (hs: ∀ m (i:Nat) x s,xs[i]? =some x->I s->f (m+1) (i:Int) s=f m ((i+1:Nat):Int) (g s x)/\I (g s x)) (he: ∀ m s,I s->f (m+1) (xs.length:Int) s=Z s):f (xs.length+1) 0 s=Z (xs.foldl g s):=by
 have:=(zkD hs he xs.length 0 (xs.length+1) s (by omega) (by omega) h).1
 rwa [List.drop_zero]at this
section
variable {r:l30Rd}{p:Int}
end
def zk8 (p:Int):Prop:= -9223372036854775808<=p/\p<=9223372036854775807
section
variable {r:Repo}{has:List Int}{sent:List Commit}
end
theorem zpI {xs:List Int}(hn:xs.length<=1000): ∀ (m i:Nat) (ys:List Int),ys.length=xs.length->(∀ k,k<xs.length->ys[k]? =if k<i\/xs.length-1-i<k then xs[xs.length-1-k]? else xs[k]?)->2*i<=xs.length+1->i<=xs.length->1<=m->xs.length<=m+i->
 zd0 (fun _ _ y=>some y) m (i:Int) ((xs.length:Int)-1-i) ys=some xs.reverse
 |0,i,ys,_,_,_,_,h1,_=>by omega
 |m+1,i,ys,hl,hy,h2,hin,_,hm=>by
  simp only[zd0]
  by_cases hc:(i:Int)< (xs.length:Int)-1-i
  ·have hj:((xs.length-1-i:Nat):Int)=(xs.length:Int)-1-i:=by omega
   have hil:i<ys.length:=by omega
   have hjl:xs.length-1-i<ys.length:=by omega
   have e1:gi ys (i:Int)=some ys[i]:=zad (aB hil)
   have e2:gi ys ((xs.length:Int)-1-i)=some ys[xs.length-1-i]:=by rw[<- hj];exact zad (aB hjl)
   have e3:siM ys (i:Int) ys[xs.length-1-i]=some (ys.set i ys[xs.length-1-i]):=zc2 hil _
   have e4:siM (ys.set i ys[xs.length-1-i]) ((xs.length:Int)-1-i) ys[i]=some ((ys.set i ys[xs.length-1-i]).set (xs.length-1-i) ys[i]):=by
    rw[<- hj];exact zc2 (by rw[List.length_set];exact hjl) _
   have hw1:w64 ((i:Int)+1)=((i+1:Nat):Int):=zac (show i<1000 by omega) (by unfold maxi;omega)
   have hw2:w64 ((xs.length:Int)-1-i-1)=(xs.length:Int)-1-((i+1:Nat):Int):=by rw[zai (by omega) (by omega)];omega
   rw[aF hc,aD]
   simp only[e1,e2,e3,e4,aA,hw1,hw2]
   refine zpI hn m (i+1) _ (by simp[hl]) (fun k hk=>?_) (by omega) (by omega) (by omega) (by omega)
   have yi:ys[i]? =xs[i]? :=by rw[hy i (by omega),if_neg (by omega)]
   have yj:ys[xs.length-1-i]? =xs[xs.length-1-i]? :=by rw[hy _ (by omega),if_neg (by omega)]
   by_cases k1:k=xs.length-1-i
   ·subst k1
    rw[List.getElem?_set_self (by rw[List.length_set];exact hjl),if_pos (by omega),<- aB hil,yi,show xs.length-1-(xs.length-1-i)=i by omega]
   ·rw[List.getElem?_set_ne (Ne.symm k1)]
    by_cases k2:k=i
    ·subst k2
     rw[List.getElem?_set_self hil,if_pos (by omega),<- aB hjl,yj]
    ·rw[List.getElem?_set_ne (Ne.symm k2),hy k hk]
     by_cases k3:k<i\/xs.length-1-i<k
     ·rw[if_pos k3,if_pos (by omega)]
     ·rw[if_neg k3,if_neg (by omega)]
  ·rw[aE hc,aC]
   congr 1
   apply List.ext_getElem?
   intro k
   by_cases hk:k<xs.length
   ·rw[hy k hk,List.getElem?_reverse hk]
    split
    ·rfl
    ·rw[show xs.length-1-k=k by omega]
   ·rw[List.getElem?_eq_none (by omega),List.getElem?_eq_none (by rw[List.length_reverse];omega)]
theorem zoS {xs:List Int}(hn:xs.length<=1000):zdM xs=some xs.reverse:=by
 unfold zdM
 simp only[jn]
 have hw:w64 ((xs.length:Int)-1)=(xs.length:Int)-1:=zcI (by unfold maxi;omega)
 rw[hw]
 have:=zpI hn (((xs.length:Int)-1-0).toNat+1) 0 xs rfl (fun k hk=>by rw[if_neg (by omega)]) (by omega) (by omega) (by omega) (by omega)
 rw[show(xs.length:Int)-1-((0:Nat):Int)=(xs.length:Int)-1 by omega]at this
 exact this
section
variable {r:l30Rd}{p:Int}
end
set_option linter.unusedSectionVars false
theorem zr1 {f:File}{p:Str}(hp:p.length<=1048576):zl4 f p=some (zr0 p f):=by
 unfold zl4 strings_HasPrefix zr0 zaI
 have hs:saM p ([47]:Str)=some (p++[47]):=by
  unfold saM
  rw[if_pos]
  simp only[aL,List.length_nil,lim]
  omega
 simp only[jn,hs,aA,Lib.hasPrefix]
 cases f.Path==p<;>rfl
theorem zow {t:List File}(h:TB t){p:Str}(hp:p.length<=1048576):zkY t p=some (znt p t):=by
 have hm:=h.maxi
 have hl:=h.1
 unfold zkY
 simp only[jn,zap]
 rw[za8 (xs:=t) (p:=zr0 p) (g:=fun f:File=>f) (Z:=fun acc=>some acc) (f:=fun m acc i=>zia t p _ m acc i) (fun m i x acc hx ha=>by
  have hi:=zat hx
  simp only[zia,jn,zam hx,zad hx,aD,aA,zr1 hp,zac hi hm,ap1 (show acc.length<=1048576 by omega)]
  cases zr0 p x<;>rfl) (fun m acc=>by simp only[zia,zag,aC]) (by omega),List.map_id']
 rfl
theorem zr2 {t:List File}(h:TB t)(p:Str):TB (znt p t):=⟨Nat.le_trans (List.length_filter_le _ _) h.1,fun f hf=>h.2 f (List.mem_filter.1 hf).1⟩
theorem zn9 {a b:List File}(h:TB a):zjn a b=some (a==b):=by
 have hm:=h.maxi
 unfold zjn zaH
 simp only[zhq,jn,zap]
 by_cases hn:a.length=b.length
 ·rw[hn,aO,aK,aC,<- hn]
  rw[zgw (α:=File) (r0:=some false) (Z:=some true) (f:=fun m i=>zak a b (fun _ _=>some true) m false i) hn (fun m i x y hx hy=>by
   simp only[zak,zjd,jn,zam hx,zad hx,zad hy,aD,aA,zac (zat hx) hm,zpD (zaj (h.at_ hx).len),zlX]
   cases x.Path==y.Path<;>cases x.Text==y.Text<;>rfl) (fun m=>by simp only[zak,zag,aC]) (by omega)]
  cases a==b<;>rfl
 ·rw[beq_false_of_ne hn,Bool.not_false,aD,beq_false_of_ne (fun e=>hn (by rw[e]))]
  rfl
section
variable {r:Repo}(h:RpB r)(hr:zaa r=true){a:Int}(ha:upB r.Commits.length a=true)
include h hr ha
theorem ztB {q:Int}(hq:q∈zab r a.toNat):upB r.Commits.length q=true:=by
 obtain⟨a0,a1⟩:=zaK.1 ha
 have:=(zaS hr (i:=a.toNat) (by omega)).2 q hq
 exact zaK.2 (by omega)
theorem zke:zbK r a=some (zaf r a.toNat):=by
 obtain⟨a0,a1⟩:=zaK.1 ha
 unfold zbK
 rw[aE (by omega),aC,zbf a0 a1]
 rfl
theorem zoT {p:Str}(hp:p.length<=1048576):zhl r a p=some (zs6 r p a.toNat):=by
 obtain⟨a0,a1⟩:=zaK.1 ha
 have hps:=zaS hr (i:=a.toNat) (by omega)
 have ht:=zgv h ha
 unfold zhl zs6
 rw[zke h hr ha,aA,zow ht hp,aA,zbf a0 a1,aA,aA]
 rw[show(r.Commits.getD a.toNat noCommit).Parents=zab r a.toNat from rfl]
 cases(((zab r a.toNat).length:Int)==0)with
 |true=>rfl
 |false=>
  simp only[aC,jn,zap]
  rw[zau (α:=Int) (xs:=zab r a.toNat) (p:=fun q=> !(znt p (zaf r q.toNat)==znt p (zaf r a.toNat))) (r0:=some false) (Z:=some true) (f:=fun m i=>zel r p (znt p (zaf r a.toNat)) (r.Commits.getD a.toNat noCommit) _ m false i) (fun m i q hq=>by
   have uq:=ztB h hr ha (aH hq)
   have htq:=zgv h uq
   simp only[zel,show(r.Commits.getD a.toNat noCommit).Parents=zab r a.toNat from rfl,zam hq,zad hq,aD,aA,zke h hr uq,zow htq hp,zn9 (zr2 ht p),zac (zat hq) (show(zab r a.toNat).length<=maxi by unfold maxi;omega)]
   rw[show(znt p (zaf r a.toNat)==znt p (zaf r q.toNat))=(znt p (zaf r q.toNat)==znt p (zaf r a.toNat)) from zcX (by simp only[beq_iff_eq];exact⟨Eq.symm,Eq.symm⟩)]
   cases(znt p (zaf r q.toNat)==znt p (zaf r a.toNat))<;>rfl) (fun m=>by simp only[zel,show(r.Commits.getD a.toNat noCommit).Parents=zab r a.toNat from rfl,zag,aC]) (by omega)]
  cases(zab r a.toNat).all _<;>rfl
end
def zuR (r:Repo)(p:Str)(x:Int):Bool:=zs6 r p x.toNat
def zkf (r:Repo)(a:Int)(p:Str):List Int:=((za6 r a).filter (zuR r p)).reverse
def zmf (r:Repo)(a:Int)(p:Str):List Int:=bif zaa r&&upB r.Commits.length a then zkf r a p else []
theorem znv (r:Repo)(a:Int)(p:Str):(zkf r a p).length<=r.Commits.length:=by
 unfold zkf
 rw[List.length_reverse]
 exact Nat.le_trans (List.length_filter_le _ _) (zcb r a)
theorem zoa {r:Repo}(h:RpB r)(a:Int){p:Str}(hp:p.length<=1048576):zj8 r a p=some (zmf r a p):=by
 unfold zj8 zdV zmf
 rw[znh h (by simp),aA]
 simp only[List.all_cons,List.all_nil,Bool.and_true,jn]
 cases hr:zaa r&&upB r.Commits.length a with
 |false=>rfl
 |true=>
  simp only[aG]at hr
  obtain⟨a0,a1⟩:=zaK.1 hr.2
  have hs:=(zae hr.1).1
  have hal:=zcb r a
  rw[aK,aC,aD,zns hr.1 a0 a1,aA,zpG (by rw[zcR];omega),aA,zap]
  rw[show zl6 (zdl r a.toNat)=za6 r a from rfl]
  rw[za8 (xs:=za6 r a) (p:=zuR r p) (g:=fun x:Int=>x) (Z:=fun acc=>(zdM acc).bind fun z104=>some z104) (f:=fun m acc i=>zba r p (za6 r a) _ m acc i) (fun m i x acc hx ha=>by
   have hxm:=zcL (aH hx)
   have hi:=zat hx
   simp only[zba,zj0,jn,zam hx,zad hx,aD,aA,zfI,zoT h hr.1 (zaK.2 hxm) hp,zac (zat hx) (show(za6 r a).length<=maxi by unfold maxi;omega),ap1 (show acc.length<=1048576 by omega)]
   unfold zuR
   cases zs6 r p x.toNat<;>rfl) (fun m acc=>by simp only[zba,zag,aC]) (by omega)]
  rw[List.map_id',zoS (Nat.le_trans (List.length_filter_le _ _) (by omega))]
  rfl
structure SentB (sent:List Commit):Prop where
 len:sent.length<=16
 cb: ∀ c∈sent,CB c
 fit: ∀ c∈sent,∀ p∈c.Parents,zk8 p
theorem SentB.take {sent:List Commit}(h:SentB sent)(k:Nat):SentB (sent.take k):=
 ⟨Nat.le_trans (List.length_take_le' k sent) h.len,fun c hc=>h.cb c (List.mem_of_mem_take hc),fun c hc=>h.fit c (List.mem_of_mem_take hc)⟩
theorem SentB.set {sent:List Commit}(h:SentB sent){c:Commit}(hc:CB c)(hf: ∀ p∈c.Parents,zk8 p)(k:Nat):SentB (sent.set k c):=
 ⟨by rw[List.length_set];exact h.len,fun d hd=>by
  rcases List.mem_or_eq_of_mem_set hd with q |q
  ·exact h.cb d q
  ·rw[q];exact hc,fun d hd=>by
  rcases List.mem_or_eq_of_mem_set hd with q |q
  ·exact h.fit d q
  ·rw[q];exact hf⟩
section
variable {x:Repo}(hr:zaa x=true){a b:Int}(ha:upB x.Commits.length a=true)(hb:upB x.Commits.length b=true)
include hr ha
include hb
end
end Go.Vm
