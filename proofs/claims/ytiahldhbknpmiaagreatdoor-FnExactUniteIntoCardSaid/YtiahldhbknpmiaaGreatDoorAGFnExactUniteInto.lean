/- Plain law FnExactUniteInto, and what it uses: what the models answer. Conditions: each law's own premises. -/
import Derived.Test.YtiahldhbknpmiaaGreatDoorAM0
import Derived.Test.YtiahldhbknpmiaaGreatDoorAM1
import Derived.Test.YtiahldhbknpmiaaGreatDoorAM2
import Derived.Test.YtiahldhbknpmiaaGreatDoorAM4
import Derived.Test.YtiahldhbknpmiaaGreatDoorAM6
import Derived.Test.YtiahldhbknpmiaaGreatDoorALw
import Derived.Sort.Walk0
import Derived.Lib.SplitLaws
import Derived.Test.YtiahldhbknpmiaaGreatDoorAX
import Derived.Lib.Join
namespace Go.Vm
open Go Go.Sx
set_option linter.unusedSimpArgs false
set_option linter.unusedVariables false
def chB (c:UInt8):Bool:= !(decide ((c.toNat:Int)<32)||decide (126< (c.toNat:Int)))
def zb8 (s:Str):Bool:= !decide (12< (s.length:Int))&&s.all chB
def zap (xs:List Str):Bool:= !decide (10< (xs.length:Int))&&xs.all zb8
theorem zjJ (a b:Int):decide (a<=b) = !decide (b<a):=by
 by_cases h:a<=b
 ·rw[aF h,aE (by omega)];rfl
 ·rw[aE h,aF (by omega)];rfl
theorem zjK {s:Str}(h:s.length<=maxi):zfg s=some (zb8 s):=by
 unfold zfg zb8
 simp only[jn,zal]
 cases decide ((12:Int)< (s.length:Int))
 case true=>rfl
 rw[aC,zaS (α:=UInt8) (xs:=s) (p:=chB) (r0:=some false) (Z:=some true) (f:=fun m i=>zbZ s (fun _ _=>some true) m false i) (fun m i x hx=>by
  simp only[zbZ,jn,zam hx,zgF hx,aD,aA,zab (zaq hx) h,chB]
  cases decide ((x.toNat:Int)<32)<;>cases decide (126< (x.toNat:Int))<;>rfl) (fun m=>by simp only[zbZ,zad,aC]) (by omega)]
 cases s.all chB<;>rfl
theorem zjL {s:Str}(h:s.length<=maxi):zff s=some (zb8 s):=by
 unfold zff zb8
 simp only[jn,zal,zjJ]
 rw[zaS (α:=UInt8) (xs:=s) (p:=chB) (r0:=some false) (Z:=some (!decide (12< (s.length:Int)))) (f:=fun m i=>zbW s (fun _ _=>some (!decide (12< (s.length:Int)))) m false i) (fun m i x hx=>by
  simp only[zbW,jn,zam hx,zgF hx,aD,aA,zab (zaq hx) h,chB]
  cases decide ((x.toNat:Int)<32)<;>cases decide (126< (x.toNat:Int))<;>rfl) (fun m=>by simp only[zbW,zad,aC]) (by omega)]
 cases s.all chB<;>cases decide (12< (s.length:Int))<;>rfl
theorem zdd {xs:List Str}(h:Bk.fit xs):zbx xs=some (zap xs):=by
 have hl:=zdz h
 unfold zbx zap
 simp only[jn,zal]
 cases decide ((10:Int)< (xs.length:Int))
 case true=>rfl
 rw[aC,zaS (α:=Str) (xs:=xs) (p:=zb8) (r0:=some false) (Z:=some true) (f:=fun m i=>zb0 xs (fun _ _=>some true) m false i) (fun m i x hx=>by
  have hx2:x.length<=maxi:=zhn h hx
  simp only[zb0,zam hx,zac hx,aD,aA,zab (zaq hx) hl,zjK hx2]
  cases zb8 x<;>rfl) (fun m=>by simp only[zb0,zad,aC]) (by omega)]
 cases xs.all zb8<;>rfl
theorem zh5 {xs:List Str}(h:Bk.fit xs):zcK xs=some (zap xs):=by
 have hl:=zdz h
 unfold zcK zap
 simp only[jn,zal,zjJ]
 rw[zaS (α:=Str) (xs:=xs) (p:=zb8) (r0:=some false) (Z:=some (!decide (10< (xs.length:Int)))) (f:=fun m i=>zc3 xs (fun _ _=>some (!decide (10< (xs.length:Int)))) m false i) (fun m i x hx=>by
  have hx2:x.length<=maxi:=zhn h hx
  simp only[zc3,zam hx,zac hx,aD,aA,zab (zaq hx) hl,zjL hx2]
  cases zb8 x<;>rfl) (fun m=>by simp only[zc3,zad,aC]) (by omega)]
 cases xs.all zb8<;>cases decide (10< (xs.length:Int))<;>rfl
theorem zan {t:List Str}(h:zap t=true):t.length<=10:=by
 unfold zap at h
 simp only[aG,Bool.not_eq_true',decide_eq_false_iff_not]at h
 omega
theorem zaH {t:List Str}(h:zap t=true): ∀ s∈t,zb8 s=true:=by
 unfold zap at h
 simp only[aG,List.all_eq_true]at h
 exact h.2
theorem zgt {s:Str}(h:zb8 s=true):s.length<=12:=by
 unfold zb8 at h
 simp only[aG,Bool.not_eq_true',decide_eq_false_iff_not]at h
 omega
theorem zjh {a b c:List Str}(ha:Bk.fit a)(hb:Bk.fit b)(hc:Bk.fit c):zeI a b c=some (zap a&&(zap b&&zap c)):=by
 unfold zeI
 simp only[jn,zdd ha,zdd hb,zdd hc,aA]
 cases zap a<;>cases zap b<;>rfl
theorem zdw {xs ys:List Str}(h:xs.length<=maxi):zay xs ys=some (xs==ys):=by
 unfold zay
 simp only[zjo,jn,zal]
 by_cases hn:xs.length=ys.length
 ·rw[hn,aO,aK,aC,<- hn]
  rw[zjn (α:=Str) (r0:=some false) (Z:=some true) (f:=fun m i=>zar xs ys (fun _ _=>some true) m false i) hn (fun m i x y hx hy=>by
   simp only[zar,zam hx,zac hx,zac hy,aD,aA,zab (zaq hx) h,bne]
   cases x==y<;>rfl) (fun m=>by simp only[zar,zad,aC]) (by omega)]
  cases xs==ys<;>rfl
 ·rw[beq_false_of_ne hn,Bool.not_false,aD,beq_false_of_ne (fun e=>hn (by rw[e]))]
theorem zex {xs ys:List Str}(h:xs.length<=maxi):zdD xs ys=some (xs==ys):=by
 unfold zdD
 simp only[zjo,jn,zal]
 by_cases hn:xs.length=ys.length
 ·rw[hn,aO,aK,aC,<- hn]
  rw[zjn (α:=Str) (r0:=some false) (Z:=some true) (f:=fun m i=>zbX xs ys (fun _ _=>some true) m false i) hn (fun m i x y hx hy=>by
   simp only[zbX,zam hx,zac hx,zac hy,aD,aA,zab (zaq hx) h,bne]
   cases x==y<;>rfl) (fun m=>by simp only[zbX,zad,aC]) (by omega)]
  cases xs==ys<;>rfl
 ·rw[beq_false_of_ne hn,Bool.not_false,aD,beq_false_of_ne (fun e=>hn (by rw[e]))]
theorem za4 {x:List Str}(h:x.length<=1048576):zb6 x=some x:=by
 unfold zb6
 rw[apN h];rfl
def zpF (r:l30Rd)(p:Int):Prop:=r.b.length<=2000/\0<=r.p/\r.p<=p
theorem zpF.on {r:l30Rd}{p q:Int}(h:zpF r p)(k:Int)(hk:0<=k)(hq:r.p+k<=q):zpF ⟨r.b,r.p+k⟩ q:=⟨h.1,by have:=h.2.1;show 0<=r.p+k;omega,hq⟩
def zd9:List Str->List Str->Int
 | [],_=>0
 |_:: _,[]=>0
 |x::xs,y::ys=>if x==y then zd9 xs ys+1 else zoN (zd9 xs (y::ys)) (zd9 (x::xs) ys)
termination_by a b=>a.length+b.length
theorem zif (b:List Str):zd9 [] b=0:=by rw[zd9]
theorem zgM (a:List Str):zd9 a []=0:=by cases a<;>rw[zd9]
theorem zgN (x y:Str)(xs ys:List Str):zd9 (x::xs) (y::ys)=if x==y then zd9 xs ys+1 else zoN (zd9 xs (y::ys)) (zd9 (x::xs) ys):=by rw[zd9]
theorem zb4: ∀ (n:Nat) (a b:List Str),a.length+b.length<=n->0<=zd9 a b/\zd9 a b<=a.length
 |_,[],b,_=>by rw[zif];simp
 |_,x::xs,[],_=>by rw[zgM];simp;omega
 |0,x::xs,y::ys,h=>by simp at h
 |n+1,x::xs,y::ys,h=>by
  simp only[aL]at h
  have h1:=zb4 n xs ys (by omega)
  have h2:=zb4 n xs (y::ys) (by simp;omega)
  have h3:=zb4 n (x::xs) ys (by simp;omega)
  rw[zgN]
  simp only[aL]at*
  split
  ·omega
  ·unfold zoN;split<;>omega
theorem zmA (a b:List Str):0<=zd9 a b:=(zb4 _ a b (Nat.le_refl _)).1
theorem zmB (a b:List Str):zd9 a b<=a.length:=(zb4 _ a b (Nat.le_refl _)).2
def zes (n:Nat)(g:Nat->Int):List Int:=(List.range n).map g
def zdu (n m:Nat)(f:Nat->Nat->Int):List (List Int):=(List.range n).map fun i=>zes m (f i)
theorem ziU {n:Nat}{g g':Nat->Int}(h: ∀ k,k<n->g k=g' k):zes n g=zes n g':=by
 unfold zes
 exact List.map_congr_left fun k hk=>h k (List.mem_range.1 hk)
theorem zcO {n m:Nat}{f f':Nat->Nat->Int}(h: ∀ i k,i<n->k<m->f i k=f' i k):zdu n m f=zdu n m f':=by
 unfold zdu
 exact List.map_congr_left fun i hi=>ziU fun k hk=>h i k (List.mem_range.1 hi) hk
theorem zeM {n k:Nat}{g:Nat->Int}(h:k<n):gi (zes n g) (k:Int)=some (g k):=zac (by simp[zes,h])
theorem zeN {n m i:Nat}{f:Nat->Nat->Int}(h:i<n):gi (zdu n m f) (i:Int)=some (zes m (f i)):=zac (by simp[zdu,h])
theorem zig {n k:Nat}{g:Nat->Int}{v:Int}(h:k<n):siM (zes n g) (k:Int) v=some (zes n fun k'=>if k'=k then v else g k'):=by
 rw[zbJ (by simp[zes,h])]
 congr 1
 apply List.ext_getElem?
 intro j
 unfold zes
 by_cases hj:j=k
 ·subst hj
  rw[List.getElem?_set_self (by simp[h])]
  simp[h]
 ·rw[List.getElem?_set_ne (Ne.symm hj)]
  by_cases hl:j<n
  ·simp[hl,hj]
  ·rw[List.getElem?_eq_none (by simp;omega),List.getElem?_eq_none (by simp;omega)]
theorem zih {n m i:Nat}{f:Nat->Nat->Int}{g:Nat->Int}(h:i<n):siM (zdu n m f) (i:Int) (zes m g)=some (zdu n m fun i'=>if i'=i then g else f i'):=by
 rw[zbJ (by simp[zdu,h])]
 congr 1
 apply List.ext_getElem?
 intro j
 unfold zdu
 by_cases hj:j=i
 ·subst hj
  rw[List.getElem?_set_self (by simp[h])]
  simp[h]
 ·rw[List.getElem?_set_ne (Ne.symm hj)]
  by_cases hl:j<n
  ·simp[hl,hj]
  ·rw[List.getElem?_eq_none (by simp;omega),List.getElem?_eq_none (by simp;omega)]
section
variable (a b:List Str)
def zaG (i k:Nat):Int:=zd9 (a.drop i) (b.drop k)
def zaQ (i k i' k':Nat):Int:=if i<i'\/(i=i'/\k<=k') then zaG a b i' k' else 0
def znl:List (List Int):=zdu (a.length+1) (b.length+1) (zaG a b)
end
section
variable {a b:List Str}
theorem zjM (i:Nat):zaG a b i b.length=0:=by unfold zaG;rw[List.drop_length,zgM]
theorem ziV (k:Nat):zaG a b a.length k=0:=by unfold zaG;rw[List.drop_length,zif]
theorem zii (i k:Nat):0<=zaG a b i k:=zmA _ _
theorem zij (i k:Nat):zaG a b i k<=a.length:=by
 have:=zmB (a.drop i) (b.drop k)
 unfold zaG
 simp only[List.length_drop]at this
 omega
theorem zfI {i k:Nat}{x y:Str}(hx:a[i]? =some x)(hy:b[k]? =some y):zaG a b i k=if x==y then zaG a b (i+1) (k+1)+1 else zoN (zaG a b (i+1) k) (zaG a b i (k+1)):=by
 have hi:=zaq hx
 have hk:=zaq hy
 have ex:a[i]=x:=by rw[aB hi]at hx;exact Option.some.inj hx
 have ey:b[k]=y:=by rw[aB hk]at hy;exact Option.some.inj hy
 unfold zaG
 rw[aI hi,aI hk,zgN,ex,ey]
theorem zcG {i k:Nat}{v:Int}(hv:v=zaG a b i k)(n m:Nat):zdu n m (fun i'=>if i'=i then(fun k'=>if k'=k then v else zaQ a b i (k+1) i k') else zaQ a b i (k+1) i')=zdu n m (zaQ a b i k):=by
 refine zcO fun i' k' _ _=>?_
 by_cases h1:i'=i
 ·subst h1
  rw[if_pos rfl]
  by_cases h2:k'=k
  ·subst h2
   rw[if_pos rfl,hv]
   simp[zaQ]
  ·rw[if_neg h2]
   simp only[zaQ,Nat.lt_irrefl,false_or,true_and]
   by_cases h3:k+1<=k'
   ·rw[if_pos h3,if_pos (by omega)]
   ·rw[if_neg h3,if_neg (by omega)]
 ·rw[if_neg h1]
  simp only[zaQ]
  by_cases h3:i<i'
  ·rw[if_pos (.inl h3),if_pos (.inl h3)]
  ·rw[if_neg (by omega),if_neg (by omega)]
theorem zfJ (i:Nat):zdu (a.length+1) (b.length+1) (zaQ a b (i+1) 0)=zdu (a.length+1) (b.length+1) (zaQ a b i b.length):=by
 refine zcO fun i' k' _ hk=>?_
 simp only[zaQ,Nat.zero_le,and_true]
 by_cases h:i<i'
 ·rw[if_pos (by omega),if_pos (.inl h)]
 ·rw[if_neg (by omega)]
  by_cases h2:i=i'/\b.length<=k'
  ·rw[if_pos (.inr h2),show k'=b.length by omega,zjM]
  ·rw[if_neg (by omega)]
theorem zeO:zdu (a.length+1) (b.length+1) (fun _ _=>0)=zdu (a.length+1) (b.length+1) (zaQ a b a.length 0):=by
 refine zcO fun i' k' hi _=>?_
 simp only[zaQ,Nat.zero_le,and_true]
 by_cases h:a.length<i'\/a.length=i'
 ·rw[if_pos h,show i'=a.length by omega,ziV]
 ·rw[if_neg h]
theorem zgO:zdu (a.length+1) (b.length+1) (zaQ a b 0 0)=znl a b:=by
 refine zcO fun i' k' _ _=>?_
 simp only[zaQ,Nat.zero_le,and_true]
 rw[if_pos (by omega)]
theorem zjN (hb:b.length<=maxi)(hN:(a.length:Int)+1<=9223372036854775807){i:Nat}(hi:i<a.length){R:Int->List (List Int)->Option (List (List Int))}: ∀ (k m:Nat),k<=b.length->k<m->
 zdo a b (i:Int) R m ((k:Int)-1) (zdu (a.length+1) (b.length+1) (zaQ a b i k))=R (-1) (zdu (a.length+1) (b.length+1) (zaQ a b i 0))
 |0,0,_,h=>by omega
 |0,m+1,_,_=>by
  simp only[zdo]
  rw[aE (by omega)];rfl
 |k+1,0,_,h=>by omega
 |k+1,m+1,hk,hm=>by
  unfold maxi at hb
  have hx:a[i]? =some a[i]:=aB hi
  have hy:b[k]? =some b[k]:=aB (by omega)
  have hst:=zfI hx hy
  have e1:(((k+1:Nat):Int)-1)=(k:Int):=by omega
  have e2:w64 ((i:Int)+1)=((i+1:Nat):Int):=by rw[zah (by omega) (by omega)];omega
  have e3:w64 ((k:Int)+1)=((k+1:Nat):Int):=by rw[zah (by omega) (by omega)];omega
  have e4:w64 ((k:Int)-1)=(k:Int)-1:=zah (by omega) (by omega)
  have s1:zaQ a b i (k+1) (i+1) (k+1)=zaG a b (i+1) (k+1):=by simp[zaQ]
  have s2:zaQ a b i (k+1) (i+1) k=zaG a b (i+1) k:=by simp[zaQ]
  have s3:zaQ a b i (k+1) i (k+1)=zaG a b i (k+1):=by simp[zaQ]
  have lo:=zii (a:=a) (b:=b) (i+1) (k+1)
  have hi':=zij (a:=a) (b:=b) (i+1) (k+1)
  have ih:=zjN (by unfold maxi;exact hb) hN hi (R:=R) k m (by omega) (by omega)
  simp only[zdo,jn,e1,e2,e3,e4,zac hx,zac hy,aA,aF (show(0:Int)<=(k:Int) by omega),aD,
   zeN (show i<a.length+1 by omega),zeN (show i+1<a.length+1 by omega),zeM (show k<b.length+1 by omega),zeM (show k+1<b.length+1 by omega),s1,s2,s3,
   zig (show k<b.length+1 by omega),zih (show i<a.length+1 by omega)]
  cases he:a[i]==b[k]with
  |true=>
   rw[he,if_pos rfl]at hst
   rw[aD,zah (by omega) (by omega),zcG hst.symm]
   exact ih
  |false=>
   rw[he,if_neg (by simp)]at hst
   rw[aC,zcG hst.symm]
   exact ih
theorem zjO (hb:b.length<=maxi)(hN:(a.length:Int)+1<=9223372036854775807)(hNb:(b.length:Int)+1<=9223372036854775807){R:Int->List (List Int)->Option (List (List Int))}: ∀ (i m:Nat),i<=a.length->i<m->
 zcm a b R m ((i:Int)-1) (zdu (a.length+1) (b.length+1) (zaQ a b i 0))=R (-1) (zdu (a.length+1) (b.length+1) (zaQ a b 0 0))
 |0,0,_,h=>by omega
 |0,m+1,_,_=>by
  simp only[zcm]
  rw[aE (by omega)];rfl
 |i+1,0,_,h=>by omega
 |i+1,m+1,hi,hm=>by
  have e1:(((i+1:Nat):Int)-1)=(i:Int):=by omega
  have e2:w64 ((b.length:Int)-1)=(b.length:Int)-1:=zah (by omega) (by omega)
  have e3:w64 ((i:Int)-1)=(i:Int)-1:=zah (by omega) (by omega)
  simp only[zcm,jn,e1,e2,aF (show(0:Int)<=(i:Int) by omega),aD]
  rw[zfJ,zjN hb hN (by omega) b.length _ (Nat.le_refl _) (by omega),e3]
  exact zjO hb hN hNb i m (by omega) (by omega)
theorem zjP (hb:b.length<=1048576){N:Nat}(hN:N<=1048576){q:List (List Int)}(hq:q.length=N){R:Int->List (List Int)->Option (List (List Int))}: ∀ (n i m:Nat),i+n=N->n<m->
 zdp b q R m (i:Int) ((List.range i).map (fun _=>zes (b.length+1) fun _=>0)++List.replicate n [])=R (N:Int) (zdu N (b.length+1) fun _ _=>0)
 |n,i,0,_,h=>by omega
 |0,i,m+1,hi,_=>by
  simp only[zdp]
  rw[hq,aE (by omega),show i=N by omega]
  simp[zdu]
 |n+1,i,m+1,hi,hm=>by
  have e1:w64 ((b.length:Int)+1)=((b.length+1:Nat):Int):=by rw[zah (by omega) (by omega)];omega
  have e2:w64 ((i:Int)+1)=((i+1:Nat):Int):=by rw[zah (by omega) (by omega)];omega
  have hl:((List.range i).map (fun _=>zes (b.length+1) fun _=>0)++List.replicate (n+1) []).length=i+(n+1):=by simp
  obtain⟨u,hu⟩: ∃ u,((List.range i).map (fun _=>zes (b.length+1) fun _=>0)++List.replicate (n+1) ([]:List Int))[i]? =some u:=⟨_,aB (by omega)⟩
  simp only[zdp,hq,e1,e2,aF (show(i:Int)< (N:Int) by omega),aD,zgE (show b.length+1<=lim by unfold lim;omega),aA,zac hu]
  rw[zbJ (by rw[hl];omega),aA]
  have hset:((List.range i).map (fun _=>zes (b.length+1) fun _=>0)++List.replicate (n+1) []).set i (List.replicate (b.length+1) (0:Int))=(List.range (i+1)).map (fun _=>zes (b.length+1) fun _=>0)++List.replicate n []:=by
   rw[List.set_append,if_neg (by simp)]
   have hr:zes (b.length+1) (fun _=>0)=List.replicate (b.length+1) (0:Int):=by
    unfold zes
    rw[List.map_const',List.length_range]
   simp[List.range_succ,List.replicate_succ,hr]
  rw[hset]
  exact zjP hb hN hq n (i+1) m (by omega) (by omega)
theorem zmC (ha:a.length<=1000)(hb:b.length<=1000):ziT a b=some (znl a b):=by
 unfold ziT
 have e1:w64 ((a.length:Int)+1)=((a.length+1:Nat):Int):=by rw[zah (by omega) (by omega)];omega
 have e2:w64 ((a.length:Int)-1)=(a.length:Int)-1:=zah (by omega) (by omega)
 rw[e1,zgE (by unfold lim;omega),aA]
 simp only[jn,e2]
 have h1:=zjP (b:=b) (by omega) (N:=a.length+1) (by omega) (q:=List.replicate (a.length+1) []) (by simp)
  (R:=fun y6 y7=>zcm a b (fun y27 y29=>some y29) (((a.length:Int)-1+1-0).toNat+1) ((a.length:Int)-1) y7) (a.length+1) 0 (((List.replicate (a.length+1) ([]:List Int)).length-(0:Int)).toNat+1) (by omega) (by simp)
 simp only[List.range_zero,List.map_nil,List.nil_append]at h1
 refine h1.trans ?_
 rw[zeO,zjO (by unfold maxi;omega) (by omega) (by omega) a.length _ (Nat.le_refl _) (by omega),zgO]
theorem zjQ (hb:b.length<=maxi)(hN:(a.length:Int)+1<=9223372036854775807){i:Nat}(hi:i<a.length){R:Int->List (List Int)->Option (List (List Int))}: ∀ (k m:Nat),k<=b.length->k<m->
 zbC a b (i:Int) R m ((k:Int)-1) (zdu (a.length+1) (b.length+1) (zaQ a b i k))=R (-1) (zdu (a.length+1) (b.length+1) (zaQ a b i 0))
 |0,0,_,h=>by omega
 |0,m+1,_,_=>by
  simp only[zbC]
  rw[aE (by omega)];rfl
 |k+1,0,_,h=>by omega
 |k+1,m+1,hk,hm=>by
  unfold maxi at hb
  have hx:a[i]? =some a[i]:=aB hi
  have hy:b[k]? =some b[k]:=aB (by omega)
  have hst:=zfI hx hy
  have e1:(((k+1:Nat):Int)-1)=(k:Int):=by omega
  have e2:w64 ((i:Int)+1)=((i+1:Nat):Int):=by rw[zah (by omega) (by omega)];omega
  have e3:w64 ((k:Int)+1)=((k+1:Nat):Int):=by rw[zah (by omega) (by omega)];omega
  have e4:w64 ((k:Int)-1)=(k:Int)-1:=zah (by omega) (by omega)
  have s1:zaQ a b i (k+1) (i+1) (k+1)=zaG a b (i+1) (k+1):=by simp[zaQ]
  have s2:zaQ a b i (k+1) (i+1) k=zaG a b (i+1) k:=by simp[zaQ]
  have s3:zaQ a b i (k+1) i (k+1)=zaG a b i (k+1):=by simp[zaQ]
  have lo:=zii (a:=a) (b:=b) (i+1) (k+1)
  have hi':=zij (a:=a) (b:=b) (i+1) (k+1)
  have ih:=zjQ (by unfold maxi;exact hb) hN hi (R:=R) k m (by omega) (by omega)
  simp only[zbC,jn,e1,e2,e3,e4,zac hx,zac hy,aA,aF (show(0:Int)<=(k:Int) by omega),aD,
   zeN (show i<a.length+1 by omega),zeN (show i+1<a.length+1 by omega),zeM (show k<b.length+1 by omega),zeM (show k+1<b.length+1 by omega),s1,s2,s3,
   zig (show k<b.length+1 by omega),zih (show i<a.length+1 by omega)]
  cases he:a[i]==b[k]with
  |true=>
   rw[he,if_pos rfl]at hst
   rw[aD,zah (by omega) (by omega),zcG hst.symm]
   exact ih
  |false=>
   rw[he,if_neg (by simp)]at hst
   rw[aC]
   unfold zoN at hst
   by_cases hc:zaG a b i (k+1)<=zaG a b (i+1) k
   ·rw[if_neg (by omega)]at hst
    rw[aF hc,aD,zcG hst.symm]
    exact ih
   ·rw[if_pos (by omega)]at hst
    rw[aE hc,aC,zcG hst.symm]
    exact ih
theorem zjR (hb:b.length<=maxi)(hN:(a.length:Int)+1<=9223372036854775807)(hNb:(b.length:Int)+1<=9223372036854775807){R:Int->List (List Int)->Option (List (List Int))}: ∀ (i m:Nat),i<=a.length->i<m->
 za9 a b R m ((i:Int)-1) (zdu (a.length+1) (b.length+1) (zaQ a b i 0))=R (-1) (zdu (a.length+1) (b.length+1) (zaQ a b 0 0))
 |0,0,_,h=>by omega
 |0,m+1,_,_=>by
  simp only[za9]
  rw[aE (by omega)];rfl
 |i+1,0,_,h=>by omega
 |i+1,m+1,hi,hm=>by
  have e1:(((i+1:Nat):Int)-1)=(i:Int):=by omega
  have e2:w64 ((b.length:Int)-1)=(b.length:Int)-1:=zah (by omega) (by omega)
  have e3:w64 ((i:Int)-1)=(i:Int)-1:=zah (by omega) (by omega)
  simp only[za9,jn,e1,e2,aF (show(0:Int)<=(i:Int) by omega),aD]
  rw[zfJ,zjQ hb hN (by omega) b.length _ (Nat.le_refl _) (by omega),e3]
  exact zjR hb hN hNb i m (by omega) (by omega)
theorem zjS (ha:a.length<=1000)(hb:b.length<=1000){R:List (List Int)->Int->Option (List (List Int))}: ∀ (n i m:Nat),i+n=a.length+1->n<m->
 zbD a b R m ((List.range i).map (fun _=>zes (b.length+1) fun _=>0)) (i:Int)=R (zdu (a.length+1) (b.length+1) fun _ _=>0) ((a.length+1:Nat):Int)
 |n,i,0,_,h=>by omega
 |0,i,m+1,hi,_=>by
  simp only[zbD]
  rw[aE (by omega),show i=a.length+1 by omega]
  simp[zdu]
 |n+1,i,m+1,hi,hm=>by
  have e1:w64 ((b.length:Int)+1)=((b.length+1:Nat):Int):=by rw[zah (by omega) (by omega)];omega
  have e2:w64 ((i:Int)+1)=((i+1:Nat):Int):=by rw[zah (by omega) (by omega)];omega
  have hr:zes (b.length+1) (fun _=>0)=List.replicate (b.length+1) (0:Int):=by
   unfold zes
   rw[List.map_const',List.length_range]
  simp only[zbD,e1,e2,aF (show(i:Int)<=(a.length:Int) by omega),aD,zgE (show b.length+1<=lim by unfold lim;omega),aA]
  rw[ze5 (by simp[lim];omega),aA]
  have hset:(List.range i).map (fun _=>zes (b.length+1) fun _=>0)++[List.replicate (b.length+1) (0:Int)]=(List.range (i+1)).map (fun _=>zes (b.length+1) fun _=>0):=by
   simp[List.range_succ,hr]
  rw[hset]
  exact zjS ha hb n (i+1) m (by omega) (by omega)
theorem zmD (ha:a.length<=1000)(hb:b.length<=1000):zep a b=some (znl a b):=by
 unfold zep
 have e2:w64 ((a.length:Int)-1)=(a.length:Int)-1:=zah (by omega) (by omega)
 simp only[jn,e2]
 have h1:=zjS (a:=a) (b:=b) ha hb
  (R:=fun y3 y6=>za9 a b (fun y28 y30=>some y30) (((a.length:Int)-1+1-0).toNat+1) ((a.length:Int)-1) y3) (a.length+1) 0 (((a.length:Int)+1-0).toNat+1) (by omega) (by omega)
 simp only[List.range_zero,List.map_nil]at h1
 refine h1.trans ?_
 rw[zeO,zjR (by unfold maxi;omega) (by omega) (by omega) a.length _ (Nat.le_refl _) (by omega),zgO]
end
def mtF:List Str->List Str->Nat->List Int
 | [],_,_=>[]
 |_::xs,[],k=> -1::mtF xs [] k
 |x::xs,y::ys,k=>if x==y then(k:Int)::mtF xs ys (k+1) else if zd9 (x::xs) ys<=zd9 xs (y::ys) then -1::mtF xs (y::ys) k else mtF (x::xs) ys (k+1)
termination_by a b _=>a.length+b.length
theorem zgp (b:List Str)(k:Nat):mtF [] b k=[]:=by rw[mtF]
theorem zfl (x:Str)(xs:List Str)(k:Nat):mtF (x::xs) [] k = -1::mtF xs [] k:=by rw[mtF]
theorem ze6 (x y:Str)(xs ys:List Str)(k:Nat):mtF (x::xs) (y::ys) k=if x==y then(k:Int)::mtF xs ys (k+1) else if zd9 (x::xs) ys<=zd9 xs (y::ys) then -1::mtF xs (y::ys) k else mtF (x::xs) ys (k+1):=by rw[mtF]
def mt2 (a b:List Str):List Int:=mtF a b 0
theorem zkO {xs:List Int}{x:Int}(h:xs.length<=1000000):apM xs [x]=some (xs++[x]):=ze5 (by simp[lim];omega)
section
variable {a b:List Str}
theorem zfW {i k:Nat}(hi:i<=a.length)(hk:k<=b.length): ∃ r,gi (znl a b) (i:Int)=some r/\gi r (k:Int)=some (zaG a b i k):=
 ⟨_,zeN (by omega),zeM (by omega)⟩
theorem zbk {i:Nat}(h:i<a.length):a.drop i=a[i]::a.drop (i+1):=aI h
theorem zgP (ha:a.length<=1000)(hb:b.length<=1000): ∀ (m i k:Nat) (out:List Int),(a.length-i)+(b.length-k)<m->i<=a.length->k<=b.length->out.length=i->
 zdg a b (znl a b) (fun y5 _ _=>some y5) m out (i:Int) (k:Int)=some (out++mtF (a.drop i) (b.drop k) k)
 |0,i,k,out,hm,_,_,_=>by omega
 |m+1,i,k,out,hm,hi,hk,ho=>by
  have e2:w64 ((i:Int)+1)=((i+1:Nat):Int):=by rw[zah (by omega) (by omega)];omega
  have e3:w64 ((k:Int)+1)=((k+1:Nat):Int):=by rw[zah (by omega) (by omega)];omega
  simp only[zdg,jn,e2,e3]
  by_cases hil:i<a.length
  case neg=>
   rw[aE (by omega),aC,show i=a.length by omega,List.drop_length,zgp,List.append_nil]
  have hx:a[i]? =some a[i]:=aB hil
  rw[aF (by omega),aD,zbk hil]
  by_cases hkl:k<b.length
  case neg=>
   have hke:k=b.length:=by omega
   rw[aE (by omega),aC,aC,show((k:Int)==(b.length:Int))=true by simp[hke],aD,aD,zkO (by omega),aA,
    zgP ha hb m (i+1) k _ (by omega) (by omega) hk (by simp[ho])]
   rw[hke,List.drop_length,zfl]
   simp
  have hy:b[k]? =some b[k]:=aB hkl
  rw[aF (by omega),aD,zac hx,aA,zac hy,aA,zbk hkl,ze6]
  cases he:a[i]==b[k]with
  |true=>
   rw[aD,zkO (by omega),aA,zgP ha hb m (i+1) (k+1) _ (by omega) (by omega) (by omega) (by simp[ho])]
   simp
  |false=>
   rw[aC,show((k:Int)==(b.length:Int))=false by simp;omega,aC]
   obtain⟨r1,h1,h2⟩:=zfW (a:=a) (b:=b) (i:=i+1) (k:=k) (by omega) (by omega)
   obtain⟨r3,h3,h4⟩:=zfW (a:=a) (b:=b) (i:=i) (k:=k+1) (by omega) (by omega)
   rw[h1,aA,h2,aA,h3,aA,h4,aA]
   have c1:zaG a b i (k+1)=zd9 (a[i]::a.drop (i+1)) (b.drop (k+1)):=by unfold zaG;rw[zbk hil]
   have c2:zaG a b (i+1) k=zd9 (a.drop (i+1)) (b[k]::b.drop (k+1)):=by unfold zaG;rw[zbk hkl]
   rw[<- c1,<- c2]
   by_cases hc:zaG a b i (k+1)<=zaG a b (i+1) k
   ·rw[aF hc,aD,zkO (by omega),aA,zgP ha hb m (i+1) k _ (by omega) (by omega) hk (by simp[ho]),if_neg (by simp),if_pos hc,zbk hkl]
    simp
   ·rw[aE hc,aC,zgP ha hb m i (k+1) _ (by omega) hi (by omega) ho,if_neg (by simp),if_neg hc,zbk hil]
theorem zgQ (ha:a.length<=1000)(hb:b.length<=1000):zft a b=some (mt2 a b):=by
 unfold zft
 rw[zmC ha hb,aA]
 simp only[jn]
 have:=zgP ha hb (a.length+b.length+1) 0 0 [] (by omega) (by omega) (by omega) rfl
 simpa[mt2]using this
theorem zgR (ha:a.length<=1000)(hb:b.length<=1000): ∀ (m i k:Nat) (out:List Int),(a.length-i)+(b.length-k)<m->i<=a.length->k<=b.length->out.length=i->
 zct a b (znl a b) (fun y5 _ _=>some y5) m out (k:Int) (i:Int)=some (out++mtF (a.drop i) (b.drop k) k)
 |0,i,k,out,hm,_,_,_=>by omega
 |m+1,i,k,out,hm,hi,hk,ho=>by
  have e2:w64 ((i:Int)+1)=((i+1:Nat):Int):=by rw[zah (by omega) (by omega)];omega
  have e3:w64 ((k:Int)+1)=((k+1:Nat):Int):=by rw[zah (by omega) (by omega)];omega
  simp only[zct,jn,e2,e3]
  by_cases hil:i<a.length
  case neg=>
   rw[aE (by omega),aC,show i=a.length by omega,List.drop_length,zgp,List.append_nil]
  have hx:a[i]? =some a[i]:=aB hil
  rw[aF (by omega),aD,zbk hil]
  by_cases hkl:k<b.length
  case neg=>
   have hke:k=b.length:=by omega
   rw[aE (by omega),aC,aC,aF (by omega),aD,aD,zkO (by omega),aA,
    zgR ha hb m (i+1) k _ (by omega) (by omega) hk (by simp[ho])]
   rw[hke,List.drop_length,zfl]
   simp
  have hy:b[k]? =some b[k]:=aB hkl
  rw[aF (by omega),aD,zac hx,aA,zac hy,aA,zbk hkl,ze6]
  cases he:a[i]==b[k]with
  |true=>
   rw[aD,zkO (by omega),aA,zgR ha hb m (i+1) (k+1) _ (by omega) (by omega) (by omega) (by simp[ho])]
   simp
  |false=>
   rw[aC,aE (by omega),aC]
   obtain⟨r1,h1,h2⟩:=zfW (a:=a) (b:=b) (i:=i+1) (k:=k) (by omega) (by omega)
   obtain⟨r3,h3,h4⟩:=zfW (a:=a) (b:=b) (i:=i) (k:=k+1) (by omega) (by omega)
   rw[h1,aA,h2,aA,h3,aA,h4,aA]
   have c1:zaG a b i (k+1)=zd9 (a[i]::a.drop (i+1)) (b.drop (k+1)):=by unfold zaG;rw[zbk hil]
   have c2:zaG a b (i+1) k=zd9 (a.drop (i+1)) (b[k]::b.drop (k+1)):=by unfold zaG;rw[zbk hkl]
   rw[<- c1,<- c2]
   by_cases hc:zaG a b i (k+1)<=zaG a b (i+1) k
   ·rw[aF hc,aD,zkO (by omega),aA,zgR ha hb m (i+1) k _ (by omega) (by omega) hk (by simp[ho]),if_neg (by simp),if_pos hc,zbk hkl]
    simp
   ·rw[aE hc,aC,zgR ha hb m i (k+1) _ (by omega) hi (by omega) ho,if_neg (by simp),if_neg hc,zbk hil]
theorem zgS (ha:a.length<=1000)(hb:b.length<=1000):zdL a b=some (mt2 a b):=by
 unfold zdL
 rw[zmD ha hb,aA]
 simp only[jn]
 have:=zgR ha hb (a.length+b.length+1) 0 0 [] (by omega) (by omega) (by omega) rfl
 simpa[mt2]using this
end
def Asc (hi:Int):Int->List Int->Prop
 |_,[]=>True
 |lo,x::l=>(x = -1/\Asc hi lo l)\/(lo<=x/\x<hi/\Asc hi (x+1) l)
theorem Asc.mono {hi:Int}: ∀ {l:List Int} {lo lo':Int},lo'<=lo->Asc hi lo l->Asc hi lo' l
 | [],_,_,_,_=>trivial
 |x::l,lo,lo',h, .inl ⟨h1,h2⟩=> .inl ⟨h1,Asc.mono h h2⟩
 |x::l,lo,lo',h, .inr ⟨h1,h2,h3⟩=> .inr ⟨by omega,h2,h3⟩
theorem zet: ∀ (n:Nat) (a b:List Str) (k:Nat),a.length+b.length<=n->Asc ((k+b.length:Nat):Int) (k:Int) (mtF a b k)/\(mtF a b k).length=a.length
 |_,[],b,k,_=>by rw[zgp];exact⟨trivial,rfl⟩
 |0,x::xs,b,k,h=>by simp at h
 |n+1,x::xs,[],k,h=>by
  rw[zfl]
  have:=zet n xs [] k (by simp at h ⊢;omega)
  exact⟨.inl ⟨rfl,this.1⟩,by simp[this.2]⟩
 |n+1,x::xs,y::ys,k,h=>by
  simp only[aL]at h
  rw[ze6]
  split
  ·have:=zet n xs ys (k+1) (by omega)
   refine⟨.inr ⟨Int.le_refl _,by simp only[aL];omega,?_⟩,by simp[this.2]⟩
   have h1:=this.1
   rw[show((k+(y::ys).length:Nat):Int)=((k+1+ys.length:Nat):Int) by simp only[aL];omega,show(k:Int)+1=((k+1:Nat):Int) by omega]
   exact h1
  ·split
   ·have:=zet n xs (y::ys) k (by simp;omega)
    exact⟨.inl ⟨rfl,this.1⟩,by simp[this.2]⟩
   ·have:=zet n (x::xs) ys (k+1) (by simp;omega)
    refine⟨?_,by simp[this.2]⟩
    have h1:=this.1
    rw[show((k+(y::ys).length:Nat):Int)=((k+1+ys.length:Nat):Int) by simp only[aL];omega]
    exact h1.mono (by omega)
theorem zd2 (a b:List Str):Asc (b.length:Int) 0 (mt2 a b)/\(mt2 a b).length=a.length:=by
 have:=zet _ a b 0 (Nat.le_refl _)
 simpa[mt2]using this
theorem Asc.snoc {hi:Int}(h0:0<=hi): ∀ {l:List Int} {lo:Int},lo<=hi->Asc hi lo l->Asc (hi+1) lo (l++[hi])
 | [],lo,h,_=> .inr ⟨h,by omega,trivial⟩
 |x::l,lo,h, .inl ⟨h1,h2⟩=> .inl ⟨h1,Asc.snoc h0 h h2⟩
 |x::l,lo,h, .inr ⟨h1,h2,h3⟩=> .inr ⟨h1,by omega,Asc.snoc h0 (by omega) h3⟩
end Go.Vm
namespace Go.Sx
open Go
theorem zg5 {R α σ:Type} {xs:List α} {step:σ->α->Option σ} {r0:Option R} (Inv:Nat->σ->Prop) {f:Nat->σ->Int->Option R} {Z:σ->Option R} {s0:σ}
 (hs: ∀ m (i:Nat) x s,xs[i]? =some x->Inv i s->(f (m+1) s (i:Int)=match step s x with |some s'=>f m s' ((i+1:Nat):Int) |none=>r0) /\ ∀ s',step s x=some s'->Inv (i+1) s')
 (he: ∀ m s,Inv xs.length s->f (m+1) s (xs.length:Int)=Z s) {m:Nat} (hm:xs.length<m) (h0:Inv 0 s0):
 f m s0 0=(match xs.foldlM step s0 with |some s=>Z s |none=>r0) /\ ∀ s,xs.foldlM step s0=some s->Inv xs.length s:=by
 have key: ∀ k i m s,i+k=xs.length->k<m->Inv i s->f m s (i:Int)=(match (xs.drop i).foldlM step s with |some s=>Z s |none=>r0) /\ ∀ s',(xs.drop i).foldlM step s=some s'->Inv xs.length s':=by
  intro k
  induction k with
  |zero=>
   intro i m s hi hm hI
   obtain⟨m,rfl⟩: ∃ q,m=q+1:=⟨m-1,by omega⟩
   have hii:i=xs.length:=by omega
   subst hii
   rw[he m s hI,List.drop_length]
   exact⟨rfl,fun s' h=>by
    have:s=s':=by simpa using h
    rw[<- this];exact hI⟩
  |succ k ih=>
   intro i m s hi hm hI
   obtain⟨m,rfl⟩: ∃ q,m=q+1:=⟨m-1,by omega⟩
   have hlt:i<xs.length:=by omega
   obtain⟨h1,h2⟩:=hs m i xs[i] s (aB hlt) hI
   rw[h1,aI hlt,List.foldlM_cons]
   cases hst:step s xs[i]with
   |none=>exact⟨rfl,fun s' h=>by simp at h⟩
   |some s1=>
    obtain⟨h3,h4⟩:=ih (i+1) m s1 (by omega) (by omega) (h2 s1 hst)
    exact⟨h3,h4⟩
 have:=key xs.length 0 m s0 (by omega) hm h0
 simpa using this
theorem zcb {R α:Type} {xs:List α} {p:α->Bool} {r:α->Option R} {Z:Option R} {f:Nat->Int->Option R}
 (hs: ∀ m (i:Nat) x,xs[i]? =some x->f (m+1) (i:Int)=bif p x then r x else f m ((i+1:Nat):Int)) (he: ∀ m,f (m+1) (xs.length:Int)=Z) {m:Nat} (hm:xs.length<m):
 f m 0=match xs.find? p with |some x=>r x |none=>Z:=by
 have key: ∀ k i m,i+k=xs.length->k<m->f m (i:Int)=match (xs.drop i).find? p with |some x=>r x |none=>Z:=by
  intro k
  induction k with
  |zero=>
   intro i m hi hm
   obtain⟨m,rfl⟩: ∃ q,m=q+1:=⟨m-1,by omega⟩
   rw[show i=xs.length by omega,he,List.drop_length]
   rfl
  |succ k ih=>
   intro i m hi hm
   obtain⟨m,rfl⟩: ∃ q,m=q+1:=⟨m-1,by omega⟩
   have hlt:i<xs.length:=by omega
   rw[hs m i xs[i] (aB hlt),aI hlt,List.find?_cons]
   cases p xs[i]with
   |true=>rfl
   |false=>exact ih (i+1) m (by omega) (by omega)
 have:=key xs.length 0 m (by omega) hm
 simpa using this
end Go.Sx
namespace Go.Vm
open Go Go.Sx
set_option linter.unusedSimpArgs false
set_option linter.unusedVariables false
def lnP (l:List Str):Part:=⟨false,l,[],[],[]⟩
def zbT (o a b:List Str):Part:=bif a==o||a==b then lnP b else bif b==o then lnP a else⟨true,[],o,a,b⟩
def zgT (out:List Part)(p:Part):List Part:=
 bif !p.Clash&&p.Lines.length==0 then out else
 match out[out.length-1]? with
 |some q=>bif !p.Clash && !q.Clash then out.set (out.length-1) ⟨q.Clash,q.Lines++p.Lines,q.Old,q.One,q.Two⟩ else out++[p]
 |none=>out++[p]
def PB (n:Nat)(out:List Part):Prop:=out.length<=n /\ ∀ q∈out,q.Lines.length<=1000*n
theorem PB.mono {n m:Nat}{out:List Part}(h:PB n out)(hm:n<=m):PB m out:=⟨Nat.le_trans h.1 hm,fun q hq=>Nat.le_trans (h.2 q hq) (Nat.mul_le_mul_left _ hm)⟩
theorem zho {n:Nat}{out:List Part}{p:Part}(h:PB n out)(hp:p.Lines.length<=1000):PB (n+1) (zgT out p):=by
 have happ:PB (n+1) (out++[p]):=⟨by simp;exact h.1,fun q hq=>by
  rcases List.mem_append.1 hq with h1 |h1
  ·have:=h.2 q h1;omega
  ·rw[List.mem_singleton]at h1;rw[h1];omega⟩
 unfold zgT
 cases(!p.Clash&&p.Lines.length==0)with
 |true=>exact h.mono (by omega)
 |false=>
  rw[aC]
  split
  ·rename_i q hq
   cases(!p.Clash && !q.Clash)with
   |false=>exact happ
   |true=>
    rw[aD]
    refine⟨by rw[List.length_set];have:=h.1;omega,fun r hr=>?_⟩
    rcases List.mem_or_eq_of_mem_set hr with h1 |h1
    ·have:=h.2 r h1;omega
    ·rw[h1]
     have:=h.2 q (aH hq)
     simp only[List.length_append]
     omega
  ·exact happ
theorem zey {o a b:List Str}(ha:a.length<=1000)(hb:b.length<=1000):(zbT o a b).Lines.length<=1000:=by
 unfold zbT lnP
 cases(a==o||a==b)
 ·cases b==o
  ·simp
  ·exact ha
 ·exact hb
theorem apL {xs ys:List Str}(h:xs.length<=4000000)(h':ys.length<=1000):apM xs ys=some (xs++ys):=ze5 (by simp[lim];omega)
theorem zlg {o a b:List Str}(ho:o.length<=1000)(ha:a.length<=1000)(hb:b.length<=1000):zgc o a b=some (zbT o a b):=by
 unfold zgc zbT lnP
 simp only[jn,zex (show a.length<=maxi by unfold maxi;omega),zex (show b.length<=maxi by unfold maxi;omega),aA,apN (show o.length<=1048576 by omega),apN (show a.length<=1048576 by omega),apN (show b.length<=1048576 by omega)]
 cases a==o<;>cases a==b<;>cases b==o<;>rfl
theorem zlh {n:Nat}(h:n<=4000000)(h0:0<n):w64 ((n:Int)-1)=((n-1:Nat):Int):=by rw[zah (by omega) (by omega)];omega
theorem zjF {n:Nat}{out:List Part}{p:Part}(h:PB n out)(hn:n<=4000)(hp:p.Lines.length<=1000):zgB out p=some (zgT out p):=by
 have hl:=h.1
 unfold zgB zgT
 have hz:(((p.Lines.length:Int))==(0:Int))=(p.Lines.length==0):=by
  have: ∀ b c:Bool,(b=true↔c=true)->b=c:=by decide
  apply this;simp
 simp only[jn,hz,show(⟨p.Clash,p.Lines,p.Old,p.One,p.Two⟩:Part)=p from rfl]
 have happ:apM out [p]=some (out++[p]):=ze5 (by simp[lim];omega)
 cases hc:p.Clash with
 |true=>
  simp only[aK,Bool.false_and,aC,happ,aA]
  by_cases h0:0<out.length
  ·rw[aF (by omega),aD,aB (by omega)]
  ·rw[aE (by omega),aC,List.getElem?_eq_none (by omega)]
 |false=>
  simp only[Bool.not_false,Bool.true_and,aD]
  cases hz2:(p.Lines.length==0)with
  |true=>rfl
  |false=>
   simp only[aC]
   by_cases h0:0<out.length
   ·obtain⟨q,hq⟩: ∃ q,out[out.length-1]? =some q:=⟨_,aB (by omega)⟩
    have hql:=h.2 q (aH hq)
    rw[aF (by omega),aD,zlh (by omega) h0,zac hq,aA,hq]
    cases hqc:q.Clash with
    |true=>simp[happ,hqc]
    |false=>
     simp only[hqc,Bool.not_false,aD,aA]
     rw[apL (by omega) hp,aA,zbJ (by omega),aA]
   ·rw[aE (by omega),aC,List.getElem?_eq_none (by omega),happ]
    rfl
theorem c1_eq {n:Nat}{out:List Part}{l:List Str}(h:PB n out)(hn:n<=4000)(hp:l.length<=1000):zbK l out=some (zgT out (lnP l)):=by
 have hl:=h.1
 unfold zbK zgT lnP
 have hz:(((l.length:Int))==(0:Int))=(l.length==0):=by
  have: ∀ b c:Bool,(b=true↔c=true)->b=c:=by decide
  apply this;simp
 simp only[jn,hz,Bool.not_false,Bool.true_and]
 cases hz2:(l.length==0)with
 |true=>rfl
 |false=>
  simp only[aC]
  have happ:apM out [(⟨false,[],[],[],[]⟩:Part)]=some (out++[⟨false,[],[],[],[]⟩]):=ze5 (by simp[lim];omega)
  have hat:(out++[(⟨false,[],[],[],[]⟩:Part)])[out.length]? =some ⟨false,[],[],[],[]⟩:=by simp
  by_cases h0:0<out.length
  ·obtain⟨q,hq⟩: ∃ q,out[out.length-1]? =some q:=⟨_,aB (by omega)⟩
   have hql:=h.2 q (aH hq)
   rw[zlh (by omega) h0,aE (by omega),aC,zac hq,aA,hq]
   cases hqc:q.Clash with
   |true=>
    have e1:w64 (((out.length-1:Nat):Int)+1)=(out.length:Int):=by rw[zah (by omega) (by omega)];omega
    rw[aD,happ,aA,e1,zac hat,aA,apL (by simp) hp,aA,aA,zbJ (by simp),aA]
    simp[hqc]
   |false=>
    rw[aC,aA,apL (by omega) hp,aA,aA,zbJ (by omega),aA]
    simp[hqc]
  ·have e0:w64 ((out.length:Int)-1) = -1:=by rw[zah (by omega) (by omega)];omega
   have e1:w64 ((-1:Int)+1)=(out.length:Int):=by rw[zah (by omega) (by omega)];omega
   rw[e0,List.getElem?_eq_none (by omega)]
   rw[show decide ((-1:Int)<0)=true by decide,aD,happ,aA,e1,zac hat,aA,apL (by simp) hp,aA,aA,zbJ (by simp),aA]
   simp
theorem zkk (out:List Part)(o a b:List Str):zgT out ⟨true,[],o,a,b⟩=out++[⟨true,[],o,a,b⟩]:=by
 unfold zgT
 simp only[aK,Bool.false_and,aC]
 split<;>rfl
def zaU {α:Type}(xs:List α)(l h:Int):List α:=(xs.take h.toNat).drop l.toNat
theorem zbp {α:Type}(xs:List α)(l h:Int):(zaU xs l h).length<=xs.length:=by unfold zaU;simp;omega
def zb7 (o a b:List Str)(i x y io ia ib:Int)(out:List Part):List Part:=
 match o[i.toNat]? with
 |some s=>zgT (zgT out (zbT (zaU o io i) (zaU a ia x) (zaU b ib y))) (lnP [s])
 |none=>zgT out (zbT (zaU o io i) (zaU a ia x) (zaU b ib y))
def zbb (o a b:List Str):Int->List Int->List Int->Int->Int->Int->List Part->List Part
 |i,x::ma,y::mb,io,ia,ib,out=>
  bif decide (x<0)||decide (y<0) then zbb o a b (i+1) ma mb io ia ib out
  else zbb o a b (i+1) ma mb (i+1) (x+1) (y+1) (zb7 o a b i x y io ia ib out)
 |_,[],_,_,_,_,out=>out
 |_,_:: _,[],_,_,_,out=>out
def zaL (o a b:List Str):List Part:=zbb o a b 0 (mt2 o a++[(a.length:Int)]) (mt2 o b++[(b.length:Int)]) 0 0 0 []
theorem zfX {o a b:List Str}(ha:a.length<=1000)(hb:b.length<=1000){i x y io ia ib:Int}{n:Nat}{out:List Part}(h:PB n out):PB (n+2) (zb7 o a b i x y io ia ib out):=by
 have h1:=zho h (zey (o:=zaU o io i) (Nat.le_trans (zbp a ia x) ha) (Nat.le_trans (zbp b ib y) hb))
 unfold zb7
 split
 ·exact zho h1 (by simp[lnP])
 ·exact h1.mono (by omega)
theorem zfK {o a b:List Str}(ha:a.length<=1000)(hb:b.length<=1000): ∀ (ma mb:List Int) (i io ia ib:Int) (n:Nat) (out:List Part),PB n out->PB (n+2*ma.length) (zbb o a b i ma mb io ia ib out)
 | [],mb,i,io,ia,ib,n,out,h=>by rw[zbb.eq_def];exact h.mono (by omega)
 |x::ma,[],i,io,ia,ib,n,out,h=>by rw[zbb.eq_def];exact h.mono (by omega)
 |x::ma,y::mb,i,io,ia,ib,n,out,h=>by
  rw[zbb]
  cases(decide (x<0)||decide (y<0))with
  |true=>exact(zfK ha hb ma mb _ _ _ _ n out h).mono (by simp;omega)
  |false=>exact(zfK ha hb ma mb _ _ _ _ (n+2) _ (zfX ha hb h)).mono (by simp;omega)
theorem zhp {l:List Int}{i:Nat}{x:Int}(h:l[i]? =some x):l.drop i=x::l.drop (i+1):=by
 have hi:=zaq h
 rw[aI hi]
 rw[aB hi]at h
 rw[Option.some.inj h]
theorem zfY {o a b:List Str}(ho:o.length<=1000)(ha:a.length<=1000)(hb:b.length<=1000){ma mb:List Int}(hla:ma.length=o.length+1)(hlb:mb.length=o.length+1):
 ∀ (n i m:Nat) (io ia ib:Int) (out:List Part),i+n=o.length+1->n<m->Asc ((a.length:Int)+1) ia (ma.drop i)->Asc ((b.length:Int)+1) ib (mb.drop i)->0<=io->io<=i->0<=ia->0<=ib->PB (2*i) out->
  zcw o a b ma mb (fun y45 _ _ _ _=>some y45) m out io ia ib (i:Int)=some (zbb o a b i (ma.drop i) (mb.drop i) io ia ib out)
 |n,i,0,_,_,_,_,_,hm,_,_,_,_,_,_,_=>by omega
 |0,i,m+1,io,ia,ib,out,hi,_,_,_,_,_,_,_,_=>by
  simp only[zcw]
  rw[aE (by omega),aC,List.drop_eq_nil_of_le (by omega),zbb.eq_def]
 |n+1,i,m+1,io,ia,ib,out,hi,hm,hA,hB,h0,h1,h2,h3,hP=>by
  obtain⟨x,hx⟩: ∃ x,ma[i]? =some x:=⟨_,aB (by omega)⟩
  obtain⟨y,hy⟩: ∃ y,mb[i]? =some y:=⟨_,aB (by omega)⟩
  rw[zhp hx]at hA ⊢
  rw[zhp hy]at hB ⊢
  have ei:w64 ((i:Int)+1)=((i+1:Nat):Int):=by rw[zah (by omega) (by omega)];omega
  have ei':(i:Int)+1=((i+1:Nat):Int):=by omega
  rw[ei']at ei
  have dn:decide ((-1:Int)<0)=true:=rfl
  have hstay: ∀ (hA':Asc ((a.length:Int)+1) ia (ma.drop (i+1))) (hB':Asc ((b.length:Int)+1) ib (mb.drop (i+1))),zcw o a b ma mb (fun y45 _ _ _ _=>some y45) m out io ia ib ((i+1:Nat):Int)=some (zbb o a b ((i+1:Nat):Int) (ma.drop (i+1)) (mb.drop (i+1)) io ia ib out):=
   fun hA' hB'=>zfY ho ha hb hla hlb n (i+1) m io ia ib out (by omega) (by omega) hA' hB' h0 (by omega) h2 h3 (hP.mono (by omega))
  rw[zbb]
  simp only[zcw,jn,zac hx,zac hy,aA,ei,ei',hla]
  rw[aF (show(i:Int)< ((o.length+1:Nat):Int) by omega),aD]
  rcases hA with ⟨rfl,hA⟩ |⟨ha1,ha2,hA⟩
  ·rcases hB with ⟨rfl,hB⟩ |⟨hb1,hb2,hB⟩
   ·simp only[dn,aD,Bool.true_or];exact hstay hA hB
   ·simp only[dn,aD,Bool.true_or];exact hstay hA (hB.mono (by omega))
  rcases hB with ⟨rfl,hB⟩ |⟨hb1,hb2,hB⟩
  ·rw[aE (show ¬ x<0 by omega),aC]
   simp only[dn,aD,Bool.false_or]
   exact hstay (hA.mono (by omega)) hB
  rw[aE (show ¬ x<0 by omega),aE (show ¬ y<0 by omega)]
  simp only[aC,Bool.or_false]
  have ex:w64 (x+1)=x+1:=zah (by omega) (by omega)
  have ey:w64 (y+1)=y+1:=zah (by omega) (by omega)
  have c1:=zbp o io i
  have c2:=zbp a ia x
  have c3:=zbp b ib y
  have hP1:=zho hP (zey (o:=zaU o io i) (Nat.le_trans c2 ha) (Nat.le_trans c3 hb))
  have hS:=zfX (o:=o) ha hb (i:=i) (x:=x) (y:=y) (io:=io) (ia:=ia) (ib:=ib) hP
  have hfin:=zfY ho ha hb hla hlb n (i+1) m ((i+1:Nat):Int) (x+1) (y+1) (zb7 o a b i x y io ia ib out) (by omega) (by omega) hA hB (by omega) (by omega) (by omega) (by omega) (hS.mono (by omega))
  rw[zeF h0 h1 (by omega),aA,zeF h2 ha1 (by omega),aA,zeF h3 hb1 (by omega),aA,
   show((o.take ((i:Int)).toNat).drop io.toNat)=zaU o io i from rfl,show((a.take x.toNat).drop ia.toNat)=zaU a ia x from rfl,show((b.take y.toNat).drop ib.toNat)=zaU b ib y from rfl,
   zlg (by omega) (by omega) (by omega),aA]
  rw[show(⟨(zbT (zaU o io i) (zaU a ia x) (zaU b ib y)).Clash,(zbT (zaU o io i) (zaU a ia x) (zaU b ib y)).Lines,(zbT (zaU o io i) (zaU a ia x) (zaU b ib y)).Old,(zbT (zaU o io i) (zaU a ia x) (zaU b ib y)).One,(zbT (zaU o io i) (zaU a ia x) (zaU b ib y)).Two⟩:Part)=zbT (zaU o io i) (zaU a ia x) (zaU b ib y) from rfl,
   zjF hP (by omega) (zey (Nat.le_trans c2 ha) (Nat.le_trans c3 hb)),aA]
  by_cases hio:i<o.length
  ·have hs:o[i]? =some o[i]:=aB hio
   rw[aF (by omega),aD,zac hs,aA,show(⟨false,[o[i]],[],[],[]⟩:Part)=lnP [o[i]] from rfl,zjF hP1 (by omega) (by simp[lnP]),aA,ex,ey]
   have hm:zb7 o a b i x y io ia ib out=zgT (zgT out (zbT (zaU o io i) (zaU a ia x) (zaU b ib y))) (lnP [o[i]]):=by
    unfold zb7
    rw[show((i:Int)).toNat=i by omega,hs]
   rw[<- hm]
   exact hfin
  ·rw[aE (by omega),aC,ex,ey]
   have hm:zb7 o a b i x y io ia ib out=zgT out (zbT (zaU o io i) (zaU a ia x) (zaU b ib y)):=by
    unfold zb7
    rw[show((i:Int)).toNat=i by omega,List.getElem?_eq_none (by omega)]
   rw[<- hm]
   exact hfin
theorem zef (o a:List Str):Asc ((a.length:Int)+1) 0 (mt2 o a++[(a.length:Int)])/\(mt2 o a++[(a.length:Int)]).length=o.length+1:=by
 have h:=zd2 o a
 exact⟨Asc.snoc (by omega) (by omega) h.1,by simp[h.2]⟩
theorem znD {o a b:List Str}(ho:o.length<=1000)(ha:a.length<=1000)(hb:b.length<=1000):ziB o a b=some (zaL o a b):=by
 obtain⟨a1,a2⟩:=zef o a
 obtain⟨b1,b2⟩:=zef o b
 have l1:=(zd2 o a).2
 have l2:=(zd2 o b).2
 unfold ziB
 rw[zgS ho ha,aA,zkO (by omega),aA,zgS ho hb,aA,zkO (by omega),aA]
 simp only[jn]
 have:=zfY ho ha hb a2 b2 (o.length+1) 0 ((((mt2 o a++[(a.length:Int)]).length:Int)-0).toNat+1) 0 0 0 [] (by omega) (by omega) a1 b1 (by omega) (by omega) (by omega) (by omega) ⟨by simp,by simp⟩
 exact this
theorem zwj {o:List Str}{i:Nat}{s:Str}(h:o[i]? =some s):slM o (i:Int) ((i+1:Nat):Int)=some [s]:=by
 have hi:=zaq h
 rw[zeF (by omega) (by omega) (by omega)]
 congr 1
 rw[show(((i+1:Nat):Int)).toNat=i+1 by omega,show((i:Int)).toNat=i by omega,List.drop_take,show i+1-i=1 by omega,aI hi]
 rw[aB hi]at h
 simp[Option.some.inj h]
theorem zfZ {o a b:List Str}(ho:o.length<=1000)(ha:a.length<=1000)(hb:b.length<=1000){ma mb:List Int}(hla:ma.length=o.length+1)(hlb:mb.length=o.length+1):
 ∀ (n i m:Nat) (io ia ib:Int) (out:List Part),i+n=o.length+1->n<m->Asc ((a.length:Int)+1) ia (ma.drop i)->Asc ((b.length:Int)+1) ib (mb.drop i)->0<=io->io<=i->0<=ia->0<=ib->PB (2*i) out->
  zaM o a b ma mb (fun _ _ _ _ y49=>some y49) m io ia ib (i:Int) out=some (zbb o a b i (ma.drop i) (mb.drop i) io ia ib out)
 |n,i,0,_,_,_,_,_,hm,_,_,_,_,_,_,_=>by omega
 |0,i,m+1,io,ia,ib,out,hi,_,_,_,_,_,_,_,_=>by
  simp only[zaM]
  rw[aE (by omega),aC,List.drop_eq_nil_of_le (by omega),zbb.eq_def]
 |n+1,i,m+1,io,ia,ib,out,hi,hm,hA,hB,h0,h1,h2,h3,hP=>by
  obtain⟨x,hx⟩: ∃ x,ma[i]? =some x:=⟨_,aB (by omega)⟩
  obtain⟨y,hy⟩: ∃ y,mb[i]? =some y:=⟨_,aB (by omega)⟩
  rw[zhp hx]at hA ⊢
  rw[zhp hy]at hB ⊢
  have ei:w64 ((i:Int)+1)=((i+1:Nat):Int):=by rw[zah (by omega) (by omega)];omega
  have ei':(i:Int)+1=((i+1:Nat):Int):=by omega
  rw[ei']at ei
  have dn:decide ((-1:Int)<0)=true:=rfl
  have hstay: ∀ (hA':Asc ((a.length:Int)+1) ia (ma.drop (i+1))) (hB':Asc ((b.length:Int)+1) ib (mb.drop (i+1))),zaM o a b ma mb (fun _ _ _ _ y49=>some y49) m io ia ib ((i+1:Nat):Int) out=some (zbb o a b ((i+1:Nat):Int) (ma.drop (i+1)) (mb.drop (i+1)) io ia ib out):=
   fun hA' hB'=>zfZ ho ha hb hla hlb n (i+1) m io ia ib out (by omega) (by omega) hA' hB' h0 (by omega) h2 h3 (hP.mono (by omega))
  rw[zbb]
  simp only[zaM,jn,zac hx,zac hy,aA,ei,ei',hla]
  rw[aF (show(i:Int)< ((o.length+1:Nat):Int) by omega),aD]
  rcases hA with ⟨rfl,hA⟩ |⟨ha1,ha2,hA⟩
  ·rcases hB with ⟨rfl,hB⟩ |⟨hb1,hb2,hB⟩
   ·simp only[dn,aD,Bool.true_or];exact hstay hA hB
   ·simp only[dn,aD,Bool.true_or];exact hstay hA (hB.mono (by omega))
  rcases hB with ⟨rfl,hB⟩ |⟨hb1,hb2,hB⟩
  ·rw[aE (show ¬ x<0 by omega),aC]
   simp only[dn,aD,Bool.false_or]
   exact hstay (hA.mono (by omega)) hB
  rw[aE (show ¬ x<0 by omega),aE (show ¬ y<0 by omega)]
  simp only[aC,Bool.or_false]
  have ex:w64 (x+1)=x+1:=zah (by omega) (by omega)
  have ey:w64 (y+1)=y+1:=zah (by omega) (by omega)
  have c1:=zbp o io i
  have c2:=zbp a ia x
  have c3:=zbp b ib y
  have hP1:=zho hP (zey (o:=zaU o io i) (Nat.le_trans c2 ha) (Nat.le_trans c3 hb))
  have hS:=zfX (o:=o) ha hb (i:=i) (x:=x) (y:=y) (io:=io) (ia:=ia) (ib:=ib) hP
  have hfin:=zfZ ho ha hb hla hlb n (i+1) m ((i+1:Nat):Int) (x+1) (y+1) (zb7 o a b i x y io ia ib out) (by omega) (by omega) hA hB (by omega) (by omega) (by omega) (by omega) (hS.mono (by omega))
  rw[zeF h0 h1 (by omega),aA,zeF h2 ha1 (by omega),aA,zeF h3 hb1 (by omega),aA,
   show((o.take ((i:Int)).toNat).drop io.toNat)=zaU o io i from rfl,show((a.take x.toNat).drop ia.toNat)=zaU a ia x from rfl,show((b.take y.toNat).drop ib.toNat)=zaU b ib y from rfl,
   zdw (show(zaU a ia x).length<=maxi by unfold maxi;omega),aA]
  -- what follows,of any out
  have hrest: ∀ q,q=zgT out (zbT (zaU o io i) (zaU a ia x) (zaU b ib y))->
   (bif decide ((i:Int)< (o.length:Int)) then(slM o (i:Int) ((i+1:Nat):Int)).bind fun q154=>(zbK q154 q).bind fun z158=>zaM o a b ma mb (fun _ _ _ _ y49=>some y49) m ((i+1:Nat):Int) (w64 (x+1)) (w64 (y+1)) ((i+1:Nat):Int) z158
   else zaM o a b ma mb (fun _ _ _ _ y49=>some y49) m ((i+1:Nat):Int) (w64 (x+1)) (w64 (y+1)) ((i+1:Nat):Int) q)=
   some (zbb o a b ((i+1:Nat):Int) (ma.drop (i+1)) (mb.drop (i+1)) ((i+1:Nat):Int) (x+1) (y+1) (zb7 o a b i x y io ia ib out)):=by
   rintro q rfl
   rw[ex,ey]
   by_cases hio:i<o.length
   ·have hs:o[i]? =some o[i]:=aB hio
    rw[aF (by omega),aD,zwj hs,aA,c1_eq hP1 (by omega) (by simp),aA]
    have hm:zb7 o a b i x y io ia ib out=zgT (zgT out (zbT (zaU o io i) (zaU a ia x) (zaU b ib y))) (lnP [o[i]]):=by
     unfold zb7
     rw[show((i:Int)).toNat=i by omega,hs]
    rw[<- hm]
    exact hfin
   ·rw[aE (by omega),aC]
    have hm:zb7 o a b i x y io ia ib out=zgT out (zbT (zaU o io i) (zaU a ia x) (zaU b ib y)):=by
     unfold zb7
     rw[show((i:Int)).toNat=i by omega,List.getElem?_eq_none (by omega)]
    rw[<- hm]
    exact hfin
  have hclash:apM out [(⟨true,[],zaU o io i,zaU a ia x,zaU b ib y⟩:Part)]=some (out++[⟨true,[],zaU o io i,zaU a ia x,zaU b ib y⟩]):=ze5 (by have:=hP.1;simp[lim];omega)
  cases e1:zaU a ia x==zaU o io i with
  |true=>
   rw[aD,aD,c1_eq hP (by omega) (by omega),aA]
   exact hrest _ (by simp[zbT,e1])
  |false=>
   rw[aC,zdw (show(zaU a ia x).length<=maxi by unfold maxi;omega),aA]
   cases e2:zaU a ia x==zaU b ib y with
   |true=>
    rw[aD,c1_eq hP (by omega) (by omega),aA]
    exact hrest _ (by simp[zbT,e1,e2])
   |false=>
    rw[aC,zdw (show(zaU b ib y).length<=maxi by unfold maxi;omega),aA]
    cases e3:zaU b ib y==zaU o io i with
    |true=>
     rw[aD,c1_eq hP (by omega) (by omega),aA]
     exact hrest _ (by simp[zbT,e1,e2,e3])
    |false=>
     rw[aC,za4 (by omega),aA,za4 (by omega),aA,za4 (by omega),aA,hclash,aA]
     exact hrest _ (by simp[zbT,e1,e2,e3,zkk])
theorem zkl {o a b:List Str}(ho:o.length<=1000)(ha:a.length<=1000)(hb:b.length<=1000):zfp o a b=some (zaL o a b):=by
 obtain⟨a1,a2⟩:=zef o a
 obtain⟨b1,b2⟩:=zef o b
 have l1:=(zd2 o a).2
 have l2:=(zd2 o b).2
 unfold zfp
 rw[zgQ ho ha,aA,zkO (by omega),aA,zgQ ho hb,aA,zkO (by omega),aA]
 simp only[jn]
 exact zfZ ho ha hb a2 b2 (o.length+1) 0 ((((mt2 o a++[(a.length:Int)]).length:Int)-0).toNat+1) 0 0 0 [] (by omega) (by omega) a1 b1 (by omega) (by omega) (by omega) (by omega) ⟨by simp,by simp⟩
end Go.Vm
namespace Go.Sx
open Go
end Go.Sx
namespace Go.Vm
open Go Go.Sx
set_option linter.unusedSimpArgs false
set_option linter.unusedVariables false
section
variable {o a b:List Str}{Q:Part->Prop}
theorem zjG {out:List Part}{p:Part}(h3: ∀ q p:Part,Q q->Q p->q.Clash=false->p.Clash=false->Q ⟨q.Clash,q.Lines++p.Lines,q.Old,q.One,q.Two⟩)(h: ∀ q∈out,Q q)(hp:Q p): ∀ q∈zgT out p,Q q:=by
 have happ: ∀ q∈out++[p],Q q:=fun q hq=>by
  rcases List.mem_append.1 hq with h1 |h1
  ·exact h q h1
  ·rw[List.mem_singleton]at h1;rw[h1];exact hp
 unfold zgT
 cases(!p.Clash&&p.Lines.length==0)with
 |true=>exact h
 |false=>
  rw[aC]
  split
  ·rename_i q hq
   cases hc:(!p.Clash && !q.Clash)with
   |false=>exact happ
   |true=>
    simp only[aG,Bool.not_eq_true']at hc
    rw[aD]
    intro r hr
    rcases List.mem_or_eq_of_mem_set hr with h1 |h1
    ·exact h r h1
    ·rw[h1];exact h3 q p (h q (aH hq)) hp hc.2 hc.1
  ·exact happ
theorem ze7 (h1: ∀ l h l' h' l'' h'',Q (zbT (zaU o l h) (zaU a l' h') (zaU b l'' h''))) (h2: ∀ s∈o,Q (lnP [s]))
 (h3: ∀ q p:Part,Q q->Q p->q.Clash=false->p.Clash=false->Q ⟨q.Clash,q.Lines++p.Lines,q.Old,q.One,q.Two⟩): ∀ (ma mb:List Int) (i io ia ib:Int) (out:List Part),(∀ q∈out,Q q) -> ∀ q∈zbb o a b i ma mb io ia ib out,Q q
 | [],mb,i,io,ia,ib,out,h=>by rw[zbb.eq_def];exact h
 |x::ma,[],i,io,ia,ib,out,h=>by rw[zbb.eq_def];exact h
 |x::ma,y::mb,i,io,ia,ib,out,h=>by
  rw[zbb]
  cases(decide (x<0)||decide (y<0))with
  |true=>exact ze7 h1 h2 h3 ma mb _ _ _ _ out h
  |false=>
   refine ze7 h1 h2 h3 ma mb _ _ _ _ _ ?_
   have hp:=zjG h3 h (h1 io i ia x ib y)
   unfold zb7
   split
   ·rename_i s hs
    exact zjG h3 hp (h2 s (aH hs))
   ·exact hp
theorem zkm (h1: ∀ l h l' h' l'' h'',Q (zbT (zaU o l h) (zaU a l' h') (zaU b l'' h''))) (h2: ∀ s∈o,Q (lnP [s]))
 (h3: ∀ q p:Part,Q q->Q p->q.Clash=false->p.Clash=false->Q ⟨q.Clash,q.Lines++p.Lines,q.Old,q.One,q.Two⟩): ∀ q∈zaL o a b,Q q:=
 ze7 h1 h2 h3 _ _ _ _ _ _ [] (by simp)
theorem zez {α:Type}{xs:List α}{l h:Int}{x:α}(hx:x∈zaU xs l h):x∈xs:=List.mem_of_mem_take (List.mem_of_mem_drop hx)
theorem zik {P:Str->Prop}(ho: ∀ s∈o,P s)(ha: ∀ s∈a,P s)(hb: ∀ s∈b,P s): ∀ q∈zaL o a b,(∀ s∈q.Lines,P s)/\(∀ s∈q.Old,P s)/\(∀ s∈q.One,P s)/\(∀ s∈q.Two,P s)/\q.Old.length<=o.length/\q.One.length<=a.length/\q.Two.length<=b.length:=by
 refine zkm (fun l h l' h' l'' h''=>?_) (fun s hs=>?_) (fun q p hq hp _ _=>?_)
 ·have c1:=zbp o l h
  have c2:=zbp a l' h'
  have c3:=zbp b l'' h''
  unfold zbT lnP
  cases(zaU a l' h'==zaU o l h||zaU a l' h'==zaU b l'' h'')with
  |true=>exact⟨fun s hs=>hb s (zez hs),by simp,by simp,by simp,by simp,by simp,by simp⟩
  |false=>
   rw[aC]
   cases(zaU b l'' h''==zaU o l h)with
   |true=>exact⟨fun s hs=>ha s (zez hs),by simp,by simp,by simp,by simp,by simp,by simp⟩
   |false=>exact⟨by simp,fun s hs=>ho s (zez hs),fun s hs=>ha s (zez hs),fun s hs=>hb s (zez hs),c1,c2,c3⟩
 ·exact⟨by simpa[lnP]using ho s hs,by simp[lnP],by simp[lnP],by simp[lnP],by simp[lnP],by simp[lnP],by simp[lnP]⟩
 ·exact⟨fun s hs=>(List.mem_append.1 hs).elim (hq.1 s) (hp.1 s),hq.2⟩
theorem zkn (ho:o.length<=1000)(ha:a.length<=1000)(hb:b.length<=1000):PB (2*(o.length+1)) (zaL o a b):=by
 have:=zfK (o:=o) ha hb (mt2 o a++[(a.length:Int)]) (mt2 o b++[(b.length:Int)]) 0 0 0 0 0 [] ⟨by simp,by simp⟩
 rw[(zef o a).2]at this
 exact this.mono (by omega)
end
section
variable {xs:List Memo}{o a b:List Str}
def okT (t:List Str):List Str×Bool:=bif zap t then(t,true) else([],false)
def zpE (i:Nat)(s:List Str):Prop:=s.length<=22000*i /\ ∀ x∈s,zb8 x=true
theorem zbw {s:List Str}(h:s.length<=1000000)(hl: ∀ x∈s,zb8 x=true):Bk.fit s:=⟨by unfold maxi;omega,fun x hx=>by have:=zgt (hl x hx);show x.length<=maxi;unfold maxi;omega⟩
theorem apT {s t:List Str}(h:s.length<=1000000)(h':t.length<=1000000):apM s t=some (s++t):=ze5 (by simp[lim];omega)
theorem zhO (hto:zap o=true)(hta:zap a=true)(htb:zap b=true):(zaL o a b).length<=22 /\ ∀ p∈zaL o a b,p.Lines.length<=22000/\(∀ x∈p.Lines,zb8 x=true)/\zap p.Old=true/\zap p.One=true/\zap p.Two=true:=by
 have lo:=zan hto
 have la:=zan hta
 have lb:=zan htb
 have hP:=zkn (o:=o) (a:=a) (b:=b) (by omega) (by omega) (by omega)
 refine⟨Nat.le_trans hP.1 (by omega),fun p hp=>?_⟩
 obtain⟨h1,h2,h3,h4,h5,h6,h7⟩:=zik (P:=fun s=>zb8 s=true) (zaH hto) (zaH hta) (zaH htb) p hp
 have hl:=hP.2 p hp
 have mk: ∀ t:List Str,t.length<=10->(∀ s∈t,zb8 s=true)->zap t=true:=fun t h1 h2=>by
  unfold zap
  rw[aE (by omega)]
  simp only[Bool.not_false,Bool.true_and,List.all_eq_true]
  exact h2
 exact⟨by omega,h1,mk _ (by omega) h2,mk _ (by omega) h3,mk _ (by omega) h4⟩
end
def LB (n:Nat)(t:List Str):Prop:=t.length<=n /\ ∀ s∈t,s.length<=100
theorem LB.fit {n:Nat}{t:List Str}(h:LB n t)(hn:n<=1000000):Bk.fit t:=⟨by have:=h.1;unfold maxi;omega,fun s hs=>by have:=h.2 s hs;show s.length<=maxi;unfold maxi;omega⟩
theorem LB.mono {n m:Nat}{t:List Str}(h:LB n t)(hm:n<=m):LB m t:=⟨Nat.le_trans h.1 hm,h.2⟩
theorem zfq {α:Type}{f:α->Nat}{c:Nat}: ∀ {t:List α},(∀ s∈t,f s<=c)->sumB f t<=c*t.length
 | [],_=>by simp[sumB]
 |x::t,h=>by
  have h1:=h x (by simp)
  have h2:=zfq (t:=t) (fun s hs=>h s (by simp[hs]))
  simp only[sumB,aL,Nat.mul_add,Nat.mul_one]
  omega
theorem LB.bulk {n:Nat}{t:List Str}(h:LB n t):Bk.bulk t<=101*n:=by
 have h1:sumB Bk.bulk t<=100*t.length:=zfq (f:=fun s:Str=>s.length) (c:=100) (fun s hs=>h.2 s hs)
 have:=h.1
 rw[zr7]
 omega
section
variable {r:l30Rd}{p:Int}
end
section
variable {o a b:List Str}{xs:List Memo}
def zoY (l:List Part):List Part:=l.filter (·.Clash)
end
open Go Go.Sx Go.Proofs
theorem zaJ (a b:Str):Op.bytesLess a b=decide (a<b):=bytesLess_eq a b
theorem zjT (a b:Str):(decide (a<=b)||decide (b<=a))=true:=by
 rcases List.le_total a b with h |h<;>simp[h]
theorem zjU (a b c:Str):decide (a<=b)=true->decide (b<=c)=true->decide (a<=c)=true:=by
 simp only[decide_eq_true_eq]
 exact List.le_trans
theorem zaj (a:Str): ¬ a<a:=List.lt_irrefl a
theorem zaR {a b c:Str}:a<b->b<c->a<c:=List.lt_trans
theorem zbf {a b:Str}(h:a<=b)(hn:a≠b):a<b:=by
 rcases Decidable.em (a<b)with h1 |h1
 ·exact h1
 ·exact absurd (List.le_antisymm h (List.not_lt.1 h1)) hn
theorem zf0 {a b:Str}: ¬ a<b↔b<=a:=List.not_lt
def Asd (xs:List Str):Prop:=xs.Pairwise (· < ·)
theorem Asd.ext: ∀ {xs ys:List Str},Asd xs->Asd ys->(∀ a,a∈xs↔a∈ys)->xs=ys
 | [],[],_,_,_=>rfl
 | [],y::ys,_,_,h=>by have:=(h y).2 (by simp);simp at this
 |x::xs,[],_,_,h=>by have:=(h x).1 (by simp);simp at this
 |x::xs,y::ys,hx,hy,h=>by
  have hx':=List.pairwise_cons.1 hx
  have hy':=List.pairwise_cons.1 hy
  have e:x=y:=by
   rcases List.mem_cons.1 ((h x).1 (by simp))with e |hm
   ·exact e
   ·rcases List.mem_cons.1 ((h y).2 (by simp))with e |hm2
    ·exact e.symm
    ·exact absurd (zaR (hy'.1 x hm) (hx'.1 y hm2)) (zaj y)
  subst e
  have ht: ∀ a,a∈xs↔a∈ys:=fun a=>by
   constructor
   ·intro ha
    rcases List.mem_cons.1 ((h a).1 (List.mem_cons_of_mem _ ha))with e |hm
    ·exact absurd (by rw[e]at ha;exact hx'.1 x ha) (zaj x)
    ·exact hm
   ·intro ha
    rcases List.mem_cons.1 ((h a).2 (List.mem_cons_of_mem _ ha))with e |hm
    ·exact absurd (by rw[e]at ha;exact hy'.1 x ha) (zaj x)
    ·exact hm
  rw[Asd.ext hx'.2 hy'.2 ht]
theorem zkG (l:List Str):(zcg l).Pairwise (· <= ·):=by
 have:=List.pairwise_mergeSort (le:=fun x y:Str=>decide (x<=y)) zjU zjT l
 exact this.imp (by simp)
theorem zh2 {l:List Str}{a:Str}:a∈zcg l↔a∈l:=List.mem_mergeSort
theorem zgU: ∀ (l:List Str) (p:Option Str) (a:Str),a∈zcz p l\/some a=p↔a∈l\/some a=p
 | [],p,a=>by simp[zcz]
 |x::l,p,a=>by
  have ih:=zgU l (some x) a
  unfold zcz
  by_cases hp:p=some x
  ·rw[if_pos hp,hp]
   rw[ih]
   simp only[List.mem_cons,Option.some.injEq]
   constructor
   ·rintro(h |h)
    ·exact .inl (.inr h)
    ·exact .inr h
   ·rintro((h |h) |h)
    ·exact .inr h
    ·exact .inl h
    ·exact .inr h
  ·rw[if_neg hp]
   simp only[List.mem_cons,Option.some.injEq]at ih ⊢
   constructor
   ·rintro((h |h) |h)
    ·exact .inl (.inl h)
    ·rcases ih.1 (.inl h)with h2 |h2
     ·exact .inl (.inr h2)
     ·exact .inl (.inl h2)
    ·exact .inr h
   ·rintro((h |h) |h)
    ·exact .inl (.inl h)
    ·rcases ih.2 (.inl h)with h2 |h2
     ·exact .inl (.inr h2)
     ·exact .inl (.inl h2)
    ·exact .inr h
theorem zgj {l:List Str}{a:Str}:a∈zkL l↔a∈l:=by
 have:=zgU l none a
 simpa[zkL]using this
theorem zd1: ∀ (l:List Str) (p:Option Str),l.Pairwise (· <= ·)->(∀ q,p=some q -> ∀ a∈l,q<=a)->Asd (zcz p l) /\ ∀ q,p=some q -> ∀ a∈zcz p l,q<a
 | [],p,_,_=>by simp[zcz,Asd]
 |x::l,p,h,hp=>by
  have h':=List.pairwise_cons.1 h
  obtain⟨i1,i2⟩:=zd1 l (some x) h'.2 (fun q hq a ha=>by cases hq;exact h'.1 a ha)
  unfold zcz
  by_cases hpx:p=some x
  ·rw[if_pos hpx]
   exact⟨i1,fun q hq a ha=>by rw[hpx]at hq;exact i2 q hq a ha⟩
  ·rw[if_neg hpx]
   refine⟨List.pairwise_cons.2 ⟨fun a ha=>i2 x rfl a ha,i1⟩,fun q hq a ha=>?_⟩
   have hqx:q<x:=zbf (hp q hq x (by simp)) (fun e=>hpx (by rw[hq,e]))
   rcases List.mem_cons.1 ha with e |e
   ·rw[e];exact hqx
   ·exact zaR hqx (i2 x rfl a e)
def zfr (xs:List Str)(s:Str):List Str:=zkL (zcg (xs++[s]))
theorem zc9 (xs:List Str)(s:Str):Asd (zfr xs s):=(zd1 _ none (zkG _) (fun q hq=>by cases hq)).1
theorem insS_mem {xs:List Str}{s a:Str}:a∈zfr xs s↔a∈xs\/a=s:=by
 unfold zfr
 rw[zgj,zh2,List.mem_append,List.mem_singleton]
theorem zeP: ∀ (zs:List Str) (p:Option Str),(zcz p zs).length<=zs.length
 | [],p=>by simp[zcz]
 |x::l,p=>by
  have:=zeP l (some x)
  unfold zcz
  split<;>simp<;>omega
theorem zd3 (xs:List Str)(s:Str):(zfr xs s).length<=xs.length+1:=by
 have:=zeP (zcg (xs++[s])) none
 unfold zfr zkL
 have h2:(zcg (xs++[s])).length=(xs++[s]).length:=List.length_mergeSort _
 rw[h2]at this
 simpa using this
def zfR (c:UInt8):Bool:=(decide (97<=(c.toNat:Int))&&decide ((c.toNat:Int)<=122))||(decide (48<=(c.toNat:Int))&&decide ((c.toNat:Int)<=57))
def zaI (s:Str):Bool:=(decide (1<=(s.length:Int))&&decide ((s.length:Int)<=6))&&s.all zfR
theorem zhP (c:UInt8):zdN c=some (zfR c):=by
 unfold zdN zfR
 simp only[jn]
 cases decide (97<=(c.toNat:Int))<;>cases decide ((c.toNat:Int)<=122)<;>cases decide (48<=(c.toNat:Int))<;>cases decide ((c.toNat:Int)<=57)<;>rfl
theorem zdI (a b c:Int):zeu a b c=some (decide (b<=a)&&decide (a<=c)):=by
 unfold zeu
 simp only[jn]
 cases decide (b<=a)<;>rfl
theorem zeQ (a b c:Int):zec a b c=some (decide (b<=a)&&decide (a<=c)):=by
 unfold zec
 simp only[jn]
 cases decide (b<=a)<;>rfl
theorem zcc {s:Str}(h:s.length<=maxi):zcL s=some (zaI s):=by
 unfold zcL zaI
 simp only[jn,zal,zdI,aA]
 cases(decide (1<=(s.length:Int))&&decide ((s.length:Int)<=6))
 case false=>rfl
 simp only[aK,aC,Bool.true_and]
 rw[zaS (α:=UInt8) (xs:=s) (p:=zfR) (r0:=some false) (Z:=some true) (f:=fun m i=>zbY s (fun _ _=>some true) m false i) (fun m i x hx=>by
  simp only[zbY,jn,zam hx,zgF hx,aD,aA,zab (zaq hx) h,zhP]
  cases zfR x<;>rfl) (fun m=>by simp only[zbY,zad,aC]) (by omega)]
 cases s.all zfR<;>rfl
theorem zn5 (a b:Int):decide (a<b) = !decide (b<=a):=by
 by_cases h:a<b
 ·rw[aF h,aE (by omega)];rfl
 ·rw[aE h,aF (by omega)];rfl
theorem zcd {s:Str}(h:s.length<=maxi):zcJ s=some (zaI s):=by
 unfold zcJ zaI
 simp only[jn,zal,zeQ,aA]
 rw[zaS (α:=UInt8) (xs:=s) (p:=zfR) (r0:=some false) (Z:=some (decide (1<=(s.length:Int))&&decide ((s.length:Int)<=6))) (f:=fun m i=>zbU s (fun _ _=>some (decide (1<=(s.length:Int))&&decide ((s.length:Int)<=6))) m false i) (fun m i x hx=>by
  simp only[zbU,jn,zam hx,zgF hx,aD,aA,zab (zaq hx) h,zn5,zfR]
  cases decide (97<=(x.toNat:Int))<;>cases decide ((x.toNat:Int)<=122)<;>cases decide (48<=(x.toNat:Int))<;>cases decide ((x.toNat:Int)<=57)<;>rfl) (fun m=>by simp only[zbU,zad,aC]) (by omega)]
 cases s.all zfR<;>cases(decide (1<=(s.length:Int))&&decide ((s.length:Int)<=6))<;>rfl
def ahd (s:Str):List Str->Nat
 | []=>0
 |x::xs=>bif Op.bytesLess x s then ahd s xs+1 else 0
theorem zl4 (s:Str): ∀ xs,ahd s xs<=xs.length
 | []=>Nat.le_refl _
 |x::xs=>by
  have:=zl4 s xs
  unfold ahd
  cases Op.bytesLess x s
  ·simp
  ·simp only[aD,aL];omega
theorem zil (s:Str): ∀ (xs:List Str) x,x∈xs.take (ahd s xs)->x<s
 | [],x,h=>by simp at h
 |y::xs,x,h=>by
  unfold ahd at h
  cases hy:Op.bytesLess y s with
  |false=>rw[hy]at h;simp at h
  |true=>
   rw[hy,aD,List.take_succ_cons]at h
   rcases List.mem_cons.1 h with e |e
   ·rw[e];rw[zaJ]at hy;simpa using hy
   ·exact zil s xs x e
theorem zl5 (s:Str): ∀ (xs:List Str) x,xs[ahd s xs]? =some x->s<=x
 | [],x,h=>by simp at h
 |y::xs,x,h=>by
  unfold ahd at h
  cases hy:Op.bytesLess y s with
  |false=>
   rw[hy,aC]at h
   have e:y=x:=by simpa using h
   rw[<- e]
   rw[zaJ]at hy
   exact zf0.1 (by simpa using hy)
  |true=>
   rw[hy,aD]at h
   exact zl5 s xs x (by simpa using h)
theorem zn6 {xs:List Str}{s:Str}(hl:xs.length<=1000000){K:Int->Option (List Str)}: ∀ (n i m:Nat),i+n=xs.length->n<m->(∀ j,j<i -> ∃ x,xs[j]? =some x/\x<s)->zcn xs s K m (i:Int)=K ((i+ahd s (xs.drop i):Nat):Int)
 |n,i,0,_,hm,_=>by omega
 |0,i,m+1,hi,_,_=>by
  simp only[zcn,jn]
  rw[aE (by omega),aC,aC,List.drop_eq_nil_of_le (by omega)]
  rfl
 |n+1,i,m+1,hi,hm,hall=>by
  have hlt:i<xs.length:=by omega
  have hx:xs[i]? =some xs[i]:=aB hlt
  simp only[zcn,jn]
  rw[aF (by omega),aD,zac hx,aA,aI hlt]
  unfold ahd
  cases hb:Op.bytesLess xs[i] s with
  |false=>rw[aC,aC];rfl
  |true=>
   rw[aD,aD,zab hlt (by unfold maxi;omega)]
   rw[zn6 hl n (i+1) m (by omega) (by omega) (fun j hj=>by
    rcases Nat.lt_or_ge j i with h1 |h1
    ·exact hall j h1
    ·have:j=i:=by omega
     subst this
     exact⟨_,hx,by rw[zaJ]at hb;simpa using hb⟩)]
   congr 2
   omega
theorem ziR {xs:List Str}{s:Str}(hl:xs.length<=1000000)(ha:Asd xs):zdi xs s=some (zfr xs s):=by
 unfold zdi
 simp only[jn]
 have h1:=zn6 (s:=s) hl (K:=fun y1=>bif decide (y1< (xs.length:Int)) then(gi xs y1).bind fun u52=>bif u52==s then some xs else(slM xs 0 y1).bind fun q19=>(apM [] q19).bind fun q24=>(apM q24 [s]).bind fun q31=>(slM xs y1 (xs.length:Int)).bind fun q36=>(apM q31 q36).bind fun q41=>some q41
  else bif false then some xs else(slM xs 0 y1).bind fun q19=>(apM [] q19).bind fun q24=>(apM q24 [s]).bind fun q31=>(slM xs y1 (xs.length:Int)).bind fun q36=>(apM q31 q36).bind fun q41=>some q41) xs.length 0 (xs.length+1) (by omega) (by omega) (fun j hj=>by omega)
 have hk:=zl4 s xs
 simp only[Nat.zero_add,List.drop_zero]at h1
 refine h1.trans ?_
 -- the list with s in its place
 have hput:(slM xs 0 ((ahd s xs:Nat):Int)).bind (fun q19=>(apM [] q19).bind fun q24=>(apM q24 [s]).bind fun q31=>(slM xs ((ahd s xs:Nat):Int) (xs.length:Int)).bind fun q36=>(apM q31 q36).bind fun q41=>some q41)=some (xs.take (ahd s xs)++[s]++xs.drop (ahd s xs)):=by
  have hlt:(xs.take (ahd s xs)).length<=xs.length:=by simp;omega
  rw[zhb hk,aA,apN (by omega),aA,ap1 (by omega),aA,zkY hk,aA,ze5 (by simp[lim];omega),aA]
 have hmem: ∀ a,a∈xs.take (ahd s xs)++[s]++xs.drop (ahd s xs)↔a∈xs\/a=s:=fun a=>by
  have:a∈xs↔a∈xs.take (ahd s xs)\/a∈xs.drop (ahd s xs):=by rw[<- List.mem_append,List.take_append_drop]
  rw[this]
  simp only[List.mem_append,List.mem_singleton]
  constructor
  ·rintro((h |h) |h)
   ·exact .inl (.inl h)
   ·exact .inr h
   ·exact .inl (.inr h)
  ·rintro((h |h) |h)
   ·exact .inl (.inl h)
   ·exact .inr h
   ·exact .inl (.inr h)
 have hfin:(∀ x∈xs.drop (ahd s xs),s<x)->some (xs.take (ahd s xs)++[s]++xs.drop (ahd s xs))=some (zfr xs s):=by
  intro hd
  congr 1
  refine Asd.ext ?_ (zc9 _ _) (fun a=>by rw[hmem,insS_mem])
  have ha':=ha
  rw[<- List.take_append_drop (ahd s xs) xs]at ha'
  obtain⟨p1,p2,p3⟩:=List.pairwise_append.1 ha'
  refine List.pairwise_append.2 ⟨List.pairwise_append.2 ⟨p1,List.pairwise_singleton _ _,fun a h b hb=>?_⟩,p2,fun a h b hb=>?_⟩
  ·rw[List.mem_singleton]at hb;rw[hb];exact zil s xs a h
  ·rcases List.mem_append.1 h with h2 |h2
   ·exact p3 a h2 b hb
   ·rw[List.mem_singleton]at h2;rw[h2];exact hd b hb
 by_cases hlt:ahd s xs<xs.length
 ·have hx:xs[ahd s xs]? =some xs[ahd s xs]:=aB hlt
  have hge:=zl5 s xs _ hx
  rw[aF (by omega),aD,zac hx,aA]
  cases he:xs[ahd s xs]==s with
  |true=>
   have e:xs[ahd s xs]=s:=by simpa using he
   rw[aD]
   congr 1
   exact Asd.ext ha (zc9 _ _) (fun a=>by
    rw[insS_mem]
    constructor
    ·exact .inl
    ·rintro(h |h)
     ·exact h
     ·rw[h,<- e];exact List.getElem_mem hlt)
  |false=>
   have e:s≠xs[ahd s xs]:=fun e=>by rw[<- e]at he;simp at he
   rw[aC,hput]
   refine hfin (fun x hx2=>?_)
   rw[aI hlt]at hx2
   have hs1:s<xs[ahd s xs]:=zbf hge e
   rcases List.mem_cons.1 hx2 with h2 |h2
   ·rw[h2];exact hs1
   ·have hp:Asd (xs.drop (ahd s xs)):=List.Pairwise.sublist (List.drop_sublist _ _) ha
    rw[aI hlt]at hp
    exact zaR hs1 ((List.pairwise_cons.1 hp).1 x h2)
 ·rw[aE (by omega),aC,aC,hput]
  refine hfin (fun x hx2=>?_)
  rw[List.drop_eq_nil_of_le (by omega)]at hx2
  simp at hx2
def RB (n:Nat)(v:Review):Prop:=v.Branch.length<=4/\v.Into.length<=4/\v.By.length<=4/\LB n v.Yes
theorem RB.fit {n:Nat}{v:Review}(h:RB n v)(hn:n<=1000):Bk.fit v:=
 ⟨by have:=h.1;show v.Branch.length<=maxi;unfold maxi;omega,by have:=h.2.1;show v.Into.length<=maxi;unfold maxi;omega,by have:=h.2.2.1;show v.By.length<=maxi;unfold maxi;omega,h.2.2.2.fit (by omega)⟩
def curS (c:UInt8):Str->Str->List Str
 |w,[]=>[w]
 |w,x::r=>bif x==c then w::curS c [] r else curS c (w++[x]) r
def zdk (c:UInt8):Nat->Str->Str->List Str
 |_,w,[]=>[w]
 |0,w,x::r=>[w++x::r]
 |n+1,w,x::r=>bif x==c then w::zdk c n [] r else zdk c (n+1) (w++[x]) r
theorem zim (c:UInt8): ∀ (r w:Str),1<=(curS c w r).length
 | [],w=>by simp[curS]
 |x::r,w=>by
  unfold curS
  cases x==c
  ·exact zim c r _
  ·simp
theorem zdx (c:UInt8)(w r:Str):zdk c 0 w r=[w++r]:=by
 cases r<;>simp[zdk]
theorem zcs (c:UInt8): ∀ (r:Str) (n:Nat) (w:Str),(curS c w r).length<=n+1->zdk c n w r=curS c w r
 | [],n,w,h=>by cases n<;>simp[zdk,curS]
 |x::r,0,w,h=>by
  unfold curS at h ⊢
  cases hx:x==c with
  |true=>
   rw[hx,aD]at h
   have:=zim c r []
   rw[aL]at h
   omega
  |false=>
   rw[hx,aC]at h
   have ih:=zcs c r 0 (w++[x]) h
   rw[aC,<- ih,zdx,zdx]
   simp
 |x::r,n+1,w,h=>by
  unfold curS at h ⊢
  unfold zdk
  cases hx:x==c with
  |true=>
   rw[hx,aD,aL]at h
   rw[aD,aD,zcs c r n [] (by omega)]
  |false=>
   rw[hx,aC]at h
   rw[aC,aC,zcs c r (n+1) _ h]
theorem zdy (c:UInt8): ∀ (r:Str) (n:Nat) (w:Str),n+1<=(curS c w r).length->(zdk c n w r).length=n+1
 | [],n,w,h=>by
  simp[curS]at h
  subst h
  simp[zdk]
 |x::r,0,w,h=>by simp[zdk]
 |x::r,n+1,w,h=>by
  unfold curS at h
  unfold zdk
  cases hx:x==c with
  |true=>
   rw[hx,aD,aL]at h
   rw[aD,aL,zdy c r n [] (by omega)]
  |false=>
   rw[hx,aC]at h
   rw[aC,zdy c r (n+1) _ h]
theorem ziW {c:UInt8}{w:Str}(h:c∉w):Lib.index w [c] = -1:=Lib.index_none fun j hj=>by
 cases ho:Lib.occAt w [c] j with
 |false=>rfl
 |true=>exact absurd (aH (Lib.occAt_head rfl ho)) h
theorem zko {c:UInt8}{w r:Str}(h:c∉w):Lib.index (w++c::r) [c]=((w.length:Nat):Int):=Lib.index_first (by simp) (by simp[Lib.occAt,List.isPrefixOf]) fun j hj=>by
 cases ho:Lib.occAt (w++c::r) [c] j with
 |false=>rfl
 |true=>
  have:=Lib.occAt_head rfl ho
  rw[aM hj]at this
  exact absurd (aH this) h
theorem zeR (c:UInt8): ∀ (r w:Str),c∉w->Lib.split (w++r) [c]=curS c w r
 | [],w,h=>by
  unfold Lib.split curS
  rw[List.append_nil,Lib.count_miss (ziW h)]
  rfl
 |x::r,w,h=>by
  unfold curS
  cases hx:x==c with
  |true=>
   have e:x=c:=by simpa using hx
   subst e
   have hi:=zko (r:=r) h
   rw[aD]
   have ih:=zeR x r [] (by simp)
   unfold Lib.split at ih ⊢
   have hd:(w++x::r).drop (w.length+1)=r:=by
    rw[show w++x::r=(w++[x])++r by simp,List.drop_left' (by simp)]
   have hc:Lib.count (w++x::r) [x]=Lib.count r [x]+1:=by
    rw[Lib.count_hit (by simp) hi]
    show 1+Lib.count ((w++x::r).drop (w.length+1)) [x]=_
    rw[hd]
    omega
   rw[hc]
   unfold Lib.splitK
   rw[if_neg (by rw[hi];simp),hi]
   have e1:(w++x::r).take (((w.length:Nat):Int).toNat+0)=w:=by simp
   have e2:(w++x::r).drop (((w.length:Nat):Int).toNat+[x].length)=r:=hd
   rw[e1,e2]
   simp only[List.nil_append]at ih
   rw[ih]
  |false=>
   have hne:x≠c:=by simpa using hx
   rw[aC,show w++x::r=(w++[x])++r by simp]
   exact zeR c r (w++[x]) (by
    rw[List.mem_append,List.mem_singleton]
    rintro(h1 |h1)
    ·exact h h1
    ·exact hne h1.symm)
theorem zli (c:UInt8)(s:Str):Lib.split s [c]=curS c [] s:=zeR c s [] (by simp)
theorem zjV (u c:UInt8):(((UInt8.toNat u:Nat):Int)==((UInt8.toNat c:Nat):Int))=(u==c):=by
 have: ∀ b c:Bool,(b=true↔c=true)->b=c:=by decide
 apply this
 rw[beq_iff_eq,beq_iff_eq,<- UInt8.toNat_inj]
 omega
theorem zjW {s:Str}{c:UInt8}{most:Nat}(hs:s.length<=1048576)(hm:most<=1000): ∀ (n:Nat) (out:List Str) (from_ i m:Nat),i+n=s.length->n<m->from_<=i->out.length<=most->
 zdM s c (most:Int) (fun y3 y6 y7=>(slM s y6 (s.length:Int)).bind fun q38=>(apM y3 [q38]).bind fun q43=>some q43) m out (from_:Int) (i:Int)=some (out++zdk c (most-out.length) ((s.take i).drop from_) (s.drop i))
 |n,out,f,i,0,_,hm,_,_=>by omega
 |n,out,f,i,m+1,hi,hn,hf,ho=>by
  have hdone:(slM s (f:Int) (s.length:Int)).bind (fun q38=>(apM out [q38]).bind fun q43=>some q43)=some (out++[s.drop f]):=by
   rw[zkY (by omega),aA,ap1 (by omega),aA]
  have hw:(s.take i).drop f++s.drop i=s.drop f:=by
   rw[<- List.drop_append_of_le_length (by simp;omega),List.take_append_drop]
  simp only[zdM,jn]
  by_cases h1:(i:Int)< (s.length:Int)
  case neg=>
   rw[aE h1,aC,aC,hdone]
   have:s.drop i=[]:=List.drop_eq_nil_of_le (by omega)
   rw[this]at hw ⊢
   rw[List.append_nil]at hw
   rw[hw]
   cases most-out.length<;>simp[zdk]
  rw[aF h1,aD]
  have hlt:i<s.length:=by omega
  have hx:s[i]? =some s[i]:=aB hlt
  by_cases h2:(out.length:Int)< (most:Int)
  case neg=>
   rw[aE h2,aC,hdone]
   have:most-out.length=0:=by omega
   rw[this,zdx,hw]
  obtain⟨n,rfl⟩: ∃ k,n=k+1:=⟨n-1,by omega⟩
  obtain⟨k,hk⟩: ∃ k,most-out.length=k+1:=⟨most-out.length-1,by omega⟩
  rw[aF h2,aD,zgF hx,aA,zjV,hk,aI hlt]
  unfold zdk
  cases hb:s[i]==c with
  |true=>
   rw[aD,aD,zeF (by omega) (by omega) (by omega),aA,ap1 (by omega),aA,zab hlt (by unfold maxi;omega),zjW hs hm n _ (i+1) (i+1) m (by omega) (by omega) (by omega) (by simp;omega)]
   have e1:most-(out++[((s.take ((i:Nat):Int).toNat)).drop ((f:Nat):Int).toNat]).length=k:=by simp;omega
   have e2:(s.take (i+1)).drop (i+1)=[]:=List.drop_eq_nil_of_le (by simp;omega)
   rw[e1,e2]
   simp
  |false=>
   rw[aC,aC,zab hlt (by unfold maxi;omega),zjW hs hm n _ f (i+1) m (by omega) (by omega) (by omega) ho,hk]
   have e2:(s.take (i+1)).drop f=(s.take i).drop f++[s[i]]:=by
    rw[List.take_add_one,hx]
    rw[List.drop_append_of_le_length (by simp;omega)]
    rfl
   rw[e2]
theorem zlj {s:Str}{c:UInt8}{most:Nat}(hs:s.length<=1048576)(hm:most<=1000):zgk s c (most:Int)=some (zdk c most [] s):=by
 unfold zgk
 simp only[jn]
 have:=zjW (c:=c) (most:=most) hs hm s.length [] 0 0 (s.length+1) (by omega) (by omega) (Nat.le_refl _) (by simp)
 simpa using this
def zaX (s:Str):Bool:=decide ((curS 47 [] s).length<=3)&&(curS 47 [] s).all zaI
theorem zf1 (c:UInt8): ∀ (r w:Str),∀ p∈curS c w r,p.length<=w.length+r.length
 | [],w,p,h=>by simp[curS]at h;rw[h];omega
 |x::r,w,p,h=>by
  unfold curS at h
  cases hx:x==c with
  |true=>
   rw[hx,aD]at h
   rcases List.mem_cons.1 h with e |e
   ·rw[e];omega
   ·have:=zf1 c r [] p e
    simp at this ⊢
    omega
  |false=>
   rw[hx,aC]at h
   have:=zf1 c r (w++[x]) p h
   simp at this ⊢
   omega
theorem zeA (c:UInt8): ∀ (r w:Str),(curS c w r).length<=r.length+1
 | [],w=>by simp[curS]
 |x::r,w=>by
  unfold curS
  cases x==c
  ·have:=zeA c r (w++[x]);simp at this ⊢;omega
  ·have:=zeA c r [];simp at this ⊢;omega
theorem zbB {s:Str}(h:s.length<=1048576):zdT s=some (zaX s):=by
 unfold zdT strings_Split zaX
 rw[if_pos ⟨by omega,by simp⟩,aA,zli]
 have hl:=zeA 47 s []
 by_cases h3:(3:Int)< ((curS 47 [] s).length:Int)
 ·rw[aF h3,aD,aE (by omega)];rfl
 rw[aE h3,aC,aF (by omega),Bool.true_and]
 simp only[jn,zal]
 rw[zaS (α:=Str) (xs:=curS 47 [] s) (p:=zaI) (r0:=some false) (Z:=some true) (f:=fun m i=>zb1 (curS 47 [] s) (fun _ _=>some true) m false i) (fun m i x hx=>by
  have hf:=zf1 47 s [] x (aH hx)
  simp only[zb1,zam hx,zac hx,aD,aA,zab (zaq hx) (show(curS 47 [] s).length<=maxi by unfold maxi;omega),zcc (show x.length<=maxi by unfold maxi;simp at hf;omega)]
  cases zaI x<;>rfl) (fun m=>by simp only[zb1,zad,aC]) (by omega)]
 cases(curS 47 [] s).all zaI<;>rfl
theorem zfO (c:UInt8): ∀ (r:Str) (n:Nat) (w:Str),∀ p∈zdk c n w r,p.length<=w.length+r.length
 | [],n,w,p,h=>by cases n<;>simp[zdk]at h<;>rw[h]<;>omega
 |x::r,0,w,p,h=>by simp[zdk]at h;rw[h];simp
 |x::r,n+1,w,p,h=>by
  unfold zdk at h
  cases hx:x==c with
  |true=>
   rw[hx,aD]at h
   rcases List.mem_cons.1 h with e |e
   ·rw[e];omega
   ·have:=zfO c r n [] p e
    simp at this ⊢
    omega
  |false=>
   rw[hx,aC]at h
   have:=zfO c r (n+1) (w++[x]) p h
   simp at this ⊢
   omega
theorem zgV {s:Str}(h:s.length<=1048576):zdC s=some (zaX s):=by
 unfold zdC zaX
 have e47:(UInt8.ofNatLT 47 (by decide):UInt8)=47:=by decide
 have hc:=zlj (c:=UInt8.ofNatLT 47 (by decide)) (most:=3) h (by omega)
 rw[show(3:Int)=((3:Nat):Int) from rfl,hc,aA,e47]
 simp only[jn,zal]
 have hlen:(zdk 47 3 [] s).length<=maxi:=by
  rcases Nat.lt_or_ge (curS 47 [] s).length 4 with h1 |h1
  ·rw[zcs 47 s 3 [] (by omega)];unfold maxi;omega
  ·rw[zdy 47 s 3 [] h1];unfold maxi;omega
 rw[zaS (α:=Str) (xs:=zdk 47 3 [] s) (p:=zaI) (r0:=some false) (Z:=some (decide (((zdk 47 3 [] s).length:Int)<=((3:Nat):Int)))) (f:=fun m i=>zbV (zdk 47 3 [] s) (fun _ _=>some (decide (((zdk 47 3 [] s).length:Int)<=((3:Nat):Int)))) m false i) (fun m i x hx=>by
  have hf:=zfO 47 s 3 [] x (aH hx)
  simp only[zbV,zam hx,zac hx,aD,aA,zab (zaq hx) hlen,zcd (show x.length<=maxi by unfold maxi;simp at hf;omega)]
  cases zaI x<;>rfl) (fun m=>by simp only[zbV,zad,aC]) (by omega)]
 rcases Nat.lt_or_ge (curS 47 [] s).length 4 with h1 |h1
 ·rw[zcs 47 s 3 [] (by omega),aF (show((curS 47 [] s).length:Int)<=((3:Nat):Int) by omega),aF (show(curS 47 [] s).length<=3 by omega)]
  cases(curS 47 [] s).all zaI<;>rfl
 ·rw[zdy 47 s 3 [] h1,aE (show ¬ (curS 47 [] s).length<=3 by omega)]
  cases(zdk 47 3 [] s).all zaI<;>rfl
theorem zfP (a b:Str):(Op.bytesLess a b||a==b) = !Op.bytesLess b a:=by
 rw[zaJ,zaJ]
 by_cases h:b<a
 ·have h1: ¬ a<b:=fun h2=>zaj a (zaR h2 h)
  have h2: ¬ a=b:=fun e=>by rw[e]at h;exact zaj b h
  simp[h,h1,h2]
 ·by_cases e:a=b
  ·simp[h,e]
  ·have:=zbf (zf0.1 h) e
   simp[h,this]
def OB (xs:List Owner):Prop:=xs.length<=1048576 /\ ∀ x∈xs,x.Path.length<=1048576/\x.Who.length<=1048576
theorem OB.of {xs:List Owner}(h:Bk.bulk xs<=1048576):OB xs:=⟨zch h,fun x hx=>by
 have h1:Bk.bulk x<=1048576:=zfQ h hx
 have h2:Bk.bulk x=x.Path.length+x.Who.length:=rfl
 omega⟩
theorem OB.at_ {xs:List Owner}(h:OB xs){i:Nat}{x:Owner}(hx:xs[i]? =some x):x.Path.length<=1048576/\x.Who.length<=1048576:=h.2 x (aH hx)
def za5 (d p:Str):Bool:=(d++[47]).isPrefixOf p
theorem ziX {d p:Str}(hd:d.length<=1048576)(hp:p.length<=1048576)(h1:zaX d=true)(h2:zaX p=true):zby d p=some (za5 d p):=by
 unfold zby strings_HasPrefix za5
 have hs:saM d ([47]:Str)=some (d++[47]):=by
  unfold saM
  rw[if_pos]
  simp only[aL,List.length_nil,lim]
  omega
 simp only[jn,zbB hd,zbB hp,h1,h2,aA,aD,hs,Lib.hasPrefix]
theorem zeS {c:UInt8}: ∀ {d p:Str},(d++[c]).isPrefixOf p=(p.take d.length==d&&p[d.length]? ==some c)
 | [],[]=>by simp
 | [],x::p=>by
  by_cases e:c=x
  ·subst e;simp[List.isPrefixOf]
  ·have e1:(c==x)=false:=beq_false_of_ne e
   have e2:((some x:Option UInt8)==some c)=false:=beq_false_of_ne (fun h=>e (Option.some.inj h).symm)
   simp only[List.nil_append,List.isPrefixOf,e1,List.length_nil,List.take_zero,List.getElem?_cons_zero,e2,Bool.false_and,Bool.and_false]
 |y::d,[]=>by simp[List.isPrefixOf]
 |y::d,x::p=>by
  have ih:=zeS (c:=c) (d:=d) (p:=p)
  simp only[List.cons_append,List.isPrefixOf,aL,List.take_succ_cons,List.getElem?_cons_succ,ih]
  by_cases e:y=x
  ·subst e
   simp
  ·have e1:(y==x)=false:=beq_false_of_ne e
   have e2:(x==y)=false:=beq_false_of_ne (fun h=>e h.symm)
   simp[e1,e2]
theorem zlK {d p:Str}(hp:p.length<=1048576):zgY d p=some (za5 d p):=by
 unfold zgY za5
 simp only[jn]
 rw[zeS]
 by_cases hl:(d.length:Int)< (p.length:Int)
 ·have hlt:d.length<p.length:=by omega
  have hx:p[d.length]? =some p[d.length]:=aB hlt
  rw[aF hl,aD,zhb (by omega),aA,hx]
  cases p.take d.length==d with
  |false=>rfl
  |true=>
   rw[aD,zgF hx,aA,Bool.true_and]
   congr 1
   have:=(show ∀ u:UInt8,(((UInt8.toNat u:Nat):Int)==(47:Int))=(some u==some (47:UInt8)) from fun u=>by
    have hb:=zjV u 47
    rw[show(((UInt8.toNat (47:UInt8):Nat):Int))=47 from rfl]at hb
    rw[hb]
    simp)
   exact this _
 ·rw[aE hl,aC,List.getElem?_eq_none (by omega)]
  simp
structure OpFit (o:Op):Prop where
 fit:Bk.fit o
 path:o.Path.length<=1048576
 to:o.To.length<=1048576
 text:Bk.bulk o.Text<=1048576
theorem OpFit.of {o:Op}(h:Bk.fit o)(hb:Bk.bulk o<=1048576):OpFit o:=by
 have e:Bk.bulk o=Bk.bulk o.Kind+(Bk.bulk o.Branch+(Bk.bulk o.Who+(Bk.bulk o.Path+(Bk.bulk o.To+(Bk.bulk o.At+Bk.bulk o.Text))))):=rfl
 have e1:Bk.bulk o.Path=o.Path.length:=rfl
 have e2:Bk.bulk o.To=o.To.length:=rfl
 exact⟨h,by omega,by omega,by omega⟩
theorem zd4: ∀ {b c:Bool},(b=true↔c=true)->b=c:=by decide
theorem zji {i n:Nat}(hi:i<n)(hn:n<=maxi)(h0:(0:Int)< (i:Int)):w64 ((i:Int)-1)=((i-1:Nat):Int):=by
 rw[zah (by omega) (by unfold maxi at hn;omega)];omega
structure FB (f:File):Prop where
 path:f.Path.length<=1048576
 len:f.Text.length<=1048576
 text:Bk.fit f.Text
def TB (t:List File):Prop:=t.length<=1048576 /\ ∀ f∈t,FB f
theorem TB.at_ {t:List File}(h:TB t){i:Nat}{f:File}(hf:t[i]? =some f):FB f:=h.2 f (aH hf)
theorem TB.maxi {t:List File}(h:TB t):t.length<=maxi:=zak h.1
theorem TB.nil:TB []:=⟨by simp,fun f hf=>by simp at hf⟩
def zci:File:=⟨[],[]⟩
theorem zbo {t:List File}{i:Nat}{f:File}(h:t[i]? =some f):t.getD i zci=f:=by simp[List.getD,h]
theorem zin {t:List File}{i:Nat}{f:File}(h:t[i]? =some f)(hl:t.length<=maxi)(h0:(0:Int)< (i:Int)): ∃ y,gi t (w64 ((i:Int)-1))=some y/\t.getD (i-1) zci=y:=by
 have hi:=zaq h
 have hx:t[i-1]? =some t[i-1]:=aB (by omega)
 exact⟨_,by rw[zji hi hl h0];exact zac hx,zbo hx⟩
def zfd (t:List File)(i:Nat):Bool:=zaX (t.getD i zci).Path&&(zap (t.getD i zci).Text&&(bif decide (0< (i:Int)) then Op.bytesLess (t.getD (i-1) zci).Path (t.getD i zci).Path else true))
def zfe (t:List File)(i:Nat):Bool:=zfd t i&&t.all fun f=> !za5 (t.getD i zci).Path f.Path
def zhQ (t:List File)(i:Nat):Bool:=zfd t i&&(t.take i).all fun f=> !(zaX f.Path&&(zaX (t.getD i zci).Path&&za5 f.Path (t.getD i zci).Path))
def zaA (t:List File):Bool:=decide ((t.length:Int)<=8)&&zfs (zfe t) 0 t.length
theorem zmE (d:Str)(x:UInt8)(r:Str):d<d++x::r:=by
 induction d with
 |nil=>exact List.nil_lt_cons _ _
 |cons a d ih=>exact List.cons_lt_cons_self.2 ih
theorem zlk {d p:Str}(h:za5 d p=true):d<p:=by
 unfold za5 at h
 obtain⟨t,rfl⟩:=List.isPrefixOf_iff_prefix.1 h
 rw[List.append_assoc]
 exact zmE d 47 t
theorem ziY {t:List File}{n:Nat}(h: ∀ i,i<n->zfd t i=true){i j:Nat}(hij:i<j)(hj:j<n):(t.getD i zci).Path< (t.getD j zci).Path:=by
 induction j with
 |zero=>omega
 |succ j ih=>
  have h1:=h (j+1) hj
  unfold zfd at h1
  rw[aF (by omega),aD,Nat.add_sub_cancel]at h1
  simp only[aG,zaJ,decide_eq_true_eq]at h1
  rcases Nat.lt_or_ge i j with h2 |h2
  ·exact zaR (ih h2 (by omega)) h1.2.2
  ·have:i=j:=by omega
   subst this
   exact h1.2.2
theorem ziZ (t:List File):zfs (zhQ t) 0 t.length=zfs (zfe t) 0 t.length:=by
 apply zd4
 rw[zaV,zaV]
 constructor
 ·intro h
  have hf: ∀ i,i<t.length->zfd t i=true:=fun i hi=>by
   have:=h i (Nat.zero_le _) (by omega)
   unfold zhQ at this
   simp only[aG]at this
   exact this.1
  intro i _ hi
  have hi':i<t.length:=by omega
  unfold zfe
  rw[hf i hi',Bool.true_and,List.all_eq_true]
  intro f hm
  obtain⟨k,hk⟩:=List.mem_iff_getElem?.1 hm
  have hkl:=zaq hk
  cases hb:za5 (t.getD i zci).Path f.Path with
  |false=>rfl
  |true=>
   exfalso
   have hlt:=zlk hb
   rcases Nat.lt_trichotomy i k with h1 |h1 |h1
   ·have:=h k (Nat.zero_le _) (by omega)
    unfold zhQ at this
    simp only[aG,List.all_eq_true]at this
    have h2:=this.2 t[i] (aH (i:=i) (by rw[List.getElem?_take_of_lt h1];exact aB hi'))
    have p1:=hf i hi'
    have p2:=hf k hkl
    unfold zfd at p1 p2
    simp only[aG]at p1 p2
    rw[zbo hk]at h2 p2
    rw[zbo (aB hi')]at hb p1
    rw[p1.1,p2.1,hb]at h2
    simp at h2
   ·subst h1
    rw[zbo hk]at hlt
    exact zaj _ hlt
   ·have:=ziY hf h1 hi'
    rw[zbo hk]at this
    exact zaj _ (zaR hlt this)
 ·intro h i _ hi
  have hi':i<t.length:=by omega
  have h1:=h i (Nat.zero_le _) hi
  unfold zfe at h1
  simp only[aG]at h1
  unfold zhQ
  rw[h1.1,Bool.true_and,List.all_eq_true]
  intro f hm
  obtain⟨k,hk⟩:=List.mem_iff_getElem?.1 hm
  obtain⟨hk',hki⟩:=show t[k]? =some f/\k<i from by
   rw[List.getElem?_take]at hk
   split at hk
   ·exact⟨hk,by assumption⟩
   ·cases hk
  have h2:=h k (Nat.zero_le _) (by omega)
  unfold zfe at h2
  simp only[aG,List.all_eq_true]at h2
  have h3:=h2.2 t[i] (List.getElem_mem hi')
  rw[zbo hk']at h3
  rw[zbo (aB hi')]
  have h4:za5 f.Path t[i].Path=false:=by simpa using h3
  rw[h4]
  simp
theorem zkH {t:List File}(h:TB t):zgZ t=some (zaA t):=by
 have hm:=h.maxi
 unfold zgZ zaA
 simp only[jn,zal]
 rw[zbt (n:=t.length) (g:=zfe t) (r0:=some false) (Z:=some (decide ((t.length:Int)<=8))) (f:=fun m i=>zc4 t (fun _ _=>some (decide ((t.length:Int)<=8))) m false i) (fun m i hi=>by
  have hx:t[i]? =some t[i]:=aB hi
  have fx:=h.at_ hx
  simp only[zc4,jn,zam hx,zac hx,aD,aA,zab hi hm,zgV fx.path,zh5 fx.text]
  unfold zfe zfd
  rw[zbo hx]
  have hin: ∀ K:Bool->Int->Option Bool,zbN t (i:Int) K (t.length+1) false 0=bif t.all (fun f=> !za5 t[i].Path f.Path) then K false (t.length:Int) else some false:=fun K=>by
   rw[zaS (α:=File) (xs:=t) (p:=fun f=> !za5 t[i].Path f.Path) (r0:=some false) (Z:=K false (t.length:Int)) (f:=fun m k=>zbN t (i:Int) K m false k) (fun m k f hf=>by
    simp only[zbN,zam hf,zac hf,zac hx,aD,aA,zab (zaq hf) hm,zlK (h.at_ hf).path]
    cases za5 t[i].Path f.Path<;>rfl) (fun m=>by simp only[zbN,zad,aC]) (by omega)]
  cases zaX t[i].Path
  ·rfl
  cases zap t[i].Text
  ·rfl
  simp only[aK,aC,Bool.true_and]
  by_cases h0:(0:Int)< (i:Int)
  ·obtain⟨y,hy,ey⟩:=zin hx hm h0
   rw[hy,ey,aF h0]
   simp only[aA,zfP,aD]
   cases Op.bytesLess y.Path t[i].Path
   ·rfl
   ·simp only[aK,aC,Bool.true_and,zal,hin]
  ·rw[aE h0]
   simp only[aC,Bool.true_and,zal,hin]) (fun m=>by simp only[zc4,zad,aC]) _ (by omega)]
 cases decide ((t.length:Int)<=8)<;>cases zfs (zfe t) 0 t.length<;>rfl
theorem zi0 {d p:Str}(hd:d.length<=1048576)(hp:p.length<=1048576):zby d p=some (zaX d&&(zaX p&&za5 d p)):=by
 cases h1:zaX d with
 |false=>unfold zby;simp only[jn,zbB hd,h1,aA,aC,Bool.false_and]
 |true=>
  cases h2:zaX p with
  |false=>unfold zby;simp only[jn,zbB hd,zbB hp,h1,h2,aA,aC,aD,Bool.false_and,Bool.and_false]
  |true=>rw[ziX hd hp h1 h2];rfl
theorem zcH {t:List File}(h:TB t):zcl t=some (zaA t):=by
 have hm:=h.maxi
 unfold zcl zaA
 by_cases h8:(8:Int)< (t.length:Int)
 ·rw[aF h8,aE (by omega)];rfl
 rw[aE h8,aF (by omega),aC,Bool.true_and,<- ziZ]
 simp only[jn,zal]
 rw[zbt (n:=t.length) (g:=zhQ t) (r0:=some false) (Z:=some true) (f:=fun m i=>zb2 t (fun _ _=>some true) m false i) (fun m i hi=>by
  have hx:t[i]? =some t[i]:=aB hi
  have fx:=h.at_ hx
  simp only[zb2,jn,zam hx,zac hx,aD,aA,zab hi hm,zbB fx.path,zdd fx.text,zhb (Nat.le_of_lt hi),zal]
  unfold zhQ zfd
  rw[zbo hx]
  have hin: ∀ K:Bool->Int->Option Bool,zbi t[i] (t.take i) K ((t.take i).length+1) false 0=bif(t.take i).all (fun f=> !(zaX f.Path&&(zaX t[i].Path&&za5 f.Path t[i].Path))) then K false ((t.take i).length:Int) else some false:=fun K=>by
   rw[zaS (α:=File) (xs:=t.take i) (p:=fun f=> !(zaX f.Path&&(zaX t[i].Path&&za5 f.Path t[i].Path))) (r0:=some false) (Z:=K false ((t.take i).length:Int)) (f:=fun m k=>zbi t[i] (t.take i) K m false k) (fun m k f hf=>by
    have hf2:FB f:=h.2 f (List.mem_of_mem_take (aH hf))
    simp only[zbi,zam hf,zac hf,aD,aA,zab (zaq hf) (show(t.take i).length<=maxi by simp;omega),zi0 hf2.path fx.path]
    cases(zaX f.Path&&(zaX t[i].Path&&za5 f.Path t[i].Path))<;>rfl) (fun m=>by simp only[zbi,zad,aC]) (by omega)]
  cases zap t[i].Text
  ·cases zaX t[i].Path<;>rfl
  cases hp:zaX t[i].Path
  ·rfl
  simp only[aK,aC,Bool.true_and]
  by_cases h0:(0:Int)< (i:Int)
  ·obtain⟨y,hy,ey⟩:=zin hx hm h0
   rw[hy,ey,aF h0]
   simp only[aA,aD]
   cases Op.bytesLess y.Path t[i].Path
   ·rfl
   ·simp only[aK,aC,Bool.true_and,zal,hin,hp]
  ·rw[aE h0]
   simp only[aC,Bool.true_and,zal,hin,hp]) (fun m=>by simp only[zb2,zad,aC]) _ (by omega)]
 cases zfs (zhQ t) 0 t.length<;>rfl
structure CB (c:Commit):Prop where
 par:c.Parents.length<=1048576
 who:c.Who.length<=1048576
 tree:TB c.Tree
structure RpB (r:Repo):Prop where
 coms:r.Commits.length<=1048576
 com: ∀ c∈r.Commits,CB c
 heads:r.Heads.length<=1048576
 head: ∀ h∈r.Heads,h.Name.length<=1048576
theorem RpB.cat {r:Repo}(h:RpB r){i:Nat}{c:Commit}(hc:r.Commits[i]? =some c):CB c:=h.com c (aH hc)
theorem RpB.hat {r:Repo}(h:RpB r){i:Nat}{c:Head}(hc:r.Heads[i]? =some c):c.Name.length<=1048576:=h.head c (aH hc)
def zdR:Head:=⟨[],0⟩
theorem zbA {t:List Head}{i:Nat}{f:Head}(h:t[i]? =some f):t.getD i zdR=f:=by simp[List.getD,h]
theorem zio {t:List Head}{i:Nat}{f:Head}(h:t[i]? =some f)(hl:t.length<=maxi)(h0:(0:Int)< (i:Int)): ∃ y,gi t (w64 ((i:Int)-1))=some y/\t.getD (i-1) zdR=y:=by
 have hi:=zaq h
 have hx:t[i-1]? =some t[i-1]:=aB (by omega)
 exact⟨_,by rw[zji hi hl h0];exact zac hx,zbA hx⟩
def upB (i p:Int):Bool:=decide (0<=p)&&decide (p<=i-1)
def zl6 (ps:List Int):Bool:=match ps with
 | [p,q]=> !(p==q)
 |_=>true
def zjr (i:Int)(c:Commit):Bool:=c.Parents.all (upB i)&&(decide ((c.Parents.length:Int)<=2)&&(zl6 c.Parents&&(zaI c.Who&&zaA c.Tree)))
def noCommit:Commit:=⟨[],[],[]⟩
def zkI (cs:List Commit):Bool:=zfs (fun i=>zjr i (cs.getD i noCommit)) 0 cs.length
def zfc (n:Nat)(hs:List Head)(i:Nat):Bool:=zaI (hs.getD i zdR).Name&&(upB n (hs.getD i zdR).At&&(bif decide (0< (i:Int)) then Op.bytesLess (hs.getD (i-1) zdR).Name (hs.getD i zdR).Name else true))
def zcu (n:Nat)(hs:List Head):Bool:=zfs (zfc n hs) 0 hs.length&&decide ((hs.length:Int)<=5)
def zaf (r:Repo):Bool:=decide ((r.Commits.length:Int)<=16)&&(zkI r.Commits&&zcu r.Commits.length r.Heads)
theorem zdn {t:List Commit}{i:Nat}{f:Commit}(h:t[i]? =some f):t.getD i noCommit=f:=by simp[List.getD,h]
theorem zd7 {n:Nat}(hn:n<=maxi):w64 ((n:Int)-1)=(n:Int)-1:=zah (by omega) (by unfold maxi at hn;omega)
def zmF (i:Int)(ps:List Int)(k:Nat):Bool:=upB i (ps.getD k 0) && !(decide (0< (k:Int))&&(ps.getD k 0==ps.getD 0 0))
theorem zck {t:List Int}{i:Nat}{f:Int}(h:t[i]? =some f):t.getD i 0=f:=by simp[List.getD,h]
theorem zjX (i:Int)(ps:List Int)(h2:(ps.length:Int)<=2):zfs (zmF i ps) 0 ps.length=(ps.all (upB i)&&zl6 ps):=by
 match ps,h2 with
 | [],_=>rfl
 | [p],_=>simp[zfs,zmF,zl6]
 | [p,q],_=>
  simp only[zfs,zmF,zl6,aL,List.length_nil,List.all_cons,List.all_nil]
  have e:(q==p)=(p==q):=by
   apply zd4;rw[beq_iff_eq,beq_iff_eq];exact eq_comm
  simp[e]
  cases upB i p<;>cases upB i q<;>simp
 |p::q::s::l,h=>simp at h;omega
theorem zqt {i:Nat}{c:Commit}(hi:i<=1048576)(hc:CB c)(K:Bool->Int->Option Bool):zbO (i:Int) c K (c.Parents.length+1) false 0=bif zfs (zmF i c.Parents) 0 c.Parents.length then K false (c.Parents.length:Int) else some false:=by
 have hm:=zak hc.par
 rw[zbt (n:=c.Parents.length) (g:=zmF i c.Parents) (r0:=some false) (Z:=K false (c.Parents.length:Int)) (f:=fun m k=>zbO (i:Int) c K m false k) (fun m k hk=>by
  have hx:c.Parents[k]? =some c.Parents[k]:=aB hk
  have h00:c.Parents[0]? =some c.Parents[0]:=aB (by omega)
  have hg0:gi c.Parents 0=some c.Parents[0]:=zac (i:=0) h00
  simp only[zbO,jn,zam hx,zac hx,hg0,aD,aA,zab hk hm,zeQ,zd7 (show i<=maxi by unfold maxi;omega)]
  unfold zmF
  rw[zck hx,zck h00,show(decide ((0:Int)<=c.Parents[k])&&decide (c.Parents[k]<=(i:Int)-1))=upB i c.Parents[k] from rfl]
  cases upB (i:Int) c.Parents[k]
  ·rfl
  ·cases decide ((0:Int)< (k:Int))
   ·rfl
   ·cases(c.Parents[k]==c.Parents[0])<;>rfl) (fun m=>by simp only[zbO,zad,aC]) _ (by omega)]
theorem zqu {r:Repo}(h:RpB r):zbP r (fun _ _=>jn (fun(y128:Bool)=>some y128) fun K130=>bif decide (((r.Commits.length:Int):Int)<=(16:Int)) then(K130 (decide (((r.Heads.length:Int):Int)<=(5:Int)))) else(K130 false)) (r.Heads.length+1) false 0=some (decide ((r.Commits.length:Int)<=16)&&zcu r.Commits.length r.Heads):=by
 have hm:=zak h.heads
 rw[zbt (n:=r.Heads.length) (g:=zfc r.Commits.length r.Heads) (r0:=some false) (Z:=some (decide ((r.Commits.length:Int)<=16)&&decide ((r.Heads.length:Int)<=5))) (f:=fun m k=>zbP r _ m false k) (fun m k hk=>by
  have hx:r.Heads[k]? =some r.Heads[k]:=aB hk
  simp only[zbP,jn,zam hx,zac hx,aD,aA,zab hk hm,zeQ,zd7 (zak h.coms),zcd (zak (h.hat hx))]
  unfold zfc
  rw[zbA hx,show(decide ((0:Int)<=r.Heads[k].At)&&decide (r.Heads[k].At<=(r.Commits.length:Int)-1))=upB r.Commits.length r.Heads[k].At from rfl]
  cases zaI r.Heads[k].Name
  ·rfl
  cases upB r.Commits.length r.Heads[k].At
  ·rfl
  by_cases h0:(0:Int)< (k:Int)
  ·obtain⟨y,hy,ey⟩:=zio hx hm h0
   rw[hy,ey,aF h0]
   simp only[aA,zfP]
   cases Op.bytesLess y.Name r.Heads[k].Name<;>rfl
  ·rw[aE h0];rfl) (fun m=>by
   simp only[zbP,zad,aC,jn]
   cases decide ((r.Commits.length:Int)<=16)<;>rfl) _ (by omega)]
 unfold zcu
 cases zfs (zfc r.Commits.length r.Heads) 0 r.Heads.length<;>cases decide ((r.Commits.length:Int)<=16)<;>rfl
theorem zgq {r:Repo}(h:RpB r):zdJ r=some (zaf r):=by
 have hm:=zak h.coms
 unfold zdJ zaf zkI
 simp only[jn,zal]
 have h3:=zqu h
 simp only[jn]at h3
 rw[zbt (n:=r.Commits.length) (g:=fun i=>zjr i (r.Commits.getD i noCommit)) (r0:=some false) (Z:=some (decide ((r.Commits.length:Int)<=16)&&zcu r.Commits.length r.Heads)) (f:=fun m i=>zc5 r _ m false i) (fun m i hi=>by
  have hx:r.Commits[i]? =some r.Commits[i]:=aB hi
  have hc:=h.cat hx
  have hco:=h.coms
  simp only[zc5,jn,zam hx,zac hx,aD,aA,zab hi hm,zal,zqt (show i<=1048576 by omega) hc,zdn hx]
  unfold zjr
  by_cases h2:(2:Int)< (r.Commits[i].Parents.length:Int)
  ·rw[aF h2,aE (show ¬ (r.Commits[i].Parents.length:Int)<=2 by omega)]
   simp only[aD,Bool.false_and,Bool.and_false,aC]
   cases zfs (zmF i r.Commits[i].Parents) 0 r.Commits[i].Parents.length<;>rfl
  ·rw[aE h2,aF (show(r.Commits[i].Parents.length:Int)<=2 by omega),zjX _ _ (by omega)]
   simp only[aC,Bool.true_and,zcd (zak hc.who),zkH hc.tree,aA]
   cases r.Commits[i].Parents.all (upB i)<;>cases zl6 r.Commits[i].Parents<;>cases zaI r.Commits[i].Who<;>cases zaA r.Commits[i].Tree<;>rfl) (fun m=>by
   simp only[zc5,zad,aC,jn,zal,h3]) _ (by omega)]
 cases zfs (fun i=>zjr i (r.Commits.getD i noCommit)) 0 r.Commits.length<;>cases decide ((r.Commits.length:Int)<=16)<;>rfl
theorem zi1 {r:Repo}(h:RpB r){hs:List Head}(hl:hs.length<=1048576)(hn: ∀ h∈hs,h.Name.length<=1048576):zeq r hs=some (zcu r.Commits.length hs):=by
 have hm:=zak hl
 unfold zeq zcu
 by_cases h5:(5:Int)< (hs.length:Int)
 ·rw[aF h5,aE (show ¬ (hs.length:Int)<=5 by omega),Bool.and_false];rfl
 rw[aE h5,aF (show(hs.length:Int)<=5 by omega),aC,Bool.and_true]
 simp only[jn,zal]
 rw[zbt (n:=hs.length) (g:=zfc r.Commits.length hs) (r0:=some false) (Z:=some true) (f:=fun m k=>zbE r hs (fun _ _=>some true) m false k) (fun m k hk=>by
  have hx:hs[k]? =some hs[k]:=aB hk
  simp only[zbE,zbl,jn,zam hx,zac hx,aD,aA,zab hk hm,zdI,zd7 (zak h.coms),zcc (zak (hn _ (aH hx)))]
  unfold zfc
  rw[zbA hx,show(decide ((0:Int)<=hs[k].At)&&decide (hs[k].At<=(r.Commits.length:Int)-1))=upB r.Commits.length hs[k].At from rfl]
  cases zaI hs[k].Name
  ·rfl
  cases upB r.Commits.length hs[k].At
  ·rfl
  by_cases h0:(0:Int)< (k:Int)
  ·obtain⟨y,hy,ey⟩:=zio hx hm h0
   rw[hy,ey,aF h0]
   simp only[aA]
   cases Op.bytesLess y.Name hs[k].Name<;>rfl
  ·rw[aE h0];rfl) (fun m=>by simp only[zbE,zad,aC]) _ (by omega)]
 cases zfs (zfc r.Commits.length hs) 0 hs.length<;>rfl
theorem zfL {r:Repo}(h:RpB r):zdE r=some (zaf r):=by
 have hm:=zak h.coms
 unfold zdE zaf zkI
 by_cases h16:(16:Int)< (r.Commits.length:Int)
 ·rw[aF h16,aE (by omega)];rfl
 rw[aE h16,aF (by omega),aC,Bool.true_and]
 simp only[jn,zal]
 rw[zbt (n:=r.Commits.length) (g:=fun i=>zjr i (r.Commits.getD i noCommit)) (r0:=some false) (Z:=some (zcu r.Commits.length r.Heads)) (f:=fun m i=>zb3 r _ m false i) (fun m i hi=>by
  have hx:r.Commits[i]? =some r.Commits[i]:=aB hi
  have hc:=h.cat hx
  have hco:=h.coms
  have hpm:=zak hc.par
  have hin: ∀ K:Bool->Int->Option Bool,zbj (i:Int) r.Commits[i] K (r.Commits[i].Parents.length+1) false 0=bif r.Commits[i].Parents.all (upB i) then K false (r.Commits[i].Parents.length:Int) else some false:=fun K=>by
   rw[zaS (α:=Int) (xs:=r.Commits[i].Parents) (p:=upB i) (r0:=some false) (Z:=K false (r.Commits[i].Parents.length:Int)) (f:=fun m k=>zbj (i:Int) r.Commits[i] K m false k) (fun m k p hp=>by
    simp only[zbj,zam hp,zac hp,aD,aA,zab (zaq hp) hpm,zdI,zd7 (show i<=maxi by unfold maxi;omega)]
    rw[show(decide ((0:Int)<=p)&&decide (p<=(i:Int)-1))=upB i p from rfl]
    cases upB i p<;>rfl) (fun m=>by simp only[zbj,zad,aC]) (by omega)]
  simp only[zb3,jn,zam hx,zac hx,aD,aA,zab hi hm,zal,hin,zdn hx,zcc (zak hc.who),zcH hc.tree]
  unfold zjr
  match hps:r.Commits[i].Parents with
  | []=>cases zaI r.Commits[i].Who<;>cases zaA r.Commits[i].Tree<;>rfl
  | [p]=>
   simp only[aL,List.length_nil,List.all_cons,List.all_nil,zl6]
   cases upB i p<;>cases zaI r.Commits[i].Who<;>cases zaA r.Commits[i].Tree<;>rfl
  | [p,q]=>
   simp only[aL,List.length_nil,List.all_cons,List.all_nil,zl6,gi,List.getElem?_cons_zero,List.getElem?_cons_succ,Int.toNat_zero,Int.toNat_one]
   cases upB i p<;>cases upB i q<;>cases hpq:p==q<;>cases zaI r.Commits[i].Who<;>cases zaA r.Commits[i].Tree<;>simp[hpq]<;>rfl
  |p::q::s::l=>
   rw[aF (by simp only[aL];omega),aE (show ¬ (((p::q::s::l).length:Nat):Int)<=2 by simp only[aL];omega)]
   simp only[aD,Bool.false_and,Bool.and_false,aC]) (fun m=>by
   simp only[zb3,zad,aC,jn,zi1 h h.heads h.head,aA]) _ (by omega)]
 cases zfs (fun i=>zjr i (r.Commits.getD i noCommit)) 0 r.Commits.length<;>rfl
def atB (r:Repo)(name:Str):Int:=match r.Heads.find? (fun h=>h.Name==name)with
 |some h=>h.At
 |none=> -1
theorem zhR {r:Repo}(h:RpB r)(name:Str):zd0 r name=some (atB r name):=by
 have hm:=zak h.heads
 unfold zd0 atB
 simp only[jn,zal]
 rw[zcb (p:=fun h:Head=>h.Name==name) (xs:=r.Heads) (r:=fun h=>some h.At) (Z:=some (-1)) (f:=fun m k=>zc6 r name _ m 0 k) (fun m i x hx=>by
  simp only[zc6,zam hx,zac hx,aD,aA,zab (zaq hx) hm]) (fun m=>by simp only[zc6,zad,aC]) (by omega)]
 cases r.Heads.find? (fun h=>h.Name==name)<;>rfl
theorem zll {r:Repo}(h:RpB r)(name:Str):zcM r name=some (atB r name):=by
 have hm:=zak h.heads
 unfold zcM atB
 simp only[jn,zal]
 rw[zcb (p:=fun h:Head=>h.Name==name) (xs:=r.Heads) (r:=fun h=>some h.At) (Z:=some (-1)) (f:=fun m k=>zbF r name _ m 0 k) (fun m i x hx=>by
  simp only[zbF,zam hx,zac hx,aD,aA,zab (zaq hx) hm]) (fun m=>by simp only[zbF,zad,aC]) (by omega)]
 cases r.Heads.find? (fun h=>h.Name==name)<;>rfl
theorem zjs {r:Repo}(h:RpB r)(a:Int):zbl r a=some (upB r.Commits.length a):=by
 unfold zbl
 rw[zd7 (zak h.coms),zdI,aA]
 rfl
theorem zax {n:Nat}{a:Int}:upB n a=true↔0<=a/\a<=(n:Int)-1:=by
 unfold upB
 simp only[aG,decide_eq_true_eq]
theorem ziq {t:List File}(h:TB t):zfF t=some t:=by
 have hm:=h.maxi
 have hl:=h.1
 unfold zfF
 simp only[jn,zal]
 rw[zc0 (xs:=t) (p:=fun _=>true) (g:=fun f:File=>f) (Z:=fun acc=>some acc) (f:=fun m acc i=>zcA t _ m acc i) (fun m i x acc hx ha=>by
  have hi:=zaq hx
  simp only[zcA,zam hx,zac hx,aD,aA,zab hi hm,apN (h.at_ hx).len,ap1 (show acc.length<=1048576 by omega)]) (fun m acc=>by simp only[zcA,zad,aC]) (by omega)]
 simp
theorem zd5 {t:List File}(h:TB t):zbI t=some t:=by
 have hm:=h.maxi
 have hl:=h.1
 unfold zbI
 simp only[jn,zal]
 rw[zc0 (xs:=t) (p:=fun _=>true) (g:=fun f:File=>f) (Z:=fun acc=>some acc) (f:=fun m acc i=>zbQ t _ m acc i) (fun m i x acc hx ha=>by
  have hi:=zaq hx
  simp only[zbQ,zam hx,zac hx,aD,aA,zab hi hm,za4 (h.at_ hx).len,ap1 (show acc.length<=1048576 by omega)]) (fun m acc=>by simp only[zbQ,zad,aC]) (by omega)]
 simp
theorem zf2 {c:Commit}(h:CB c):zcT c=some c:=by
 unfold zcT
 rw[apN h.par,aA,ziq h.tree,aA]
theorem zir {r:Repo}(h:RpB r):zdr r=some r:=by
 have hm:=zak h.coms
 have hl:=h.coms
 unfold zdr
 simp only[jn,zal,apN h.heads,aA]
 rw[zc0 (xs:=r.Commits) (p:=fun _=>true) (g:=fun f:Commit=>f) (Z:=fun acc=>some (Repo.mk acc r.Heads)) (f:=fun m acc i=>zcB r _ m i acc r.Heads) (fun m i x acc hx ha=>by
  have hi:=zaq hx
  simp only[zcB,zam hx,zac hx,aD,aA,zab hi hm,zf2 (h.cat hx),ap1 (show acc.length<=1048576 by omega)]) (fun m acc=>by simp only[zcB,zad,aC]) (by omega)]
 rw[show((r.Commits.filter fun _=>true).map fun f:Commit=>f)=r.Commits by simp]
def zdt (n:Str)(a:Int):Bool->List Head->List Head
 |put,[]=>bif put then [] else [⟨n,a⟩]
 |put,h::hs=>(bif !put && !Op.bytesLess h.Name n then [⟨n,a⟩] else [])++((bif h.Name !=n then [h] else [])++zdt n a (put || !Op.bytesLess h.Name n) hs)
theorem zf3 (n:Str)(a:Int): ∀ (hs:List Head) (put:Bool),(zdt n a put hs).length+(bif put then 1 else 0)<=hs.length+1
 | [],put=>by cases put<;>simp[zdt]
 |h::hs,put=>by
  have ih:=zf3 n a hs (put || !Op.bytesLess h.Name n)
  unfold zdt
  cases put<;>cases hb:Op.bytesLess h.Name n<;>cases hn:(h.Name !=n)<;>simp[hb]at ih ⊢ <;>omega
theorem putH_mem (n:Str)(a:Int): ∀ (hs:List Head) (put:Bool) (x:Head),x∈zdt n a put hs->x∈hs\/x=⟨n,a⟩
 | [],put,x,h=>by cases put<;>simp[zdt]at h;exact .inr h
 |h::hs,put,x,hx=>by
  unfold zdt at hx
  rcases List.mem_append.1 hx with h1 |h1
  ·cases hc:(!put && !Op.bytesLess h.Name n)with
   |true=>rw[hc]at h1;simp at h1;exact .inr h1
   |false=>rw[hc]at h1;simp at h1
  ·rcases List.mem_append.1 h1 with h2 |h2
   ·cases hc:(h.Name !=n)with
    |true=>rw[hc]at h2;simp at h2;exact .inl (by rw[h2];simp)
    |false=>rw[hc]at h2;simp at h2
   ·rcases putH_mem n a hs _ x h2 with h3 |h3
    ·exact .inl (List.mem_cons_of_mem _ h3)
    ·exact .inr h3
theorem zis {r:Repo}(h:RpB r)(hs:r.Heads.length<=100000)(n:Str)(a:Int)(cs:List Commit): ∀ (k i m:Nat) (put:Bool) (out:List Head),i+k=r.Heads.length->k<m->out.length<=2*i->
 zcD r n a (fun y14 _ y16 y19=>bif(!y14) then((apM y19 [Vm.Head.mk n a]).bind fun q160=>some (Vm.Repo.mk y16 q160)) else some (Vm.Repo.mk y16 y19)) m put (i:Int) cs out=some ⟨cs,out++zdt n a put (r.Heads.drop i)⟩
 |k,i,0,put,out,_,hm,_=>by omega
 |0,i,m+1,put,out,hi,_,ho=>by
  obtain rfl:i=r.Heads.length:=by omega
  simp only[zcD,zad,aC,List.drop_length]
  cases put
  ·simp only[Bool.not_false,aD,ap1 (show out.length<=1048576 by omega),aA,zdt,aC]
  ·simp[zdt]
 |k+1,i,m+1,put,out,hi,hm,ho=>by
  have hlt:i<r.Heads.length:=by omega
  have hx:r.Heads[i]? =some r.Heads[i]:=aB hlt
  have hd:r.Heads.drop i=r.Heads[i]::r.Heads.drop (i+1):=aI hlt
  have hw:=zab hlt (zak h.heads)
  have ih:=fun put out ho=>zis h hs n a cs k (i+1) m put out (by omega) (by omega) ho
  simp only[zcD,jn,zam hx,zac hx,aD,aA,hw]
  rw[hd]
  unfold zdt
  have e1:=ap1 (x:=Vm.Head.mk n a) (show out.length<=1048576 by omega)
  have e2:=ap1 (x:=r.Heads[i]) (show out.length<=1048576 by omega)
  have e3:apM (out++[Vm.Head.mk n a]) [r.Heads[i]]=some (out++([Vm.Head.mk n a]++[r.Heads[i]])):=by rw[ap1 (show(out++[Vm.Head.mk n a]).length<=1048576 by simp;omega),List.append_assoc]
  have l1:(out++[r.Heads[i]]).length<=2*(i+1):=by simp;omega
  have l2:(out++[Vm.Head.mk n a]).length<=2*(i+1):=by simp;omega
  have l3:(out++([Vm.Head.mk n a]++[r.Heads[i]])).length<=2*(i+1):=by simp;omega
  have l0:out.length<=2*(i+1):=by omega
  cases put<;>cases Op.bytesLess r.Heads[i].Name n<;>cases(r.Heads[i].Name !=n)<;>
   simp only[aK,Bool.not_false,aD,aC,e1,e2,e3,aA,Bool.and_true,Bool.and_false,Bool.or_true,Bool.or_false,Bool.true_and,Bool.false_and,Bool.true_or,Bool.false_or,ih _ _ l0,ih _ _ l1,ih _ _ l2,ih _ _ l3,List.append_assoc,List.nil_append]
def headR (r:Repo)(n:Str)(a:Int):Repo:=⟨r.Commits,zdt n a false r.Heads⟩
theorem zi2 {r:Repo}(h:RpB r)(hs:r.Heads.length<=100000)(n:Str)(a:Int):zfi r n a=some (headR r n a):=by
 unfold zfi headR
 simp only[jn,zal]
 have:=zis h hs n a r.Commits r.Heads.length 0 (r.Heads.length+1) false [] (by omega) (by omega) (by simp)
 simpa using this
theorem RpB.headR {r:Repo}(h:RpB r)(hs:r.Heads.length<=100000){n:Str}(hn:n.length<=1048576)(a:Int):RpB (headR r n a):=
 ⟨h.coms,h.com,by have:=zf3 n a r.Heads false;simp at this;show(zdt n a false r.Heads).length<=_;omega,fun x hx=>by
  rcases putH_mem n a r.Heads false x hx with h1 |h1
  ·exact h.head x h1
  ·rw[h1];exact hn⟩
def addR (r:Repo)(n:Str)(c:Commit):Repo:=⟨r.Commits++[c],zdt n r.Commits.length false r.Heads⟩
theorem RpB.push {r:Repo}(h:RpB r){c:Commit}(hc:CB c)(hl:r.Commits.length<=100000):RpB ⟨r.Commits++[c],r.Heads⟩:=
 ⟨by simp;omega,fun x hx=>by
  rcases List.mem_append.1 hx with h1 |h1
  ·exact h.com x h1
  ·rw[List.mem_singleton]at h1;rw[h1];exact hc,h.heads,h.head⟩
theorem RpB.addR {r:Repo}(h:RpB r)(hl:r.Commits.length<=100000)(hs:r.Heads.length<=100000){n:Str}(hn:n.length<=1048576){c:Commit}(hc:CB c):RpB (addR r n c):=
 (h.push hc hl).headR hs hn _
theorem zmr {r:Repo}(h:RpB r)(hl:r.Commits.length<=100000)(hs:r.Heads.length<=100000)(n:Str){c:Commit}(hc:CB c):zeL r n c=some (addR r n c):=by
 unfold zeL
 rw[apN h.coms,aA,ap1 h.coms,aA,zi2 (h.push hc hl) hs,aA]
 rfl
theorem zag {r:Repo}(h:zaf r=true):r.Commits.length<=16/\r.Heads.length<=5:=by
 unfold zaf zcu at h
 simp only[aG,decide_eq_true_eq]at h
 omega
def zdK:Repo:=⟨[],[]⟩
theorem zat {t:List File}(h:zaA t=true):t.length<=8:=by
 unfold zaA at h
 simp only[aG,decide_eq_true_eq]at h
 omega
theorem zeB {r:Repo}(h:zaf r=true){i:Nat}(hi:i<r.Commits.length):zjr i (r.Commits.getD i noCommit)=true:=by
 unfold zaf zkI at h
 simp only[aG]at h
 exact zaV.1 h.2.1 i (Nat.zero_le _) (by omega)
def zae (r:Repo)(i:Nat):List Int:=(r.Commits.getD i noCommit).Parents
theorem zaZ {r:Repo}(h:zaf r=true){i:Nat}(hi:i<r.Commits.length):(zae r i).length<=2 /\ ∀ p∈zae r i,0<=p/\p<=(i:Int)-1:=by
 have:=zeB h hi
 unfold zjr at this
 simp only[aG,decide_eq_true_eq,List.all_eq_true]at this
 obtain⟨h1,h2,_⟩:=this
 refine⟨by unfold zae;omega,fun p hp=>?_⟩
 have:=h1 p hp
 unfold upB at this
 simp only[aG,decide_eq_true_eq]at this
 exact this
theorem zit {r:Repo}{i:Nat}(hi:i<r.Commits.length):gi r.Commits (i:Int)=some (r.Commits.getD i noCommit):=by
 rw[zdn (aB hi)]
 exact zac (aB hi)
theorem zfB {r:Repo}(h:zaf r=true){x:Head}(hx:x∈r.Heads):0<=x.At/\x.At<=(r.Commits.length:Int)-1/\zaI x.Name=true:=by
 obtain⟨i,hi⟩:=List.mem_iff_getElem?.1 hx
 unfold zaf zcu at h
 simp only[aG]at h
 have:=zaV.1 h.2.2.1 i (Nat.zero_le _) (by have:=zaq hi;omega)
 unfold zfc upB at this
 rw[zbA hi]at this
 simp only[aG,decide_eq_true_eq]at this
 exact⟨this.2.1.1,this.2.1.2,this.1⟩
theorem at_range {r:Repo}(h:zaf r=true)(n:Str):atB r n = -1\/(0<=atB r n/\atB r n<=(r.Commits.length:Int)-1):=by
 unfold atB
 cases hf:r.Heads.find? (fun h=>h.Name==n)with
 |none=>exact .inl rfl
 |some x=>
  have:=zfB h (List.mem_of_find?_eq_some hf)
  exact .inr ⟨this.1,this.2.1⟩
def zlw (mk:List Bool)(p:Int):List Bool:=mk.set p.toNat true
theorem zhu (mk:List Bool)(p:Int):(zlw mk p).length=mk.length:=by simp[zlw]
theorem zj3: ∀ (ps:List Int) (mk:List Bool),(ps.foldl zlw mk).length=mk.length
 | [],mk=>rfl
 |p::ps,mk=>by rw[List.foldl_cons,zj3 ps,zhu]
def zj4 (r:Repo)(i:Nat)(mk:List Bool):List Bool:=bif mk.getD i false then(zae r i).foldl zlw mk else mk
theorem zga (r:Repo)(i:Nat)(mk:List Bool):(zj4 r i mk).length=mk.length:=by
 unfold zj4
 cases mk.getD i false
 ·rfl
 ·exact zj3 _ _
def ze3 (r:Repo):Nat->List Bool->List Bool
 |0,mk=>mk
 |i+1,mk=>ze3 r i (zj4 r i mk)
theorem zi5 (r:Repo): ∀ (i:Nat) (mk:List Bool),(ze3 r i mk).length=mk.length
 |0,mk=>rfl
 |i+1,mk=>by unfold ze3;rw[zi5 r i,zga]
def zaw (r:Repo)(a:Nat):List Bool:=ze3 r (a+1) ((List.replicate r.Commits.length false).set a true)
theorem zbh (r:Repo)(a:Nat):(zaw r a).length=r.Commits.length:=by unfold zaw;rw[zi5];simp
def zjl (mk:List Bool):List Int:=((List.range mk.length).filter fun i=>mk.getD i false).map Int.ofNat
def zbn (r:Repo)(a:Int):List Int:=zjl (zaw r a.toNat)
theorem zcZ {mk:List Bool}{i:Nat}(h:i<mk.length):gi mk (i:Int)=some (mk.getD i false):=by
 have hx:mk[i]? =some mk[i]:=aB h
 rw[zac hx]
 simp[List.getD,hx]
theorem zmH {mk:List Bool}{p:Int}{i:Nat}(h:mk.getD i false=true):(zlw mk p).getD i false=true:=by
 unfold zlw
 by_cases e:p.toNat=i
 ·subst e
  have hl:p.toNat<mk.length:=by
   rcases Nat.lt_or_ge p.toNat mk.length with h1 |h1
   ·exact h1
   ·rw[List.getD,List.getElem?_eq_none (by omega)]at h;simp at h
  simp[List.getD,hl]
 ·simp only[List.getD,List.getElem?_set_ne e]at h ⊢
  exact h
theorem zn8 {r:Repo}(h:zaf r=true){i:Nat}(hi:i<r.Commits.length){F:List Bool->Option (List Int)}: ∀ (j k m:Nat) (mk:List Bool),k+j=(zae r i).length->j<m->mk.length=r.Commits.length->
 zdP r (i:Int) (fun _ y27=>F y27) m (k:Int) mk=F (bif mk.getD i false then((zae r i).drop k).foldl zlw mk else mk)
 |j,k,0,mk,_,hm,_=>by omega
 |0,k,m+1,mk,hk,_,hl=>by
  obtain rfl:k=(zae r i).length:=by omega
  have e:(r.Commits.getD i noCommit).Parents=zae r i:=rfl
  simp only[zdP,jn,zit hi,aA,e,zad,aC,List.drop_length,List.foldl_nil]
  cases mk.getD i false<;>rfl
 |j+1,k,m+1,mk,hk,hm,hl=>by
  have hlt:k< (zae r i).length:=by omega
  have hx:(zae r i)[k]? =some (zae r i)[k]:=aB hlt
  obtain⟨hs,hp⟩:=zaZ h hi
  obtain⟨p0,p1⟩:=hp _ (List.getElem_mem hlt)
  have e:(r.Commits.getD i noCommit).Parents=zae r i:=rfl
  have hn:(((zae r i)[k].toNat:Nat):Int)=(zae r i)[k]:=by omega
  have hg:gi mk (zae r i)[k]=some (mk.getD (zae r i)[k].toNat false):=by
   rw[<- hn]
   exact zcZ (by omega)
  have hsi:siM mk (zae r i)[k] true=some (zlw mk (zae r i)[k]):=by
   have:=zbJ (xs:=mk) (i:=(zae r i)[k].toNat) (by omega) true
   rw[hn]at this
   exact this
  simp only[zdP,jn,zit hi,aA,e,zam hx,aD,zcZ (show i<mk.length by omega),zac hx,hg,hsi]
  cases hb:mk.getD i false with
  |false=>rfl
  |true=>
   rw[aD,aD,zab hlt (by unfold maxi;omega),zn8 h hi j (k+1) m _ (by omega) (by omega) (by rw[zhu];exact hl),zmH hb,aD,aI hlt,List.foldl_cons]
theorem zn9 {r:Repo}(h:zaf r=true){F:List Bool->Option (List Int)}: ∀ (i m:Nat) (mk:List Bool),i<=r.Commits.length->i<m->mk.length=r.Commits.length->
 zcV r (fun _ y=>F y) m ((i:Int)-1) mk=F (ze3 r i mk)
 |i,0,mk,_,hm,_=>by omega
 |0,m+1,mk,_,_,_=>by
  simp only[zcV]
  rw[aE (by omega)]
  rfl
 |i+1,m+1,mk,hi,hm,hl=>by
  have hs:=(zag h).1
  have e:(((i+1:Nat):Int))-1=(i:Int):=by omega
  simp only[zcV,jn,e]
  rw[aF (by omega),aD]
  have hp:=(zaZ h (show i<r.Commits.length by omega)).1
  have h2:=zn8 h (show i<r.Commits.length by omega) (F:=fun y27=>zcV r (fun _ y=>F y) m (w64 ((i:Int)-1)) y27) (zae r i).length 0 4 mk (by omega) (by omega) hl
  refine(h2).trans ?_
  rw[zd7 (show i<=maxi by unfold maxi;omega)]
  refine(zn9 h i m _ (by omega) (by omega) ?_).trans rfl
  have:=zga r i mk
  unfold zj4 at this
  rw[List.drop_zero,this]
  exact hl
theorem zmI {mk:List Bool}(hl:mk.length<=1000): ∀ (k i m:Nat) (out:List Int),i+k=mk.length->k<m->out.length<=i->
 zcU mk (fun y69 _=>some y69) m out (i:Int)=some (out++((List.range' i k).filter fun i=>mk.getD i false).map Int.ofNat)
 |k,i,0,out,_,hm,_=>by omega
 |0,i,m+1,out,hi,_,_=>by
  obtain rfl:i=mk.length:=by omega
  simp only[zcU,zad,aC]
  simp
 |k+1,i,m+1,out,hi,hm,ho=>by
  have hlt:i<mk.length:=by omega
  have hx:mk[i]? =some mk[i]:=aB hlt
  simp only[zcU,jn,zam hx,aD,zcZ hlt,aA,zab hlt (show mk.length<=maxi by unfold maxi;omega),ap1 (x:=(i:Int)) (show out.length<=1048576 by omega)]
  rw[List.range'_succ,List.filter_cons]
  cases hb:mk.getD i false with
  |true=>
   rw[aD,zmI hl k (i+1) m _ (by omega) (by omega) (by simp;omega),if_pos rfl]
   simp
  |false=>
   rw[aC,zmI hl k (i+1) m _ (by omega) (by omega) (by omega),if_neg (by simp)]
theorem zha {r:Repo}(h:zaf r=true){a:Int}(h0:0<=a)(h1:a<=(r.Commits.length:Int)-1):zfu r a=some (zbn r a):=by
 have hs:=(zag h).1
 obtain⟨n,rfl⟩:=Int.eq_ofNat_of_zero_le h0
 have hn:n<r.Commits.length:=by omega
 have hl:(List.replicate r.Commits.length false).length=r.Commits.length:=by simp
 unfold zfu
 rw[zgE (by simp[lim];omega),aA,zcZ (by rw[hl];exact hn),aA,zbJ (by rw[hl];exact hn),aA]
 simp only[jn,zal]
 have e:=zn9 h (F:=fun y18=>zcU y18 (fun y69 _=>some y69) (y18.length+1) ([]:List Int) 0) (n+1) (((n:Int)+1-0).toNat+1) ((List.replicate r.Commits.length false).set n true) (by omega) (by omega) (by simp)
 rw[show(((n+1:Nat):Int))-1=(n:Int) by omega]at e
 refine e.trans ?_
 have hml:=zbh r n
 unfold zaw at hml
 have e3:=zmI (mk:=ze3 r (n+1) ((List.replicate r.Commits.length false).set n true)) (by omega) r.Commits.length 0 (r.Commits.length+1) [] (by omega) (by omega) (by simp)
 rw[hml]
 refine e3.trans ?_
 unfold zbn zjl zaw
 rw[Int.toNat_natCast,hml,List.range_eq_range']
 rfl
theorem zbH {r:Repo}{a x:Int}(h:x∈zbn r a):0<=x/\x<=(r.Commits.length:Int)-1:=by
 unfold zbn zjl at h
 rw[zbh]at h
 obtain⟨i,hi,rfl⟩:=List.mem_map.1 h
 have:=List.mem_range.1 (List.mem_filter.1 hi).1
 constructor
 ·exact Int.natCast_nonneg i
 ·show(i:Int)<=_;omega
theorem zdW (r:Repo)(a:Int):(zbn r a).length<=r.Commits.length:=by
 unfold zbn zjl
 rw[zbh,List.length_map]
 exact Nat.le_trans (List.length_filter_le _ _) (by simp)
def zfS (l:List Int)(n:Int):Bool:=l.any fun x=>x==n
theorem zjm {l:List Int}(hl:l.length<=1000000)(n:Int):zgm l n=some (zfS l n):=by
 unfold zgm zfS
 simp only[jn,zal]
 rw[zcb (p:=fun x:Int=>x==n) (xs:=l) (r:=fun _=>some true) (Z:=some false) (f:=fun m k=>zdQ l n _ m false k) (fun m i x hx=>by
  simp only[zdQ,zam hx,zac hx,aD,aA,zab (zaq hx) (show l.length<=maxi by unfold maxi;omega)]) (fun m=>by simp only[zdQ,zad,aC]) (by omega)]
 cases hf:l.find? (fun x=>x==n)with
 |some x=>
  have:l.any (fun x=>x==n)=true:=List.any_eq_true.2 ⟨x,List.mem_of_find?_eq_some hf,by simpa using List.find?_some hf⟩
  rw[this]
 |none=>
  have:l.any (fun x=>x==n)=false:=by
   rw[List.any_eq_false]
   intro x hx
   have:=List.find?_eq_none.1 hf x hx
   simpa using this
  rw[this]
def znr (r:Repo)(l:List Int)(i:Nat):Bool:=zfs (fun k=>((k:Int)==(i:Int)) || !zfS (zbn r (l.getD k 0)) (l.getD i 0)) 0 l.length
def zmO (p:Nat->Bool)(l:List Int):List Int:=((List.range l.length).filter p).map fun i=>l.getD i 0
def zda (r:Repo)(a b:Int):List Int:=(zbn r a).filter (zfS (zbn r b))
def za8 (r:Repo)(a b:Int):List Int:=zmO (znr r (zda r a b)) (zda r a b)
theorem zh6 {l:List Int}{i:Nat}(h:i<l.length):gi l (i:Int)=some (l.getD i 0):=by
 rw[zck (aB h)]
 exact zac (aB h)
theorem zm6 {r:Repo}(h:zaf r=true){l:List Int}(hl:l.length<=1000)(hm: ∀ x∈l,0<=x/\x<=(r.Commits.length:Int)-1){i:Nat}(hi:i<l.length){F:Bool->Option (List Int)}: ∀ (n k m:Nat) (b:Bool),k+n=l.length->n<m->
 zdf r l (i:Int) (fun y _=>F y) m b (k:Int)=F (b&&zfs (fun k=>((k:Int)==(i:Int)) || !zfS (zbn r (l.getD k 0)) (l.getD i 0)) k n)
 |n,k,0,b,_,hm'=>by omega
 |0,k,m+1,b,hk,_=>by
  obtain rfl:k=l.length:=by omega
  simp only[zdf,zad,aC,zfs,Bool.and_true]
 |n+1,k,m+1,b,hk,hm'=>by
  have hlt:k<l.length:=by omega
  have hx:l[k]? =some l[k]:=aB hlt
  have hs:=(zag h).1
  obtain⟨q0,q1⟩:=hm _ (List.getElem_mem hlt)
  have hal:=zdW r l[k]
  have ih:=fun b=>zm6 h hl hm hi (F:=F) n (k+1) m b (by omega) (by omega)
  simp only[zdf,zam hx,aD,zab hlt (show l.length<=maxi by unfold maxi;omega),zac hx,zh6 hi,aA,zha h q0 q1,zjm (show(zbn r l[k]).length<=1000000 by omega),ih,zfs,zck hx]
  cases b<;>cases((k:Int)==(i:Int))<;>simp
theorem zly {r:Repo}(h:zaf r=true){l:List Int}(hl:l.length<=1000)(hm: ∀ x∈l,0<=x/\x<=(r.Commits.length:Int)-1): ∀ (k i m:Nat) (out:List Int),i+k=l.length->k<m->out.length<=i->
 zbG r l (fun y _=>some y) m out (i:Int)=some (out++((List.range' i k).filter (znr r l)).map fun i=>l.getD i 0)
 |k,i,0,out,_,hm',_=>by omega
 |0,i,m+1,out,hi,_,_=>by
  obtain rfl:i=l.length:=by omega
  simp only[zbG,zad,aC]
  simp
 |k+1,i,m+1,out,hi,hm',ho=>by
  have hlt:i<l.length:=by omega
  have hx:l[i]? =some l[i]:=aB hlt
  have h3:=zm6 h hl hm hlt (F:=fun y104=>bif y104 then((gi l (i:Int)).bind fun u151=>(apM out [u151]).bind fun q160=>zbG r l (fun y _=>some y) m q160 (w64 ((i:Int)+1))) else zbG r l (fun y _=>some y) m out (w64 ((i:Int)+1))) l.length 0 (l.length+1) true (by omega) (by omega)
  simp only[zbG,jn,zam hx,aD,zal]
  refine h3.trans ?_
  rw[Bool.true_and,List.range'_succ,List.filter_cons,zab hlt (show l.length<=maxi by unfold maxi;omega)]
  show(bif znr r l i then _ else _)=_
  cases hb:znr r l i with
  |true=>
   rw[aD,zac hx,aA,ap1 (show out.length<=1048576 by omega),aA,zly h hl hm k (i+1) m _ (by omega) (by omega) (by simp;omega),if_pos rfl]
   simp[hx]
  |false=>
   rw[aC,zly h hl hm k (i+1) m _ (by omega) (by omega) (by omega),if_neg (by simp)]
theorem zns {r:Repo}(h:zaf r=true){a b:Int}(ha:0<=a)(ha':a<=(r.Commits.length:Int)-1)(hb:0<=b)(hb':b<=(r.Commits.length:Int)-1):zhD r a b=some (za8 r a b):=by
 have hs:=(zag h).1
 have la:=zdW r a
 have lb:=zdW r b
 unfold zhD
 rw[zha h ha ha',aA,zha h hb hb',aA]
 simp only[jn,zal]
 have hl:(zda r a b).length<=1000:=Nat.le_trans (List.length_filter_le _ _) (by omega)
 have hm: ∀ x∈zda r a b,0<=x/\x<=(r.Commits.length:Int)-1:=fun x hx=>zbH (List.mem_filter.1 hx).1
 rw[zc0 (xs:=zbn r a) (p:=zfS (zbn r b)) (g:=fun x:Int=>x) (Z:=fun acc=>zbG r acc (fun y _=>some y) (acc.length+1) ([]:List Int) 0) (f:=fun m acc i=>zdU (zbn r a) (zbn r b) _ m acc i) (fun m i x acc hx hacc=>by
  have hi:=zaq hx
  simp only[zdU,jn,zam hx,zac hx,aD,aA,zab hi (show(zbn r a).length<=maxi by unfold maxi;omega),zjm (show(zbn r b).length<=1000000 by omega),ap1 (show acc.length<=1048576 by omega)]
  cases zfS (zbn r b) x<;>rfl) (fun m acc=>by simp only[zdU,zad,aC]) (by omega)]
 have e:((zbn r a).filter (zfS (zbn r b))).map (fun x=>x)=zda r a b:=by simp[zda]
 rw[e]
 have:=zly h hl hm (zda r a b).length 0 ((zda r a b).length+1) [] (by omega) (by omega) (by simp)
 refine this.trans ?_
 unfold za8 zmO
 rw[List.range_eq_range']
 rfl
theorem zj8 {r:Repo}{a b x:Int}(h:x∈za8 r a b):0<=x/\x<=(r.Commits.length:Int)-1:=by
 unfold za8 zmO at h
 obtain⟨i,hi,rfl⟩:=List.mem_map.1 h
 have hr:=List.mem_range.1 (List.mem_filter.1 hi).1
 rw[zck (aB hr)]
 exact zbH (List.mem_filter.1 (List.getElem_mem hr)).1
theorem zmb (r:Repo)(a b:Int):(za8 r a b).length<=r.Commits.length:=by
 unfold za8 zmO
 rw[List.length_map]
 refine Nat.le_trans (List.length_filter_le _ _) ?_
 rw[List.length_range]
 exact Nat.le_trans (List.length_filter_le _ _) (zdW r a)
def zgG (s:List Str)(p:Part):Option (List Str):=bif p.Clash then none else some (s++p.Lines)
def zc8 (ps:List Part):List Str×Bool:=match ps.foldlM zgG []with
 |some s=>okT s
 |none=>([],false)
theorem ziu {i:Nat}{s s':List Str}{p:Part}(hp:p.Lines.length<=22000)(hpl: ∀ x∈p.Lines,zb8 x=true)(hI:zpE i s)(hst:zgG s p=some s'):zpE (i+1) s':=by
 unfold zgG at hst
 cases hc:p.Clash with
 |true=>rw[hc]at hst;cases hst
 |false=>
  rw[hc,aC]at hst
  cases hst
  refine⟨by rw[List.length_append];have:=hI.1;omega,fun x hx=>?_⟩
  rcases List.mem_append.1 hx with h1 |h1
  ·exact hI.2 x h1
  ·exact hpl x h1
theorem zlm {o a b:List Str}(hto:zap o=true)(hta:zap a=true)(htb:zap b=true):zgd (zaL o a b)=some (zc8 (zaL o a b)):=by
 obtain⟨hlen,hparts⟩:=zhO hto hta htb
 unfold zgd zc8
 simp only[jn,zal]
 obtain⟨h1,h2⟩:=zg5 (xs:=zaL o a b) (step:=zgG) (r0:=some (([]:List Str),false)) (Inv:=zpE) (s0:=[]) (Z:=fun s=>(zcK s).bind fun z30=>bif(!z30) then(some (([]:List Str),false)) else(some (s,true))) (f:=fun m s i=>zcC (zaL o a b) (fun _ _ y7 _=>(zcK y7).bind fun z30=>bif(!z30) then(some (([]:List Str),false)) else(some (y7,true))) m [] false s i) (fun m i p s hx hI=>by
  have hi:=zaq hx
  obtain⟨p1,p2,_⟩:=hparts p (aH hx)
  refine⟨?_,fun s' hst=>ziu p1 p2 hI hst⟩
  have hs:=hI.1
  simp only[zcC,zam hx,zac hx,aD,aA,zab hi (show(zaL o a b).length<=maxi by unfold maxi;omega),apT (show s.length<=1000000 by omega) (show p.Lines.length<=1000000 by omega)]
  unfold zgG
  cases p.Clash<;>rfl) (fun m s hI=>by simp only[zcC,zad,aC]) (m:=(zaL o a b).length+1) (by omega) ⟨by simp,by simp⟩
 refine h1.trans ?_
 cases hf:(zaL o a b).foldlM zgG []with
 |none=>rfl
 |some s=>
  have hI:=h2 s hf
  have hs:=hI.1
  show(zcK s).bind _=some (okT s)
  rw[zh5 (zbw (by omega) hI.2),aA]
  unfold okT
  cases zap s<;>rfl
theorem zln {ps:List Part}:(zc8 ps).2=true->zap (zc8 ps).1=true:=by
 unfold zc8 okT
 cases ps.foldlM zgG []with
 |none=>intro h;cases h
 |some s=>
  show(bif zap s then(s,true) else(([]:List Str),false)).2=true->zap (bif zap s then(s,true) else(([]:List Str),false)).1=true
  cases ht:zap s with
  |true=>intro _;exact ht
  |false=>intro h;cases h
def getT (t:List File)(p:Str):List Str×Bool:=match t.find? (fun f=>f.Path==p)with
 |some f=>(f.Text,true)
 |none=>([],false)
theorem zfm {t:List File}(h:TB t)(p:Str):zej t p=some (getT t p):=by
 have hm:=h.maxi
 unfold zej getT
 simp only[jn,zal]
 rw[zcb (p:=fun f:File=>f.Path==p) (xs:=t) (r:=fun f=>some (f.Text,true)) (Z:=some (([]:List Str),false)) (f:=fun m k=>zco t p _ m [] false k) (fun m i x hx=>by
  simp only[zco,zam hx,zac hx,aD,aA,zab (zaq hx) hm]) (fun m=>by simp only[zco,zad,aC]) (by omega)]
 cases t.find? (fun f=>f.Path==p)<;>rfl
theorem zi3 {t:List File}(h:TB t)(p:Str):(getT t p).1.length<=1048576/\Bk.fit (getT t p).1:=by
 unfold getT
 cases hf:t.find? (fun f=>f.Path==p)with
 |some f=>
  have:=h.2 f (List.mem_of_find?_eq_some hf)
  exact⟨this.len,this.text⟩
 |none=>exact⟨by simp,by simp[maxi],by simp⟩
def zaE (t:List File):Prop:= ∀ f∈t,zap f.Text=true
theorem za7 {t:List File}(h:zaE t)(p:Str):zap (getT t p).1=true:=by
 unfold getT
 cases hf:t.find? (fun f=>f.Path==p)with
 |some f=>exact h f (List.mem_of_find?_eq_some hf)
 |none=>rfl
def ze8 (a b:List Str×Bool):Bool:=(a.2==b.2)&&(bif a.2 then a.1==b.1 else true)
theorem ziv {a b:List Str×Bool}(h:a.1.length<=1048576):zfh a.1 a.2 b.1 b.2=some (ze8 a b):=by
 unfold zfh ze8
 simp only[jn,zex (zak h),aA]
 cases a.2<;>cases b.2<;>rfl
def oneF (o a b:List File)(p:Str):List Str×Bool×Int:=
 let zo:=getT o p;let za:=getT a p;let zb:=getT b p
 bif ze8 za zo||ze8 za zb then(zb.1,zb.2,0)
 else bif ze8 zb zo then(za.1,za.2,0)
 else bif !za.2 || !zb.2 then(zo.1,zo.2,1)
 else bif !zo.2 then([],false,2)
 else bif(zc8 (zaL zo.1 za.1 zb.1)).2 then((zc8 (zaL zo.1 za.1 zb.1)).1,true,0) else(zo.1,true,3)
theorem zms {o a b:List File}(ho:TB o)(ha:TB a)(hb:TB b)(to:zaE o)(ta:zaE a)(tb:zaE b)(p:Str):zhc o a b p=some (oneF o a b p):=by
 have eo:=za7 to p
 have ea:=za7 ta p
 have eb:=za7 tb p
 have lo:=zan eo
 have la:=zan ea
 have lb:=zan eb
 unfold zhc oneF
 simp only[jn,zfm ho,zfm ha,zfm hb,aA,ziv (a:=getT a p) (zi3 ha p).1,ziv (a:=getT b p) (zi3 hb p).1,znD (show(getT o p).1.length<=1000 by omega) (show(getT a p).1.length<=1000 by omega) (show(getT b p).1.length<=1000 by omega),zlm eo ea eb]
 cases ze8 (getT a p) (getT o p)<;>cases ze8 (getT a p) (getT b p)<;>cases ze8 (getT b p) (getT o p)<;>cases(getT a p).2<;>cases(getT b p).2<;>cases(getT o p).2<;>cases(zc8 (zaL (getT o p).1 (getT a p).1 (getT b p).1)).2<;>rfl
theorem ziw {o a b:List File}(to:zaE o)(ta:zaE a)(tb:zaE b)(p:Str):zap (oneF o a b p).1=true:=by
 have eo:=za7 to p
 have ea:=za7 ta p
 have eb:=za7 tb p
 unfold oneF
 simp only
 cases ze8 (getT a p) (getT o p)||ze8 (getT a p) (getT b p)with
 |true=>exact eb
 |false=>
  cases ze8 (getT b p) (getT o p)with
  |true=>exact ea
  |false=>
   cases !(getT a p).2 || !(getT b p).2 with
   |true=>exact eo
   |false=>
    cases !(getT o p).2 with
    |true=>rfl
    |false=>
     cases hl:(zc8 (zaL (getT o p).1 (getT a p).1 (getT b p).1)).2 with
     |true=>exact zln hl
     |false=>exact eo
def zbm (o a b:List File):List Str:=(b.map (·.Path)).foldl zfr ((a.map (·.Path)).foldl zfr ((o.map (·.Path)).foldl zfr []))
theorem zcP: ∀ (ps:List Str) (l:List Str),Asd l->Asd (ps.foldl zfr l)
 | [],l,h=>h
 |p::ps,l,h=>zcP ps _ (zc9 _ _)
theorem zcQ: ∀ (ps:List Str) (l:List Str),(ps.foldl zfr l).length<=l.length+ps.length
 | [],l=>by simp
 |p::ps,l=>by
  have h1:=zcQ ps (zfr l p)
  have h2:=zd3 l p
  simp only[List.foldl_cons,aL]
  omega
theorem zeC: ∀ (ps:List Str) (l:List Str) (x:Str),x∈ps.foldl zfr l↔x∈l\/x∈ps
 | [],l,x=>by simp
 |p::ps,l,x=>by
  rw[List.foldl_cons,zeC ps,insS_mem,List.mem_cons]
  constructor
  ·rintro((h |h) |h)
   ·exact .inl h
   ·exact .inr (.inl h)
   ·exact .inr (.inr h)
  ·rintro(h |h |h)
   ·exact .inl (.inl h)
   ·exact .inl (.inr h)
   ·exact .inr h
theorem zdH {t:List File} (h:TB t) (ht:t.length<=1000) {f:Nat->List Str->Int->Option (List Str)} {Z:List Str->Option (List Str)}
 (hs: ∀ m (i:Nat) x acc,t[i]? =some x->f (m+1) acc (i:Int)=(zdi acc x.Path).bind fun z=>f m z (w64 ((i:Int)+1))) (he: ∀ m acc,f (m+1) acc (t.length:Int)=Z acc): ∀ (k i m:Nat) (acc:List Str),i+k=t.length->k<m->Asd acc->acc.length<=10000+i->
 f m acc (i:Int)=Z (((t.drop i).map (·.Path)).foldl zfr acc)
 |k,i,0,acc,_,hm,_,_=>by omega
 |0,i,m+1,acc,hi,_,_,_=>by
  obtain rfl:i=t.length:=by omega
  rw[he,List.drop_length];rfl
 |k+1,i,m+1,acc,hi,hm,ha,hl=>by
  have hlt:i<t.length:=by omega
  have hx:t[i]? =some t[i]:=aB hlt
  have hil:=zd3 acc t[i].Path
  rw[hs m i _ acc hx,ziR (by omega) ha,aA,zab hlt h.maxi,zdH h ht hs he k (i+1) m _ (by omega) (by omega) (zc9 _ _) (by omega),aI hlt]
  rfl
theorem zkp {o a b:List File}(ho:TB o)(ha:TB a)(hb:TB b)(so:o.length<=100)(sa:a.length<=100)(sb:b.length<=100):zfo o a b=some (zbm o a b):=by
 unfold zfo zbm
 simp only[jn,zal]
 have l1:=zcQ (o.map (·.Path)) []
 have l2:=zcQ (a.map (·.Path)) ((o.map (·.Path)).foldl zfr [])
 have a0:Asd ([]:List Str):=List.Pairwise.nil
 have a1:=zcP (o.map (·.Path)) [] a0
 have a2:=zcP (a.map (·.Path)) _ a1
 simp only[List.length_map,List.length_nil]at l1 l2
 have e3:=fun acc (h1:Asd acc) (h2:acc.length<=10000)=>zdH hb (by omega) (f:=fun m acc i=>zaD b (fun y40 _=>some y40) m acc i) (Z:=fun acc=>some acc) (fun m i x acc hx=>by simp only[zaD,zam hx,zac hx,aD,aA]) (fun m acc=>by simp only[zaD,zad,aC]) b.length 0 (b.length+1) acc (by omega) (by omega) h1 (by omega)
 have e2:=fun acc (h1:Asd acc) (h2:acc.length<=10000)=>zdH ha (by omega) (f:=fun m acc i=>za6 a (fun y23 _=>zaD b (fun y40 _=>some y40) (b.length+1) y23 0) m acc i) (Z:=fun acc=>zaD b (fun y40 _=>some y40) (b.length+1) acc 0) (fun m i x acc hx=>by simp only[za6,zam hx,zac hx,aD,aA]) (fun m acc=>by simp only[za6,zad,aC]) a.length 0 (a.length+1) acc (by omega) (by omega) h1 (by omega)
 have e1:=fun acc (h1:Asd acc) (h2:acc.length<=10000)=>zdH ho (by omega) (f:=fun m acc i=>zce o (fun y6 _=>za6 a (fun y23 _=>zaD b (fun y40 _=>some y40) (b.length+1) y23 0) (a.length+1) y6 0) m acc i) (Z:=fun acc=>za6 a (fun y23 _=>zaD b (fun y40 _=>some y40) (b.length+1) y23 0) (a.length+1) acc 0) (fun m i x acc hx=>by simp only[zce,zam hx,zac hx,aD,aA]) (fun m acc=>by simp only[zce,zad,aC]) o.length 0 (o.length+1) acc (by omega) (by omega) h1 (by omega)
 refine(e1 [] a0 (by simp)).trans ?_
 rw[List.drop_zero]
 refine(e2 _ a1 (by omega)).trans ?_
 rw[List.drop_zero]
 refine(e3 _ a2 (by omega)).trans ?_
 rw[List.drop_zero]
theorem ze9 (o a b:List File):(zbm o a b).length<=o.length+a.length+b.length:=by
 unfold zbm
 have l1:=zcQ (o.map (·.Path)) []
 have l2:=zcQ (a.map (·.Path)) ((o.map (·.Path)).foldl zfr [])
 have l3:=zcQ (b.map (·.Path)) ((a.map (·.Path)).foldl zfr ((o.map (·.Path)).foldl zfr []))
 simp only[List.length_map,List.length_nil]at l1 l2 l3
 omega
theorem pathsF_mem {o a b:List File}{x:Str}:x∈zbm o a b↔ (∃ f∈o,f.Path=x)\/(∃ f∈a,f.Path=x)\/(∃ f∈b,f.Path=x):=by
 unfold zbm
 rw[zeC,zeC,zeC]
 simp only[List.mem_map,List.not_mem_nil,false_or]
 constructor
 ·rintro((h |h) |h)
  ·exact .inl h
  ·exact .inr (.inl h)
  ·exact .inr (.inr h)
 ·rintro(h |h |h)
  ·exact .inl (.inl h)
  ·exact .inl (.inr h)
  ·exact .inr h
def zh7 (o a b:List File)(p:Str):Option File:=bif(oneF o a b p).2.1 then some ⟨p,(oneF o a b p).1⟩ else none
def zgn (o a b:List File)(p:Str):Option Clash:=bif decide (0< (oneF o a b p).2.2) then some ⟨p,(oneF o a b p).2.2⟩ else none
def zd8 (o a b:List File):List File:=(zbm o a b).filterMap (zh7 o a b)
def zeT (o a b:List File):List Clash:=(zbm o a b).filterMap (zgn o a b)
theorem zix {o a b:List File}(ho:TB o)(ha:TB a)(hb:TB b)(to:zaE o)(ta:zaE a)(tb:zaE b){ps:List Str}(hp:ps.length<=1000): ∀ (k i m:Nat) (fs:List File) (cs:List Clash),i+k=ps.length->k<m->fs.length<=i->cs.length<=i->
 zdA o a b ps (fun y16 y19 _=>some (y16,y19)) m fs cs (i:Int)=some (fs++(ps.drop i).filterMap (zh7 o a b),cs++(ps.drop i).filterMap (zgn o a b))
 |k,i,0,fs,cs,_,hm,_,_=>by omega
 |0,i,m+1,fs,cs,hi,_,_,_=>by
  obtain rfl:i=ps.length:=by omega
  simp only[zdA,zad,aC,List.drop_length]
  simp
 |k+1,i,m+1,fs,cs,hi,hm,hf,hc=>by
  have hlt:i<ps.length:=by omega
  have hx:ps[i]? =some ps[i]:=aB hlt
  have ih:=fun fs cs h1 h2=>zix ho ha hb to ta tb hp k (i+1) m fs cs (by omega) (by omega) h1 h2
  have ht:=zan (ziw to ta tb ps[i])
  simp only[zdA,jn,zam hx,zac hx,aD,aA,zab hlt (show ps.length<=maxi by unfold maxi;omega),zms ho ha hb to ta tb,apN (show(oneF o a b ps[i]).1.length<=1048576 by omega),ap1 (x:=(⟨ps[i],(oneF o a b ps[i]).1⟩:File)) (show fs.length<=1048576 by omega),ap1 (x:=(⟨ps[i],(oneF o a b ps[i]).2.2⟩:Clash)) (show cs.length<=1048576 by omega)]
  rw[aI hlt,List.filterMap_cons,List.filterMap_cons]
  unfold zh7 zgn at ih ⊢
  cases(oneF o a b ps[i]).2.1<;>cases decide (0< (oneF o a b ps[i]).2.2)<;>simp only[aD,aC]
  ·rw[ih _ _ (by omega) (by omega)]
  ·rw[ih _ _ (by omega) (by simp;omega)];simp
  ·rw[ih _ _ (by simp;omega) (by omega)];simp
  ·rw[ih _ _ (by simp;omega) (by simp;omega)];simp
theorem znE {o a b:List File}(ho:TB o)(ha:TB a)(hb:TB b)(to:zaE o)(ta:zaE a)(tb:zaE b)(so:o.length<=100)(sa:a.length<=100)(sb:b.length<=100):ziC o a b=some (zd8 o a b,zeT o a b):=by
 have hl:=ze9 o a b
 unfold ziC
 rw[zkp ho ha hb so sa sb,aA]
 simp only[jn,zal]
 have:=zix ho ha hb to ta tb (ps:=zbm o a b) (by omega) (zbm o a b).length 0 ((zbm o a b).length+1) [] [] (by omega) (by omega) (by simp) (by simp)
 refine this.trans ?_
 simp[zd8,zeT]
theorem zf4 {o a b:List File}(ho:TB o)(ha:TB a)(hb:TB b)(to:zaE o)(ta:zaE a)(tb:zaE b)(so:o.length<=100)(sa:a.length<=100)(sb:b.length<=100):TB (zd8 o a b):=by
 have hl:=ze9 o a b
 refine⟨Nat.le_trans (List.length_filterMap_le _ _) (by omega),fun f hf=>?_⟩
 obtain⟨p,hp,he⟩:=List.mem_filterMap.1 hf
 unfold zh7 at he
 cases h2:(oneF o a b p).2.1 with
 |false=>rw[h2]at he;cases he
 |true=>
  rw[h2,aD]at he
  cases he
  have ht:=ziw to ta tb p
  have hlen:=zan ht
  refine⟨?_,by show(oneF o a b p).1.length<=_;omega,zbw (s:=(oneF o a b p).1) (by omega) (zaH ht)⟩
  rcases pathsF_mem.1 hp with ⟨g,hg,e⟩ |⟨g,hg,e⟩ |⟨g,hg,e⟩
  ·rw[<- e];exact(ho.2 g hg).path
  ·rw[<- e];exact(ha.2 g hg).path
  ·rw[<- e];exact(hb.2 g hg).path
def zcI (o a b:List File):List File×List Clash:=bif((zeT o a b).length:Int)==0 && !zaA (zd8 o a b) then(o,[⟨[],4⟩]) else(zd8 o a b,zeT o a b)
theorem zkP {o a b:List File}(ho:TB o)(ha:TB a)(hb:TB b)(to:zaE o)(ta:zaE a)(tb:zaE b)(so:o.length<=100)(sa:a.length<=100)(sb:b.length<=100):zfG o a b=some (zcI o a b):=by
 unfold zfG zcI
 simp only[jn,znE ho ha hb to ta tb so sa sb,aA,zkH (zf4 ho ha hb to ta tb so sa sb),ziq ho]
 cases(((zeT o a b).length:Int)==0)<;>cases zaA (zd8 o a b)<;>rfl
theorem ziS {o a b:List File}(ho:TB o)(ha:TB a)(hb:TB b)(to:zaE o)(ta:zaE a)(tb:zaE b)(so:o.length<=100)(sa:a.length<=100)(sb:b.length<=100):TB (zcI o a b).1:=by
 unfold zcI
 cases(((zeT o a b).length:Int)==0 && !zaA (zd8 o a b))
 ·exact zf4 ho ha hb to ta tb so sa sb
 ·exact ho
theorem zai {t:List File}(h:zaA t=true):zaE t:=by
 intro f hf
 obtain⟨i,hi⟩:=List.mem_iff_getElem?.1 hf
 unfold zaA at h
 simp only[aG]at h
 have:=zaV.1 h.2 i (Nat.zero_le _) (by have:=zaq hi;omega)
 unfold zfe zfd at this
 rw[zbo hi]at this
 simp only[aG]at this
 exact this.1.2.1
theorem zca {t:List File}(h:zaA t=true){f:File}(hf:f∈t):zaX f.Path=true:=by
 obtain⟨i,hi⟩:=List.mem_iff_getElem?.1 hf
 unfold zaA at h
 simp only[aG]at h
 have:=zaV.1 h.2 i (Nat.zero_le _) (by have:=zaq hi;omega)
 unfold zfe zfd at this
 rw[zbo hi]at this
 simp only[aG]at this
 exact this.1.1
theorem zf5 (c:UInt8): ∀ (r w:Str),w.length+r.length+1=sumB (fun p=>p.length+1) (curS c w r)
 | [],w=>by simp[curS,sumB]
 |x::r,w=>by
  unfold curS
  cases x==c with
  |true=>
   rw[aD]
   have:=zf5 c r []
   simp only[sumB,List.length_nil,aL]at this ⊢
   omega
  |false=>
   rw[aC]
   have:=zf5 c r (w++[x])
   simp only[List.length_append,aL,List.length_nil]at this ⊢
   omega
theorem zl7 {c:Nat}: ∀ {l:List Str},(∀ p∈l,p.length+1<=c)->sumB (fun p=>p.length+1) l<=c*l.length
 | [],_=>by simp[sumB]
 |x::l,h=>by
  have h1:=h x (by simp)
  have h2:=zl7 (c:=c) (l:=l) (fun p hp=>h p (List.mem_cons_of_mem _ hp))
  simp only[sumB,aL,Nat.mul_add,Nat.mul_one]
  omega
theorem zcj {s:Str}(h:zaI s=true):s.length<=6:=by
 unfold zaI at h
 simp only[aG,decide_eq_true_eq]at h
 omega
theorem zeD {s:Str}(h:zaX s=true):s.length<=20:=by
 unfold zaX at h
 simp only[aG,decide_eq_true_eq,List.all_eq_true]at h
 have h1:=zf5 47 s []
 have h2:=zl7 (c:=7) (l:=curS 47 [] s) (fun p hp=>by have:=zcj (h.2 p hp);omega)
 simp only[List.length_nil]at h1
 omega
structure Gd (q:Prop) (r:Repo):Prop where
 rb:RpB r
 ok:zaf r=true
 hd:q->r.Commits≠ []->r.Heads≠ []
variable {q:Prop}
def zav (r:Repo)(i:Nat):List File:=(r.Commits.getD i noCommit).Tree
theorem Gd.tree {r:Repo}(h:Gd q r){i:Nat}(hi:i<r.Commits.length):TB (zav r i)/\zaA (zav r i)=true/\zaE (zav r i)/\(zav r i).length<=8:=by
 have hx:r.Commits[i]? =some r.Commits[i]:=aB hi
 have h1:zaA (zav r i)=true:=by
  have:=zeB h.ok hi
  unfold zjr at this
  simp only[aG]at this
  exact this.2.2.2.2
 refine⟨?_,h1,zai h1,zat h1⟩
 unfold zav
 rw[zdn hx]
 exact(h.rb.cat hx).tree
theorem zhq:TB ([]:List File)/\zaA []=true/\zaE []/\([]:List File).length<=8:=⟨TB.nil,rfl,fun f hf=>by simp at hf,by simp⟩
theorem zdj {r:Repo}{z:Int}(h0:0<=z)(h1:z<=(r.Commits.length:Int)-1):gi r.Commits z=some (r.Commits.getD z.toNat noCommit):=by
 obtain⟨n,rfl⟩:=Int.eq_ofNat_of_zero_le h0
 exact zit (by omega)
theorem zh8 (n:Str)(a:Int): ∀ (hs:List Head),zdt n a false hs≠ []
 | []=>by simp[zdt]
 |h::hs=>by
  unfold zdt
  cases hb:Op.bytesLess h.Name n
  ·simp
  ·have:=zh8 n a hs
   cases(h.Name !=n)<;>simp[this]
def zdZ (n:Str)(a:Int)(h:Head):Head:=bif h.Name==n then⟨n,a⟩ else h
theorem zf6 (n:Str)(a:Int): ∀ (hs:List Head),(∀ h∈hs,h.Name≠n)->zdt n a true hs=hs
 | [],_=>rfl
 |h::hs,hn=>by
  have h1:(h.Name !=n)=true:=by simpa using hn h (by simp)
  unfold zdt
  rw[h1,Bool.true_or,zf6 n a hs (fun x hx=>hn x (List.mem_cons_of_mem _ hx))]
  rfl
theorem zfM (n:Str)(a:Int): ∀ (hs:List Head),hs.Pairwise (fun x y=>x.Name<y.Name)->(∃ h∈hs,h.Name=n)->zdt n a false hs=hs.map (zdZ n a)
 | [],_,h=>by obtain⟨x,hx,_⟩:=h;simp at hx
 |h::hs,hp,he=>by
  obtain⟨p1,p2⟩:=List.pairwise_cons.1 hp
  unfold zdt
  rw[List.map_cons]
  cases hb:Op.bytesLess h.Name n with
  |true=>
   rw[zaJ]at hb
   have hlt:h.Name<n:=by simpa using hb
   have hne:h.Name≠n:=fun e=>by rw[e]at hlt;exact zaj _ hlt
   have h1:(h.Name !=n)=true:=by simpa using hne
   have h2:(h.Name==n)=false:=beq_false_of_ne hne
   have ht: ∃ x∈hs,x.Name=n:=by
    obtain⟨x,hx,e⟩:=he
    rcases List.mem_cons.1 hx with e2 |e2
    ·rw[e2]at e;exact absurd e hne
    ·exact⟨x,e2,e⟩
   rw[h1]
   simp only[aK,Bool.and_false,aC,aD,List.nil_append,Bool.or_false,List.singleton_append]
   rw[zfM n a hs p2 ht]
   unfold zdZ
   rw[h2]
   rfl
  |false=>
   rw[zaJ]at hb
   have hge:n<=h.Name:=zf0.1 (by simpa using hb)
   cases h2:h.Name==n with
   |true=>
    have e:h.Name=n:=by simpa using h2
    have h1:(h.Name !=n)=false:=by rw[bne,h2];rfl
    have hno: ∀ x∈hs,x.Name≠n:=fun x hx e2=>by
     have:=p1 x hx
     rw[e,e2]at this
     exact zaj _ this
    rw[h1,Bool.not_false,Bool.or_true,zf6 n a hs hno]
    have hm:hs.map (zdZ n a)=hs:=by
     conv=>rhs;rw[<- List.map_id hs]
     refine List.map_congr_left (fun x hx=>?_)
     unfold zdZ
     rw[beq_false_of_ne (hno x hx)]
     rfl
    rw[hm]
    unfold zdZ
    rw[h2]
    rfl
   |false=>
    exfalso
    have hne:n≠h.Name:=fun e=>by rw[e]at h2;simp at h2
    have hlt:=zbf hge hne
    obtain⟨x,hx,e⟩:=he
    rcases List.mem_cons.1 hx with e2 |e2
    ·rw[e2]at e;exact hne e.symm
    ·have:=p1 x e2
     rw[e]at this
     exact zaj _ (zaR hlt this)
theorem zgW {r:Repo}(h:zaf r=true):r.Heads.Pairwise (fun x y=>x.Name<y.Name):=by
 unfold zaf zcu at h
 simp only[aG]at h
 have hg:=zaV.1 h.2.2.1
 have step: ∀ i,(hi:i+1<r.Heads.length)->(r.Heads[i]'(by omega)).Name<r.Heads[i+1].Name:=fun i hi=>by
  have:=hg (i+1) (by omega) (by omega)
  unfold zfc at this
  rw[zbA (aB hi),aF (by omega),Nat.add_sub_cancel,zbA (aB (show i<r.Heads.length by omega))]at this
  simp only[aD,aG,zaJ,decide_eq_true_eq]at this
  exact this.2.2
 refine List.pairwise_iff_getElem.2 fun i j hi hj hij=>?_
 induction j with
 |zero=>omega
 |succ j ih=>
  rcases Nat.lt_or_ge i j with h1 |h1
  ·exact zaR (ih (by omega) h1) (step j hj)
  ·have:i=j:=by omega
   subst this
   exact step i hj
theorem znK {r:Repo}{n:Str}(h:0<=atB r n): ∃ x∈r.Heads,x.Name=n:=by
 unfold atB at h
 cases hf:r.Heads.find? (fun h=>h.Name==n)with
 |none=>rw[hf]at h;simp at h
 |some x=>exact⟨x,List.mem_of_find?_eq_some hf,by simpa using List.find?_some hf⟩
theorem zlM {r:Repo}(h:zaf r=true){n:Str}(ha:0<=atB r n)(b:Int):headR r n b=⟨r.Commits,r.Heads.map (zdZ n b)⟩:=by
 unfold headR
 rw[zfM n b r.Heads (zgW h) (znK ha)]
theorem zoI {r:Repo}(h:zaf r=true){n:Str}(ha:0<=atB r n){b:Int}(h0:0<=b)(h1:b<=(r.Commits.length:Int)-1):zaf (headR r n b)=true:=by
 rw[zlM h ha]
 have hh:=h
 unfold zaf zcu at h ⊢
 simp only[aG,List.length_map]at h ⊢
 refine⟨h.1,h.2.1,?_,h.2.2.2⟩
 have hg:=zaV.1 h.2.2.1
 refine zaV.2 fun i hi0 hi=>?_
 have hil:i<r.Heads.length:=by omega
 have hx:r.Heads[i]? =some r.Heads[i]:=aB hil
 have hm: ∀ j,j<r.Heads.length->((r.Heads.map (zdZ n b)).getD j zdR).Name=(r.Heads.getD j zdR).Name:=fun j hj=>by
  have hxj:r.Heads[j]? =some r.Heads[j]:=aB hj
  rw[zbA hxj,zbA (f:=zdZ n b r.Heads[j]) (by rw[List.getElem?_map,hxj];rfl)]
  unfold zdZ
  cases he:r.Heads[j].Name==n with
  |true=>simpa using (by simpa using he:r.Heads[j].Name=n).symm
  |false=>rfl
 have hat:upB r.Commits.length ((r.Heads.map (zdZ n b)).getD i zdR).At=true:=by
  rw[zbA (f:=zdZ n b r.Heads[i]) (by rw[List.getElem?_map,hx];rfl)]
  unfold zdZ upB
  cases r.Heads[i].Name==n with
  |true=>simp[h0,h1]
  |false=>
   have:=zfB hh (List.getElem_mem hil)
   simp[this.1,this.2.1]
 have:=hg i hi0 (by omega)
 unfold zfc at this ⊢
 simp only[aG]at this ⊢
 refine⟨by rw[hm i hil];exact this.1,hat,?_⟩
 rw[hm i hil,hm (i-1) (by omega)]
 exact this.2.2
def ziI (r:Repo)(a b:Int):List File:=bif((za8 r a b).length:Int)==0 then [] else zav r ((za8 r a b).getD ((za8 r a b).length-1) 0).toNat
theorem zi8 {r:Repo}(h:Gd q r){a b:Int}(ha:0<=a)(ha':a<=(r.Commits.length:Int)-1)(hb:0<=b)(hb':b<=(r.Commits.length:Int)-1):zh1 r a b=some (ziI r a b)/\TB (ziI r a b)/\zaA (ziI r a b)=true:=by
 have hs:=(zag h.ok).1
 have hl:=zmb r a b
 unfold zh1 ziI
 rw[zns h.ok ha ha' hb hb',aA]
 cases hz:((za8 r a b).length:Int)==0 with
 |true=>exact⟨rfl,zhq.1,zhq.2.1⟩
 |false=>
  have hne:((za8 r a b).length:Int)≠0:=by simpa using hz
  have e:w64 (((za8 r a b).length:Int)-1)=(((za8 r a b).length-1:Nat):Int):=by rw[zah (by omega) (by omega)];omega
  have hlt:(za8 r a b).length-1< (za8 r a b).length:=by omega
  have hm:(za8 r a b).getD ((za8 r a b).length-1) 0∈za8 r a b:=by
   rw[zck (aB hlt)];exact List.getElem_mem hlt
  obtain⟨q0,q1⟩:=zj8 hm
  rw[aC,aC,e,zh6 hlt,aA,zdj q0 q1,aA]
  have:=h.tree (i:=((za8 r a b).getD ((za8 r a b).length-1) 0).toNat) (by omega)
  exact⟨rfl,this.1,this.2.1⟩
def zeb (r:Repo)(n:Str)(c:Commit):Repo×Int:=bif zaf (addR r n c) then(addR r n c,0) else(r,5)
def zk3 (r:Repo)(n who:Str)(b:Int):Repo×Int:=
 bif zfS (zbn r (atB r n)) b then(r,2)
 else bif zfS (zbn r b) (atB r n) then(headR r n b,3)
 else
  let j:=zcI (ziI r (atB r n) b) (zav r (atB r n).toNat) (zav r b.toNat)
  bif decide (0< (j.2.length:Int)) then(r,4) else zeb r n ⟨[atB r n,b],who,j.1⟩
theorem Gd.add {r:Repo}(h:Gd q r){n:Str}{c:Commit}(hn:n.length<=1048576)(hc:CB c)(ho:zaf (addR r n c)=true):Gd q (addR r n c):=by
 obtain⟨s1,s2⟩:=zag h.ok
 exact⟨h.rb.addR (by omega) (by omega) hn hc,ho,fun _ _=>zh8 _ _ _⟩
theorem Gd.head {r:Repo}(h:Gd q r){n:Str}{b:Int}(hn:n.length<=1048576)(ho:zaf (headR r n b)=true):Gd q (headR r n b):=by
 obtain⟨s1,s2⟩:=zag h.ok
 exact⟨h.rb.headR (by omega) hn b,ho,fun _ _=>zh8 _ _ _⟩
theorem ziG {r:Repo}(h:Gd q r){n:Str}{c:Commit}(hn:n.length<=1048576)(hc:CB c):Gd q (zeb r n c).1:=by
 unfold zeb
 cases ho:zaf (addR r n c)with
 |true=>exact h.add hn hc ho
 |false=>exact h
theorem zkQ {r:Repo}(h:Gd q r){n:Str}{c:Commit}(hn:n.length<=1048576)(hc:CB c):((zeL r n c).bind fun z130=>(zdJ z130).bind fun z163=>bif(!z163) then(some (r,(5:Int))) else(some (z130,0)))=some (zeb r n c):=by
 obtain⟨s1,s2⟩:=zag h.ok
 rw[zmr h.rb (by omega) (by omega) n hc,aA,zgq (h.rb.addR (by omega) (by omega) hn hc),aA]
 unfold zeb
 cases zaf (addR r n c)<;>rfl
theorem zpS {r:Repo}(h:Gd q r){n who:Str}{b:Int}(hn:n.length<=1048576)(hw:who.length<=1048576)(ha:0<=atB r n)(hb:0<=b)(hb':b<=(r.Commits.length:Int)-1):zhE r n who b=some (zk3 r n who b)/\Gd q (zk3 r n who b).1:=by
 obtain⟨s1,s2⟩:=zag h.ok
 have ha':atB r n<=(r.Commits.length:Int)-1:=by rcases at_range h.ok n with e |e<;>omega
 have l1:=zdW r (atB r n)
 have l2:=zdW r b
 obtain⟨e1,e2,e3⟩:=zi8 h ha ha' hb hb'
 obtain⟨ta,ta2,ta3,ta4⟩:=h.tree (i:=(atB r n).toNat) (by omega)
 obtain⟨tb,tb2,tb3,tb4⟩:=h.tree (i:=b.toNat) (by omega)
 have hbs:=zat e3
 have hj:=ziS e2 ta tb (zai e3) ta3 tb3 (by omega) (by omega) (by omega)
 have hc:CB ⟨[atB r n,b],who,(zcI (ziI r (atB r n) b) (zav r (atB r n).toNat) (zav r b.toNat)).1⟩:=⟨by simp,hw,hj⟩
 unfold zhE zk3
 simp only[zhR h.rb,aA,zha h.ok ha ha',zha h.ok hb hb',zjm (show(zbn r (atB r n)).length<=1000000 by omega),zjm (show(zbn r b).length<=1000000 by omega),zi2 h.rb (show r.Heads.length<=100000 by omega),zdj ha ha',zdj hb hb',e1]
 cases zfS (zbn r (atB r n)) b with
 |true=>exact⟨rfl,h⟩
 |false=>
  cases zfS (zbn r b) (atB r n)with
  |true=>exact⟨rfl,h.head hn (zoI h.ok ha hb hb')⟩
  |false=>
   simp only[aC]
   have hjoin:=zkP e2 ta tb (zai e3) ta3 tb3 (by omega) (by omega) (by omega)
   unfold zav at hjoin hc ⊢
   rw[hjoin,aA]
   cases decide (0< ((zcI (ziI r (atB r n) b) (r.Commits.getD (atB r n).toNat noCommit).Tree (r.Commits.getD b.toNat noCommit).Tree).2.length:Int))with
   |true=>exact⟨rfl,h⟩
   |false=>exact⟨zkQ h hn hc,ziG h hn hc⟩
def zkJ (r:Repo)(n who:Str)(b:Int):Bool:=decide (atB r n<0)||(!zaI who || !upB r.Commits.length b)
def zkv (r:Repo)(n who:Str)(b:Int):Repo×Int:=bif zaf r then(bif zkJ r n who b then(r,1) else zk3 r n who b) else(zdK,1)
theorem zjY {r:Repo}{n who:Str}{b:Int}(h:zkJ r n who b=false):0<=atB r n/\0<=b/\b<=(r.Commits.length:Int)-1:=by
 unfold zkJ upB at h
 simp only[Bool.or_eq_false_iff,decide_eq_false_iff_not,Bool.not_eq_false',aG,decide_eq_true_eq]at h
 omega
theorem zlC {r:Repo}(h:Gd q r){n who:Str}{b:Int}(hn:n.length<=1048576)(hw:who.length<=1048576):ze0 r n who b=some (zkv r n who b)/\Gd q (zkv r n who b).1:=by
 unfold ze0 zkv
 have hwm:=zak hw
 rw[zgq h.rb,aA,h.ok,aK,aC,aD]
 simp only[jn,zhR h.rb,aA,zcd hwm,zeQ,zd7 (zak h.rb.coms),zir h.rb,show(⟨r.Commits,r.Heads⟩:Repo)=r from rfl]
 rw[show(decide ((0:Int)<=b)&&decide (b<=(r.Commits.length:Int)-1))=upB r.Commits.length b from rfl]
 have key:zkJ r n who b=false->((zhE r n who b).bind fun z58=>some (z58.1,z58.2))=some (zk3 r n who b)/\Gd q (zk3 r n who b).1:=fun hbad=>by
  obtain⟨p1,p2,p3⟩:=zjY hbad
  obtain⟨q1,q2⟩:=zpS h hn hw p1 p2 p3
  rw[q1]
  exact⟨rfl,q2⟩
 unfold zkJ at key ⊢
 cases h1:decide (atB r n<0)with
 |true=>exact⟨rfl,h⟩
 |false=>
  cases h2:zaI who with
  |false=>exact⟨rfl,h⟩
  |true=>
   cases h3:upB r.Commits.length b with
   |false=>exact⟨rfl,h⟩
   |true=>exact key (by rw[h1,h2,h3];rfl)
end Go.Vm
namespace Go.Vm
open Go Go.Sx
set_option linter.unusedSimpArgs false
set_option linter.unusedVariables false
section
variable {r:l30Rd}{p:Int}
structure Drawn (r:Repo):Prop where
 rb:RpB r
 coms:r.Commits.length<=16
 heads:r.Heads.length<=6
theorem Gd.drawn {r:Repo}(h:Gd True r):Drawn r:=by
 obtain⟨s1,s2⟩:=zag h.ok
 exact⟨h.rb,s1,by omega⟩
end
inductive Rc (r:Repo):Nat->Nat->Prop
 |refl (a:Nat):Rc r a a
 |step {a b:Nat} {p:Int}:Rc r a b->p∈zae r b->Rc r a p.toNat
theorem Rc.trans {r:Repo}{a b c:Nat}(h:Rc r a b)(k:Rc r b c):Rc r a c:=by
 induction k with
 |refl=>exact h
 |step _ hp ih=>exact Rc.step ih hp
theorem Rc.head {r:Repo}{a c:Nat}(h:Rc r a c):c=a \/ ∃ p∈zae r a,Rc r p.toNat c:=by
 induction h with
 |refl=>exact .inl rfl
 | @step b p hb hp ih=>
  rcases ih with e |⟨q,hq,hc⟩
  ·subst e
   exact .inr ⟨p,hp,Rc.refl _⟩
  ·exact .inr ⟨q,hq,Rc.step hc hp⟩
theorem Rc.le {r:Repo}(hr:zaf r=true){a c:Nat}(ha:a<r.Commits.length)(h:Rc r a c):c<=a/\c<r.Commits.length:=by
 induction h with
 |refl=>exact⟨Nat.le_refl _,ha⟩
 |step _ hp ih=>
  have:=(zaZ hr ih.2).2 _ hp
  omega
def mkd (mk:List Bool)(j:Nat):Prop:=mk.getD j false=true
theorem zkR {mk:List Bool}{j:Nat}(h:mkd mk j):j<mk.length:=by
 unfold mkd at h
 rcases Nat.lt_or_ge j mk.length with h1 |h1
 ·exact h1
 ·rw[List.getD,List.getElem?_eq_none (by omega)]at h;simp at h
theorem zlx {mk:List Bool}{p:Int}{j:Nat}:mkd (zlw mk p) j↔mkd mk j\/(j=p.toNat/\j<mk.length):=by
 unfold mkd zlw
 by_cases e:p.toNat=j
 ·subst e
  by_cases hl:p.toNat<mk.length
  ·simp[List.getD,hl]
  ·rw[List.set_eq_of_length_le (by omega)]
   simp[hl]
 ·simp only[List.getD,List.getElem?_set_ne e]
  constructor
  ·exact .inl
  ·rintro(h |⟨h,_⟩)
   ·exact h
   ·exact absurd h.symm e
theorem zj5: ∀ (ps:List Int) (mk:List Bool) (j:Nat),mkd (ps.foldl zlw mk) j↔mkd mk j\/(∃ p∈ps,j=p.toNat/\j<mk.length)
 | [],mk,j=>by simp
 |p::ps,mk,j=>by
  rw[List.foldl_cons,zj5 ps,zlx,zhu]
  constructor
  ·rintro((h |h) |⟨q,hq,h⟩)
   ·exact .inl h
   ·exact .inr ⟨p,by simp,h⟩
   ·exact .inr ⟨q,List.mem_cons_of_mem _ hq,h⟩
  ·rintro(h |⟨q,hq,h⟩)
   ·exact .inl (.inl h)
   ·rcases List.mem_cons.1 hq with e |e
    ·subst e;exact .inl (.inr h)
    ·exact .inr ⟨q,e,h⟩
theorem stepM_mkd {r:Repo}{i:Nat}{mk:List Bool}{j:Nat}:mkd (zj4 r i mk) j↔mkd mk j\/(mkd mk i /\ ∃ p∈zae r i,j=p.toNat/\j<mk.length):=by
 unfold zj4
 cases hb:mk.getD i false with
 |true=>
  rw[aD,zj5]
  constructor
  ·rintro(h |h)
   ·exact .inl h
   ·exact .inr ⟨hb,h⟩
  ·rintro(h |⟨_,h⟩)
   ·exact .inl h
   ·exact .inr h
 |false=>
  rw[aC]
  constructor
  ·exact .inl
  ·rintro(h |⟨h,_⟩)
   ·exact h
   ·unfold mkd at h;rw[hb]at h;cases h
def zth (r:Repo)(a i:Nat)(mk:List Bool):Prop:=(∀ j,mkd mk j->Rc r a j)/\mkd mk a /\ ∀ j,i<=j->mkd mk j -> ∀ p∈zae r j,mkd mk p.toNat
theorem zi6 {r:Repo}(hr:zaf r=true){a:Nat}: ∀ (i:Nat) (mk:List Bool),i<=r.Commits.length->mk.length=r.Commits.length->zth r a i mk->zth r a 0 (ze3 r i mk)
 |0,mk,_,_,h=>h
 |i+1,mk,hi,hl,h=>by
  unfold ze3
  refine zi6 hr i _ (by omega) (by rw[zga];exact hl) ?_
  obtain⟨h1,h2,h3⟩:=h
  have hp:=(zaZ hr (show i<r.Commits.length by omega)).2
  refine⟨fun j hj=>?_,stepM_mkd.2 (.inl h2),fun j hij hj p hpj=>?_⟩
  ·rcases stepM_mkd.1 hj with h |⟨h,p,hpp,e,_⟩
   ·exact h1 j h
   ·rw[e];exact Rc.step (h1 i h) hpp
  ·have hj':mkd mk j:=by
    rcases stepM_mkd.1 hj with h |⟨h,q,hqq,e,_⟩
    ·exact h
    ·have:=hp q hqq;omega
   have hjl:=zkR hj'
   have hpb:=(zaZ hr (show j<r.Commits.length by omega)).2 p hpj
   rcases Nat.lt_or_ge i j with h4 |h4
   ·exact stepM_mkd.2 (.inl (h3 j (by omega) hj' p hpj))
   ·have e:j=i:=by omega
    subst e
    exact stepM_mkd.2 (.inr ⟨hj',p,hpj,rfl,by omega⟩)
theorem zdS {r:Repo}(hr:zaf r=true){a:Nat}(ha:a<r.Commits.length)(j:Nat):mkd (zaw r a) j↔Rc r a j:=by
 have h0:zth r a (a+1) ((List.replicate r.Commits.length false).set a true):=by
  have hm: ∀ j,mkd ((List.replicate r.Commits.length false).set a true) j↔j=a:=fun j=>by
   have:=zlx (mk:=List.replicate r.Commits.length false) (p:=(a:Int)) (j:=j)
   unfold zlw at this
   rw[Int.toNat_natCast]at this
   rw[this]
   constructor
   ·rintro(h |h)
    ·unfold mkd at h
     rw[List.getD,List.getElem?_replicate]at h
     split at h<;>simp at h
    ·exact h.1
   ·intro e
    exact .inr ⟨e,by rw[e];simpa using ha⟩
  refine⟨fun j hj=>?_,(hm a).2 rfl,fun j hij hj=>?_⟩
  ·rw[(hm j).1 hj];exact Rc.refl _
  ·have:=(hm j).1 hj;omega
 have h:=zi6 hr (a+1) _ (by omega) (by simp) h0
 constructor
 ·exact h.1 j
 ·intro hc
  induction hc with
  |refl=>exact h.2.1
  |step _ hp ih=>exact h.2.2 _ (Nat.zero_le _) ih _ hp
theorem zcv {r:Repo}(hr:zaf r=true){a:Int}(h0:0<=a)(h1:a<=(r.Commits.length:Int)-1)(x:Int):x∈zbn r a↔0<=x/\Rc r a.toNat x.toNat:=by
 unfold zbn zjl
 rw[zbh,List.mem_map]
 constructor
 ·rintro⟨i,hi,rfl⟩
  rw[List.mem_filter,List.mem_range]at hi
  exact⟨Int.natCast_nonneg i,(zdS hr (show a.toNat<r.Commits.length by omega) i).1 hi.2⟩
 ·rintro⟨hx,h⟩
  have hl:=(h.le hr (by omega)).2
  exact⟨x.toNat,List.mem_filter.2 ⟨List.mem_range.2 hl,(zdS hr (show a.toNat<r.Commits.length by omega) x.toNat).2 h⟩,Int.toNat_of_nonneg hx⟩
theorem zbq {l:List Int}{n:Int}:zfS l n=true↔n∈l:=by
 unfold zfS
 rw[List.any_eq_true]
 constructor
 ·rintro⟨x,hx,e⟩
  have:x=n:=by simpa using e
  rw[<- this];exact hx
 ·intro h
  exact⟨n,h,by simp⟩
def zgr (l:List Int):Prop:=l.Pairwise (· < ·)
theorem zj6 (n:Nat):(List.range n).Pairwise (· < ·):=List.pairwise_lt_range
theorem zh3 (mk:List Bool):zgr (zjl mk):=by
 unfold zgr zjl
 rw[List.pairwise_map]
 exact((zj6 _).sublist (List.filter_sublist)).imp fun h=>by simpa using h
theorem zhv (r:Repo)(a:Int):zgr (zbn r a):=zh3 _
theorem zgr.ext: ∀ {xs ys:List Int},zgr xs->zgr ys->(∀ a,a∈xs↔a∈ys)->xs=ys
 | [],[],_,_,_=>rfl
 | [],y::ys,_,_,h=>by have:=(h y).2 (by simp);simp at this
 |x::xs,[],_,_,h=>by have:=(h x).1 (by simp);simp at this
 |x::xs,y::ys,hx,hy,h=>by
  have hx':=List.pairwise_cons.1 hx
  have hy':=List.pairwise_cons.1 hy
  have e:x=y:=by
   rcases List.mem_cons.1 ((h x).1 (by simp))with e |hm
   ·exact e
   ·rcases List.mem_cons.1 ((h y).2 (by simp))with e |hm2
    ·exact e.symm
    ·have h1:=hx'.1 y hm2
     have h2:=hy'.1 x hm
     omega
  subst e
  rw[zgr.ext hx'.2 hy'.2 (fun a=>by
   constructor
   ·intro ha
    rcases List.mem_cons.1 ((h a).1 (List.mem_cons_of_mem _ ha))with e2 |e2
    ·have:=hx'.1 a ha;omega
    ·exact e2
   ·intro ha
    rcases List.mem_cons.1 ((h a).2 (List.mem_cons_of_mem _ ha))with e2 |e2
    ·have:=hy'.1 a ha;omega
    ·exact e2)]
theorem zmJ {r:Repo}(h:zaf r=true){i:Nat}(hi:i<r.Commits.length){F:List Bool->Option (List Bool)}: ∀ (j k m:Nat) (mk:List Bool),k+j=(zae r i).length->j<m->mk.length=r.Commits.length->
 zbg F (r.Commits.getD i noCommit) m (k:Int) mk=F (((zae r i).drop k).foldl zlw mk)
 |j,k,0,mk,_,hm,_=>by omega
 |0,k,m+1,mk,hk,_,hl=>by
  obtain rfl:k=(zae r i).length:=by omega
  have e:(r.Commits.getD i noCommit).Parents=zae r i:=rfl
  simp only[zbg,e,zad,aC,List.drop_length,List.foldl_nil]
 |j+1,k,m+1,mk,hk,hm,hl=>by
  have hlt:k< (zae r i).length:=by omega
  have hx:(zae r i)[k]? =some (zae r i)[k]:=aB hlt
  obtain⟨hs,hp⟩:=zaZ h hi
  obtain⟨p0,p1⟩:=hp _ (List.getElem_mem hlt)
  have e:(r.Commits.getD i noCommit).Parents=zae r i:=rfl
  have hn:(((zae r i)[k].toNat:Nat):Int)=(zae r i)[k]:=by omega
  have hg:gi mk (zae r i)[k]=some (mk.getD (zae r i)[k].toNat false):=by
   rw[<- hn]
   exact zcZ (by omega)
  have hsi:siM mk (zae r i)[k] true=some (zlw mk (zae r i)[k]):=by
   have:=zbJ (xs:=mk) (i:=(zae r i)[k].toNat) (by omega) true
   rw[hn]at this
   exact this
  simp only[zbg,e,zam hx,aD,zac hx,hg,hsi,aA]
  rw[zab hlt (by unfold maxi;omega),zmJ h hi j (k+1) m _ (by omega) (by omega) (by rw[zhu];exact hl),aI hlt,List.foldl_cons]
theorem zmK {r:Repo}(h:zaf r=true): ∀ (i m:Nat) (mk:List Bool),i<=r.Commits.length->i<m->mk.length=r.Commits.length->
 zaT r (fun _ y=>some y) m ((i:Int)-1) mk=some (ze3 r i mk)
 |i,0,mk,_,hm,_=>by omega
 |0,m+1,mk,_,_,_=>by
  simp only[zaT]
  rw[aE (by omega)]
  rfl
 |i+1,m+1,mk,hi,hm,hl=>by
  have hs:=(zag h).1
  have hil:i<r.Commits.length:=by omega
  have e:(((i+1:Nat):Int))-1=(i:Int):=by omega
  have e0:(r.Commits.getD i noCommit).Parents=zae r i:=rfl
  have hstep:(((i:Int)-1))=(i:Int)-1:=rfl
  simp only[zaT,jn,e]
  rw[aF (by omega),aD,zcZ (by omega),aA]
  have ih:=zmK h i m (zj4 r i mk) (by omega) (by omega) (by rw[zga];exact hl)
  unfold ze3
  rw[<- ih]
  unfold zj4
  have hw:w64 ((i:Int)-1)=(i:Int)-1:=zd7 (show i<=maxi by unfold maxi;omega)
  cases mk.getD i false with
  |false=>simp only[aC,hw]
  |true=>
   have h2:=zmJ h hil (F:=fun y27=>zaT r (fun _ y=>some y) m (w64 ((i:Int)-1)) y27) (zae r i).length 0 ((zae r i).length+1) mk (by omega) (by omega) hl
   simp only[aD,zit hil,aA,e0,zal]
   refine h2.trans ?_
   rw[List.drop_zero,hw]
theorem zdh {r:Repo}(h:zaf r=true){a:Int}(h0:0<=a)(h1:a<=(r.Commits.length:Int)-1):za2 r a=some (zaw r a.toNat):=by
 have hs:=(zag h).1
 obtain⟨n,rfl⟩:=Int.eq_ofNat_of_zero_le h0
 have hn:n<r.Commits.length:=by omega
 have hl:(List.replicate r.Commits.length false).length=r.Commits.length:=by simp
 unfold za2 zaw
 rw[zgE (by simp[lim];omega),aA,zcZ (by rw[hl];exact hn),aA,zbJ (by rw[hl];exact hn),aA]
 simp only[jn]
 have e:=zmK h (n+1) (((n:Int)+1-0).toNat+1) ((List.replicate r.Commits.length false).set n true) (by omega) (by omega) (by simp)
 rw[show(((n+1:Nat):Int))-1=(n:Int) by omega]at e
 refine e.trans ?_
 rw[Int.toNat_natCast]
theorem zhT {mk:List Bool}(hl:mk.length<=1000): ∀ (k i m:Nat) (out:List Int),i+k=mk.length->k<m->out.length<=i->
 zdl mk (fun y69 _=>some y69) m out (i:Int)=some (out++((List.range' i k).filter fun i=>mk.getD i false).map Int.ofNat)
 |k,i,0,out,_,hm,_=>by omega
 |0,i,m+1,out,hi,_,_=>by
  obtain rfl:i=mk.length:=by omega
  simp only[zdl,zad,aC]
  simp
 |k+1,i,m+1,out,hi,hm,ho=>by
  have hlt:i<mk.length:=by omega
  have hx:mk[i]? =some mk[i]:=aB hlt
  simp only[zdl,jn,zam hx,aD,zcZ hlt,aA,zab hlt (show mk.length<=maxi by unfold maxi;omega),ap1 (x:=(i:Int)) (show out.length<=1048576 by omega)]
  rw[List.range'_succ,List.filter_cons]
  cases hb:mk.getD i false with
  |true=>
   rw[aD,zhT hl k (i+1) m _ (by omega) (by omega) (by simp;omega),if_pos rfl]
   simp
  |false=>
   rw[aC,zhT hl k (i+1) m _ (by omega) (by omega) (by omega),if_neg (by simp)]
theorem zhj {mk:List Bool}(hl:mk.length<=1000):zbL mk=some (zjl mk):=by
 unfold zbL zjl
 simp only[jn,zal]
 rw[show(0:Int)=((0:Nat):Int) from rfl,zhT hl mk.length 0 (mk.length+1) [] (by omega) (by omega) (by simp),List.range_eq_range']
 rfl
theorem zqK {r:Repo}(hr:zaf r=true){a b:Int}(ha:upB r.Commits.length a=true)(hb:upB r.Commits.length b=true):(zaw r b.toNat).getD a.toNat false=zfS (zbn r b) a:=by
 obtain⟨a0,a1⟩:=zax.1 ha
 obtain⟨b0,b1⟩:=zax.1 hb
 apply zd4
 rw[zbq,zcv hr b0 b1]
 have:=zdS hr (show b.toNat<r.Commits.length by omega) a.toNat
 unfold mkd at this
 rw[this]
 exact⟨fun h=>⟨a0,h⟩,fun h=>h.2⟩
theorem TB.of {t:List File}(hf:Bk.fit t)(h:Bk.bulk t<=1048576):TB t:=⟨zch h,fun f hm=>by
 have h1:Bk.bulk f<=1048576:=zfQ h hm
 have h2:Bk.bulk f=f.Path.length+Bk.bulk f.Text:=rfl
 exact⟨by omega,zch (show Bk.bulk f.Text<=1048576 by omega),(hf.2 f hm).2⟩⟩
theorem RpB.of {r:Repo}(hf:Bk.fit r)(h:Bk.bulk r<=1048576):RpB r:=by
 have h0:Bk.bulk r=Bk.bulk r.Commits+Bk.bulk r.Heads:=rfl
 have hc:Bk.bulk r.Commits<=1048576:=by omega
 have hh:Bk.bulk r.Heads<=1048576:=by omega
 refine⟨zch hc,fun c hm=>?_,zch hh,fun x hm=>?_⟩
 ·have h1:Bk.bulk c<=1048576:=zfQ hc hm
  have h2:Bk.bulk c=Bk.bulk c.Parents+(c.Who.length+Bk.bulk c.Tree):=rfl
  exact⟨zch (show Bk.bulk c.Parents<=1048576 by omega),by omega,TB.of (hf.1.2 c hm).2.2 (by omega)⟩
 ·have h1:Bk.bulk x<=1048576:=zfQ hh hm
  have h2:Bk.bulk x=x.Name.length+0:=rfl
  omega
theorem zfD {r:Repo}(h:RpB r):zaP r=some r:=by
 have hm:=zak h.coms
 have hl:=h.coms
 unfold zaP
 simp only[jn,zal,apN h.heads,aA]
 rw[zc0 (xs:=r.Commits) (p:=fun _=>true) (g:=fun f:Commit=>f) (Z:=fun acc=>some (Repo.mk acc r.Heads)) (f:=fun m acc i=>zbR r _ m i acc r.Heads) (fun m i x acc hx ha=>by
  have hi:=zaq hx
  have hc:=h.cat hx
  simp only[zbR,zam hx,zac hx,aD,aA,zab hi hm,apN hc.par,zd5 hc.tree,ap1 (show acc.length<=1048576 by omega)]) (fun m acc=>by simp only[zbR,zad,aC]) (by omega)]
 rw[show((r.Commits.filter fun _=>true).map fun f:Commit=>f)=r.Commits by simp]
theorem zg6 (n:Str)(a:Int): ∀ (A B:List Head),(∀ h∈A,h.Name<n)->(∀ h∈B,n<h.Name)->zdt n a false (A++B)=A++[⟨n,a⟩]++B
 | [],[],_,_=>rfl
 | [],h::B,_,hB=>by
  have h1:=hB h (by simp)
  have h2:Op.bytesLess h.Name n=false:=by
   rw[zaJ,decide_eq_false_iff_not]
   exact fun e=>zaj _ (zaR e h1)
  have h3:(h.Name !=n)=true:=by
   rw[bne_iff_ne]
   exact fun e=>by rw[e]at h1;exact zaj _ h1
  show zdt n a false (h::B)=_
  unfold zdt
  rw[h2,h3,Bool.not_false,Bool.and_true,Bool.false_or,aD,aD,zf6 n a B fun x hx e=>by
   have:=hB x (by simp[hx])
   rw[e]at this
   exact zaj _ this]
  rfl
 |h::A,B,hA,hB=>by
  have h1:=hA h (by simp)
  have h2:Op.bytesLess h.Name n=true:=by rw[zaJ];simpa using h1
  have h3:(h.Name !=n)=true:=by
   rw[bne_iff_ne]
   exact fun e=>by rw[e]at h1;exact zaj _ h1
  show zdt n a false (h::(A++B))=_
  unfold zdt
  rw[h2,h3,aK,Bool.and_false,Bool.or_false,aC,aD,zg6 n a A B (fun x hx=>hA x (by simp[hx])) hB]
  rfl
def zf7 (n:Str)(hs:List Head):Nat->Nat
 |0=>0
 |k+1=>bif Op.bytesLess n (hs.getD k zdR).Name then zf7 n hs k else k+1
theorem zm2 {hs:List Head}(hl:hs.length<=1048576){x:Head}{K:Int->Option (List Head)}: ∀ (k m:Nat),k<=hs.length->k<m->zcx hs x K m (k:Int)=K (zf7 x.Name hs k:Int)
 |k,0,_,hm=>by omega
 |0,m+1,_,_=>rfl
 |k+1,m+1,hk,hm=>by
  have hx:hs[k]? =some hs[k]:=aB (by omega)
  have hw:w64 (((k+1:Nat):Int)-1)=(k:Int):=by rw[zah (by omega) (by omega)];omega
  simp only[zcx,jn,hw,zac hx,aA,zfP,Bool.not_not]
  rw[aF (by omega),aD]
  unfold zf7
  rw[zbA hx]
  cases Op.bytesLess x.Name hs[k].Name with
  |true=>rw[aD,aD,zm2 hl k m (by omega) (by omega)]
  |false=>rfl
theorem zg7 {n:Str}{hs:List Head}(hp:hs.Pairwise (fun x y=>x.Name<y.Name))(hno: ∀ h∈hs,h.Name≠n): ∀ k,k<=hs.length->zf7 n hs k<=k/\(∀ h∈hs.take (zf7 n hs k),h.Name<n) /\ ∀ i h,zf7 n hs k<=i->i<k->hs[i]? =some h->n<h.Name
 |0,_=>⟨Nat.le_refl _,fun h hh=>by simp[zf7]at hh,fun i h _ hi _=>by omega⟩
 |k+1,hk=>by
  have hx:hs[k]? =some hs[k]:=aB (by omega)
  unfold zf7
  rw[zbA hx]
  cases hb:Op.bytesLess n hs[k].Name with
  |true=>
   rw[aD]
   obtain⟨h1,h2,h3⟩:=zg7 hp hno k (by omega)
   refine⟨by omega,h2,fun i h hi hik hh=>?_⟩
   rcases Nat.lt_or_ge i k with h4 |h4
   ·exact h3 i h hi h4 hh
   ·obtain rfl:i=k:=by omega
    rw[hx]at hh
    cases hh
    rw[zaJ]at hb
    simpa using hb
  |false=>
   rw[aC]
   have hlast:hs[k].Name<n:=by
    rw[zaJ]at hb
    exact zbf (zf0.1 (by simpa using hb)) (hno _ (List.getElem_mem _))
   refine⟨Nat.le_refl _,fun h hh=>?_,fun i h h1 h2 _=>by omega⟩
   obtain⟨i,hi⟩:=List.getElem?_of_mem hh
   rw[List.getElem?_take]at hi
   split at hi
   ·rename_i hik
    obtain⟨hlt,rfl⟩:=List.getElem?_eq_some_iff.1 hi
    rcases Nat.lt_or_ge i k with h4 |h4
    ·exact zaR (List.pairwise_iff_getElem.1 hp i k hlt (by omega) h4) hlast
    ·obtain rfl:i=k:=by omega
     exact hlast
   ·cases hi
theorem zhr {hs:List Head}(hl:hs.length<=1048576){n:Str}{a:Int}(hp:hs.Pairwise (fun x y=>x.Name<y.Name))(hno: ∀ h∈hs,h.Name≠n):zdB hs ⟨n,a⟩=some (zdt n a false hs):=by
 obtain⟨h1,h2,h3⟩:=zg7 hp hno hs.length (Nat.le_refl _)
 unfold zdB
 simp only[jn]
 rw[zm2 hl hs.length (hs.length+1) (Nat.le_refl _) (by omega),apN hl,aA]
 show(zaN hs (zf7 n hs hs.length:Int) ⟨n,a⟩).bind _=_
 unfold zaN
 rw[if_pos ⟨by omega,by omega,by unfold lim;omega⟩,aA,Int.toNat_natCast]
 have:=zg6 n a (hs.take (zf7 n hs hs.length)) (hs.drop (zf7 n hs hs.length)) h2 (fun h hh=>by
  obtain⟨i,hi⟩:=List.getElem?_of_mem hh
  rw[List.getElem?_drop]at hi
  exact h3 _ h (by omega) (List.getElem?_eq_some_iff.1 hi).1 hi)
 rw[List.take_append_drop]at this
 rw[this]
theorem zmt {r:Repo}(h:RpB r){n:Str}{a:Int}(hp:r.Heads.Pairwise (fun x y=>x.Name<y.Name))(hno: ∀ x∈r.Heads,x.Name≠n):za1 r n a=some (headR r n a):=by
 have hm:=zak h.heads
 unfold za1
 simp only[jn,zal]
 rw[zcb (p:=fun _:Head=>false) (xs:=r.Heads) (r:=fun _=>none) (Z:=some (headR r n a)) (f:=fun m k=>zaF r n a _ m k [] [] r.Heads) (fun m i x hx=>by
  have:(x.Name==n)=false:=beq_false_of_ne (hno x (aH hx))
  simp only[zaF,zam hx,zac hx,aD,aC,aA,zab (zaq hx) hm,this]) (fun m=>by
  simp only[zaF,zad,aC,zhr h.heads hp hno,aA]
  rfl) (by omega)]
 rw[show r.Heads.find? (fun _=>false)=none by simp]
theorem zmu {r y:Repo}(h:RpB r)(hy:RpB y):zbe r y=some (bif zaf y then(y,true) else(r,false)):=by
 unfold zbe
 rw[show(⟨y.Commits,y.Heads⟩:Repo)=y from rfl,zfL hy,aA]
 cases zaf y with
 |true=>rfl
 |false=>rw[Bool.not_false,aD,aC,zfD h];rfl
theorem ziy {n:Str}{a:Int}: ∀ (hs:List Head) (j:Nat) (x:Head),hs.Pairwise (fun x y=>x.Name<y.Name)->hs[j]? =some x->x.Name=n->hs.set j ⟨x.Name,a⟩=hs.map (zdZ n a)
 | [],j,x,_,h,_=>by simp at h
 |h::hs,0,x,hp,e,hn=>by
  obtain rfl:h=x:=by simpa using e
  rw[List.set_cons_zero,List.map_cons]
  have ht:hs.map (zdZ n a)=hs:=by
   conv=>rhs;rw[<- List.map_id hs]
   refine List.map_congr_left (fun y hy=>?_)
   have h1:=(List.pairwise_cons.1 hp).1 y hy
   unfold zdZ
   rw[beq_false_of_ne (fun e2=>by rw[hn,e2]at h1;exact zaj _ h1)]
   rfl
  rw[ht]
  unfold zdZ
  rw[hn,aO]
  rfl
 |h::hs,j+1,x,hp,e,hn=>by
  rw[List.getElem?_cons_succ]at e
  have h1:=(List.pairwise_cons.1 hp).1 x (aH e)
  rw[List.set_cons_succ,List.map_cons,ziy hs j x (List.pairwise_cons.1 hp).2 e hn]
  congr 1
  unfold zdZ
  rw[beq_false_of_ne (fun e2=>by rw[hn,e2]at h1;exact zaj _ h1)]
  rfl
theorem zjj {r:Repo}(h:RpB r){n:Str}{a:Int}{K:Int->List Commit->List Head->List Head->Option Repo}(hp:r.Heads.Pairwise (fun x y=>x.Name<y.Name))(he: ∃ x∈r.Heads,x.Name=n): ∀ (k i m:Nat),i+k=r.Heads.length->k<m->(∀ j x,j<i->r.Heads[j]? =some x->x.Name≠n)->
 zaF r n a K m (i:Int) [] [] r.Heads=some ⟨r.Commits,r.Heads.map (zdZ n a)⟩
 |k,i,0,_,hm,_=>by omega
 |0,i,m+1,hi,_,hno=>by
  obtain⟨x,hx,e⟩:=he
  obtain⟨j,hj⟩:=List.getElem?_of_mem hx
  exact absurd e (hno j x (by have:=zaq hj;omega) hj)
 |k+1,i,m+1,hi,hm,hno=>by
  have hlt:i<r.Heads.length:=by omega
  have hx:r.Heads[i]? =some r.Heads[i]:=aB hlt
  simp only[zaF,zam hx,zac hx,aD,aA,zab hlt (zak h.heads),zbJ hlt]
  cases hb:r.Heads[i].Name==n with
  |true=>rw[aD,ziy r.Heads i _ hp hx (by simpa using hb)]
  |false=>
   rw[aC]
   exact zjj h hp he k (i+1) m (by omega) (by omega) fun j x hj hjx=>by
    rcases Nat.lt_or_ge j i with h1 |h1
    ·exact hno j x h1 hjx
    ·obtain rfl:j=i:=by omega
     rw[hx]at hjx
     cases hjx
     exact fun e=>by simp[e]at hb
theorem zi4 {r:Repo}(h:RpB r)(hp:r.Heads.Pairwise (fun x y=>x.Name<y.Name))(n:Str)(a:Int):za1 r n a=some (headR r n a):=by
 by_cases he: ∃ x∈r.Heads,x.Name=n
 ·unfold headR
  rw[zfM n a r.Heads hp he]
  unfold za1
  simp only[jn,zal]
  exact zjj h hp he r.Heads.length 0 (r.Heads.length+1) (by omega) (by omega) (fun j x hj=>by omega)
 ·exact zmt h hp fun x hx e=>he ⟨x,hx,e⟩
theorem zj7 {R α σ:Type} {xs:List α} {g:σ->α->σ} {I:σ->Prop} {f:Nat->Int->σ->Option R} {Z:σ->Option R}
 (hs: ∀ m (i:Nat) x s,xs[i]? =some x->I s->f (m+1) (i:Int) s=f m ((i+1:Nat):Int) (g s x)/\I (g s x)) (he: ∀ m s,I s->f (m+1) (xs.length:Int) s=Z s):
 ∀ (k i m:Nat) (s:σ),i+k=xs.length->k<m->I s->f m (i:Int) s=Z ((xs.drop i).foldl g s)/\I ((xs.drop i).foldl g s)
 |k,i,0,s,_,hm,_=>by omega
 |0,i,m+1,s,hi,_,h=>by
  obtain rfl:i=xs.length:=by omega
  rw[List.drop_length,List.foldl_nil]
  exact⟨he m s h,h⟩
 |k+1,i,m+1,s,hi,hm,h=>by
  have hlt:i<xs.length:=by omega
  obtain⟨e1,e2⟩:=hs m i xs[i] s (aB hlt) h
  rw[e1,aI hlt,List.foldl_cons]
  exact zj7 hs he k (i+1) m _ (by omega) (by omega) e2
theorem zhM {R α σ:Type} {xs:List α} {g:σ->α->σ} {I:σ->Prop} {f:Nat->Int->σ->Option R} {Z:σ->Option R} {s:σ} (h:I s)
 (hs: ∀ m (i:Nat) x s,xs[i]? =some x->I s->f (m+1) (i:Int) s=f m ((i+1:Nat):Int) (g s x)/\I (g s x)) (he: ∀ m s,I s->f (m+1) (xs.length:Int) s=Z s):f (xs.length+1) 0 s=Z (xs.foldl g s):=by
 have:=(zj7 hs he xs.length 0 (xs.length+1) s (by omega) (by omega) h).1
 rwa [List.drop_zero]at this
theorem zkt {mk:List Bool}{x:Int}:x∈zjl mk↔0<=x/\mkd mk x.toNat:=by
 unfold zjl
 rw[List.mem_map]
 constructor
 ·rintro⟨i,hi,rfl⟩
  rw[List.mem_filter]at hi
  exact⟨Int.natCast_nonneg i,hi.2⟩
 ·rintro⟨hx,h⟩
  exact⟨x.toNat,List.mem_filter.2 ⟨List.mem_range.2 (zkR h),h⟩,Int.toNat_of_nonneg hx⟩
theorem zmw (mk:List Bool):(zjl mk).length<=mk.length:=by
 unfold zjl
 rw[List.length_map]
 exact Nat.le_trans (List.length_filter_le _ _) (by simp)
section
variable {r:l30Rd}{p:Int}
end
theorem zkq {r:Repo}(h:RpB r)(hl:r.Commits.length<=100000)(hp:r.Heads.Pairwise (fun x y=>x.Name<y.Name)){n who:Str}{t:List File}{ps:List Int}(ht:TB t)(hw:who.length<=1048576)(hps:ps.length<=1048576):
 za3 r n who t ps=some (addR r n ⟨ps,who,t⟩):=by
 have hc:CB ⟨ps,who,t⟩:=⟨hps,hw,ht⟩
 unfold za3
 rw[zd5 ht,aA,ap1 h.coms,aA]
 have e:w64 (((r.Commits++[Commit.mk ps who t]).length:Int)-1)=(r.Commits.length:Int):=by rw[zah (by omega) (by simp;omega)];simp
 rw[e,zi4 (h.push hc hl) hp,aA]
 rfl
def zlL (p:Int):Prop:= -9223372036854775808<=p/\p<=9223372036854775807
section
variable {r:Repo}{has:List Int}{sent:List Commit}
end
set_option linter.unusedSectionVars false
structure SentB (sent:List Commit):Prop where
 len:sent.length<=16
 cb: ∀ c∈sent,CB c
 fit: ∀ c∈sent,∀ p∈c.Parents,zlL p
theorem SentB.take {sent:List Commit}(h:SentB sent)(k:Nat):SentB (sent.take k):=
 ⟨Nat.le_trans (List.length_take_le' k sent) h.len,fun c hc=>h.cb c (List.mem_of_mem_take hc),fun c hc=>h.fit c (List.mem_of_mem_take hc)⟩
theorem SentB.set {sent:List Commit}(h:SentB sent){c:Commit}(hc:CB c)(hf: ∀ p∈c.Parents,zlL p)(k:Nat):SentB (sent.set k c):=
 ⟨by rw[List.length_set];exact h.len,fun d hd=>by
  rcases List.mem_or_eq_of_mem_set hd with q |q
  ·exact h.cb d q
  ·rw[q];exact hc,fun d hd=>by
  rcases List.mem_or_eq_of_mem_set hd with q |q
  ·exact h.fit d q
  ·rw[q];exact hf⟩
section
variable {x:Repo}(hr:zaf x=true){a b:Int}(ha:upB x.Commits.length a=true)(hb:upB x.Commits.length b=true)
include hr ha
include hb
end
theorem ziH {t:List File}{p:Str}(h:(getT t p).2=false):(getT t p).1=[]:=by
 unfold getT at*
 cases hf:t.find? (fun f=>f.Path==p)with
 |none=>rfl
 |some f=>rw[hf]at h;cases h
theorem zjZ {a b:List File}{p:Str}:ze8 (getT a p) (getT b p)=decide (getT a p=getT b p):=by
 have ha:=ziH (t:=a) (p:=p)
 have hb:=ziH (t:=b) (p:=p)
 revert ha hb
 generalize getT a p=x
 generalize getT b p=y
 intro ha hb
 obtain⟨x1,x2⟩:=x
 obtain⟨y1,y2⟩:=y
 unfold ze8
 cases x2<;>cases y2
 ·have e1:x1=[]:=ha rfl
  have e2:y1=[]:=hb rfl
  subst e1;subst e2;simp
 ·simp
 ·simp
 ·by_cases h:x1=y1
  ·subst h;simp
  ·have e:(x1==y1)=false:=beq_false_of_ne h
   simp[e,h]
theorem zib (o a b:List File):Asd (zbm o a b):=zcP _ _ (zcP _ _ (zcP _ _ List.Pairwise.nil))
theorem zcS {α:Type}{f:α->Nat}{c:Nat}: ∀ {t:List α},(∀ s∈t,f s<=c)->sumB f t<=c*t.length
 | [],_=>by simp[sumB]
 |x::t,h=>by
  have h1:=h x (by simp)
  have h2:=zcS (t:=t) (fun s hs=>h s (by simp[hs]))
  simp only[sumB,aL,Nat.mul_add,Nat.mul_one]
  omega
theorem zlp {t:List Str}(h:zap t=true):Bk.bulk t<=130:=by
 have hl:=zan h
 have hs:sumB Bk.bulk t<=12*t.length:=zcS fun s hs=>by
  have:=zgt (zaH h s hs)
  show s.length<=12
  omega
 show t.length+sumB Bk.bulk t<=130
 omega
theorem zlq {t:List File}(h:zaA t=true):Bk.bulk t<=1208:=by
 have hl:=zat h
 have hs:sumB Bk.bulk t<=150*t.length:=zcS fun f hf=>by
  have h1:=zeD (zca h hf)
  have h2:=zlp (zai h f hf)
  show f.Path.length+Bk.bulk f.Text<=150
  omega
 show t.length+sumB Bk.bulk t<=1208
 omega
theorem zl8 {r:Repo}(h:zaf r=true){c:Commit}(hc:c∈r.Commits):c.Parents.length<=2/\(∀ p∈c.Parents,0<=p/\p<=16)/\zaI c.Who=true/\zaA c.Tree=true:=by
 obtain⟨i,hi⟩:=List.mem_iff_getElem?.1 hc
 have hil:=zaq hi
 have s1:=(zag h).1
 have:=zeB h (i:=i) (by omega)
 rw[zdn hi]at this
 unfold zjr at this
 simp only[aG,decide_eq_true_eq,List.all_eq_true]at this
 refine⟨by omega,fun p hp=>?_,this.2.2.2.1,this.2.2.2.2⟩
 have h1:=this.1 p hp
 unfold upB at h1
 simp only[aG,decide_eq_true_eq]at h1
 omega
theorem zlr {r:Repo}(h:zaf r=true):Bk.bulk r<=20000:=by
 obtain⟨s1,s2⟩:=zag h
 have h1:sumB Bk.bulk r.Commits<=1218*r.Commits.length:=zcS fun c hc=>by
  obtain⟨c1,_,c3,c4⟩:=zl8 h hc
  have:=zcj c3
  have:=zlq c4
  have hp:sumB Bk.bulk c.Parents<=0*c.Parents.length:=zcS fun p hp=>Nat.le_refl 0
  show c.Parents.length+sumB Bk.bulk c.Parents+(c.Who.length+Bk.bulk c.Tree)<=1218
  omega
 have h2:sumB Bk.bulk r.Heads<=6*r.Heads.length:=zcS fun x hx=>by
  have:=zcj (zfB h hx).2.2
  show x.Name.length+0<=6
  omega
 show r.Commits.length+sumB Bk.bulk r.Commits+(r.Heads.length+sumB Bk.bulk r.Heads)<=20000
 omega
theorem zls {t:List File}(h:zaA t=true):Bk.fit t:=⟨by have:=zat h;unfold maxi;omega,fun f hf=>⟨by have:=zeD (zca h hf);show f.Path.length<=maxi;unfold maxi;omega,by
 have h1:=zai h f hf
 have h2:=zan h1
 exact zbw (by omega) (zaH h1)⟩⟩
theorem zlt {r:Repo}(h:zaf r=true):Bk.fit r:=by
 obtain⟨s1,s2⟩:=zag h
 refine⟨⟨by unfold maxi;omega,fun c hc=>?_⟩,by unfold maxi;omega,fun x hx=>?_⟩
 ·obtain⟨c1,c2,c3,c4⟩:=zl8 h hc
  refine⟨⟨by unfold maxi;omega,fun p hp=>?_⟩,by have:=zcj c3;show c.Who.length<=maxi;unfold maxi;omega,zls c4⟩
  have:=c2 p hp
  show -9223372036854775808<=p/\p<=9223372036854775807
  omega
 ·obtain⟨h1,h2,h3⟩:=zfB h hx
  refine⟨by have:=zcj h3;show x.Name.length<=maxi;unfold maxi;omega,?_⟩
  show -9223372036854775808<=x.At/\x.At<=9223372036854775807
  omega
theorem zkr (l:List Str)(o a b:List File)(h:l=o.map (·.Path)++a.map (·.Path)++b.map (·.Path)):zkL (zcg l)=zbm o a b:=by
 refine Asd.ext (zd1 _ none (zkG _) (fun q hq=>by cases hq)).1 (zib o a b) fun x=>?_
 rw[zgj,zh2,h,pathsF_mem]
 simp only[List.mem_append,List.mem_map]
 constructor
 ·rintro((h |h) |h)
  ·exact .inl h
  ·exact .inr (.inl h)
  ·exact .inr (.inr h)
 ·rintro(h |h |h)
  ·exact .inl (.inl h)
  ·exact .inl (.inr h)
  ·exact .inr h
theorem znF {t:List File}(h:TB t)(p:Str):zgJ t p=some (getT t p):=by
 have hm:=h.maxi
 unfold zgJ getT
 simp only[jn,zal]
 rw[zcb (p:=fun f:File=>f.Path==p) (xs:=t) (r:=fun f=>some (f.Text,true)) (Z:=some ([],false)) (f:=fun m k=>zc2 t p _ m [] false k) (fun m i x hx=>by
  have hf:=h.at_ hx
  simp only[zc2,zam hx,zac hx,aD,aA,za4 hf.len,zab (zaq hx) hm]) (fun m=>by simp only[zc2,zad,aC]) (by omega)]
 cases t.find? (fun f=>f.Path==p)<;>rfl
def zm3 (t:List File)(p:Str):has:=⟨(getT t p).1,(getT t p).2⟩
theorem zhs {t:List File}(h:TB t)(p:Str):zgl t p=some (zm3 t p):=by
 unfold zgl
 rw[znF h,aA]
 rfl
theorem zg8 {a b:List File}{p:Str}(h:TB a):zdO (zm3 a p) (zm3 b p)=some (decide (getT a p=getT b p)):=by
 have hl:=(zi3 h p).1
 unfold zdO zm3
 simp only[jn,zdw (zak hl),aA]
 generalize getT a p=x at*
 generalize getT b p=y at*
 obtain⟨x1,x2⟩:=x
 obtain⟨y1,y2⟩:=y
 by_cases h1:x1=y1<;>cases x2<;>cases y2<;>simp[h1]
theorem zht {o a b:List Str}(hto:zap o=true)(hta:zap a=true)(htb:zap b=true):zdX o a b=some (zc8 (zaL o a b)):=by
 have lo:=zan hto
 have la:=zan hta
 have lb:=zan htb
 obtain⟨hlen,hparts⟩:=zhO hto hta htb
 unfold zdX zbv zc8
 rw[zjh (zbw (by omega) (zaH hto)) (zbw (by omega) (zaH hta)) (zbw (by omega) (zaH htb)),hto,hta,htb,aA]
 simp only[jn,zal,Bool.and_self,aK,aC,zkl (show o.length<=1000 by omega) (show a.length<=1000 by omega) (show b.length<=1000 by omega),aA]
 obtain⟨h1,h2⟩:=zg5 (xs:=zaL o a b) (step:=zgG) (r0:=some (([]:List Str),false)) (Inv:=zpE) (s0:=[]) (Z:=fun s=>(zbx s).bind fun z30=>bif(!z30) then(some (([]:List Str),false)) else(some (s,true))) (f:=fun m s i=>zao (zaL o a b) (fun _ _ y7 _=>(zbx y7).bind fun z30=>bif(!z30) then(some (([]:List Str),false)) else(some (y7,true))) m [] false s i) (fun m i p s hx hI=>by
  have hi:=zaq hx
  obtain⟨p1,p2,_⟩:=hparts p (aH hx)
  refine⟨?_,fun s' hst=>ziu p1 p2 hI hst⟩
  have hs:=hI.1
  simp only[zao,zfa,jn,zam hx,zac hx,aD,aA,zab hi (show(zaL o a b).length<=maxi by unfold maxi;omega),apT (show s.length<=1000000 by omega) (show p.Lines.length<=1000000 by omega)]
  unfold zgG
  cases p.Clash<;>rfl) (fun m s hI=>by simp only[zao,zad,aC]) (m:=(zaL o a b).length+1) (by omega) ⟨by simp,by simp⟩
 rw[h1]
 cases hf:(zaL o a b).foldlM zgG []with
 |none=>rfl
 |some s=>
  have hI:=h2 s hf
  have hs:=hI.1
  show((zbx s).bind _).bind _=some (okT s)
  rw[zdd (zbw (by omega) hI.2),aA]
  unfold okT
  cases zap s<;>rfl
theorem zlu (o a b:List File)(p:Str):((oneF o a b p).2.2 !=(0:Int))=decide (0< (oneF o a b p).2.2):=by
 have h:0<=(oneF o a b p).2.2:=by
  unfold oneF
  simp only[cond_eq_ite]
  repeat' split
  all_goals simp
 generalize (oneF o a b p).2.2=k at*
 rw[Bool.eq_iff_iff]
 simp only[bne_iff_ne,decide_eq_true_eq]
 omega
section
variable {o a b:List File}(ho:TB o)(ha:TB a)(hb:TB b)(to:zaE o)(ta:zaE a)(tb:zaE b)
include ho ha hb to ta tb
theorem zlv (p:Str):zge (zm3 o p) (zm3 a p) (zm3 b p)=some (⟨(oneF o a b p).1,(oneF o a b p).2.1⟩,(oneF o a b p).2.2):=by
 have no:=ziH (t:=o) (p:=p)
 have mt:=zht (za7 to p) (za7 ta p) (za7 tb p)
 unfold zge oneF
 simp only[jn,zg8 ha,zg8 hb,aA,zjZ]
 unfold zm3
 simp only[mt,aA]
 cases decide (getT a p=getT o p)<;>cases decide (getT a p=getT b p)<;>cases decide (getT b p=getT o p)<;>try rfl
 cases h1:(getT a p).2<;>cases h2:(getT b p).2<;>try rfl
 cases h3:(getT o p).2 with
 |false=>rw[no h3];rfl
 |true=>cases(zc8 (zaL (getT o p).1 (getT a p).1 (getT b p).1)).2<;>rfl
theorem zg9 {ps:List Str}(hp:ps.length<=1000){G:List File->List Clash->Int->Option (List File×List Clash)}: ∀ (k i m:Nat) (fs:List File) (cs:List Clash),i+k=ps.length->k<m->fs.length<=i->cs.length<=i->
 zcE o a b ps G m fs cs (i:Int)=G (fs++(ps.drop i).filterMap (zh7 o a b)) (cs++(ps.drop i).filterMap (zgn o a b)) (ps.length:Int)
 |k,i,0,fs,cs,_,hm,_,_=>by omega
 |0,i,m+1,fs,cs,hi,_,_,_=>by
  obtain rfl:i=ps.length:=by omega
  simp only[zcE,zad,aC,List.drop_length]
  simp
 |k+1,i,m+1,fs,cs,hi,hm,hf,hc=>by
  have hlt:i<ps.length:=by omega
  have hx:ps[i]? =some ps[i]:=aB hlt
  have ih:=fun fs cs h1 h2=>zg9 hp (G:=G) k (i+1) m fs cs (by omega) (by omega) h1 h2
  have eh: ∀ x:has,(⟨x.text,x.file⟩:has)=x:=fun _=>rfl
  simp only[zcE,jn,zam hx,zac hx,aD,aA,zab hlt (show ps.length<=maxi by unfold maxi;omega),zhs ho,zhs ha,zhs hb,eh,zlv ho ha hb to ta tb,zlu,ap1 (x:=(⟨ps[i],(oneF o a b ps[i]).1⟩:File)) (show fs.length<=1048576 by omega),ap1 (x:=(⟨ps[i],(oneF o a b ps[i]).2.2⟩:Clash)) (show cs.length<=1048576 by omega)]
  rw[aI hlt,List.filterMap_cons,List.filterMap_cons]
  unfold zh7 zgn at ih ⊢
  cases(oneF o a b ps[i]).2.1<;>cases decide (0< (oneF o a b ps[i]).2.2)<;>simp only[aD,aC,aA]
  ·rw[ih _ _ (by omega) (by omega)]
  ·rw[ih _ _ (by omega) (by simp;omega)];simp
  ·rw[ih _ _ (by simp;omega) (by omega)];simp
  ·rw[ih _ _ (by simp;omega) (by simp;omega)];simp
end
theorem zf8 {t:List File}(h:TB t){C:List Str->Int->Option (List Str)}: ∀ (k i m:Nat) (acc:List Str),i+k=t.length->k<m->acc.length<=10000+i->t.length<=1000->
 zbS t C m acc (i:Int)=C (acc++(t.drop i).map (·.Path)) (t.length:Int)
 |k,i,0,acc,_,hm,_,_=>by omega
 |0,i,m+1,acc,hi,_,_,_=>by
  obtain rfl:i=t.length:=by omega
  simp only[zbS,zad,aC,List.drop_length]
  simp
 |k+1,i,m+1,acc,hi,hm,hl,ht=>by
  have hlt:i<t.length:=by omega
  have hx:t[i]? =some t[i]:=aB hlt
  simp only[zbS,zam hx,zac hx,aD,aA,ap1 (x:=t[i].Path) (show acc.length<=1048576 by omega),zab hlt h.maxi]
  rw[zf8 h k (i+1) m _ (by omega) (by omega) (by simp;omega) ht,aI hlt,List.map_cons,List.append_assoc]
  rfl
theorem zjk {o a b:List File}(ho:TB o)(ha:TB a)(hb:TB b)(so:o.length<=100)(sa:a.length<=100)(sb:b.length<=100):zeH [o,a,b]=some (zbm o a b):=by
 unfold zeH
 simp only[jn,zal]
 have step: ∀ (K:List Str->Int->Option (List Str)) (m i:Nat) (t:List File) (acc:List Str),[o,a,b][i]? =some t->TB t->t.length<=100->acc.length<=1000->zaW [o,a,b] K (m+1) acc (i:Int)=zaW [o,a,b] K m (acc++t.map (·.Path)) ((i+1:Nat):Int):=fun K m i t acc hx ht hl ha=>by
  have hi:=zaq hx
  simp only[zaW,jn,zam hx,zac hx,aD,aA,zal]
  have:=zf8 ht (C:=fun e g=>zaW [o,a,b] K m e (w64 ((i:Int)+1))) t.length 0 (t.length+1) acc (by omega) (by omega) (by omega) (by omega)
  rw[List.drop_zero]at this
  refine this.trans ?_
  rw[zab hi (by simp[maxi])]
 have hlen:([o,a,b]:List (List File)).length+1=3+1:=rfl
 rw[hlen]
 refine(step _ 3 0 o [] rfl ho so (by simp)).trans ?_
 refine(step _ 2 1 a _ rfl ha sa (by simp;omega)).trans ?_
 refine(step _ 1 2 b _ rfl hb sb (by simp;omega)).trans ?_
 have he: ∀ (K:List Str->Int->Option (List Str)) (m:Nat) (acc:List Str),zaW [o,a,b] K (m+1) acc ((2+1:Nat):Int)=K acc ((2+1:Nat):Int):=fun K m acc=>rfl
 refine(he _ 0 _).trans ?_
 have e0:[]++o.map (fun f:File=>f.Path)++a.map (fun f:File=>f.Path)++b.map (fun f:File=>f.Path)=o.map (·.Path)++a.map (·.Path)++b.map (·.Path):=by simp
 rw[e0]
 have hl:(o.map (fun f:File=>f.Path)++a.map (fun f:File=>f.Path)++b.map (fun f:File=>f.Path)).length<=300:=by simp;omega
 generalize hL:o.map (fun f:File=>f.Path)++a.map (fun f:File=>f.Path)++b.map (fun f:File=>f.Path)=L at*
 have h2:(zcg L).length=L.length:=List.length_mergeSort _
 unfold zaO zbr
 rw[if_pos (by omega),aA,if_pos (by omega),aA,zkr L o a b hL.symm]
section
variable {o a b:List File}(ho:TB o)(ha:TB a)(hb:TB b)(to:zaA o=true)(ta:zaA a=true)(tb:zaA b=true)
include ho ha hb to ta tb
theorem zf9:zd6 o a b=some true:=by
 unfold zd6
 simp only[jn,zcH ho,zcH ha,zcH hb,to,ta,tb,aA,aD]
theorem zks:zgf o a b=some (zcI o a b):=by
 have so:=zat to
 have sa:=zat ta
 have sb:=zat tb
 have hl:=ze9 o a b
 unfold zgf zcI
 rw[zf9 ho ha hb to ta tb,aA,aK,aC,zjk ho ha hb (by omega) (by omega) (by omega),aA]
 simp only[jn,zal]
 have:=zg9 ho ha hb (zai to) (zai ta) (zai tb) (ps:=zbm o a b) (by omega) (G:=fun b' c _=>bif((c.length:Int)==(0:Int)) then((zcl b').bind fun h=>bif !h then((zbI o).bind fun g=>some (g,([⟨[],4⟩]:List Clash))) else some (b',c)) else(bif false then((zbI o).bind fun g=>some (g,([⟨[],4⟩]:List Clash))) else some (b',c))) (zbm o a b).length 0 ((zbm o a b).length+1) [] [] (by omega) (by omega) (by simp) (by simp)
 refine this.trans ?_
 simp only[List.drop_zero,List.nil_append]
 rw[show(zbm o a b).filterMap (zh7 o a b)=zd8 o a b from rfl,show(zbm o a b).filterMap (zgn o a b)=zeT o a b from rfl,zcH (zf4 ho ha hb (zai to) (zai ta) (zai tb) (by omega) (by omega) (by omega)),zd5 ho]
 simp only[aA]
 cases(((zeT o a b).length:Int)==0)<;>cases zaA (zd8 o a b)<;>rfl
theorem ziz:zcq o a b=some (bif decide (0< ((zcI o a b).2.length:Int)) then([],false) else((zcI o a b).1,true)):=by
 unfold zcq
 rw[zf9 ho ha hb to ta tb,aA,aK,aC,zks ho ha hb to ta tb,aA]
 cases decide (0< ((zcI o a b).2.length:Int))<;>rfl
end
theorem zgr.lt {l:List Int}(h:zgr l){i k:Nat}(hik:i<k)(hk:k<l.length):l.getD i 0<l.getD k 0:=by
 have h1:i<l.length:=by omega
 have:=List.pairwise_iff_getElem.1 h i k h1 hk hik
 rw[zck (aB h1),zck (aB hk)]
 exact this
theorem zgr.inj {l:List Int}(h:zgr l){i k:Nat}(hi:i<l.length)(hk:k<l.length)(e:l.getD i 0=l.getD k 0):i=k:=by
 rcases Nat.lt_trichotomy i k with h1 |h1 |h1
 ·have:=h.lt h1 hk;omega
 ·exact h1
 ·have:=h.lt h1 hi;omega
theorem zj9 (r:Repo)(a b:Int):zgr (zda r a b):=(zhv r a).sublist List.filter_sublist
theorem zeU {r:Repo}{a b x:Int}:x∈zda r a b↔x∈zbn r a/\x∈zbn r b:=by
 unfold zda
 rw[List.mem_filter,zbq]
theorem zpp {l:List Int}(h:zgr l)(p:Nat->Bool):zgr (zmO p l):=by
 unfold zgr zmO
 rw[List.pairwise_map]
 refine List.Pairwise.imp_of_mem (fun {i k} hi hk hlt=>?_) ((zj6 l.length).sublist List.filter_sublist)
 exact h.lt hlt (List.mem_range.1 (List.mem_filter.1 hk).1)
theorem zjt (r:Repo)(a b:Int):zgr (za8 r a b):=zpp (zj9 r a b) _
theorem zjH {l:List Int}{x:Int}:x∈l ↔ ∃ i,i<l.length/\l.getD i 0=x:=by
 constructor
 ·intro h
  obtain⟨i,hi⟩:=List.getElem?_of_mem h
  exact⟨i,(List.getElem?_eq_some_iff.1 hi).1,zck hi⟩
 ·rintro⟨i,hi,rfl⟩
  rw[zck (aB hi)]
  exact List.getElem_mem hi
theorem zic {r:Repo}{a b x:Int}:x∈za8 r a b↔x∈zda r a b /\ ∀ y∈zda r a b,y≠x->x∉zbn r y:=by
 have hasc:=zj9 r a b
 unfold za8 zmO
 rw[List.mem_map]
 constructor
 ·rintro⟨i,hi,rfl⟩
  rw[List.mem_filter,List.mem_range]at hi
  obtain⟨hil,hb⟩:=hi
  unfold znr at hb
  rw[zaV]at hb
  refine⟨zjH.2 ⟨i,hil,rfl⟩,fun y hy hne hx=>?_⟩
  obtain⟨k,hk,rfl⟩:=zjH.1 hy
  have:=hb k (Nat.zero_le _) (by omega)
  rw[zbq.2 hx,aK,Bool.or_false,beq_iff_eq]at this
  exact hne (by rw[show k=i by omega])
 ·rintro⟨hm,hall⟩
  obtain⟨i,hi,rfl⟩:=zjH.1 hm
  refine⟨i,List.mem_filter.2 ⟨List.mem_range.2 hi,?_⟩,rfl⟩
  unfold znr
  rw[zaV]
  intro k _ hk
  have hkl:k< (zda r a b).length:=by omega
  cases hki:((k:Int)==(i:Int))with
  |true=>rfl
  |false=>
   have hne:k≠i:=fun e=>by rw[e]at hki;simp at hki
   have:=hall _ (zjH.2 ⟨k,hkl,rfl⟩) (fun e=>hne (hasc.inj hkl hi e))
   cases hq:zfS (zbn r ((zda r a b).getD k 0)) ((zda r a b).getD i 0)with
   |false=>rfl
   |true=>exact absurd (zbq.1 hq) this
def zk1 (x y:List Bool)(n:Nat):List Bool:=(List.range n).map fun i=>x.getD i false&&y.getD i false
theorem zqC (x y:List Bool)(n i:Nat)(hi:i<n):((List.range i).map (fun i=>x.getD i false&&y.getD i false)++List.replicate (n-i) false).set i (x.getD i false&&y.getD i false)=(List.range (i+1)).map (fun i=>x.getD i false&&y.getD i false)++List.replicate (n-(i+1)) false:=by
 obtain⟨k,hk⟩: ∃ k,n-i=k+1:=⟨n-i-1,by omega⟩
 rw[hk,show n-(i+1)=k by omega,List.set_append_right _ _ (by simp),List.length_map,List.length_range,Nat.sub_self,List.replicate_succ,List.set_cons_zero,List.range_succ,List.map_append,List.append_assoc]
 rfl
theorem zmc {x y q:List Bool}{n:Nat}(hx:x.length=n)(hy:y.length=n)(hq:q.length=n)(hn:n<=1000){F:List Bool->Option (List Int)}: ∀ (k i m:Nat),i+k=n->k<m->
 zcy x y q (fun _ z=>F z) m (i:Int) ((List.range i).map (fun i=>x.getD i false&&y.getD i false)++List.replicate (n-i) false)=F (zk1 x y n)
 |k,i,0,_,hm=>by omega
 |0,i,m+1,hi,_=>by
  obtain rfl:i=n:=by omega
  simp only[zcy,hq,zad,aC,Nat.sub_self,List.replicate_zero,List.append_nil]
  rfl
 |k+1,i,m+1,hi,hm=>by
  have hlt:i<n:=by omega
  have hl:((List.range i).map (fun i=>x.getD i false&&y.getD i false)++List.replicate (n-i) false).length=n:=by simp;omega
  have ih:=zmc hx hy hq hn (F:=F) k (i+1) m (by omega) (by omega)
  rw[<- zqC x y n i hlt]at ih
  simp only[zcy,hq]
  rw[aF (show(i:Int)< (n:Int) by omega),aD,zcZ (by omega),aA]
  have hsi: ∀ v,siM ((List.range i).map (fun i=>x.getD i false&&y.getD i false)++List.replicate (n-i) false) (i:Int) v=some (((List.range i).map (fun i=>x.getD i false&&y.getD i false)++List.replicate (n-i) false).set i v):=fun v=>zbJ (by omega) v
  have hg:=zcZ (mk:=(List.range i).map (fun i=>x.getD i false&&y.getD i false)++List.replicate (n-i) false) (i:=i) (by omega)
  rw[zcZ (show i<y.length by omega)]
  simp only[aA,hg,hsi,zab hlt (show n<=maxi by unfold maxi;omega)]
  cases hxi:x.getD i false with
  |true=>
   rw[hxi,Bool.true_and]at ih
   exact ih
  |false=>
   rw[hxi,Bool.false_and]at ih
   exact ih
def zm8 (u:Int)(mk:List Bool)(p:Int):List Bool:=bif p !=u then mk.set p.toNat false else mk
theorem zka (u:Int): ∀ (ps:List Int) (mk:List Bool),(∀ p∈ps,0<=p)->(ps.foldl (zm8 u) mk).length=mk.length /\ ∀ j,j<mk.length->(ps.foldl (zm8 u) mk).getD j false=(mk.getD j false && !(zfS ps (j:Int) && !((j:Int)==u)))
 | [],mk,_=>⟨rfl,fun j _=>by simp[zfS]⟩
 |p::ps,mk,hp=>by
  have hl:(zm8 u mk p).length=mk.length:=by unfold zm8;cases(p !=u)<;>simp
  obtain⟨e1,e2⟩:=zka u ps (zm8 u mk p) (fun q hq=>hp q (List.mem_cons_of_mem _ hq))
  rw[List.foldl_cons]
  refine⟨e1.trans hl,fun j hj=>?_⟩
  have hp0:=hp p (by simp)
  rw[e2 j (by omega)]
  have hh:zfS (p::ps) (j:Int)=((p==(j:Int))||zfS ps (j:Int)):=rfl
  rw[hh]
  have hs:(zm8 u mk p).getD j false=(mk.getD j false && !((p==(j:Int)) && !((j:Int)==u))):=by
   unfold zm8
   by_cases e:p=(j:Int)
   ·subst e
    cases hu:((j:Int)==u)with
    |true=>simp[bne,hu]
    |false=>simp[bne,hu,List.getD,hj]
   ·rw[beq_false_of_ne e,Bool.false_and,Bool.not_false,Bool.and_true]
    cases(p !=u)with
    |false=>rfl
    |true=>
     rw[aD]
     simp only[List.getD,List.getElem?_set_ne (show p.toNat≠j by omega)]
  rw[hs]
  cases mk.getD j false<;>cases(p==(j:Int))<;>cases zfS ps (j:Int)<;>cases((j:Int)==u)<;>rfl
def zk2 (r:Repo)(ls:List Int)(mk:List Bool):List Bool:=ls.foldl (fun mk u=>(zbn r u).foldl (zm8 u) mk) mk
theorem zhU (r:Repo): ∀ (ls:List Int) (mk:List Bool),(zk2 r ls mk).length=mk.length /\ ∀ j,j<mk.length->(zk2 r ls mk).getD j false=(mk.getD j false&&ls.all fun u=> !(zfS (zbn r u) (j:Int) && !((j:Int)==u)))
 | [],mk=>⟨rfl,fun j _=>by simp[zk2]⟩
 |u::ls,mk=>by
  obtain⟨f1,f2⟩:=zka u (zbn r u) mk (fun p hp=>(zbH hp).1)
  obtain⟨e1,e2⟩:=zhU r ls ((zbn r u).foldl (zm8 u) mk)
  refine⟨e1.trans f1,fun j hj=>?_⟩
  refine(e2 j (by omega)).trans ?_
  rw[f2 j hj,List.all_cons,Bool.and_assoc]
theorem zog {r:Repo}(hr:zaf r=true){a b:Int}(ha:upB r.Commits.length a=true)(hb:upB r.Commits.length b=true):zjl (zk1 (zaw r a.toNat) (zaw r b.toNat) r.Commits.length)=zda r a b /\ ∀ j,j<r.Commits.length->(zk1 (zaw r a.toNat) (zaw r b.toNat) r.Commits.length).getD j false=zfS (zda r a b) (j:Int):=by
 obtain⟨a0,a1⟩:=zax.1 ha
 obtain⟨b0,b1⟩:=zax.1 hb
 have hg: ∀ j,j<r.Commits.length->(zk1 (zaw r a.toNat) (zaw r b.toNat) r.Commits.length).getD j false=((zaw r a.toNat).getD j false&&(zaw r b.toNat).getD j false):=fun j hj=>by
  unfold zk1
  rw[List.getD,List.getElem?_map,List.getElem?_range hj]
  rfl
 have hm: ∀ j,j<r.Commits.length->((zk1 (zaw r a.toNat) (zaw r b.toNat) r.Commits.length).getD j false=true↔ (j:Int)∈zda r a b):=fun j hj=>by
  rw[hg j hj,aG,zeU,zcv hr a0 a1,zcv hr b0 b1,Int.toNat_natCast]
  have h1:=zdS hr (show a.toNat<r.Commits.length by omega) j
  have h2:=zdS hr (show b.toNat<r.Commits.length by omega) j
  unfold mkd at h1 h2
  rw[h1,h2]
  exact⟨fun h=>⟨⟨Int.natCast_nonneg j,h.1⟩,Int.natCast_nonneg j,h.2⟩,fun h=>⟨h.1.2,h.2.2⟩⟩
 have hlen:(zk1 (zaw r a.toNat) (zaw r b.toNat) r.Commits.length).length=r.Commits.length:=by unfold zk1;simp
 refine⟨zgr.ext (zh3 _) (zj9 _ _ _) fun x=>?_,fun j hj=>?_⟩
 ·rw[zkt]
  constructor
  ·rintro⟨hx,h⟩
   have hlt:=zkR h
   have:=(hm x.toNat (by omega)).1 h
   rwa [Int.toNat_of_nonneg hx]at this
  ·intro h
   have hxm:=zbH (zeU.1 h).1
   refine⟨hxm.1,(hm x.toNat (by omega)).2 ?_⟩
   rwa [Int.toNat_of_nonneg hxm.1]
 ·apply zd4
  rw[hm j hj,zbq]
theorem zoh {r:Repo}(hr:zaf r=true){a b:Int}(ha:upB r.Commits.length a=true)(hb:upB r.Commits.length b=true):zjl (zk2 r (zda r a b) (zk1 (zaw r a.toNat) (zaw r b.toNat) r.Commits.length))=za8 r a b:=by
 obtain⟨_,c2⟩:=zog hr ha hb
 have hlen:(zk1 (zaw r a.toNat) (zaw r b.toNat) r.Commits.length).length=r.Commits.length:=by unfold zk1;simp
 obtain⟨g1,g2⟩:=zhU r (zda r a b) (zk1 (zaw r a.toNat) (zaw r b.toNat) r.Commits.length)
 have key: ∀ j,j<r.Commits.length->((zk2 r (zda r a b) (zk1 (zaw r a.toNat) (zaw r b.toNat) r.Commits.length)).getD j false=true↔ (j:Int)∈za8 r a b):=fun j hj=>by
  rw[g2 j (by omega),c2 j hj,aG,zbq,List.all_eq_true,zic]
  refine and_congr Iff.rfl ⟨fun h y hy hne hx=>?_,fun h y hy=>?_⟩
  ·have:=h y hy
   rw[zbq.2 hx,beq_false_of_ne (fun e=>hne e.symm)]at this
   cases this
  ·by_cases e:(j:Int)=y
   ·rw[e];simp
   ·have:=h y hy (fun e2=>e e2.symm)
    cases hq:zfS (zbn r y) (j:Int)with
    |false=>rfl
    |true=>exact absurd (zbq.1 hq) this
 refine zgr.ext (zh3 _) (zjt _ _ _) fun x=>?_
 rw[zkt]
 constructor
 ·rintro⟨hx,h⟩
  have hlt:=zkR h
  have:=(key x.toNat (by omega)).1 h
  rwa [Int.toNat_of_nonneg hx]at this
 ·intro h
  have hxm:=zj8 h
  refine⟨hxm.1,(key x.toNat (by omega)).2 ?_⟩
  rwa [Int.toNat_of_nonneg hxm.1]
theorem zoi {r:Repo}(hr:zaf r=true){a b:Int}(ha:upB r.Commits.length a=true)(hb:upB r.Commits.length b=true):zfw r a b=some (za8 r a b):=by
 obtain⟨a0,a1⟩:=zax.1 ha
 obtain⟨b0,b1⟩:=zax.1 hb
 have hs:=(zag hr).1
 obtain⟨c1,c2⟩:=zog hr ha hb
 have hlen:(zk1 (zaw r a.toNat) (zaw r b.toNat) r.Commits.length).length=r.Commits.length:=by unfold zk1;simp
 unfold zfw
 rw[zdh hr a0 a1,aA,zdh hr b0 b1,aA,zgE (by simp[lim];omega),aA]
 simp only[jn,List.length_replicate,zal]
 have e1:=zmc (x:=zaw r a.toNat) (y:=zaw r b.toNat) (q:=List.replicate r.Commits.length false) (n:=r.Commits.length) (zbh _ _) (zbh _ _) (by simp) (by omega) (F:=fun y31=>(zb9 y31).bind fun z64=>(zbL y31).bind fun z72=>zbs r z72 (fun _ y84=>(zbL y84).bind fun z166=>some z166) (((z72.length:Int)-0).toNat+1) 0 z64) r.Commits.length 0 (r.Commits.length+1) (by omega) (by omega)
 refine(Eq.trans (by simp) e1).trans ?_
 have hcl:zb9 (zk1 (zaw r a.toNat) (zaw r b.toNat) r.Commits.length)=some (zk1 (zaw r a.toNat) (zaw r b.toNat) r.Commits.length):=by
  unfold zb9
  rw[if_pos (by rw[hlen];simp[lim];omega)]
 have hbl:(zda r a b).length<=r.Commits.length:=Nat.le_trans (List.length_filter_le _ _) (zdW r a)
 rw[hcl,aA,zhj (by omega),aA,c1,zal]
 rw[zhM (xs:=zda r a b) (g:=fun mk u=>(zbn r u).foldl (zm8 u) mk) (I:=fun mk=>mk.length=r.Commits.length) (Z:=fun mk=>(zbL mk).bind fun z=>some z) (f:=fun m i mk=>zbs r (zda r a b) _ m i mk) hlen (fun m i o mk ho hmk=>by
  have hom:=zbH (zeU.1 (aH ho)).1
  obtain⟨f1,f2⟩:=zka o (zbn r o) mk (fun p hp=>(zbH hp).1)
  refine⟨?_,f1.trans hmk⟩
  simp only[zbs,jn,zam ho,zac ho,aD,aA,zdh hr hom.1 hom.2,zhj (show(zaw r o.toNat).length<=1000 by rw[zbh];omega),zal]
  have hal:=zmw (zaw r o.toNat)
  rw[zbh]at hal
  rw[zhM (xs:=zjl (zaw r o.toNat)) (g:=zm8 o) (I:=fun mk=>mk.length=r.Commits.length) (Z:=fun mk=>zbs r (zda r a b) (fun _ y84=>(zbL y84).bind fun z166=>some z166) m (w64 ((i:Int)+1)) mk) (f:=fun m' i mk=>zcW o (zjl (zaw r o.toNat)) _ m' i mk) hmk (fun m' i' x mk' hx hmk'=>by
   have hxm:=zbH (r:=r) (a:=o) (aH hx)
   have hxl:x.toNat<mk'.length:=by omega
   have e1:gi mk' x=some (mk'.getD x.toNat false):=by
    have:=zcZ hxl
    rwa [Int.toNat_of_nonneg hxm.1]at this
   have e2:siM mk' x false=some (mk'.set x.toNat false):=by
    have:=zbJ hxl false
    rwa [Int.toNat_of_nonneg hxm.1]at this
   refine⟨?_,by unfold zm8;cases(x !=o)<;>simp[hmk']⟩
   simp only[zcW,jn,zam hx,zac hx,aD,aA,e1,e2,zab (zaq hx) (show(zjl (zaw r o.toNat)).length<=maxi by unfold maxi;omega)]
   unfold zm8
   cases(x !=o)<;>rfl) (fun m' mk' _=>by simp only[zcW,zad,aC]),zab (zaq ho) (show(zda r a b).length<=maxi by unfold maxi;omega)]
  rfl) (fun m mk _=>by simp only[zbs,zad,aC])]
 obtain⟨g1,_⟩:=zhU r (zda r a b) (zk1 (zaw r a.toNat) (zaw r b.toNat) r.Commits.length)
 rw[show(zda r a b).foldl (fun mk u=>(zbn r u).foldl (zm8 u) mk) (zk1 (zaw r a.toNat) (zaw r b.toNat) r.Commits.length)=zk2 r (zda r a b) (zk1 (zaw r a.toNat) (zaw r b.toNat) r.Commits.length) from rfl,zhj (by omega),aA,zoh hr ha hb]
theorem znG (x:Repo):(⟨x.Commits,x.Heads⟩:Repo)=x:=rfl
theorem zps {r:Repo}(hr:zaf r=true){a b:Int}(ha:upB r.Commits.length a=true)(hb:upB r.Commits.length b=true):gi (zaw r b.toNat) a=some (zfS (zbn r b) a):=by
 obtain⟨a0,a1⟩:=zax.1 ha
 obtain⟨n,rfl⟩:=Int.eq_ofNat_of_zero_le a0
 rw[zcZ (by rw[zbh];omega),<- zqK hr ha hb,Int.toNat_natCast]
theorem zfn {r:Repo}(h:RpB r){a:Int}(ha:upB r.Commits.length a=true):zau r a=some (zav r a.toNat):=by
 obtain⟨a0,a1⟩:=zax.1 ha
 unfold zau
 rw[aE (by omega),aC,zdj a0 a1]
 rfl
section
variable {r:Repo}(h:RpB r)(hr:zaf r=true)
include h hr
theorem zjb:Gd False r:=⟨h,hr,fun e=>e.elim⟩
theorem zlP {a b:Int}(ha:upB r.Commits.length a=true)(hb:upB r.Commits.length b=true):zcX r a b=some (ziI r a b):=by
 have hs:=(zag hr).1
 have hl:=zmb r a b
 unfold zcX ziI
 rw[zoi hr ha hb,aA]
 cases hz:((za8 r a b).length:Int)==0 with
 |true=>rfl
 |false=>
  have hne:((za8 r a b).length:Int)≠0:=by simpa using hz
  have e:w64 (((za8 r a b).length:Int)-1)=(((za8 r a b).length-1:Nat):Int):=by rw[zah (by omega) (by omega)];omega
  have hlt:(za8 r a b).length-1< (za8 r a b).length:=by omega
  have hm:(za8 r a b).getD ((za8 r a b).length-1) 0∈za8 r a b:=by
   rw[zck (aB hlt)];exact List.getElem_mem hlt
  rw[aC,aC,e,zh6 hlt,aA,zfn h (zax.2 (zj8 hm)),aA]
theorem znH {n:Str}(hn:n.length<=1048576){c:Commit}(hc:CB c):((zaP r).bind fun j=>(za3 ⟨j.Commits,j.Heads⟩ n c.Who c.Tree c.Parents).bind fun k=>(zbe r ⟨k.Commits,k.Heads⟩).bind fun b=>bif(!b.2) then(some (Repo.mk b.1.Commits b.1.Heads,(5:Int))) else(some (Repo.mk b.1.Commits b.1.Heads,0)))=some (zeb r n c):=by
 obtain⟨s1,s2⟩:=zag hr
 rw[zfD h,aA,znG,zkq h (by omega) (zgW hr) hc.tree hc.who hc.par,aA,znG,show(⟨c.Parents,c.Who,c.Tree⟩:Commit)=c from rfl,zmu h (h.addR (by omega) (by omega) hn hc),aA]
 unfold zeb
 cases zaf (addR r n c)<;>rfl
theorem zl2 {o a b:List File}(to:TB o)(ta:TB a)(tb:TB b)(uo:zaA o=true)(ua:zaA a=true)(ub:zaA b=true){ps:List Int}(hps:ps.length<=2){n who:Str}(hn:n.length<=1048576)(hw:who.length<=1048576):((zcq o a b).bind fun h=>bif(!h.2) then((zaP r).bind fun i=>some (Repo.mk i.Commits i.Heads,4)) else((zaP r).bind fun j=>(za3 ⟨j.Commits,j.Heads⟩ n who h.1 ps).bind fun k=>(zbe r ⟨k.Commits,k.Heads⟩).bind fun b=>bif(!b.2) then(some (Repo.mk b.1.Commits b.1.Heads,(5:Int))) else(some (Repo.mk b.1.Commits b.1.Heads,0))))=some (bif decide (0< ((zcI o a b).2.length:Int)) then(r,4) else zeb r n ⟨ps,who,(zcI o a b).1⟩):=by
 have so:=zat uo
 have sa:=zat ua
 have sb:=zat ub
 have hj:=ziS to ta tb (zai uo) (zai ua) (zai ub) (by omega) (by omega) (by omega)
 rw[ziz to ta tb uo ua ub,aA]
 cases decide (0< ((zcI o a b).2.length:Int))with
 |true=>
  simp only[aD,Bool.not_false,zfD h,aA]
 |false=>
  exact znH h hr hn (c:=⟨ps,who,(zcI o a b).1⟩) ⟨show ps.length<=1048576 by omega,hw,hj⟩
theorem zqL {n who:Str}{b:Int}(hn:n.length<=1048576)(hw:who.length<=1048576):zg1 r n who b=some (bif zkJ r n who b then(r,1) else zk3 r n who b):=by
 have hg:=zjb h hr
 unfold zg1
 simp only[jn,zll h,aA,zcc (zak hw),zjs h,zfD h,znG]
 have key:zkJ r n who b=false->((za2 r (atB r n)).bind fun m=>(gi m b).bind fun n'=>bif n' then(some (r,2)) else((za2 r b).bind fun o=>(gi o (atB r n)).bind fun p=>bif p then((za1 r n b).bind fun g=>some (Repo.mk g.Commits g.Heads,3)) else((zcX r (atB r n) b).bind fun q=>(zau r (atB r n)).bind fun r'=>(zau r b).bind fun s=>(zcq q r' s).bind fun h=>bif(!h.2) then(some (r,4)) else((za3 r n who h.1 [atB r n,b]).bind fun k=>(zbe r ⟨k.Commits,k.Heads⟩).bind fun b=>bif(!b.2) then(some (Repo.mk b.1.Commits b.1.Heads,(5:Int))) else(some (Repo.mk b.1.Commits b.1.Heads,0))))))=some (zk3 r n who b):=fun hbad=>by
  obtain⟨p1,p2,p3⟩:=zjY hbad
  have ha':atB r n<=(r.Commits.length:Int)-1:=by rcases at_range hr n with e |e<;>omega
  have ua:=zax.2 ⟨p1,ha'⟩
  have ub:=zax.2 ⟨p2,p3⟩
  have hs:=(zag hr).1
  rw[zdh hr p1 ha',aA,zps hr ub ua,aA]
  unfold zk3
  cases zfS (zbn r (atB r n)) b with
  |true=>rfl
  |false=>
   rw[aC,aC,zdh hr p2 p3,aA,zps hr ua ub,aA]
   cases zfS (zbn r b) (atB r n)with
   |true=>rw[aD,aD,zi4 h (zgW hr),aA,znG]
   |false=>
    obtain⟨_,e2,e3⟩:=zi8 hg p1 ha' p2 p3
    obtain⟨ta,ta2,_,_⟩:=hg.tree (i:=(atB r n).toNat) (by omega)
    obtain⟨tb,tb2,_,_⟩:=hg.tree (i:=b.toNat) (by omega)
    rw[aC,aC,zlP h hr ua ub,aA,zfn h ua,aA,zfn h ub,aA]
    have:=zl2 h hr e2 ta tb e3 ta2 tb2 (ps:=[atB r n,b]) (by simp) hn hw
    simp only[zfD h,aA,znG]at this
    exact this
 unfold zkJ at key ⊢
 cases h1:decide (atB r n<0)with
 |true=>rfl
 |false=>
  cases h2:zaI who with
  |false=>rfl
  |true=>
   cases h3:upB r.Commits.length b with
   |false=>rfl
   |true=>exact key (by rw[h1,h2,h3];rfl)
end
theorem znS {r:Repo}(h:RpB r){n who:Str}{b:Int}(hn:n.length<=1048576)(hw:who.length<=1048576):zgK r n who b=some (zkv r n who b):=by
 unfold zgK zkv
 rw[zfL h,aA]
 cases hr:zaf r with
 |false=>rfl
 |true=>
  rw[aK,aC,aD,zqL h hr hn hw,aA]
theorem zr0 {r:Repo}(h:RpB r){n who:Str}{b:Int}(hn:n.length<=1048576)(hw:who.length<=1048576):ze0 r n who b=some (zkv r n who b):=by
 cases hr:zaf r with
 |true=>exact(zlC (zjb h hr) hn hw).1
 |false=>
  unfold ze0 zkv
  rw[zgq h,hr,aA]
  rfl
def znI (r:Repo)(n:Str)(x:Repo):Prop:=x=r\/x=zdK\/zaf x=true
theorem znI.bulk {r x:Repo}{n:Str}(h:znI r n x):Bk.bulk x<=Bk.bulk r+20000:=by
 rcases h with h |h |h
 ·rw[h];omega
 ·rw[h];show 0+0+(0+0)<=_;omega
 ·have:=zlr h;omega
theorem znI.fit {r x:Repo}{n:Str}(hf:Bk.fit r)(h:znI r n x):Bk.fit x:=by
 rcases h with h |h |h
 ·rw[h];exact hf
 ·rw[h];exact⟨⟨by simp[zdK,maxi],by simp[zdK]⟩,by simp[zdK,maxi],by simp[zdK]⟩
 ·exact zlt h
theorem zpT {r:Repo}(h:RpB r){n who:Str}{b:Int}(hn:n.length<=1048576)(hw:who.length<=1048576):znI r n (zkv r n who b).1:=by
 cases hr:zaf r with
 |true=>exact .inr (.inr (zlC (zjb h hr) hn hw).2.ok)
 |false=>unfold zkv;rw[hr];exact .inr (.inl rfl)
theorem zmU {repo:Repo}{name who:Str}{b:Int}(h:Bk.fit repo)(hw:Bk.fit name)(hv:Bk.fit who)(hb':Bk.fit b):zeV repo name who b=some true:=by
 unfold zeV
 by_cases hc:(1048576:Int)< (name.length:Int)
 ·rw[aF hc];rfl
 rw[aE hc,aC]
 by_cases hc2:(1048576:Int)< (who.length:Int)
 ·rw[aF hc2];rfl
 rw[aE hc2,aC,znj h (by omega) (by omega),aA]
 by_cases hb:(Bk.bulk repo:Int)<=1048576
 case neg=>rw[if_neg hb];rfl
 rw[if_pos hb,aE (by omega),aC]
 have b1:Bk.bulk repo<=1048576:=by omega
 have hr:=RpB.of h b1
 have hn:name.length<=1048576:=by omega
 have hwn:who.length<=1048576:=by omega
 have ho:=zpT hr (b:=b) hn hwn
 have hf:=ho.fit h
 have b2:=ho.bulk
 have c1:=zew repo
 have c2:=zew (zkv repo name who b).1
 have hg:Bk.fit (zaK.wr 1 (zkv repo name who b).1).2:=zki 1 _ (by omega) (by omega) hf
 have c3:=zaK.cnt 1 (zkv repo name who b).1
 have e2:=zaK.again 1 (zkv repo name who b).1
 have f1:(zaK.wr 1 repo).1=1+(zaK.cn repo:Int):=zaK.fst _ _
 have n1:decide ((zaK.wr 1 repo).1<0)=false:=aE (by rw[f1];omega)
 have n2:decide ((zaK.wr 1 (zkv repo name who b).1).1<0)=false:=aE (by rw[zaK.fst];omega)
 simp only[znk b1,aA,znG,zr0 hr hn hwn,znS hr hn hwn,jn,zjE hf,zjE h,aO,aK,aC,bne_self_eq_false,
  zgu (x:=repo) (k:=1) (by omega) (by omega) h,n1,zgu (x:=(zkv repo name who b).1) (k:=1) (by omega) (by omega) hf,
  zmk (zaK.held_wr 1 (zkv repo name who b).1) (show(0:Int)<=1 by omega) (by omega) hg,e2,n2]
def ChH:Int->List Hunk->Prop
 |_,[]=>True
 |lo,d::l=>lo<=d.At/\ChH (d.At+d.Less.length+1) l
theorem ChH.mono: ∀ {l:List Hunk} {lo lo':Int},lo'<=lo->ChH lo l->ChH lo' l
 | [],_,_,_,_=>trivial
 |d::l,_,_,h,⟨h1,h2⟩=>⟨Int.le_trans h h1,h2⟩
def zkK:List Str->List Str->Nat
 |a::l,b::m=>bif a==b then zkK l m+1 else 0
 |_,_=>0
def zrJ (t:List Str):List Str->Nat->Nat×Nat->Nat×Nat
 | [],_,r=>r
 |b::bs,i,r=>zrJ t bs (i+1) (bif decide (r.2<zkK (b::bs) t) then(i,zkK (b::bs) t) else r)
def znm (base t:List Str):Nat×Nat:=zrJ t base 0 (0,0)
def zn0 (out:List Delta)(x:Str):List Delta:=match out.getLast? with
 |some d=>bif decide (0<d.Lines.length) then out.dropLast++[⟨d.From,d.Many,d.Lines++[x]⟩] else out++[⟨0,0,[x]⟩]
 |none=>out++[⟨0,0,[x]⟩]
def zhS (base:List Str):Nat->List Delta->List Str->List Delta
 |0,out,_=>out
 |_+1,out,[]=>out
 |n+1,out,x::t=>bif decide (0< (znm base (x::t)).2) then zhS base n (out++[⟨(znm base (x::t)).1,(znm base (x::t)).2,[]⟩]) ((x::t).drop (znm base (x::t)).2) else zhS base n (zn0 out x) t
def zj2 (base t:List Str):List Delta:=zhS base t.length [] t
def OD (n:Nat)(l:List Owner):Prop:=l.length<=n /\ ∀ o∈l,o.Path.length<=10/\o.Who.length<=10
theorem OD.fit {n:Nat}{l:List Owner}(h:OD n l)(hn:n<=1000):Bk.fit l:=⟨by have:=h.1;unfold maxi;omega,fun o ho=>by
 have:=h.2 o ho
 exact⟨by show o.Path.length<=maxi;unfold maxi;omega,by show o.Who.length<=maxi;unfold maxi;omega⟩⟩
section
variable {base t:List Str}(hb:zap base=true)(ht:zap t=true)
include hb ht
end
def zqg (list:List (List Str))(ds:List Int)(i:Nat)(t:List Str)(b dep:Int)(d:List Delta):Prop:=(b = -1/\d=zj2 [] t/\dep=1) \/ ∃ k o dk,k<i/\b=(k:Int)/\list[k]? =some o/\ds[k]? =some dk/\d=zj2 o t/\dep=dk+1/\dk<=2
theorem zqg.snoc {list:List (List Str)}{ds:List Int}{i:Nat}{t:List Str}{b dep z:Int}{d:List Delta}(h:zqg list ds i t b dep d):zqg list (ds++[z]) i t b dep d:=by
 rcases h with h |⟨k,o,dk,h1,h2,h3,h4,h5⟩
 ·exact .inl h
 ·exact .inr ⟨k,o,dk,h1,h2,h3,by rw[aM (List.getElem?_eq_some_iff.1 h4).1];exact h4,h5⟩
section
variable {list:List (List Str)}(h12:list.length<=12)(hl: ∀ t∈list,zap t=true)
include h12 hl
end
end Go.Vm
