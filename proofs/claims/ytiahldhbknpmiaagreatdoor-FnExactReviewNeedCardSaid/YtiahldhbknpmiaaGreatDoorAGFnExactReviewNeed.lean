/- Plain law FnExactReviewNeed, and what it uses: what the models answer. Conditions: each law's own premises. -/
import Derived.Test.YtiahldhbknpmiaaGreatDoorAM0
import Derived.Test.YtiahldhbknpmiaaGreatDoorAM2
import Derived.Test.YtiahldhbknpmiaaGreatDoorAM4
import Derived.Test.YtiahldhbknpmiaaGreatDoorAM7
import Derived.Test.YtiahldhbknpmiaaGreatDoorALw
import Derived.Sort.Walk0
import Derived.Test.YtiahldhbknpmiaaGreatDoorAX
import Derived.Lib.SplitLaws
import Derived.Lib.Join
namespace Go.Vm
open Go Go.Sx
set_option linter.unusedSimpArgs false
set_option linter.unusedVariables false
def chB (c:UInt8):Bool:= !(decide ((c.toNat:Int)<32)||decide (126< (c.toNat:Int)))
def zb8 (s:Str):Bool:= !decide (12< (s.length:Int))&&s.all chB
def zap (xs:List Str):Bool:= !decide (10< (xs.length:Int))&&xs.all zb8
theorem zjJ (a b:Int):decide (a<=b) = !decide (b<a):=by
 by_cases h:a<=b
 ·rw[aF h,aE (by omega)];rfl
 ·rw[aE h,aF (by omega)];rfl
theorem zjK {s:Str}(h:s.length<=maxi):zfg s=some (zb8 s):=by
 unfold zfg zb8
 simp only[jn,zal]
 cases decide ((12:Int)< (s.length:Int))
 case true=>rfl
 rw[aC,zaS (α:=UInt8) (xs:=s) (p:=chB) (r0:=some false) (Z:=some true) (f:=fun m i=>zbZ s (fun _ _=>some true) m false i) (fun m i x hx=>by
  simp only[zbZ,jn,zam hx,zgF hx,aD,aA,zab (zaq hx) h,chB]
  cases decide ((x.toNat:Int)<32)<;>cases decide (126< (x.toNat:Int))<;>rfl) (fun m=>by simp only[zbZ,zad,aC]) (by omega)]
 cases s.all chB<;>rfl
theorem zjL {s:Str}(h:s.length<=maxi):zff s=some (zb8 s):=by
 unfold zff zb8
 simp only[jn,zal,zjJ]
 rw[zaS (α:=UInt8) (xs:=s) (p:=chB) (r0:=some false) (Z:=some (!decide (12< (s.length:Int)))) (f:=fun m i=>zbW s (fun _ _=>some (!decide (12< (s.length:Int)))) m false i) (fun m i x hx=>by
  simp only[zbW,jn,zam hx,zgF hx,aD,aA,zab (zaq hx) h,chB]
  cases decide ((x.toNat:Int)<32)<;>cases decide (126< (x.toNat:Int))<;>rfl) (fun m=>by simp only[zbW,zad,aC]) (by omega)]
 cases s.all chB<;>cases decide (12< (s.length:Int))<;>rfl
theorem zdd {xs:List Str}(h:Bk.fit xs):zbx xs=some (zap xs):=by
 have hl:=zdz h
 unfold zbx zap
 simp only[jn,zal]
 cases decide ((10:Int)< (xs.length:Int))
 case true=>rfl
 rw[aC,zaS (α:=Str) (xs:=xs) (p:=zb8) (r0:=some false) (Z:=some true) (f:=fun m i=>zb0 xs (fun _ _=>some true) m false i) (fun m i x hx=>by
  have hx2:x.length<=maxi:=zhn h hx
  simp only[zb0,zam hx,zac hx,aD,aA,zab (zaq hx) hl,zjK hx2]
  cases zb8 x<;>rfl) (fun m=>by simp only[zb0,zad,aC]) (by omega)]
 cases xs.all zb8<;>rfl
theorem zh5 {xs:List Str}(h:Bk.fit xs):zcK xs=some (zap xs):=by
 have hl:=zdz h
 unfold zcK zap
 simp only[jn,zal,zjJ]
 rw[zaS (α:=Str) (xs:=xs) (p:=zb8) (r0:=some false) (Z:=some (!decide (10< (xs.length:Int)))) (f:=fun m i=>zc3 xs (fun _ _=>some (!decide (10< (xs.length:Int)))) m false i) (fun m i x hx=>by
  have hx2:x.length<=maxi:=zhn h hx
  simp only[zc3,zam hx,zac hx,aD,aA,zab (zaq hx) hl,zjL hx2]
  cases zb8 x<;>rfl) (fun m=>by simp only[zc3,zad,aC]) (by omega)]
 cases xs.all zb8<;>cases decide (10< (xs.length:Int))<;>rfl
theorem zan {t:List Str}(h:zap t=true):t.length<=10:=by
 unfold zap at h
 simp only[aG,Bool.not_eq_true',decide_eq_false_iff_not]at h
 omega
theorem zaH {t:List Str}(h:zap t=true): ∀ s∈t,zb8 s=true:=by
 unfold zap at h
 simp only[aG,List.all_eq_true]at h
 exact h.2
theorem zgt {s:Str}(h:zb8 s=true):s.length<=12:=by
 unfold zb8 at h
 simp only[aG,Bool.not_eq_true',decide_eq_false_iff_not]at h
 omega
theorem zdw {xs ys:List Str}(h:xs.length<=maxi):zay xs ys=some (xs==ys):=by
 unfold zay
 simp only[zjo,jn,zal]
 by_cases hn:xs.length=ys.length
 ·rw[hn,aO,aK,aC,<- hn]
  rw[zjn (α:=Str) (r0:=some false) (Z:=some true) (f:=fun m i=>zar xs ys (fun _ _=>some true) m false i) hn (fun m i x y hx hy=>by
   simp only[zar,zam hx,zac hx,zac hy,aD,aA,zab (zaq hx) h,bne]
   cases x==y<;>rfl) (fun m=>by simp only[zar,zad,aC]) (by omega)]
  cases xs==ys<;>rfl
 ·rw[beq_false_of_ne hn,Bool.not_false,aD,beq_false_of_ne (fun e=>hn (by rw[e]))]
theorem zex {xs ys:List Str}(h:xs.length<=maxi):zdD xs ys=some (xs==ys):=by
 unfold zdD
 simp only[zjo,jn,zal]
 by_cases hn:xs.length=ys.length
 ·rw[hn,aO,aK,aC,<- hn]
  rw[zjn (α:=Str) (r0:=some false) (Z:=some true) (f:=fun m i=>zbX xs ys (fun _ _=>some true) m false i) hn (fun m i x y hx hy=>by
   simp only[zbX,zam hx,zac hx,zac hy,aD,aA,zab (zaq hx) h,bne]
   cases x==y<;>rfl) (fun m=>by simp only[zbX,zad,aC]) (by omega)]
  cases xs==ys<;>rfl
 ·rw[beq_false_of_ne hn,Bool.not_false,aD,beq_false_of_ne (fun e=>hn (by rw[e]))]
theorem za4 {x:List Str}(h:x.length<=1048576):zb6 x=some x:=by
 unfold zb6
 rw[apN h];rfl
def zpF (r:l30Rd)(p:Int):Prop:=r.b.length<=2000/\0<=r.p/\r.p<=p
theorem zpF.on {r:l30Rd}{p q:Int}(h:zpF r p)(k:Int)(hk:0<=k)(hq:r.p+k<=q):zpF ⟨r.b,r.p+k⟩ q:=⟨h.1,by have:=h.2.1;show 0<=r.p+k;omega,hq⟩
def zd9:List Str->List Str->Int
 | [],_=>0
 |_:: _,[]=>0
 |x::xs,y::ys=>if x==y then zd9 xs ys+1 else zoN (zd9 xs (y::ys)) (zd9 (x::xs) ys)
termination_by a b=>a.length+b.length
theorem zif (b:List Str):zd9 [] b=0:=by rw[zd9]
theorem zgM (a:List Str):zd9 a []=0:=by cases a<;>rw[zd9]
theorem zgN (x y:Str)(xs ys:List Str):zd9 (x::xs) (y::ys)=if x==y then zd9 xs ys+1 else zoN (zd9 xs (y::ys)) (zd9 (x::xs) ys):=by rw[zd9]
theorem zb4: ∀ (n:Nat) (a b:List Str),a.length+b.length<=n->0<=zd9 a b/\zd9 a b<=a.length
 |_,[],b,_=>by rw[zif];simp
 |_,x::xs,[],_=>by rw[zgM];simp;omega
 |0,x::xs,y::ys,h=>by simp at h
 |n+1,x::xs,y::ys,h=>by
  simp only[aL]at h
  have h1:=zb4 n xs ys (by omega)
  have h2:=zb4 n xs (y::ys) (by simp;omega)
  have h3:=zb4 n (x::xs) ys (by simp;omega)
  rw[zgN]
  simp only[aL]at*
  split
  ·omega
  ·unfold zoN;split<;>omega
theorem zmA (a b:List Str):0<=zd9 a b:=(zb4 _ a b (Nat.le_refl _)).1
theorem zmB (a b:List Str):zd9 a b<=a.length:=(zb4 _ a b (Nat.le_refl _)).2
def zes (n:Nat)(g:Nat->Int):List Int:=(List.range n).map g
def zdu (n m:Nat)(f:Nat->Nat->Int):List (List Int):=(List.range n).map fun i=>zes m (f i)
theorem ziU {n:Nat}{g g':Nat->Int}(h: ∀ k,k<n->g k=g' k):zes n g=zes n g':=by
 unfold zes
 exact List.map_congr_left fun k hk=>h k (List.mem_range.1 hk)
theorem zcO {n m:Nat}{f f':Nat->Nat->Int}(h: ∀ i k,i<n->k<m->f i k=f' i k):zdu n m f=zdu n m f':=by
 unfold zdu
 exact List.map_congr_left fun i hi=>ziU fun k hk=>h i k (List.mem_range.1 hi) hk
theorem zeM {n k:Nat}{g:Nat->Int}(h:k<n):gi (zes n g) (k:Int)=some (g k):=zac (by simp[zes,h])
theorem zeN {n m i:Nat}{f:Nat->Nat->Int}(h:i<n):gi (zdu n m f) (i:Int)=some (zes m (f i)):=zac (by simp[zdu,h])
theorem zig {n k:Nat}{g:Nat->Int}{v:Int}(h:k<n):siM (zes n g) (k:Int) v=some (zes n fun k'=>if k'=k then v else g k'):=by
 rw[zbJ (by simp[zes,h])]
 congr 1
 apply List.ext_getElem?
 intro j
 unfold zes
 by_cases hj:j=k
 ·subst hj
  rw[List.getElem?_set_self (by simp[h])]
  simp[h]
 ·rw[List.getElem?_set_ne (Ne.symm hj)]
  by_cases hl:j<n
  ·simp[hl,hj]
  ·rw[List.getElem?_eq_none (by simp;omega),List.getElem?_eq_none (by simp;omega)]
theorem zih {n m i:Nat}{f:Nat->Nat->Int}{g:Nat->Int}(h:i<n):siM (zdu n m f) (i:Int) (zes m g)=some (zdu n m fun i'=>if i'=i then g else f i'):=by
 rw[zbJ (by simp[zdu,h])]
 congr 1
 apply List.ext_getElem?
 intro j
 unfold zdu
 by_cases hj:j=i
 ·subst hj
  rw[List.getElem?_set_self (by simp[h])]
  simp[h]
 ·rw[List.getElem?_set_ne (Ne.symm hj)]
  by_cases hl:j<n
  ·simp[hl,hj]
  ·rw[List.getElem?_eq_none (by simp;omega),List.getElem?_eq_none (by simp;omega)]
section
variable (a b:List Str)
def zaG (i k:Nat):Int:=zd9 (a.drop i) (b.drop k)
def zaQ (i k i' k':Nat):Int:=if i<i'\/(i=i'/\k<=k') then zaG a b i' k' else 0
def znl:List (List Int):=zdu (a.length+1) (b.length+1) (zaG a b)
end
section
variable {a b:List Str}
theorem zjM (i:Nat):zaG a b i b.length=0:=by unfold zaG;rw[List.drop_length,zgM]
theorem ziV (k:Nat):zaG a b a.length k=0:=by unfold zaG;rw[List.drop_length,zif]
theorem zii (i k:Nat):0<=zaG a b i k:=zmA _ _
theorem zij (i k:Nat):zaG a b i k<=a.length:=by
 have:=zmB (a.drop i) (b.drop k)
 unfold zaG
 simp only[List.length_drop]at this
 omega
theorem zfI {i k:Nat}{x y:Str}(hx:a[i]? =some x)(hy:b[k]? =some y):zaG a b i k=if x==y then zaG a b (i+1) (k+1)+1 else zoN (zaG a b (i+1) k) (zaG a b i (k+1)):=by
 have hi:=zaq hx
 have hk:=zaq hy
 have ex:a[i]=x:=by rw[aB hi]at hx;exact Option.some.inj hx
 have ey:b[k]=y:=by rw[aB hk]at hy;exact Option.some.inj hy
 unfold zaG
 rw[aI hi,aI hk,zgN,ex,ey]
theorem zcG {i k:Nat}{v:Int}(hv:v=zaG a b i k)(n m:Nat):zdu n m (fun i'=>if i'=i then(fun k'=>if k'=k then v else zaQ a b i (k+1) i k') else zaQ a b i (k+1) i')=zdu n m (zaQ a b i k):=by
 refine zcO fun i' k' _ _=>?_
 by_cases h1:i'=i
 ·subst h1
  rw[if_pos rfl]
  by_cases h2:k'=k
  ·subst h2
   rw[if_pos rfl,hv]
   simp[zaQ]
  ·rw[if_neg h2]
   simp only[zaQ,Nat.lt_irrefl,false_or,true_and]
   by_cases h3:k+1<=k'
   ·rw[if_pos h3,if_pos (by omega)]
   ·rw[if_neg h3,if_neg (by omega)]
 ·rw[if_neg h1]
  simp only[zaQ]
  by_cases h3:i<i'
  ·rw[if_pos (.inl h3),if_pos (.inl h3)]
  ·rw[if_neg (by omega),if_neg (by omega)]
theorem zfJ (i:Nat):zdu (a.length+1) (b.length+1) (zaQ a b (i+1) 0)=zdu (a.length+1) (b.length+1) (zaQ a b i b.length):=by
 refine zcO fun i' k' _ hk=>?_
 simp only[zaQ,Nat.zero_le,and_true]
 by_cases h:i<i'
 ·rw[if_pos (by omega),if_pos (.inl h)]
 ·rw[if_neg (by omega)]
  by_cases h2:i=i'/\b.length<=k'
  ·rw[if_pos (.inr h2),show k'=b.length by omega,zjM]
  ·rw[if_neg (by omega)]
theorem zeO:zdu (a.length+1) (b.length+1) (fun _ _=>0)=zdu (a.length+1) (b.length+1) (zaQ a b a.length 0):=by
 refine zcO fun i' k' hi _=>?_
 simp only[zaQ,Nat.zero_le,and_true]
 by_cases h:a.length<i'\/a.length=i'
 ·rw[if_pos h,show i'=a.length by omega,ziV]
 ·rw[if_neg h]
theorem zgO:zdu (a.length+1) (b.length+1) (zaQ a b 0 0)=znl a b:=by
 refine zcO fun i' k' _ _=>?_
 simp only[zaQ,Nat.zero_le,and_true]
 rw[if_pos (by omega)]
theorem zjN (hb:b.length<=maxi)(hN:(a.length:Int)+1<=9223372036854775807){i:Nat}(hi:i<a.length){R:Int->List (List Int)->Option (List (List Int))}: ∀ (k m:Nat),k<=b.length->k<m->
 zdo a b (i:Int) R m ((k:Int)-1) (zdu (a.length+1) (b.length+1) (zaQ a b i k))=R (-1) (zdu (a.length+1) (b.length+1) (zaQ a b i 0))
 |0,0,_,h=>by omega
 |0,m+1,_,_=>by
  simp only[zdo]
  rw[aE (by omega)];rfl
 |k+1,0,_,h=>by omega
 |k+1,m+1,hk,hm=>by
  unfold maxi at hb
  have hx:a[i]? =some a[i]:=aB hi
  have hy:b[k]? =some b[k]:=aB (by omega)
  have hst:=zfI hx hy
  have e1:(((k+1:Nat):Int)-1)=(k:Int):=by omega
  have e2:w64 ((i:Int)+1)=((i+1:Nat):Int):=by rw[zah (by omega) (by omega)];omega
  have e3:w64 ((k:Int)+1)=((k+1:Nat):Int):=by rw[zah (by omega) (by omega)];omega
  have e4:w64 ((k:Int)-1)=(k:Int)-1:=zah (by omega) (by omega)
  have s1:zaQ a b i (k+1) (i+1) (k+1)=zaG a b (i+1) (k+1):=by simp[zaQ]
  have s2:zaQ a b i (k+1) (i+1) k=zaG a b (i+1) k:=by simp[zaQ]
  have s3:zaQ a b i (k+1) i (k+1)=zaG a b i (k+1):=by simp[zaQ]
  have lo:=zii (a:=a) (b:=b) (i+1) (k+1)
  have hi':=zij (a:=a) (b:=b) (i+1) (k+1)
  have ih:=zjN (by unfold maxi;exact hb) hN hi (R:=R) k m (by omega) (by omega)
  simp only[zdo,jn,e1,e2,e3,e4,zac hx,zac hy,aA,aF (show(0:Int)<=(k:Int) by omega),aD,
   zeN (show i<a.length+1 by omega),zeN (show i+1<a.length+1 by omega),zeM (show k<b.length+1 by omega),zeM (show k+1<b.length+1 by omega),s1,s2,s3,
   zig (show k<b.length+1 by omega),zih (show i<a.length+1 by omega)]
  cases he:a[i]==b[k]with
  |true=>
   rw[he,if_pos rfl]at hst
   rw[aD,zah (by omega) (by omega),zcG hst.symm]
   exact ih
  |false=>
   rw[he,if_neg (by simp)]at hst
   rw[aC,zcG hst.symm]
   exact ih
theorem zjO (hb:b.length<=maxi)(hN:(a.length:Int)+1<=9223372036854775807)(hNb:(b.length:Int)+1<=9223372036854775807){R:Int->List (List Int)->Option (List (List Int))}: ∀ (i m:Nat),i<=a.length->i<m->
 zcm a b R m ((i:Int)-1) (zdu (a.length+1) (b.length+1) (zaQ a b i 0))=R (-1) (zdu (a.length+1) (b.length+1) (zaQ a b 0 0))
 |0,0,_,h=>by omega
 |0,m+1,_,_=>by
  simp only[zcm]
  rw[aE (by omega)];rfl
 |i+1,0,_,h=>by omega
 |i+1,m+1,hi,hm=>by
  have e1:(((i+1:Nat):Int)-1)=(i:Int):=by omega
  have e2:w64 ((b.length:Int)-1)=(b.length:Int)-1:=zah (by omega) (by omega)
  have e3:w64 ((i:Int)-1)=(i:Int)-1:=zah (by omega) (by omega)
  simp only[zcm,jn,e1,e2,aF (show(0:Int)<=(i:Int) by omega),aD]
  rw[zfJ,zjN hb hN (by omega) b.length _ (Nat.le_refl _) (by omega),e3]
  exact zjO hb hN hNb i m (by omega) (by omega)
theorem zjP (hb:b.length<=1048576){N:Nat}(hN:N<=1048576){q:List (List Int)}(hq:q.length=N){R:Int->List (List Int)->Option (List (List Int))}: ∀ (n i m:Nat),i+n=N->n<m->
 zdp b q R m (i:Int) ((List.range i).map (fun _=>zes (b.length+1) fun _=>0)++List.replicate n [])=R (N:Int) (zdu N (b.length+1) fun _ _=>0)
 |n,i,0,_,h=>by omega
 |0,i,m+1,hi,_=>by
  simp only[zdp]
  rw[hq,aE (by omega),show i=N by omega]
  simp[zdu]
 |n+1,i,m+1,hi,hm=>by
  have e1:w64 ((b.length:Int)+1)=((b.length+1:Nat):Int):=by rw[zah (by omega) (by omega)];omega
  have e2:w64 ((i:Int)+1)=((i+1:Nat):Int):=by rw[zah (by omega) (by omega)];omega
  have hl:((List.range i).map (fun _=>zes (b.length+1) fun _=>0)++List.replicate (n+1) []).length=i+(n+1):=by simp
  obtain⟨u,hu⟩: ∃ u,((List.range i).map (fun _=>zes (b.length+1) fun _=>0)++List.replicate (n+1) ([]:List Int))[i]? =some u:=⟨_,aB (by omega)⟩
  simp only[zdp,hq,e1,e2,aF (show(i:Int)< (N:Int) by omega),aD,zgE (show b.length+1<=lim by unfold lim;omega),aA,zac hu]
  rw[zbJ (by rw[hl];omega),aA]
  have hset:((List.range i).map (fun _=>zes (b.length+1) fun _=>0)++List.replicate (n+1) []).set i (List.replicate (b.length+1) (0:Int))=(List.range (i+1)).map (fun _=>zes (b.length+1) fun _=>0)++List.replicate n []:=by
   rw[List.set_append,if_neg (by simp)]
   have hr:zes (b.length+1) (fun _=>0)=List.replicate (b.length+1) (0:Int):=by
    unfold zes
    rw[List.map_const',List.length_range]
   simp[List.range_succ,List.replicate_succ,hr]
  rw[hset]
  exact zjP hb hN hq n (i+1) m (by omega) (by omega)
theorem zmC (ha:a.length<=1000)(hb:b.length<=1000):ziT a b=some (znl a b):=by
 unfold ziT
 have e1:w64 ((a.length:Int)+1)=((a.length+1:Nat):Int):=by rw[zah (by omega) (by omega)];omega
 have e2:w64 ((a.length:Int)-1)=(a.length:Int)-1:=zah (by omega) (by omega)
 rw[e1,zgE (by unfold lim;omega),aA]
 simp only[jn,e2]
 have h1:=zjP (b:=b) (by omega) (N:=a.length+1) (by omega) (q:=List.replicate (a.length+1) []) (by simp)
  (R:=fun y6 y7=>zcm a b (fun y27 y29=>some y29) (((a.length:Int)-1+1-0).toNat+1) ((a.length:Int)-1) y7) (a.length+1) 0 (((List.replicate (a.length+1) ([]:List Int)).length-(0:Int)).toNat+1) (by omega) (by simp)
 simp only[List.range_zero,List.map_nil,List.nil_append]at h1
 refine h1.trans ?_
 rw[zeO,zjO (by unfold maxi;omega) (by omega) (by omega) a.length _ (Nat.le_refl _) (by omega),zgO]
theorem zjQ (hb:b.length<=maxi)(hN:(a.length:Int)+1<=9223372036854775807){i:Nat}(hi:i<a.length){R:Int->List (List Int)->Option (List (List Int))}: ∀ (k m:Nat),k<=b.length->k<m->
 zbC a b (i:Int) R m ((k:Int)-1) (zdu (a.length+1) (b.length+1) (zaQ a b i k))=R (-1) (zdu (a.length+1) (b.length+1) (zaQ a b i 0))
 |0,0,_,h=>by omega
 |0,m+1,_,_=>by
  simp only[zbC]
  rw[aE (by omega)];rfl
 |k+1,0,_,h=>by omega
 |k+1,m+1,hk,hm=>by
  unfold maxi at hb
  have hx:a[i]? =some a[i]:=aB hi
  have hy:b[k]? =some b[k]:=aB (by omega)
  have hst:=zfI hx hy
  have e1:(((k+1:Nat):Int)-1)=(k:Int):=by omega
  have e2:w64 ((i:Int)+1)=((i+1:Nat):Int):=by rw[zah (by omega) (by omega)];omega
  have e3:w64 ((k:Int)+1)=((k+1:Nat):Int):=by rw[zah (by omega) (by omega)];omega
  have e4:w64 ((k:Int)-1)=(k:Int)-1:=zah (by omega) (by omega)
  have s1:zaQ a b i (k+1) (i+1) (k+1)=zaG a b (i+1) (k+1):=by simp[zaQ]
  have s2:zaQ a b i (k+1) (i+1) k=zaG a b (i+1) k:=by simp[zaQ]
  have s3:zaQ a b i (k+1) i (k+1)=zaG a b i (k+1):=by simp[zaQ]
  have lo:=zii (a:=a) (b:=b) (i+1) (k+1)
  have hi':=zij (a:=a) (b:=b) (i+1) (k+1)
  have ih:=zjQ (by unfold maxi;exact hb) hN hi (R:=R) k m (by omega) (by omega)
  simp only[zbC,jn,e1,e2,e3,e4,zac hx,zac hy,aA,aF (show(0:Int)<=(k:Int) by omega),aD,
   zeN (show i<a.length+1 by omega),zeN (show i+1<a.length+1 by omega),zeM (show k<b.length+1 by omega),zeM (show k+1<b.length+1 by omega),s1,s2,s3,
   zig (show k<b.length+1 by omega),zih (show i<a.length+1 by omega)]
  cases he:a[i]==b[k]with
  |true=>
   rw[he,if_pos rfl]at hst
   rw[aD,zah (by omega) (by omega),zcG hst.symm]
   exact ih
  |false=>
   rw[he,if_neg (by simp)]at hst
   rw[aC]
   unfold zoN at hst
   by_cases hc:zaG a b i (k+1)<=zaG a b (i+1) k
   ·rw[if_neg (by omega)]at hst
    rw[aF hc,aD,zcG hst.symm]
    exact ih
   ·rw[if_pos (by omega)]at hst
    rw[aE hc,aC,zcG hst.symm]
    exact ih
theorem zjR (hb:b.length<=maxi)(hN:(a.length:Int)+1<=9223372036854775807)(hNb:(b.length:Int)+1<=9223372036854775807){R:Int->List (List Int)->Option (List (List Int))}: ∀ (i m:Nat),i<=a.length->i<m->
 za9 a b R m ((i:Int)-1) (zdu (a.length+1) (b.length+1) (zaQ a b i 0))=R (-1) (zdu (a.length+1) (b.length+1) (zaQ a b 0 0))
 |0,0,_,h=>by omega
 |0,m+1,_,_=>by
  simp only[za9]
  rw[aE (by omega)];rfl
 |i+1,0,_,h=>by omega
 |i+1,m+1,hi,hm=>by
  have e1:(((i+1:Nat):Int)-1)=(i:Int):=by omega
  have e2:w64 ((b.length:Int)-1)=(b.length:Int)-1:=zah (by omega) (by omega)
  have e3:w64 ((i:Int)-1)=(i:Int)-1:=zah (by omega) (by omega)
  simp only[za9,jn,e1,e2,aF (show(0:Int)<=(i:Int) by omega),aD]
  rw[zfJ,zjQ hb hN (by omega) b.length _ (Nat.le_refl _) (by omega),e3]
  exact zjR hb hN hNb i m (by omega) (by omega)
theorem zjS (ha:a.length<=1000)(hb:b.length<=1000){R:List (List Int)->Int->Option (List (List Int))}: ∀ (n i m:Nat),i+n=a.length+1->n<m->
 zbD a b R m ((List.range i).map (fun _=>zes (b.length+1) fun _=>0)) (i:Int)=R (zdu (a.length+1) (b.length+1) fun _ _=>0) ((a.length+1:Nat):Int)
 |n,i,0,_,h=>by omega
 |0,i,m+1,hi,_=>by
  simp only[zbD]
  rw[aE (by omega),show i=a.length+1 by omega]
  simp[zdu]
 |n+1,i,m+1,hi,hm=>by
  have e1:w64 ((b.length:Int)+1)=((b.length+1:Nat):Int):=by rw[zah (by omega) (by omega)];omega
  have e2:w64 ((i:Int)+1)=((i+1:Nat):Int):=by rw[zah (by omega) (by omega)];omega
  have hr:zes (b.length+1) (fun _=>0)=List.replicate (b.length+1) (0:Int):=by
   unfold zes
   rw[List.map_const',List.length_range]
  simp only[zbD,e1,e2,aF (show(i:Int)<=(a.length:Int) by omega),aD,zgE (show b.length+1<=lim by unfold lim;omega),aA]
  rw[ze5 (by simp[lim];omega),aA]
  have hset:(List.range i).map (fun _=>zes (b.length+1) fun _=>0)++[List.replicate (b.length+1) (0:Int)]=(List.range (i+1)).map (fun _=>zes (b.length+1) fun _=>0):=by
   simp[List.range_succ,hr]
  rw[hset]
  exact zjS ha hb n (i+1) m (by omega) (by omega)
theorem zmD (ha:a.length<=1000)(hb:b.length<=1000):zep a b=some (znl a b):=by
 unfold zep
 have e2:w64 ((a.length:Int)-1)=(a.length:Int)-1:=zah (by omega) (by omega)
 simp only[jn,e2]
 have h1:=zjS (a:=a) (b:=b) ha hb
  (R:=fun y3 y6=>za9 a b (fun y28 y30=>some y30) (((a.length:Int)-1+1-0).toNat+1) ((a.length:Int)-1) y3) (a.length+1) 0 (((a.length:Int)+1-0).toNat+1) (by omega) (by omega)
 simp only[List.range_zero,List.map_nil]at h1
 refine h1.trans ?_
 rw[zeO,zjR (by unfold maxi;omega) (by omega) (by omega) a.length _ (Nat.le_refl _) (by omega),zgO]
end
def mtF:List Str->List Str->Nat->List Int
 | [],_,_=>[]
 |_::xs,[],k=> -1::mtF xs [] k
 |x::xs,y::ys,k=>if x==y then(k:Int)::mtF xs ys (k+1) else if zd9 (x::xs) ys<=zd9 xs (y::ys) then -1::mtF xs (y::ys) k else mtF (x::xs) ys (k+1)
termination_by a b _=>a.length+b.length
theorem zgp (b:List Str)(k:Nat):mtF [] b k=[]:=by rw[mtF]
theorem zfl (x:Str)(xs:List Str)(k:Nat):mtF (x::xs) [] k = -1::mtF xs [] k:=by rw[mtF]
theorem ze6 (x y:Str)(xs ys:List Str)(k:Nat):mtF (x::xs) (y::ys) k=if x==y then(k:Int)::mtF xs ys (k+1) else if zd9 (x::xs) ys<=zd9 xs (y::ys) then -1::mtF xs (y::ys) k else mtF (x::xs) ys (k+1):=by rw[mtF]
def mt2 (a b:List Str):List Int:=mtF a b 0
theorem zkO {xs:List Int}{x:Int}(h:xs.length<=1000000):apM xs [x]=some (xs++[x]):=ze5 (by simp[lim];omega)
section
variable {a b:List Str}
theorem zfW {i k:Nat}(hi:i<=a.length)(hk:k<=b.length): ∃ r,gi (znl a b) (i:Int)=some r/\gi r (k:Int)=some (zaG a b i k):=
 ⟨_,zeN (by omega),zeM (by omega)⟩
theorem zbk {i:Nat}(h:i<a.length):a.drop i=a[i]::a.drop (i+1):=aI h
theorem zgP (ha:a.length<=1000)(hb:b.length<=1000): ∀ (m i k:Nat) (out:List Int),(a.length-i)+(b.length-k)<m->i<=a.length->k<=b.length->out.length=i->
 zdg a b (znl a b) (fun y5 _ _=>some y5) m out (i:Int) (k:Int)=some (out++mtF (a.drop i) (b.drop k) k)
 |0,i,k,out,hm,_,_,_=>by omega
 |m+1,i,k,out,hm,hi,hk,ho=>by
  have e2:w64 ((i:Int)+1)=((i+1:Nat):Int):=by rw[zah (by omega) (by omega)];omega
  have e3:w64 ((k:Int)+1)=((k+1:Nat):Int):=by rw[zah (by omega) (by omega)];omega
  simp only[zdg,jn,e2,e3]
  by_cases hil:i<a.length
  case neg=>
   rw[aE (by omega),aC,show i=a.length by omega,List.drop_length,zgp,List.append_nil]
  have hx:a[i]? =some a[i]:=aB hil
  rw[aF (by omega),aD,zbk hil]
  by_cases hkl:k<b.length
  case neg=>
   have hke:k=b.length:=by omega
   rw[aE (by omega),aC,aC,show((k:Int)==(b.length:Int))=true by simp[hke],aD,aD,zkO (by omega),aA,
    zgP ha hb m (i+1) k _ (by omega) (by omega) hk (by simp[ho])]
   rw[hke,List.drop_length,zfl]
   simp
  have hy:b[k]? =some b[k]:=aB hkl
  rw[aF (by omega),aD,zac hx,aA,zac hy,aA,zbk hkl,ze6]
  cases he:a[i]==b[k]with
  |true=>
   rw[aD,zkO (by omega),aA,zgP ha hb m (i+1) (k+1) _ (by omega) (by omega) (by omega) (by simp[ho])]
   simp
  |false=>
   rw[aC,show((k:Int)==(b.length:Int))=false by simp;omega,aC]
   obtain⟨r1,h1,h2⟩:=zfW (a:=a) (b:=b) (i:=i+1) (k:=k) (by omega) (by omega)
   obtain⟨r3,h3,h4⟩:=zfW (a:=a) (b:=b) (i:=i) (k:=k+1) (by omega) (by omega)
   rw[h1,aA,h2,aA,h3,aA,h4,aA]
   have c1:zaG a b i (k+1)=zd9 (a[i]::a.drop (i+1)) (b.drop (k+1)):=by unfold zaG;rw[zbk hil]
   have c2:zaG a b (i+1) k=zd9 (a.drop (i+1)) (b[k]::b.drop (k+1)):=by unfold zaG;rw[zbk hkl]
   rw[<- c1,<- c2]
   by_cases hc:zaG a b i (k+1)<=zaG a b (i+1) k
   ·rw[aF hc,aD,zkO (by omega),aA,zgP ha hb m (i+1) k _ (by omega) (by omega) hk (by simp[ho]),if_neg (by simp),if_pos hc,zbk hkl]
    simp
   ·rw[aE hc,aC,zgP ha hb m i (k+1) _ (by omega) hi (by omega) ho,if_neg (by simp),if_neg hc,zbk hil]
theorem zgQ (ha:a.length<=1000)(hb:b.length<=1000):zft a b=some (mt2 a b):=by
 unfold zft
 rw[zmC ha hb,aA]
 simp only[jn]
 have:=zgP ha hb (a.length+b.length+1) 0 0 [] (by omega) (by omega) (by omega) rfl
 simpa[mt2]using this
theorem zgR (ha:a.length<=1000)(hb:b.length<=1000): ∀ (m i k:Nat) (out:List Int),(a.length-i)+(b.length-k)<m->i<=a.length->k<=b.length->out.length=i->
 zct a b (znl a b) (fun y5 _ _=>some y5) m out (k:Int) (i:Int)=some (out++mtF (a.drop i) (b.drop k) k)
 |0,i,k,out,hm,_,_,_=>by omega
 |m+1,i,k,out,hm,hi,hk,ho=>by
  have e2:w64 ((i:Int)+1)=((i+1:Nat):Int):=by rw[zah (by omega) (by omega)];omega
  have e3:w64 ((k:Int)+1)=((k+1:Nat):Int):=by rw[zah (by omega) (by omega)];omega
  simp only[zct,jn,e2,e3]
  by_cases hil:i<a.length
  case neg=>
   rw[aE (by omega),aC,show i=a.length by omega,List.drop_length,zgp,List.append_nil]
  have hx:a[i]? =some a[i]:=aB hil
  rw[aF (by omega),aD,zbk hil]
  by_cases hkl:k<b.length
  case neg=>
   have hke:k=b.length:=by omega
   rw[aE (by omega),aC,aC,aF (by omega),aD,aD,zkO (by omega),aA,
    zgR ha hb m (i+1) k _ (by omega) (by omega) hk (by simp[ho])]
   rw[hke,List.drop_length,zfl]
   simp
  have hy:b[k]? =some b[k]:=aB hkl
  rw[aF (by omega),aD,zac hx,aA,zac hy,aA,zbk hkl,ze6]
  cases he:a[i]==b[k]with
  |true=>
   rw[aD,zkO (by omega),aA,zgR ha hb m (i+1) (k+1) _ (by omega) (by omega) (by omega) (by simp[ho])]
   simp
  |false=>
   rw[aC,aE (by omega),aC]
   obtain⟨r1,h1,h2⟩:=zfW (a:=a) (b:=b) (i:=i+1) (k:=k) (by omega) (by omega)
   obtain⟨r3,h3,h4⟩:=zfW (a:=a) (b:=b) (i:=i) (k:=k+1) (by omega) (by omega)
   rw[h1,aA,h2,aA,h3,aA,h4,aA]
   have c1:zaG a b i (k+1)=zd9 (a[i]::a.drop (i+1)) (b.drop (k+1)):=by unfold zaG;rw[zbk hil]
   have c2:zaG a b (i+1) k=zd9 (a.drop (i+1)) (b[k]::b.drop (k+1)):=by unfold zaG;rw[zbk hkl]
   rw[<- c1,<- c2]
   by_cases hc:zaG a b i (k+1)<=zaG a b (i+1) k
   ·rw[aF hc,aD,zkO (by omega),aA,zgR ha hb m (i+1) k _ (by omega) (by omega) hk (by simp[ho]),if_neg (by simp),if_pos hc,zbk hkl]
    simp
   ·rw[aE hc,aC,zgR ha hb m i (k+1) _ (by omega) hi (by omega) ho,if_neg (by simp),if_neg hc,zbk hil]
theorem zgS (ha:a.length<=1000)(hb:b.length<=1000):zdL a b=some (mt2 a b):=by
 unfold zdL
 rw[zmD ha hb,aA]
 simp only[jn]
 have:=zgR ha hb (a.length+b.length+1) 0 0 [] (by omega) (by omega) (by omega) rfl
 simpa[mt2]using this
end
def Asc (hi:Int):Int->List Int->Prop
 |_,[]=>True
 |lo,x::l=>(x = -1/\Asc hi lo l)\/(lo<=x/\x<hi/\Asc hi (x+1) l)
theorem Asc.mono {hi:Int}: ∀ {l:List Int} {lo lo':Int},lo'<=lo->Asc hi lo l->Asc hi lo' l
 | [],_,_,_,_=>trivial
 |x::l,lo,lo',h, .inl ⟨h1,h2⟩=> .inl ⟨h1,Asc.mono h h2⟩
 |x::l,lo,lo',h, .inr ⟨h1,h2,h3⟩=> .inr ⟨by omega,h2,h3⟩
theorem zet: ∀ (n:Nat) (a b:List Str) (k:Nat),a.length+b.length<=n->Asc ((k+b.length:Nat):Int) (k:Int) (mtF a b k)/\(mtF a b k).length=a.length
 |_,[],b,k,_=>by rw[zgp];exact⟨trivial,rfl⟩
 |0,x::xs,b,k,h=>by simp at h
 |n+1,x::xs,[],k,h=>by
  rw[zfl]
  have:=zet n xs [] k (by simp at h ⊢;omega)
  exact⟨.inl ⟨rfl,this.1⟩,by simp[this.2]⟩
 |n+1,x::xs,y::ys,k,h=>by
  simp only[aL]at h
  rw[ze6]
  split
  ·have:=zet n xs ys (k+1) (by omega)
   refine⟨.inr ⟨Int.le_refl _,by simp only[aL];omega,?_⟩,by simp[this.2]⟩
   have h1:=this.1
   rw[show((k+(y::ys).length:Nat):Int)=((k+1+ys.length:Nat):Int) by simp only[aL];omega,show(k:Int)+1=((k+1:Nat):Int) by omega]
   exact h1
  ·split
   ·have:=zet n xs (y::ys) k (by simp;omega)
    exact⟨.inl ⟨rfl,this.1⟩,by simp[this.2]⟩
   ·have:=zet n (x::xs) ys (k+1) (by simp;omega)
    refine⟨?_,by simp[this.2]⟩
    have h1:=this.1
    rw[show((k+(y::ys).length:Nat):Int)=((k+1+ys.length:Nat):Int) by simp only[aL];omega]
    exact h1.mono (by omega)
theorem zd2 (a b:List Str):Asc (b.length:Int) 0 (mt2 a b)/\(mt2 a b).length=a.length:=by
 have:=zet _ a b 0 (Nat.le_refl _)
 simpa[mt2]using this
theorem Asc.snoc {hi:Int}(h0:0<=hi): ∀ {l:List Int} {lo:Int},lo<=hi->Asc hi lo l->Asc (hi+1) lo (l++[hi])
 | [],lo,h,_=> .inr ⟨h,by omega,trivial⟩
 |x::l,lo,h, .inl ⟨h1,h2⟩=> .inl ⟨h1,Asc.snoc h0 h h2⟩
 |x::l,lo,h, .inr ⟨h1,h2,h3⟩=> .inr ⟨h1,by omega,Asc.snoc h0 (by omega) h3⟩
end Go.Vm
namespace Go.Sx
open Go
theorem zcb {R α:Type} {xs:List α} {p:α->Bool} {r:α->Option R} {Z:Option R} {f:Nat->Int->Option R}
 (hs: ∀ m (i:Nat) x,xs[i]? =some x->f (m+1) (i:Int)=bif p x then r x else f m ((i+1:Nat):Int)) (he: ∀ m,f (m+1) (xs.length:Int)=Z) {m:Nat} (hm:xs.length<m):
 f m 0=match xs.find? p with |some x=>r x |none=>Z:=by
 have key: ∀ k i m,i+k=xs.length->k<m->f m (i:Int)=match (xs.drop i).find? p with |some x=>r x |none=>Z:=by
  intro k
  induction k with
  |zero=>
   intro i m hi hm
   obtain⟨m,rfl⟩: ∃ q,m=q+1:=⟨m-1,by omega⟩
   rw[show i=xs.length by omega,he,List.drop_length]
   rfl
  |succ k ih=>
   intro i m hi hm
   obtain⟨m,rfl⟩: ∃ q,m=q+1:=⟨m-1,by omega⟩
   have hlt:i<xs.length:=by omega
   rw[hs m i xs[i] (aB hlt),aI hlt,List.find?_cons]
   cases p xs[i]with
   |true=>rfl
   |false=>exact ih (i+1) m (by omega) (by omega)
 have:=key xs.length 0 m (by omega) hm
 simpa using this
end Go.Sx
namespace Go.Vm
open Go Go.Sx
set_option linter.unusedSimpArgs false
set_option linter.unusedVariables false
def PB (n:Nat)(out:List Part):Prop:=out.length<=n /\ ∀ q∈out,q.Lines.length<=1000*n
theorem PB.mono {n m:Nat}{out:List Part}(h:PB n out)(hm:n<=m):PB m out:=⟨Nat.le_trans h.1 hm,fun q hq=>Nat.le_trans (h.2 q hq) (Nat.mul_le_mul_left _ hm)⟩
end Go.Vm
namespace Go.Sx
open Go
end Go.Sx
namespace Go.Vm
open Go Go.Sx
set_option linter.unusedSimpArgs false
set_option linter.unusedVariables false
section
variable {o a b:List Str}{Q:Part->Prop}
end
section
variable {xs:List Memo}{o a b:List Str}
theorem zbw {s:List Str}(h:s.length<=1000000)(hl: ∀ x∈s,zb8 x=true):Bk.fit s:=⟨by unfold maxi;omega,fun x hx=>by have:=zgt (hl x hx);show x.length<=maxi;unfold maxi;omega⟩
end
def LB (n:Nat)(t:List Str):Prop:=t.length<=n /\ ∀ s∈t,s.length<=100
theorem LB.fit {n:Nat}{t:List Str}(h:LB n t)(hn:n<=1000000):Bk.fit t:=⟨by have:=h.1;unfold maxi;omega,fun s hs=>by have:=h.2 s hs;show s.length<=maxi;unfold maxi;omega⟩
theorem LB.mono {n m:Nat}{t:List Str}(h:LB n t)(hm:n<=m):LB m t:=⟨Nat.le_trans h.1 hm,h.2⟩
theorem zfq {α:Type}{f:α->Nat}{c:Nat}: ∀ {t:List α},(∀ s∈t,f s<=c)->sumB f t<=c*t.length
 | [],_=>by simp[sumB]
 |x::t,h=>by
  have h1:=h x (by simp)
  have h2:=zfq (t:=t) (fun s hs=>h s (by simp[hs]))
  simp only[sumB,aL,Nat.mul_add,Nat.mul_one]
  omega
theorem LB.bulk {n:Nat}{t:List Str}(h:LB n t):Bk.bulk t<=101*n:=by
 have h1:sumB Bk.bulk t<=100*t.length:=zfq (f:=fun s:Str=>s.length) (c:=100) (fun s hs=>h.2 s hs)
 have:=h.1
 rw[zr7]
 omega
section
variable {r:l30Rd}{p:Int}
end
open Go Go.Sx Go.Proofs
theorem zaJ (a b:Str):Op.bytesLess a b=decide (a<b):=bytesLess_eq a b
theorem zjT (a b:Str):(decide (a<=b)||decide (b<=a))=true:=by
 rcases List.le_total a b with h |h<;>simp[h]
theorem zjU (a b c:Str):decide (a<=b)=true->decide (b<=c)=true->decide (a<=c)=true:=by
 simp only[decide_eq_true_eq]
 exact List.le_trans
theorem zaj (a:Str): ¬ a<a:=List.lt_irrefl a
theorem zaR {a b c:Str}:a<b->b<c->a<c:=List.lt_trans
theorem zbf {a b:Str}(h:a<=b)(hn:a≠b):a<b:=by
 rcases Decidable.em (a<b)with h1 |h1
 ·exact h1
 ·exact absurd (List.le_antisymm h (List.not_lt.1 h1)) hn
theorem zf0 {a b:Str}: ¬ a<b↔b<=a:=List.not_lt
def Asd (xs:List Str):Prop:=xs.Pairwise (· < ·)
theorem Asd.ext: ∀ {xs ys:List Str},Asd xs->Asd ys->(∀ a,a∈xs↔a∈ys)->xs=ys
 | [],[],_,_,_=>rfl
 | [],y::ys,_,_,h=>by have:=(h y).2 (by simp);simp at this
 |x::xs,[],_,_,h=>by have:=(h x).1 (by simp);simp at this
 |x::xs,y::ys,hx,hy,h=>by
  have hx':=List.pairwise_cons.1 hx
  have hy':=List.pairwise_cons.1 hy
  have e:x=y:=by
   rcases List.mem_cons.1 ((h x).1 (by simp))with e |hm
   ·exact e
   ·rcases List.mem_cons.1 ((h y).2 (by simp))with e |hm2
    ·exact e.symm
    ·exact absurd (zaR (hy'.1 x hm) (hx'.1 y hm2)) (zaj y)
  subst e
  have ht: ∀ a,a∈xs↔a∈ys:=fun a=>by
   constructor
   ·intro ha
    rcases List.mem_cons.1 ((h a).1 (List.mem_cons_of_mem _ ha))with e |hm
    ·exact absurd (by rw[e]at ha;exact hx'.1 x ha) (zaj x)
    ·exact hm
   ·intro ha
    rcases List.mem_cons.1 ((h a).2 (List.mem_cons_of_mem _ ha))with e |hm
    ·exact absurd (by rw[e]at ha;exact hy'.1 x ha) (zaj x)
    ·exact hm
  rw[Asd.ext hx'.2 hy'.2 ht]
theorem zkG (l:List Str):(zcg l).Pairwise (· <= ·):=by
 have:=List.pairwise_mergeSort (le:=fun x y:Str=>decide (x<=y)) zjU zjT l
 exact this.imp (by simp)
theorem zh2 {l:List Str}{a:Str}:a∈zcg l↔a∈l:=List.mem_mergeSort
theorem zgU: ∀ (l:List Str) (p:Option Str) (a:Str),a∈zcz p l\/some a=p↔a∈l\/some a=p
 | [],p,a=>by simp[zcz]
 |x::l,p,a=>by
  have ih:=zgU l (some x) a
  unfold zcz
  by_cases hp:p=some x
  ·rw[if_pos hp,hp]
   rw[ih]
   simp only[List.mem_cons,Option.some.injEq]
   constructor
   ·rintro(h |h)
    ·exact .inl (.inr h)
    ·exact .inr h
   ·rintro((h |h) |h)
    ·exact .inr h
    ·exact .inl h
    ·exact .inr h
  ·rw[if_neg hp]
   simp only[List.mem_cons,Option.some.injEq]at ih ⊢
   constructor
   ·rintro((h |h) |h)
    ·exact .inl (.inl h)
    ·rcases ih.1 (.inl h)with h2 |h2
     ·exact .inl (.inr h2)
     ·exact .inl (.inl h2)
    ·exact .inr h
   ·rintro((h |h) |h)
    ·exact .inl (.inl h)
    ·rcases ih.2 (.inl h)with h2 |h2
     ·exact .inl (.inr h2)
     ·exact .inl (.inl h2)
    ·exact .inr h
theorem zgj {l:List Str}{a:Str}:a∈zkL l↔a∈l:=by
 have:=zgU l none a
 simpa[zkL]using this
theorem zd1: ∀ (l:List Str) (p:Option Str),l.Pairwise (· <= ·)->(∀ q,p=some q -> ∀ a∈l,q<=a)->Asd (zcz p l) /\ ∀ q,p=some q -> ∀ a∈zcz p l,q<a
 | [],p,_,_=>by simp[zcz,Asd]
 |x::l,p,h,hp=>by
  have h':=List.pairwise_cons.1 h
  obtain⟨i1,i2⟩:=zd1 l (some x) h'.2 (fun q hq a ha=>by cases hq;exact h'.1 a ha)
  unfold zcz
  by_cases hpx:p=some x
  ·rw[if_pos hpx]
   exact⟨i1,fun q hq a ha=>by rw[hpx]at hq;exact i2 q hq a ha⟩
  ·rw[if_neg hpx]
   refine⟨List.pairwise_cons.2 ⟨fun a ha=>i2 x rfl a ha,i1⟩,fun q hq a ha=>?_⟩
   have hqx:q<x:=zbf (hp q hq x (by simp)) (fun e=>hpx (by rw[hq,e]))
   rcases List.mem_cons.1 ha with e |e
   ·rw[e];exact hqx
   ·exact zaR hqx (i2 x rfl a e)
def zfr (xs:List Str)(s:Str):List Str:=zkL (zcg (xs++[s]))
theorem zc9 (xs:List Str)(s:Str):Asd (zfr xs s):=(zd1 _ none (zkG _) (fun q hq=>by cases hq)).1
theorem insS_mem {xs:List Str}{s a:Str}:a∈zfr xs s↔a∈xs\/a=s:=by
 unfold zfr
 rw[zgj,zh2,List.mem_append,List.mem_singleton]
theorem zeP: ∀ (zs:List Str) (p:Option Str),(zcz p zs).length<=zs.length
 | [],p=>by simp[zcz]
 |x::l,p=>by
  have:=zeP l (some x)
  unfold zcz
  split<;>simp<;>omega
theorem zd3 (xs:List Str)(s:Str):(zfr xs s).length<=xs.length+1:=by
 have:=zeP (zcg (xs++[s])) none
 unfold zfr zkL
 have h2:(zcg (xs++[s])).length=(xs++[s]).length:=List.length_mergeSort _
 rw[h2]at this
 simpa using this
def zfR (c:UInt8):Bool:=(decide (97<=(c.toNat:Int))&&decide ((c.toNat:Int)<=122))||(decide (48<=(c.toNat:Int))&&decide ((c.toNat:Int)<=57))
def zaI (s:Str):Bool:=(decide (1<=(s.length:Int))&&decide ((s.length:Int)<=6))&&s.all zfR
theorem zhP (c:UInt8):zdN c=some (zfR c):=by
 unfold zdN zfR
 simp only[jn]
 cases decide (97<=(c.toNat:Int))<;>cases decide ((c.toNat:Int)<=122)<;>cases decide (48<=(c.toNat:Int))<;>cases decide ((c.toNat:Int)<=57)<;>rfl
theorem zdI (a b c:Int):zeu a b c=some (decide (b<=a)&&decide (a<=c)):=by
 unfold zeu
 simp only[jn]
 cases decide (b<=a)<;>rfl
theorem zeQ (a b c:Int):zec a b c=some (decide (b<=a)&&decide (a<=c)):=by
 unfold zec
 simp only[jn]
 cases decide (b<=a)<;>rfl
theorem zcc {s:Str}(h:s.length<=maxi):zcL s=some (zaI s):=by
 unfold zcL zaI
 simp only[jn,zal,zdI,aA]
 cases(decide (1<=(s.length:Int))&&decide ((s.length:Int)<=6))
 case false=>rfl
 simp only[aK,aC,Bool.true_and]
 rw[zaS (α:=UInt8) (xs:=s) (p:=zfR) (r0:=some false) (Z:=some true) (f:=fun m i=>zbY s (fun _ _=>some true) m false i) (fun m i x hx=>by
  simp only[zbY,jn,zam hx,zgF hx,aD,aA,zab (zaq hx) h,zhP]
  cases zfR x<;>rfl) (fun m=>by simp only[zbY,zad,aC]) (by omega)]
 cases s.all zfR<;>rfl
theorem zn5 (a b:Int):decide (a<b) = !decide (b<=a):=by
 by_cases h:a<b
 ·rw[aF h,aE (by omega)];rfl
 ·rw[aE h,aF (by omega)];rfl
theorem zcd {s:Str}(h:s.length<=maxi):zcJ s=some (zaI s):=by
 unfold zcJ zaI
 simp only[jn,zal,zeQ,aA]
 rw[zaS (α:=UInt8) (xs:=s) (p:=zfR) (r0:=some false) (Z:=some (decide (1<=(s.length:Int))&&decide ((s.length:Int)<=6))) (f:=fun m i=>zbU s (fun _ _=>some (decide (1<=(s.length:Int))&&decide ((s.length:Int)<=6))) m false i) (fun m i x hx=>by
  simp only[zbU,jn,zam hx,zgF hx,aD,aA,zab (zaq hx) h,zn5,zfR]
  cases decide (97<=(x.toNat:Int))<;>cases decide ((x.toNat:Int)<=122)<;>cases decide (48<=(x.toNat:Int))<;>cases decide ((x.toNat:Int)<=57)<;>rfl) (fun m=>by simp only[zbU,zad,aC]) (by omega)]
 cases s.all zfR<;>cases(decide (1<=(s.length:Int))&&decide ((s.length:Int)<=6))<;>rfl
theorem zpM {xs:List Str}{s:Str}(h:xs.length<=1000000):zjf xs s=some (zfr xs s):=by
 have h2:(zcg (xs++[s])).length=(xs++[s]).length:=List.length_mergeSort _
 have h3:(xs++[s]).length=xs.length+1:=by simp
 unfold zjf zaO zbr
 rw[apN (show xs.length<=1048576 by omega),aA,ap1 (show xs.length<=1048576 by omega),aA,if_pos (by omega),aA,if_pos (by omega)]
 rfl
def ahd (s:Str):List Str->Nat
 | []=>0
 |x::xs=>bif Op.bytesLess x s then ahd s xs+1 else 0
theorem zl4 (s:Str): ∀ xs,ahd s xs<=xs.length
 | []=>Nat.le_refl _
 |x::xs=>by
  have:=zl4 s xs
  unfold ahd
  cases Op.bytesLess x s
  ·simp
  ·simp only[aD,aL];omega
theorem zil (s:Str): ∀ (xs:List Str) x,x∈xs.take (ahd s xs)->x<s
 | [],x,h=>by simp at h
 |y::xs,x,h=>by
  unfold ahd at h
  cases hy:Op.bytesLess y s with
  |false=>rw[hy]at h;simp at h
  |true=>
   rw[hy,aD,List.take_succ_cons]at h
   rcases List.mem_cons.1 h with e |e
   ·rw[e];rw[zaJ]at hy;simpa using hy
   ·exact zil s xs x e
theorem zl5 (s:Str): ∀ (xs:List Str) x,xs[ahd s xs]? =some x->s<=x
 | [],x,h=>by simp at h
 |y::xs,x,h=>by
  unfold ahd at h
  cases hy:Op.bytesLess y s with
  |false=>
   rw[hy,aC]at h
   have e:y=x:=by simpa using h
   rw[<- e]
   rw[zaJ]at hy
   exact zf0.1 (by simpa using hy)
  |true=>
   rw[hy,aD]at h
   exact zl5 s xs x (by simpa using h)
theorem zn6 {xs:List Str}{s:Str}(hl:xs.length<=1000000){K:Int->Option (List Str)}: ∀ (n i m:Nat),i+n=xs.length->n<m->(∀ j,j<i -> ∃ x,xs[j]? =some x/\x<s)->zcn xs s K m (i:Int)=K ((i+ahd s (xs.drop i):Nat):Int)
 |n,i,0,_,hm,_=>by omega
 |0,i,m+1,hi,_,_=>by
  simp only[zcn,jn]
  rw[aE (by omega),aC,aC,List.drop_eq_nil_of_le (by omega)]
  rfl
 |n+1,i,m+1,hi,hm,hall=>by
  have hlt:i<xs.length:=by omega
  have hx:xs[i]? =some xs[i]:=aB hlt
  simp only[zcn,jn]
  rw[aF (by omega),aD,zac hx,aA,aI hlt]
  unfold ahd
  cases hb:Op.bytesLess xs[i] s with
  |false=>rw[aC,aC];rfl
  |true=>
   rw[aD,aD,zab hlt (by unfold maxi;omega)]
   rw[zn6 hl n (i+1) m (by omega) (by omega) (fun j hj=>by
    rcases Nat.lt_or_ge j i with h1 |h1
    ·exact hall j h1
    ·have:j=i:=by omega
     subst this
     exact⟨_,hx,by rw[zaJ]at hb;simpa using hb⟩)]
   congr 2
   omega
theorem ziR {xs:List Str}{s:Str}(hl:xs.length<=1000000)(ha:Asd xs):zdi xs s=some (zfr xs s):=by
 unfold zdi
 simp only[jn]
 have h1:=zn6 (s:=s) hl (K:=fun y1=>bif decide (y1< (xs.length:Int)) then(gi xs y1).bind fun u52=>bif u52==s then some xs else(slM xs 0 y1).bind fun q19=>(apM [] q19).bind fun q24=>(apM q24 [s]).bind fun q31=>(slM xs y1 (xs.length:Int)).bind fun q36=>(apM q31 q36).bind fun q41=>some q41
  else bif false then some xs else(slM xs 0 y1).bind fun q19=>(apM [] q19).bind fun q24=>(apM q24 [s]).bind fun q31=>(slM xs y1 (xs.length:Int)).bind fun q36=>(apM q31 q36).bind fun q41=>some q41) xs.length 0 (xs.length+1) (by omega) (by omega) (fun j hj=>by omega)
 have hk:=zl4 s xs
 simp only[Nat.zero_add,List.drop_zero]at h1
 refine h1.trans ?_
 -- the list with s in its place
 have hput:(slM xs 0 ((ahd s xs:Nat):Int)).bind (fun q19=>(apM [] q19).bind fun q24=>(apM q24 [s]).bind fun q31=>(slM xs ((ahd s xs:Nat):Int) (xs.length:Int)).bind fun q36=>(apM q31 q36).bind fun q41=>some q41)=some (xs.take (ahd s xs)++[s]++xs.drop (ahd s xs)):=by
  have hlt:(xs.take (ahd s xs)).length<=xs.length:=by simp;omega
  rw[zhb hk,aA,apN (by omega),aA,ap1 (by omega),aA,zkY hk,aA,ze5 (by simp[lim];omega),aA]
 have hmem: ∀ a,a∈xs.take (ahd s xs)++[s]++xs.drop (ahd s xs)↔a∈xs\/a=s:=fun a=>by
  have:a∈xs↔a∈xs.take (ahd s xs)\/a∈xs.drop (ahd s xs):=by rw[<- List.mem_append,List.take_append_drop]
  rw[this]
  simp only[List.mem_append,List.mem_singleton]
  constructor
  ·rintro((h |h) |h)
   ·exact .inl (.inl h)
   ·exact .inr h
   ·exact .inl (.inr h)
  ·rintro((h |h) |h)
   ·exact .inl (.inl h)
   ·exact .inr h
   ·exact .inl (.inr h)
 have hfin:(∀ x∈xs.drop (ahd s xs),s<x)->some (xs.take (ahd s xs)++[s]++xs.drop (ahd s xs))=some (zfr xs s):=by
  intro hd
  congr 1
  refine Asd.ext ?_ (zc9 _ _) (fun a=>by rw[hmem,insS_mem])
  have ha':=ha
  rw[<- List.take_append_drop (ahd s xs) xs]at ha'
  obtain⟨p1,p2,p3⟩:=List.pairwise_append.1 ha'
  refine List.pairwise_append.2 ⟨List.pairwise_append.2 ⟨p1,List.pairwise_singleton _ _,fun a h b hb=>?_⟩,p2,fun a h b hb=>?_⟩
  ·rw[List.mem_singleton]at hb;rw[hb];exact zil s xs a h
  ·rcases List.mem_append.1 h with h2 |h2
   ·exact p3 a h2 b hb
   ·rw[List.mem_singleton]at h2;rw[h2];exact hd b hb
 by_cases hlt:ahd s xs<xs.length
 ·have hx:xs[ahd s xs]? =some xs[ahd s xs]:=aB hlt
  have hge:=zl5 s xs _ hx
  rw[aF (by omega),aD,zac hx,aA]
  cases he:xs[ahd s xs]==s with
  |true=>
   have e:xs[ahd s xs]=s:=by simpa using he
   rw[aD]
   congr 1
   exact Asd.ext ha (zc9 _ _) (fun a=>by
    rw[insS_mem]
    constructor
    ·exact .inl
    ·rintro(h |h)
     ·exact h
     ·rw[h,<- e];exact List.getElem_mem hlt)
  |false=>
   have e:s≠xs[ahd s xs]:=fun e=>by rw[<- e]at he;simp at he
   rw[aC,hput]
   refine hfin (fun x hx2=>?_)
   rw[aI hlt]at hx2
   have hs1:s<xs[ahd s xs]:=zbf hge e
   rcases List.mem_cons.1 hx2 with h2 |h2
   ·rw[h2];exact hs1
   ·have hp:Asd (xs.drop (ahd s xs)):=List.Pairwise.sublist (List.drop_sublist _ _) ha
    rw[aI hlt]at hp
    exact zaR hs1 ((List.pairwise_cons.1 hp).1 x h2)
 ·rw[aE (by omega),aC,aC,hput]
  refine hfin (fun x hx2=>?_)
  rw[List.drop_eq_nil_of_le (by omega)]at hx2
  simp at hx2
def ztg (xs:List Str)(i:Nat):Bool:=zaI (xs.getD i [])&&(bif decide (0< (i:Int)) then Op.bytesLess (xs.getD (i-1) []) (xs.getD i []) else true)
def znW (xs:List Str):Bool:=zfs (ztg xs) 0 xs.length
theorem znO {xs:List Str}{i:Nat}{x:Str}(h:xs[i]? =some x):xs.getD i []=x:=by simp[List.getD,h]
theorem zti (a b:Str):(Op.bytesLess a b||a==b) = !Op.bytesLess b a:=by
 rw[zaJ,zaJ]
 by_cases h:b<a
 ·have h1: ¬ a<b:=fun h2=>zaj a (zaR h2 h)
  have h2: ¬ a=b:=fun e=>by rw[e]at h;exact zaj b h
  simp[h,h1,h2]
 ·by_cases e:a=b
  ·simp[h,e]
  ·have:=zbf (zf0.1 h) e
   simp[h,this]
theorem zqy {xs:List Str}{i:Nat}{x:Str}(h:xs[i]? =some x)(hl:xs.length<=maxi)(h0:(0:Int)< (i:Int)): ∃ y,gi xs (w64 ((i:Int)-1))=some y/\xs.getD (i-1) []=y:=by
 have hi:=zaq h
 have e:w64 ((i:Int)-1)=((i-1:Nat):Int):=by rw[zah (by omega) (by unfold maxi at hl;omega)];omega
 have hx:xs[i-1]? =some xs[i-1]:=aB (by omega)
 exact⟨_,by rw[e];exact zac hx,znO hx⟩
theorem zpN {xs:List Str}(h:Bk.fit xs):zjc xs=some (znW xs):=by
 unfold zjc znW
 simp only[jn,zal]
 rw[zbt (n:=xs.length) (g:=ztg xs) (r0:=some false) (Z:=some true) (f:=fun m i=>zfx xs (fun _ _=>some true) m false i) (fun m i hi=>by
  have hx:xs[i]? =some xs[i]:=aB hi
  have fx:xs[i].length<=maxi:=zhn h hx
  simp only[zfx,jn,zam hx,zac hx,aD,aA,zab hi (zdz h),zcc fx]
  unfold ztg
  rw[znO hx]
  cases zaI xs[i]
  ·rfl
  ·by_cases h0:(0:Int)< (i:Int)
   ·obtain⟨y,hy,ey⟩:=zqy hx (zdz h) h0
    rw[hy,ey,aF h0]
    simp only[aA]
    cases Op.bytesLess y xs[i]<;>rfl
   ·rw[aE h0];rfl) (fun m=>by simp only[zfx,zad,aC]) _ (by omega)]
 cases zfs (ztg xs) 0 xs.length<;>rfl
def zuV (v:Review):Bool:=zaI v.Branch&&(zaI v.Into&&(zaI v.By&&(v.Branch !=v.Into&&decide ((v.Yes.length:Int)<=5))))
def zpm (v:Review):Bool:=znW v.Yes&&zuV v
theorem zo4 {v:Review}(h:Bk.fit v):ziF v=some (zpm v):=by
 obtain⟨h1,h2,h3,h4⟩:=h
 unfold ziF zpm zuV
 simp only[jn,zcc h1,zcc h2,zcc h3,zpN h4,aA]
 cases zaI v.Branch<;>cases zaI v.Into<;>cases zaI v.By<;>cases(v.Branch !=v.Into)<;>cases decide ((v.Yes.length:Int)<=5)<;>cases znW v.Yes<;>rfl
theorem zrM {v:Review}(h:Bk.fit v):zlc v=some (zpm v):=by
 obtain⟨h1,h2,h3,h4⟩:=h
 unfold zlc zpm znW
 simp only[jn,zal]
 rw[zbt (n:=v.Yes.length) (g:=ztg v.Yes) (r0:=some false) (Z:=some (zuV v)) (f:=fun m i=>zgL v _ m false i) (fun m i hi=>by
  have hx:v.Yes[i]? =some v.Yes[i]:=aB hi
  have fx:v.Yes[i].length<=maxi:=zhn h4 hx
  simp only[zgL,jn,zam hx,zac hx,aD,aA,zab hi (zdz h4),zcd fx]
  unfold ztg
  rw[znO hx]
  cases zaI v.Yes[i]
  ·rfl
  ·by_cases h0:(0:Int)< (i:Int)
   ·obtain⟨y,hy,ey⟩:=zqy hx (zdz h4) h0
    rw[hy,ey,aF h0]
    simp only[aA,zti]
    cases Op.bytesLess y v.Yes[i]<;>rfl
   ·rw[aE h0];rfl) (fun m=>by
  simp only[zgL,zad,aC,zcd h1,zcd h2,zcd h3,aA,zuV]
  cases zaI v.Branch<;>cases zaI v.Into<;>cases zaI v.By<;>cases(v.Branch !=v.Into)<;>rfl) _ (by omega)]
 cases zfs (ztg v.Yes) 0 v.Yes.length<;>rfl
theorem znq {v:Review}(h:zpm v=true):v.Yes.length<=5:=by
 unfold zpm zuV at h
 simp only[aG,decide_eq_true_eq]at h
 omega
def RB (n:Nat)(v:Review):Prop:=v.Branch.length<=4/\v.Into.length<=4/\v.By.length<=4/\LB n v.Yes
theorem RB.fit {n:Nat}{v:Review}(h:RB n v)(hn:n<=1000):Bk.fit v:=
 ⟨by have:=h.1;show v.Branch.length<=maxi;unfold maxi;omega,by have:=h.2.1;show v.Into.length<=maxi;unfold maxi;omega,by have:=h.2.2.1;show v.By.length<=maxi;unfold maxi;omega,h.2.2.2.fit (by omega)⟩
theorem zqz (v:Review):zkj.cn v=v.Yes.length:=by
 have:=zqs v.Yes
 show 0+(0+(0+zhN.list.cn v.Yes))=_
 omega
def curS (c:UInt8):Str->Str->List Str
 |w,[]=>[w]
 |w,x::r=>bif x==c then w::curS c [] r else curS c (w++[x]) r
def zdk (c:UInt8):Nat->Str->Str->List Str
 |_,w,[]=>[w]
 |0,w,x::r=>[w++x::r]
 |n+1,w,x::r=>bif x==c then w::zdk c n [] r else zdk c (n+1) (w++[x]) r
theorem zim (c:UInt8): ∀ (r w:Str),1<=(curS c w r).length
 | [],w=>by simp[curS]
 |x::r,w=>by
  unfold curS
  cases x==c
  ·exact zim c r _
  ·simp
theorem zdx (c:UInt8)(w r:Str):zdk c 0 w r=[w++r]:=by
 cases r<;>simp[zdk]
theorem zcs (c:UInt8): ∀ (r:Str) (n:Nat) (w:Str),(curS c w r).length<=n+1->zdk c n w r=curS c w r
 | [],n,w,h=>by cases n<;>simp[zdk,curS]
 |x::r,0,w,h=>by
  unfold curS at h ⊢
  cases hx:x==c with
  |true=>
   rw[hx,aD]at h
   have:=zim c r []
   rw[aL]at h
   omega
  |false=>
   rw[hx,aC]at h
   have ih:=zcs c r 0 (w++[x]) h
   rw[aC,<- ih,zdx,zdx]
   simp
 |x::r,n+1,w,h=>by
  unfold curS at h ⊢
  unfold zdk
  cases hx:x==c with
  |true=>
   rw[hx,aD,aL]at h
   rw[aD,aD,zcs c r n [] (by omega)]
  |false=>
   rw[hx,aC]at h
   rw[aC,aC,zcs c r (n+1) _ h]
theorem zdy (c:UInt8): ∀ (r:Str) (n:Nat) (w:Str),n+1<=(curS c w r).length->(zdk c n w r).length=n+1
 | [],n,w,h=>by
  simp[curS]at h
  subst h
  simp[zdk]
 |x::r,0,w,h=>by simp[zdk]
 |x::r,n+1,w,h=>by
  unfold curS at h
  unfold zdk
  cases hx:x==c with
  |true=>
   rw[hx,aD,aL]at h
   rw[aD,aL,zdy c r n [] (by omega)]
  |false=>
   rw[hx,aC]at h
   rw[aC,zdy c r (n+1) _ h]
theorem ziW {c:UInt8}{w:Str}(h:c∉w):Lib.index w [c] = -1:=Lib.index_none fun j hj=>by
 cases ho:Lib.occAt w [c] j with
 |false=>rfl
 |true=>exact absurd (aH (Lib.occAt_head rfl ho)) h
theorem zko {c:UInt8}{w r:Str}(h:c∉w):Lib.index (w++c::r) [c]=((w.length:Nat):Int):=Lib.index_first (by simp) (by simp[Lib.occAt,List.isPrefixOf]) fun j hj=>by
 cases ho:Lib.occAt (w++c::r) [c] j with
 |false=>rfl
 |true=>
  have:=Lib.occAt_head rfl ho
  rw[aM hj]at this
  exact absurd (aH this) h
theorem zeR (c:UInt8): ∀ (r w:Str),c∉w->Lib.split (w++r) [c]=curS c w r
 | [],w,h=>by
  unfold Lib.split curS
  rw[List.append_nil,Lib.count_miss (ziW h)]
  rfl
 |x::r,w,h=>by
  unfold curS
  cases hx:x==c with
  |true=>
   have e:x=c:=by simpa using hx
   subst e
   have hi:=zko (r:=r) h
   rw[aD]
   have ih:=zeR x r [] (by simp)
   unfold Lib.split at ih ⊢
   have hd:(w++x::r).drop (w.length+1)=r:=by
    rw[show w++x::r=(w++[x])++r by simp,List.drop_left' (by simp)]
   have hc:Lib.count (w++x::r) [x]=Lib.count r [x]+1:=by
    rw[Lib.count_hit (by simp) hi]
    show 1+Lib.count ((w++x::r).drop (w.length+1)) [x]=_
    rw[hd]
    omega
   rw[hc]
   unfold Lib.splitK
   rw[if_neg (by rw[hi];simp),hi]
   have e1:(w++x::r).take (((w.length:Nat):Int).toNat+0)=w:=by simp
   have e2:(w++x::r).drop (((w.length:Nat):Int).toNat+[x].length)=r:=hd
   rw[e1,e2]
   simp only[List.nil_append]at ih
   rw[ih]
  |false=>
   have hne:x≠c:=by simpa using hx
   rw[aC,show w++x::r=(w++[x])++r by simp]
   exact zeR c r (w++[x]) (by
    rw[List.mem_append,List.mem_singleton]
    rintro(h1 |h1)
    ·exact h h1
    ·exact hne h1.symm)
theorem zli (c:UInt8)(s:Str):Lib.split s [c]=curS c [] s:=zeR c s [] (by simp)
theorem zjV (u c:UInt8):(((UInt8.toNat u:Nat):Int)==((UInt8.toNat c:Nat):Int))=(u==c):=by
 have: ∀ b c:Bool,(b=true↔c=true)->b=c:=by decide
 apply this
 rw[beq_iff_eq,beq_iff_eq,<- UInt8.toNat_inj]
 omega
theorem zjW {s:Str}{c:UInt8}{most:Nat}(hs:s.length<=1048576)(hm:most<=1000): ∀ (n:Nat) (out:List Str) (from_ i m:Nat),i+n=s.length->n<m->from_<=i->out.length<=most->
 zdM s c (most:Int) (fun y3 y6 y7=>(slM s y6 (s.length:Int)).bind fun q38=>(apM y3 [q38]).bind fun q43=>some q43) m out (from_:Int) (i:Int)=some (out++zdk c (most-out.length) ((s.take i).drop from_) (s.drop i))
 |n,out,f,i,0,_,hm,_,_=>by omega
 |n,out,f,i,m+1,hi,hn,hf,ho=>by
  have hdone:(slM s (f:Int) (s.length:Int)).bind (fun q38=>(apM out [q38]).bind fun q43=>some q43)=some (out++[s.drop f]):=by
   rw[zkY (by omega),aA,ap1 (by omega),aA]
  have hw:(s.take i).drop f++s.drop i=s.drop f:=by
   rw[<- List.drop_append_of_le_length (by simp;omega),List.take_append_drop]
  simp only[zdM,jn]
  by_cases h1:(i:Int)< (s.length:Int)
  case neg=>
   rw[aE h1,aC,aC,hdone]
   have:s.drop i=[]:=List.drop_eq_nil_of_le (by omega)
   rw[this]at hw ⊢
   rw[List.append_nil]at hw
   rw[hw]
   cases most-out.length<;>simp[zdk]
  rw[aF h1,aD]
  have hlt:i<s.length:=by omega
  have hx:s[i]? =some s[i]:=aB hlt
  by_cases h2:(out.length:Int)< (most:Int)
  case neg=>
   rw[aE h2,aC,hdone]
   have:most-out.length=0:=by omega
   rw[this,zdx,hw]
  obtain⟨n,rfl⟩: ∃ k,n=k+1:=⟨n-1,by omega⟩
  obtain⟨k,hk⟩: ∃ k,most-out.length=k+1:=⟨most-out.length-1,by omega⟩
  rw[aF h2,aD,zgF hx,aA,zjV,hk,aI hlt]
  unfold zdk
  cases hb:s[i]==c with
  |true=>
   rw[aD,aD,zeF (by omega) (by omega) (by omega),aA,ap1 (by omega),aA,zab hlt (by unfold maxi;omega),zjW hs hm n _ (i+1) (i+1) m (by omega) (by omega) (by omega) (by simp;omega)]
   have e1:most-(out++[((s.take ((i:Nat):Int).toNat)).drop ((f:Nat):Int).toNat]).length=k:=by simp;omega
   have e2:(s.take (i+1)).drop (i+1)=[]:=List.drop_eq_nil_of_le (by simp;omega)
   rw[e1,e2]
   simp
  |false=>
   rw[aC,aC,zab hlt (by unfold maxi;omega),zjW hs hm n _ f (i+1) m (by omega) (by omega) (by omega) ho,hk]
   have e2:(s.take (i+1)).drop f=(s.take i).drop f++[s[i]]:=by
    rw[List.take_add_one,hx]
    rw[List.drop_append_of_le_length (by simp;omega)]
    rfl
   rw[e2]
theorem zlj {s:Str}{c:UInt8}{most:Nat}(hs:s.length<=1048576)(hm:most<=1000):zgk s c (most:Int)=some (zdk c most [] s):=by
 unfold zgk
 simp only[jn]
 have:=zjW (c:=c) (most:=most) hs hm s.length [] 0 0 (s.length+1) (by omega) (by omega) (Nat.le_refl _) (by simp)
 simpa using this
def zaX (s:Str):Bool:=decide ((curS 47 [] s).length<=3)&&(curS 47 [] s).all zaI
theorem zf1 (c:UInt8): ∀ (r w:Str),∀ p∈curS c w r,p.length<=w.length+r.length
 | [],w,p,h=>by simp[curS]at h;rw[h];omega
 |x::r,w,p,h=>by
  unfold curS at h
  cases hx:x==c with
  |true=>
   rw[hx,aD]at h
   rcases List.mem_cons.1 h with e |e
   ·rw[e];omega
   ·have:=zf1 c r [] p e
    simp at this ⊢
    omega
  |false=>
   rw[hx,aC]at h
   have:=zf1 c r (w++[x]) p h
   simp at this ⊢
   omega
theorem zeA (c:UInt8): ∀ (r w:Str),(curS c w r).length<=r.length+1
 | [],w=>by simp[curS]
 |x::r,w=>by
  unfold curS
  cases x==c
  ·have:=zeA c r (w++[x]);simp at this ⊢;omega
  ·have:=zeA c r [];simp at this ⊢;omega
theorem zbB {s:Str}(h:s.length<=1048576):zdT s=some (zaX s):=by
 unfold zdT strings_Split zaX
 rw[if_pos ⟨by omega,by simp⟩,aA,zli]
 have hl:=zeA 47 s []
 by_cases h3:(3:Int)< ((curS 47 [] s).length:Int)
 ·rw[aF h3,aD,aE (by omega)];rfl
 rw[aE h3,aC,aF (by omega),Bool.true_and]
 simp only[jn,zal]
 rw[zaS (α:=Str) (xs:=curS 47 [] s) (p:=zaI) (r0:=some false) (Z:=some true) (f:=fun m i=>zb1 (curS 47 [] s) (fun _ _=>some true) m false i) (fun m i x hx=>by
  have hf:=zf1 47 s [] x (aH hx)
  simp only[zb1,zam hx,zac hx,aD,aA,zab (zaq hx) (show(curS 47 [] s).length<=maxi by unfold maxi;omega),zcc (show x.length<=maxi by unfold maxi;simp at hf;omega)]
  cases zaI x<;>rfl) (fun m=>by simp only[zb1,zad,aC]) (by omega)]
 cases(curS 47 [] s).all zaI<;>rfl
theorem zfO (c:UInt8): ∀ (r:Str) (n:Nat) (w:Str),∀ p∈zdk c n w r,p.length<=w.length+r.length
 | [],n,w,p,h=>by cases n<;>simp[zdk]at h<;>rw[h]<;>omega
 |x::r,0,w,p,h=>by simp[zdk]at h;rw[h];simp
 |x::r,n+1,w,p,h=>by
  unfold zdk at h
  cases hx:x==c with
  |true=>
   rw[hx,aD]at h
   rcases List.mem_cons.1 h with e |e
   ·rw[e];omega
   ·have:=zfO c r n [] p e
    simp at this ⊢
    omega
  |false=>
   rw[hx,aC]at h
   have:=zfO c r (n+1) (w++[x]) p h
   simp at this ⊢
   omega
theorem zgV {s:Str}(h:s.length<=1048576):zdC s=some (zaX s):=by
 unfold zdC zaX
 have e47:(UInt8.ofNatLT 47 (by decide):UInt8)=47:=by decide
 have hc:=zlj (c:=UInt8.ofNatLT 47 (by decide)) (most:=3) h (by omega)
 rw[show(3:Int)=((3:Nat):Int) from rfl,hc,aA,e47]
 simp only[jn,zal]
 have hlen:(zdk 47 3 [] s).length<=maxi:=by
  rcases Nat.lt_or_ge (curS 47 [] s).length 4 with h1 |h1
  ·rw[zcs 47 s 3 [] (by omega)];unfold maxi;omega
  ·rw[zdy 47 s 3 [] h1];unfold maxi;omega
 rw[zaS (α:=Str) (xs:=zdk 47 3 [] s) (p:=zaI) (r0:=some false) (Z:=some (decide (((zdk 47 3 [] s).length:Int)<=((3:Nat):Int)))) (f:=fun m i=>zbV (zdk 47 3 [] s) (fun _ _=>some (decide (((zdk 47 3 [] s).length:Int)<=((3:Nat):Int)))) m false i) (fun m i x hx=>by
  have hf:=zfO 47 s 3 [] x (aH hx)
  simp only[zbV,zam hx,zac hx,aD,aA,zab (zaq hx) hlen,zcd (show x.length<=maxi by unfold maxi;simp at hf;omega)]
  cases zaI x<;>rfl) (fun m=>by simp only[zbV,zad,aC]) (by omega)]
 rcases Nat.lt_or_ge (curS 47 [] s).length 4 with h1 |h1
 ·rw[zcs 47 s 3 [] (by omega),aF (show((curS 47 [] s).length:Int)<=((3:Nat):Int) by omega),aF (show(curS 47 [] s).length<=3 by omega)]
  cases(curS 47 [] s).all zaI<;>rfl
 ·rw[zdy 47 s 3 [] h1,aE (show ¬ (curS 47 [] s).length<=3 by omega)]
  cases(zdk 47 3 [] s).all zaI<;>rfl
theorem zfP (a b:Str):(Op.bytesLess a b||a==b) = !Op.bytesLess b a:=by
 rw[zaJ,zaJ]
 by_cases h:b<a
 ·have h1: ¬ a<b:=fun h2=>zaj a (zaR h2 h)
  have h2: ¬ a=b:=fun e=>by rw[e]at h;exact zaj b h
  simp[h,h1,h2]
 ·by_cases e:a=b
  ·simp[h,e]
  ·have:=zbf (zf0.1 h) e
   simp[h,this]
def zkZ:Owner:=⟨[],[]⟩
def zsq (xs:List Owner)(i:Nat):Bool:=zaX (xs.getD i zkZ).Path&&(zaI (xs.getD i zkZ).Who&&(bif decide (0< (i:Int)) then Op.bytesLess (xs.getD (i-1) zkZ).Path (xs.getD i zkZ).Path else true))
def zfv (xs:List Owner):Bool:=decide ((xs.length:Int)<=5)&&zfs (zsq xs) 0 xs.length
theorem zmM {xs:List Owner}{i:Nat}{x:Owner}(h:xs[i]? =some x):xs.getD i zkZ=x:=by simp[List.getD,h]
theorem zpn {xs:List Owner}{i:Nat}{x:Owner}(h:xs[i]? =some x)(hl:xs.length<=maxi)(h0:(0:Int)< (i:Int)): ∃ y,gi xs (w64 ((i:Int)-1))=some y/\xs.getD (i-1) zkZ=y:=by
 have hi:=zaq h
 have e:w64 ((i:Int)-1)=((i-1:Nat):Int):=by rw[zah (by omega) (by unfold maxi at hl;omega)];omega
 have hx:xs[i-1]? =some xs[i-1]:=aB (by omega)
 exact⟨_,by rw[e];exact zac hx,zmM hx⟩
def OB (xs:List Owner):Prop:=xs.length<=1048576 /\ ∀ x∈xs,x.Path.length<=1048576/\x.Who.length<=1048576
theorem OB.of {xs:List Owner}(h:Bk.bulk xs<=1048576):OB xs:=⟨zch h,fun x hx=>by
 have h1:Bk.bulk x<=1048576:=zfQ h hx
 have h2:Bk.bulk x=x.Path.length+x.Who.length:=rfl
 omega⟩
theorem OB.at_ {xs:List Owner}(h:OB xs){i:Nat}{x:Owner}(hx:xs[i]? =some x):x.Path.length<=1048576/\x.Who.length<=1048576:=h.2 x (aH hx)
theorem zmN {xs:List Owner}(h:OB xs):zhA xs=some (zfv xs):=by
 unfold zhA zfv
 by_cases h5:(5:Int)< (xs.length:Int)
 ·rw[aF h5,aE (by omega)];rfl
 rw[aE h5,aF (by omega),aC,Bool.true_and]
 simp only[jn,zal]
 rw[zbt (n:=xs.length) (g:=zsq xs) (r0:=some false) (Z:=some true) (f:=fun m i=>ze2 xs (fun _ _=>some true) m false i) (fun m i hi=>by
  have hx:xs[i]? =some xs[i]:=aB hi
  obtain⟨f1,f2⟩:=h.at_ hx
  simp only[ze2,jn,zam hx,zac hx,aD,aA,zab hi (show xs.length<=maxi by unfold maxi;omega),zbB f1,zcc (zak f2)]
  unfold zsq
  rw[zmM hx]
  cases zaX xs[i].Path
  ·rfl
  ·cases zaI xs[i].Who
   ·rfl
   ·by_cases h0:(0:Int)< (i:Int)
    ·obtain⟨y,hy,ey⟩:=zpn hx (show xs.length<=maxi by unfold maxi;omega) h0
     rw[hy,ey,aF h0]
     simp only[aA]
     cases Op.bytesLess y.Path xs[i].Path<;>rfl
    ·rw[aE h0];rfl) (fun m=>by simp only[ze2,zad,aC]) _ (by omega)]
 cases zfs (zsq xs) 0 xs.length<;>rfl
theorem zoe {xs:List Owner}(h:OB xs):zhF xs=some (zfv xs):=by
 have hm:=zak h.1
 unfold zhF zfv
 simp only[jn,zal]
 rw[zbt (n:=xs.length) (g:=zsq xs) (r0:=some false) (Z:=some (decide ((xs.length:Int)<=5))) (f:=fun m i=>zel xs (fun _ _=>some (decide ((xs.length:Int)<=5))) m false i) (fun m i hi=>by
  have hx:xs[i]? =some xs[i]:=aB hi
  obtain⟨f1,f2⟩:=h.at_ hx
  simp only[zel,jn,zam hx,zac hx,aD,aA,zab hi hm,zgV f1,zcd (zak f2)]
  unfold zsq
  rw[zmM hx]
  cases zaX xs[i].Path
  ·rfl
  ·cases zaI xs[i].Who
   ·rfl
   ·by_cases h0:(0:Int)< (i:Int)
    ·obtain⟨y,hy,ey⟩:=zpn hx hm h0
     rw[hy,ey,aF h0]
     simp only[aA,zfP]
     cases Op.bytesLess y.Path xs[i].Path<;>rfl
    ·rw[aE h0];rfl) (fun m=>by simp only[zel,zad,aC]) _ (by omega)]
 cases decide ((xs.length:Int)<=5)<;>cases zfs (zsq xs) 0 xs.length<;>rfl
theorem zqA {xs:List Owner}(h:zfv xs=true){i:Nat}{x:Owner}(hx:xs[i]? =some x):zaX x.Path=true:=by
 unfold zfv at h
 simp only[aG]at h
 have:=zaV.1 h.2 i (Nat.zero_le _) (by have:=zaq hx;omega)
 unfold zsq at this
 rw[zmM hx]at this
 simp only[aG]at this
 exact this.1
def za5 (d p:Str):Bool:=(d++[47]).isPrefixOf p
theorem ziX {d p:Str}(hd:d.length<=1048576)(hp:p.length<=1048576)(h1:zaX d=true)(h2:zaX p=true):zby d p=some (za5 d p):=by
 unfold zby strings_HasPrefix za5
 have hs:saM d ([47]:Str)=some (d++[47]):=by
  unfold saM
  rw[if_pos]
  simp only[aL,List.length_nil,lim]
  omega
 simp only[jn,zbB hd,zbB hp,h1,h2,aA,aD,hs,Lib.hasPrefix]
theorem zeS {c:UInt8}: ∀ {d p:Str},(d++[c]).isPrefixOf p=(p.take d.length==d&&p[d.length]? ==some c)
 | [],[]=>by simp
 | [],x::p=>by
  by_cases e:c=x
  ·subst e;simp[List.isPrefixOf]
  ·have e1:(c==x)=false:=beq_false_of_ne e
   have e2:((some x:Option UInt8)==some c)=false:=beq_false_of_ne (fun h=>e (Option.some.inj h).symm)
   simp only[List.nil_append,List.isPrefixOf,e1,List.length_nil,List.take_zero,List.getElem?_cons_zero,e2,Bool.false_and,Bool.and_false]
 |y::d,[]=>by simp[List.isPrefixOf]
 |y::d,x::p=>by
  have ih:=zeS (c:=c) (d:=d) (p:=p)
  simp only[List.cons_append,List.isPrefixOf,aL,List.take_succ_cons,List.getElem?_cons_succ,ih]
  by_cases e:y=x
  ·subst e
   simp
  ·have e1:(y==x)=false:=beq_false_of_ne e
   have e2:(x==y)=false:=beq_false_of_ne (fun h=>e h.symm)
   simp[e1,e2]
theorem zlK {d p:Str}(hp:p.length<=1048576):zgY d p=some (za5 d p):=by
 unfold zgY za5
 simp only[jn]
 rw[zeS]
 by_cases hl:(d.length:Int)< (p.length:Int)
 ·have hlt:d.length<p.length:=by omega
  have hx:p[d.length]? =some p[d.length]:=aB hlt
  rw[aF hl,aD,zhb (by omega),aA,hx]
  cases p.take d.length==d with
  |false=>rfl
  |true=>
   rw[aD,zgF hx,aA,Bool.true_and]
   congr 1
   have:=(show ∀ u:UInt8,(((UInt8.toNat u:Nat):Int)==(47:Int))=(some u==some (47:UInt8)) from fun u=>by
    have hb:=zjV u 47
    rw[show(((UInt8.toNat (47:UInt8):Nat):Int))=47 from rfl]at hb
    rw[hb]
    simp)
   exact this _
 ·rw[aE hl,aC,List.getElem?_eq_none (by omega)]
  simp
def ownStep (path:Str)(b:Nat×Str)(x:Owner):Nat×Str:=
 bif(x.Path==path||za5 x.Path path)&&decide (b.1<x.Path.length) then(x.Path.length,x.Who) else b
def zlI (xs:List Owner)(path:Str):Str:=(xs.foldl (ownStep path) (0,[])).2
theorem zst {xs:List Owner}{path:Str}(hb:OB xs)(hp:path.length<=1048576){K:Str->Int->Int->Option Str}: ∀ (n i m:Nat) (b:Nat×Str),i+n=xs.length->n<m->
 zfV xs path K m b.2 (b.1:Int) (i:Int)=K ((xs.drop i).foldl (ownStep path) b).2 (((xs.drop i).foldl (ownStep path) b).1:Int) (xs.length:Int)
 |n,i,0,b,_,hm=>by omega
 |0,i,m+1,b,hi,_=>by
  obtain rfl:i=xs.length:=by omega
  simp only[zfV,zad,aC,List.drop_length,List.foldl_nil]
 |n+1,i,m+1,b,hi,hm=>by
  have hlt:i<xs.length:=by omega
  have hx:xs[i]? =some xs[i]:=aB hlt
  have hd:xs.drop i=xs[i]::xs.drop (i+1):=aI hlt
  have hlt2:decide ((b.1:Int)< (xs[i].Path.length:Int))=decide (b.1<xs[i].Path.length):=by
   by_cases h:b.1<xs[i].Path.length
   ·rw[aF h,aF (by omega)]
   ·rw[aE h,aE (by omega)]
  have ih:=zst hb hp (K:=K) n (i+1) m
  simp only[zfV,jn,zam hx,zac hx,aD,aA,zlK hp,hlt2,zab hlt (zak hb.1)]
  rw[hd,List.foldl_cons]
  unfold ownStep
  cases(xs[i].Path==path)<;>cases za5 xs[i].Path path<;>cases decide (b.1<xs[i].Path.length)<;>simp only[aD,aC,Bool.true_or,Bool.false_or,Bool.or_false,Bool.or_true,Bool.true_and,Bool.false_and,Bool.and_false]
  all_goals first |exact ih b (by omega) (by omega) |exact ih (xs[i].Path.length,xs[i].Who) (by omega) (by omega)
theorem zsu {xs:List Owner}{path:Str}(hb:OB xs)(hp:path.length<=1048576)(hok:zfv xs=true)(hpath:zaX path=true){K:Int->Str->Str->Option Str}(hK: ∀ i a w,K i a w=some w): ∀ (n i m:Nat) (bp:Str) (b:Nat×Str),i+n=xs.length->n<m->bp.length=b.1->
 zfz xs path K m (i:Int) bp b.2=some ((xs.drop i).foldl (ownStep path) b).2
 |n,i,0,bp,b,_,hm,_=>by omega
 |0,i,m+1,bp,b,hi,_,_=>by
  obtain rfl:i=xs.length:=by omega
  simp only[zfz,zad,aC,List.drop_length,List.foldl_nil,hK]
 |n+1,i,m+1,bp,b,hi,hm,hbp=>by
  have hlt:i<xs.length:=by omega
  have hx:xs[i]? =some xs[i]:=aB hlt
  have hd:xs.drop i=xs[i]::xs.drop (i+1):=aI hlt
  have hlt2:decide ((bp.length:Int)< (xs[i].Path.length:Int))=decide (b.1<xs[i].Path.length):=by
   by_cases h:b.1<xs[i].Path.length
   ·rw[aF h,aF (by omega)]
   ·rw[aE h,aE (by omega)]
  obtain⟨f1,f2⟩:=hb.at_ hx
  have ih:=zsu hb hp hok hpath hK n (i+1) m
  simp only[zfz,jn,zam hx,zac hx,aD,aA,ziX f1 hp (zqA hok hx) hpath,hlt2,zab hlt (zak hb.1)]
  rw[hd,List.foldl_cons]
  unfold ownStep
  cases(xs[i].Path==path)<;>cases za5 xs[i].Path path<;>cases decide (b.1<xs[i].Path.length)<;>simp only[aD,aC,Bool.true_or,Bool.false_or,Bool.or_false,Bool.or_true,Bool.true_and,Bool.false_and,Bool.and_false]
  all_goals first |exact ih bp b (by omega) (by omega) hbp |exact ih xs[i].Path (xs[i].Path.length,xs[i].Who) (by omega) (by omega) rfl
def zpo (xs:List Owner)(path:Str):Str:=bif zfv xs&&zaX path then zlI xs path else []
theorem zo5 {xs:List Owner}{path:Str}(hb:OB xs)(hp:path.length<=1048576):zje xs path=some (zpo xs path):=by
 unfold zje zpo
 simp only[jn,zmN hb,zbB hp,aA]
 cases ho:zfv xs
 ·rfl
 cases hq:zaX path
 ·rfl
 simp only[aK,aC,aD,Bool.true_and,zal]
 exact zsu hb hp ho hq (K:=fun _ _ y12=>some y12) (fun _ _ _=>rfl) xs.length 0 (xs.length+1) [] (0,[]) (by omega) (by omega) rfl
structure OpFit (o:Op):Prop where
 fit:Bk.fit o
 path:o.Path.length<=1048576
 to:o.To.length<=1048576
 text:Bk.bulk o.Text<=1048576
theorem OpFit.of {o:Op}(h:Bk.fit o)(hb:Bk.bulk o<=1048576):OpFit o:=by
 have e:Bk.bulk o=Bk.bulk o.Kind+(Bk.bulk o.Branch+(Bk.bulk o.Who+(Bk.bulk o.Path+(Bk.bulk o.To+(Bk.bulk o.At+Bk.bulk o.Text))))):=rfl
 have e1:Bk.bulk o.Path=o.Path.length:=rfl
 have e2:Bk.bulk o.To=o.To.length:=rfl
 exact⟨h,by omega,by omega,by omega⟩
theorem zd4: ∀ {b c:Bool},(b=true↔c=true)->b=c:=by decide
theorem zji {i n:Nat}(hi:i<n)(hn:n<=maxi)(h0:(0:Int)< (i:Int)):w64 ((i:Int)-1)=((i-1:Nat):Int):=by
 rw[zah (by omega) (by unfold maxi at hn;omega)];omega
structure FB (f:File):Prop where
 path:f.Path.length<=1048576
 len:f.Text.length<=1048576
 text:Bk.fit f.Text
def TB (t:List File):Prop:=t.length<=1048576 /\ ∀ f∈t,FB f
theorem TB.at_ {t:List File}(h:TB t){i:Nat}{f:File}(hf:t[i]? =some f):FB f:=h.2 f (aH hf)
theorem TB.maxi {t:List File}(h:TB t):t.length<=maxi:=zak h.1
theorem TB.nil:TB []:=⟨by simp,fun f hf=>by simp at hf⟩
def zci:File:=⟨[],[]⟩
theorem zbo {t:List File}{i:Nat}{f:File}(h:t[i]? =some f):t.getD i zci=f:=by simp[List.getD,h]
theorem zin {t:List File}{i:Nat}{f:File}(h:t[i]? =some f)(hl:t.length<=maxi)(h0:(0:Int)< (i:Int)): ∃ y,gi t (w64 ((i:Int)-1))=some y/\t.getD (i-1) zci=y:=by
 have hi:=zaq h
 have hx:t[i-1]? =some t[i-1]:=aB (by omega)
 exact⟨_,by rw[zji hi hl h0];exact zac hx,zbo hx⟩
def zfd (t:List File)(i:Nat):Bool:=zaX (t.getD i zci).Path&&(zap (t.getD i zci).Text&&(bif decide (0< (i:Int)) then Op.bytesLess (t.getD (i-1) zci).Path (t.getD i zci).Path else true))
def zfe (t:List File)(i:Nat):Bool:=zfd t i&&t.all fun f=> !za5 (t.getD i zci).Path f.Path
def zhQ (t:List File)(i:Nat):Bool:=zfd t i&&(t.take i).all fun f=> !(zaX f.Path&&(zaX (t.getD i zci).Path&&za5 f.Path (t.getD i zci).Path))
def zaA (t:List File):Bool:=decide ((t.length:Int)<=8)&&zfs (zfe t) 0 t.length
theorem zmE (d:Str)(x:UInt8)(r:Str):d<d++x::r:=by
 induction d with
 |nil=>exact List.nil_lt_cons _ _
 |cons a d ih=>exact List.cons_lt_cons_self.2 ih
theorem zlk {d p:Str}(h:za5 d p=true):d<p:=by
 unfold za5 at h
 obtain⟨t,rfl⟩:=List.isPrefixOf_iff_prefix.1 h
 rw[List.append_assoc]
 exact zmE d 47 t
theorem ziY {t:List File}{n:Nat}(h: ∀ i,i<n->zfd t i=true){i j:Nat}(hij:i<j)(hj:j<n):(t.getD i zci).Path< (t.getD j zci).Path:=by
 induction j with
 |zero=>omega
 |succ j ih=>
  have h1:=h (j+1) hj
  unfold zfd at h1
  rw[aF (by omega),aD,Nat.add_sub_cancel]at h1
  simp only[aG,zaJ,decide_eq_true_eq]at h1
  rcases Nat.lt_or_ge i j with h2 |h2
  ·exact zaR (ih h2 (by omega)) h1.2.2
  ·have:i=j:=by omega
   subst this
   exact h1.2.2
theorem ziZ (t:List File):zfs (zhQ t) 0 t.length=zfs (zfe t) 0 t.length:=by
 apply zd4
 rw[zaV,zaV]
 constructor
 ·intro h
  have hf: ∀ i,i<t.length->zfd t i=true:=fun i hi=>by
   have:=h i (Nat.zero_le _) (by omega)
   unfold zhQ at this
   simp only[aG]at this
   exact this.1
  intro i _ hi
  have hi':i<t.length:=by omega
  unfold zfe
  rw[hf i hi',Bool.true_and,List.all_eq_true]
  intro f hm
  obtain⟨k,hk⟩:=List.mem_iff_getElem?.1 hm
  have hkl:=zaq hk
  cases hb:za5 (t.getD i zci).Path f.Path with
  |false=>rfl
  |true=>
   exfalso
   have hlt:=zlk hb
   rcases Nat.lt_trichotomy i k with h1 |h1 |h1
   ·have:=h k (Nat.zero_le _) (by omega)
    unfold zhQ at this
    simp only[aG,List.all_eq_true]at this
    have h2:=this.2 t[i] (aH (i:=i) (by rw[List.getElem?_take_of_lt h1];exact aB hi'))
    have p1:=hf i hi'
    have p2:=hf k hkl
    unfold zfd at p1 p2
    simp only[aG]at p1 p2
    rw[zbo hk]at h2 p2
    rw[zbo (aB hi')]at hb p1
    rw[p1.1,p2.1,hb]at h2
    simp at h2
   ·subst h1
    rw[zbo hk]at hlt
    exact zaj _ hlt
   ·have:=ziY hf h1 hi'
    rw[zbo hk]at this
    exact zaj _ (zaR hlt this)
 ·intro h i _ hi
  have hi':i<t.length:=by omega
  have h1:=h i (Nat.zero_le _) hi
  unfold zfe at h1
  simp only[aG]at h1
  unfold zhQ
  rw[h1.1,Bool.true_and,List.all_eq_true]
  intro f hm
  obtain⟨k,hk⟩:=List.mem_iff_getElem?.1 hm
  obtain⟨hk',hki⟩:=show t[k]? =some f/\k<i from by
   rw[List.getElem?_take]at hk
   split at hk
   ·exact⟨hk,by assumption⟩
   ·cases hk
  have h2:=h k (Nat.zero_le _) (by omega)
  unfold zfe at h2
  simp only[aG,List.all_eq_true]at h2
  have h3:=h2.2 t[i] (List.getElem_mem hi')
  rw[zbo hk']at h3
  rw[zbo (aB hi')]
  have h4:za5 f.Path t[i].Path=false:=by simpa using h3
  rw[h4]
  simp
theorem zkH {t:List File}(h:TB t):zgZ t=some (zaA t):=by
 have hm:=h.maxi
 unfold zgZ zaA
 simp only[jn,zal]
 rw[zbt (n:=t.length) (g:=zfe t) (r0:=some false) (Z:=some (decide ((t.length:Int)<=8))) (f:=fun m i=>zc4 t (fun _ _=>some (decide ((t.length:Int)<=8))) m false i) (fun m i hi=>by
  have hx:t[i]? =some t[i]:=aB hi
  have fx:=h.at_ hx
  simp only[zc4,jn,zam hx,zac hx,aD,aA,zab hi hm,zgV fx.path,zh5 fx.text]
  unfold zfe zfd
  rw[zbo hx]
  have hin: ∀ K:Bool->Int->Option Bool,zbN t (i:Int) K (t.length+1) false 0=bif t.all (fun f=> !za5 t[i].Path f.Path) then K false (t.length:Int) else some false:=fun K=>by
   rw[zaS (α:=File) (xs:=t) (p:=fun f=> !za5 t[i].Path f.Path) (r0:=some false) (Z:=K false (t.length:Int)) (f:=fun m k=>zbN t (i:Int) K m false k) (fun m k f hf=>by
    simp only[zbN,zam hf,zac hf,zac hx,aD,aA,zab (zaq hf) hm,zlK (h.at_ hf).path]
    cases za5 t[i].Path f.Path<;>rfl) (fun m=>by simp only[zbN,zad,aC]) (by omega)]
  cases zaX t[i].Path
  ·rfl
  cases zap t[i].Text
  ·rfl
  simp only[aK,aC,Bool.true_and]
  by_cases h0:(0:Int)< (i:Int)
  ·obtain⟨y,hy,ey⟩:=zin hx hm h0
   rw[hy,ey,aF h0]
   simp only[aA,zfP,aD]
   cases Op.bytesLess y.Path t[i].Path
   ·rfl
   ·simp only[aK,aC,Bool.true_and,zal,hin]
  ·rw[aE h0]
   simp only[aC,Bool.true_and,zal,hin]) (fun m=>by simp only[zc4,zad,aC]) _ (by omega)]
 cases decide ((t.length:Int)<=8)<;>cases zfs (zfe t) 0 t.length<;>rfl
theorem zi0 {d p:Str}(hd:d.length<=1048576)(hp:p.length<=1048576):zby d p=some (zaX d&&(zaX p&&za5 d p)):=by
 cases h1:zaX d with
 |false=>unfold zby;simp only[jn,zbB hd,h1,aA,aC,Bool.false_and]
 |true=>
  cases h2:zaX p with
  |false=>unfold zby;simp only[jn,zbB hd,zbB hp,h1,h2,aA,aC,aD,Bool.false_and,Bool.and_false]
  |true=>rw[ziX hd hp h1 h2];rfl
theorem zcH {t:List File}(h:TB t):zcl t=some (zaA t):=by
 have hm:=h.maxi
 unfold zcl zaA
 by_cases h8:(8:Int)< (t.length:Int)
 ·rw[aF h8,aE (by omega)];rfl
 rw[aE h8,aF (by omega),aC,Bool.true_and,<- ziZ]
 simp only[jn,zal]
 rw[zbt (n:=t.length) (g:=zhQ t) (r0:=some false) (Z:=some true) (f:=fun m i=>zb2 t (fun _ _=>some true) m false i) (fun m i hi=>by
  have hx:t[i]? =some t[i]:=aB hi
  have fx:=h.at_ hx
  simp only[zb2,jn,zam hx,zac hx,aD,aA,zab hi hm,zbB fx.path,zdd fx.text,zhb (Nat.le_of_lt hi),zal]
  unfold zhQ zfd
  rw[zbo hx]
  have hin: ∀ K:Bool->Int->Option Bool,zbi t[i] (t.take i) K ((t.take i).length+1) false 0=bif(t.take i).all (fun f=> !(zaX f.Path&&(zaX t[i].Path&&za5 f.Path t[i].Path))) then K false ((t.take i).length:Int) else some false:=fun K=>by
   rw[zaS (α:=File) (xs:=t.take i) (p:=fun f=> !(zaX f.Path&&(zaX t[i].Path&&za5 f.Path t[i].Path))) (r0:=some false) (Z:=K false ((t.take i).length:Int)) (f:=fun m k=>zbi t[i] (t.take i) K m false k) (fun m k f hf=>by
    have hf2:FB f:=h.2 f (List.mem_of_mem_take (aH hf))
    simp only[zbi,zam hf,zac hf,aD,aA,zab (zaq hf) (show(t.take i).length<=maxi by simp;omega),zi0 hf2.path fx.path]
    cases(zaX f.Path&&(zaX t[i].Path&&za5 f.Path t[i].Path))<;>rfl) (fun m=>by simp only[zbi,zad,aC]) (by omega)]
  cases zap t[i].Text
  ·cases zaX t[i].Path<;>rfl
  cases hp:zaX t[i].Path
  ·rfl
  simp only[aK,aC,Bool.true_and]
  by_cases h0:(0:Int)< (i:Int)
  ·obtain⟨y,hy,ey⟩:=zin hx hm h0
   rw[hy,ey,aF h0]
   simp only[aA,aD]
   cases Op.bytesLess y.Path t[i].Path
   ·rfl
   ·simp only[aK,aC,Bool.true_and,zal,hin,hp]
  ·rw[aE h0]
   simp only[aC,Bool.true_and,zal,hin,hp]) (fun m=>by simp only[zb2,zad,aC]) _ (by omega)]
 cases zfs (zhQ t) 0 t.length<;>rfl
structure CB (c:Commit):Prop where
 par:c.Parents.length<=1048576
 who:c.Who.length<=1048576
 tree:TB c.Tree
structure RpB (r:Repo):Prop where
 coms:r.Commits.length<=1048576
 com: ∀ c∈r.Commits,CB c
 heads:r.Heads.length<=1048576
 head: ∀ h∈r.Heads,h.Name.length<=1048576
theorem RpB.cat {r:Repo}(h:RpB r){i:Nat}{c:Commit}(hc:r.Commits[i]? =some c):CB c:=h.com c (aH hc)
theorem RpB.hat {r:Repo}(h:RpB r){i:Nat}{c:Head}(hc:r.Heads[i]? =some c):c.Name.length<=1048576:=h.head c (aH hc)
def zdR:Head:=⟨[],0⟩
theorem zbA {t:List Head}{i:Nat}{f:Head}(h:t[i]? =some f):t.getD i zdR=f:=by simp[List.getD,h]
theorem zio {t:List Head}{i:Nat}{f:Head}(h:t[i]? =some f)(hl:t.length<=maxi)(h0:(0:Int)< (i:Int)): ∃ y,gi t (w64 ((i:Int)-1))=some y/\t.getD (i-1) zdR=y:=by
 have hi:=zaq h
 have hx:t[i-1]? =some t[i-1]:=aB (by omega)
 exact⟨_,by rw[zji hi hl h0];exact zac hx,zbA hx⟩
def upB (i p:Int):Bool:=decide (0<=p)&&decide (p<=i-1)
def zl6 (ps:List Int):Bool:=match ps with
 | [p,q]=> !(p==q)
 |_=>true
def zjr (i:Int)(c:Commit):Bool:=c.Parents.all (upB i)&&(decide ((c.Parents.length:Int)<=2)&&(zl6 c.Parents&&(zaI c.Who&&zaA c.Tree)))
def noCommit:Commit:=⟨[],[],[]⟩
def zkI (cs:List Commit):Bool:=zfs (fun i=>zjr i (cs.getD i noCommit)) 0 cs.length
def zfc (n:Nat)(hs:List Head)(i:Nat):Bool:=zaI (hs.getD i zdR).Name&&(upB n (hs.getD i zdR).At&&(bif decide (0< (i:Int)) then Op.bytesLess (hs.getD (i-1) zdR).Name (hs.getD i zdR).Name else true))
def zcu (n:Nat)(hs:List Head):Bool:=zfs (zfc n hs) 0 hs.length&&decide ((hs.length:Int)<=5)
def zaf (r:Repo):Bool:=decide ((r.Commits.length:Int)<=16)&&(zkI r.Commits&&zcu r.Commits.length r.Heads)
theorem zdn {t:List Commit}{i:Nat}{f:Commit}(h:t[i]? =some f):t.getD i noCommit=f:=by simp[List.getD,h]
theorem zd7 {n:Nat}(hn:n<=maxi):w64 ((n:Int)-1)=(n:Int)-1:=zah (by omega) (by unfold maxi at hn;omega)
def zmF (i:Int)(ps:List Int)(k:Nat):Bool:=upB i (ps.getD k 0) && !(decide (0< (k:Int))&&(ps.getD k 0==ps.getD 0 0))
theorem zck {t:List Int}{i:Nat}{f:Int}(h:t[i]? =some f):t.getD i 0=f:=by simp[List.getD,h]
theorem zjX (i:Int)(ps:List Int)(h2:(ps.length:Int)<=2):zfs (zmF i ps) 0 ps.length=(ps.all (upB i)&&zl6 ps):=by
 match ps,h2 with
 | [],_=>rfl
 | [p],_=>simp[zfs,zmF,zl6]
 | [p,q],_=>
  simp only[zfs,zmF,zl6,aL,List.length_nil,List.all_cons,List.all_nil]
  have e:(q==p)=(p==q):=by
   apply zd4;rw[beq_iff_eq,beq_iff_eq];exact eq_comm
  simp[e]
  cases upB i p<;>cases upB i q<;>simp
 |p::q::s::l,h=>simp at h;omega
theorem zqt {i:Nat}{c:Commit}(hi:i<=1048576)(hc:CB c)(K:Bool->Int->Option Bool):zbO (i:Int) c K (c.Parents.length+1) false 0=bif zfs (zmF i c.Parents) 0 c.Parents.length then K false (c.Parents.length:Int) else some false:=by
 have hm:=zak hc.par
 rw[zbt (n:=c.Parents.length) (g:=zmF i c.Parents) (r0:=some false) (Z:=K false (c.Parents.length:Int)) (f:=fun m k=>zbO (i:Int) c K m false k) (fun m k hk=>by
  have hx:c.Parents[k]? =some c.Parents[k]:=aB hk
  have h00:c.Parents[0]? =some c.Parents[0]:=aB (by omega)
  have hg0:gi c.Parents 0=some c.Parents[0]:=zac (i:=0) h00
  simp only[zbO,jn,zam hx,zac hx,hg0,aD,aA,zab hk hm,zeQ,zd7 (show i<=maxi by unfold maxi;omega)]
  unfold zmF
  rw[zck hx,zck h00,show(decide ((0:Int)<=c.Parents[k])&&decide (c.Parents[k]<=(i:Int)-1))=upB i c.Parents[k] from rfl]
  cases upB (i:Int) c.Parents[k]
  ·rfl
  ·cases decide ((0:Int)< (k:Int))
   ·rfl
   ·cases(c.Parents[k]==c.Parents[0])<;>rfl) (fun m=>by simp only[zbO,zad,aC]) _ (by omega)]
theorem zqu {r:Repo}(h:RpB r):zbP r (fun _ _=>jn (fun(y128:Bool)=>some y128) fun K130=>bif decide (((r.Commits.length:Int):Int)<=(16:Int)) then(K130 (decide (((r.Heads.length:Int):Int)<=(5:Int)))) else(K130 false)) (r.Heads.length+1) false 0=some (decide ((r.Commits.length:Int)<=16)&&zcu r.Commits.length r.Heads):=by
 have hm:=zak h.heads
 rw[zbt (n:=r.Heads.length) (g:=zfc r.Commits.length r.Heads) (r0:=some false) (Z:=some (decide ((r.Commits.length:Int)<=16)&&decide ((r.Heads.length:Int)<=5))) (f:=fun m k=>zbP r _ m false k) (fun m k hk=>by
  have hx:r.Heads[k]? =some r.Heads[k]:=aB hk
  simp only[zbP,jn,zam hx,zac hx,aD,aA,zab hk hm,zeQ,zd7 (zak h.coms),zcd (zak (h.hat hx))]
  unfold zfc
  rw[zbA hx,show(decide ((0:Int)<=r.Heads[k].At)&&decide (r.Heads[k].At<=(r.Commits.length:Int)-1))=upB r.Commits.length r.Heads[k].At from rfl]
  cases zaI r.Heads[k].Name
  ·rfl
  cases upB r.Commits.length r.Heads[k].At
  ·rfl
  by_cases h0:(0:Int)< (k:Int)
  ·obtain⟨y,hy,ey⟩:=zio hx hm h0
   rw[hy,ey,aF h0]
   simp only[aA,zfP]
   cases Op.bytesLess y.Name r.Heads[k].Name<;>rfl
  ·rw[aE h0];rfl) (fun m=>by
   simp only[zbP,zad,aC,jn]
   cases decide ((r.Commits.length:Int)<=16)<;>rfl) _ (by omega)]
 unfold zcu
 cases zfs (zfc r.Commits.length r.Heads) 0 r.Heads.length<;>cases decide ((r.Commits.length:Int)<=16)<;>rfl
theorem zgq {r:Repo}(h:RpB r):zdJ r=some (zaf r):=by
 have hm:=zak h.coms
 unfold zdJ zaf zkI
 simp only[jn,zal]
 have h3:=zqu h
 simp only[jn]at h3
 rw[zbt (n:=r.Commits.length) (g:=fun i=>zjr i (r.Commits.getD i noCommit)) (r0:=some false) (Z:=some (decide ((r.Commits.length:Int)<=16)&&zcu r.Commits.length r.Heads)) (f:=fun m i=>zc5 r _ m false i) (fun m i hi=>by
  have hx:r.Commits[i]? =some r.Commits[i]:=aB hi
  have hc:=h.cat hx
  have hco:=h.coms
  simp only[zc5,jn,zam hx,zac hx,aD,aA,zab hi hm,zal,zqt (show i<=1048576 by omega) hc,zdn hx]
  unfold zjr
  by_cases h2:(2:Int)< (r.Commits[i].Parents.length:Int)
  ·rw[aF h2,aE (show ¬ (r.Commits[i].Parents.length:Int)<=2 by omega)]
   simp only[aD,Bool.false_and,Bool.and_false,aC]
   cases zfs (zmF i r.Commits[i].Parents) 0 r.Commits[i].Parents.length<;>rfl
  ·rw[aE h2,aF (show(r.Commits[i].Parents.length:Int)<=2 by omega),zjX _ _ (by omega)]
   simp only[aC,Bool.true_and,zcd (zak hc.who),zkH hc.tree,aA]
   cases r.Commits[i].Parents.all (upB i)<;>cases zl6 r.Commits[i].Parents<;>cases zaI r.Commits[i].Who<;>cases zaA r.Commits[i].Tree<;>rfl) (fun m=>by
   simp only[zc5,zad,aC,jn,zal,h3]) _ (by omega)]
 cases zfs (fun i=>zjr i (r.Commits.getD i noCommit)) 0 r.Commits.length<;>cases decide ((r.Commits.length:Int)<=16)<;>rfl
theorem zi1 {r:Repo}(h:RpB r){hs:List Head}(hl:hs.length<=1048576)(hn: ∀ h∈hs,h.Name.length<=1048576):zeq r hs=some (zcu r.Commits.length hs):=by
 have hm:=zak hl
 unfold zeq zcu
 by_cases h5:(5:Int)< (hs.length:Int)
 ·rw[aF h5,aE (show ¬ (hs.length:Int)<=5 by omega),Bool.and_false];rfl
 rw[aE h5,aF (show(hs.length:Int)<=5 by omega),aC,Bool.and_true]
 simp only[jn,zal]
 rw[zbt (n:=hs.length) (g:=zfc r.Commits.length hs) (r0:=some false) (Z:=some true) (f:=fun m k=>zbE r hs (fun _ _=>some true) m false k) (fun m k hk=>by
  have hx:hs[k]? =some hs[k]:=aB hk
  simp only[zbE,zbl,jn,zam hx,zac hx,aD,aA,zab hk hm,zdI,zd7 (zak h.coms),zcc (zak (hn _ (aH hx)))]
  unfold zfc
  rw[zbA hx,show(decide ((0:Int)<=hs[k].At)&&decide (hs[k].At<=(r.Commits.length:Int)-1))=upB r.Commits.length hs[k].At from rfl]
  cases zaI hs[k].Name
  ·rfl
  cases upB r.Commits.length hs[k].At
  ·rfl
  by_cases h0:(0:Int)< (k:Int)
  ·obtain⟨y,hy,ey⟩:=zio hx hm h0
   rw[hy,ey,aF h0]
   simp only[aA]
   cases Op.bytesLess y.Name hs[k].Name<;>rfl
  ·rw[aE h0];rfl) (fun m=>by simp only[zbE,zad,aC]) _ (by omega)]
 cases zfs (zfc r.Commits.length hs) 0 hs.length<;>rfl
theorem zfL {r:Repo}(h:RpB r):zdE r=some (zaf r):=by
 have hm:=zak h.coms
 unfold zdE zaf zkI
 by_cases h16:(16:Int)< (r.Commits.length:Int)
 ·rw[aF h16,aE (by omega)];rfl
 rw[aE h16,aF (by omega),aC,Bool.true_and]
 simp only[jn,zal]
 rw[zbt (n:=r.Commits.length) (g:=fun i=>zjr i (r.Commits.getD i noCommit)) (r0:=some false) (Z:=some (zcu r.Commits.length r.Heads)) (f:=fun m i=>zb3 r _ m false i) (fun m i hi=>by
  have hx:r.Commits[i]? =some r.Commits[i]:=aB hi
  have hc:=h.cat hx
  have hco:=h.coms
  have hpm:=zak hc.par
  have hin: ∀ K:Bool->Int->Option Bool,zbj (i:Int) r.Commits[i] K (r.Commits[i].Parents.length+1) false 0=bif r.Commits[i].Parents.all (upB i) then K false (r.Commits[i].Parents.length:Int) else some false:=fun K=>by
   rw[zaS (α:=Int) (xs:=r.Commits[i].Parents) (p:=upB i) (r0:=some false) (Z:=K false (r.Commits[i].Parents.length:Int)) (f:=fun m k=>zbj (i:Int) r.Commits[i] K m false k) (fun m k p hp=>by
    simp only[zbj,zam hp,zac hp,aD,aA,zab (zaq hp) hpm,zdI,zd7 (show i<=maxi by unfold maxi;omega)]
    rw[show(decide ((0:Int)<=p)&&decide (p<=(i:Int)-1))=upB i p from rfl]
    cases upB i p<;>rfl) (fun m=>by simp only[zbj,zad,aC]) (by omega)]
  simp only[zb3,jn,zam hx,zac hx,aD,aA,zab hi hm,zal,hin,zdn hx,zcc (zak hc.who),zcH hc.tree]
  unfold zjr
  match hps:r.Commits[i].Parents with
  | []=>cases zaI r.Commits[i].Who<;>cases zaA r.Commits[i].Tree<;>rfl
  | [p]=>
   simp only[aL,List.length_nil,List.all_cons,List.all_nil,zl6]
   cases upB i p<;>cases zaI r.Commits[i].Who<;>cases zaA r.Commits[i].Tree<;>rfl
  | [p,q]=>
   simp only[aL,List.length_nil,List.all_cons,List.all_nil,zl6,gi,List.getElem?_cons_zero,List.getElem?_cons_succ,Int.toNat_zero,Int.toNat_one]
   cases upB i p<;>cases upB i q<;>cases hpq:p==q<;>cases zaI r.Commits[i].Who<;>cases zaA r.Commits[i].Tree<;>simp[hpq]<;>rfl
  |p::q::s::l=>
   rw[aF (by simp only[aL];omega),aE (show ¬ (((p::q::s::l).length:Nat):Int)<=2 by simp only[aL];omega)]
   simp only[aD,Bool.false_and,Bool.and_false,aC]) (fun m=>by
   simp only[zb3,zad,aC,jn,zi1 h h.heads h.head,aA]) _ (by omega)]
 cases zfs (fun i=>zjr i (r.Commits.getD i noCommit)) 0 r.Commits.length<;>rfl
def atB (r:Repo)(name:Str):Int:=match r.Heads.find? (fun h=>h.Name==name)with
 |some h=>h.At
 |none=> -1
theorem zhR {r:Repo}(h:RpB r)(name:Str):zd0 r name=some (atB r name):=by
 have hm:=zak h.heads
 unfold zd0 atB
 simp only[jn,zal]
 rw[zcb (p:=fun h:Head=>h.Name==name) (xs:=r.Heads) (r:=fun h=>some h.At) (Z:=some (-1)) (f:=fun m k=>zc6 r name _ m 0 k) (fun m i x hx=>by
  simp only[zc6,zam hx,zac hx,aD,aA,zab (zaq hx) hm]) (fun m=>by simp only[zc6,zad,aC]) (by omega)]
 cases r.Heads.find? (fun h=>h.Name==name)<;>rfl
theorem zll {r:Repo}(h:RpB r)(name:Str):zcM r name=some (atB r name):=by
 have hm:=zak h.heads
 unfold zcM atB
 simp only[jn,zal]
 rw[zcb (p:=fun h:Head=>h.Name==name) (xs:=r.Heads) (r:=fun h=>some h.At) (Z:=some (-1)) (f:=fun m k=>zbF r name _ m 0 k) (fun m i x hx=>by
  simp only[zbF,zam hx,zac hx,aD,aA,zab (zaq hx) hm]) (fun m=>by simp only[zbF,zad,aC]) (by omega)]
 cases r.Heads.find? (fun h=>h.Name==name)<;>rfl
theorem zax {n:Nat}{a:Int}:upB n a=true↔0<=a/\a<=(n:Int)-1:=by
 unfold upB
 simp only[aG,decide_eq_true_eq]
def zdt (n:Str)(a:Int):Bool->List Head->List Head
 |put,[]=>bif put then [] else [⟨n,a⟩]
 |put,h::hs=>(bif !put && !Op.bytesLess h.Name n then [⟨n,a⟩] else [])++((bif h.Name !=n then [h] else [])++zdt n a (put || !Op.bytesLess h.Name n) hs)
theorem zf3 (n:Str)(a:Int): ∀ (hs:List Head) (put:Bool),(zdt n a put hs).length+(bif put then 1 else 0)<=hs.length+1
 | [],put=>by cases put<;>simp[zdt]
 |h::hs,put=>by
  have ih:=zf3 n a hs (put || !Op.bytesLess h.Name n)
  unfold zdt
  cases put<;>cases hb:Op.bytesLess h.Name n<;>cases hn:(h.Name !=n)<;>simp[hb]at ih ⊢ <;>omega
theorem putH_mem (n:Str)(a:Int): ∀ (hs:List Head) (put:Bool) (x:Head),x∈zdt n a put hs->x∈hs\/x=⟨n,a⟩
 | [],put,x,h=>by cases put<;>simp[zdt]at h;exact .inr h
 |h::hs,put,x,hx=>by
  unfold zdt at hx
  rcases List.mem_append.1 hx with h1 |h1
  ·cases hc:(!put && !Op.bytesLess h.Name n)with
   |true=>rw[hc]at h1;simp at h1;exact .inr h1
   |false=>rw[hc]at h1;simp at h1
  ·rcases List.mem_append.1 h1 with h2 |h2
   ·cases hc:(h.Name !=n)with
    |true=>rw[hc]at h2;simp at h2;exact .inl (by rw[h2];simp)
    |false=>rw[hc]at h2;simp at h2
   ·rcases putH_mem n a hs _ x h2 with h3 |h3
    ·exact .inl (List.mem_cons_of_mem _ h3)
    ·exact .inr h3
def headR (r:Repo)(n:Str)(a:Int):Repo:=⟨r.Commits,zdt n a false r.Heads⟩
theorem RpB.headR {r:Repo}(h:RpB r)(hs:r.Heads.length<=100000){n:Str}(hn:n.length<=1048576)(a:Int):RpB (headR r n a):=
 ⟨h.coms,h.com,by have:=zf3 n a r.Heads false;simp at this;show(zdt n a false r.Heads).length<=_;omega,fun x hx=>by
  rcases putH_mem n a r.Heads false x hx with h1 |h1
  ·exact h.head x h1
  ·rw[h1];exact hn⟩
theorem zag {r:Repo}(h:zaf r=true):r.Commits.length<=16/\r.Heads.length<=5:=by
 unfold zaf zcu at h
 simp only[aG,decide_eq_true_eq]at h
 omega
def zdK:Repo:=⟨[],[]⟩
theorem zat {t:List File}(h:zaA t=true):t.length<=8:=by
 unfold zaA at h
 simp only[aG,decide_eq_true_eq]at h
 omega
theorem zeB {r:Repo}(h:zaf r=true){i:Nat}(hi:i<r.Commits.length):zjr i (r.Commits.getD i noCommit)=true:=by
 unfold zaf zkI at h
 simp only[aG]at h
 exact zaV.1 h.2.1 i (Nat.zero_le _) (by omega)
def zae (r:Repo)(i:Nat):List Int:=(r.Commits.getD i noCommit).Parents
theorem zaZ {r:Repo}(h:zaf r=true){i:Nat}(hi:i<r.Commits.length):(zae r i).length<=2 /\ ∀ p∈zae r i,0<=p/\p<=(i:Int)-1:=by
 have:=zeB h hi
 unfold zjr at this
 simp only[aG,decide_eq_true_eq,List.all_eq_true]at this
 obtain⟨h1,h2,_⟩:=this
 refine⟨by unfold zae;omega,fun p hp=>?_⟩
 have:=h1 p hp
 unfold upB at this
 simp only[aG,decide_eq_true_eq]at this
 exact this
theorem zit {r:Repo}{i:Nat}(hi:i<r.Commits.length):gi r.Commits (i:Int)=some (r.Commits.getD i noCommit):=by
 rw[zdn (aB hi)]
 exact zac (aB hi)
theorem zfB {r:Repo}(h:zaf r=true){x:Head}(hx:x∈r.Heads):0<=x.At/\x.At<=(r.Commits.length:Int)-1/\zaI x.Name=true:=by
 obtain⟨i,hi⟩:=List.mem_iff_getElem?.1 hx
 unfold zaf zcu at h
 simp only[aG]at h
 have:=zaV.1 h.2.2.1 i (Nat.zero_le _) (by have:=zaq hi;omega)
 unfold zfc upB at this
 rw[zbA hi]at this
 simp only[aG,decide_eq_true_eq]at this
 exact⟨this.2.1.1,this.2.1.2,this.1⟩
theorem at_range {r:Repo}(h:zaf r=true)(n:Str):atB r n = -1\/(0<=atB r n/\atB r n<=(r.Commits.length:Int)-1):=by
 unfold atB
 cases hf:r.Heads.find? (fun h=>h.Name==n)with
 |none=>exact .inl rfl
 |some x=>
  have:=zfB h (List.mem_of_find?_eq_some hf)
  exact .inr ⟨this.1,this.2.1⟩
def zlw (mk:List Bool)(p:Int):List Bool:=mk.set p.toNat true
theorem zhu (mk:List Bool)(p:Int):(zlw mk p).length=mk.length:=by simp[zlw]
theorem zj3: ∀ (ps:List Int) (mk:List Bool),(ps.foldl zlw mk).length=mk.length
 | [],mk=>rfl
 |p::ps,mk=>by rw[List.foldl_cons,zj3 ps,zhu]
def zj4 (r:Repo)(i:Nat)(mk:List Bool):List Bool:=bif mk.getD i false then(zae r i).foldl zlw mk else mk
theorem zga (r:Repo)(i:Nat)(mk:List Bool):(zj4 r i mk).length=mk.length:=by
 unfold zj4
 cases mk.getD i false
 ·rfl
 ·exact zj3 _ _
def ze3 (r:Repo):Nat->List Bool->List Bool
 |0,mk=>mk
 |i+1,mk=>ze3 r i (zj4 r i mk)
theorem zi5 (r:Repo): ∀ (i:Nat) (mk:List Bool),(ze3 r i mk).length=mk.length
 |0,mk=>rfl
 |i+1,mk=>by unfold ze3;rw[zi5 r i,zga]
def zaw (r:Repo)(a:Nat):List Bool:=ze3 r (a+1) ((List.replicate r.Commits.length false).set a true)
theorem zbh (r:Repo)(a:Nat):(zaw r a).length=r.Commits.length:=by unfold zaw;rw[zi5];simp
def zjl (mk:List Bool):List Int:=((List.range mk.length).filter fun i=>mk.getD i false).map Int.ofNat
def zbn (r:Repo)(a:Int):List Int:=zjl (zaw r a.toNat)
theorem zcZ {mk:List Bool}{i:Nat}(h:i<mk.length):gi mk (i:Int)=some (mk.getD i false):=by
 have hx:mk[i]? =some mk[i]:=aB h
 rw[zac hx]
 simp[List.getD,hx]
theorem zmH {mk:List Bool}{p:Int}{i:Nat}(h:mk.getD i false=true):(zlw mk p).getD i false=true:=by
 unfold zlw
 by_cases e:p.toNat=i
 ·subst e
  have hl:p.toNat<mk.length:=by
   rcases Nat.lt_or_ge p.toNat mk.length with h1 |h1
   ·exact h1
   ·rw[List.getD,List.getElem?_eq_none (by omega)]at h;simp at h
  simp[List.getD,hl]
 ·simp only[List.getD,List.getElem?_set_ne e]at h ⊢
  exact h
theorem zn8 {r:Repo}(h:zaf r=true){i:Nat}(hi:i<r.Commits.length){F:List Bool->Option (List Int)}: ∀ (j k m:Nat) (mk:List Bool),k+j=(zae r i).length->j<m->mk.length=r.Commits.length->
 zdP r (i:Int) (fun _ y27=>F y27) m (k:Int) mk=F (bif mk.getD i false then((zae r i).drop k).foldl zlw mk else mk)
 |j,k,0,mk,_,hm,_=>by omega
 |0,k,m+1,mk,hk,_,hl=>by
  obtain rfl:k=(zae r i).length:=by omega
  have e:(r.Commits.getD i noCommit).Parents=zae r i:=rfl
  simp only[zdP,jn,zit hi,aA,e,zad,aC,List.drop_length,List.foldl_nil]
  cases mk.getD i false<;>rfl
 |j+1,k,m+1,mk,hk,hm,hl=>by
  have hlt:k< (zae r i).length:=by omega
  have hx:(zae r i)[k]? =some (zae r i)[k]:=aB hlt
  obtain⟨hs,hp⟩:=zaZ h hi
  obtain⟨p0,p1⟩:=hp _ (List.getElem_mem hlt)
  have e:(r.Commits.getD i noCommit).Parents=zae r i:=rfl
  have hn:(((zae r i)[k].toNat:Nat):Int)=(zae r i)[k]:=by omega
  have hg:gi mk (zae r i)[k]=some (mk.getD (zae r i)[k].toNat false):=by
   rw[<- hn]
   exact zcZ (by omega)
  have hsi:siM mk (zae r i)[k] true=some (zlw mk (zae r i)[k]):=by
   have:=zbJ (xs:=mk) (i:=(zae r i)[k].toNat) (by omega) true
   rw[hn]at this
   exact this
  simp only[zdP,jn,zit hi,aA,e,zam hx,aD,zcZ (show i<mk.length by omega),zac hx,hg,hsi]
  cases hb:mk.getD i false with
  |false=>rfl
  |true=>
   rw[aD,aD,zab hlt (by unfold maxi;omega),zn8 h hi j (k+1) m _ (by omega) (by omega) (by rw[zhu];exact hl),zmH hb,aD,aI hlt,List.foldl_cons]
theorem zn9 {r:Repo}(h:zaf r=true){F:List Bool->Option (List Int)}: ∀ (i m:Nat) (mk:List Bool),i<=r.Commits.length->i<m->mk.length=r.Commits.length->
 zcV r (fun _ y=>F y) m ((i:Int)-1) mk=F (ze3 r i mk)
 |i,0,mk,_,hm,_=>by omega
 |0,m+1,mk,_,_,_=>by
  simp only[zcV]
  rw[aE (by omega)]
  rfl
 |i+1,m+1,mk,hi,hm,hl=>by
  have hs:=(zag h).1
  have e:(((i+1:Nat):Int))-1=(i:Int):=by omega
  simp only[zcV,jn,e]
  rw[aF (by omega),aD]
  have hp:=(zaZ h (show i<r.Commits.length by omega)).1
  have h2:=zn8 h (show i<r.Commits.length by omega) (F:=fun y27=>zcV r (fun _ y=>F y) m (w64 ((i:Int)-1)) y27) (zae r i).length 0 4 mk (by omega) (by omega) hl
  refine(h2).trans ?_
  rw[zd7 (show i<=maxi by unfold maxi;omega)]
  refine(zn9 h i m _ (by omega) (by omega) ?_).trans rfl
  have:=zga r i mk
  unfold zj4 at this
  rw[List.drop_zero,this]
  exact hl
theorem zmI {mk:List Bool}(hl:mk.length<=1000): ∀ (k i m:Nat) (out:List Int),i+k=mk.length->k<m->out.length<=i->
 zcU mk (fun y69 _=>some y69) m out (i:Int)=some (out++((List.range' i k).filter fun i=>mk.getD i false).map Int.ofNat)
 |k,i,0,out,_,hm,_=>by omega
 |0,i,m+1,out,hi,_,_=>by
  obtain rfl:i=mk.length:=by omega
  simp only[zcU,zad,aC]
  simp
 |k+1,i,m+1,out,hi,hm,ho=>by
  have hlt:i<mk.length:=by omega
  have hx:mk[i]? =some mk[i]:=aB hlt
  simp only[zcU,jn,zam hx,aD,zcZ hlt,aA,zab hlt (show mk.length<=maxi by unfold maxi;omega),ap1 (x:=(i:Int)) (show out.length<=1048576 by omega)]
  rw[List.range'_succ,List.filter_cons]
  cases hb:mk.getD i false with
  |true=>
   rw[aD,zmI hl k (i+1) m _ (by omega) (by omega) (by simp;omega),if_pos rfl]
   simp
  |false=>
   rw[aC,zmI hl k (i+1) m _ (by omega) (by omega) (by omega),if_neg (by simp)]
theorem zha {r:Repo}(h:zaf r=true){a:Int}(h0:0<=a)(h1:a<=(r.Commits.length:Int)-1):zfu r a=some (zbn r a):=by
 have hs:=(zag h).1
 obtain⟨n,rfl⟩:=Int.eq_ofNat_of_zero_le h0
 have hn:n<r.Commits.length:=by omega
 have hl:(List.replicate r.Commits.length false).length=r.Commits.length:=by simp
 unfold zfu
 rw[zgE (by simp[lim];omega),aA,zcZ (by rw[hl];exact hn),aA,zbJ (by rw[hl];exact hn),aA]
 simp only[jn,zal]
 have e:=zn9 h (F:=fun y18=>zcU y18 (fun y69 _=>some y69) (y18.length+1) ([]:List Int) 0) (n+1) (((n:Int)+1-0).toNat+1) ((List.replicate r.Commits.length false).set n true) (by omega) (by omega) (by simp)
 rw[show(((n+1:Nat):Int))-1=(n:Int) by omega]at e
 refine e.trans ?_
 have hml:=zbh r n
 unfold zaw at hml
 have e3:=zmI (mk:=ze3 r (n+1) ((List.replicate r.Commits.length false).set n true)) (by omega) r.Commits.length 0 (r.Commits.length+1) [] (by omega) (by omega) (by simp)
 rw[hml]
 refine e3.trans ?_
 unfold zbn zjl zaw
 rw[Int.toNat_natCast,hml,List.range_eq_range']
 rfl
theorem zbH {r:Repo}{a x:Int}(h:x∈zbn r a):0<=x/\x<=(r.Commits.length:Int)-1:=by
 unfold zbn zjl at h
 rw[zbh]at h
 obtain⟨i,hi,rfl⟩:=List.mem_map.1 h
 have:=List.mem_range.1 (List.mem_filter.1 hi).1
 constructor
 ·exact Int.natCast_nonneg i
 ·show(i:Int)<=_;omega
theorem zdW (r:Repo)(a:Int):(zbn r a).length<=r.Commits.length:=by
 unfold zbn zjl
 rw[zbh,List.length_map]
 exact Nat.le_trans (List.length_filter_le _ _) (by simp)
def zfS (l:List Int)(n:Int):Bool:=l.any fun x=>x==n
theorem zjm {l:List Int}(hl:l.length<=1000000)(n:Int):zgm l n=some (zfS l n):=by
 unfold zgm zfS
 simp only[jn,zal]
 rw[zcb (p:=fun x:Int=>x==n) (xs:=l) (r:=fun _=>some true) (Z:=some false) (f:=fun m k=>zdQ l n _ m false k) (fun m i x hx=>by
  simp only[zdQ,zam hx,zac hx,aD,aA,zab (zaq hx) (show l.length<=maxi by unfold maxi;omega)]) (fun m=>by simp only[zdQ,zad,aC]) (by omega)]
 cases hf:l.find? (fun x=>x==n)with
 |some x=>
  have:l.any (fun x=>x==n)=true:=List.any_eq_true.2 ⟨x,List.mem_of_find?_eq_some hf,by simpa using List.find?_some hf⟩
  rw[this]
 |none=>
  have:l.any (fun x=>x==n)=false:=by
   rw[List.any_eq_false]
   intro x hx
   have:=List.find?_eq_none.1 hf x hx
   simpa using this
  rw[this]
def znr (r:Repo)(l:List Int)(i:Nat):Bool:=zfs (fun k=>((k:Int)==(i:Int)) || !zfS (zbn r (l.getD k 0)) (l.getD i 0)) 0 l.length
def zmO (p:Nat->Bool)(l:List Int):List Int:=((List.range l.length).filter p).map fun i=>l.getD i 0
def zda (r:Repo)(a b:Int):List Int:=(zbn r a).filter (zfS (zbn r b))
def za8 (r:Repo)(a b:Int):List Int:=zmO (znr r (zda r a b)) (zda r a b)
theorem zh6 {l:List Int}{i:Nat}(h:i<l.length):gi l (i:Int)=some (l.getD i 0):=by
 rw[zck (aB h)]
 exact zac (aB h)
theorem zm6 {r:Repo}(h:zaf r=true){l:List Int}(hl:l.length<=1000)(hm: ∀ x∈l,0<=x/\x<=(r.Commits.length:Int)-1){i:Nat}(hi:i<l.length){F:Bool->Option (List Int)}: ∀ (n k m:Nat) (b:Bool),k+n=l.length->n<m->
 zdf r l (i:Int) (fun y _=>F y) m b (k:Int)=F (b&&zfs (fun k=>((k:Int)==(i:Int)) || !zfS (zbn r (l.getD k 0)) (l.getD i 0)) k n)
 |n,k,0,b,_,hm'=>by omega
 |0,k,m+1,b,hk,_=>by
  obtain rfl:k=l.length:=by omega
  simp only[zdf,zad,aC,zfs,Bool.and_true]
 |n+1,k,m+1,b,hk,hm'=>by
  have hlt:k<l.length:=by omega
  have hx:l[k]? =some l[k]:=aB hlt
  have hs:=(zag h).1
  obtain⟨q0,q1⟩:=hm _ (List.getElem_mem hlt)
  have hal:=zdW r l[k]
  have ih:=fun b=>zm6 h hl hm hi (F:=F) n (k+1) m b (by omega) (by omega)
  simp only[zdf,zam hx,aD,zab hlt (show l.length<=maxi by unfold maxi;omega),zac hx,zh6 hi,aA,zha h q0 q1,zjm (show(zbn r l[k]).length<=1000000 by omega),ih,zfs,zck hx]
  cases b<;>cases((k:Int)==(i:Int))<;>simp
theorem zly {r:Repo}(h:zaf r=true){l:List Int}(hl:l.length<=1000)(hm: ∀ x∈l,0<=x/\x<=(r.Commits.length:Int)-1): ∀ (k i m:Nat) (out:List Int),i+k=l.length->k<m->out.length<=i->
 zbG r l (fun y _=>some y) m out (i:Int)=some (out++((List.range' i k).filter (znr r l)).map fun i=>l.getD i 0)
 |k,i,0,out,_,hm',_=>by omega
 |0,i,m+1,out,hi,_,_=>by
  obtain rfl:i=l.length:=by omega
  simp only[zbG,zad,aC]
  simp
 |k+1,i,m+1,out,hi,hm',ho=>by
  have hlt:i<l.length:=by omega
  have hx:l[i]? =some l[i]:=aB hlt
  have h3:=zm6 h hl hm hlt (F:=fun y104=>bif y104 then((gi l (i:Int)).bind fun u151=>(apM out [u151]).bind fun q160=>zbG r l (fun y _=>some y) m q160 (w64 ((i:Int)+1))) else zbG r l (fun y _=>some y) m out (w64 ((i:Int)+1))) l.length 0 (l.length+1) true (by omega) (by omega)
  simp only[zbG,jn,zam hx,aD,zal]
  refine h3.trans ?_
  rw[Bool.true_and,List.range'_succ,List.filter_cons,zab hlt (show l.length<=maxi by unfold maxi;omega)]
  show(bif znr r l i then _ else _)=_
  cases hb:znr r l i with
  |true=>
   rw[aD,zac hx,aA,ap1 (show out.length<=1048576 by omega),aA,zly h hl hm k (i+1) m _ (by omega) (by omega) (by simp;omega),if_pos rfl]
   simp[hx]
  |false=>
   rw[aC,zly h hl hm k (i+1) m _ (by omega) (by omega) (by omega),if_neg (by simp)]
theorem zns {r:Repo}(h:zaf r=true){a b:Int}(ha:0<=a)(ha':a<=(r.Commits.length:Int)-1)(hb:0<=b)(hb':b<=(r.Commits.length:Int)-1):zhD r a b=some (za8 r a b):=by
 have hs:=(zag h).1
 have la:=zdW r a
 have lb:=zdW r b
 unfold zhD
 rw[zha h ha ha',aA,zha h hb hb',aA]
 simp only[jn,zal]
 have hl:(zda r a b).length<=1000:=Nat.le_trans (List.length_filter_le _ _) (by omega)
 have hm: ∀ x∈zda r a b,0<=x/\x<=(r.Commits.length:Int)-1:=fun x hx=>zbH (List.mem_filter.1 hx).1
 rw[zc0 (xs:=zbn r a) (p:=zfS (zbn r b)) (g:=fun x:Int=>x) (Z:=fun acc=>zbG r acc (fun y _=>some y) (acc.length+1) ([]:List Int) 0) (f:=fun m acc i=>zdU (zbn r a) (zbn r b) _ m acc i) (fun m i x acc hx hacc=>by
  have hi:=zaq hx
  simp only[zdU,jn,zam hx,zac hx,aD,aA,zab hi (show(zbn r a).length<=maxi by unfold maxi;omega),zjm (show(zbn r b).length<=1000000 by omega),ap1 (show acc.length<=1048576 by omega)]
  cases zfS (zbn r b) x<;>rfl) (fun m acc=>by simp only[zdU,zad,aC]) (by omega)]
 have e:((zbn r a).filter (zfS (zbn r b))).map (fun x=>x)=zda r a b:=by simp[zda]
 rw[e]
 have:=zly h hl hm (zda r a b).length 0 ((zda r a b).length+1) [] (by omega) (by omega) (by simp)
 refine this.trans ?_
 unfold za8 zmO
 rw[List.range_eq_range']
 rfl
theorem zj8 {r:Repo}{a b x:Int}(h:x∈za8 r a b):0<=x/\x<=(r.Commits.length:Int)-1:=by
 unfold za8 zmO at h
 obtain⟨i,hi,rfl⟩:=List.mem_map.1 h
 have hr:=List.mem_range.1 (List.mem_filter.1 hi).1
 rw[zck (aB hr)]
 exact zbH (List.mem_filter.1 (List.getElem_mem hr)).1
theorem zmb (r:Repo)(a b:Int):(za8 r a b).length<=r.Commits.length:=by
 unfold za8 zmO
 rw[List.length_map]
 refine Nat.le_trans (List.length_filter_le _ _) ?_
 rw[List.length_range]
 exact Nat.le_trans (List.length_filter_le _ _) (zdW r a)
def getT (t:List File)(p:Str):List Str×Bool:=match t.find? (fun f=>f.Path==p)with
 |some f=>(f.Text,true)
 |none=>([],false)
theorem zfm {t:List File}(h:TB t)(p:Str):zej t p=some (getT t p):=by
 have hm:=h.maxi
 unfold zej getT
 simp only[jn,zal]
 rw[zcb (p:=fun f:File=>f.Path==p) (xs:=t) (r:=fun f=>some (f.Text,true)) (Z:=some (([]:List Str),false)) (f:=fun m k=>zco t p _ m [] false k) (fun m i x hx=>by
  simp only[zco,zam hx,zac hx,aD,aA,zab (zaq hx) hm]) (fun m=>by simp only[zco,zad,aC]) (by omega)]
 cases t.find? (fun f=>f.Path==p)<;>rfl
def zaE (t:List File):Prop:= ∀ f∈t,zap f.Text=true
theorem za7 {t:List File}(h:zaE t)(p:Str):zap (getT t p).1=true:=by
 unfold getT
 cases hf:t.find? (fun f=>f.Path==p)with
 |some f=>exact h f (List.mem_of_find?_eq_some hf)
 |none=>rfl
theorem zai {t:List File}(h:zaA t=true):zaE t:=by
 intro f hf
 obtain⟨i,hi⟩:=List.mem_iff_getElem?.1 hf
 unfold zaA at h
 simp only[aG]at h
 have:=zaV.1 h.2 i (Nat.zero_le _) (by have:=zaq hi;omega)
 unfold zfe zfd at this
 rw[zbo hi]at this
 simp only[aG]at this
 exact this.1.2.1
theorem zca {t:List File}(h:zaA t=true){f:File}(hf:f∈t):zaX f.Path=true:=by
 obtain⟨i,hi⟩:=List.mem_iff_getElem?.1 hf
 unfold zaA at h
 simp only[aG]at h
 have:=zaV.1 h.2 i (Nat.zero_le _) (by have:=zaq hi;omega)
 unfold zfe zfd at this
 rw[zbo hi]at this
 simp only[aG]at this
 exact this.1.1
theorem zf5 (c:UInt8): ∀ (r w:Str),w.length+r.length+1=sumB (fun p=>p.length+1) (curS c w r)
 | [],w=>by simp[curS,sumB]
 |x::r,w=>by
  unfold curS
  cases x==c with
  |true=>
   rw[aD]
   have:=zf5 c r []
   simp only[sumB,List.length_nil,aL]at this ⊢
   omega
  |false=>
   rw[aC]
   have:=zf5 c r (w++[x])
   simp only[List.length_append,aL,List.length_nil]at this ⊢
   omega
theorem zl7 {c:Nat}: ∀ {l:List Str},(∀ p∈l,p.length+1<=c)->sumB (fun p=>p.length+1) l<=c*l.length
 | [],_=>by simp[sumB]
 |x::l,h=>by
  have h1:=h x (by simp)
  have h2:=zl7 (c:=c) (l:=l) (fun p hp=>h p (List.mem_cons_of_mem _ hp))
  simp only[sumB,aL,Nat.mul_add,Nat.mul_one]
  omega
theorem zcj {s:Str}(h:zaI s=true):s.length<=6:=by
 unfold zaI at h
 simp only[aG,decide_eq_true_eq]at h
 omega
theorem zeD {s:Str}(h:zaX s=true):s.length<=20:=by
 unfold zaX at h
 simp only[aG,decide_eq_true_eq,List.all_eq_true]at h
 have h1:=zf5 47 s []
 have h2:=zl7 (c:=7) (l:=curS 47 [] s) (fun p hp=>by have:=zcj (h.2 p hp);omega)
 simp only[List.length_nil]at h1
 omega
structure Gd (q:Prop) (r:Repo):Prop where
 rb:RpB r
 ok:zaf r=true
 hd:q->r.Commits≠ []->r.Heads≠ []
variable {q:Prop}
def zav (r:Repo)(i:Nat):List File:=(r.Commits.getD i noCommit).Tree
theorem Gd.tree {r:Repo}(h:Gd q r){i:Nat}(hi:i<r.Commits.length):TB (zav r i)/\zaA (zav r i)=true/\zaE (zav r i)/\(zav r i).length<=8:=by
 have hx:r.Commits[i]? =some r.Commits[i]:=aB hi
 have h1:zaA (zav r i)=true:=by
  have:=zeB h.ok hi
  unfold zjr at this
  simp only[aG]at this
  exact this.2.2.2.2
 refine⟨?_,h1,zai h1,zat h1⟩
 unfold zav
 rw[zdn hx]
 exact(h.rb.cat hx).tree
theorem zhq:TB ([]:List File)/\zaA []=true/\zaE []/\([]:List File).length<=8:=⟨TB.nil,rfl,fun f hf=>by simp at hf,by simp⟩
theorem zdj {r:Repo}{z:Int}(h0:0<=z)(h1:z<=(r.Commits.length:Int)-1):gi r.Commits z=some (r.Commits.getD z.toNat noCommit):=by
 obtain⟨n,rfl⟩:=Int.eq_ofNat_of_zero_le h0
 exact zit (by omega)
theorem zh8 (n:Str)(a:Int): ∀ (hs:List Head),zdt n a false hs≠ []
 | []=>by simp[zdt]
 |h::hs=>by
  unfold zdt
  cases hb:Op.bytesLess h.Name n
  ·simp
  ·have:=zh8 n a hs
   cases(h.Name !=n)<;>simp[this]
def ziI (r:Repo)(a b:Int):List File:=bif((za8 r a b).length:Int)==0 then [] else zav r ((za8 r a b).getD ((za8 r a b).length-1) 0).toNat
theorem zi8 {r:Repo}(h:Gd q r){a b:Int}(ha:0<=a)(ha':a<=(r.Commits.length:Int)-1)(hb:0<=b)(hb':b<=(r.Commits.length:Int)-1):zh1 r a b=some (ziI r a b)/\TB (ziI r a b)/\zaA (ziI r a b)=true:=by
 have hs:=(zag h.ok).1
 have hl:=zmb r a b
 unfold zh1 ziI
 rw[zns h.ok ha ha' hb hb',aA]
 cases hz:((za8 r a b).length:Int)==0 with
 |true=>exact⟨rfl,zhq.1,zhq.2.1⟩
 |false=>
  have hne:((za8 r a b).length:Int)≠0:=by simpa using hz
  have e:w64 (((za8 r a b).length:Int)-1)=(((za8 r a b).length-1:Nat):Int):=by rw[zah (by omega) (by omega)];omega
  have hlt:(za8 r a b).length-1< (za8 r a b).length:=by omega
  have hm:(za8 r a b).getD ((za8 r a b).length-1) 0∈za8 r a b:=by
   rw[zck (aB hlt)];exact List.getElem_mem hlt
  obtain⟨q0,q1⟩:=zj8 hm
  rw[aC,aC,e,zh6 hlt,aA,zdj q0 q1,aA]
  have:=h.tree (i:=((za8 r a b).getD ((za8 r a b).length-1) 0).toNat) (by omega)
  exact⟨rfl,this.1,this.2.1⟩
theorem Gd.head {r:Repo}(h:Gd q r){n:Str}{b:Int}(hn:n.length<=1048576)(ho:zaf (headR r n b)=true):Gd q (headR r n b):=by
 obtain⟨s1,s2⟩:=zag h.ok
 exact⟨h.rb.headR (by omega) hn b,ho,fun _ _=>zh8 _ _ _⟩
end Go.Vm
namespace Go.Vm
open Go Go.Sx
set_option linter.unusedSimpArgs false
set_option linter.unusedVariables false
section
variable {r:l30Rd}{p:Int}
structure Drawn (r:Repo):Prop where
 rb:RpB r
 coms:r.Commits.length<=16
 heads:r.Heads.length<=6
theorem Gd.drawn {r:Repo}(h:Gd True r):Drawn r:=by
 obtain⟨s1,s2⟩:=zag h.ok
 exact⟨h.rb,s1,by omega⟩
end
inductive Rc (r:Repo):Nat->Nat->Prop
 |refl (a:Nat):Rc r a a
 |step {a b:Nat} {p:Int}:Rc r a b->p∈zae r b->Rc r a p.toNat
theorem Rc.trans {r:Repo}{a b c:Nat}(h:Rc r a b)(k:Rc r b c):Rc r a c:=by
 induction k with
 |refl=>exact h
 |step _ hp ih=>exact Rc.step ih hp
theorem Rc.head {r:Repo}{a c:Nat}(h:Rc r a c):c=a \/ ∃ p∈zae r a,Rc r p.toNat c:=by
 induction h with
 |refl=>exact .inl rfl
 | @step b p hb hp ih=>
  rcases ih with e |⟨q,hq,hc⟩
  ·subst e
   exact .inr ⟨p,hp,Rc.refl _⟩
  ·exact .inr ⟨q,hq,Rc.step hc hp⟩
theorem Rc.le {r:Repo}(hr:zaf r=true){a c:Nat}(ha:a<r.Commits.length)(h:Rc r a c):c<=a/\c<r.Commits.length:=by
 induction h with
 |refl=>exact⟨Nat.le_refl _,ha⟩
 |step _ hp ih=>
  have:=(zaZ hr ih.2).2 _ hp
  omega
def mkd (mk:List Bool)(j:Nat):Prop:=mk.getD j false=true
theorem zkR {mk:List Bool}{j:Nat}(h:mkd mk j):j<mk.length:=by
 unfold mkd at h
 rcases Nat.lt_or_ge j mk.length with h1 |h1
 ·exact h1
 ·rw[List.getD,List.getElem?_eq_none (by omega)]at h;simp at h
theorem zlx {mk:List Bool}{p:Int}{j:Nat}:mkd (zlw mk p) j↔mkd mk j\/(j=p.toNat/\j<mk.length):=by
 unfold mkd zlw
 by_cases e:p.toNat=j
 ·subst e
  by_cases hl:p.toNat<mk.length
  ·simp[List.getD,hl]
  ·rw[List.set_eq_of_length_le (by omega)]
   simp[hl]
 ·simp only[List.getD,List.getElem?_set_ne e]
  constructor
  ·exact .inl
  ·rintro(h |⟨h,_⟩)
   ·exact h
   ·exact absurd h.symm e
theorem zj5: ∀ (ps:List Int) (mk:List Bool) (j:Nat),mkd (ps.foldl zlw mk) j↔mkd mk j\/(∃ p∈ps,j=p.toNat/\j<mk.length)
 | [],mk,j=>by simp
 |p::ps,mk,j=>by
  rw[List.foldl_cons,zj5 ps,zlx,zhu]
  constructor
  ·rintro((h |h) |⟨q,hq,h⟩)
   ·exact .inl h
   ·exact .inr ⟨p,by simp,h⟩
   ·exact .inr ⟨q,List.mem_cons_of_mem _ hq,h⟩
  ·rintro(h |⟨q,hq,h⟩)
   ·exact .inl (.inl h)
   ·rcases List.mem_cons.1 hq with e |e
    ·subst e;exact .inl (.inr h)
    ·exact .inr ⟨q,e,h⟩
theorem stepM_mkd {r:Repo}{i:Nat}{mk:List Bool}{j:Nat}:mkd (zj4 r i mk) j↔mkd mk j\/(mkd mk i /\ ∃ p∈zae r i,j=p.toNat/\j<mk.length):=by
 unfold zj4
 cases hb:mk.getD i false with
 |true=>
  rw[aD,zj5]
  constructor
  ·rintro(h |h)
   ·exact .inl h
   ·exact .inr ⟨hb,h⟩
  ·rintro(h |⟨_,h⟩)
   ·exact .inl h
   ·exact .inr h
 |false=>
  rw[aC]
  constructor
  ·exact .inl
  ·rintro(h |⟨h,_⟩)
   ·exact h
   ·unfold mkd at h;rw[hb]at h;cases h
def zth (r:Repo)(a i:Nat)(mk:List Bool):Prop:=(∀ j,mkd mk j->Rc r a j)/\mkd mk a /\ ∀ j,i<=j->mkd mk j -> ∀ p∈zae r j,mkd mk p.toNat
theorem zi6 {r:Repo}(hr:zaf r=true){a:Nat}: ∀ (i:Nat) (mk:List Bool),i<=r.Commits.length->mk.length=r.Commits.length->zth r a i mk->zth r a 0 (ze3 r i mk)
 |0,mk,_,_,h=>h
 |i+1,mk,hi,hl,h=>by
  unfold ze3
  refine zi6 hr i _ (by omega) (by rw[zga];exact hl) ?_
  obtain⟨h1,h2,h3⟩:=h
  have hp:=(zaZ hr (show i<r.Commits.length by omega)).2
  refine⟨fun j hj=>?_,stepM_mkd.2 (.inl h2),fun j hij hj p hpj=>?_⟩
  ·rcases stepM_mkd.1 hj with h |⟨h,p,hpp,e,_⟩
   ·exact h1 j h
   ·rw[e];exact Rc.step (h1 i h) hpp
  ·have hj':mkd mk j:=by
    rcases stepM_mkd.1 hj with h |⟨h,q,hqq,e,_⟩
    ·exact h
    ·have:=hp q hqq;omega
   have hjl:=zkR hj'
   have hpb:=(zaZ hr (show j<r.Commits.length by omega)).2 p hpj
   rcases Nat.lt_or_ge i j with h4 |h4
   ·exact stepM_mkd.2 (.inl (h3 j (by omega) hj' p hpj))
   ·have e:j=i:=by omega
    subst e
    exact stepM_mkd.2 (.inr ⟨hj',p,hpj,rfl,by omega⟩)
theorem zdS {r:Repo}(hr:zaf r=true){a:Nat}(ha:a<r.Commits.length)(j:Nat):mkd (zaw r a) j↔Rc r a j:=by
 have h0:zth r a (a+1) ((List.replicate r.Commits.length false).set a true):=by
  have hm: ∀ j,mkd ((List.replicate r.Commits.length false).set a true) j↔j=a:=fun j=>by
   have:=zlx (mk:=List.replicate r.Commits.length false) (p:=(a:Int)) (j:=j)
   unfold zlw at this
   rw[Int.toNat_natCast]at this
   rw[this]
   constructor
   ·rintro(h |h)
    ·unfold mkd at h
     rw[List.getD,List.getElem?_replicate]at h
     split at h<;>simp at h
    ·exact h.1
   ·intro e
    exact .inr ⟨e,by rw[e];simpa using ha⟩
  refine⟨fun j hj=>?_,(hm a).2 rfl,fun j hij hj=>?_⟩
  ·rw[(hm j).1 hj];exact Rc.refl _
  ·have:=(hm j).1 hj;omega
 have h:=zi6 hr (a+1) _ (by omega) (by simp) h0
 constructor
 ·exact h.1 j
 ·intro hc
  induction hc with
  |refl=>exact h.2.1
  |step _ hp ih=>exact h.2.2 _ (Nat.zero_le _) ih _ hp
theorem zcv {r:Repo}(hr:zaf r=true){a:Int}(h0:0<=a)(h1:a<=(r.Commits.length:Int)-1)(x:Int):x∈zbn r a↔0<=x/\Rc r a.toNat x.toNat:=by
 unfold zbn zjl
 rw[zbh,List.mem_map]
 constructor
 ·rintro⟨i,hi,rfl⟩
  rw[List.mem_filter,List.mem_range]at hi
  exact⟨Int.natCast_nonneg i,(zdS hr (show a.toNat<r.Commits.length by omega) i).1 hi.2⟩
 ·rintro⟨hx,h⟩
  have hl:=(h.le hr (by omega)).2
  exact⟨x.toNat,List.mem_filter.2 ⟨List.mem_range.2 hl,(zdS hr (show a.toNat<r.Commits.length by omega) x.toNat).2 h⟩,Int.toNat_of_nonneg hx⟩
theorem zbq {l:List Int}{n:Int}:zfS l n=true↔n∈l:=by
 unfold zfS
 rw[List.any_eq_true]
 constructor
 ·rintro⟨x,hx,e⟩
  have:x=n:=by simpa using e
  rw[<- this];exact hx
 ·intro h
  exact⟨n,h,by simp⟩
def zgr (l:List Int):Prop:=l.Pairwise (· < ·)
theorem zj6 (n:Nat):(List.range n).Pairwise (· < ·):=List.pairwise_lt_range
theorem zh3 (mk:List Bool):zgr (zjl mk):=by
 unfold zgr zjl
 rw[List.pairwise_map]
 exact((zj6 _).sublist (List.filter_sublist)).imp fun h=>by simpa using h
theorem zhv (r:Repo)(a:Int):zgr (zbn r a):=zh3 _
theorem zgr.ext: ∀ {xs ys:List Int},zgr xs->zgr ys->(∀ a,a∈xs↔a∈ys)->xs=ys
 | [],[],_,_,_=>rfl
 | [],y::ys,_,_,h=>by have:=(h y).2 (by simp);simp at this
 |x::xs,[],_,_,h=>by have:=(h x).1 (by simp);simp at this
 |x::xs,y::ys,hx,hy,h=>by
  have hx':=List.pairwise_cons.1 hx
  have hy':=List.pairwise_cons.1 hy
  have e:x=y:=by
   rcases List.mem_cons.1 ((h x).1 (by simp))with e |hm
   ·exact e
   ·rcases List.mem_cons.1 ((h y).2 (by simp))with e |hm2
    ·exact e.symm
    ·have h1:=hx'.1 y hm2
     have h2:=hy'.1 x hm
     omega
  subst e
  rw[zgr.ext hx'.2 hy'.2 (fun a=>by
   constructor
   ·intro ha
    rcases List.mem_cons.1 ((h a).1 (List.mem_cons_of_mem _ ha))with e2 |e2
    ·have:=hx'.1 a ha;omega
    ·exact e2
   ·intro ha
    rcases List.mem_cons.1 ((h a).2 (List.mem_cons_of_mem _ ha))with e2 |e2
    ·have:=hy'.1 a ha;omega
    ·exact e2)]
theorem zmJ {r:Repo}(h:zaf r=true){i:Nat}(hi:i<r.Commits.length){F:List Bool->Option (List Bool)}: ∀ (j k m:Nat) (mk:List Bool),k+j=(zae r i).length->j<m->mk.length=r.Commits.length->
 zbg F (r.Commits.getD i noCommit) m (k:Int) mk=F (((zae r i).drop k).foldl zlw mk)
 |j,k,0,mk,_,hm,_=>by omega
 |0,k,m+1,mk,hk,_,hl=>by
  obtain rfl:k=(zae r i).length:=by omega
  have e:(r.Commits.getD i noCommit).Parents=zae r i:=rfl
  simp only[zbg,e,zad,aC,List.drop_length,List.foldl_nil]
 |j+1,k,m+1,mk,hk,hm,hl=>by
  have hlt:k< (zae r i).length:=by omega
  have hx:(zae r i)[k]? =some (zae r i)[k]:=aB hlt
  obtain⟨hs,hp⟩:=zaZ h hi
  obtain⟨p0,p1⟩:=hp _ (List.getElem_mem hlt)
  have e:(r.Commits.getD i noCommit).Parents=zae r i:=rfl
  have hn:(((zae r i)[k].toNat:Nat):Int)=(zae r i)[k]:=by omega
  have hg:gi mk (zae r i)[k]=some (mk.getD (zae r i)[k].toNat false):=by
   rw[<- hn]
   exact zcZ (by omega)
  have hsi:siM mk (zae r i)[k] true=some (zlw mk (zae r i)[k]):=by
   have:=zbJ (xs:=mk) (i:=(zae r i)[k].toNat) (by omega) true
   rw[hn]at this
   exact this
  simp only[zbg,e,zam hx,aD,zac hx,hg,hsi,aA]
  rw[zab hlt (by unfold maxi;omega),zmJ h hi j (k+1) m _ (by omega) (by omega) (by rw[zhu];exact hl),aI hlt,List.foldl_cons]
theorem zmK {r:Repo}(h:zaf r=true): ∀ (i m:Nat) (mk:List Bool),i<=r.Commits.length->i<m->mk.length=r.Commits.length->
 zaT r (fun _ y=>some y) m ((i:Int)-1) mk=some (ze3 r i mk)
 |i,0,mk,_,hm,_=>by omega
 |0,m+1,mk,_,_,_=>by
  simp only[zaT]
  rw[aE (by omega)]
  rfl
 |i+1,m+1,mk,hi,hm,hl=>by
  have hs:=(zag h).1
  have hil:i<r.Commits.length:=by omega
  have e:(((i+1:Nat):Int))-1=(i:Int):=by omega
  have e0:(r.Commits.getD i noCommit).Parents=zae r i:=rfl
  have hstep:(((i:Int)-1))=(i:Int)-1:=rfl
  simp only[zaT,jn,e]
  rw[aF (by omega),aD,zcZ (by omega),aA]
  have ih:=zmK h i m (zj4 r i mk) (by omega) (by omega) (by rw[zga];exact hl)
  unfold ze3
  rw[<- ih]
  unfold zj4
  have hw:w64 ((i:Int)-1)=(i:Int)-1:=zd7 (show i<=maxi by unfold maxi;omega)
  cases mk.getD i false with
  |false=>simp only[aC,hw]
  |true=>
   have h2:=zmJ h hil (F:=fun y27=>zaT r (fun _ y=>some y) m (w64 ((i:Int)-1)) y27) (zae r i).length 0 ((zae r i).length+1) mk (by omega) (by omega) hl
   simp only[aD,zit hil,aA,e0,zal]
   refine h2.trans ?_
   rw[List.drop_zero,hw]
theorem zdh {r:Repo}(h:zaf r=true){a:Int}(h0:0<=a)(h1:a<=(r.Commits.length:Int)-1):za2 r a=some (zaw r a.toNat):=by
 have hs:=(zag h).1
 obtain⟨n,rfl⟩:=Int.eq_ofNat_of_zero_le h0
 have hn:n<r.Commits.length:=by omega
 have hl:(List.replicate r.Commits.length false).length=r.Commits.length:=by simp
 unfold za2 zaw
 rw[zgE (by simp[lim];omega),aA,zcZ (by rw[hl];exact hn),aA,zbJ (by rw[hl];exact hn),aA]
 simp only[jn]
 have e:=zmK h (n+1) (((n:Int)+1-0).toNat+1) ((List.replicate r.Commits.length false).set n true) (by omega) (by omega) (by simp)
 rw[show(((n+1:Nat):Int))-1=(n:Int) by omega]at e
 refine e.trans ?_
 rw[Int.toNat_natCast]
theorem zhT {mk:List Bool}(hl:mk.length<=1000): ∀ (k i m:Nat) (out:List Int),i+k=mk.length->k<m->out.length<=i->
 zdl mk (fun y69 _=>some y69) m out (i:Int)=some (out++((List.range' i k).filter fun i=>mk.getD i false).map Int.ofNat)
 |k,i,0,out,_,hm,_=>by omega
 |0,i,m+1,out,hi,_,_=>by
  obtain rfl:i=mk.length:=by omega
  simp only[zdl,zad,aC]
  simp
 |k+1,i,m+1,out,hi,hm,ho=>by
  have hlt:i<mk.length:=by omega
  have hx:mk[i]? =some mk[i]:=aB hlt
  simp only[zdl,jn,zam hx,aD,zcZ hlt,aA,zab hlt (show mk.length<=maxi by unfold maxi;omega),ap1 (x:=(i:Int)) (show out.length<=1048576 by omega)]
  rw[List.range'_succ,List.filter_cons]
  cases hb:mk.getD i false with
  |true=>
   rw[aD,zhT hl k (i+1) m _ (by omega) (by omega) (by simp;omega),if_pos rfl]
   simp
  |false=>
   rw[aC,zhT hl k (i+1) m _ (by omega) (by omega) (by omega),if_neg (by simp)]
theorem zhj {mk:List Bool}(hl:mk.length<=1000):zbL mk=some (zjl mk):=by
 unfold zbL zjl
 simp only[jn,zal]
 rw[show(0:Int)=((0:Nat):Int) from rfl,zhT hl mk.length 0 (mk.length+1) [] (by omega) (by omega) (by simp),List.range_eq_range']
 rfl
theorem TB.of {t:List File}(hf:Bk.fit t)(h:Bk.bulk t<=1048576):TB t:=⟨zch h,fun f hm=>by
 have h1:Bk.bulk f<=1048576:=zfQ h hm
 have h2:Bk.bulk f=f.Path.length+Bk.bulk f.Text:=rfl
 exact⟨by omega,zch (show Bk.bulk f.Text<=1048576 by omega),(hf.2 f hm).2⟩⟩
theorem RpB.of {r:Repo}(hf:Bk.fit r)(h:Bk.bulk r<=1048576):RpB r:=by
 have h0:Bk.bulk r=Bk.bulk r.Commits+Bk.bulk r.Heads:=rfl
 have hc:Bk.bulk r.Commits<=1048576:=by omega
 have hh:Bk.bulk r.Heads<=1048576:=by omega
 refine⟨zch hc,fun c hm=>?_,zch hh,fun x hm=>?_⟩
 ·have h1:Bk.bulk c<=1048576:=zfQ hc hm
  have h2:Bk.bulk c=Bk.bulk c.Parents+(c.Who.length+Bk.bulk c.Tree):=rfl
  exact⟨zch (show Bk.bulk c.Parents<=1048576 by omega),by omega,TB.of (hf.1.2 c hm).2.2 (by omega)⟩
 ·have h1:Bk.bulk x<=1048576:=zfQ hh hm
  have h2:Bk.bulk x=x.Name.length+0:=rfl
  omega
theorem zj7 {R α σ:Type} {xs:List α} {g:σ->α->σ} {I:σ->Prop} {f:Nat->Int->σ->Option R} {Z:σ->Option R}
 (hs: ∀ m (i:Nat) x s,xs[i]? =some x->I s->f (m+1) (i:Int) s=f m ((i+1:Nat):Int) (g s x)/\I (g s x)) (he: ∀ m s,I s->f (m+1) (xs.length:Int) s=Z s):
 ∀ (k i m:Nat) (s:σ),i+k=xs.length->k<m->I s->f m (i:Int) s=Z ((xs.drop i).foldl g s)/\I ((xs.drop i).foldl g s)
 |k,i,0,s,_,hm,_=>by omega
 |0,i,m+1,s,hi,_,h=>by
  obtain rfl:i=xs.length:=by omega
  rw[List.drop_length,List.foldl_nil]
  exact⟨he m s h,h⟩
 |k+1,i,m+1,s,hi,hm,h=>by
  have hlt:i<xs.length:=by omega
  obtain⟨e1,e2⟩:=hs m i xs[i] s (aB hlt) h
  rw[e1,aI hlt,List.foldl_cons]
  exact zj7 hs he k (i+1) m _ (by omega) (by omega) e2
theorem zhM {R α σ:Type} {xs:List α} {g:σ->α->σ} {I:σ->Prop} {f:Nat->Int->σ->Option R} {Z:σ->Option R} {s:σ} (h:I s)
 (hs: ∀ m (i:Nat) x s,xs[i]? =some x->I s->f (m+1) (i:Int) s=f m ((i+1:Nat):Int) (g s x)/\I (g s x)) (he: ∀ m s,I s->f (m+1) (xs.length:Int) s=Z s):f (xs.length+1) 0 s=Z (xs.foldl g s):=by
 have:=(zj7 hs he xs.length 0 (xs.length+1) s (by omega) (by omega) h).1
 rwa [List.drop_zero]at this
theorem zof {α:Type}(q:α->Bool): ∀ (xs:List α) (b:Bool),xs.foldl (fun b x=>b&&q x) b=(b&&xs.all q)
 | [],b=>by simp
 |x::xs,b=>by rw[List.foldl_cons,zof q xs,List.all_cons,Bool.and_assoc]
theorem znP {α:Type}(q:α->Bool): ∀ (xs:List α) (b:Bool),xs.foldl (fun b x=>b||q x) b=(b||xs.any q)
 | [],b=>by simp
 |x::xs,b=>by rw[List.foldl_cons,znP q xs,List.any_cons,Bool.or_assoc]
theorem zkt {mk:List Bool}{x:Int}:x∈zjl mk↔0<=x/\mkd mk x.toNat:=by
 unfold zjl
 rw[List.mem_map]
 constructor
 ·rintro⟨i,hi,rfl⟩
  rw[List.mem_filter]at hi
  exact⟨Int.natCast_nonneg i,hi.2⟩
 ·rintro⟨hx,h⟩
  exact⟨x.toNat,List.mem_filter.2 ⟨List.mem_range.2 (zkR h),h⟩,Int.toNat_of_nonneg hx⟩
theorem zmw (mk:List Bool):(zjl mk).length<=mk.length:=by
 unfold zjl
 rw[List.length_map]
 exact Nat.le_trans (List.length_filter_le _ _) (by simp)
section
variable {r:l30Rd}{p:Int}
end
def zlL (p:Int):Prop:= -9223372036854775808<=p/\p<=9223372036854775807
section
variable {r:Repo}{has:List Int}{sent:List Commit}
end
set_option linter.unusedSectionVars false
structure SentB (sent:List Commit):Prop where
 len:sent.length<=16
 cb: ∀ c∈sent,CB c
 fit: ∀ c∈sent,∀ p∈c.Parents,zlL p
theorem SentB.take {sent:List Commit}(h:SentB sent)(k:Nat):SentB (sent.take k):=
 ⟨Nat.le_trans (List.length_take_le' k sent) h.len,fun c hc=>h.cb c (List.mem_of_mem_take hc),fun c hc=>h.fit c (List.mem_of_mem_take hc)⟩
theorem SentB.set {sent:List Commit}(h:SentB sent){c:Commit}(hc:CB c)(hf: ∀ p∈c.Parents,zlL p)(k:Nat):SentB (sent.set k c):=
 ⟨by rw[List.length_set];exact h.len,fun d hd=>by
  rcases List.mem_or_eq_of_mem_set hd with q |q
  ·exact h.cb d q
  ·rw[q];exact hc,fun d hd=>by
  rcases List.mem_or_eq_of_mem_set hd with q |q
  ·exact h.fit d q
  ·rw[q];exact hf⟩
section
variable {x:Repo}(hr:zaf x=true){a b:Int}(ha:upB x.Commits.length a=true)(hb:upB x.Commits.length b=true)
include hr ha
include hb
end
theorem zqB {t:List File}(h:TB t)(p:Str):zgJ t p=some (getT t p):=by
 have hm:=h.maxi
 unfold zgJ getT
 simp only[jn,zal]
 rw[zcb (p:=fun f:File=>f.Path==p) (xs:=t) (r:=fun f=>some (f.Text,true)) (Z:=some ([],false)) (f:=fun m k=>zc2 t p _ m [] false k) (fun m i x hx=>by
  have hf:=h.at_ hx
  simp only[zc2,zam hx,zac hx,aD,aA,za4 hf.len,zab (zaq hx) hm]) (fun m=>by simp only[zc2,zad,aC]) (by omega)]
 cases t.find? (fun f=>f.Path==p)<;>rfl
section
variable {r:Repo}(h:RpB r)(hr:zaf r=true){a:Nat}(ha:a<r.Commits.length)
include h hr ha
end
theorem zm7 {t:List File}(h:zaA t=true):t.Pairwise fun x y=>x.Path<y.Path:=by
 unfold zaA at h
 simp only[aG]at h
 have hb: ∀ i,i<t.length->zfd t i=true:=fun i hi=>by
  have:=zaV.1 h.2 i (Nat.zero_le _) (by omega)
  unfold zfe at this
  simp only[aG]at this
  exact this.1
 refine List.pairwise_iff_getElem.2 fun i j hi hj hij=>?_
 have:=ziY hb hij hj
 rwa [zbo (aB hi),zbo (aB hj)]at this
theorem zrN {t:List File}(h:t.Pairwise fun x y=>x.Path<y.Path){f:File}(hf:f∈t):getT t f.Path=(f.Text,true):=by
 unfold getT
 cases hg:t.find? (fun g=>g.Path==f.Path)with
 |none=>exact absurd (List.find?_eq_none.1 hg f hf) (by simp)
 |some g=>
  have hgm:=List.mem_of_find?_eq_some hg
  have he:g.Path=f.Path:=by simpa using List.find?_some hg
  obtain⟨i,hi,rfl⟩:=List.getElem_of_mem hf
  obtain⟨j,hj,rfl⟩:=List.getElem_of_mem hgm
  have hp:=List.pairwise_iff_getElem.1 h
  rcases Nat.lt_trichotomy i j with q |q |q
  ·have:=hp i j hi hj q
   rw[he]at this
   exact absurd this (zaj _)
  ·subst q;rfl
  ·have:=hp j i hj hi q
   rw[he]at this
   exact absurd this (zaj _)
theorem zcS {α:Type}{f:α->Nat}{c:Nat}: ∀ {t:List α},(∀ s∈t,f s<=c)->sumB f t<=c*t.length
 | [],_=>by simp[sumB]
 |x::t,h=>by
  have h1:=h x (by simp)
  have h2:=zcS (t:=t) (fun s hs=>h s (by simp[hs]))
  simp only[sumB,aL,Nat.mul_add,Nat.mul_one]
  omega
theorem zlp {t:List Str}(h:zap t=true):Bk.bulk t<=130:=by
 have hl:=zan h
 have hs:sumB Bk.bulk t<=12*t.length:=zcS fun s hs=>by
  have:=zgt (zaH h s hs)
  show s.length<=12
  omega
 show t.length+sumB Bk.bulk t<=130
 omega
theorem zlq {t:List File}(h:zaA t=true):Bk.bulk t<=1208:=by
 have hl:=zat h
 have hs:sumB Bk.bulk t<=150*t.length:=zcS fun f hf=>by
  have h1:=zeD (zca h hf)
  have h2:=zlp (zai h f hf)
  show f.Path.length+Bk.bulk f.Text<=150
  omega
 show t.length+sumB Bk.bulk t<=1208
 omega
theorem zl8 {r:Repo}(h:zaf r=true){c:Commit}(hc:c∈r.Commits):c.Parents.length<=2/\(∀ p∈c.Parents,0<=p/\p<=16)/\zaI c.Who=true/\zaA c.Tree=true:=by
 obtain⟨i,hi⟩:=List.mem_iff_getElem?.1 hc
 have hil:=zaq hi
 have s1:=(zag h).1
 have:=zeB h (i:=i) (by omega)
 rw[zdn hi]at this
 unfold zjr at this
 simp only[aG,decide_eq_true_eq,List.all_eq_true]at this
 refine⟨by omega,fun p hp=>?_,this.2.2.2.1,this.2.2.2.2⟩
 have h1:=this.1 p hp
 unfold upB at h1
 simp only[aG,decide_eq_true_eq]at h1
 omega
theorem zlr {r:Repo}(h:zaf r=true):Bk.bulk r<=20000:=by
 obtain⟨s1,s2⟩:=zag h
 have h1:sumB Bk.bulk r.Commits<=1218*r.Commits.length:=zcS fun c hc=>by
  obtain⟨c1,_,c3,c4⟩:=zl8 h hc
  have:=zcj c3
  have:=zlq c4
  have hp:sumB Bk.bulk c.Parents<=0*c.Parents.length:=zcS fun p hp=>Nat.le_refl 0
  show c.Parents.length+sumB Bk.bulk c.Parents+(c.Who.length+Bk.bulk c.Tree)<=1218
  omega
 have h2:sumB Bk.bulk r.Heads<=6*r.Heads.length:=zcS fun x hx=>by
  have:=zcj (zfB h hx).2.2
  show x.Name.length+0<=6
  omega
 show r.Commits.length+sumB Bk.bulk r.Commits+(r.Heads.length+sumB Bk.bulk r.Heads)<=20000
 omega
theorem zls {t:List File}(h:zaA t=true):Bk.fit t:=⟨by have:=zat h;unfold maxi;omega,fun f hf=>⟨by have:=zeD (zca h hf);show f.Path.length<=maxi;unfold maxi;omega,by
 have h1:=zai h f hf
 have h2:=zan h1
 exact zbw (by omega) (zaH h1)⟩⟩
theorem zlt {r:Repo}(h:zaf r=true):Bk.fit r:=by
 obtain⟨s1,s2⟩:=zag h
 refine⟨⟨by unfold maxi;omega,fun c hc=>?_⟩,by unfold maxi;omega,fun x hx=>?_⟩
 ·obtain⟨c1,c2,c3,c4⟩:=zl8 h hc
  refine⟨⟨by unfold maxi;omega,fun p hp=>?_⟩,by have:=zcj c3;show c.Who.length<=maxi;unfold maxi;omega,zls c4⟩
  have:=c2 p hp
  show -9223372036854775808<=p/\p<=9223372036854775807
  omega
 ·obtain⟨h1,h2,h3⟩:=zfB h hx
  refine⟨by have:=zcj h3;show x.Name.length<=maxi;unfold maxi;omega,?_⟩
  show -9223372036854775808<=x.At/\x.At<=9223372036854775807
  omega
theorem zgr.lt {l:List Int}(h:zgr l){i k:Nat}(hik:i<k)(hk:k<l.length):l.getD i 0<l.getD k 0:=by
 have h1:i<l.length:=by omega
 have:=List.pairwise_iff_getElem.1 h i k h1 hk hik
 rw[zck (aB h1),zck (aB hk)]
 exact this
theorem zgr.inj {l:List Int}(h:zgr l){i k:Nat}(hi:i<l.length)(hk:k<l.length)(e:l.getD i 0=l.getD k 0):i=k:=by
 rcases Nat.lt_trichotomy i k with h1 |h1 |h1
 ·have:=h.lt h1 hk;omega
 ·exact h1
 ·have:=h.lt h1 hi;omega
theorem zj9 (r:Repo)(a b:Int):zgr (zda r a b):=(zhv r a).sublist List.filter_sublist
theorem zeU {r:Repo}{a b x:Int}:x∈zda r a b↔x∈zbn r a/\x∈zbn r b:=by
 unfold zda
 rw[List.mem_filter,zbq]
theorem zpp {l:List Int}(h:zgr l)(p:Nat->Bool):zgr (zmO p l):=by
 unfold zgr zmO
 rw[List.pairwise_map]
 refine List.Pairwise.imp_of_mem (fun {i k} hi hk hlt=>?_) ((zj6 l.length).sublist List.filter_sublist)
 exact h.lt hlt (List.mem_range.1 (List.mem_filter.1 hk).1)
theorem zjt (r:Repo)(a b:Int):zgr (za8 r a b):=zpp (zj9 r a b) _
theorem zjH {l:List Int}{x:Int}:x∈l ↔ ∃ i,i<l.length/\l.getD i 0=x:=by
 constructor
 ·intro h
  obtain⟨i,hi⟩:=List.getElem?_of_mem h
  exact⟨i,(List.getElem?_eq_some_iff.1 hi).1,zck hi⟩
 ·rintro⟨i,hi,rfl⟩
  rw[zck (aB hi)]
  exact List.getElem_mem hi
theorem zic {r:Repo}{a b x:Int}:x∈za8 r a b↔x∈zda r a b /\ ∀ y∈zda r a b,y≠x->x∉zbn r y:=by
 have hasc:=zj9 r a b
 unfold za8 zmO
 rw[List.mem_map]
 constructor
 ·rintro⟨i,hi,rfl⟩
  rw[List.mem_filter,List.mem_range]at hi
  obtain⟨hil,hb⟩:=hi
  unfold znr at hb
  rw[zaV]at hb
  refine⟨zjH.2 ⟨i,hil,rfl⟩,fun y hy hne hx=>?_⟩
  obtain⟨k,hk,rfl⟩:=zjH.1 hy
  have:=hb k (Nat.zero_le _) (by omega)
  rw[zbq.2 hx,aK,Bool.or_false,beq_iff_eq]at this
  exact hne (by rw[show k=i by omega])
 ·rintro⟨hm,hall⟩
  obtain⟨i,hi,rfl⟩:=zjH.1 hm
  refine⟨i,List.mem_filter.2 ⟨List.mem_range.2 hi,?_⟩,rfl⟩
  unfold znr
  rw[zaV]
  intro k _ hk
  have hkl:k< (zda r a b).length:=by omega
  cases hki:((k:Int)==(i:Int))with
  |true=>rfl
  |false=>
   have hne:k≠i:=fun e=>by rw[e]at hki;simp at hki
   have:=hall _ (zjH.2 ⟨k,hkl,rfl⟩) (fun e=>hne (hasc.inj hkl hi e))
   cases hq:zfS (zbn r ((zda r a b).getD k 0)) ((zda r a b).getD i 0)with
   |false=>rfl
   |true=>exact absurd (zbq.1 hq) this
theorem zpO (r:Repo)(a b:Int):za8 r b a=za8 r a b:=by
 have hb: ∀ x,x∈zda r b a↔x∈zda r a b:=fun x=>by rw[zeU,zeU];exact And.comm
 refine zgr.ext (zjt _ _ _) (zjt _ _ _) fun x=>?_
 rw[zic,zic,hb]
 exact and_congr Iff.rfl ⟨fun h y hy=>h y ((hb y).2 hy),fun h y hy=>h y ((hb y).1 hy)⟩
def zk1 (x y:List Bool)(n:Nat):List Bool:=(List.range n).map fun i=>x.getD i false&&y.getD i false
theorem zqC (x y:List Bool)(n i:Nat)(hi:i<n):((List.range i).map (fun i=>x.getD i false&&y.getD i false)++List.replicate (n-i) false).set i (x.getD i false&&y.getD i false)=(List.range (i+1)).map (fun i=>x.getD i false&&y.getD i false)++List.replicate (n-(i+1)) false:=by
 obtain⟨k,hk⟩: ∃ k,n-i=k+1:=⟨n-i-1,by omega⟩
 rw[hk,show n-(i+1)=k by omega,List.set_append_right _ _ (by simp),List.length_map,List.length_range,Nat.sub_self,List.replicate_succ,List.set_cons_zero,List.range_succ,List.map_append,List.append_assoc]
 rfl
theorem zmc {x y q:List Bool}{n:Nat}(hx:x.length=n)(hy:y.length=n)(hq:q.length=n)(hn:n<=1000){F:List Bool->Option (List Int)}: ∀ (k i m:Nat),i+k=n->k<m->
 zcy x y q (fun _ z=>F z) m (i:Int) ((List.range i).map (fun i=>x.getD i false&&y.getD i false)++List.replicate (n-i) false)=F (zk1 x y n)
 |k,i,0,_,hm=>by omega
 |0,i,m+1,hi,_=>by
  obtain rfl:i=n:=by omega
  simp only[zcy,hq,zad,aC,Nat.sub_self,List.replicate_zero,List.append_nil]
  rfl
 |k+1,i,m+1,hi,hm=>by
  have hlt:i<n:=by omega
  have hl:((List.range i).map (fun i=>x.getD i false&&y.getD i false)++List.replicate (n-i) false).length=n:=by simp;omega
  have ih:=zmc hx hy hq hn (F:=F) k (i+1) m (by omega) (by omega)
  rw[<- zqC x y n i hlt]at ih
  simp only[zcy,hq]
  rw[aF (show(i:Int)< (n:Int) by omega),aD,zcZ (by omega),aA]
  have hsi: ∀ v,siM ((List.range i).map (fun i=>x.getD i false&&y.getD i false)++List.replicate (n-i) false) (i:Int) v=some (((List.range i).map (fun i=>x.getD i false&&y.getD i false)++List.replicate (n-i) false).set i v):=fun v=>zbJ (by omega) v
  have hg:=zcZ (mk:=(List.range i).map (fun i=>x.getD i false&&y.getD i false)++List.replicate (n-i) false) (i:=i) (by omega)
  rw[zcZ (show i<y.length by omega)]
  simp only[aA,hg,hsi,zab hlt (show n<=maxi by unfold maxi;omega)]
  cases hxi:x.getD i false with
  |true=>
   rw[hxi,Bool.true_and]at ih
   exact ih
  |false=>
   rw[hxi,Bool.false_and]at ih
   exact ih
def zm8 (u:Int)(mk:List Bool)(p:Int):List Bool:=bif p !=u then mk.set p.toNat false else mk
theorem zka (u:Int): ∀ (ps:List Int) (mk:List Bool),(∀ p∈ps,0<=p)->(ps.foldl (zm8 u) mk).length=mk.length /\ ∀ j,j<mk.length->(ps.foldl (zm8 u) mk).getD j false=(mk.getD j false && !(zfS ps (j:Int) && !((j:Int)==u)))
 | [],mk,_=>⟨rfl,fun j _=>by simp[zfS]⟩
 |p::ps,mk,hp=>by
  have hl:(zm8 u mk p).length=mk.length:=by unfold zm8;cases(p !=u)<;>simp
  obtain⟨e1,e2⟩:=zka u ps (zm8 u mk p) (fun q hq=>hp q (List.mem_cons_of_mem _ hq))
  rw[List.foldl_cons]
  refine⟨e1.trans hl,fun j hj=>?_⟩
  have hp0:=hp p (by simp)
  rw[e2 j (by omega)]
  have hh:zfS (p::ps) (j:Int)=((p==(j:Int))||zfS ps (j:Int)):=rfl
  rw[hh]
  have hs:(zm8 u mk p).getD j false=(mk.getD j false && !((p==(j:Int)) && !((j:Int)==u))):=by
   unfold zm8
   by_cases e:p=(j:Int)
   ·subst e
    cases hu:((j:Int)==u)with
    |true=>simp[bne,hu]
    |false=>simp[bne,hu,List.getD,hj]
   ·rw[beq_false_of_ne e,Bool.false_and,Bool.not_false,Bool.and_true]
    cases(p !=u)with
    |false=>rfl
    |true=>
     rw[aD]
     simp only[List.getD,List.getElem?_set_ne (show p.toNat≠j by omega)]
  rw[hs]
  cases mk.getD j false<;>cases(p==(j:Int))<;>cases zfS ps (j:Int)<;>cases((j:Int)==u)<;>rfl
def zk2 (r:Repo)(ls:List Int)(mk:List Bool):List Bool:=ls.foldl (fun mk u=>(zbn r u).foldl (zm8 u) mk) mk
theorem zhU (r:Repo): ∀ (ls:List Int) (mk:List Bool),(zk2 r ls mk).length=mk.length /\ ∀ j,j<mk.length->(zk2 r ls mk).getD j false=(mk.getD j false&&ls.all fun u=> !(zfS (zbn r u) (j:Int) && !((j:Int)==u)))
 | [],mk=>⟨rfl,fun j _=>by simp[zk2]⟩
 |u::ls,mk=>by
  obtain⟨f1,f2⟩:=zka u (zbn r u) mk (fun p hp=>(zbH hp).1)
  obtain⟨e1,e2⟩:=zhU r ls ((zbn r u).foldl (zm8 u) mk)
  refine⟨e1.trans f1,fun j hj=>?_⟩
  refine(e2 j (by omega)).trans ?_
  rw[f2 j hj,List.all_cons,Bool.and_assoc]
theorem zog {r:Repo}(hr:zaf r=true){a b:Int}(ha:upB r.Commits.length a=true)(hb:upB r.Commits.length b=true):zjl (zk1 (zaw r a.toNat) (zaw r b.toNat) r.Commits.length)=zda r a b /\ ∀ j,j<r.Commits.length->(zk1 (zaw r a.toNat) (zaw r b.toNat) r.Commits.length).getD j false=zfS (zda r a b) (j:Int):=by
 obtain⟨a0,a1⟩:=zax.1 ha
 obtain⟨b0,b1⟩:=zax.1 hb
 have hg: ∀ j,j<r.Commits.length->(zk1 (zaw r a.toNat) (zaw r b.toNat) r.Commits.length).getD j false=((zaw r a.toNat).getD j false&&(zaw r b.toNat).getD j false):=fun j hj=>by
  unfold zk1
  rw[List.getD,List.getElem?_map,List.getElem?_range hj]
  rfl
 have hm: ∀ j,j<r.Commits.length->((zk1 (zaw r a.toNat) (zaw r b.toNat) r.Commits.length).getD j false=true↔ (j:Int)∈zda r a b):=fun j hj=>by
  rw[hg j hj,aG,zeU,zcv hr a0 a1,zcv hr b0 b1,Int.toNat_natCast]
  have h1:=zdS hr (show a.toNat<r.Commits.length by omega) j
  have h2:=zdS hr (show b.toNat<r.Commits.length by omega) j
  unfold mkd at h1 h2
  rw[h1,h2]
  exact⟨fun h=>⟨⟨Int.natCast_nonneg j,h.1⟩,Int.natCast_nonneg j,h.2⟩,fun h=>⟨h.1.2,h.2.2⟩⟩
 have hlen:(zk1 (zaw r a.toNat) (zaw r b.toNat) r.Commits.length).length=r.Commits.length:=by unfold zk1;simp
 refine⟨zgr.ext (zh3 _) (zj9 _ _ _) fun x=>?_,fun j hj=>?_⟩
 ·rw[zkt]
  constructor
  ·rintro⟨hx,h⟩
   have hlt:=zkR h
   have:=(hm x.toNat (by omega)).1 h
   rwa [Int.toNat_of_nonneg hx]at this
  ·intro h
   have hxm:=zbH (zeU.1 h).1
   refine⟨hxm.1,(hm x.toNat (by omega)).2 ?_⟩
   rwa [Int.toNat_of_nonneg hxm.1]
 ·apply zd4
  rw[hm j hj,zbq]
theorem zoh {r:Repo}(hr:zaf r=true){a b:Int}(ha:upB r.Commits.length a=true)(hb:upB r.Commits.length b=true):zjl (zk2 r (zda r a b) (zk1 (zaw r a.toNat) (zaw r b.toNat) r.Commits.length))=za8 r a b:=by
 obtain⟨_,c2⟩:=zog hr ha hb
 have hlen:(zk1 (zaw r a.toNat) (zaw r b.toNat) r.Commits.length).length=r.Commits.length:=by unfold zk1;simp
 obtain⟨g1,g2⟩:=zhU r (zda r a b) (zk1 (zaw r a.toNat) (zaw r b.toNat) r.Commits.length)
 have key: ∀ j,j<r.Commits.length->((zk2 r (zda r a b) (zk1 (zaw r a.toNat) (zaw r b.toNat) r.Commits.length)).getD j false=true↔ (j:Int)∈za8 r a b):=fun j hj=>by
  rw[g2 j (by omega),c2 j hj,aG,zbq,List.all_eq_true,zic]
  refine and_congr Iff.rfl ⟨fun h y hy hne hx=>?_,fun h y hy=>?_⟩
  ·have:=h y hy
   rw[zbq.2 hx,beq_false_of_ne (fun e=>hne e.symm)]at this
   cases this
  ·by_cases e:(j:Int)=y
   ·rw[e];simp
   ·have:=h y hy (fun e2=>e e2.symm)
    cases hq:zfS (zbn r y) (j:Int)with
    |false=>rfl
    |true=>exact absurd (zbq.1 hq) this
 refine zgr.ext (zh3 _) (zjt _ _ _) fun x=>?_
 rw[zkt]
 constructor
 ·rintro⟨hx,h⟩
  have hlt:=zkR h
  have:=(key x.toNat (by omega)).1 h
  rwa [Int.toNat_of_nonneg hx]at this
 ·intro h
  have hxm:=zj8 h
  refine⟨hxm.1,(key x.toNat (by omega)).2 ?_⟩
  rwa [Int.toNat_of_nonneg hxm.1]
theorem zoi {r:Repo}(hr:zaf r=true){a b:Int}(ha:upB r.Commits.length a=true)(hb:upB r.Commits.length b=true):zfw r a b=some (za8 r a b):=by
 obtain⟨a0,a1⟩:=zax.1 ha
 obtain⟨b0,b1⟩:=zax.1 hb
 have hs:=(zag hr).1
 obtain⟨c1,c2⟩:=zog hr ha hb
 have hlen:(zk1 (zaw r a.toNat) (zaw r b.toNat) r.Commits.length).length=r.Commits.length:=by unfold zk1;simp
 unfold zfw
 rw[zdh hr a0 a1,aA,zdh hr b0 b1,aA,zgE (by simp[lim];omega),aA]
 simp only[jn,List.length_replicate,zal]
 have e1:=zmc (x:=zaw r a.toNat) (y:=zaw r b.toNat) (q:=List.replicate r.Commits.length false) (n:=r.Commits.length) (zbh _ _) (zbh _ _) (by simp) (by omega) (F:=fun y31=>(zb9 y31).bind fun z64=>(zbL y31).bind fun z72=>zbs r z72 (fun _ y84=>(zbL y84).bind fun z166=>some z166) (((z72.length:Int)-0).toNat+1) 0 z64) r.Commits.length 0 (r.Commits.length+1) (by omega) (by omega)
 refine(Eq.trans (by simp) e1).trans ?_
 have hcl:zb9 (zk1 (zaw r a.toNat) (zaw r b.toNat) r.Commits.length)=some (zk1 (zaw r a.toNat) (zaw r b.toNat) r.Commits.length):=by
  unfold zb9
  rw[if_pos (by rw[hlen];simp[lim];omega)]
 have hbl:(zda r a b).length<=r.Commits.length:=Nat.le_trans (List.length_filter_le _ _) (zdW r a)
 rw[hcl,aA,zhj (by omega),aA,c1,zal]
 rw[zhM (xs:=zda r a b) (g:=fun mk u=>(zbn r u).foldl (zm8 u) mk) (I:=fun mk=>mk.length=r.Commits.length) (Z:=fun mk=>(zbL mk).bind fun z=>some z) (f:=fun m i mk=>zbs r (zda r a b) _ m i mk) hlen (fun m i o mk ho hmk=>by
  have hom:=zbH (zeU.1 (aH ho)).1
  obtain⟨f1,f2⟩:=zka o (zbn r o) mk (fun p hp=>(zbH hp).1)
  refine⟨?_,f1.trans hmk⟩
  simp only[zbs,jn,zam ho,zac ho,aD,aA,zdh hr hom.1 hom.2,zhj (show(zaw r o.toNat).length<=1000 by rw[zbh];omega),zal]
  have hal:=zmw (zaw r o.toNat)
  rw[zbh]at hal
  rw[zhM (xs:=zjl (zaw r o.toNat)) (g:=zm8 o) (I:=fun mk=>mk.length=r.Commits.length) (Z:=fun mk=>zbs r (zda r a b) (fun _ y84=>(zbL y84).bind fun z166=>some z166) m (w64 ((i:Int)+1)) mk) (f:=fun m' i mk=>zcW o (zjl (zaw r o.toNat)) _ m' i mk) hmk (fun m' i' x mk' hx hmk'=>by
   have hxm:=zbH (r:=r) (a:=o) (aH hx)
   have hxl:x.toNat<mk'.length:=by omega
   have e1:gi mk' x=some (mk'.getD x.toNat false):=by
    have:=zcZ hxl
    rwa [Int.toNat_of_nonneg hxm.1]at this
   have e2:siM mk' x false=some (mk'.set x.toNat false):=by
    have:=zbJ hxl false
    rwa [Int.toNat_of_nonneg hxm.1]at this
   refine⟨?_,by unfold zm8;cases(x !=o)<;>simp[hmk']⟩
   simp only[zcW,jn,zam hx,zac hx,aD,aA,e1,e2,zab (zaq hx) (show(zjl (zaw r o.toNat)).length<=maxi by unfold maxi;omega)]
   unfold zm8
   cases(x !=o)<;>rfl) (fun m' mk' _=>by simp only[zcW,zad,aC]),zab (zaq ho) (show(zda r a b).length<=maxi by unfold maxi;omega)]
  rfl) (fun m mk _=>by simp only[zbs,zad,aC])]
 obtain⟨g1,_⟩:=zhU r (zda r a b) (zk1 (zaw r a.toNat) (zaw r b.toNat) r.Commits.length)
 rw[show(zda r a b).foldl (fun mk u=>(zbn r u).foldl (zm8 u) mk) (zk1 (zaw r a.toNat) (zaw r b.toNat) r.Commits.length)=zk2 r (zda r a b) (zk1 (zaw r a.toNat) (zaw r b.toNat) r.Commits.length) from rfl,zhj (by omega),aA,zoh hr ha hb]
theorem znG (x:Repo):(⟨x.Commits,x.Heads⟩:Repo)=x:=rfl
theorem zfn {r:Repo}(h:RpB r){a:Int}(ha:upB r.Commits.length a=true):zau r a=some (zav r a.toNat):=by
 obtain⟨a0,a1⟩:=zax.1 ha
 unfold zau
 rw[aE (by omega),aC,zdj a0 a1]
 rfl
section
variable {r:Repo}(h:RpB r)(hr:zaf r=true)
include h hr
theorem zjb:Gd False r:=⟨h,hr,fun e=>e.elim⟩
theorem zlP {a b:Int}(ha:upB r.Commits.length a=true)(hb:upB r.Commits.length b=true):zcX r a b=some (ziI r a b):=by
 have hs:=(zag hr).1
 have hl:=zmb r a b
 unfold zcX ziI
 rw[zoi hr ha hb,aA]
 cases hz:((za8 r a b).length:Int)==0 with
 |true=>rfl
 |false=>
  have hne:((za8 r a b).length:Int)≠0:=by simpa using hz
  have e:w64 (((za8 r a b).length:Int)-1)=(((za8 r a b).length-1:Nat):Int):=by rw[zah (by omega) (by omega)];omega
  have hlt:(za8 r a b).length-1< (za8 r a b).length:=by omega
  have hm:(za8 r a b).getD ((za8 r a b).length-1) 0∈za8 r a b:=by
   rw[zck (aB hlt)];exact List.getElem_mem hlt
  rw[aC,aC,e,zh6 hlt,aA,zfn h (zax.2 (zj8 hm)),aA]
end
def znI (r:Repo)(n:Str)(x:Repo):Prop:=x=r\/x=zdK\/zaf x=true
theorem znI.bulk {r x:Repo}{n:Str}(h:znI r n x):Bk.bulk x<=Bk.bulk r+20000:=by
 rcases h with h |h |h
 ·rw[h];omega
 ·rw[h];show 0+0+(0+0)<=_;omega
 ·have:=zlr h;omega
theorem znI.fit {r x:Repo}{n:Str}(hf:Bk.fit r)(h:znI r n x):Bk.fit x:=by
 rcases h with h |h |h
 ·rw[h];exact hf
 ·rw[h];exact⟨⟨by simp[zdK,maxi],by simp[zdK]⟩,by simp[zdK,maxi],by simp[zdK]⟩
 ·exact zlt h
theorem zoL (r:Repo)(a b:Int):ziI r b a=ziI r a b:=by
 unfold ziI
 rw[zpO]
section
variable {r:Repo}(h:RpB r)(hr:zaf r=true){a b:Int}(ha:upB r.Commits.length a=true)(hb:upB r.Commits.length b=true)
include h hr ha hb
end
def zkU (xs:List Str)(l h:Nat):List Str:=(xs.take h).drop l
theorem zku {xs:List Str}{l h:Nat}(hh:h<=xs.length):(zkU xs l h).length=h-l:=by
 unfold zkU
 simp
 omega
theorem zoj {xs:List Str}(ht:zap xs=true)(l h:Nat):zap (zkU xs l h)=true:=by
 unfold zap at*
 simp only[aG,Bool.not_eq_true',decide_eq_false_iff_not,List.all_eq_true]at*
 refine⟨?_,fun x hx=>ht.2 x ?_⟩
 ·have:(zkU xs l h).length<=xs.length:=by unfold zkU;simp;omega
  omega
 ·exact List.mem_of_mem_take (List.mem_of_mem_drop hx)
def zh9 (o b:List Str):Nat->List Int->Nat->Nat->List Hunk
 |_,[],_,_=>[]
 |i,m::ms,f,k=>bif decide (m<0) then zh9 o b (i+1) ms f k else(bif decide (f<i)||decide ((k:Int)<m) then [⟨(f:Int),zkU o f i,zkU b k m.toNat⟩] else [])++zh9 o b (i+1) ms (i+1) (m.toNat+1)
def ChH:Int->List Hunk->Prop
 |_,[]=>True
 |lo,d::l=>lo<=d.At/\ChH (d.At+d.Less.length+1) l
theorem ChH.mono: ∀ {l:List Hunk} {lo lo':Int},lo'<=lo->ChH lo l->ChH lo' l
 | [],_,_,_,_=>trivial
 |d::l,_,_,h,⟨h1,h2⟩=>⟨Int.le_trans h h1,h2⟩
def zrO (n:Nat)(d:Hunk):Prop:=zap d.Less=true/\zap d.More=true/\0<d.Less.length+d.More.length/\0<=d.At/\d.At<=n
theorem zlQ {o b:List Str}(ho:zap o=true)(hb:zap b=true): ∀ (ms:List Int) (i f k:Nat),i+ms.length=o.length+1->f<=i->k<=b.length+1->Asc ((b.length:Int)+1) (k:Int) ms->
 3*(zh9 o b i ms f k).length<=(o.length+1-f)+(b.length+1-k)/\ChH (f:Int) (zh9 o b i ms f k) /\ ∀ d∈zh9 o b i ms f k,zrO o.length d
 | [],i,f,k,_,_,_,_=>⟨by simp[zh9],trivial,fun d hd=>by simp[zh9]at hd⟩
 |m::ms,i,f,k,hi,hf,hk,hA=>by
  simp only[aL]at hi
  unfold zh9
  rcases hA with ⟨h1,h2⟩ |⟨h1,h2,h3⟩
  ·rw[aF (show m<0 by omega),aD]
   exact zlQ ho hb ms (i+1) f k (by omega) (by omega) hk h2
  ·obtain⟨n,rfl⟩:=Int.eq_ofNat_of_zero_le (show 0<=m by omega)
   rw[aE (show ¬ (n:Int)<0 by omega),aC,Int.toNat_natCast]
   obtain⟨q1,q2,q3⟩:=zlQ ho hb ms (i+1) (i+1) (n+1) (by omega) (by omega) (by omega) (by simpa using h3)
   cases hc:decide (f<i)||decide ((k:Int)< (n:Int))with
   |false=>
    rw[aC,List.nil_append]
    exact⟨by omega,q2.mono (by omega),q3⟩
   |true=>
    simp only[Bool.or_eq_true,decide_eq_true_eq]at hc
    rw[aD,List.singleton_append]
    have l1:(zkU o f i).length=i-f:=zku (by omega)
    have l2:(zkU b k n).length=n-k:=zku (by omega)
    refine⟨by simp only[aL];omega,⟨Int.le_refl _,?_⟩,fun d hd=>?_⟩
    ·show ChH ((f:Int)+((zkU o f i).length:Int)+1) _
     exact q2.mono (by rw[l1];omega)
    ·rcases List.mem_cons.1 hd with e |e
     ·rw[e]
      exact⟨zoj ho _ _,zoj hb _ _,by show 0< (zkU o f i).length+(zkU b k n).length;rw[l1,l2];omega,by show(0:Int)<=(f:Int);omega,by show(f:Int)<=_;omega⟩
     ·exact q3 d e
theorem zlz {o b:List Str}: ∀ (ms:List Int) (i f k:Nat),(∃ m∈ms,0<=m)->f<i\/(∀ m∈ms,0<=m->(k:Int)<m)->zh9 o b i ms f k≠ []
 | [],i,f,k,h,_=>by obtain⟨m,hm,_⟩:=h;simp at hm
 |m::ms,i,f,k,h,hc=>by
  unfold zh9
  by_cases hm:m<0
  ·rw[aF hm,aD]
   refine zlz ms (i+1) f k ?_ ?_
   ·obtain⟨x,hx,h0⟩:=h
    rcases List.mem_cons.1 hx with e |e
    ·omega
    ·exact⟨x,e,h0⟩
   ·rcases hc with hc |hc
    ·exact .inl (by omega)
    ·exact .inr fun x hx=>hc x (List.mem_cons_of_mem _ hx)
  ·rw[aE hm,aC]
   have:(decide (f<i)||decide ((k:Int)<m))=true:=by
    simp only[Bool.or_eq_true,decide_eq_true_eq]
    rcases hc with hc |hc
    ·exact .inl hc
    ·exact .inr (hc m (by simp) (by omega))
   rw[this]
   simp
theorem zo6 {hi:Int}: ∀ {l:List Int} {lo:Int},Asc hi lo l -> ∀ m∈l,0<=m->lo<=m
 | [],_,_,m,hm,_=>by simp at hm
 |x::l,lo,h,m,hm,h0=>by
  rcases h with ⟨h1,h2⟩ |⟨h1,h2,h3⟩
  ·rcases List.mem_cons.1 hm with e |e
   ·omega
   ·exact zo6 h2 m e h0
  ·rcases List.mem_cons.1 hm with e |e
   ·omega
   ·have:=zo6 h3 m e h0;omega
theorem zok {o b:List Str}: ∀ (u v:List Str) (i k:Nat),zh9 o b i (mtF u v k++[((k+v.length:Nat):Int)]) i k=[]->u=v
 | [],v,i,k,h=>by
  rw[zgp,List.nil_append]at h
  unfold zh9 at h
  rw[aE (by omega),aC]at h
  cases v with
  |nil=>rfl
  |cons y ys=>
   exfalso
   rw[show(decide (i<i)||decide ((k:Int)< ((k+(y::ys).length:Nat):Int)))=true by simp only[Bool.or_eq_true,decide_eq_true_eq,aL];exact .inr (by omega)]at h
   simp at h
 |x::xs,[],i,k,h=>by
  exfalso
  rw[zfl,List.cons_append]at h
  unfold zh9 at h
  rw[show decide ((-1:Int)<0)=true from rfl,aD]at h
  exact zlz _ _ _ _ ⟨((k+([]:List Str).length:Nat):Int),by simp,by omega⟩ (.inl (by omega)) h
 |x::xs,y::ys,i,k,h=>by
  rw[ze6]at h
  split at h
  ·rename_i he
   have e:x=y:=by simpa using he
   rw[List.cons_append]at h
   unfold zh9 at h
   rw[aE (by omega),aC,show(decide (i<i)||decide ((k:Int)< (k:Int)))=false by simp,aC,List.nil_append,Int.toNat_natCast]at h
   rw[e,zok xs ys (i+1) (k+1) (by rw[show k+1+ys.length=k+(y::ys).length by simp only[aL];omega];exact h)]
  ·exfalso
   split at h
   ·rw[List.cons_append]at h
    unfold zh9 at h
    rw[show decide ((-1:Int)<0)=true from rfl,aD]at h
    exact zlz _ _ _ _ ⟨((k+(y::ys).length:Nat):Int),by simp,by omega⟩ (.inl (by omega)) h
   ·refine zlz _ _ _ _ ⟨((k+(y::ys).length:Nat):Int),by simp,by omega⟩ (.inr fun m hm h0=>?_) h
    rcases List.mem_append.1 hm with e |e
    ·have:=zo6 (zet _ (x::xs) ys (k+1) (Nat.le_refl _)).1 m e h0
     omega
    ·rw[List.mem_singleton]at e
     simp only[aL]at e
     omega
def zmP (o b:List Str):List Hunk:=zh9 o b 0 (mt2 o b++[(b.length:Int)]) 0 0
theorem zo7 {o b:List Str}(ho:zap o=true)(hb:zap b=true):(zmP o b).length<=7/\ChH 0 (zmP o b)/\(∀ d∈zmP o b,zrO o.length d)/\(zmP o b=[]->o=b):=by
 have lo:=zan ho
 have lb:=zan hb
 have ha:=zd2 o b
 obtain⟨q1,q2,q3⟩:=zlQ ho hb (mt2 o b++[(b.length:Int)]) 0 0 0 (by simp[ha.2]) (Nat.le_refl _) (by omega) (Asc.snoc (by omega) (by simp) ha.1)
 refine⟨?_,q2,q3,fun h=>zok o b 0 0 (by simpa[zmP,mt2]using h)⟩
 unfold zmP
 omega
theorem zlA {p:Str}(h:zaX p=true):p≠ []:=by
 intro e
 rw[e]at h
 revert h
 decide
def toB (out:List Change)(p:Str):Bool:=out.any fun c=>c.To==p
def zml (a b:List File)(text:List Str)(out:List Change):Str:=match b.find? (fun g=>(!(getT a g.Path).2 && !toB out g.Path)&&g.Text==text)with
 |some g=>g.Path
 |none=>[]
def zlR (a b:List File)(out:List Change)(f:File):List Change:=
 bif(getT b f.Path).2 then(bif(getT b f.Path).1==f.Text then out else out++[⟨3,f.Path,[],[],zmP f.Text (getT b f.Path).1⟩])
 else bif zml a b f.Text out !=[] then out++[⟨4,f.Path,zml a b f.Text out,[],[]⟩] else out++[⟨2,f.Path,[],f.Text,[]⟩]
def ofA (a b:List File):List Change:=a.foldl (zlR a b) []
def zqb (a b:List File)(g:File):Bool:= !(getT a g.Path).2 && !toB (ofA a b) g.Path
def zsr (g:File):Change:=⟨1,g.Path,[],g.Text,[]⟩
def ofB (a b:List File):List Change:=ofA a b++(b.filter (zqb a b)).map zsr
def VC (c:Change):Prop:=zaX c.Path=true/\
 ((c.Kind=3/\c.To=[]/\c.Text=[]/\c.Patch≠ []/\c.Patch.length<=7/\ChH 0 c.Patch /\ ∀ d∈c.Patch,zrO 10 d)\/
  (c.Kind=4/\zaX c.To=true/\c.To≠c.Path/\c.Text=[]/\c.Patch=[])\/
  ((c.Kind=1\/c.Kind=2)/\c.To=[]/\zap c.Text=true/\c.Patch=[]))
def RC (c d:Change):Prop:=c.Path≠d.Path/\c.To≠d.Path/\(d.To≠ []->c.Path≠d.To/\c.To≠d.To)
section
variable {a b:List File}(ta:zaA a=true)(tb:zaA b=true)
structure InvC (a b pre:List File) (out:List Change):Prop where
 len:out.length<=pre.length
 ok: ∀ c∈out,VC c
 inA: ∀ c∈out,∃ f∈pre,f.Path=c.Path
 to: ∀ c∈out,c.To≠ []->(getT a c.To).2=false/\(getT b c.To).2=true
 diff: ∀ c∈out,getT a c.Path≠getT b c.Path
 pw:out.Pairwise RC
 all: ∀ f∈pre,getT a f.Path≠getT b f.Path -> ∃ c∈out,c.Path=f.Path
theorem zrP {text:List Str}{out:List Change}(h:zml a b text out≠ []): ∃ g∈b,g.Path=zml a b text out/\(getT a g.Path).2=false/\toB out g.Path=false:=by
 unfold zml at*
 cases hf:b.find? (fun g=>(!(getT a g.Path).2 && !toB out g.Path)&&g.Text==text)with
 |none=>rw[hf]at h;exact absurd rfl h
 |some g=>
  have:=List.find?_some hf
  simp only[aG,Bool.not_eq_true']at this
  exact⟨g,List.mem_of_find?_eq_some hf,rfl,this.1.1,this.1.2⟩
include ta tb
theorem znX {t:List File}(tt:zaA t=true){f:File}(hf:f∈t):getT t f.Path=(f.Text,true):=zrN (zm7 tt) hf
theorem zmQ {pre suf:List File}{f:File}{out:List Change}(h:InvC a b pre out)(he:pre++f::suf=a){c:Change}(hp:c.Path=f.Path)(hv:VC c)(hd:getT a f.Path≠getT b f.Path)(hto:c.To≠ []->(getT a c.To).2=false/\(getT b c.To).2=true/\toB out c.To=false):InvC a b (pre++[f]) (out++[c]):=by
 have hfa:f∈a:=by rw[<- he];simp
 have hpw:=zm7 ta
 rw[<- he]at hpw
 have hlt: ∀ g∈pre,g.Path≠f.Path:=fun g hg e=>by
  have:=(List.pairwise_append.1 hpw).2.2 g hg f (by simp)
  rw[e]at this
  exact zaj _ this
 have hfp:=zca ta hfa
 have hat:=znX ta tb ta hfa
 refine⟨by simp;exact h.len,fun x hx=>?_,fun x hx=>?_,fun x hx=>?_,fun x hx=>?_,?_,fun g hg hgd=>?_⟩
 ·rcases List.mem_append.1 hx with e |e
  ·exact h.ok x e
  ·rw[List.mem_singleton.1 e];exact hv
 ·rcases List.mem_append.1 hx with e |e
  ·obtain⟨g,hg,e2⟩:=h.inA x e
   exact⟨g,by simp[hg],e2⟩
  ·rw[List.mem_singleton.1 e];exact⟨f,by simp,hp.symm⟩
 ·rcases List.mem_append.1 hx with e |e
  ·exact h.to x e
  ·rw[List.mem_singleton.1 e];exact fun h0=>⟨(hto h0).1,(hto h0).2.1⟩
 ·rcases List.mem_append.1 hx with e |e
  ·exact h.diff x e
  ·rw[List.mem_singleton.1 e,hp];exact hd
 ·refine List.pairwise_append.2 ⟨h.pw,by simp,fun x hx y hy=>?_⟩
  rw[List.mem_singleton.1 hy]
  obtain⟨g,hg,e2⟩:=h.inA x hx
  have hga:g∈a:=by rw[<- he];simp[hg]
  have hgt:=znX ta tb ta hga
  refine⟨by rw[<- e2,hp];exact hlt g hg,fun e=>?_,fun h0=>⟨fun e=>?_,fun e=>?_⟩⟩
  ·by_cases hx0:x.To=[]
   ·rw[hx0,hp]at e;exact zlA hfp e.symm
   ·have:=(h.to x hx hx0).1
    rw[e,hp,hat]at this
    cases this
  ·have:=(hto h0).1
   rw[<- e,<- e2,hgt]at this
   cases this
  ·have:=(hto h0).2.2
   unfold toB at this
   have h2:=List.any_eq_false.1 this x hx
   rw[e]at h2
   simp at h2
 ·rcases List.mem_append.1 hg with e |e
  ·obtain⟨x,hx,e2⟩:=h.all g e hgd
   exact⟨x,by simp[hx],e2⟩
  ·rw[List.mem_singleton.1 e];exact⟨c,by simp,hp⟩
theorem zqD {pre:List File}{f:File}{out:List Change}(h:InvC a b pre out)(hd:getT a f.Path=getT b f.Path):InvC a b (pre++[f]) out:=by
 refine⟨Nat.le_trans h.len (by simp),h.ok,fun x hx=>?_,h.to,h.diff,h.pw,fun g hg hgd=>?_⟩
 ·obtain⟨g,hg,e2⟩:=h.inA x hx
  exact⟨g,by simp[hg],e2⟩
 ·rcases List.mem_append.1 hg with e |e
  ·exact h.all g e hgd
  ·rw[List.mem_singleton.1 e]at hgd;exact absurd hd hgd
theorem zqE {pre suf:List File}{f:File}{out:List Change}(h:InvC a b pre out)(he:pre++f::suf=a):InvC a b (pre++[f]) (zlR a b out f):=by
 have hfa:f∈a:=by rw[<- he];simp
 have hfp:=zca ta hfa
 have hft:=zai ta f hfa
 have hat:=znX ta tb ta hfa
 unfold zlR
 cases hb:(getT b f.Path).2 with
 |true=>
  rw[aD]
  have hbt:=za7 (zai tb) f.Path
  cases hs:(getT b f.Path).1==f.Text with
  |true=>
   have e1:(getT b f.Path).1=f.Text:=by simpa using hs
   exact zqD ta tb h (by rw[hat];exact(Prod.ext e1 hb).symm)
  |false=>
   have e1:(getT b f.Path).1≠f.Text:=fun e=>by rw[e]at hs;simp at hs
   obtain⟨d1,d2,d3,d4⟩:=zo7 hft hbt
   have hl:=zan hft
   refine zmQ ta tb h he rfl ⟨hfp, .inl ⟨rfl,rfl,rfl,fun e=>e1 (d4 e).symm,d1,d2,fun d hd=>?_⟩⟩ (fun e=>e1 (by rw[<- e,hat])) (fun h0=>absurd rfl h0)
   obtain⟨x1,x2,x3,x4,x5⟩:=d3 d hd
   exact⟨x1,x2,x3,x4,by omega⟩
 |false=>
  rw[aC]
  have hne:getT a f.Path≠getT b f.Path:=fun e=>by rw[<- e,hat]at hb;cases hb
  cases ht:zml a b f.Text out !=[]with
  |true=>
   have ht':zml a b f.Text out≠ []:=by simpa using ht
   obtain⟨g,hg,e1,e2,e3⟩:=zrP ht'
   rw[e1]at e2 e3
   have hgp:=zca tb hg
   have hgt:=znX ta tb tb hg
   rw[e1]at hgp hgt
   have hnp:zml a b f.Text out≠f.Path:=fun e=>by rw[e,hat]at e2;cases e2
   exact zmQ ta tb h he rfl ⟨hfp, .inr (.inl ⟨rfl,hgp,hnp,rfl,rfl⟩)⟩ hne (fun _=>⟨e2,by show(getT b (zml a b f.Text out)).2=true;rw[hgt],e3⟩)
  |false=>exact zmQ ta tb h he rfl ⟨hfp, .inr (.inr ⟨.inr rfl,rfl,hft,rfl⟩)⟩ hne (fun h0=>absurd rfl h0)
theorem zol: ∀ (suf pre:List File) (out:List Change),pre++suf=a->InvC a b pre out->InvC a b a (suf.foldl (zlR a b) out)
 | [],pre,out,he,h=>by rw[List.append_nil]at he;rw[<- he]at h ⊢;exact h
 |f::suf,pre,out,he,h=>zol suf (pre++[f]) _ (by rw[List.append_assoc];exact he) (zqE ta tb h he)
theorem zom:InvC a b a (ofA a b):=zol ta tb a [] [] rfl ⟨by simp,by simp,by simp,by simp,by simp, .nil,by simp⟩
theorem zlB:(ofB a b).length<=16/\(∀ c∈ofB a b,VC c)/\(ofB a b).Pairwise RC:=by
 have h:=zom ta tb
 have la:=zat ta
 have lb:=zat tb
 have hl:=h.len
 have hf: ∀ c∈(b.filter (zqb a b)).map zsr,∃ g∈b,zqb a b g=true/\c=zsr g:=fun c hc=>by
  obtain⟨g,hg,e⟩:=List.mem_map.1 hc
  obtain⟨h1,h2⟩:=List.mem_filter.1 hg
  exact⟨g,h1,h2,e.symm⟩
 refine⟨?_,fun c hc=>?_,?_⟩
 ·unfold ofB
  have:=List.length_filter_le (zqb a b) b
  simp only[List.length_append,List.length_map]
  omega
 ·rcases List.mem_append.1 hc with e |e
  ·exact h.ok c e
  ·obtain⟨g,hg,_,e2⟩:=hf c e
   rw[e2]
   exact⟨zca tb hg, .inr (.inr ⟨.inl rfl,rfl,zai tb g hg,rfl⟩)⟩
 ·refine List.pairwise_append.2 ⟨h.pw,?_,fun c hc d hd=>?_⟩
  ·refine List.pairwise_map.2 ((zm7 tb).sublist List.filter_sublist |>.imp_of_mem ?_)
   intro x y hx hy hlt
   refine⟨fun e=>?_,fun e=>?_,fun h0=>absurd rfl h0⟩
   ·have e':x.Path=y.Path:=e
    rw[e']at hlt;exact zaj _ hlt
   ·have e':[]=y.Path:=e
    exact zlA (zca tb (List.mem_filter.1 hy).1) e'.symm
  ·obtain⟨g,hg,hadd,e2⟩:=hf d hd
   rw[e2]
   unfold zqb at hadd
   simp only[aG,Bool.not_eq_true']at hadd
   refine⟨fun e=>?_,fun e=>?_,fun h0=>absurd rfl h0⟩
   ·obtain⟨f,hfa,e3⟩:=h.inA c hc
    have:=znX ta tb ta hfa
    have e':c.Path=g.Path:=e
    rw[e3,e']at this
    rw[this]at hadd
    cases hadd.1
   ·have h2:=hadd.2
    unfold toB at h2
    have h3:=List.any_eq_false.1 h2 c hc
    have e':c.To=g.Path:=e
    rw[e']at h3
    simp at h3
end
def zph (out:List Str)(c:Change):List Str:=bif c.To !=[] then zfr (zfr out c.Path) c.To else zfr out c.Path
def pathsC (l:List Change):List Str:=l.foldl zph []
theorem zqh {out:List Str}(h:Asd out)(c:Change):Asd (zph out c):=by
 unfold zph
 cases c.To !=[]with
 |true=>exact zc9 _ _
 |false=>exact zc9 _ _
theorem zrQ {out:List Str}{c:Change}{x:Str}:x∈zph out c↔x∈out\/(x=c.Path\/(c.To≠ []/\x=c.To)):=by
 unfold zph
 cases h:c.To !=[]with
 |true=>
  have h':c.To≠ []:=by simpa using h
  rw[aD,insS_mem,insS_mem]
  constructor
  ·rintro((h1 |h1) |h1)
   ·exact .inl h1
   ·exact .inr (.inl h1)
   ·exact .inr (.inr ⟨h',h1⟩)
  ·rintro(h1 |h1 |⟨_,h1⟩)
   ·exact .inl (.inl h1)
   ·exact .inl (.inr h1)
   ·exact .inr h1
 |false=>
  have h':c.To=[]:=by simpa using h
  rw[aC,insS_mem]
  constructor
  ·rintro(h1 |h1)
   ·exact .inl h1
   ·exact .inr (.inl h1)
  ·rintro(h1 |h1 |⟨h0,_⟩)
   ·exact .inl h1
   ·exact .inr h1
   ·exact absurd h' h0
theorem zon: ∀ (l:List Change) (out:List Str) (x:Str),x∈l.foldl zph out↔x∈out \/ ∃ c∈l,x=c.Path\/(c.To≠ []/\x=c.To)
 | [],out,x=>by simp
 |c::l,out,x=>by
  rw[List.foldl_cons,zon l,zrQ]
  constructor
  ·rintro((h |h) |⟨d,hd,h⟩)
   ·exact .inl h
   ·exact .inr ⟨c,by simp,h⟩
   ·exact .inr ⟨d,by simp[hd],h⟩
  ·rintro(h |⟨d,hd,h⟩)
   ·exact .inl (.inl h)
   ·rcases List.mem_cons.1 hd with e |e
    ·rw[e]at h;exact .inl (.inr h)
    ·exact .inr ⟨d,e,h⟩
theorem zmR: ∀ (l:List Change) (out:List Str),(l.foldl zph out).length<=out.length+2*l.length
 | [],out=>by simp
 |c::l,out=>by
  have h1:=zmR l (zph out c)
  have h2:(zph out c).length<=out.length+2:=by
   unfold zph
   have:=zd3 out c.Path
   have:=zd3 (zfr out c.Path) c.To
   cases c.To !=[]<;>simp only[aD,aC]<;>omega
  simp only[List.foldl_cons,aL]
  omega
theorem zmz {l:List Change}{x:Str}:x∈pathsC l ↔ ∃ c∈l,x=c.Path\/(c.To≠ []/\x=c.To):=by
 unfold pathsC
 rw[zon]
 simp
theorem zoo {a b:List File}(ta:zaA a=true)(tb:zaA b=true){x:Str}(h:x∈pathsC (ofB a b)):zaX x=true:=by
 obtain⟨c,hc,hx⟩:=zmz.1 h
 obtain⟨h1,h2⟩:=(zlB ta tb).2.1 c hc
 rcases hx with rfl |⟨h0,rfl⟩
 ·exact h1
 ·rcases h2 with h2 |h2 |h2
  ·exact absurd h2.2.1 h0
  ·exact h2.2.1
  ·exact absurd h2.2.1 h0
def zmd (v:Review)(who:Str):Bool:=who==[]||who==v.By||v.Yes.any (fun y=>y==who)
def zkb (w:Str->Str)(v:Review)(out:List Str)(p:Str):List Str:=bif zmd v (w p) then out else zfr out (w p)
def znt (w:Str->Str)(v:Review)(ps:List Str):List Str:=ps.foldl (zkb w v) []
theorem zqF {w:Str->Str}{v:Review}{out:List Str}{p x:Str}:x∈zkb w v out p↔x∈out\/(w p=x/\zmd v x=false):=by
 unfold zkb
 cases h:zmd v (w p)with
 |true=>
  rw[aD]
  exact⟨.inl,fun h1=>h1.elim id fun⟨e,h2⟩=>by rw[e,h2]at h;cases h⟩
 |false=>
  rw[aC,insS_mem]
  constructor
  ·rintro(h1 |h1)
   ·exact .inl h1
   ·exact .inr ⟨h1.symm,by rw[h1];exact h⟩
  ·rintro(h1 |⟨h1,_⟩)
   ·exact .inl h1
   ·exact .inr h1.symm
theorem zop {w:Str->Str}{v:Review}: ∀ (ps:List Str) (out:List Str) (x:Str),x∈ps.foldl (zkb w v) out↔x∈out \/ ∃ p∈ps,w p=x/\zmd v x=false
 | [],out,x=>by simp
 |p::ps,out,x=>by
  rw[List.foldl_cons,zop ps,zqF]
  constructor
  ·rintro((h |h) |⟨q,hq,h⟩)
   ·exact .inl h
   ·exact .inr ⟨p,by simp,h⟩
   ·exact .inr ⟨q,by simp[hq],h⟩
  ·rintro(h |⟨q,hq,h⟩)
   ·exact .inl (.inl h)
   ·rcases List.mem_cons.1 hq with e |e
    ·rw[e]at h;exact .inl (.inr h)
    ·exact .inr ⟨q,e,h⟩
theorem zmS {w:Str->Str}{v:Review}: ∀ (ps:List Str) (out:List Str),Asd out->Asd (ps.foldl (zkb w v) out)
 | [],_,h=>h
 |p::ps,out,h=>by
  refine zmS ps _ ?_
  unfold zkb
  cases zmd v (w p)with
  |true=>exact h
  |false=>exact zc9 _ _
theorem zoq {w:Str->Str}{v:Review}: ∀ (ps:List Str) (out:List Str),(ps.foldl (zkb w v) out).length<=out.length+ps.length
 | [],out=>by simp
 |p::ps,out=>by
  have h1:=zoq (w:=w) (v:=v) ps (zkb w v out p)
  have h2:(zkb w v out p).length<=out.length+1:=by
   unfold zkb
   have:=zd3 out (w p)
   cases zmd v (w p)<;>simp only[aD,aC]<;>omega
  simp only[List.foldl_cons,aL]
  omega
theorem zme {w:Str->Str}{v:Review}{ps:List Str}{x:Str}:x∈znt w v ps ↔ ∃ p∈ps,w p=x/\zmd v x=false:=by
 unfold znt
 rw[zop]
 simp
theorem zqG {w:Str->Str}{v:Review}{ps qs:List Str}(h: ∀ x,x∈ps↔x∈qs):znt w v ps=znt w v qs:=by
 refine Asd.ext (zmS ps [] .nil) (zmS qs [] .nil) fun x=>?_
 rw[zme,zme]
 exact⟨fun⟨p,hp,e⟩=>⟨p,(h p).1 hp,e⟩,fun⟨p,hp,e⟩=>⟨p,(h p).2 hp,e⟩⟩
theorem znu {R α σ:Type} {xs:List α} {g:σ->α->σ} {I:Nat->σ->Prop} {f:Nat->σ->Int->Option R} {Z:σ->Option R}
 (hs: ∀ m (i:Nat) x s,xs[i]? =some x->I i s->f (m+1) s (i:Int)=f m (g s x) ((i+1:Nat):Int)/\I (i+1) (g s x)) (he: ∀ m s,I xs.length s->f (m+1) s (xs.length:Int)=Z s):
 ∀ (k i m:Nat) (s:σ),i+k=xs.length->k<m->I i s->f m s (i:Int)=Z ((xs.drop i).foldl g s)/\I xs.length ((xs.drop i).foldl g s)
 |k,i,0,s,_,hm,_=>by omega
 |0,i,m+1,s,hi,_,h=>by
  obtain rfl:i=xs.length:=by omega
  rw[List.drop_length,List.foldl_nil]
  exact⟨he m s h,h⟩
 |k+1,i,m+1,s,hi,hm,h=>by
  have hlt:i<xs.length:=by omega
  obtain⟨e1,e2⟩:=hs m i xs[i] s (aB hlt) h
  rw[e1,aI hlt,List.foldl_cons]
  exact znu hs he k (i+1) m _ (by omega) (by omega) e2
theorem zde {R α σ:Type} {xs:List α} {g:σ->α->σ} {I:Nat->σ->Prop} {f:Nat->σ->Int->Option R} {Z:σ->Option R} {s:σ} (h:I 0 s)
 (hs: ∀ m (i:Nat) x s,xs[i]? =some x->I i s->f (m+1) s (i:Int)=f m (g s x) ((i+1:Nat):Int)/\I (i+1) (g s x)) (he: ∀ m s,I xs.length s->f (m+1) s (xs.length:Int)=Z s):f (xs.length+1) s 0=Z (xs.foldl g s)/\I xs.length (xs.foldl g s):=by
 have:=znu hs he xs.length 0 (xs.length+1) s (by omega) (by omega) h
 rwa [List.drop_zero]at this
theorem znv {α:Type}{ps:List α}{i:Nat}{x:α}{ms:List α}(h:ps.drop i=x::ms):ps[i]? =some x/\ps.drop (i+1)=ms:=by
 have h1:(ps.drop i)[0]? =some x:=by rw[h];rfl
 rw[List.getElem?_drop,Nat.add_zero]at h1
 refine⟨h1,?_⟩
 rw[<- List.drop_drop,h]
 rfl
theorem zor {α:Type}{ps:List α}{i:Nat}(hi:i<=ps.length)(h:ps.drop i=[]):i=ps.length:=by
 have:=List.drop_eq_nil_iff.1 h
 omega
section
variable {o b:List Str}(ho:o.length<=1000)(hb:b.length<=1000){ps:List Int}(hps:ps.length=o.length+1)
include ho hb hps
theorem zpq: ∀ (ms:List Int) (i m f k:Nat) (out:List Hunk),ps.drop i=ms->i<=ps.length->ms.length<m->f<=i->Asc ((b.length:Int)+1) (k:Int) ms->out.length+ms.length<=5000->
 zhG o b ps (fun c _ _ _=>some c) m out (f:Int) (k:Int) (i:Int)=some (out++zh9 o b i ms f k)
 |_,_,0,_,_,_,_,_,hm,_,_,_=>by omega
 | [],i,m+1,f,k,out,hd,hi,_,_,_,_=>by
  obtain rfl:=zor hi hd
  simp only[zhG,zad,aC,zh9,List.append_nil]
 |x::ms,i,m+1,f,k,out,hd,hi,hm,hf,hA,hl=>by
  obtain⟨hx,hd'⟩:=znv hd
  have hlt:=zaq hx
  simp only[aL]at hm hl
  have ih:=fun f k out hf hA hl=>zpq ms (i+1) m f k out hd' (by omega) (by omega) hf hA hl
  unfold zh9
  simp only[zhG,jn,zam hx,zac hx,aD,aA,zab hlt (show ps.length<=maxi by unfold maxi;omega)]
  rcases hA with ⟨h1,h2⟩ |⟨h1,h2,h3⟩
  ·rw[aF (show x<0 by omega),aD,aD]
   exact ih f k out (by omega) h2 (by omega)
  ·obtain⟨n,rfl⟩:=Int.eq_ofNat_of_zero_le (show 0<=x by omega)
   have e0:w64 ((n:Int)+1)=((n+1:Nat):Int):=zab (show n<b.length+1 by omega) (by unfold maxi;omega)
   have e1:decide ((f:Int)< (i:Int))=decide (f<i):=decide_eq_decide.2 (by omega)
   have s1:slM o (f:Int) (i:Int)=some (zkU o f i):=zeF (by omega) (by omega) (by omega)
   have s2:slM b (k:Int) (n:Int)=some (zkU b k n):=zeF (by omega) (by omega) (by omega)
   have l1:(zkU o f i).length=i-f:=zku (by omega)
   have l2:(zkU b k n).length=n-k:=zku (by omega)
   rw[aE (show ¬ (n:Int)<0 by omega),aC,aC,e0,e1,Int.toNat_natCast]
   have g1: ∀ (h:Hunk),apM out [h]=some (out++[h]):=fun h=>ap1 (by omega)
   have ia:=ih (i+1) (n+1) (out++[⟨(f:Int),zkU o f i,zkU b k n⟩]) (by omega) (by simpa using h3) (by simp;omega)
   have ib:=ih (i+1) (n+1) out (by omega) (by simpa using h3) (by omega)
   cases decide (f<i)with
   |true=>
    simp only[aD,Bool.true_or,s1,s2,aA,apN (show(zkU o f i).length<=1048576 by omega),apN (show(zkU b k n).length<=1048576 by omega),g1]
    rw[ia,List.append_assoc]
   |false=>
    cases decide ((k:Int)< (n:Int))with
    |true=>
     simp only[aD,aC,Bool.or_true,s1,s2,aA,apN (show(zkU o f i).length<=1048576 by omega),apN (show(zkU b k n).length<=1048576 by omega),g1]
     rw[ia,List.append_assoc]
    |false=>simp only[aC,Bool.or_self,List.nil_append];exact ib
theorem zpr: ∀ (ms:List Int) (i m f k:Nat) (out:List Hunk),ps.drop i=ms->i<=ps.length->ms.length<m->f<=i->Asc ((b.length:Int)+1) (k:Int) ms->out.length+ms.length<=5000->
 zhK o b ps (fun c _ _ _=>some c) m out (f:Int) (k:Int) (i:Int)=some (out++zh9 o b i ms f k)
 |_,_,0,_,_,_,_,_,hm,_,_,_=>by omega
 | [],i,m+1,f,k,out,hd,hi,_,_,_,_=>by
  obtain rfl:=zor hi hd
  simp only[zhK,zad,aC,zh9,List.append_nil]
 |x::ms,i,m+1,f,k,out,hd,hi,hm,hf,hA,hl=>by
  obtain⟨hx,hd'⟩:=znv hd
  have hlt:=zaq hx
  simp only[aL]at hm hl
  have ih:=fun f k out hf hA hl=>zpr ms (i+1) m f k out hd' (by omega) (by omega) hf hA hl
  unfold zh9
  simp only[zhK,jn,zam hx,zac hx,aD,aA,zab hlt (show ps.length<=maxi by unfold maxi;omega)]
  rcases hA with ⟨h1,h2⟩ |⟨h1,h2,h3⟩
  ·rw[aF (show x<0 by omega),aD,aD]
   exact ih f k out (by omega) h2 (by omega)
  ·obtain⟨n,rfl⟩:=Int.eq_ofNat_of_zero_le (show 0<=x by omega)
   have e0:w64 ((n:Int)+1)=((n+1:Nat):Int):=zab (show n<b.length+1 by omega) (by unfold maxi;omega)
   have e1:decide ((f:Int)< (i:Int))=decide (f<i):=decide_eq_decide.2 (by omega)
   have s1:slM o (f:Int) (i:Int)=some (zkU o f i):=zeF (by omega) (by omega) (by omega)
   have s2:slM b (k:Int) (n:Int)=some (zkU b k n):=zeF (by omega) (by omega) (by omega)
   have l1:(zkU o f i).length=i-f:=zku (by omega)
   have l2:(zkU b k n).length=n-k:=zku (by omega)
   rw[aE (show ¬ (n:Int)<0 by omega),aC,aC,e0,e1,Int.toNat_natCast]
   have g1: ∀ (h:Hunk),apM out [h]=some (out++[h]):=fun h=>ap1 (by omega)
   have ia:=ih (i+1) (n+1) (out++[⟨(f:Int),zkU o f i,zkU b k n⟩]) (by omega) (by simpa using h3) (by simp;omega)
   have ib:=ih (i+1) (n+1) out (by omega) (by simpa using h3) (by omega)
   cases decide (f<i)with
   |true=>
    simp only[aD,Bool.true_or,s1,s2,aA,za4 (show(zkU o f i).length<=1048576 by omega),za4 (show(zkU b k n).length<=1048576 by omega),g1]
    rw[ia,List.append_assoc]
   |false=>
    cases decide ((k:Int)< (n:Int))with
    |true=>
     simp only[aD,aC,Bool.or_true,s1,s2,aA,za4 (show(zkU o f i).length<=1048576 by omega),za4 (show(zkU b k n).length<=1048576 by omega),g1]
     rw[ia,List.append_assoc]
    |false=>simp only[aC,Bool.or_self,List.nil_append];exact ib
end
section
variable {o b:List Str}(ho:o.length<=1000)(hb:b.length<=1000)
include ho hb
theorem zrR:zmf o b=some (zmP o b):=by
 obtain⟨h1,h2⟩:=zd2 o b
 unfold zmf zmP
 rw[zgS ho hb,aA,zkO (by omega),aA]
 simp only[jn,zal]
 have:=zpq ho hb (ps:=mt2 o b++[(b.length:Int)]) (by simp[h2]) (mt2 o b++[(b.length:Int)]) 0 ((mt2 o b++[(b.length:Int)]).length+1) 0 0 [] rfl (by omega) (by omega) (by omega) (Asc.snoc (by omega) (by simp) h1) (by simp[h2];omega)
 exact this
theorem zrS:zmi o b=some (zmP o b):=by
 obtain⟨h1,h2⟩:=zd2 o b
 unfold zmi zmP
 rw[zgQ ho hb,aA,zkO (by omega),aA]
 simp only[jn,zal]
 have:=zpr ho hb (ps:=mt2 o b++[(b.length:Int)]) (by simp[h2]) (mt2 o b++[(b.length:Int)]) 0 ((mt2 o b++[(b.length:Int)]).length+1) 0 0 [] rfl (by omega) (by omega) (by omega) (Asc.snoc (by omega) (by simp) h1) (by simp[h2];omega)
 exact this
end
theorem zsv {xs:List Str}{s:Str}(h:xs.length<=maxi): ∀ (k i m:Nat) (c:Int),i+k=xs.length->k<m -> ∃ z,zbd xs s (fun _ _=>some (-1)) m c (i:Int)=some z/\decide (0<=z)=(xs.drop i).any fun y=>y==s
 |k,i,0,_,_,hm=>by omega
 |0,i,m+1,c,hi,_=>by
  obtain rfl:i=xs.length:=by omega
  refine⟨-1,by simp only[zbd,zad,aC],by simp⟩
 |k+1,i,m+1,c,hi,hm=>by
  have hlt:i<xs.length:=by omega
  have hx:xs[i]? =some xs[i]:=aB hlt
  simp only[zbd,zam hx,zac hx,aD,aA,zab hlt h]
  rw[aI hlt,List.any_cons,show(s==xs[i])=(xs[i]==s) by rw[Bool.eq_iff_iff,beq_iff_eq,beq_iff_eq];exact eq_comm]
  cases xs[i]==s with
  |true=>exact⟨(i:Int),rfl,by simp⟩
  |false=>exact zsv h k (i+1) m c (by omega) (by omega)
theorem zkc {xs:List Str}{s:Str}(h:xs.length<=maxi):zbz xs s=some (xs.any fun y=>y==s):=by
 unfold zbz zc7
 simp only[jn,zal]
 obtain⟨z,h1,h2⟩:=zsv (s:=s) h xs.length 0 (xs.length+1) 0 (by omega) (by omega)
 have h1':zbd xs s (fun _ _=>some (-1)) (xs.length+1) 0 0=some z:=h1
 rw[h1',aA,h2,List.drop_zero]
def zmm (a:List File)(text:List Str)(out:List Change)(g:File):Bool:=(!(getT a g.Path).2 && !toB out g.Path)&&g.Text==text
theorem zrT {a b:List File}{text:List Str}{out:List Change}(h:b.find? (zmm a text out)=none):zml a b text out=[]:=by
 unfold zml zmm at*
 rw[h]
theorem zrU {a b:List File}{text:List Str}{out:List Change}{g:File}(h:b.find? (zmm a text out)=some g):zml a b text out=g.Path:=by
 unfold zml zmm at*
 rw[h]
theorem znQ (out:List Change)(c:Change)(p:Str):toB (out++[c]) p=(toB out p||c.To==p):=by simp[toB]
section
variable {a b:List File}(ha:TB a)(hb:TB b)(ta:zaA a=true)(tb:zaA b=true)
include ha hb ta tb
theorem znw {text:List Str}{out:List Change}(ho:out.length<=1000)(d:Str): ∀ (k i m:Nat),i+k=b.length->k<m->
 ze1 a b text out (fun _ _=>some ([]:Str)) m d (i:Int)=some (match (b.drop i).find? (zmm a text out)with |some g=>g.Path |none=>[])
 |k,i,0,_,hm=>by omega
 |0,i,m+1,hi,_=>by
  obtain rfl:i=b.length:=by omega
  simp only[ze1,zad,aC,List.drop_length,List.find?_nil]
 |k+1,i,m+1,hi,hm=>by
  have hlt:i<b.length:=by omega
  have hx:b[i]? =some b[i]:=aB hlt
  have hm':=zai tb b[i] (List.getElem_mem hlt)
  have htl:=zan hm'
  have ih:=znw (text:=text) ho d k (i+1) m (by omega) (by omega)
  have inner: ∀ (Z:Bool->Int->Option Str) (hZ: ∀ q z z',Z q z=Z q z'),zdv b out (i:Int) Z (((out.length:Int)-0).toNat+1) true 0=Z (!toB out b[i].Path) 0:=fun Z hZ=>by
   rw[zal]
   have:=(zde (xs:=out) (g:=fun d c=>d&&(c.To !=b[i].Path)) (I:=fun _ _=>True) (Z:=fun s=>Z s 0) (f:=fun m s i'=>zdv b out (i:Int) Z m s i') (s:=true) trivial (fun m j x s hxj _=>by
    refine⟨?_,trivial⟩
    simp only[zdv,zam hxj,zac hxj,zac hx,aD,aA,zab (zaq hxj) (show out.length<=maxi by unfold maxi;omega)]
    cases s<;>rfl) (fun m s _=>by simp only[zdv,zad,aC];exact hZ _ _ _)).1
   rw[this,zof,Bool.true_and]
   congr 1
   unfold toB
   rw[List.not_any_eq_all_not]
   rfl
  rw[aI hlt,List.find?_cons]
  simp only[ze1,zam hx,zac hx,aD,aA,jn,zfm ha,zex (zak (show b[i].Text.length<=1048576 by omega)),zab hlt hb.maxi]
  rw[inner _ (fun q z z'=>rfl)]
  unfold zmm at ih ⊢
  cases(getT a b[i].Path).2<;>cases toB out b[i].Path<;>cases b[i].Text==text<;>simp only[aK,Bool.not_false,Bool.and_true,Bool.and_false,Bool.and_self,aD,aC]<;>first |exact ih |rfl
theorem zpP {text:List Str}{out:List Change}(ho:out.length<=1000):ziE a b text out=some (zml a b text out):=by
 unfold ziE
 simp only[jn,zal]
 have:=znw ha hb ta tb (text:=text) ho [] b.length 0 (b.length+1) (by omega) (by omega)
 rw[List.drop_zero]at this
 refine this.trans ?_
 unfold zml zmm
 rfl
theorem zos (out:List Change)(f:File):(zlR a b out f).length<=out.length+1:=by
 unfold zlR
 cases(getT b f.Path).2<;>cases(getT b f.Path).1==f.Text<;>cases zml a b f.Text out !=[]<;>simp
theorem znR (P:File->Bool): ∀ (gs:List File) (s:List Change),gs.foldl (fun s g=>bif P g then s++[zsr g] else s) s=s++(gs.filter P).map zsr
 | [],s=>by simp
 |g::gs,s=>by
  rw[List.foldl_cons,znR P gs,List.filter_cons]
  cases P g<;>simp
theorem zuY:zkW a b=some (ofB a b):=by
 have sa:=zat ta
 have sb:=zat tb
 have hl:=(zom ta tb).len
 unfold zkW
 simp only[jn,zal]
 have e1:=(zde (xs:=a) (g:=zlR a b) (I:=fun i (s:List Change)=>s.length<=i) (Z:=fun s=>zer a b s (fun b f=>some b) (b.length+1) s 0) (f:=fun m s i=>zhH a b (fun s _=>zer a b s (fun b f=>some b) (b.length+1) s 0) m s i) (s:=[]) (by simp) (fun m i x s hx hI=>by
  have hi:=zaq hx
  have hxa:=aH hx
  have hxt:=zan (zai ta x hxa)
  have hgt:=zan (za7 (zai tb) x.Path)
  have g1: ∀ (h:Change),apM s [h]=some (s++[h]):=fun h=>ap1 (by omega)
  refine⟨?_,by have:=zos ha hb ta tb s x;omega⟩
  simp only[zhH,jn,zam hx,zac hx,aD,aA,zab hi ha.maxi,zfm hb,zex (zak (show(getT b x.Path).1.length<=1048576 by omega)),zrR (show x.Text.length<=1000 by omega) (show(getT b x.Path).1.length<=1000 by omega),zpP ha hb ta tb (show s.length<=1000 by omega),apN (show x.Text.length<=1048576 by omega),g1]
  unfold zlR
  cases(getT b x.Path).2 with
  |true=>
   cases(getT b x.Path).1==x.Text<;>rfl
  |false=>cases zml a b x.Text s !=[]<;>rfl) (fun m s _=>by simp only[zhH,zad,aC])).1
 refine e1.trans ?_
 show zer a b (ofA a b) (fun b f=>some b) (b.length+1) (ofA a b) 0=_
 have e2:=(zde (xs:=b) (g:=fun s g=>bif zqb a b g then s++[zsr g] else s) (I:=fun i (s:List Change)=> ∃ e,s=ofA a b++e/\e.length<=i) (Z:=fun s=>some s) (f:=fun m s i=>zer a b (ofA a b) (fun b f=>some b) m s i) (s:=ofA a b) ⟨[],by simp,by simp⟩ (fun m i x s hx hI=>by
  obtain⟨e,rfl,hel⟩:=hI
  have hi:=zaq hx
  have hxb:=aH hx
  have hxt:=zan (zai tb x hxb)
  have g1: ∀ (h:Change),apM (ofA a b++e) [h]=some (ofA a b++e++[h]):=fun h=>ap1 (by simp;omega)
  have inner: ∀ (Z:Bool->Int->Option (List Change)) (hZ: ∀ q z z',Z q z=Z q z'),zfN b (ofA a b) (ofA a b++e) (i:Int) Z ((ofA a b).length+1) false 0=Z (toB (ofA a b) x.Path) 0:=fun Z hZ=>by
   have:=(zde (xs:=ofA a b) (g:=fun d c=>d||(c.To==x.Path)) (I:=fun _ _=>True) (Z:=fun s=>Z s 0) (f:=fun m s i'=>zfN b (ofA a b) (ofA a b++e) (i:Int) Z m s i') (s:=false) trivial (fun m j y s hxj _=>by
    refine⟨?_,trivial⟩
    have hxj2:(ofA a b++e)[j]? =some y:=by rw[aM (zaq hxj)];exact hxj
    simp only[zfN,zam hxj,zac hxj2,zac hx,aD,aA,zab (zaq hxj) (show(ofA a b).length<=maxi by unfold maxi;omega)]
    cases s<;>rfl) (fun m s _=>by simp only[zfN,zad,aC];exact hZ _ _ _)).1
   rw[this,znP,Bool.false_or]
   rfl
  refine⟨?_,?_⟩
  ·simp only[zer,jn,zam hx,zac hx,aD,aA,zab hi hb.maxi,zfm ha,zal,apN (show x.Text.length<=1048576 by omega),g1]
   rw[inner _ (fun q z z'=>rfl)]
   unfold zqb
   cases(getT a x.Path).2<;>cases toB (ofA a b) x.Path<;>rfl
  ·cases zqb a b x with
   |true=>exact⟨e++[zsr x],by simp,by simp;omega⟩
   |false=>exact⟨e,rfl,by omega⟩) (fun m s _=>by simp only[zer,zad,aC])).1
 refine e2.trans ?_
 rw[znR ha hb ta tb]
 rfl
def TgI (out:List Change)(tg:List Str):Prop:= ∀ p,p≠ []->(tg.any fun y=>y==p)=toB out p
def stepI (a b:List File)(s:List Change×List Str)(f:File):List Change×List Str:=(zlR a b s.1 f,bif(getT b f.Path).2 then s.2 else(bif zml a b f.Text s.1 !=[] then s.2++[zml a b f.Text s.1] else s.2))
theorem zsw {f:File}(hf:f.Text.length<=1000){out:List Change}{tg:List Str}(hT:TgI out tg)(hl:tg.length<=1000){Z:List Str->Int->Str->Str->List Str->List Hunk->Option (List Change)}{h i':Str}{j':List Str}{k':List Hunk}{g':Int}: ∀ (k i m:Nat),i+k=b.length->k<m->
 zen a b f Z m tg (i:Int) g' h i' j' k'=(match (b.drop i).find? (zmm a f.Text out)with |some g=>Z (tg++[g.Path]) 4 f.Path g.Path [] [] |none=>Z tg g' h i' j' k')
 |k,i,0,_,hm=>by omega
 |0,i,m+1,hi,_=>by
  obtain rfl:i=b.length:=by omega
  simp only[zen,zad,aC,List.drop_length,List.find?_nil]
 |k+1,i,m+1,hi,hm=>by
  have hlt:i<b.length:=by omega
  have hx:b[i]? =some b[i]:=aB hlt
  have hxb:=List.getElem_mem hlt
  have htl:=zan (zai tb b[i] hxb)
  have hpn:=zlA (zca tb hxb)
  have ih:=zsw hf hT hl (Z:=Z) (h:=h) (i':=i') (j':=j') (k':=k') (g':=g') k (i+1) m (by omega) (by omega)
  rw[aI hlt,List.find?_cons]
  simp only[zen,zam hx,zac hx,aD,aA,jn,zqB ha,zdw (zak (show b[i].Text.length<=1048576 by omega)),zkc (zak (show tg.length<=1048576 by omega)),hT _ hpn,zab hlt hb.maxi,ap1 (x:=b[i].Path) (show tg.length<=1048576 by omega)]
  unfold zmm at ih ⊢
  cases(getT a b[i].Path).2<;>cases toB out b[i].Path<;>cases b[i].Text==f.Text<;>simp only[aK,Bool.not_false,Bool.and_true,Bool.and_false,Bool.and_self,aD,aC]<;>first |exact ih |rfl
theorem tgt_both (text:List Str)(out:List Change):(∃ g,b.find? (zmm a text out)=some g/\zml a b text out=g.Path/\(zml a b text out !=[])=true)\/(b.find? (zmm a text out)=none/\zml a b text out=[]/\(zml a b text out !=[])=false):=by
 cases h:b.find? (zmm a text out)with
 |none=>
  have:=zrT h
  exact .inr ⟨rfl,this,by rw[this];rfl⟩
 |some g=>
  have:=zrU h
  refine .inl ⟨g,rfl,this,?_⟩
  rw[this,bne_iff_ne]
  exact zlA (zca tb (List.mem_of_find?_eq_some h))
theorem zrV {s:List Change×List Str}{f:File}(hT:TgI s.1 s.2):TgI (stepI a b s f).1 (stepI a b s f).2:=by
 intro p hp
 have h0:=hT p hp
 have hz:(([]:Str)==p)=false:=beq_false_of_ne (fun e=>hp e.symm)
 unfold stepI zlR
 cases(getT b f.Path).2 with
 |true=>
  simp only[aD]
  cases(getT b f.Path).1==f.Text with
  |true=>exact h0
  |false=>simp only[aC];rw[znQ,h0,hz,Bool.or_false]
 |false=>
  simp only[aC]
  cases zml a b f.Text s.1 !=[]with
  |true=>simp only[aD];rw[znQ,List.any_append,h0];simp
  |false=>simp only[aC];rw[znQ,h0,hz,Bool.or_false]
theorem zot: ∀ (xs:List File) (s:List Change×List Str),(xs.foldl (stepI a b) s).1=xs.foldl (zlR a b) s.1
 | [],s=>rfl
 |x::xs,s=>by rw[List.foldl_cons,List.foldl_cons,zot xs];rfl
theorem zuZ:zhL a b=some (ofB a b):=by
 have sa:=zat ta
 have sb:=zat tb
 have hl:=(zom ta tb).len
 unfold zhL
 simp only[jn,zal,zcH ha,zcH hb,ta,tb,aA,aK,aC]
 have e1:=zde (xs:=a) (g:=stepI a b) (I:=fun i (s:List Change×List Str)=>s.1.length<=i/\s.2.length<=i/\TgI s.1 s.2) (Z:=fun s=>zcf a b s.2 (fun e k=>some e) (b.length+1) s.1 0) (f:=fun m s i=>zeo a b (fun c d _=>zcf a b d (fun e k=>some e) (b.length+1) c 0) m s.1 s.2 i) (s:=([],[])) ⟨by simp,by simp,fun p hp=>rfl⟩ (fun m i x s hx hI=>by
  obtain⟨hI1,hI2,hI3⟩:=hI
  have hi:=zaq hx
  have hxa:=aH hx
  have hxt:=zan (zai ta x hxa)
  have hgt:=zan (za7 (zai tb) x.Path)
  have g1: ∀ (h:Change),apM s.1 [h]=some (s.1++[h]):=fun h=>ap1 (by omega)
  refine⟨?_,?_,?_,zrV ha hb ta tb hI3⟩
  ·have inner:=fun Z h i' j' k' g'=>zsw ha hb ta tb (f:=x) (show x.Text.length<=1000 by omega) hI3 (show s.2.length<=1000 by omega) (Z:=Z) (h:=h) (i':=i') (j':=j') (k':=k') (g':=g') b.length 0 (b.length+1) (by omega) (by omega)
   simp only[List.drop_zero]at inner
   simp only[zeo,jn,zam hx,zac hx,aD,aA,zab hi ha.maxi,zqB hb,zdw (zak (show(getT b x.Path).1.length<=1048576 by omega)),zrS (show x.Text.length<=1000 by omega) (show(getT b x.Path).1.length<=1000 by omega),za4 (show x.Text.length<=1048576 by omega),g1,zal]
   unfold stepI zlR
   cases(getT b x.Path).2 with
   |true=>cases(getT b x.Path).1==x.Text<;>rfl
   |false=>
    simp only[aC]
    refine(inner _ _ _ _ _ _).trans ?_
    rcases tgt_both ha hb ta tb x.Text s.1 with ⟨g,q1,q2,q3⟩ |⟨q1,q2,q3⟩
    ·rw[q1,q3]
     simp only[g1,aA,aD,q2]
    ·rw[q1,q3]
     simp only[g1,aA,aC]
  ·have:=zos ha hb ta tb s.1 x
   show(zlR a b s.1 x).length<=_
   omega
  ·unfold stepI
   cases(getT b x.Path).2<;>cases zml a b x.Text s.1 !=[]<;>simp only[aD,aC,List.length_append,aL,List.length_nil]<;>omega) (fun m s _=>by simp only[zeo,zad,aC])
 refine e1.1.trans ?_
 obtain⟨hI1,hI2,hI3⟩:=e1.2
 rw[zot ha hb ta tb]at hI1 hI3 ⊢
 generalize (a.foldl (stepI a b) ([],[])).2=tg at*
 show zcf a b tg (fun e k=>some e) (b.length+1) (ofA a b) 0=_
 have e2:=(zde (xs:=b) (g:=fun s g=>bif zqb a b g then s++[zsr g] else s) (I:=fun i (s:List Change)=>s.length<=a.length+i) (Z:=fun s=>some s) (f:=fun m s i=>zcf a b tg (fun b f=>some b) m s i) (s:=ofA a b) (by omega) (fun m i x s hx hI=>by
  have hi:=zaq hx
  have hxb:=aH hx
  have hxt:=zan (zai tb x hxb)
  have hpn:=zlA (zca tb hxb)
  have g1: ∀ (h:Change),apM s [h]=some (s++[h]):=fun h=>ap1 (by omega)
  have hT:(tg.any fun y=>y==x.Path)=toB (ofA a b) x.Path:=hI3 _ hpn
  refine⟨?_,?_⟩
  ·simp only[zcf,jn,zam hx,zac hx,aD,aA,zab hi hb.maxi,zqB ha,zkc (zak (show tg.length<=1048576 by omega)),hT,za4 (show x.Text.length<=1048576 by omega),g1]
   unfold zqb
   cases(getT a x.Path).2<;>cases toB (ofA a b) x.Path<;>rfl
  ·cases zqb a b x with
   |true=>simp;omega
   |false=>simp;omega) (fun m s _=>by simp only[zcf,zad,aC])).1
 refine e2.trans ?_
 rw[znR ha hb ta tb]
 rfl
end
theorem zsx: ∀ {l:List Hunk} {lo:Int} {i:Nat} {p d:Hunk},ChH lo l->l[i]? =some p->l[i+1]? =some d->p.At+p.Less.length+1<=d.At
 | [],_,_,_,_,_,hp,_=>by simp at hp
 |q::l,lo,0,p,d,⟨_,h2⟩,hp,hd=>by
  simp only[List.getElem?_cons_zero,Option.some.injEq]at hp
  rw[hp]at h2
  cases l with
  |nil=>simp at hd
  |cons e l=>
   simp only[Nat.zero_add,List.getElem?_cons_succ,List.getElem?_cons_zero,Option.some.injEq]at hd
   rw[<- hd]
   exact h2.1
 |q::l,lo,i+1,p,d,⟨_,h2⟩,hp,hd=>zsx h2 (by simpa using hp) (by simpa using hd)
theorem zrW {l:List Hunk}(h8:l.length<=8)(hc:ChH 0 l)(hb: ∀ d∈l,zrO 10 d):zmg l=some true:=by
 unfold zmg
 simp only[jn,zal]
 rw[zbt (n:=l.length) (g:=fun _=>true) (r0:=some false) (Z:=some (decide ((l.length:Int)<=8))) (f:=fun m i=>zhI l (fun _ _=>some (decide ((l.length:Int)<=8))) m false i) (fun m i hi=>by
  have hx:l[i]? =some l[i]:=aB hi
  obtain⟨b1,b2,b3,b4,b5⟩:=hb _ (List.getElem_mem hi)
  have l1:=zan b1
  have l2:=zan b2
  have e1:(w64 ((l[i].Less.length:Int)+(l[i].More.length:Int))==0)=false:=by
   rw[zah (by omega) (by omega),beq_eq_false_iff_ne]
   omega
  simp only[zhI,jn,zam hx,zac hx,aD,aA,zab hi (show l.length<=maxi by unfold maxi;omega),zh5 (zbw (show l[i].Less.length<=1000000 by omega) (zaH b1)),zh5 (zbw (show l[i].More.length<=1000000 by omega) (zaH b2)),b1,b2,zeQ,aK,aC,e1,aF b4,aF (show l[i].At<=10 by exact b5),Bool.and_self]
  by_cases h0:(0:Int)< (i:Int)
  ·have hy:l[i-1]? =some l[i-1]:=aB (by omega)
   obtain⟨d1,d2,d3,d4,d5⟩:=hb _ (List.getElem_mem (show i-1<l.length by omega))
   have l3:=zan d1
   have hch:=zsx hc hy (by rw[show i-1+1=i by omega];exact hx)
   have hat:l[i-1].At<=10:=d5
   rw[aF h0,aD,zji hi (show l.length<=maxi by unfold maxi;omega) h0,zac hy,aA,aA,zah (by omega) (by omega),aE (by omega)]
   rfl
  ·rw[aE h0];rfl) (fun m=>by simp only[zhI,zad,aC]) _ (by omega),zaV.2 (fun _ _ _=>rfl),aD,aF (by omega)]
theorem zrX {c:Change}(h:VC c):zld c=some true:=by
 obtain⟨hp,h⟩:=h
 have pl:=zeD hp
 unfold zld
 simp only[jn,zgV (show c.Path.length<=1048576 by omega),hp,aA,aD]
 rcases h with ⟨k,t,x,p0,p7,pc,pb⟩ |⟨k,t,tn,x,p⟩ |⟨k,t,x,p⟩
 ·have pn:0<c.Patch.length:=by
   cases hq:c.Patch with
   |nil=>exact absurd hq p0
   |cons a l=>simp
  rw[k,t,x,zrW (by omega) pc pb]
  simp only[List.length_nil,aF (show(0:Int)< (c.Patch.length:Int) by omega)]
  rfl
 ·have tl:=zeD t
  have hne:(c.To !=c.Path)=true:=by rw[bne_iff_ne];exact tn
  rw[k,x,p,zgV (show c.To.length<=1048576 by omega),t,hne]
  rfl
 ·have xl:=zan x
  rw[t,p,zh5 (zbw (show c.Text.length<=1000000 by omega) (zaH x)),x]
  rcases k with k |k<;>rw[k]<;>rfl
theorem zqH {l:List Change}{p:Str}(hl:l.length<=maxi)(h: ∀ c∈l,c.Path≠p/\c.To≠p):zjp l p=some true:=by
 unfold zjp
 simp only[jn,zal]
 rw[zbt (n:=l.length) (g:=fun _=>true) (r0:=some false) (Z:=some true) (f:=fun m i=>zfU l p (fun _ _=>some true) m false i) (fun m i hi=>by
  have hx:l[i]? =some l[i]:=aB hi
  obtain⟨h1,h2⟩:=h _ (List.getElem_mem hi)
  simp only[zfU,jn,zam hx,zac hx,aD,aA,zab hi hl,beq_false_of_ne h1,beq_false_of_ne h2,aC]) (fun m=>by simp only[zfU,zad,aC]) _ (by omega),zaV.2 (fun _ _ _=>rfl),aD]
theorem zrY {l:List Change}(hl:l.length<=16)(hv: ∀ c∈l,VC c)(hp:l.Pairwise RC):zmh l=some true:=by
 unfold zmh
 simp only[jn,zal]
 have hpw:=List.pairwise_iff_getElem.1 hp
 rw[zbt (n:=l.length) (g:=fun _=>true) (r0:=some false) (Z:=some (decide ((l.length:Int)<=16))) (f:=fun m i=>zhJ l (fun _ _=>some (decide ((l.length:Int)<=16))) m false i) (fun m i hi=>by
  have hx:l[i]? =some l[i]:=aB hi
  have hr: ∀ c∈l.take i,RC c l[i]:=fun c hc=>by
   obtain⟨j,hj,e⟩:=List.mem_iff_getElem.1 hc
   rw[List.length_take]at hj
   rw[List.getElem_take]at e
   rw[<- e]
   exact hpw j i (by omega) hi (by omega)
  have hlt:(l.take i).length<=maxi:=by rw[List.length_take];unfold maxi;omega
  have f1:=zqH (p:=l[i].Path) hlt fun c hc=>⟨(hr c hc).1,(hr c hc).2.1⟩
  simp only[zhJ,jn,zam hx,zac hx,aD,aA,zab hi (show l.length<=maxi by unfold maxi;omega),zrX (hv _ (List.getElem_mem hi)),zhb (show i<=l.length by omega),f1,aK,aC]
  cases ht:l[i].To !=[]with
  |false=>rfl
  |true=>
   have ht':l[i].To≠ []:=by simpa using ht
   have f2:=zqH (p:=l[i].To) hlt fun c hc=>(hr c hc).2.2 ht'
   rw[aD,f2]
   rfl) (fun m=>by simp only[zhJ,zad,aC]) _ (by omega),zaV.2 (fun _ _ _=>rfl),aD,aF (by omega)]
theorem zqI {l:List Change}(hl:l.length<=16)(hv: ∀ c∈l,VC c)(hp:l.Pairwise RC):zem l=some (pathsC l):=by
 unfold zem
 rw[zrY hl hv hp,aA,aK,aC]
 simp only[jn,zal]
 have:=(zde (xs:=l) (g:=zph) (I:=fun i s=>Asd s/\s.length<=2*i) (Z:=fun s=>some s) (f:=fun m s i=>zdm l (fun b _=>some b) m s i) (s:=[]) ⟨.nil,by simp⟩ (fun m i x s hx ⟨h1,h2⟩=>by
  have hi:=zaq hx
  have g1:=zd3 s x.Path
  have g2:=zd3 (zfr s x.Path) x.To
  refine⟨?_,zqh h1 x,?_⟩
  ·simp only[zdm,jn,zam hx,zac hx,aD,aA,zab hi (show l.length<=maxi by unfold maxi;omega),ziR (show s.length<=1000000 by omega) h1,ziR (show(zfr s x.Path).length<=1000000 by omega) (zc9 s x.Path)]
   unfold zph
   cases x.To !=[]<;>rfl
  ·unfold zph
   cases x.To !=[]<;>simp only[aD,aC]<;>omega) (fun m s _=>by simp only[zdm,zad,aC])).1
 exact this
def znd (c:Change):List Str:=bif c.Kind==4 then [c.Path,c.To] else [c.Path]
theorem zou {α β:Type}(f:α->List β): ∀ (l:List α) (s:List β),l.foldl (fun s c=>s++f c) s=s++l.flatMap f
 | [],s=>by simp
 |c::l,s=>by rw[List.foldl_cons,zou f l,List.flatMap_cons,List.append_assoc]
theorem zov (c:Change):(znd c).length<=2:=by unfold znd;cases c.Kind==4<;>simp
theorem zqJ {l:List Change}(hl:l.length<=16)(hv: ∀ c∈l,VC c): ∃ ps,zjd l=some ps/\ps.length<=40 /\ ∀ x,x∈ps↔x∈pathsC l:=by
 have hlen: ∀ l:List Change,(l.flatMap znd).length<=2*l.length:=by
  intro l
  induction l with
  |nil=>simp
  |cons c l ih=>
   have:=zov c
   rw[List.flatMap_cons,List.length_append,aL]
   omega
 have h1:=hlen l
 have h2:(zcg (l.flatMap znd)).length=(l.flatMap znd).length:=List.length_mergeSort _
 refine⟨zcg (l.flatMap znd),?_,by omega,fun x=>?_⟩
 ·unfold zjd
  simp only[jn,zal]
  have:=(zde (xs:=l) (g:=fun s c=>s++znd c) (I:=fun i s=>s.length<=2*i) (Z:=fun s=>(zaO s).bind fun b=>some b) (f:=fun m s i=>zfy l (fun a _=>(zaO a).bind fun b=>some b) m s i) (s:=[]) (by simp) (fun m i x s hx h2=>by
   have hi:=zaq hx
   have g1:=zov x
   refine⟨?_,by rw[List.length_append];omega⟩
   simp only[zfy,jn,zam hx,zac hx,aD,aA,zab hi (show l.length<=maxi by unfold maxi;omega),ap1 (x:=x.Path) (show s.length<=1048576 by omega),ap1 (x:=x.To) (show(s++[x.Path]).length<=1048576 by simp;omega)]
   unfold znd
   cases x.Kind==4<;>simp only[aD,aC,List.append_assoc,List.singleton_append]) (fun m s _=>by simp only[zfy,zad,aC])).1
  refine this.trans ?_
  rw[zou,List.nil_append]
  unfold zaO
  rw[if_pos (by omega),aA]
 ·rw[zh2,zmz,List.mem_flatMap]
  constructor
  ·rintro⟨c,hc,hx⟩
   obtain⟨_,hk⟩:=hv c hc
   refine⟨c,hc,?_⟩
   unfold znd at hx
   cases hq:c.Kind==4 with
   |false=>
    rw[hq,aC,List.mem_singleton]at hx
    exact .inl hx
   |true=>
    have h4:c.Kind=4:=by simpa using hq
    rw[hq,aD,List.mem_cons,List.mem_singleton]at hx
    rcases hx with hx |hx
    ·exact .inl hx
    ·rcases hk with ⟨k,_⟩ |⟨_,t,_⟩ |⟨k,_⟩
     ·omega
     ·exact .inr ⟨zlA t,hx⟩
     ·omega
  ·rintro⟨c,hc,hx⟩
   obtain⟨_,hk⟩:=hv c hc
   refine⟨c,hc,?_⟩
   unfold znd
   rcases hx with hx |⟨h0,hx⟩
   ·cases c.Kind==4<;>simp[hx]
   ·rcases hk with ⟨_,t,_⟩ |⟨k,_⟩ |⟨_,t,_⟩
    ·exact absurd t h0
    ·rw[k];simp[hx]
    ·exact absurd t h0
theorem ztj {xs:List Owner}{path:Str}(hb:OB xs)(hp:path.length<=1048576):zkf xs path=some (zlI xs path):=by
 unfold zkf
 simp only[jn,zal]
 exact zst hb hp (K:=fun y1 _ _=>some y1) xs.length 0 (xs.length+1) (0,[]) (by omega) (by omega)
section
variable {owners:List Owner}{v:Review}(hb:OB owners)(hv:v.Yes.length<=1000)
include hb hv
theorem zpQ {ps:List Str}(hps:ps.length<=1000)(hpp: ∀ p∈ps,zaX p=true):zee owners v ps (fun b _=>some b) (ps.length+1) [] 0=some (znt (zlI owners) v ps):=by
 have:=(zde (xs:=ps) (g:=zkb (zlI owners) v) (I:=fun i s=>Asd s/\s.length<=i) (Z:=fun s=>some s) (f:=fun m s i=>zee owners v ps (fun b _=>some b) m s i) (s:=[]) ⟨.nil,by simp⟩ (fun m i x s hx ⟨h1,h2⟩=>by
  have hi:=zaq hx
  have hl:=zeD (hpp x (aH hx))
  have g1:=zd3 s (zlI owners x)
  have inner: ∀ (Z:Bool->Int->Option (List Str)) (hZ: ∀ q z z',Z q z=Z q z') (j:Bool),zdV v (zlI owners x) Z (v.Yes.length+1) j 0=Z (j||v.Yes.any fun y=>y==zlI owners x) 0:=fun Z hZ j=>by
   have:=(zde (xs:=v.Yes) (g:=fun d y=>d||(y==zlI owners x)) (I:=fun _ _=>True) (Z:=fun s=>Z s 0) (f:=fun m s i'=>zdV v (zlI owners x) Z m s i') (s:=j) trivial (fun m k y s hy _=>by
    refine⟨?_,trivial⟩
    simp only[zdV,zam hy,zac hy,aD,aA,zab (zaq hy) (show v.Yes.length<=maxi by unfold maxi;omega)]
    cases s<;>rfl) (fun m s _=>by simp only[zdV,zad,aC];exact hZ _ _ _)).1
   rw[this,znP]
  refine⟨?_,?_,?_⟩
  ·simp only[zee,jn,zam hx,zac hx,aD,aA,zab hi (show ps.length<=maxi by unfold maxi;omega),ztj hb (show x.length<=1048576 by omega),zal,ziR (show s.length<=1000000 by omega) h1]
   rw[inner _ (fun q z z'=>rfl),inner _ (fun q z z'=>rfl)]
   unfold zkb zmd
   cases zlI owners x==[]<;>cases zlI owners x==v.By<;>cases(v.Yes.any fun y=>y==zlI owners x)<;>rfl
  ·unfold zkb
   cases zmd v (zlI owners x)with
   |true=>exact h1
   |false=>exact zc9 _ _
  ·unfold zkb
   cases zmd v (zlI owners x)<;>simp only[aD,aC]<;>omega) (fun m s _=>by simp only[zee,zad,aC])).1
 exact this
theorem zpR (ho:zfv owners=true){ps:List Str}(hps:ps.length<=1000)(hpp: ∀ p∈ps,zaX p=true):zdc owners v ps (fun b _=>some (b,true)) (ps.length+1) [] 0=some (znt (zlI owners) v ps,true):=by
 have:=(zde (xs:=ps) (g:=zkb (zlI owners) v) (I:=fun i s=>s.length<=i) (Z:=fun s=>some (s,true)) (f:=fun m s i=>zdc owners v ps (fun b _=>some (b,true)) m s i) (s:=[]) (by simp) (fun m i x s hx h2=>by
  have hi:=zaq hx
  have hxp:=hpp x (aH hx)
  have hl:=zeD hxp
  have g1:=zd3 s (zlI owners x)
  have eo:zpo owners x=zlI owners x:=by unfold zpo;rw[ho,hxp];rfl
  refine⟨?_,?_⟩
  ·simp only[zdc,jn,zam hx,zac hx,aD,aA,zab hi (show ps.length<=maxi by unfold maxi;omega),zo5 hb (show x.length<=1048576 by omega),eo,zkc (show v.Yes.length<=maxi by unfold maxi;omega),zpM (show s.length<=1000000 by omega)]
   unfold zkb zmd bne
   cases zlI owners x==[]<;>cases zlI owners x==v.By<;>cases(v.Yes.any fun y=>y==zlI owners x)<;>rfl
  ·unfold zkb
   cases zmd v (zlI owners x)<;>simp only[aD,aC]<;>omega) (fun m s _=>by simp only[zdc,zad,aC])).1
 exact this
end
def zrc (r:Repo)(owners:List Owner)(v:Review):Bool:=zaf r&&(zfv owners&&(zpm v&&(!decide (atB r v.Branch<0) && !decide (atB r v.Into<0))))
def chsB (r:Repo)(v:Review):List Change:=ofB (ziI r (atB r v.Into) (atB r v.Branch)) (zav r (atB r v.Branch).toNat)
def zkd (r:Repo)(owners:List Owner)(v:Review):List Str×Bool:=bif zrc r owners v then(znt (zlI owners) v (pathsC (chsB r v)),true) else([],false)
theorem zmT {r:Repo}{owners:List Owner}{v:Review}(h:zrc r owners v=true):zaf r=true/\zfv owners=true/\zpm v=true/\upB r.Commits.length (atB r v.Branch)=true/\upB r.Commits.length (atB r v.Into)=true:=by
 unfold zrc at h
 simp only[aG,Bool.not_eq_true',decide_eq_false_iff_not]at h
 obtain⟨h1,h2,h3,h4,h5⟩:=h
 have a1:=at_range h1 v.Branch
 have a2:=at_range h1 v.Into
 exact⟨h1,h2,h3,zax.2 (by omega),zax.2 (by omega)⟩
section
variable {r:Repo}(h:RpB r){owners:List Owner}(hb:OB owners){v:Review}(hv:Bk.fit v)
include h hb hv
theorem zne:zg2 r owners v=some (zkd r owners v):=by
 unfold zg2 zkd
 simp only[jn,zgq h,zoe hb,zrM hv,zhR h,aA]
 cases hc:zrc r owners v with
 |false=>
  rw[aC]
  unfold zrc at hc
  revert hc
  cases zaf r<;>cases zfv owners<;>cases zpm v<;>cases decide (atB r v.Branch<0)<;>cases decide (atB r v.Into<0)<;>intro hc<;>first |rfl |cases hc
 |true=>
  obtain⟨c1,c2,c3,c4,c5⟩:=zmT hc
  obtain⟨q0,q1⟩:=zax.1 c4
  obtain⟨i0,i1⟩:=zax.1 c5
  have hs:=(zag c1).1
  have hg:=zjb h c1
  obtain⟨e1,e2,e3⟩:=zi8 hg i0 i1 q0 q1
  obtain⟨tb,tb2,_,_⟩:=hg.tree (i:=(atB r v.Branch).toNat) (by omega)
  obtain⟨f1,f2,f3⟩:=zlB e3 tb2
  have hy:=znq c3
  have hpl:=zmR (ofB (ziI r (atB r v.Into) (atB r v.Branch)) (zav r (atB r v.Branch).toNat)) []
  have sof:zkW (ziI r (atB r v.Into) (atB r v.Branch)) (r.Commits.getD (atB r v.Branch).toNat noCommit).Tree=some (chsB r v):=zuY e2 tb e3 tb2
  rw[c1,c2,c3,aE (show ¬ atB r v.Branch<0 by omega),aE (show ¬ atB r v.Into<0 by omega)]
  simp only[aK,aC,aD]
  unfold zle zkD
  simp only[jn,zhR h,aA,zdj q0 q1,e1,sof,zal]
  rw[show zem (chsB r v)=some (pathsC (chsB r v)) from zqI f1 f2 f3]
  simp only[aA,zal]
  rw[zpQ hb (show v.Yes.length<=1000 by omega) (ps:=pathsC (chsB r v)) (by unfold chsB;show(List.foldl zph [] _).length<=_;simp only[List.length_nil]at hpl;omega) (fun p hp=>zoo e3 tb2 hp),aA]
theorem znf:zgg r owners v=some (zkd r owners v):=by
 unfold zgg zkd
 simp only[jn,zfL h,zmN hb,zo4 hv,zll h,aA]
 cases hc:zrc r owners v with
 |false=>
  rw[aC]
  unfold zrc at hc
  revert hc
  cases zaf r<;>cases zfv owners<;>cases zpm v<;>cases decide (atB r v.Branch<0)<;>cases decide (atB r v.Into<0)<;>intro hc<;>first |rfl |cases hc
 |true=>
  obtain⟨c1,c2,c3,c4,c5⟩:=zmT hc
  obtain⟨q0,q1⟩:=zax.1 c4
  obtain⟨i0,i1⟩:=zax.1 c5
  have hs:=(zag c1).1
  have hg:=zjb h c1
  obtain⟨e1,e2,e3⟩:=zi8 hg i0 i1 q0 q1
  obtain⟨tb,tb2,_,_⟩:=hg.tree (i:=(atB r v.Branch).toNat) (by omega)
  obtain⟨f1,f2,f3⟩:=zlB e3 tb2
  have hy:=znq c3
  obtain⟨ps,p1,p2,p3⟩:=zqJ f1 f2
  rw[c1,c2,c3,aE (show ¬ atB r v.Branch<0 by omega),aE (show ¬ atB r v.Into<0 by omega)]
  simp only[aK,aC,aD]
  rw[zlP h c1 c4 c5,aA,zfn h c4,aA,zoL,zuZ e2 tb e3 tb2,aA,p1,aA]
  simp only[zal]
  rw[zpR hb (show v.Yes.length<=1000 by omega) c2 (by omega) (fun p hp=>zoo e3 tb2 ((p3 p).1 hp)),zqG (qs:=pathsC (chsB r v)) p3]
end
section
variable {r:Repo}(h:RpB r){owners:List Owner}(hb:OB owners){v:Review}(hv:Bk.fit v)
include h hb hv
end
def zkK:List Str->List Str->Nat
 |a::l,b::m=>bif a==b then zkK l m+1 else 0
 |_,_=>0
def zrJ (t:List Str):List Str->Nat->Nat×Nat->Nat×Nat
 | [],_,r=>r
 |b::bs,i,r=>zrJ t bs (i+1) (bif decide (r.2<zkK (b::bs) t) then(i,zkK (b::bs) t) else r)
def znm (base t:List Str):Nat×Nat:=zrJ t base 0 (0,0)
def zn0 (out:List Delta)(x:Str):List Delta:=match out.getLast? with
 |some d=>bif decide (0<d.Lines.length) then out.dropLast++[⟨d.From,d.Many,d.Lines++[x]⟩] else out++[⟨0,0,[x]⟩]
 |none=>out++[⟨0,0,[x]⟩]
def zhS (base:List Str):Nat->List Delta->List Str->List Delta
 |0,out,_=>out
 |_+1,out,[]=>out
 |n+1,out,x::t=>bif decide (0< (znm base (x::t)).2) then zhS base n (out++[⟨(znm base (x::t)).1,(znm base (x::t)).2,[]⟩]) ((x::t).drop (znm base (x::t)).2) else zhS base n (zn0 out x) t
def zj2 (base t:List Str):List Delta:=zhS base t.length [] t
theorem who_fold (p:Str): ∀ (xs:List Owner) (b:Nat×Str),(xs.foldl (ownStep p) b).2=b.2 \/ ∃ o∈xs,(xs.foldl (ownStep p) b).2=o.Who
 | [],b=> .inl rfl
 |x::xs,b=>by
  rw[List.foldl_cons]
  rcases who_fold p xs (ownStep p b x)with h |⟨o,ho,h⟩
  ·rw[h]
   unfold ownStep
   cases(x.Path==p||za5 x.Path p)&&decide (b.1<x.Path.length)with
   |true=>exact .inr ⟨x,by simp,rfl⟩
   |false=>exact .inl rfl
  ·exact .inr ⟨o,by simp[ho],h⟩
theorem who_mem (xs:List Owner)(p:Str):zlI xs p=[] \/ ∃ o∈xs,zlI xs p=o.Who:=who_fold p xs (0,[])
theorem znx {r:Repo}(h:RpB r){owners:List Owner}{v:Review}:(zkd r owners v).1.length<=40:=by
 unfold zkd
 cases hc:zrc r owners v with
 |false=>simp
 |true=>
  obtain⟨c1,c2,c3,c4,c5⟩:=zmT hc
  obtain⟨q0,q1⟩:=zax.1 c4
  obtain⟨i0,i1⟩:=zax.1 c5
  have hg:=zjb h c1
  obtain⟨_,e2,e3⟩:=zi8 hg i0 i1 q0 q1
  obtain⟨tb,tb2,_,_⟩:=hg.tree (i:=(atB r v.Branch).toNat) (by omega)
  obtain⟨f1,_,_⟩:=zlB e3 tb2
  have h4:(chsB r v).length<=16:=f1
  generalize chsB r v=cs at h4 ⊢
  have h1:(pathsC cs).length<=([]:List Str).length+2*cs.length:=zmR cs []
  generalize pathsC cs=ps at h1 ⊢
  have h2:(znt (zlI owners) v ps).length<=([]:List Str).length+ps.length:=zoq ps []
  rw[aD]
  show(znt (zlI owners) v ps).length<=40
  simp only[List.length_nil]at h1 h2
  omega
theorem zrZ {r:Repo}(h:RpB r){owners:List Owner}(ho:Bk.fit owners){v:Review}:Bk.fit (zkd r owners v).1:=by
 have hs:=znx h (owners:=owners) (v:=v)
 refine⟨by unfold maxi;omega,fun x hx=>?_⟩
 unfold zkd at hx
 cases hc:zrc r owners v with
 |false=>rw[hc]at hx;simp at hx
 |true=>
  rw[hc,aD]at hx
  obtain⟨p,_,e,_⟩:=zme.1 hx
  rcases who_mem owners p with e2 |⟨o,hm,e2⟩
  ·rw[<- e,e2];show(0:Nat)<=maxi;omega
  ·rw[<- e,e2];exact(ho.2 o hm).2
theorem ztk (x:Review):(⟨x.Branch,x.Into,x.By,x.Yes⟩:Review)=x:=rfl
theorem zmp {repo:Repo}{owners:List Owner}{v:Review}(h:Bk.fit repo)(ho:Bk.fit owners)(hv:Bk.fit v):zev repo owners v=some true:=by
 unfold zev
 rw[znj h (by omega) (by omega),aA]
 by_cases hb:(Bk.bulk repo:Int)<=1048576
 case neg=>rw[if_neg hb];rfl
 rw[if_pos hb,aE (by omega),aC,zs6 ho (by omega) (by omega),aA]
 by_cases hb2:(Bk.bulk owners:Int)<=1048576-Bk.bulk repo
 case neg=>rw[if_neg hb2];rfl
 rw[if_pos hb2,aE (by omega),aC,zs7 hv (by omega) (by omega),aA]
 by_cases hb3:(Bk.bulk v:Int)<=1048576-Bk.bulk repo-Bk.bulk owners
 case neg=>rw[if_neg hb3];rfl
 rw[if_pos hb3,aE (by omega),aC]
 have b1:Bk.bulk repo<=1048576:=by omega
 have b2:Bk.bulk owners<=1048576:=by omega
 have b3:Bk.bulk v<=1048576:=by omega
 have hr:=RpB.of h b1
 have ob:=OB.of b2
 have hf:=zrZ hr ho (v:=v)
 have hs:=znx hr (owners:=owners) (v:=v)
 have hl:v.Yes.length<=1048576:=zch (show Bk.bulk v.Yes<=1048576 by have:Bk.bulk v=Bk.bulk v.Branch+(Bk.bulk v.Into+(Bk.bulk v.By+Bk.bulk v.Yes)):=rfl;omega)
 have c1:=zew repo
 have c2:=MkD.few_list zqa owners
 have c3:=zqz v
 have c4:=zqs (zkd repo owners v).1
 have hg:Bk.fit (zhN.list.wr 1 (zkd repo owners v).1).2:=MkD.fits_list zlH 1 _ (by omega) (by omega) hf
 have c5:=zhN.list.cnt 1 (zkd repo owners v).1
 have e2:=zhN.list.again 1 (zkd repo owners v).1
 have f1:(zaK.wr 1 repo).1=1+(zaK.cn repo:Int):=zaK.fst _ _
 have f2:(zh4.list.wr (zaK.wr 1 repo).1 owners).1=(zaK.wr 1 repo).1+(zh4.list.cn owners:Int):=zh4.list.fst _ _
 have n1:decide ((zkj.wr (zh4.list.wr (zaK.wr 1 repo).1 owners).1 v).1<0)=false:=aE (by rw[zkj.fst,f2,f1];omega)
 have n2:decide ((zhN.list.wr 1 (zkd repo owners v).1).1<0)=false:=aE (by rw[zhN.list.fst];omega)
 simp only[znk b1,zs8 b2,zs9 b3,aA,znG,ztk,zne hr ob hv,znf hr ob hv,jn,zoS hf,zjE h,zta ho,ztb hv,aO,aK,aC,bne_self_eq_false,
  zgu (x:=repo) (k:=1) (by omega) (by omega) h,zra (xs:=owners) (k:=(zaK.wr 1 repo).1) (by omega) (by omega) ho,zrb (x:=v) (k:=(zh4.list.wr (zaK.wr 1 repo).1 owners).1) (by omega) (by omega) hv,n1,znc (xs:=(zkd repo owners v).1) (k:=1) (by omega) (by omega) hf,
  zoH (zhN.list.held_wr 1 (zkd repo owners v).1) (show(0:Int)<=1 by omega) (by omega) hg,e2,n2]
def OD (n:Nat)(l:List Owner):Prop:=l.length<=n /\ ∀ o∈l,o.Path.length<=10/\o.Who.length<=10
theorem OD.ob {n:Nat}{l:List Owner}(h:OD n l)(hn:n<=1000):OB l:=⟨by have:=h.1;omega,fun o ho=>by have:=h.2 o ho;omega⟩
theorem OD.fit {n:Nat}{l:List Owner}(h:OD n l)(hn:n<=1000):Bk.fit l:=⟨by have:=h.1;unfold maxi;omega,fun o ho=>by
 have:=h.2 o ho
 exact⟨by show o.Path.length<=maxi;unfold maxi;omega,by show o.Who.length<=maxi;unfold maxi;omega⟩⟩
section
variable {base t:List Str}(hb:zap base=true)(ht:zap t=true)
include hb ht
end
def zqg (list:List (List Str))(ds:List Int)(i:Nat)(t:List Str)(b dep:Int)(d:List Delta):Prop:=(b = -1/\d=zj2 [] t/\dep=1) \/ ∃ k o dk,k<i/\b=(k:Int)/\list[k]? =some o/\ds[k]? =some dk/\d=zj2 o t/\dep=dk+1/\dk<=2
theorem zqg.snoc {list:List (List Str)}{ds:List Int}{i:Nat}{t:List Str}{b dep z:Int}{d:List Delta}(h:zqg list ds i t b dep d):zqg list (ds++[z]) i t b dep d:=by
 rcases h with h |⟨k,o,dk,h1,h2,h3,h4,h5⟩
 ·exact .inl h
 ·exact .inr ⟨k,o,dk,h1,h2,h3,by rw[aM (List.getElem?_eq_some_iff.1 h4).1];exact h4,h5⟩
section
variable {list:List (List Str)}(h12:list.length<=12)(hl: ∀ t∈list,zap t=true)
include h12 hl
end
end Go.Vm
