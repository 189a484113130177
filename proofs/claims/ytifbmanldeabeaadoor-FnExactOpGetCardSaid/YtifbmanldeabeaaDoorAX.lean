/- Plain laws of the statements' own helpers: they count bulk, copy, compare, mark; printed by a program of ours. Conditions: each law's own premises. -/
import Derived.Test.YtifbmanldeabeaaDoorALw
import Derived.Test.YtifbmanldeabeaaDoorAM0
namespace Go.Vm
open Go Go.Sx
set_option linter.unusedSimpArgs false
set_option linter.unusedVariables false
theorem zlf {xs ys:List Str}(h:Bk.fit xs):zbb xs ys=some (xs==ys):=by
 have hl:=zdE h
 unfold zbb
 simp only[zlK,jn,zcv]
 by_cases hn:xs.length=ys.length
 ·rw[hn,aO,aK,aC,<- hn]
  rw[zlJ (α:=Str) (r0:=some false) (Z:=some true) (f:=fun m i=>zax xs ys (fun _ _=>some true) m false i) hn (fun m i x y hx hy=>by
   simp only[zax,zb9 hx,zbl hx,zbl hy,aD,aA,zaU (za5 hx) hl,bne]
   cases x==y<;>rfl) (fun m=>by simp only[zax,zbf,aC]) (by omega)]
  cases xs==ys<;>rfl
 ·rw[beq_false_of_ne hn,Bool.not_false,aD,beq_false_of_ne (fun e=>hn (by rw[e]))]
theorem zrS {x y:Op}(h:Bk.fit x):zc4 x y=some (x==y):=by
 obtain⟨f0,f1,f2,f3,f4,f5,f6⟩:=h
 unfold zc4
 simp only[zlf f6,aA,bne]
 obtain⟨a0,a1,a2,a3,a4,a5,a6⟩:=x
 obtain⟨b0,b1,b2,b3,b4,b5,b6⟩:=y
 have:((⟨a0,a1,a2,a3,a4,a5,a6⟩:Op)==⟨b0,b1,b2,b3,b4,b5,b6⟩)=(a0==b0&&(a1==b1&&(a2==b2&&(a3==b3&&(a4==b4&&(a5==b5&&(a6==b6))))))):=by
  have hb: ∀ b c:Bool,(b=true↔c=true)->b=c:=by decide
  apply hb
  simp
 rw[this]
 cases a0==b0<;>cases a1==b1<;>cases a2==b2<;>cases a3==b3<;>cases a4==b4<;>cases a5==b5<;>cases a6==b6<;>rfl
theorem zrT {k:Int}(h:0<k):0<=Int.tdiv k 10/\Int.tdiv k 10<=k-1/\0<=Int.tmod k 10/\Int.tmod k 10<=9:=by
 obtain⟨n,rfl⟩:=Int.eq_ofNat_of_zero_le (show 0<=k by omega)
 have h1:Int.tdiv (n:Int) 10=((n / 10:Nat):Int):=rfl
 have h2:Int.tmod (n:Int) 10=((n % 10:Nat):Int):=rfl
 rw[h1,h2]
 omega
theorem zdG {K:Int->Str->Option Str}(hK: ∀ (k:Int) (s:Str),s.length<=1073741824 -> ∃ t,K k s=some t/\t.length<=2000000000):
 ∀ (m:Nat) (k:Int) (out:Str),0<=k->k<m->out.length+k<=1073741824 -> ∃ t,zaW K m k out=some t/\t.length<=2000000000
 |0,k,out,h0,hm,hl=>by omega
 |m+1,k,out,h0,hm,hl=>by
  simp only[zaW]
  by_cases hk:0<k
  ·obtain⟨h1,h2,h3,h4⟩:=zrT hk
   have hs:saM (([(by8 (w64 (48+(Int.tmod k 10))))]:List zdt):Str) out=some ((by8 (w64 (48+(Int.tmod k 10))))::out):=by
    unfold saM
    rw[if_pos]
    ·rfl
    ·show 1+out.length<=4294967296
     omega
   rw[aF hk,aD,hs,aA,zch (by omega) (by omega)]
   exact zdG hK m _ _ h1 (by omega) (by simp only[List.length_append,aL,List.length_nil];omega)
  ·rw[aE hk,aC]
   exact hK k out (by omega)
/-- The text of a mark. -/
def mt (k:Int):Str:=((zay k).getD []).take 2000000000
theorem zgH {k:Int}(h0:0<=k)(hN:k<=536870912):zay k=some (mt k):=by
 have: ∃ t,zay k=some t/\t.length<=2000000000:=by
  unfold zay
  by_cases hk:k<=0
  ·rw[aF hk];exact⟨_,rfl,by simp⟩
  ·rw[aE hk,aC]
   simp only[jn]
   refine zdG (fun k s hs=>?_) _ k _ h0 (by omega) (by simp;omega)
   refine⟨[109]++s,?_,by simp;omega⟩
   have:saM ([109]:Str) s=some ([109]++s):=by
    unfold saM
    rw[if_pos]
    simp only[aL,List.length_nil,lim]
    omega
   rw[this,aA]
 obtain⟨t,ht,hl⟩:=this
 unfold mt
 rw[ht]
 show some t=some (t.take 2000000000)
 rw[List.take_of_length_le hl]
def mb (k:Int):Bool:=Int.tmod k 3==0
def zcw:MkD Str:=MkD.one mt
def zrU:MkD Int:=MkD.one (fun k=>k)
def zoB:MkD Bool:=MkD.one mb
theorem zh2 (xs:List Str):zcw.list.cn xs=xs.length:=by
 show zaj (fun _=>1) xs=xs.length
 induction xs with
 |nil=>rfl
 |cons y ys ih=>simp only[zaj,ih,aL];omega
theorem zm8:zcw.Fits:=MkD.fits_one fun k _ _=>by
 show(((zay k).getD []).take 2000000000).length<=maxi
 rw[List.length_take]
 unfold maxi
 omega
theorem zrV:zrU.Fits:=MkD.fits_one fun k h0 hN=>⟨by omega,by omega⟩
theorem zqx:zoB.Fits:=MkD.fits_one fun _ _ _=>trivial
theorem zm9:zcw.Few 1:=MkD.few_one
theorem zrW:zrU.Few 1:=MkD.few_one
theorem zqy:zoB.Few 1:=MkD.few_one
def zcD:MkD Op:=MkD.via (MkD.pair MkD.keep (MkD.pair MkD.keep (MkD.pair MkD.keep (MkD.pair MkD.keep (MkD.pair MkD.keep (MkD.pair MkD.keep zcw.list)))))) (fun x=>(x.Kind,(x.Branch,(x.Who,(x.Path,(x.To,(x.At,x.Text))))))) (fun p=>⟨p.1,p.2.1,p.2.2.1,p.2.2.2.1,p.2.2.2.2.1,p.2.2.2.2.2.1,p.2.2.2.2.2.2⟩) (fun _=>rfl)
theorem zi3:zcD.Fits:=MkD.fits_via (MkD.fits_pair MkD.fits_keep (MkD.fits_pair MkD.fits_keep (MkD.fits_pair MkD.fits_keep (MkD.fits_pair MkD.fits_keep (MkD.fits_pair MkD.fits_keep (MkD.fits_pair MkD.fits_keep (MkD.fits_list zm8))))))) (fun _ h=>h) (fun _ h=>h)
theorem zrX:zcD.Few 1:=MkD.few_via (MkD.few_pair MkD.few_keep (MkD.few_pair MkD.few_keep (MkD.few_pair MkD.few_keep (MkD.few_pair MkD.few_keep (MkD.few_pair MkD.few_keep (MkD.few_pair MkD.few_keep (MkD.few_list zm9))))))) (fun _=>rfl)
theorem zi4 {xs:List Str}{k:Int}(h0:0<=k)(hN:k+zcw.list.cn xs<=536870912)(hf:Bk.fit xs):zaF xs k=some (zcw.list.wr k xs):=by
 unfold zaF
 simp only[jn,zcv]
 rw[zif (xs:=xs) (g:=zcw.wr) (b:=zcw.cn) (N:=536870912) (Z:=fun k out=>some (k,out)) (f:=fun m k i out=>zan (fun y1 _ y3=>some (y1,y3)) m k i out) zcw.fst (fun m k i x out hx ho hlen hk hkN=>by
  have hi:=za5 hx
  have hi':i<out.length:=by omega
  have ei:=zaU hi (zdE hf)
  have hc:k+1<=536870912:=hkN
  simp only[zan,zb9 ho,aD,aA,zbl ho,zgU hi',zbl (setAt hi'),zgU (show i< (out.set i _).length by simpa using hi'),List.set_set,ei,zgH hk (by omega),zch (show -9223372036854775808<=k+1 by omega) (show k+1<=9223372036854775807 by omega)]
  try rfl) (fun m k out hl=>by
  simp only[zan,<- hl,zbf,aC]) (by omega) h0 hN]
 rfl
theorem zna {x:Op}{k:Int}(hk:0<=k)(hkN:k+zcD.cn x<=536870912)(hf:Bk.fit x):zcB x k=some (zcD.wr k x):=by
 unfold zcB
 have hc:zcD.cn x=0+(0+(0+(0+(0+(0+(zcw.list.cn x.Text)))))):=rfl
 have e6:=zcw.list.fst (k) x.Text
 obtain⟨f0,f1,f2,f3,f4,f5,f6⟩:=hf
 simp only[aA,zi4 (k:=k) (show 0<=k by omega) (show k+zcw.list.cn x.Text<=536870912 by omega) f6]
 try rfl
theorem zi5 {xs:List Str}{k:Int}(hH:zcw.list.Held k xs)(h0:0<=k)(hN:k+zcw.list.cn xs<=536870912)(hf:Bk.fit xs):zaX xs k=some (zcw.list.wr k xs).1:=by
 have hh:=MkD.list_held zcw hH
 unfold zaX
 simp only[jn,zcv]
 rw[zig (xs:=xs) (q:=zcw.Held) (b:=zcw.cn) (N:=536870912) (Z:=fun k=>some k) (f:=fun m k i=>zao xs (fun y1 _ _=>some y1) m k 0 i) (fun m k i x hx hq hk hkN=>by
  have hi:=za5 hx
  have ei:=zaU hi (zdE hf)
  rw[<- zcw.fst k x]
  have hc:k+1<=536870912:=hkN
  have q0:mt k=x:=hq
  simp only[zao,zb9 hx,aD,aA,zbl hx,ei,bne_self_eq_false,aC,zgH hk (by omega),q0,zch (show -9223372036854775808<=k+1 by omega) (show k+1<=9223372036854775807 by omega)]
  try rfl) (fun m k=>by
  simp only[zao,zbf,aC]) (by omega) h0 hN hh,zcw.list.fst]
 rfl
theorem znb {x:Op}{k:Int}(hq:zcD.Held k x)(hk:0<=k)(hkN:k+zcD.cn x<=536870912)(hf:Bk.fit x):zce x k=some (zcD.wr k x).1:=by
 unfold zce
 have hc:zcD.cn x=0+(0+(0+(0+(0+(0+(zcw.list.cn x.Text)))))):=rfl
 have e6:=zcw.list.fst (k) x.Text
 obtain⟨f0,f1,f2,f3,f4,f5,f6⟩:=hf
 have q6:zcw.list.Held (k) x.Text:=congrArg Op.Text hq
 simp only[aA,bne_self_eq_false,aC,zi5 q6 (show 0<=k by omega) (show k+zcw.list.cn x.Text<=536870912 by omega) f6,aE (show ¬ (zcw.list.wr (k) x.Text).1<0 by omega)]
 try rfl
end Go.Vm
