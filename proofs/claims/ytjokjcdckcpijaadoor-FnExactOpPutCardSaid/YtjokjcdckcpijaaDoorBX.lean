/- Plain laws of the statements' own helpers: they count bulk, copy, compare, mark; printed by a program of ours. Conditions: each law's own premises. -/
import Derived.Test.YtjokjcdckcpijaaDoorBLw
import Derived.Test.YtjokjcdckcpijaaDoorBM0
namespace Go.Vm
open Go Go.Sx
set_option linter.unusedSimpArgs false
set_option linter.unusedVariables false
theorem zki {xs:List Str}{n:Int}(hf:Bk.fit xs)(h0:0<=n)(hN:n<=1048576):zaQ xs n=some (if(Bk.bulk xs:Int)<=n then n-Bk.bulk xs else -1):=by
 have hl:=zdb hf
 unfold zaQ
 have hw:w64 (n-(xs.length:Int))=n-xs.length:=zcr (by unfold maxi at hl;omega) (by omega)
 have hb:(Bk.bulk xs:Int)=xs.length+sumB Bk.bulk xs:=by simp[Bk.bulk]
 simp only[hw,jn,zca]
 by_cases h:n-(xs.length:Int)<0
 ·rw[aF h,aD,if_neg (by omega)]
 ·rw[aE h,aC]
  rw[zhx (α:=Str) (xs:=xs) (b:=Bk.bulk) (N:=1048576) (r0:=some (-1)) (Z:=fun a=>some a) (f:=fun m a i=>zan xs (fun y2 _ _=>some y2) m a 0 i) (fun m a i x hx ha hA=>by
   have hx2:x.length<=maxi:=zeR hf hx
   have hw2:w64 (a-(x.length:Int))=a-x.length:=zcr (by unfold maxi at hx2;omega) (by omega)
   simp only[zan,zbV hx,zbe hx,aD,aA,hw2,zaN (zaW hx) hl]
   by_cases h1:a-(x.length:Int)<0
   ·rw[aF h1,aD,if_neg (by simp only[Bk.bulk];omega)]
   ·rw[aE h1,aC,if_pos (by simp only[Bk.bulk];omega)];rfl) (fun m a=>by
   simp only[zan,za3,aC]) (by omega) (by omega) (by omega)]
  by_cases h2:(sumB Bk.bulk xs:Int)<=n-xs.length
  ·rw[if_pos h2,if_pos (by omega),hb];congr 1;omega
  ·rw[if_neg h2,if_neg (by omega)]
theorem zqS {x:Op}{n:Int}(hf:Bk.fit x)(h0:0<=n)(hN:n<=1048576):zc0 x n=some (if(Bk.bulk x:Int)<=n then n-Bk.bulk x else -1):=by
 obtain⟨f0,f1,f2,f3,f4,f5,f6⟩:=hf
 have hb:Bk.bulk x=Bk.bulk x.Kind+(Bk.bulk x.Branch+(Bk.bulk x.Who+(Bk.bulk x.Path+(Bk.bulk x.To+(Bk.bulk x.At+(Bk.bulk x.Text)))))):=rfl
 have b0:Bk.bulk x.Kind=0:=rfl
 have b1:Bk.bulk x.Branch=x.Branch.length:=rfl
 have g1:x.Branch.length<=maxi:=f1
 unfold maxi at g1
 have b2:Bk.bulk x.Who=x.Who.length:=rfl
 have g2:x.Who.length<=maxi:=f2
 unfold maxi at g2
 have b3:Bk.bulk x.Path=x.Path.length:=rfl
 have g3:x.Path.length<=maxi:=f3
 unfold maxi at g3
 have b4:Bk.bulk x.To=x.To.length:=rfl
 have g4:x.To.length<=maxi:=f4
 unfold maxi at g4
 have b5:Bk.bulk x.At=0:=rfl
 unfold zc0
 have w1:w64 (n-(x.Branch.length:Int))=n-(x.Branch.length:Int):=zcr (by omega) (by omega)
 simp only[w1]
 by_cases h1:n-(x.Branch.length:Int)<0
 case pos=>rw[aF h1,aD,if_neg (by omega)]
 rw[aE h1,aC]
 have w2:w64 (n-(x.Branch.length:Int)-(x.Who.length:Int))=n-(x.Branch.length:Int)-(x.Who.length:Int):=zcr (by omega) (by omega)
 simp only[w2]
 by_cases h2:n-(x.Branch.length:Int)-(x.Who.length:Int)<0
 case pos=>rw[aF h2,aD,if_neg (by omega)]
 rw[aE h2,aC]
 have w3:w64 (n-(x.Branch.length:Int)-(x.Who.length:Int)-(x.Path.length:Int))=n-(x.Branch.length:Int)-(x.Who.length:Int)-(x.Path.length:Int):=zcr (by omega) (by omega)
 simp only[w3]
 by_cases h3:n-(x.Branch.length:Int)-(x.Who.length:Int)-(x.Path.length:Int)<0
 case pos=>rw[aF h3,aD,if_neg (by omega)]
 rw[aE h3,aC]
 have w4:w64 (n-(x.Branch.length:Int)-(x.Who.length:Int)-(x.Path.length:Int)-(x.To.length:Int))=n-(x.Branch.length:Int)-(x.Who.length:Int)-(x.Path.length:Int)-(x.To.length:Int):=zcr (by omega) (by omega)
 simp only[w4]
 by_cases h4:n-(x.Branch.length:Int)-(x.Who.length:Int)-(x.Path.length:Int)-(x.To.length:Int)<0
 case pos=>rw[aF h4,aD,if_neg (by omega)]
 rw[aE h4,aC]
 rw[zki f6 (by omega) (by omega),aA]
 by_cases h6:(Bk.bulk x.Text:Int)<=n-(x.Branch.length:Int)-(x.Who.length:Int)-(x.Path.length:Int)-(x.To.length:Int)
 case neg=>rw[if_neg h6,if_neg (by omega)];rfl
 rw[if_pos h6,aE (by omega),aC]
 rw[if_pos (by omega)]
 congr 1<;>omega
theorem zkj {xs:List Str}(h:Bk.bulk xs<=1048576):zaR xs=some xs:=by
 have hl:=zaM h
 unfold zaR
 simp only[zng (znh hl),jn,zca,aA]
 rw[zhw (g:=id) (Z:=fun ys=>some ys) (f:=fun m i out=>zao xs (fun _ y6=>some y6) m i out) (fun m i x out hx ho=>by
  have hi:=zaW hx
  simp only[zao,zbV hx,zbe hx,aD,aA,zaN hi (zdV hl),zhu (show i<out.length by omega),zbe (aB (show i<out.length by omega)),id]) (fun m out=>by
  simp only[zao,za3,aC]) (by omega)]
 simp
theorem zqT {x:Op}(h:Bk.bulk x<=1048576):zcg x=some x:=by
 have hb:Bk.bulk x=Bk.bulk x.Kind+(Bk.bulk x.Branch+(Bk.bulk x.Who+(Bk.bulk x.Path+(Bk.bulk x.To+(Bk.bulk x.At+(Bk.bulk x.Text)))))):=rfl
 unfold zcg
 simp only[zkj (show Bk.bulk x.Text<=1048576 by omega),aA]
theorem zkk {xs ys:List Str}(h:Bk.fit xs):zaU xs ys=some (xs==ys):=by
 have hl:=zdb h
 unfold zaU
 simp only[zkL,jn,zca]
 by_cases hn:xs.length=ys.length
 ·rw[hn,aO,aK,aC,<- hn]
  rw[zkK (α:=Str) (r0:=some false) (Z:=some true) (f:=fun m i=>zaq xs ys (fun _ _=>some true) m false i) hn (fun m i x y hx hy=>by
   simp only[zaq,zbV hx,zbe hx,zbe hy,aD,aA,zaN (zaW hx) hl,bne]
   cases x==y<;>rfl) (fun m=>by simp only[zaq,za3,aC]) (by omega)]
  cases xs==ys<;>rfl
 ·rw[beq_false_of_ne hn,Bool.not_false,aD,beq_false_of_ne (fun e=>hn (by rw[e]))]
theorem zqU {x y:Op}(h:Bk.fit x):zc1 x y=some (x==y):=by
 obtain⟨f0,f1,f2,f3,f4,f5,f6⟩:=h
 unfold zc1
 simp only[zkk f6,aA,bne]
 obtain⟨a0,a1,a2,a3,a4,a5,a6⟩:=x
 obtain⟨b0,b1,b2,b3,b4,b5,b6⟩:=y
 have:((⟨a0,a1,a2,a3,a4,a5,a6⟩:Op)==⟨b0,b1,b2,b3,b4,b5,b6⟩)=(a0==b0&&(a1==b1&&(a2==b2&&(a3==b3&&(a4==b4&&(a5==b5&&(a6==b6))))))):=by
  have hb: ∀ b c:Bool,(b=true↔c=true)->b=c:=by decide
  apply hb
  simp
 rw[this]
 cases a0==b0<;>cases a1==b1<;>cases a2==b2<;>cases a3==b3<;>cases a4==b4<;>cases a5==b5<;>cases a6==b6<;>rfl
end Go.Vm
