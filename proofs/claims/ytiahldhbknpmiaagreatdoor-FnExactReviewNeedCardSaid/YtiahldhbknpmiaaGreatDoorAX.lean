/- Plain laws of the statements' own helpers: they count bulk, copy, compare, mark; printed by a program of ours. Conditions: each law's own premises. -/
import Derived.Test.YtiahldhbknpmiaaGreatDoorALw
import Derived.Test.YtiahldhbknpmiaaGreatDoorAM0
import Derived.Test.YtiahldhbknpmiaaGreatDoorAM1
import Derived.Test.YtiahldhbknpmiaaGreatDoorAM7
namespace Go.Vm
open Go Go.Sx
set_option linter.unusedSimpArgs false
set_option linter.unusedVariables false
theorem zyo {xs:List Int}{n:Int}(hf:Bk.fit xs)(h0:0<=n)(hN:n<=1048576):zlT xs n=some (if(Bk.bulk xs:Int)<=n then n-Bk.bulk xs else -1):=by
 have hl:=zdz hf
 unfold zlT
 have hw:w64 (n-(xs.length:Int))=n-xs.length:=zah (by unfold maxi at hl;omega) (by omega)
 have hb:(Bk.bulk xs:Int)=xs.length+sumB Bk.bulk xs:=by simp[Bk.bulk]
 simp only[hw,jn,zal]
 by_cases h:n-(xs.length:Int)<0
 ·rw[aF h,aD,if_neg (by omega)]
 ·rw[aE h,aC]
  have hz:sumB Bk.bulk xs=0:=by
   clear hb h hw hN h0 hl hf
   induction xs with
   |nil=>rfl
   |cons x xs ih=>show 0+sumB Bk.bulk xs=0;omega
  rw[if_pos (by omega)]
  congr 1;omega
theorem zrH {xs:List Str}{n:Int}(hf:Bk.fit xs)(h0:0<=n)(hN:n<=1048576):zgH xs n=some (if(Bk.bulk xs:Int)<=n then n-Bk.bulk xs else -1):=by
 have hl:=zdz hf
 unfold zgH
 have hw:w64 (n-(xs.length:Int))=n-xs.length:=zah (by unfold maxi at hl;omega) (by omega)
 have hb:(Bk.bulk xs:Int)=xs.length+sumB Bk.bulk xs:=by simp[Bk.bulk]
 simp only[hw,jn,zal]
 by_cases h:n-(xs.length:Int)<0
 ·rw[aF h,aD,if_neg (by omega)]
 ·rw[aE h,aC]
  rw[znA (α:=Str) (xs:=xs) (b:=Bk.bulk) (N:=1048576) (r0:=some (-1)) (Z:=fun a=>some a) (f:=fun m a i=>zeh xs (fun y2 _ _=>some y2) m a 0 i) (fun m a i x hx ha hA=>by
   have hx2:x.length<=maxi:=zhn hf hx
   have hw2:w64 (a-(x.length:Int))=a-x.length:=zah (by unfold maxi at hx2;omega) (by omega)
   simp only[zeh,zam hx,zac hx,aD,aA,hw2,zab (zaq hx) hl]
   by_cases h1:a-(x.length:Int)<0
   ·rw[aF h1,aD,if_neg (by simp only[Bk.bulk];omega)]
   ·rw[aE h1,aC,if_pos (by simp only[Bk.bulk];omega)];rfl) (fun m a=>by
   simp only[zeh,zad,aC]) (by omega) (by omega) (by omega)]
  by_cases h2:(sumB Bk.bulk xs:Int)<=n-xs.length
  ·rw[if_pos h2,if_pos (by omega),hb];congr 1;omega
  ·rw[if_neg h2,if_neg (by omega)]
theorem zyp {x:File}{n:Int}(hf:Bk.fit x)(h0:0<=n)(hN:n<=1048576):zlU x n=some (if(Bk.bulk x:Int)<=n then n-Bk.bulk x else -1):=by
 obtain⟨f0,f1⟩:=hf
 have hb:Bk.bulk x=Bk.bulk x.Path+(Bk.bulk x.Text):=rfl
 have b0:Bk.bulk x.Path=x.Path.length:=rfl
 have g0:x.Path.length<=maxi:=f0
 unfold maxi at g0
 unfold zlU
 have w0:w64 (n-(x.Path.length:Int))=n-(x.Path.length:Int):=zah (by omega) (by omega)
 simp only[w0]
 by_cases h0:n-(x.Path.length:Int)<0
 case pos=>rw[aF h0,aD,if_neg (by omega)]
 rw[aE h0,aC]
 rw[zrH f1 (by omega) (by omega),aA]
 by_cases h1:(Bk.bulk x.Text:Int)<=n-(x.Path.length:Int)
 case neg=>rw[if_neg h1,if_neg (by omega)];rfl
 rw[if_pos h1,aE (by omega),aC]
 rw[if_pos (by omega)]
 congr 1<;>omega
theorem zwZ {xs:List File}{n:Int}(hf:Bk.fit xs)(h0:0<=n)(hN:n<=1048576):zk4 xs n=some (if(Bk.bulk xs:Int)<=n then n-Bk.bulk xs else -1):=by
 have hl:=zdz hf
 unfold zk4
 have hw:w64 (n-(xs.length:Int))=n-xs.length:=zah (by unfold maxi at hl;omega) (by omega)
 have hb:(Bk.bulk xs:Int)=xs.length+sumB Bk.bulk xs:=by simp[Bk.bulk]
 simp only[hw,jn,zal]
 by_cases h:n-(xs.length:Int)<0
 ·rw[aF h,aD,if_neg (by omega)]
 ·rw[aE h,aC]
  rw[znA (α:=File) (xs:=xs) (b:=Bk.bulk) (N:=1048576) (r0:=some (-1)) (Z:=fun a=>some a) (f:=fun m a i=>zhV xs (fun y2 _ _=>some y2) m a 0 i) (fun m a i x hx ha hA=>by
   simp only[zhV,zam hx,zac hx,aD,aA,zyp (zhn hf hx) ha hA,zab (zaq hx) hl]
   by_cases h1:(Bk.bulk x:Int)<=a
   ·rw[if_pos h1,aE (by omega),aC,if_pos h1]
   ·rw[if_neg h1,if_neg h1];rfl) (fun m a=>by
   simp only[zhV,zad,aC]) (by omega) (by omega) (by omega)]
  by_cases h2:(sumB Bk.bulk xs:Int)<=n-xs.length
  ·rw[if_pos h2,if_pos (by omega),hb];congr 1;omega
  ·rw[if_neg h2,if_neg (by omega)]
theorem zwc {x:Commit}{n:Int}(hf:Bk.fit x)(h0:0<=n)(hN:n<=1048576):zkw x n=some (if(Bk.bulk x:Int)<=n then n-Bk.bulk x else -1):=by
 obtain⟨f0,f1,f2⟩:=hf
 have hb:Bk.bulk x=Bk.bulk x.Parents+(Bk.bulk x.Who+(Bk.bulk x.Tree)):=rfl
 have b1:Bk.bulk x.Who=x.Who.length:=rfl
 have g1:x.Who.length<=maxi:=f1
 unfold maxi at g1
 unfold zkw
 rw[zyo f0 (by omega) (by omega),aA]
 by_cases h0:(Bk.bulk x.Parents:Int)<=n
 case neg=>rw[if_neg h0,if_neg (by omega)];rfl
 rw[if_pos h0,aE (by omega),aC]
 have w1:w64 (n-(Bk.bulk x.Parents:Int)-(x.Who.length:Int))=n-(Bk.bulk x.Parents:Int)-(x.Who.length:Int):=zah (by omega) (by omega)
 simp only[w1]
 by_cases h1:n-(Bk.bulk x.Parents:Int)-(x.Who.length:Int)<0
 case pos=>rw[aF h1,aD,if_neg (by omega)]
 rw[aE h1,aC]
 rw[zwZ f2 (by omega) (by omega),aA]
 by_cases h2:(Bk.bulk x.Tree:Int)<=n-(Bk.bulk x.Parents:Int)-(x.Who.length:Int)
 case neg=>rw[if_neg h2,if_neg (by omega)];rfl
 rw[if_pos h2,aE (by omega),aC]
 rw[if_pos (by omega)]
 congr 1<;>omega
theorem zuO {xs:List Commit}{n:Int}(hf:Bk.fit xs)(h0:0<=n)(hN:n<=1048576):zju xs n=some (if(Bk.bulk xs:Int)<=n then n-Bk.bulk xs else -1):=by
 have hl:=zdz hf
 unfold zju
 have hw:w64 (n-(xs.length:Int))=n-xs.length:=zah (by unfold maxi at hl;omega) (by omega)
 have hb:(Bk.bulk xs:Int)=xs.length+sumB Bk.bulk xs:=by simp[Bk.bulk]
 simp only[hw,jn,zal]
 by_cases h:n-(xs.length:Int)<0
 ·rw[aF h,aD,if_neg (by omega)]
 ·rw[aE h,aC]
  rw[znA (α:=Commit) (xs:=xs) (b:=Bk.bulk) (N:=1048576) (r0:=some (-1)) (Z:=fun a=>some a) (f:=fun m a i=>zgw xs (fun y2 _ _=>some y2) m a 0 i) (fun m a i x hx ha hA=>by
   simp only[zgw,zam hx,zac hx,aD,aA,zwc (zhn hf hx) ha hA,zab (zaq hx) hl]
   by_cases h1:(Bk.bulk x:Int)<=a
   ·rw[if_pos h1,aE (by omega),aC,if_pos h1]
   ·rw[if_neg h1,if_neg h1];rfl) (fun m a=>by
   simp only[zgw,zad,aC]) (by omega) (by omega) (by omega)]
  by_cases h2:(sumB Bk.bulk xs:Int)<=n-xs.length
  ·rw[if_pos h2,if_pos (by omega),hb];congr 1;omega
  ·rw[if_neg h2,if_neg (by omega)]
theorem zyq {x:Head}{n:Int}(hf:Bk.fit x)(h0:0<=n)(hN:n<=1048576):zlV x n=some (if(Bk.bulk x:Int)<=n then n-Bk.bulk x else -1):=by
 obtain⟨f0,f1⟩:=hf
 have hb:Bk.bulk x=Bk.bulk x.Name+(Bk.bulk x.At):=rfl
 have b0:Bk.bulk x.Name=x.Name.length:=rfl
 have g0:x.Name.length<=maxi:=f0
 unfold maxi at g0
 have b1:Bk.bulk x.At=0:=rfl
 unfold zlV
 have w0:w64 (n-(x.Name.length:Int))=n-(x.Name.length:Int):=zah (by omega) (by omega)
 simp only[w0]
 by_cases h0:n-(x.Name.length:Int)<0
 case pos=>rw[aF h0,aD,if_neg (by omega)]
 rw[aE h0,aC]
 rw[if_pos (by omega)]
 congr 1<;>omega
theorem zw0 {xs:List Head}{n:Int}(hf:Bk.fit xs)(h0:0<=n)(hN:n<=1048576):zk5 xs n=some (if(Bk.bulk xs:Int)<=n then n-Bk.bulk xs else -1):=by
 have hl:=zdz hf
 unfold zk5
 have hw:w64 (n-(xs.length:Int))=n-xs.length:=zah (by unfold maxi at hl;omega) (by omega)
 have hb:(Bk.bulk xs:Int)=xs.length+sumB Bk.bulk xs:=by simp[Bk.bulk]
 simp only[hw,jn,zal]
 by_cases h:n-(xs.length:Int)<0
 ·rw[aF h,aD,if_neg (by omega)]
 ·rw[aE h,aC]
  rw[znA (α:=Head) (xs:=xs) (b:=Bk.bulk) (N:=1048576) (r0:=some (-1)) (Z:=fun a=>some a) (f:=fun m a i=>zhW xs (fun y2 _ _=>some y2) m a 0 i) (fun m a i x hx ha hA=>by
   simp only[zhW,zam hx,zac hx,aD,aA,zyq (zhn hf hx) ha hA,zab (zaq hx) hl]
   by_cases h1:(Bk.bulk x:Int)<=a
   ·rw[if_pos h1,aE (by omega),aC,if_pos h1]
   ·rw[if_neg h1,if_neg h1];rfl) (fun m a=>by
   simp only[zhW,zad,aC]) (by omega) (by omega) (by omega)]
  by_cases h2:(sumB Bk.bulk xs:Int)<=n-xs.length
  ·rw[if_pos h2,if_pos (by omega),hb];congr 1;omega
  ·rw[if_neg h2,if_neg (by omega)]
theorem zw1 {x:Owner}{n:Int}(hf:Bk.fit x)(h0:0<=n)(hN:n<=1048576):zla x n=some (if(Bk.bulk x:Int)<=n then n-Bk.bulk x else -1):=by
 obtain⟨f0,f1⟩:=hf
 have hb:Bk.bulk x=Bk.bulk x.Path+(Bk.bulk x.Who):=rfl
 have b0:Bk.bulk x.Path=x.Path.length:=rfl
 have g0:x.Path.length<=maxi:=f0
 unfold maxi at g0
 have b1:Bk.bulk x.Who=x.Who.length:=rfl
 have g1:x.Who.length<=maxi:=f1
 unfold maxi at g1
 unfold zla
 have w0:w64 (n-(x.Path.length:Int))=n-(x.Path.length:Int):=zah (by omega) (by omega)
 simp only[w0]
 by_cases h0:n-(x.Path.length:Int)<0
 case pos=>rw[aF h0,aD,if_neg (by omega)]
 rw[aE h0,aC]
 have w1:w64 (n-(x.Path.length:Int)-(x.Who.length:Int))=n-(x.Path.length:Int)-(x.Who.length:Int):=zah (by omega) (by omega)
 simp only[w1]
 by_cases h1:n-(x.Path.length:Int)-(x.Who.length:Int)<0
 case pos=>rw[aF h1,aD,if_neg (by omega)]
 rw[aE h1,aC]
 rw[if_pos (by omega)]
 congr 1<;>omega
theorem zs6 {xs:List Owner}{n:Int}(hf:Bk.fit xs)(h0:0<=n)(hN:n<=1048576):zkB xs n=some (if(Bk.bulk xs:Int)<=n then n-Bk.bulk xs else -1):=by
 have hl:=zdz hf
 unfold zkB
 have hw:w64 (n-(xs.length:Int))=n-xs.length:=zah (by unfold maxi at hl;omega) (by omega)
 have hb:(Bk.bulk xs:Int)=xs.length+sumB Bk.bulk xs:=by simp[Bk.bulk]
 simp only[hw,jn,zal]
 by_cases h:n-(xs.length:Int)<0
 ·rw[aF h,aD,if_neg (by omega)]
 ·rw[aE h,aC]
  rw[znA (α:=Owner) (xs:=xs) (b:=Bk.bulk) (N:=1048576) (r0:=some (-1)) (Z:=fun a=>some a) (f:=fun m a i=>zhf xs (fun y2 _ _=>some y2) m a 0 i) (fun m a i x hx ha hA=>by
   simp only[zhf,zam hx,zac hx,aD,aA,zw1 (zhn hf hx) ha hA,zab (zaq hx) hl]
   by_cases h1:(Bk.bulk x:Int)<=a
   ·rw[if_pos h1,aE (by omega),aC,if_pos h1]
   ·rw[if_neg h1,if_neg h1];rfl) (fun m a=>by
   simp only[zhf,zad,aC]) (by omega) (by omega) (by omega)]
  by_cases h2:(sumB Bk.bulk xs:Int)<=n-xs.length
  ·rw[if_pos h2,if_pos (by omega),hb];congr 1;omega
  ·rw[if_neg h2,if_neg (by omega)]
theorem znj {x:Repo}{n:Int}(hf:Bk.fit x)(h0:0<=n)(hN:n<=1048576):ziJ x n=some (if(Bk.bulk x:Int)<=n then n-Bk.bulk x else -1):=by
 obtain⟨f0,f1⟩:=hf
 have hb:Bk.bulk x=Bk.bulk x.Commits+(Bk.bulk x.Heads):=rfl
 unfold ziJ
 rw[zuO f0 (by omega) (by omega),aA]
 by_cases h0:(Bk.bulk x.Commits:Int)<=n
 case neg=>rw[if_neg h0,if_neg (by omega)];rfl
 rw[if_pos h0,aE (by omega),aC]
 rw[zw0 f1 (by omega) (by omega),aA]
 by_cases h1:(Bk.bulk x.Heads:Int)<=n-(Bk.bulk x.Commits:Int)
 case neg=>rw[if_neg h1,if_neg (by omega)];rfl
 rw[if_pos h1,aE (by omega),aC]
 rw[if_pos (by omega)]
 congr 1<;>omega
theorem zs7 {x:Review}{n:Int}(hf:Bk.fit x)(h0:0<=n)(hN:n<=1048576):zkC x n=some (if(Bk.bulk x:Int)<=n then n-Bk.bulk x else -1):=by
 obtain⟨f0,f1,f2,f3⟩:=hf
 have hb:Bk.bulk x=Bk.bulk x.Branch+(Bk.bulk x.Into+(Bk.bulk x.By+(Bk.bulk x.Yes))):=rfl
 have b0:Bk.bulk x.Branch=x.Branch.length:=rfl
 have g0:x.Branch.length<=maxi:=f0
 unfold maxi at g0
 have b1:Bk.bulk x.Into=x.Into.length:=rfl
 have g1:x.Into.length<=maxi:=f1
 unfold maxi at g1
 have b2:Bk.bulk x.By=x.By.length:=rfl
 have g2:x.By.length<=maxi:=f2
 unfold maxi at g2
 unfold zkC
 have w0:w64 (n-(x.Branch.length:Int))=n-(x.Branch.length:Int):=zah (by omega) (by omega)
 simp only[w0]
 by_cases h0:n-(x.Branch.length:Int)<0
 case pos=>rw[aF h0,aD,if_neg (by omega)]
 rw[aE h0,aC]
 have w1:w64 (n-(x.Branch.length:Int)-(x.Into.length:Int))=n-(x.Branch.length:Int)-(x.Into.length:Int):=zah (by omega) (by omega)
 simp only[w1]
 by_cases h1:n-(x.Branch.length:Int)-(x.Into.length:Int)<0
 case pos=>rw[aF h1,aD,if_neg (by omega)]
 rw[aE h1,aC]
 have w2:w64 (n-(x.Branch.length:Int)-(x.Into.length:Int)-(x.By.length:Int))=n-(x.Branch.length:Int)-(x.Into.length:Int)-(x.By.length:Int):=zah (by omega) (by omega)
 simp only[w2]
 by_cases h2:n-(x.Branch.length:Int)-(x.Into.length:Int)-(x.By.length:Int)<0
 case pos=>rw[aF h2,aD,if_neg (by omega)]
 rw[aE h2,aC]
 rw[zrH f3 (by omega) (by omega),aA]
 by_cases h3:(Bk.bulk x.Yes:Int)<=n-(x.Branch.length:Int)-(x.Into.length:Int)-(x.By.length:Int)
 case neg=>rw[if_neg h3,if_neg (by omega)];rfl
 rw[if_pos h3,aE (by omega),aC]
 rw[if_pos (by omega)]
 congr 1<;>omega
theorem zyr {xs:List Int}(h:Bk.bulk xs<=1048576):zlW xs=some xs:=by
 have hl:=zch h
 unfold zlW
 simp only[zgE (zqS hl),jn,zal,aA]
 rw[zmX (g:=id) (Z:=fun ys=>some ys) (f:=fun m i out=>ziK xs (fun _ y6=>some y6) m i out) (fun m i x out hx ho=>by
  have hi:=zaq hx
  simp only[ziK,zam hx,zac hx,aD,aA,zab hi (zak hl),zbJ (show i<out.length by omega),zac (aB (show i<out.length by omega)),id]) (fun m out=>by
  simp only[ziK,zad,aC]) (by omega)]
 simp
theorem zrI {xs:List Str}(h:Bk.bulk xs<=1048576):zgI xs=some xs:=by
 have hl:=zch h
 unfold zgI
 simp only[zgE (zqS hl),jn,zal,aA]
 rw[zmX (g:=id) (Z:=fun ys=>some ys) (f:=fun m i out=>zei xs (fun _ y6=>some y6) m i out) (fun m i x out hx ho=>by
  have hi:=zaq hx
  simp only[zei,zam hx,zac hx,aD,aA,zab hi (zak hl),zbJ (show i<out.length by omega),zac (aB (show i<out.length by omega)),id]) (fun m out=>by
  simp only[zei,zad,aC]) (by omega)]
 simp
theorem zys {x:File}(h:Bk.bulk x<=1048576):zlX x=some x:=by
 have hb:Bk.bulk x=Bk.bulk x.Path+(Bk.bulk x.Text):=rfl
 unfold zlX
 simp only[zrI (show Bk.bulk x.Text<=1048576 by omega),aA]
theorem zw2 {xs:List File}(h:Bk.bulk xs<=1048576):zk6 xs=some xs:=by
 have hl:=zch h
 unfold zk6
 simp only[zgE (zqS hl),jn,zal,aA]
 rw[zmX (g:=id) (Z:=fun ys=>some ys) (f:=fun m i out=>zhX xs (fun _ y6=>some y6) m i out) (fun m i x out hx ho=>by
  have hi:=zaq hx
  simp only[zhX,zam hx,zac hx,aD,aA,zys (zr5 h hx),zab hi (zak hl),zbJ (show i<out.length by omega),zac (aB (show i<out.length by omega)),id]) (fun m out=>by
  simp only[zhX,zad,aC]) (by omega)]
 simp
theorem zwd {x:Commit}(h:Bk.bulk x<=1048576):zkx x=some x:=by
 have hb:Bk.bulk x=Bk.bulk x.Parents+(Bk.bulk x.Who+(Bk.bulk x.Tree)):=rfl
 unfold zkx
 simp only[zyr (show Bk.bulk x.Parents<=1048576 by omega),zw2 (show Bk.bulk x.Tree<=1048576 by omega),aA]
theorem zuP {xs:List Commit}(h:Bk.bulk xs<=1048576):zjv xs=some xs:=by
 have hl:=zch h
 unfold zjv
 simp only[zgE (zqS hl),jn,zal,aA]
 rw[zmX (g:=id) (Z:=fun ys=>some ys) (f:=fun m i out=>zgx xs (fun _ y6=>some y6) m i out) (fun m i x out hx ho=>by
  have hi:=zaq hx
  simp only[zgx,zam hx,zac hx,aD,aA,zwd (zr5 h hx),zab hi (zak hl),zbJ (show i<out.length by omega),zac (aB (show i<out.length by omega)),id]) (fun m out=>by
  simp only[zgx,zad,aC]) (by omega)]
 simp
theorem zyt {x:Head}(h:Bk.bulk x<=1048576):zlY x=some x:=by
 have hb:Bk.bulk x=Bk.bulk x.Name+(Bk.bulk x.At):=rfl
 unfold zlY
 rfl
theorem zw3 {xs:List Head}(h:Bk.bulk xs<=1048576):zk7 xs=some xs:=by
 have hl:=zch h
 unfold zk7
 simp only[zgE (zqS hl),jn,zal,aA]
 rw[zmX (g:=id) (Z:=fun ys=>some ys) (f:=fun m i out=>zhY xs (fun _ y6=>some y6) m i out) (fun m i x out hx ho=>by
  have hi:=zaq hx
  simp only[zhY,zam hx,zac hx,aD,aA,zyt (zr5 h hx),zab hi (zak hl),zbJ (show i<out.length by omega),zac (aB (show i<out.length by omega)),id]) (fun m out=>by
  simp only[zhY,zad,aC]) (by omega)]
 simp
theorem zw4 {x:Owner}(h:Bk.bulk x<=1048576):zlb x=some x:=by
 have hb:Bk.bulk x=Bk.bulk x.Path+(Bk.bulk x.Who):=rfl
 unfold zlb
 rfl
theorem zs8 {xs:List Owner}(h:Bk.bulk xs<=1048576):zhy xs=some xs:=by
 have hl:=zch h
 unfold zhy
 simp only[zgE (zqS hl),jn,zal,aA]
 rw[zmX (g:=id) (Z:=fun ys=>some ys) (f:=fun m i out=>zhg xs (fun _ y6=>some y6) m i out) (fun m i x out hx ho=>by
  have hi:=zaq hx
  simp only[zhg,zam hx,zac hx,aD,aA,zw4 (zr5 h hx),zab hi (zak hl),zbJ (show i<out.length by omega),zac (aB (show i<out.length by omega)),id]) (fun m out=>by
  simp only[zhg,zad,aC]) (by omega)]
 simp
theorem znk {x:Repo}(h:Bk.bulk x<=1048576):zc1 x=some x:=by
 have hb:Bk.bulk x=Bk.bulk x.Commits+(Bk.bulk x.Heads):=rfl
 unfold zc1
 simp only[zuP (show Bk.bulk x.Commits<=1048576 by omega),zw3 (show Bk.bulk x.Heads<=1048576 by omega),aA]
theorem zs9 {x:Review}(h:Bk.bulk x<=1048576):zhz x=some x:=by
 have hb:Bk.bulk x=Bk.bulk x.Branch+(Bk.bulk x.Into+(Bk.bulk x.By+(Bk.bulk x.Yes))):=rfl
 unfold zhz
 simp only[zrI (show Bk.bulk x.Yes<=1048576 by omega),aA]
theorem zyu {xs ys:List Int}(h:Bk.fit xs):zlZ xs ys=some (xs==ys):=by
 have hl:=zdz h
 unfold zlZ
 simp only[zjo,jn,zal]
 by_cases hn:xs.length=ys.length
 ·rw[hn,aO,aK,aC,<- hn]
  rw[zjn (α:=Int) (r0:=some false) (Z:=some true) (f:=fun m i=>ziL xs ys (fun _ _=>some true) m false i) hn (fun m i x y hx hy=>by
   simp only[ziL,zam hx,zac hx,zac hy,aD,aA,zab (zaq hx) hl,bne]
   cases x==y<;>rfl) (fun m=>by simp only[ziL,zad,aC]) (by omega)]
  cases xs==ys<;>rfl
 ·rw[beq_false_of_ne hn,Bool.not_false,aD,beq_false_of_ne (fun e=>hn (by rw[e]))]
theorem zoS {xs ys:List Str}(h:Bk.fit xs):zeW xs ys=some (xs==ys):=by
 have hl:=zdz h
 unfold zeW
 simp only[zjo,jn,zal]
 by_cases hn:xs.length=ys.length
 ·rw[hn,aO,aK,aC,<- hn]
  rw[zjn (α:=Str) (r0:=some false) (Z:=some true) (f:=fun m i=>zek xs ys (fun _ _=>some true) m false i) hn (fun m i x y hx hy=>by
   simp only[zek,zam hx,zac hx,zac hy,aD,aA,zab (zaq hx) hl,bne]
   cases x==y<;>rfl) (fun m=>by simp only[zek,zad,aC]) (by omega)]
  cases xs==ys<;>rfl
 ·rw[beq_false_of_ne hn,Bool.not_false,aD,beq_false_of_ne (fun e=>hn (by rw[e]))]
theorem zyv {x y:File}(h:Bk.fit x):zl0 x y=some (x==y):=by
 obtain⟨f0,f1⟩:=h
 unfold zl0
 simp only[zoS f1,aA,bne]
 obtain⟨a0,a1⟩:=x
 obtain⟨b0,b1⟩:=y
 have:((⟨a0,a1⟩:File)==⟨b0,b1⟩)=(a0==b0&&(a1==b1)):=by
  have hb: ∀ b c:Bool,(b=true↔c=true)->b=c:=by decide
  apply hb
  simp
 rw[this]
 cases a0==b0<;>cases a1==b1<;>rfl
theorem zw5 {xs ys:List File}(h:Bk.fit xs):zk8 xs ys=some (xs==ys):=by
 have hl:=zdz h
 unfold zk8
 simp only[zjo,jn,zal]
 by_cases hn:xs.length=ys.length
 ·rw[hn,aO,aK,aC,<- hn]
  rw[zjn (α:=File) (r0:=some false) (Z:=some true) (f:=fun m i=>zhZ xs ys (fun _ _=>some true) m false i) hn (fun m i x y hx hy=>by
   simp only[zhZ,zam hx,zac hx,zac hy,aD,aA,zab (zaq hx) hl,zyv (zhn h hx)]
   cases x==y<;>rfl) (fun m=>by simp only[zhZ,zad,aC]) (by omega)]
  cases xs==ys<;>rfl
 ·rw[beq_false_of_ne hn,Bool.not_false,aD,beq_false_of_ne (fun e=>hn (by rw[e]))]
theorem zwe {x y:Commit}(h:Bk.fit x):zky x y=some (x==y):=by
 obtain⟨f0,f1,f2⟩:=h
 unfold zky
 simp only[zyu f0,zw5 f2,aA,bne]
 obtain⟨a0,a1,a2⟩:=x
 obtain⟨b0,b1,b2⟩:=y
 have:((⟨a0,a1,a2⟩:Commit)==⟨b0,b1,b2⟩)=(a0==b0&&(a1==b1&&(a2==b2))):=by
  have hb: ∀ b c:Bool,(b=true↔c=true)->b=c:=by decide
  apply hb
  simp
 rw[this]
 cases a0==b0<;>cases a1==b1<;>cases a2==b2<;>rfl
theorem zuQ {xs ys:List Commit}(h:Bk.fit xs):zjw xs ys=some (xs==ys):=by
 have hl:=zdz h
 unfold zjw
 simp only[zjo,jn,zal]
 by_cases hn:xs.length=ys.length
 ·rw[hn,aO,aK,aC,<- hn]
  rw[zjn (α:=Commit) (r0:=some false) (Z:=some true) (f:=fun m i=>zgy xs ys (fun _ _=>some true) m false i) hn (fun m i x y hx hy=>by
   simp only[zgy,zam hx,zac hx,zac hy,aD,aA,zab (zaq hx) hl,zwe (zhn h hx)]
   cases x==y<;>rfl) (fun m=>by simp only[zgy,zad,aC]) (by omega)]
  cases xs==ys<;>rfl
 ·rw[beq_false_of_ne hn,Bool.not_false,aD,beq_false_of_ne (fun e=>hn (by rw[e]))]
theorem zyw {x y:Head}(h:Bk.fit x):zl1 x y=some (x==y):=by
 obtain⟨f0,f1⟩:=h
 unfold zl1
 simp only[aA,bne]
 obtain⟨a0,a1⟩:=x
 obtain⟨b0,b1⟩:=y
 have:((⟨a0,a1⟩:Head)==⟨b0,b1⟩)=(a0==b0&&(a1==b1)):=by
  have hb: ∀ b c:Bool,(b=true↔c=true)->b=c:=by decide
  apply hb
  simp
 rw[this]
 cases a0==b0<;>cases a1==b1<;>rfl
theorem zw6 {xs ys:List Head}(h:Bk.fit xs):zk9 xs ys=some (xs==ys):=by
 have hl:=zdz h
 unfold zk9
 simp only[zjo,jn,zal]
 by_cases hn:xs.length=ys.length
 ·rw[hn,aO,aK,aC,<- hn]
  rw[zjn (α:=Head) (r0:=some false) (Z:=some true) (f:=fun m i=>zh0 xs ys (fun _ _=>some true) m false i) hn (fun m i x y hx hy=>by
   simp only[zh0,zam hx,zac hx,zac hy,aD,aA,zab (zaq hx) hl,zyw (zhn h hx)]
   cases x==y<;>rfl) (fun m=>by simp only[zh0,zad,aC]) (by omega)]
  cases xs==ys<;>rfl
 ·rw[beq_false_of_ne hn,Bool.not_false,aD,beq_false_of_ne (fun e=>hn (by rw[e]))]
theorem zw7 {x y:Owner}(h:Bk.fit x):zlf x y=some (x==y):=by
 obtain⟨f0,f1⟩:=h
 unfold zlf
 simp only[aA,bne]
 obtain⟨a0,a1⟩:=x
 obtain⟨b0,b1⟩:=y
 have:((⟨a0,a1⟩:Owner)==⟨b0,b1⟩)=(a0==b0&&(a1==b1)):=by
  have hb: ∀ b c:Bool,(b=true↔c=true)->b=c:=by decide
  apply hb
  simp
 rw[this]
 cases a0==b0<;>cases a1==b1<;>rfl
theorem zta {xs ys:List Owner}(h:Bk.fit xs):zkE xs ys=some (xs==ys):=by
 have hl:=zdz h
 unfold zkE
 simp only[zjo,jn,zal]
 by_cases hn:xs.length=ys.length
 ·rw[hn,aO,aK,aC,<- hn]
  rw[zjn (α:=Owner) (r0:=some false) (Z:=some true) (f:=fun m i=>zhh xs ys (fun _ _=>some true) m false i) hn (fun m i x y hx hy=>by
   simp only[zhh,zam hx,zac hx,zac hy,aD,aA,zab (zaq hx) hl,zw7 (zhn h hx)]
   cases x==y<;>rfl) (fun m=>by simp only[zhh,zad,aC]) (by omega)]
  cases xs==ys<;>rfl
 ·rw[beq_false_of_ne hn,Bool.not_false,aD,beq_false_of_ne (fun e=>hn (by rw[e]))]
theorem zjE {x y:Repo}(h:Bk.fit x):zdq x y=some (x==y):=by
 obtain⟨f0,f1⟩:=h
 unfold zdq
 simp only[zuQ f0,zw6 f1,aA,bne]
 obtain⟨a0,a1⟩:=x
 obtain⟨b0,b1⟩:=y
 have:((⟨a0,a1⟩:Repo)==⟨b0,b1⟩)=(a0==b0&&(a1==b1)):=by
  have hb: ∀ b c:Bool,(b=true↔c=true)->b=c:=by decide
  apply hb
  simp
 rw[this]
 cases a0==b0<;>cases a1==b1<;>rfl
theorem ztb {x y:Review}(h:Bk.fit x):zkF x y=some (x==y):=by
 obtain⟨f0,f1,f2,f3⟩:=h
 unfold zkF
 simp only[zoS f3,aA,bne]
 obtain⟨a0,a1,a2,a3⟩:=x
 obtain⟨b0,b1,b2,b3⟩:=y
 have:((⟨a0,a1,a2,a3⟩:Review)==⟨b0,b1,b2,b3⟩)=(a0==b0&&(a1==b1&&(a2==b2&&(a3==b3)))):=by
  have hb: ∀ b c:Bool,(b=true↔c=true)->b=c:=by decide
  apply hb
  simp
 rw[this]
 cases a0==b0<;>cases a1==b1<;>cases a2==b2<;>cases a3==b3<;>rfl
theorem zAk {k:Int}(h:0<k):0<=Int.tdiv k 10/\Int.tdiv k 10<=k-1/\0<=Int.tmod k 10/\Int.tmod k 10<=9:=by
 obtain⟨n,rfl⟩:=Int.eq_ofNat_of_zero_le (show 0<=k by omega)
 have h1:Int.tdiv (n:Int) 10=((n / 10:Nat):Int):=rfl
 have h2:Int.tmod (n:Int) 10=((n % 10:Nat):Int):=rfl
 rw[h1,h2]
 omega
theorem znZ {K:Int->Str->Option Str}(hK: ∀ (k:Int) (s:Str),s.length<=1073741824 -> ∃ t,K k s=some t/\t.length<=2000000000):
 ∀ (m:Nat) (k:Int) (out:Str),0<=k->k<m->out.length+k<=1073741824 -> ∃ t,zgo K m k out=some t/\t.length<=2000000000
 |0,k,out,h0,hm,hl=>by omega
 |m+1,k,out,h0,hm,hl=>by
  simp only[zgo]
  by_cases hk:0<k
  ·obtain⟨h1,h2,h3,h4⟩:=zAk hk
   have hs:saM (([(by8 (w64 (48+(Int.tmod k 10))))]:List zn4):Str) out=some ((by8 (w64 (48+(Int.tmod k 10))))::out):=by
    unfold saM
    rw[if_pos]
    ·rfl
    ·show 1+out.length<=4294967296
     omega
   rw[aF hk,aD,hs,aA,zah (by omega) (by omega)]
   exact znZ hK m _ _ h1 (by omega) (by simp only[List.length_append,aL,List.length_nil];omega)
  ·rw[aE hk,aC]
   exact hK k out (by omega)
/-- The text of a mark. -/
def mt (k:Int):Str:=((zcp k).getD []).take 2000000000
theorem ziN {k:Int}(h0:0<=k)(hN:k<=536870912):zcp k=some (mt k):=by
 have: ∃ t,zcp k=some t/\t.length<=2000000000:=by
  unfold zcp
  by_cases hk:k<=0
  ·rw[aF hk];exact⟨_,rfl,by simp⟩
  ·rw[aE hk,aC]
   simp only[jn]
   refine znZ (fun k s hs=>?_) _ k _ h0 (by omega) (by simp;omega)
   refine⟨[109]++s,?_,by simp;omega⟩
   have:saM ([109]:Str) s=some ([109]++s):=by
    unfold saM
    rw[if_pos]
    simp only[aL,List.length_nil,lim]
    omega
   rw[this,aA]
 obtain⟨t,ht,hl⟩:=this
 unfold mt
 rw[ht]
 show some t=some (t.take 2000000000)
 rw[List.take_of_length_le hl]
def mb (k:Int):Bool:=Int.tmod k 3==0
def zhN:MkD Str:=MkD.one mt
def ziO:MkD Int:=MkD.one (fun k=>k)
def zxy:MkD Bool:=MkD.one mb
theorem zqs (xs:List Str):zhN.list.cn xs=xs.length:=by
 show sumB (fun _=>1) xs=xs.length
 induction xs with
 |nil=>rfl
 |cons y ys ih=>simp only[sumB,ih,aL];omega
theorem zlH:zhN.Fits:=MkD.fits_one fun k _ _=>by
 show(((zcp k).getD []).take 2000000000).length<=maxi
 rw[List.length_take]
 unfold maxi
 omega
theorem ztc:ziO.Fits:=MkD.fits_one fun k h0 hN=>⟨by omega,by omega⟩
theorem zzf:zxy.Fits:=MkD.fits_one fun _ _ _=>trivial
theorem zm1:zhN.Few 1:=MkD.few_one
theorem ztd:ziO.Few 1:=MkD.few_one
theorem zzg:zxy.Few 1:=MkD.few_one
def zg3:MkD File:=MkD.via (MkD.pair zhN zhN.list) (fun x=>(x.Path,x.Text)) (fun p=>⟨p.1,p.2⟩) (fun _=>rfl)
theorem ztM:zg3.Fits:=MkD.fits_via (MkD.fits_pair zlH (MkD.fits_list zlH)) (fun _ h=>h) (fun _ h=>h)
theorem ztN:zg3.Few 2:=MkD.few_via (MkD.few_pair zm1 (MkD.few_list zm1)) (fun _=>rfl)
def zcN:MkD Commit:=MkD.via (MkD.pair ziO.list (MkD.pair zhN zg3.list)) (fun x=>(x.Parents,(x.Who,x.Tree))) (fun p=>⟨p.1,p.2.1,p.2.2⟩) (fun _=>rfl)
theorem zso:zcN.Fits:=MkD.fits_via (MkD.fits_pair (MkD.fits_list ztc) (MkD.fits_pair zlH (MkD.fits_list ztM))) (fun _ h=>h) (fun _ h=>h)
theorem zsp:zcN.Few 4:=MkD.few_via (MkD.few_pair (MkD.few_list ztd) (MkD.few_pair zm1 (MkD.few_list ztN))) (fun _=>rfl)
theorem zwf {xs:List Int}{k:Int}(h0:0<=k)(hN:k+ziO.list.cn xs<=536870912)(hf:Bk.fit xs):zkz xs k=some (ziO.list.wr k xs):=by
 unfold zkz
 simp only[jn,zal]
 rw[zmY (xs:=xs) (g:=ziO.wr) (b:=ziO.cn) (N:=536870912) (Z:=fun k out=>some (k,out)) (f:=fun m k i out=>zhd (fun y1 _ y3=>some (y1,y3)) m k i out) ziO.fst (fun m k i x out hx ho hlen hk hkN=>by
  have hi:=zaq hx
  have hi':i<out.length:=by omega
  have ei:=zab hi (zdz hf)
  have hc:k+1<=536870912:=hkN
  simp only[zhd,zam ho,aD,aA,zac ho,zbJ hi',zac (setAt hi'),zbJ (show i< (out.set i _).length by simpa using hi'),List.set_set,ei,zah (show -9223372036854775808<=k+1 by omega) (show k+1<=9223372036854775807 by omega),zah (show -9223372036854775808<=k by omega) (show k<=9223372036854775807 by omega)]
  try rfl) (fun m k out hl=>by
  simp only[zhd,<- hl,zad,aC]) (by omega) h0 hN]
 rfl
theorem znc {xs:List Str}{k:Int}(h0:0<=k)(hN:k+zhN.list.cn xs<=536870912)(hf:Bk.fit xs):zed xs k=some (zhN.list.wr k xs):=by
 unfold zed
 simp only[jn,zal]
 rw[zmY (xs:=xs) (g:=zhN.wr) (b:=zhN.cn) (N:=536870912) (Z:=fun k out=>some (k,out)) (f:=fun m k i out=>zdF (fun y1 _ y3=>some (y1,y3)) m k i out) zhN.fst (fun m k i x out hx ho hlen hk hkN=>by
  have hi:=zaq hx
  have hi':i<out.length:=by omega
  have ei:=zab hi (zdz hf)
  have hc:k+1<=536870912:=hkN
  simp only[zdF,zam ho,aD,aA,zac ho,zbJ hi',zac (setAt hi'),zbJ (show i< (out.set i _).length by simpa using hi'),List.set_set,ei,ziN hk (by omega),zah (show -9223372036854775808<=k+1 by omega) (show k+1<=9223372036854775807 by omega)]
  try rfl) (fun m k out hl=>by
  simp only[zdF,<- hl,zad,aC]) (by omega) h0 hN]
 rfl
theorem zuR {xs:List File}{k:Int}(h0:0<=k)(hN:k+zg3.list.cn xs<=536870912)(hf:Bk.fit xs):zjx xs k=some (zg3.list.wr k xs):=by
 unfold zjx
 simp only[jn,zal]
 rw[zmY (xs:=xs) (g:=zg3.wr) (b:=zg3.cn) (N:=536870912) (Z:=fun k out=>some (k,out)) (f:=fun m k i out=>zgz (fun y1 _ y3=>some (y1,y3)) m k i out) zg3.fst (fun m k i x out hx ho hlen hk hkN=>by
  have hi:=zaq hx
  have hi':i<out.length:=by omega
  have ei:=zab hi (zdz hf)
  have hc:zg3.cn x=1+(zhN.list.cn x.Text):=rfl
  have e1:=zhN.list.fst (k+1) x.Text
  obtain⟨f0,f1⟩:=zhn hf hx
  simp only[zgz,zam ho,aD,aA,zac ho,zbJ hi',zac (setAt hi'),zbJ (show i< (out.set i _).length by simpa using hi'),List.set_set,ei,ziN (show 0<=k by omega) (show k<=536870912 by omega),zah (show -9223372036854775808<=k+1 by omega) (show k+1<=9223372036854775807 by omega),znc (k:=k+1) (show 0<=k+1 by omega) (show k+1+zhN.list.cn x.Text<=536870912 by omega) f1]
  try rfl) (fun m k out hl=>by
  simp only[zgz,<- hl,zad,aC]) (by omega) h0 hN]
 rfl
theorem zte {xs:List Commit}{k:Int}(h0:0<=k)(hN:k+zcN.list.cn xs<=536870912)(hf:Bk.fit xs):zid xs k=some (zcN.list.wr k xs):=by
 unfold zid
 simp only[jn,zal]
 rw[zmY (xs:=xs) (g:=zcN.wr) (b:=zcN.cn) (N:=536870912) (Z:=fun k out=>some (k,out)) (f:=fun m k i out=>zfE (fun y1 _ y3=>some (y1,y3)) m k i out) zcN.fst (fun m k i x out hx ho hlen hk hkN=>by
  have hi:=zaq hx
  have hi':i<out.length:=by omega
  have ei:=zab hi (zdz hf)
  have hc:zcN.cn x=ziO.list.cn x.Parents+(1+(zg3.list.cn x.Tree)):=rfl
  have e0:=ziO.list.fst (k) x.Parents
  have e2:=zg3.list.fst ((ziO.list.wr (k) x.Parents).1+1) x.Tree
  obtain⟨f0,f1,f2⟩:=zhn hf hx
  simp only[zfE,zam ho,aD,aA,zac ho,zbJ hi',zac (setAt hi'),zbJ (show i< (out.set i _).length by simpa using hi'),List.set_set,ei,zwf (k:=k) (show 0<=k by omega) (show k+ziO.list.cn x.Parents<=536870912 by omega) f0,ziN (show 0<=(ziO.list.wr (k) x.Parents).1 by omega) (show(ziO.list.wr (k) x.Parents).1<=536870912 by omega),zah (show -9223372036854775808<=(ziO.list.wr (k) x.Parents).1+1 by omega) (show(ziO.list.wr (k) x.Parents).1+1<=9223372036854775807 by omega),zuR (k:=(ziO.list.wr (k) x.Parents).1+1) (show 0<=(ziO.list.wr (k) x.Parents).1+1 by omega) (show(ziO.list.wr (k) x.Parents).1+1+zg3.list.cn x.Tree<=536870912 by omega) f2]
  try rfl) (fun m k out hl=>by
  simp only[zfE,<- hl,zad,aC]) (by omega) h0 hN]
 rfl
def zg4:MkD Head:=MkD.via (MkD.pair zhN ziO) (fun x=>(x.Name,x.At)) (fun p=>⟨p.1,p.2⟩) (fun _=>rfl)
theorem ztO:zg4.Fits:=MkD.fits_via (MkD.fits_pair zlH ztc) (fun _ h=>h) (fun _ h=>h)
theorem ztP:zg4.Few 2:=MkD.few_via (MkD.few_pair zm1 ztd) (fun _=>rfl)
theorem zuS {xs:List Head}{k:Int}(h0:0<=k)(hN:k+zg4.list.cn xs<=536870912)(hf:Bk.fit xs):zjy xs k=some (zg4.list.wr k xs):=by
 unfold zjy
 simp only[jn,zal]
 rw[zmY (xs:=xs) (g:=zg4.wr) (b:=zg4.cn) (N:=536870912) (Z:=fun k out=>some (k,out)) (f:=fun m k i out=>zgA (fun y1 _ y3=>some (y1,y3)) m k i out) zg4.fst (fun m k i x out hx ho hlen hk hkN=>by
  have hi:=zaq hx
  have hi':i<out.length:=by omega
  have ei:=zab hi (zdz hf)
  have hc:zg4.cn x=1+(1):=rfl
  obtain⟨f0,f1⟩:=zhn hf hx
  simp only[zgA,zam ho,aD,aA,zac ho,zbJ hi',zac (setAt hi'),zbJ (show i< (out.set i _).length by simpa using hi'),List.set_set,ei,ziN (show 0<=k by omega) (show k<=536870912 by omega),zah (show -9223372036854775808<=k+1 by omega) (show k+1<=9223372036854775807 by omega),zah (show -9223372036854775808<=k+1 by omega) (show k+1<=9223372036854775807 by omega),zah (show -9223372036854775808<=k+1+1 by omega) (show k+1+1<=9223372036854775807 by omega)]
  try rfl) (fun m k out hl=>by
  simp only[zgA,<- hl,zad,aC]) (by omega) h0 hN]
 rfl
def zh4:MkD Owner:=MkD.via (MkD.pair zhN zhN) (fun x=>(x.Path,x.Who)) (fun p=>⟨p.1,p.2⟩) (fun _=>rfl)
theorem zxz:zh4.Fits:=MkD.fits_via (MkD.fits_pair zlH zlH) (fun _ h=>h) (fun _ h=>h)
theorem zqa:zh4.Few 2:=MkD.few_via (MkD.few_pair zm1 zm1) (fun _=>rfl)
theorem zra {xs:List Owner}{k:Int}(h0:0<=k)(hN:k+zh4.list.cn xs<=536870912)(hf:Bk.fit xs):zi9 xs k=some (zh4.list.wr k xs):=by
 unfold zi9
 simp only[jn,zal]
 rw[zmY (xs:=xs) (g:=zh4.wr) (b:=zh4.cn) (N:=536870912) (Z:=fun k out=>some (k,out)) (f:=fun m k i out=>zgh (fun y1 _ y3=>some (y1,y3)) m k i out) zh4.fst (fun m k i x out hx ho hlen hk hkN=>by
  have hi:=zaq hx
  have hi':i<out.length:=by omega
  have ei:=zab hi (zdz hf)
  have hc:zh4.cn x=1+(1):=rfl
  obtain⟨f0,f1⟩:=zhn hf hx
  simp only[zgh,zam ho,aD,aA,zac ho,zbJ hi',zac (setAt hi'),zbJ (show i< (out.set i _).length by simpa using hi'),List.set_set,ei,ziN (show 0<=k by omega) (show k<=536870912 by omega),zah (show -9223372036854775808<=k+1 by omega) (show k+1<=9223372036854775807 by omega),ziN (show 0<=k+1 by omega) (show k+1<=536870912 by omega),zah (show -9223372036854775808<=k+1+1 by omega) (show k+1+1<=9223372036854775807 by omega)]
  try rfl) (fun m k out hl=>by
  simp only[zgh,<- hl,zad,aC]) (by omega) h0 hN]
 rfl
def zaK:MkD Repo:=MkD.via (MkD.pair zcN.list zg4.list) (fun x=>(x.Commits,x.Heads)) (fun p=>⟨p.1,p.2⟩) (fun _=>rfl)
theorem zki:zaK.Fits:=MkD.fits_via (MkD.fits_pair (MkD.fits_list zso) (MkD.fits_list ztO)) (fun _ h=>h) (fun _ h=>h)
theorem zew:zaK.Few 6:=MkD.few_via (MkD.few_pair (MkD.few_list zsp) (MkD.few_list ztP)) (fun _=>rfl)
theorem zgu {x:Repo}{k:Int}(hk:0<=k)(hkN:k+zaK.cn x<=536870912)(hf:Bk.fit x):zeG x k=some (zaK.wr k x):=by
 unfold zeG
 have hc:zaK.cn x=zcN.list.cn x.Commits+(zg4.list.cn x.Heads):=rfl
 have e0:=zcN.list.fst (k) x.Commits
 have e1:=zg4.list.fst ((zcN.list.wr (k) x.Commits).1) x.Heads
 obtain⟨f0,f1⟩:=hf
 simp only[aA,zte (k:=k) (show 0<=k by omega) (show k+zcN.list.cn x.Commits<=536870912 by omega) f0,zuS (k:=(zcN.list.wr (k) x.Commits).1) (show 0<=(zcN.list.wr (k) x.Commits).1 by omega) (show(zcN.list.wr (k) x.Commits).1+zg4.list.cn x.Heads<=536870912 by omega) f1]
 try rfl
def zkj:MkD Review:=MkD.via (MkD.pair MkD.keep (MkD.pair MkD.keep (MkD.pair MkD.keep zhN.list))) (fun x=>(x.Branch,(x.Into,(x.By,x.Yes)))) (fun p=>⟨p.1,p.2.1,p.2.2.1,p.2.2.2⟩) (fun _=>rfl)
theorem zw8:zkj.Fits:=MkD.fits_via (MkD.fits_pair MkD.fits_keep (MkD.fits_pair MkD.fits_keep (MkD.fits_pair MkD.fits_keep (MkD.fits_list zlH)))) (fun _ h=>h) (fun _ h=>h)
theorem zw9:zkj.Few 1:=MkD.few_via (MkD.few_pair MkD.few_keep (MkD.few_pair MkD.few_keep (MkD.few_pair MkD.few_keep (MkD.few_list zm1)))) (fun _=>rfl)
theorem zrb {x:Review}{k:Int}(hk:0<=k)(hkN:k+zkj.cn x<=536870912)(hf:Bk.fit x):zja x k=some (zkj.wr k x):=by
 unfold zja
 have hc:zkj.cn x=0+(0+(0+(zhN.list.cn x.Yes))):=rfl
 have e3:=zhN.list.fst (k) x.Yes
 obtain⟨f0,f1,f2,f3⟩:=hf
 simp only[aA,znc (k:=k) (show 0<=k by omega) (show k+zhN.list.cn x.Yes<=536870912 by omega) f3]
 try rfl
theorem zwg {xs:List Int}{k:Int}(hH:ziO.list.Held k xs)(h0:0<=k)(hN:k+ziO.list.cn xs<=536870912)(hf:Bk.fit xs):zkA xs k=some (ziO.list.wr k xs).1:=by
 have hh:=MkD.list_held ziO hH
 unfold zkA
 simp only[jn,zal]
 rw[znB (xs:=xs) (q:=ziO.Held) (b:=ziO.cn) (N:=536870912) (Z:=fun k=>some k) (f:=fun m k i=>zhe xs (fun y1 _ _=>some y1) m k 0 i) (fun m k i x hx hq hk hkN=>by
  have hi:=zaq hx
  have ei:=zab hi (zdz hf)
  rw[<- ziO.fst k x]
  have hc:k+1<=536870912:=hkN
  have q0:k=x:=hq
  simp only[zhe,zam hx,aD,aA,zac hx,ei,bne_self_eq_false,aC,zah (show -9223372036854775808<=k by omega) (show k<=9223372036854775807 by omega),<- q0,zah (show -9223372036854775808<=k+1 by omega) (show k+1<=9223372036854775807 by omega)]
  try rfl) (fun m k=>by
  simp only[zhe,zad,aC]) (by omega) h0 hN hh,ziO.list.fst]
 rfl
theorem zoH {xs:List Str}{k:Int}(hH:zhN.list.Held k xs)(h0:0<=k)(hN:k+zhN.list.cn xs<=536870912)(hf:Bk.fit xs):zeX xs k=some (zhN.list.wr k xs).1:=by
 have hh:=MkD.list_held zhN hH
 unfold zeX
 simp only[jn,zal]
 rw[znB (xs:=xs) (q:=zhN.Held) (b:=zhN.cn) (N:=536870912) (Z:=fun k=>some k) (f:=fun m k i=>zdG xs (fun y1 _ _=>some y1) m k 0 i) (fun m k i x hx hq hk hkN=>by
  have hi:=zaq hx
  have ei:=zab hi (zdz hf)
  rw[<- zhN.fst k x]
  have hc:k+1<=536870912:=hkN
  have q0:mt k=x:=hq
  simp only[zdG,zam hx,aD,aA,zac hx,ei,bne_self_eq_false,aC,ziN hk (by omega),q0,zah (show -9223372036854775808<=k+1 by omega) (show k+1<=9223372036854775807 by omega)]
  try rfl) (fun m k=>by
  simp only[zdG,zad,aC]) (by omega) h0 hN hh,zhN.list.fst]
 rfl
theorem zuT {xs:List File}{k:Int}(hH:zg3.list.Held k xs)(h0:0<=k)(hN:k+zg3.list.cn xs<=536870912)(hf:Bk.fit xs):zjz xs k=some (zg3.list.wr k xs).1:=by
 have hh:=MkD.list_held zg3 hH
 unfold zjz
 simp only[jn,zal]
 rw[znB (xs:=xs) (q:=zg3.Held) (b:=zg3.cn) (N:=536870912) (Z:=fun k=>some k) (f:=fun m k i=>zgC xs (fun y1 _ _=>some y1) m k 0 i) (fun m k i x hx hq hk hkN=>by
  have hi:=zaq hx
  have ei:=zab hi (zdz hf)
  rw[<- zg3.fst k x]
  have hc:zg3.cn x=1+(zhN.list.cn x.Text):=rfl
  have e1:=zhN.list.fst (k+1) x.Text
  obtain⟨f0,f1⟩:=zhn hf hx
  have q0:mt (k)=x.Path:=congrArg File.Path hq
  have q1:zhN.list.Held (k+1) x.Text:=congrArg File.Text hq
  simp only[zgC,zam hx,aD,aA,zac hx,ei,bne_self_eq_false,aC,ziN (show 0<=k by omega) (show k<=536870912 by omega),zah (show -9223372036854775808<=k+1 by omega) (show k+1<=9223372036854775807 by omega),q0,zoH q1 (show 0<=k+1 by omega) (show k+1+zhN.list.cn x.Text<=536870912 by omega) f1,aE (show ¬ (zhN.list.wr (k+1) x.Text).1<0 by omega)]
  try rfl) (fun m k=>by
  simp only[zgC,zad,aC]) (by omega) h0 hN hh,zg3.list.fst]
 rfl
theorem ztf {xs:List Commit}{k:Int}(hH:zcN.list.Held k xs)(h0:0<=k)(hN:k+zcN.list.cn xs<=536870912)(hf:Bk.fit xs):zie xs k=some (zcN.list.wr k xs).1:=by
 have hh:=MkD.list_held zcN hH
 unfold zie
 simp only[jn,zal]
 rw[znB (xs:=xs) (q:=zcN.Held) (b:=zcN.cn) (N:=536870912) (Z:=fun k=>some k) (f:=fun m k i=>zfH xs (fun y1 _ _=>some y1) m k 0 i) (fun m k i x hx hq hk hkN=>by
  have hi:=zaq hx
  have ei:=zab hi (zdz hf)
  rw[<- zcN.fst k x]
  have hc:zcN.cn x=ziO.list.cn x.Parents+(1+(zg3.list.cn x.Tree)):=rfl
  have e0:=ziO.list.fst (k) x.Parents
  have e2:=zg3.list.fst ((ziO.list.wr (k) x.Parents).1+1) x.Tree
  obtain⟨f0,f1,f2⟩:=zhn hf hx
  have q0:ziO.list.Held (k) x.Parents:=congrArg Commit.Parents hq
  have q1:mt ((ziO.list.wr (k) x.Parents).1)=x.Who:=congrArg Commit.Who hq
  have q2:zg3.list.Held ((ziO.list.wr (k) x.Parents).1+1) x.Tree:=congrArg Commit.Tree hq
  simp only[zfH,zam hx,aD,aA,zac hx,ei,bne_self_eq_false,aC,ziN (show 0<=(ziO.list.wr (k) x.Parents).1 by omega) (show(ziO.list.wr (k) x.Parents).1<=536870912 by omega),zah (show -9223372036854775808<=(ziO.list.wr (k) x.Parents).1+1 by omega) (show(ziO.list.wr (k) x.Parents).1+1<=9223372036854775807 by omega),zwg q0 (show 0<=k by omega) (show k+ziO.list.cn x.Parents<=536870912 by omega) f0,aE (show ¬ (ziO.list.wr (k) x.Parents).1<0 by omega),q1,zuT q2 (show 0<=(ziO.list.wr (k) x.Parents).1+1 by omega) (show(ziO.list.wr (k) x.Parents).1+1+zg3.list.cn x.Tree<=536870912 by omega) f2,aE (show ¬ (zg3.list.wr ((ziO.list.wr (k) x.Parents).1+1) x.Tree).1<0 by omega)]
  try rfl) (fun m k=>by
  simp only[zfH,zad,aC]) (by omega) h0 hN hh,zcN.list.fst]
 rfl
theorem zuU {xs:List Head}{k:Int}(hH:zg4.list.Held k xs)(h0:0<=k)(hN:k+zg4.list.cn xs<=536870912)(hf:Bk.fit xs):zjA xs k=some (zg4.list.wr k xs).1:=by
 have hh:=MkD.list_held zg4 hH
 unfold zjA
 simp only[jn,zal]
 rw[znB (xs:=xs) (q:=zg4.Held) (b:=zg4.cn) (N:=536870912) (Z:=fun k=>some k) (f:=fun m k i=>zgD xs (fun y1 _ _=>some y1) m k 0 i) (fun m k i x hx hq hk hkN=>by
  have hi:=zaq hx
  have ei:=zab hi (zdz hf)
  rw[<- zg4.fst k x]
  have hc:zg4.cn x=1+(1):=rfl
  obtain⟨f0,f1⟩:=zhn hf hx
  have q0:mt (k)=x.Name:=congrArg Head.Name hq
  have q1:k+1=x.At:=congrArg Head.At hq
  simp only[zgD,zam hx,aD,aA,zac hx,ei,bne_self_eq_false,aC,ziN (show 0<=k by omega) (show k<=536870912 by omega),zah (show -9223372036854775808<=k+1 by omega) (show k+1<=9223372036854775807 by omega),zah (show -9223372036854775808<=k+1 by omega) (show k+1<=9223372036854775807 by omega),zah (show -9223372036854775808<=k+1+1 by omega) (show k+1+1<=9223372036854775807 by omega),q0,<- q1]
  try rfl) (fun m k=>by
  simp only[zgD,zad,aC]) (by omega) h0 hN hh,zg4.list.fst]
 rfl
theorem zmk {x:Repo}{k:Int}(hq:zaK.Held k x)(hk:0<=k)(hkN:k+zaK.cn x<=536870912)(hf:Bk.fit x):zfb x k=some (zaK.wr k x).1:=by
 unfold zfb
 have hc:zaK.cn x=zcN.list.cn x.Commits+(zg4.list.cn x.Heads):=rfl
 have e0:=zcN.list.fst (k) x.Commits
 have e1:=zg4.list.fst ((zcN.list.wr (k) x.Commits).1) x.Heads
 obtain⟨f0,f1⟩:=hf
 have q0:zcN.list.Held (k) x.Commits:=congrArg Repo.Commits hq
 have q1:zg4.list.Held ((zcN.list.wr (k) x.Commits).1) x.Heads:=congrArg Repo.Heads hq
 simp only[aA,bne_self_eq_false,aC,ztf q0 (show 0<=k by omega) (show k+zcN.list.cn x.Commits<=536870912 by omega) f0,aE (show ¬ (zcN.list.wr (k) x.Commits).1<0 by omega),zuU q1 (show 0<=(zcN.list.wr (k) x.Commits).1 by omega) (show(zcN.list.wr (k) x.Commits).1+zg4.list.cn x.Heads<=536870912 by omega) f1,aE (show ¬ (zg4.list.wr ((zcN.list.wr (k) x.Commits).1) x.Heads).1<0 by omega)]
 try rfl
end Go.Vm
