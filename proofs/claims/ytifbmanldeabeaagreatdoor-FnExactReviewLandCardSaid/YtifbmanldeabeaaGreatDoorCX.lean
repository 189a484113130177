/- Plain laws of the statements' own helpers: they count bulk, copy, compare, mark; printed by a program of ours. Conditions: each law's own premises. -/
import Derived.Test.YtifbmanldeabeaaGreatDoorCLw
import Derived.Test.YtifbmanldeabeaaGreatDoorCM1
namespace Go.Vm
open Go Go.Sx
set_option linter.unusedSimpArgs false
set_option linter.unusedVariables false
theorem zzr {xs:List Int}{n:Int}(hf:Bk.fit xs)(h0:0<=n)(hN:n<=1048576):zkO xs n=some (if(Bk.bulk xs:Int)<=n then n-Bk.bulk xs else -1):=by
 have hl:=zb6 hf
 unfold zkO
 have hw:w64 (n-(xs.length:Int))=n-xs.length:=zah (by unfold maxi at hl;omega) (by omega)
 have hb:(Bk.bulk xs:Int)=xs.length+sumB Bk.bulk xs:=by simp[Bk.bulk]
 simp only[hw,jn,zan]
 by_cases h:n-(xs.length:Int)<0
 ·rw[aF h,aD,if_neg (by omega)]
 ·rw[aE h,aC]
  have hz:sumB Bk.bulk xs=0:=by
   clear hb h hw hN h0 hl hf
   induction xs with
   |nil=>rfl
   |cons x xs ih=>show 0+sumB Bk.bulk xs=0;omega
  rw[if_pos (by omega)]
  congr 1;omega
theorem zsj {xs:List Str}{n:Int}(hf:Bk.fit xs)(h0:0<=n)(hN:n<=1048576):zeY xs n=some (if(Bk.bulk xs:Int)<=n then n-Bk.bulk xs else -1):=by
 have hl:=zb6 hf
 unfold zeY
 have hw:w64 (n-(xs.length:Int))=n-xs.length:=zah (by unfold maxi at hl;omega) (by omega)
 have hb:(Bk.bulk xs:Int)=xs.length+sumB Bk.bulk xs:=by simp[Bk.bulk]
 simp only[hw,jn,zan]
 by_cases h:n-(xs.length:Int)<0
 ·rw[aF h,aD,if_neg (by omega)]
 ·rw[aE h,aC]
  rw[zno (α:=Str) (xs:=xs) (b:=Bk.bulk) (N:=1048576) (r0:=some (-1)) (Z:=fun a=>some a) (f:=fun m a i=>zc7 xs (fun y2 _ _=>some y2) m a 0 i) (fun m a i x hx ha hA=>by
   have hx2:x.length<=maxi:=zgk hf hx
   have hw2:w64 (a-(x.length:Int))=a-x.length:=zah (by unfold maxi at hx2;omega) (by omega)
   simp only[zc7,zal hx,zad hx,aD,aA,hw2,zab (zau hx) hl]
   by_cases h1:a-(x.length:Int)<0
   ·rw[aF h1,aD,if_neg (by simp only[Bk.bulk];omega)]
   ·rw[aE h1,aC,if_pos (by simp only[Bk.bulk];omega)];rfl) (fun m a=>by
   simp only[zc7,zac,aC]) (by omega) (by omega) (by omega)]
  by_cases h2:(sumB Bk.bulk xs:Int)<=n-xs.length
  ·rw[if_pos h2,if_pos (by omega),hb];congr 1;omega
  ·rw[if_neg h2,if_neg (by omega)]
theorem zzs {x:File}{n:Int}(hf:Bk.fit x)(h0:0<=n)(hN:n<=1048576):zkP x n=some (if(Bk.bulk x:Int)<=n then n-Bk.bulk x else -1):=by
 obtain⟨f0,f1⟩:=hf
 have hb:Bk.bulk x=Bk.bulk x.Path+(Bk.bulk x.Text):=rfl
 have b0:Bk.bulk x.Path=x.Path.length:=rfl
 have g0:x.Path.length<=maxi:=f0
 unfold maxi at g0
 unfold zkP
 have w0:w64 (n-(x.Path.length:Int))=n-(x.Path.length:Int):=zah (by omega) (by omega)
 simp only[w0]
 by_cases h0:n-(x.Path.length:Int)<0
 case pos=>rw[aF h0,aD,if_neg (by omega)]
 rw[aE h0,aC]
 rw[zsj f1 (by omega) (by omega),aA]
 by_cases h1:(Bk.bulk x.Text:Int)<=n-(x.Path.length:Int)
 case neg=>rw[if_neg h1,if_neg (by omega)];rfl
 rw[if_pos h1,aE (by omega),aC]
 rw[if_pos (by omega)]
 congr 1<;>omega
theorem zxW {xs:List File}{n:Int}(hf:Bk.fit xs)(h0:0<=n)(hN:n<=1048576):zjW xs n=some (if(Bk.bulk xs:Int)<=n then n-Bk.bulk xs else -1):=by
 have hl:=zb6 hf
 unfold zjW
 have hw:w64 (n-(xs.length:Int))=n-xs.length:=zah (by unfold maxi at hl;omega) (by omega)
 have hb:(Bk.bulk xs:Int)=xs.length+sumB Bk.bulk xs:=by simp[Bk.bulk]
 simp only[hw,jn,zan]
 by_cases h:n-(xs.length:Int)<0
 ·rw[aF h,aD,if_neg (by omega)]
 ·rw[aE h,aC]
  rw[zno (α:=File) (xs:=xs) (b:=Bk.bulk) (N:=1048576) (r0:=some (-1)) (Z:=fun a=>some a) (f:=fun m a i=>zgo xs (fun y2 _ _=>some y2) m a 0 i) (fun m a i x hx ha hA=>by
   simp only[zgo,zal hx,zad hx,aD,aA,zzs (zgk hf hx) ha hA,zab (zau hx) hl]
   by_cases h1:(Bk.bulk x:Int)<=a
   ·rw[if_pos h1,aE (by omega),aC,if_pos h1]
   ·rw[if_neg h1,if_neg h1];rfl) (fun m a=>by
   simp only[zgo,zac,aC]) (by omega) (by omega) (by omega)]
  by_cases h2:(sumB Bk.bulk xs:Int)<=n-xs.length
  ·rw[if_pos h2,if_pos (by omega),hb];congr 1;omega
  ·rw[if_neg h2,if_neg (by omega)]
theorem zw4 {x:Commit}{n:Int}(hf:Bk.fit x)(h0:0<=n)(hN:n<=1048576):zi5 x n=some (if(Bk.bulk x:Int)<=n then n-Bk.bulk x else -1):=by
 obtain⟨f0,f1,f2⟩:=hf
 have hb:Bk.bulk x=Bk.bulk x.Parents+(Bk.bulk x.Who+(Bk.bulk x.Tree)):=rfl
 have b1:Bk.bulk x.Who=x.Who.length:=rfl
 have g1:x.Who.length<=maxi:=f1
 unfold maxi at g1
 unfold zi5
 rw[zzr f0 (by omega) (by omega),aA]
 by_cases h0:(Bk.bulk x.Parents:Int)<=n
 case neg=>rw[if_neg h0,if_neg (by omega)];rfl
 rw[if_pos h0,aE (by omega),aC]
 have w1:w64 (n-(Bk.bulk x.Parents:Int)-(x.Who.length:Int))=n-(Bk.bulk x.Parents:Int)-(x.Who.length:Int):=zah (by omega) (by omega)
 simp only[w1]
 by_cases h1:n-(Bk.bulk x.Parents:Int)-(x.Who.length:Int)<0
 case pos=>rw[aF h1,aD,if_neg (by omega)]
 rw[aE h1,aC]
 rw[zxW f2 (by omega) (by omega),aA]
 by_cases h2:(Bk.bulk x.Tree:Int)<=n-(Bk.bulk x.Parents:Int)-(x.Who.length:Int)
 case neg=>rw[if_neg h2,if_neg (by omega)];rfl
 rw[if_pos h2,aE (by omega),aC]
 rw[if_pos (by omega)]
 congr 1<;>omega
theorem zvE {xs:List Commit}{n:Int}(hf:Bk.fit xs)(h0:0<=n)(hN:n<=1048576):zh9 xs n=some (if(Bk.bulk xs:Int)<=n then n-Bk.bulk xs else -1):=by
 have hl:=zb6 hf
 unfold zh9
 have hw:w64 (n-(xs.length:Int))=n-xs.length:=zah (by unfold maxi at hl;omega) (by omega)
 have hb:(Bk.bulk xs:Int)=xs.length+sumB Bk.bulk xs:=by simp[Bk.bulk]
 simp only[hw,jn,zan]
 by_cases h:n-(xs.length:Int)<0
 ·rw[aF h,aD,if_neg (by omega)]
 ·rw[aE h,aC]
  rw[zno (α:=Commit) (xs:=xs) (b:=Bk.bulk) (N:=1048576) (r0:=some (-1)) (Z:=fun a=>some a) (f:=fun m a i=>zeK xs (fun y2 _ _=>some y2) m a 0 i) (fun m a i x hx ha hA=>by
   simp only[zeK,zal hx,zad hx,aD,aA,zw4 (zgk hf hx) ha hA,zab (zau hx) hl]
   by_cases h1:(Bk.bulk x:Int)<=a
   ·rw[if_pos h1,aE (by omega),aC,if_pos h1]
   ·rw[if_neg h1,if_neg h1];rfl) (fun m a=>by
   simp only[zeK,zac,aC]) (by omega) (by omega) (by omega)]
  by_cases h2:(sumB Bk.bulk xs:Int)<=n-xs.length
  ·rw[if_pos h2,if_pos (by omega),hb];congr 1;omega
  ·rw[if_neg h2,if_neg (by omega)]
theorem zzt {x:Head}{n:Int}(hf:Bk.fit x)(h0:0<=n)(hN:n<=1048576):zkQ x n=some (if(Bk.bulk x:Int)<=n then n-Bk.bulk x else -1):=by
 obtain⟨f0,f1⟩:=hf
 have hb:Bk.bulk x=Bk.bulk x.Name+(Bk.bulk x.At):=rfl
 have b0:Bk.bulk x.Name=x.Name.length:=rfl
 have g0:x.Name.length<=maxi:=f0
 unfold maxi at g0
 have b1:Bk.bulk x.At=0:=rfl
 unfold zkQ
 have w0:w64 (n-(x.Name.length:Int))=n-(x.Name.length:Int):=zah (by omega) (by omega)
 simp only[w0]
 by_cases h0:n-(x.Name.length:Int)<0
 case pos=>rw[aF h0,aD,if_neg (by omega)]
 rw[aE h0,aC]
 rw[if_pos (by omega)]
 congr 1<;>omega
theorem zxX {xs:List Head}{n:Int}(hf:Bk.fit xs)(h0:0<=n)(hN:n<=1048576):zjX xs n=some (if(Bk.bulk xs:Int)<=n then n-Bk.bulk xs else -1):=by
 have hl:=zb6 hf
 unfold zjX
 have hw:w64 (n-(xs.length:Int))=n-xs.length:=zah (by unfold maxi at hl;omega) (by omega)
 have hb:(Bk.bulk xs:Int)=xs.length+sumB Bk.bulk xs:=by simp[Bk.bulk]
 simp only[hw,jn,zan]
 by_cases h:n-(xs.length:Int)<0
 ·rw[aF h,aD,if_neg (by omega)]
 ·rw[aE h,aC]
  rw[zno (α:=Head) (xs:=xs) (b:=Bk.bulk) (N:=1048576) (r0:=some (-1)) (Z:=fun a=>some a) (f:=fun m a i=>zgp xs (fun y2 _ _=>some y2) m a 0 i) (fun m a i x hx ha hA=>by
   simp only[zgp,zal hx,zad hx,aD,aA,zzt (zgk hf hx) ha hA,zab (zau hx) hl]
   by_cases h1:(Bk.bulk x:Int)<=a
   ·rw[if_pos h1,aE (by omega),aC,if_pos h1]
   ·rw[if_neg h1,if_neg h1];rfl) (fun m a=>by
   simp only[zgp,zac,aC]) (by omega) (by omega) (by omega)]
  by_cases h2:(sumB Bk.bulk xs:Int)<=n-xs.length
  ·rw[if_pos h2,if_pos (by omega),hb];congr 1;omega
  ·rw[if_neg h2,if_neg (by omega)]
theorem zxY {x:Owner}{n:Int}(hf:Bk.fit x)(h0:0<=n)(hN:n<=1048576):zjY x n=some (if(Bk.bulk x:Int)<=n then n-Bk.bulk x else -1):=by
 obtain⟨f0,f1⟩:=hf
 have hb:Bk.bulk x=Bk.bulk x.Path+(Bk.bulk x.Who):=rfl
 have b0:Bk.bulk x.Path=x.Path.length:=rfl
 have g0:x.Path.length<=maxi:=f0
 unfold maxi at g0
 have b1:Bk.bulk x.Who=x.Who.length:=rfl
 have g1:x.Who.length<=maxi:=f1
 unfold maxi at g1
 unfold zjY
 have w0:w64 (n-(x.Path.length:Int))=n-(x.Path.length:Int):=zah (by omega) (by omega)
 simp only[w0]
 by_cases h0:n-(x.Path.length:Int)<0
 case pos=>rw[aF h0,aD,if_neg (by omega)]
 rw[aE h0,aC]
 have w1:w64 (n-(x.Path.length:Int)-(x.Who.length:Int))=n-(x.Path.length:Int)-(x.Who.length:Int):=zah (by omega) (by omega)
 simp only[w1]
 by_cases h1:n-(x.Path.length:Int)-(x.Who.length:Int)<0
 case pos=>rw[aF h1,aD,if_neg (by omega)]
 rw[aE h1,aC]
 rw[if_pos (by omega)]
 congr 1<;>omega
theorem ztJ {xs:List Owner}{n:Int}(hf:Bk.fit xs)(h0:0<=n)(hN:n<=1048576):zi6 xs n=some (if(Bk.bulk xs:Int)<=n then n-Bk.bulk xs else -1):=by
 have hl:=zb6 hf
 unfold zi6
 have hw:w64 (n-(xs.length:Int))=n-xs.length:=zah (by unfold maxi at hl;omega) (by omega)
 have hb:(Bk.bulk xs:Int)=xs.length+sumB Bk.bulk xs:=by simp[Bk.bulk]
 simp only[hw,jn,zan]
 by_cases h:n-(xs.length:Int)<0
 ·rw[aF h,aD,if_neg (by omega)]
 ·rw[aE h,aC]
  rw[zno (α:=Owner) (xs:=xs) (b:=Bk.bulk) (N:=1048576) (r0:=some (-1)) (Z:=fun a=>some a) (f:=fun m a i=>zfD xs (fun y2 _ _=>some y2) m a 0 i) (fun m a i x hx ha hA=>by
   simp only[zfD,zal hx,zad hx,aD,aA,zxY (zgk hf hx) ha hA,zab (zau hx) hl]
   by_cases h1:(Bk.bulk x:Int)<=a
   ·rw[if_pos h1,aE (by omega),aC,if_pos h1]
   ·rw[if_neg h1,if_neg h1];rfl) (fun m a=>by
   simp only[zfD,zac,aC]) (by omega) (by omega) (by omega)]
  by_cases h2:(sumB Bk.bulk xs:Int)<=n-xs.length
  ·rw[if_pos h2,if_pos (by omega),hb];congr 1;omega
  ·rw[if_neg h2,if_neg (by omega)]
theorem zw5 {x:Repo}{n:Int}(hf:Bk.fit x)(h0:0<=n)(hN:n<=1048576):zkR x n=some (if(Bk.bulk x:Int)<=n then n-Bk.bulk x else -1):=by
 obtain⟨f0,f1⟩:=hf
 have hb:Bk.bulk x=Bk.bulk x.Commits+(Bk.bulk x.Heads):=rfl
 unfold zkR
 rw[zvE f0 (by omega) (by omega),aA]
 by_cases h0:(Bk.bulk x.Commits:Int)<=n
 case neg=>rw[if_neg h0,if_neg (by omega)];rfl
 rw[if_pos h0,aE (by omega),aC]
 rw[zxX f1 (by omega) (by omega),aA]
 by_cases h1:(Bk.bulk x.Heads:Int)<=n-(Bk.bulk x.Commits:Int)
 case neg=>rw[if_neg h1,if_neg (by omega)];rfl
 rw[if_pos h1,aE (by omega),aC]
 rw[if_pos (by omega)]
 congr 1<;>omega
theorem ztK {x:Review}{n:Int}(hf:Bk.fit x)(h0:0<=n)(hN:n<=1048576):zi7 x n=some (if(Bk.bulk x:Int)<=n then n-Bk.bulk x else -1):=by
 obtain⟨f0,f1,f2,f3⟩:=hf
 have hb:Bk.bulk x=Bk.bulk x.Branch+(Bk.bulk x.Into+(Bk.bulk x.By+(Bk.bulk x.Yes))):=rfl
 have b0:Bk.bulk x.Branch=x.Branch.length:=rfl
 have g0:x.Branch.length<=maxi:=f0
 unfold maxi at g0
 have b1:Bk.bulk x.Into=x.Into.length:=rfl
 have g1:x.Into.length<=maxi:=f1
 unfold maxi at g1
 have b2:Bk.bulk x.By=x.By.length:=rfl
 have g2:x.By.length<=maxi:=f2
 unfold maxi at g2
 unfold zi7
 have w0:w64 (n-(x.Branch.length:Int))=n-(x.Branch.length:Int):=zah (by omega) (by omega)
 simp only[w0]
 by_cases h0:n-(x.Branch.length:Int)<0
 case pos=>rw[aF h0,aD,if_neg (by omega)]
 rw[aE h0,aC]
 have w1:w64 (n-(x.Branch.length:Int)-(x.Into.length:Int))=n-(x.Branch.length:Int)-(x.Into.length:Int):=zah (by omega) (by omega)
 simp only[w1]
 by_cases h1:n-(x.Branch.length:Int)-(x.Into.length:Int)<0
 case pos=>rw[aF h1,aD,if_neg (by omega)]
 rw[aE h1,aC]
 have w2:w64 (n-(x.Branch.length:Int)-(x.Into.length:Int)-(x.By.length:Int))=n-(x.Branch.length:Int)-(x.Into.length:Int)-(x.By.length:Int):=zah (by omega) (by omega)
 simp only[w2]
 by_cases h2:n-(x.Branch.length:Int)-(x.Into.length:Int)-(x.By.length:Int)<0
 case pos=>rw[aF h2,aD,if_neg (by omega)]
 rw[aE h2,aC]
 rw[zsj f3 (by omega) (by omega),aA]
 by_cases h3:(Bk.bulk x.Yes:Int)<=n-(x.Branch.length:Int)-(x.Into.length:Int)-(x.By.length:Int)
 case neg=>rw[if_neg h3,if_neg (by omega)];rfl
 rw[if_pos h3,aE (by omega),aC]
 rw[if_pos (by omega)]
 congr 1<;>omega
theorem zzu {xs:List Int}(h:Bk.bulk xs<=1048576):zkS xs=some xs:=by
 have hl:=zcO h
 unfold zkS
 simp only[zhY (zrm hl),jn,zan,aA]
 rw[zmi (g:=id) (Z:=fun ys=>some ys) (f:=fun m i out=>zg4 xs (fun _ y6=>some y6) m i out) (fun m i x out hx ho=>by
  have hi:=zau hx
  simp only[zg4,zal hx,zad hx,aD,aA,zab hi (zap hl),zbN (show i<out.length by omega),zad (aB (show i<out.length by omega)),id]) (fun m out=>by
  simp only[zg4,zac,aC]) (by omega)]
 simp
theorem zsk {xs:List Str}(h:Bk.bulk xs<=1048576):zeZ xs=some xs:=by
 have hl:=zcO h
 unfold zeZ
 simp only[zhY (zrm hl),jn,zan,aA]
 rw[zmi (g:=id) (Z:=fun ys=>some ys) (f:=fun m i out=>zc8 xs (fun _ y6=>some y6) m i out) (fun m i x out hx ho=>by
  have hi:=zau hx
  simp only[zc8,zal hx,zad hx,aD,aA,zab hi (zap hl),zbN (show i<out.length by omega),zad (aB (show i<out.length by omega)),id]) (fun m out=>by
  simp only[zc8,zac,aC]) (by omega)]
 simp
theorem zzv {x:File}(h:Bk.bulk x<=1048576):zkT x=some x:=by
 have hb:Bk.bulk x=Bk.bulk x.Path+(Bk.bulk x.Text):=rfl
 unfold zkT
 simp only[zsk (show Bk.bulk x.Text<=1048576 by omega),aA]
theorem zxZ {xs:List File}(h:Bk.bulk xs<=1048576):zjZ xs=some xs:=by
 have hl:=zcO h
 unfold zjZ
 simp only[zhY (zrm hl),jn,zan,aA]
 rw[zmi (g:=id) (Z:=fun ys=>some ys) (f:=fun m i out=>zgq xs (fun _ y6=>some y6) m i out) (fun m i x out hx ho=>by
  have hi:=zau hx
  simp only[zgq,zal hx,zad hx,aD,aA,zzv (zsB h hx),zab hi (zap hl),zbN (show i<out.length by omega),zad (aB (show i<out.length by omega)),id]) (fun m out=>by
  simp only[zgq,zac,aC]) (by omega)]
 simp
theorem zw6 {x:Commit}(h:Bk.bulk x<=1048576):zi8 x=some x:=by
 have hb:Bk.bulk x=Bk.bulk x.Parents+(Bk.bulk x.Who+(Bk.bulk x.Tree)):=rfl
 unfold zi8
 simp only[zzu (show Bk.bulk x.Parents<=1048576 by omega),zxZ (show Bk.bulk x.Tree<=1048576 by omega),aA]
theorem zvF {xs:List Commit}(h:Bk.bulk xs<=1048576):zia xs=some xs:=by
 have hl:=zcO h
 unfold zia
 simp only[zhY (zrm hl),jn,zan,aA]
 rw[zmi (g:=id) (Z:=fun ys=>some ys) (f:=fun m i out=>zeL xs (fun _ y6=>some y6) m i out) (fun m i x out hx ho=>by
  have hi:=zau hx
  simp only[zeL,zal hx,zad hx,aD,aA,zw6 (zsB h hx),zab hi (zap hl),zbN (show i<out.length by omega),zad (aB (show i<out.length by omega)),id]) (fun m out=>by
  simp only[zeL,zac,aC]) (by omega)]
 simp
theorem zzw {x:Head}(h:Bk.bulk x<=1048576):zkU x=some x:=by
 have hb:Bk.bulk x=Bk.bulk x.Name+(Bk.bulk x.At):=rfl
 unfold zkU
 rfl
theorem zx0 {xs:List Head}(h:Bk.bulk xs<=1048576):zj0 xs=some xs:=by
 have hl:=zcO h
 unfold zj0
 simp only[zhY (zrm hl),jn,zan,aA]
 rw[zmi (g:=id) (Z:=fun ys=>some ys) (f:=fun m i out=>zgr xs (fun _ y6=>some y6) m i out) (fun m i x out hx ho=>by
  have hi:=zau hx
  simp only[zgr,zal hx,zad hx,aD,aA,zzw (zsB h hx),zab hi (zap hl),zbN (show i<out.length by omega),zad (aB (show i<out.length by omega)),id]) (fun m out=>by
  simp only[zgr,zac,aC]) (by omega)]
 simp
theorem zx1 {x:Owner}(h:Bk.bulk x<=1048576):zj1 x=some x:=by
 have hb:Bk.bulk x=Bk.bulk x.Path+(Bk.bulk x.Who):=rfl
 unfold zj1
 rfl
theorem ztL {xs:List Owner}(h:Bk.bulk xs<=1048576):zfV xs=some xs:=by
 have hl:=zcO h
 unfold zfV
 simp only[zhY (zrm hl),jn,zan,aA]
 rw[zmi (g:=id) (Z:=fun ys=>some ys) (f:=fun m i out=>zfE xs (fun _ y6=>some y6) m i out) (fun m i x out hx ho=>by
  have hi:=zau hx
  simp only[zfE,zal hx,zad hx,aD,aA,zx1 (zsB h hx),zab hi (zap hl),zbN (show i<out.length by omega),zad (aB (show i<out.length by omega)),id]) (fun m out=>by
  simp only[zfE,zac,aC]) (by omega)]
 simp
theorem zw7 {x:Repo}(h:Bk.bulk x<=1048576):zhK x=some x:=by
 have hb:Bk.bulk x=Bk.bulk x.Commits+(Bk.bulk x.Heads):=rfl
 unfold zhK
 simp only[zvF (show Bk.bulk x.Commits<=1048576 by omega),zx0 (show Bk.bulk x.Heads<=1048576 by omega),aA]
theorem ztM {x:Review}(h:Bk.bulk x<=1048576):zfW x=some x:=by
 have hb:Bk.bulk x=Bk.bulk x.Branch+(Bk.bulk x.Into+(Bk.bulk x.By+(Bk.bulk x.Yes))):=rfl
 unfold zfW
 simp only[zsk (show Bk.bulk x.Yes<=1048576 by omega),aA]
theorem zzx {xs ys:List Int}(h:Bk.fit xs):zkV xs ys=some (xs==ys):=by
 have hl:=zb6 h
 unfold zkV
 simp only[zjI,jn,zan]
 by_cases hn:xs.length=ys.length
 ·rw[hn,aO,aK,aC,<- hn]
  rw[zjH (α:=Int) (r0:=some false) (Z:=some true) (f:=fun m i=>zg5 xs ys (fun _ _=>some true) m false i) hn (fun m i x y hx hy=>by
   simp only[zg5,zal hx,zad hx,zad hy,aD,aA,zab (zau hx) hl,bne]
   cases x==y<;>rfl) (fun m=>by simp only[zg5,zac,aC]) (by omega)]
  cases xs==ys<;>rfl
 ·rw[beq_false_of_ne hn,Bool.not_false,aD,beq_false_of_ne (fun e=>hn (by rw[e]))]
theorem zsl {xs ys:List Str}(h:Bk.fit xs):ze1 xs ys=some (xs==ys):=by
 have hl:=zb6 h
 unfold ze1
 simp only[zjI,jn,zan]
 by_cases hn:xs.length=ys.length
 ·rw[hn,aO,aK,aC,<- hn]
  rw[zjH (α:=Str) (r0:=some false) (Z:=some true) (f:=fun m i=>zc9 xs ys (fun _ _=>some true) m false i) hn (fun m i x y hx hy=>by
   simp only[zc9,zal hx,zad hx,zad hy,aD,aA,zab (zau hx) hl,bne]
   cases x==y<;>rfl) (fun m=>by simp only[zc9,zac,aC]) (by omega)]
  cases xs==ys<;>rfl
 ·rw[beq_false_of_ne hn,Bool.not_false,aD,beq_false_of_ne (fun e=>hn (by rw[e]))]
theorem zzy {x y:File}(h:Bk.fit x):zkW x y=some (x==y):=by
 obtain⟨f0,f1⟩:=h
 unfold zkW
 simp only[zsl f1,aA,bne]
 obtain⟨a0,a1⟩:=x
 obtain⟨b0,b1⟩:=y
 have:((⟨a0,a1⟩:File)==⟨b0,b1⟩)=(a0==b0&&(a1==b1)):=by
  have hb: ∀ b c:Bool,(b=true↔c=true)->b=c:=by decide
  apply hb
  simp
 rw[this]
 cases a0==b0<;>cases a1==b1<;>rfl
theorem zx2 {xs ys:List File}(h:Bk.fit xs):zj2 xs ys=some (xs==ys):=by
 have hl:=zb6 h
 unfold zj2
 simp only[zjI,jn,zan]
 by_cases hn:xs.length=ys.length
 ·rw[hn,aO,aK,aC,<- hn]
  rw[zjH (α:=File) (r0:=some false) (Z:=some true) (f:=fun m i=>zgs xs ys (fun _ _=>some true) m false i) hn (fun m i x y hx hy=>by
   simp only[zgs,zal hx,zad hx,zad hy,aD,aA,zab (zau hx) hl,zzy (zgk h hx)]
   cases x==y<;>rfl) (fun m=>by simp only[zgs,zac,aC]) (by omega)]
  cases xs==ys<;>rfl
 ·rw[beq_false_of_ne hn,Bool.not_false,aD,beq_false_of_ne (fun e=>hn (by rw[e]))]
theorem zw8 {x y:Commit}(h:Bk.fit x):zi9 x y=some (x==y):=by
 obtain⟨f0,f1,f2⟩:=h
 unfold zi9
 simp only[zzx f0,zx2 f2,aA,bne]
 obtain⟨a0,a1,a2⟩:=x
 obtain⟨b0,b1,b2⟩:=y
 have:((⟨a0,a1,a2⟩:Commit)==⟨b0,b1,b2⟩)=(a0==b0&&(a1==b1&&(a2==b2))):=by
  have hb: ∀ b c:Bool,(b=true↔c=true)->b=c:=by decide
  apply hb
  simp
 rw[this]
 cases a0==b0<;>cases a1==b1<;>cases a2==b2<;>rfl
theorem zvG {xs ys:List Commit}(h:Bk.fit xs):zic xs ys=some (xs==ys):=by
 have hl:=zb6 h
 unfold zic
 simp only[zjI,jn,zan]
 by_cases hn:xs.length=ys.length
 ·rw[hn,aO,aK,aC,<- hn]
  rw[zjH (α:=Commit) (r0:=some false) (Z:=some true) (f:=fun m i=>zeM xs ys (fun _ _=>some true) m false i) hn (fun m i x y hx hy=>by
   simp only[zeM,zal hx,zad hx,zad hy,aD,aA,zab (zau hx) hl,zw8 (zgk h hx)]
   cases x==y<;>rfl) (fun m=>by simp only[zeM,zac,aC]) (by omega)]
  cases xs==ys<;>rfl
 ·rw[beq_false_of_ne hn,Bool.not_false,aD,beq_false_of_ne (fun e=>hn (by rw[e]))]
theorem zzz {x y:Head}(h:Bk.fit x):zkX x y=some (x==y):=by
 obtain⟨f0,f1⟩:=h
 unfold zkX
 simp only[aA,bne]
 obtain⟨a0,a1⟩:=x
 obtain⟨b0,b1⟩:=y
 have:((⟨a0,a1⟩:Head)==⟨b0,b1⟩)=(a0==b0&&(a1==b1)):=by
  have hb: ∀ b c:Bool,(b=true↔c=true)->b=c:=by decide
  apply hb
  simp
 rw[this]
 cases a0==b0<;>cases a1==b1<;>rfl
theorem zx3 {xs ys:List Head}(h:Bk.fit xs):zj3 xs ys=some (xs==ys):=by
 have hl:=zb6 h
 unfold zj3
 simp only[zjI,jn,zan]
 by_cases hn:xs.length=ys.length
 ·rw[hn,aO,aK,aC,<- hn]
  rw[zjH (α:=Head) (r0:=some false) (Z:=some true) (f:=fun m i=>zgt xs ys (fun _ _=>some true) m false i) hn (fun m i x y hx hy=>by
   simp only[zgt,zal hx,zad hx,zad hy,aD,aA,zab (zau hx) hl,zzz (zgk h hx)]
   cases x==y<;>rfl) (fun m=>by simp only[zgt,zac,aC]) (by omega)]
  cases xs==ys<;>rfl
 ·rw[beq_false_of_ne hn,Bool.not_false,aD,beq_false_of_ne (fun e=>hn (by rw[e]))]
theorem zx4 {x y:Owner}(h:Bk.fit x):zj4 x y=some (x==y):=by
 obtain⟨f0,f1⟩:=h
 unfold zj4
 simp only[aA,bne]
 obtain⟨a0,a1⟩:=x
 obtain⟨b0,b1⟩:=y
 have:((⟨a0,a1⟩:Owner)==⟨b0,b1⟩)=(a0==b0&&(a1==b1)):=by
  have hb: ∀ b c:Bool,(b=true↔c=true)->b=c:=by decide
  apply hb
  simp
 rw[this]
 cases a0==b0<;>cases a1==b1<;>rfl
theorem ztN {xs ys:List Owner}(h:Bk.fit xs):zja xs ys=some (xs==ys):=by
 have hl:=zb6 h
 unfold zja
 simp only[zjI,jn,zan]
 by_cases hn:xs.length=ys.length
 ·rw[hn,aO,aK,aC,<- hn]
  rw[zjH (α:=Owner) (r0:=some false) (Z:=some true) (f:=fun m i=>zfF xs ys (fun _ _=>some true) m false i) hn (fun m i x y hx hy=>by
   simp only[zfF,zal hx,zad hx,zad hy,aD,aA,zab (zau hx) hl,zx4 (zgk h hx)]
   cases x==y<;>rfl) (fun m=>by simp only[zfF,zac,aC]) (by omega)]
  cases xs==ys<;>rfl
 ·rw[beq_false_of_ne hn,Bool.not_false,aD,beq_false_of_ne (fun e=>hn (by rw[e]))]
theorem zsV {x y:Repo}(h:Bk.fit x):zhL x y=some (x==y):=by
 obtain⟨f0,f1⟩:=h
 unfold zhL
 simp only[zvG f0,zx3 f1,aA,bne]
 obtain⟨a0,a1⟩:=x
 obtain⟨b0,b1⟩:=y
 have:((⟨a0,a1⟩:Repo)==⟨b0,b1⟩)=(a0==b0&&(a1==b1)):=by
  have hb: ∀ b c:Bool,(b=true↔c=true)->b=c:=by decide
  apply hb
  simp
 rw[this]
 cases a0==b0<;>cases a1==b1<;>rfl
theorem ztO {x y:Review}(h:Bk.fit x):zjb x y=some (x==y):=by
 obtain⟨f0,f1,f2,f3⟩:=h
 unfold zjb
 simp only[zsl f3,aA,bne]
 obtain⟨a0,a1,a2,a3⟩:=x
 obtain⟨b0,b1,b2,b3⟩:=y
 have:((⟨a0,a1,a2,a3⟩:Review)==⟨b0,b1,b2,b3⟩)=(a0==b0&&(a1==b1&&(a2==b2&&(a3==b3)))):=by
  have hb: ∀ b c:Bool,(b=true↔c=true)->b=c:=by decide
  apply hb
  simp
 rw[this]
 cases a0==b0<;>cases a1==b1<;>cases a2==b2<;>cases a3==b3<;>rfl
theorem zBh {k:Int}(h:0<k):0<=Int.tdiv k 10/\Int.tdiv k 10<=k-1/\0<=Int.tmod k 10/\Int.tmod k 10<=9:=by
 obtain⟨n,rfl⟩:=Int.eq_ofNat_of_zero_le (show 0<=k by omega)
 have h1:Int.tdiv (n:Int) 10=((n / 10:Nat):Int):=rfl
 have h2:Int.tmod (n:Int) 10=((n % 10:Nat):Int):=rfl
 rw[h1,h2]
 omega
theorem znE {K:Int->Str->Option Str}(hK: ∀ (k:Int) (s:Str),s.length<=1073741824 -> ∃ t,K k s=some t/\t.length<=2000000000):
 ∀ (m:Nat) (k:Int) (out:Str),0<=k->k<m->out.length+k<=1073741824 -> ∃ t,zez K m k out=some t/\t.length<=2000000000
 |0,k,out,h0,hm,hl=>by omega
 |m+1,k,out,h0,hm,hl=>by
  simp only[zez]
  by_cases hk:0<k
  ·obtain⟨h1,h2,h3,h4⟩:=zBh hk
   have hs:saM (([(by8 (w64 (48+(Int.tmod k 10))))]:List Byte):Str) out=some ((by8 (w64 (48+(Int.tmod k 10))))::out):=by
    unfold saM
    rw[if_pos]
    ·rfl
    ·show 1+out.length<=4294967296
     omega
   rw[aF hk,aD,hs,aA,zah (by omega) (by omega)]
   exact znE hK m _ _ h1 (by omega) (by simp only[List.length_append,aL,List.length_nil];omega)
  ·rw[aE hk,aC]
   exact hK k out (by omega)
/-- The text of a mark. -/
def mt (k:Int):Str:=((zbg k).getD []).take 2000000000
theorem zg7 {k:Int}(h0:0<=k)(hN:k<=536870912):zbg k=some (mt k):=by
 have: ∃ t,zbg k=some t/\t.length<=2000000000:=by
  unfold zbg
  by_cases hk:k<=0
  ·rw[aF hk];exact⟨_,rfl,by simp⟩
  ·rw[aE hk,aC]
   simp only[jn]
   refine znE (fun k s hs=>?_) _ k _ h0 (by omega) (by simp;omega)
   refine⟨[109]++s,?_,by simp;omega⟩
   have:saM ([109]:Str) s=some ([109]++s):=by
    unfold saM
    rw[if_pos]
    simp only[aL,List.length_nil,lim]
    omega
   rw[this,aA]
 obtain⟨t,ht,hl⟩:=this
 unfold mt
 rw[ht]
 show some t=some (t.take 2000000000)
 rw[List.take_of_length_le hl]
def mb (k:Int):Bool:=Int.tmod k 3==0
def ziu:MkD Str:=MkD.one mt
def zg8:MkD Int:=MkD.one (fun k=>k)
def zyw:MkD Bool:=MkD.one mb
theorem zvd (xs:List Str):ziu.list.cn xs=xs.length:=by
 show sumB (fun _=>1) xs=xs.length
 induction xs with
 |nil=>rfl
 |cons y ys ih=>simp only[sumB,ih,aL];omega
theorem zmm:ziu.Fits:=MkD.fits_one fun k _ _=>by
 show(((zbg k).getD []).take 2000000000).length<=maxi
 rw[List.length_take]
 unfold maxi
 omega
theorem ztP:zg8.Fits:=MkD.fits_one fun k h0 hN=>⟨by omega,by omega⟩
theorem zAi:zyw.Fits:=MkD.fits_one fun _ _ _=>trivial
theorem zmn:ziu.Few 1:=MkD.few_one
theorem ztQ:zg8.Few 1:=MkD.few_one
theorem zAj:zyw.Few 1:=MkD.few_one
def zfm:MkD File:=MkD.via (MkD.pair ziu ziu.list) (fun x=>(x.Path,x.Text)) (fun p=>⟨p.1,p.2⟩) (fun _=>rfl)
theorem zuy:zfm.Fits:=MkD.fits_via (MkD.fits_pair zmm (MkD.fits_list zmm)) (fun _ h=>h) (fun _ h=>h)
theorem zuz:zfm.Few 2:=MkD.few_via (MkD.few_pair zmn (MkD.few_list zmn)) (fun _=>rfl)
def zbx:MkD Commit:=MkD.via (MkD.pair zg8.list (MkD.pair ziu zfm.list)) (fun x=>(x.Parents,(x.Who,x.Tree))) (fun p=>⟨p.1,p.2.1,p.2.2⟩) (fun _=>rfl)
theorem zsW:zbx.Fits:=MkD.fits_via (MkD.fits_pair (MkD.fits_list ztP) (MkD.fits_pair zmm (MkD.fits_list zuy))) (fun _ h=>h) (fun _ h=>h)
theorem zsX:zbx.Few 4:=MkD.few_via (MkD.few_pair (MkD.few_list ztQ) (MkD.few_pair zmn (MkD.few_list zuz))) (fun _=>rfl)
theorem zw9 {xs:List Int}{k:Int}(h0:0<=k)(hN:k+zg8.list.cn xs<=536870912)(hf:Bk.fit xs):zjc xs k=some (zg8.list.wr k xs):=by
 unfold zjc
 simp only[jn,zan]
 rw[zmj (xs:=xs) (g:=zg8.wr) (b:=zg8.cn) (N:=536870912) (Z:=fun k out=>some (k,out)) (f:=fun m k i out=>zfG (fun y1 _ y3=>some (y1,y3)) m k i out) zg8.fst (fun m k i x out hx ho hlen hk hkN=>by
  have hi:=zau hx
  have hi':i<out.length:=by omega
  have ei:=zab hi (zb6 hf)
  have hc:k+1<=536870912:=hkN
  simp only[zfG,zal ho,aD,aA,zad ho,zbN hi',zad (setAt hi'),zbN (show i< (out.set i _).length by simpa using hi'),List.set_set,ei,zah (show -9223372036854775808<=k+1 by omega) (show k+1<=9223372036854775807 by omega),zah (show -9223372036854775808<=k by omega) (show k<=9223372036854775807 by omega)]
  try rfl) (fun m k out hl=>by
  simp only[zfG,<- hl,zac,aC]) (by omega) h0 hN]
 rfl
theorem zqw {xs:List Str}{k:Int}(h0:0<=k)(hN:k+ziu.list.cn xs<=536870912)(hf:Bk.fit xs):zdw xs k=some (ziu.list.wr k xs):=by
 unfold zdw
 simp only[jn,zan]
 rw[zmj (xs:=xs) (g:=ziu.wr) (b:=ziu.cn) (N:=536870912) (Z:=fun k out=>some (k,out)) (f:=fun m k i out=>zb8 (fun y1 _ y3=>some (y1,y3)) m k i out) ziu.fst (fun m k i x out hx ho hlen hk hkN=>by
  have hi:=zau hx
  have hi':i<out.length:=by omega
  have ei:=zab hi (zb6 hf)
  have hc:k+1<=536870912:=hkN
  simp only[zb8,zal ho,aD,aA,zad ho,zbN hi',zad (setAt hi'),zbN (show i< (out.set i _).length by simpa using hi'),List.set_set,ei,zg7 hk (by omega),zah (show -9223372036854775808<=k+1 by omega) (show k+1<=9223372036854775807 by omega)]
  try rfl) (fun m k out hl=>by
  simp only[zb8,<- hl,zac,aC]) (by omega) h0 hN]
 rfl
theorem zvH {xs:List File}{k:Int}(h0:0<=k)(hN:k+zfm.list.cn xs<=536870912)(hf:Bk.fit xs):zid xs k=some (zfm.list.wr k xs):=by
 unfold zid
 simp only[jn,zan]
 rw[zmj (xs:=xs) (g:=zfm.wr) (b:=zfm.cn) (N:=536870912) (Z:=fun k out=>some (k,out)) (f:=fun m k i out=>zeN (fun y1 _ y3=>some (y1,y3)) m k i out) zfm.fst (fun m k i x out hx ho hlen hk hkN=>by
  have hi:=zau hx
  have hi':i<out.length:=by omega
  have ei:=zab hi (zb6 hf)
  have hc:zfm.cn x=1+(ziu.list.cn x.Text):=rfl
  have e1:=ziu.list.fst (k+1) x.Text
  obtain⟨f0,f1⟩:=zgk hf hx
  simp only[zeN,zal ho,aD,aA,zad ho,zbN hi',zad (setAt hi'),zbN (show i< (out.set i _).length by simpa using hi'),List.set_set,ei,zg7 (show 0<=k by omega) (show k<=536870912 by omega),zah (show -9223372036854775808<=k+1 by omega) (show k+1<=9223372036854775807 by omega),zqw (k:=k+1) (show 0<=k+1 by omega) (show k+1+ziu.list.cn x.Text<=536870912 by omega) f1]
  try rfl) (fun m k out hl=>by
  simp only[zeN,<- hl,zac,aC]) (by omega) h0 hN]
 rfl
theorem ztR {xs:List Commit}{k:Int}(h0:0<=k)(hN:k+zbx.list.cn xs<=536870912)(hf:Bk.fit xs):zgH xs k=some (zbx.list.wr k xs):=by
 unfold zgH
 simp only[jn,zan]
 rw[zmj (xs:=xs) (g:=zbx.wr) (b:=zbx.cn) (N:=536870912) (Z:=fun k out=>some (k,out)) (f:=fun m k i out=>zd0 (fun y1 _ y3=>some (y1,y3)) m k i out) zbx.fst (fun m k i x out hx ho hlen hk hkN=>by
  have hi:=zau hx
  have hi':i<out.length:=by omega
  have ei:=zab hi (zb6 hf)
  have hc:zbx.cn x=zg8.list.cn x.Parents+(1+(zfm.list.cn x.Tree)):=rfl
  have e0:=zg8.list.fst (k) x.Parents
  have e2:=zfm.list.fst ((zg8.list.wr (k) x.Parents).1+1) x.Tree
  obtain⟨f0,f1,f2⟩:=zgk hf hx
  simp only[zd0,zal ho,aD,aA,zad ho,zbN hi',zad (setAt hi'),zbN (show i< (out.set i _).length by simpa using hi'),List.set_set,ei,zw9 (k:=k) (show 0<=k by omega) (show k+zg8.list.cn x.Parents<=536870912 by omega) f0,zg7 (show 0<=(zg8.list.wr (k) x.Parents).1 by omega) (show(zg8.list.wr (k) x.Parents).1<=536870912 by omega),zah (show -9223372036854775808<=(zg8.list.wr (k) x.Parents).1+1 by omega) (show(zg8.list.wr (k) x.Parents).1+1<=9223372036854775807 by omega),zvH (k:=(zg8.list.wr (k) x.Parents).1+1) (show 0<=(zg8.list.wr (k) x.Parents).1+1 by omega) (show(zg8.list.wr (k) x.Parents).1+1+zfm.list.cn x.Tree<=536870912 by omega) f2]
  try rfl) (fun m k out hl=>by
  simp only[zd0,<- hl,zac,aC]) (by omega) h0 hN]
 rfl
def zfn:MkD Head:=MkD.via (MkD.pair ziu zg8) (fun x=>(x.Name,x.At)) (fun p=>⟨p.1,p.2⟩) (fun _=>rfl)
theorem zuA:zfn.Fits:=MkD.fits_via (MkD.fits_pair zmm ztP) (fun _ h=>h) (fun _ h=>h)
theorem zuB:zfn.Few 2:=MkD.few_via (MkD.few_pair zmn ztQ) (fun _=>rfl)
theorem zvI {xs:List Head}{k:Int}(h0:0<=k)(hN:k+zfn.list.cn xs<=536870912)(hf:Bk.fit xs):zie xs k=some (zfn.list.wr k xs):=by
 unfold zie
 simp only[jn,zan]
 rw[zmj (xs:=xs) (g:=zfn.wr) (b:=zfn.cn) (N:=536870912) (Z:=fun k out=>some (k,out)) (f:=fun m k i out=>zeO (fun y1 _ y3=>some (y1,y3)) m k i out) zfn.fst (fun m k i x out hx ho hlen hk hkN=>by
  have hi:=zau hx
  have hi':i<out.length:=by omega
  have ei:=zab hi (zb6 hf)
  have hc:zfn.cn x=1+(1):=rfl
  obtain⟨f0,f1⟩:=zgk hf hx
  simp only[zeO,zal ho,aD,aA,zad ho,zbN hi',zad (setAt hi'),zbN (show i< (out.set i _).length by simpa using hi'),List.set_set,ei,zg7 (show 0<=k by omega) (show k<=536870912 by omega),zah (show -9223372036854775808<=k+1 by omega) (show k+1<=9223372036854775807 by omega),zah (show -9223372036854775808<=k+1 by omega) (show k+1<=9223372036854775807 by omega),zah (show -9223372036854775808<=k+1+1 by omega) (show k+1+1<=9223372036854775807 by omega)]
  try rfl) (fun m k out hl=>by
  simp only[zeO,<- hl,zac,aC]) (by omega) h0 hN]
 rfl
def zgu:MkD Owner:=MkD.via (MkD.pair ziu ziu) (fun x=>(x.Path,x.Who)) (fun p=>⟨p.1,p.2⟩) (fun _=>rfl)
theorem zyx:zgu.Fits:=MkD.fits_via (MkD.fits_pair zmm zmm) (fun _ h=>h) (fun _ h=>h)
theorem zqx:zgu.Few 2:=MkD.few_via (MkD.few_pair zmn zmn) (fun _=>rfl)
theorem zrG {xs:List Owner}{k:Int}(h0:0<=k)(hN:k+zgu.list.cn xs<=536870912)(hf:Bk.fit xs):zhu xs k=some (zgu.list.wr k xs):=by
 unfold zhu
 simp only[jn,zan]
 rw[zmj (xs:=xs) (g:=zgu.wr) (b:=zgu.cn) (N:=536870912) (Z:=fun k out=>some (k,out)) (f:=fun m k i out=>zeu (fun y1 _ y3=>some (y1,y3)) m k i out) zgu.fst (fun m k i x out hx ho hlen hk hkN=>by
  have hi:=zau hx
  have hi':i<out.length:=by omega
  have ei:=zab hi (zb6 hf)
  have hc:zgu.cn x=1+(1):=rfl
  obtain⟨f0,f1⟩:=zgk hf hx
  simp only[zeu,zal ho,aD,aA,zad ho,zbN hi',zad (setAt hi'),zbN (show i< (out.set i _).length by simpa using hi'),List.set_set,ei,zg7 (show 0<=k by omega) (show k<=536870912 by omega),zah (show -9223372036854775808<=k+1 by omega) (show k+1<=9223372036854775807 by omega),zg7 (show 0<=k+1 by omega) (show k+1<=536870912 by omega),zah (show -9223372036854775808<=k+1+1 by omega) (show k+1+1<=9223372036854775807 by omega)]
  try rfl) (fun m k out hl=>by
  simp only[zeu,<- hl,zac,aC]) (by omega) h0 hN]
 rfl
def zdk:MkD Repo:=MkD.via (MkD.pair zbx.list zfn.list) (fun x=>(x.Commits,x.Heads)) (fun p=>⟨p.1,p.2⟩) (fun _=>rfl)
theorem zrH:zdk.Fits:=MkD.fits_via (MkD.fits_pair (MkD.fits_list zsW) (MkD.fits_list zuA)) (fun _ h=>h) (fun _ h=>h)
theorem znD:zdk.Few 6:=MkD.few_via (MkD.few_pair (MkD.few_list zsX) (MkD.few_list zuB)) (fun _=>rfl)
theorem zpS {x:Repo}{k:Int}(hk:0<=k)(hkN:k+zdk.cn x<=536870912)(hf:Bk.fit x):zhM x k=some (zdk.wr k x):=by
 unfold zhM
 have hc:zdk.cn x=zbx.list.cn x.Commits+(zfn.list.cn x.Heads):=rfl
 have e0:=zbx.list.fst (k) x.Commits
 have e1:=zfn.list.fst ((zbx.list.wr (k) x.Commits).1) x.Heads
 obtain⟨f0,f1⟩:=hf
 simp only[aA,ztR (k:=k) (show 0<=k by omega) (show k+zbx.list.cn x.Commits<=536870912 by omega) f0,zvI (k:=(zbx.list.wr (k) x.Commits).1) (show 0<=(zbx.list.wr (k) x.Commits).1 by omega) (show(zbx.list.wr (k) x.Commits).1+zfn.list.cn x.Heads<=536870912 by omega) f1]
 try rfl
def zi0:MkD Review:=MkD.via (MkD.pair MkD.keep (MkD.pair MkD.keep (MkD.pair MkD.keep ziu.list))) (fun x=>(x.Branch,(x.Into,(x.By,x.Yes)))) (fun p=>⟨p.1,p.2.1,p.2.2.1,p.2.2.2⟩) (fun _=>rfl)
theorem zx5:zi0.Fits:=MkD.fits_via (MkD.fits_pair MkD.fits_keep (MkD.fits_pair MkD.fits_keep (MkD.fits_pair MkD.fits_keep (MkD.fits_list zmm)))) (fun _ h=>h) (fun _ h=>h)
theorem zx6:zi0.Few 1:=MkD.few_via (MkD.few_pair MkD.few_keep (MkD.few_pair MkD.few_keep (MkD.few_pair MkD.few_keep (MkD.few_list zmn)))) (fun _=>rfl)
theorem zrI {x:Review}{k:Int}(hk:0<=k)(hkN:k+zi0.cn x<=536870912)(hf:Bk.fit x):zhv x k=some (zi0.wr k x):=by
 unfold zhv
 have hc:zi0.cn x=0+(0+(0+(ziu.list.cn x.Yes))):=rfl
 have e3:=ziu.list.fst (k) x.Yes
 obtain⟨f0,f1,f2,f3⟩:=hf
 simp only[aA,zqw (k:=k) (show 0<=k by omega) (show k+ziu.list.cn x.Yes<=536870912 by omega) f3]
 try rfl
theorem zxa {xs:List Int}{k:Int}(hH:zg8.list.Held k xs)(h0:0<=k)(hN:k+zg8.list.cn xs<=536870912)(hf:Bk.fit xs):zjd xs k=some (zg8.list.wr k xs).1:=by
 have hh:=MkD.list_held zg8 hH
 unfold zjd
 simp only[jn,zan]
 rw[znp (xs:=xs) (q:=zg8.Held) (b:=zg8.cn) (N:=536870912) (Z:=fun k=>some k) (f:=fun m k i=>zfH xs (fun y1 _ _=>some y1) m k 0 i) (fun m k i x hx hq hk hkN=>by
  have hi:=zau hx
  have ei:=zab hi (zb6 hf)
  rw[<- zg8.fst k x]
  have hc:k+1<=536870912:=hkN
  have q0:k=x:=hq
  simp only[zfH,zal hx,aD,aA,zad hx,ei,bne_self_eq_false,aC,zah (show -9223372036854775808<=k by omega) (show k<=9223372036854775807 by omega),<- q0,zah (show -9223372036854775808<=k+1 by omega) (show k+1<=9223372036854775807 by omega)]
  try rfl) (fun m k=>by
  simp only[zfH,zac,aC]) (by omega) h0 hN hh,zg8.list.fst]
 rfl
theorem ztS {xs:List Str}{k:Int}(hH:ziu.list.Held k xs)(h0:0<=k)(hN:k+ziu.list.cn xs<=536870912)(hf:Bk.fit xs):zeA xs k=some (ziu.list.wr k xs).1:=by
 have hh:=MkD.list_held ziu hH
 unfold zeA
 simp only[jn,zan]
 rw[znp (xs:=xs) (q:=ziu.Held) (b:=ziu.cn) (N:=536870912) (Z:=fun k=>some k) (f:=fun m k i=>zb9 xs (fun y1 _ _=>some y1) m k 0 i) (fun m k i x hx hq hk hkN=>by
  have hi:=zau hx
  have ei:=zab hi (zb6 hf)
  rw[<- ziu.fst k x]
  have hc:k+1<=536870912:=hkN
  have q0:mt k=x:=hq
  simp only[zb9,zal hx,aD,aA,zad hx,ei,bne_self_eq_false,aC,zg7 hk (by omega),q0,zah (show -9223372036854775808<=k+1 by omega) (show k+1<=9223372036854775807 by omega)]
  try rfl) (fun m k=>by
  simp only[zb9,zac,aC]) (by omega) h0 hN hh,ziu.list.fst]
 rfl
theorem zvJ {xs:List File}{k:Int}(hH:zfm.list.Held k xs)(h0:0<=k)(hN:k+zfm.list.cn xs<=536870912)(hf:Bk.fit xs):zif xs k=some (zfm.list.wr k xs).1:=by
 have hh:=MkD.list_held zfm hH
 unfold zif
 simp only[jn,zan]
 rw[znp (xs:=xs) (q:=zfm.Held) (b:=zfm.cn) (N:=536870912) (Z:=fun k=>some k) (f:=fun m k i=>zeP xs (fun y1 _ _=>some y1) m k 0 i) (fun m k i x hx hq hk hkN=>by
  have hi:=zau hx
  have ei:=zab hi (zb6 hf)
  rw[<- zfm.fst k x]
  have hc:zfm.cn x=1+(ziu.list.cn x.Text):=rfl
  have e1:=ziu.list.fst (k+1) x.Text
  obtain⟨f0,f1⟩:=zgk hf hx
  have q0:mt (k)=x.Path:=congrArg File.Path hq
  have q1:ziu.list.Held (k+1) x.Text:=congrArg File.Text hq
  simp only[zeP,zal hx,aD,aA,zad hx,ei,bne_self_eq_false,aC,zg7 (show 0<=k by omega) (show k<=536870912 by omega),zah (show -9223372036854775808<=k+1 by omega) (show k+1<=9223372036854775807 by omega),q0,ztS q1 (show 0<=k+1 by omega) (show k+1+ziu.list.cn x.Text<=536870912 by omega) f1,aE (show ¬ (ziu.list.wr (k+1) x.Text).1<0 by omega)]
  try rfl) (fun m k=>by
  simp only[zeP,zac,aC]) (by omega) h0 hN hh,zfm.list.fst]
 rfl
theorem ztT {xs:List Commit}{k:Int}(hH:zbx.list.Held k xs)(h0:0<=k)(hN:k+zbx.list.cn xs<=536870912)(hf:Bk.fit xs):zgI xs k=some (zbx.list.wr k xs).1:=by
 have hh:=MkD.list_held zbx hH
 unfold zgI
 simp only[jn,zan]
 rw[znp (xs:=xs) (q:=zbx.Held) (b:=zbx.cn) (N:=536870912) (Z:=fun k=>some k) (f:=fun m k i=>zd1 xs (fun y1 _ _=>some y1) m k 0 i) (fun m k i x hx hq hk hkN=>by
  have hi:=zau hx
  have ei:=zab hi (zb6 hf)
  rw[<- zbx.fst k x]
  have hc:zbx.cn x=zg8.list.cn x.Parents+(1+(zfm.list.cn x.Tree)):=rfl
  have e0:=zg8.list.fst (k) x.Parents
  have e2:=zfm.list.fst ((zg8.list.wr (k) x.Parents).1+1) x.Tree
  obtain⟨f0,f1,f2⟩:=zgk hf hx
  have q0:zg8.list.Held (k) x.Parents:=congrArg Commit.Parents hq
  have q1:mt ((zg8.list.wr (k) x.Parents).1)=x.Who:=congrArg Commit.Who hq
  have q2:zfm.list.Held ((zg8.list.wr (k) x.Parents).1+1) x.Tree:=congrArg Commit.Tree hq
  simp only[zd1,zal hx,aD,aA,zad hx,ei,bne_self_eq_false,aC,zg7 (show 0<=(zg8.list.wr (k) x.Parents).1 by omega) (show(zg8.list.wr (k) x.Parents).1<=536870912 by omega),zah (show -9223372036854775808<=(zg8.list.wr (k) x.Parents).1+1 by omega) (show(zg8.list.wr (k) x.Parents).1+1<=9223372036854775807 by omega),zxa q0 (show 0<=k by omega) (show k+zg8.list.cn x.Parents<=536870912 by omega) f0,aE (show ¬ (zg8.list.wr (k) x.Parents).1<0 by omega),q1,zvJ q2 (show 0<=(zg8.list.wr (k) x.Parents).1+1 by omega) (show(zg8.list.wr (k) x.Parents).1+1+zfm.list.cn x.Tree<=536870912 by omega) f2,aE (show ¬ (zfm.list.wr ((zg8.list.wr (k) x.Parents).1+1) x.Tree).1<0 by omega)]
  try rfl) (fun m k=>by
  simp only[zd1,zac,aC]) (by omega) h0 hN hh,zbx.list.fst]
 rfl
theorem zvK {xs:List Head}{k:Int}(hH:zfn.list.Held k xs)(h0:0<=k)(hN:k+zfn.list.cn xs<=536870912)(hf:Bk.fit xs):zig xs k=some (zfn.list.wr k xs).1:=by
 have hh:=MkD.list_held zfn hH
 unfold zig
 simp only[jn,zan]
 rw[znp (xs:=xs) (q:=zfn.Held) (b:=zfn.cn) (N:=536870912) (Z:=fun k=>some k) (f:=fun m k i=>zeQ xs (fun y1 _ _=>some y1) m k 0 i) (fun m k i x hx hq hk hkN=>by
  have hi:=zau hx
  have ei:=zab hi (zb6 hf)
  rw[<- zfn.fst k x]
  have hc:zfn.cn x=1+(1):=rfl
  obtain⟨f0,f1⟩:=zgk hf hx
  have q0:mt (k)=x.Name:=congrArg Head.Name hq
  have q1:k+1=x.At:=congrArg Head.At hq
  simp only[zeQ,zal hx,aD,aA,zad hx,ei,bne_self_eq_false,aC,zg7 (show 0<=k by omega) (show k<=536870912 by omega),zah (show -9223372036854775808<=k+1 by omega) (show k+1<=9223372036854775807 by omega),zah (show -9223372036854775808<=k+1 by omega) (show k+1<=9223372036854775807 by omega),zah (show -9223372036854775808<=k+1+1 by omega) (show k+1+1<=9223372036854775807 by omega),q0,<- q1]
  try rfl) (fun m k=>by
  simp only[zeQ,zac,aC]) (by omega) h0 hN hh,zfn.list.fst]
 rfl
theorem ztU {x:Repo}{k:Int}(hq:zdk.Held k x)(hk:0<=k)(hkN:k+zdk.cn x<=536870912)(hf:Bk.fit x):zhN x k=some (zdk.wr k x).1:=by
 unfold zhN
 have hc:zdk.cn x=zbx.list.cn x.Commits+(zfn.list.cn x.Heads):=rfl
 have e0:=zbx.list.fst (k) x.Commits
 have e1:=zfn.list.fst ((zbx.list.wr (k) x.Commits).1) x.Heads
 obtain⟨f0,f1⟩:=hf
 have q0:zbx.list.Held (k) x.Commits:=congrArg Repo.Commits hq
 have q1:zfn.list.Held ((zbx.list.wr (k) x.Commits).1) x.Heads:=congrArg Repo.Heads hq
 simp only[aA,bne_self_eq_false,aC,ztT q0 (show 0<=k by omega) (show k+zbx.list.cn x.Commits<=536870912 by omega) f0,aE (show ¬ (zbx.list.wr (k) x.Commits).1<0 by omega),zvK q1 (show 0<=(zbx.list.wr (k) x.Commits).1 by omega) (show(zbx.list.wr (k) x.Commits).1+zfn.list.cn x.Heads<=536870912 by omega) f1,aE (show ¬ (zfn.list.wr ((zbx.list.wr (k) x.Commits).1) x.Heads).1<0 by omega)]
 try rfl
end Go.Vm
