/- Plain laws of the statements' own helpers: they count bulk, copy, compare, mark; printed by a program of ours. Conditions: each law's own premises. -/
import Derived.Test.YtifbmanldeabeaaGreatDoorGLw
import Derived.Test.YtifbmanldeabeaaGreatDoorGM3
namespace Go.Vm
open Go Go.Sx
set_option linter.unusedSimpArgs false
set_option linter.unusedVariables false
theorem zAD {xs:List Int}{n:Int}(hf:Bk.fit xs)(h0:0<=n)(hN:n<=1048576):zmw xs n=some (if(Bk.bulk xs:Int)<=n then n-Bk.bulk xs else -1):=by
 have hl:=zct hf
 unfold zmw
 have hw:w64 (n-(xs.length:Int))=n-xs.length:=zag (by unfold maxi at hl;omega) (by omega)
 have hb:(Bk.bulk xs:Int)=xs.length+sumB Bk.bulk xs:=by simp[Bk.bulk]
 simp only[hw,jn,zak]
 by_cases h:n-(xs.length:Int)<0
 ·rw[aF h,aD,if_neg (by omega)]
 ·rw[aE h,aC]
  have hz:sumB Bk.bulk xs=0:=by
   clear hb h hw hN h0 hl hf
   induction xs with
   |nil=>rfl
   |cons x xs ih=>show 0+sumB Bk.bulk xs=0;omega
  rw[if_pos (by omega)]
  congr 1;omega
theorem ztN {xs:List Str}{n:Int}(hf:Bk.fit xs)(h0:0<=n)(hN:n<=1048576):zgj xs n=some (if(Bk.bulk xs:Int)<=n then n-Bk.bulk xs else -1):=by
 have hl:=zct hf
 unfold zgj
 have hw:w64 (n-(xs.length:Int))=n-xs.length:=zag (by unfold maxi at hl;omega) (by omega)
 have hb:(Bk.bulk xs:Int)=xs.length+sumB Bk.bulk xs:=by simp[Bk.bulk]
 simp only[hw,jn,zak]
 by_cases h:n-(xs.length:Int)<0
 ·rw[aF h,aD,if_neg (by omega)]
 ·rw[aE h,aC]
  rw[zoQ (α:=Str) (xs:=xs) (b:=Bk.bulk) (N:=1048576) (r0:=some (-1)) (Z:=fun a=>some a) (f:=fun m a i=>zdV xs (fun y2 _ _=>some y2) m a 0 i) (fun m a i x hx ha hA=>by
   have hx2:x.length<=maxi:=zgI hf hx
   have hw2:w64 (a-(x.length:Int))=a-x.length:=zag (by unfold maxi at hx2;omega) (by omega)
   simp only[zdV,zaj hx,zad hx,aD,aA,hw2,zab (zas hx) hl]
   by_cases h1:a-(x.length:Int)<0
   ·rw[aF h1,aD,if_neg (by simp only[Bk.bulk];omega)]
   ·rw[aE h1,aC,if_pos (by simp only[Bk.bulk];omega)];rfl) (fun m a=>by
   simp only[zdV,zac,aC]) (by omega) (by omega) (by omega)]
  by_cases h2:(sumB Bk.bulk xs:Int)<=n-xs.length
  ·rw[if_pos h2,if_pos (by omega),hb];congr 1;omega
  ·rw[if_neg h2,if_neg (by omega)]
theorem zAE {x:File}{n:Int}(hf:Bk.fit x)(h0:0<=n)(hN:n<=1048576):zmx x n=some (if(Bk.bulk x:Int)<=n then n-Bk.bulk x else -1):=by
 obtain⟨f0,f1⟩:=hf
 have hb:Bk.bulk x=Bk.bulk x.Path+(Bk.bulk x.Text):=rfl
 have b0:Bk.bulk x.Path=x.Path.length:=rfl
 have g0:x.Path.length<=maxi:=f0
 unfold maxi at g0
 unfold zmx
 have w0:w64 (n-(x.Path.length:Int))=n-(x.Path.length:Int):=zag (by omega) (by omega)
 simp only[w0]
 by_cases h0:n-(x.Path.length:Int)<0
 case pos=>rw[aF h0,aD,if_neg (by omega)]
 rw[aE h0,aC]
 rw[ztN f1 (by omega) (by omega),aA]
 by_cases h1:(Bk.bulk x.Text:Int)<=n-(x.Path.length:Int)
 case neg=>rw[if_neg h1,if_neg (by omega)];rfl
 rw[if_pos h1,aE (by omega),aC]
 rw[if_pos (by omega)]
 congr 1<;>omega
theorem zzc {xs:List File}{n:Int}(hf:Bk.fit xs)(h0:0<=n)(hN:n<=1048576):zlu xs n=some (if(Bk.bulk xs:Int)<=n then n-Bk.bulk xs else -1):=by
 have hl:=zct hf
 unfold zlu
 have hw:w64 (n-(xs.length:Int))=n-xs.length:=zag (by unfold maxi at hl;omega) (by omega)
 have hb:(Bk.bulk xs:Int)=xs.length+sumB Bk.bulk xs:=by simp[Bk.bulk]
 simp only[hw,jn,zak]
 by_cases h:n-(xs.length:Int)<0
 ·rw[aF h,aD,if_neg (by omega)]
 ·rw[aE h,aC]
  rw[zoQ (α:=File) (xs:=xs) (b:=Bk.bulk) (N:=1048576) (r0:=some (-1)) (Z:=fun a=>some a) (f:=fun m a i=>zhT xs (fun y2 _ _=>some y2) m a 0 i) (fun m a i x hx ha hA=>by
   simp only[zhT,zaj hx,zad hx,aD,aA,zAE (zgI hf hx) ha hA,zab (zas hx) hl]
   by_cases h1:(Bk.bulk x:Int)<=a
   ·rw[if_pos h1,aE (by omega),aC,if_pos h1]
   ·rw[if_neg h1,if_neg h1];rfl) (fun m a=>by
   simp only[zhT,zac,aC]) (by omega) (by omega) (by omega)]
  by_cases h2:(sumB Bk.bulk xs:Int)<=n-xs.length
  ·rw[if_pos h2,if_pos (by omega),hb];congr 1;omega
  ·rw[if_neg h2,if_neg (by omega)]
theorem zyn {x:Commit}{n:Int}(hf:Bk.fit x)(h0:0<=n)(hN:n<=1048576):zkB x n=some (if(Bk.bulk x:Int)<=n then n-Bk.bulk x else -1):=by
 obtain⟨f0,f1,f2⟩:=hf
 have hb:Bk.bulk x=Bk.bulk x.Parents+(Bk.bulk x.Who+(Bk.bulk x.Tree)):=rfl
 have b1:Bk.bulk x.Who=x.Who.length:=rfl
 have g1:x.Who.length<=maxi:=f1
 unfold maxi at g1
 unfold zkB
 rw[zAD f0 (by omega) (by omega),aA]
 by_cases h0:(Bk.bulk x.Parents:Int)<=n
 case neg=>rw[if_neg h0,if_neg (by omega)];rfl
 rw[if_pos h0,aE (by omega),aC]
 have w1:w64 (n-(Bk.bulk x.Parents:Int)-(x.Who.length:Int))=n-(Bk.bulk x.Parents:Int)-(x.Who.length:Int):=zag (by omega) (by omega)
 simp only[w1]
 by_cases h1:n-(Bk.bulk x.Parents:Int)-(x.Who.length:Int)<0
 case pos=>rw[aF h1,aD,if_neg (by omega)]
 rw[aE h1,aC]
 rw[zzc f2 (by omega) (by omega),aA]
 by_cases h2:(Bk.bulk x.Tree:Int)<=n-(Bk.bulk x.Parents:Int)-(x.Who.length:Int)
 case neg=>rw[if_neg h2,if_neg (by omega)];rfl
 rw[if_pos h2,aE (by omega),aC]
 rw[if_pos (by omega)]
 congr 1<;>omega
theorem zwU {xs:List Commit}{n:Int}(hf:Bk.fit xs)(h0:0<=n)(hN:n<=1048576):zjF xs n=some (if(Bk.bulk xs:Int)<=n then n-Bk.bulk xs else -1):=by
 have hl:=zct hf
 unfold zjF
 have hw:w64 (n-(xs.length:Int))=n-xs.length:=zag (by unfold maxi at hl;omega) (by omega)
 have hb:(Bk.bulk xs:Int)=xs.length+sumB Bk.bulk xs:=by simp[Bk.bulk]
 simp only[hw,jn,zak]
 by_cases h:n-(xs.length:Int)<0
 ·rw[aF h,aD,if_neg (by omega)]
 ·rw[aE h,aC]
  rw[zoQ (α:=Commit) (xs:=xs) (b:=Bk.bulk) (N:=1048576) (r0:=some (-1)) (Z:=fun a=>some a) (f:=fun m a i=>zf4 xs (fun y2 _ _=>some y2) m a 0 i) (fun m a i x hx ha hA=>by
   simp only[zf4,zaj hx,zad hx,aD,aA,zyn (zgI hf hx) ha hA,zab (zas hx) hl]
   by_cases h1:(Bk.bulk x:Int)<=a
   ·rw[if_pos h1,aE (by omega),aC,if_pos h1]
   ·rw[if_neg h1,if_neg h1];rfl) (fun m a=>by
   simp only[zf4,zac,aC]) (by omega) (by omega) (by omega)]
  by_cases h2:(sumB Bk.bulk xs:Int)<=n-xs.length
  ·rw[if_pos h2,if_pos (by omega),hb];congr 1;omega
  ·rw[if_neg h2,if_neg (by omega)]
theorem zAF {x:Head}{n:Int}(hf:Bk.fit x)(h0:0<=n)(hN:n<=1048576):zmy x n=some (if(Bk.bulk x:Int)<=n then n-Bk.bulk x else -1):=by
 obtain⟨f0,f1⟩:=hf
 have hb:Bk.bulk x=Bk.bulk x.Name+(Bk.bulk x.At):=rfl
 have b0:Bk.bulk x.Name=x.Name.length:=rfl
 have g0:x.Name.length<=maxi:=f0
 unfold maxi at g0
 have b1:Bk.bulk x.At=0:=rfl
 unfold zmy
 have w0:w64 (n-(x.Name.length:Int))=n-(x.Name.length:Int):=zag (by omega) (by omega)
 simp only[w0]
 by_cases h0:n-(x.Name.length:Int)<0
 case pos=>rw[aF h0,aD,if_neg (by omega)]
 rw[aE h0,aC]
 rw[if_pos (by omega)]
 congr 1<;>omega
theorem zzd {xs:List Head}{n:Int}(hf:Bk.fit xs)(h0:0<=n)(hN:n<=1048576):zlv xs n=some (if(Bk.bulk xs:Int)<=n then n-Bk.bulk xs else -1):=by
 have hl:=zct hf
 unfold zlv
 have hw:w64 (n-(xs.length:Int))=n-xs.length:=zag (by unfold maxi at hl;omega) (by omega)
 have hb:(Bk.bulk xs:Int)=xs.length+sumB Bk.bulk xs:=by simp[Bk.bulk]
 simp only[hw,jn,zak]
 by_cases h:n-(xs.length:Int)<0
 ·rw[aF h,aD,if_neg (by omega)]
 ·rw[aE h,aC]
  rw[zoQ (α:=Head) (xs:=xs) (b:=Bk.bulk) (N:=1048576) (r0:=some (-1)) (Z:=fun a=>some a) (f:=fun m a i=>zhU xs (fun y2 _ _=>some y2) m a 0 i) (fun m a i x hx ha hA=>by
   simp only[zhU,zaj hx,zad hx,aD,aA,zAF (zgI hf hx) ha hA,zab (zas hx) hl]
   by_cases h1:(Bk.bulk x:Int)<=a
   ·rw[if_pos h1,aE (by omega),aC,if_pos h1]
   ·rw[if_neg h1,if_neg h1];rfl) (fun m a=>by
   simp only[zhU,zac,aC]) (by omega) (by omega) (by omega)]
  by_cases h2:(sumB Bk.bulk xs:Int)<=n-xs.length
  ·rw[if_pos h2,if_pos (by omega),hb];congr 1;omega
  ·rw[if_neg h2,if_neg (by omega)]
theorem zze {x:Owner}{n:Int}(hf:Bk.fit x)(h0:0<=n)(hN:n<=1048576):zlw x n=some (if(Bk.bulk x:Int)<=n then n-Bk.bulk x else -1):=by
 obtain⟨f0,f1⟩:=hf
 have hb:Bk.bulk x=Bk.bulk x.Path+(Bk.bulk x.Who):=rfl
 have b0:Bk.bulk x.Path=x.Path.length:=rfl
 have g0:x.Path.length<=maxi:=f0
 unfold maxi at g0
 have b1:Bk.bulk x.Who=x.Who.length:=rfl
 have g1:x.Who.length<=maxi:=f1
 unfold maxi at g1
 unfold zlw
 have w0:w64 (n-(x.Path.length:Int))=n-(x.Path.length:Int):=zag (by omega) (by omega)
 simp only[w0]
 by_cases h0:n-(x.Path.length:Int)<0
 case pos=>rw[aF h0,aD,if_neg (by omega)]
 rw[aE h0,aC]
 have w1:w64 (n-(x.Path.length:Int)-(x.Who.length:Int))=n-(x.Path.length:Int)-(x.Who.length:Int):=zag (by omega) (by omega)
 simp only[w1]
 by_cases h1:n-(x.Path.length:Int)-(x.Who.length:Int)<0
 case pos=>rw[aF h1,aD,if_neg (by omega)]
 rw[aE h1,aC]
 rw[if_pos (by omega)]
 congr 1<;>omega
theorem zvc {xs:List Owner}{n:Int}(hf:Bk.fit xs)(h0:0<=n)(hN:n<=1048576):zkC xs n=some (if(Bk.bulk xs:Int)<=n then n-Bk.bulk xs else -1):=by
 have hl:=zct hf
 unfold zkC
 have hw:w64 (n-(xs.length:Int))=n-xs.length:=zag (by unfold maxi at hl;omega) (by omega)
 have hb:(Bk.bulk xs:Int)=xs.length+sumB Bk.bulk xs:=by simp[Bk.bulk]
 simp only[hw,jn,zak]
 by_cases h:n-(xs.length:Int)<0
 ·rw[aF h,aD,if_neg (by omega)]
 ·rw[aE h,aC]
  rw[zoQ (α:=Owner) (xs:=xs) (b:=Bk.bulk) (N:=1048576) (r0:=some (-1)) (Z:=fun a=>some a) (f:=fun m a i=>zgQ xs (fun y2 _ _=>some y2) m a 0 i) (fun m a i x hx ha hA=>by
   simp only[zgQ,zaj hx,zad hx,aD,aA,zze (zgI hf hx) ha hA,zab (zas hx) hl]
   by_cases h1:(Bk.bulk x:Int)<=a
   ·rw[if_pos h1,aE (by omega),aC,if_pos h1]
   ·rw[if_neg h1,if_neg h1];rfl) (fun m a=>by
   simp only[zgQ,zac,aC]) (by omega) (by omega) (by omega)]
  by_cases h2:(sumB Bk.bulk xs:Int)<=n-xs.length
  ·rw[if_pos h2,if_pos (by omega),hb];congr 1;omega
  ·rw[if_neg h2,if_neg (by omega)]
theorem zyo {x:Repo}{n:Int}(hf:Bk.fit x)(h0:0<=n)(hN:n<=1048576):zmz x n=some (if(Bk.bulk x:Int)<=n then n-Bk.bulk x else -1):=by
 obtain⟨f0,f1⟩:=hf
 have hb:Bk.bulk x=Bk.bulk x.Commits+(Bk.bulk x.Heads):=rfl
 unfold zmz
 rw[zwU f0 (by omega) (by omega),aA]
 by_cases h0:(Bk.bulk x.Commits:Int)<=n
 case neg=>rw[if_neg h0,if_neg (by omega)];rfl
 rw[if_pos h0,aE (by omega),aC]
 rw[zzd f1 (by omega) (by omega),aA]
 by_cases h1:(Bk.bulk x.Heads:Int)<=n-(Bk.bulk x.Commits:Int)
 case neg=>rw[if_neg h1,if_neg (by omega)];rfl
 rw[if_pos h1,aE (by omega),aC]
 rw[if_pos (by omega)]
 congr 1<;>omega
theorem zvd {x:Review}{n:Int}(hf:Bk.fit x)(h0:0<=n)(hN:n<=1048576):zkD x n=some (if(Bk.bulk x:Int)<=n then n-Bk.bulk x else -1):=by
 obtain⟨f0,f1,f2,f3⟩:=hf
 have hb:Bk.bulk x=Bk.bulk x.Branch+(Bk.bulk x.Into+(Bk.bulk x.By+(Bk.bulk x.Yes))):=rfl
 have b0:Bk.bulk x.Branch=x.Branch.length:=rfl
 have g0:x.Branch.length<=maxi:=f0
 unfold maxi at g0
 have b1:Bk.bulk x.Into=x.Into.length:=rfl
 have g1:x.Into.length<=maxi:=f1
 unfold maxi at g1
 have b2:Bk.bulk x.By=x.By.length:=rfl
 have g2:x.By.length<=maxi:=f2
 unfold maxi at g2
 unfold zkD
 have w0:w64 (n-(x.Branch.length:Int))=n-(x.Branch.length:Int):=zag (by omega) (by omega)
 simp only[w0]
 by_cases h0:n-(x.Branch.length:Int)<0
 case pos=>rw[aF h0,aD,if_neg (by omega)]
 rw[aE h0,aC]
 have w1:w64 (n-(x.Branch.length:Int)-(x.Into.length:Int))=n-(x.Branch.length:Int)-(x.Into.length:Int):=zag (by omega) (by omega)
 simp only[w1]
 by_cases h1:n-(x.Branch.length:Int)-(x.Into.length:Int)<0
 case pos=>rw[aF h1,aD,if_neg (by omega)]
 rw[aE h1,aC]
 have w2:w64 (n-(x.Branch.length:Int)-(x.Into.length:Int)-(x.By.length:Int))=n-(x.Branch.length:Int)-(x.Into.length:Int)-(x.By.length:Int):=zag (by omega) (by omega)
 simp only[w2]
 by_cases h2:n-(x.Branch.length:Int)-(x.Into.length:Int)-(x.By.length:Int)<0
 case pos=>rw[aF h2,aD,if_neg (by omega)]
 rw[aE h2,aC]
 rw[ztN f3 (by omega) (by omega),aA]
 by_cases h3:(Bk.bulk x.Yes:Int)<=n-(x.Branch.length:Int)-(x.Into.length:Int)-(x.By.length:Int)
 case neg=>rw[if_neg h3,if_neg (by omega)];rfl
 rw[if_pos h3,aE (by omega),aC]
 rw[if_pos (by omega)]
 congr 1<;>omega
theorem zAG {xs:List Int}(h:Bk.bulk xs<=1048576):zmA xs=some xs:=by
 have hl:=zcu h
 unfold zmA
 simp only[zhP (zsR hl),jn,zak,aA]
 rw[zn5 (g:=id) (Z:=fun ys=>some ys) (f:=fun m i out=>ziz xs (fun _ y6=>some y6) m i out) (fun m i x out hx ho=>by
  have hi:=zas hx
  simp only[ziz,zaj hx,zad hx,aD,aA,zab hi (zan hl),zbs (show i<out.length by omega),zad (aB (show i<out.length by omega)),id]) (fun m out=>by
  simp only[ziz,zac,aC]) (by omega)]
 simp
theorem ztO {xs:List Str}(h:Bk.bulk xs<=1048576):zgk xs=some xs:=by
 have hl:=zcu h
 unfold zgk
 simp only[zhP (zsR hl),jn,zak,aA]
 rw[zn5 (g:=id) (Z:=fun ys=>some ys) (f:=fun m i out=>zdW xs (fun _ y6=>some y6) m i out) (fun m i x out hx ho=>by
  have hi:=zas hx
  simp only[zdW,zaj hx,zad hx,aD,aA,zab hi (zan hl),zbs (show i<out.length by omega),zad (aB (show i<out.length by omega)),id]) (fun m out=>by
  simp only[zdW,zac,aC]) (by omega)]
 simp
theorem zAH {x:File}(h:Bk.bulk x<=1048576):zmB x=some x:=by
 have hb:Bk.bulk x=Bk.bulk x.Path+(Bk.bulk x.Text):=rfl
 unfold zmB
 simp only[ztO (show Bk.bulk x.Text<=1048576 by omega),aA]
theorem zzf {xs:List File}(h:Bk.bulk xs<=1048576):zlx xs=some xs:=by
 have hl:=zcu h
 unfold zlx
 simp only[zhP (zsR hl),jn,zak,aA]
 rw[zn5 (g:=id) (Z:=fun ys=>some ys) (f:=fun m i out=>zhV xs (fun _ y6=>some y6) m i out) (fun m i x out hx ho=>by
  have hi:=zas hx
  simp only[zhV,zaj hx,zad hx,aD,aA,zAH (zt4 h hx),zab hi (zan hl),zbs (show i<out.length by omega),zad (aB (show i<out.length by omega)),id]) (fun m out=>by
  simp only[zhV,zac,aC]) (by omega)]
 simp
theorem zyp {x:Commit}(h:Bk.bulk x<=1048576):zkE x=some x:=by
 have hb:Bk.bulk x=Bk.bulk x.Parents+(Bk.bulk x.Who+(Bk.bulk x.Tree)):=rfl
 unfold zkE
 simp only[zAG (show Bk.bulk x.Parents<=1048576 by omega),zzf (show Bk.bulk x.Tree<=1048576 by omega),aA]
theorem zwV {xs:List Commit}(h:Bk.bulk xs<=1048576):zjG xs=some xs:=by
 have hl:=zcu h
 unfold zjG
 simp only[zhP (zsR hl),jn,zak,aA]
 rw[zn5 (g:=id) (Z:=fun ys=>some ys) (f:=fun m i out=>zf5 xs (fun _ y6=>some y6) m i out) (fun m i x out hx ho=>by
  have hi:=zas hx
  simp only[zf5,zaj hx,zad hx,aD,aA,zyp (zt4 h hx),zab hi (zan hl),zbs (show i<out.length by omega),zad (aB (show i<out.length by omega)),id]) (fun m out=>by
  simp only[zf5,zac,aC]) (by omega)]
 simp
theorem zAI {x:Head}(h:Bk.bulk x<=1048576):zmC x=some x:=by
 have hb:Bk.bulk x=Bk.bulk x.Name+(Bk.bulk x.At):=rfl
 unfold zmC
 rfl
theorem zzg {xs:List Head}(h:Bk.bulk xs<=1048576):zly xs=some xs:=by
 have hl:=zcu h
 unfold zly
 simp only[zhP (zsR hl),jn,zak,aA]
 rw[zn5 (g:=id) (Z:=fun ys=>some ys) (f:=fun m i out=>zhW xs (fun _ y6=>some y6) m i out) (fun m i x out hx ho=>by
  have hi:=zas hx
  simp only[zhW,zaj hx,zad hx,aD,aA,zAI (zt4 h hx),zab hi (zan hl),zbs (show i<out.length by omega),zad (aB (show i<out.length by omega)),id]) (fun m out=>by
  simp only[zhW,zac,aC]) (by omega)]
 simp
theorem zzh {x:Owner}(h:Bk.bulk x<=1048576):zlz x=some x:=by
 have hb:Bk.bulk x=Bk.bulk x.Path+(Bk.bulk x.Who):=rfl
 unfold zlz
 rfl
theorem zve {xs:List Owner}(h:Bk.bulk xs<=1048576):zha xs=some xs:=by
 have hl:=zcu h
 unfold zha
 simp only[zhP (zsR hl),jn,zak,aA]
 rw[zn5 (g:=id) (Z:=fun ys=>some ys) (f:=fun m i out=>zgR xs (fun _ y6=>some y6) m i out) (fun m i x out hx ho=>by
  have hi:=zas hx
  simp only[zgR,zaj hx,zad hx,aD,aA,zzh (zt4 h hx),zab hi (zan hl),zbs (show i<out.length by omega),zad (aB (show i<out.length by omega)),id]) (fun m out=>by
  simp only[zgR,zac,aC]) (by omega)]
 simp
theorem zyq {x:Repo}(h:Bk.bulk x<=1048576):zjk x=some x:=by
 have hb:Bk.bulk x=Bk.bulk x.Commits+(Bk.bulk x.Heads):=rfl
 unfold zjk
 simp only[zwV (show Bk.bulk x.Commits<=1048576 by omega),zzg (show Bk.bulk x.Heads<=1048576 by omega),aA]
theorem zvf {x:Review}(h:Bk.bulk x<=1048576):zhb x=some x:=by
 have hb:Bk.bulk x=Bk.bulk x.Branch+(Bk.bulk x.Into+(Bk.bulk x.By+(Bk.bulk x.Yes))):=rfl
 unfold zhb
 simp only[ztO (show Bk.bulk x.Yes<=1048576 by omega),aA]
theorem zAJ {xs ys:List Int}(h:Bk.fit xs):zmD xs ys=some (xs==ys):=by
 have hl:=zct h
 unfold zmD
 simp only[zkN,jn,zak]
 by_cases hn:xs.length=ys.length
 ·rw[hn,aO,aK,aC,<- hn]
  rw[zkM (α:=Int) (r0:=some false) (Z:=some true) (f:=fun m i=>ziA xs ys (fun _ _=>some true) m false i) hn (fun m i x y hx hy=>by
   simp only[ziA,zaj hx,zad hx,zad hy,aD,aA,zab (zas hx) hl,bne]
   cases x==y<;>rfl) (fun m=>by simp only[ziA,zac,aC]) (by omega)]
  cases xs==ys<;>rfl
 ·rw[beq_false_of_ne hn,Bool.not_false,aD,beq_false_of_ne (fun e=>hn (by rw[e]))]
theorem ztP {xs ys:List Str}(h:Bk.fit xs):zgm xs ys=some (xs==ys):=by
 have hl:=zct h
 unfold zgm
 simp only[zkN,jn,zak]
 by_cases hn:xs.length=ys.length
 ·rw[hn,aO,aK,aC,<- hn]
  rw[zkM (α:=Str) (r0:=some false) (Z:=some true) (f:=fun m i=>zdX xs ys (fun _ _=>some true) m false i) hn (fun m i x y hx hy=>by
   simp only[zdX,zaj hx,zad hx,zad hy,aD,aA,zab (zas hx) hl,bne]
   cases x==y<;>rfl) (fun m=>by simp only[zdX,zac,aC]) (by omega)]
  cases xs==ys<;>rfl
 ·rw[beq_false_of_ne hn,Bool.not_false,aD,beq_false_of_ne (fun e=>hn (by rw[e]))]
theorem zAK {x y:File}(h:Bk.fit x):zmE x y=some (x==y):=by
 obtain⟨f0,f1⟩:=h
 unfold zmE
 simp only[ztP f1,aA,bne]
 obtain⟨a0,a1⟩:=x
 obtain⟨b0,b1⟩:=y
 have:((⟨a0,a1⟩:File)==⟨b0,b1⟩)=(a0==b0&&(a1==b1)):=by
  have hb: ∀ b c:Bool,(b=true↔c=true)->b=c:=by decide
  apply hb
  simp
 rw[this]
 cases a0==b0<;>cases a1==b1<;>rfl
theorem zzi {xs ys:List File}(h:Bk.fit xs):zlA xs ys=some (xs==ys):=by
 have hl:=zct h
 unfold zlA
 simp only[zkN,jn,zak]
 by_cases hn:xs.length=ys.length
 ·rw[hn,aO,aK,aC,<- hn]
  rw[zkM (α:=File) (r0:=some false) (Z:=some true) (f:=fun m i=>zhX xs ys (fun _ _=>some true) m false i) hn (fun m i x y hx hy=>by
   simp only[zhX,zaj hx,zad hx,zad hy,aD,aA,zab (zas hx) hl,zAK (zgI h hx)]
   cases x==y<;>rfl) (fun m=>by simp only[zhX,zac,aC]) (by omega)]
  cases xs==ys<;>rfl
 ·rw[beq_false_of_ne hn,Bool.not_false,aD,beq_false_of_ne (fun e=>hn (by rw[e]))]
theorem zyr {x y:Commit}(h:Bk.fit x):zkF x y=some (x==y):=by
 obtain⟨f0,f1,f2⟩:=h
 unfold zkF
 simp only[zAJ f0,zzi f2,aA,bne]
 obtain⟨a0,a1,a2⟩:=x
 obtain⟨b0,b1,b2⟩:=y
 have:((⟨a0,a1,a2⟩:Commit)==⟨b0,b1,b2⟩)=(a0==b0&&(a1==b1&&(a2==b2))):=by
  have hb: ∀ b c:Bool,(b=true↔c=true)->b=c:=by decide
  apply hb
  simp
 rw[this]
 cases a0==b0<;>cases a1==b1<;>cases a2==b2<;>rfl
theorem zwW {xs ys:List Commit}(h:Bk.fit xs):zjI xs ys=some (xs==ys):=by
 have hl:=zct h
 unfold zjI
 simp only[zkN,jn,zak]
 by_cases hn:xs.length=ys.length
 ·rw[hn,aO,aK,aC,<- hn]
  rw[zkM (α:=Commit) (r0:=some false) (Z:=some true) (f:=fun m i=>zf6 xs ys (fun _ _=>some true) m false i) hn (fun m i x y hx hy=>by
   simp only[zf6,zaj hx,zad hx,zad hy,aD,aA,zab (zas hx) hl,zyr (zgI h hx)]
   cases x==y<;>rfl) (fun m=>by simp only[zf6,zac,aC]) (by omega)]
  cases xs==ys<;>rfl
 ·rw[beq_false_of_ne hn,Bool.not_false,aD,beq_false_of_ne (fun e=>hn (by rw[e]))]
theorem zAL {x y:Head}(h:Bk.fit x):zmF x y=some (x==y):=by
 obtain⟨f0,f1⟩:=h
 unfold zmF
 simp only[aA,bne]
 obtain⟨a0,a1⟩:=x
 obtain⟨b0,b1⟩:=y
 have:((⟨a0,a1⟩:Head)==⟨b0,b1⟩)=(a0==b0&&(a1==b1)):=by
  have hb: ∀ b c:Bool,(b=true↔c=true)->b=c:=by decide
  apply hb
  simp
 rw[this]
 cases a0==b0<;>cases a1==b1<;>rfl
theorem zzj {xs ys:List Head}(h:Bk.fit xs):zlB xs ys=some (xs==ys):=by
 have hl:=zct h
 unfold zlB
 simp only[zkN,jn,zak]
 by_cases hn:xs.length=ys.length
 ·rw[hn,aO,aK,aC,<- hn]
  rw[zkM (α:=Head) (r0:=some false) (Z:=some true) (f:=fun m i=>zhY xs ys (fun _ _=>some true) m false i) hn (fun m i x y hx hy=>by
   simp only[zhY,zaj hx,zad hx,zad hy,aD,aA,zab (zas hx) hl,zAL (zgI h hx)]
   cases x==y<;>rfl) (fun m=>by simp only[zhY,zac,aC]) (by omega)]
  cases xs==ys<;>rfl
 ·rw[beq_false_of_ne hn,Bool.not_false,aD,beq_false_of_ne (fun e=>hn (by rw[e]))]
theorem zzk {x y:Owner}(h:Bk.fit x):zlC x y=some (x==y):=by
 obtain⟨f0,f1⟩:=h
 unfold zlC
 simp only[aA,bne]
 obtain⟨a0,a1⟩:=x
 obtain⟨b0,b1⟩:=y
 have:((⟨a0,a1⟩:Owner)==⟨b0,b1⟩)=(a0==b0&&(a1==b1)):=by
  have hb: ∀ b c:Bool,(b=true↔c=true)->b=c:=by decide
  apply hb
  simp
 rw[this]
 cases a0==b0<;>cases a1==b1<;>rfl
theorem zvg {xs ys:List Owner}(h:Bk.fit xs):zkG xs ys=some (xs==ys):=by
 have hl:=zct h
 unfold zkG
 simp only[zkN,jn,zak]
 by_cases hn:xs.length=ys.length
 ·rw[hn,aO,aK,aC,<- hn]
  rw[zkM (α:=Owner) (r0:=some false) (Z:=some true) (f:=fun m i=>zgS xs ys (fun _ _=>some true) m false i) hn (fun m i x y hx hy=>by
   simp only[zgS,zaj hx,zad hx,zad hy,aD,aA,zab (zas hx) hl,zzk (zgI h hx)]
   cases x==y<;>rfl) (fun m=>by simp only[zgS,zac,aC]) (by omega)]
  cases xs==ys<;>rfl
 ·rw[beq_false_of_ne hn,Bool.not_false,aD,beq_false_of_ne (fun e=>hn (by rw[e]))]
theorem zul {x y:Repo}(h:Bk.fit x):zjl x y=some (x==y):=by
 obtain⟨f0,f1⟩:=h
 unfold zjl
 simp only[zwW f0,zzj f1,aA,bne]
 obtain⟨a0,a1⟩:=x
 obtain⟨b0,b1⟩:=y
 have:((⟨a0,a1⟩:Repo)==⟨b0,b1⟩)=(a0==b0&&(a1==b1)):=by
  have hb: ∀ b c:Bool,(b=true↔c=true)->b=c:=by decide
  apply hb
  simp
 rw[this]
 cases a0==b0<;>cases a1==b1<;>rfl
theorem zvh {x y:Review}(h:Bk.fit x):zkH x y=some (x==y):=by
 obtain⟨f0,f1,f2,f3⟩:=h
 unfold zkH
 simp only[ztP f3,aA,bne]
 obtain⟨a0,a1,a2,a3⟩:=x
 obtain⟨b0,b1,b2,b3⟩:=y
 have:((⟨a0,a1,a2,a3⟩:Review)==⟨b0,b1,b2,b3⟩)=(a0==b0&&(a1==b1&&(a2==b2&&(a3==b3)))):=by
  have hb: ∀ b c:Bool,(b=true↔c=true)->b=c:=by decide
  apply hb
  simp
 rw[this]
 cases a0==b0<;>cases a1==b1<;>cases a2==b2<;>cases a3==b3<;>rfl
theorem zCn {k:Int}(h:0<k):0<=Int.tdiv k 10/\Int.tdiv k 10<=k-1/\0<=Int.tmod k 10/\Int.tmod k 10<=9:=by
 obtain⟨n,rfl⟩:=Int.eq_ofNat_of_zero_le (show 0<=k by omega)
 have h1:Int.tdiv (n:Int) 10=((n / 10:Nat):Int):=rfl
 have h2:Int.tmod (n:Int) 10=((n % 10:Nat):Int):=rfl
 rw[h1,h2]
 omega
theorem zpk {K:Int->Str->Option Str}(hK: ∀ (k:Int) (s:Str),s.length<=1073741824 -> ∃ t,K k s=some t/\t.length<=2000000000):
 ∀ (m:Nat) (k:Int) (out:Str),0<=k->k<m->out.length+k<=1073741824 -> ∃ t,zfP K m k out=some t/\t.length<=2000000000
 |0,k,out,h0,hm,hl=>by omega
 |m+1,k,out,h0,hm,hl=>by
  simp only[zfP]
  by_cases hk:0<k
  ·obtain⟨h1,h2,h3,h4⟩:=zCn hk
   have hs:saM (([(by8 (w64 (48+(Int.tmod k 10))))]:List Byte):Str) out=some ((by8 (w64 (48+(Int.tmod k 10))))::out):=by
    unfold saM
    rw[if_pos]
    ·rfl
    ·show 1+out.length<=4294967296
     omega
   rw[aF hk,aD,hs,aA,zag (by omega) (by omega)]
   exact zpk hK m _ _ h1 (by omega) (by simp only[List.length_append,aL,List.length_nil];omega)
  ·rw[aE hk,aC]
   exact hK k out (by omega)
/-- The text of a mark. -/
def mt (k:Int):Str:=((zbA k).getD []).take 2000000000
theorem ziC {k:Int}(h0:0<=k)(hN:k<=536870912):zbA k=some (mt k):=by
 have: ∃ t,zbA k=some t/\t.length<=2000000000:=by
  unfold zbA
  by_cases hk:k<=0
  ·rw[aF hk];exact⟨_,rfl,by simp⟩
  ·rw[aE hk,aC]
   simp only[jn]
   refine zpk (fun k s hs=>?_) _ k _ h0 (by omega) (by simp;omega)
   refine⟨[109]++s,?_,by simp;omega⟩
   have:saM ([109]:Str) s=some ([109]++s):=by
    unfold saM
    rw[if_pos]
    simp only[aL,List.length_nil,lim]
    omega
   rw[this,aA]
 obtain⟨t,ht,hl⟩:=this
 unfold mt
 rw[ht]
 show some t=some (t.take 2000000000)
 rw[List.take_of_length_le hl]
def mb (k:Int):Bool:=Int.tmod k 3==0
def zjS:MkD Str:=MkD.one mt
def ziD:MkD Int:=MkD.one (fun k=>k)
def zzL:MkD Bool:=MkD.one mb
theorem zww (xs:List Str):zjS.list.cn xs=xs.length:=by
 show sumB (fun _=>1) xs=xs.length
 induction xs with
 |nil=>rfl
 |cons y ys ih=>simp only[sumB,ih,aL];omega
theorem zn9:zjS.Fits:=MkD.fits_one fun k _ _=>by
 show(((zbA k).getD []).take 2000000000).length<=maxi
 rw[List.length_take]
 unfold maxi
 omega
theorem zvi:ziD.Fits:=MkD.fits_one fun k h0 hN=>⟨by omega,by omega⟩
theorem zBs:zzL.Fits:=MkD.fits_one fun _ _ _=>trivial
theorem zoa:zjS.Few 1:=MkD.few_one
theorem zvj:ziD.Few 1:=MkD.few_one
theorem zBt:zzL.Few 1:=MkD.few_one
def zgA:MkD File:=MkD.via (MkD.pair zjS zjS.list) (fun x=>(x.Path,x.Text)) (fun p=>⟨p.1,p.2⟩) (fun _=>rfl)
theorem zvY:zgA.Fits:=MkD.fits_via (MkD.fits_pair zn9 (MkD.fits_list zn9)) (fun _ h=>h) (fun _ h=>h)
theorem zvZ:zgA.Few 2:=MkD.few_via (MkD.few_pair zoa (MkD.few_list zoa)) (fun _=>rfl)
def zbN:MkD Commit:=MkD.via (MkD.pair ziD.list (MkD.pair zjS zgA.list)) (fun x=>(x.Parents,(x.Who,x.Tree))) (fun p=>⟨p.1,p.2.1,p.2.2⟩) (fun _=>rfl)
theorem zum:zbN.Fits:=MkD.fits_via (MkD.fits_pair (MkD.fits_list zvi) (MkD.fits_pair zn9 (MkD.fits_list zvY))) (fun _ h=>h) (fun _ h=>h)
theorem zun:zbN.Few 4:=MkD.few_via (MkD.few_pair (MkD.few_list zvj) (MkD.few_pair zoa (MkD.few_list zvZ))) (fun _=>rfl)
theorem zys {xs:List Int}{k:Int}(h0:0<=k)(hN:k+ziD.list.cn xs<=536870912)(hf:Bk.fit xs):zkI xs k=some (ziD.list.wr k xs):=by
 unfold zkI
 simp only[jn,zak]
 rw[zn6 (xs:=xs) (g:=ziD.wr) (b:=ziD.cn) (N:=536870912) (Z:=fun k out=>some (k,out)) (f:=fun m k i out=>zgT (fun y1 _ y3=>some (y1,y3)) m k i out) ziD.fst (fun m k i x out hx ho hlen hk hkN=>by
  have hi:=zas hx
  have hi':i<out.length:=by omega
  have ei:=zab hi (zct hf)
  have hc:k+1<=536870912:=hkN
  simp only[zgT,zaj ho,aD,aA,zad ho,zbs hi',zad (setAt hi'),zbs (show i< (out.set i _).length by simpa using hi'),List.set_set,ei,zag (show -9223372036854775808<=k+1 by omega) (show k+1<=9223372036854775807 by omega),zag (show -9223372036854775808<=k by omega) (show k<=9223372036854775807 by omega)]
  try rfl) (fun m k out hl=>by
  simp only[zgT,<- hl,zac,aC]) (by omega) h0 hN]
 rfl
theorem zr2 {xs:List Str}{k:Int}(h0:0<=k)(hN:k+zjS.list.cn xs<=536870912)(hf:Bk.fit xs):zex xs k=some (zjS.list.wr k xs):=by
 unfold zex
 simp only[jn,zak]
 rw[zn6 (xs:=xs) (g:=zjS.wr) (b:=zjS.cn) (N:=536870912) (Z:=fun k out=>some (k,out)) (f:=fun m k i out=>zdc (fun y1 _ y3=>some (y1,y3)) m k i out) zjS.fst (fun m k i x out hx ho hlen hk hkN=>by
  have hi:=zas hx
  have hi':i<out.length:=by omega
  have ei:=zab hi (zct hf)
  have hc:k+1<=536870912:=hkN
  simp only[zdc,zaj ho,aD,aA,zad ho,zbs hi',zad (setAt hi'),zbs (show i< (out.set i _).length by simpa using hi'),List.set_set,ei,ziC hk (by omega),zag (show -9223372036854775808<=k+1 by omega) (show k+1<=9223372036854775807 by omega)]
  try rfl) (fun m k out hl=>by
  simp only[zdc,<- hl,zac,aC]) (by omega) h0 hN]
 rfl
theorem zwX {xs:List File}{k:Int}(h0:0<=k)(hN:k+zgA.list.cn xs<=536870912)(hf:Bk.fit xs):zjJ xs k=some (zgA.list.wr k xs):=by
 unfold zjJ
 simp only[jn,zak]
 rw[zn6 (xs:=xs) (g:=zgA.wr) (b:=zgA.cn) (N:=536870912) (Z:=fun k out=>some (k,out)) (f:=fun m k i out=>zf7 (fun y1 _ y3=>some (y1,y3)) m k i out) zgA.fst (fun m k i x out hx ho hlen hk hkN=>by
  have hi:=zas hx
  have hi':i<out.length:=by omega
  have ei:=zab hi (zct hf)
  have hc:zgA.cn x=1+(zjS.list.cn x.Text):=rfl
  have e1:=zjS.list.fst (k+1) x.Text
  obtain⟨f0,f1⟩:=zgI hf hx
  simp only[zf7,zaj ho,aD,aA,zad ho,zbs hi',zad (setAt hi'),zbs (show i< (out.set i _).length by simpa using hi'),List.set_set,ei,ziC (show 0<=k by omega) (show k<=536870912 by omega),zag (show -9223372036854775808<=k+1 by omega) (show k+1<=9223372036854775807 by omega),zr2 (k:=k+1) (show 0<=k+1 by omega) (show k+1+zjS.list.cn x.Text<=536870912 by omega) f1]
  try rfl) (fun m k out hl=>by
  simp only[zf7,<- hl,zac,aC]) (by omega) h0 hN]
 rfl
theorem zvk {xs:List Commit}{k:Int}(h0:0<=k)(hN:k+zbN.list.cn xs<=536870912)(hf:Bk.fit xs):zib xs k=some (zbN.list.wr k xs):=by
 unfold zib
 simp only[jn,zak]
 rw[zn6 (xs:=xs) (g:=zbN.wr) (b:=zbN.cn) (N:=536870912) (Z:=fun k out=>some (k,out)) (f:=fun m k i out=>zfc (fun y1 _ y3=>some (y1,y3)) m k i out) zbN.fst (fun m k i x out hx ho hlen hk hkN=>by
  have hi:=zas hx
  have hi':i<out.length:=by omega
  have ei:=zab hi (zct hf)
  have hc:zbN.cn x=ziD.list.cn x.Parents+(1+(zgA.list.cn x.Tree)):=rfl
  have e0:=ziD.list.fst (k) x.Parents
  have e2:=zgA.list.fst ((ziD.list.wr (k) x.Parents).1+1) x.Tree
  obtain⟨f0,f1,f2⟩:=zgI hf hx
  simp only[zfc,zaj ho,aD,aA,zad ho,zbs hi',zad (setAt hi'),zbs (show i< (out.set i _).length by simpa using hi'),List.set_set,ei,zys (k:=k) (show 0<=k by omega) (show k+ziD.list.cn x.Parents<=536870912 by omega) f0,ziC (show 0<=(ziD.list.wr (k) x.Parents).1 by omega) (show(ziD.list.wr (k) x.Parents).1<=536870912 by omega),zag (show -9223372036854775808<=(ziD.list.wr (k) x.Parents).1+1 by omega) (show(ziD.list.wr (k) x.Parents).1+1<=9223372036854775807 by omega),zwX (k:=(ziD.list.wr (k) x.Parents).1+1) (show 0<=(ziD.list.wr (k) x.Parents).1+1 by omega) (show(ziD.list.wr (k) x.Parents).1+1+zgA.list.cn x.Tree<=536870912 by omega) f2]
  try rfl) (fun m k out hl=>by
  simp only[zfc,<- hl,zac,aC]) (by omega) h0 hN]
 rfl
def zgB:MkD Head:=MkD.via (MkD.pair zjS ziD) (fun x=>(x.Name,x.At)) (fun p=>⟨p.1,p.2⟩) (fun _=>rfl)
theorem zv0:zgB.Fits:=MkD.fits_via (MkD.fits_pair zn9 zvi) (fun _ h=>h) (fun _ h=>h)
theorem zv1:zgB.Few 2:=MkD.few_via (MkD.few_pair zoa zvj) (fun _=>rfl)
theorem zwY {xs:List Head}{k:Int}(h0:0<=k)(hN:k+zgB.list.cn xs<=536870912)(hf:Bk.fit xs):zjK xs k=some (zgB.list.wr k xs):=by
 unfold zjK
 simp only[jn,zak]
 rw[zn6 (xs:=xs) (g:=zgB.wr) (b:=zgB.cn) (N:=536870912) (Z:=fun k out=>some (k,out)) (f:=fun m k i out=>zf8 (fun y1 _ y3=>some (y1,y3)) m k i out) zgB.fst (fun m k i x out hx ho hlen hk hkN=>by
  have hi:=zas hx
  have hi':i<out.length:=by omega
  have ei:=zab hi (zct hf)
  have hc:zgB.cn x=1+(1):=rfl
  obtain⟨f0,f1⟩:=zgI hf hx
  simp only[zf8,zaj ho,aD,aA,zad ho,zbs hi',zad (setAt hi'),zbs (show i< (out.set i _).length by simpa using hi'),List.set_set,ei,ziC (show 0<=k by omega) (show k<=536870912 by omega),zag (show -9223372036854775808<=k+1 by omega) (show k+1<=9223372036854775807 by omega),zag (show -9223372036854775808<=k+1 by omega) (show k+1<=9223372036854775807 by omega),zag (show -9223372036854775808<=k+1+1 by omega) (show k+1+1<=9223372036854775807 by omega)]
  try rfl) (fun m k out hl=>by
  simp only[zf8,<- hl,zac,aC]) (by omega) h0 hN]
 rfl
def zh0:MkD Owner:=MkD.via (MkD.pair zjS zjS) (fun x=>(x.Path,x.Who)) (fun p=>⟨p.1,p.2⟩) (fun _=>rfl)
theorem zzM:zh0.Fits:=MkD.fits_via (MkD.fits_pair zn9 zn9) (fun _ h=>h) (fun _ h=>h)
theorem zr3:zh0.Few 2:=MkD.few_via (MkD.few_pair zoa zoa) (fun _=>rfl)
theorem ztb {xs:List Owner}{k:Int}(h0:0<=k)(hN:k+zh0.list.cn xs<=536870912)(hf:Bk.fit xs):zi2 xs k=some (zh0.list.wr k xs):=by
 unfold zi2
 simp only[jn,zak]
 rw[zn6 (xs:=xs) (g:=zh0.wr) (b:=zh0.cn) (N:=536870912) (Z:=fun k out=>some (k,out)) (f:=fun m k i out=>zfH (fun y1 _ y3=>some (y1,y3)) m k i out) zh0.fst (fun m k i x out hx ho hlen hk hkN=>by
  have hi:=zas hx
  have hi':i<out.length:=by omega
  have ei:=zab hi (zct hf)
  have hc:zh0.cn x=1+(1):=rfl
  obtain⟨f0,f1⟩:=zgI hf hx
  simp only[zfH,zaj ho,aD,aA,zad ho,zbs hi',zad (setAt hi'),zbs (show i< (out.set i _).length by simpa using hi'),List.set_set,ei,ziC (show 0<=k by omega) (show k<=536870912 by omega),zag (show -9223372036854775808<=k+1 by omega) (show k+1<=9223372036854775807 by omega),ziC (show 0<=k+1 by omega) (show k+1<=536870912 by omega),zag (show -9223372036854775808<=k+1+1 by omega) (show k+1+1<=9223372036854775807 by omega)]
  try rfl) (fun m k out hl=>by
  simp only[zfH,<- hl,zac,aC]) (by omega) h0 hN]
 rfl
def zeb:MkD Repo:=MkD.via (MkD.pair zbN.list zgB.list) (fun x=>(x.Commits,x.Heads)) (fun p=>⟨p.1,p.2⟩) (fun _=>rfl)
theorem ztc:zeb.Fits:=MkD.fits_via (MkD.fits_pair (MkD.fits_list zum) (MkD.fits_list zv0)) (fun _ h=>h) (fun _ h=>h)
theorem zpj:zeb.Few 6:=MkD.few_via (MkD.few_pair (MkD.few_list zun) (MkD.few_list zv1)) (fun _=>rfl)
theorem zro {x:Repo}{k:Int}(hk:0<=k)(hkN:k+zeb.cn x<=536870912)(hf:Bk.fit x):zjm x k=some (zeb.wr k x):=by
 unfold zjm
 have hc:zeb.cn x=zbN.list.cn x.Commits+(zgB.list.cn x.Heads):=rfl
 have e0:=zbN.list.fst (k) x.Commits
 have e1:=zgB.list.fst ((zbN.list.wr (k) x.Commits).1) x.Heads
 obtain⟨f0,f1⟩:=hf
 simp only[aA,zvk (k:=k) (show 0<=k by omega) (show k+zbN.list.cn x.Commits<=536870912 by omega) f0,zwY (k:=(zbN.list.wr (k) x.Commits).1) (show 0<=(zbN.list.wr (k) x.Commits).1 by omega) (show(zbN.list.wr (k) x.Commits).1+zgB.list.cn x.Heads<=536870912 by omega) f1]
 try rfl
def zks:MkD Review:=MkD.via (MkD.pair MkD.keep (MkD.pair MkD.keep (MkD.pair MkD.keep zjS.list))) (fun x=>(x.Branch,(x.Into,(x.By,x.Yes)))) (fun p=>⟨p.1,p.2.1,p.2.2.1,p.2.2.2⟩) (fun _=>rfl)
theorem zzl:zks.Fits:=MkD.fits_via (MkD.fits_pair MkD.fits_keep (MkD.fits_pair MkD.fits_keep (MkD.fits_pair MkD.fits_keep (MkD.fits_list zn9)))) (fun _ h=>h) (fun _ h=>h)
theorem zzm:zks.Few 1:=MkD.few_via (MkD.few_pair MkD.few_keep (MkD.few_pair MkD.few_keep (MkD.few_pair MkD.few_keep (MkD.few_list zoa)))) (fun _=>rfl)
theorem ztd {x:Review}{k:Int}(hk:0<=k)(hkN:k+zks.cn x<=536870912)(hf:Bk.fit x):zi3 x k=some (zks.wr k x):=by
 unfold zi3
 have hc:zks.cn x=0+(0+(0+(zjS.list.cn x.Yes))):=rfl
 have e3:=zjS.list.fst (k) x.Yes
 obtain⟨f0,f1,f2,f3⟩:=hf
 simp only[aA,zr2 (k:=k) (show 0<=k by omega) (show k+zjS.list.cn x.Yes<=536870912 by omega) f3]
 try rfl
theorem zyt {xs:List Int}{k:Int}(hH:ziD.list.Held k xs)(h0:0<=k)(hN:k+ziD.list.cn xs<=536870912)(hf:Bk.fit xs):zkJ xs k=some (ziD.list.wr k xs).1:=by
 have hh:=MkD.list_held ziD hH
 unfold zkJ
 simp only[jn,zak]
 rw[zoR (xs:=xs) (q:=ziD.Held) (b:=ziD.cn) (N:=536870912) (Z:=fun k=>some k) (f:=fun m k i=>zgU xs (fun y1 _ _=>some y1) m k 0 i) (fun m k i x hx hq hk hkN=>by
  have hi:=zas hx
  have ei:=zab hi (zct hf)
  rw[<- ziD.fst k x]
  have hc:k+1<=536870912:=hkN
  have q0:k=x:=hq
  simp only[zgU,zaj hx,aD,aA,zad hx,ei,bne_self_eq_false,aC,zag (show -9223372036854775808<=k by omega) (show k<=9223372036854775807 by omega),<- q0,zag (show -9223372036854775808<=k+1 by omega) (show k+1<=9223372036854775807 by omega)]
  try rfl) (fun m k=>by
  simp only[zgU,zac,aC]) (by omega) h0 hN hh,ziD.list.fst]
 rfl
theorem zvl {xs:List Str}{k:Int}(hH:zjS.list.Held k xs)(h0:0<=k)(hN:k+zjS.list.cn xs<=536870912)(hf:Bk.fit xs):zfQ xs k=some (zjS.list.wr k xs).1:=by
 have hh:=MkD.list_held zjS hH
 unfold zfQ
 simp only[jn,zak]
 rw[zoR (xs:=xs) (q:=zjS.Held) (b:=zjS.cn) (N:=536870912) (Z:=fun k=>some k) (f:=fun m k i=>zdd xs (fun y1 _ _=>some y1) m k 0 i) (fun m k i x hx hq hk hkN=>by
  have hi:=zas hx
  have ei:=zab hi (zct hf)
  rw[<- zjS.fst k x]
  have hc:k+1<=536870912:=hkN
  have q0:mt k=x:=hq
  simp only[zdd,zaj hx,aD,aA,zad hx,ei,bne_self_eq_false,aC,ziC hk (by omega),q0,zag (show -9223372036854775808<=k+1 by omega) (show k+1<=9223372036854775807 by omega)]
  try rfl) (fun m k=>by
  simp only[zdd,zac,aC]) (by omega) h0 hN hh,zjS.list.fst]
 rfl
theorem zwZ {xs:List File}{k:Int}(hH:zgA.list.Held k xs)(h0:0<=k)(hN:k+zgA.list.cn xs<=536870912)(hf:Bk.fit xs):zjL xs k=some (zgA.list.wr k xs).1:=by
 have hh:=MkD.list_held zgA hH
 unfold zjL
 simp only[jn,zak]
 rw[zoR (xs:=xs) (q:=zgA.Held) (b:=zgA.cn) (N:=536870912) (Z:=fun k=>some k) (f:=fun m k i=>zf9 xs (fun y1 _ _=>some y1) m k 0 i) (fun m k i x hx hq hk hkN=>by
  have hi:=zas hx
  have ei:=zab hi (zct hf)
  rw[<- zgA.fst k x]
  have hc:zgA.cn x=1+(zjS.list.cn x.Text):=rfl
  have e1:=zjS.list.fst (k+1) x.Text
  obtain⟨f0,f1⟩:=zgI hf hx
  have q0:mt (k)=x.Path:=congrArg File.Path hq
  have q1:zjS.list.Held (k+1) x.Text:=congrArg File.Text hq
  simp only[zf9,zaj hx,aD,aA,zad hx,ei,bne_self_eq_false,aC,ziC (show 0<=k by omega) (show k<=536870912 by omega),zag (show -9223372036854775808<=k+1 by omega) (show k+1<=9223372036854775807 by omega),q0,zvl q1 (show 0<=k+1 by omega) (show k+1+zjS.list.cn x.Text<=536870912 by omega) f1,aE (show ¬ (zjS.list.wr (k+1) x.Text).1<0 by omega)]
  try rfl) (fun m k=>by
  simp only[zf9,zac,aC]) (by omega) h0 hN hh,zgA.list.fst]
 rfl
theorem zvm {xs:List Commit}{k:Int}(hH:zbN.list.Held k xs)(h0:0<=k)(hN:k+zbN.list.cn xs<=536870912)(hf:Bk.fit xs):zic xs k=some (zbN.list.wr k xs).1:=by
 have hh:=MkD.list_held zbN hH
 unfold zic
 simp only[jn,zak]
 rw[zoR (xs:=xs) (q:=zbN.Held) (b:=zbN.cn) (N:=536870912) (Z:=fun k=>some k) (f:=fun m k i=>zfd xs (fun y1 _ _=>some y1) m k 0 i) (fun m k i x hx hq hk hkN=>by
  have hi:=zas hx
  have ei:=zab hi (zct hf)
  rw[<- zbN.fst k x]
  have hc:zbN.cn x=ziD.list.cn x.Parents+(1+(zgA.list.cn x.Tree)):=rfl
  have e0:=ziD.list.fst (k) x.Parents
  have e2:=zgA.list.fst ((ziD.list.wr (k) x.Parents).1+1) x.Tree
  obtain⟨f0,f1,f2⟩:=zgI hf hx
  have q0:ziD.list.Held (k) x.Parents:=congrArg Commit.Parents hq
  have q1:mt ((ziD.list.wr (k) x.Parents).1)=x.Who:=congrArg Commit.Who hq
  have q2:zgA.list.Held ((ziD.list.wr (k) x.Parents).1+1) x.Tree:=congrArg Commit.Tree hq
  simp only[zfd,zaj hx,aD,aA,zad hx,ei,bne_self_eq_false,aC,ziC (show 0<=(ziD.list.wr (k) x.Parents).1 by omega) (show(ziD.list.wr (k) x.Parents).1<=536870912 by omega),zag (show -9223372036854775808<=(ziD.list.wr (k) x.Parents).1+1 by omega) (show(ziD.list.wr (k) x.Parents).1+1<=9223372036854775807 by omega),zyt q0 (show 0<=k by omega) (show k+ziD.list.cn x.Parents<=536870912 by omega) f0,aE (show ¬ (ziD.list.wr (k) x.Parents).1<0 by omega),q1,zwZ q2 (show 0<=(ziD.list.wr (k) x.Parents).1+1 by omega) (show(ziD.list.wr (k) x.Parents).1+1+zgA.list.cn x.Tree<=536870912 by omega) f2,aE (show ¬ (zgA.list.wr ((ziD.list.wr (k) x.Parents).1+1) x.Tree).1<0 by omega)]
  try rfl) (fun m k=>by
  simp only[zfd,zac,aC]) (by omega) h0 hN hh,zbN.list.fst]
 rfl
theorem zw0 {xs:List Head}{k:Int}(hH:zgB.list.Held k xs)(h0:0<=k)(hN:k+zgB.list.cn xs<=536870912)(hf:Bk.fit xs):zjM xs k=some (zgB.list.wr k xs).1:=by
 have hh:=MkD.list_held zgB hH
 unfold zjM
 simp only[jn,zak]
 rw[zoR (xs:=xs) (q:=zgB.Held) (b:=zgB.cn) (N:=536870912) (Z:=fun k=>some k) (f:=fun m k i=>zga xs (fun y1 _ _=>some y1) m k 0 i) (fun m k i x hx hq hk hkN=>by
  have hi:=zas hx
  have ei:=zab hi (zct hf)
  rw[<- zgB.fst k x]
  have hc:zgB.cn x=1+(1):=rfl
  obtain⟨f0,f1⟩:=zgI hf hx
  have q0:mt (k)=x.Name:=congrArg Head.Name hq
  have q1:k+1=x.At:=congrArg Head.At hq
  simp only[zga,zaj hx,aD,aA,zad hx,ei,bne_self_eq_false,aC,ziC (show 0<=k by omega) (show k<=536870912 by omega),zag (show -9223372036854775808<=k+1 by omega) (show k+1<=9223372036854775807 by omega),zag (show -9223372036854775808<=k+1 by omega) (show k+1<=9223372036854775807 by omega),zag (show -9223372036854775808<=k+1+1 by omega) (show k+1+1<=9223372036854775807 by omega),q0,<- q1]
  try rfl) (fun m k=>by
  simp only[zga,zac,aC]) (by omega) h0 hN hh,zgB.list.fst]
 rfl
theorem zvn {x:Repo}{k:Int}(hq:zeb.Held k x)(hk:0<=k)(hkN:k+zeb.cn x<=536870912)(hf:Bk.fit x):zjn x k=some (zeb.wr k x).1:=by
 unfold zjn
 have hc:zeb.cn x=zbN.list.cn x.Commits+(zgB.list.cn x.Heads):=rfl
 have e0:=zbN.list.fst (k) x.Commits
 have e1:=zgB.list.fst ((zbN.list.wr (k) x.Commits).1) x.Heads
 obtain⟨f0,f1⟩:=hf
 have q0:zbN.list.Held (k) x.Commits:=congrArg Repo.Commits hq
 have q1:zgB.list.Held ((zbN.list.wr (k) x.Commits).1) x.Heads:=congrArg Repo.Heads hq
 simp only[aA,bne_self_eq_false,aC,zvm q0 (show 0<=k by omega) (show k+zbN.list.cn x.Commits<=536870912 by omega) f0,aE (show ¬ (zbN.list.wr (k) x.Commits).1<0 by omega),zw0 q1 (show 0<=(zbN.list.wr (k) x.Commits).1 by omega) (show(zbN.list.wr (k) x.Commits).1+zgB.list.cn x.Heads<=536870912 by omega) f1,aE (show ¬ (zgB.list.wr ((zbN.list.wr (k) x.Commits).1) x.Heads).1<0 by omega)]
 try rfl
end Go.Vm
