/- Models of the functions: plain Lean, printed by a program of ours. Conditions: none. -/
import Derived.Test.YtiahldhbknpmiaaGreatDoorALw
import Derived.Test.YtiahldhbknpmiaaGreatDoorAM0
namespace Go.Vm
open Go Go.Sx
set_option linter.unusedVariables false
set_option linter.unusedSimpArgs false
def zcA (x0:List Vm.File)(b:List Vm.File->Int->Option ((List Vm.File))):Nat->List Vm.File->Int->Option ((List Vm.File))
 |0,_,_=>none
 |m+1,c,a=>
 bif decide (a< (x0.length:Int)) then
 ((gi x0 a).bind fun d=>
 (gi x0 a).bind fun e=>
 (apM ([]:List Str) e.Text).bind fun f=>
 (apM c [Vm.File.mk d.Path f]).bind fun g=>
 zcA x0 b m g (w64 (a+1)))
 else
 (b c a)
def zfF (x0:List Vm.File):Option ((List Vm.File)):=
 jn (fun(a:List Vm.File) (c:Int)=>
 some a) fun b=>
 zcA x0 b (((x0.length:Int)-0).toNat+1) ([]:List File) 0
def zcT (x0:Vm.Commit):Option (Vm.Commit):=
 (apM ([]:List Int) x0.Parents).bind fun a=>
 (Vm.zfF x0.Tree).bind fun b=>
 some (Vm.Commit.mk a x0.Who b)
def zcB (x0:Vm.Repo)(c:Int->List Vm.Commit->List Vm.Head->Option (Vm.Repo)):Nat->Int->List Vm.Commit->List Vm.Head->Option (Vm.Repo)
 |0,_,_,_=>none
 |m+1,a,d,e=>
 bif decide (a< (x0.Commits.length:Int)) then
 ((gi x0.Commits a).bind fun f=>
 (Vm.zcT f).bind fun b=>
 (apM d [Vm.Commit.mk b.Parents b.Who b.Tree]).bind fun g=>
 zcB x0 c m (w64 (a+1)) g e)
 else
 (c a d e)
def zdr (x0:Vm.Repo):Option (Vm.Repo):=
 (apM ([]:List Head) x0.Heads).bind fun a=>
 jn (fun(e:Int) (b:List Vm.Commit) (c:List Vm.Head)=>
 some (Vm.Repo.mk b c)) fun d=>
 zcB x0 d (((x0.Commits.length:Int)-0).toNat+1) 0 ([]:List Commit) a
def zaD (x2:List Vm.File)(b:List Str->Int->Option ((List Str))):Nat->List Str->Int->Option ((List Str))
 |0,_,_=>none
 |m+1,c,a=>
 bif decide (a< (x2.length:Int)) then
 ((gi x2 a).bind fun d=>
 (Vm.zdi c d.Path).bind fun e=>
 zaD x2 b m e (w64 (a+1)))
 else
 (b c a)
def za6 (x1:List Vm.File)(b:List Str->Int->Option ((List Str))):Nat->List Str->Int->Option ((List Str))
 |0,_,_=>none
 |m+1,c,a=>
 bif decide (a< (x1.length:Int)) then
 ((gi x1 a).bind fun d=>
 (Vm.zdi c d.Path).bind fun e=>
 za6 x1 b m e (w64 (a+1)))
 else
 (b c a)
def zce (x0:List Vm.File)(b:List Str->Int->Option ((List Str))):Nat->List Str->Int->Option ((List Str))
 |0,_,_=>none
 |m+1,c,a=>
 bif decide (a< (x0.length:Int)) then
 ((gi x0 a).bind fun d=>
 (Vm.zdi c d.Path).bind fun e=>
 zce x0 b m e (w64 (a+1)))
 else
 (b c a)
def zfo (x0:List Vm.File)(x1:List Vm.File)(x2:List Vm.File):Option ((List Str)):=
 jn (fun(a:List Str) (g:Int)=>
 jn (fun(b:List Str) (h:Int)=>
 jn (fun(c:List Str) (i:Int)=>
 some c) fun d=>
 zaD x2 d (((x2.length:Int)-0).toNat+1) b 0) fun e=>
 za6 x1 e (((x1.length:Int)-0).toNat+1) a 0) fun f=>
 zce x0 f (((x0.length:Int)-0).toNat+1) ([]:List Str) 0
def zfh (x0:List Str)(x1:Bool)(x2:List Str)(x3:Bool):Option (Bool):=
 jn (fun(b:Bool)=>
 some b) fun a=>
 bif(x1==x3) then
 (bif(!x1) then
 (a true)
 else
 ((Vm.zdD x0 x2).bind fun c=>
 a c))
 else
 (a false)
def zgc (x0:List Str)(x1:List Str)(x2:List Str):Option (Vm.Part):=
 jn (fun(c:Bool)=>
 bif c then
 ((apM ([]:List Str) x2).bind fun d=>
 some (Vm.Part.mk false d ([]:List Str) ([]:List Str) ([]:List Str)))
 else
 ((Vm.zdD x2 x0).bind fun e=>
 bif e then
 ((apM ([]:List Str) x1).bind fun f=>
 some (Vm.Part.mk false f ([]:List Str) ([]:List Str) ([]:List Str)))
 else
 ((apM ([]:List Str) x0).bind fun g=>
 (apM ([]:List Str) x1).bind fun h=>
 (apM ([]:List Str) x2).bind fun i=>
 some (Vm.Part.mk true ([]:List Str) g h i)))) fun a=>
 (Vm.zdD x1 x0).bind fun b=>
 bif b then
 (a b)
 else
 ((Vm.zdD x1 x2).bind fun j=>
 a j)
def zgB (x0:List Vm.Part)(x1:Vm.Part):Option ((List Vm.Part)):=
 jn (fun(d:Bool)=>
 bif d then
 (some x0)
 else
 (jn (fun(e:Bool)=>
 bif e then
 ((gi x0 (w64 ((x0.length:Int)-1))).bind fun a=>
 (apM a.Lines x1.Lines).bind fun f=>
 (gi x0 (w64 ((x0.length:Int)-1))).bind fun j=>
 (siM x0 (w64 ((x0.length:Int)-1)) (Vm.Part.mk a.Clash f a.Old a.One a.Two)).bind fun g=>
 some g)
 else
 ((apM x0 [Vm.Part.mk x1.Clash x1.Lines x1.Old x1.One x1.Two]).bind fun h=>
 some h)) fun b=>
 bif decide (0< (x0.length:Int)) then
 (bif(!x1.Clash) then
 ((gi x0 (w64 ((x0.length:Int)-1))).bind fun i=>
 b (!i.Clash))
 else
 (b false))
 else
 (b false))) fun c=>
 bif(!x1.Clash) then
 (c ((x1.Lines.length:Int)==0))
 else
 (c false)
def zcw (x0:List Str)(x1:List Str)(x2:List Str)(b:List Int)(d:List Int)(i:List Vm.Part->Int->Int->Int->Int->Option ((List Vm.Part))):Nat->List Vm.Part->Int->Int->Int->Int->Option ((List Vm.Part))
 |0,_,_,_,_,_=>none
 |m+1,e,f,g,h,a=>
 bif decide (a< (b.length:Int)) then
 (jn (fun(o:List Vm.Part) (p:Int) (q:Int) (r:Int)=>
 zcw x0 x1 x2 b d i m o p q r (w64 (a+1))) fun j=>
 jn (fun(s:Bool)=>
 bif s then
 (j e f g h)
 else
 ((slM x0 f a).bind fun t=>
 (gi b a).bind fun u=>
 (slM x1 g u).bind fun v=>
 (gi d a).bind fun w=>
 (slM x2 h w).bind fun x=>
 (Vm.zgc t v x).bind fun c=>
 (Vm.zgB e (Vm.Part.mk c.Clash c.Lines c.Old c.One c.Two)).bind fun k=>
 jn (fun(y:List Vm.Part)=>
 (gi b a).bind fun z=>
 (gi d a).bind fun A=>
 j y (w64 (a+1)) (w64 (z+1)) (w64 (A+1))) fun l=>
 bif decide (a< (x0.length:Int)) then
 ((gi x0 a).bind fun B=>
 (Vm.zgB k (Vm.Part.mk false ([B]:List Str) ([]:List Str) ([]:List Str) ([]:List Str))).bind fun C=>
 l C)
 else
 (l k))) fun n=>
 (gi b a).bind fun D=>
 bif decide (D< (0:Int)) then
 (n true)
 else
 ((gi d a).bind fun E=>
 n (decide (E< (0:Int)))))
 else
 (i e f g h a)
def ziB (x0:List Str)(x1:List Str)(x2:List Str):Option ((List Vm.Part)):=
 (Vm.zdL x0 x1).bind fun b=>
 (apM b [(x1.length:Int)]).bind fun a=>
 (Vm.zdL x0 x2).bind fun c=>
 (apM c [(x2.length:Int)]).bind fun d=>
 jn (fun(e:List Vm.Part) (g:Int) (h:Int) (i:Int) (j:Int)=>
 some e) fun f=>
 zcw x0 x1 x2 a d f (((a.length:Int)-0).toNat+1) ([]:List Part) 0 0 0 0
def zcC (x0:List Vm.Part)(b:List Str->Bool->List Str->Int->Option ((List Str)×Bool)):Nat->List Str->Bool->List Str->Int->Option ((List Str)×Bool)
 |0,_,_,_,_=>none
 |m+1,c,d,e,a=>
 bif decide (a< (x0.length:Int)) then
 ((gi x0 a).bind fun f=>
 bif f.Clash then
 (some (([]:List Str),false))
 else
 ((gi x0 a).bind fun g=>
 (apM e g.Lines).bind fun h=>
 zcC x0 b m c d h (w64 (a+1))))
 else
 (b c d e a)
def zgd (x0:List Vm.Part):Option ((List Str)×Bool):=
 jn (fun(d:List Str) (e:Bool) (a:List Str) (f:Int)=>
 (Vm.zcK a).bind fun b=>
 bif(!b) then
 (some (([]:List Str),false))
 else
 (some (a,true))) fun c=>
 zcC x0 c (((x0.length:Int)-0).toNat+1) ([]:List Str) false ([]:List Str) 0
def zhc (x0:List Vm.File)(x1:List Vm.File)(x2:List Vm.File)(x3:Str):Option ((List Str)×Bool×Int):=
 (Vm.zej x0 x3).bind fun a=>
 (Vm.zej x1 x3).bind fun b=>
 (Vm.zej x2 x3).bind fun c=>
 jn (fun(h:Bool)=>
 bif h then
 (some (c.1,c.2,0))
 else
 ((Vm.zfh c.1 c.2 a.1 a.2).bind fun i=>
 bif i then
 (some (b.1,b.2,0))
 else
 (jn (fun(j:Bool)=>
 bif j then
 (some (a.1,a.2,1))
 else
 (bif(!a.2) then
 (some (([]:List Str),false,2))
 else
 ((Vm.ziB a.1 b.1 c.1).bind fun k=>
 (Vm.zgd k).bind fun d=>
 bif(!d.2) then
 (some (a.1,true,3))
 else
 (some (d.1,true,0))))) fun e=>
 bif(!b.2) then
 (e true)
 else
 (e (!c.2))))) fun f=>
 (Vm.zfh b.1 b.2 a.1 a.2).bind fun g=>
 bif g then
 (f g)
 else
 ((Vm.zfh b.1 b.2 c.1 c.2).bind fun l=>
 f l)
def zdA (x0:List Vm.File)(x1:List Vm.File)(x2:List Vm.File)(b:(List Str))(f:List Vm.File->List Vm.Clash->Int->Option ((List Vm.File)×(List Vm.Clash))):Nat->List Vm.File->List Vm.Clash->Int->Option ((List Vm.File)×(List Vm.Clash))
 |0,_,_,_=>none
 |m+1,d,e,a=>
 bif decide (a< (b.length:Int)) then
 (jn (fun(j:List Vm.File) (k:List Vm.Clash)=>
 zdA x0 x1 x2 b f m j k (w64 (a+1))) fun g=>
 (gi b a).bind fun l=>
 (Vm.zhc x0 x1 x2 l).bind fun c=>
 jn (fun(h:List Vm.Clash)=>
 bif c.2.1 then
 ((gi b a).bind fun n=>
 (apM ([]:List Str) c.1).bind fun o=>
 (apM d [Vm.File.mk n o]).bind fun p=>
 g p h)
 else
 (g d h)) fun i=>
 bif decide (0< (c.2.2:Int)) then
 ((gi b a).bind fun q=>
 (apM e [Vm.Clash.mk q c.2.2]).bind fun r=>
 i r)
 else
 (i e))
 else
 (f d e a)
def ziC (x0:List Vm.File)(x1:List Vm.File)(x2:List Vm.File):Option ((List Vm.File)×(List Vm.Clash)):=
 (Vm.zfo x0 x1 x2).bind fun a=>
 jn (fun(b:List Vm.File) (c:List Vm.Clash) (e:Int)=>
 some (b,c)) fun d=>
 zdA x0 x1 x2 a d (((a.length:Int)-0).toNat+1) ([]:List File) ([]:List Clash) 0
def zfG (x0:List Vm.File)(x1:List Vm.File)(x2:List Vm.File):Option ((List Vm.File)×(List Vm.Clash)):=
 (Vm.ziC x0 x1 x2).bind fun a=>
 jn (fun(c:Bool)=>
 bif c then
 ((Vm.zfF x0).bind fun d=>
 some (d,([Vm.Clash.mk ([]:Str) 4]:List Clash)))
 else
 (some (a.1,a.2))) fun b=>
 bif((a.2.length:Int)==0) then
 ((Vm.zgZ a.1).bind fun e=>
 b (!e))
 else
 (b false)
def zcD (x0:Vm.Repo)(x1:Str)(x2:Int)(e:Bool->Int->List Vm.Commit->List Vm.Head->Option (Vm.Repo)):Nat->Bool->Int->List Vm.Commit->List Vm.Head->Option (Vm.Repo)
 |0,_,_,_,_=>none
 |m+1,b,a,c,d=>
 bif decide (a< (x0.Heads.length:Int)) then
 (jn (fun(l:Bool) (n:List Vm.Commit) (o:List Vm.Head)=>
 zcD x0 x1 x2 e m l (w64 (a+1)) n o) fun f=>
 jn (fun(g:Bool) (h:List Vm.Commit) (i:List Vm.Head)=>
 (gi x0.Heads a).bind fun p=>
 bif(p.Name !=x1) then
 ((gi x0.Heads a).bind fun q=>
 (apM i [q]).bind fun r=>
 f g h r)
 else
 (f g h i)) fun j=>
 jn (fun(s:Bool)=>
 bif s then
 ((apM d [Vm.Head.mk x1 x2]).bind fun t=>
 j true c t)
 else
 (j b c d)) fun k=>
 bif(!b) then
 ((gi x0.Heads a).bind fun u=>
 k (!Op.bytesLess u.Name x1))
 else
 (k false))
 else
 (e b a c d)
def zfi (x0:Vm.Repo)(x1:Str)(x2:Int):Option (Vm.Repo):=
 jn (fun(d:Bool) (i:Int) (a:List Vm.Commit) (b:List Vm.Head)=>
 jn (fun(e:List Vm.Commit) (f:List Vm.Head)=>
 some (Vm.Repo.mk e f)) fun c=>
 bif(!d) then
 ((apM b [Vm.Head.mk x1 x2]).bind fun g=>
 c a g)
 else
 (c a b)) fun h=>
 zcD x0 x1 x2 h (((x0.Heads.length:Int)-0).toNat+1) false 0 x0.Commits ([]:List Head)
def zeL (x0:Vm.Repo)(x1:Str)(x2:Vm.Commit):Option (Vm.Repo):=
 (apM ([]:List Commit) x0.Commits).bind fun a=>
 (apM a [x2]).bind fun b=>
 (Vm.zfi (Vm.Repo.mk b x0.Heads) x1 (x0.Commits.length:Int)).bind fun c=>
 some c
def zbQ (x0:List Vm.File)(b:List Vm.File->Int->Option ((List Vm.File))):Nat->List Vm.File->Int->Option ((List Vm.File))
 |0,_,_=>none
 |m+1,c,a=>
 bif decide (a< (x0.length:Int)) then
 ((gi x0 a).bind fun d=>
 (Vm.zb6 d.Text).bind fun e=>
 (apM c [Vm.File.mk d.Path e]).bind fun f=>
 zbQ x0 b m f (w64 (a+1)))
 else
 (b c a)
def zbI (x0:List Vm.File):Option ((List Vm.File)):=
 jn (fun(a:List Vm.File) (c:Int)=>
 some a) fun b=>
 zbQ x0 b (((x0.length:Int)-0).toNat+1) ([]:List File) 0
def zbR (x0:Vm.Repo)(c:Int->List Vm.Commit->List Vm.Head->Option (Vm.Repo)):Nat->Int->List Vm.Commit->List Vm.Head->Option (Vm.Repo)
 |0,_,_,_=>none
 |m+1,a,d,e=>
 bif decide (a< (x0.Commits.length:Int)) then
 ((gi x0.Commits a).bind fun b=>
 (apM ([]:List Int) b.Parents).bind fun f=>
 (Vm.zbI b.Tree).bind fun g=>
 (apM d [Vm.Commit.mk f b.Who g]).bind fun h=>
 zbR x0 c m (w64 (a+1)) h e)
 else
 (c a d e)
def zaP (x0:Vm.Repo):Option (Vm.Repo):=
 (apM ([]:List Head) x0.Heads).bind fun a=>
 jn (fun(e:Int) (b:List Vm.Commit) (c:List Vm.Head)=>
 some (Vm.Repo.mk b c)) fun d=>
 zbR x0 d (((x0.Commits.length:Int)-0).toNat+1) 0 ([]:List Commit) a
def zd6 (x0:List Vm.File)(x1:List Vm.File)(x2:List Vm.File):Option (Bool):=
 jn (fun(b:Bool)=>
 some b) fun a=>
 (Vm.zcl x0).bind fun c=>
 bif c then
 ((Vm.zcl x1).bind fun d=>
 bif d then
 ((Vm.zcl x2).bind fun e=>
 a e)
 else
 (a false))
 else
 (a false)
def zbS (b:List Vm.File)(c:List Str->Int->Option ((List Str))):Nat->List Str->Int->Option ((List Str))
 |0,_,_=>none
 |m+1,d,a=>
 bif decide (a< (b.length:Int)) then
 ((gi b a).bind fun e=>
 (apM d [e.Path]).bind fun f=>
 zbS b c m f (w64 (a+1)))
 else
 (c d a)
def zaW (x0:List (List Vm.File))(b:List Str->Int->Option ((List Str))):Nat->List Str->Int->Option ((List Str))
 |0,_,_=>none
 |m+1,c,a=>
 bif decide (a< (x0.length:Int)) then
 ((gi x0 a).bind fun d=>
 jn (fun(e:List Str) (g:Int)=>
 zaW x0 b m e (w64 (a+1))) fun f=>
 zbS d f (((d.length:Int)-0).toNat+1) c 0)
 else
 (b c a)
def zeH (x0:List (List Vm.File)):Option ((List Str)):=
 jn (fun(a:List Str) (e:Int)=>
 (Vm.zaO a).bind fun b=>
 (Vm.zbr b).bind fun c=>
 some c) fun d=>
 zaW x0 d (((x0.length:Int)-0).toNat+1) ([]:List Str) 0
def zgl (x0:List Vm.File)(x1:Str):Option (Vm.has):=
 (Vm.zgJ x0 x1).bind fun a=>
 some (Vm.has.mk a.1 a.2)
def zdO (x0:Vm.has)(x1:Vm.has):Option (Bool):=
 jn (fun(b:Bool)=>
 some b) fun a=>
 bif(x0.file==x1.file) then
 ((Vm.zay x0.text x1.text).bind fun c=>
 a c)
 else
 (a false)
def zeI (x0:List Str)(x1:List Str)(x2:List Str):Option (Bool):=
 jn (fun(b:Bool)=>
 some b) fun a=>
 (Vm.zbx x0).bind fun c=>
 bif c then
 ((Vm.zbx x1).bind fun d=>
 bif d then
 ((Vm.zbx x2).bind fun e=>
 a e)
 else
 (a false))
 else
 (a false)
def zbK (x0:List Str)(x1:List Vm.Part):Option ((List Vm.Part)):=
 bif((x0.length:Int)==0) then
 (some x1)
 else
 (jn (fun(b:Int) (c:List Vm.Part)=>
 (gi c b).bind fun a=>
 (apM a.Lines x0).bind fun f=>
 (gi c b).bind fun k=>
 (siM c b (Vm.Part.mk a.Clash f a.Old a.One a.Two)).bind fun g=>
 some g) fun d=>
 jn (fun(h:Bool)=>
 bif h then
 ((apM x1 ([Vm.Part.mk false ([]:List Str) ([]:List Str) ([]:List Str) ([]:List Str)])).bind fun i=>
 d (w64 ((w64 ((x1.length:Int)-1))+1)) i)
 else
 (d (w64 ((x1.length:Int)-1)) x1)) fun e=>
 bif decide ((w64 ((x1.length:Int)-1):Int)< (0:Int)) then
 (e true)
 else
 ((gi x1 (w64 ((x1.length:Int)-1))).bind fun j=>
 e j.Clash))
def zaM (x0:List Str)(x1:List Str)(x2:List Str)(b:List Int)(d:List Int)(l:Int->Int->Int->Int->List Vm.Part->Option ((List Vm.Part))):Nat->Int->Int->Int->Int->List Vm.Part->Option ((List Vm.Part))
 |0,_,_,_,_,_=>none
 |m+1,g,h,i,a,c=>
 bif decide (a< (b.length:Int)) then
 (jn (fun(s:Int) (t:Int) (u:Int) (v:List Vm.Part)=>
 zaM x0 x1 x2 b d l m s t u (w64 (a+1)) v) fun n=>
 jn (fun(w:Bool)=>
 bif w then
 (n g h i c)
 else
 ((slM x0 g a).bind fun j=>
 (gi b a).bind fun x=>
 (slM x1 h x).bind fun e=>
 (gi d a).bind fun y=>
 (slM x2 i y).bind fun f=>
 jn (fun(o:List Vm.Part)=>
 jn (fun(z:List Vm.Part)=>
 (gi b a).bind fun A=>
 (gi d a).bind fun B=>
 n (w64 (a+1)) (w64 (A+1)) (w64 (B+1)) z) fun p=>
 bif decide (a< (x0.length:Int)) then
 ((slM x0 a (w64 (a+1))).bind fun C=>
 (Vm.zbK C o).bind fun D=>
 p D)
 else
 (p o)) fun k=>
 jn (fun(E:Bool)=>
 bif E then
 ((Vm.zbK f c).bind fun F=>
 k F)
 else
 ((Vm.zay f j).bind fun G=>
 bif G then
 ((Vm.zbK e c).bind fun H=>
 k H)
 else
 ((Vm.zb6 j).bind fun I=>
 (Vm.zb6 e).bind fun J=>
 (Vm.zb6 f).bind fun K=>
 (apM c ([Vm.Part.mk true ([]:List Str) I J K])).bind fun L=>
 k L))) fun q=>
 (Vm.zay e j).bind fun M=>
 bif M then
 (q true)
 else
 ((Vm.zay e f).bind fun N=>
 q N))) fun r=>
 (gi b a).bind fun P=>
 bif decide (P< (0:Int)) then
 (r true)
 else
 ((gi d a).bind fun Q=>
 r (decide (Q< (0:Int)))))
 else
 (l g h i a c)
def zfp (x0:List Str)(x1:List Str)(x2:List Str):Option ((List Vm.Part)):=
 (Vm.zft x0 x1).bind fun b=>
 (apM b [(x1.length:Int)]).bind fun a=>
 (Vm.zft x0 x2).bind fun c=>
 (apM c [(x2.length:Int)]).bind fun d=>
 jn (fun(g:Int) (h:Int) (i:Int) (j:Int) (e:List Vm.Part)=>
 some e) fun f=>
 zaM x0 x1 x2 a d f (((a.length:Int)-0).toNat+1) 0 0 0 0 ([]:List Part)
def zfa (x0:Vm.Part):Option ((List Str)×Bool):=
 some (([]:List Str),false)
def zao (b:(List Vm.Part))(f:List Str->Bool->List Str->Int->Option ((List Str)×Bool)):Nat->List Str->Bool->List Str->Int->Option ((List Str)×Bool)
 |0,_,_,_,_=>none
 |m+1,c,d,g,a=>
 bif decide (a< (b.length:Int)) then
 ((gi b a).bind fun e=>
 jn (fun(j:List Str) (k:Bool) (l:List Str)=>
 (apM g l).bind fun n=>
 zao b f m j k n (w64 (a+1))) fun h=>
 bif e.Clash then
 ((Vm.zfa e).bind fun i=>
 bif(!i.2) then
 (some (([]:List Str),false))
 else
 (h c d i.1))
 else
 (h c d e.Lines))
 else
 (f c d g a)
def zbv (x0:List Str)(x1:List Str)(x2:List Str):Option ((List Str)×Bool):=
 (Vm.zeI x0 x1 x2).bind fun c=>
 bif(!c) then
 (some (([]:List Str),false))
 else
 ((Vm.zfp x0 x1 x2).bind fun a=>
 jn (fun(f:List Str) (g:Bool) (b:List Str) (h:Int)=>
 (Vm.zbx b).bind fun d=>
 bif(!d) then
 (some (([]:List Str),false))
 else
 (some (b,true))) fun e=>
 zao a e (((a.length:Int)-0).toNat+1) ([]:List Str) false ([]:List Str) 0)
def zdX (x0:List Str)(x1:List Str)(x2:List Str):Option ((List Str)×Bool):=
 (Vm.zbv x0 x1 x2).bind fun a=>
 some (a.1,a.2)
def zge (x0:Vm.has)(x1:Vm.has)(x2:Vm.has):Option (Vm.has×Int):=
 jn (fun(d:Bool)=>
 bif d then
 (some (x2,0))
 else
 ((Vm.zdO x2 x0).bind fun e=>
 bif e then
 (some (x1,0))
 else
 (jn (fun(f:Bool)=>
 bif f then
 (some (x0,1))
 else
 (bif(!x0.file) then
 (some (x0,2))
 else
 ((Vm.zdX x0.text x1.text x2.text).bind fun a=>
 bif(!a.2) then
 (some (x0,3))
 else
 (some (Vm.has.mk a.1 true,0))))) fun b=>
 bif(!x1.file) then
 (b true)
 else
 (b (!x2.file))))) fun c=>
 (Vm.zdO x1 x0).bind fun g=>
 bif g then
 (c true)
 else
 ((Vm.zdO x1 x2).bind fun h=>
 c h)
def zcE (x0:List Vm.File)(x1:List Vm.File)(x2:List Vm.File)(d:(List Str))(g:List Vm.File->List Vm.Clash->Int->Option ((List Vm.File)×(List Vm.Clash))):Nat->List Vm.File->List Vm.Clash->Int->Option ((List Vm.File)×(List Vm.Clash))
 |0,_,_,_=>none
 |m+1,e,f,b=>
 bif decide (b< (d.length:Int)) then
 (jn (fun(o:List Vm.File) (p:List Vm.Clash)=>
 zcE x0 x1 x2 d g m o p (w64 (b+1))) fun h=>
 (gi d b).bind fun a=>
 (Vm.zgl x0 a).bind fun i=>
 (Vm.zgl x1 a).bind fun j=>
 (Vm.zgl x2 a).bind fun k=>
 (Vm.zge (Vm.has.mk i.text i.file) (Vm.has.mk j.text j.file) (Vm.has.mk k.text k.file)).bind fun c=>
 jn (fun(l:List Vm.Clash)=>
 bif c.1.file then
 ((apM e [Vm.File.mk a c.1.text]).bind fun q=>
 h q l)
 else
 (h e l)) fun n=>
 bif(c.2 !=0) then
 ((apM f [Vm.Clash.mk a c.2]).bind fun r=>
 n r)
 else
 (n f))
 else
 (g e f b)
def zgf (x0:List Vm.File)(x1:List Vm.File)(x2:List Vm.File):Option ((List Vm.File)×(List Vm.Clash)):=
 (Vm.zd6 x0 x1 x2).bind fun e=>
 bif(!e) then
 (some (([]:List File),([]:List Clash)))
 else
 ((Vm.zeH ([x0,x1,x2]:List (List File))).bind fun a=>
 jn (fun(b:List Vm.File) (c:List Vm.Clash) (j:Int)=>
 jn (fun(f:Bool)=>
 bif f then
 ((Vm.zbI x0).bind fun g=>
 some (g,([Vm.Clash.mk ([]:Str) 4]:List Clash)))
 else
 (some (b,c))) fun d=>
 bif((c.length:Int)==0) then
 ((Vm.zcl b).bind fun h=>
 d (!h))
 else
 (d false)) fun i=>
 zcE x0 x1 x2 a i (((a.length:Int)-0).toNat+1) ([]:List File) ([]:List Clash) 0)
def zcq (x0:List Vm.File)(x1:List Vm.File)(x2:List Vm.File):Option ((List Vm.File)×Bool):=
 (Vm.zd6 x0 x1 x2).bind fun b=>
 bif(!b) then
 (some (([]:List File),false))
 else
 ((Vm.zgf x0 x1 x2).bind fun a=>
 bif decide (0< (a.2.length:Int)) then
 (some (([]:List File),false))
 else
 (some (a.1,true)))
def zaN (x0:List Vm.Head)(x1:Int)(x2:Vm.Head):Option ((List Vm.Head)):=
 if 0<=x1/\x1<=x0.length/\x0.length+1<=lim then some (x0.take x1.toNat++[x2]++x0.drop x1.toNat) else none
def zcx (x0:List Vm.Head)(x1:Vm.Head)(b:Int->Option ((List Vm.Head))):Nat->Int->Option ((List Vm.Head))
 |0,_=>none
 |m+1,a=>
 jn (fun(e:Bool)=>
 bif e then
 (zcx x0 x1 b m (w64 (a-1)))
 else
 (b a)) fun c=>
 bif decide (0< (a:Int)) then
 ((gi x0 (w64 (a-1))).bind fun d=>
 c (!(Op.bytesLess d.Name x1.Name||d.Name==x1.Name)))
 else
 (c false)
def zdB (x0:List Vm.Head)(x1:Vm.Head):Option ((List Vm.Head)):=
 jn (fun(a:Int)=>
 (apM ([]:List Head) x0).bind fun b=>
 (Vm.zaN b a x1).bind fun c=>
 some c) fun d=>
 zcx x0 x1 d (x0.length+1) (x0.length:Int)
def zaF (x0:Vm.Repo)(x1:Str)(x2:Int)(c:Int->List Vm.Commit->List Vm.Head->List Vm.Head->Option (Vm.Repo)):Nat->Int->List Vm.Commit->List Vm.Head->List Vm.Head->Option (Vm.Repo)
 |0,_,_,_,_=>none
 |m+1,a,d,e,b=>
 bif decide (a< (x0.Heads.length:Int)) then
 ((gi b a).bind fun f=>
 bif(f.Name==x1) then
 ((gi b a).bind fun g=>
 (siM b a (Vm.Head.mk g.Name x2)).bind fun h=>
 some (Vm.Repo.mk x0.Commits h))
 else
 (zaF x0 x1 x2 c m (w64 (a+1)) d e b))
 else
 (c a d e b)
def za1 (x0:Vm.Repo)(x1:Str)(x2:Int):Option (Vm.Repo):=
 jn (fun(d:Int) (e:List Vm.Commit) (f:List Vm.Head) (a:List Vm.Head)=>
 (Vm.zdB a (Vm.Head.mk x1 x2)).bind fun b=>
 some (Vm.Repo.mk x0.Commits b)) fun c=>
 zaF x0 x1 x2 c (((x0.Heads.length:Int)-0).toNat+1) 0 ([]:List Commit) ([]:List Head) x0.Heads
def za3 (x0:Vm.Repo)(x1:Str)(x2:Str)(x3:List Vm.File)(x4:List Int):Option (Vm.Repo):=
 (Vm.zbI x3).bind fun c=>
 (apM x0.Commits [Vm.Commit.mk x4 x2 c]).bind fun a=>
 (Vm.za1 (Vm.Repo.mk a x0.Heads) x1 (w64 ((a.length:Int)-1))).bind fun b=>
 some (Vm.Repo.mk b.Commits b.Heads)
def zbe (x0:Vm.Repo)(x1:Vm.Repo):Option (Vm.Repo×Bool):=
 (Vm.zdE (Vm.Repo.mk x1.Commits x1.Heads)).bind fun b=>
 bif(!b) then
 ((Vm.zaP x0).bind fun a=>
 some (Vm.Repo.mk a.Commits a.Heads,false))
 else
 (some (Vm.Repo.mk x1.Commits x1.Heads,true))
def zhe (x0:List Int)(c:Int->Int->Int->Option (Int)):Nat->Int->Int->Int->Option (Int)
 |0,_,_,_=>none
 |m+1,b,d,a=>
 bif decide (a< (x0.length:Int)) then
 ((gi x0 a).bind fun e=>
 bif((e:Int) !=(b:Int)) then
 (some (-1))
 else
 (zhe x0 c m (w64 (b+1)) d (w64 (a+1))))
 else
 (c b d a)
def zkA (x0:List Int)(x1:Int):Option (Int):=
 jn (fun(a:Int) (c:Int) (d:Int)=>
 some a) fun b=>
 zhe x0 b (((x0.length:Int)-0).toNat+1) x1 0 0
def zgC (x0:List Vm.File)(c:Int->Int->Int->Option (Int)):Nat->Int->Int->Int->Option (Int)
 |0,_,_,_=>none
 |m+1,b,d,a=>
 bif decide (a< (x0.length:Int)) then
 ((gi x0 a).bind fun f=>
 (Vm.zcp b).bind fun g=>
 bif(f.Path !=g) then
 (some (-1))
 else
 ((gi x0 a).bind fun h=>
 (Vm.zeX h.Text (w64 (b+1))).bind fun e=>
 bif decide (e< (0:Int)) then
 (some (-1))
 else
 (zgC x0 c m e d (w64 (a+1)))))
 else
 (c b d a)
def zjz (x0:List Vm.File)(x1:Int):Option (Int):=
 jn (fun(a:Int) (c:Int) (d:Int)=>
 some a) fun b=>
 zgC x0 b (((x0.length:Int)-0).toNat+1) x1 0 0
def zfH (x0:List Vm.Commit)(c:Int->Int->Int->Option (Int)):Nat->Int->Int->Int->Option (Int)
 |0,_,_,_=>none
 |m+1,d,e,a=>
 bif decide (a< (x0.length:Int)) then
 ((gi x0 a).bind fun g=>
 (Vm.zkA g.Parents d).bind fun b=>
 bif decide (b< (0:Int)) then
 (some (-1))
 else
 ((gi x0 a).bind fun h=>
 (Vm.zcp b).bind fun i=>
 bif(h.Who !=i) then
 (some (-1))
 else
 ((gi x0 a).bind fun j=>
 (Vm.zjz j.Tree (w64 (b+1))).bind fun f=>
 bif decide (f< (0:Int)) then
 (some (-1))
 else
 (zfH x0 c m f e (w64 (a+1))))))
 else
 (c d e a)
def zie (x0:List Vm.Commit)(x1:Int):Option (Int):=
 jn (fun(a:Int) (c:Int) (d:Int)=>
 some a) fun b=>
 zfH x0 b (((x0.length:Int)-0).toNat+1) x1 0 0
def zgD (x0:List Vm.Head)(c:Int->Int->Int->Option (Int)):Nat->Int->Int->Int->Option (Int)
 |0,_,_,_=>none
 |m+1,b,d,a=>
 bif decide (a< (x0.length:Int)) then
 ((gi x0 a).bind fun e=>
 (Vm.zcp b).bind fun f=>
 bif(e.Name !=f) then
 (some (-1))
 else
 ((gi x0 a).bind fun g=>
 bif((g.At:Int) !=(w64 (b+1):Int)) then
 (some (-1))
 else
 (zgD x0 c m (w64 ((w64 (b+1))+1)) d (w64 (a+1)))))
 else
 (c b d a)
def zjA (x0:List Vm.Head)(x1:Int):Option (Int):=
 jn (fun(a:Int) (c:Int) (d:Int)=>
 some a) fun b=>
 zgD x0 b (((x0.length:Int)-0).toNat+1) x1 0 0
def zfb (x0:Vm.Repo)(x1:Int):Option (Int):=
 (Vm.zie x0.Commits x1).bind fun a=>
 bif decide (a< (0:Int)) then
 (some (-1))
 else
 ((Vm.zjA x0.Heads a).bind fun b=>
 bif decide (b< (0:Int)) then
 (some (-1))
 else
 (some b))
end Go.Vm
