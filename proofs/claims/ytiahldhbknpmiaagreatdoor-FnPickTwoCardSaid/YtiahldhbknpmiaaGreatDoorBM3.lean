/- Models of the functions: plain Lean, printed by a program of ours. Conditions: none. -/
import Derived.Test.YtiahldhbknpmiaaGreatDoorBLw
import Derived.Test.YtiahldhbknpmiaaGreatDoorBM0
namespace Go.Vm
open Go Go.Sx
set_option linter.unusedVariables false
set_option linter.unusedSimpArgs false
def zfj (x0:List Str):Option ((List Str)):=
 (apM ([]:List Str) x0).bind fun a=>
 some a
def zds (x0:List Vm.File)(b:List Vm.File->Int->Option ((List Vm.File))):Nat->List Vm.File->Int->Option ((List Vm.File))
 |0,_,_=>none
 |m+1,c,a=>
 bif decide (a< (x0.length:Int)) then
 ((gi x0 a).bind fun d=>
 (Vm.zfj d.Text).bind fun e=>
 (apM c [Vm.File.mk d.Path e]).bind fun f=>
 zds x0 b m f (w64 (a+1)))
 else
 (b c a)
def zc4 (x0:List Vm.File):Option ((List Vm.File)):=
 jn (fun(a:List Vm.File) (c:Int)=>
 some a) fun b=>
 zds x0 b (((x0.length:Int)-0).toNat+1) ([]:List File) 0
def zaN (x0:Vm.Repo)(x1:Int):Option ((List Vm.File)):=
 bif decide (x1< (0:Int)) then
 (some ([]:List File))
 else
 ((gi x0.Commits x1).bind fun a=>
 some a.Tree)
def zgE (x0:List Vm.File)(x1:List Vm.File)(x2:List Vm.File):Option (Bool):=
 jn (fun(b:Bool)=>
 some b) fun a=>
 (Vm.zdM x0).bind fun c=>
 bif c then
 ((Vm.zdM x1).bind fun d=>
 bif d then
 ((Vm.zdM x2).bind fun e=>
 a e)
 else
 (a false))
 else
 (a false)
def zeY (x0:List Str):Option ((List Str)):=
 if x0.length<=4294967296 then some (zdE x0) else none
def zeb (x0:List Str):Option ((List Str)):=
 if x0.length<=4294967296 then some (zkZ x0) else none
def zdt (b:List Vm.File)(c:List Str->Int->Option ((List Str))):Nat->List Str->Int->Option ((List Str))
 |0,_,_=>none
 |m+1,d,a=>
 bif decide (a< (b.length:Int)) then
 ((gi b a).bind fun e=>
 (apM d [e.Path]).bind fun f=>
 zdt b c m f (w64 (a+1)))
 else
 (c d a)
def zbm (x0:List (List Vm.File))(b:List Str->Int->Option ((List Str))):Nat->List Str->Int->Option ((List Str))
 |0,_,_=>none
 |m+1,c,a=>
 bif decide (a< (x0.length:Int)) then
 ((gi x0 a).bind fun d=>
 jn (fun(e:List Str) (g:Int)=>
 zbm x0 b m e (w64 (a+1))) fun f=>
 zdt d f (((d.length:Int)-0).toNat+1) c 0)
 else
 (b c a)
def zg6 (x0:List (List Vm.File)):Option ((List Str)):=
 jn (fun(a:List Str) (e:Int)=>
 (Vm.zeY a).bind fun b=>
 (Vm.zeb b).bind fun c=>
 some c) fun d=>
 zbm x0 d (((x0.length:Int)-0).toNat+1) ([]:List Str) 0
def zfF (x0:List Vm.File)(x1:Str)(b:List Str->Bool->Int->Option ((List Str)×Bool)):Nat->List Str->Bool->Int->Option ((List Str)×Bool)
 |0,_,_,_=>none
 |m+1,c,d,a=>
 bif decide (a< (x0.length:Int)) then
 ((gi x0 a).bind fun e=>
 bif(e.Path==x1) then
 ((Vm.zfj e.Text).bind fun f=>
 some (f,true))
 else
 (zfF x0 x1 b m c d (w64 (a+1))))
 else
 (b c d a)
def zkN (x0:List Vm.File)(x1:Str):Option ((List Str)×Bool):=
 jn (fun(b:List Str) (c:Bool) (d:Int)=>
 some (([]:List Str),false)) fun a=>
 zfF x0 x1 a (((x0.length:Int)-0).toNat+1) ([]:List Str) false 0
def ziQ (x0:List Vm.File)(x1:Str):Option (Vm.has):=
 (Vm.zkN x0 x1).bind fun a=>
 some (Vm.has.mk a.1 a.2)
def zaQ (x0:List Str)(x1:List Str)(b:Bool->Int->Option (Bool)):Nat->Bool->Int->Option (Bool)
 |0,_,_=>none
 |m+1,c,a=>
 bif decide (a< (x0.length:Int)) then
 ((gi x0 a).bind fun d=>
 (gi x1 a).bind fun e=>
 bif(d !=e) then
 (some false)
 else
 (zaQ x0 x1 b m c (w64 (a+1))))
 else
 (b c a)
def zbe (x0:List Str)(x1:List Str):Option (Bool):=
 bif((x0.length:Int) !=(x1.length:Int)) then
 (some false)
 else
 (jn (fun(b:Bool) (c:Int)=>
 some true) fun a=>
 zaQ x0 x1 a (((x0.length:Int)-0).toNat+1) false 0)
def zf4 (x0:Vm.has)(x1:Vm.has):Option (Bool):=
 jn (fun(b:Bool)=>
 some b) fun a=>
 bif(x0.file==x1.file) then
 ((Vm.zbe x0.text x1.text).bind fun c=>
 a c)
 else
 (a false)
def zg7 (x0:List Str)(x1:List Str)(x2:List Str):Option (Bool):=
 jn (fun(b:Bool)=>
 some b) fun a=>
 (Vm.zca x0).bind fun c=>
 bif c then
 ((Vm.zca x1).bind fun d=>
 bif d then
 ((Vm.zca x2).bind fun e=>
 a e)
 else
 (a false))
 else
 (a false)
def zgF (x0:List Str)(x1:List Str)(b:Int)(d:Int->List (List Int)->Option ((List (List Int)))):Nat->Int->List (List Int)->Option ((List (List Int)))
 |0,_,_=>none
 |m+1,a,c=>
 bif decide (0<=(a:Int)) then
 (jn (fun(h:List (List Int))=>
 zgF x0 x1 b d m (w64 (a-1)) h) fun e=>
 (gi x0 b).bind fun i=>
 (gi x1 a).bind fun j=>
 bif(i==j) then
 ((gi c b).bind fun f=>
 (gi c (w64 (b+1))).bind fun k=>
 (gi k (w64 (a+1))).bind fun l=>
 (gi f a).bind fun v=>
 (siM f a (w64 (l+1))).bind fun n=>
 (siM c b n).bind fun o=>
 e o)
 else
 ((gi c b).bind fun g=>
 (gi c (w64 (b+1))).bind fun p=>
 (gi p a).bind fun q=>
 (gi c b).bind fun r=>
 (gi r (w64 (a+1))).bind fun s=>
 (gi g a).bind fun w=>
 (siM g a (zmU q s)).bind fun t=>
 (siM c b t).bind fun u=>
 e u))
 else
 (d a c)
def zeR (x0:List Str)(x1:List Str)(b:Int->List (List Int)->Option ((List (List Int)))):Nat->Int->List (List Int)->Option ((List (List Int)))
 |0,_,_=>none
 |m+1,a,c=>
 bif decide (0<=(a:Int)) then
 (jn (fun(f:Int) (d:List (List Int))=>
 zeR x0 x1 b m (w64 (a-1)) d) fun e=>
 zgF x0 x1 a e (((w64 ((x1.length:Int)-1))+1-0).toNat+1) (w64 ((x1.length:Int)-1)) c)
 else
 (b a c)
def zgG (x1:List Str)(c:List (List Int))(d:Int->List (List Int)->Option ((List (List Int)))):Nat->Int->List (List Int)->Option ((List (List Int)))
 |0,_,_=>none
 |m+1,a,b=>
 bif decide (a< (c.length:Int)) then
 ((mkM (w64 ((x1.length:Int)+1)) (0:Int)).bind fun e=>
 (gi b a).bind fun g=>
 (siM b a e).bind fun f=>
 zgG x1 c d m (w64 (a+1)) f)
 else
 (d a b)
def zlC (x0:List Str)(x1:List Str):Option ((List (List Int))):=
 (mkM (w64 ((x0.length:Int)+1)) (([]:List Int):List Int)).bind fun a=>
 jn (fun(f:Int) (b:List (List Int))=>
 jn (fun(g:Int) (c:List (List Int))=>
 some c) fun d=>
 zeR x0 x1 d (((w64 ((x0.length:Int)-1))+1-0).toNat+1) (w64 ((x0.length:Int)-1)) b) fun e=>
 zgG x1 a e (((a.length:Int)-0).toNat+1) 0 a
def zf5 (x0:List Str)(x1:List Str)(c:(List (List Int)))(d:List Int->Int->Int->Option ((List Int))):Nat->List Int->Int->Int->Option ((List Int))
 |0,_,_,_=>none
 |m+1,e,b,a=>
 bif decide (b< (x0.length:Int)) then
 (jn (fun(h:Bool)=>
 bif h then
 ((apM e [a]).bind fun i=>
 zf5 x0 x1 c d m i (w64 (b+1)) (w64 (a+1)))
 else
 (jn (fun(j:Bool)=>
 bif j then
 ((apM e [(-1)]).bind fun k=>
 zf5 x0 x1 c d m k (w64 (b+1)) a)
 else
 (zf5 x0 x1 c d m e b (w64 (a+1)))) fun f=>
 bif((a:Int)==(x1.length:Int)) then
 (f true)
 else
 ((gi c (w64 (b+1))).bind fun l=>
 (gi l a).bind fun n=>
 (gi c b).bind fun u64=>
 (gi u64 (w64 (a+1))).bind fun o=>
 f (decide (o<=(n:Int)))))) fun g=>
 bif decide (a< (x1.length:Int)) then
 ((gi x0 b).bind fun p=>
 (gi x1 a).bind fun q=>
 g (p==q))
 else
 (g false))
 else
 (d e b a)
def zjc (x0:List Str)(x1:List Str):Option ((List Int)):=
 (Vm.zlC x0 x1).bind fun a=>
 jn (fun(b:List Int) (d:Int) (e:Int)=>
 some b) fun c=>
 zf5 x0 x1 a c (x0.length+x1.length+1) ([]:List Int) 0 0
def zdh (x0:List Str)(x1:List Vm.Part):Option ((List Vm.Part)):=
 bif((x0.length:Int)==0) then
 (some x1)
 else
 (jn (fun(b:Int) (c:List Vm.Part)=>
 (gi c b).bind fun a=>
 (apM a.Lines x0).bind fun f=>
 (gi c b).bind fun k=>
 (siM c b (Vm.Part.mk a.Clash f a.Old a.One a.Two)).bind fun g=>
 some g) fun d=>
 jn (fun(h:Bool)=>
 bif h then
 ((apM x1 ([Vm.Part.mk false ([]:List Str) ([]:List Str) ([]:List Str) ([]:List Str)])).bind fun i=>
 d (w64 ((w64 ((x1.length:Int)-1))+1)) i)
 else
 (d (w64 ((x1.length:Int)-1)) x1)) fun e=>
 bif decide ((w64 ((x1.length:Int)-1):Int)< (0:Int)) then
 (e true)
 else
 ((gi x1 (w64 ((x1.length:Int)-1))).bind fun j=>
 e j.Clash))
def zbc (x0:List Str)(x1:List Str)(x2:List Str)(b:List Int)(d:List Int)(l:Int->Int->Int->Int->List Vm.Part->Option ((List Vm.Part))):Nat->Int->Int->Int->Int->List Vm.Part->Option ((List Vm.Part))
 |0,_,_,_,_,_=>none
 |m+1,g,h,i,a,c=>
 bif decide (a< (b.length:Int)) then
 (jn (fun(s:Int) (t:Int) (u:Int) (v:List Vm.Part)=>
 zbc x0 x1 x2 b d l m s t u (w64 (a+1)) v) fun n=>
 jn (fun(w:Bool)=>
 bif w then
 (n g h i c)
 else
 ((slM x0 g a).bind fun j=>
 (gi b a).bind fun x=>
 (slM x1 h x).bind fun e=>
 (gi d a).bind fun y=>
 (slM x2 i y).bind fun f=>
 jn (fun(o:List Vm.Part)=>
 jn (fun(z:List Vm.Part)=>
 (gi b a).bind fun A=>
 (gi d a).bind fun B=>
 n (w64 (a+1)) (w64 (A+1)) (w64 (B+1)) z) fun p=>
 bif decide (a< (x0.length:Int)) then
 ((slM x0 a (w64 (a+1))).bind fun C=>
 (Vm.zdh C o).bind fun D=>
 p D)
 else
 (p o)) fun k=>
 jn (fun(E:Bool)=>
 bif E then
 ((Vm.zdh f c).bind fun F=>
 k F)
 else
 ((Vm.zbe f j).bind fun G=>
 bif G then
 ((Vm.zdh e c).bind fun H=>
 k H)
 else
 ((Vm.zfj j).bind fun I=>
 (Vm.zfj e).bind fun J=>
 (Vm.zfj f).bind fun K=>
 (apM c ([Vm.Part.mk true ([]:List Str) I J K])).bind fun L=>
 k L))) fun q=>
 (Vm.zbe e j).bind fun M=>
 bif M then
 (q true)
 else
 ((Vm.zbe e f).bind fun N=>
 q N))) fun r=>
 (gi b a).bind fun P=>
 bif decide (P< (0:Int)) then
 (r true)
 else
 ((gi d a).bind fun Q=>
 r (decide (Q< (0:Int)))))
 else
 (l g h i a c)
def zhV (x0:List Str)(x1:List Str)(x2:List Str):Option ((List Vm.Part)):=
 (Vm.zjc x0 x1).bind fun b=>
 (apM b [(x1.length:Int)]).bind fun a=>
 (Vm.zjc x0 x2).bind fun c=>
 (apM c [(x2.length:Int)]).bind fun d=>
 jn (fun(g:Int) (h:Int) (i:Int) (j:Int) (e:List Vm.Part)=>
 some e) fun f=>
 zbc x0 x1 x2 a d f (((a.length:Int)-0).toNat+1) 0 0 0 0 ([]:List Part)
def zhJ (x0:Vm.Part):Option ((List Str)×Bool):=
 some (([]:List Str),false)
def zaz (b:(List Vm.Part))(f:List Str->Bool->List Str->Int->Option ((List Str)×Bool)):Nat->List Str->Bool->List Str->Int->Option ((List Str)×Bool)
 |0,_,_,_,_=>none
 |m+1,c,d,g,a=>
 bif decide (a< (b.length:Int)) then
 ((gi b a).bind fun e=>
 jn (fun(j:List Str) (k:Bool) (l:List Str)=>
 (apM g l).bind fun n=>
 zaz b f m j k n (w64 (a+1))) fun h=>
 bif e.Clash then
 ((Vm.zhJ e).bind fun i=>
 bif(!i.2) then
 (some (([]:List Str),false))
 else
 (h c d i.1))
 else
 (h c d e.Lines))
 else
 (f c d g a)
def zcQ (x0:List Str)(x1:List Str)(x2:List Str):Option ((List Str)×Bool):=
 (Vm.zg7 x0 x1 x2).bind fun c=>
 bif(!c) then
 (some (([]:List Str),false))
 else
 ((Vm.zhV x0 x1 x2).bind fun a=>
 jn (fun(f:List Str) (g:Bool) (b:List Str) (h:Int)=>
 (Vm.zca b).bind fun d=>
 bif(!d) then
 (some (([]:List Str),false))
 else
 (some (b,true))) fun e=>
 zaz a e (((a.length:Int)-0).toNat+1) ([]:List Str) false ([]:List Str) 0)
def zgs (x0:List Str)(x1:List Str)(x2:List Str):Option ((List Str)×Bool):=
 (Vm.zcQ x0 x1 x2).bind fun a=>
 some (a.1,a.2)
def ziN (x0:Vm.has)(x1:Vm.has)(x2:Vm.has):Option (Vm.has×Int):=
 jn (fun(d:Bool)=>
 bif d then
 (some (x2,0))
 else
 ((Vm.zf4 x2 x0).bind fun e=>
 bif e then
 (some (x1,0))
 else
 (jn (fun(f:Bool)=>
 bif f then
 (some (x0,1))
 else
 (bif(!x0.file) then
 (some (x0,2))
 else
 ((Vm.zgs x0.text x1.text x2.text).bind fun a=>
 bif(!a.2) then
 (some (x0,3))
 else
 (some (Vm.has.mk a.1 true,0))))) fun b=>
 bif(!x1.file) then
 (b true)
 else
 (b (!x2.file))))) fun c=>
 (Vm.zf4 x1 x0).bind fun g=>
 bif g then
 (c true)
 else
 ((Vm.zf4 x1 x2).bind fun h=>
 c h)
def zek (x0:List Vm.File)(x1:List Vm.File)(x2:List Vm.File)(d:(List Str))(g:List Vm.File->List Vm.Clash->Int->Option ((List Vm.File)×(List Vm.Clash))):Nat->List Vm.File->List Vm.Clash->Int->Option ((List Vm.File)×(List Vm.Clash))
 |0,_,_,_=>none
 |m+1,e,f,b=>
 bif decide (b< (d.length:Int)) then
 (jn (fun(o:List Vm.File) (p:List Vm.Clash)=>
 zek x0 x1 x2 d g m o p (w64 (b+1))) fun h=>
 (gi d b).bind fun a=>
 (Vm.ziQ x0 a).bind fun i=>
 (Vm.ziQ x1 a).bind fun j=>
 (Vm.ziQ x2 a).bind fun k=>
 (Vm.ziN (Vm.has.mk i.text i.file) (Vm.has.mk j.text j.file) (Vm.has.mk k.text k.file)).bind fun c=>
 jn (fun(l:List Vm.Clash)=>
 bif c.1.file then
 ((apM e [Vm.File.mk a c.1.text]).bind fun q=>
 h q l)
 else
 (h e l)) fun n=>
 bif(c.2 !=0) then
 ((apM f [Vm.Clash.mk a c.2]).bind fun r=>
 n r)
 else
 (n f))
 else
 (g e f b)
def ziO (x0:List Vm.File)(x1:List Vm.File)(x2:List Vm.File):Option ((List Vm.File)×(List Vm.Clash)):=
 (Vm.zgE x0 x1 x2).bind fun e=>
 bif(!e) then
 (some (([]:List File),([]:List Clash)))
 else
 ((Vm.zg6 ([x0,x1,x2]:List (List File))).bind fun a=>
 jn (fun(b:List Vm.File) (c:List Vm.Clash) (j:Int)=>
 jn (fun(f:Bool)=>
 bif f then
 ((Vm.zc4 x0).bind fun g=>
 some (g,([Vm.Clash.mk ([]:Str) 4]:List Clash)))
 else
 (some (b,c))) fun d=>
 bif((c.length:Int)==0) then
 ((Vm.zdM b).bind fun h=>
 d (!h))
 else
 (d false)) fun i=>
 zek x0 x1 x2 a i (((a.length:Int)-0).toNat+1) ([]:List File) ([]:List Clash) 0)
def zd4 (x0:List Vm.File)(x1:List Vm.File)(x2:List Vm.File):Option ((List Vm.File)×Bool):=
 (Vm.zgE x0 x1 x2).bind fun b=>
 bif(!b) then
 (some (([]:List File),false))
 else
 ((Vm.ziO x0 x1 x2).bind fun a=>
 bif decide (0< (a.2.length:Int)) then
 (some (([]:List File),false))
 else
 (some (a.1,true)))
def zdW (x0:List Str)(x1:List Str)(b:Bool->Int->Option (Bool)):Nat->Bool->Int->Option (Bool)
 |0,_,_=>none
 |m+1,c,a=>
 bif decide (a< (x0.length:Int)) then
 ((gi x0 a).bind fun d=>
 (gi x1 a).bind fun e=>
 bif(d !=e) then
 (some false)
 else
 (zdW x0 x1 b m c (w64 (a+1))))
 else
 (b c a)
def zhW (x0:List Str)(x1:List Str):Option (Bool):=
 bif((x0.length:Int) !=(x1.length:Int)) then
 (some false)
 else
 (jn (fun(b:Bool) (c:Int)=>
 some true) fun a=>
 zdW x0 x1 a (((x0.length:Int)-0).toNat+1) false 0)
def zel (x0:List Vm.File)(x1:List Vm.File)(b:Bool->Int->Option (Bool)):Nat->Bool->Int->Option (Bool)
 |0,_,_=>none
 |m+1,c,a=>
 bif decide (a< (x0.length:Int)) then
 (jn (fun(e:Bool)=>
 bif e then
 (some false)
 else
 (zel x0 x1 b m c (w64 (a+1)))) fun d=>
 (gi x0 a).bind fun f=>
 (gi x1 a).bind fun g=>
 bif(f.Path !=g.Path) then
 (d true)
 else
 ((gi x0 a).bind fun h=>
 (gi x1 a).bind fun i=>
 (Vm.zhW h.Text i.Text).bind fun j=>
 d (!j)))
 else
 (b c a)
def zfG (x0:List Vm.File)(x1:List Vm.File):Option (Bool):=
 bif((x0.length:Int) !=(x1.length:Int)) then
 (some false)
 else
 (jn (fun(b:Bool) (c:Int)=>
 some true) fun a=>
 zel x0 x1 a (((x0.length:Int)-0).toNat+1) false 0)
def zfk (x0:Vm.Repo)(x1:Int):Option ((List Vm.File)×Bool):=
 jn (fun(b:Bool)=>
 bif b then
 (some (([]:List File),false))
 else
 ((Vm.zaN x0 x1).bind fun c=>
 (Vm.zc4 c).bind fun d=>
 some (d,true))) fun a=>
 (Vm.zdg x0).bind fun e=>
 bif(!e) then
 (a true)
 else
 ((Vm.za8 x0 x1).bind fun f=>
 a (!f))
end Go.Vm
