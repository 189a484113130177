/- Models of the functions: plain Lean, printed by a program of ours. Conditions: none. -/
import Derived.Test.YtifbmanldeabeaaGreatDoorGLw
import Derived.Lib.SplitLaws
import Derived.Lib.IndexMore
import Derived.Lib.Join
import Derived.Lib.ItoaNum
namespace Go.Vm
open Go Go.Sx
set_option linter.unusedVariables false
set_option linter.unusedSimpArgs false
def zeY (x0:Int)(x1:Int)(x2:Int):Option (Bool):=
 jn (fun(b:Bool)=>
 some b) fun a=>
 bif decide (x1<=(x0:Int)) then
 (a (decide (x0<=(x2:Int))))
 else
 (a false)
def zcB (x0:Str)(c:Bool->Int->Option (Bool)):Nat->Bool->Int->Option (Bool)
 |0,_,_=>none
 |m+1,d,a=>
 bif decide (a< (x0.length:Int)) then
 (jn (fun(e:Bool)=>
 bif e then
 (some false)
 else
 (zcB x0 c m d (w64 (a+1)))) fun b=>
 (chM x0 a).bind fun f=>
 bif decide (((UInt8.toNat f:Int):Int)< (97:Int)) then
 ((chM x0 a).bind fun g=>
 bif decide (((UInt8.toNat g:Int):Int)< (48:Int)) then
 (b true)
 else
 ((chM x0 a).bind fun h=>
 b (decide ((57:Int)< ((UInt8.toNat h:Int):Int)))))
 else
 ((chM x0 a).bind fun i=>
 bif decide ((122:Int)< ((UInt8.toNat i:Int):Int)) then
 ((chM x0 a).bind fun j=>
 bif decide (((UInt8.toNat j:Int):Int)< (48:Int)) then
 (b true)
 else
 ((chM x0 a).bind fun k=>
 b (decide ((57:Int)< ((UInt8.toNat k:Int):Int)))))
 else
 (b false)))
 else
 (c d a)
def zbW (x0:Str):Option (Bool):=
 jn (fun(c:Bool) (d:Int)=>
 (Vm.zeY (x0.length:Int) 1 6).bind fun a=>
 some a) fun b=>
 zcB x0 b (((x0.length:Int)-0).toNat+1) false 0
def ze4 (x0:Str)(x1:Byte)(x2:Int)(d:List Str->Int->Int->Option ((List Str))):Nat->List Str->Int->Int->Option ((List Str))
 |0,_,_,_=>none
 |m+1,b,c,a=>
 jn (fun(g:Bool)=>
 bif g then
 (jn (fun(h:List Str) (i:Int)=>
 ze4 x0 x1 x2 d m h i (w64 (a+1))) fun e=>
 (chM x0 a).bind fun j=>
 bif(((UInt8.toNat j:Int):Int)==((UInt8.toNat x1:Int):Int)) then
 ((slM x0 c a).bind fun k=>
 (apM b [k]).bind fun l=>
 e l (w64 (a+1)))
 else
 (e b c))
 else
 (d b c a)) fun f=>
 bif decide (a< (x0.length:Int)) then
 (f (decide (b.length< (x2:Int))))
 else
 (f false)
def zh9 (x0:Str)(x1:Byte)(x2:Int):Option ((List Str)):=
 jn (fun(a:List Str) (b:Int) (f:Int)=>
 (slM x0 b (x0.length:Int)).bind fun c=>
 (apM a [c]).bind fun d=>
 some d) fun e=>
 ze4 x0 x1 x2 e (x0.length+1) ([]:List Str) 0 0
def zcC (b:(List Str))(c:Bool->Int->Option (Bool)):Nat->Bool->Int->Option (Bool)
 |0,_,_=>none
 |m+1,d,a=>
 bif decide (a< (b.length:Int)) then
 ((gi b a).bind fun e=>
 (Vm.zbW e).bind fun f=>
 bif(!f) then
 (some false)
 else
 (zcC b c m d (w64 (a+1))))
 else
 (c d a)
def zcT (x0:Str):Option (Bool):=
 (Vm.zh9 x0 (UInt8.ofNatLT 47 (by decide):Byte) 3).bind fun a=>
 jn (fun(c:Bool) (d:Int)=>
 some (decide (a.length<=(3:Int)))) fun b=>
 zcC a b (((a.length:Int)-0).toNat+1) false 0
def zcD (x0:Str)(b:Bool->Int->Option (Bool)):Nat->Bool->Int->Option (Bool)
 |0,_,_=>none
 |m+1,c,a=>
 bif decide (a< (x0.length:Int)) then
 (jn (fun(e:Bool)=>
 bif e then
 (some false)
 else
 (zcD x0 b m c (w64 (a+1)))) fun d=>
 (chM x0 a).bind fun f=>
 bif decide (((UInt8.toNat f:Int):Int)< (32:Int)) then
 (d true)
 else
 ((chM x0 a).bind fun g=>
 d (decide ((126:Int)< ((UInt8.toNat g:Int):Int)))))
 else
 (b c a)
def zgM (x0:Str):Option (Bool):=
 jn (fun(b:Bool) (c:Int)=>
 some (decide (x0.length<=(12:Int)))) fun a=>
 zcD x0 a (((x0.length:Int)-0).toNat+1) false 0
def zd0 (x0:List Str)(b:Bool->Int->Option (Bool)):Nat->Bool->Int->Option (Bool)
 |0,_,_=>none
 |m+1,c,a=>
 bif decide (a< (x0.length:Int)) then
 ((gi x0 a).bind fun d=>
 (Vm.zgM d).bind fun e=>
 bif(!e) then
 (some false)
 else
 (zd0 x0 b m c (w64 (a+1))))
 else
 (b c a)
def zc2 (x0:List Str):Option (Bool):=
 jn (fun(b:Bool) (c:Int)=>
 some (decide (x0.length<=(10:Int)))) fun a=>
 zd0 x0 a (((x0.length:Int)-0).toNat+1) false 0
def zhQ (x0:Str)(x1:Str):Option (Bool):=
 jn (fun(b:Bool)=>
 some b) fun a=>
 bif decide (x0.length< (x1.length:Int)) then
 ((slM x1 0 (x0.length:Int)).bind fun c=>
 bif(c==x0) then
 ((chM x1 (x0.length:Int)).bind fun d=>
 a (((UInt8.toNat d:Int):Int)==(47:Int)))
 else
 (a false))
 else
 (a false)
def zcw (x0:List Vm.File)(b:Int)(c:Bool->Int->Option (Bool)):Nat->Bool->Int->Option (Bool)
 |0,_,_=>none
 |m+1,d,a=>
 bif decide (a< (x0.length:Int)) then
 ((gi x0 b).bind fun e=>
 (gi x0 a).bind fun f=>
 (Vm.zhQ e.Path f.Path).bind fun g=>
 bif g then
 (some false)
 else
 (zcw x0 b c m d (w64 (a+1))))
 else
 (c d a)
def zd1 (x0:List Vm.File)(c:Bool->Int->Option (Bool)):Nat->Bool->Int->Option (Bool)
 |0,_,_=>none
 |m+1,d,a=>
 bif decide (a< (x0.length:Int)) then
 (jn (fun(g:Bool)=>
 bif g then
 (some false)
 else
 (jn (fun(h:Bool) (o:Int)=>
 zd1 x0 c m h (w64 (a+1))) fun i=>
 zcw x0 a i (((x0.length:Int)-0).toNat+1) d 0)) fun b=>
 (gi x0 a).bind fun j=>
 (Vm.zcT j.Path).bind fun k=>
 bif(!k) then
 (b true)
 else
 ((gi x0 a).bind fun l=>
 (Vm.zc2 l.Text).bind fun n=>
 bif(!n) then
 (b true)
 else
 (bif decide (0< (a:Int)) then
 ((gi x0 a).bind fun e=>
 (gi x0 (w64 (a-1))).bind fun f=>
 b (Op.bytesLess e.Path f.Path||e.Path==f.Path))
 else
 (b false))))
 else
 (c d a)
def zec (x0:List Vm.File):Option (Bool):=
 jn (fun(b:Bool) (c:Int)=>
 some (decide (x0.length<=(8:Int)))) fun a=>
 zd1 x0 a (((x0.length:Int)-0).toNat+1) false 0
def zcx (d:Int)(b:Vm.Commit)(e:Bool->Int->Option (Bool)):Nat->Bool->Int->Option (Bool)
 |0,_,_=>none
 |m+1,f,a=>
 bif decide (a< (b.Parents.length:Int)) then
 (jn (fun(g:Bool)=>
 bif g then
 (some false)
 else
 (zcx d b e m f (w64 (a+1)))) fun c=>
 (gi b.Parents a).bind fun h=>
 (Vm.zeY h 0 (w64 (d-1))).bind fun i=>
 bif(!i) then
 (c true)
 else
 (bif decide (0< (a:Int)) then
 ((gi b.Parents a).bind fun j=>
 (gi b.Parents 0).bind fun k=>
 c ((j:Int)==(k:Int)))
 else
 (c false)))
 else
 (e f a)
def zcy (x0:Vm.Repo)(c:Bool->Int->Option (Bool)):Nat->Bool->Int->Option (Bool)
 |0,_,_=>none
 |m+1,d,a=>
 bif decide (a< (x0.Heads.length:Int)) then
 (jn (fun(g:Bool)=>
 bif g then
 (some false)
 else
 (zcy x0 c m d (w64 (a+1)))) fun b=>
 (gi x0.Heads a).bind fun h=>
 (Vm.zbW h.Name).bind fun i=>
 bif(!i) then
 (b true)
 else
 ((gi x0.Heads a).bind fun j=>
 (Vm.zeY j.At 0 (w64 ((x0.Commits.length:Int)-1))).bind fun k=>
 bif(!k) then
 (b true)
 else
 (bif decide (0< (a:Int)) then
 ((gi x0.Heads a).bind fun e=>
 (gi x0.Heads (w64 (a-1))).bind fun f=>
 b (Op.bytesLess e.Name f.Name||e.Name==f.Name))
 else
 (b false))))
 else
 (c d a)
def zd2 (x0:Vm.Repo)(d:Bool->Int->Option (Bool)):Nat->Bool->Int->Option (Bool)
 |0,_,_=>none
 |m+1,e,a=>
 bif decide (a< (x0.Commits.length:Int)) then
 ((gi x0.Commits a).bind fun b=>
 jn (fun(f:Bool) (k:Int)=>
 jn (fun(g:Bool)=>
 bif g then
 (some false)
 else
 (zd2 x0 d m f (w64 (a+1)))) fun c=>
 bif decide (2< (b.Parents.length:Int)) then
 (c true)
 else
 ((Vm.zbW b.Who).bind fun h=>
 bif(!h) then
 (c true)
 else
 ((Vm.zec b.Tree).bind fun i=>
 c (!i)))) fun j=>
 zcx a b j (((b.Parents.length:Int)-0).toNat+1) e 0)
 else
 (d e a)
def zcQ (x0:Vm.Repo):Option (Bool):=
 jn (fun(b:Bool) (f:Int)=>
 jn (fun(g:Bool) (h:Int)=>
 jn (fun(c:Bool)=>
 some c) fun a=>
 bif decide (x0.Commits.length<=(16:Int)) then
 (a (decide (x0.Heads.length<=(5:Int))))
 else
 (a false)) fun d=>
 zcy x0 d (((x0.Heads.length:Int)-0).toNat+1) b 0) fun e=>
 zd2 x0 e (((x0.Commits.length:Int)-0).toNat+1) false 0
def zd3 (x0:Vm.Repo)(x1:Str)(b:Int->Int->Option (Int)):Nat->Int->Int->Option (Int)
 |0,_,_=>none
 |m+1,c,a=>
 bif decide (a< (x0.Heads.length:Int)) then
 ((gi x0.Heads a).bind fun d=>
 bif(d.Name==x1) then
 ((gi x0.Heads a).bind fun e=>
 some e.At)
 else
 (zd3 x0 x1 b m c (w64 (a+1))))
 else
 (b c a)
def zc3 (x0:Vm.Repo)(x1:Str):Option (Int):=
 jn (fun(b:Int) (c:Int)=>
 some (-1)) fun a=>
 zd3 x0 x1 a (((x0.Heads.length:Int)-0).toNat+1) 0 0
def zdg (x0:Vm.Repo)(a:Int)(d:Int->List Bool->Option ((List Int))):Nat->Int->List Bool->Option ((List Int))
 |0,_,_=>none
 |m+1,b,c=>
 jn (fun(g:Bool)=>
 bif g then
 ((gi x0.Commits a).bind fun h=>
 (gi h.Parents b).bind fun e=>
 (gi c e).bind fun l=>
 (siM c e true).bind fun i=>
 zdg x0 a d m (w64 (b+1)) i)
 else
 (d b c)) fun f=>
 (gi x0.Commits a).bind fun j=>
 bif decide (b< (j.Parents.length:Int)) then
 ((gi c a).bind fun k=>
 f k)
 else
 (f false)
def zbQ (b:List Bool)(d:List Int->Int->Option ((List Int))):Nat->List Int->Int->Option ((List Int))
 |0,_,_=>none
 |m+1,c,a=>
 bif decide (a< (b.length:Int)) then
 (jn (fun(f:List Int)=>
 zbQ b d m f (w64 (a+1))) fun e=>
 (gi b a).bind fun g=>
 bif g then
 ((apM c [a]).bind fun h=>
 e h)
 else
 (e c))
 else
 (d c a)
def zbR (x0:Vm.Repo)(b:Int->List Bool->Option ((List Int))):Nat->Int->List Bool->Option ((List Int))
 |0,_,_=>none
 |m+1,a,c=>
 bif decide (0<=(a:Int)) then
 (jn (fun(f:Int) (d:List Bool)=>
 zbR x0 b m (w64 (a-1)) d) fun e=>
 zdg x0 a e (4) 0 c)
 else
 (b a c)
def zfI (x0:Vm.Repo)(x1:Int):Option ((List Int)):=
 (mkM (x0.Commits.length:Int) (false:Bool)).bind fun a=>
 (gi a x1).bind fun g=>
 (siM a x1 true).bind fun c=>
 jn (fun(h:Int) (b:List Bool)=>
 jn (fun(d:List Int) (i:Int)=>
 some d) fun e=>
 zbQ b e (((b.length:Int)-0).toNat+1) ([]:List Int) 0) fun f=>
 zbR x0 f ((x1+1-0).toNat+1) x1 c
def zdh (x0:List Int)(x1:Int)(b:Bool->Int->Option (Bool)):Nat->Bool->Int->Option (Bool)
 |0,_,_=>none
 |m+1,c,a=>
 bif decide (a< (x0.length:Int)) then
 ((gi x0 a).bind fun d=>
 bif((d:Int)==(x1:Int)) then
 (some true)
 else
 (zdh x0 x1 b m c (w64 (a+1))))
 else
 (b c a)
def zf1 (x0:List Int)(x1:Int):Option (Bool):=
 jn (fun(b:Bool) (c:Int)=>
 some false) fun a=>
 zdh x0 x1 a (((x0.length:Int)-0).toNat+1) false 0
def zbB (x0:Vm.Repo)(b:List Int)(c:Int)(d:Bool->Int->Option ((List Int))):Nat->Bool->Int->Option ((List Int))
 |0,_,_=>none
 |m+1,e,a=>
 bif decide (a< (b.length:Int)) then
 (bif e then
 (bif((a:Int)==(c:Int)) then
 (zbB x0 b c d m true (w64 (a+1)))
 else
 ((gi b a).bind fun f=>
 (gi b c).bind fun g=>
 (Vm.zfI x0 f).bind fun h=>
 (Vm.zf1 h g).bind fun i=>
 zbB x0 b c d m (!i) (w64 (a+1))))
 else
 (zbB x0 b c d m false (w64 (a+1))))
 else
 (d e a)
def zaO (x0:Vm.Repo)(a:List Int)(d:List Int->Int->Option ((List Int))):Nat->List Int->Int->Option ((List Int))
 |0,_,_=>none
 |m+1,c,b=>
 bif decide (b< (a.length:Int)) then
 (jn (fun(f:List Int)=>
 zaO x0 a d m f (w64 (b+1))) fun e=>
 jn (fun(g:Bool) (k:Int)=>
 bif g then
 ((gi a b).bind fun h=>
 (apM c [h]).bind fun i=>
 e i)
 else
 (e c)) fun j=>
 zbB x0 a b j (((a.length:Int)-0).toNat+1) true 0)
 else
 (d c b)
def zb2 (b:(List Int))(d:(List Int))(e:List Int->Int->Option ((List Int))):Nat->List Int->Int->Option ((List Int))
 |0,_,_=>none
 |m+1,c,a=>
 bif decide (a< (b.length:Int)) then
 (jn (fun(g:List Int)=>
 zb2 b d e m g (w64 (a+1))) fun f=>
 (gi b a).bind fun h=>
 (Vm.zf1 d h).bind fun i=>
 bif i then
 ((gi b a).bind fun j=>
 (apM c [j]).bind fun k=>
 f k)
 else
 (f c))
 else
 (e c a)
def zfL (x0:Vm.Repo)(x1:Int)(x2:Int):Option ((List Int)):=
 (Vm.zfI x0 x1).bind fun a=>
 (Vm.zfI x0 x2).bind fun c=>
 jn (fun(b:List Int) (g:Int)=>
 jn (fun(d:List Int) (h:Int)=>
 some d) fun e=>
 zaO x0 b e (((b.length:Int)-0).toNat+1) ([]:List Int) 0) fun f=>
 zb2 a c f (((a.length:Int)-0).toNat+1) ([]:List Int) 0
def zf2 (x0:Vm.Repo)(x1:Int)(x2:Int):Option ((List Vm.File)):=
 (Vm.zfL x0 x1 x2).bind fun a=>
 bif((a.length:Int)==0) then
 (some ([]:List File))
 else
 ((gi a (w64 ((a.length:Int)-1))).bind fun b=>
 (gi x0.Commits b).bind fun c=>
 some c.Tree)
def zdi (x0:List Vm.File)(x1:Str)(b:List Str->Bool->Int->Option ((List Str)×Bool)):Nat->List Str->Bool->Int->Option ((List Str)×Bool)
 |0,_,_,_=>none
 |m+1,c,d,a=>
 bif decide (a< (x0.length:Int)) then
 ((gi x0 a).bind fun e=>
 bif(e.Path==x1) then
 ((gi x0 a).bind fun f=>
 some (f.Text,true))
 else
 (zdi x0 x1 b m c d (w64 (a+1))))
 else
 (b c d a)
def zdN (x0:List Vm.File)(x1:Str):Option ((List Str)×Bool):=
 jn (fun(b:List Str) (c:Bool) (d:Int)=>
 some (([]:List Str),false)) fun a=>
 zdi x0 x1 a (((x0.length:Int)-0).toNat+1) ([]:List Str) false 0
def zcE (x0:List Str)(x1:List Str)(b:Bool->Int->Option (Bool)):Nat->Bool->Int->Option (Bool)
 |0,_,_=>none
 |m+1,c,a=>
 bif decide (a< (x0.length:Int)) then
 ((gi x0 a).bind fun d=>
 (gi x1 a).bind fun e=>
 bif(d !=e) then
 (some false)
 else
 (zcE x0 x1 b m c (w64 (a+1))))
 else
 (b c a)
def zeo (x0:List Str)(x1:List Str):Option (Bool):=
 bif((x0.length:Int) !=(x1.length:Int)) then
 (some false)
 else
 (jn (fun(b:Bool) (c:Int)=>
 some true) fun a=>
 zcE x0 x1 a (((x0.length:Int)-0).toNat+1) false 0)
def zb3 (x0:List Str)(x1:List Str)(b:Int)(e:Int->List (List Int)->Option ((List (List Int)))):Nat->Int->List (List Int)->Option ((List (List Int)))
 |0,_,_=>none
 |m+1,a,c=>
 bif decide (0<=(a:Int)) then
 (jn (fun(h:List (List Int))=>
 zb3 x0 x1 b e m (w64 (a-1)) h) fun d=>
 (gi x0 b).bind fun i=>
 (gi x1 a).bind fun j=>
 bif(i==j) then
 ((gi c b).bind fun u64=>
 (gi c (w64 (b+1))).bind fun k=>
 (gi k (w64 (a+1))).bind fun l=>
 (gi u64 a).bind fun B=>
 (siM u64 a (w64 (l+1))).bind fun n=>
 (siM c b n).bind fun o=>
 d o)
 else
 ((gi c (w64 (b+1))).bind fun p=>
 (gi p a).bind fun q=>
 (gi c b).bind fun r=>
 (gi r (w64 (a+1))).bind fun s=>
 bif decide (s<=(q:Int)) then
 ((gi c b).bind fun f=>
 (gi c (w64 (b+1))).bind fun t=>
 (gi t a).bind fun u=>
 (gi f a).bind fun C=>
 (siM f a u).bind fun v=>
 (siM c b v).bind fun w=>
 d w)
 else
 ((gi c b).bind fun g=>
 (gi c b).bind fun x=>
 (gi x (w64 (a+1))).bind fun y=>
 (gi g a).bind fun D=>
 (siM g a y).bind fun z=>
 (siM c b z).bind fun A=>
 d A)))
 else
 (e a c)
def zbo (x0:List Str)(x1:List Str)(b:Int->List (List Int)->Option ((List (List Int)))):Nat->Int->List (List Int)->Option ((List (List Int)))
 |0,_,_=>none
 |m+1,a,c=>
 bif decide (0<=(a:Int)) then
 (jn (fun(f:Int) (d:List (List Int))=>
 zbo x0 x1 b m (w64 (a-1)) d) fun e=>
 zb3 x0 x1 a e (((w64 ((x1.length:Int)-1))+1-0).toNat+1) (w64 ((x1.length:Int)-1)) c)
 else
 (b a c)
def zb4 (x0:List Str)(x1:List Str)(b:List (List Int)->Int->Option ((List (List Int)))):Nat->List (List Int)->Int->Option ((List (List Int)))
 |0,_,_=>none
 |m+1,c,a=>
 bif decide (a<=(x0.length:Int)) then
 ((mkM (w64 ((x1.length:Int)+1)) (0:Int)).bind fun d=>
 (apM c [d]).bind fun e=>
 zb4 x0 x1 b m e (w64 (a+1)))
 else
 (b c a)
def zfM (x0:List Str)(x1:List Str):Option ((List (List Int))):=
 jn (fun(a:List (List Int)) (e:Int)=>
 jn (fun(f:Int) (b:List (List Int))=>
 some b) fun c=>
 zbo x0 x1 c (((w64 ((x0.length:Int)-1))+1-0).toNat+1) (w64 ((x0.length:Int)-1)) a) fun d=>
 zb4 x0 x1 d (((x0.length:Int)+1-0).toNat+1) ([]:List (List Int)) 0
def zc4 (x0:List Str)(x1:List Str)(c:(List (List Int)))(d:List Int->Int->Int->Option ((List Int))):Nat->List Int->Int->Int->Option ((List Int))
 |0,_,_,_=>none
 |m+1,e,a,b=>
 bif decide (b< (x0.length:Int)) then
 (jn (fun(h:Bool)=>
 bif h then
 ((apM e [a]).bind fun i=>
 zc4 x0 x1 c d m i (w64 (a+1)) (w64 (b+1)))
 else
 (jn (fun(j:Bool)=>
 bif j then
 ((apM e [(-1)]).bind fun k=>
 zc4 x0 x1 c d m k a (w64 (b+1)))
 else
 (zc4 x0 x1 c d m e (w64 (a+1)) b)) fun f=>
 bif decide (x1.length<=(a:Int)) then
 (f true)
 else
 ((gi c (w64 (b+1))).bind fun l=>
 (gi l a).bind fun n=>
 (gi c b).bind fun o=>
 (gi o (w64 (a+1))).bind fun p=>
 f (decide (p<=(n:Int)))))) fun g=>
 bif decide (a< (x1.length:Int)) then
 ((gi x0 b).bind fun q=>
 (gi x1 a).bind fun r=>
 g (q==r))
 else
 (g false))
 else
 (d e a b)
def zc5 (x0:List Str)(x1:List Str):Option ((List Int)):=
 (Vm.zfM x0 x1).bind fun a=>
 jn (fun(b:List Int) (d:Int) (e:Int)=>
 some b) fun c=>
 zc4 x0 x1 a c (x0.length+x1.length+1) ([]:List Int) 0 0
def zdj (x0:List Str)(x1:Str)(b:Int->Option ((List Str))):Nat->Int->Option ((List Str))
 |0,_=>none
 |m+1,a=>
 jn (fun(d:Bool)=>
 bif d then
 (zdj x0 x1 b m (w64 (a+1)))
 else
 (b a)) fun c=>
 bif decide (a< (x0.length:Int)) then
 ((gi x0 a).bind fun e=>
 c (Op.bytesLess e x1))
 else
 (c false)
def zdO (x0:List Str)(x1:Str):Option ((List Str)):=
 jn (fun(a:Int)=>
 jn (fun(c:Bool)=>
 bif c then
 (some x0)
 else
 ((slM x0 0 a).bind fun d=>
 (apM ([]:List Str) d).bind fun e=>
 (apM e [x1]).bind fun f=>
 (slM x0 a (x0.length:Int)).bind fun g=>
 (apM f g).bind fun h=>
 some h)) fun b=>
 bif decide (a< (x0.length:Int)) then
 ((gi x0 a).bind fun i=>
 b (i==x1))
 else
 (b false)) fun j=>
 zdj x0 x1 j (x0.length+1) 0
def zcF (x0:List Vm.File)(b:List Vm.File->Int->Option ((List Vm.File))):Nat->List Vm.File->Int->Option ((List Vm.File))
 |0,_,_=>none
 |m+1,c,a=>
 bif decide (a< (x0.length:Int)) then
 ((gi x0 a).bind fun d=>
 (gi x0 a).bind fun e=>
 (apM ([]:List Str) e.Text).bind fun f=>
 (apM c [Vm.File.mk d.Path f]).bind fun g=>
 zcF x0 b m g (w64 (a+1)))
 else
 (b c a)
def zdp (x0:List Vm.File):Option ((List Vm.File)):=
 jn (fun(a:List Vm.File) (c:Int)=>
 some a) fun b=>
 zcF x0 b (((x0.length:Int)-0).toNat+1) ([]:List File) 0
def zcW (x0:Vm.Commit):Option (Vm.Commit):=
 (apM ([]:List Int) x0.Parents).bind fun a=>
 (Vm.zdp x0.Tree).bind fun b=>
 some (Vm.Commit.mk a x0.Who b)
def zcG (x0:Vm.Repo)(c:Int->List Vm.Commit->List Vm.Head->Option (Vm.Repo)):Nat->Int->List Vm.Commit->List Vm.Head->Option (Vm.Repo)
 |0,_,_,_=>none
 |m+1,a,d,e=>
 bif decide (a< (x0.Commits.length:Int)) then
 ((gi x0.Commits a).bind fun f=>
 (Vm.zcW f).bind fun b=>
 (apM d [Vm.Commit.mk b.Parents b.Who b.Tree]).bind fun g=>
 zcG x0 c m (w64 (a+1)) g e)
 else
 (c a d e)
def zbl (x0:Vm.Repo):Option (Vm.Repo):=
 (apM ([]:List Head) x0.Heads).bind fun a=>
 jn (fun(e:Int) (b:List Vm.Commit) (c:List Vm.Head)=>
 some (Vm.Repo.mk b c)) fun d=>
 zcG x0 d (((x0.Commits.length:Int)-0).toNat+1) 0 ([]:List Commit) a
def zcH (x0:Vm.Repo)(x1:Str)(x2:Int)(e:Bool->Int->List Vm.Commit->List Vm.Head->Option (Vm.Repo)):Nat->Bool->Int->List Vm.Commit->List Vm.Head->Option (Vm.Repo)
 |0,_,_,_,_=>none
 |m+1,b,a,c,d=>
 bif decide (a< (x0.Heads.length:Int)) then
 (jn (fun(l:Bool) (n:List Vm.Commit) (o:List Vm.Head)=>
 zcH x0 x1 x2 e m l (w64 (a+1)) n o) fun f=>
 jn (fun(g:Bool) (h:List Vm.Commit) (i:List Vm.Head)=>
 (gi x0.Heads a).bind fun p=>
 bif(p.Name !=x1) then
 ((gi x0.Heads a).bind fun q=>
 (apM i [q]).bind fun r=>
 f g h r)
 else
 (f g h i)) fun j=>
 jn (fun(s:Bool)=>
 bif s then
 ((apM d [Vm.Head.mk x1 x2]).bind fun t=>
 j true c t)
 else
 (j b c d)) fun k=>
 bif(!b) then
 ((gi x0.Heads a).bind fun u=>
 k (!Op.bytesLess u.Name x1))
 else
 (k false))
 else
 (e b a c d)
def zfB (x0:Vm.Repo)(x1:Str)(x2:Int):Option (Vm.Repo):=
 jn (fun(d:Bool) (i:Int) (a:List Vm.Commit) (b:List Vm.Head)=>
 jn (fun(e:List Vm.Commit) (f:List Vm.Head)=>
 some (Vm.Repo.mk e f)) fun c=>
 bif(!d) then
 ((apM b [Vm.Head.mk x1 x2]).bind fun g=>
 c a g)
 else
 (c a b)) fun h=>
 zcH x0 x1 x2 h (((x0.Heads.length:Int)-0).toNat+1) false 0 x0.Commits ([]:List Head)
def zaH (x2:List Vm.File)(b:List Str->Int->Option ((List Str))):Nat->List Str->Int->Option ((List Str))
 |0,_,_=>none
 |m+1,c,a=>
 bif decide (a< (x2.length:Int)) then
 ((gi x2 a).bind fun d=>
 (Vm.zdO c d.Path).bind fun e=>
 zaH x2 b m e (w64 (a+1)))
 else
 (b c a)
def za2 (x1:List Vm.File)(b:List Str->Int->Option ((List Str))):Nat->List Str->Int->Option ((List Str))
 |0,_,_=>none
 |m+1,c,a=>
 bif decide (a< (x1.length:Int)) then
 ((gi x1 a).bind fun d=>
 (Vm.zdO c d.Path).bind fun e=>
 za2 x1 b m e (w64 (a+1)))
 else
 (b c a)
def zb5 (x0:List Vm.File)(b:List Str->Int->Option ((List Str))):Nat->List Str->Int->Option ((List Str))
 |0,_,_=>none
 |m+1,c,a=>
 bif decide (a< (x0.length:Int)) then
 ((gi x0 a).bind fun d=>
 (Vm.zdO c d.Path).bind fun e=>
 zb5 x0 b m e (w64 (a+1)))
 else
 (b c a)
def zfN (x0:List Vm.File)(x1:List Vm.File)(x2:List Vm.File):Option ((List Str)):=
 jn (fun(a:List Str) (g:Int)=>
 jn (fun(b:List Str) (h:Int)=>
 jn (fun(c:List Str) (i:Int)=>
 some c) fun d=>
 zaH x2 d (((x2.length:Int)-0).toNat+1) b 0) fun e=>
 za2 x1 e (((x1.length:Int)-0).toNat+1) a 0) fun f=>
 zb5 x0 f (((x0.length:Int)-0).toNat+1) ([]:List Str) 0
def zfC (x0:List Str)(x1:Bool)(x2:List Str)(x3:Bool):Option (Bool):=
 jn (fun(b:Bool)=>
 some b) fun a=>
 bif(x1==x3) then
 (bif(!x1) then
 (a true)
 else
 ((Vm.zeo x0 x2).bind fun c=>
 a c))
 else
 (a false)
def zgN (x0:List Str)(x1:List Str)(x2:List Str):Option (Vm.Part):=
 jn (fun(c:Bool)=>
 bif c then
 ((apM ([]:List Str) x2).bind fun d=>
 some (Vm.Part.mk false d ([]:List Str) ([]:List Str) ([]:List Str)))
 else
 ((Vm.zeo x2 x0).bind fun e=>
 bif e then
 ((apM ([]:List Str) x1).bind fun f=>
 some (Vm.Part.mk false f ([]:List Str) ([]:List Str) ([]:List Str)))
 else
 ((apM ([]:List Str) x0).bind fun g=>
 (apM ([]:List Str) x1).bind fun h=>
 (apM ([]:List Str) x2).bind fun i=>
 some (Vm.Part.mk true ([]:List Str) g h i)))) fun a=>
 (Vm.zeo x1 x0).bind fun b=>
 bif b then
 (a b)
 else
 ((Vm.zeo x1 x2).bind fun j=>
 a j)
def zhx (x0:List Vm.Part)(x1:Vm.Part):Option ((List Vm.Part)):=
 jn (fun(d:Bool)=>
 bif d then
 (some x0)
 else
 (jn (fun(e:Bool)=>
 bif e then
 ((gi x0 (w64 ((x0.length:Int)-1))).bind fun a=>
 (apM a.Lines x1.Lines).bind fun f=>
 (gi x0 (w64 ((x0.length:Int)-1))).bind fun j=>
 (siM x0 (w64 ((x0.length:Int)-1)) (Vm.Part.mk a.Clash f a.Old a.One a.Two)).bind fun g=>
 some g)
 else
 ((apM x0 [Vm.Part.mk x1.Clash x1.Lines x1.Old x1.One x1.Two]).bind fun h=>
 some h)) fun b=>
 bif decide (0< (x0.length:Int)) then
 (bif(!x1.Clash) then
 ((gi x0 (w64 ((x0.length:Int)-1))).bind fun i=>
 b (!i.Clash))
 else
 (b false))
 else
 (b false))) fun c=>
 bif(!x1.Clash) then
 (c ((x1.Lines.length:Int)==0))
 else
 (c false)
def zcz (x0:List Str)(x1:List Str)(x2:List Str)(b:List Int)(d:List Int)(i:List Vm.Part->Int->Int->Int->Int->Option ((List Vm.Part))):Nat->List Vm.Part->Int->Int->Int->Int->Option ((List Vm.Part))
 |0,_,_,_,_,_=>none
 |m+1,e,f,g,h,a=>
 bif decide (a< (b.length:Int)) then
 (jn (fun(o:List Vm.Part) (p:Int) (q:Int) (r:Int)=>
 zcz x0 x1 x2 b d i m o p q r (w64 (a+1))) fun j=>
 jn (fun(s:Bool)=>
 bif s then
 (j e f g h)
 else
 ((slM x0 f a).bind fun t=>
 (gi b a).bind fun u=>
 (slM x1 g u).bind fun v=>
 (gi d a).bind fun w=>
 (slM x2 h w).bind fun x=>
 (Vm.zgN t v x).bind fun c=>
 (Vm.zhx e (Vm.Part.mk c.Clash c.Lines c.Old c.One c.Two)).bind fun k=>
 jn (fun(y:List Vm.Part)=>
 (gi b a).bind fun z=>
 (gi d a).bind fun A=>
 j y (w64 (a+1)) (w64 (z+1)) (w64 (A+1))) fun l=>
 bif decide (a< (x0.length:Int)) then
 ((gi x0 a).bind fun B=>
 (Vm.zhx k (Vm.Part.mk false ([B]:List Str) ([]:List Str) ([]:List Str) ([]:List Str))).bind fun C=>
 l C)
 else
 (l k))) fun n=>
 (gi b a).bind fun D=>
 bif decide (D< (0:Int)) then
 (n true)
 else
 ((gi d a).bind fun E=>
 n (decide (E< (0:Int)))))
 else
 (i e f g h a)
def zjx (x0:List Str)(x1:List Str)(x2:List Str):Option ((List Vm.Part)):=
 (Vm.zc5 x0 x1).bind fun b=>
 (apM b [(x1.length:Int)]).bind fun a=>
 (Vm.zc5 x0 x2).bind fun c=>
 (apM c [(x2.length:Int)]).bind fun d=>
 jn (fun(e:List Vm.Part) (g:Int) (h:Int) (i:Int) (j:Int)=>
 some e) fun f=>
 zcz x0 x1 x2 a d f (((a.length:Int)-0).toNat+1) ([]:List Part) 0 0 0 0
def zcI (x0:List Vm.Part)(b:List Str->Bool->List Str->Int->Option ((List Str)×Bool)):Nat->List Str->Bool->List Str->Int->Option ((List Str)×Bool)
 |0,_,_,_,_=>none
 |m+1,c,d,e,a=>
 bif decide (a< (x0.length:Int)) then
 ((gi x0 a).bind fun f=>
 bif f.Clash then
 (some (([]:List Str),false))
 else
 ((gi x0 a).bind fun g=>
 (apM e g.Lines).bind fun h=>
 zcI x0 b m c d h (w64 (a+1))))
 else
 (b c d e a)
def zgO (x0:List Vm.Part):Option ((List Str)×Bool):=
 jn (fun(d:List Str) (e:Bool) (a:List Str) (f:Int)=>
 (Vm.zc2 a).bind fun b=>
 bif(!b) then
 (some (([]:List Str),false))
 else
 (some (a,true))) fun c=>
 zcI x0 c (((x0.length:Int)-0).toNat+1) ([]:List Str) false ([]:List Str) 0
def zia (x0:List Vm.File)(x1:List Vm.File)(x2:List Vm.File)(x3:Str):Option ((List Str)×Bool×Int):=
 (Vm.zdN x0 x3).bind fun a=>
 (Vm.zdN x1 x3).bind fun b=>
 (Vm.zdN x2 x3).bind fun c=>
 jn (fun(h:Bool)=>
 bif h then
 (some (c.1,c.2,0))
 else
 ((Vm.zfC c.1 c.2 a.1 a.2).bind fun i=>
 bif i then
 (some (b.1,b.2,0))
 else
 (jn (fun(j:Bool)=>
 bif j then
 (some (a.1,a.2,1))
 else
 (bif(!a.2) then
 (some (([]:List Str),false,2))
 else
 ((Vm.zjx a.1 b.1 c.1).bind fun k=>
 (Vm.zgO k).bind fun d=>
 bif(!d.2) then
 (some (a.1,true,3))
 else
 (some (d.1,true,0))))) fun e=>
 bif(!b.2) then
 (e true)
 else
 (e (!c.2))))) fun f=>
 (Vm.zfC b.1 b.2 a.1 a.2).bind fun g=>
 bif g then
 (f g)
 else
 ((Vm.zfC b.1 b.2 c.1 c.2).bind fun l=>
 f l)
def zd4 (x0:List Vm.File)(x1:List Vm.File)(x2:List Vm.File)(b:(List Str))(f:List Vm.File->List Vm.Clash->Int->Option ((List Vm.File)×(List Vm.Clash))):Nat->List Vm.File->List Vm.Clash->Int->Option ((List Vm.File)×(List Vm.Clash))
 |0,_,_,_=>none
 |m+1,d,e,a=>
 bif decide (a< (b.length:Int)) then
 (jn (fun(j:List Vm.File) (k:List Vm.Clash)=>
 zd4 x0 x1 x2 b f m j k (w64 (a+1))) fun g=>
 (gi b a).bind fun l=>
 (Vm.zia x0 x1 x2 l).bind fun c=>
 jn (fun(h:List Vm.Clash)=>
 bif c.2.1 then
 ((gi b a).bind fun n=>
 (apM ([]:List Str) c.1).bind fun o=>
 (apM d [Vm.File.mk n o]).bind fun p=>
 g p h)
 else
 (g d h)) fun i=>
 bif decide (0< (c.2.2:Int)) then
 ((gi b a).bind fun q=>
 (apM e [Vm.Clash.mk q c.2.2]).bind fun r=>
 i r)
 else
 (i e))
 else
 (f d e a)
def zjy (x0:List Vm.File)(x1:List Vm.File)(x2:List Vm.File):Option ((List Vm.File)×(List Vm.Clash)):=
 (Vm.zfN x0 x1 x2).bind fun a=>
 jn (fun(b:List Vm.File) (c:List Vm.Clash) (e:Int)=>
 some (b,c)) fun d=>
 zd4 x0 x1 x2 a d (((a.length:Int)-0).toNat+1) ([]:List File) ([]:List Clash) 0
def zf3 (x0:List Vm.File)(x1:List Vm.File)(x2:List Vm.File):Option ((List Vm.File)×(List Vm.Clash)):=
 (Vm.zjy x0 x1 x2).bind fun a=>
 jn (fun(c:Bool)=>
 bif c then
 ((Vm.zdp x0).bind fun d=>
 some (d,([Vm.Clash.mk ([]:Str) 4]:List Clash)))
 else
 (some (a.1,a.2))) fun b=>
 bif((a.2.length:Int)==0) then
 ((Vm.zec a.1).bind fun e=>
 b (!e))
 else
 (b false)
def zdP (x0:Vm.Repo)(x1:Str)(x2:Vm.Commit):Option (Vm.Repo):=
 (apM ([]:List Commit) x0.Commits).bind fun a=>
 (apM a [x2]).bind fun b=>
 (Vm.zfB (Vm.Repo.mk b x0.Heads) x1 (x0.Commits.length:Int)).bind fun c=>
 some c
def zd5 (x0:Vm.Repo)(x1:Str)(x2:Str)(x3:Int):Option (Vm.Repo×Int):=
 (Vm.zc3 x0 x1).bind fun a=>
 (Vm.zfI x0 a).bind fun d=>
 (Vm.zf1 d x3).bind fun e=>
 bif e then
 (some (x0,2))
 else
 ((Vm.zfI x0 x3).bind fun f=>
 (Vm.zf1 f a).bind fun g=>
 bif g then
 ((Vm.zfB x0 x1 x3).bind fun h=>
 some (h,3))
 else
 ((gi x0.Commits a).bind fun i=>
 (gi x0.Commits x3).bind fun j=>
 (Vm.zf2 x0 a x3).bind fun k=>
 (Vm.zf3 k i.Tree j.Tree).bind fun b=>
 bif decide (0< (b.2.length:Int)) then
 (some (x0,4))
 else
 ((Vm.zdP x0 x1 (Vm.Commit.mk ([a,x3]:List Int) x2 b.1)).bind fun c=>
 (Vm.zcQ c).bind fun l=>
 bif(!l) then
 (some (x0,5))
 else
 (some (c,0)))))
def zfD (x0:Int)(x1:Int)(x2:Int):Option (Bool):=
 jn (fun(b:Bool)=>
 some b) fun a=>
 bif decide (x1<=(x0:Int)) then
 (a (decide (x0<=(x2:Int))))
 else
 (a false)
def ze5 (x0:Byte):Option (Bool):=
 jn (fun(b:Bool)=>
 some b) fun a=>
 bif decide ((97:Int)<=((UInt8.toNat x0:Int):Int)) then
 (bif decide (((UInt8.toNat x0:Int):Int)<=(122:Int)) then
 (a true)
 else
 (bif decide ((48:Int)<=((UInt8.toNat x0:Int):Int)) then
 (a (decide (((UInt8.toNat x0:Int):Int)<=(57:Int))))
 else
 (a false)))
 else
 (bif decide ((48:Int)<=((UInt8.toNat x0:Int):Int)) then
 (a (decide (((UInt8.toNat x0:Int):Int)<=(57:Int))))
 else
 (a false))
def zcJ (x0:Str)(b:Bool->Int->Option (Bool)):Nat->Bool->Int->Option (Bool)
 |0,_,_=>none
 |m+1,c,a=>
 bif decide (a< (x0.length:Int)) then
 ((chM x0 a).bind fun d=>
 (Vm.ze5 d).bind fun e=>
 bif(!e) then
 (some false)
 else
 (zcJ x0 b m c (w64 (a+1))))
 else
 (b c a)
def zc9 (x0:Str):Option (Bool):=
 (Vm.zfD (x0.length:Int) 1 6).bind fun a=>
 bif(!a) then
 (some false)
 else
 (jn (fun(c:Bool) (d:Int)=>
 some true) fun b=>
 zcJ x0 b (((x0.length:Int)-0).toNat+1) false 0)
def zcK (x0:Str)(b:Bool->Int->Option (Bool)):Nat->Bool->Int->Option (Bool)
 |0,_,_=>none
 |m+1,c,a=>
 bif decide (a< (x0.length:Int)) then
 (jn (fun(e:Bool)=>
 bif e then
 (some false)
 else
 (zcK x0 b m c (w64 (a+1)))) fun d=>
 (chM x0 a).bind fun f=>
 bif decide (((UInt8.toNat f:Int):Int)< (32:Int)) then
 (d true)
 else
 ((chM x0 a).bind fun g=>
 d (decide ((126:Int)< ((UInt8.toNat g:Int):Int)))))
 else
 (b c a)
def zgP (x0:Str):Option (Bool):=
 bif decide (12< (x0.length:Int)) then
 (some false)
 else
 (jn (fun(b:Bool) (c:Int)=>
 some true) fun a=>
 zcK x0 a (((x0.length:Int)-0).toNat+1) false 0)
def zcL (x0:List Str)(b:Bool->Int->Option (Bool)):Nat->Bool->Int->Option (Bool)
 |0,_,_=>none
 |m+1,c,a=>
 bif decide (a< (x0.length:Int)) then
 ((gi x0 a).bind fun d=>
 (Vm.zgP d).bind fun e=>
 bif(!e) then
 (some false)
 else
 (zcL x0 b m c (w64 (a+1))))
 else
 (b c a)
def zcU (x0:List Str):Option (Bool):=
 bif decide (10< (x0.length:Int)) then
 (some false)
 else
 (jn (fun(b:Bool) (c:Int)=>
 some true) fun a=>
 zcL x0 a (((x0.length:Int)-0).toNat+1) false 0)
def strings_Split (x0:Str)(x1:Str):Option ((List Str)):=
 if x0.length<=4294967000/\1<=x1.length then some (Go.Lib.split x0 x1) else none
def zcM (b:(List Str))(c:Bool->Int->Option (Bool)):Nat->Bool->Int->Option (Bool)
 |0,_,_=>none
 |m+1,d,a=>
 bif decide (a< (b.length:Int)) then
 ((gi b a).bind fun e=>
 (Vm.zc9 e).bind fun f=>
 bif(!f) then
 (some false)
 else
 (zcM b c m d (w64 (a+1))))
 else
 (c d a)
def zeM (x0:Str):Option (Bool):=
 (Vm.strings_Split x0 ([47]:Str)).bind fun a=>
 bif decide (3< (a.length:Int)) then
 (some false)
 else
 (jn (fun(c:Bool) (d:Int)=>
 some true) fun b=>
 zcM a b (((a.length:Int)-0).toNat+1) false 0)
def strings_HasPrefix (x0:Str)(x1:Str):Option (Bool):=
 some (Go.Lib.hasPrefix x0 x1)
def zbX (x0:Str)(x1:Str):Option (Bool):=
 jn (fun(b:Bool)=>
 some b) fun a=>
 (Vm.zeM x0).bind fun c=>
 bif c then
 ((Vm.zeM x1).bind fun d=>
 bif d then
 ((saM x0 ([47]:Str)).bind fun e=>
 (Vm.strings_HasPrefix x1 e).bind fun f=>
 a f)
 else
 (a false))
 else
 (a false)
def zbx (c:Vm.File)(b:List Vm.File)(d:Bool->Int->Option (Bool)):Nat->Bool->Int->Option (Bool)
 |0,_,_=>none
 |m+1,e,a=>
 bif decide (a< (b.length:Int)) then
 ((gi b a).bind fun f=>
 (Vm.zbX f.Path c.Path).bind fun g=>
 bif g then
 (some false)
 else
 (zbx c b d m e (w64 (a+1))))
 else
 (d e a)
def zcN (x0:List Vm.File)(d:Bool->Int->Option (Bool)):Nat->Bool->Int->Option (Bool)
 |0,_,_=>none
 |m+1,e,a=>
 bif decide (a< (x0.length:Int)) then
 ((gi x0 a).bind fun b=>
 jn (fun(g:Bool)=>
 bif g then
 (some false)
 else
 ((slM x0 0 a).bind fun f=>
 jn (fun(h:Bool) (n:Int)=>
 zcN x0 d m h (w64 (a+1))) fun i=>
 zbx b f i (((f.length:Int)-0).toNat+1) e 0)) fun c=>
 (Vm.zcU b.Text).bind fun j=>
 bif(!j) then
 (c true)
 else
 ((Vm.zeM b.Path).bind fun k=>
 bif(!k) then
 (c true)
 else
 (bif decide (0< (a:Int)) then
 ((gi x0 (w64 (a-1))).bind fun l=>
 c (!Op.bytesLess l.Path b.Path))
 else
 (c false))))
 else
 (d e a)
def zda (x0:List Vm.File):Option (Bool):=
 bif decide (8< (x0.length:Int)) then
 (some false)
 else
 (jn (fun(b:Bool) (c:Int)=>
 some true) fun a=>
 zcN x0 a (((x0.length:Int)-0).toNat+1) false 0)
def zbI (x0:Vm.Repo)(x1:Int):Option (Bool):=
 (Vm.zfD x1 0 (w64 ((x0.Commits.length:Int)-1))).bind fun a=>
 some a
def zb6 (x0:Vm.Repo)(x1:List Vm.Head)(d:Bool->Int->Option (Bool)):Nat->Bool->Int->Option (Bool)
 |0,_,_=>none
 |m+1,e,a=>
 bif decide (a< (x1.length:Int)) then
 ((gi x1 a).bind fun c=>
 jn (fun(f:Bool)=>
 bif f then
 (some false)
 else
 (zb6 x0 x1 d m e (w64 (a+1)))) fun b=>
 (Vm.zc9 c.Name).bind fun g=>
 bif(!g) then
 (b true)
 else
 ((Vm.zbI x0 c.At).bind fun h=>
 bif(!h) then
 (b true)
 else
 (bif decide (0< (a:Int)) then
 ((gi x1 (w64 (a-1))).bind fun i=>
 b (!Op.bytesLess i.Name c.Name))
 else
 (b false))))
 else
 (d e a)
def zfO (x0:Vm.Repo)(x1:List Vm.Head):Option (Bool):=
 bif decide (5< (x1.length:Int)) then
 (some false)
 else
 (jn (fun(b:Bool) (c:Int)=>
 some true) fun a=>
 zb6 x0 x1 a (((x1.length:Int)-0).toNat+1) false 0)
def zby (c:Int)(b:Vm.Commit)(d:Bool->Int->Option (Bool)):Nat->Bool->Int->Option (Bool)
 |0,_,_=>none
 |m+1,e,a=>
 bif decide (a< (b.Parents.length:Int)) then
 ((gi b.Parents a).bind fun f=>
 (Vm.zfD f 0 (w64 (c-1))).bind fun g=>
 bif(!g) then
 (some false)
 else
 (zby c b d m e (w64 (a+1))))
 else
 (d e a)
def zcO (x0:Vm.Repo)(d:Bool->Int->Option (Bool)):Nat->Bool->Int->Option (Bool)
 |0,_,_=>none
 |m+1,e,c=>
 bif decide (c< (x0.Commits.length:Int)) then
 ((gi x0.Commits c).bind fun a=>
 jn (fun(f:Bool)=>
 bif f then
 (some false)
 else
 (jn (fun(g:Bool) (p:Int)=>
 zcO x0 d m g (w64 (c+1))) fun h=>
 zby c a h (((a.Parents.length:Int)-0).toNat+1) e 0)) fun b=>
 bif decide (2< (a.Parents.length:Int)) then
 (b true)
 else
 (bif((a.Parents.length:Int)==2) then
 ((gi a.Parents 0).bind fun i=>
 (gi a.Parents 1).bind fun j=>
 bif((i:Int)==(j:Int)) then
 (b true)
 else
 ((Vm.zc9 a.Who).bind fun k=>
 bif(!k) then
 (b true)
 else
 ((Vm.zda a.Tree).bind fun l=>
 b (!l))))
 else
 ((Vm.zc9 a.Who).bind fun n=>
 bif(!n) then
 (b true)
 else
 ((Vm.zda a.Tree).bind fun o=>
 b (!o)))))
 else
 (d e c)
def zfa (x0:Vm.Repo):Option (Bool):=
 bif decide (16< (x0.Commits.length:Int)) then
 (some false)
 else
 (jn (fun(c:Bool) (d:Int)=>
 (Vm.zfO x0 x0.Heads).bind fun a=>
 some a) fun b=>
 zcO x0 b (((x0.Commits.length:Int)-0).toNat+1) false 0)
def zaX (x0:Vm.Repo)(x1:Int):Option ((List Vm.File)):=
 bif decide (x1< (0:Int)) then
 (some ([]:List File))
 else
 ((gi x0.Commits x1).bind fun a=>
 some a.Tree)
def zbS (x0:List Str):Option ((List Str)):=
 (apM ([]:List Str) x0).bind fun a=>
 some a
def zcV (x0:List Vm.File)(x1:Str)(b:List Str->Bool->Int->Option ((List Str)×Bool)):Nat->List Str->Bool->Int->Option ((List Str)×Bool)
 |0,_,_,_=>none
 |m+1,c,d,a=>
 bif decide (a< (x0.length:Int)) then
 ((gi x0 a).bind fun e=>
 bif(e.Path==x1) then
 ((Vm.zbS e.Text).bind fun f=>
 some (f,true))
 else
 (zcV x0 x1 b m c d (w64 (a+1))))
 else
 (b c d a)
def zfE (x0:List Vm.File)(x1:Str):Option ((List Str)×Bool):=
 jn (fun(b:List Str) (c:Bool) (d:Int)=>
 some (([]:List Str),false)) fun a=>
 zcV x0 x1 a (((x0.length:Int)-0).toNat+1) ([]:List Str) false 0
def zeN (x0:List Str)(x1:List Str)(b:Int)(d:Int->List (List Int)->Option ((List (List Int)))):Nat->Int->List (List Int)->Option ((List (List Int)))
 |0,_,_=>none
 |m+1,a,c=>
 bif decide (0<=(a:Int)) then
 (jn (fun(h:List (List Int))=>
 zeN x0 x1 b d m (w64 (a-1)) h) fun e=>
 (gi x0 b).bind fun i=>
 (gi x1 a).bind fun j=>
 bif(i==j) then
 ((gi c b).bind fun f=>
 (gi c (w64 (b+1))).bind fun k=>
 (gi k (w64 (a+1))).bind fun l=>
 (gi f a).bind fun v=>
 (siM f a (w64 (l+1))).bind fun n=>
 (siM c b n).bind fun o=>
 e o)
 else
 ((gi c b).bind fun g=>
 (gi c (w64 (b+1))).bind fun p=>
 (gi p a).bind fun q=>
 (gi c b).bind fun r=>
 (gi r (w64 (a+1))).bind fun s=>
 (gi g a).bind fun w=>
 (siM g a (zsf q s)).bind fun t=>
 (siM c b t).bind fun u=>
 e u))
 else
 (d a c)
def zdq (x0:List Str)(x1:List Str)(b:Int->List (List Int)->Option ((List (List Int)))):Nat->Int->List (List Int)->Option ((List (List Int)))
 |0,_,_=>none
 |m+1,a,c=>
 bif decide (0<=(a:Int)) then
 (jn (fun(f:Int) (d:List (List Int))=>
 zdq x0 x1 b m (w64 (a-1)) d) fun e=>
 zeN x0 x1 a e (((w64 ((x1.length:Int)-1))+1-0).toNat+1) (w64 ((x1.length:Int)-1)) c)
 else
 (b a c)
def zeO (x1:List Str)(c:List (List Int))(d:Int->List (List Int)->Option ((List (List Int)))):Nat->Int->List (List Int)->Option ((List (List Int)))
 |0,_,_=>none
 |m+1,a,b=>
 bif decide (a< (c.length:Int)) then
 ((mkM (w64 ((x1.length:Int)+1)) (0:Int)).bind fun e=>
 (gi b a).bind fun g=>
 (siM b a e).bind fun f=>
 zeO x1 c d m (w64 (a+1)) f)
 else
 (d a b)
def zk8 (x0:List Str)(x1:List Str):Option ((List (List Int))):=
 (mkM (w64 ((x0.length:Int)+1)) (([]:List Int):List Int)).bind fun a=>
 jn (fun(f:Int) (b:List (List Int))=>
 jn (fun(g:Int) (c:List (List Int))=>
 some c) fun d=>
 zdq x0 x1 d (((w64 ((x0.length:Int)-1))+1-0).toNat+1) (w64 ((x0.length:Int)-1)) b) fun e=>
 zeO x1 a e (((a.length:Int)-0).toNat+1) 0 a
def zed (x0:List Str)(x1:List Str)(c:(List (List Int)))(d:List Int->Int->Int->Option ((List Int))):Nat->List Int->Int->Int->Option ((List Int))
 |0,_,_,_=>none
 |m+1,e,b,a=>
 bif decide (b< (x0.length:Int)) then
 (jn (fun(h:Bool)=>
 bif h then
 ((apM e [a]).bind fun i=>
 zed x0 x1 c d m i (w64 (b+1)) (w64 (a+1)))
 else
 (jn (fun(j:Bool)=>
 bif j then
 ((apM e [(-1)]).bind fun k=>
 zed x0 x1 c d m k (w64 (b+1)) a)
 else
 (zed x0 x1 c d m e b (w64 (a+1)))) fun f=>
 bif((a:Int)==(x1.length:Int)) then
 (f true)
 else
 ((gi c (w64 (b+1))).bind fun l=>
 (gi l a).bind fun n=>
 (gi c b).bind fun u64=>
 (gi u64 (w64 (a+1))).bind fun o=>
 f (decide (o<=(n:Int)))))) fun g=>
 bif decide (a< (x1.length:Int)) then
 ((gi x0 b).bind fun p=>
 (gi x1 a).bind fun q=>
 g (p==q))
 else
 (g false))
 else
 (d e b a)
def zeG (x0:List Str)(x1:List Str):Option ((List Int)):=
 (Vm.zk8 x0 x1).bind fun a=>
 jn (fun(b:List Int) (d:Int) (e:Int)=>
 some b) fun c=>
 zed x0 x1 a c (x0.length+x1.length+1) ([]:List Int) 0 0
end Go.Vm
