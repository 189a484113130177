/- Models of the functions: plain Lean, printed by a program of ours. Conditions: none. -/
import Derived.Test.YtifbmanldeabeaaGreatDoorCLw
import Derived.Lib.SplitLaws
import Derived.Lib.IndexMore
import Derived.Lib.Join
import Derived.Lib.ItoaNum
namespace Go.Vm
open Go Go.Sx
set_option linter.unusedVariables false
set_option linter.unusedSimpArgs false
def zfe (x0:Int)(x1:Int)(x2:Int):Option (Bool):=
 jn (fun(b:Bool)=>
 some b) fun a=>
 bif decide (x1<=(x0:Int)) then
 (a (decide (x0<=(x2:Int))))
 else
 (a false)
def zcP (x0:Str)(c:Bool->Int->Option (Bool)):Nat->Bool->Int->Option (Bool)
 |0,_,_=>none
 |m+1,d,a=>
 bif decide (a< (x0.length:Int)) then
 (jn (fun(e:Bool)=>
 bif e then
 (some false)
 else
 (zcP x0 c m d (w64 (a+1)))) fun b=>
 (chM x0 a).bind fun f=>
 bif decide (((UInt8.toNat f:Int):Int)< (97:Int)) then
 ((chM x0 a).bind fun g=>
 bif decide (((UInt8.toNat g:Int):Int)< (48:Int)) then
 (b true)
 else
 ((chM x0 a).bind fun h=>
 b (decide ((57:Int)< ((UInt8.toNat h:Int):Int)))))
 else
 ((chM x0 a).bind fun i=>
 bif decide ((122:Int)< ((UInt8.toNat i:Int):Int)) then
 ((chM x0 a).bind fun j=>
 bif decide (((UInt8.toNat j:Int):Int)< (48:Int)) then
 (b true)
 else
 ((chM x0 a).bind fun k=>
 b (decide ((57:Int)< ((UInt8.toNat k:Int):Int)))))
 else
 (b false)))
 else
 (c d a)
def zbX (x0:Str):Option (Bool):=
 jn (fun(c:Bool) (d:Int)=>
 (Vm.zfe (x0.length:Int) 1 6).bind fun a=>
 some a) fun b=>
 zcP x0 b (((x0.length:Int)-0).toNat+1) false 0
def zeU (x0:Str)(x1:Byte)(x2:Int)(d:List Str->Int->Int->Option ((List Str))):Nat->List Str->Int->Int->Option ((List Str))
 |0,_,_,_=>none
 |m+1,b,c,a=>
 jn (fun(g:Bool)=>
 bif g then
 (jn (fun(h:List Str) (i:Int)=>
 zeU x0 x1 x2 d m h i (w64 (a+1))) fun e=>
 (chM x0 a).bind fun j=>
 bif(((UInt8.toNat j:Int):Int)==((UInt8.toNat x1:Int):Int)) then
 ((slM x0 c a).bind fun k=>
 (apM b [k]).bind fun l=>
 e l (w64 (a+1)))
 else
 (e b c))
 else
 (d b c a)) fun f=>
 bif decide (a< (x0.length:Int)) then
 (f (decide (b.length< (x2:Int))))
 else
 (f false)
def zh5 (x0:Str)(x1:Byte)(x2:Int):Option ((List Str)):=
 jn (fun(a:List Str) (b:Int) (f:Int)=>
 (slM x0 b (x0.length:Int)).bind fun c=>
 (apM a [c]).bind fun d=>
 some d) fun e=>
 zeU x0 x1 x2 e (x0.length+1) ([]:List Str) 0 0
def zcQ (b:(List Str))(c:Bool->Int->Option (Bool)):Nat->Bool->Int->Option (Bool)
 |0,_,_=>none
 |m+1,d,a=>
 bif decide (a< (b.length:Int)) then
 ((gi b a).bind fun e=>
 (Vm.zbX e).bind fun f=>
 bif(!f) then
 (some false)
 else
 (zcQ b c m d (w64 (a+1))))
 else
 (c d a)
def zcj (x0:Str):Option (Bool):=
 (Vm.zh5 x0 (UInt8.ofNatLT 47 (by decide):Byte) 3).bind fun a=>
 jn (fun(c:Bool) (d:Int)=>
 some (decide (a.length<=(3:Int)))) fun b=>
 zcQ a b (((a.length:Int)-0).toNat+1) false 0
def zcR (x0:Str)(b:Bool->Int->Option (Bool)):Nat->Bool->Int->Option (Bool)
 |0,_,_=>none
 |m+1,c,a=>
 bif decide (a< (x0.length:Int)) then
 (jn (fun(e:Bool)=>
 bif e then
 (some false)
 else
 (zcR x0 b m c (w64 (a+1)))) fun d=>
 (chM x0 a).bind fun f=>
 bif decide (((UInt8.toNat f:Int):Int)< (32:Int)) then
 (d true)
 else
 ((chM x0 a).bind fun g=>
 d (decide ((126:Int)< ((UInt8.toNat g:Int):Int)))))
 else
 (b c a)
def zgZ (x0:Str):Option (Bool):=
 jn (fun(b:Bool) (c:Int)=>
 some (decide (x0.length<=(12:Int)))) fun a=>
 zcR x0 a (((x0.length:Int)-0).toNat+1) false 0
def zd5 (x0:List Str)(b:Bool->Int->Option (Bool)):Nat->Bool->Int->Option (Bool)
 |0,_,_=>none
 |m+1,c,a=>
 bif decide (a< (x0.length:Int)) then
 ((gi x0 a).bind fun d=>
 (Vm.zgZ d).bind fun e=>
 bif(!e) then
 (some false)
 else
 (zd5 x0 b m c (w64 (a+1))))
 else
 (b c a)
def zdl (x0:List Str):Option (Bool):=
 jn (fun(b:Bool) (c:Int)=>
 some (decide (x0.length<=(10:Int)))) fun a=>
 zd5 x0 a (((x0.length:Int)-0).toNat+1) false 0
def zhr (x0:Str)(x1:Str):Option (Bool):=
 jn (fun(b:Bool)=>
 some b) fun a=>
 bif decide (x0.length< (x1.length:Int)) then
 ((slM x1 0 (x0.length:Int)).bind fun c=>
 bif(c==x0) then
 ((chM x1 (x0.length:Int)).bind fun d=>
 a (((UInt8.toNat d:Int):Int)==(47:Int)))
 else
 (a false))
 else
 (a false)
def zdc (x0:List Vm.File)(b:Int)(c:Bool->Int->Option (Bool)):Nat->Bool->Int->Option (Bool)
 |0,_,_=>none
 |m+1,d,a=>
 bif decide (a< (x0.length:Int)) then
 ((gi x0 b).bind fun e=>
 (gi x0 a).bind fun f=>
 (Vm.zhr e.Path f.Path).bind fun g=>
 bif g then
 (some false)
 else
 (zdc x0 b c m d (w64 (a+1))))
 else
 (c d a)
def zd6 (x0:List Vm.File)(c:Bool->Int->Option (Bool)):Nat->Bool->Int->Option (Bool)
 |0,_,_=>none
 |m+1,d,a=>
 bif decide (a< (x0.length:Int)) then
 (jn (fun(g:Bool)=>
 bif g then
 (some false)
 else
 (jn (fun(h:Bool) (o:Int)=>
 zd6 x0 c m h (w64 (a+1))) fun i=>
 zdc x0 a i (((x0.length:Int)-0).toNat+1) d 0)) fun b=>
 (gi x0 a).bind fun j=>
 (Vm.zcj j.Path).bind fun k=>
 bif(!k) then
 (b true)
 else
 ((gi x0 a).bind fun l=>
 (Vm.zdl l.Text).bind fun n=>
 bif(!n) then
 (b true)
 else
 (bif decide (0< (a:Int)) then
 ((gi x0 a).bind fun e=>
 (gi x0 (w64 (a-1))).bind fun f=>
 b (Op.bytesLess e.Path f.Path||e.Path==f.Path))
 else
 (b false))))
 else
 (c d a)
def zd7 (x0:List Vm.File):Option (Bool):=
 jn (fun(b:Bool) (c:Int)=>
 some (decide (x0.length<=(8:Int)))) fun a=>
 zd6 x0 a (((x0.length:Int)-0).toNat+1) false 0
def zdd (d:Int)(b:Vm.Commit)(e:Bool->Int->Option (Bool)):Nat->Bool->Int->Option (Bool)
 |0,_,_=>none
 |m+1,f,a=>
 bif decide (a< (b.Parents.length:Int)) then
 (jn (fun(g:Bool)=>
 bif g then
 (some false)
 else
 (zdd d b e m f (w64 (a+1)))) fun c=>
 (gi b.Parents a).bind fun h=>
 (Vm.zfe h 0 (w64 (d-1))).bind fun i=>
 bif(!i) then
 (c true)
 else
 (bif decide (0< (a:Int)) then
 ((gi b.Parents a).bind fun j=>
 (gi b.Parents 0).bind fun k=>
 c ((j:Int)==(k:Int)))
 else
 (c false)))
 else
 (e f a)
def zde (x0:Vm.Repo)(c:Bool->Int->Option (Bool)):Nat->Bool->Int->Option (Bool)
 |0,_,_=>none
 |m+1,d,a=>
 bif decide (a< (x0.Heads.length:Int)) then
 (jn (fun(g:Bool)=>
 bif g then
 (some false)
 else
 (zde x0 c m d (w64 (a+1)))) fun b=>
 (gi x0.Heads a).bind fun h=>
 (Vm.zbX h.Name).bind fun i=>
 bif(!i) then
 (b true)
 else
 ((gi x0.Heads a).bind fun j=>
 (Vm.zfe j.At 0 (w64 ((x0.Commits.length:Int)-1))).bind fun k=>
 bif(!k) then
 (b true)
 else
 (bif decide (0< (a:Int)) then
 ((gi x0.Heads a).bind fun e=>
 (gi x0.Heads (w64 (a-1))).bind fun f=>
 b (Op.bytesLess e.Name f.Name||e.Name==f.Name))
 else
 (b false))))
 else
 (c d a)
def zd8 (x0:Vm.Repo)(d:Bool->Int->Option (Bool)):Nat->Bool->Int->Option (Bool)
 |0,_,_=>none
 |m+1,e,a=>
 bif decide (a< (x0.Commits.length:Int)) then
 ((gi x0.Commits a).bind fun b=>
 jn (fun(f:Bool) (k:Int)=>
 jn (fun(g:Bool)=>
 bif g then
 (some false)
 else
 (zd8 x0 d m f (w64 (a+1)))) fun c=>
 bif decide (2< (b.Parents.length:Int)) then
 (c true)
 else
 ((Vm.zbX b.Who).bind fun h=>
 bif(!h) then
 (c true)
 else
 ((Vm.zd7 b.Tree).bind fun i=>
 c (!i)))) fun j=>
 zdd a b j (((b.Parents.length:Int)-0).toNat+1) e 0)
 else
 (d e a)
def zcK (x0:Vm.Repo):Option (Bool):=
 jn (fun(b:Bool) (f:Int)=>
 jn (fun(g:Bool) (h:Int)=>
 jn (fun(c:Bool)=>
 some c) fun a=>
 bif decide (x0.Commits.length<=(16:Int)) then
 (a (decide (x0.Heads.length<=(5:Int))))
 else
 (a false)) fun d=>
 zde x0 d (((x0.Heads.length:Int)-0).toNat+1) b 0) fun e=>
 zd8 x0 e (((x0.Commits.length:Int)-0).toNat+1) false 0
def zbP (x0:List Vm.Owner)(c:Bool->Int->Option (Bool)):Nat->Bool->Int->Option (Bool)
 |0,_,_=>none
 |m+1,d,a=>
 bif decide (a< (x0.length:Int)) then
 (jn (fun(g:Bool)=>
 bif g then
 (some false)
 else
 (zbP x0 c m d (w64 (a+1)))) fun b=>
 (gi x0 a).bind fun h=>
 (Vm.zcj h.Path).bind fun i=>
 bif(!i) then
 (b true)
 else
 ((gi x0 a).bind fun j=>
 (Vm.zbX j.Who).bind fun k=>
 bif(!k) then
 (b true)
 else
 (bif decide (0< (a:Int)) then
 ((gi x0 a).bind fun e=>
 (gi x0 (w64 (a-1))).bind fun f=>
 b (Op.bytesLess e.Path f.Path||e.Path==f.Path))
 else
 (b false))))
 else
 (c d a)
def zei (x0:List Vm.Owner):Option (Bool):=
 jn (fun(b:Bool) (c:Int)=>
 some (decide (x0.length<=(5:Int)))) fun a=>
 zbP x0 a (((x0.length:Int)-0).toNat+1) false 0
def zdB (x0:Vm.Review)(c:Bool->Int->Option (Bool)):Nat->Bool->Int->Option (Bool)
 |0,_,_=>none
 |m+1,d,a=>
 bif decide (a< (x0.Yes.length:Int)) then
 (jn (fun(g:Bool)=>
 bif g then
 (some false)
 else
 (zdB x0 c m d (w64 (a+1)))) fun b=>
 (gi x0.Yes a).bind fun h=>
 (Vm.zbX h).bind fun i=>
 bif(!i) then
 (b true)
 else
 (bif decide (0< (a:Int)) then
 ((gi x0.Yes a).bind fun e=>
 (gi x0.Yes (w64 (a-1))).bind fun f=>
 b (Op.bytesLess e f||e==f))
 else
 (b false)))
 else
 (c d a)
def zh6 (x0:Vm.Review):Option (Bool):=
 jn (fun(g:Bool) (h:Int)=>
 jn (fun(b:Bool)=>
 some b) fun a=>
 (Vm.zbX x0.Branch).bind fun c=>
 bif c then
 ((Vm.zbX x0.Into).bind fun d=>
 bif d then
 ((Vm.zbX x0.By).bind fun e=>
 bif e then
 (bif(x0.Branch !=x0.Into) then
 (a (decide (x0.Yes.length<=(5:Int))))
 else
 (a false))
 else
 (a false))
 else
 (a false))
 else
 (a false)) fun f=>
 zdB x0 f (((x0.Yes.length:Int)-0).toNat+1) false 0
def zd9 (x0:Vm.Repo)(x1:Str)(b:Int->Int->Option (Int)):Nat->Int->Int->Option (Int)
 |0,_,_=>none
 |m+1,c,a=>
 bif decide (a< (x0.Heads.length:Int)) then
 ((gi x0.Heads a).bind fun d=>
 bif(d.Name==x1) then
 ((gi x0.Heads a).bind fun e=>
 some e.At)
 else
 (zd9 x0 x1 b m c (w64 (a+1))))
 else
 (b c a)
def zcB (x0:Vm.Repo)(x1:Str):Option (Int):=
 jn (fun(b:Int) (c:Int)=>
 some (-1)) fun a=>
 zd9 x0 x1 a (((x0.Heads.length:Int)-0).toNat+1) 0 0
def zdC (x0:Vm.Repo)(a:Int)(d:Int->List Bool->Option ((List Int))):Nat->Int->List Bool->Option ((List Int))
 |0,_,_=>none
 |m+1,b,c=>
 jn (fun(g:Bool)=>
 bif g then
 ((gi x0.Commits a).bind fun h=>
 (gi h.Parents b).bind fun e=>
 (gi c e).bind fun l=>
 (siM c e true).bind fun i=>
 zdC x0 a d m (w64 (b+1)) i)
 else
 (d b c)) fun f=>
 (gi x0.Commits a).bind fun j=>
 bif decide (b< (j.Parents.length:Int)) then
 ((gi c a).bind fun k=>
 f k)
 else
 (f false)
def zcf (b:List Bool)(d:List Int->Int->Option ((List Int))):Nat->List Int->Int->Option ((List Int))
 |0,_,_=>none
 |m+1,c,a=>
 bif decide (a< (b.length:Int)) then
 (jn (fun(f:List Int)=>
 zcf b d m f (w64 (a+1))) fun e=>
 (gi b a).bind fun g=>
 bif g then
 ((apM c [a]).bind fun h=>
 e h)
 else
 (e c))
 else
 (d c a)
def zcg (x0:Vm.Repo)(b:Int->List Bool->Option ((List Int))):Nat->Int->List Bool->Option ((List Int))
 |0,_,_=>none
 |m+1,a,c=>
 bif decide (0<=(a:Int)) then
 (jn (fun(f:Int) (d:List Bool)=>
 zcg x0 b m (w64 (a-1)) d) fun e=>
 zdC x0 a e (4) 0 c)
 else
 (b a c)
def zfx (x0:Vm.Repo)(x1:Int):Option ((List Int)):=
 (mkM (x0.Commits.length:Int) (false:Bool)).bind fun a=>
 (gi a x1).bind fun g=>
 (siM a x1 true).bind fun c=>
 jn (fun(h:Int) (b:List Bool)=>
 jn (fun(d:List Int) (i:Int)=>
 some d) fun e=>
 zcf b e (((b.length:Int)-0).toNat+1) ([]:List Int) 0) fun f=>
 zcg x0 f ((x1+1-0).toNat+1) x1 c
def zdD (x0:List Int)(x1:Int)(b:Bool->Int->Option (Bool)):Nat->Bool->Int->Option (Bool)
 |0,_,_=>none
 |m+1,c,a=>
 bif decide (a< (x0.length:Int)) then
 ((gi x0 a).bind fun d=>
 bif((d:Int)==(x1:Int)) then
 (some true)
 else
 (zdD x0 x1 b m c (w64 (a+1))))
 else
 (b c a)
def zgg (x0:List Int)(x1:Int):Option (Bool):=
 jn (fun(b:Bool) (c:Int)=>
 some false) fun a=>
 zdD x0 x1 a (((x0.length:Int)-0).toNat+1) false 0
def zbY (x0:Vm.Repo)(b:List Int)(c:Int)(d:Bool->Int->Option ((List Int))):Nat->Bool->Int->Option ((List Int))
 |0,_,_=>none
 |m+1,e,a=>
 bif decide (a< (b.length:Int)) then
 (bif e then
 (bif((a:Int)==(c:Int)) then
 (zbY x0 b c d m true (w64 (a+1)))
 else
 ((gi b a).bind fun f=>
 (gi b c).bind fun g=>
 (Vm.zfx x0 f).bind fun h=>
 (Vm.zgg h g).bind fun i=>
 zbY x0 b c d m (!i) (w64 (a+1))))
 else
 (zbY x0 b c d m false (w64 (a+1))))
 else
 (d e a)
def zaV (x0:Vm.Repo)(a:List Int)(d:List Int->Int->Option ((List Int))):Nat->List Int->Int->Option ((List Int))
 |0,_,_=>none
 |m+1,c,b=>
 bif decide (b< (a.length:Int)) then
 (jn (fun(f:List Int)=>
 zaV x0 a d m f (w64 (b+1))) fun e=>
 jn (fun(g:Bool) (k:Int)=>
 bif g then
 ((gi a b).bind fun h=>
 (apM c [h]).bind fun i=>
 e i)
 else
 (e c)) fun j=>
 zbY x0 a b j (((a.length:Int)-0).toNat+1) true 0)
 else
 (d c b)
def zck (b:(List Int))(d:(List Int))(e:List Int->Int->Option ((List Int))):Nat->List Int->Int->Option ((List Int))
 |0,_,_=>none
 |m+1,c,a=>
 bif decide (a< (b.length:Int)) then
 (jn (fun(g:List Int)=>
 zck b d e m g (w64 (a+1))) fun f=>
 (gi b a).bind fun h=>
 (Vm.zgg d h).bind fun i=>
 bif i then
 ((gi b a).bind fun j=>
 (apM c [j]).bind fun k=>
 f k)
 else
 (f c))
 else
 (e c a)
def zf1 (x0:Vm.Repo)(x1:Int)(x2:Int):Option ((List Int)):=
 (Vm.zfx x0 x1).bind fun a=>
 (Vm.zfx x0 x2).bind fun c=>
 jn (fun(b:List Int) (g:Int)=>
 jn (fun(d:List Int) (h:Int)=>
 some d) fun e=>
 zaV x0 b e (((b.length:Int)-0).toNat+1) ([]:List Int) 0) fun f=>
 zck a c f (((a.length:Int)-0).toNat+1) ([]:List Int) 0
def zgl (x0:Vm.Repo)(x1:Int)(x2:Int):Option ((List Vm.File)):=
 (Vm.zf1 x0 x1 x2).bind fun a=>
 bif((a.length:Int)==0) then
 (some ([]:List File))
 else
 ((gi a (w64 ((a.length:Int)-1))).bind fun b=>
 (gi x0.Commits b).bind fun c=>
 some c.Tree)
def zdE (x0:List Vm.File)(x1:Str)(b:List Str->Bool->Int->Option ((List Str)×Bool)):Nat->List Str->Bool->Int->Option ((List Str)×Bool)
 |0,_,_,_=>none
 |m+1,c,d,a=>
 bif decide (a< (x0.length:Int)) then
 ((gi x0 a).bind fun e=>
 bif(e.Path==x1) then
 ((gi x0 a).bind fun f=>
 some (f.Text,true))
 else
 (zdE x0 x1 b m c d (w64 (a+1))))
 else
 (b c d a)
def zeH (x0:List Vm.File)(x1:Str):Option ((List Str)×Bool):=
 jn (fun(b:List Str) (c:Bool) (d:Int)=>
 some (([]:List Str),false)) fun a=>
 zdE x0 x1 a (((x0.length:Int)-0).toNat+1) ([]:List Str) false 0
def zcS (x0:List Str)(x1:List Str)(b:Bool->Int->Option (Bool)):Nat->Bool->Int->Option (Bool)
 |0,_,_=>none
 |m+1,c,a=>
 bif decide (a< (x0.length:Int)) then
 ((gi x0 a).bind fun d=>
 (gi x1 a).bind fun e=>
 bif(d !=e) then
 (some false)
 else
 (zcS x0 x1 b m c (w64 (a+1))))
 else
 (b c a)
def zdZ (x0:List Str)(x1:List Str):Option (Bool):=
 bif((x0.length:Int) !=(x1.length:Int)) then
 (some false)
 else
 (jn (fun(b:Bool) (c:Int)=>
 some true) fun a=>
 zcS x0 x1 a (((x0.length:Int)-0).toNat+1) false 0)
def zcl (x0:List Str)(x1:List Str)(b:Int)(e:Int->List (List Int)->Option ((List (List Int)))):Nat->Int->List (List Int)->Option ((List (List Int)))
 |0,_,_=>none
 |m+1,a,c=>
 bif decide (0<=(a:Int)) then
 (jn (fun(h:List (List Int))=>
 zcl x0 x1 b e m (w64 (a-1)) h) fun d=>
 (gi x0 b).bind fun i=>
 (gi x1 a).bind fun j=>
 bif(i==j) then
 ((gi c b).bind fun u64=>
 (gi c (w64 (b+1))).bind fun k=>
 (gi k (w64 (a+1))).bind fun l=>
 (gi u64 a).bind fun B=>
 (siM u64 a (w64 (l+1))).bind fun n=>
 (siM c b n).bind fun o=>
 d o)
 else
 ((gi c (w64 (b+1))).bind fun p=>
 (gi p a).bind fun q=>
 (gi c b).bind fun r=>
 (gi r (w64 (a+1))).bind fun s=>
 bif decide (s<=(q:Int)) then
 ((gi c b).bind fun f=>
 (gi c (w64 (b+1))).bind fun t=>
 (gi t a).bind fun u=>
 (gi f a).bind fun C=>
 (siM f a u).bind fun v=>
 (siM c b v).bind fun w=>
 d w)
 else
 ((gi c b).bind fun g=>
 (gi c b).bind fun x=>
 (gi x (w64 (a+1))).bind fun y=>
 (gi g a).bind fun D=>
 (siM g a y).bind fun z=>
 (siM c b z).bind fun A=>
 d A)))
 else
 (e a c)
def zbI (x0:List Str)(x1:List Str)(b:Int->List (List Int)->Option ((List (List Int)))):Nat->Int->List (List Int)->Option ((List (List Int)))
 |0,_,_=>none
 |m+1,a,c=>
 bif decide (0<=(a:Int)) then
 (jn (fun(f:Int) (d:List (List Int))=>
 zbI x0 x1 b m (w64 (a-1)) d) fun e=>
 zcl x0 x1 a e (((w64 ((x1.length:Int)-1))+1-0).toNat+1) (w64 ((x1.length:Int)-1)) c)
 else
 (b a c)
def zcm (x0:List Str)(x1:List Str)(b:List (List Int)->Int->Option ((List (List Int)))):Nat->List (List Int)->Int->Option ((List (List Int)))
 |0,_,_=>none
 |m+1,c,a=>
 bif decide (a<=(x0.length:Int)) then
 ((mkM (w64 ((x1.length:Int)+1)) (0:Int)).bind fun d=>
 (apM c [d]).bind fun e=>
 zcm x0 x1 b m e (w64 (a+1)))
 else
 (b c a)
def zf2 (x0:List Str)(x1:List Str):Option ((List (List Int))):=
 jn (fun(a:List (List Int)) (e:Int)=>
 jn (fun(f:Int) (b:List (List Int))=>
 some b) fun c=>
 zbI x0 x1 c (((w64 ((x0.length:Int)-1))+1-0).toNat+1) (w64 ((x0.length:Int)-1)) a) fun d=>
 zcm x0 x1 d (((x0.length:Int)+1-0).toNat+1) ([]:List (List Int)) 0
def zcL (x0:List Str)(x1:List Str)(c:(List (List Int)))(d:List Int->Int->Int->Option ((List Int))):Nat->List Int->Int->Int->Option ((List Int))
 |0,_,_,_=>none
 |m+1,e,a,b=>
 bif decide (b< (x0.length:Int)) then
 (jn (fun(h:Bool)=>
 bif h then
 ((apM e [a]).bind fun i=>
 zcL x0 x1 c d m i (w64 (a+1)) (w64 (b+1)))
 else
 (jn (fun(j:Bool)=>
 bif j then
 ((apM e [(-1)]).bind fun k=>
 zcL x0 x1 c d m k a (w64 (b+1)))
 else
 (zcL x0 x1 c d m e (w64 (a+1)) b)) fun f=>
 bif decide (x1.length<=(a:Int)) then
 (f true)
 else
 ((gi c (w64 (b+1))).bind fun l=>
 (gi l a).bind fun n=>
 (gi c b).bind fun o=>
 (gi o (w64 (a+1))).bind fun p=>
 f (decide (p<=(n:Int)))))) fun g=>
 bif decide (a< (x1.length:Int)) then
 ((gi x0 b).bind fun q=>
 (gi x1 a).bind fun r=>
 g (q==r))
 else
 (g false))
 else
 (d e a b)
def zey (x0:List Str)(x1:List Str):Option ((List Int)):=
 (Vm.zf2 x0 x1).bind fun a=>
 jn (fun(b:List Int) (d:Int) (e:Int)=>
 some b) fun c=>
 zcL x0 x1 a c (x0.length+x1.length+1) ([]:List Int) 0 0
def zea (x0:List Str)(x1:List Str)(b:List Int)(f:List Vm.Hunk->Int->Int->Int->Option ((List Vm.Hunk))):Nat->List Vm.Hunk->Int->Int->Int->Option ((List Vm.Hunk))
 |0,_,_,_,_=>none
 |m+1,d,c,e,a=>
 bif decide (a< (b.length:Int)) then
 (jn (fun(j:List Vm.Hunk) (k:Int) (l:Int)=>
 zea x0 x1 b f m j k l (w64 (a+1))) fun g=>
 (gi b a).bind fun n=>
 bif decide (n< (0:Int)) then
 (g d c e)
 else
 (jn (fun(o:List Vm.Hunk)=>
 (gi b a).bind fun p=>
 g o (w64 (a+1)) (w64 (p+1))) fun h=>
 jn (fun(q:Bool)=>
 bif q then
 ((slM x0 c a).bind fun r=>
 (apM ([]:List Str) r).bind fun s=>
 (gi b a).bind fun t=>
 (slM x1 e t).bind fun u=>
 (apM ([]:List Str) u).bind fun v=>
 (apM d [Vm.Hunk.mk c s v]).bind fun w=>
 h w)
 else
 (h d)) fun i=>
 bif decide (c< (a:Int)) then
 (i true)
 else
 ((gi b a).bind fun x=>
 i (decide (e< (x:Int))))))
 else
 (f d c e a)
def zjq (x0:List Str)(x1:List Str):Option ((List Vm.Hunk)):=
 (Vm.zey x0 x1).bind fun b=>
 (apM b [(x1.length:Int)]).bind fun a=>
 jn (fun(c:List Vm.Hunk) (e:Int) (f:Int) (g:Int)=>
 some c) fun d=>
 zea x0 x1 a d (((a.length:Int)-0).toNat+1) ([]:List Hunk) 0 0 0
def zbe (x1:List Vm.File)(x3:List Vm.Change)(b:Int)(c:Bool->Int->Option (Str)):Nat->Bool->Int->Option (Str)
 |0,_,_=>none
 |m+1,d,a=>
 bif decide (a< (x3.length:Int)) then
 (bif d then
 ((gi x3 a).bind fun e=>
 (gi x1 b).bind fun f=>
 zbe x1 x3 b c m (e.To !=f.Path) (w64 (a+1)))
 else
 (zbe x1 x3 b c m false (w64 (a+1))))
 else
 (c d a)
def zb3 (x0:List Vm.File)(x1:List Vm.File)(x2:List Str)(x3:List Vm.Change)(c:Str->Int->Option (Str)):Nat->Str->Int->Option (Str)
 |0,_,_=>none
 |m+1,d,a=>
 bif decide (a< (x1.length:Int)) then
 ((gi x1 a).bind fun e=>
 (Vm.zeH x0 e.Path).bind fun f=>
 jn (fun(g:Bool) (n:Int)=>
 jn (fun(h:Bool)=>
 bif h then
 ((gi x1 a).bind fun i=>
 some i.Path)
 else
 (zb3 x0 x1 x2 x3 c m d (w64 (a+1)))) fun b=>
 bif(!f.2) then
 (bif g then
 ((gi x1 a).bind fun j=>
 (Vm.zdZ j.Text x2).bind fun k=>
 b k)
 else
 (b false))
 else
 (b false)) fun l=>
 zbe x1 x3 a l (((x3.length:Int)-0).toNat+1) true 0)
 else
 (c d a)
def zeV (x0:List Vm.File)(x1:List Vm.File)(x2:List Str)(x3:List Vm.Change):Option (Str):=
 jn (fun(b:Str) (c:Int)=>
 some ([]:Str)) fun a=>
 zb3 x0 x1 x2 x3 a (((x1.length:Int)-0).toNat+1) ([]:Str) 0
def zcC (x1:List Vm.File)(b:List Vm.Change)(c:List Vm.Change)(d:Int)(e:Bool->Int->Option ((List Vm.Change))):Nat->Bool->Int->Option ((List Vm.Change))
 |0,_,_=>none
 |m+1,f,a=>
 bif decide (a< (b.length:Int)) then
 (bif f then
 (zcC x1 b c d e m true (w64 (a+1)))
 else
 ((gi c a).bind fun g=>
 (gi x1 d).bind fun h=>
 zcC x1 b c d e m (g.To==h.Path) (w64 (a+1))))
 else
 (e f a)
def zbC (x0:List Vm.File)(x1:List Vm.File)(c:List Vm.Change)(d:List Vm.Change->Int->Option ((List Vm.Change))):Nat->List Vm.Change->Int->Option ((List Vm.Change))
 |0,_,_=>none
 |m+1,b,a=>
 bif decide (a< (x1.length:Int)) then
 (jn (fun(g:List Vm.Change)=>
 zbC x0 x1 c d m g (w64 (a+1))) fun e=>
 (gi x1 a).bind fun h=>
 (Vm.zeH x0 h.Path).bind fun i=>
 jn (fun(j:Bool) (r:Int)=>
 jn (fun(k:Bool)=>
 bif k then
 ((gi x1 a).bind fun l=>
 (gi x1 a).bind fun n=>
 (apM ([]:List Str) n.Text).bind fun o=>
 (apM b ([Vm.Change.mk 1 l.Path ([]:Str) o ([]:List Hunk)])).bind fun p=>
 e p)
 else
 (e b)) fun f=>
 bif(!i.2) then
 (f (!j))
 else
 (f false)) fun q=>
 zcC x1 c b a q (((c.length:Int)-0).toNat+1) false 0)
 else
 (d b a)
def zeb (x0:List Vm.File)(x1:List Vm.File)(f:List Vm.Change->Int->Option ((List Vm.Change))):Nat->List Vm.Change->Int->Option ((List Vm.Change))
 |0,_,_=>none
 |m+1,d,a=>
 bif decide (a< (x0.length:Int)) then
 (jn (fun(j:List Vm.Change)=>
 zeb x0 x1 f m j (w64 (a+1))) fun e=>
 (gi x0 a).bind fun k=>
 (Vm.zeH x1 k.Path).bind fun b=>
 jn (fun(c:List Vm.Change)=>
 bif b.2 then
 (e c)
 else
 ((gi x0 a).bind fun l=>
 (Vm.zeV x0 x1 l.Text c).bind fun g=>
 bif(g !=([]:Str)) then
 ((gi x0 a).bind fun n=>
 (apM c ([Vm.Change.mk 4 n.Path g ([]:List Str) ([]:List Hunk)])).bind fun o=>
 e o)
 else
 ((gi x0 a).bind fun p=>
 (gi x0 a).bind fun q=>
 (apM ([]:List Str) q.Text).bind fun r=>
 (apM c ([Vm.Change.mk 2 p.Path ([]:Str) r ([]:List Hunk)])).bind fun s=>
 e s))) fun h=>
 jn (fun(t:Bool)=>
 bif t then
 ((gi x0 a).bind fun u=>
 (gi x0 a).bind fun v=>
 (Vm.zjq v.Text b.1).bind fun w=>
 (apM d ([Vm.Change.mk 3 u.Path ([]:Str) ([]:List Str) w])).bind fun x=>
 h x)
 else
 (h d)) fun i=>
 bif b.2 then
 ((gi x0 a).bind fun y=>
 (Vm.zdZ b.1 y.Text).bind fun z=>
 i (!z))
 else
 (i false))
 else
 (f d a)
def zhs (x0:List Vm.File)(x1:List Vm.File):Option ((List Vm.Change)):=
 jn (fun(a:List Vm.Change) (e:Int)=>
 jn (fun(b:List Vm.Change) (f:Int)=>
 some b) fun c=>
 zbC x0 x1 a c (((x1.length:Int)-0).toNat+1) a 0) fun d=>
 zeb x0 x1 d (((x0.length:Int)-0).toNat+1) ([]:List Change) 0
def zec (x0:List Vm.Hunk)(c:Bool->Int->Option (Bool)):Nat->Bool->Int->Option (Bool)
 |0,_,_=>none
 |m+1,d,a=>
 bif decide (a< (x0.length:Int)) then
 (jn (fun(e:Bool)=>
 bif e then
 (some false)
 else
 (zec x0 c m d (w64 (a+1)))) fun b=>
 (gi x0 a).bind fun f=>
 (Vm.zdl f.Less).bind fun g=>
 bif(!g) then
 (b true)
 else
 ((gi x0 a).bind fun h=>
 (Vm.zdl h.More).bind fun i=>
 bif(!i) then
 (b true)
 else
 ((gi x0 a).bind fun j=>
 (gi x0 a).bind fun k=>
 bif((w64 ((j.Less.length:Int)+(k.More.length:Int)):Int)==(0:Int)) then
 (b true)
 else
 ((gi x0 a).bind fun l=>
 (Vm.zfe l.At 0 10).bind fun n=>
 bif(!n) then
 (b true)
 else
 (bif decide (0< (a:Int)) then
 ((gi x0 a).bind fun o=>
 (gi x0 (w64 (a-1))).bind fun p=>
 (gi x0 (w64 (a-1))).bind fun q=>
 b (decide ((o.At:Int)<=(w64 (p.At+(q.Less.length:Int)):Int))))
 else
 (b false))))))
 else
 (c d a)
def zjr (x0:List Vm.Hunk):Option (Bool):=
 jn (fun(b:Bool) (c:Int)=>
 some (decide (x0.length<=(8:Int)))) fun a=>
 zec x0 a (((x0.length:Int)-0).toNat+1) false 0
def zh7 (x0:Vm.Change):Option (Bool):=
 jn (fun(e:Bool)=>
 bif e then
 (jn (fun(f:Bool)=>
 some f) fun c=>
 (Vm.zcj x0.Path).bind fun g=>
 bif g then
 (bif(x0.To==([]:Str)) then
 ((Vm.zdl x0.Text).bind fun h=>
 bif h then
 (c ((x0.Patch.length:Int)==0))
 else
 (c false))
 else
 (c false))
 else
 (c false))
 else
 (bif(x0.Kind==3) then
 (jn (fun(i:Bool)=>
 some i) fun a=>
 (Vm.zcj x0.Path).bind fun j=>
 bif j then
 (bif(x0.To==([]:Str)) then
 (bif((x0.Text.length:Int)==0) then
 (bif decide (0< (x0.Patch.length:Int)) then
 ((Vm.zjr x0.Patch).bind fun k=>
 a k)
 else
 (a false))
 else
 (a false))
 else
 (a false))
 else
 (a false))
 else
 (bif(x0.Kind==4) then
 (jn (fun(l:Bool)=>
 some l) fun b=>
 (Vm.zcj x0.Path).bind fun m=>
 bif m then
 ((Vm.zcj x0.To).bind fun n=>
 bif n then
 (bif(x0.To !=x0.Path) then
 (bif((x0.Text.length:Int)==0) then
 (b ((x0.Patch.length:Int)==0))
 else
 (b false))
 else
 (b false))
 else
 (b false))
 else
 (b false))
 else
 (some false)))) fun d=>
 bif(x0.Kind==1) then
 (d (x0.Kind==1))
 else
 (d (x0.Kind==2))
def zcT (x0:List Vm.Change)(x1:Str)(b:Bool->Int->Option (Bool)):Nat->Bool->Int->Option (Bool)
 |0,_,_=>none
 |m+1,c,a=>
 bif decide (a< (x0.length:Int)) then
 (jn (fun(e:Bool)=>
 bif e then
 (some false)
 else
 (zcT x0 x1 b m c (w64 (a+1)))) fun d=>
 (gi x0 a).bind fun f=>
 bif(f.Path==x1) then
 (d true)
 else
 ((gi x0 a).bind fun g=>
 d (g.To==x1)))
 else
 (b c a)
def zgm (x0:List Vm.Change)(x1:Str):Option (Bool):=
 jn (fun(b:Bool) (c:Int)=>
 some true) fun a=>
 zcT x0 x1 a (((x0.length:Int)-0).toNat+1) false 0
def zed (x0:List Vm.Change)(c:Bool->Int->Option (Bool)):Nat->Bool->Int->Option (Bool)
 |0,_,_=>none
 |m+1,d,a=>
 bif decide (a< (x0.length:Int)) then
 (jn (fun(e:Bool)=>
 bif e then
 (some false)
 else
 (zed x0 c m d (w64 (a+1)))) fun b=>
 (gi x0 a).bind fun f=>
 (Vm.zh7 f).bind fun g=>
 bif(!g) then
 (b true)
 else
 ((slM x0 0 a).bind fun h=>
 (gi x0 a).bind fun i=>
 (Vm.zgm h i.Path).bind fun j=>
 bif(!j) then
 (b true)
 else
 ((gi x0 a).bind fun k=>
 bif(k.To !=([]:Str)) then
 ((slM x0 0 a).bind fun l=>
 (gi x0 a).bind fun n=>
 (Vm.zgm l n.To).bind fun o=>
 b (!o))
 else
 (b false))))
 else
 (c d a)
def zjs (x0:List Vm.Change):Option (Bool):=
 jn (fun(b:Bool) (c:Int)=>
 some (decide (x0.length<=(16:Int)))) fun a=>
 zed x0 a (((x0.length:Int)-0).toNat+1) false 0
def zdF (x0:List Str)(x1:Str)(b:Int->Option ((List Str))):Nat->Int->Option ((List Str))
 |0,_=>none
 |m+1,a=>
 jn (fun(d:Bool)=>
 bif d then
 (zdF x0 x1 b m (w64 (a+1)))
 else
 (b a)) fun c=>
 bif decide (a< (x0.length:Int)) then
 ((gi x0 a).bind fun e=>
 c (Op.bytesLess e x1))
 else
 (c false)
def zdN (x0:List Str)(x1:Str):Option ((List Str)):=
 jn (fun(a:Int)=>
 jn (fun(c:Bool)=>
 bif c then
 (some x0)
 else
 ((slM x0 0 a).bind fun d=>
 (apM ([]:List Str) d).bind fun e=>
 (apM e [x1]).bind fun f=>
 (slM x0 a (x0.length:Int)).bind fun g=>
 (apM f g).bind fun h=>
 some h)) fun b=>
 bif decide (a< (x0.length:Int)) then
 ((gi x0 a).bind fun i=>
 b (i==x1))
 else
 (b false)) fun j=>
 zdF x0 x1 j (x0.length+1) 0
def zbc (x0:List Vm.Change)(b:List Str->Int->Option ((List Str))):Nat->List Str->Int->Option ((List Str))
 |0,_,_=>none
 |m+1,c,a=>
 bif decide (a< (x0.length:Int)) then
 (jn (fun(f:List Str)=>
 zbc x0 b m f (w64 (a+1))) fun d=>
 (gi x0 a).bind fun g=>
 (Vm.zdN c g.Path).bind fun e=>
 (gi x0 a).bind fun h=>
 bif(h.To !=([]:Str)) then
 ((gi x0 a).bind fun i=>
 (Vm.zdN e i.To).bind fun j=>
 d j)
 else
 (d e))
 else
 (b c a)
def zbQ (x0:List Vm.Change):Option ((List Str)):=
 (Vm.zjs x0).bind fun a=>
 bif(!a) then
 (some ([]:List Str))
 else
 (jn (fun(b:List Str) (d:Int)=>
 some b) fun c=>
 zbc x0 c (((x0.length:Int)-0).toNat+1) ([]:List Str) 0)
def zhJ (x0:Vm.Repo)(x1:Vm.Review):Option ((List Str)):=
 (Vm.zcB x0 x1.Into).bind fun b=>
 (Vm.zcB x0 x1.Branch).bind fun a=>
 (gi x0.Commits a).bind fun c=>
 (Vm.zgl x0 b a).bind fun d=>
 (Vm.zhs d c.Tree).bind fun e=>
 (Vm.zbQ e).bind fun f=>
 some f
def zcU (x0:List Vm.Owner)(x1:Str)(d:Str->Int->Int->Option (Str)):Nat->Str->Int->Int->Option (Str)
 |0,_,_,_=>none
 |m+1,e,b,a=>
 bif decide (a< (x0.length:Int)) then
 (jn (fun(g:Str) (h:Int)=>
 zcU x0 x1 d m g h (w64 (a+1))) fun f=>
 jn (fun(i:Bool)=>
 bif i then
 ((gi x0 a).bind fun j=>
 (gi x0 a).bind fun k=>
 f j.Who (k.Path.length:Int))
 else
 (f e b)) fun c=>
 (gi x0 a).bind fun l=>
 bif(l.Path==x1) then
 ((gi x0 a).bind fun n=>
 c (decide (b< (n.Path.length:Int))))
 else
 ((gi x0 a).bind fun o=>
 (Vm.zhr o.Path x1).bind fun p=>
 bif p then
 ((gi x0 a).bind fun q=>
 c (decide (b< (q.Path.length:Int))))
 else
 (c false)))
 else
 (d e b a)
def zg0 (x0:List Vm.Owner)(x1:Str):Option (Str):=
 jn (fun(a:Str) (c:Int) (d:Int)=>
 some a) fun b=>
 zcU x0 x1 b (((x0.length:Int)-0).toNat+1) ([]:Str) 0 0
def zbv (x2:Vm.Review)(b:Str)(c:Bool->Int->Option ((List Str))):Nat->Bool->Int->Option ((List Str))
 |0,_,_=>none
 |m+1,d,a=>
 bif decide (a< (x2.Yes.length:Int)) then
 (bif d then
 (zbv x2 b c m true (w64 (a+1)))
 else
 ((gi x2.Yes a).bind fun e=>
 zbv x2 b c m (e==b) (w64 (a+1))))
 else
 (c d a)
def zbJ (x1:List Vm.Owner)(x2:Vm.Review)(c:(List Str))(e:List Str->Int->Option ((List Str))):Nat->List Str->Int->Option ((List Str))
 |0,_,_=>none
 |m+1,d,a=>
 bif decide (a< (c.length:Int)) then
 (jn (fun(h:List Str)=>
 zbJ x1 x2 c e m h (w64 (a+1))) fun f=>
 (gi c a).bind fun i=>
 (Vm.zg0 x1 i).bind fun b=>
 jn (fun(j:Bool)=>
 jn (fun(k:Bool) (o:Int)=>
 bif(!k) then
 ((Vm.zdN d b).bind fun l=>
 f l)
 else
 (f d)) fun n=>
 zbv x2 b n (((x2.Yes.length:Int)-0).toNat+1) j 0) fun g=>
 bif(b==([]:Str)) then
 (g true)
 else
 (g (b==x2.By)))
 else
 (e d a)
def ziU (x0:Vm.Repo)(x1:List Vm.Owner)(x2:Vm.Review):Option ((List Str)):=
 (Vm.zhJ x0 x2).bind fun a=>
 jn (fun(b:List Str) (d:Int)=>
 some b) fun c=>
 zbJ x1 x2 a c (((a.length:Int)-0).toNat+1) ([]:List Str) 0
def zdq (x0:Vm.Repo)(x1:List Vm.Owner)(x2:Vm.Review):Option ((List Str)×Bool):=
 jn (fun(b:Bool)=>
 bif b then
 (some (([]:List Str),false))
 else
 ((Vm.ziU x0 x1 x2).bind fun c=>
 some (c,true))) fun a=>
 (Vm.zcK x0).bind fun d=>
 bif(!d) then
 (a true)
 else
 ((Vm.zei x1).bind fun e=>
 bif(!e) then
 (a true)
 else
 ((Vm.zh6 x2).bind fun f=>
 bif(!f) then
 (a true)
 else
 ((Vm.zcB x0 x2.Branch).bind fun g=>
 bif decide (g< (0:Int)) then
 (a true)
 else
 ((Vm.zcB x0 x2.Into).bind fun h=>
 a (decide (h< (0:Int)))))))
def zcV (x0:List Vm.File)(b:List Vm.File->Int->Option ((List Vm.File))):Nat->List Vm.File->Int->Option ((List Vm.File))
 |0,_,_=>none
 |m+1,c,a=>
 bif decide (a< (x0.length:Int)) then
 ((gi x0 a).bind fun d=>
 (gi x0 a).bind fun e=>
 (apM ([]:List Str) e.Text).bind fun f=>
 (apM c [Vm.File.mk d.Path f]).bind fun g=>
 zcV x0 b m g (w64 (a+1)))
 else
 (b c a)
def zdi (x0:List Vm.File):Option ((List Vm.File)):=
 jn (fun(a:List Vm.File) (c:Int)=>
 some a) fun b=>
 zcV x0 b (((x0.length:Int)-0).toNat+1) ([]:List File) 0
def zcW (x0:Vm.Commit):Option (Vm.Commit):=
 (apM ([]:List Int) x0.Parents).bind fun a=>
 (Vm.zdi x0.Tree).bind fun b=>
 some (Vm.Commit.mk a x0.Who b)
def zcX (x0:Vm.Repo)(c:Int->List Vm.Commit->List Vm.Head->Option (Vm.Repo)):Nat->Int->List Vm.Commit->List Vm.Head->Option (Vm.Repo)
 |0,_,_,_=>none
 |m+1,a,d,e=>
 bif decide (a< (x0.Commits.length:Int)) then
 ((gi x0.Commits a).bind fun f=>
 (Vm.zcW f).bind fun b=>
 (apM d [Vm.Commit.mk b.Parents b.Who b.Tree]).bind fun g=>
 zcX x0 c m (w64 (a+1)) g e)
 else
 (c a d e)
def zbn (x0:Vm.Repo):Option (Vm.Repo):=
 (apM ([]:List Head) x0.Heads).bind fun a=>
 jn (fun(e:Int) (b:List Vm.Commit) (c:List Vm.Head)=>
 some (Vm.Repo.mk b c)) fun d=>
 zcX x0 d (((x0.Commits.length:Int)-0).toNat+1) 0 ([]:List Commit) a
def zcY (x0:Vm.Repo)(x1:Str)(x2:Int)(e:Bool->Int->List Vm.Commit->List Vm.Head->Option (Vm.Repo)):Nat->Bool->Int->List Vm.Commit->List Vm.Head->Option (Vm.Repo)
 |0,_,_,_,_=>none
 |m+1,b,a,c,d=>
 bif decide (a< (x0.Heads.length:Int)) then
 (jn (fun(l:Bool) (n:List Vm.Commit) (o:List Vm.Head)=>
 zcY x0 x1 x2 e m l (w64 (a+1)) n o) fun f=>
 jn (fun(g:Bool) (h:List Vm.Commit) (i:List Vm.Head)=>
 (gi x0.Heads a).bind fun p=>
 bif(p.Name !=x1) then
 ((gi x0.Heads a).bind fun q=>
 (apM i [q]).bind fun r=>
 f g h r)
 else
 (f g h i)) fun j=>
 jn (fun(s:Bool)=>
 bif s then
 ((apM d [Vm.Head.mk x1 x2]).bind fun t=>
 j true c t)
 else
 (j b c d)) fun k=>
 bif(!b) then
 ((gi x0.Heads a).bind fun u=>
 k (!Op.bytesLess u.Name x1))
 else
 (k false))
 else
 (e b a c d)
def zfz (x0:Vm.Repo)(x1:Str)(x2:Int):Option (Vm.Repo):=
 jn (fun(d:Bool) (i:Int) (a:List Vm.Commit) (b:List Vm.Head)=>
 jn (fun(e:List Vm.Commit) (f:List Vm.Head)=>
 some (Vm.Repo.mk e f)) fun c=>
 bif(!d) then
 ((apM b [Vm.Head.mk x1 x2]).bind fun g=>
 c a g)
 else
 (c a b)) fun h=>
 zcY x0 x1 x2 h (((x0.Heads.length:Int)-0).toNat+1) false 0 x0.Commits ([]:List Head)
def zaO (x2:List Vm.File)(b:List Str->Int->Option ((List Str))):Nat->List Str->Int->Option ((List Str))
 |0,_,_=>none
 |m+1,c,a=>
 bif decide (a< (x2.length:Int)) then
 ((gi x2 a).bind fun d=>
 (Vm.zdN c d.Path).bind fun e=>
 zaO x2 b m e (w64 (a+1)))
 else
 (b c a)
def zba (x1:List Vm.File)(b:List Str->Int->Option ((List Str))):Nat->List Str->Int->Option ((List Str))
 |0,_,_=>none
 |m+1,c,a=>
 bif decide (a< (x1.length:Int)) then
 ((gi x1 a).bind fun d=>
 (Vm.zdN c d.Path).bind fun e=>
 zba x1 b m e (w64 (a+1)))
 else
 (b c a)
def zcn (x0:List Vm.File)(b:List Str->Int->Option ((List Str))):Nat->List Str->Int->Option ((List Str))
 |0,_,_=>none
 |m+1,c,a=>
 bif decide (a< (x0.length:Int)) then
 ((gi x0 a).bind fun d=>
 (Vm.zdN c d.Path).bind fun e=>
 zcn x0 b m e (w64 (a+1)))
 else
 (b c a)
def zf3 (x0:List Vm.File)(x1:List Vm.File)(x2:List Vm.File):Option ((List Str)):=
 jn (fun(a:List Str) (g:Int)=>
 jn (fun(b:List Str) (h:Int)=>
 jn (fun(c:List Str) (i:Int)=>
 some c) fun d=>
 zaO x2 d (((x2.length:Int)-0).toNat+1) b 0) fun e=>
 zba x1 e (((x1.length:Int)-0).toNat+1) a 0) fun f=>
 zcn x0 f (((x0.length:Int)-0).toNat+1) ([]:List Str) 0
def zfA (x0:List Str)(x1:Bool)(x2:List Str)(x3:Bool):Option (Bool):=
 jn (fun(b:Bool)=>
 some b) fun a=>
 bif(x1==x3) then
 (bif(!x1) then
 (a true)
 else
 ((Vm.zdZ x0 x2).bind fun c=>
 a c))
 else
 (a false)
def zg1 (x0:List Str)(x1:List Str)(x2:List Str):Option (Vm.Part):=
 jn (fun(c:Bool)=>
 bif c then
 ((apM ([]:List Str) x2).bind fun d=>
 some (Vm.Part.mk false d ([]:List Str) ([]:List Str) ([]:List Str)))
 else
 ((Vm.zdZ x2 x0).bind fun e=>
 bif e then
 ((apM ([]:List Str) x1).bind fun f=>
 some (Vm.Part.mk false f ([]:List Str) ([]:List Str) ([]:List Str)))
 else
 ((apM ([]:List Str) x0).bind fun g=>
 (apM ([]:List Str) x1).bind fun h=>
 (apM ([]:List Str) x2).bind fun i=>
 some (Vm.Part.mk true ([]:List Str) g h i)))) fun a=>
 (Vm.zdZ x1 x0).bind fun b=>
 bif b then
 (a b)
 else
 ((Vm.zdZ x1 x2).bind fun j=>
 a j)
def zht (x0:List Vm.Part)(x1:Vm.Part):Option ((List Vm.Part)):=
 jn (fun(d:Bool)=>
 bif d then
 (some x0)
 else
 (jn (fun(e:Bool)=>
 bif e then
 ((gi x0 (w64 ((x0.length:Int)-1))).bind fun a=>
 (apM a.Lines x1.Lines).bind fun f=>
 (gi x0 (w64 ((x0.length:Int)-1))).bind fun j=>
 (siM x0 (w64 ((x0.length:Int)-1)) (Vm.Part.mk a.Clash f a.Old a.One a.Two)).bind fun g=>
 some g)
 else
 ((apM x0 [Vm.Part.mk x1.Clash x1.Lines x1.Old x1.One x1.Two]).bind fun h=>
 some h)) fun b=>
 bif decide (0< (x0.length:Int)) then
 (bif(!x1.Clash) then
 ((gi x0 (w64 ((x0.length:Int)-1))).bind fun i=>
 b (!i.Clash))
 else
 (b false))
 else
 (b false))) fun c=>
 bif(!x1.Clash) then
 (c ((x1.Lines.length:Int)==0))
 else
 (c false)
def zdf (x0:List Str)(x1:List Str)(x2:List Str)(b:List Int)(d:List Int)(i:List Vm.Part->Int->Int->Int->Int->Option ((List Vm.Part))):Nat->List Vm.Part->Int->Int->Int->Int->Option ((List Vm.Part))
 |0,_,_,_,_,_=>none
 |m+1,e,f,g,h,a=>
 bif decide (a< (b.length:Int)) then
 (jn (fun(o:List Vm.Part) (p:Int) (q:Int) (r:Int)=>
 zdf x0 x1 x2 b d i m o p q r (w64 (a+1))) fun j=>
 jn (fun(s:Bool)=>
 bif s then
 (j e f g h)
 else
 ((slM x0 f a).bind fun t=>
 (gi b a).bind fun u=>
 (slM x1 g u).bind fun v=>
 (gi d a).bind fun w=>
 (slM x2 h w).bind fun x=>
 (Vm.zg1 t v x).bind fun c=>
 (Vm.zht e (Vm.Part.mk c.Clash c.Lines c.Old c.One c.Two)).bind fun k=>
 jn (fun(y:List Vm.Part)=>
 (gi b a).bind fun z=>
 (gi d a).bind fun A=>
 j y (w64 (a+1)) (w64 (z+1)) (w64 (A+1))) fun l=>
 bif decide (a< (x0.length:Int)) then
 ((gi x0 a).bind fun B=>
 (Vm.zht k (Vm.Part.mk false ([B]:List Str) ([]:List Str) ([]:List Str) ([]:List Str))).bind fun C=>
 l C)
 else
 (l k))) fun n=>
 (gi b a).bind fun D=>
 bif decide (D< (0:Int)) then
 (n true)
 else
 ((gi d a).bind fun E=>
 n (decide (E< (0:Int)))))
 else
 (i e f g h a)
def zjt (x0:List Str)(x1:List Str)(x2:List Str):Option ((List Vm.Part)):=
 (Vm.zey x0 x1).bind fun b=>
 (apM b [(x1.length:Int)]).bind fun a=>
 (Vm.zey x0 x2).bind fun c=>
 (apM c [(x2.length:Int)]).bind fun d=>
 jn (fun(e:List Vm.Part) (g:Int) (h:Int) (i:Int) (j:Int)=>
 some e) fun f=>
 zdf x0 x1 x2 a d f (((a.length:Int)-0).toNat+1) ([]:List Part) 0 0 0 0
def zcZ (x0:List Vm.Part)(b:List Str->Bool->List Str->Int->Option ((List Str)×Bool)):Nat->List Str->Bool->List Str->Int->Option ((List Str)×Bool)
 |0,_,_,_,_=>none
 |m+1,c,d,e,a=>
 bif decide (a< (x0.length:Int)) then
 ((gi x0 a).bind fun f=>
 bif f.Clash then
 (some (([]:List Str),false))
 else
 ((gi x0 a).bind fun g=>
 (apM e g.Lines).bind fun h=>
 zcZ x0 b m c d h (w64 (a+1))))
 else
 (b c d e a)
def zg2 (x0:List Vm.Part):Option ((List Str)×Bool):=
 jn (fun(d:List Str) (e:Bool) (a:List Str) (f:Int)=>
 (Vm.zdl a).bind fun b=>
 bif(!b) then
 (some (([]:List Str),false))
 else
 (some (a,true))) fun c=>
 zcZ x0 c (((x0.length:Int)-0).toNat+1) ([]:List Str) false ([]:List Str) 0
def zh8 (x0:List Vm.File)(x1:List Vm.File)(x2:List Vm.File)(x3:Str):Option ((List Str)×Bool×Int):=
 (Vm.zeH x0 x3).bind fun a=>
 (Vm.zeH x1 x3).bind fun b=>
 (Vm.zeH x2 x3).bind fun c=>
 jn (fun(h:Bool)=>
 bif h then
 (some (c.1,c.2,0))
 else
 ((Vm.zfA c.1 c.2 a.1 a.2).bind fun i=>
 bif i then
 (some (b.1,b.2,0))
 else
 (jn (fun(j:Bool)=>
 bif j then
 (some (a.1,a.2,1))
 else
 (bif(!a.2) then
 (some (([]:List Str),false,2))
 else
 ((Vm.zjt a.1 b.1 c.1).bind fun k=>
 (Vm.zg2 k).bind fun d=>
 bif(!d.2) then
 (some (a.1,true,3))
 else
 (some (d.1,true,0))))) fun e=>
 bif(!b.2) then
 (e true)
 else
 (e (!c.2))))) fun f=>
 (Vm.zfA b.1 b.2 a.1 a.2).bind fun g=>
 bif g then
 (f g)
 else
 ((Vm.zfA b.1 b.2 c.1 c.2).bind fun l=>
 f l)
def zee (x0:List Vm.File)(x1:List Vm.File)(x2:List Vm.File)(b:(List Str))(f:List Vm.File->List Vm.Clash->Int->Option ((List Vm.File)×(List Vm.Clash))):Nat->List Vm.File->List Vm.Clash->Int->Option ((List Vm.File)×(List Vm.Clash))
 |0,_,_,_=>none
 |m+1,d,e,a=>
 bif decide (a< (b.length:Int)) then
 (jn (fun(j:List Vm.File) (k:List Vm.Clash)=>
 zee x0 x1 x2 b f m j k (w64 (a+1))) fun g=>
 (gi b a).bind fun l=>
 (Vm.zh8 x0 x1 x2 l).bind fun c=>
 jn (fun(h:List Vm.Clash)=>
 bif c.2.1 then
 ((gi b a).bind fun n=>
 (apM ([]:List Str) c.1).bind fun o=>
 (apM d [Vm.File.mk n o]).bind fun p=>
 g p h)
 else
 (g d h)) fun i=>
 bif decide (0< (c.2.2:Int)) then
 ((gi b a).bind fun q=>
 (apM e [Vm.Clash.mk q c.2.2]).bind fun r=>
 i r)
 else
 (i e))
 else
 (f d e a)
def zju (x0:List Vm.File)(x1:List Vm.File)(x2:List Vm.File):Option ((List Vm.File)×(List Vm.Clash)):=
 (Vm.zf3 x0 x1 x2).bind fun a=>
 jn (fun(b:List Vm.File) (c:List Vm.Clash) (e:Int)=>
 some (b,c)) fun d=>
 zee x0 x1 x2 a d (((a.length:Int)-0).toNat+1) ([]:List File) ([]:List Clash) 0
def zgn (x0:List Vm.File)(x1:List Vm.File)(x2:List Vm.File):Option ((List Vm.File)×(List Vm.Clash)):=
 (Vm.zju x0 x1 x2).bind fun a=>
 jn (fun(c:Bool)=>
 bif c then
 ((Vm.zdi x0).bind fun d=>
 some (d,([Vm.Clash.mk ([]:Str) 4]:List Clash)))
 else
 (some (a.1,a.2))) fun b=>
 bif((a.2.length:Int)==0) then
 ((Vm.zd7 a.1).bind fun e=>
 b (!e))
 else
 (b false)
def zef (x0:Vm.Repo)(x1:Str)(x2:Vm.Commit):Option (Vm.Repo):=
 (apM ([]:List Commit) x0.Commits).bind fun a=>
 (apM a [x2]).bind fun b=>
 (Vm.zfz (Vm.Repo.mk b x0.Heads) x1 (x0.Commits.length:Int)).bind fun c=>
 some c
def zeg (x0:Vm.Repo)(x1:Str)(x2:Str)(x3:Int):Option (Vm.Repo×Int):=
 (Vm.zcB x0 x1).bind fun a=>
 (Vm.zfx x0 a).bind fun d=>
 (Vm.zgg d x3).bind fun e=>
 bif e then
 (some (x0,2))
 else
 ((Vm.zfx x0 x3).bind fun f=>
 (Vm.zgg f a).bind fun g=>
 bif g then
 ((Vm.zfz x0 x1 x3).bind fun h=>
 some (h,3))
 else
 ((gi x0.Commits a).bind fun i=>
 (gi x0.Commits x3).bind fun j=>
 (Vm.zgl x0 a x3).bind fun k=>
 (Vm.zgn k i.Tree j.Tree).bind fun b=>
 bif decide (0< (b.2.length:Int)) then
 (some (x0,4))
 else
 ((Vm.zef x0 x1 (Vm.Commit.mk ([a,x3]:List Int) x2 b.1)).bind fun c=>
 (Vm.zcK c).bind fun l=>
 bif(!l) then
 (some (x0,5))
 else
 (some (c,0)))))
def zfB (x0:Int)(x1:Int)(x2:Int):Option (Bool):=
 jn (fun(b:Bool)=>
 some b) fun a=>
 bif decide (x1<=(x0:Int)) then
 (a (decide (x0<=(x2:Int))))
 else
 (a false)
def zeW (x0:Byte):Option (Bool):=
 jn (fun(b:Bool)=>
 some b) fun a=>
 bif decide ((97:Int)<=((UInt8.toNat x0:Int):Int)) then
 (bif decide (((UInt8.toNat x0:Int):Int)<=(122:Int)) then
 (a true)
 else
 (bif decide ((48:Int)<=((UInt8.toNat x0:Int):Int)) then
 (a (decide (((UInt8.toNat x0:Int):Int)<=(57:Int))))
 else
 (a false)))
 else
 (bif decide ((48:Int)<=((UInt8.toNat x0:Int):Int)) then
 (a (decide (((UInt8.toNat x0:Int):Int)<=(57:Int))))
 else
 (a false))
def zc0 (x0:Str)(b:Bool->Int->Option (Bool)):Nat->Bool->Int->Option (Bool)
 |0,_,_=>none
 |m+1,c,a=>
 bif decide (a< (x0.length:Int)) then
 ((chM x0 a).bind fun d=>
 (Vm.zeW d).bind fun e=>
 bif(!e) then
 (some false)
 else
 (zc0 x0 b m c (w64 (a+1))))
 else
 (b c a)
def zcF (x0:Str):Option (Bool):=
 (Vm.zfB (x0.length:Int) 1 6).bind fun a=>
 bif(!a) then
 (some false)
 else
 (jn (fun(c:Bool) (d:Int)=>
 some true) fun b=>
 zc0 x0 b (((x0.length:Int)-0).toNat+1) false 0)
def zc1 (x0:Str)(b:Bool->Int->Option (Bool)):Nat->Bool->Int->Option (Bool)
 |0,_,_=>none
 |m+1,c,a=>
 bif decide (a< (x0.length:Int)) then
 (jn (fun(e:Bool)=>
 bif e then
 (some false)
 else
 (zc1 x0 b m c (w64 (a+1)))) fun d=>
 (chM x0 a).bind fun f=>
 bif decide (((UInt8.toNat f:Int):Int)< (32:Int)) then
 (d true)
 else
 ((chM x0 a).bind fun g=>
 d (decide ((126:Int)< ((UInt8.toNat g:Int):Int)))))
 else
 (b c a)
def zg3 (x0:Str):Option (Bool):=
 bif decide (12< (x0.length:Int)) then
 (some false)
 else
 (jn (fun(b:Bool) (c:Int)=>
 some true) fun a=>
 zc1 x0 a (((x0.length:Int)-0).toNat+1) false 0)
def zc2 (x0:List Str)(b:Bool->Int->Option (Bool)):Nat->Bool->Int->Option (Bool)
 |0,_,_=>none
 |m+1,c,a=>
 bif decide (a< (x0.length:Int)) then
 ((gi x0 a).bind fun d=>
 (Vm.zg3 d).bind fun e=>
 bif(!e) then
 (some false)
 else
 (zc2 x0 b m c (w64 (a+1))))
 else
 (b c a)
def zco (x0:List Str):Option (Bool):=
 bif decide (10< (x0.length:Int)) then
 (some false)
 else
 (jn (fun(b:Bool) (c:Int)=>
 some true) fun a=>
 zc2 x0 a (((x0.length:Int)-0).toNat+1) false 0)
def strings_Split (x0:Str)(x1:Str):Option ((List Str)):=
 if x0.length<=4294967000/\1<=x1.length then some (Go.Lib.split x0 x1) else none
def zc3 (b:(List Str))(c:Bool->Int->Option (Bool)):Nat->Bool->Int->Option (Bool)
 |0,_,_=>none
 |m+1,d,a=>
 bif decide (a< (b.length:Int)) then
 ((gi b a).bind fun e=>
 (Vm.zcF e).bind fun f=>
 bif(!f) then
 (some false)
 else
 (zc3 b c m d (w64 (a+1))))
 else
 (c d a)
def zer (x0:Str):Option (Bool):=
 (Vm.strings_Split x0 ([47]:Str)).bind fun a=>
 bif decide (3< (a.length:Int)) then
 (some false)
 else
 (jn (fun(c:Bool) (d:Int)=>
 some true) fun b=>
 zc3 a b (((a.length:Int)-0).toNat+1) false 0)
def strings_HasPrefix (x0:Str)(x1:Str):Option (Bool):=
 some (Go.Lib.hasPrefix x0 x1)
def zcp (x0:Str)(x1:Str):Option (Bool):=
 jn (fun(b:Bool)=>
 some b) fun a=>
 (Vm.zer x0).bind fun c=>
 bif c then
 ((Vm.zer x1).bind fun d=>
 bif d then
 ((saM x0 ([47]:Str)).bind fun e=>
 (Vm.strings_HasPrefix x1 e).bind fun f=>
 a f)
 else
 (a false))
 else
 (a false)
def zb0 (c:Vm.File)(b:List Vm.File)(d:Bool->Int->Option (Bool)):Nat->Bool->Int->Option (Bool)
 |0,_,_=>none
 |m+1,e,a=>
 bif decide (a< (b.length:Int)) then
 ((gi b a).bind fun f=>
 (Vm.zcp f.Path c.Path).bind fun g=>
 bif g then
 (some false)
 else
 (zb0 c b d m e (w64 (a+1))))
 else
 (d e a)
def zc4 (x0:List Vm.File)(d:Bool->Int->Option (Bool)):Nat->Bool->Int->Option (Bool)
 |0,_,_=>none
 |m+1,e,a=>
 bif decide (a< (x0.length:Int)) then
 ((gi x0 a).bind fun b=>
 jn (fun(g:Bool)=>
 bif g then
 (some false)
 else
 ((slM x0 0 a).bind fun f=>
 jn (fun(h:Bool) (n:Int)=>
 zc4 x0 d m h (w64 (a+1))) fun i=>
 zb0 b f i (((f.length:Int)-0).toNat+1) e 0)) fun c=>
 (Vm.zco b.Text).bind fun j=>
 bif(!j) then
 (c true)
 else
 ((Vm.zer b.Path).bind fun k=>
 bif(!k) then
 (c true)
 else
 (bif decide (0< (a:Int)) then
 ((gi x0 (w64 (a-1))).bind fun l=>
 c (!Op.bytesLess l.Path b.Path))
 else
 (c false))))
 else
 (d e a)
def zcG (x0:List Vm.File):Option (Bool):=
 bif decide (8< (x0.length:Int)) then
 (some false)
 else
 (jn (fun(b:Bool) (c:Int)=>
 some true) fun a=>
 zc4 x0 a (((x0.length:Int)-0).toNat+1) false 0)
def zch (x0:Vm.Repo)(x1:Int):Option (Bool):=
 (Vm.zfB x1 0 (w64 ((x0.Commits.length:Int)-1))).bind fun a=>
 some a
def zcq (x0:Vm.Repo)(x1:List Vm.Head)(d:Bool->Int->Option (Bool)):Nat->Bool->Int->Option (Bool)
 |0,_,_=>none
 |m+1,e,a=>
 bif decide (a< (x1.length:Int)) then
 ((gi x1 a).bind fun c=>
 jn (fun(f:Bool)=>
 bif f then
 (some false)
 else
 (zcq x0 x1 d m e (w64 (a+1)))) fun b=>
 (Vm.zcF c.Name).bind fun g=>
 bif(!g) then
 (b true)
 else
 ((Vm.zch x0 c.At).bind fun h=>
 bif(!h) then
 (b true)
 else
 (bif decide (0< (a:Int)) then
 ((gi x1 (w64 (a-1))).bind fun i=>
 b (!Op.bytesLess i.Name c.Name))
 else
 (b false))))
 else
 (d e a)
def zf4 (x0:Vm.Repo)(x1:List Vm.Head):Option (Bool):=
 bif decide (5< (x1.length:Int)) then
 (some false)
 else
 (jn (fun(b:Bool) (c:Int)=>
 some true) fun a=>
 zcq x0 x1 a (((x1.length:Int)-0).toNat+1) false 0)
def zb1 (c:Int)(b:Vm.Commit)(d:Bool->Int->Option (Bool)):Nat->Bool->Int->Option (Bool)
 |0,_,_=>none
 |m+1,e,a=>
 bif decide (a< (b.Parents.length:Int)) then
 ((gi b.Parents a).bind fun f=>
 (Vm.zfB f 0 (w64 (c-1))).bind fun g=>
 bif(!g) then
 (some false)
 else
 (zb1 c b d m e (w64 (a+1))))
 else
 (d e a)
def zc5 (x0:Vm.Repo)(d:Bool->Int->Option (Bool)):Nat->Bool->Int->Option (Bool)
 |0,_,_=>none
 |m+1,e,c=>
 bif decide (c< (x0.Commits.length:Int)) then
 ((gi x0.Commits c).bind fun a=>
 jn (fun(f:Bool)=>
 bif f then
 (some false)
 else
 (jn (fun(g:Bool) (p:Int)=>
 zc5 x0 d m g (w64 (c+1))) fun h=>
 zb1 c a h (((a.Parents.length:Int)-0).toNat+1) e 0)) fun b=>
 bif decide (2< (a.Parents.length:Int)) then
 (b true)
 else
 (bif((a.Parents.length:Int)==2) then
 ((gi a.Parents 0).bind fun i=>
 (gi a.Parents 1).bind fun j=>
 bif((i:Int)==(j:Int)) then
 (b true)
 else
 ((Vm.zcF a.Who).bind fun k=>
 bif(!k) then
 (b true)
 else
 ((Vm.zcG a.Tree).bind fun l=>
 b (!l))))
 else
 ((Vm.zcF a.Who).bind fun n=>
 bif(!n) then
 (b true)
 else
 ((Vm.zcG a.Tree).bind fun o=>
 b (!o)))))
 else
 (d e c)
def zfC (x0:Vm.Repo):Option (Bool):=
 bif decide (16< (x0.Commits.length:Int)) then
 (some false)
 else
 (jn (fun(c:Bool) (d:Int)=>
 (Vm.zf4 x0 x0.Heads).bind fun a=>
 some a) fun b=>
 zc5 x0 b (((x0.Commits.length:Int)-0).toNat+1) false 0)
def zb4 (x0:List Vm.Owner)(d:Bool->Int->Option (Bool)):Nat->Bool->Int->Option (Bool)
 |0,_,_=>none
 |m+1,e,a=>
 bif decide (a< (x0.length:Int)) then
 ((gi x0 a).bind fun c=>
 jn (fun(f:Bool)=>
 bif f then
 (some false)
 else
 (zb4 x0 d m e (w64 (a+1)))) fun b=>
 (Vm.zer c.Path).bind fun g=>
 bif(!g) then
 (b true)
 else
 ((Vm.zcF c.Who).bind fun h=>
 bif(!h) then
 (b true)
 else
 (bif decide (0< (a:Int)) then
 ((gi x0 (w64 (a-1))).bind fun i=>
 b (!Op.bytesLess i.Path c.Path))
 else
 (b false))))
 else
 (d e a)
def zes (x0:List Vm.Owner):Option (Bool):=
 bif decide (5< (x0.length:Int)) then
 (some false)
 else
 (jn (fun(b:Bool) (c:Int)=>
 some true) fun a=>
 zb4 x0 a (((x0.length:Int)-0).toNat+1) false 0)
def zcr (x0:List Str)(c:Bool->Int->Option (Bool)):Nat->Bool->Int->Option (Bool)
 |0,_,_=>none
 |m+1,d,a=>
 bif decide (a< (x0.length:Int)) then
 ((gi x0 a).bind fun e=>
 jn (fun(f:Bool)=>
 bif f then
 (some false)
 else
 (zcr x0 c m d (w64 (a+1)))) fun b=>
 (Vm.zcF e).bind fun g=>
 bif(!g) then
 (b true)
 else
 (bif decide (0< (a:Int)) then
 ((gi x0 (w64 (a-1))).bind fun h=>
 b (!Op.bytesLess h e))
 else
 (b false)))
 else
 (c d a)
def zf5 (x0:List Str):Option (Bool):=
 jn (fun(b:Bool) (c:Int)=>
 some true) fun a=>
 zcr x0 a (((x0.length:Int)-0).toNat+1) false 0
def zeX (x0:Vm.Review):Option (Bool):=
 jn (fun(b:Bool)=>
 some b) fun a=>
 (Vm.zcF x0.Branch).bind fun c=>
 bif c then
 ((Vm.zcF x0.Into).bind fun d=>
 bif d then
 ((Vm.zcF x0.By).bind fun e=>
 bif e then
 (bif(x0.Branch !=x0.Into) then
 (bif decide (x0.Yes.length<=(5:Int)) then
 ((Vm.zf5 x0.Yes).bind fun f=>
 a f)
 else
 (a false))
 else
 (a false))
 else
 (a false))
 else
 (a false))
 else
 (a false)
def zcs (x0:Vm.Repo)(x1:Str)(b:Int->Int->Option (Int)):Nat->Int->Int->Option (Int)
 |0,_,_=>none
 |m+1,c,a=>
 bif decide (a< (x0.Heads.length:Int)) then
 ((gi x0.Heads a).bind fun d=>
 bif(d.Name==x1) then
 (some d.At)
 else
 (zcs x0 x1 b m c (w64 (a+1))))
 else
 (b c a)
def zdr (x0:Vm.Repo)(x1:Str):Option (Int):=
 jn (fun(b:Int) (c:Int)=>
 some (-1)) fun a=>
 zcs x0 x1 a (((x0.Heads.length:Int)-0).toNat+1) 0 0
def za1 (d:List Bool->Option ((List Bool)))(a:Vm.Commit):Nat->Int->List Bool->Option ((List Bool))
 |0,_,_=>none
 |m+1,b,c=>
 bif decide (b< (a.Parents.length:Int)) then
 ((gi a.Parents b).bind fun e=>
 (gi c e).bind fun g=>
 (siM c e true).bind fun f=>
 za1 d a m (w64 (b+1)) f)
 else
 (d c)
def zaL (x0:Vm.Repo)(c:Int->List Bool->Option ((List Bool))):Nat->Int->List Bool->Option ((List Bool))
 |0,_,_=>none
 |m+1,a,b=>
 bif decide (0<=(a:Int)) then
 (jn (fun(f:List Bool)=>
 zaL x0 c m (w64 (a-1)) f) fun d=>
 (gi b a).bind fun g=>
 bif g then
 ((gi x0.Commits a).bind fun e=>
 za1 d e (((e.Parents.length:Int)-0).toNat+1) 0 b)
 else
 (d b))
 else
 (c a b)
def zaQ (x0:Vm.Repo)(x1:Int):Option ((List Bool)):=
 (mkM (x0.Commits.length:Int) (false:Bool)).bind fun a=>
 (gi a x1).bind fun e=>
 (siM a x1 true).bind fun b=>
 jn (fun(f:Int) (c:List Bool)=>
 some c) fun d=>
 zaL x0 d ((x1+1-0).toNat+1) x1 b
def za6 (x0:List Bool):Option ((List Bool)):=
 if x0.length<=lim then some x0 else none
def zc6 (x0:List Bool)(c:List Int->Int->Option ((List Int))):Nat->List Int->Int->Option ((List Int))
 |0,_,_=>none
 |m+1,b,a=>
 bif decide (a< (x0.length:Int)) then
 (jn (fun(e:List Int)=>
 zc6 x0 c m e (w64 (a+1))) fun d=>
 (gi x0 a).bind fun f=>
 bif f then
 ((apM b [a]).bind fun g=>
 d g)
 else
 (d b))
 else
 (c b a)
def zbO (x0:List Bool):Option ((List Int)):=
 jn (fun(a:List Int) (c:Int)=>
 some a) fun b=>
 zc6 x0 b (((x0.length:Int)-0).toNat+1) ([]:List Int) 0
def zbz (e:Int)(c:(List Int))(f:Int->List Bool->Option ((List Int))):Nat->Int->List Bool->Option ((List Int))
 |0,_,_=>none
 |m+1,a,b=>
 bif decide (a< (c.length:Int)) then
 (jn (fun(h:List Bool)=>
 zbz e c f m (w64 (a+1)) h) fun g=>
 (gi c a).bind fun d=>
 bif((d:Int) !=(e:Int)) then
 ((gi b d).bind fun j=>
 (siM b d false).bind fun i=>
 g i)
 else
 (g b))
 else
 (f a b)
def zaR (x0:Vm.Repo)(b:(List Int))(c:Int->List Bool->Option ((List Int))):Nat->Int->List Bool->Option ((List Int))
 |0,_,_=>none
 |m+1,a,d=>
 bif decide (a< (b.length:Int)) then
 ((gi b a).bind fun e=>
 (Vm.zaQ x0 e).bind fun g=>
 (Vm.zbO g).bind fun f=>
 jn (fun(j:Int) (h:List Bool)=>
 zaR x0 b c m (w64 (a+1)) h) fun i=>
 zbz e f i (((f.length:Int)-0).toNat+1) 0 d)
 else
 (c a d)
def zbl (c:(List Bool))(d:(List Bool))(e:List Bool)(f:Int->List Bool->Option ((List Int))):Nat->Int->List Bool->Option ((List Int))
 |0,_,_=>none
 |m+1,a,b=>
 bif decide (a< (e.length:Int)) then
 ((gi c a).bind fun g=>
 bif g then
 ((gi d a).bind fun h=>
 (gi b a).bind fun k=>
 (siM b a h).bind fun i=>
 zbl c d e f m (w64 (a+1)) i)
 else
 ((gi b a).bind fun l=>
 (siM b a false).bind fun j=>
 zbl c d e f m (w64 (a+1)) j))
 else
 (f a b)
def zdS (x0:Vm.Repo)(x1:Int)(x2:Int):Option ((List Int)):=
 (Vm.zaQ x0 x1).bind fun d=>
 (Vm.zaQ x0 x2).bind fun e=>
 (mkM (x0.Commits.length:Int) (false:Bool)).bind fun a=>
 jn (fun(k:Int) (b:List Bool)=>
 (Vm.za6 b).bind fun f=>
 (Vm.zbO b).bind fun c=>
 jn (fun(l:Int) (g:List Bool)=>
 (Vm.zbO g).bind fun h=>
 some h) fun i=>
 zaR x0 c i (((c.length:Int)-0).toNat+1) 0 f) fun j=>
 zbl d e a j (((a.length:Int)-0).toNat+1) 0 a
def zbr (x0:Vm.Repo)(x1:Int):Option ((List Vm.File)):=
 bif decide (x1< (0:Int)) then
 (some ([]:List File))
 else
 ((gi x0.Commits x1).bind fun a=>
 some a.Tree)
def zbA (x0:Vm.Repo)(x1:Int)(x2:Int):Option ((List Vm.File)):=
 (Vm.zdS x0 x1 x2).bind fun a=>
 bif((a.length:Int)==0) then
 (some ([]:List File))
 else
 ((gi a (w64 ((a.length:Int)-1))).bind fun b=>
 (Vm.zbr x0 b).bind fun c=>
 some c)
def zbZ (x0:List Str):Option ((List Str)):=
 (apM ([]:List Str) x0).bind fun a=>
 some a
def zcH (x0:List Vm.File)(x1:Str)(b:List Str->Bool->Int->Option ((List Str)×Bool)):Nat->List Str->Bool->Int->Option ((List Str)×Bool)
 |0,_,_,_=>none
 |m+1,c,d,a=>
 bif decide (a< (x0.length:Int)) then
 ((gi x0 a).bind fun e=>
 bif(e.Path==x1) then
 ((Vm.zbZ e.Text).bind fun f=>
 some (f,true))
 else
 (zcH x0 x1 b m c d (w64 (a+1))))
 else
 (b c d a)
def zgR (x0:List Vm.File)(x1:Str):Option ((List Str)×Bool):=
 jn (fun(b:List Str) (c:Bool) (d:Int)=>
 some (([]:List Str),false)) fun a=>
 zcH x0 x1 a (((x0.length:Int)-0).toNat+1) ([]:List Str) false 0
def zaF (x0:List Str)(x1:List Str)(b:Bool->Int->Option (Bool)):Nat->Bool->Int->Option (Bool)
 |0,_,_=>none
 |m+1,c,a=>
 bif decide (a< (x0.length:Int)) then
 ((gi x0 a).bind fun d=>
 (gi x1 a).bind fun e=>
 bif(d !=e) then
 (some false)
 else
 (zaF x0 x1 b m c (w64 (a+1))))
 else
 (b c a)
def zaE (x0:List Str)(x1:List Str):Option (Bool):=
 bif((x0.length:Int) !=(x1.length:Int)) then
 (some false)
 else
 (jn (fun(b:Bool) (c:Int)=>
 some true) fun a=>
 zaF x0 x1 a (((x0.length:Int)-0).toNat+1) false 0)
def zeI (x0:List Str)(x1:List Str)(b:Int)(d:Int->List (List Int)->Option ((List (List Int)))):Nat->Int->List (List Int)->Option ((List (List Int)))
 |0,_,_=>none
 |m+1,a,c=>
 bif decide (0<=(a:Int)) then
 (jn (fun(h:List (List Int))=>
 zeI x0 x1 b d m (w64 (a-1)) h) fun e=>
 (gi x0 b).bind fun i=>
 (gi x1 a).bind fun j=>
 bif(i==j) then
 ((gi c b).bind fun f=>
 (gi c (w64 (b+1))).bind fun k=>
 (gi k (w64 (a+1))).bind fun l=>
 (gi f a).bind fun v=>
 (siM f a (w64 (l+1))).bind fun n=>
 (siM c b n).bind fun o=>
 e o)
 else
 ((gi c b).bind fun g=>
 (gi c (w64 (b+1))).bind fun p=>
 (gi p a).bind fun q=>
 (gi c b).bind fun r=>
 (gi r (w64 (a+1))).bind fun s=>
 (gi g a).bind fun w=>
 (siM g a (zsz q s)).bind fun t=>
 (siM c b t).bind fun u=>
 e u))
 else
 (d a c)
def zdJ (x0:List Str)(x1:List Str)(b:Int->List (List Int)->Option ((List (List Int)))):Nat->Int->List (List Int)->Option ((List (List Int)))
 |0,_,_=>none
 |m+1,a,c=>
 bif decide (0<=(a:Int)) then
 (jn (fun(f:Int) (d:List (List Int))=>
 zdJ x0 x1 b m (w64 (a-1)) d) fun e=>
 zeI x0 x1 a e (((w64 ((x1.length:Int)-1))+1-0).toNat+1) (w64 ((x1.length:Int)-1)) c)
 else
 (b a c)
def zeJ (x1:List Str)(c:List (List Int))(d:Int->List (List Int)->Option ((List (List Int)))):Nat->Int->List (List Int)->Option ((List (List Int)))
 |0,_,_=>none
 |m+1,a,b=>
 bif decide (a< (c.length:Int)) then
 ((mkM (w64 ((x1.length:Int)+1)) (0:Int)).bind fun e=>
 (gi b a).bind fun g=>
 (siM b a e).bind fun f=>
 zeJ x1 c d m (w64 (a+1)) f)
 else
 (d a b)
def zk1 (x0:List Str)(x1:List Str):Option ((List (List Int))):=
 (mkM (w64 ((x0.length:Int)+1)) (([]:List Int):List Int)).bind fun a=>
 jn (fun(f:Int) (b:List (List Int))=>
 jn (fun(g:Int) (c:List (List Int))=>
 some c) fun d=>
 zdJ x0 x1 d (((w64 ((x0.length:Int)-1))+1-0).toNat+1) (w64 ((x0.length:Int)-1)) b) fun e=>
 zeJ x1 a e (((a.length:Int)-0).toNat+1) 0 a
def zdV (x0:List Str)(x1:List Str)(c:(List (List Int)))(d:List Int->Int->Int->Option ((List Int))):Nat->List Int->Int->Int->Option ((List Int))
 |0,_,_,_=>none
 |m+1,e,b,a=>
 bif decide (b< (x0.length:Int)) then
 (jn (fun(h:Bool)=>
 bif h then
 ((apM e [a]).bind fun i=>
 zdV x0 x1 c d m i (w64 (b+1)) (w64 (a+1)))
 else
 (jn (fun(j:Bool)=>
 bif j then
 ((apM e [(-1)]).bind fun k=>
 zdV x0 x1 c d m k (w64 (b+1)) a)
 else
 (zdV x0 x1 c d m e b (w64 (a+1)))) fun f=>
 bif((a:Int)==(x1.length:Int)) then
 (f true)
 else
 ((gi c (w64 (b+1))).bind fun l=>
 (gi l a).bind fun n=>
 (gi c b).bind fun u64=>
 (gi u64 (w64 (a+1))).bind fun o=>
 f (decide (o<=(n:Int)))))) fun g=>
 bif decide (a< (x1.length:Int)) then
 ((gi x0 b).bind fun p=>
 (gi x1 a).bind fun q=>
 g (p==q))
 else
 (g false))
 else
 (d e b a)
def zgG (x0:List Str)(x1:List Str):Option ((List Int)):=
 (Vm.zk1 x0 x1).bind fun a=>
 jn (fun(b:List Int) (d:Int) (e:Int)=>
 some b) fun c=>
 zdV x0 x1 a c (x0.length+x1.length+1) ([]:List Int) 0 0
def zeh (x0:List Str)(x1:List Str)(f:List Int)(g:List Vm.Hunk->Int->Int->Int->Option ((List Vm.Hunk))):Nat->List Vm.Hunk->Int->Int->Int->Option ((List Vm.Hunk))
 |0,_,_,_,_=>none
 |m+1,c,b,d,a=>
 bif decide (a< (f.length:Int)) then
 (jn (fun(k:List Vm.Hunk) (l:Int) (n:Int)=>
 zeh x0 x1 f g m k l n (w64 (a+1))) fun h=>
 (gi f a).bind fun e=>
 bif decide (e< (0:Int)) then
 (h c b d)
 else
 (jn (fun(o:List Vm.Hunk)=>
 h o (w64 (a+1)) (w64 (e+1))) fun i=>
 jn (fun(p:Bool)=>
 bif p then
 ((slM x0 b a).bind fun q=>
 (slM x1 d e).bind fun r=>
 (Vm.zbZ q).bind fun s=>
 (Vm.zbZ r).bind fun t=>
 (apM c [Vm.Hunk.mk b s t]).bind fun u=>
 i u)
 else
 (i c)) fun j=>
 bif decide (b< (a:Int)) then
 (j true)
 else
 (j (decide (d< (e:Int))))))
 else
 (g c b d a)
def zjv (x0:List Str)(x1:List Str):Option ((List Vm.Hunk)):=
 (Vm.zgG x0 x1).bind fun b=>
 (apM b [(x1.length:Int)]).bind fun a=>
 jn (fun(c:List Vm.Hunk) (e:Int) (f:Int) (g:Int)=>
 some c) fun d=>
 zeh x0 x1 a d (((a.length:Int)-0).toNat+1) ([]:List Hunk) 0 0 0
def zas (x0:List Str)(x1:Str)(b:Int->Int->Option (Int)):Nat->Int->Int->Option (Int)
 |0,_,_=>none
 |m+1,c,a=>
 bif decide (a< (x0.length:Int)) then
 ((gi x0 a).bind fun d=>
 bif(x1==d) then
 (some a)
 else
 (zas x0 x1 b m c (w64 (a+1))))
 else
 (b c a)
def zbf (x0:List Str)(x1:Str):Option (Int):=
 jn (fun(b:Int) (c:Int)=>
 some (-1)) fun a=>
 zas x0 x1 a (((x0.length:Int)-0).toNat+1) 0 0
def zaJ (x0:List Str)(x1:Str):Option (Bool):=
 (Vm.zbf x0 x1).bind fun a=>
 some (decide (0<=(a:Int)))
def zbR (x0:List Vm.File)(x1:List Vm.File)(c:Vm.File)(d:List Str->Int->Str->Str->List Str->List Vm.Hunk->Option ((List Vm.Change))):Nat->List Str->Int->Int->Str->Str->List Str->List Vm.Hunk->Option ((List Vm.Change))
 |0,_,_,_,_,_,_,_=>none
 |m+1,b,e,g,h,i,j,k=>
 bif decide (e< (x1.length:Int)) then
 ((gi x1 e).bind fun a=>
 (Vm.zgR x0 a.Path).bind fun l=>
 jn (fun(n:Bool)=>
 bif n then
 ((apM b [a.Path]).bind fun o=>
 d o 4 c.Path a.Path ([]:List Str) ([]:List Hunk))
 else
 (zbR x0 x1 c d m b (w64 (e+1)) g h i j k)) fun f=>
 bif(!l.2) then
 ((Vm.zaE a.Text c.Text).bind fun p=>
 bif p then
 ((Vm.zaJ b a.Path).bind fun q=>
 f (!q))
 else
 (f false))
 else
 (f false))
 else
 (d b g h i j k)
def zaM (x0:List Vm.File)(x1:List Vm.File)(d:List Str)(e:List Vm.Change->Int->Option ((List Vm.Change))):Nat->List Vm.Change->Int->Option ((List Vm.Change))
 |0,_,_=>none
 |m+1,c,a=>
 bif decide (a< (x1.length:Int)) then
 (jn (fun(h:List Vm.Change)=>
 zaM x0 x1 d e m h (w64 (a+1))) fun f=>
 (gi x1 a).bind fun b=>
 (Vm.zgR x0 b.Path).bind fun i=>
 jn (fun(j:Bool)=>
 bif j then
 ((Vm.zbZ b.Text).bind fun k=>
 (apM c ([Vm.Change.mk 1 b.Path ([]:Str) k ([]:List Hunk)])).bind fun l=>
 f l)
 else
 (f c)) fun g=>
 bif(!i.2) then
 ((Vm.zaJ d b.Path).bind fun n=>
 g (!n))
 else
 (g false))
 else
 (e c a)
def zbS (x0:List Vm.File)(x1:List Vm.File)(g:List Vm.Change->List Str->Int->Option ((List Vm.Change))):Nat->List Vm.Change->List Str->Int->Option ((List Vm.Change))
 |0,_,_,_=>none
 |m+1,b,c,d=>
 bif decide (d< (x0.length:Int)) then
 (jn (fun(i:List Vm.Change) (j:List Str)=>
 zbS x0 x1 g m i j (w64 (d+1))) fun f=>
 (gi x0 d).bind fun a=>
 (Vm.zgR x1 a.Path).bind fun e=>
 jn (fun(k:Bool)=>
 bif k then
 (f b c)
 else
 (bif e.2 then
 ((Vm.zjv a.Text e.1).bind fun l=>
 (apM b ([Vm.Change.mk 3 a.Path ([]:Str) ([]:List Str) l])).bind fun n=>
 f n c)
 else
 ((Vm.zbZ a.Text).bind fun o=>
 jn (fun(p:List Str) (q:Int) (r:Str) (s:Str) (t:List Str) (u:List Vm.Hunk)=>
 (apM b [Vm.Change.mk q r s t u]).bind fun v=>
 f v p) fun w=>
 zbR x0 x1 a w (((x1.length:Int)-0).toNat+1) c 0 2 a.Path ([]:Str) o ([]:List Hunk)))) fun h=>
 bif e.2 then
 ((Vm.zaE e.1 a.Text).bind fun x=>
 h x)
 else
 (h false))
 else
 (g b c d)
def zej (x0:List Vm.File)(x1:List Vm.File):Option ((List Vm.Change)):=
 jn (fun(b:Bool)=>
 bif b then
 (some ([]:List Change))
 else
 (jn (fun(c:List Vm.Change) (d:List Str) (j:Int)=>
 jn (fun(e:List Vm.Change) (k:Int)=>
 some e) fun f=>
 zaM x0 x1 d f (((x1.length:Int)-0).toNat+1) c 0) fun g=>
 zbS x0 x1 g (((x0.length:Int)-0).toNat+1) ([]:List Change) ([]:List Str) 0)) fun a=>
 (Vm.zcG x0).bind fun h=>
 bif(!h) then
 (a true)
 else
 ((Vm.zcG x1).bind fun i=>
 a (!i))
def zat (x0:List Str):Option ((List Str)):=
 if x0.length<=4294967296 then some (zcy x0) else none
def zct (x0:List Vm.Change)(c:List Str->Int->Option ((List Str))):Nat->List Str->Int->Option ((List Str))
 |0,_,_=>none
 |m+1,d,a=>
 bif decide (a< (x0.length:Int)) then
 (jn (fun(g:List Str)=>
 zct x0 c m g (w64 (a+1))) fun e=>
 (gi x0 a).bind fun b=>
 (apM d [b.Path]).bind fun f=>
 bif(b.Kind==4) then
 ((apM f [b.To]).bind fun h=>
 e h)
 else
 (e f))
 else
 (c d a)
def zf6 (x0:List Vm.Change):Option ((List Str)):=
 jn (fun(a:List Str) (d:Int)=>
 (Vm.zat a).bind fun b=>
 some b) fun c=>
 zct x0 c (((x0.length:Int)-0).toNat+1) ([]:List Str) 0
def zcu (x0:List Vm.Owner)(x1:Str)(e:Int->Str->Str->Option (Str)):Nat->Int->Str->Str->Option (Str)
 |0,_,_,_=>none
 |m+1,b,c,f=>
 bif decide (b< (x0.length:Int)) then
 (jn (fun(h:Str) (i:Str)=>
 zcu x0 x1 e m (w64 (b+1)) h i) fun g=>
 (gi x0 b).bind fun a=>
 jn (fun(j:Bool)=>
 bif j then
 (g a.Path a.Who)
 else
 (g c f)) fun d=>
 bif(a.Path==x1) then
 (d (decide (c.length< (a.Path.length:Int))))
 else
 ((Vm.zcp a.Path x1).bind fun k=>
 bif k then
 (d (decide (c.length< (a.Path.length:Int))))
 else
 (d false)))
 else
 (e b c f)
def zf7 (x0:List Vm.Owner)(x1:Str):Option (Str):=
 jn (fun(b:Bool)=>
 bif b then
 (some ([]:Str))
 else
 (jn (fun(g:Int) (h:Str) (c:Str)=>
 some c) fun d=>
 zcu x0 x1 d (((x0.length:Int)-0).toNat+1) 0 ([]:Str) ([]:Str))) fun a=>
 (Vm.zes x0).bind fun e=>
 bif(!e) then
 (a true)
 else
 ((Vm.zer x1).bind fun f=>
 a (!f))
def za5 (x0:List Str):Option ((List Str)):=
 if x0.length<=4294967296 then some (znH x0) else none
def zf8 (x0:List Str)(x1:Str):Option ((List Str)):=
 (apM ([]:List Str) x0).bind fun a=>
 (apM a [x1]).bind fun b=>
 (Vm.zat b).bind fun c=>
 (Vm.za5 c).bind fun d=>
 some d
def za4 (x1:List Vm.Owner)(x2:Vm.Review)(c:(List Str))(f:List Str->Int->Option ((List Str)×Bool)):Nat->List Str->Int->Option ((List Str)×Bool)
 |0,_,_=>none
 |m+1,d,a=>
 bif decide (a< (c.length:Int)) then
 (jn (fun(h:List Str)=>
 za4 x1 x2 c f m h (w64 (a+1))) fun g=>
 (gi c a).bind fun i=>
 (Vm.zf7 x1 i).bind fun b=>
 jn (fun(j:Bool)=>
 bif j then
 ((Vm.zf8 d b).bind fun k=>
 g k)
 else
 (g d)) fun e=>
 bif(b !=([]:Str)) then
 (bif(b !=x2.By) then
 ((Vm.zaJ x2.Yes b).bind fun l=>
 e (!l))
 else
 (e false))
 else
 (e false))
 else
 (f d a)
def zbK (x0:Vm.Repo)(x1:List Vm.Owner)(x2:Vm.Review):Option ((List Str)×Bool):=
 jn (fun(d:Bool)=>
 bif d then
 (some (([]:List Str),false))
 else
 ((Vm.zdr x0 x2.Branch).bind fun b=>
 (Vm.zdr x0 x2.Into).bind fun e=>
 (Vm.zbA x0 b e).bind fun f=>
 (Vm.zbr x0 b).bind fun g=>
 (Vm.zej f g).bind fun h=>
 (Vm.zf6 h).bind fun c=>
 jn (fun(i:List Str) (p:Int)=>
 some (i,true)) fun j=>
 za4 x1 x2 c j (((c.length:Int)-0).toNat+1) ([]:List Str) 0)) fun a=>
 (Vm.zfC x0).bind fun k=>
 bif(!k) then
 (a true)
 else
 ((Vm.zes x1).bind fun l=>
 bif(!l) then
 (a true)
 else
 ((Vm.zeX x2).bind fun m=>
 bif(!m) then
 (a true)
 else
 ((Vm.zdr x0 x2.Branch).bind fun n=>
 bif decide (n< (0:Int)) then
 (a true)
 else
 ((Vm.zdr x0 x2.Into).bind fun o=>
 a (decide (o< (0:Int)))))))
end Go.Vm
