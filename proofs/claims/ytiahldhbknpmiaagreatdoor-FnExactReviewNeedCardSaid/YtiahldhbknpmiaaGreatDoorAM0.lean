/- Models of the functions: plain Lean, printed by a program of ours. Conditions: none. -/
import Derived.Test.YtiahldhbknpmiaaGreatDoorALw
import Derived.Lib.SplitLaws
import Derived.Lib.IndexMore
import Derived.Lib.Join
import Derived.Lib.ItoaNum
namespace Go.Vm
open Go Go.Sx
set_option linter.unusedVariables false
set_option linter.unusedSimpArgs false
def zlT (x0:List Int)(x1:Int):Option (Int):=
 bif decide ((w64 (x1-(x0.length:Int)):Int)< (0:Int)) then
 (some (-1))
 else
 (some (w64 (x1-(x0.length:Int))))
def zeh (x0:List Str)(c:Int->Int->Int->Option (Int)):Nat->Int->Int->Int->Option (Int)
 |0,_,_,_=>none
 |m+1,b,d,a=>
 bif decide (a< (x0.length:Int)) then
 ((gi x0 a).bind fun e=>
 bif decide ((w64 (b-(e.length:Int)):Int)< (0:Int)) then
 (some (-1))
 else
 (zeh x0 c m (w64 (b-(e.length:Int))) d (w64 (a+1))))
 else
 (c b d a)
def zgH (x0:List Str)(x1:Int):Option (Int):=
 bif decide ((w64 (x1-(x0.length:Int)):Int)< (0:Int)) then
 (some (-1))
 else
 (jn (fun(a:Int) (c:Int) (d:Int)=>
 some a) fun b=>
 zeh x0 b (((x0.length:Int)-0).toNat+1) (w64 (x1-(x0.length:Int))) 0 0)
def zlU (x0:Vm.File)(x1:Int):Option (Int):=
 bif decide ((w64 (x1-(x0.Path.length:Int)):Int)< (0:Int)) then
 (some (-1))
 else
 ((Vm.zgH x0.Text (w64 (x1-(x0.Path.length:Int)))).bind fun a=>
 bif decide (a< (0:Int)) then
 (some (-1))
 else
 (some a))
def zhV (x0:List Vm.File)(b:Int->Int->Int->Option (Int)):Nat->Int->Int->Int->Option (Int)
 |0,_,_,_=>none
 |m+1,c,d,a=>
 bif decide (a< (x0.length:Int)) then
 ((gi x0 a).bind fun f=>
 (Vm.zlU f c).bind fun e=>
 bif decide (e< (0:Int)) then
 (some (-1))
 else
 (zhV x0 b m e d (w64 (a+1))))
 else
 (b c d a)
def zk4 (x0:List Vm.File)(x1:Int):Option (Int):=
 bif decide ((w64 (x1-(x0.length:Int)):Int)< (0:Int)) then
 (some (-1))
 else
 (jn (fun(a:Int) (c:Int) (d:Int)=>
 some a) fun b=>
 zhV x0 b (((x0.length:Int)-0).toNat+1) (w64 (x1-(x0.length:Int))) 0 0)
def zkw (x0:Vm.Commit)(x1:Int):Option (Int):=
 (Vm.zlT x0.Parents x1).bind fun a=>
 bif decide (a< (0:Int)) then
 (some (-1))
 else
 (bif decide ((w64 (a-(x0.Who.length:Int)):Int)< (0:Int)) then
 (some (-1))
 else
 ((Vm.zk4 x0.Tree (w64 (a-(x0.Who.length:Int)))).bind fun b=>
 bif decide (b< (0:Int)) then
 (some (-1))
 else
 (some b)))
def zgw (x0:List Vm.Commit)(b:Int->Int->Int->Option (Int)):Nat->Int->Int->Int->Option (Int)
 |0,_,_,_=>none
 |m+1,c,d,a=>
 bif decide (a< (x0.length:Int)) then
 ((gi x0 a).bind fun f=>
 (Vm.zkw f c).bind fun e=>
 bif decide (e< (0:Int)) then
 (some (-1))
 else
 (zgw x0 b m e d (w64 (a+1))))
 else
 (b c d a)
def zju (x0:List Vm.Commit)(x1:Int):Option (Int):=
 bif decide ((w64 (x1-(x0.length:Int)):Int)< (0:Int)) then
 (some (-1))
 else
 (jn (fun(a:Int) (c:Int) (d:Int)=>
 some a) fun b=>
 zgw x0 b (((x0.length:Int)-0).toNat+1) (w64 (x1-(x0.length:Int))) 0 0)
def zlV (x0:Vm.Head)(x1:Int):Option (Int):=
 bif decide ((w64 (x1-(x0.Name.length:Int)):Int)< (0:Int)) then
 (some (-1))
 else
 (some (w64 (x1-(x0.Name.length:Int))))
def zhW (x0:List Vm.Head)(b:Int->Int->Int->Option (Int)):Nat->Int->Int->Int->Option (Int)
 |0,_,_,_=>none
 |m+1,c,d,a=>
 bif decide (a< (x0.length:Int)) then
 ((gi x0 a).bind fun f=>
 (Vm.zlV f c).bind fun e=>
 bif decide (e< (0:Int)) then
 (some (-1))
 else
 (zhW x0 b m e d (w64 (a+1))))
 else
 (b c d a)
def zk5 (x0:List Vm.Head)(x1:Int):Option (Int):=
 bif decide ((w64 (x1-(x0.length:Int)):Int)< (0:Int)) then
 (some (-1))
 else
 (jn (fun(a:Int) (c:Int) (d:Int)=>
 some a) fun b=>
 zhW x0 b (((x0.length:Int)-0).toNat+1) (w64 (x1-(x0.length:Int))) 0 0)
def ziJ (x0:Vm.Repo)(x1:Int):Option (Int):=
 (Vm.zju x0.Commits x1).bind fun a=>
 bif decide (a< (0:Int)) then
 (some (-1))
 else
 ((Vm.zk5 x0.Heads a).bind fun b=>
 bif decide (b< (0:Int)) then
 (some (-1))
 else
 (some b))
def ziK (x0:List Int)(c:Int->List Int->Option ((List Int))):Nat->Int->List Int->Option ((List Int))
 |0,_,_=>none
 |m+1,a,b=>
 bif decide (a< (x0.length:Int)) then
 ((gi x0 a).bind fun d=>
 (gi b a).bind fun f=>
 (siM b a d).bind fun e=>
 ziK x0 c m (w64 (a+1)) e)
 else
 (c a b)
def zlW (x0:List Int):Option ((List Int)):=
 (mkM (x0.length:Int) (0:Int)).bind fun a=>
 jn (fun(d:Int) (b:List Int)=>
 some b) fun c=>
 ziK x0 c (((x0.length:Int)-0).toNat+1) 0 a
def zei (x0:List Str)(c:Int->List Str->Option ((List Str))):Nat->Int->List Str->Option ((List Str))
 |0,_,_=>none
 |m+1,a,b=>
 bif decide (a< (x0.length:Int)) then
 ((gi x0 a).bind fun d=>
 (gi b a).bind fun f=>
 (siM b a d).bind fun e=>
 zei x0 c m (w64 (a+1)) e)
 else
 (c a b)
def zgI (x0:List Str):Option ((List Str)):=
 (mkM (x0.length:Int) (([]:Str):Str)).bind fun a=>
 jn (fun(d:Int) (b:List Str)=>
 some b) fun c=>
 zei x0 c (((x0.length:Int)-0).toNat+1) 0 a
def zlX (x0:Vm.File):Option (Vm.File):=
 (Vm.zgI x0.Text).bind fun a=>
 some (Vm.File.mk x0.Path a)
def zhX (x0:List Vm.File)(c:Int->List Vm.File->Option ((List Vm.File))):Nat->Int->List Vm.File->Option ((List Vm.File))
 |0,_,_=>none
 |m+1,a,b=>
 bif decide (a< (x0.length:Int)) then
 ((gi x0 a).bind fun e=>
 (Vm.zlX e).bind fun d=>
 (gi b a).bind fun g=>
 (siM b a (Vm.File.mk d.Path d.Text)).bind fun f=>
 zhX x0 c m (w64 (a+1)) f)
 else
 (c a b)
def zk6 (x0:List Vm.File):Option ((List Vm.File)):=
 (mkM (x0.length:Int) (Vm.File.mk ([]:Str) ([]:List Str):File)).bind fun a=>
 jn (fun(d:Int) (b:List Vm.File)=>
 some b) fun c=>
 zhX x0 c (((x0.length:Int)-0).toNat+1) 0 a
def zkx (x0:Vm.Commit):Option (Vm.Commit):=
 (Vm.zlW x0.Parents).bind fun a=>
 (Vm.zk6 x0.Tree).bind fun b=>
 some (Vm.Commit.mk a x0.Who b)
def zgx (x0:List Vm.Commit)(d:Int->List Vm.Commit->Option ((List Vm.Commit))):Nat->Int->List Vm.Commit->Option ((List Vm.Commit))
 |0,_,_=>none
 |m+1,a,b=>
 bif decide (a< (x0.length:Int)) then
 ((gi x0 a).bind fun e=>
 (Vm.zkx e).bind fun c=>
 (gi b a).bind fun g=>
 (siM b a (Vm.Commit.mk c.Parents c.Who c.Tree)).bind fun f=>
 zgx x0 d m (w64 (a+1)) f)
 else
 (d a b)
def zjv (x0:List Vm.Commit):Option ((List Vm.Commit)):=
 (mkM (x0.length:Int) (Vm.Commit.mk ([]:List Int) ([]:Str) ([]:List File):Commit)).bind fun a=>
 jn (fun(d:Int) (b:List Vm.Commit)=>
 some b) fun c=>
 zgx x0 c (((x0.length:Int)-0).toNat+1) 0 a
def zlY (x0:Vm.Head):Option (Vm.Head):=
 some (Vm.Head.mk x0.Name x0.At)
def zhY (x0:List Vm.Head)(c:Int->List Vm.Head->Option ((List Vm.Head))):Nat->Int->List Vm.Head->Option ((List Vm.Head))
 |0,_,_=>none
 |m+1,a,b=>
 bif decide (a< (x0.length:Int)) then
 ((gi x0 a).bind fun d=>
 (Vm.zlY d).bind fun e=>
 (gi b a).bind fun g=>
 (siM b a e).bind fun f=>
 zhY x0 c m (w64 (a+1)) f)
 else
 (c a b)
def zk7 (x0:List Vm.Head):Option ((List Vm.Head)):=
 (mkM (x0.length:Int) (Vm.Head.mk ([]:Str) 0:Head)).bind fun a=>
 jn (fun(d:Int) (b:List Vm.Head)=>
 some b) fun c=>
 zhY x0 c (((x0.length:Int)-0).toNat+1) 0 a
def zc1 (x0:Vm.Repo):Option (Vm.Repo):=
 (Vm.zjv x0.Commits).bind fun a=>
 (Vm.zk7 x0.Heads).bind fun b=>
 some (Vm.Repo.mk a b)
def zec (x0:Int)(x1:Int)(x2:Int):Option (Bool):=
 jn (fun(b:Bool)=>
 some b) fun a=>
 bif decide (x1<=(x0:Int)) then
 (a (decide (x0<=(x2:Int))))
 else
 (a false)
def zbU (x0:Str)(c:Bool->Int->Option (Bool)):Nat->Bool->Int->Option (Bool)
 |0,_,_=>none
 |m+1,d,a=>
 bif decide (a< (x0.length:Int)) then
 (jn (fun(e:Bool)=>
 bif e then
 (some false)
 else
 (zbU x0 c m d (w64 (a+1)))) fun b=>
 (chM x0 a).bind fun f=>
 bif decide (((UInt8.toNat f:Int):Int)< (97:Int)) then
 ((chM x0 a).bind fun g=>
 bif decide (((UInt8.toNat g:Int):Int)< (48:Int)) then
 (b true)
 else
 ((chM x0 a).bind fun h=>
 b (decide ((57:Int)< ((UInt8.toNat h:Int):Int)))))
 else
 ((chM x0 a).bind fun i=>
 bif decide ((122:Int)< ((UInt8.toNat i:Int):Int)) then
 ((chM x0 a).bind fun j=>
 bif decide (((UInt8.toNat j:Int):Int)< (48:Int)) then
 (b true)
 else
 ((chM x0 a).bind fun k=>
 b (decide ((57:Int)< ((UInt8.toNat k:Int):Int)))))
 else
 (b false)))
 else
 (c d a)
def zcJ (x0:Str):Option (Bool):=
 jn (fun(c:Bool) (d:Int)=>
 (Vm.zec (x0.length:Int) 1 6).bind fun a=>
 some a) fun b=>
 zbU x0 b (((x0.length:Int)-0).toNat+1) false 0
def zdM (x0:Str)(x1:zn4)(x2:Int)(d:List Str->Int->Int->Option ((List Str))):Nat->List Str->Int->Int->Option ((List Str))
 |0,_,_,_=>none
 |m+1,b,c,a=>
 jn (fun(g:Bool)=>
 bif g then
 (jn (fun(h:List Str) (i:Int)=>
 zdM x0 x1 x2 d m h i (w64 (a+1))) fun e=>
 (chM x0 a).bind fun j=>
 bif(((UInt8.toNat j:Int):Int)==((UInt8.toNat x1:Int):Int)) then
 ((slM x0 c a).bind fun k=>
 (apM b [k]).bind fun l=>
 e l (w64 (a+1)))
 else
 (e b c))
 else
 (d b c a)) fun f=>
 bif decide (a< (x0.length:Int)) then
 (f (decide (b.length< (x2:Int))))
 else
 (f false)
def zgk (x0:Str)(x1:zn4)(x2:Int):Option ((List Str)):=
 jn (fun(a:List Str) (b:Int) (f:Int)=>
 (slM x0 b (x0.length:Int)).bind fun c=>
 (apM a [c]).bind fun d=>
 some d) fun e=>
 zdM x0 x1 x2 e (x0.length+1) ([]:List Str) 0 0
def zbV (b:(List Str))(c:Bool->Int->Option (Bool)):Nat->Bool->Int->Option (Bool)
 |0,_,_=>none
 |m+1,d,a=>
 bif decide (a< (b.length:Int)) then
 ((gi b a).bind fun e=>
 (Vm.zcJ e).bind fun f=>
 bif(!f) then
 (some false)
 else
 (zbV b c m d (w64 (a+1))))
 else
 (c d a)
def zdC (x0:Str):Option (Bool):=
 (Vm.zgk x0 (UInt8.ofNatLT 47 (by decide):zn4) 3).bind fun a=>
 jn (fun(c:Bool) (d:Int)=>
 some (decide (a.length<=(3:Int)))) fun b=>
 zbV a b (((a.length:Int)-0).toNat+1) false 0
def zbW (x0:Str)(b:Bool->Int->Option (Bool)):Nat->Bool->Int->Option (Bool)
 |0,_,_=>none
 |m+1,c,a=>
 bif decide (a< (x0.length:Int)) then
 (jn (fun(e:Bool)=>
 bif e then
 (some false)
 else
 (zbW x0 b m c (w64 (a+1)))) fun d=>
 (chM x0 a).bind fun f=>
 bif decide (((UInt8.toNat f:Int):Int)< (32:Int)) then
 (d true)
 else
 ((chM x0 a).bind fun g=>
 d (decide ((126:Int)< ((UInt8.toNat g:Int):Int)))))
 else
 (b c a)
def zff (x0:Str):Option (Bool):=
 jn (fun(b:Bool) (c:Int)=>
 some (decide (x0.length<=(12:Int)))) fun a=>
 zbW x0 a (((x0.length:Int)-0).toNat+1) false 0
def zc3 (x0:List Str)(b:Bool->Int->Option (Bool)):Nat->Bool->Int->Option (Bool)
 |0,_,_=>none
 |m+1,c,a=>
 bif decide (a< (x0.length:Int)) then
 ((gi x0 a).bind fun d=>
 (Vm.zff d).bind fun e=>
 bif(!e) then
 (some false)
 else
 (zc3 x0 b m c (w64 (a+1))))
 else
 (b c a)
def zcK (x0:List Str):Option (Bool):=
 jn (fun(b:Bool) (c:Int)=>
 some (decide (x0.length<=(10:Int)))) fun a=>
 zc3 x0 a (((x0.length:Int)-0).toNat+1) false 0
def zgY (x0:Str)(x1:Str):Option (Bool):=
 jn (fun(b:Bool)=>
 some b) fun a=>
 bif decide (x0.length< (x1.length:Int)) then
 ((slM x1 0 (x0.length:Int)).bind fun c=>
 bif(c==x0) then
 ((chM x1 (x0.length:Int)).bind fun d=>
 a (((UInt8.toNat d:Int):Int)==(47:Int)))
 else
 (a false))
 else
 (a false)
def zbN (x0:List Vm.File)(b:Int)(c:Bool->Int->Option (Bool)):Nat->Bool->Int->Option (Bool)
 |0,_,_=>none
 |m+1,d,a=>
 bif decide (a< (x0.length:Int)) then
 ((gi x0 b).bind fun e=>
 (gi x0 a).bind fun f=>
 (Vm.zgY e.Path f.Path).bind fun g=>
 bif g then
 (some false)
 else
 (zbN x0 b c m d (w64 (a+1))))
 else
 (c d a)
def zc4 (x0:List Vm.File)(c:Bool->Int->Option (Bool)):Nat->Bool->Int->Option (Bool)
 |0,_,_=>none
 |m+1,d,a=>
 bif decide (a< (x0.length:Int)) then
 (jn (fun(g:Bool)=>
 bif g then
 (some false)
 else
 (jn (fun(h:Bool) (o:Int)=>
 zc4 x0 c m h (w64 (a+1))) fun i=>
 zbN x0 a i (((x0.length:Int)-0).toNat+1) d 0)) fun b=>
 (gi x0 a).bind fun j=>
 (Vm.zdC j.Path).bind fun k=>
 bif(!k) then
 (b true)
 else
 ((gi x0 a).bind fun l=>
 (Vm.zcK l.Text).bind fun n=>
 bif(!n) then
 (b true)
 else
 (bif decide (0< (a:Int)) then
 ((gi x0 a).bind fun e=>
 (gi x0 (w64 (a-1))).bind fun f=>
 b (Op.bytesLess e.Path f.Path||e.Path==f.Path))
 else
 (b false))))
 else
 (c d a)
def zgZ (x0:List Vm.File):Option (Bool):=
 jn (fun(b:Bool) (c:Int)=>
 some (decide (x0.length<=(8:Int)))) fun a=>
 zc4 x0 a (((x0.length:Int)-0).toNat+1) false 0
def zbO (d:Int)(b:Vm.Commit)(e:Bool->Int->Option (Bool)):Nat->Bool->Int->Option (Bool)
 |0,_,_=>none
 |m+1,f,a=>
 bif decide (a< (b.Parents.length:Int)) then
 (jn (fun(g:Bool)=>
 bif g then
 (some false)
 else
 (zbO d b e m f (w64 (a+1)))) fun c=>
 (gi b.Parents a).bind fun h=>
 (Vm.zec h 0 (w64 (d-1))).bind fun i=>
 bif(!i) then
 (c true)
 else
 (bif decide (0< (a:Int)) then
 ((gi b.Parents a).bind fun j=>
 (gi b.Parents 0).bind fun k=>
 c ((j:Int)==(k:Int)))
 else
 (c false)))
 else
 (e f a)
def zbP (x0:Vm.Repo)(c:Bool->Int->Option (Bool)):Nat->Bool->Int->Option (Bool)
 |0,_,_=>none
 |m+1,d,a=>
 bif decide (a< (x0.Heads.length:Int)) then
 (jn (fun(g:Bool)=>
 bif g then
 (some false)
 else
 (zbP x0 c m d (w64 (a+1)))) fun b=>
 (gi x0.Heads a).bind fun h=>
 (Vm.zcJ h.Name).bind fun i=>
 bif(!i) then
 (b true)
 else
 ((gi x0.Heads a).bind fun j=>
 (Vm.zec j.At 0 (w64 ((x0.Commits.length:Int)-1))).bind fun k=>
 bif(!k) then
 (b true)
 else
 (bif decide (0< (a:Int)) then
 ((gi x0.Heads a).bind fun e=>
 (gi x0.Heads (w64 (a-1))).bind fun f=>
 b (Op.bytesLess e.Name f.Name||e.Name==f.Name))
 else
 (b false))))
 else
 (c d a)
def zc5 (x0:Vm.Repo)(d:Bool->Int->Option (Bool)):Nat->Bool->Int->Option (Bool)
 |0,_,_=>none
 |m+1,e,a=>
 bif decide (a< (x0.Commits.length:Int)) then
 ((gi x0.Commits a).bind fun b=>
 jn (fun(f:Bool) (k:Int)=>
 jn (fun(g:Bool)=>
 bif g then
 (some false)
 else
 (zc5 x0 d m f (w64 (a+1)))) fun c=>
 bif decide (2< (b.Parents.length:Int)) then
 (c true)
 else
 ((Vm.zcJ b.Who).bind fun h=>
 bif(!h) then
 (c true)
 else
 ((Vm.zgZ b.Tree).bind fun i=>
 c (!i)))) fun j=>
 zbO a b j (((b.Parents.length:Int)-0).toNat+1) e 0)
 else
 (d e a)
def zdJ (x0:Vm.Repo):Option (Bool):=
 jn (fun(b:Bool) (f:Int)=>
 jn (fun(g:Bool) (h:Int)=>
 jn (fun(c:Bool)=>
 some c) fun a=>
 bif decide (x0.Commits.length<=(16:Int)) then
 (a (decide (x0.Heads.length<=(5:Int))))
 else
 (a false)) fun d=>
 zbP x0 d (((x0.Heads.length:Int)-0).toNat+1) b 0) fun e=>
 zc5 x0 e (((x0.Commits.length:Int)-0).toNat+1) false 0
def zc6 (x0:Vm.Repo)(x1:Str)(b:Int->Int->Option (Int)):Nat->Int->Int->Option (Int)
 |0,_,_=>none
 |m+1,c,a=>
 bif decide (a< (x0.Heads.length:Int)) then
 ((gi x0.Heads a).bind fun d=>
 bif(d.Name==x1) then
 ((gi x0.Heads a).bind fun e=>
 some e.At)
 else
 (zc6 x0 x1 b m c (w64 (a+1))))
 else
 (b c a)
def zd0 (x0:Vm.Repo)(x1:Str):Option (Int):=
 jn (fun(b:Int) (c:Int)=>
 some (-1)) fun a=>
 zc6 x0 x1 a (((x0.Heads.length:Int)-0).toNat+1) 0 0
def zcn (x0:List Str)(x1:Str)(b:Int->Option ((List Str))):Nat->Int->Option ((List Str))
 |0,_=>none
 |m+1,a=>
 jn (fun(d:Bool)=>
 bif d then
 (zcn x0 x1 b m (w64 (a+1)))
 else
 (b a)) fun c=>
 bif decide (a< (x0.length:Int)) then
 ((gi x0 a).bind fun e=>
 c (Op.bytesLess e x1))
 else
 (c false)
def zdi (x0:List Str)(x1:Str):Option ((List Str)):=
 jn (fun(a:Int)=>
 jn (fun(c:Bool)=>
 bif c then
 (some x0)
 else
 ((slM x0 0 a).bind fun d=>
 (apM ([]:List Str) d).bind fun e=>
 (apM e [x1]).bind fun f=>
 (slM x0 a (x0.length:Int)).bind fun g=>
 (apM f g).bind fun h=>
 some h)) fun b=>
 bif decide (a< (x0.length:Int)) then
 ((gi x0 a).bind fun i=>
 b (i==x1))
 else
 (b false)) fun j=>
 zcn x0 x1 j (x0.length+1) 0
def zco (x0:List Vm.File)(x1:Str)(b:List Str->Bool->Int->Option ((List Str)×Bool)):Nat->List Str->Bool->Int->Option ((List Str)×Bool)
 |0,_,_,_=>none
 |m+1,c,d,a=>
 bif decide (a< (x0.length:Int)) then
 ((gi x0 a).bind fun e=>
 bif(e.Path==x1) then
 ((gi x0 a).bind fun f=>
 some (f.Text,true))
 else
 (zco x0 x1 b m c d (w64 (a+1))))
 else
 (b c d a)
def zej (x0:List Vm.File)(x1:Str):Option ((List Str)×Bool):=
 jn (fun(b:List Str) (c:Bool) (d:Int)=>
 some (([]:List Str),false)) fun a=>
 zco x0 x1 a (((x0.length:Int)-0).toNat+1) ([]:List Str) false 0
def zbX (x0:List Str)(x1:List Str)(b:Bool->Int->Option (Bool)):Nat->Bool->Int->Option (Bool)
 |0,_,_=>none
 |m+1,c,a=>
 bif decide (a< (x0.length:Int)) then
 ((gi x0 a).bind fun d=>
 (gi x1 a).bind fun e=>
 bif(d !=e) then
 (some false)
 else
 (zbX x0 x1 b m c (w64 (a+1))))
 else
 (b c a)
def zdD (x0:List Str)(x1:List Str):Option (Bool):=
 bif((x0.length:Int) !=(x1.length:Int)) then
 (some false)
 else
 (jn (fun(b:Bool) (c:Int)=>
 some true) fun a=>
 zbX x0 x1 a (((x0.length:Int)-0).toNat+1) false 0)
def zbC (x0:List Str)(x1:List Str)(b:Int)(e:Int->List (List Int)->Option ((List (List Int)))):Nat->Int->List (List Int)->Option ((List (List Int)))
 |0,_,_=>none
 |m+1,a,c=>
 bif decide (0<=(a:Int)) then
 (jn (fun(h:List (List Int))=>
 zbC x0 x1 b e m (w64 (a-1)) h) fun d=>
 (gi x0 b).bind fun i=>
 (gi x1 a).bind fun j=>
 bif(i==j) then
 ((gi c b).bind fun u64=>
 (gi c (w64 (b+1))).bind fun k=>
 (gi k (w64 (a+1))).bind fun l=>
 (gi u64 a).bind fun B=>
 (siM u64 a (w64 (l+1))).bind fun n=>
 (siM c b n).bind fun o=>
 d o)
 else
 ((gi c (w64 (b+1))).bind fun p=>
 (gi p a).bind fun q=>
 (gi c b).bind fun r=>
 (gi r (w64 (a+1))).bind fun s=>
 bif decide (s<=(q:Int)) then
 ((gi c b).bind fun f=>
 (gi c (w64 (b+1))).bind fun t=>
 (gi t a).bind fun u=>
 (gi f a).bind fun C=>
 (siM f a u).bind fun v=>
 (siM c b v).bind fun w=>
 d w)
 else
 ((gi c b).bind fun g=>
 (gi c b).bind fun x=>
 (gi x (w64 (a+1))).bind fun y=>
 (gi g a).bind fun D=>
 (siM g a y).bind fun z=>
 (siM c b z).bind fun A=>
 d A)))
 else
 (e a c)
def za9 (x0:List Str)(x1:List Str)(b:Int->List (List Int)->Option ((List (List Int)))):Nat->Int->List (List Int)->Option ((List (List Int)))
 |0,_,_=>none
 |m+1,a,c=>
 bif decide (0<=(a:Int)) then
 (jn (fun(f:Int) (d:List (List Int))=>
 za9 x0 x1 b m (w64 (a-1)) d) fun e=>
 zbC x0 x1 a e (((w64 ((x1.length:Int)-1))+1-0).toNat+1) (w64 ((x1.length:Int)-1)) c)
 else
 (b a c)
def zbD (x0:List Str)(x1:List Str)(b:List (List Int)->Int->Option ((List (List Int)))):Nat->List (List Int)->Int->Option ((List (List Int)))
 |0,_,_=>none
 |m+1,c,a=>
 bif decide (a<=(x0.length:Int)) then
 ((mkM (w64 ((x1.length:Int)+1)) (0:Int)).bind fun d=>
 (apM c [d]).bind fun e=>
 zbD x0 x1 b m e (w64 (a+1)))
 else
 (b c a)
def zep (x0:List Str)(x1:List Str):Option ((List (List Int))):=
 jn (fun(a:List (List Int)) (e:Int)=>
 jn (fun(f:Int) (b:List (List Int))=>
 some b) fun c=>
 za9 x0 x1 c (((w64 ((x0.length:Int)-1))+1-0).toNat+1) (w64 ((x0.length:Int)-1)) a) fun d=>
 zbD x0 x1 d (((x0.length:Int)+1-0).toNat+1) ([]:List (List Int)) 0
def zct (x0:List Str)(x1:List Str)(c:(List (List Int)))(d:List Int->Int->Int->Option ((List Int))):Nat->List Int->Int->Int->Option ((List Int))
 |0,_,_,_=>none
 |m+1,e,a,b=>
 bif decide (b< (x0.length:Int)) then
 (jn (fun(h:Bool)=>
 bif h then
 ((apM e [a]).bind fun i=>
 zct x0 x1 c d m i (w64 (a+1)) (w64 (b+1)))
 else
 (jn (fun(j:Bool)=>
 bif j then
 ((apM e [(-1)]).bind fun k=>
 zct x0 x1 c d m k a (w64 (b+1)))
 else
 (zct x0 x1 c d m e (w64 (a+1)) b)) fun f=>
 bif decide (x1.length<=(a:Int)) then
 (f true)
 else
 ((gi c (w64 (b+1))).bind fun l=>
 (gi l a).bind fun n=>
 (gi c b).bind fun o=>
 (gi o (w64 (a+1))).bind fun p=>
 f (decide (p<=(n:Int)))))) fun g=>
 bif decide (a< (x1.length:Int)) then
 ((gi x0 b).bind fun q=>
 (gi x1 a).bind fun r=>
 g (q==r))
 else
 (g false))
 else
 (d e a b)
def zdL (x0:List Str)(x1:List Str):Option ((List Int)):=
 (Vm.zep x0 x1).bind fun a=>
 jn (fun(b:List Int) (d:Int) (e:Int)=>
 some b) fun c=>
 zct x0 x1 a c (x0.length+x1.length+1) ([]:List Int) 0 0
def zeu (x0:Int)(x1:Int)(x2:Int):Option (Bool):=
 jn (fun(b:Bool)=>
 some b) fun a=>
 bif decide (x1<=(x0:Int)) then
 (a (decide (x0<=(x2:Int))))
 else
 (a false)
def zdN (x0:zn4):Option (Bool):=
 jn (fun(b:Bool)=>
 some b) fun a=>
 bif decide ((97:Int)<=((UInt8.toNat x0:Int):Int)) then
 (bif decide (((UInt8.toNat x0:Int):Int)<=(122:Int)) then
 (a true)
 else
 (bif decide ((48:Int)<=((UInt8.toNat x0:Int):Int)) then
 (a (decide (((UInt8.toNat x0:Int):Int)<=(57:Int))))
 else
 (a false)))
 else
 (bif decide ((48:Int)<=((UInt8.toNat x0:Int):Int)) then
 (a (decide (((UInt8.toNat x0:Int):Int)<=(57:Int))))
 else
 (a false))
def zbY (x0:Str)(b:Bool->Int->Option (Bool)):Nat->Bool->Int->Option (Bool)
 |0,_,_=>none
 |m+1,c,a=>
 bif decide (a< (x0.length:Int)) then
 ((chM x0 a).bind fun d=>
 (Vm.zdN d).bind fun e=>
 bif(!e) then
 (some false)
 else
 (zbY x0 b m c (w64 (a+1))))
 else
 (b c a)
def zcL (x0:Str):Option (Bool):=
 (Vm.zeu (x0.length:Int) 1 6).bind fun a=>
 bif(!a) then
 (some false)
 else
 (jn (fun(c:Bool) (d:Int)=>
 some true) fun b=>
 zbY x0 b (((x0.length:Int)-0).toNat+1) false 0)
def zbZ (x0:Str)(b:Bool->Int->Option (Bool)):Nat->Bool->Int->Option (Bool)
 |0,_,_=>none
 |m+1,c,a=>
 bif decide (a< (x0.length:Int)) then
 (jn (fun(e:Bool)=>
 bif e then
 (some false)
 else
 (zbZ x0 b m c (w64 (a+1)))) fun d=>
 (chM x0 a).bind fun f=>
 bif decide (((UInt8.toNat f:Int):Int)< (32:Int)) then
 (d true)
 else
 ((chM x0 a).bind fun g=>
 d (decide ((126:Int)< ((UInt8.toNat g:Int):Int)))))
 else
 (b c a)
def zfg (x0:Str):Option (Bool):=
 bif decide (12< (x0.length:Int)) then
 (some false)
 else
 (jn (fun(b:Bool) (c:Int)=>
 some true) fun a=>
 zbZ x0 a (((x0.length:Int)-0).toNat+1) false 0)
def zb0 (x0:List Str)(b:Bool->Int->Option (Bool)):Nat->Bool->Int->Option (Bool)
 |0,_,_=>none
 |m+1,c,a=>
 bif decide (a< (x0.length:Int)) then
 ((gi x0 a).bind fun d=>
 (Vm.zfg d).bind fun e=>
 bif(!e) then
 (some false)
 else
 (zb0 x0 b m c (w64 (a+1))))
 else
 (b c a)
def zbx (x0:List Str):Option (Bool):=
 bif decide (10< (x0.length:Int)) then
 (some false)
 else
 (jn (fun(b:Bool) (c:Int)=>
 some true) fun a=>
 zb0 x0 a (((x0.length:Int)-0).toNat+1) false 0)
def strings_Split (x0:Str)(x1:Str):Option ((List Str)):=
 if x0.length<=4294967000/\1<=x1.length then some (Go.Lib.split x0 x1) else none
def zb1 (b:(List Str))(c:Bool->Int->Option (Bool)):Nat->Bool->Int->Option (Bool)
 |0,_,_=>none
 |m+1,d,a=>
 bif decide (a< (b.length:Int)) then
 ((gi b a).bind fun e=>
 (Vm.zcL e).bind fun f=>
 bif(!f) then
 (some false)
 else
 (zb1 b c m d (w64 (a+1))))
 else
 (c d a)
def zdT (x0:Str):Option (Bool):=
 (Vm.strings_Split x0 ([47]:Str)).bind fun a=>
 bif decide (3< (a.length:Int)) then
 (some false)
 else
 (jn (fun(c:Bool) (d:Int)=>
 some true) fun b=>
 zb1 a b (((a.length:Int)-0).toNat+1) false 0)
def strings_HasPrefix (x0:Str)(x1:Str):Option (Bool):=
 some (Go.Lib.hasPrefix x0 x1)
def zby (x0:Str)(x1:Str):Option (Bool):=
 jn (fun(b:Bool)=>
 some b) fun a=>
 (Vm.zdT x0).bind fun c=>
 bif c then
 ((Vm.zdT x1).bind fun d=>
 bif d then
 ((saM x0 ([47]:Str)).bind fun e=>
 (Vm.strings_HasPrefix x1 e).bind fun f=>
 a f)
 else
 (a false))
 else
 (a false)
def zbi (c:Vm.File)(b:List Vm.File)(d:Bool->Int->Option (Bool)):Nat->Bool->Int->Option (Bool)
 |0,_,_=>none
 |m+1,e,a=>
 bif decide (a< (b.length:Int)) then
 ((gi b a).bind fun f=>
 (Vm.zby f.Path c.Path).bind fun g=>
 bif g then
 (some false)
 else
 (zbi c b d m e (w64 (a+1))))
 else
 (d e a)
def zb2 (x0:List Vm.File)(d:Bool->Int->Option (Bool)):Nat->Bool->Int->Option (Bool)
 |0,_,_=>none
 |m+1,e,a=>
 bif decide (a< (x0.length:Int)) then
 ((gi x0 a).bind fun b=>
 jn (fun(g:Bool)=>
 bif g then
 (some false)
 else
 ((slM x0 0 a).bind fun f=>
 jn (fun(h:Bool) (n:Int)=>
 zb2 x0 d m h (w64 (a+1))) fun i=>
 zbi b f i (((f.length:Int)-0).toNat+1) e 0)) fun c=>
 (Vm.zbx b.Text).bind fun j=>
 bif(!j) then
 (c true)
 else
 ((Vm.zdT b.Path).bind fun k=>
 bif(!k) then
 (c true)
 else
 (bif decide (0< (a:Int)) then
 ((gi x0 (w64 (a-1))).bind fun l=>
 c (!Op.bytesLess l.Path b.Path))
 else
 (c false))))
 else
 (d e a)
def zcl (x0:List Vm.File):Option (Bool):=
 bif decide (8< (x0.length:Int)) then
 (some false)
 else
 (jn (fun(b:Bool) (c:Int)=>
 some true) fun a=>
 zb2 x0 a (((x0.length:Int)-0).toNat+1) false 0)
def zbl (x0:Vm.Repo)(x1:Int):Option (Bool):=
 (Vm.zeu x1 0 (w64 ((x0.Commits.length:Int)-1))).bind fun a=>
 some a
def zbE (x0:Vm.Repo)(x1:List Vm.Head)(d:Bool->Int->Option (Bool)):Nat->Bool->Int->Option (Bool)
 |0,_,_=>none
 |m+1,e,a=>
 bif decide (a< (x1.length:Int)) then
 ((gi x1 a).bind fun c=>
 jn (fun(f:Bool)=>
 bif f then
 (some false)
 else
 (zbE x0 x1 d m e (w64 (a+1)))) fun b=>
 (Vm.zcL c.Name).bind fun g=>
 bif(!g) then
 (b true)
 else
 ((Vm.zbl x0 c.At).bind fun h=>
 bif(!h) then
 (b true)
 else
 (bif decide (0< (a:Int)) then
 ((gi x1 (w64 (a-1))).bind fun i=>
 b (!Op.bytesLess i.Name c.Name))
 else
 (b false))))
 else
 (d e a)
def zeq (x0:Vm.Repo)(x1:List Vm.Head):Option (Bool):=
 bif decide (5< (x1.length:Int)) then
 (some false)
 else
 (jn (fun(b:Bool) (c:Int)=>
 some true) fun a=>
 zbE x0 x1 a (((x1.length:Int)-0).toNat+1) false 0)
def zbj (c:Int)(b:Vm.Commit)(d:Bool->Int->Option (Bool)):Nat->Bool->Int->Option (Bool)
 |0,_,_=>none
 |m+1,e,a=>
 bif decide (a< (b.Parents.length:Int)) then
 ((gi b.Parents a).bind fun f=>
 (Vm.zeu f 0 (w64 (c-1))).bind fun g=>
 bif(!g) then
 (some false)
 else
 (zbj c b d m e (w64 (a+1))))
 else
 (d e a)
def zb3 (x0:Vm.Repo)(d:Bool->Int->Option (Bool)):Nat->Bool->Int->Option (Bool)
 |0,_,_=>none
 |m+1,e,c=>
 bif decide (c< (x0.Commits.length:Int)) then
 ((gi x0.Commits c).bind fun a=>
 jn (fun(f:Bool)=>
 bif f then
 (some false)
 else
 (jn (fun(g:Bool) (p:Int)=>
 zb3 x0 d m g (w64 (c+1))) fun h=>
 zbj c a h (((a.Parents.length:Int)-0).toNat+1) e 0)) fun b=>
 bif decide (2< (a.Parents.length:Int)) then
 (b true)
 else
 (bif((a.Parents.length:Int)==2) then
 ((gi a.Parents 0).bind fun i=>
 (gi a.Parents 1).bind fun j=>
 bif((i:Int)==(j:Int)) then
 (b true)
 else
 ((Vm.zcL a.Who).bind fun k=>
 bif(!k) then
 (b true)
 else
 ((Vm.zcl a.Tree).bind fun l=>
 b (!l))))
 else
 ((Vm.zcL a.Who).bind fun n=>
 bif(!n) then
 (b true)
 else
 ((Vm.zcl a.Tree).bind fun o=>
 b (!o)))))
 else
 (d e c)
def zdE (x0:Vm.Repo):Option (Bool):=
 bif decide (16< (x0.Commits.length:Int)) then
 (some false)
 else
 (jn (fun(c:Bool) (d:Int)=>
 (Vm.zeq x0 x0.Heads).bind fun a=>
 some a) fun b=>
 zb3 x0 b (((x0.Commits.length:Int)-0).toNat+1) false 0)
def zbF (x0:Vm.Repo)(x1:Str)(b:Int->Int->Option (Int)):Nat->Int->Int->Option (Int)
 |0,_,_=>none
 |m+1,c,a=>
 bif decide (a< (x0.Heads.length:Int)) then
 ((gi x0.Heads a).bind fun d=>
 bif(d.Name==x1) then
 (some d.At)
 else
 (zbF x0 x1 b m c (w64 (a+1))))
 else
 (b c a)
def zcM (x0:Vm.Repo)(x1:Str):Option (Int):=
 jn (fun(b:Int) (c:Int)=>
 some (-1)) fun a=>
 zbF x0 x1 a (((x0.Heads.length:Int)-0).toNat+1) 0 0
def zb6 (x0:List Str):Option ((List Str)):=
 (apM ([]:List Str) x0).bind fun a=>
 some a
def zau (x0:Vm.Repo)(x1:Int):Option ((List Vm.File)):=
 bif decide (x1< (0:Int)) then
 (some ([]:List File))
 else
 ((gi x0.Commits x1).bind fun a=>
 some a.Tree)
def zaO (x0:List Str):Option ((List Str)):=
 if x0.length<=4294967296 then some (zcg x0) else none
def zbr (x0:List Str):Option ((List Str)):=
 if x0.length<=4294967296 then some (zkL x0) else none
def zc2 (x0:List Vm.File)(x1:Str)(b:List Str->Bool->Int->Option ((List Str)×Bool)):Nat->List Str->Bool->Int->Option ((List Str)×Bool)
 |0,_,_,_=>none
 |m+1,c,d,a=>
 bif decide (a< (x0.length:Int)) then
 ((gi x0 a).bind fun e=>
 bif(e.Path==x1) then
 ((Vm.zb6 e.Text).bind fun f=>
 some (f,true))
 else
 (zc2 x0 x1 b m c d (w64 (a+1))))
 else
 (b c d a)
def zgJ (x0:List Vm.File)(x1:Str):Option ((List Str)×Bool):=
 jn (fun(b:List Str) (c:Bool) (d:Int)=>
 some (([]:List Str),false)) fun a=>
 zc2 x0 x1 a (((x0.length:Int)-0).toNat+1) ([]:List Str) false 0
def zar (x0:List Str)(x1:List Str)(b:Bool->Int->Option (Bool)):Nat->Bool->Int->Option (Bool)
 |0,_,_=>none
 |m+1,c,a=>
 bif decide (a< (x0.length:Int)) then
 ((gi x0 a).bind fun d=>
 (gi x1 a).bind fun e=>
 bif(d !=e) then
 (some false)
 else
 (zar x0 x1 b m c (w64 (a+1))))
 else
 (b c a)
def zay (x0:List Str)(x1:List Str):Option (Bool):=
 bif((x0.length:Int) !=(x1.length:Int)) then
 (some false)
 else
 (jn (fun(b:Bool) (c:Int)=>
 some true) fun a=>
 zar x0 x1 a (((x0.length:Int)-0).toNat+1) false 0)
def zdo (x0:List Str)(x1:List Str)(b:Int)(d:Int->List (List Int)->Option ((List (List Int)))):Nat->Int->List (List Int)->Option ((List (List Int)))
 |0,_,_=>none
 |m+1,a,c=>
 bif decide (0<=(a:Int)) then
 (jn (fun(h:List (List Int))=>
 zdo x0 x1 b d m (w64 (a-1)) h) fun e=>
 (gi x0 b).bind fun i=>
 (gi x1 a).bind fun j=>
 bif(i==j) then
 ((gi c b).bind fun f=>
 (gi c (w64 (b+1))).bind fun k=>
 (gi k (w64 (a+1))).bind fun l=>
 (gi f a).bind fun v=>
 (siM f a (w64 (l+1))).bind fun n=>
 (siM c b n).bind fun o=>
 e o)
 else
 ((gi c b).bind fun g=>
 (gi c (w64 (b+1))).bind fun p=>
 (gi p a).bind fun q=>
 (gi c b).bind fun r=>
 (gi r (w64 (a+1))).bind fun s=>
 (gi g a).bind fun w=>
 (siM g a (zoN q s)).bind fun t=>
 (siM c b t).bind fun u=>
 e u))
 else
 (d a c)
def zcm (x0:List Str)(x1:List Str)(b:Int->List (List Int)->Option ((List (List Int)))):Nat->Int->List (List Int)->Option ((List (List Int)))
 |0,_,_=>none
 |m+1,a,c=>
 bif decide (0<=(a:Int)) then
 (jn (fun(f:Int) (d:List (List Int))=>
 zcm x0 x1 b m (w64 (a-1)) d) fun e=>
 zdo x0 x1 a e (((w64 ((x1.length:Int)-1))+1-0).toNat+1) (w64 ((x1.length:Int)-1)) c)
 else
 (b a c)
def zdp (x1:List Str)(c:List (List Int))(d:Int->List (List Int)->Option ((List (List Int)))):Nat->Int->List (List Int)->Option ((List (List Int)))
 |0,_,_=>none
 |m+1,a,b=>
 bif decide (a< (c.length:Int)) then
 ((mkM (w64 ((x1.length:Int)+1)) (0:Int)).bind fun e=>
 (gi b a).bind fun g=>
 (siM b a e).bind fun f=>
 zdp x1 c d m (w64 (a+1)) f)
 else
 (d a b)
def ziT (x0:List Str)(x1:List Str):Option ((List (List Int))):=
 (mkM (w64 ((x0.length:Int)+1)) (([]:List Int):List Int)).bind fun a=>
 jn (fun(f:Int) (b:List (List Int))=>
 jn (fun(g:Int) (c:List (List Int))=>
 some c) fun d=>
 zcm x0 x1 d (((w64 ((x0.length:Int)-1))+1-0).toNat+1) (w64 ((x0.length:Int)-1)) b) fun e=>
 zdp x1 a e (((a.length:Int)-0).toNat+1) 0 a
def zdg (x0:List Str)(x1:List Str)(c:(List (List Int)))(d:List Int->Int->Int->Option ((List Int))):Nat->List Int->Int->Int->Option ((List Int))
 |0,_,_,_=>none
 |m+1,e,b,a=>
 bif decide (b< (x0.length:Int)) then
 (jn (fun(h:Bool)=>
 bif h then
 ((apM e [a]).bind fun i=>
 zdg x0 x1 c d m i (w64 (b+1)) (w64 (a+1)))
 else
 (jn (fun(j:Bool)=>
 bif j then
 ((apM e [(-1)]).bind fun k=>
 zdg x0 x1 c d m k (w64 (b+1)) a)
 else
 (zdg x0 x1 c d m e b (w64 (a+1)))) fun f=>
 bif((a:Int)==(x1.length:Int)) then
 (f true)
 else
 ((gi c (w64 (b+1))).bind fun l=>
 (gi l a).bind fun n=>
 (gi c b).bind fun u64=>
 (gi u64 (w64 (a+1))).bind fun o=>
 f (decide (o<=(n:Int)))))) fun g=>
 bif decide (a< (x1.length:Int)) then
 ((gi x0 b).bind fun p=>
 (gi x1 a).bind fun q=>
 g (p==q))
 else
 (g false))
 else
 (d e b a)
def zft (x0:List Str)(x1:List Str):Option ((List Int)):=
 (Vm.ziT x0 x1).bind fun a=>
 jn (fun(b:List Int) (d:Int) (e:Int)=>
 some b) fun c=>
 zdg x0 x1 a c (x0.length+x1.length+1) ([]:List Int) 0 0
def ziL (x0:List Int)(x1:List Int)(b:Bool->Int->Option (Bool)):Nat->Bool->Int->Option (Bool)
 |0,_,_=>none
 |m+1,c,a=>
 bif decide (a< (x0.length:Int)) then
 ((gi x0 a).bind fun d=>
 (gi x1 a).bind fun e=>
 bif((d:Int) !=(e:Int)) then
 (some false)
 else
 (ziL x0 x1 b m c (w64 (a+1))))
 else
 (b c a)
def zlZ (x0:List Int)(x1:List Int):Option (Bool):=
 bif((x0.length:Int) !=(x1.length:Int)) then
 (some false)
 else
 (jn (fun(b:Bool) (c:Int)=>
 some true) fun a=>
 ziL x0 x1 a (((x0.length:Int)-0).toNat+1) false 0)
def zek (x0:List Str)(x1:List Str)(b:Bool->Int->Option (Bool)):Nat->Bool->Int->Option (Bool)
 |0,_,_=>none
 |m+1,c,a=>
 bif decide (a< (x0.length:Int)) then
 ((gi x0 a).bind fun d=>
 (gi x1 a).bind fun e=>
 bif(d !=e) then
 (some false)
 else
 (zek x0 x1 b m c (w64 (a+1))))
 else
 (b c a)
def zeW (x0:List Str)(x1:List Str):Option (Bool):=
 bif((x0.length:Int) !=(x1.length:Int)) then
 (some false)
 else
 (jn (fun(b:Bool) (c:Int)=>
 some true) fun a=>
 zek x0 x1 a (((x0.length:Int)-0).toNat+1) false 0)
def zl0 (x0:Vm.File)(x1:Vm.File):Option (Bool):=
 bif(x0.Path !=x1.Path) then
 (some false)
 else
 ((Vm.zeW x0.Text x1.Text).bind fun a=>
 bif(!a) then
 (some false)
 else
 (some true))
def zhZ (x0:List Vm.File)(x1:List Vm.File)(b:Bool->Int->Option (Bool)):Nat->Bool->Int->Option (Bool)
 |0,_,_=>none
 |m+1,c,a=>
 bif decide (a< (x0.length:Int)) then
 ((gi x0 a).bind fun d=>
 (gi x1 a).bind fun e=>
 (Vm.zl0 d e).bind fun f=>
 bif(!f) then
 (some false)
 else
 (zhZ x0 x1 b m c (w64 (a+1))))
 else
 (b c a)
def zk8 (x0:List Vm.File)(x1:List Vm.File):Option (Bool):=
 bif((x0.length:Int) !=(x1.length:Int)) then
 (some false)
 else
 (jn (fun(b:Bool) (c:Int)=>
 some true) fun a=>
 zhZ x0 x1 a (((x0.length:Int)-0).toNat+1) false 0)
def zky (x0:Vm.Commit)(x1:Vm.Commit):Option (Bool):=
 (Vm.zlZ x0.Parents x1.Parents).bind fun a=>
 bif(!a) then
 (some false)
 else
 (bif(x0.Who !=x1.Who) then
 (some false)
 else
 ((Vm.zk8 x0.Tree x1.Tree).bind fun b=>
 bif(!b) then
 (some false)
 else
 (some true)))
def zgy (x0:List Vm.Commit)(x1:List Vm.Commit)(b:Bool->Int->Option (Bool)):Nat->Bool->Int->Option (Bool)
 |0,_,_=>none
 |m+1,c,a=>
 bif decide (a< (x0.length:Int)) then
 ((gi x0 a).bind fun d=>
 (gi x1 a).bind fun e=>
 (Vm.zky d e).bind fun f=>
 bif(!f) then
 (some false)
 else
 (zgy x0 x1 b m c (w64 (a+1))))
 else
 (b c a)
def zjw (x0:List Vm.Commit)(x1:List Vm.Commit):Option (Bool):=
 bif((x0.length:Int) !=(x1.length:Int)) then
 (some false)
 else
 (jn (fun(b:Bool) (c:Int)=>
 some true) fun a=>
 zgy x0 x1 a (((x0.length:Int)-0).toNat+1) false 0)
def zl1 (x0:Vm.Head)(x1:Vm.Head):Option (Bool):=
 bif(x0.Name !=x1.Name) then
 (some false)
 else
 (bif((x0.At:Int) !=(x1.At:Int)) then
 (some false)
 else
 (some true))
def zh0 (x0:List Vm.Head)(x1:List Vm.Head)(b:Bool->Int->Option (Bool)):Nat->Bool->Int->Option (Bool)
 |0,_,_=>none
 |m+1,c,a=>
 bif decide (a< (x0.length:Int)) then
 ((gi x0 a).bind fun d=>
 (gi x1 a).bind fun e=>
 (Vm.zl1 d e).bind fun f=>
 bif(!f) then
 (some false)
 else
 (zh0 x0 x1 b m c (w64 (a+1))))
 else
 (b c a)
def zk9 (x0:List Vm.Head)(x1:List Vm.Head):Option (Bool):=
 bif((x0.length:Int) !=(x1.length:Int)) then
 (some false)
 else
 (jn (fun(b:Bool) (c:Int)=>
 some true) fun a=>
 zh0 x0 x1 a (((x0.length:Int)-0).toNat+1) false 0)
def zdq (x0:Vm.Repo)(x1:Vm.Repo):Option (Bool):=
 (Vm.zjw x0.Commits x1.Commits).bind fun a=>
 bif(!a) then
 (some false)
 else
 ((Vm.zk9 x0.Heads x1.Heads).bind fun b=>
 bif(!b) then
 (some false)
 else
 (some true))
def zhd (d:Int->Int->List Int->Option (Int×(List Int))):Nat->Int->Int->List Int->Option (Int×(List Int))
 |0,_,_,_=>none
 |m+1,c,a,b=>
 bif decide (a< (b.length:Int)) then
 ((gi b a).bind fun f=>
 (siM b a c).bind fun e=>
 zhd d m (w64 (c+1)) (w64 (a+1)) e)
 else
 (d c a b)
def zkz (x0:List Int)(x1:Int):Option (Int×(List Int)):=
 jn (fun(a:Int) (d:Int) (b:List Int)=>
 some (a,b)) fun c=>
 zhd c (((x0.length:Int)-0).toNat+1) x1 0 x0
def zgo (b:Int->Str->Option (Str)):Nat->Int->Str->Option (Str)
 |0,_,_=>none
 |m+1,a,c=>
 bif decide (0< (a:Int)) then
 ((saM (([(by8 (w64 (48+(Int.tmod a 10))))]:List zn4):Str) c).bind fun d=>
 zgo b m (w64 (Int.tdiv a 10)) d)
 else
 (b a c)
def zcp (x0:Int):Option (Str):=
 bif decide (x0<=(0:Int)) then
 (some ([109,48]:Str))
 else
 (jn (fun(d:Int) (a:Str)=>
 (saM ([109]:Str) a).bind fun b=>
 some b) fun c=>
 zgo c ((x0-0).toNat+1) x0 ([]:Str))
def zdF (d:Int->Int->List Str->Option (Int×(List Str))):Nat->Int->Int->List Str->Option (Int×(List Str))
 |0,_,_,_=>none
 |m+1,c,a,b=>
 bif decide (a< (b.length:Int)) then
 ((Vm.zcp c).bind fun e=>
 (gi b a).bind fun g=>
 (siM b a e).bind fun f=>
 zdF d m (w64 (c+1)) (w64 (a+1)) f)
 else
 (d c a b)
def zed (x0:List Str)(x1:Int):Option (Int×(List Str)):=
 jn (fun(a:Int) (d:Int) (b:List Str)=>
 some (a,b)) fun c=>
 zdF c (((x0.length:Int)-0).toNat+1) x1 0 x0
def zgz (d:Int->Int->List Vm.File->Option (Int×(List Vm.File))):Nat->Int->Int->List Vm.File->Option (Int×(List Vm.File))
 |0,_,_,_=>none
 |m+1,c,a,b=>
 bif decide (a< (b.length:Int)) then
 ((Vm.zcp c).bind fun h=>
 (gi b a).bind fun i=>
 (siM b a (Vm.File.mk h i.Text)).bind fun e=>
 (gi e a).bind fun f=>
 (Vm.zed f.Text (w64 (c+1))).bind fun g=>
 (siM e a (Vm.File.mk f.Path g.2)).bind fun j=>
 zgz d m g.1 (w64 (a+1)) j)
 else
 (d c a b)
def zjx (x0:List Vm.File)(x1:Int):Option (Int×(List Vm.File)):=
 jn (fun(a:Int) (d:Int) (b:List Vm.File)=>
 some (a,b)) fun c=>
 zgz c (((x0.length:Int)-0).toNat+1) x1 0 x0
def zfE (f:Int->Int->List Vm.Commit->Option (Int×(List Vm.Commit))):Nat->Int->Int->List Vm.Commit->Option (Int×(List Vm.Commit))
 |0,_,_,_=>none
 |m+1,g,a,b=>
 bif decide (a< (b.length:Int)) then
 ((gi b a).bind fun c=>
 (Vm.zkz c.Parents g).bind fun d=>
 (siM b a (Vm.Commit.mk d.2 c.Who c.Tree)).bind fun h=>
 (Vm.zcp d.1).bind fun l=>
 (gi h a).bind fun i=>
 (siM h a (Vm.Commit.mk i.Parents l i.Tree)).bind fun j=>
 (gi j a).bind fun e=>
 (Vm.zjx e.Tree (w64 (d.1+1))).bind fun k=>
 (siM j a (Vm.Commit.mk e.Parents e.Who k.2)).bind fun n=>
 zfE f m k.1 (w64 (a+1)) n)
 else
 (f g a b)
def zid (x0:List Vm.Commit)(x1:Int):Option (Int×(List Vm.Commit)):=
 jn (fun(a:Int) (d:Int) (b:List Vm.Commit)=>
 some (a,b)) fun c=>
 zfE c (((x0.length:Int)-0).toNat+1) x1 0 x0
def zgA (d:Int->Int->List Vm.Head->Option (Int×(List Vm.Head))):Nat->Int->Int->List Vm.Head->Option (Int×(List Vm.Head))
 |0,_,_,_=>none
 |m+1,b,a,c=>
 bif decide (a< (c.length:Int)) then
 ((Vm.zcp b).bind fun f=>
 (gi c a).bind fun g=>
 (siM c a (Vm.Head.mk f g.At)).bind fun e=>
 (gi e a).bind fun h=>
 (siM e a (Vm.Head.mk h.Name (w64 (b+1)))).bind fun i=>
 zgA d m (w64 ((w64 (b+1))+1)) (w64 (a+1)) i)
 else
 (d b a c)
def zjy (x0:List Vm.Head)(x1:Int):Option (Int×(List Vm.Head)):=
 jn (fun(a:Int) (d:Int) (b:List Vm.Head)=>
 some (a,b)) fun c=>
 zgA c (((x0.length:Int)-0).toNat+1) x1 0 x0
def zeG (x0:Vm.Repo)(x1:Int):Option (Int×Vm.Repo):=
 (Vm.zid x0.Commits x1).bind fun a=>
 (Vm.zjy x0.Heads a.1).bind fun b=>
 some (b.1,Vm.Repo.mk a.2 b.2)
def zdG (x0:List Str)(c:Int->Int->Int->Option (Int)):Nat->Int->Int->Int->Option (Int)
 |0,_,_,_=>none
 |m+1,b,d,a=>
 bif decide (a< (x0.length:Int)) then
 ((gi x0 a).bind fun e=>
 (Vm.zcp b).bind fun f=>
 bif(e !=f) then
 (some (-1))
 else
 (zdG x0 c m (w64 (b+1)) d (w64 (a+1))))
 else
 (c b d a)
def zeX (x0:List Str)(x1:Int):Option (Int):=
 jn (fun(a:Int) (c:Int) (d:Int)=>
 some a) fun b=>
 zdG x0 b (((x0.length:Int)-0).toNat+1) x1 0 0
end Go.Vm
