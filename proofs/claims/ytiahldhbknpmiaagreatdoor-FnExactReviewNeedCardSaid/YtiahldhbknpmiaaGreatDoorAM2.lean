/- Models of the functions: plain Lean, printed by a program of ours. Conditions: none. -/
import Derived.Test.YtiahldhbknpmiaaGreatDoorALw
namespace Go.Vm
open Go Go.Sx
set_option linter.unusedVariables false
set_option linter.unusedSimpArgs false
def zdP (x0:Vm.Repo)(a:Int)(d:Int->List Bool->Option ((List Int))):Nat->Int->List Bool->Option ((List Int))
 |0,_,_=>none
 |m+1,b,c=>
 jn (fun(g:Bool)=>
 bif g then
 ((gi x0.Commits a).bind fun h=>
 (gi h.Parents b).bind fun e=>
 (gi c e).bind fun l=>
 (siM c e true).bind fun i=>
 zdP x0 a d m (w64 (b+1)) i)
 else
 (d b c)) fun f=>
 (gi x0.Commits a).bind fun j=>
 bif decide (b< (j.Parents.length:Int)) then
 ((gi c a).bind fun k=>
 f k)
 else
 (f false)
def zcU (b:List Bool)(d:List Int->Int->Option ((List Int))):Nat->List Int->Int->Option ((List Int))
 |0,_,_=>none
 |m+1,c,a=>
 bif decide (a< (b.length:Int)) then
 (jn (fun(f:List Int)=>
 zcU b d m f (w64 (a+1))) fun e=>
 (gi b a).bind fun g=>
 bif g then
 ((apM c [a]).bind fun h=>
 e h)
 else
 (e c))
 else
 (d c a)
def zcV (x0:Vm.Repo)(b:Int->List Bool->Option ((List Int))):Nat->Int->List Bool->Option ((List Int))
 |0,_,_=>none
 |m+1,a,c=>
 bif decide (0<=(a:Int)) then
 (jn (fun(f:Int) (d:List Bool)=>
 zcV x0 b m (w64 (a-1)) d) fun e=>
 zdP x0 a e (4) 0 c)
 else
 (b a c)
def zfu (x0:Vm.Repo)(x1:Int):Option ((List Int)):=
 (mkM (x0.Commits.length:Int) (false:Bool)).bind fun a=>
 (gi a x1).bind fun g=>
 (siM a x1 true).bind fun c=>
 jn (fun(h:Int) (b:List Bool)=>
 jn (fun(d:List Int) (i:Int)=>
 some d) fun e=>
 zcU b e (((b.length:Int)-0).toNat+1) ([]:List Int) 0) fun f=>
 zcV x0 f ((x1+1-0).toNat+1) x1 c
def zdQ (x0:List Int)(x1:Int)(b:Bool->Int->Option (Bool)):Nat->Bool->Int->Option (Bool)
 |0,_,_=>none
 |m+1,c,a=>
 bif decide (a< (x0.length:Int)) then
 ((gi x0 a).bind fun d=>
 bif((d:Int)==(x1:Int)) then
 (some true)
 else
 (zdQ x0 x1 b m c (w64 (a+1))))
 else
 (b c a)
def zgm (x0:List Int)(x1:Int):Option (Bool):=
 jn (fun(b:Bool) (c:Int)=>
 some false) fun a=>
 zdQ x0 x1 a (((x0.length:Int)-0).toNat+1) false 0
def zbg (d:List Bool->Option ((List Bool)))(a:Vm.Commit):Nat->Int->List Bool->Option ((List Bool))
 |0,_,_=>none
 |m+1,b,c=>
 bif decide (b< (a.Parents.length:Int)) then
 ((gi a.Parents b).bind fun e=>
 (gi c e).bind fun g=>
 (siM c e true).bind fun f=>
 zbg d a m (w64 (b+1)) f)
 else
 (d c)
def zaT (x0:Vm.Repo)(c:Int->List Bool->Option ((List Bool))):Nat->Int->List Bool->Option ((List Bool))
 |0,_,_=>none
 |m+1,a,b=>
 bif decide (0<=(a:Int)) then
 (jn (fun(f:List Bool)=>
 zaT x0 c m (w64 (a-1)) f) fun d=>
 (gi b a).bind fun g=>
 bif g then
 ((gi x0.Commits a).bind fun e=>
 zbg d e (((e.Parents.length:Int)-0).toNat+1) 0 b)
 else
 (d b))
 else
 (c a b)
def za2 (x0:Vm.Repo)(x1:Int):Option ((List Bool)):=
 (mkM (x0.Commits.length:Int) (false:Bool)).bind fun a=>
 (gi a x1).bind fun e=>
 (siM a x1 true).bind fun b=>
 jn (fun(f:Int) (c:List Bool)=>
 some c) fun d=>
 zaT x0 d ((x1+1-0).toNat+1) x1 b
def zdl (x0:List Bool)(c:List Int->Int->Option ((List Int))):Nat->List Int->Int->Option ((List Int))
 |0,_,_=>none
 |m+1,b,a=>
 bif decide (a< (x0.length:Int)) then
 (jn (fun(e:List Int)=>
 zdl x0 c m e (w64 (a+1))) fun d=>
 (gi x0 a).bind fun f=>
 bif f then
 ((apM b [a]).bind fun g=>
 d g)
 else
 (d b))
 else
 (c b a)
def zbL (x0:List Bool):Option ((List Int)):=
 jn (fun(a:List Int) (c:Int)=>
 some a) fun b=>
 zdl x0 b (((x0.length:Int)-0).toNat+1) ([]:List Int) 0
end Go.Vm
