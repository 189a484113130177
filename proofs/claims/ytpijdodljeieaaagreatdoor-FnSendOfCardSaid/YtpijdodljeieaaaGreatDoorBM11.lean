/- Models of the functions: plain Lean, printed by a program of ours. Conditions: none. -/
import Derived.Test.YtpijdodljeieaaaGreatDoorBLw
import Derived.Test.YtpijdodljeieaaaGreatDoorBM0
import Derived.Test.YtpijdodljeieaaaGreatDoorBM5
namespace Go.Vm
open Go Go.Sx
set_option linter.unusedVariables false
set_option linter.unusedSimpArgs false
def zgu (x0:Vm.Repo)(x1:List Int)(b:Bool->Int->Option (Bool)):Nat->Bool->Int->Option (Bool)
 |0,_,_=>none
 |m+1,c,a=>
 bif decide (a< (x1.length:Int)) then
 ((gi x1 a).bind fun d=>
 (Vm.zex d 0 (w64 ((x0.Commits.length:Int)-1))).bind fun e=>
 bif(!e) then
 (some false)
 else
 (zgu x0 x1 b m c (w64 (a+1))))
 else
 (b c a)
def zhj (x0:Vm.Repo)(x1:List Int):Option (Bool):=
 jn (fun(b:Bool) (c:Int)=>
 some (decide (x1.length<=(16:Int)))) fun a=>
 zgu x0 x1 a (((x1.length:Int)-0).toNat+1) false 0
def zd7 (x0:Vm.Repo)(x1:List Int)(b:(List Int))(c:Int)(d:Bool->Int->Option ((List Int))):Nat->Bool->Int->Option ((List Int))
 |0,_,_=>none
 |m+1,e,a=>
 bif decide (a< (x1.length:Int)) then
 (bif e then
 ((gi x1 a).bind fun f=>
 (gi b c).bind fun g=>
 (Vm.zef x0 f).bind fun h=>
 (Vm.zf3 h g).bind fun i=>
 zd7 x0 x1 b c d m (!i) (w64 (a+1)))
 else
 (zd7 x0 x1 b c d m false (w64 (a+1))))
 else
 (d e a)
def zfP (x0:Vm.Repo)(x1:List Int)(b:(List Int))(d:List Int->Int->Option ((List Int))):Nat->List Int->Int->Option ((List Int))
 |0,_,_=>none
 |m+1,c,a=>
 bif decide (a< (b.length:Int)) then
 (jn (fun(f:List Int)=>
 zfP x0 x1 b d m f (w64 (a+1))) fun e=>
 jn (fun(g:Bool) (k:Int)=>
 bif g then
 ((gi b a).bind fun h=>
 (apM c [h]).bind fun i=>
 e i)
 else
 (e c)) fun j=>
 zd7 x0 x1 b a j (((x1.length:Int)-0).toNat+1) true 0)
 else
 (d c a)
def zjo (x0:Vm.Repo)(x1:List Int)(x2:Int):Option ((List Int)):=
 (Vm.zef x0 x2).bind fun a=>
 jn (fun(b:List Int) (d:Int)=>
 some b) fun c=>
 zfP x0 x1 a c (((a.length:Int)-0).toNat+1) ([]:List Int) 0
def zkv (x0:Vm.Repo)(x1:List Int)(x2:Int):Option ((List Int)):=
 (Vm.zjo x0 x1 x2).bind fun a=>
 some a
def zgv (x1:List Int)(g:(List Int))(h:List Vm.Commit->Bool->Int->List Int->Option ((List Vm.Commit)×Bool)):Nat->List Vm.Commit->Bool->Int->List Int->Option ((List Vm.Commit)×Bool)
 |0,_,_,_,_=>none
 |m+1,c,d,a,b=>
 bif decide (a< (b.length:Int)) then
 (jn (fun(l:List Vm.Commit) (n:Bool) (o:List Int)=>
 zgv x1 g h m l n (w64 (a+1)) o) fun i=>
 (gi b a).bind fun p=>
 (Vm.zfc g p).bind fun e=>
 (gi b a).bind fun q=>
 (Vm.zfc x1 q).bind fun j=>
 jn (fun(r:Bool)=>
 bif r then
 (some (([]:List Commit),false))
 else
 ((gi b a).bind fun t=>
 (siM b a e).bind fun f=>
 bif decide (e< (0:Int)) then
 ((gi f a).bind fun u=>
 (siM f a (w64 ((-1)-j))).bind fun s=>
 i c d s)
 else
 (i c d f))) fun k=>
 bif decide (e< (0:Int)) then
 (k (decide (j< (0:Int))))
 else
 (k false))
 else
 (h c d a b)
def zeS (x0:Vm.Repo)(x1:List Int)(a:(List Int))(d:List Vm.Commit->Bool->List Vm.Commit->Int->Option ((List Vm.Commit)×Bool)):Nat->List Vm.Commit->Bool->List Vm.Commit->Int->Option ((List Vm.Commit)×Bool)
 |0,_,_,_,_=>none
 |m+1,e,f,g,b=>
 bif decide (b< (a.length:Int)) then
 ((gi a b).bind fun h=>
 (gi x0.Commits h).bind fun i=>
 (Vm.zbV i).bind fun c=>
 jn (fun(j:List Vm.Commit) (k:Bool) (p:Int) (l:List Int)=>
 (apM g [Vm.Commit.mk l c.Who c.Tree]).bind fun n=>
 zeS x0 x1 a d m j k n (w64 (b+1))) fun o=>
 zgv x1 a o (((c.Parents.length:Int)-0).toNat+1) e f 0 c.Parents)
 else
 (d e f g b)
def ziH (x0:Vm.Repo)(x1:List Int)(x2:Int):Option ((List Vm.Commit)×Bool):=
 jn (fun(c:Bool)=>
 bif c then
 (some (([]:List Commit),false))
 else
 ((Vm.zkv x0 x1 x2).bind fun b=>
 jn (fun(i:List Vm.Commit) (j:Bool) (d:List Vm.Commit) (k:Int)=>
 some (d,true)) fun e=>
 zeS x0 x1 b e (((b.length:Int)-0).toNat+1) ([]:List Commit) false ([]:List Commit) 0)) fun a=>
 (Vm.zby x0).bind fun f=>
 bif(!f) then
 (a true)
 else
 ((Vm.zhj x0 x1).bind fun g=>
 bif(!g) then
 (a true)
 else
 ((Vm.zex x2 0 (w64 ((x0.Commits.length:Int)-1))).bind fun h=>
 a (!h)))
end Go.Vm
