/- Models of the functions: plain Lean, printed by a program of ours. Conditions: none. -/
import Derived.Test.YtpijdodljeieaaaGreatDoorBLw
import Derived.Test.YtpijdodljeieaaaGreatDoorBM0
import Derived.Test.YtpijdodljeieaaaGreatDoorBM1
import Derived.Test.YtpijdodljeieaaaGreatDoorBM2
namespace Go.Vm
open Go Go.Sx
set_option linter.unusedVariables false
set_option linter.unusedSimpArgs false
def zbI (x0:Vm.Repo)(x1:List Int)(x2:Int):Option (Bool):=
 jn (fun(b:Bool)=>
 some b) fun a=>
 (Vm.zdX x0 x1).bind fun c=>
 bif c then
 (bif decide (x1.length<=(16:Int)) then
 ((Vm.za7 x0 x2).bind fun d=>
 a d)
 else
 (a false))
 else
 (a false)
def zc6 (b:(List Int))(d:Int->List Bool->Option ((List Int))):Nat->Int->List Bool->Option ((List Int))
 |0,_,_=>none
 |m+1,a,c=>
 bif decide (a< (b.length:Int)) then
 ((gi b a).bind fun e=>
 (gi c e).bind fun g=>
 (siM c e false).bind fun f=>
 zc6 b d m (w64 (a+1)) f)
 else
 (d a c)
def zbK (x0:Vm.Repo)(x2:List Int)(b:Int->List Bool->Option ((List Int))):Nat->Int->List Bool->Option ((List Int))
 |0,_,_=>none
 |m+1,a,c=>
 bif decide (a< (x2.length:Int)) then
 ((gi x2 a).bind fun e=>
 (Vm.zbA x0 e).bind fun f=>
 (Vm.zdf f).bind fun d=>
 jn (fun(i:Int) (g:List Bool)=>
 zbK x0 x2 b m (w64 (a+1)) g) fun h=>
 zc6 d h (((d.length:Int)-0).toNat+1) 0 c)
 else
 (b a c)
def zfd (x0:Vm.Repo)(x1:Int)(x2:List Int):Option ((List Int)):=
 (Vm.zbA x0 x1).bind fun a=>
 jn (fun(e:Int) (b:List Bool)=>
 (Vm.zdf b).bind fun c=>
 some c) fun d=>
 zbK x0 x2 d (((x2.length:Int)-0).toNat+1) 0 a
def zbt (x0:List Int)(x1:Int)(b:Int->Int->Option (Int)):Nat->Int->Int->Option (Int)
 |0,_,_=>none
 |m+1,c,a=>
 bif decide (a< (x0.length:Int)) then
 ((gi x0 a).bind fun d=>
 bif((x1:Int)==(d:Int)) then
 (some a)
 else
 (zbt x0 x1 b m c (w64 (a+1))))
 else
 (b c a)
def zdq (x0:List Int)(x1:Int):Option (Int):=
 jn (fun(b:Int) (c:Int)=>
 some (-1)) fun a=>
 zbt x0 x1 a (((x0.length:Int)-0).toNat+1) 0 0
def zeU (x1:List Int)(h:(List Int))(b:Vm.Commit)(i:List Vm.Commit->Bool->Int->List Int->Str->List Vm.File->Option ((List Vm.Commit)×Bool)):Nat->List Vm.Commit->Bool->Int->List Int->Str->List Vm.File->Option ((List Vm.Commit)×Bool)
 |0,_,_,_,_,_,_=>none
 |m+1,c,d,a,e,f,g=>
 bif decide (a< (b.Parents.length:Int)) then
 (jn (fun(o:List Vm.Commit) (p:Bool) (q:List Int) (r:Str) (s:List Vm.File)=>
 zeU x1 h b i m o p (w64 (a+1)) q r s) fun j=>
 (gi b.Parents a).bind fun k=>
 (Vm.zdq h k).bind fun l=>
 (Vm.zdq x1 k).bind fun n=>
 bif decide (0<=(l:Int)) then
 ((apM e [l]).bind fun t=>
 j c d t f g)
 else
 (bif decide (0<=(n:Int)) then
 ((apM e [w64 ((-1)-n)]).bind fun u=>
 j c d u f g)
 else
 (some (([]:List Commit),false))))
 else
 (i c d a e f g)
def zdH (x0:Vm.Repo)(x1:List Int)(a:(List Int))(d:List Vm.Commit->Bool->List Vm.Commit->Int->Option ((List Vm.Commit)×Bool)):Nat->List Vm.Commit->Bool->List Vm.Commit->Int->Option ((List Vm.Commit)×Bool)
 |0,_,_,_,_=>none
 |m+1,e,f,g,b=>
 bif decide (b< (a.length:Int)) then
 ((gi a b).bind fun c=>
 (gi x0.Commits c).bind fun i=>
 (Vm.za4 x0 c).bind fun j=>
 (Vm.zeh j).bind fun k=>
 (gi x0.Commits c).bind fun h=>
 jn (fun(l:List Vm.Commit) (n:Bool) (t:Int) (o:List Int) (p:Str) (q:List Vm.File)=>
 (apM g [Vm.Commit.mk o p q]).bind fun r=>
 zdH x0 x1 a d m l n r (w64 (b+1))) fun s=>
 zeU x1 a h s (((h.Parents.length:Int)-0).toNat+1) e f 0 ([]:List Int) i.Who k)
 else
 (d e f g b)
def zie (x0:Vm.Repo)(x1:List Int)(x2:Int):Option ((List Vm.Commit)×Bool):=
 (Vm.zbI x0 x1 x2).bind fun b=>
 bif(!b) then
 (some (([]:List Commit),false))
 else
 ((Vm.zfd x0 x2 x1).bind fun a=>
 jn (fun(e:List Vm.Commit) (f:Bool) (c:List Vm.Commit) (g:Int)=>
 some (c,true)) fun d=>
 zdH x0 x1 a d (((a.length:Int)-0).toNat+1) ([]:List Commit) false ([]:List Commit) 0)
end Go.Vm
