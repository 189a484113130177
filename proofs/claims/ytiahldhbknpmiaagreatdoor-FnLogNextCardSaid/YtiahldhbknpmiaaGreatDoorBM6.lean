/- Models of the functions: plain Lean, printed by a program of ours. Conditions: none. -/
import Derived.Test.YtiahldhbknpmiaaGreatDoorBLw
import Derived.Test.YtiahldhbknpmiaaGreatDoorBM0
import Derived.Test.YtiahldhbknpmiaaGreatDoorBM2
namespace Go.Vm
open Go Go.Sx
set_option linter.unusedVariables false
set_option linter.unusedSimpArgs false
def zgk (x0:Vm.l30Rd)(x1:Vm.Repo)(c:List Int->Int->Int->Option ((List Int)×Int)):Nat->List Int->Int->Int->Option ((List Int)×Int)
 |0,_,_,_=>none
 |m+1,d,a,e=>
 bif decide (0< (a:Int)) then
 ((Vm.zax (Vm.l30Rd.mk x0.b e) (x1.Commits.length:Int)).bind fun f=>
 (apM d [f.1]).bind fun g=>
 zgk x0 x1 c m g (w64 (a-1)) f.2)
 else
 (c d a e)
def zjM (x0:Vm.l30Rd)(x1:Vm.Repo):Option ((List Int)×Int):=
 (Vm.zax x0 4).bind fun a=>
 jn (fun(d:List Int) (h:Int) (e:Int)=>
 (Vm.zax (Vm.l30Rd.mk x0.b e) 14).bind fun c=>
 bif(c.1==0) then
 ((apM d [(-1)]).bind fun f=>
 some (f,c.2))
 else
 (some (d,c.2))) fun g=>
 zgk x0 x1 g ((a.1-0).toNat+1) ([]:List Int) a.1 a.2
def zgQ (x0:List Byte):Option (Vm.Repo×(List Int)×Int):=
 (Vm.zcR x0).bind fun c=>
 (Vm.zcT c).bind fun a=>
 (Vm.zjM (Vm.l30Rd.mk c.b a.2) (Vm.Repo.mk a.1.Commits a.1.Heads)).bind fun d=>
 (Vm.zfV (Vm.l30Rd.mk c.b d.2) (Vm.Repo.mk a.1.Commits a.1.Heads)).bind fun e=>
 some (Vm.Repo.mk a.1.Commits a.1.Heads,d.1,e.1)
def zei (x0:Vm.Repo)(x1:List Int)(x2:Int):Option (Bool):=
 jn (fun(b:Bool)=>
 some b) fun a=>
 (Vm.zfi x0 x1).bind fun c=>
 bif c then
 (bif decide (x1.length<=(16:Int)) then
 ((Vm.za8 x0 x2).bind fun d=>
 a d)
 else
 (a false))
 else
 (a false)
def zeG (b:(List Int))(d:Int->List Bool->Option ((List Int))):Nat->Int->List Bool->Option ((List Int))
 |0,_,_=>none
 |m+1,a,c=>
 bif decide (a< (b.length:Int)) then
 ((gi b a).bind fun e=>
 (gi c e).bind fun g=>
 (siM c e false).bind fun f=>
 zeG b d m (w64 (a+1)) f)
 else
 (d a c)
def zdA (x0:Vm.Repo)(x2:List Int)(b:Int->List Bool->Option ((List Int))):Nat->Int->List Bool->Option ((List Int))
 |0,_,_=>none
 |m+1,a,c=>
 bif decide (a< (x2.length:Int)) then
 ((gi x2 a).bind fun e=>
 (Vm.zbE x0 e).bind fun f=>
 (Vm.zc3 f).bind fun d=>
 jn (fun(i:Int) (g:List Bool)=>
 zdA x0 x2 b m (w64 (a+1)) g) fun h=>
 zeG d h (((d.length:Int)-0).toNat+1) 0 c)
 else
 (b a c)
def zgR (x0:Vm.Repo)(x1:Int)(x2:List Int):Option ((List Int)):=
 (Vm.zbE x0 x1).bind fun a=>
 jn (fun(e:Int) (b:List Bool)=>
 (Vm.zc3 b).bind fun c=>
 some c) fun d=>
 zdA x0 x2 d (((x2.length:Int)-0).toNat+1) 0 a
def zgW (x0:Vm.Repo)(x1:List Int)(x2:Int):Option ((List Int)):=
 (Vm.zei x0 x1 x2).bind fun a=>
 bif(!a) then
 (some ([]:List Int))
 else
 ((Vm.zgR x0 x2 x1).bind fun b=>
 some b)
def zgV (x0:Vm.Repo)(x1:List Int)(b:Bool->Int->Option (Bool)):Nat->Bool->Int->Option (Bool)
 |0,_,_=>none
 |m+1,c,a=>
 bif decide (a< (x1.length:Int)) then
 ((gi x1 a).bind fun d=>
 (Vm.zfe d 0 (w64 ((x0.Commits.length:Int)-1))).bind fun e=>
 bif(!e) then
 (some false)
 else
 (zgV x0 x1 b m c (w64 (a+1))))
 else
 (b c a)
def zkJ (x0:Vm.Repo)(x1:List Int):Option (Bool):=
 jn (fun(b:Bool) (c:Int)=>
 some (decide (x1.length<=(16:Int)))) fun a=>
 zgV x0 x1 a (((x1.length:Int)-0).toNat+1) false 0
def zev (x0:Vm.Repo)(x1:List Int)(b:(List Int))(c:Int)(d:Bool->Int->Option ((List Int))):Nat->Bool->Int->Option ((List Int))
 |0,_,_=>none
 |m+1,e,a=>
 bif decide (a< (x1.length:Int)) then
 (bif e then
 ((gi x1 a).bind fun f=>
 (gi b c).bind fun g=>
 (Vm.ze1 x0 f).bind fun h=>
 (Vm.zfU h g).bind fun i=>
 zev x0 x1 b c d m (!i) (w64 (a+1)))
 else
 (zev x0 x1 b c d m false (w64 (a+1))))
 else
 (d e a)
def zgl (x0:Vm.Repo)(x1:List Int)(b:(List Int))(d:List Int->Int->Option ((List Int))):Nat->List Int->Int->Option ((List Int))
 |0,_,_=>none
 |m+1,c,a=>
 bif decide (a< (b.length:Int)) then
 (jn (fun(f:List Int)=>
 zgl x0 x1 b d m f (w64 (a+1))) fun e=>
 jn (fun(g:Bool) (k:Int)=>
 bif g then
 ((gi b a).bind fun h=>
 (apM c [h]).bind fun i=>
 e i)
 else
 (e c)) fun j=>
 zev x0 x1 b a j (((x1.length:Int)-0).toNat+1) true 0)
 else
 (d c a)
def ziV (x0:Vm.Repo)(x1:List Int)(x2:Int):Option ((List Int)):=
 (Vm.ze1 x0 x2).bind fun a=>
 jn (fun(b:List Int) (d:Int)=>
 some b) fun c=>
 zgl x0 x1 a c (((a.length:Int)-0).toNat+1) ([]:List Int) 0
def ziW (x0:Vm.Repo)(x1:List Int)(x2:Int):Option ((List Int)):=
 jn (fun(b:Bool)=>
 bif b then
 (some ([]:List Int))
 else
 ((Vm.ziV x0 x1 x2).bind fun c=>
 some c)) fun a=>
 (Vm.zcS x0).bind fun d=>
 bif(!d) then
 (a true)
 else
 ((Vm.zfe x2 0 (w64 ((x0.Commits.length:Int)-1))).bind fun e=>
 bif(!e) then
 (a true)
 else
 ((Vm.zkJ x0 x1).bind fun f=>
 a (!f)))
def ziq (x0:List Int)(x1:Int)(b:Bool->Int->Option (Bool)):Nat->Bool->Int->Option (Bool)
 |0,_,_=>none
 |m+1,c,a=>
 bif decide (a< (x0.length:Int)) then
 ((gi x0 a).bind fun d=>
 bif((d:Int)==(x1:Int)) then
 (some true)
 else
 (ziq x0 x1 b m c (w64 (a+1))))
 else
 (b c a)
def zlt (x0:List Int)(x1:Int):Option (Bool):=
 jn (fun(b:Bool) (c:Int)=>
 some false) fun a=>
 ziq x0 x1 a (((x0.length:Int)-0).toNat+1) false 0
end Go.Vm
