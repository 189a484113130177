/- Models of the functions: plain Lean, printed by a program of ours. Conditions: none. -/
import Derived.Test.YtpijdodljeieaaaGreatDoorBLw
import Derived.Test.YtpijdodljeieaaaGreatDoorBM0
import Derived.Test.YtpijdodljeieaaaGreatDoorBM1
import Derived.Test.YtpijdodljeieaaaGreatDoorBM2
namespace Go.Vm
open Go Go.Sx
set_option linter.unusedVariables false
set_option linter.unusedSimpArgs false
def zdr (b:(List Int))(d:Int->List Bool->Option ((List Bool))):Nat->Int->List Bool->Option ((List Bool))
 |0,_,_=>none
 |m+1,a,c=>
 bif decide (a< (b.length:Int)) then
 ((gi b a).bind fun e=>
 (gi c e).bind fun g=>
 (siM c e true).bind fun f=>
 zdr b d m (w64 (a+1)) f)
 else
 (d a c)
def zce (x0:Vm.Repo)(b:Int->List Bool->Option ((List Bool))):Nat->Int->List Bool->Option ((List Bool))
 |0,_,_=>none
 |m+1,a,c=>
 bif decide (a< (x0.Heads.length:Int)) then
 ((gi x0.Heads a).bind fun e=>
 (Vm.zbA x0 e.At).bind fun f=>
 (Vm.zdf f).bind fun d=>
 jn (fun(i:Int) (g:List Bool)=>
 zce x0 b m (w64 (a+1)) g) fun h=>
 zdr d h (((d.length:Int)-0).toNat+1) 0 c)
 else
 (b a c)
def zgy (x0:Vm.Repo):Option ((List Bool)):=
 (mkM (x0.Commits.length:Int) (false:Bool)).bind fun a=>
 jn (fun(d:Int) (b:List Bool)=>
 some b) fun c=>
 zce x0 c (((x0.Heads.length:Int)-0).toNat+1) 0 a
def zcI (c:List Int)(b:Vm.Commit)(d:Int->List Int->Str->List Vm.File->Option (Vm.Repo)):Nat->Int->List Int->Str->List Vm.File->Option (Vm.Repo)
 |0,_,_,_,_=>none
 |m+1,a,e,f,g=>
 bif decide (a< (b.Parents.length:Int)) then
 ((gi b.Parents a).bind fun h=>
 (gi c h).bind fun i=>
 (apM e [i]).bind fun j=>
 zcI c b d m (w64 (a+1)) j f g)
 else
 (d a e f g)
def zbH (x0:Vm.Repo)(b:List Int)(c:Int->List Vm.Commit->List Vm.Head->Option (Vm.Repo)):Nat->Int->List Vm.Commit->List Vm.Head->Option (Vm.Repo)
 |0,_,_,_=>none
 |m+1,a,d,e=>
 bif decide (a< (x0.Heads.length:Int)) then
 ((gi x0.Heads a).bind fun f=>
 (gi b f.At).bind fun g=>
 (apM e [Vm.Head.mk f.Name g]).bind fun h=>
 zbH x0 b c m (w64 (a+1)) d h)
 else
 (c a d e)
def zcJ (x0:Vm.Repo)(c:(List Int))(f:Int->List Vm.Commit->List Vm.Head->List Int->Option (Vm.Repo)):Nat->Int->List Vm.Commit->List Vm.Head->List Int->Option (Vm.Repo)
 |0,_,_,_,_=>none
 |m+1,b,d,g,e=>
 bif decide (b< (c.length:Int)) then
 ((gi c b).bind fun a=>
 (gi e a).bind fun s=>
 (siM e a (d.length:Int)).bind fun h=>
 (gi x0.Commits a).bind fun j=>
 (Vm.za4 x0 a).bind fun k=>
 (Vm.zeh k).bind fun l=>
 (gi x0.Commits a).bind fun i=>
 jn (fun(t:Int) (n:List Int) (o:Str) (p:List Vm.File)=>
 (apM d [Vm.Commit.mk n o p]).bind fun q=>
 zcJ x0 c f m (w64 (b+1)) q g h) fun r=>
 zcI h i r (((i.Parents.length:Int)-0).toNat+1) 0 ([]:List Int) j.Who l)
 else
 (f b d g e)
def zgd (x0:Vm.Repo):Option (Vm.Repo):=
 (Vm.zde x0).bind fun b=>
 bif(!b) then
 (some (Vm.Repo.mk ([]:List Commit) ([]:List Head)))
 else
 ((mkM (x0.Commits.length:Int) (0:Int)).bind fun c=>
 (Vm.zgy x0).bind fun d=>
 (Vm.zdf d).bind fun a=>
 jn (fun(l:Int) (e:List Vm.Commit) (f:List Vm.Head) (g:List Int)=>
 jn (fun(m:Int) (h:List Vm.Commit) (i:List Vm.Head)=>
 some (Vm.Repo.mk h i)) fun j=>
 zbH x0 g j (((x0.Heads.length:Int)-0).toNat+1) 0 e f) fun k=>
 zcJ x0 a k (((a.length:Int)-0).toNat+1) 0 ([]:List Commit) ([]:List Head) c)
def zge (x0:Vm.Repo)(x1:Int):Option ((List Vm.File)×Bool):=
 jn (fun(b:Bool)=>
 bif b then
 (some (([]:List File),false))
 else
 ((Vm.za4 x0 x1).bind fun c=>
 (Vm.zeh c).bind fun d=>
 some (d,true))) fun a=>
 (Vm.zde x0).bind fun e=>
 bif(!e) then
 (a true)
 else
 ((Vm.za7 x0 x1).bind fun f=>
 a (!f))
end Go.Vm
