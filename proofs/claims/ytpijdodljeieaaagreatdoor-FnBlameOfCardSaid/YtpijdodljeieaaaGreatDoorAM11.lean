/- Models of the functions: plain Lean, printed by a program of ours. Conditions: none. -/
import Derived.Test.YtpijdodljeieaaaGreatDoorALw
import Derived.Test.YtpijdodljeieaaaGreatDoorAM0
import Derived.Test.YtpijdodljeieaaaGreatDoorAM4
import Derived.Test.YtpijdodljeieaaaGreatDoorAM7
import Derived.Test.YtpijdodljeieaaaGreatDoorAM8
namespace Go.Vm
open Go Go.Sx
set_option linter.unusedVariables false
set_option linter.unusedSimpArgs false
def ziE (x0:List Str)(x1:List Str):Option ((List Int)):=
 jn (fun(b:Bool)=>
 bif b then
 (some ([]:List Int))
 else
 ((Vm.zfQ x0 x1).bind fun c=>
 some c)) fun a=>
 (Vm.zfc x0).bind fun d=>
 bif(!d) then
 (a true)
 else
 ((Vm.zfc x1).bind fun e=>
 a (!e))
def zev (c:Vm.Repo×Int×Str)(b:(List Int))(d:(List Int))(e:Bool->Int->Option (Bool)):Nat->Bool->Int->Option (Bool)
 |0,_,_=>none
 |m+1,f,a=>
 bif decide (a< (b.length:Int)) then
 ((gi b a).bind fun g=>
 (Vm.zkj d a).bind fun h=>
 bif(((g:Int)==(c.2.1:Int))==h) then
 (some false)
 else
 (zev c b d e m f (w64 (a+1))))
 else
 (e f a)
def zew (c:Vm.Repo×Int×Str)(b:(List Int))(e:(List Str)×Bool)(f:(List Int))(g:Bool->Int->Option (Bool)):Nat->Bool->Int->Option (Bool)
 |0,_,_=>none
 |m+1,h,a=>
 bif decide (a< (b.length:Int)) then
 ((gi b a).bind fun j=>
 (gi c.1.Commits j).bind fun k=>
 (Vm.zgE k.Tree c.2.2).bind fun i=>
 jn (fun(l:Bool)=>
 bif l then
 (some false)
 else
 (zew c b e f g m h (w64 (a+1)))) fun d=>
 (gi b a).bind fun n=>
 (Vm.zkj f n).bind fun o=>
 bif(!o) then
 (d true)
 else
 (bif(!i.2) then
 (d true)
 else
 ((gi e.1 a).bind fun p=>
 (Vm.ziT i.1 p).bind fun q=>
 d (!q))))
 else
 (g h a)
def zju (x0:List Byte):Option (Bool):=
 bif decide (1048576< (x0.length:Int)) then
 (some true)
 else
 ((Vm.zea x0).bind fun a=>
 (Vm.zgp (Vm.Repo.mk a.1.Commits a.1.Heads) a.2.1 a.2.2).bind fun b=>
 jn (fun(h:Bool)=>
 bif h then
 ((Vm.zfT (Vm.Repo.mk a.1.Commits a.1.Heads) a.2.1 a.2.2).bind fun i=>
 (Vm.zdy b i).bind fun j=>
 some j)
 else
 ((gi a.1.Commits a.2.1).bind fun k=>
 (Vm.zgE k.Tree a.2.2).bind fun c=>
 (Vm.zik (Vm.Repo.mk a.1.Commits a.1.Heads) a.2.1).bind fun d=>
 jn (fun(l:Bool) (x:Int)=>
 bif decide (d.length< (2:Int)) then
 (jn (fun(m:Bool)=>
 some m) fun e=>
 bif c.2 then
 (bif((b.length:Int)==(c.1.length:Int)) then
 ((gi b 0).bind fun n=>
 e ((n:Int)==(a.2.1:Int)))
 else
 (e false))
 else
 (e false))
 else
 ((gi d 1).bind fun o=>
 (gi a.1.Commits o).bind fun p=>
 (Vm.zgE p.Tree a.2.2).bind fun q=>
 (Vm.ziE q.1 c.1).bind fun r=>
 jn (fun(y:Bool) (z:Int)=>
 jn (fun(s:Bool)=>
 some s) fun f=>
 bif c.2 then
 (f ((b.length:Int)==(c.1.length:Int)))
 else
 (f false)) fun t=>
 zev a b r t (((b.length:Int)-0).toNat+1) l 0)) fun u=>
 zew a b c d u (((b.length:Int)-0).toNat+1) false 0)) fun g=>
 (Vm.zfT (Vm.Repo.mk a.1.Commits a.1.Heads) a.2.1 a.2.2).bind fun v=>
 (Vm.zdy b v).bind fun w=>
 bif(!w) then
 (g true)
 else
 (g ((b.length:Int)==0)))
end Go.Vm
