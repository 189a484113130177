/- Models of the functions: plain Lean, printed by a program of ours. Conditions: none. -/
import Derived.Test.YtpijdodljeieaaaGreatDoorBLw
import Derived.Test.YtpijdodljeieaaaGreatDoorBM0
import Derived.Test.YtpijdodljeieaaaGreatDoorBM1
import Derived.Test.YtpijdodljeieaaaGreatDoorBM4
import Derived.Test.YtpijdodljeieaaaGreatDoorBM6
import Derived.Test.YtpijdodljeieaaaGreatDoorBM8
import Derived.Test.YtpijdodljeieaaaGreatDoorBM9
import Derived.Test.YtpijdodljeieaaaGreatDoorBM12
namespace Go.Vm
open Go Go.Sx
set_option linter.unusedVariables false
set_option linter.unusedSimpArgs false
def zkr (x0:Vm.Repo):Option ((List Int)):=
 (Vm.zde x0).bind fun a=>
 bif(!a) then
 (some ([]:List Int))
 else
 ((Vm.zgy x0).bind fun b=>
 (Vm.zdf b).bind fun c=>
 some c)
def zfT (c:Vm.Repo)(d:Vm.Repo)(b:(List Int))(e:(List Int))(g:Bool->Int->Option (Bool)):Nat->Bool->Int->Option (Bool)
 |0,_,_=>none
 |m+1,h,a=>
 bif decide (a< (b.length:Int)) then
 (jn (fun(i:Bool)=>
 bif i then
 (some false)
 else
 (zfT c d b e g m h (w64 (a+1)))) fun f=>
 (gi b a).bind fun j=>
 (gi c.Commits j).bind fun k=>
 (gi e a).bind fun l=>
 (gi d.Commits l).bind fun n=>
 bif(k.Who !=n.Who) then
 (f true)
 else
 ((gi b a).bind fun o=>
 (gi c.Commits o).bind fun p=>
 (gi e a).bind fun q=>
 (gi d.Commits q).bind fun r=>
 (Vm.zem p.Tree r.Tree).bind fun s=>
 bif(!s) then
 (f true)
 else
 ((gi b a).bind fun t=>
 (gi c.Commits t).bind fun u=>
 (gi e a).bind fun v=>
 (gi d.Commits v).bind fun w=>
 f ((u.Parents.length:Int) !=(w.Parents.length:Int)))))
 else
 (g h a)
def zdN (a:Vm.Repo)(b:Vm.Repo)(f:Bool->Int->Option (Bool)):Nat->Bool->Int->Option (Bool)
 |0,_,_=>none
 |m+1,g,c=>
 bif decide (c< (a.Heads.length:Int)) then
 ((gi a.Heads c).bind fun h=>
 (gi a.Heads c).bind fun k=>
 (Vm.zge (Vm.Repo.mk a.Commits a.Heads) k.At).bind fun l=>
 (Vm.zgb (Vm.Repo.mk b.Commits b.Heads) h.Name).bind fun n=>
 (Vm.zge (Vm.Repo.mk b.Commits b.Heads) n).bind fun i=>
 (gi a.Heads c).bind fun o=>
 (Vm.zfS (Vm.Repo.mk a.Commits a.Heads) o.At).bind fun d=>
 (Vm.zgb (Vm.Repo.mk b.Commits b.Heads) h.Name).bind fun p=>
 (Vm.zfS (Vm.Repo.mk b.Commits b.Heads) p).bind fun j=>
 jn (fun(q:Bool)=>
 bif q then
 (some false)
 else
 (jn (fun(r:Bool) (u:Int)=>
 zdN a b f m r (w64 (c+1))) fun s=>
 zfT a b d j s (((d.length:Int)-0).toNat+1) g 0)) fun e=>
 bif(!i.2) then
 (e true)
 else
 ((Vm.zem l.1 i.1).bind fun t=>
 bif(!t) then
 (e true)
 else
 (e ((d.length:Int) !=(j.length:Int)))))
 else
 (f g c)
def zjX (x0:List Byte):Option (Bool):=
 bif decide (1048576< (x0.length:Int)) then
 (some true)
 else
 ((Vm.zfQ x0).bind fun a=>
 (Vm.zgd (Vm.Repo.mk a.Commits a.Heads)).bind fun b=>
 jn (fun(h:Bool)=>
 bif h then
 ((Vm.zhg (Vm.Repo.mk a.Commits a.Heads)).bind fun d=>
 (Vm.zgc (Vm.Repo.mk b.Commits b.Heads) (Vm.Repo.mk d.Commits d.Heads)).bind fun i=>
 some i)
 else
 (jn (fun(q:Bool) (r:Int)=>
 jn (fun(j:Bool)=>
 some j) fun c=>
 (Vm.zde (Vm.Repo.mk b.Commits b.Heads)).bind fun k=>
 bif k then
 (bif((b.Heads.length:Int)==(a.Heads.length:Int)) then
 ((Vm.zkr (Vm.Repo.mk a.Commits a.Heads)).bind fun l=>
 bif((b.Commits.length:Int)==(l.length:Int)) then
 ((Vm.zgd (Vm.Repo.mk b.Commits b.Heads)).bind fun e=>
 (Vm.zgc (Vm.Repo.mk e.Commits e.Heads) (Vm.Repo.mk b.Commits b.Heads)).bind fun m=>
 c m)
 else
 (c false))
 else
 (c false))
 else
 (c false)) fun n=>
 zdN a b n (((a.Heads.length:Int)-0).toNat+1) false 0)) fun f=>
 (Vm.zhg (Vm.Repo.mk a.Commits a.Heads)).bind fun g=>
 (Vm.zgc (Vm.Repo.mk b.Commits b.Heads) (Vm.Repo.mk g.Commits g.Heads)).bind fun o=>
 bif(!o) then
 (f true)
 else
 ((Vm.zde (Vm.Repo.mk a.Commits a.Heads)).bind fun p=>
 f (!p)))
end Go.Vm
