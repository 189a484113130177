/- Models of the functions: plain Lean, printed by a program of ours. Conditions: none. -/
import Derived.Test.YtiahldhbknpmiaaGreatDoorALw
import Derived.Test.YtiahldhbknpmiaaGreatDoorAM0
import Derived.Test.YtiahldhbknpmiaaGreatDoorAM1
import Derived.Test.YtiahldhbknpmiaaGreatDoorAM3
namespace Go.Vm
open Go Go.Sx
set_option linter.unusedVariables false
set_option linter.unusedSimpArgs false
def zfA (x0:Vm.Repo)(x1:Str)(x2:Str)(x3:Int):Option (Vm.Repo×Int):=
 (Vm.zdJ x0).bind fun e=>
 bif(!e) then
 (some (Vm.Repo.mk ([]:List Commit) ([]:List Head),1))
 else
 (jn (fun(f:Bool)=>
 bif f then
 ((Vm.zdr x0).bind fun c=>
 some (Vm.Repo.mk c.Commits c.Heads,1))
 else
 ((Vm.zdr x0).bind fun a=>
 (gi a.Commits x3).bind fun g=>
 (Vm.zcr (Vm.Repo.mk a.Commits a.Heads) x3).bind fun h=>
 (Vm.zds (Vm.Repo.mk a.Commits a.Heads) x1 x2 g.Tree h).bind fun d=>
 some (d.1,d.2))) fun b=>
 (Vm.zd0 x0 x1).bind fun i=>
 bif decide (i< (0:Int)) then
 (b true)
 else
 ((Vm.zcJ x2).bind fun j=>
 bif(!j) then
 (b true)
 else
 ((Vm.zec x3 0 (w64 ((x0.Commits.length:Int)-1))).bind fun k=>
 b (!k))))
def zhB (x0:Vm.Repo)(x1:Str)(x2:Str)(x3:Int):Option (Vm.Repo×Int):=
 (Vm.zdE x0).bind fun b=>
 bif(!b) then
 (some (Vm.Repo.mk ([]:List Commit) ([]:List Head),1))
 else
 ((Vm.zcY x0 x1 x2 x3 true).bind fun a=>
 some (Vm.Repo.mk a.1.Commits a.1.Heads,a.2))
def zfk (x0:Vm.Repo)(x1:Str)(x2:Str)(x3:Int):Option (Bool):=
 bif decide (1048576< (x1.length:Int)) then
 (some true)
 else
 (bif decide (1048576< (x2.length:Int)) then
 (some true)
 else
 ((Vm.ziJ x0 1048576).bind fun n=>
 bif decide (n< (0:Int)) then
 (some true)
 else
 ((Vm.zc1 x0).bind fun g=>
 (Vm.zfA (Vm.Repo.mk g.Commits g.Heads) x1 x2 x3).bind fun b=>
 (Vm.zc1 x0).bind fun c=>
 (Vm.zhB (Vm.Repo.mk c.Commits c.Heads) x1 x2 x3).bind fun a=>
 jn (fun(o:Bool)=>
 bif o then
 (some false)
 else
 ((Vm.zc1 x0).bind fun h=>
 (Vm.zdq (Vm.Repo.mk c.Commits c.Heads) (Vm.Repo.mk h.Commits h.Heads)).bind fun p=>
 bif(!p) then
 (some false)
 else
 ((Vm.zeG (Vm.Repo.mk c.Commits c.Heads) 1).bind fun q=>
 jn (fun(r:Bool)=>
 bif r then
 (some false)
 else
 ((Vm.zeG (Vm.Repo.mk a.1.Commits a.1.Heads) 1).bind fun d=>
 (Vm.zfb (Vm.Repo.mk d.2.Commits d.2.Heads) 1).bind fun i=>
 bif decide (i< (0:Int)) then
 (some false)
 else
 (bif((i:Int) !=(d.1:Int)) then
 (some false)
 else
 ((Vm.zc1 x0).bind fun j=>
 (Vm.zhB (Vm.Repo.mk j.Commits j.Heads) x1 x2 x3).bind fun e=>
 jn (fun(s:Bool)=>
 bif s then
 (some false)
 else
 ((Vm.zfb (Vm.Repo.mk d.2.Commits d.2.Heads) 1).bind fun k=>
 bif decide (k< (0:Int)) then
 (some false)
 else
 (bif((k:Int) !=(d.1:Int)) then
 (some false)
 else
 (some true)))) fun l=>
 (Vm.zdq (Vm.Repo.mk e.1.Commits e.1.Heads) b.1).bind fun t=>
 bif(!t) then
 (l true)
 else
 (l ((e.2:Int) !=(b.2:Int))))))) fun f=>
 bif decide (q.1< (0:Int)) then
 (f true)
 else
 ((Vm.zdq (Vm.Repo.mk a.1.Commits a.1.Heads) b.1).bind fun u=>
 bif(!u) then
 (f true)
 else
 (f ((a.2:Int) !=(b.2:Int))))))) fun m=>
 (Vm.zdq (Vm.Repo.mk a.1.Commits a.1.Heads) b.1).bind fun v=>
 bif(!v) then
 (m true)
 else
 (m ((a.2:Int) !=(b.2:Int))))))
end Go.Vm
