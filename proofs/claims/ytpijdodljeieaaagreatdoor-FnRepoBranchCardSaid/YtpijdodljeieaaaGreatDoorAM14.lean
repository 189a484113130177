/- Models of the functions: plain Lean, printed by a program of ours. Conditions: none. -/
import Derived.Test.YtpijdodljeieaaaGreatDoorALw
import Derived.Test.YtpijdodljeieaaaGreatDoorAM0
import Derived.Test.YtpijdodljeieaaaGreatDoorAM1
import Derived.Test.YtpijdodljeieaaaGreatDoorAM3
import Derived.Test.YtpijdodljeieaaaGreatDoorAM5
import Derived.Test.YtpijdodljeieaaaGreatDoorAM9
namespace Go.Vm
open Go Go.Sx
set_option linter.unusedVariables false
set_option linter.unusedSimpArgs false
def zgm (x0:List Byte):Option (Vm.Repo×Str×Int):=
 (Vm.zcu x0).bind fun c=>
 (Vm.zcs c).bind fun a=>
 (Vm.zbg (Vm.l30Rd.mk c.b a.2) ([([110,101,119]:Str),([109,97,105,110]:Str),([111,108,100]:Str),([]:Str)]:List Str)).bind fun d=>
 (Vm.zhZ (Vm.l30Rd.mk c.b d.2) (Vm.Repo.mk a.1.Commits a.1.Heads)).bind fun e=>
 some (Vm.Repo.mk a.1.Commits a.1.Heads,d.1,e.1)
def zif (x0:Vm.Repo)(x1:Str)(x2:Int):Option (Vm.Repo×Bool):=
 (Vm.zct x0).bind fun e=>
 bif(!e) then
 (some (Vm.Repo.mk ([]:List Commit) ([]:List Head),false))
 else
 ((Vm.zgD x0 x1).bind fun f=>
 bif decide (0<=(f:Int)) then
 ((Vm.zdZ x0).bind fun b=>
 some (Vm.Repo.mk b.Commits b.Heads,false))
 else
 ((Vm.zdZ x0).bind fun c=>
 (Vm.zdz (Vm.Repo.mk c.Commits c.Heads) x1 x2).bind fun d=>
 (Vm.zeA x0 (Vm.Repo.mk d.Commits d.Heads)).bind fun a=>
 some (Vm.Repo.mk a.1.Commits a.1.Heads,a.2)))
def zh0 (x0:List Byte):Option (Bool):=
 bif decide (1048576< (x0.length:Int)) then
 (some true)
 else
 ((Vm.zgm x0).bind fun a=>
 (Vm.zif (Vm.Repo.mk a.1.Commits a.1.Heads) a.2.1 a.2.2).bind fun b=>
 (Vm.zbp (Vm.Repo.mk a.1.Commits a.1.Heads) a.2.1 a.2.2).bind fun c=>
 jn (fun(h:Bool)=>
 bif h then
 (jn (fun(i:Bool)=>
 some i) fun g=>
 bif(b.2==c.2) then
 ((Vm.zff (Vm.Repo.mk b.1.Commits b.1.Heads) c.1).bind fun j=>
 g j)
 else
 (g false))
 else
 (bif(!b.2) then
 ((Vm.zff (Vm.Repo.mk b.1.Commits b.1.Heads) (Vm.Repo.mk a.1.Commits a.1.Heads)).bind fun k=>
 some k)
 else
 ((Vm.zhy (Vm.Repo.mk b.1.Commits b.1.Heads) a.2.1).bind fun e=>
 jn (fun(l:Bool)=>
 some l) fun d=>
 (Vm.zct (Vm.Repo.mk b.1.Commits b.1.Heads)).bind fun m=>
 bif m then
 ((Vm.zgo (Vm.Repo.mk b.1.Commits b.1.Heads) a.2.1).bind fun n=>
 bif((n:Int)==(a.2.2:Int)) then
 (bif e.2 then
 ((Vm.zff (Vm.Repo.mk e.1.Commits e.1.Heads) (Vm.Repo.mk a.1.Commits a.1.Heads)).bind fun o=>
 d o)
 else
 (d false))
 else
 (d false))
 else
 (d false)))) fun f=>
 bif(b.2 !=c.2) then
 (f true)
 else
 ((Vm.zff (Vm.Repo.mk b.1.Commits b.1.Heads) c.1).bind fun p=>
 bif(!p) then
 (f true)
 else
 ((Vm.zct (Vm.Repo.mk a.1.Commits a.1.Heads)).bind fun q=>
 f (!q))))
end Go.Vm
