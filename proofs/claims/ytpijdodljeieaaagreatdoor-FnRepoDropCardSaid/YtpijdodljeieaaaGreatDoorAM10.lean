/- Models of the functions: plain Lean, printed by a program of ours. Conditions: none. -/
import Derived.Test.YtpijdodljeieaaaGreatDoorALw
import Derived.Test.YtpijdodljeieaaaGreatDoorAM0
import Derived.Test.YtpijdodljeieaaaGreatDoorAM3
import Derived.Test.YtpijdodljeieaaaGreatDoorAM5
import Derived.Test.YtpijdodljeieaaaGreatDoorAM6
namespace Go.Vm
open Go Go.Sx
set_option linter.unusedVariables false
set_option linter.unusedSimpArgs false
def zie (x0:List Byte):Option (Vm.Repo×Str):=
 (Vm.zcu x0).bind fun c=>
 (Vm.zcs c).bind fun a=>
 (Vm.zbg (Vm.l30Rd.mk c.b a.2) ([([109,97,105,110]:Str),([115,105,100,101]:Str),([110,111,110,101]:Str)]:List Str)).bind fun d=>
 some (Vm.Repo.mk a.1.Commits a.1.Heads,d.1)
def zhj (x0:List Byte):Option (Vm.Repo×Str):=
 (Vm.zie x0).bind fun a=>
 some (Vm.Repo.mk a.1.Commits a.1.Heads,a.2)
def zeu (x0:Vm.Repo)(x1:Str)(d:Int->List Vm.Commit->List Vm.Head->Option (Vm.Repo×Bool)):Nat->Int->List Vm.Commit->List Vm.Head->Option (Vm.Repo×Bool)
 |0,_,_,_=>none
 |m+1,a,b,c=>
 bif decide (a< (x0.Heads.length:Int)) then
 (jn (fun(f:List Vm.Commit) (g:List Vm.Head)=>
 zeu x0 x1 d m (w64 (a+1)) f g) fun e=>
 (gi x0.Heads a).bind fun h=>
 bif(h.Name !=x1) then
 ((gi x0.Heads a).bind fun i=>
 (apM c [i]).bind fun j=>
 e b j)
 else
 (e b c))
 else
 (d a b c)
def zh8 (x0:Vm.Repo)(x1:Str):Option (Vm.Repo×Bool):=
 (Vm.zcr x0).bind fun b=>
 bif(!b) then
 (some (Vm.Repo.mk ([]:List Commit) ([]:List Head),false))
 else
 ((Vm.za9 x0).bind fun c=>
 jn (fun(f:Int) (d:List Vm.Commit) (a:List Vm.Head)=>
 some (Vm.Repo.mk d a,decide (a.length< (x0.Heads.length:Int)))) fun e=>
 zeu x0 x1 e (((x0.Heads.length:Int)-0).toNat+1) 0 c.Commits ([]:List Head))
def zi4 (x0:List Byte):Option (Bool):=
 bif decide (1048576< (x0.length:Int)) then
 (some true)
 else
 ((Vm.zhj x0).bind fun a=>
 (Vm.zhy (Vm.Repo.mk a.1.Commits a.1.Heads) a.2).bind fun b=>
 (Vm.zh8 (Vm.Repo.mk a.1.Commits a.1.Heads) a.2).bind fun c=>
 jn (fun(g:Bool)=>
 bif g then
 (jn (fun(h:Bool)=>
 some h) fun f=>
 bif(b.2==c.2) then
 ((Vm.zff (Vm.Repo.mk b.1.Commits b.1.Heads) (Vm.Repo.mk c.1.Commits c.1.Heads)).bind fun i=>
 f i)
 else
 (f false))
 else
 (jn (fun(j:Bool)=>
 some j) fun d=>
 (Vm.zct (Vm.Repo.mk b.1.Commits b.1.Heads)).bind fun k=>
 bif k then
 ((Vm.zgo (Vm.Repo.mk b.1.Commits b.1.Heads) a.2).bind fun l=>
 bif((l:Int)==((-1):Int)) then
 ((Vm.zgo (Vm.Repo.mk a.1.Commits a.1.Heads) a.2).bind fun m=>
 bif(b.2==(decide (0<=(m:Int)))) then
 ((Vm.zhm (Vm.Repo.mk b.1.Commits b.1.Heads) (Vm.Repo.mk a.1.Commits a.1.Heads)).bind fun n=>
 bif n then
 (d ((b.1.Commits.length:Int)==(a.1.Commits.length:Int)))
 else
 (d false))
 else
 (d false))
 else
 (d false))
 else
 (d false))) fun e=>
 bif(b.2 !=c.2) then
 (e true)
 else
 ((Vm.zff (Vm.Repo.mk b.1.Commits b.1.Heads) (Vm.Repo.mk c.1.Commits c.1.Heads)).bind fun o=>
 bif(!o) then
 (e true)
 else
 ((Vm.zct (Vm.Repo.mk a.1.Commits a.1.Heads)).bind fun p=>
 e (!p))))
end Go.Vm
