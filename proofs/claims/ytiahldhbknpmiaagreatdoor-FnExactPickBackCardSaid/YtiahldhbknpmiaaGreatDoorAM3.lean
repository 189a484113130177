/- Models of the functions: plain Lean, printed by a program of ours. Conditions: none. -/
import Derived.Test.YtiahldhbknpmiaaGreatDoorALw
import Derived.Test.YtiahldhbknpmiaaGreatDoorAM0
import Derived.Test.YtiahldhbknpmiaaGreatDoorAM1
namespace Go.Vm
open Go Go.Sx
set_option linter.unusedVariables false
set_option linter.unusedSimpArgs false
def zcr (x0:Vm.Repo)(x1:Int):Option ((List Vm.File)):=
 (gi x0.Commits x1).bind fun a=>
 bif((a.Parents.length:Int)==0) then
 (some ([]:List File))
 else
 ((gi x0.Commits x1).bind fun b=>
 (gi b.Parents 0).bind fun c=>
 (gi x0.Commits c).bind fun d=>
 some d.Tree)
def zds (x0:Vm.Repo)(x1:Str)(x2:Str)(x3:List Vm.File)(x4:List Vm.File):Option (Vm.Repo×Int):=
 (Vm.zd0 x0 x1).bind fun a=>
 (gi x0.Commits a).bind fun d=>
 (Vm.zfG x3 d.Tree x4).bind fun b=>
 bif decide (0< (b.2.length:Int)) then
 (some (x0,4))
 else
 ((Vm.zeL x0 x1 (Vm.Commit.mk ([a]:List Int) x2 b.1)).bind fun c=>
 (Vm.zdJ c).bind fun e=>
 bif(!e) then
 (some (x0,5))
 else
 (some (c,0)))
def zb5 (x0:Vm.Repo)(x1:Int):Option (Int):=
 (gi x0.Commits x1).bind fun a=>
 bif((a.Parents.length:Int)==0) then
 (some (-1))
 else
 ((gi x0.Commits x1).bind fun b=>
 (gi b.Parents 0).bind fun c=>
 some c)
def zba (x0:Vm.Repo)(x1:Str)(x2:Str)(x3:List Vm.File)(x4:List Vm.File):Option (Vm.Repo×Int):=
 (Vm.zcM x0 x1).bind fun b=>
 (Vm.zau x0 b).bind fun g=>
 (Vm.zcq x3 g x4).bind fun c=>
 bif(!c.2) then
 ((Vm.zaP x0).bind fun d=>
 some (Vm.Repo.mk d.Commits d.Heads,4))
 else
 ((Vm.zaP x0).bind fun e=>
 (Vm.za3 (Vm.Repo.mk e.Commits e.Heads) x1 x2 c.1 ([b]:List Int)).bind fun f=>
 (Vm.zbe x0 (Vm.Repo.mk f.Commits f.Heads)).bind fun a=>
 bif(!a.2) then
 (some (Vm.Repo.mk a.1.Commits a.1.Heads,5))
 else
 (some (Vm.Repo.mk a.1.Commits a.1.Heads,0)))
def zcY (x0:Vm.Repo)(x1:Str)(x2:Str)(x3:Int)(x4:Bool):Option (Vm.Repo×Int):=
 jn (fun(g:Bool)=>
 bif g then
 ((Vm.zaP x0).bind fun c=>
 some (Vm.Repo.mk c.Commits c.Heads,1))
 else
 ((Vm.zb5 x0 x3).bind fun h=>
 (Vm.zau x0 h).bind fun d=>
 (Vm.zau x0 x3).bind fun e=>
 jn (fun(i:List Vm.File) (j:List Vm.File)=>
 (Vm.zba x0 x1 x2 i j).bind fun a=>
 some (Vm.Repo.mk a.1.Commits a.1.Heads,a.2)) fun f=>
 bif x4 then
 (f e d)
 else
 (f d e))) fun b=>
 (Vm.zcM x0 x1).bind fun k=>
 bif decide (k< (0:Int)) then
 (b true)
 else
 ((Vm.zcL x2).bind fun l=>
 bif(!l) then
 (b true)
 else
 ((Vm.zbl x0 x3).bind fun m=>
 b (!m)))
end Go.Vm
