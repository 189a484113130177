/- Models of the functions: plain Lean, printed by a program of ours. Conditions: none. -/
import Derived.Test.YtiahldhbknpmiaaGreatDoorALw
import Derived.Test.YtiahldhbknpmiaaGreatDoorAM0
import Derived.Test.YtiahldhbknpmiaaGreatDoorAM1
import Derived.Test.YtiahldhbknpmiaaGreatDoorAM2
import Derived.Test.YtiahldhbknpmiaaGreatDoorAM4
namespace Go.Vm
open Go Go.Sx
set_option linter.unusedVariables false
set_option linter.unusedSimpArgs false
def zhE (x0:Vm.Repo)(x1:Str)(x2:Str)(x3:Int):Option (Vm.Repo×Int):=
 (Vm.zd0 x0 x1).bind fun a=>
 (Vm.zfu x0 a).bind fun d=>
 (Vm.zgm d x3).bind fun e=>
 bif e then
 (some (x0,2))
 else
 ((Vm.zfu x0 x3).bind fun f=>
 (Vm.zgm f a).bind fun g=>
 bif g then
 ((Vm.zfi x0 x1 x3).bind fun h=>
 some (h,3))
 else
 ((gi x0.Commits a).bind fun i=>
 (gi x0.Commits x3).bind fun j=>
 (Vm.zh1 x0 a x3).bind fun k=>
 (Vm.zfG k i.Tree j.Tree).bind fun b=>
 bif decide (0< (b.2.length:Int)) then
 (some (x0,4))
 else
 ((Vm.zeL x0 x1 (Vm.Commit.mk ([a,x3]:List Int) x2 b.1)).bind fun c=>
 (Vm.zdJ c).bind fun l=>
 bif(!l) then
 (some (x0,5))
 else
 (some (c,0)))))
def ze0 (x0:Vm.Repo)(x1:Str)(x2:Str)(x3:Int):Option (Vm.Repo×Int):=
 (Vm.zdJ x0).bind fun e=>
 bif(!e) then
 (some (Vm.Repo.mk ([]:List Commit) ([]:List Head),1))
 else
 (jn (fun(f:Bool)=>
 bif f then
 ((Vm.zdr x0).bind fun b=>
 some (Vm.Repo.mk b.Commits b.Heads,1))
 else
 ((Vm.zdr x0).bind fun c=>
 (Vm.zhE (Vm.Repo.mk c.Commits c.Heads) x1 x2 x3).bind fun d=>
 some (d.1,d.2))) fun a=>
 (Vm.zd0 x0 x1).bind fun g=>
 bif decide (g< (0:Int)) then
 (a true)
 else
 ((Vm.zcJ x2).bind fun h=>
 bif(!h) then
 (a true)
 else
 ((Vm.zec x3 0 (w64 ((x0.Commits.length:Int)-1))).bind fun i=>
 a (!i))))
def zg1 (x0:Vm.Repo)(x1:Str)(x2:Str)(x3:Int):Option (Vm.Repo×Int):=
 (Vm.zcM x0 x1).bind fun a=>
 jn (fun(l:Bool)=>
 bif l then
 ((Vm.zaP x0).bind fun d=>
 some (Vm.Repo.mk d.Commits d.Heads,1))
 else
 ((Vm.za2 x0 a).bind fun m=>
 (gi m x3).bind fun n=>
 bif n then
 ((Vm.zaP x0).bind fun e=>
 some (Vm.Repo.mk e.Commits e.Heads,2))
 else
 ((Vm.za2 x0 x3).bind fun o=>
 (gi o a).bind fun p=>
 bif p then
 ((Vm.zaP x0).bind fun f=>
 (Vm.za1 (Vm.Repo.mk f.Commits f.Heads) x1 x3).bind fun g=>
 some (Vm.Repo.mk g.Commits g.Heads,3))
 else
 ((Vm.zcX x0 a x3).bind fun q=>
 (Vm.zau x0 a).bind fun r=>
 (Vm.zau x0 x3).bind fun s=>
 (Vm.zcq q r s).bind fun h=>
 bif(!h.2) then
 ((Vm.zaP x0).bind fun i=>
 some (Vm.Repo.mk i.Commits i.Heads,4))
 else
 ((Vm.zaP x0).bind fun j=>
 (Vm.za3 (Vm.Repo.mk j.Commits j.Heads) x1 x2 h.1 ([a,x3]:List Int)).bind fun k=>
 (Vm.zbe x0 (Vm.Repo.mk k.Commits k.Heads)).bind fun b=>
 bif(!b.2) then
 (some (Vm.Repo.mk b.1.Commits b.1.Heads,5))
 else
 (some (Vm.Repo.mk b.1.Commits b.1.Heads,0))))))) fun c=>
 bif decide (a< (0:Int)) then
 (c true)
 else
 ((Vm.zcL x2).bind fun t=>
 bif(!t) then
 (c true)
 else
 ((Vm.zbl x0 x3).bind fun u=>
 c (!u)))
def zgK (x0:Vm.Repo)(x1:Str)(x2:Str)(x3:Int):Option (Vm.Repo×Int):=
 (Vm.zdE x0).bind fun b=>
 bif(!b) then
 (some (Vm.Repo.mk ([]:List Commit) ([]:List Head),1))
 else
 ((Vm.zg1 x0 x1 x2 x3).bind fun a=>
 some (Vm.Repo.mk a.1.Commits a.1.Heads,a.2))
def zeV (x0:Vm.Repo)(x1:Str)(x2:Str)(x3:Int):Option (Bool):=
 bif decide (1048576< (x1.length:Int)) then
 (some true)
 else
 (bif decide (1048576< (x2.length:Int)) then
 (some true)
 else
 ((Vm.ziJ x0 1048576).bind fun n=>
 bif decide (n< (0:Int)) then
 (some true)
 else
 ((Vm.zc1 x0).bind fun g=>
 (Vm.ze0 (Vm.Repo.mk g.Commits g.Heads) x1 x2 x3).bind fun b=>
 (Vm.zc1 x0).bind fun c=>
 (Vm.zgK (Vm.Repo.mk c.Commits c.Heads) x1 x2 x3).bind fun a=>
 jn (fun(o:Bool)=>
 bif o then
 (some false)
 else
 ((Vm.zc1 x0).bind fun h=>
 (Vm.zdq (Vm.Repo.mk c.Commits c.Heads) (Vm.Repo.mk h.Commits h.Heads)).bind fun p=>
 bif(!p) then
 (some false)
 else
 ((Vm.zeG (Vm.Repo.mk c.Commits c.Heads) 1).bind fun q=>
 jn (fun(r:Bool)=>
 bif r then
 (some false)
 else
 ((Vm.zeG (Vm.Repo.mk a.1.Commits a.1.Heads) 1).bind fun d=>
 (Vm.zfb (Vm.Repo.mk d.2.Commits d.2.Heads) 1).bind fun i=>
 bif decide (i< (0:Int)) then
 (some false)
 else
 (bif((i:Int) !=(d.1:Int)) then
 (some false)
 else
 ((Vm.zc1 x0).bind fun j=>
 (Vm.zgK (Vm.Repo.mk j.Commits j.Heads) x1 x2 x3).bind fun e=>
 jn (fun(s:Bool)=>
 bif s then
 (some false)
 else
 ((Vm.zfb (Vm.Repo.mk d.2.Commits d.2.Heads) 1).bind fun k=>
 bif decide (k< (0:Int)) then
 (some false)
 else
 (bif((k:Int) !=(d.1:Int)) then
 (some false)
 else
 (some true)))) fun l=>
 (Vm.zdq (Vm.Repo.mk e.1.Commits e.1.Heads) b.1).bind fun t=>
 bif(!t) then
 (l true)
 else
 (l ((e.2:Int) !=(b.2:Int))))))) fun f=>
 bif decide (q.1< (0:Int)) then
 (f true)
 else
 ((Vm.zdq (Vm.Repo.mk a.1.Commits a.1.Heads) b.1).bind fun u=>
 bif(!u) then
 (f true)
 else
 (f ((a.2:Int) !=(b.2:Int))))))) fun m=>
 (Vm.zdq (Vm.Repo.mk a.1.Commits a.1.Heads) b.1).bind fun v=>
 bif(!v) then
 (m true)
 else
 (m ((a.2:Int) !=(b.2:Int))))))
end Go.Vm
