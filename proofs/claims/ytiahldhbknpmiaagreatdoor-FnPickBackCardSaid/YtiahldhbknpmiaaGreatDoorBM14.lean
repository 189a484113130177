/- Models of the functions: plain Lean, printed by a program of ours. Conditions: none. -/
import Derived.Test.YtiahldhbknpmiaaGreatDoorBLw
import Derived.Test.YtiahldhbknpmiaaGreatDoorBM0
import Derived.Test.YtiahldhbknpmiaaGreatDoorBM2
import Derived.Test.YtiahldhbknpmiaaGreatDoorBM3
import Derived.Test.YtiahldhbknpmiaaGreatDoorBM7
namespace Go.Vm
open Go Go.Sx
set_option linter.unusedVariables false
set_option linter.unusedSimpArgs false
def zjK (x0:List Byte):Option (Vm.Repo×Int×Int):=
 (Vm.zcR x0).bind fun c=>
 (Vm.zcT c).bind fun a=>
 (Vm.zfV (Vm.l30Rd.mk c.b a.2) (Vm.Repo.mk a.1.Commits a.1.Heads)).bind fun d=>
 (Vm.zfV (Vm.l30Rd.mk c.b d.2) (Vm.Repo.mk a.1.Commits a.1.Heads)).bind fun e=>
 some (Vm.Repo.mk a.1.Commits a.1.Heads,d.1,e.1)
def zhT (x0:List Byte):Option (Vm.Repo×Int×Int):=
 (Vm.zjK x0).bind fun a=>
 some (Vm.Repo.mk a.1.Commits a.1.Heads,a.2.1,a.2.2)
def zfh (x0:List Bool):Option ((List Bool)):=
 if x0.length<=lim then some x0 else none
def zgr (e:Int)(c:(List Int))(f:Int->List Bool->Option ((List Int))):Nat->Int->List Bool->Option ((List Int))
 |0,_,_=>none
 |m+1,a,b=>
 bif decide (a< (c.length:Int)) then
 (jn (fun(h:List Bool)=>
 zgr e c f m (w64 (a+1)) h) fun g=>
 (gi c a).bind fun d=>
 bif((d:Int) !=(e:Int)) then
 ((gi b d).bind fun j=>
 (siM b d false).bind fun i=>
 g i)
 else
 (g b))
 else
 (f a b)
def zea (x0:Vm.Repo)(b:(List Int))(c:Int->List Bool->Option ((List Int))):Nat->Int->List Bool->Option ((List Int))
 |0,_,_=>none
 |m+1,a,d=>
 bif decide (a< (b.length:Int)) then
 ((gi b a).bind fun e=>
 (Vm.zbE x0 e).bind fun g=>
 (Vm.zc3 g).bind fun f=>
 jn (fun(j:Int) (h:List Bool)=>
 zea x0 b c m (w64 (a+1)) h) fun i=>
 zgr e f i (((f.length:Int)-0).toNat+1) 0 d)
 else
 (c a d)
def zfL (c:(List Bool))(d:(List Bool))(e:List Bool)(f:Int->List Bool->Option ((List Int))):Nat->Int->List Bool->Option ((List Int))
 |0,_,_=>none
 |m+1,a,b=>
 bif decide (a< (e.length:Int)) then
 ((gi c a).bind fun g=>
 bif g then
 ((gi d a).bind fun h=>
 (gi b a).bind fun k=>
 (siM b a h).bind fun i=>
 zfL c d e f m (w64 (a+1)) i)
 else
 ((gi b a).bind fun l=>
 (siM b a false).bind fun j=>
 zfL c d e f m (w64 (a+1)) j))
 else
 (f a b)
def zjj (x0:Vm.Repo)(x1:Int)(x2:Int):Option ((List Int)):=
 (Vm.zbE x0 x1).bind fun d=>
 (Vm.zbE x0 x2).bind fun e=>
 (mkM (x0.Commits.length:Int) (false:Bool)).bind fun a=>
 jn (fun(k:Int) (b:List Bool)=>
 (Vm.zfh b).bind fun f=>
 (Vm.zc3 b).bind fun c=>
 jn (fun(l:Int) (g:List Bool)=>
 (Vm.zc3 g).bind fun h=>
 some h) fun i=>
 zea x0 c i (((c.length:Int)-0).toNat+1) 0 f) fun j=>
 zfL d e a j (((a.length:Int)-0).toNat+1) 0 a
def zhU (x0:Vm.Repo)(x1:Int)(x2:Int):Option ((List Vm.File)):=
 (Vm.zjj x0 x1 x2).bind fun a=>
 bif((a.length:Int)==0) then
 (some ([]:List File))
 else
 ((gi a (w64 ((a.length:Int)-1))).bind fun b=>
 (Vm.zaN x0 b).bind fun c=>
 some c)
def zjd (x0:Vm.Repo)(x1:Int)(x2:Int):Option ((List Vm.File)×Bool):=
 (Vm.zfi x0 ([x1,x2]:List Int)).bind fun b=>
 bif(!b) then
 (some (([]:List File),false))
 else
 ((Vm.zhU x0 x1 x2).bind fun c=>
 (Vm.zaN x0 x1).bind fun d=>
 (Vm.zaN x0 x2).bind fun e=>
 (Vm.zd4 c d e).bind fun a=>
 some (a.1,a.2))
def zjL (x0:Vm.Repo)(x1:Int)(x2:Int):Option ((List Vm.File)×Bool):=
 jn (fun(c:Bool)=>
 bif c then
 (some (([]:List File),false))
 else
 ((gi x0.Commits x1).bind fun d=>
 (gi x0.Commits x2).bind fun e=>
 (Vm.zfQ x0 x1 x2).bind fun f=>
 (Vm.zfC f d.Tree e.Tree).bind fun b=>
 bif decide (0< (b.2.length:Int)) then
 (some (([]:List File),false))
 else
 ((Vm.zdV b.1).bind fun g=>
 some (g,true)))) fun a=>
 (Vm.zcS x0).bind fun h=>
 bif(!h) then
 (a true)
 else
 ((Vm.zfe x1 0 (w64 ((x0.Commits.length:Int)-1))).bind fun i=>
 bif(!i) then
 (a true)
 else
 ((Vm.zfe x2 0 (w64 ((x0.Commits.length:Int)-1))).bind fun j=>
 a (!j)))
def zjt (x0:List Byte):Option (Bool):=
 bif decide (1048576< (x0.length:Int)) then
 (some true)
 else
 ((Vm.zhT x0).bind fun a=>
 (Vm.zjd (Vm.Repo.mk a.1.Commits a.1.Heads) a.2.1 a.2.2).bind fun b=>
 (Vm.zjL (Vm.Repo.mk a.1.Commits a.1.Heads) a.2.1 a.2.2).bind fun e=>
 jn (fun(h:Bool)=>
 bif h then
 (jn (fun(i:Bool)=>
 some i) fun f=>
 bif(b.2==e.2) then
 ((Vm.zfG b.1 e.1).bind fun j=>
 f j)
 else
 (f false))
 else
 ((Vm.zjd (Vm.Repo.mk a.1.Commits a.1.Heads) a.2.2 a.2.1).bind fun g=>
 (Vm.zfk (Vm.Repo.mk a.1.Commits a.1.Heads) a.2.2).bind fun k=>
 jn (fun(l:Bool)=>
 some l) fun d=>
 bif(g.2==b.2) then
 ((Vm.zfG g.1 b.1).bind fun m=>
 bif m then
 ((Vm.zkn (Vm.Repo.mk a.1.Commits a.1.Heads) a.2.1 a.2.2).bind fun n=>
 bif(!n) then
 (d true)
 else
 (bif b.2 then
 ((Vm.zfG b.1 k.1).bind fun o=>
 d o)
 else
 (d false)))
 else
 (d false))
 else
 (d false))) fun c=>
 bif(b.2 !=e.2) then
 (c true)
 else
 ((Vm.zfG b.1 e.1).bind fun p=>
 bif(!p) then
 (c true)
 else
 ((Vm.zdg (Vm.Repo.mk a.1.Commits a.1.Heads)).bind fun q=>
 bif(!q) then
 (c true)
 else
 (bif decide (a.2.1< (0:Int)) then
 (c true)
 else
 (bif decide (a.2.2< (0:Int)) then
 (c true)
 else
 (bif decide (a.1.Commits.length<=(a.2.1:Int)) then
 (c true)
 else
 (c (decide (a.1.Commits.length<=(a.2.2:Int))))))))))
end Go.Vm
