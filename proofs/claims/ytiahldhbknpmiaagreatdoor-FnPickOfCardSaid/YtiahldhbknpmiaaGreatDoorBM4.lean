/- Models of the functions: plain Lean, printed by a program of ours. Conditions: none. -/
import Derived.Test.YtiahldhbknpmiaaGreatDoorBLw
import Derived.Test.YtiahldhbknpmiaaGreatDoorBM0
import Derived.Test.YtiahldhbknpmiaaGreatDoorBM1
import Derived.Test.YtiahldhbknpmiaaGreatDoorBM3
namespace Go.Vm
open Go Go.Sx
set_option linter.unusedVariables false
set_option linter.unusedSimpArgs false
def zeF (x0:List Byte):Option (Vm.Repo×Str×Str×Int):=
 (Vm.zcR x0).bind fun c=>
 (Vm.zcT c).bind fun a=>
 (Vm.zcw (Vm.l30Rd.mk c.b a.2) ([([109,97,105,110]:Str),([115,105,100,101]:Str),([100,101,118]:Str),([110,111,110,101]:Str)]:List Str)).bind fun d=>
 (Vm.zcw (Vm.l30Rd.mk c.b d.2) ([([97,110,110]:Str),([97,110,110]:Str),([]:Str)]:List Str)).bind fun e=>
 (Vm.zfV (Vm.l30Rd.mk c.b e.2) (Vm.Repo.mk a.1.Commits a.1.Heads)).bind fun f=>
 some (Vm.Repo.mk a.1.Commits a.1.Heads,d.1,e.1,f.1)
def zeL (x0:Vm.Repo)(x1:Str)(b:Int->Int->Option (Int)):Nat->Int->Int->Option (Int)
 |0,_,_=>none
 |m+1,c,a=>
 bif decide (a< (x0.Heads.length:Int)) then
 ((gi x0.Heads a).bind fun d=>
 bif(d.Name==x1) then
 (some d.At)
 else
 (zeL x0 x1 b m c (w64 (a+1))))
 else
 (b c a)
def zhX (x0:Vm.Repo)(x1:Str):Option (Int):=
 jn (fun(b:Int) (c:Int)=>
 some (-1)) fun a=>
 zeL x0 x1 a (((x0.Heads.length:Int)-0).toNat+1) 0 0
def zeh (x0:Vm.Repo)(c:Int->List Vm.Commit->List Vm.Head->Option (Vm.Repo)):Nat->Int->List Vm.Commit->List Vm.Head->Option (Vm.Repo)
 |0,_,_,_=>none
 |m+1,a,d,e=>
 bif decide (a< (x0.Commits.length:Int)) then
 ((gi x0.Commits a).bind fun b=>
 (apM ([]:List Int) b.Parents).bind fun f=>
 (Vm.zc4 b.Tree).bind fun g=>
 (apM d [Vm.Commit.mk f b.Who g]).bind fun h=>
 zeh x0 c m (w64 (a+1)) h e)
 else
 (c a d e)
def zc5 (x0:Vm.Repo):Option (Vm.Repo):=
 (apM ([]:List Head) x0.Heads).bind fun a=>
 jn (fun(e:Int) (b:List Vm.Commit) (c:List Vm.Head)=>
 some (Vm.Repo.mk b c)) fun d=>
 zeh x0 d (((x0.Commits.length:Int)-0).toNat+1) 0 ([]:List Commit) a
def zdH (x0:Vm.Repo)(x1:Int):Option (Int):=
 (gi x0.Commits x1).bind fun a=>
 bif((a.Parents.length:Int)==0) then
 (some (-1))
 else
 ((gi x0.Commits x1).bind fun b=>
 (gi b.Parents 0).bind fun c=>
 some c)
def zbD (x0:List Vm.Head)(x1:Int)(x2:Vm.Head):Option ((List Vm.Head)):=
 if 0<=x1/\x1<=x0.length/\x0.length+1<=lim then some (x0.take x1.toNat++[x2]++x0.drop x1.toNat) else none
def ze4 (x0:List Vm.Head)(x1:Vm.Head)(b:Int->Option ((List Vm.Head))):Nat->Int->Option ((List Vm.Head))
 |0,_=>none
 |m+1,a=>
 jn (fun(e:Bool)=>
 bif e then
 (ze4 x0 x1 b m (w64 (a-1)))
 else
 (b a)) fun c=>
 bif decide (0< (a:Int)) then
 ((gi x0 (w64 (a-1))).bind fun d=>
 c (!(Op.bytesLess d.Name x1.Name||d.Name==x1.Name)))
 else
 (c false)
def zgP (x0:List Vm.Head)(x1:Vm.Head):Option ((List Vm.Head)):=
 jn (fun(a:Int)=>
 (apM ([]:List Head) x0).bind fun b=>
 (Vm.zbD b a x1).bind fun c=>
 some c) fun d=>
 ze4 x0 x1 d (x0.length+1) (x0.length:Int)
def zbu (x0:Vm.Repo)(x1:Str)(x2:Int)(c:Int->List Vm.Commit->List Vm.Head->List Vm.Head->Option (Vm.Repo)):Nat->Int->List Vm.Commit->List Vm.Head->List Vm.Head->Option (Vm.Repo)
 |0,_,_,_,_=>none
 |m+1,a,d,e,b=>
 bif decide (a< (x0.Heads.length:Int)) then
 ((gi b a).bind fun f=>
 bif(f.Name==x1) then
 ((gi b a).bind fun g=>
 (siM b a (Vm.Head.mk g.Name x2)).bind fun h=>
 some (Vm.Repo.mk x0.Commits h))
 else
 (zbu x0 x1 x2 c m (w64 (a+1)) d e b))
 else
 (c a d e b)
def zc9 (x0:Vm.Repo)(x1:Str)(x2:Int):Option (Vm.Repo):=
 jn (fun(d:Int) (e:List Vm.Commit) (f:List Vm.Head) (a:List Vm.Head)=>
 (Vm.zgP a (Vm.Head.mk x1 x2)).bind fun b=>
 some (Vm.Repo.mk x0.Commits b)) fun c=>
 zbu x0 x1 x2 c (((x0.Heads.length:Int)-0).toNat+1) 0 ([]:List Commit) ([]:List Head) x0.Heads
def zdb (x0:Vm.Repo)(x1:Str)(x2:Str)(x3:List Vm.File)(x4:List Int):Option (Vm.Repo):=
 (Vm.zc4 x3).bind fun c=>
 (apM x0.Commits [Vm.Commit.mk x4 x2 c]).bind fun a=>
 (Vm.zc9 (Vm.Repo.mk a x0.Heads) x1 (w64 ((a.length:Int)-1))).bind fun b=>
 some (Vm.Repo.mk b.Commits b.Heads)
def zdI (x0:Vm.Repo)(x1:Vm.Repo):Option (Vm.Repo×Bool):=
 (Vm.zdg (Vm.Repo.mk x1.Commits x1.Heads)).bind fun b=>
 bif(!b) then
 ((Vm.zc5 x0).bind fun a=>
 some (Vm.Repo.mk a.Commits a.Heads,false))
 else
 (some (Vm.Repo.mk x1.Commits x1.Heads,true))
def zbN (x0:Vm.Repo)(x1:Str)(x2:Str)(x3:List Vm.File)(x4:List Vm.File):Option (Vm.Repo×Int):=
 (Vm.zhX x0 x1).bind fun b=>
 (Vm.zaN x0 b).bind fun g=>
 (Vm.zd4 x3 g x4).bind fun c=>
 bif(!c.2) then
 ((Vm.zc5 x0).bind fun d=>
 some (Vm.Repo.mk d.Commits d.Heads,4))
 else
 ((Vm.zc5 x0).bind fun e=>
 (Vm.zdb (Vm.Repo.mk e.Commits e.Heads) x1 x2 c.1 ([b]:List Int)).bind fun f=>
 (Vm.zdI x0 (Vm.Repo.mk f.Commits f.Heads)).bind fun a=>
 bif(!a.2) then
 (some (Vm.Repo.mk a.1.Commits a.1.Heads,5))
 else
 (some (Vm.Repo.mk a.1.Commits a.1.Heads,0)))
def zgt (x0:Vm.Repo)(x1:Str)(x2:Str)(x3:Int)(x4:Bool):Option (Vm.Repo×Int):=
 jn (fun(g:Bool)=>
 bif g then
 ((Vm.zc5 x0).bind fun c=>
 some (Vm.Repo.mk c.Commits c.Heads,1))
 else
 ((Vm.zdH x0 x3).bind fun h=>
 (Vm.zaN x0 h).bind fun d=>
 (Vm.zaN x0 x3).bind fun e=>
 jn (fun(i:List Vm.File) (j:List Vm.File)=>
 (Vm.zbN x0 x1 x2 i j).bind fun a=>
 some (Vm.Repo.mk a.1.Commits a.1.Heads,a.2)) fun f=>
 bif x4 then
 (f e d)
 else
 (f d e))) fun b=>
 (Vm.zhX x0 x1).bind fun k=>
 bif decide (k< (0:Int)) then
 (b true)
 else
 ((Vm.zeQ x2).bind fun l=>
 bif(!l) then
 (b true)
 else
 ((Vm.za8 x0 x3).bind fun m=>
 b (!m)))
def zhK (x0:Vm.Commit)(x1:Vm.Commit):Option (Bool):=
 jn (fun(b:Bool)=>
 some b) fun a=>
 bif(x0.Who==x1.Who) then
 ((Vm.zfg x0.Parents x1.Parents).bind fun c=>
 bif c then
 ((Vm.zfG x0.Tree x1.Tree).bind fun d=>
 a d)
 else
 (a false))
 else
 (a false)
def zfr (x0:Vm.Repo)(x1:Vm.Repo)(b:Bool->Int->Option (Bool)):Nat->Bool->Int->Option (Bool)
 |0,_,_=>none
 |m+1,c,a=>
 bif decide (a< (x0.Heads.length:Int)) then
 ((gi x0.Heads a).bind fun d=>
 (gi x1.Heads a).bind fun e=>
 bif(!(d.Name==e.Name&&d.At==e.At)) then
 (some false)
 else
 (zfr x0 x1 b m c (w64 (a+1))))
 else
 (b c a)
def zfs (x0:Vm.Repo)(x1:Vm.Repo)(b:Bool->Int->Option (Bool)):Nat->Bool->Int->Option (Bool)
 |0,_,_=>none
 |m+1,c,a=>
 bif decide (a< (x0.Commits.length:Int)) then
 ((gi x0.Commits a).bind fun d=>
 (gi x1.Commits a).bind fun e=>
 (Vm.zhK d e).bind fun f=>
 bif(!f) then
 (some false)
 else
 (zfs x0 x1 b m c (w64 (a+1))))
 else
 (b c a)
def zgH (x0:Vm.Repo)(x1:Vm.Repo):Option (Bool):=
 jn (fun(b:Bool)=>
 bif b then
 (some false)
 else
 (jn (fun(c:Bool) (f:Int)=>
 jn (fun(g:Bool) (h:Int)=>
 some true) fun d=>
 zfr x0 x1 d (((x0.Heads.length:Int)-0).toNat+1) c 0) fun e=>
 zfs x0 x1 e (((x0.Commits.length:Int)-0).toNat+1) false 0)) fun a=>
 bif((x0.Commits.length:Int) !=(x1.Commits.length:Int)) then
 (a true)
 else
 (a ((x0.Heads.length:Int) !=(x1.Heads.length:Int)))
def zgI (x0:Vm.Repo)(x1:Str):Option (Int):=
 (Vm.zdg x0).bind fun a=>
 bif(!a) then
 (some (-1))
 else
 ((Vm.zhX x0 x1).bind fun b=>
 some b)
end Go.Vm
