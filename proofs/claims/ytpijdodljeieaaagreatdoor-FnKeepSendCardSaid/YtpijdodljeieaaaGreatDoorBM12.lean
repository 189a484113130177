/- Models of the functions: plain Lean, printed by a program of ours. Conditions: none. -/
import Derived.Test.YtpijdodljeieaaaGreatDoorBLw
import Derived.Test.YtpijdodljeieaaaGreatDoorBM0
import Derived.Test.YtpijdodljeieaaaGreatDoorBM1
import Derived.Test.YtpijdodljeieaaaGreatDoorBM5
namespace Go.Vm
open Go Go.Sx
set_option linter.unusedVariables false
set_option linter.unusedSimpArgs false
def zdV (x0:Vm.Repo)(x1:Str)(d:Int->List Vm.Commit->List Vm.Head->Option (Vm.Repo×Bool)):Nat->Int->List Vm.Commit->List Vm.Head->Option (Vm.Repo×Bool)
 |0,_,_,_=>none
 |m+1,a,b,c=>
 bif decide (a< (x0.Heads.length:Int)) then
 (jn (fun(f:List Vm.Commit) (g:List Vm.Head)=>
 zdV x0 x1 d m (w64 (a+1)) f g) fun e=>
 (gi x0.Heads a).bind fun h=>
 bif(h.Name !=x1) then
 ((gi x0.Heads a).bind fun i=>
 (apM c [i]).bind fun j=>
 e b j)
 else
 (e b c))
 else
 (d a b c)
def zhG (x0:Vm.Repo)(x1:Str):Option (Vm.Repo×Bool):=
 (Vm.zby x0).bind fun b=>
 bif(!b) then
 (some (Vm.Repo.mk ([]:List Commit) ([]:List Head),false))
 else
 ((Vm.za9 x0).bind fun c=>
 jn (fun(f:Int) (d:List Vm.Commit) (a:List Vm.Head)=>
 some (Vm.Repo.mk d a,decide (a.length< (x0.Heads.length:Int)))) fun e=>
 zdV x0 x1 e (((x0.Heads.length:Int)-0).toNat+1) 0 c.Commits ([]:List Head))
def ze5 (x0:Vm.l30Rd)(g:Int->Int->List Vm.Commit->List Vm.Head->Option (Vm.Repo×Int)):Nat->Int->Int->List Vm.Commit->List Vm.Head->Option (Vm.Repo×Int)
 |0,_,_,_,_=>none
 |m+1,e,h,a,c=>
 bif decide (0< (e:Int)) then
 (jn (fun(k:Int) (l:List Vm.Commit) (n:List Vm.Head)=>
 ze5 x0 g m (w64 (e-1)) k l n) fun i=>
 (Vm.zdG (Vm.l30Rd.mk x0.b h)).bind fun f=>
 (Vm.zhG (Vm.Repo.mk a c) f.1).bind fun d=>
 jn (fun(o:Bool)=>
 bif o then
 (i f.2 d.1.Commits d.1.Heads)
 else
 (i f.2 a c)) fun j=>
 (Vm.zby (Vm.Repo.mk d.1.Commits d.1.Heads)).bind fun p=>
 bif p then
 ((Vm.zby (Vm.Repo.mk a c)).bind fun q=>
 j q)
 else
 (j false))
 else
 (g e h a c)
def ziM (x0:Vm.l30Rd):Option (Vm.Repo×Int):=
 (Vm.zdm x0).bind fun a=>
 (Vm.zau (Vm.l30Rd.mk x0.b a.2) 3).bind fun c=>
 jn (fun(h:Int) (d:Int) (e:List Vm.Commit) (f:List Vm.Head)=>
 some (Vm.Repo.mk e f,d)) fun g=>
 ze5 x0 g ((c.1-0).toNat+1) c.1 c.2 a.1.Commits a.1.Heads
def zfQ (x0:List Byte):Option (Vm.Repo):=
 (Vm.zcM x0).bind fun b=>
 (Vm.ziM b).bind fun a=>
 some (Vm.Repo.mk a.1.Commits a.1.Heads)
def zfR (b:(List Int))(d:Int->List Bool->Option ((List Int))):Nat->Int->List Bool->Option ((List Int))
 |0,_,_=>none
 |m+1,a,c=>
 bif decide (a< (b.length:Int)) then
 ((gi b a).bind fun e=>
 (gi c e).bind fun g=>
 (siM c e true).bind fun f=>
 zfR b d m (w64 (a+1)) f)
 else
 (d a c)
def zdn (b:List Bool)(d:List Int->Int->Option ((List Int))):Nat->List Int->Int->Option ((List Int))
 |0,_,_=>none
 |m+1,c,a=>
 bif decide (a< (b.length:Int)) then
 (jn (fun(f:List Int)=>
 zdn b d m f (w64 (a+1))) fun e=>
 (gi b a).bind fun g=>
 bif g then
 ((apM c [a]).bind fun h=>
 e h)
 else
 (e c))
 else
 (d c a)
def zer (x0:Vm.Repo)(b:Int->List Bool->Option ((List Int))):Nat->Int->List Bool->Option ((List Int))
 |0,_,_=>none
 |m+1,a,c=>
 bif decide (a< (x0.Heads.length:Int)) then
 ((gi x0.Heads a).bind fun e=>
 (Vm.zef x0 e.At).bind fun d=>
 jn (fun(h:Int) (f:List Bool)=>
 zer x0 b m (w64 (a+1)) f) fun g=>
 zfR d g (((d.length:Int)-0).toNat+1) 0 c)
 else
 (b a c)
def zjp (x0:Vm.Repo):Option ((List Int)):=
 (mkM (x0.Commits.length:Int) (false:Bool)).bind fun b=>
 jn (fun(f:Int) (a:List Bool)=>
 jn (fun(c:List Int) (g:Int)=>
 some c) fun d=>
 zdn a d (((a.length:Int)-0).toNat+1) ([]:List Int) 0) fun e=>
 zer x0 e (((x0.Heads.length:Int)-0).toNat+1) 0 b
def ze6 (c:(List Int))(d:Int->List Int->Option (Vm.Repo)):Nat->Int->List Int->Option (Vm.Repo)
 |0,_,_=>none
 |m+1,a,b=>
 bif decide (a< (b.length:Int)) then
 ((gi b a).bind fun e=>
 (Vm.zfc c e).bind fun f=>
 (gi b a).bind fun h=>
 (siM b a f).bind fun g=>
 ze6 c d m (w64 (a+1)) g)
 else
 (d a b)
def zb0 (x0:Vm.Repo)(b:(List Int))(c:Int->List Vm.Commit->List Vm.Head->Option (Vm.Repo)):Nat->Int->List Vm.Commit->List Vm.Head->Option (Vm.Repo)
 |0,_,_,_=>none
 |m+1,a,d,e=>
 bif decide (a< (x0.Heads.length:Int)) then
 ((gi x0.Heads a).bind fun f=>
 (gi x0.Heads a).bind fun g=>
 (Vm.zfc b g.At).bind fun h=>
 (apM e [Vm.Head.mk f.Name h]).bind fun i=>
 zb0 x0 b c m (w64 (a+1)) d i)
 else
 (c a d e)
def zdW (x0:Vm.Repo)(a:(List Int))(d:Int->List Vm.Commit->List Vm.Head->Option (Vm.Repo)):Nat->Int->List Vm.Commit->List Vm.Head->Option (Vm.Repo)
 |0,_,_,_=>none
 |m+1,b,e,f=>
 bif decide (b< (a.length:Int)) then
 ((gi a b).bind fun g=>
 (gi x0.Commits g).bind fun h=>
 (Vm.zbV h).bind fun c=>
 jn (fun(l:Int) (i:List Int)=>
 (apM e [Vm.Commit.mk i c.Who c.Tree]).bind fun j=>
 zdW x0 a d m (w64 (b+1)) j f) fun k=>
 ze6 a k (((c.Parents.length:Int)-0).toNat+1) 0 c.Parents)
 else
 (d b e f)
def zhg (x0:Vm.Repo):Option (Vm.Repo):=
 (Vm.zby x0).bind fun b=>
 bif(!b) then
 (some (Vm.Repo.mk ([]:List Commit) ([]:List Head)))
 else
 ((Vm.zjp x0).bind fun a=>
 jn (fun(i:Int) (c:List Vm.Commit) (d:List Vm.Head)=>
 jn (fun(j:Int) (e:List Vm.Commit) (f:List Vm.Head)=>
 some (Vm.Repo.mk e f)) fun g=>
 zb0 x0 a g (((x0.Heads.length:Int)-0).toNat+1) 0 c d) fun h=>
 zdW x0 a h (((a.length:Int)-0).toNat+1) 0 ([]:List Commit) ([]:List Head))
end Go.Vm
