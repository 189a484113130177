/- Models of the functions: plain Lean, printed by a program of ours. Conditions: none. -/
import Derived.Test.YtpijdodljeieaaaGreatDoorBLw
import Derived.Test.YtpijdodljeieaaaGreatDoorBM0
import Derived.Test.YtpijdodljeieaaaGreatDoorBM2
namespace Go.Vm
open Go Go.Sx
set_option linter.unusedVariables false
set_option linter.unusedSimpArgs false
def zdS (x0:Vm.Repo)(c:Int->List Vm.Commit->List Vm.Head->Option (Vm.Repo)):Nat->Int->List Vm.Commit->List Vm.Head->Option (Vm.Repo)
 |0,_,_,_=>none
 |m+1,a,d,e=>
 bif decide (a< (x0.Commits.length:Int)) then
 ((gi x0.Commits a).bind fun b=>
 (apM ([]:List Int) b.Parents).bind fun f=>
 (Vm.zeh b.Tree).bind fun g=>
 (apM d [Vm.Commit.mk f b.Who g]).bind fun h=>
 zdS x0 c m (w64 (a+1)) h e)
 else
 (c a d e)
def zga (x0:Vm.Repo):Option (Vm.Repo):=
 (apM ([]:List Head) x0.Heads).bind fun a=>
 jn (fun(e:Int) (b:List Vm.Commit) (c:List Vm.Head)=>
 some (Vm.Repo.mk b c)) fun d=>
 zdS x0 d (((x0.Commits.length:Int)-0).toNat+1) 0 ([]:List Commit) a
def zbk (x0:List Vm.Head)(x1:Int)(x2:Vm.Head):Option ((List Vm.Head)):=
 if 0<=x1/\x1<=x0.length/\x0.length+1<=lim then some (x0.take x1.toNat++[x2]++x0.drop x1.toNat) else none
def zeE (x0:List Vm.Head)(x1:Vm.Head)(b:Int->Option ((List Vm.Head))):Nat->Int->Option ((List Vm.Head))
 |0,_=>none
 |m+1,a=>
 jn (fun(e:Bool)=>
 bif e then
 (zeE x0 x1 b m (w64 (a-1)))
 else
 (b a)) fun c=>
 bif decide (0< (a:Int)) then
 ((gi x0 (w64 (a-1))).bind fun d=>
 c (!(Op.bytesLess d.Name x1.Name||d.Name==x1.Name)))
 else
 (c false)
def zgm (x0:List Vm.Head)(x1:Vm.Head):Option ((List Vm.Head)):=
 jn (fun(a:Int)=>
 (apM ([]:List Head) x0).bind fun b=>
 (Vm.zbk b a x1).bind fun c=>
 some c) fun d=>
 zeE x0 x1 d (x0.length+1) (x0.length:Int)
def zbb (x0:Vm.Repo)(x1:Str)(x2:Int)(c:Int->List Vm.Commit->List Vm.Head->List Vm.Head->Option (Vm.Repo)):Nat->Int->List Vm.Commit->List Vm.Head->List Vm.Head->Option (Vm.Repo)
 |0,_,_,_,_=>none
 |m+1,a,d,e,b=>
 bif decide (a< (x0.Heads.length:Int)) then
 ((gi b a).bind fun f=>
 bif(f.Name==x1) then
 ((gi b a).bind fun g=>
 (siM b a (Vm.Head.mk g.Name x2)).bind fun h=>
 some (Vm.Repo.mk x0.Commits h))
 else
 (zbb x0 x1 x2 c m (w64 (a+1)) d e b))
 else
 (c a d e b)
def zbc (x0:Vm.Repo)(x1:Str)(x2:Int):Option (Vm.Repo):=
 jn (fun(d:Int) (e:List Vm.Commit) (f:List Vm.Head) (a:List Vm.Head)=>
 (Vm.zgm a (Vm.Head.mk x1 x2)).bind fun b=>
 some (Vm.Repo.mk x0.Commits b)) fun c=>
 zbb x0 x1 x2 c (((x0.Heads.length:Int)-0).toNat+1) 0 ([]:List Commit) ([]:List Head) x0.Heads
def zda (x0:Vm.Repo)(x1:Vm.Repo):Option (Vm.Repo×Bool):=
 (Vm.zde (Vm.Repo.mk x1.Commits x1.Heads)).bind fun b=>
 bif(!b) then
 ((Vm.zga x0).bind fun a=>
 some (Vm.Repo.mk a.Commits a.Heads,false))
 else
 (some (Vm.Repo.mk x1.Commits x1.Heads,true))
def zdT (x0:Vm.Repo)(x1:List Int)(j:Int)(c:Vm.Commit)(k:Bool->Int->List Vm.Commit->List Vm.Head->List Int->Str->List Vm.File->Option (Vm.Repo×Bool)):Nat->Bool->Int->List Vm.Commit->List Vm.Head->List Int->Str->List Vm.File->Option (Vm.Repo×Bool)
 |0,_,_,_,_,_,_,_=>none
 |m+1,d,a,e,f,g,h,i=>
 bif decide (a< (c.Parents.length:Int)) then
 (jn (fun(o:Bool) (p:List Vm.Commit) (q:List Vm.Head) (r:List Int) (s:Str) (t:List Vm.File)=>
 zdT x0 x1 j c k m o (w64 (a+1)) p q r s t) fun l=>
 (gi c.Parents a).bind fun b=>
 (Vm.ze2 b 0 (w64 (j-1))).bind fun u=>
 bif u then
 ((apM g [w64 ((x0.Commits.length:Int)+b)]).bind fun v=>
 l d e f v h i)
 else
 ((Vm.ze2 b (w64 (0-(x1.length:Int))) (-1)).bind fun w=>
 bif w then
 ((gi x1 (w64 ((-1)-b))).bind fun x=>
 (apM g [x]).bind fun y=>
 l d e f y h i)
 else
 ((Vm.zga x0).bind fun n=>
 some (Vm.Repo.mk n.Commits n.Heads,false))))
 else
 (k d a e f g h i)
def zdU (x0:Vm.Repo)(x1:List Int)(x2:List Vm.Commit)(d:Bool->Int->Int->List Vm.Commit->List Vm.Head->List Vm.Commit->List Vm.Head->Option (Vm.Repo×Bool)):Nat->Bool->Int->Int->List Vm.Commit->List Vm.Head->List Vm.Commit->List Vm.Head->Option (Vm.Repo×Bool)
 |0,_,_,_,_,_,_,_=>none
 |m+1,e,i,a,f,g,c,h=>
 bif decide (a< (x2.length:Int)) then
 ((gi x2 a).bind fun b=>
 (Vm.zeh b.Tree).bind fun j=>
 jn (fun(k:Bool) (t:Int) (l:List Vm.Commit) (n:List Vm.Head) (o:List Int) (p:Str) (q:List Vm.File)=>
 (apM c [Vm.Commit.mk o p q]).bind fun r=>
 zdU x0 x1 x2 d m k (c.length:Int) (w64 (a+1)) l n r h) fun s=>
 zdT x0 x1 a b s (((b.Parents.length:Int)-0).toNat+1) e 0 f g ([]:List Int) b.Who j)
 else
 (d e i a f g c h)
def zgK (x0:Vm.Repo)(x1:List Int)(x2:List Vm.Commit)(x3:Str):Option (Vm.Repo×Bool):=
 (Vm.zde x0).bind fun g=>
 bif(!g) then
 (some (Vm.Repo.mk ([]:List Commit) ([]:List Head),false))
 else
 (jn (fun(h:Bool)=>
 bif h then
 ((Vm.zga x0).bind fun c=>
 some (Vm.Repo.mk c.Commits c.Heads,false))
 else
 ((Vm.zga x0).bind fun d=>
 jn (fun(i:Int)=>
 jn (fun(p:Bool) (j:Int) (q:Int) (r:List Vm.Commit) (s:List Vm.Head) (k:List Vm.Commit) (l:List Vm.Head)=>
 (Vm.zbc (Vm.Repo.mk k l) x3 j).bind fun e=>
 (Vm.zda x0 (Vm.Repo.mk e.Commits e.Heads)).bind fun a=>
 some (Vm.Repo.mk a.1.Commits a.1.Heads,a.2)) fun m=>
 zdU x0 x1 x2 m (((x2.length:Int)-0).toNat+1) false i 0 ([]:List Commit) ([]:List Head) d.Commits d.Heads) fun f=>
 bif decide (0< (x1.length:Int)) then
 ((gi x1 0).bind fun n=>
 f n)
 else
 (f (-1)))) fun b=>
 bif decide (16< (x1.length:Int)) then
 (b true)
 else
 ((Vm.zdX x0 x1).bind fun o=>
 bif(!o) then
 (b true)
 else
 (b ((w64 ((x2.length:Int)+(x1.length:Int)):Int)==(0:Int)))))
end Go.Vm
