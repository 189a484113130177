/- Models of the functions: plain Lean, printed by a program of ours. Conditions: none. -/
import Derived.Test.YtpijdodljeieaaaGreatDoorBLw
import Derived.Test.YtpijdodljeieaaaGreatDoorBM0
import Derived.Test.YtpijdodljeieaaaGreatDoorBM3
import Derived.Test.YtpijdodljeieaaaGreatDoorBM5
import Derived.Test.YtpijdodljeieaaaGreatDoorBM6
import Derived.Test.YtpijdodljeieaaaGreatDoorBM8
import Derived.Test.YtpijdodljeieaaaGreatDoorBM10
import Derived.Test.YtpijdodljeieaaaGreatDoorBM11
namespace Go.Vm
open Go Go.Sx
set_option linter.unusedVariables false
set_option linter.unusedSimpArgs false
def zh7 (x0:List Byte):Option (Vm.Repo×(List Int)×(List Vm.Commit)×Str):=
 (Vm.zcM x0).bind fun c=>
 (Vm.zfb c).bind fun a=>
 jn (fun(i:List Int) (d:List Byte) (s:Int)=>
 (Vm.zgS (Vm.l30Rd.mk d s) (Vm.Repo.mk a.1.Commits a.1.Heads)).bind fun f=>
 (Vm.ziH (Vm.Repo.mk a.1.Commits a.1.Heads) i f.1).bind fun g=>
 jn (fun(e:List Vm.Commit)=>
 jn (fun(t:List Byte) (u:Int) (v:List Vm.Commit)=>
 (Vm.zbC (Vm.l30Rd.mk t u) ([([110,101,119]:Str),([109,97,105,110]:Str),([120]:Str)]:List Str)).bind fun w=>
 some (Vm.Repo.mk a.1.Commits a.1.Heads,i,v,w.1)) fun j=>
 jn (fun(x:Bool) (h:List Byte) (k:Int)=>
 bif x then
 ((Vm.zcj (Vm.l30Rd.mk h k) ([(-99),5,0]:List Int)).bind fun l=>
 (gi e 0).bind fun m=>
 (siM e 0 (Vm.Commit.mk ([l.1]:List Int) m.Who m.Tree)).bind fun y=>
 j h l.2 y)
 else
 (j h k e)) fun n=>
 bif decide (0< (e.length:Int)) then
 ((Vm.zau (Vm.l30Rd.mk d f.2) 8).bind fun o=>
 n (o.1==0) d o.2)
 else
 (n false d f.2)) fun p=>
 bif decide (3< (g.1.length:Int)) then
 ((slM g.1 0 3).bind fun z=>
 p z)
 else
 (p g.1)) fun q=>
 bif decide (0< (a.1.Commits.length:Int)) then
 ((Vm.zau (Vm.l30Rd.mk c.b a.2) (a.1.Commits.length:Int)).bind fun r=>
 (Vm.zef (Vm.Repo.mk a.1.Commits a.1.Heads) r.1).bind fun A=>
 q A c.b r.2)
 else
 (q ([]:List Int) c.b a.2)
def zg6 (x0:Vm.Repo)(x1:List Int)(g:Int)(h:Bool->Int->List Vm.Commit->List Vm.Head->List Int->Option (Vm.Repo×Bool)):Nat->Bool->Int->List Vm.Commit->List Vm.Head->List Int->Option (Vm.Repo×Bool)
 |0,_,_,_,_,_=>none
 |m+1,d,a,e,f,b=>
 bif decide (a< (b.length:Int)) then
 (jn (fun(l:Bool) (n:List Vm.Commit) (o:List Vm.Head) (p:List Int)=>
 zg6 x0 x1 g h m l (w64 (a+1)) n o p) fun i=>
 (gi b a).bind fun c=>
 (Vm.zex c 0 (w64 (g-1))).bind fun q=>
 bif q then
 ((gi b a).bind fun w=>
 (siM b a (w64 ((x0.Commits.length:Int)+c))).bind fun r=>
 i d e f r)
 else
 (jn (fun(s:Bool)=>
 bif s then
 ((gi x1 (w64 ((-1)-c))).bind fun t=>
 (gi b a).bind fun x=>
 (siM b a t).bind fun u=>
 i d e f u)
 else
 ((Vm.za9 x0).bind fun j=>
 some (Vm.Repo.mk j.Commits j.Heads,false))) fun k=>
 (Vm.zex (w64 ((-1)-c)) 0 (w64 ((x1.length:Int)-1))).bind fun v=>
 bif v then
 (k (decide (c< (0:Int))))
 else
 (k false)))
 else
 (h d a e f b)
def zg7 (x0:Vm.Repo)(x1:List Int)(x2:List Vm.Commit)(c:Bool->Int->Int->List Vm.Commit->List Vm.Head->List Vm.Commit->List Vm.Head->Option (Vm.Repo×Bool)):Nat->Bool->Int->Int->List Vm.Commit->List Vm.Head->List Vm.Commit->List Vm.Head->Option (Vm.Repo×Bool)
 |0,_,_,_,_,_,_,_=>none
 |m+1,d,j,a,e,f,g,h=>
 bif decide (a< (x2.length:Int)) then
 ((gi x2 a).bind fun k=>
 (Vm.zbV k).bind fun b=>
 jn (fun(l:Bool) (r:Int) (n:List Vm.Commit) (o:List Vm.Head) (p:List Int)=>
 (apM e [Vm.Commit.mk p b.Who b.Tree]).bind fun i=>
 zg7 x0 x1 x2 c m l (w64 ((i.length:Int)-1)) (w64 (a+1)) i f n o) fun q=>
 zg6 x0 x1 a q (((b.Parents.length:Int)-0).toNat+1) d 0 g h b.Parents)
 else
 (c d j a e f g h)
def zks (x0:Vm.Repo)(x1:List Int)(x2:List Vm.Commit)(x3:Str):Option (Vm.Repo×Bool):=
 (Vm.zby x0).bind fun f=>
 bif(!f) then
 (some (Vm.Repo.mk ([]:List Commit) ([]:List Head),false))
 else
 ((Vm.za9 x0).bind fun a=>
 jn (fun(g:Int)=>
 jn (fun(p:Bool) (h:Int) (q:Int) (i:List Vm.Commit) (j:List Vm.Head) (r:List Vm.Commit) (s:List Vm.Head)=>
 (Vm.zel (Vm.Repo.mk i j) x3 h).bind fun b=>
 jn (fun(k:Bool)=>
 bif k then
 ((Vm.za9 x0).bind fun c=>
 some (Vm.Repo.mk c.Commits c.Heads,false))
 else
 (some (b,true))) fun d=>
 (Vm.zhj x0 x1).bind fun l=>
 bif(!l) then
 (d true)
 else
 ((Vm.zby b).bind fun m=>
 d (!m))) fun n=>
 zg7 x0 x1 x2 n (((x2.length:Int)-0).toNat+1) false g 0 a.Commits a.Heads ([]:List Commit) ([]:List Head)) fun e=>
 bif decide (0< (x1.length:Int)) then
 ((gi x1 0).bind fun o=>
 e o)
 else
 (e (-1)))
def zhC (x0:Vm.Repo)(x1:Vm.Repo)(b:Bool->Int->Option (Bool)):Nat->Bool->Int->Option (Bool)
 |0,_,_=>none
 |m+1,c,a=>
 bif decide (a< (x1.Commits.length:Int)) then
 ((gi x0.Commits a).bind fun d=>
 (gi x1.Commits a).bind fun e=>
 (Vm.zfA d e).bind fun f=>
 bif(!f) then
 (some false)
 else
 (zhC x0 x1 b m c (w64 (a+1))))
 else
 (b c a)
def zjs (x0:Vm.Repo)(x1:Vm.Repo):Option (Bool):=
 bif decide (x0.Commits.length< (x1.Commits.length:Int)) then
 (some false)
 else
 (jn (fun(b:Bool) (c:Int)=>
 some true) fun a=>
 zhC x0 x1 a (((x1.Commits.length:Int)-0).toNat+1) false 0)
def zfU (b:Vm.Repo×(List Int)×(List Vm.Commit)×Str)(e:Vm.Repo×Bool)(f:Bool->Int->Option (Bool)):Nat->Bool->Int->Option (Bool)
 |0,_,_=>none
 |m+1,g,a=>
 bif decide (a< (b.2.2.1.length:Int)) then
 ((gi e.1.Commits (w64 ((b.1.Commits.length:Int)+a))).bind fun c=>
 jn (fun(h:Bool)=>
 bif h then
 (some false)
 else
 (zfU b e f m g (w64 (a+1)))) fun d=>
 (gi b.2.2.1 a).bind fun i=>
 bif(c.Who !=i.Who) then
 (d true)
 else
 ((gi b.2.2.1 a).bind fun j=>
 (Vm.zem c.Tree j.Tree).bind fun k=>
 bif(!k) then
 (d true)
 else
 ((gi b.2.2.1 a).bind fun l=>
 d ((c.Parents.length:Int) !=(l.Parents.length:Int)))))
 else
 (f g a)
def zjY (x0:List Byte):Option (Bool):=
 bif decide (1048576< (x0.length:Int)) then
 (some true)
 else
 ((Vm.zh7 x0).bind fun a=>
 (Vm.zgK (Vm.Repo.mk a.1.Commits a.1.Heads) a.2.1 a.2.2.1 a.2.2.2).bind fun b=>
 (Vm.zks (Vm.Repo.mk a.1.Commits a.1.Heads) a.2.1 a.2.2.1 a.2.2.2).bind fun d=>
 jn (fun(h:Bool)=>
 bif h then
 (jn (fun(i:Bool)=>
 some i) fun g=>
 bif(b.2==d.2) then
 ((Vm.zgc (Vm.Repo.mk b.1.Commits b.1.Heads) d.1).bind fun j=>
 g j)
 else
 (g false))
 else
 (bif(!b.2) then
 ((Vm.zgc (Vm.Repo.mk b.1.Commits b.1.Heads) (Vm.Repo.mk a.1.Commits a.1.Heads)).bind fun k=>
 some k)
 else
 ((Vm.zgb (Vm.Repo.mk b.1.Commits b.1.Heads) a.2.2.2).bind fun e=>
 jn (fun(t:Bool) (u:Int)=>
 jn (fun(l:Bool)=>
 some l) fun c=>
 (Vm.zde (Vm.Repo.mk b.1.Commits b.1.Heads)).bind fun m=>
 bif m then
 ((Vm.zjs (Vm.Repo.mk b.1.Commits b.1.Heads) (Vm.Repo.mk a.1.Commits a.1.Heads)).bind fun n=>
 bif n then
 (bif((b.1.Commits.length:Int)==(w64 ((a.1.Commits.length:Int)+(a.2.2.1.length:Int)):Int)) then
 (bif decide (0< (a.2.2.1.length:Int)) then
 (bif((e:Int)==(w64 ((b.1.Commits.length:Int)-1):Int)) then
 (c true)
 else
 (bif((a.2.2.1.length:Int)==0) then
 ((gi a.2.1 0).bind fun o=>
 c ((e:Int)==(o:Int)))
 else
 (c false)))
 else
 (bif((a.2.2.1.length:Int)==0) then
 ((gi a.2.1 0).bind fun p=>
 c ((e:Int)==(p:Int)))
 else
 (c false)))
 else
 (c false))
 else
 (c false))
 else
 (c false)) fun q=>
 zfU a b q (((a.2.2.1.length:Int)-0).toNat+1) false 0))) fun f=>
 bif(b.2 !=d.2) then
 (f true)
 else
 ((Vm.zgc (Vm.Repo.mk b.1.Commits b.1.Heads) d.1).bind fun r=>
 bif(!r) then
 (f true)
 else
 ((Vm.zde (Vm.Repo.mk a.1.Commits a.1.Heads)).bind fun s=>
 f (!s))))
end Go.Vm
