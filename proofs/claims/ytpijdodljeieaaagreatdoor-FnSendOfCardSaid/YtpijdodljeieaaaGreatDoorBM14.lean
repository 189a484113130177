/- Models of the functions: plain Lean, printed by a program of ours. Conditions: none. -/
import Derived.Test.YtpijdodljeieaaaGreatDoorBLw
import Derived.Test.YtpijdodljeieaaaGreatDoorBM0
import Derived.Test.YtpijdodljeieaaaGreatDoorBM1
import Derived.Test.YtpijdodljeieaaaGreatDoorBM3
import Derived.Test.YtpijdodljeieaaaGreatDoorBM5
import Derived.Test.YtpijdodljeieaaaGreatDoorBM7
import Derived.Test.YtpijdodljeieaaaGreatDoorBM11
namespace Go.Vm
open Go Go.Sx
set_option linter.unusedVariables false
set_option linter.unusedSimpArgs false
def zhB (x0:Vm.l30Rd)(x1:Vm.Repo)(c:List Int->Int->Int->Option ((List Int)×Int)):Nat->List Int->Int->Int->Option ((List Int)×Int)
 |0,_,_,_=>none
 |m+1,d,a,e=>
 bif decide (0< (a:Int)) then
 ((Vm.zau (Vm.l30Rd.mk x0.b e) (x1.Commits.length:Int)).bind fun f=>
 (apM d [f.1]).bind fun g=>
 zhB x0 x1 c m g (w64 (a-1)) f.2)
 else
 (c d a e)
def zjr (x0:Vm.l30Rd)(x1:Vm.Repo):Option ((List Int)×Int):=
 (Vm.zau x0 4).bind fun a=>
 jn (fun(d:List Int) (h:Int) (e:Int)=>
 (Vm.zau (Vm.l30Rd.mk x0.b e) 14).bind fun c=>
 bif(c.1==0) then
 ((apM d [(-1)]).bind fun f=>
 some (f,c.2))
 else
 (some (d,c.2))) fun g=>
 zhB x0 x1 g ((a.1-0).toNat+1) ([]:List Int) a.1 a.2
def ziW (x0:List Byte):Option (Vm.Repo×(List Int)×Int):=
 (Vm.zcM x0).bind fun c=>
 (Vm.zdm c).bind fun a=>
 (Vm.zgS (Vm.l30Rd.mk c.b a.2) (Vm.Repo.mk a.1.Commits a.1.Heads)).bind fun d=>
 jn (fun(i:Bool) (f:List Byte) (g:Int)=>
 bif i then
 ((Vm.zau (Vm.l30Rd.mk f g) (a.1.Commits.length:Int)).bind fun j=>
 (Vm.zef (Vm.Repo.mk a.1.Commits a.1.Heads) j.1).bind fun k=>
 some (Vm.Repo.mk a.1.Commits a.1.Heads,k,d.1))
 else
 ((Vm.zjr (Vm.l30Rd.mk f g) (Vm.Repo.mk a.1.Commits a.1.Heads)).bind fun l=>
 some (Vm.Repo.mk a.1.Commits a.1.Heads,l.1,d.1))) fun e=>
 (Vm.zex d.1 0 (w64 ((a.1.Commits.length:Int)-1))).bind fun m=>
 bif m then
 ((Vm.zby (Vm.Repo.mk a.1.Commits a.1.Heads)).bind fun n=>
 bif n then
 ((Vm.zau (Vm.l30Rd.mk c.b d.2) 3).bind fun h=>
 e (decide (0< (h.1:Int))) c.b h.2)
 else
 (e false c.b d.2))
 else
 (e false c.b d.2)
def ziO (x0:Vm.Repo)(x1:List Int)(x2:Int):Option (Int):=
 (Vm.zbI x0 x1 x2).bind fun a=>
 bif(!a) then
 (some (-1))
 else
 ((Vm.zfd x0 x2 x1).bind fun b=>
 some (b.length:Int))
def zjl (x0:Vm.Repo)(x1:List Int)(x2:Int):Option (Int):=
 jn (fun(b:Bool)=>
 bif b then
 (some (-1))
 else
 ((Vm.zkv x0 x1 x2).bind fun c=>
 some (c.length:Int))) fun a=>
 (Vm.zby x0).bind fun d=>
 bif(!d) then
 (a true)
 else
 ((Vm.zhj x0 x1).bind fun e=>
 bif(!e) then
 (a true)
 else
 ((Vm.zex x2 0 (w64 ((x0.Commits.length:Int)-1))).bind fun f=>
 a (!f)))
def zlf (x0:Vm.Repo)(x1:List Int)(x2:Int):Option ((List Int)):=
 (Vm.zbI x0 x1 x2).bind fun a=>
 bif(!a) then
 (some ([]:List Int))
 else
 ((Vm.zfd x0 x2 x1).bind fun b=>
 some b)
def zg5 (e:Vm.Repo×(List Int)×Int)(g:(List Vm.Commit)×Bool)(h:(List Int))(f:Int)(d:Vm.Commit)(i:Bool->Int->Option (Bool)):Nat->Bool->Int->Option (Bool)
 |0,_,_=>none
 |m+1,j,a=>
 bif decide (a< (d.Parents.length:Int)) then
 ((gi g.1 f).bind fun k=>
 (gi k.Parents a).bind fun b=>
 jn (fun(l:Bool)=>
 bif l then
 (some false)
 else
 (zg5 e g h f d i m j (w64 (a+1)))) fun c=>
 bif decide (f<=(b:Int)) then
 (c true)
 else
 (bif decide (0<=(b:Int)) then
 ((gi h b).bind fun n=>
 (gi d.Parents a).bind fun o=>
 bif((n:Int) !=(o:Int)) then
 (c true)
 else
 (bif decide (b< (0:Int)) then
 ((gi e.2.1 (w64 ((-1)-b))).bind fun p=>
 (gi d.Parents a).bind fun q=>
 c ((p:Int) !=(q:Int)))
 else
 (c false)))
 else
 (bif decide (b< (0:Int)) then
 ((gi e.2.1 (w64 ((-1)-b))).bind fun r=>
 (gi d.Parents a).bind fun s=>
 c ((r:Int) !=(s:Int)))
 else
 (c false))))
 else
 (i j a)
def zeF (e:Vm.Repo×(List Int)×Int)(b:(List Vm.Commit)×Bool)(g:(List Vm.Commit)×Bool)(f:(List Int))(h:Bool->Int->Option (Bool)):Nat->Bool->Int->Option (Bool)
 |0,_,_=>none
 |m+1,i,a=>
 bif decide (a< (b.1.length:Int)) then
 ((gi f a).bind fun j=>
 (gi e.1.Commits j).bind fun c=>
 jn (fun(k:Bool)=>
 bif k then
 (some false)
 else
 (jn (fun(l:Bool) (v:Int)=>
 zeF e b g f h m l (w64 (a+1))) fun n=>
 zg5 e b f a c n (((c.Parents.length:Int)-0).toNat+1) i 0)) fun d=>
 (gi b.1 a).bind fun o=>
 (gi g.1 a).bind fun p=>
 (Vm.zfA o p).bind fun q=>
 bif(!q) then
 (d true)
 else
 ((gi b.1 a).bind fun r=>
 bif(r.Who !=c.Who) then
 (d true)
 else
 ((gi b.1 a).bind fun s=>
 (Vm.zem s.Tree c.Tree).bind fun t=>
 bif(!t) then
 (d true)
 else
 ((gi b.1 a).bind fun u=>
 d ((u.Parents.length:Int) !=(c.Parents.length:Int))))))
 else
 (h i a)
def zll (x0:List Byte):Option (Bool):=
 bif decide (1048576< (x0.length:Int)) then
 (some true)
 else
 ((Vm.ziW x0).bind fun a=>
 (Vm.zie (Vm.Repo.mk a.1.Commits a.1.Heads) a.2.1 a.2.2).bind fun b=>
 (Vm.ziH (Vm.Repo.mk a.1.Commits a.1.Heads) a.2.1 a.2.2).bind fun c=>
 jn (fun(h:Bool)=>
 bif h then
 (jn (fun(i:Bool)=>
 some i) fun e=>
 bif(b.2==c.2) then
 (bif((b.1.length:Int)==(c.1.length:Int)) then
 ((Vm.ziO (Vm.Repo.mk a.1.Commits a.1.Heads) a.2.1 a.2.2).bind fun j=>
 (Vm.zjl (Vm.Repo.mk a.1.Commits a.1.Heads) a.2.1 a.2.2).bind fun k=>
 e ((j:Int)==(k:Int)))
 else
 (e false))
 else
 (e false))
 else
 ((Vm.zlf (Vm.Repo.mk a.1.Commits a.1.Heads) a.2.1 a.2.2).bind fun f=>
 jn (fun(q:Bool) (r:Int)=>
 jn (fun(l:Bool)=>
 some l) fun g=>
 bif((b.1.length:Int)==(f.length:Int)) then
 ((Vm.ziO (Vm.Repo.mk a.1.Commits a.1.Heads) a.2.1 a.2.2).bind fun m=>
 g ((b.1.length:Int)==(m:Int)))
 else
 (g false)) fun n=>
 zeF a b c f n (((b.1.length:Int)-0).toNat+1) false 0)) fun d=>
 bif(b.2 !=c.2) then
 (d true)
 else
 (bif((b.1.length:Int) !=(c.1.length:Int)) then
 (d true)
 else
 ((Vm.ziO (Vm.Repo.mk a.1.Commits a.1.Heads) a.2.1 a.2.2).bind fun o=>
 (Vm.zjl (Vm.Repo.mk a.1.Commits a.1.Heads) a.2.1 a.2.2).bind fun p=>
 bif((o:Int) !=(p:Int)) then
 (d true)
 else
 (d (!b.2)))))
end Go.Vm
