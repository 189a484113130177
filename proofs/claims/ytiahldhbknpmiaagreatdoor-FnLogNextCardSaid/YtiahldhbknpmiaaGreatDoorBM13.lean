/- Models of the functions: plain Lean, printed by a program of ours. Conditions: none. -/
import Derived.Test.YtiahldhbknpmiaaGreatDoorBLw
import Derived.Test.YtiahldhbknpmiaaGreatDoorBM6
namespace Go.Vm
open Go Go.Sx
set_option linter.unusedVariables false
set_option linter.unusedSimpArgs false
def ziU (x0:List Byte):Option (Vm.Repo×(List Int)×Int):=
 (Vm.zgQ x0).bind fun a=>
 some (Vm.Repo.mk a.1.Commits a.1.Heads,a.2.1,a.2.2)
def zgN (x0:Vm.Repo)(x1:List Int)(x2:Int)(e:(List Int))(g:Int->Int->Int->Option (Int)):Nat->Int->Int->Int->Option (Int)
 |0,_,_,_=>none
 |m+1,a,b,c=>
 bif decide (c< (e.length:Int)) then
 (jn (fun(k:Int) (l:Int)=>
 zgN x0 x1 x2 e g m k l (w64 (c+1))) fun f=>
 (gi e c).bind fun d=>
 bif((d:Int)==(x2:Int)) then
 (f a b)
 else
 ((apM ([]:List Int) x1).bind fun n=>
 (apM n [d]).bind fun o=>
 (Vm.zgR x0 x2 o).bind fun h=>
 (Vm.zgR x0 d x1).bind fun i=>
 jn (fun(p:Bool)=>
 bif p then
 (f d (zmU (h.length:Int) (i.length:Int)))
 else
 (f a b)) fun j=>
 bif decide (a< (0:Int)) then
 (j true)
 else
 (j (decide ((zmU (h.length:Int) (i.length:Int):Int)< (b:Int))))))
 else
 (g a b c)
def zk2 (x0:Vm.Repo)(x1:List Int)(x2:Int):Option (Int):=
 (Vm.zgW x0 x1 x2).bind fun a=>
 jn (fun(b:Int) (d:Int) (e:Int)=>
 some b) fun c=>
 zgN x0 x1 x2 a c (((a.length:Int)-0).toNat+1) (-1) 0 0
def zgO (x0:Vm.Repo)(x1:List Int)(x2:Int)(b:(List Int))(f:Int->Int->Int->Option (Int)):Nat->Int->Int->Int->Option (Int)
 |0,_,_,_=>none
 |m+1,c,d,a=>
 bif decide (a< (b.length:Int)) then
 (jn (fun(l:Int) (n:Int)=>
 zgO x0 x1 x2 b f m l n (w64 (a+1))) fun e=>
 (gi b a).bind fun o=>
 bif((o:Int)==(x2:Int)) then
 (e c d)
 else
 ((apM ([]:List Int) x1).bind fun p=>
 (gi b a).bind fun q=>
 (apM p [q]).bind fun r=>
 (Vm.ziV x0 r x2).bind fun g=>
 (gi b a).bind fun s=>
 (Vm.ziV x0 x1 s).bind fun h=>
 jn (fun(i:Int)=>
 jn (fun(t:Bool)=>
 bif t then
 ((gi b a).bind fun u=>
 e u i)
 else
 (e c d)) fun j=>
 bif decide (c< (0:Int)) then
 (j true)
 else
 (j (decide (i< (d:Int))))) fun k=>
 bif decide (g.length< (h.length:Int)) then
 (k (h.length:Int))
 else
 (k (g.length:Int))))
 else
 (f c d a)
def zky (x0:Vm.Repo)(x1:List Int)(x2:Int):Option (Int):=
 (Vm.ziW x0 x1 x2).bind fun a=>
 jn (fun(b:Int) (d:Int) (e:Int)=>
 some b) fun c=>
 zgO x0 x1 x2 a c (((a.length:Int)-0).toNat+1) (-1) 0 0
def zkH (x0:List Byte):Option (Bool):=
 bif decide (1048576< (x0.length:Int)) then
 (some true)
 else
 ((Vm.ziU x0).bind fun a=>
 (Vm.zk2 (Vm.Repo.mk a.1.Commits a.1.Heads) a.2.1 a.2.2).bind fun b=>
 (Vm.zgW (Vm.Repo.mk a.1.Commits a.1.Heads) a.2.1 a.2.2).bind fun c=>
 jn (fun(g:Bool)=>
 bif g then
 ((Vm.zky (Vm.Repo.mk a.1.Commits a.1.Heads) a.2.1 a.2.2).bind fun h=>
 some ((b:Int)==(h:Int)))
 else
 (bif decide (b< (0:Int)) then
 (jn (fun(i:Bool)=>
 some i) fun e=>
 bif((c.length:Int)==1) then
 ((gi c 0).bind fun u64=>
 e ((u64:Int)==(a.2.2:Int)))
 else
 (e false))
 else
 ((apM ([]:List Int) a.2.1).bind fun j=>
 (apM j [b]).bind fun k=>
 (Vm.zgW (Vm.Repo.mk a.1.Commits a.1.Heads) k a.2.2).bind fun l=>
 (Vm.zgW (Vm.Repo.mk a.1.Commits a.1.Heads) a.2.1 b).bind fun m=>
 jn (fun(n:Bool)=>
 some n) fun d=>
 (Vm.zlt c b).bind fun o=>
 bif o then
 (bif((b:Int) !=(a.2.2:Int)) then
 (bif decide (l.length< (c.length:Int)) then
 (d (decide (m.length< (c.length:Int))))
 else
 (d false))
 else
 (d false))
 else
 (d false)))) fun f=>
 (Vm.zky (Vm.Repo.mk a.1.Commits a.1.Heads) a.2.1 a.2.2).bind fun p=>
 bif((b:Int) !=(p:Int)) then
 (f true)
 else
 (f ((c.length:Int)==0)))
end Go.Vm
