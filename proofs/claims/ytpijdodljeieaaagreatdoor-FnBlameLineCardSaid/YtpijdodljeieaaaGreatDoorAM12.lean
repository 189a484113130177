/- Models of the functions: plain Lean, printed by a program of ours. Conditions: none. -/
import Derived.Test.YtpijdodljeieaaaGreatDoorALw
import Derived.Test.YtpijdodljeieaaaGreatDoorAM0
import Derived.Test.YtpijdodljeieaaaGreatDoorAM4
import Derived.Test.YtpijdodljeieaaaGreatDoorAM7
namespace Go.Vm
open Go Go.Sx
set_option linter.unusedVariables false
set_option linter.unusedSimpArgs false
def zgC (x0:List Byte):Option (Vm.Repo×Int×Str×Int):=
 (Vm.zea x0).bind fun a=>
 some (Vm.Repo.mk a.1.Commits a.1.Heads,a.2.1,a.2.2,Int.tmod (x0.length:Int) 4)
def zdr (x0:List Int)(x1:Int)(b:Int->Int->Option (Int)):Nat->Int->Int->Option (Int)
 |0,_,_=>none
 |m+1,c,a=>
 bif decide (a< (x0.length:Int)) then
 ((gi x0 a).bind fun d=>
 bif((x1:Int)==(d:Int)) then
 (some a)
 else
 (zdr x0 x1 b m c (w64 (a+1))))
 else
 (b c a)
def zfS (x0:List Int)(x1:Int):Option (Int):=
 jn (fun(b:Int) (c:Int)=>
 some (-1)) fun a=>
 zdr x0 x1 a (((x0.length:Int)-0).toNat+1) 0 0
def ziF (x0:Vm.Repo)(x1:Int)(x2:Str)(x3:Int):Option ((List Int)):=
 (Vm.zgp x0 x1 x2).bind fun a=>
 (Vm.zeH x3 0 (w64 ((a.length:Int)-1))).bind fun c=>
 bif(!c) then
 (some ([]:List Int))
 else
 ((Vm.zgN x0 x1).bind fun b=>
 (gi a x3).bind fun d=>
 (Vm.zfS b d).bind fun e=>
 (slM b 0 (w64 (e+1))).bind fun f=>
 some f)
def zhk (b:(List Int))(c:Int->Option ((List Int))):Nat->Int->Int->Option ((List Int))
 |0,_,_=>none
 |m+1,d,a=>
 bif decide (a< (b.length:Int)) then
 ((gi b a).bind fun e=>
 bif((e:Int)==(d:Int)) then
 (c a)
 else
 (zhk b c m d (w64 (a+1))))
 else
 (c d)
def zfP (x0:Vm.Repo)(x2:Str)(d:Int->Int->List Int->List Int->Option ((List Int))):Nat->Int->Int->List Int->List Int->Option ((List Int))
 |0,_,_,_,_=>none
 |m+1,a,b,e,f=>
 (gi f b).bind fun h=>
 bif((a:Int) !=(h:Int)) then
 ((apM e [a]).bind fun i=>
 (gi x0.Commits a).bind fun j=>
 (Vm.zdU j.Tree x2).bind fun k=>
 (gi x0.Commits a).bind fun l=>
 (gi l.Parents 0).bind fun c=>
 (gi x0.Commits c).bind fun n=>
 (Vm.zdU n.Tree x2).bind fun o=>
 (Vm.zcj o.1 k.1).bind fun g=>
 jn (fun(p:Int)=>
 (Vm.zh3 x0 c x2).bind fun q=>
 zfP x0 x2 d m c p i q) fun r=>
 zhk g r (((g.length:Int)-0).toNat+1) b 0)
 else
 (d a b e f)
def zh9 (x0:Vm.Repo)(x1:Int)(x2:Str)(x3:Int):Option ((List Int)):=
 (Vm.zfT x0 x1 x2).bind fun a=>
 (Vm.ze9 x3 0 (w64 ((a.length:Int)-1))).bind fun b=>
 bif(!b) then
 (some ([]:List Int))
 else
 (jn (fun(c:Int) (g:Int) (d:List Int) (h:List Int)=>
 (apM d [c]).bind fun e=>
 some e) fun f=>
 zfP x0 x2 f (x1.toNat+2) x1 x3 ([]:List Int) a)
def zeJ (b:Vm.Repo×Int×Str×Int)(c:(List Int))(d:(List Int))(e:(List Str)×Bool)(f:Bool->Int->Option (Bool)):Nat->Bool->Int->Option (Bool)
 |0,_,_=>none
 |m+1,g,a=>
 bif decide (a< (c.length:Int)) then
 ((gi c a).bind fun i=>
 (gi b.1.Commits i).bind fun j=>
 (Vm.zgE j.Tree b.2.2.1).bind fun k=>
 jn (fun(l:Bool)=>
 bif l then
 (some false)
 else
 (zeJ b c d e f m g (w64 (a+1)))) fun h=>
 (gi d a).bind fun n=>
 (gi c a).bind fun o=>
 bif((n:Int) !=(o:Int)) then
 (h true)
 else
 ((gi e.1 b.2.2.2).bind fun p=>
 (Vm.ziT k.1 p).bind fun q=>
 h (!q)))
 else
 (f g a)
def ziA (x0:List Byte):Option (Bool):=
 bif decide (1048576< (x0.length:Int)) then
 (some true)
 else
 ((Vm.zgC x0).bind fun a=>
 (Vm.ziF (Vm.Repo.mk a.1.Commits a.1.Heads) a.2.1 a.2.2.1 a.2.2.2).bind fun b=>
 jn (fun(d:Bool)=>
 bif d then
 ((Vm.zh9 (Vm.Repo.mk a.1.Commits a.1.Heads) a.2.1 a.2.2.1 a.2.2.2).bind fun e=>
 (Vm.zdy b e).bind fun f=>
 some f)
 else
 ((Vm.zik (Vm.Repo.mk a.1.Commits a.1.Heads) a.2.1).bind fun g=>
 (gi a.1.Commits a.2.1).bind fun h=>
 (Vm.zgE h.Tree a.2.2.1).bind fun i=>
 jn (fun(p:Bool) (q:Int)=>
 (Vm.zgp (Vm.Repo.mk a.1.Commits a.1.Heads) a.2.1 a.2.2.1).bind fun j=>
 (gi j a.2.2.2).bind fun k=>
 (gi b (w64 ((b.length:Int)-1))).bind fun l=>
 some ((k:Int)==(l:Int))) fun m=>
 zeJ a b g i m (((b.length:Int)-0).toNat+1) false 0)) fun c=>
 (Vm.zh9 (Vm.Repo.mk a.1.Commits a.1.Heads) a.2.1 a.2.2.1 a.2.2.2).bind fun n=>
 (Vm.zdy b n).bind fun o=>
 bif(!o) then
 (c true)
 else
 (c ((b.length:Int)==0)))
end Go.Vm
