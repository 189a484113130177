/- Models of the functions: plain Lean, printed by a program of ours. Conditions: none. -/
import Derived.Test.YtiahldhbknpmiaaGreatDoorBLw
import Derived.Test.YtiahldhbknpmiaaGreatDoorBM0
import Derived.Test.YtiahldhbknpmiaaGreatDoorBM1
import Derived.Test.YtiahldhbknpmiaaGreatDoorBM2
import Derived.Test.YtiahldhbknpmiaaGreatDoorBM5
namespace Go.Vm
open Go Go.Sx
set_option linter.unusedVariables false
set_option linter.unusedSimpArgs false
def zji (x0:List Byte):Option (Vm.Repo×Int×Str):=
 (Vm.zcR x0).bind fun c=>
 (Vm.zcT c).bind fun a=>
 (Vm.zfV (Vm.l30Rd.mk c.b a.2) (Vm.Repo.mk a.1.Commits a.1.Heads)).bind fun d=>
 (Vm.zcw (Vm.l30Rd.mk c.b d.2) ([([97,110,110]:Str),([98,111,98]:Str),([110,111,98,111,100,121]:Str)]:List Str)).bind fun e=>
 some (Vm.Repo.mk a.1.Commits a.1.Heads,d.1,e.1)
def zlw (x0:Int)(x1:Vm.Repo)(x2:Str):Option (Bool):=
 (gi x1.Commits x0).bind fun a=>
 some (a.Who==x2)
def zeX (d:Int->Int->List Int->Option ((List Int))):Nat->Int->Int->List Int->Option ((List Int))
 |0,_,_,_=>none
 |m+1,a,b,c=>
 bif decide (a< (b:Int)) then
 ((gi c b).bind fun e=>
 (gi c a).bind fun f=>
 (gi c a).bind fun i=>
 (siM c a e).bind fun g=>
 (gi c b).bind fun j=>
 (siM g b f).bind fun h=>
 zeX d m (w64 (a+1)) (w64 (b-1)) h)
 else
 (d a b c)
def zeH (x0:List Int):Option ((List Int)):=
 jn (fun(c:Int) (d:Int) (a:List Int)=>
 some a) fun b=>
 zeX b (((w64 ((x0.length:Int)-1))-0).toNat+1) 0 (w64 ((x0.length:Int)-1)) x0
def zbS (x3:Vm.Repo)(x4:Str)(b:(List Int))(d:List Int->Int->Option ((List Int))):Nat->List Int->Int->Option ((List Int))
 |0,_,_=>none
 |m+1,c,a=>
 bif decide (a< (b.length:Int)) then
 (jn (fun(g:List Int)=>
 zbS x3 x4 b d m g (w64 (a+1))) fun e=>
 (gi b a).bind fun f=>
 (Vm.zlw f (Vm.Repo.mk x3.Commits x3.Heads) x4).bind fun h=>
 bif h then
 ((apM c [f]).bind fun i=>
 e i)
 else
 (e c))
 else
 (d c a)
def ze2 (x0:Vm.Repo)(x1:Int)(x3:Vm.Repo)(x4:Str):Option ((List Int)):=
 (Vm.zfi x0 ([x1]:List Int)).bind fun b=>
 bif(!b) then
 (some ([]:List Int))
 else
 ((Vm.zbE x0 x1).bind fun c=>
 (Vm.zc3 c).bind fun a=>
 jn (fun(d:List Int) (g:Int)=>
 (Vm.zeH d).bind fun e=>
 some e) fun f=>
 zbS x3 x4 a f (((a.length:Int)-0).toNat+1) ([]:List Int) 0)
def zlX (x0:Vm.Repo)(x1:Int)(x2:Str):Option ((List Int)):=
 (Vm.ze2 x0 x1 x0 x2).bind fun a=>
 some a
def zis (x0:Vm.Repo)(x2:Str)(b:(List Int))(d:List Int->Int->Option ((List Int))):Nat->List Int->Int->Option ((List Int))
 |0,_,_=>none
 |m+1,c,a=>
 bif decide (0<=(a:Int)) then
 (jn (fun(f:List Int)=>
 zis x0 x2 b d m f (w64 (a-1))) fun e=>
 (gi b a).bind fun g=>
 (gi x0.Commits g).bind fun h=>
 bif(h.Who==x2) then
 ((gi b a).bind fun i=>
 (apM c [i]).bind fun j=>
 e j)
 else
 (e c))
 else
 (d c a)
def zln (x0:Vm.Repo)(x1:Int)(x2:Str):Option ((List Int)):=
 jn (fun(c:Bool)=>
 bif c then
 (some ([]:List Int))
 else
 ((Vm.ze1 x0 x1).bind fun a=>
 jn (fun(d:List Int) (h:Int)=>
 some d) fun e=>
 zis x0 x2 a e (((w64 ((a.length:Int)-1))+1-0).toNat+1) ([]:List Int) (w64 ((a.length:Int)-1)))) fun b=>
 (Vm.zcS x0).bind fun f=>
 bif(!f) then
 (b true)
 else
 ((Vm.zfe x1 0 (w64 ((x0.Commits.length:Int)-1))).bind fun g=>
 b (!g))
def zhH (c:Vm.Repo×Int×Str)(d:(List Int))(e:(List Int))(g:Bool->Int->Int->Option (Bool)):Nat->Bool->Int->Int->Option (Bool)
 |0,_,_,_=>none
 |m+1,f,a,b=>
 bif decide (0<=(b:Int)) then
 (jn (fun(j:Bool) (k:Int)=>
 zhH c d e g m j k (w64 (b-1))) fun h=>
 (gi e b).bind fun l=>
 (gi c.1.Commits l).bind fun n=>
 bif(n.Who==c.2.2) then
 (jn (fun(o:Bool)=>
 bif o then
 (some false)
 else
 (h f (w64 (a+1)))) fun i=>
 bif decide (d.length<=(a:Int)) then
 (i true)
 else
 ((gi d a).bind fun p=>
 (gi e b).bind fun q=>
 i ((p:Int) !=(q:Int))))
 else
 (h f a))
 else
 (g f a b)
def zlo (x0:List Byte):Option (Bool):=
 bif decide (1048576< (x0.length:Int)) then
 (some true)
 else
 ((Vm.zji x0).bind fun a=>
 (Vm.zlX (Vm.Repo.mk a.1.Commits a.1.Heads) a.2.1 a.2.2).bind fun b=>
 jn (fun(e:Bool)=>
 bif e then
 ((Vm.zln (Vm.Repo.mk a.1.Commits a.1.Heads) a.2.1 a.2.2).bind fun f=>
 (Vm.zfg b f).bind fun g=>
 some g)
 else
 ((Vm.zkf (Vm.Repo.mk a.1.Commits a.1.Heads) a.2.1).bind fun d=>
 jn (fun(m:Bool) (h:Int) (n:Int)=>
 some ((h:Int)==(b.length:Int))) fun i=>
 zhH a b d i (((w64 ((d.length:Int)-1))+1-0).toNat+1) false 0 (w64 ((d.length:Int)-1)))) fun c=>
 (Vm.zln (Vm.Repo.mk a.1.Commits a.1.Heads) a.2.1 a.2.2).bind fun j=>
 (Vm.zfg b j).bind fun k=>
 bif(!k) then
 (c true)
 else
 ((Vm.zdg (Vm.Repo.mk a.1.Commits a.1.Heads)).bind fun l=>
 bif(!l) then
 (c true)
 else
 (bif decide (a.2.1< (0:Int)) then
 (c true)
 else
 (c (decide (a.1.Commits.length<=(a.2.1:Int)))))))
end Go.Vm
