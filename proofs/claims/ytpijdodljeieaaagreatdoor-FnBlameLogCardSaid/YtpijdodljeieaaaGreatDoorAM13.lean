/- Models of the functions: plain Lean, printed by a program of ours. Conditions: none. -/
import Derived.Test.YtpijdodljeieaaaGreatDoorALw
import Derived.Test.YtpijdodljeieaaaGreatDoorAM0
import Derived.Test.YtpijdodljeieaaaGreatDoorAM2
import Derived.Test.YtpijdodljeieaaaGreatDoorAM4
import Derived.Test.YtpijdodljeieaaaGreatDoorAM8
namespace Go.Vm
open Go Go.Sx
set_option linter.unusedVariables false
set_option linter.unusedSimpArgs false
def zl4 (x0:Vm.File)(x1:Str):Option (Bool):=
 jn (fun(b:Bool)=>
 some b) fun a=>
 bif(x0.Path==x1) then
 (a true)
 else
 ((saM x1 ([47]:Str)).bind fun c=>
 (Vm.strings_HasPrefix x0.Path c).bind fun d=>
 a d)
def zia (x0:List Vm.File)(x1:Str)(c:List Vm.File->Int->Option ((List Vm.File))):Nat->List Vm.File->Int->Option ((List Vm.File))
 |0,_,_=>none
 |m+1,b,a=>
 bif decide (a< (x0.length:Int)) then
 (jn (fun(f:List Vm.File)=>
 zia x0 x1 c m f (w64 (a+1))) fun d=>
 (gi x0 a).bind fun e=>
 (Vm.zl4 e x1).bind fun g=>
 bif g then
 ((apM b [e]).bind fun h=>
 d h)
 else
 (d b))
 else
 (c b a)
def zkY (x0:List Vm.File)(x1:Str):Option ((List Vm.File)):=
 jn (fun(a:List Vm.File) (c:Int)=>
 some a) fun b=>
 zia x0 x1 b (((x0.length:Int)-0).toNat+1) ([]:List File) 0
def zca (x0:List Str)(x1:List Str)(b:Bool->Int->Option (Bool)):Nat->Bool->Int->Option (Bool)
 |0,_,_=>none
 |m+1,c,a=>
 bif decide (a< (x0.length:Int)) then
 ((gi x0 a).bind fun d=>
 (gi x1 a).bind fun e=>
 bif(d !=e) then
 (some false)
 else
 (zca x0 x1 b m c (w64 (a+1))))
 else
 (b c a)
def zdO (x0:List Str)(x1:List Str):Option (Bool):=
 bif((x0.length:Int) !=(x1.length:Int)) then
 (some false)
 else
 (jn (fun(b:Bool) (c:Int)=>
 some true) fun a=>
 zca x0 x1 a (((x0.length:Int)-0).toNat+1) false 0)
def zjd (x0:Vm.File)(x1:Vm.File):Option (Bool):=
 jn (fun(b:Bool)=>
 some b) fun a=>
 bif(x0.Path==x1.Path) then
 ((Vm.zdO x0.Text x1.Text).bind fun c=>
 a c)
 else
 (a false)
def zak (x0:List Vm.File)(x1:List Vm.File)(b:Bool->Int->Option (Bool)):Nat->Bool->Int->Option (Bool)
 |0,_,_=>none
 |m+1,c,a=>
 bif decide (a< (x0.length:Int)) then
 ((gi x0 a).bind fun d=>
 (gi x1 a).bind fun e=>
 (Vm.zjd d e).bind fun f=>
 bif(!f) then
 (some false)
 else
 (zak x0 x1 b m c (w64 (a+1))))
 else
 (b c a)
def zaH (x0:List Vm.File)(x1:List Vm.File):Option (Bool):=
 bif((x0.length:Int) !=(x1.length:Int)) then
 (some false)
 else
 (jn (fun(b:Bool) (c:Int)=>
 some true) fun a=>
 zak x0 x1 a (((x0.length:Int)-0).toNat+1) false 0)
def zjn (x0:List Vm.File)(x1:List Vm.File):Option (Bool):=
 (Vm.zaH x0 x1).bind fun a=>
 some a
def zel (x0:Vm.Repo)(x2:Str)(c:(List Vm.File))(b:Vm.Commit)(d:Bool->Int->Option (Bool)):Nat->Bool->Int->Option (Bool)
 |0,_,_=>none
 |m+1,e,a=>
 bif decide (a< (b.Parents.length:Int)) then
 ((gi b.Parents a).bind fun f=>
 (Vm.zbK x0 f).bind fun g=>
 (Vm.zkY g x2).bind fun h=>
 (Vm.zjn c h).bind fun i=>
 bif i then
 (some false)
 else
 (zel x0 x2 c b d m e (w64 (a+1))))
 else
 (d e a)
def zhl (x0:Vm.Repo)(x1:Int)(x2:Str):Option (Bool):=
 (Vm.zbK x0 x1).bind fun c=>
 (Vm.zkY c x2).bind fun a=>
 (gi x0.Commits x1).bind fun d=>
 bif((d.Parents.length:Int)==0) then
 (some (decide (0< (a.length:Int))))
 else
 ((gi x0.Commits x1).bind fun b=>
 jn (fun(f:Bool) (g:Int)=>
 some true) fun e=>
 zel x0 x2 a b e (((b.Parents.length:Int)-0).toNat+1) false 0)
def zj0 (x0:Int)(x1:Vm.Repo)(x2:Str):Option (Bool):=
 (Vm.zhl x1 x0 x2).bind fun a=>
 some a
def zdL (d:List Bool->Option ((List Bool)))(a:Vm.Commit):Nat->Int->List Bool->Option ((List Bool))
 |0,_,_=>none
 |m+1,b,c=>
 bif decide (b< (a.Parents.length:Int)) then
 ((gi a.Parents b).bind fun e=>
 (gi c e).bind fun g=>
 (siM c e true).bind fun f=>
 zdL d a m (w64 (b+1)) f)
 else
 (d c)
def zcN (x0:Vm.Repo)(c:Int->List Bool->Option ((List Bool))):Nat->Int->List Bool->Option ((List Bool))
 |0,_,_=>none
 |m+1,a,b=>
 bif decide (0<=(a:Int)) then
 (jn (fun(f:List Bool)=>
 zcN x0 c m (w64 (a-1)) f) fun d=>
 (gi b a).bind fun g=>
 bif g then
 ((gi x0.Commits a).bind fun e=>
 zdL d e (((e.Parents.length:Int)-0).toNat+1) 0 b)
 else
 (d b))
 else
 (c a b)
def zgl (x0:Vm.Repo)(x1:Int):Option ((List Bool)):=
 (mkM (x0.Commits.length:Int) (false:Bool)).bind fun a=>
 (gi a x1).bind fun e=>
 (siM a x1 true).bind fun b=>
 jn (fun(f:Int) (c:List Bool)=>
 some c) fun d=>
 zcN x0 d ((x1+1-0).toNat+1) x1 b
def zht (x0:List Bool)(c:List Int->Int->Option ((List Int))):Nat->List Int->Int->Option ((List Int))
 |0,_,_=>none
 |m+1,b,a=>
 bif decide (a< (x0.length:Int)) then
 (jn (fun(e:List Int)=>
 zht x0 c m e (w64 (a+1))) fun d=>
 (gi x0 a).bind fun f=>
 bif f then
 ((apM b [a]).bind fun g=>
 d g)
 else
 (d b))
 else
 (c b a)
def zkI (x0:List Bool):Option ((List Int)):=
 jn (fun(a:List Int) (c:Int)=>
 some a) fun b=>
 zht x0 b (((x0.length:Int)-0).toNat+1) ([]:List Int) 0
def zd0 (d:Int->Int->List Int->Option ((List Int))):Nat->Int->Int->List Int->Option ((List Int))
 |0,_,_,_=>none
 |m+1,a,b,c=>
 bif decide (a< (b:Int)) then
 ((gi c b).bind fun e=>
 (gi c a).bind fun f=>
 (gi c a).bind fun i=>
 (siM c a e).bind fun g=>
 (gi c b).bind fun j=>
 (siM g b f).bind fun h=>
 zd0 d m (w64 (a+1)) (w64 (b-1)) h)
 else
 (d a b c)
def zdM (x0:List Int):Option ((List Int)):=
 jn (fun(c:Int) (d:Int) (a:List Int)=>
 some a) fun b=>
 zd0 b (((w64 ((x0.length:Int)-1))-0).toNat+1) 0 (w64 ((x0.length:Int)-1)) x0
def zba (x3:Vm.Repo)(x4:Str)(b:(List Int))(d:List Int->Int->Option ((List Int))):Nat->List Int->Int->Option ((List Int))
 |0,_,_=>none
 |m+1,c,a=>
 bif decide (a< (b.length:Int)) then
 (jn (fun(g:List Int)=>
 zba x3 x4 b d m g (w64 (a+1))) fun e=>
 (gi b a).bind fun f=>
 (Vm.zj0 f (Vm.Repo.mk x3.Commits x3.Heads) x4).bind fun h=>
 bif h then
 ((apM c [f]).bind fun i=>
 e i)
 else
 (e c))
 else
 (d c a)
def zdV (x0:Vm.Repo)(x1:Int)(x3:Vm.Repo)(x4:Str):Option ((List Int)):=
 (Vm.zf4 x0 ([x1]:List Int)).bind fun b=>
 bif(!b) then
 (some ([]:List Int))
 else
 ((Vm.zgl x0 x1).bind fun c=>
 (Vm.zkI c).bind fun a=>
 jn (fun(d:List Int) (g:Int)=>
 (Vm.zdM d).bind fun e=>
 some e) fun f=>
 zba x3 x4 a f (((a.length:Int)-0).toNat+1) ([]:List Int) 0)
def zj8 (x0:Vm.Repo)(x1:Int)(x2:Str):Option ((List Int)):=
 (Vm.zdV x0 x1 x0 x2).bind fun a=>
 some a
def zfi (c:Vm.Repo×Int×Str)(b:(List Int))(d:(List Int))(e:Bool->Int->Option (Bool)):Nat->Bool->Int->Option (Bool)
 |0,_,_=>none
 |m+1,f,a=>
 bif decide (a< (b.length:Int)) then
 (jn (fun(h:Bool)=>
 bif h then
 (some false)
 else
 (zfi c b d e m f (w64 (a+1)))) fun g=>
 (gi b a).bind fun i=>
 (gi c.1.Commits i).bind fun j=>
 bif decide (j.Parents.length< (2:Int)) then
 ((gi b a).bind fun k=>
 (Vm.zkj d k).bind fun l=>
 g (!l))
 else
 (g false))
 else
 (e f a)
def zi5 (x0:List Byte):Option (Bool):=
 bif decide (1048576< (x0.length:Int)) then
 (some true)
 else
 ((Vm.zea x0).bind fun a=>
 (Vm.zgp (Vm.Repo.mk a.1.Commits a.1.Heads) a.2.1 a.2.2).bind fun b=>
 jn (fun(d:Bool)=>
 bif d then
 ((Vm.zfT (Vm.Repo.mk a.1.Commits a.1.Heads) a.2.1 a.2.2).bind fun e=>
 (Vm.zdy b e).bind fun f=>
 some f)
 else
 ((Vm.zj8 (Vm.Repo.mk a.1.Commits a.1.Heads) a.2.1 a.2.2).bind fun g=>
 jn (fun(k:Bool) (l:Int)=>
 some true) fun h=>
 zfi a b g h (((b.length:Int)-0).toNat+1) false 0)) fun c=>
 (Vm.zfT (Vm.Repo.mk a.1.Commits a.1.Heads) a.2.1 a.2.2).bind fun i=>
 (Vm.zdy b i).bind fun j=>
 bif(!j) then
 (c true)
 else
 (c ((b.length:Int)==0)))
end Go.Vm
