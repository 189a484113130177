/- Models of the functions: plain Lean, printed by a program of ours. Conditions: none. -/
import Derived.Test.YtiahldhbknpmiaaGreatDoorALw
import Derived.Test.YtiahldhbknpmiaaGreatDoorAM0
import Derived.Test.YtiahldhbknpmiaaGreatDoorAM2
namespace Go.Vm
open Go Go.Sx
set_option linter.unusedVariables false
set_option linter.unusedSimpArgs false
def zdf (x0:Vm.Repo)(b:List Int)(c:Int)(d:Bool->Int->Option ((List Int))):Nat->Bool->Int->Option ((List Int))
 |0,_,_=>none
 |m+1,e,a=>
 bif decide (a< (b.length:Int)) then
 (bif e then
 (bif((a:Int)==(c:Int)) then
 (zdf x0 b c d m true (w64 (a+1)))
 else
 ((gi b a).bind fun f=>
 (gi b c).bind fun g=>
 (Vm.zfu x0 f).bind fun h=>
 (Vm.zgm h g).bind fun i=>
 zdf x0 b c d m (!i) (w64 (a+1))))
 else
 (zdf x0 b c d m false (w64 (a+1))))
 else
 (d e a)
def zbG (x0:Vm.Repo)(a:List Int)(d:List Int->Int->Option ((List Int))):Nat->List Int->Int->Option ((List Int))
 |0,_,_=>none
 |m+1,c,b=>
 bif decide (b< (a.length:Int)) then
 (jn (fun(f:List Int)=>
 zbG x0 a d m f (w64 (b+1))) fun e=>
 jn (fun(g:Bool) (k:Int)=>
 bif g then
 ((gi a b).bind fun h=>
 (apM c [h]).bind fun i=>
 e i)
 else
 (e c)) fun j=>
 zdf x0 a b j (((a.length:Int)-0).toNat+1) true 0)
 else
 (d c b)
def zdU (b:(List Int))(d:(List Int))(e:List Int->Int->Option ((List Int))):Nat->List Int->Int->Option ((List Int))
 |0,_,_=>none
 |m+1,c,a=>
 bif decide (a< (b.length:Int)) then
 (jn (fun(g:List Int)=>
 zdU b d e m g (w64 (a+1))) fun f=>
 (gi b a).bind fun h=>
 (Vm.zgm d h).bind fun i=>
 bif i then
 ((gi b a).bind fun j=>
 (apM c [j]).bind fun k=>
 f k)
 else
 (f c))
 else
 (e c a)
def zhD (x0:Vm.Repo)(x1:Int)(x2:Int):Option ((List Int)):=
 (Vm.zfu x0 x1).bind fun a=>
 (Vm.zfu x0 x2).bind fun c=>
 jn (fun(b:List Int) (g:Int)=>
 jn (fun(d:List Int) (h:Int)=>
 some d) fun e=>
 zbG x0 b e (((b.length:Int)-0).toNat+1) ([]:List Int) 0) fun f=>
 zdU a c f (((a.length:Int)-0).toNat+1) ([]:List Int) 0
def zh1 (x0:Vm.Repo)(x1:Int)(x2:Int):Option ((List Vm.File)):=
 (Vm.zhD x0 x1 x2).bind fun a=>
 bif((a.length:Int)==0) then
 (some ([]:List File))
 else
 ((gi a (w64 ((a.length:Int)-1))).bind fun b=>
 (gi x0.Commits b).bind fun c=>
 some c.Tree)
def zb9 (x0:List Bool):Option ((List Bool)):=
 if x0.length<=lim then some x0 else none
def zcW (e:Int)(c:(List Int))(f:Int->List Bool->Option ((List Int))):Nat->Int->List Bool->Option ((List Int))
 |0,_,_=>none
 |m+1,a,b=>
 bif decide (a< (c.length:Int)) then
 (jn (fun(h:List Bool)=>
 zcW e c f m (w64 (a+1)) h) fun g=>
 (gi c a).bind fun d=>
 bif((d:Int) !=(e:Int)) then
 ((gi b d).bind fun j=>
 (siM b d false).bind fun i=>
 g i)
 else
 (g b))
 else
 (f a b)
def zbs (x0:Vm.Repo)(b:(List Int))(c:Int->List Bool->Option ((List Int))):Nat->Int->List Bool->Option ((List Int))
 |0,_,_=>none
 |m+1,a,d=>
 bif decide (a< (b.length:Int)) then
 ((gi b a).bind fun e=>
 (Vm.za2 x0 e).bind fun g=>
 (Vm.zbL g).bind fun f=>
 jn (fun(j:Int) (h:List Bool)=>
 zbs x0 b c m (w64 (a+1)) h) fun i=>
 zcW e f i (((f.length:Int)-0).toNat+1) 0 d)
 else
 (c a d)
def zcy (c:(List Bool))(d:(List Bool))(e:List Bool)(f:Int->List Bool->Option ((List Int))):Nat->Int->List Bool->Option ((List Int))
 |0,_,_=>none
 |m+1,a,b=>
 bif decide (a< (e.length:Int)) then
 ((gi c a).bind fun g=>
 bif g then
 ((gi d a).bind fun h=>
 (gi b a).bind fun k=>
 (siM b a h).bind fun i=>
 zcy c d e f m (w64 (a+1)) i)
 else
 ((gi b a).bind fun l=>
 (siM b a false).bind fun j=>
 zcy c d e f m (w64 (a+1)) j))
 else
 (f a b)
def zfw (x0:Vm.Repo)(x1:Int)(x2:Int):Option ((List Int)):=
 (Vm.za2 x0 x1).bind fun d=>
 (Vm.za2 x0 x2).bind fun e=>
 (mkM (x0.Commits.length:Int) (false:Bool)).bind fun a=>
 jn (fun(k:Int) (b:List Bool)=>
 (Vm.zb9 b).bind fun f=>
 (Vm.zbL b).bind fun c=>
 jn (fun(l:Int) (g:List Bool)=>
 (Vm.zbL g).bind fun h=>
 some h) fun i=>
 zbs x0 c i (((c.length:Int)-0).toNat+1) 0 f) fun j=>
 zcy d e a j (((a.length:Int)-0).toNat+1) 0 a
def zcX (x0:Vm.Repo)(x1:Int)(x2:Int):Option ((List Vm.File)):=
 (Vm.zfw x0 x1 x2).bind fun a=>
 bif((a.length:Int)==0) then
 (some ([]:List File))
 else
 ((gi a (w64 ((a.length:Int)-1))).bind fun b=>
 (Vm.zau x0 b).bind fun c=>
 some c)
end Go.Vm
