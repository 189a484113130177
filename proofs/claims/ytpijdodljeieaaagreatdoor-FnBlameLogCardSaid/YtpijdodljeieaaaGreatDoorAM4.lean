/- Models of the functions: plain Lean, printed by a program of ours. Conditions: none. -/
import Derived.Test.YtpijdodljeieaaaGreatDoorALw
import Derived.Test.YtpijdodljeieaaaGreatDoorAM0
import Derived.Test.YtpijdodljeieaaaGreatDoorAM1
import Derived.Test.YtpijdodljeieaaaGreatDoorAM2
namespace Go.Vm
open Go Go.Sx
set_option linter.unusedVariables false
set_option linter.unusedSimpArgs false
def zea (x0:List Byte):Option (Vm.Repo×Int×Str):=
 (Vm.zcu x0).bind fun d=>
 (Vm.zcs d).bind fun a=>
 (Vm.zhZ (Vm.l30Rd.mk d.b a.2) (Vm.Repo.mk a.1.Commits a.1.Heads)).bind fun c=>
 jn (fun(i:Bool) (f:List Byte) (g:Int)=>
 bif i then
 ((gi a.1.Commits c.1).bind fun j=>
 (gi a.1.Commits c.1).bind fun k=>
 (Vm.zaz (Vm.l30Rd.mk f g) (k.Tree.length:Int)).bind fun l=>
 (gi j.Tree l.1).bind fun m=>
 some (Vm.Repo.mk a.1.Commits a.1.Heads,c.1,m.Path))
 else
 ((Vm.zcv (Vm.l30Rd.mk f g)).bind fun n=>
 some (Vm.Repo.mk a.1.Commits a.1.Heads,c.1,n.1))) fun e=>
 (Vm.ze9 c.1 0 (w64 ((a.1.Commits.length:Int)-1))).bind fun o=>
 bif o then
 ((gi a.1.Commits c.1).bind fun p=>
 bif decide (0< (p.Tree.length:Int)) then
 ((Vm.zaz (Vm.l30Rd.mk d.b c.2) 4).bind fun h=>
 e (decide (0< (h.1:Int))) d.b h.2)
 else
 (e false d.b c.2))
 else
 (e false d.b c.2)
def zdp (x0:Vm.Repo)(x1:List Int)(b:Bool->Int->Option (Bool)):Nat->Bool->Int->Option (Bool)
 |0,_,_=>none
 |m+1,c,a=>
 bif decide (a< (x1.length:Int)) then
 ((gi x1 a).bind fun d=>
 (Vm.zby x0 d).bind fun e=>
 bif(!e) then
 (some false)
 else
 (zdp x0 x1 b m c (w64 (a+1))))
 else
 (b c a)
def zf4 (x0:Vm.Repo)(x1:List Int):Option (Bool):=
 (Vm.zct x0).bind fun a=>
 bif(!a) then
 (some false)
 else
 (jn (fun(c:Bool) (d:Int)=>
 some true) fun b=>
 zdp x0 x1 b (((x1.length:Int)-0).toNat+1) false 0)
def zfy (x0:List Vm.File)(x1:Str)(b:List Str->Bool->Int->Option ((List Str)×Bool)):Nat->List Str->Bool->Int->Option ((List Str)×Bool)
 |0,_,_,_=>none
 |m+1,c,d,a=>
 bif decide (a< (x0.length:Int)) then
 ((gi x0 a).bind fun e=>
 bif(e.Path==x1) then
 ((Vm.zdY e.Text).bind fun f=>
 some (f,true))
 else
 (zfy x0 x1 b m c d (w64 (a+1))))
 else
 (b c d a)
def ziz (x0:List Vm.File)(x1:Str):Option ((List Str)×Bool):=
 jn (fun(b:List Str) (c:Bool) (d:Int)=>
 some (([]:List Str),false)) fun a=>
 zfy x0 x1 a (((x0.length:Int)-0).toNat+1) ([]:List Str) false 0
def zdi (x0:Vm.Repo)(x1:Int):Option (Int):=
 (gi x0.Commits x1).bind fun a=>
 bif((a.Parents.length:Int)==0) then
 (some (-1))
 else
 ((gi x0.Commits x1).bind fun b=>
 (gi b.Parents 0).bind fun c=>
 some c)
def zgz (x0:List Str)(x1:List Str)(b:Int)(d:Int->List (List Int)->Option ((List (List Int)))):Nat->Int->List (List Int)->Option ((List (List Int)))
 |0,_,_=>none
 |m+1,a,c=>
 bif decide (0<=(a:Int)) then
 (jn (fun(h:List (List Int))=>
 zgz x0 x1 b d m (w64 (a-1)) h) fun e=>
 (gi x0 b).bind fun i=>
 (gi x1 a).bind fun j=>
 bif(i==j) then
 ((gi c b).bind fun f=>
 (gi c (w64 (b+1))).bind fun k=>
 (gi k (w64 (a+1))).bind fun l=>
 (gi f a).bind fun v=>
 (siM f a (w64 (l+1))).bind fun n=>
 (siM c b n).bind fun o=>
 e o)
 else
 ((gi c b).bind fun g=>
 (gi c (w64 (b+1))).bind fun p=>
 (gi p a).bind fun q=>
 (gi c b).bind fun r=>
 (gi r (w64 (a+1))).bind fun s=>
 (gi g a).bind fun w=>
 (siM g a (zne q s)).bind fun t=>
 (siM c b t).bind fun u=>
 e u))
 else
 (d a c)
def zfg (x0:List Str)(x1:List Str)(b:Int->List (List Int)->Option ((List (List Int)))):Nat->Int->List (List Int)->Option ((List (List Int)))
 |0,_,_=>none
 |m+1,a,c=>
 bif decide (0<=(a:Int)) then
 (jn (fun(f:Int) (d:List (List Int))=>
 zfg x0 x1 b m (w64 (a-1)) d) fun e=>
 zgz x0 x1 a e (((w64 ((x1.length:Int)-1))+1-0).toNat+1) (w64 ((x1.length:Int)-1)) c)
 else
 (b a c)
def zgA (x1:List Str)(c:List (List Int))(d:Int->List (List Int)->Option ((List (List Int)))):Nat->Int->List (List Int)->Option ((List (List Int)))
 |0,_,_=>none
 |m+1,a,b=>
 bif decide (a< (c.length:Int)) then
 ((mkM (w64 ((x1.length:Int)+1)) (0:Int)).bind fun e=>
 (gi b a).bind fun g=>
 (siM b a e).bind fun f=>
 zgA x1 c d m (w64 (a+1)) f)
 else
 (d a b)
def zk4 (x0:List Str)(x1:List Str):Option ((List (List Int))):=
 (mkM (w64 ((x0.length:Int)+1)) (([]:List Int):List Int)).bind fun a=>
 jn (fun(f:Int) (b:List (List Int))=>
 jn (fun(g:Int) (c:List (List Int))=>
 some c) fun d=>
 zfg x0 x1 d (((w64 ((x0.length:Int)-1))+1-0).toNat+1) (w64 ((x0.length:Int)-1)) b) fun e=>
 zgA x1 a e (((a.length:Int)-0).toNat+1) 0 a
def zf5 (x0:List Str)(x1:List Str)(c:(List (List Int)))(d:List Int->Int->Int->Option ((List Int))):Nat->List Int->Int->Int->Option ((List Int))
 |0,_,_,_=>none
 |m+1,e,b,a=>
 bif decide (b< (x0.length:Int)) then
 (jn (fun(h:Bool)=>
 bif h then
 ((apM e [a]).bind fun i=>
 zf5 x0 x1 c d m i (w64 (b+1)) (w64 (a+1)))
 else
 (jn (fun(j:Bool)=>
 bif j then
 ((apM e [(-1)]).bind fun k=>
 zf5 x0 x1 c d m k (w64 (b+1)) a)
 else
 (zf5 x0 x1 c d m e b (w64 (a+1)))) fun f=>
 bif((a:Int)==(x1.length:Int)) then
 (f true)
 else
 ((gi c (w64 (b+1))).bind fun l=>
 (gi l a).bind fun n=>
 (gi c b).bind fun u64=>
 (gi u64 (w64 (a+1))).bind fun o=>
 f (decide (o<=(n:Int)))))) fun g=>
 bif decide (a< (x1.length:Int)) then
 ((gi x0 b).bind fun p=>
 (gi x1 a).bind fun q=>
 g (p==q))
 else
 (g false))
 else
 (d e b a)
def zfQ (x0:List Str)(x1:List Str):Option ((List Int)):=
 (Vm.zk4 x0 x1).bind fun a=>
 jn (fun(b:List Int) (d:Int) (e:Int)=>
 some b) fun c=>
 zf5 x0 x1 a c (x0.length+x1.length+1) ([]:List Int) 0 0
def zaZ (e:(List Int)×Bool)(c:(List Int))(f:Int->List Int->Option ((List Int)×Bool)):Nat->Int->List Int->Option ((List Int)×Bool)
 |0,_,_=>none
 |m+1,a,b=>
 bif decide (a< (c.length:Int)) then
 (jn (fun(h:List Int)=>
 zaZ e c f m (w64 (a+1)) h) fun g=>
 (gi c a).bind fun d=>
 bif decide (0<=(d:Int)) then
 ((gi e.1 a).bind fun i=>
 (gi b d).bind fun k=>
 (siM b d i).bind fun j=>
 g j)
 else
 (g b))
 else
 (f a b)
def zcG (x1:Int)(c:List Int)(d:Int->List Int->Option ((List Int)×Bool)):Nat->Int->List Int->Option ((List Int)×Bool)
 |0,_,_=>none
 |m+1,a,b=>
 bif decide (a< (c.length:Int)) then
 ((gi b a).bind fun f=>
 (siM b a x1).bind fun e=>
 zcG x1 c d m (w64 (a+1)) e)
 else
 (d a b)
def impl_Repo_blame_r:Nat->Vm.Repo->Int->Str->Option ((List Int)×Bool)
 |0,_,_,_=>none
 |m+1,x0,x1,x2=>
 (Vm.zbK x0 x1).bind fun g=>
 (Vm.ziz g x2).bind fun a=>
 bif(!a.2) then
 (some (([]:List Int),false))
 else
 ((mkM (a.1.length:Int) (0:Int)).bind fun b=>
 jn (fun(n:Int) (c:List Int)=>
 (Vm.zdi x0 x1).bind fun d=>
 bif decide (d< (0:Int)) then
 (some (c,true))
 else
 ((Vm.impl_Repo_blame_r m x0 d x2).bind fun e=>
 bif(!e.2) then
 (some (c,true))
 else
 ((Vm.zbK x0 d).bind fun h=>
 (Vm.ziz h x2).bind fun i=>
 (Vm.zfQ i.1 a.1).bind fun f=>
 jn (fun(o:Int) (j:List Int)=>
 some (j,true)) fun k=>
 zaZ e f k (((f.length:Int)-0).toNat+1) 0 c))) fun l=>
 zcG x1 b l (((b.length:Int)-0).toNat+1) 0 b)
def zj1 (x0:Vm.Repo)(x1:Int)(x2:Str):Option ((List Int)×Bool):=
 impl_Repo_blame_r (x1.toNat+2) x0 x1 x2
def zgp (x0:Vm.Repo)(x1:Int)(x2:Str):Option ((List Int)):=
 (Vm.zf4 x0 ([x1]:List Int)).bind fun a=>
 bif(!a) then
 (some ([]:List Int))
 else
 ((Vm.zj1 x0 x1 x2).bind fun b=>
 some b.1)
def zcM (d:(List Int))(b:(List Int))(e:Int->List Int->Option ((List Int))):Nat->Int->List Int->Option ((List Int))
 |0,_,_=>none
 |m+1,a,c=>
 bif decide (a< (b.length:Int)) then
 (jn (fun(h:List Int)=>
 zcM d b e m (w64 (a+1)) h) fun f=>
 (gi b a).bind fun i=>
 bif decide (0<=(i:Int)) then
 ((gi b a).bind fun g=>
 (gi d a).bind fun j=>
 (gi c g).bind fun l=>
 (siM c g j).bind fun k=>
 f k)
 else
 (f c))
 else
 (e a c)
def zeU (x1:Int)(b:(List Str)×Bool)(c:List Int->Int->Option ((List Int))):Nat->List Int->Int->Option ((List Int))
 |0,_,_=>none
 |m+1,d,a=>
 bif decide (a< (b.1.length:Int)) then
 ((apM d [x1]).bind fun e=>
 zeU x1 b c m e (w64 (a+1)))
 else
 (c d a)
def spec_l11Of_r:Nat->Vm.Repo->Int->Str->Option ((List Int))
 |0,_,_,_=>none
 |m+1,x0,x1,x2=>
 (gi x0.Commits x1).bind fun f=>
 (Vm.zdU f.Tree x2).bind fun a=>
 bif(!a.2) then
 (some ([]:List Int))
 else
 (jn (fun(b:List Int) (o:Int)=>
 (gi x0.Commits x1).bind fun g=>
 bif((g.Parents.length:Int)==0) then
 (some b)
 else
 ((gi x0.Commits x1).bind fun h=>
 (gi h.Parents 0).bind fun c=>
 (gi x0.Commits c).bind fun i=>
 (Vm.zdU i.Tree x2).bind fun d=>
 bif(!d.2) then
 (some b)
 else
 ((Vm.spec_l11Of_r m x0 c x2).bind fun j=>
 (Vm.zcj d.1 a.1).bind fun e=>
 jn (fun(p:Int) (k:List Int)=>
 some k) fun l=>
 zcM j e l (((e.length:Int)-0).toNat+1) 0 b))) fun n=>
 zeU x1 a n (((a.1.length:Int)-0).toNat+1) ([]:List Int) 0)
def zh3 (x0:Vm.Repo)(x1:Int)(x2:Str):Option ((List Int)):=
 spec_l11Of_r (x1.toNat+2) x0 x1 x2
def zfT (x0:Vm.Repo)(x1:Int)(x2:Str):Option ((List Int)):=
 jn (fun(b:Bool)=>
 bif b then
 (some ([]:List Int))
 else
 ((Vm.zh3 x0 x1 x2).bind fun c=>
 some c)) fun a=>
 (Vm.zcr x0).bind fun d=>
 bif(!d) then
 (a true)
 else
 ((Vm.ze9 x1 0 (w64 ((x0.Commits.length:Int)-1))).bind fun e=>
 a (!e))
end Go.Vm
