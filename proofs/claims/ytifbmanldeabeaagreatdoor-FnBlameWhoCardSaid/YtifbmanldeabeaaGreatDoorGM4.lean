/- Models of the functions: plain Lean, printed by a program of ours. Conditions: none. -/
import Derived.Test.YtifbmanldeabeaaGreatDoorGLw
import Derived.Test.YtifbmanldeabeaaGreatDoorGM0
import Derived.Test.YtifbmanldeabeaaGreatDoorGM2
namespace Go.Vm
open Go Go.Sx
set_option linter.unusedVariables false
set_option linter.unusedSimpArgs false
def zlD (x0:Vm.l30Rd)(x1:Vm.Repo):Option (Int×Int):=
 (Vm.zav x0 14).bind fun a=>
 bif(a.1==0) then
 ((Vm.zdT (Vm.l30Rd.mk x0.b a.2) ([(-1),(x1.Commits.length:Int)]:List Int)).bind fun c=>
 some (c.1,c.2))
 else
 ((Vm.zav (Vm.l30Rd.mk x0.b a.2) (x1.Commits.length:Int)).bind fun d=>
 some (d.1,d.2))
def zfR (x0:List Byte):Option (Vm.Repo×Int×Str):=
 (Vm.zeQ x0).bind fun d=>
 (Vm.zer d).bind fun a=>
 (Vm.zlD (Vm.l30Rd.mk d.b a.2) (Vm.Repo.mk a.1.Commits a.1.Heads)).bind fun c=>
 jn (fun(i:Bool) (f:List Byte) (g:Int)=>
 bif i then
 ((gi a.1.Commits c.1).bind fun j=>
 (gi a.1.Commits c.1).bind fun k=>
 (Vm.zav (Vm.l30Rd.mk f g) (k.Tree.length:Int)).bind fun l=>
 (gi j.Tree l.1).bind fun m=>
 some (Vm.Repo.mk a.1.Commits a.1.Heads,c.1,m.Path))
 else
 ((Vm.zd6 (Vm.l30Rd.mk f g)).bind fun n=>
 some (Vm.Repo.mk a.1.Commits a.1.Heads,c.1,n.1))) fun e=>
 (Vm.zeY c.1 0 (w64 ((a.1.Commits.length:Int)-1))).bind fun o=>
 bif o then
 ((gi a.1.Commits c.1).bind fun p=>
 bif decide (0< (p.Tree.length:Int)) then
 ((Vm.zav (Vm.l30Rd.mk d.b c.2) 4).bind fun h=>
 e (decide (0< (h.1:Int))) d.b h.2)
 else
 (e false d.b c.2))
 else
 (e false d.b c.2)
def zfn (x0:List Byte):Option (Vm.Repo×Int×Str):=
 (Vm.zfR x0).bind fun a=>
 some (Vm.Repo.mk a.1.Commits a.1.Heads,a.2.1,a.2.2)
def zey (x0:Vm.Repo)(x1:List Int)(b:Bool->Int->Option (Bool)):Nat->Bool->Int->Option (Bool)
 |0,_,_=>none
 |m+1,c,a=>
 bif decide (a< (x1.length:Int)) then
 ((gi x1 a).bind fun d=>
 (Vm.zbI x0 d).bind fun e=>
 bif(!e) then
 (some false)
 else
 (zey x0 x1 b m c (w64 (a+1))))
 else
 (b c a)
def zio (x0:Vm.Repo)(x1:List Int):Option (Bool):=
 (Vm.zfa x0).bind fun a=>
 bif(!a) then
 (some false)
 else
 (jn (fun(c:Bool) (d:Int)=>
 some true) fun b=>
 zey x0 x1 b (((x1.length:Int)-0).toNat+1) false 0)
def zes (x0:Vm.Repo)(x1:Int):Option (Int):=
 (gi x0.Commits x1).bind fun a=>
 bif((a.Parents.length:Int)==0) then
 (some (-1))
 else
 ((gi x0.Commits x1).bind fun b=>
 (gi b.Parents 0).bind fun c=>
 some c)
def zbG (e:(List Int)×Bool)(c:(List Int))(f:Int->List Int->Option ((List Int)×Bool)):Nat->Int->List Int->Option ((List Int)×Bool)
 |0,_,_=>none
 |m+1,a,b=>
 bif decide (a< (c.length:Int)) then
 (jn (fun(h:List Int)=>
 zbG e c f m (w64 (a+1)) h) fun g=>
 (gi c a).bind fun d=>
 bif decide (0<=(d:Int)) then
 ((gi e.1 a).bind fun i=>
 (gi b d).bind fun k=>
 (siM b d i).bind fun j=>
 g j)
 else
 (g b))
 else
 (f a b)
def zdx (x1:Int)(c:List Int)(d:Int->List Int->Option ((List Int)×Bool)):Nat->Int->List Int->Option ((List Int)×Bool)
 |0,_,_=>none
 |m+1,a,b=>
 bif decide (a< (c.length:Int)) then
 ((gi b a).bind fun f=>
 (siM b a x1).bind fun e=>
 zdx x1 c d m (w64 (a+1)) e)
 else
 (d a b)
def impl_Repo_blame_r:Nat->Vm.Repo->Int->Str->Option ((List Int)×Bool)
 |0,_,_,_=>none
 |m+1,x0,x1,x2=>
 (Vm.zaX x0 x1).bind fun g=>
 (Vm.zfE g x2).bind fun a=>
 bif(!a.2) then
 (some (([]:List Int),false))
 else
 ((mkM (a.1.length:Int) (0:Int)).bind fun b=>
 jn (fun(n:Int) (c:List Int)=>
 (Vm.zes x0 x1).bind fun d=>
 bif decide (d< (0:Int)) then
 (some (c,true))
 else
 ((Vm.impl_Repo_blame_r m x0 d x2).bind fun e=>
 bif(!e.2) then
 (some (c,true))
 else
 ((Vm.zaX x0 d).bind fun h=>
 (Vm.zfE h x2).bind fun i=>
 (Vm.zeG i.1 a.1).bind fun f=>
 jn (fun(o:Int) (j:List Int)=>
 some (j,true)) fun k=>
 zbG e f k (((f.length:Int)-0).toNat+1) 0 c))) fun l=>
 zdx x1 b l (((b.length:Int)-0).toNat+1) 0 b)
def zmc (x0:Vm.Repo)(x1:Int)(x2:Str):Option ((List Int)×Bool):=
 impl_Repo_blame_r (x1.toNat+2) x0 x1 x2
def ziq (x0:Vm.Repo)(x1:Int)(x2:Str):Option ((List Int)):=
 (Vm.zio x0 ([x1]:List Int)).bind fun a=>
 bif(!a) then
 (some ([]:List Int))
 else
 ((Vm.zmc x0 x1 x2).bind fun b=>
 some b.1)
def zdk (c:List (Str×Int))(b:List Str)(d:List Vm.Share->Int->Option ((List Vm.Share))):Nat->List Vm.Share->Int->Option ((List Vm.Share))
 |0,_,_=>none
 |m+1,e,a=>
 bif decide (a< (b.length:Int)) then
 ((gi b a).bind fun f=>
 (mgM c f).bind fun g=>
 (apM e [Vm.Share.mk f g]).bind fun h=>
 zdk c b d m h (w64 (a+1)))
 else
 (d e a)
def zdl (x0:Vm.Repo)(b:(List Int))(d:Int->List (Str×Int)->Option ((List Vm.Share))):Nat->Int->List (Str×Int)->Option ((List Vm.Share))
 |0,_,_=>none
 |m+1,a,c=>
 bif decide (a< (b.length:Int)) then
 ((gi b a).bind fun f=>
 (gi x0.Commits f).bind fun e=>
 (mgM c e.Who).bind fun g=>
 (mpM c e.Who (w64 (g+1))).bind fun h=>
 zdl x0 b d m (w64 (a+1)) h)
 else
 (d a c)
def zir (x0:Vm.Repo)(x1:Int)(x2:Str):Option ((List Vm.Share)):=
 (Vm.ziq x0 x1 x2).bind fun a=>
 jn (fun(g:Int) (b:List (Str×Int))=>
 (zuO b).bind fun c=>
 jn (fun(d:List Vm.Share) (h:Int)=>
 some d) fun e=>
 zdk b c e (((c.length:Int)-0).toNat+1) ([]:List Share) 0) fun f=>
 zdl x0 a f (((a.length:Int)-0).toNat+1) 0 ([]:List (Str×Int))
def zef (d:(List Int))(b:(List Int))(e:Int->List Int->Option ((List Int))):Nat->Int->List Int->Option ((List Int))
 |0,_,_=>none
 |m+1,a,c=>
 bif decide (a< (b.length:Int)) then
 (jn (fun(h:List Int)=>
 zef d b e m (w64 (a+1)) h) fun f=>
 (gi b a).bind fun i=>
 bif decide (0<=(i:Int)) then
 ((gi b a).bind fun g=>
 (gi d a).bind fun j=>
 (gi c g).bind fun l=>
 (siM c g j).bind fun k=>
 f k)
 else
 (f c))
 else
 (e a c)
def zgn (x1:Int)(b:(List Str)×Bool)(c:List Int->Int->Option ((List Int))):Nat->List Int->Int->Option ((List Int))
 |0,_,_=>none
 |m+1,d,a=>
 bif decide (a< (b.1.length:Int)) then
 ((apM d [x1]).bind fun e=>
 zgn x1 b c m e (w64 (a+1)))
 else
 (c d a)
def spec_l11Of_r:Nat->Vm.Repo->Int->Str->Option ((List Int))
 |0,_,_,_=>none
 |m+1,x0,x1,x2=>
 (gi x0.Commits x1).bind fun f=>
 (Vm.zdN f.Tree x2).bind fun a=>
 bif(!a.2) then
 (some ([]:List Int))
 else
 (jn (fun(b:List Int) (o:Int)=>
 (gi x0.Commits x1).bind fun g=>
 bif((g.Parents.length:Int)==0) then
 (some b)
 else
 ((gi x0.Commits x1).bind fun h=>
 (gi h.Parents 0).bind fun c=>
 (gi x0.Commits c).bind fun i=>
 (Vm.zdN i.Tree x2).bind fun d=>
 bif(!d.2) then
 (some b)
 else
 ((Vm.spec_l11Of_r m x0 c x2).bind fun j=>
 (Vm.zc5 d.1 a.1).bind fun e=>
 jn (fun(p:Int) (k:List Int)=>
 some k) fun l=>
 zef j e l (((e.length:Int)-0).toNat+1) 0 b))) fun n=>
 zgn x1 a n (((a.1.length:Int)-0).toNat+1) ([]:List Int) 0)
def zns (x0:Vm.Repo)(x1:Int)(x2:Str):Option ((List Int)):=
 spec_l11Of_r (x1.toNat+2) x0 x1 x2
def zi8 (x0:Vm.Repo)(x1:Int)(x2:Str):Option ((List Int)):=
 jn (fun(b:Bool)=>
 bif b then
 (some ([]:List Int))
 else
 ((Vm.zns x0 x1 x2).bind fun c=>
 some c)) fun a=>
 (Vm.zcQ x0).bind fun d=>
 bif(!d) then
 (a true)
 else
 ((Vm.zeY x1 0 (w64 ((x0.Commits.length:Int)-1))).bind fun e=>
 a (!e))
def zez (b:List Vm.Share)(c:Vm.Commit)(d:Int->Option ((List Vm.Share))):Nat->Int->Option ((List Vm.Share))
 |0,_=>none
 |m+1,a=>
 jn (fun(f:Bool)=>
 bif f then
 (zez b c d m (w64 (a+1)))
 else
 (d a)) fun e=>
 bif decide (a< (b.length:Int)) then
 ((gi b a).bind fun g=>
 e (Op.bytesLess g.Who c.Who))
 else
 (e false)
def zdm (x0:Vm.Repo)(d:(List Int))(f:List Vm.Share->Int->Option ((List Vm.Share))):Nat->List Vm.Share->Int->Option ((List Vm.Share))
 |0,_,_=>none
 |m+1,a,c=>
 bif decide (c< (d.length:Int)) then
 (jn (fun(i:List Vm.Share)=>
 zdm x0 d f m i (w64 (c+1))) fun g=>
 (gi d c).bind fun j=>
 (gi x0.Commits j).bind fun e=>
 jn (fun(b:Int)=>
 jn (fun(k:Bool)=>
 bif k then
 ((gi a b).bind fun l=>
 (gi a b).bind fun n=>
 (siM a b (Vm.Share.mk n.Who (w64 (l.Many+1)))).bind fun o=>
 g o)
 else
 ((slM a 0 b).bind fun p=>
 (apM ([]:List Share) p).bind fun q=>
 (apM q [Vm.Share.mk e.Who 1]).bind fun r=>
 (slM a b (a.length:Int)).bind fun s=>
 (apM r s).bind fun t=>
 g t)) fun h=>
 bif decide (b< (a.length:Int)) then
 ((gi a b).bind fun u=>
 h (u.Who==e.Who))
 else
 (h false)) fun v=>
 zez a e v (12) 0)
 else
 (f a c)
def zis (x0:Vm.Repo)(x1:Int)(x2:Str):Option ((List Vm.Share)):=
 (Vm.zi8 x0 x1 x2).bind fun a=>
 jn (fun(b:List Vm.Share) (d:Int)=>
 some b) fun c=>
 zdm x0 a c (((a.length:Int)-0).toNat+1) ([]:List Share) 0
def zeA (x0:List Vm.Share)(x1:List Vm.Share)(b:Bool->Int->Option (Bool)):Nat->Bool->Int->Option (Bool)
 |0,_,_=>none
 |m+1,c,a=>
 bif decide (a< (x0.length:Int)) then
 ((gi x0 a).bind fun d=>
 (gi x1 a).bind fun e=>
 bif(!(d.Who==e.Who&&d.Many==e.Many)) then
 (some false)
 else
 (zeA x0 x1 b m c (w64 (a+1))))
 else
 (b c a)
def zit (x0:List Vm.Share)(x1:List Vm.Share):Option (Bool):=
 bif((x0.length:Int) !=(x1.length:Int)) then
 (some false)
 else
 (jn (fun(b:Bool) (c:Int)=>
 some true) fun a=>
 zeA x0 x1 a (((x0.length:Int)-0).toNat+1) false 0)
def zcq (d:Vm.Repo×Int×Str)(e:(List Vm.Share))(b:(List Int))(f:Int)(g:Int->Int->Option (Bool)):Nat->Int->Int->Option (Bool)
 |0,_,_=>none
 |m+1,c,a=>
 bif decide (a< (b.length:Int)) then
 (jn (fun(i:Int)=>
 zcq d e b f g m i (w64 (a+1))) fun h=>
 (gi b a).bind fun j=>
 (gi d.1.Commits j).bind fun k=>
 (gi e f).bind fun l=>
 bif(k.Who==l.Who) then
 (h (w64 (c+1)))
 else
 (h c))
 else
 (g c a)
def zcr (f:Vm.Repo×Int×Str)(b:(List Vm.Share))(d:(List Int))(g:Bool->Int->Int->Option (Bool)):Nat->Bool->Int->Int->Option (Bool)
 |0,_,_,_=>none
 |m+1,h,i,a=>
 bif decide (a< (b.length:Int)) then
 (jn (fun(e:Int) (p:Int)=>
 jn (fun(l:Bool)=>
 bif l then
 (some false)
 else
 (zcr f b d g m h (w64 (i+e)) (w64 (a+1)))) fun c=>
 (gi b a).bind fun n=>
 bif((e:Int) !=(n.Many:Int)) then
 (c true)
 else
 (bif(e==0) then
 (c true)
 else
 (bif decide (0< (a:Int)) then
 ((gi b a).bind fun j=>
 (gi b (w64 (a-1))).bind fun k=>
 c (Op.bytesLess j.Who k.Who||j.Who==k.Who))
 else
 (c false)))) fun o=>
 zcq f b d a o (((d.length:Int)-0).toNat+1) 0 0)
 else
 (g h i a)
def zhZ (x0:List Byte):Option (Bool):=
 bif decide (1048576< (x0.length:Int)) then
 (some true)
 else
 ((Vm.zfn x0).bind fun a=>
 (Vm.zir (Vm.Repo.mk a.1.Commits a.1.Heads) a.2.1 a.2.2).bind fun b=>
 (Vm.zis (Vm.Repo.mk a.1.Commits a.1.Heads) a.2.1 a.2.2).bind fun d=>
 (Vm.zit b d).bind fun e=>
 bif(!e) then
 (some false)
 else
 ((Vm.ziq (Vm.Repo.mk a.1.Commits a.1.Heads) a.2.1 a.2.2).bind fun c=>
 jn (fun(h:Bool) (f:Int) (i:Int)=>
 some ((f:Int)==(c.length:Int))) fun g=>
 zcr a b c g (((b.length:Int)-0).toNat+1) false 0 0))
end Go.Vm
