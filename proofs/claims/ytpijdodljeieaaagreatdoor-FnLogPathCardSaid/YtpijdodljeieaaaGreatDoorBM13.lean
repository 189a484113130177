/- Models of the functions: plain Lean, printed by a program of ours. Conditions: none. -/
import Derived.Test.YtpijdodljeieaaaGreatDoorBLw
import Derived.Test.YtpijdodljeieaaaGreatDoorBM0
import Derived.Test.YtpijdodljeieaaaGreatDoorBM1
import Derived.Test.YtpijdodljeieaaaGreatDoorBM3
import Derived.Test.YtpijdodljeieaaaGreatDoorBM4
namespace Go.Vm
open Go Go.Sx
set_option linter.unusedVariables false
set_option linter.unusedSimpArgs false
def zig (x0:List Byte):Option (Vm.Repo×Int×Str):=
 (Vm.zcM x0).bind fun c=>
 (Vm.zdm c).bind fun a=>
 (Vm.zgS (Vm.l30Rd.mk c.b a.2) (Vm.Repo.mk a.1.Commits a.1.Heads)).bind fun d=>
 (Vm.zbC (Vm.l30Rd.mk c.b d.2) ([([97]:Str),([98]:Str),([100]:Str),([100,47,101]:Str),([103]:Str),([113]:Str)]:List Str)).bind fun e=>
 some (Vm.Repo.mk a.1.Commits a.1.Heads,d.1,e.1)
def znn (x0:Vm.File)(x1:Str):Option (Bool):=
 jn (fun(b:Bool)=>
 some b) fun a=>
 bif(x0.Path==x1) then
 (a true)
 else
 ((saM x1 ([47]:Str)).bind fun c=>
 (Vm.strings_HasPrefix x0.Path c).bind fun d=>
 a d)
def ziN (x0:List Vm.File)(x1:Str)(c:List Vm.File->Int->Option ((List Vm.File))):Nat->List Vm.File->Int->Option ((List Vm.File))
 |0,_,_=>none
 |m+1,b,a=>
 bif decide (a< (x0.length:Int)) then
 (jn (fun(f:List Vm.File)=>
 ziN x0 x1 c m f (w64 (a+1))) fun d=>
 (gi x0 a).bind fun e=>
 (Vm.znn e x1).bind fun g=>
 bif g then
 ((apM b [e]).bind fun h=>
 d h)
 else
 (d b))
 else
 (c b a)
def zmj (x0:List Vm.File)(x1:Str):Option ((List Vm.File)):=
 jn (fun(a:List Vm.File) (c:Int)=>
 some a) fun b=>
 ziN x0 x1 b (((x0.length:Int)-0).toNat+1) ([]:List File) 0
def zcB (x0:List Str)(x1:List Str)(b:Bool->Int->Option (Bool)):Nat->Bool->Int->Option (Bool)
 |0,_,_=>none
 |m+1,c,a=>
 bif decide (a< (x0.length:Int)) then
 ((gi x0 a).bind fun d=>
 (gi x1 a).bind fun e=>
 bif(d !=e) then
 (some false)
 else
 (zcB x0 x1 b m c (w64 (a+1))))
 else
 (b c a)
def zeo (x0:List Str)(x1:List Str):Option (Bool):=
 bif((x0.length:Int) !=(x1.length:Int)) then
 (some false)
 else
 (jn (fun(b:Bool) (c:Int)=>
 some true) fun a=>
 zcB x0 x1 a (((x0.length:Int)-0).toNat+1) false 0)
def zkb (x0:Vm.File)(x1:Vm.File):Option (Bool):=
 jn (fun(b:Bool)=>
 some b) fun a=>
 bif(x0.Path==x1.Path) then
 ((Vm.zeo x0.Text x1.Text).bind fun c=>
 a c)
 else
 (a false)
def zam (x0:List Vm.File)(x1:List Vm.File)(b:Bool->Int->Option (Bool)):Nat->Bool->Int->Option (Bool)
 |0,_,_=>none
 |m+1,c,a=>
 bif decide (a< (x0.length:Int)) then
 ((gi x0 a).bind fun d=>
 (gi x1 a).bind fun e=>
 (Vm.zkb d e).bind fun f=>
 bif(!f) then
 (some false)
 else
 (zam x0 x1 b m c (w64 (a+1))))
 else
 (b c a)
def zaL (x0:List Vm.File)(x1:List Vm.File):Option (Bool):=
 bif((x0.length:Int) !=(x1.length:Int)) then
 (some false)
 else
 (jn (fun(b:Bool) (c:Int)=>
 some true) fun a=>
 zam x0 x1 a (((x0.length:Int)-0).toNat+1) false 0)
def zkn (x0:List Vm.File)(x1:List Vm.File):Option (Bool):=
 (Vm.zaL x0 x1).bind fun a=>
 some a
def zeT (x0:Vm.Repo)(x2:Str)(c:(List Vm.File))(b:Vm.Commit)(d:Bool->Int->Option (Bool)):Nat->Bool->Int->Option (Bool)
 |0,_,_=>none
 |m+1,e,a=>
 bif decide (a< (b.Parents.length:Int)) then
 ((gi b.Parents a).bind fun f=>
 (Vm.za4 x0 f).bind fun g=>
 (Vm.zmj g x2).bind fun h=>
 (Vm.zkn c h).bind fun i=>
 bif i then
 (some false)
 else
 (zeT x0 x2 c b d m e (w64 (a+1))))
 else
 (d e a)
def zh6 (x0:Vm.Repo)(x1:Int)(x2:Str):Option (Bool):=
 (Vm.za4 x0 x1).bind fun c=>
 (Vm.zmj c x2).bind fun a=>
 (gi x0.Commits x1).bind fun d=>
 bif((d.Parents.length:Int)==0) then
 (some (decide (0< (a.length:Int))))
 else
 ((gi x0.Commits x1).bind fun b=>
 jn (fun(f:Bool) (g:Int)=>
 some true) fun e=>
 zeT x0 x2 a b e (((b.Parents.length:Int)-0).toNat+1) false 0)
def zla (x0:Int)(x1:Vm.Repo)(x2:Str):Option (Bool):=
 (Vm.zh6 x1 x0 x2).bind fun a=>
 some a
def zey (d:Int->Int->List Int->Option ((List Int))):Nat->Int->Int->List Int->Option ((List Int))
 |0,_,_,_=>none
 |m+1,a,b,c=>
 bif decide (a< (b:Int)) then
 ((gi c b).bind fun e=>
 (gi c a).bind fun f=>
 (gi c a).bind fun i=>
 (siM c a e).bind fun g=>
 (gi c b).bind fun j=>
 (siM g b f).bind fun h=>
 zey d m (w64 (a+1)) (w64 (b-1)) h)
 else
 (d a b c)
def zej (x0:List Int):Option ((List Int)):=
 jn (fun(c:Int) (d:Int) (a:List Int)=>
 some a) fun b=>
 zey b (((w64 ((x0.length:Int)-1))-0).toNat+1) 0 (w64 ((x0.length:Int)-1)) x0
def zbn (x3:Vm.Repo)(x4:Str)(b:(List Int))(d:List Int->Int->Option ((List Int))):Nat->List Int->Int->Option ((List Int))
 |0,_,_=>none
 |m+1,c,a=>
 bif decide (a< (b.length:Int)) then
 (jn (fun(g:List Int)=>
 zbn x3 x4 b d m g (w64 (a+1))) fun e=>
 (gi b a).bind fun f=>
 (Vm.zla f (Vm.Repo.mk x3.Commits x3.Heads) x4).bind fun h=>
 bif h then
 ((apM c [f]).bind fun i=>
 e i)
 else
 (e c))
 else
 (d c a)
def zes (x0:Vm.Repo)(x1:Int)(x3:Vm.Repo)(x4:Str):Option ((List Int)):=
 (Vm.zdX x0 ([x1]:List Int)).bind fun b=>
 bif(!b) then
 (some ([]:List Int))
 else
 ((Vm.zbA x0 x1).bind fun c=>
 (Vm.zdf c).bind fun a=>
 jn (fun(d:List Int) (g:Int)=>
 (Vm.zej d).bind fun e=>
 some e) fun f=>
 zbn x3 x4 a f (((a.length:Int)-0).toNat+1) ([]:List Int) 0)
def zld (x0:Vm.Repo)(x1:Int)(x2:Str):Option ((List Int)):=
 (Vm.zes x0 x1 x0 x2).bind fun a=>
 some a
def zg3 (x0:List Vm.File)(x1:Str)(c:List Vm.File->Int->Option ((List Vm.File))):Nat->List Vm.File->Int->Option ((List Vm.File))
 |0,_,_=>none
 |m+1,b,a=>
 bif decide (a< (x0.length:Int)) then
 (jn (fun(f:List Vm.File)=>
 zg3 x0 x1 c m f (w64 (a+1))) fun d=>
 jn (fun(g:Bool)=>
 bif g then
 ((gi x0 a).bind fun h=>
 (apM b [h]).bind fun i=>
 d i)
 else
 (d b)) fun e=>
 (gi x0 a).bind fun j=>
 bif(j.Path==x1) then
 (e true)
 else
 ((gi x0 a).bind fun k=>
 (Vm.zhx x1 k.Path).bind fun l=>
 e l))
 else
 (c b a)
def zjk (x0:List Vm.File)(x1:Str):Option ((List Vm.File)):=
 jn (fun(a:List Vm.File) (c:Int)=>
 some a) fun b=>
 zg3 x0 x1 b (((x0.length:Int)-0).toNat+1) ([]:List File) 0
def zhy (x0:List Vm.File)(x1:List Vm.File)(b:Bool->Int->Option (Bool)):Nat->Bool->Int->Option (Bool)
 |0,_,_=>none
 |m+1,c,a=>
 bif decide (a< (x0.length:Int)) then
 (jn (fun(e:Bool)=>
 bif e then
 (some false)
 else
 (zhy x0 x1 b m c (w64 (a+1)))) fun d=>
 (gi x0 a).bind fun f=>
 (gi x1 a).bind fun g=>
 bif(f.Path !=g.Path) then
 (d true)
 else
 ((gi x0 a).bind fun h=>
 (gi x1 a).bind fun i=>
 (Vm.ze1 h.Text i.Text).bind fun j=>
 d (!j)))
 else
 (b c a)
def zle (x0:List Vm.File)(x1:List Vm.File):Option (Bool):=
 bif((x0.length:Int) !=(x1.length:Int)) then
 (some false)
 else
 (jn (fun(b:Bool) (c:Int)=>
 some true) fun a=>
 zhy x0 x1 a (((x0.length:Int)-0).toNat+1) false 0)
def zg4 (x0:Vm.Repo)(x2:Str)(b:Vm.Commit)(c:(List Vm.File))(d:Bool->Int->Option (Bool)):Nat->Bool->Int->Option (Bool)
 |0,_,_=>none
 |m+1,e,a=>
 bif decide (a< (b.Parents.length:Int)) then
 ((gi b.Parents a).bind fun f=>
 (gi x0.Commits f).bind fun g=>
 (Vm.zjk g.Tree x2).bind fun h=>
 (Vm.zle h c).bind fun i=>
 bif i then
 (some false)
 else
 (zg4 x0 x2 b c d m e (w64 (a+1))))
 else
 (d e a)
def zko (x0:Vm.Repo)(x1:Int)(x2:Str):Option (Bool):=
 (gi x0.Commits x1).bind fun a=>
 (Vm.zjk a.Tree x2).bind fun b=>
 bif((a.Parents.length:Int)==0) then
 (some (decide (0< (b.length:Int))))
 else
 (jn (fun(d:Bool) (e:Int)=>
 some true) fun c=>
 zg4 x0 x2 a b c (((a.Parents.length:Int)-0).toNat+1) false 0)
def zhz (x0:Vm.Repo)(x2:Str)(b:(List Int))(d:List Int->Int->Option ((List Int))):Nat->List Int->Int->Option ((List Int))
 |0,_,_=>none
 |m+1,c,a=>
 bif decide (0<=(a:Int)) then
 (jn (fun(f:List Int)=>
 zhz x0 x2 b d m f (w64 (a-1))) fun e=>
 (gi b a).bind fun g=>
 (Vm.zko x0 g x2).bind fun h=>
 bif h then
 ((gi b a).bind fun i=>
 (apM c [i]).bind fun j=>
 e j)
 else
 (e c))
 else
 (d c a)
def zkp (x0:Vm.Repo)(x1:Int)(x2:Str):Option ((List Int)):=
 jn (fun(c:Bool)=>
 bif c then
 (some ([]:List Int))
 else
 ((Vm.zef x0 x1).bind fun a=>
 jn (fun(d:List Int) (h:Int)=>
 some d) fun e=>
 zhz x0 x2 a e (((w64 ((a.length:Int)-1))+1-0).toNat+1) ([]:List Int) (w64 ((a.length:Int)-1)))) fun b=>
 (Vm.zby x0).bind fun f=>
 bif(!f) then
 (b true)
 else
 ((Vm.zex x1 0 (w64 ((x0.Commits.length:Int)-1))).bind fun g=>
 b (!g))
def zhA (x0:List Vm.File)(x1:Str)(c:List Vm.File->Int->Option ((List Vm.File))):Nat->List Vm.File->Int->Option ((List Vm.File))
 |0,_,_=>none
 |m+1,b,a=>
 bif decide (a< (x0.length:Int)) then
 (jn (fun(f:List Vm.File)=>
 zhA x0 x1 c m f (w64 (a+1))) fun d=>
 jn (fun(g:Bool)=>
 bif g then
 ((gi x0 a).bind fun h=>
 (apM b [h]).bind fun i=>
 d i)
 else
 (d b)) fun e=>
 (gi x0 a).bind fun j=>
 bif(j.Path==x1) then
 (e true)
 else
 ((gi x0 a).bind fun k=>
 (Vm.zbG x1 k.Path).bind fun l=>
 e l))
 else
 (c b a)
def zkq (x0:List Vm.File)(x1:Str):Option ((List Vm.File)):=
 jn (fun(a:List Vm.File) (c:Int)=>
 some a) fun b=>
 zhA x0 x1 b (((x0.length:Int)-0).toNat+1) ([]:List File) 0
def zjq (x0:List Int)(x1:Int)(b:Bool->Int->Option (Bool)):Nat->Bool->Int->Option (Bool)
 |0,_,_=>none
 |m+1,c,a=>
 bif decide (a< (x0.length:Int)) then
 ((gi x0 a).bind fun d=>
 bif((d:Int)==(x1:Int)) then
 (some true)
 else
 (zjq x0 x1 b m c (w64 (a+1))))
 else
 (b c a)
def zmq (x0:List Int)(x1:Int):Option (Bool):=
 jn (fun(b:Bool) (c:Int)=>
 some false) fun a=>
 zjq x0 x1 a (((x0.length:Int)-0).toNat+1) false 0
def zdb (b:Vm.Repo×Int×Str)(c:Vm.Commit)(d:(List Vm.File))(e:Bool->Int->Option (Bool)):Nat->Bool->Int->Option (Bool)
 |0,_,_=>none
 |m+1,f,a=>
 bif decide (a< (c.Parents.length:Int)) then
 (bif f then
 ((gi c.Parents a).bind fun g=>
 (gi b.1.Commits g).bind fun h=>
 (Vm.zkq h.Tree b.2.2).bind fun i=>
 (Vm.zem i d).bind fun j=>
 zdb b c d e m (!j) (w64 (a+1)))
 else
 (zdb b c d e m false (w64 (a+1))))
 else
 (e f a)
def zgw (b:(List Int))(c:(List Int))(e:Bool->Int->Option (Bool)):Nat->Bool->Int->Option (Bool)
 |0,_,_=>none
 |m+1,f,a=>
 bif decide (a< (b.length:Int)) then
 (jn (fun(g:Bool)=>
 bif g then
 (some false)
 else
 (zgw b c e m f (w64 (a+1)))) fun d=>
 bif decide (0< (a:Int)) then
 ((gi b a).bind fun h=>
 (gi b (w64 (a-1))).bind fun i=>
 bif decide (i<=(h:Int)) then
 (d true)
 else
 ((gi b a).bind fun j=>
 (Vm.zmq c j).bind fun k=>
 d (!k)))
 else
 ((gi b a).bind fun l=>
 (Vm.zmq c l).bind fun n=>
 d (!n)))
 else
 (e f a)
def zeg (b:Vm.Repo×Int×Str)(e:(List Int))(c:(List Int))(f:Bool->Int->Option (Bool)):Nat->Bool->Int->Option (Bool)
 |0,_,_=>none
 |m+1,g,a=>
 bif decide (a< (c.length:Int)) then
 ((gi c a).bind fun j=>
 (gi b.1.Commits j).bind fun d=>
 (Vm.zkq d.Tree b.2.2).bind fun h=>
 jn (fun(k:Bool)=>
 jn (fun(l:Bool) (q:Int)=>
 (gi c a).bind fun n=>
 (Vm.zmq e n).bind fun o=>
 bif(l !=o) then
 (some false)
 else
 (zeg b e c f m g (w64 (a+1)))) fun p=>
 zdb b d h p (((d.Parents.length:Int)-0).toNat+1) k 0) fun i=>
 bif decide (0< (d.Parents.length:Int)) then
 (i true)
 else
 (i (decide (0< (h.length:Int)))))
 else
 (f g a)
def zkw (x0:List Byte):Option (Bool):=
 bif decide (1048576< (x0.length:Int)) then
 (some true)
 else
 ((Vm.zig x0).bind fun a=>
 (Vm.zld (Vm.Repo.mk a.1.Commits a.1.Heads) a.2.1 a.2.2).bind fun b=>
 jn (fun(e:Bool)=>
 bif e then
 ((Vm.zkp (Vm.Repo.mk a.1.Commits a.1.Heads) a.2.1 a.2.2).bind fun f=>
 (Vm.ze3 b f).bind fun g=>
 some g)
 else
 ((Vm.zfS (Vm.Repo.mk a.1.Commits a.1.Heads) a.2.1).bind fun d=>
 jn (fun(h:Bool) (n:Int)=>
 jn (fun(o:Bool) (p:Int)=>
 some true) fun i=>
 zgw b d i (((b.length:Int)-0).toNat+1) h 0) fun j=>
 zeg a b d j (((d.length:Int)-0).toNat+1) false 0)) fun c=>
 (Vm.zkp (Vm.Repo.mk a.1.Commits a.1.Heads) a.2.1 a.2.2).bind fun k=>
 (Vm.ze3 b k).bind fun l=>
 bif(!l) then
 (c true)
 else
 ((Vm.zde (Vm.Repo.mk a.1.Commits a.1.Heads)).bind fun m=>
 bif(!m) then
 (c true)
 else
 (bif decide (a.2.1< (0:Int)) then
 (c true)
 else
 (c (decide (a.1.Commits.length<=(a.2.1:Int)))))))
end Go.Vm
