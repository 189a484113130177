/- Models of the functions: plain Lean, printed by a program of ours. Conditions: none. -/
import Derived.Test.YtifbmanldeabeaaGreatDoorGLw
import Derived.Test.YtifbmanldeabeaaGreatDoorGM0
namespace Go.Vm
open Go Go.Sx
set_option linter.unusedVariables false
set_option linter.unusedSimpArgs false
def zcj (x0:List Vm.Owner)(c:Bool->Int->Option (Bool)):Nat->Bool->Int->Option (Bool)
 |0,_,_=>none
 |m+1,d,a=>
 bif decide (a< (x0.length:Int)) then
 (jn (fun(g:Bool)=>
 bif g then
 (some false)
 else
 (zcj x0 c m d (w64 (a+1)))) fun b=>
 (gi x0 a).bind fun h=>
 (Vm.zcT h.Path).bind fun i=>
 bif(!i) then
 (b true)
 else
 ((gi x0 a).bind fun j=>
 (Vm.zbW j.Who).bind fun k=>
 bif(!k) then
 (b true)
 else
 (bif decide (0< (a:Int)) then
 ((gi x0 a).bind fun e=>
 (gi x0 (w64 (a-1))).bind fun f=>
 b (Op.bytesLess e.Path f.Path||e.Path==f.Path))
 else
 (b false))))
 else
 (c d a)
def zfs (x0:List Vm.Owner):Option (Bool):=
 jn (fun(b:Bool) (c:Int)=>
 some (decide (x0.length<=(5:Int)))) fun a=>
 zcj x0 a (((x0.length:Int)-0).toNat+1) false 0
def zeH (x0:Vm.Review)(c:Bool->Int->Option (Bool)):Nat->Bool->Int->Option (Bool)
 |0,_,_=>none
 |m+1,d,a=>
 bif decide (a< (x0.Yes.length:Int)) then
 (jn (fun(g:Bool)=>
 bif g then
 (some false)
 else
 (zeH x0 c m d (w64 (a+1)))) fun b=>
 (gi x0.Yes a).bind fun h=>
 (Vm.zbW h).bind fun i=>
 bif(!i) then
 (b true)
 else
 (bif decide (0< (a:Int)) then
 ((gi x0.Yes a).bind fun e=>
 (gi x0.Yes (w64 (a-1))).bind fun f=>
 b (Op.bytesLess e f||e==f))
 else
 (b false)))
 else
 (c d a)
def zjA (x0:Vm.Review):Option (Bool):=
 jn (fun(g:Bool) (h:Int)=>
 jn (fun(b:Bool)=>
 some b) fun a=>
 (Vm.zbW x0.Branch).bind fun c=>
 bif c then
 ((Vm.zbW x0.Into).bind fun d=>
 bif d then
 ((Vm.zbW x0.By).bind fun e=>
 bif e then
 (bif(x0.Branch !=x0.Into) then
 (a (decide (x0.Yes.length<=(5:Int))))
 else
 (a false))
 else
 (a false))
 else
 (a false))
 else
 (a false)) fun f=>
 zeH x0 f (((x0.Yes.length:Int)-0).toNat+1) false 0
def zfg (x0:List Str)(x1:List Str)(b:List Int)(f:List Vm.Hunk->Int->Int->Int->Option ((List Vm.Hunk))):Nat->List Vm.Hunk->Int->Int->Int->Option ((List Vm.Hunk))
 |0,_,_,_,_=>none
 |m+1,d,c,e,a=>
 bif decide (a< (b.length:Int)) then
 (jn (fun(j:List Vm.Hunk) (k:Int) (l:Int)=>
 zfg x0 x1 b f m j k l (w64 (a+1))) fun g=>
 (gi b a).bind fun n=>
 bif decide (n< (0:Int)) then
 (g d c e)
 else
 (jn (fun(o:List Vm.Hunk)=>
 (gi b a).bind fun p=>
 g o (w64 (a+1)) (w64 (p+1))) fun h=>
 jn (fun(q:Bool)=>
 bif q then
 ((slM x0 c a).bind fun r=>
 (apM ([]:List Str) r).bind fun s=>
 (gi b a).bind fun t=>
 (slM x1 e t).bind fun u=>
 (apM ([]:List Str) u).bind fun v=>
 (apM d [Vm.Hunk.mk c s v]).bind fun w=>
 h w)
 else
 (h d)) fun i=>
 bif decide (c< (a:Int)) then
 (i true)
 else
 ((gi b a).bind fun x=>
 i (decide (e< (x:Int))))))
 else
 (f d c e a)
def zk0 (x0:List Str)(x1:List Str):Option ((List Vm.Hunk)):=
 (Vm.zc5 x0 x1).bind fun b=>
 (apM b [(x1.length:Int)]).bind fun a=>
 jn (fun(c:List Vm.Hunk) (e:Int) (f:Int) (g:Int)=>
 some c) fun d=>
 zfg x0 x1 a d (((a.length:Int)-0).toNat+1) ([]:List Hunk) 0 0 0
def zbw (x1:List Vm.File)(x3:List Vm.Change)(b:Int)(c:Bool->Int->Option (Str)):Nat->Bool->Int->Option (Str)
 |0,_,_=>none
 |m+1,d,a=>
 bif decide (a< (x3.length:Int)) then
 (bif d then
 ((gi x3 a).bind fun e=>
 (gi x1 b).bind fun f=>
 zbw x1 x3 b c m (e.To !=f.Path) (w64 (a+1)))
 else
 (zbw x1 x3 b c m false (w64 (a+1))))
 else
 (c d a)
def zcX (x0:List Vm.File)(x1:List Vm.File)(x2:List Str)(x3:List Vm.Change)(c:Str->Int->Option (Str)):Nat->Str->Int->Option (Str)
 |0,_,_=>none
 |m+1,d,a=>
 bif decide (a< (x1.length:Int)) then
 ((gi x1 a).bind fun e=>
 (Vm.zdN x0 e.Path).bind fun f=>
 jn (fun(g:Bool) (n:Int)=>
 jn (fun(h:Bool)=>
 bif h then
 ((gi x1 a).bind fun i=>
 some i.Path)
 else
 (zcX x0 x1 x2 x3 c m d (w64 (a+1)))) fun b=>
 bif(!f.2) then
 (bif g then
 ((gi x1 a).bind fun j=>
 (Vm.zeo j.Text x2).bind fun k=>
 b k)
 else
 (b false))
 else
 (b false)) fun l=>
 zbw x1 x3 a l (((x3.length:Int)-0).toNat+1) true 0)
 else
 (c d a)
def zgf (x0:List Vm.File)(x1:List Vm.File)(x2:List Str)(x3:List Vm.Change):Option (Str):=
 jn (fun(b:Str) (c:Int)=>
 some ([]:Str)) fun a=>
 zcX x0 x1 x2 x3 a (((x1.length:Int)-0).toNat+1) ([]:Str) 0
def zdB (x1:List Vm.File)(b:List Vm.Change)(c:List Vm.Change)(d:Int)(e:Bool->Int->Option ((List Vm.Change))):Nat->Bool->Int->Option ((List Vm.Change))
 |0,_,_=>none
 |m+1,f,a=>
 bif decide (a< (b.length:Int)) then
 (bif f then
 (zdB x1 b c d e m true (w64 (a+1)))
 else
 ((gi c a).bind fun g=>
 (gi x1 d).bind fun h=>
 zdB x1 b c d e m (g.To==h.Path) (w64 (a+1))))
 else
 (e f a)
def zbY (x0:List Vm.File)(x1:List Vm.File)(c:List Vm.Change)(d:List Vm.Change->Int->Option ((List Vm.Change))):Nat->List Vm.Change->Int->Option ((List Vm.Change))
 |0,_,_=>none
 |m+1,b,a=>
 bif decide (a< (x1.length:Int)) then
 (jn (fun(g:List Vm.Change)=>
 zbY x0 x1 c d m g (w64 (a+1))) fun e=>
 (gi x1 a).bind fun h=>
 (Vm.zdN x0 h.Path).bind fun i=>
 jn (fun(j:Bool) (r:Int)=>
 jn (fun(k:Bool)=>
 bif k then
 ((gi x1 a).bind fun l=>
 (gi x1 a).bind fun n=>
 (apM ([]:List Str) n.Text).bind fun o=>
 (apM b ([Vm.Change.mk 1 l.Path ([]:Str) o ([]:List Hunk)])).bind fun p=>
 e p)
 else
 (e b)) fun f=>
 bif(!i.2) then
 (f (!j))
 else
 (f false)) fun q=>
 zdB x1 c b a q (((c.length:Int)-0).toNat+1) false 0)
 else
 (d b a)
def zfh (x0:List Vm.File)(x1:List Vm.File)(f:List Vm.Change->Int->Option ((List Vm.Change))):Nat->List Vm.Change->Int->Option ((List Vm.Change))
 |0,_,_=>none
 |m+1,d,a=>
 bif decide (a< (x0.length:Int)) then
 (jn (fun(j:List Vm.Change)=>
 zfh x0 x1 f m j (w64 (a+1))) fun e=>
 (gi x0 a).bind fun k=>
 (Vm.zdN x1 k.Path).bind fun b=>
 jn (fun(c:List Vm.Change)=>
 bif b.2 then
 (e c)
 else
 ((gi x0 a).bind fun l=>
 (Vm.zgf x0 x1 l.Text c).bind fun g=>
 bif(g !=([]:Str)) then
 ((gi x0 a).bind fun n=>
 (apM c ([Vm.Change.mk 4 n.Path g ([]:List Str) ([]:List Hunk)])).bind fun o=>
 e o)
 else
 ((gi x0 a).bind fun p=>
 (gi x0 a).bind fun q=>
 (apM ([]:List Str) q.Text).bind fun r=>
 (apM c ([Vm.Change.mk 2 p.Path ([]:Str) r ([]:List Hunk)])).bind fun s=>
 e s))) fun h=>
 jn (fun(t:Bool)=>
 bif t then
 ((gi x0 a).bind fun u=>
 (gi x0 a).bind fun v=>
 (Vm.zk0 v.Text b.1).bind fun w=>
 (apM d ([Vm.Change.mk 3 u.Path ([]:Str) ([]:List Str) w])).bind fun x=>
 h x)
 else
 (h d)) fun i=>
 bif b.2 then
 ((gi x0 a).bind fun y=>
 (Vm.zeo b.1 y.Text).bind fun z=>
 i (!z))
 else
 (i false))
 else
 (f d a)
def zi1 (x0:List Vm.File)(x1:List Vm.File):Option ((List Vm.Change)):=
 jn (fun(a:List Vm.Change) (e:Int)=>
 jn (fun(b:List Vm.Change) (f:Int)=>
 some b) fun c=>
 zbY x0 x1 a c (((x1.length:Int)-0).toNat+1) a 0) fun d=>
 zfh x0 x1 d (((x0.length:Int)-0).toNat+1) ([]:List Change) 0
def zfi (x0:List Vm.Hunk)(c:Bool->Int->Option (Bool)):Nat->Bool->Int->Option (Bool)
 |0,_,_=>none
 |m+1,d,a=>
 bif decide (a< (x0.length:Int)) then
 (jn (fun(e:Bool)=>
 bif e then
 (some false)
 else
 (zfi x0 c m d (w64 (a+1)))) fun b=>
 (gi x0 a).bind fun f=>
 (Vm.zc2 f.Less).bind fun g=>
 bif(!g) then
 (b true)
 else
 ((gi x0 a).bind fun h=>
 (Vm.zc2 h.More).bind fun i=>
 bif(!i) then
 (b true)
 else
 ((gi x0 a).bind fun j=>
 (gi x0 a).bind fun k=>
 bif((w64 ((j.Less.length:Int)+(k.More.length:Int)):Int)==(0:Int)) then
 (b true)
 else
 ((gi x0 a).bind fun l=>
 (Vm.zeY l.At 0 10).bind fun n=>
 bif(!n) then
 (b true)
 else
 (bif decide (0< (a:Int)) then
 ((gi x0 a).bind fun o=>
 (gi x0 (w64 (a-1))).bind fun p=>
 (gi x0 (w64 (a-1))).bind fun q=>
 b (decide ((o.At:Int)<=(w64 (p.At+(q.Less.length:Int)):Int))))
 else
 (b false))))))
 else
 (c d a)
def zk1 (x0:List Vm.Hunk):Option (Bool):=
 jn (fun(b:Bool) (c:Int)=>
 some (decide (x0.length<=(8:Int)))) fun a=>
 zfi x0 a (((x0.length:Int)-0).toNat+1) false 0
def zjB (x0:Vm.Change):Option (Bool):=
 jn (fun(e:Bool)=>
 bif e then
 (jn (fun(f:Bool)=>
 some f) fun c=>
 (Vm.zcT x0.Path).bind fun g=>
 bif g then
 (bif(x0.To==([]:Str)) then
 ((Vm.zc2 x0.Text).bind fun h=>
 bif h then
 (c ((x0.Patch.length:Int)==0))
 else
 (c false))
 else
 (c false))
 else
 (c false))
 else
 (bif(x0.Kind==3) then
 (jn (fun(i:Bool)=>
 some i) fun a=>
 (Vm.zcT x0.Path).bind fun j=>
 bif j then
 (bif(x0.To==([]:Str)) then
 (bif((x0.Text.length:Int)==0) then
 (bif decide (0< (x0.Patch.length:Int)) then
 ((Vm.zk1 x0.Patch).bind fun k=>
 a k)
 else
 (a false))
 else
 (a false))
 else
 (a false))
 else
 (a false))
 else
 (bif(x0.Kind==4) then
 (jn (fun(l:Bool)=>
 some l) fun b=>
 (Vm.zcT x0.Path).bind fun m=>
 bif m then
 ((Vm.zcT x0.To).bind fun n=>
 bif n then
 (bif(x0.To !=x0.Path) then
 (bif((x0.Text.length:Int)==0) then
 (b ((x0.Patch.length:Int)==0))
 else
 (b false))
 else
 (b false))
 else
 (b false))
 else
 (b false))
 else
 (some false)))) fun d=>
 bif(x0.Kind==1) then
 (d (x0.Kind==1))
 else
 (d (x0.Kind==2))
def zdQ (x0:List Vm.Change)(x1:Str)(b:Bool->Int->Option (Bool)):Nat->Bool->Int->Option (Bool)
 |0,_,_=>none
 |m+1,c,a=>
 bif decide (a< (x0.length:Int)) then
 (jn (fun(e:Bool)=>
 bif e then
 (some false)
 else
 (zdQ x0 x1 b m c (w64 (a+1)))) fun d=>
 (gi x0 a).bind fun f=>
 bif(f.Path==x1) then
 (d true)
 else
 ((gi x0 a).bind fun g=>
 d (g.To==x1)))
 else
 (b c a)
def zhR (x0:List Vm.Change)(x1:Str):Option (Bool):=
 jn (fun(b:Bool) (c:Int)=>
 some true) fun a=>
 zdQ x0 x1 a (((x0.length:Int)-0).toNat+1) false 0
def zfj (x0:List Vm.Change)(c:Bool->Int->Option (Bool)):Nat->Bool->Int->Option (Bool)
 |0,_,_=>none
 |m+1,d,a=>
 bif decide (a< (x0.length:Int)) then
 (jn (fun(e:Bool)=>
 bif e then
 (some false)
 else
 (zfj x0 c m d (w64 (a+1)))) fun b=>
 (gi x0 a).bind fun f=>
 (Vm.zjB f).bind fun g=>
 bif(!g) then
 (b true)
 else
 ((slM x0 0 a).bind fun h=>
 (gi x0 a).bind fun i=>
 (Vm.zhR h i.Path).bind fun j=>
 bif(!j) then
 (b true)
 else
 ((gi x0 a).bind fun k=>
 bif(k.To !=([]:Str)) then
 ((slM x0 0 a).bind fun l=>
 (gi x0 a).bind fun n=>
 (Vm.zhR l n.To).bind fun o=>
 b (!o))
 else
 (b false))))
 else
 (c d a)
def zk2 (x0:List Vm.Change):Option (Bool):=
 jn (fun(b:Bool) (c:Int)=>
 some (decide (x0.length<=(16:Int)))) fun a=>
 zfj x0 a (((x0.length:Int)-0).toNat+1) false 0
def zbv (x0:List Vm.Change)(b:List Str->Int->Option ((List Str))):Nat->List Str->Int->Option ((List Str))
 |0,_,_=>none
 |m+1,c,a=>
 bif decide (a< (x0.length:Int)) then
 (jn (fun(f:List Str)=>
 zbv x0 b m f (w64 (a+1))) fun d=>
 (gi x0 a).bind fun g=>
 (Vm.zdO c g.Path).bind fun e=>
 (gi x0 a).bind fun h=>
 bif(h.To !=([]:Str)) then
 ((gi x0 a).bind fun i=>
 (Vm.zdO e i.To).bind fun j=>
 d j)
 else
 (d e))
 else
 (b c a)
def zck (x0:List Vm.Change):Option ((List Str)):=
 (Vm.zk2 x0).bind fun a=>
 bif(!a) then
 (some ([]:List Str))
 else
 (jn (fun(b:List Str) (d:Int)=>
 some b) fun c=>
 zbv x0 c (((x0.length:Int)-0).toNat+1) ([]:List Str) 0)
def zjj (x0:Vm.Repo)(x1:Vm.Review):Option ((List Str)):=
 (Vm.zc3 x0 x1.Into).bind fun b=>
 (Vm.zc3 x0 x1.Branch).bind fun a=>
 (gi x0.Commits a).bind fun c=>
 (Vm.zf2 x0 b a).bind fun d=>
 (Vm.zi1 d c.Tree).bind fun e=>
 (Vm.zck e).bind fun f=>
 some f
def zdR (x0:List Vm.Owner)(x1:Str)(d:Str->Int->Int->Option (Str)):Nat->Str->Int->Int->Option (Str)
 |0,_,_,_=>none
 |m+1,e,b,a=>
 bif decide (a< (x0.length:Int)) then
 (jn (fun(g:Str) (h:Int)=>
 zdR x0 x1 d m g h (w64 (a+1))) fun f=>
 jn (fun(i:Bool)=>
 bif i then
 ((gi x0 a).bind fun j=>
 (gi x0 a).bind fun k=>
 f j.Who (k.Path.length:Int))
 else
 (f e b)) fun c=>
 (gi x0 a).bind fun l=>
 bif(l.Path==x1) then
 ((gi x0 a).bind fun n=>
 c (decide (b< (n.Path.length:Int))))
 else
 ((gi x0 a).bind fun o=>
 (Vm.zhQ o.Path x1).bind fun p=>
 bif p then
 ((gi x0 a).bind fun q=>
 c (decide (b< (q.Path.length:Int))))
 else
 (c false)))
 else
 (d e b a)
def zix (x0:List Vm.Owner)(x1:Str):Option (Str):=
 jn (fun(a:Str) (c:Int) (d:Int)=>
 some a) fun b=>
 zdR x0 x1 b (((x0.length:Int)-0).toNat+1) ([]:Str) 0 0
def zbL (x2:Vm.Review)(b:Str)(c:Bool->Int->Option ((List Str))):Nat->Bool->Int->Option ((List Str))
 |0,_,_=>none
 |m+1,d,a=>
 bif decide (a< (x2.Yes.length:Int)) then
 (bif d then
 (zbL x2 b c m true (w64 (a+1)))
 else
 ((gi x2.Yes a).bind fun e=>
 zbL x2 b c m (e==b) (w64 (a+1))))
 else
 (c d a)
def zb7 (x1:List Vm.Owner)(x2:Vm.Review)(c:(List Str))(e:List Str->Int->Option ((List Str))):Nat->List Str->Int->Option ((List Str))
 |0,_,_=>none
 |m+1,d,a=>
 bif decide (a< (c.length:Int)) then
 (jn (fun(h:List Str)=>
 zb7 x1 x2 c e m h (w64 (a+1))) fun f=>
 (gi c a).bind fun i=>
 (Vm.zix x1 i).bind fun b=>
 jn (fun(j:Bool)=>
 jn (fun(k:Bool) (o:Int)=>
 bif(!k) then
 ((Vm.zdO d b).bind fun l=>
 f l)
 else
 (f d)) fun n=>
 zbL x2 b n (((x2.Yes.length:Int)-0).toNat+1) j 0) fun g=>
 bif(b==([]:Str)) then
 (g true)
 else
 (g (b==x2.By)))
 else
 (e d a)
def zkn (x0:Vm.Repo)(x1:List Vm.Owner)(x2:Vm.Review):Option ((List Str)):=
 (Vm.zjj x0 x2).bind fun a=>
 jn (fun(b:List Str) (d:Int)=>
 some b) fun c=>
 zb7 x1 x2 a c (((a.length:Int)-0).toNat+1) ([]:List Str) 0
def zep (x0:Vm.Repo)(x1:List Vm.Owner)(x2:Vm.Review):Option ((List Str)×Bool):=
 jn (fun(b:Bool)=>
 bif b then
 (some (([]:List Str),false))
 else
 ((Vm.zkn x0 x1 x2).bind fun c=>
 some (c,true))) fun a=>
 (Vm.zcQ x0).bind fun d=>
 bif(!d) then
 (a true)
 else
 ((Vm.zfs x1).bind fun e=>
 bif(!e) then
 (a true)
 else
 ((Vm.zjA x2).bind fun f=>
 bif(!f) then
 (a true)
 else
 ((Vm.zc3 x0 x2.Branch).bind fun g=>
 bif decide (g< (0:Int)) then
 (a true)
 else
 ((Vm.zc3 x0 x2.Into).bind fun h=>
 a (decide (h< (0:Int)))))))
def zcY (x0:List Vm.Owner)(d:Bool->Int->Option (Bool)):Nat->Bool->Int->Option (Bool)
 |0,_,_=>none
 |m+1,e,a=>
 bif decide (a< (x0.length:Int)) then
 ((gi x0 a).bind fun c=>
 jn (fun(f:Bool)=>
 bif f then
 (some false)
 else
 (zcY x0 d m e (w64 (a+1)))) fun b=>
 (Vm.zeM c.Path).bind fun g=>
 bif(!g) then
 (b true)
 else
 ((Vm.zc9 c.Who).bind fun h=>
 bif(!h) then
 (b true)
 else
 (bif decide (0< (a:Int)) then
 ((gi x0 (w64 (a-1))).bind fun i=>
 b (!Op.bytesLess i.Path c.Path))
 else
 (b false))))
 else
 (d e a)
def zfF (x0:List Vm.Owner):Option (Bool):=
 bif decide (5< (x0.length:Int)) then
 (some false)
 else
 (jn (fun(b:Bool) (c:Int)=>
 some true) fun a=>
 zcY x0 a (((x0.length:Int)-0).toNat+1) false 0)
def zdr (x0:List Str)(c:Bool->Int->Option (Bool)):Nat->Bool->Int->Option (Bool)
 |0,_,_=>none
 |m+1,d,a=>
 bif decide (a< (x0.length:Int)) then
 ((gi x0 a).bind fun e=>
 jn (fun(f:Bool)=>
 bif f then
 (some false)
 else
 (zdr x0 c m d (w64 (a+1)))) fun b=>
 (Vm.zc9 e).bind fun g=>
 bif(!g) then
 (b true)
 else
 (bif decide (0< (a:Int)) then
 ((gi x0 (w64 (a-1))).bind fun h=>
 b (!Op.bytesLess h e))
 else
 (b false)))
 else
 (c d a)
def zhh (x0:List Str):Option (Bool):=
 jn (fun(b:Bool) (c:Int)=>
 some true) fun a=>
 zdr x0 a (((x0.length:Int)-0).toNat+1) false 0
def zgg (x0:Vm.Review):Option (Bool):=
 jn (fun(b:Bool)=>
 some b) fun a=>
 (Vm.zc9 x0.Branch).bind fun c=>
 bif c then
 ((Vm.zc9 x0.Into).bind fun d=>
 bif d then
 ((Vm.zc9 x0.By).bind fun e=>
 bif e then
 (bif(x0.Branch !=x0.Into) then
 (bif decide (x0.Yes.length<=(5:Int)) then
 ((Vm.zhh x0.Yes).bind fun f=>
 a f)
 else
 (a false))
 else
 (a false))
 else
 (a false))
 else
 (a false))
 else
 (a false)
def zds (x0:Vm.Repo)(x1:Str)(b:Int->Int->Option (Int)):Nat->Int->Int->Option (Int)
 |0,_,_=>none
 |m+1,c,a=>
 bif decide (a< (x0.Heads.length:Int)) then
 ((gi x0.Heads a).bind fun d=>
 bif(d.Name==x1) then
 (some d.At)
 else
 (zds x0 x1 b m c (w64 (a+1))))
 else
 (b c a)
def zeq (x0:Vm.Repo)(x1:Str):Option (Int):=
 jn (fun(b:Int) (c:Int)=>
 some (-1)) fun a=>
 zds x0 x1 a (((x0.Heads.length:Int)-0).toNat+1) 0 0
def zbf (d:List Bool->Option ((List Bool)))(a:Vm.Commit):Nat->Int->List Bool->Option ((List Bool))
 |0,_,_=>none
 |m+1,b,c=>
 bif decide (b< (a.Parents.length:Int)) then
 ((gi a.Parents b).bind fun e=>
 (gi c e).bind fun g=>
 (siM c e true).bind fun f=>
 zbf d a m (w64 (b+1)) f)
 else
 (d c)
def zaS (x0:Vm.Repo)(c:Int->List Bool->Option ((List Bool))):Nat->Int->List Bool->Option ((List Bool))
 |0,_,_=>none
 |m+1,a,b=>
 bif decide (0<=(a:Int)) then
 (jn (fun(f:List Bool)=>
 zaS x0 c m (w64 (a-1)) f) fun d=>
 (gi b a).bind fun g=>
 bif g then
 ((gi x0.Commits a).bind fun e=>
 zbf d e (((e.Parents.length:Int)-0).toNat+1) 0 b)
 else
 (d b))
 else
 (c a b)
def za0 (x0:Vm.Repo)(x1:Int):Option ((List Bool)):=
 (mkM (x0.Commits.length:Int) (false:Bool)).bind fun a=>
 (gi a x1).bind fun e=>
 (siM a x1 true).bind fun b=>
 jn (fun(f:Int) (c:List Bool)=>
 some c) fun d=>
 zaS x0 d ((x1+1-0).toNat+1) x1 b
def zbq (x0:List Bool):Option ((List Bool)):=
 if x0.length<=lim then some x0 else none
def zdS (x0:List Bool)(c:List Int->Int->Option ((List Int))):Nat->List Int->Int->Option ((List Int))
 |0,_,_=>none
 |m+1,b,a=>
 bif decide (a< (x0.length:Int)) then
 (jn (fun(e:List Int)=>
 zdS x0 c m e (w64 (a+1))) fun d=>
 (gi x0 a).bind fun f=>
 bif f then
 ((apM b [a]).bind fun g=>
 d g)
 else
 (d b))
 else
 (c b a)
def zcd (x0:List Bool):Option ((List Int)):=
 jn (fun(a:List Int) (c:Int)=>
 some a) fun b=>
 zdS x0 b (((x0.length:Int)-0).toNat+1) ([]:List Int) 0
def zbT (e:Int)(c:(List Int))(f:Int->List Bool->Option ((List Int))):Nat->Int->List Bool->Option ((List Int))
 |0,_,_=>none
 |m+1,a,b=>
 bif decide (a< (c.length:Int)) then
 (jn (fun(h:List Bool)=>
 zbT e c f m (w64 (a+1)) h) fun g=>
 (gi c a).bind fun d=>
 bif((d:Int) !=(e:Int)) then
 ((gi b d).bind fun j=>
 (siM b d false).bind fun i=>
 g i)
 else
 (g b))
 else
 (f a b)
def za3 (x0:Vm.Repo)(b:(List Int))(c:Int->List Bool->Option ((List Int))):Nat->Int->List Bool->Option ((List Int))
 |0,_,_=>none
 |m+1,a,d=>
 bif decide (a< (b.length:Int)) then
 ((gi b a).bind fun e=>
 (Vm.za0 x0 e).bind fun g=>
 (Vm.zcd g).bind fun f=>
 jn (fun(j:Int) (h:List Bool)=>
 za3 x0 b c m (w64 (a+1)) h) fun i=>
 zbT e f i (((f.length:Int)-0).toNat+1) 0 d)
 else
 (c a d)
def zbE (c:(List Bool))(d:(List Bool))(e:List Bool)(f:Int->List Bool->Option ((List Int))):Nat->Int->List Bool->Option ((List Int))
 |0,_,_=>none
 |m+1,a,b=>
 bif decide (a< (e.length:Int)) then
 ((gi c a).bind fun g=>
 bif g then
 ((gi d a).bind fun h=>
 (gi b a).bind fun k=>
 (siM b a h).bind fun i=>
 zbE c d e f m (w64 (a+1)) i)
 else
 ((gi b a).bind fun l=>
 (siM b a false).bind fun j=>
 zbE c d e f m (w64 (a+1)) j))
 else
 (f a b)
def zeZ (x0:Vm.Repo)(x1:Int)(x2:Int):Option ((List Int)):=
 (Vm.za0 x0 x1).bind fun d=>
 (Vm.za0 x0 x2).bind fun e=>
 (mkM (x0.Commits.length:Int) (false:Bool)).bind fun a=>
 jn (fun(k:Int) (b:List Bool)=>
 (Vm.zbq b).bind fun f=>
 (Vm.zcd b).bind fun c=>
 jn (fun(l:Int) (g:List Bool)=>
 (Vm.zcd g).bind fun h=>
 some h) fun i=>
 za3 x0 c i (((c.length:Int)-0).toNat+1) 0 f) fun j=>
 zbE d e a j (((a.length:Int)-0).toNat+1) 0 a
def zbU (x0:Vm.Repo)(x1:Int)(x2:Int):Option ((List Vm.File)):=
 (Vm.zeZ x0 x1 x2).bind fun a=>
 bif((a.length:Int)==0) then
 (some ([]:List File))
 else
 ((gi a (w64 ((a.length:Int)-1))).bind fun b=>
 (Vm.zaX x0 b).bind fun c=>
 some c)
def zaM (x0:List Str)(x1:List Str)(b:Bool->Int->Option (Bool)):Nat->Bool->Int->Option (Bool)
 |0,_,_=>none
 |m+1,c,a=>
 bif decide (a< (x0.length:Int)) then
 ((gi x0 a).bind fun d=>
 (gi x1 a).bind fun e=>
 bif(d !=e) then
 (some false)
 else
 (zaM x0 x1 b m c (w64 (a+1))))
 else
 (b c a)
def zaK (x0:List Str)(x1:List Str):Option (Bool):=
 bif((x0.length:Int) !=(x1.length:Int)) then
 (some false)
 else
 (jn (fun(b:Bool) (c:Int)=>
 some true) fun a=>
 zaM x0 x1 a (((x0.length:Int)-0).toNat+1) false 0)
def zfk (x0:List Str)(x1:List Str)(f:List Int)(g:List Vm.Hunk->Int->Int->Int->Option ((List Vm.Hunk))):Nat->List Vm.Hunk->Int->Int->Int->Option ((List Vm.Hunk))
 |0,_,_,_,_=>none
 |m+1,c,b,d,a=>
 bif decide (a< (f.length:Int)) then
 (jn (fun(k:List Vm.Hunk) (l:Int) (n:Int)=>
 zfk x0 x1 f g m k l n (w64 (a+1))) fun h=>
 (gi f a).bind fun e=>
 bif decide (e< (0:Int)) then
 (h c b d)
 else
 (jn (fun(o:List Vm.Hunk)=>
 h o (w64 (a+1)) (w64 (e+1))) fun i=>
 jn (fun(p:Bool)=>
 bif p then
 ((slM x0 b a).bind fun q=>
 (slM x1 d e).bind fun r=>
 (Vm.zbS q).bind fun s=>
 (Vm.zbS r).bind fun t=>
 (apM c [Vm.Hunk.mk b s t]).bind fun u=>
 i u)
 else
 (i c)) fun j=>
 bif decide (b< (a:Int)) then
 (j true)
 else
 (j (decide (d< (e:Int))))))
 else
 (g c b d a)
def zk3 (x0:List Str)(x1:List Str):Option ((List Vm.Hunk)):=
 (Vm.zeG x0 x1).bind fun b=>
 (apM b [(x1.length:Int)]).bind fun a=>
 jn (fun(c:List Vm.Hunk) (e:Int) (f:Int) (g:Int)=>
 some c) fun d=>
 zfk x0 x1 a d (((a.length:Int)-0).toNat+1) ([]:List Hunk) 0 0 0
def zaz (x0:List Str)(x1:Str)(b:Int->Int->Option (Int)):Nat->Int->Int->Option (Int)
 |0,_,_=>none
 |m+1,c,a=>
 bif decide (a< (x0.length:Int)) then
 ((gi x0 a).bind fun d=>
 bif(x1==d) then
 (some a)
 else
 (zaz x0 x1 b m c (w64 (a+1))))
 else
 (b c a)
def zbz (x0:List Str)(x1:Str):Option (Int):=
 jn (fun(b:Int) (c:Int)=>
 some (-1)) fun a=>
 zaz x0 x1 a (((x0.length:Int)-0).toNat+1) 0 0
def zaP (x0:List Str)(x1:Str):Option (Bool):=
 (Vm.zbz x0 x1).bind fun a=>
 some (decide (0<=(a:Int)))
def zcl (x0:List Vm.File)(x1:List Vm.File)(c:Vm.File)(d:List Str->Int->Str->Str->List Str->List Vm.Hunk->Option ((List Vm.Change))):Nat->List Str->Int->Int->Str->Str->List Str->List Vm.Hunk->Option ((List Vm.Change))
 |0,_,_,_,_,_,_,_=>none
 |m+1,b,e,g,h,i,j,k=>
 bif decide (e< (x1.length:Int)) then
 ((gi x1 e).bind fun a=>
 (Vm.zfE x0 a.Path).bind fun l=>
 jn (fun(n:Bool)=>
 bif n then
 ((apM b [a.Path]).bind fun o=>
 d o 4 c.Path a.Path ([]:List Str) ([]:List Hunk))
 else
 (zcl x0 x1 c d m b (w64 (e+1)) g h i j k)) fun f=>
 bif(!l.2) then
 ((Vm.zaK a.Text c.Text).bind fun p=>
 bif p then
 ((Vm.zaP b a.Path).bind fun q=>
 f (!q))
 else
 (f false))
 else
 (f false))
 else
 (d b g h i j k)
def zaT (x0:List Vm.File)(x1:List Vm.File)(d:List Str)(e:List Vm.Change->Int->Option ((List Vm.Change))):Nat->List Vm.Change->Int->Option ((List Vm.Change))
 |0,_,_=>none
 |m+1,c,a=>
 bif decide (a< (x1.length:Int)) then
 (jn (fun(h:List Vm.Change)=>
 zaT x0 x1 d e m h (w64 (a+1))) fun f=>
 (gi x1 a).bind fun b=>
 (Vm.zfE x0 b.Path).bind fun i=>
 jn (fun(j:Bool)=>
 bif j then
 ((Vm.zbS b.Text).bind fun k=>
 (apM c ([Vm.Change.mk 1 b.Path ([]:Str) k ([]:List Hunk)])).bind fun l=>
 f l)
 else
 (f c)) fun g=>
 bif(!i.2) then
 ((Vm.zaP d b.Path).bind fun n=>
 g (!n))
 else
 (g false))
 else
 (e c a)
def zcm (x0:List Vm.File)(x1:List Vm.File)(g:List Vm.Change->List Str->Int->Option ((List Vm.Change))):Nat->List Vm.Change->List Str->Int->Option ((List Vm.Change))
 |0,_,_,_=>none
 |m+1,b,c,d=>
 bif decide (d< (x0.length:Int)) then
 (jn (fun(i:List Vm.Change) (j:List Str)=>
 zcm x0 x1 g m i j (w64 (d+1))) fun f=>
 (gi x0 d).bind fun a=>
 (Vm.zfE x1 a.Path).bind fun e=>
 jn (fun(k:Bool)=>
 bif k then
 (f b c)
 else
 (bif e.2 then
 ((Vm.zk3 a.Text e.1).bind fun l=>
 (apM b ([Vm.Change.mk 3 a.Path ([]:Str) ([]:List Str) l])).bind fun n=>
 f n c)
 else
 ((Vm.zbS a.Text).bind fun o=>
 jn (fun(p:List Str) (q:Int) (r:Str) (s:Str) (t:List Str) (u:List Vm.Hunk)=>
 (apM b [Vm.Change.mk q r s t u]).bind fun v=>
 f v p) fun w=>
 zcl x0 x1 a w (((x1.length:Int)-0).toNat+1) c 0 2 a.Path ([]:Str) o ([]:List Hunk)))) fun h=>
 bif e.2 then
 ((Vm.zaK e.1 a.Text).bind fun x=>
 h x)
 else
 (h false))
 else
 (g b c d)
def zft (x0:List Vm.File)(x1:List Vm.File):Option ((List Vm.Change)):=
 jn (fun(b:Bool)=>
 bif b then
 (some ([]:List Change))
 else
 (jn (fun(c:List Vm.Change) (d:List Str) (j:Int)=>
 jn (fun(e:List Vm.Change) (k:Int)=>
 some e) fun f=>
 zaT x0 x1 d f (((x1.length:Int)-0).toNat+1) c 0) fun g=>
 zcm x0 x1 g (((x0.length:Int)-0).toNat+1) ([]:List Change) ([]:List Str) 0)) fun a=>
 (Vm.zda x0).bind fun h=>
 bif(!h) then
 (a true)
 else
 ((Vm.zda x1).bind fun i=>
 a (!i))
def zaB (x0:List Str):Option ((List Str)):=
 if x0.length<=4294967296 then some (zci x0) else none
def zdt (x0:List Vm.Change)(c:List Str->Int->Option ((List Str))):Nat->List Str->Int->Option ((List Str))
 |0,_,_=>none
 |m+1,d,a=>
 bif decide (a< (x0.length:Int)) then
 (jn (fun(g:List Str)=>
 zdt x0 c m g (w64 (a+1))) fun e=>
 (gi x0 a).bind fun b=>
 (apM d [b.Path]).bind fun f=>
 bif(b.Kind==4) then
 ((apM f [b.To]).bind fun h=>
 e h)
 else
 (e f))
 else
 (c d a)
def zhi (x0:List Vm.Change):Option ((List Str)):=
 jn (fun(a:List Str) (d:Int)=>
 (Vm.zaB a).bind fun b=>
 some b) fun c=>
 zdt x0 c (((x0.length:Int)-0).toNat+1) ([]:List Str) 0
def zdu (x0:List Vm.Owner)(x1:Str)(e:Int->Str->Str->Option (Str)):Nat->Int->Str->Str->Option (Str)
 |0,_,_,_=>none
 |m+1,b,c,f=>
 bif decide (b< (x0.length:Int)) then
 (jn (fun(h:Str) (i:Str)=>
 zdu x0 x1 e m (w64 (b+1)) h i) fun g=>
 (gi x0 b).bind fun a=>
 jn (fun(j:Bool)=>
 bif j then
 (g a.Path a.Who)
 else
 (g c f)) fun d=>
 bif(a.Path==x1) then
 (d (decide (c.length< (a.Path.length:Int))))
 else
 ((Vm.zbX a.Path x1).bind fun k=>
 bif k then
 (d (decide (c.length< (a.Path.length:Int))))
 else
 (d false)))
 else
 (e b c f)
def zhj (x0:List Vm.Owner)(x1:Str):Option (Str):=
 jn (fun(b:Bool)=>
 bif b then
 (some ([]:Str))
 else
 (jn (fun(g:Int) (h:Str) (c:Str)=>
 some c) fun d=>
 zdu x0 x1 d (((x0.length:Int)-0).toNat+1) 0 ([]:Str) ([]:Str))) fun a=>
 (Vm.zfF x0).bind fun e=>
 bif(!e) then
 (a true)
 else
 ((Vm.zeM x1).bind fun f=>
 a (!f))
def zbp (x0:List Str):Option ((List Str)):=
 if x0.length<=4294967296 then some (zof x0) else none
def zhk (x0:List Str)(x1:Str):Option ((List Str)):=
 (apM ([]:List Str) x0).bind fun a=>
 (apM a [x1]).bind fun b=>
 (Vm.zaB b).bind fun c=>
 (Vm.zbp c).bind fun d=>
 some d
def zbm (x1:List Vm.Owner)(x2:Vm.Review)(c:(List Str))(f:List Str->Int->Option ((List Str)×Bool)):Nat->List Str->Int->Option ((List Str)×Bool)
 |0,_,_=>none
 |m+1,d,a=>
 bif decide (a< (c.length:Int)) then
 (jn (fun(h:List Str)=>
 zbm x1 x2 c f m h (w64 (a+1))) fun g=>
 (gi c a).bind fun i=>
 (Vm.zhj x1 i).bind fun b=>
 jn (fun(j:Bool)=>
 bif j then
 ((Vm.zhk d b).bind fun k=>
 g k)
 else
 (g d)) fun e=>
 bif(b !=([]:Str)) then
 (bif(b !=x2.By) then
 ((Vm.zaP x2.Yes b).bind fun l=>
 e (!l))
 else
 (e false))
 else
 (e false))
 else
 (f d a)
def zb8 (x0:Vm.Repo)(x1:List Vm.Owner)(x2:Vm.Review):Option ((List Str)×Bool):=
 jn (fun(d:Bool)=>
 bif d then
 (some (([]:List Str),false))
 else
 ((Vm.zeq x0 x2.Branch).bind fun b=>
 (Vm.zeq x0 x2.Into).bind fun e=>
 (Vm.zbU x0 b e).bind fun f=>
 (Vm.zaX x0 b).bind fun g=>
 (Vm.zft f g).bind fun h=>
 (Vm.zhi h).bind fun c=>
 jn (fun(i:List Str) (p:Int)=>
 some (i,true)) fun j=>
 zbm x1 x2 c j (((c.length:Int)-0).toNat+1) ([]:List Str) 0)) fun a=>
 (Vm.zfa x0).bind fun k=>
 bif(!k) then
 (a true)
 else
 ((Vm.zfF x1).bind fun l=>
 bif(!l) then
 (a true)
 else
 ((Vm.zgg x2).bind fun m=>
 bif(!m) then
 (a true)
 else
 ((Vm.zeq x0 x2.Branch).bind fun n=>
 bif decide (n< (0:Int)) then
 (a true)
 else
 ((Vm.zeq x0 x2.Into).bind fun o=>
 a (decide (o< (0:Int)))))))
end Go.Vm
