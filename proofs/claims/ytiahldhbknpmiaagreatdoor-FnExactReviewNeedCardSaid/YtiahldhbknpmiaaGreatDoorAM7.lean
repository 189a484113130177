/- Models of the functions: plain Lean, printed by a program of ours. Conditions: none. -/
import Derived.Test.YtiahldhbknpmiaaGreatDoorALw
import Derived.Test.YtiahldhbknpmiaaGreatDoorAM0
import Derived.Test.YtiahldhbknpmiaaGreatDoorAM4
namespace Go.Vm
open Go Go.Sx
set_option linter.unusedVariables false
set_option linter.unusedSimpArgs false
def zla (x0:Vm.Owner)(x1:Int):Option (Int):=
 bif decide ((w64 (x1-(x0.Path.length:Int)):Int)< (0:Int)) then
 (some (-1))
 else
 (bif decide ((w64 ((w64 (x1-(x0.Path.length:Int)))-(x0.Who.length:Int)):Int)< (0:Int)) then
 (some (-1))
 else
 (some (w64 ((w64 (x1-(x0.Path.length:Int)))-(x0.Who.length:Int)))))
def zhf (x0:List Vm.Owner)(b:Int->Int->Int->Option (Int)):Nat->Int->Int->Int->Option (Int)
 |0,_,_,_=>none
 |m+1,c,d,a=>
 bif decide (a< (x0.length:Int)) then
 ((gi x0 a).bind fun f=>
 (Vm.zla f c).bind fun e=>
 bif decide (e< (0:Int)) then
 (some (-1))
 else
 (zhf x0 b m e d (w64 (a+1))))
 else
 (b c d a)
def zkB (x0:List Vm.Owner)(x1:Int):Option (Int):=
 bif decide ((w64 (x1-(x0.length:Int)):Int)< (0:Int)) then
 (some (-1))
 else
 (jn (fun(a:Int) (c:Int) (d:Int)=>
 some a) fun b=>
 zhf x0 b (((x0.length:Int)-0).toNat+1) (w64 (x1-(x0.length:Int))) 0 0)
def zkC (x0:Vm.Review)(x1:Int):Option (Int):=
 bif decide ((w64 (x1-(x0.Branch.length:Int)):Int)< (0:Int)) then
 (some (-1))
 else
 (bif decide ((w64 ((w64 (x1-(x0.Branch.length:Int)))-(x0.Into.length:Int)):Int)< (0:Int)) then
 (some (-1))
 else
 (bif decide ((w64 ((w64 ((w64 (x1-(x0.Branch.length:Int)))-(x0.Into.length:Int)))-(x0.By.length:Int)):Int)< (0:Int)) then
 (some (-1))
 else
 ((Vm.zgH x0.Yes (w64 ((w64 ((w64 (x1-(x0.Branch.length:Int)))-(x0.Into.length:Int)))-(x0.By.length:Int)))).bind fun a=>
 bif decide (a< (0:Int)) then
 (some (-1))
 else
 (some a))))
def zlb (x0:Vm.Owner):Option (Vm.Owner):=
 some (Vm.Owner.mk x0.Path x0.Who)
def zhg (x0:List Vm.Owner)(c:Int->List Vm.Owner->Option ((List Vm.Owner))):Nat->Int->List Vm.Owner->Option ((List Vm.Owner))
 |0,_,_=>none
 |m+1,a,b=>
 bif decide (a< (x0.length:Int)) then
 ((gi x0 a).bind fun d=>
 (Vm.zlb d).bind fun e=>
 (gi b a).bind fun g=>
 (siM b a e).bind fun f=>
 zhg x0 c m (w64 (a+1)) f)
 else
 (c a b)
def zhy (x0:List Vm.Owner):Option ((List Vm.Owner)):=
 (mkM (x0.length:Int) (Vm.Owner.mk ([]:Str) ([]:Str):Owner)).bind fun a=>
 jn (fun(d:Int) (b:List Vm.Owner)=>
 some b) fun c=>
 zhg x0 c (((x0.length:Int)-0).toNat+1) 0 a
def zhz (x0:Vm.Review):Option (Vm.Review):=
 (Vm.zgI x0.Yes).bind fun a=>
 some (Vm.Review.mk x0.Branch x0.Into x0.By a)
def zel (x0:List Vm.Owner)(c:Bool->Int->Option (Bool)):Nat->Bool->Int->Option (Bool)
 |0,_,_=>none
 |m+1,d,a=>
 bif decide (a< (x0.length:Int)) then
 (jn (fun(g:Bool)=>
 bif g then
 (some false)
 else
 (zel x0 c m d (w64 (a+1)))) fun b=>
 (gi x0 a).bind fun h=>
 (Vm.zdC h.Path).bind fun i=>
 bif(!i) then
 (b true)
 else
 ((gi x0 a).bind fun j=>
 (Vm.zcJ j.Who).bind fun k=>
 bif(!k) then
 (b true)
 else
 (bif decide (0< (a:Int)) then
 ((gi x0 a).bind fun e=>
 (gi x0 (w64 (a-1))).bind fun f=>
 b (Op.bytesLess e.Path f.Path||e.Path==f.Path))
 else
 (b false))))
 else
 (c d a)
def zhF (x0:List Vm.Owner):Option (Bool):=
 jn (fun(b:Bool) (c:Int)=>
 some (decide (x0.length<=(5:Int)))) fun a=>
 zel x0 a (((x0.length:Int)-0).toNat+1) false 0
def zgL (x0:Vm.Review)(c:Bool->Int->Option (Bool)):Nat->Bool->Int->Option (Bool)
 |0,_,_=>none
 |m+1,d,a=>
 bif decide (a< (x0.Yes.length:Int)) then
 (jn (fun(g:Bool)=>
 bif g then
 (some false)
 else
 (zgL x0 c m d (w64 (a+1)))) fun b=>
 (gi x0.Yes a).bind fun h=>
 (Vm.zcJ h).bind fun i=>
 bif(!i) then
 (b true)
 else
 (bif decide (0< (a:Int)) then
 ((gi x0.Yes a).bind fun e=>
 (gi x0.Yes (w64 (a-1))).bind fun f=>
 b (Op.bytesLess e f||e==f))
 else
 (b false)))
 else
 (c d a)
def zlc (x0:Vm.Review):Option (Bool):=
 jn (fun(g:Bool) (h:Int)=>
 jn (fun(b:Bool)=>
 some b) fun a=>
 (Vm.zcJ x0.Branch).bind fun c=>
 bif c then
 ((Vm.zcJ x0.Into).bind fun d=>
 bif d then
 ((Vm.zcJ x0.By).bind fun e=>
 bif e then
 (bif(x0.Branch !=x0.Into) then
 (a (decide (x0.Yes.length<=(5:Int))))
 else
 (a false))
 else
 (a false))
 else
 (a false))
 else
 (a false)) fun f=>
 zgL x0 f (((x0.Yes.length:Int)-0).toNat+1) false 0
def zhG (x0:List Str)(x1:List Str)(b:List Int)(f:List Vm.Hunk->Int->Int->Int->Option ((List Vm.Hunk))):Nat->List Vm.Hunk->Int->Int->Int->Option ((List Vm.Hunk))
 |0,_,_,_,_=>none
 |m+1,d,c,e,a=>
 bif decide (a< (b.length:Int)) then
 (jn (fun(j:List Vm.Hunk) (k:Int) (l:Int)=>
 zhG x0 x1 b f m j k l (w64 (a+1))) fun g=>
 (gi b a).bind fun n=>
 bif decide (n< (0:Int)) then
 (g d c e)
 else
 (jn (fun(o:List Vm.Hunk)=>
 (gi b a).bind fun p=>
 g o (w64 (a+1)) (w64 (p+1))) fun h=>
 jn (fun(q:Bool)=>
 bif q then
 ((slM x0 c a).bind fun r=>
 (apM ([]:List Str) r).bind fun s=>
 (gi b a).bind fun t=>
 (slM x1 e t).bind fun u=>
 (apM ([]:List Str) u).bind fun v=>
 (apM d [Vm.Hunk.mk c s v]).bind fun w=>
 h w)
 else
 (h d)) fun i=>
 bif decide (c< (a:Int)) then
 (i true)
 else
 ((gi b a).bind fun x=>
 i (decide (e< (x:Int))))))
 else
 (f d c e a)
def zmf (x0:List Str)(x1:List Str):Option ((List Vm.Hunk)):=
 (Vm.zdL x0 x1).bind fun b=>
 (apM b [(x1.length:Int)]).bind fun a=>
 jn (fun(c:List Vm.Hunk) (e:Int) (f:Int) (g:Int)=>
 some c) fun d=>
 zhG x0 x1 a d (((a.length:Int)-0).toNat+1) ([]:List Hunk) 0 0 0
def zdv (x1:List Vm.File)(x3:List Vm.Change)(b:Int)(c:Bool->Int->Option (Str)):Nat->Bool->Int->Option (Str)
 |0,_,_=>none
 |m+1,d,a=>
 bif decide (a< (x3.length:Int)) then
 (bif d then
 ((gi x3 a).bind fun e=>
 (gi x1 b).bind fun f=>
 zdv x1 x3 b c m (e.To !=f.Path) (w64 (a+1)))
 else
 (zdv x1 x3 b c m false (w64 (a+1))))
 else
 (c d a)
def ze1 (x0:List Vm.File)(x1:List Vm.File)(x2:List Str)(x3:List Vm.Change)(c:Str->Int->Option (Str)):Nat->Str->Int->Option (Str)
 |0,_,_=>none
 |m+1,d,a=>
 bif decide (a< (x1.length:Int)) then
 ((gi x1 a).bind fun e=>
 (Vm.zej x0 e.Path).bind fun f=>
 jn (fun(g:Bool) (n:Int)=>
 jn (fun(h:Bool)=>
 bif h then
 ((gi x1 a).bind fun i=>
 some i.Path)
 else
 (ze1 x0 x1 x2 x3 c m d (w64 (a+1)))) fun b=>
 bif(!f.2) then
 (bif g then
 ((gi x1 a).bind fun j=>
 (Vm.zdD j.Text x2).bind fun k=>
 b k)
 else
 (b false))
 else
 (b false)) fun l=>
 zdv x1 x3 a l (((x3.length:Int)-0).toNat+1) true 0)
 else
 (c d a)
def ziE (x0:List Vm.File)(x1:List Vm.File)(x2:List Str)(x3:List Vm.Change):Option (Str):=
 jn (fun(b:Str) (c:Int)=>
 some ([]:Str)) fun a=>
 ze1 x0 x1 x2 x3 a (((x1.length:Int)-0).toNat+1) ([]:Str) 0
def zfN (x1:List Vm.File)(b:List Vm.Change)(c:List Vm.Change)(d:Int)(e:Bool->Int->Option ((List Vm.Change))):Nat->Bool->Int->Option ((List Vm.Change))
 |0,_,_=>none
 |m+1,f,a=>
 bif decide (a< (b.length:Int)) then
 (bif f then
 (zfN x1 b c d e m true (w64 (a+1)))
 else
 ((gi c a).bind fun g=>
 (gi x1 d).bind fun h=>
 zfN x1 b c d e m (g.To==h.Path) (w64 (a+1))))
 else
 (e f a)
def zer (x0:List Vm.File)(x1:List Vm.File)(c:List Vm.Change)(d:List Vm.Change->Int->Option ((List Vm.Change))):Nat->List Vm.Change->Int->Option ((List Vm.Change))
 |0,_,_=>none
 |m+1,b,a=>
 bif decide (a< (x1.length:Int)) then
 (jn (fun(g:List Vm.Change)=>
 zer x0 x1 c d m g (w64 (a+1))) fun e=>
 (gi x1 a).bind fun h=>
 (Vm.zej x0 h.Path).bind fun i=>
 jn (fun(j:Bool) (r:Int)=>
 jn (fun(k:Bool)=>
 bif k then
 ((gi x1 a).bind fun l=>
 (gi x1 a).bind fun n=>
 (apM ([]:List Str) n.Text).bind fun o=>
 (apM b ([Vm.Change.mk 1 l.Path ([]:Str) o ([]:List Hunk)])).bind fun p=>
 e p)
 else
 (e b)) fun f=>
 bif(!i.2) then
 (f (!j))
 else
 (f false)) fun q=>
 zfN x1 c b a q (((c.length:Int)-0).toNat+1) false 0)
 else
 (d b a)
def zhH (x0:List Vm.File)(x1:List Vm.File)(f:List Vm.Change->Int->Option ((List Vm.Change))):Nat->List Vm.Change->Int->Option ((List Vm.Change))
 |0,_,_=>none
 |m+1,d,a=>
 bif decide (a< (x0.length:Int)) then
 (jn (fun(j:List Vm.Change)=>
 zhH x0 x1 f m j (w64 (a+1))) fun e=>
 (gi x0 a).bind fun k=>
 (Vm.zej x1 k.Path).bind fun b=>
 jn (fun(c:List Vm.Change)=>
 bif b.2 then
 (e c)
 else
 ((gi x0 a).bind fun l=>
 (Vm.ziE x0 x1 l.Text c).bind fun g=>
 bif(g !=([]:Str)) then
 ((gi x0 a).bind fun n=>
 (apM c ([Vm.Change.mk 4 n.Path g ([]:List Str) ([]:List Hunk)])).bind fun o=>
 e o)
 else
 ((gi x0 a).bind fun p=>
 (gi x0 a).bind fun q=>
 (apM ([]:List Str) q.Text).bind fun r=>
 (apM c ([Vm.Change.mk 2 p.Path ([]:Str) r ([]:List Hunk)])).bind fun s=>
 e s))) fun h=>
 jn (fun(t:Bool)=>
 bif t then
 ((gi x0 a).bind fun u=>
 (gi x0 a).bind fun v=>
 (Vm.zmf v.Text b.1).bind fun w=>
 (apM d ([Vm.Change.mk 3 u.Path ([]:Str) ([]:List Str) w])).bind fun x=>
 h x)
 else
 (h d)) fun i=>
 bif b.2 then
 ((gi x0 a).bind fun y=>
 (Vm.zdD b.1 y.Text).bind fun z=>
 i (!z))
 else
 (i false))
 else
 (f d a)
def zkW (x0:List Vm.File)(x1:List Vm.File):Option ((List Vm.Change)):=
 jn (fun(a:List Vm.Change) (e:Int)=>
 jn (fun(b:List Vm.Change) (f:Int)=>
 some b) fun c=>
 zer x0 x1 a c (((x1.length:Int)-0).toNat+1) a 0) fun d=>
 zhH x0 x1 d (((x0.length:Int)-0).toNat+1) ([]:List Change) 0
def zhI (x0:List Vm.Hunk)(c:Bool->Int->Option (Bool)):Nat->Bool->Int->Option (Bool)
 |0,_,_=>none
 |m+1,d,a=>
 bif decide (a< (x0.length:Int)) then
 (jn (fun(e:Bool)=>
 bif e then
 (some false)
 else
 (zhI x0 c m d (w64 (a+1)))) fun b=>
 (gi x0 a).bind fun f=>
 (Vm.zcK f.Less).bind fun g=>
 bif(!g) then
 (b true)
 else
 ((gi x0 a).bind fun h=>
 (Vm.zcK h.More).bind fun i=>
 bif(!i) then
 (b true)
 else
 ((gi x0 a).bind fun j=>
 (gi x0 a).bind fun k=>
 bif((w64 ((j.Less.length:Int)+(k.More.length:Int)):Int)==(0:Int)) then
 (b true)
 else
 ((gi x0 a).bind fun l=>
 (Vm.zec l.At 0 10).bind fun n=>
 bif(!n) then
 (b true)
 else
 (bif decide (0< (a:Int)) then
 ((gi x0 a).bind fun o=>
 (gi x0 (w64 (a-1))).bind fun p=>
 (gi x0 (w64 (a-1))).bind fun q=>
 b (decide ((o.At:Int)<=(w64 (p.At+(q.Less.length:Int)):Int))))
 else
 (b false))))))
 else
 (c d a)
def zmg (x0:List Vm.Hunk):Option (Bool):=
 jn (fun(b:Bool) (c:Int)=>
 some (decide (x0.length<=(8:Int)))) fun a=>
 zhI x0 a (((x0.length:Int)-0).toNat+1) false 0
def zld (x0:Vm.Change):Option (Bool):=
 jn (fun(e:Bool)=>
 bif e then
 (jn (fun(f:Bool)=>
 some f) fun c=>
 (Vm.zdC x0.Path).bind fun g=>
 bif g then
 (bif(x0.To==([]:Str)) then
 ((Vm.zcK x0.Text).bind fun h=>
 bif h then
 (c ((x0.Patch.length:Int)==0))
 else
 (c false))
 else
 (c false))
 else
 (c false))
 else
 (bif(x0.Kind==3) then
 (jn (fun(i:Bool)=>
 some i) fun a=>
 (Vm.zdC x0.Path).bind fun j=>
 bif j then
 (bif(x0.To==([]:Str)) then
 (bif((x0.Text.length:Int)==0) then
 (bif decide (0< (x0.Patch.length:Int)) then
 ((Vm.zmg x0.Patch).bind fun k=>
 a k)
 else
 (a false))
 else
 (a false))
 else
 (a false))
 else
 (a false))
 else
 (bif(x0.Kind==4) then
 (jn (fun(l:Bool)=>
 some l) fun b=>
 (Vm.zdC x0.Path).bind fun m=>
 bif m then
 ((Vm.zdC x0.To).bind fun n=>
 bif n then
 (bif(x0.To !=x0.Path) then
 (bif((x0.Text.length:Int)==0) then
 (b ((x0.Patch.length:Int)==0))
 else
 (b false))
 else
 (b false))
 else
 (b false))
 else
 (b false))
 else
 (some false)))) fun d=>
 bif(x0.Kind==1) then
 (d (x0.Kind==1))
 else
 (d (x0.Kind==2))
def zfU (x0:List Vm.Change)(x1:Str)(b:Bool->Int->Option (Bool)):Nat->Bool->Int->Option (Bool)
 |0,_,_=>none
 |m+1,c,a=>
 bif decide (a< (x0.length:Int)) then
 (jn (fun(e:Bool)=>
 bif e then
 (some false)
 else
 (zfU x0 x1 b m c (w64 (a+1)))) fun d=>
 (gi x0 a).bind fun f=>
 bif(f.Path==x1) then
 (d true)
 else
 ((gi x0 a).bind fun g=>
 d (g.To==x1)))
 else
 (b c a)
def zjp (x0:List Vm.Change)(x1:Str):Option (Bool):=
 jn (fun(b:Bool) (c:Int)=>
 some true) fun a=>
 zfU x0 x1 a (((x0.length:Int)-0).toNat+1) false 0
def zhJ (x0:List Vm.Change)(c:Bool->Int->Option (Bool)):Nat->Bool->Int->Option (Bool)
 |0,_,_=>none
 |m+1,d,a=>
 bif decide (a< (x0.length:Int)) then
 (jn (fun(e:Bool)=>
 bif e then
 (some false)
 else
 (zhJ x0 c m d (w64 (a+1)))) fun b=>
 (gi x0 a).bind fun f=>
 (Vm.zld f).bind fun g=>
 bif(!g) then
 (b true)
 else
 ((slM x0 0 a).bind fun h=>
 (gi x0 a).bind fun i=>
 (Vm.zjp h i.Path).bind fun j=>
 bif(!j) then
 (b true)
 else
 ((gi x0 a).bind fun k=>
 bif(k.To !=([]:Str)) then
 ((slM x0 0 a).bind fun l=>
 (gi x0 a).bind fun n=>
 (Vm.zjp l n.To).bind fun o=>
 b (!o))
 else
 (b false))))
 else
 (c d a)
def zmh (x0:List Vm.Change):Option (Bool):=
 jn (fun(b:Bool) (c:Int)=>
 some (decide (x0.length<=(16:Int)))) fun a=>
 zhJ x0 a (((x0.length:Int)-0).toNat+1) false 0
def zdm (x0:List Vm.Change)(b:List Str->Int->Option ((List Str))):Nat->List Str->Int->Option ((List Str))
 |0,_,_=>none
 |m+1,c,a=>
 bif decide (a< (x0.length:Int)) then
 (jn (fun(f:List Str)=>
 zdm x0 b m f (w64 (a+1))) fun d=>
 (gi x0 a).bind fun g=>
 (Vm.zdi c g.Path).bind fun e=>
 (gi x0 a).bind fun h=>
 bif(h.To !=([]:Str)) then
 ((gi x0 a).bind fun i=>
 (Vm.zdi e i.To).bind fun j=>
 d j)
 else
 (d e))
 else
 (b c a)
def zem (x0:List Vm.Change):Option ((List Str)):=
 (Vm.zmh x0).bind fun a=>
 bif(!a) then
 (some ([]:List Str))
 else
 (jn (fun(b:List Str) (d:Int)=>
 some b) fun c=>
 zdm x0 c (((x0.length:Int)-0).toNat+1) ([]:List Str) 0)
def zkD (x0:Vm.Repo)(x1:Vm.Review):Option ((List Str)):=
 (Vm.zd0 x0 x1.Into).bind fun b=>
 (Vm.zd0 x0 x1.Branch).bind fun a=>
 (gi x0.Commits a).bind fun c=>
 (Vm.zh1 x0 b a).bind fun d=>
 (Vm.zkW d c.Tree).bind fun e=>
 (Vm.zem e).bind fun f=>
 some f
def zfV (x0:List Vm.Owner)(x1:Str)(d:Str->Int->Int->Option (Str)):Nat->Str->Int->Int->Option (Str)
 |0,_,_,_=>none
 |m+1,e,b,a=>
 bif decide (a< (x0.length:Int)) then
 (jn (fun(g:Str) (h:Int)=>
 zfV x0 x1 d m g h (w64 (a+1))) fun f=>
 jn (fun(i:Bool)=>
 bif i then
 ((gi x0 a).bind fun j=>
 (gi x0 a).bind fun k=>
 f j.Who (k.Path.length:Int))
 else
 (f e b)) fun c=>
 (gi x0 a).bind fun l=>
 bif(l.Path==x1) then
 ((gi x0 a).bind fun n=>
 c (decide (b< (n.Path.length:Int))))
 else
 ((gi x0 a).bind fun o=>
 (Vm.zgY o.Path x1).bind fun p=>
 bif p then
 ((gi x0 a).bind fun q=>
 c (decide (b< (q.Path.length:Int))))
 else
 (c false)))
 else
 (d e b a)
def zkf (x0:List Vm.Owner)(x1:Str):Option (Str):=
 jn (fun(a:Str) (c:Int) (d:Int)=>
 some a) fun b=>
 zfV x0 x1 b (((x0.length:Int)-0).toNat+1) ([]:Str) 0 0
def zdV (x2:Vm.Review)(b:Str)(c:Bool->Int->Option ((List Str))):Nat->Bool->Int->Option ((List Str))
 |0,_,_=>none
 |m+1,d,a=>
 bif decide (a< (x2.Yes.length:Int)) then
 (bif d then
 (zdV x2 b c m true (w64 (a+1)))
 else
 ((gi x2.Yes a).bind fun e=>
 zdV x2 b c m (e==b) (w64 (a+1))))
 else
 (c d a)
def zee (x1:List Vm.Owner)(x2:Vm.Review)(c:(List Str))(e:List Str->Int->Option ((List Str))):Nat->List Str->Int->Option ((List Str))
 |0,_,_=>none
 |m+1,d,a=>
 bif decide (a< (c.length:Int)) then
 (jn (fun(h:List Str)=>
 zee x1 x2 c e m h (w64 (a+1))) fun f=>
 (gi c a).bind fun i=>
 (Vm.zkf x1 i).bind fun b=>
 jn (fun(j:Bool)=>
 jn (fun(k:Bool) (o:Int)=>
 bif(!k) then
 ((Vm.zdi d b).bind fun l=>
 f l)
 else
 (f d)) fun n=>
 zdV x2 b n (((x2.Yes.length:Int)-0).toNat+1) j 0) fun g=>
 bif(b==([]:Str)) then
 (g true)
 else
 (g (b==x2.By)))
 else
 (e d a)
def zle (x0:Vm.Repo)(x1:List Vm.Owner)(x2:Vm.Review):Option ((List Str)):=
 (Vm.zkD x0 x2).bind fun a=>
 jn (fun(b:List Str) (d:Int)=>
 some b) fun c=>
 zee x1 x2 a c (((a.length:Int)-0).toNat+1) ([]:List Str) 0
def zg2 (x0:Vm.Repo)(x1:List Vm.Owner)(x2:Vm.Review):Option ((List Str)×Bool):=
 jn (fun(b:Bool)=>
 bif b then
 (some (([]:List Str),false))
 else
 ((Vm.zle x0 x1 x2).bind fun c=>
 some (c,true))) fun a=>
 (Vm.zdJ x0).bind fun d=>
 bif(!d) then
 (a true)
 else
 ((Vm.zhF x1).bind fun e=>
 bif(!e) then
 (a true)
 else
 ((Vm.zlc x2).bind fun f=>
 bif(!f) then
 (a true)
 else
 ((Vm.zd0 x0 x2.Branch).bind fun g=>
 bif decide (g< (0:Int)) then
 (a true)
 else
 ((Vm.zd0 x0 x2.Into).bind fun h=>
 a (decide (h< (0:Int)))))))
def ze2 (x0:List Vm.Owner)(d:Bool->Int->Option (Bool)):Nat->Bool->Int->Option (Bool)
 |0,_,_=>none
 |m+1,e,a=>
 bif decide (a< (x0.length:Int)) then
 ((gi x0 a).bind fun c=>
 jn (fun(f:Bool)=>
 bif f then
 (some false)
 else
 (ze2 x0 d m e (w64 (a+1)))) fun b=>
 (Vm.zdT c.Path).bind fun g=>
 bif(!g) then
 (b true)
 else
 ((Vm.zcL c.Who).bind fun h=>
 bif(!h) then
 (b true)
 else
 (bif decide (0< (a:Int)) then
 ((gi x0 (w64 (a-1))).bind fun i=>
 b (!Op.bytesLess i.Path c.Path))
 else
 (b false))))
 else
 (d e a)
def zhA (x0:List Vm.Owner):Option (Bool):=
 bif decide (5< (x0.length:Int)) then
 (some false)
 else
 (jn (fun(b:Bool) (c:Int)=>
 some true) fun a=>
 ze2 x0 a (((x0.length:Int)-0).toNat+1) false 0)
def zfx (x0:List Str)(c:Bool->Int->Option (Bool)):Nat->Bool->Int->Option (Bool)
 |0,_,_=>none
 |m+1,d,a=>
 bif decide (a< (x0.length:Int)) then
 ((gi x0 a).bind fun e=>
 jn (fun(f:Bool)=>
 bif f then
 (some false)
 else
 (zfx x0 c m d (w64 (a+1)))) fun b=>
 (Vm.zcL e).bind fun g=>
 bif(!g) then
 (b true)
 else
 (bif decide (0< (a:Int)) then
 ((gi x0 (w64 (a-1))).bind fun h=>
 b (!Op.bytesLess h e))
 else
 (b false)))
 else
 (c d a)
def zjc (x0:List Str):Option (Bool):=
 jn (fun(b:Bool) (c:Int)=>
 some true) fun a=>
 zfx x0 a (((x0.length:Int)-0).toNat+1) false 0
def ziF (x0:Vm.Review):Option (Bool):=
 jn (fun(b:Bool)=>
 some b) fun a=>
 (Vm.zcL x0.Branch).bind fun c=>
 bif c then
 ((Vm.zcL x0.Into).bind fun d=>
 bif d then
 ((Vm.zcL x0.By).bind fun e=>
 bif e then
 (bif(x0.Branch !=x0.Into) then
 (bif decide (x0.Yes.length<=(5:Int)) then
 ((Vm.zjc x0.Yes).bind fun f=>
 a f)
 else
 (a false))
 else
 (a false))
 else
 (a false))
 else
 (a false))
 else
 (a false)
def zhK (x0:List Str)(x1:List Str)(f:List Int)(g:List Vm.Hunk->Int->Int->Int->Option ((List Vm.Hunk))):Nat->List Vm.Hunk->Int->Int->Int->Option ((List Vm.Hunk))
 |0,_,_,_,_=>none
 |m+1,c,b,d,a=>
 bif decide (a< (f.length:Int)) then
 (jn (fun(k:List Vm.Hunk) (l:Int) (n:Int)=>
 zhK x0 x1 f g m k l n (w64 (a+1))) fun h=>
 (gi f a).bind fun e=>
 bif decide (e< (0:Int)) then
 (h c b d)
 else
 (jn (fun(o:List Vm.Hunk)=>
 h o (w64 (a+1)) (w64 (e+1))) fun i=>
 jn (fun(p:Bool)=>
 bif p then
 ((slM x0 b a).bind fun q=>
 (slM x1 d e).bind fun r=>
 (Vm.zb6 q).bind fun s=>
 (Vm.zb6 r).bind fun t=>
 (apM c [Vm.Hunk.mk b s t]).bind fun u=>
 i u)
 else
 (i c)) fun j=>
 bif decide (b< (a:Int)) then
 (j true)
 else
 (j (decide (d< (e:Int))))))
 else
 (g c b d a)
def zmi (x0:List Str)(x1:List Str):Option ((List Vm.Hunk)):=
 (Vm.zft x0 x1).bind fun b=>
 (apM b [(x1.length:Int)]).bind fun a=>
 jn (fun(c:List Vm.Hunk) (e:Int) (f:Int) (g:Int)=>
 some c) fun d=>
 zhK x0 x1 a d (((a.length:Int)-0).toNat+1) ([]:List Hunk) 0 0 0
def zbd (x0:List Str)(x1:Str)(b:Int->Int->Option (Int)):Nat->Int->Int->Option (Int)
 |0,_,_=>none
 |m+1,c,a=>
 bif decide (a< (x0.length:Int)) then
 ((gi x0 a).bind fun d=>
 bif(x1==d) then
 (some a)
 else
 (zbd x0 x1 b m c (w64 (a+1))))
 else
 (b c a)
def zc7 (x0:List Str)(x1:Str):Option (Int):=
 jn (fun(b:Int) (c:Int)=>
 some (-1)) fun a=>
 zbd x0 x1 a (((x0.length:Int)-0).toNat+1) 0 0
def zbz (x0:List Str)(x1:Str):Option (Bool):=
 (Vm.zc7 x0 x1).bind fun a=>
 some (decide (0<=(a:Int)))
def zen (x0:List Vm.File)(x1:List Vm.File)(c:Vm.File)(d:List Str->Int->Str->Str->List Str->List Vm.Hunk->Option ((List Vm.Change))):Nat->List Str->Int->Int->Str->Str->List Str->List Vm.Hunk->Option ((List Vm.Change))
 |0,_,_,_,_,_,_,_=>none
 |m+1,b,e,g,h,i,j,k=>
 bif decide (e< (x1.length:Int)) then
 ((gi x1 e).bind fun a=>
 (Vm.zgJ x0 a.Path).bind fun l=>
 jn (fun(n:Bool)=>
 bif n then
 ((apM b [a.Path]).bind fun o=>
 d o 4 c.Path a.Path ([]:List Str) ([]:List Hunk))
 else
 (zen x0 x1 c d m b (w64 (e+1)) g h i j k)) fun f=>
 bif(!l.2) then
 ((Vm.zay a.Text c.Text).bind fun p=>
 bif p then
 ((Vm.zbz b a.Path).bind fun q=>
 f (!q))
 else
 (f false))
 else
 (f false))
 else
 (d b g h i j k)
def zcf (x0:List Vm.File)(x1:List Vm.File)(d:List Str)(e:List Vm.Change->Int->Option ((List Vm.Change))):Nat->List Vm.Change->Int->Option ((List Vm.Change))
 |0,_,_=>none
 |m+1,c,a=>
 bif decide (a< (x1.length:Int)) then
 (jn (fun(h:List Vm.Change)=>
 zcf x0 x1 d e m h (w64 (a+1))) fun f=>
 (gi x1 a).bind fun b=>
 (Vm.zgJ x0 b.Path).bind fun i=>
 jn (fun(j:Bool)=>
 bif j then
 ((Vm.zb6 b.Text).bind fun k=>
 (apM c ([Vm.Change.mk 1 b.Path ([]:Str) k ([]:List Hunk)])).bind fun l=>
 f l)
 else
 (f c)) fun g=>
 bif(!i.2) then
 ((Vm.zbz d b.Path).bind fun n=>
 g (!n))
 else
 (g false))
 else
 (e c a)
def zeo (x0:List Vm.File)(x1:List Vm.File)(g:List Vm.Change->List Str->Int->Option ((List Vm.Change))):Nat->List Vm.Change->List Str->Int->Option ((List Vm.Change))
 |0,_,_,_=>none
 |m+1,b,c,d=>
 bif decide (d< (x0.length:Int)) then
 (jn (fun(i:List Vm.Change) (j:List Str)=>
 zeo x0 x1 g m i j (w64 (d+1))) fun f=>
 (gi x0 d).bind fun a=>
 (Vm.zgJ x1 a.Path).bind fun e=>
 jn (fun(k:Bool)=>
 bif k then
 (f b c)
 else
 (bif e.2 then
 ((Vm.zmi a.Text e.1).bind fun l=>
 (apM b ([Vm.Change.mk 3 a.Path ([]:Str) ([]:List Str) l])).bind fun n=>
 f n c)
 else
 ((Vm.zb6 a.Text).bind fun o=>
 jn (fun(p:List Str) (q:Int) (r:Str) (s:Str) (t:List Str) (u:List Vm.Hunk)=>
 (apM b [Vm.Change.mk q r s t u]).bind fun v=>
 f v p) fun w=>
 zen x0 x1 a w (((x1.length:Int)-0).toNat+1) c 0 2 a.Path ([]:Str) o ([]:List Hunk)))) fun h=>
 bif e.2 then
 ((Vm.zay e.1 a.Text).bind fun x=>
 h x)
 else
 (h false))
 else
 (g b c d)
def zhL (x0:List Vm.File)(x1:List Vm.File):Option ((List Vm.Change)):=
 jn (fun(b:Bool)=>
 bif b then
 (some ([]:List Change))
 else
 (jn (fun(c:List Vm.Change) (d:List Str) (j:Int)=>
 jn (fun(e:List Vm.Change) (k:Int)=>
 some e) fun f=>
 zcf x0 x1 d f (((x1.length:Int)-0).toNat+1) c 0) fun g=>
 zeo x0 x1 g (((x0.length:Int)-0).toNat+1) ([]:List Change) ([]:List Str) 0)) fun a=>
 (Vm.zcl x0).bind fun h=>
 bif(!h) then
 (a true)
 else
 ((Vm.zcl x1).bind fun i=>
 a (!i))
def zfy (x0:List Vm.Change)(c:List Str->Int->Option ((List Str))):Nat->List Str->Int->Option ((List Str))
 |0,_,_=>none
 |m+1,d,a=>
 bif decide (a< (x0.length:Int)) then
 (jn (fun(g:List Str)=>
 zfy x0 c m g (w64 (a+1))) fun e=>
 (gi x0 a).bind fun b=>
 (apM d [b.Path]).bind fun f=>
 bif(b.Kind==4) then
 ((apM f [b.To]).bind fun h=>
 e h)
 else
 (e f))
 else
 (c d a)
def zjd (x0:List Vm.Change):Option ((List Str)):=
 jn (fun(a:List Str) (d:Int)=>
 (Vm.zaO a).bind fun b=>
 some b) fun c=>
 zfy x0 c (((x0.length:Int)-0).toNat+1) ([]:List Str) 0
def zfz (x0:List Vm.Owner)(x1:Str)(e:Int->Str->Str->Option (Str)):Nat->Int->Str->Str->Option (Str)
 |0,_,_,_=>none
 |m+1,b,c,f=>
 bif decide (b< (x0.length:Int)) then
 (jn (fun(h:Str) (i:Str)=>
 zfz x0 x1 e m (w64 (b+1)) h i) fun g=>
 (gi x0 b).bind fun a=>
 jn (fun(j:Bool)=>
 bif j then
 (g a.Path a.Who)
 else
 (g c f)) fun d=>
 bif(a.Path==x1) then
 (d (decide (c.length< (a.Path.length:Int))))
 else
 ((Vm.zby a.Path x1).bind fun k=>
 bif k then
 (d (decide (c.length< (a.Path.length:Int))))
 else
 (d false)))
 else
 (e b c f)
def zje (x0:List Vm.Owner)(x1:Str):Option (Str):=
 jn (fun(b:Bool)=>
 bif b then
 (some ([]:Str))
 else
 (jn (fun(g:Int) (h:Str) (c:Str)=>
 some c) fun d=>
 zfz x0 x1 d (((x0.length:Int)-0).toNat+1) 0 ([]:Str) ([]:Str))) fun a=>
 (Vm.zhA x0).bind fun e=>
 bif(!e) then
 (a true)
 else
 ((Vm.zdT x1).bind fun f=>
 a (!f))
def zjf (x0:List Str)(x1:Str):Option ((List Str)):=
 (apM ([]:List Str) x0).bind fun a=>
 (apM a [x1]).bind fun b=>
 (Vm.zaO b).bind fun c=>
 (Vm.zbr c).bind fun d=>
 some d
def zdc (x1:List Vm.Owner)(x2:Vm.Review)(c:(List Str))(f:List Str->Int->Option ((List Str)×Bool)):Nat->List Str->Int->Option ((List Str)×Bool)
 |0,_,_=>none
 |m+1,d,a=>
 bif decide (a< (c.length:Int)) then
 (jn (fun(h:List Str)=>
 zdc x1 x2 c f m h (w64 (a+1))) fun g=>
 (gi c a).bind fun i=>
 (Vm.zje x1 i).bind fun b=>
 jn (fun(j:Bool)=>
 bif j then
 ((Vm.zjf d b).bind fun k=>
 g k)
 else
 (g d)) fun e=>
 bif(b !=([]:Str)) then
 (bif(b !=x2.By) then
 ((Vm.zbz x2.Yes b).bind fun l=>
 e (!l))
 else
 (e false))
 else
 (e false))
 else
 (f d a)
def zgg (x0:Vm.Repo)(x1:List Vm.Owner)(x2:Vm.Review):Option ((List Str)×Bool):=
 jn (fun(d:Bool)=>
 bif d then
 (some (([]:List Str),false))
 else
 ((Vm.zcM x0 x2.Branch).bind fun b=>
 (Vm.zcM x0 x2.Into).bind fun e=>
 (Vm.zcX x0 b e).bind fun f=>
 (Vm.zau x0 b).bind fun g=>
 (Vm.zhL f g).bind fun h=>
 (Vm.zjd h).bind fun c=>
 jn (fun(i:List Str) (p:Int)=>
 some (i,true)) fun j=>
 zdc x1 x2 c j (((c.length:Int)-0).toNat+1) ([]:List Str) 0)) fun a=>
 (Vm.zdE x0).bind fun k=>
 bif(!k) then
 (a true)
 else
 ((Vm.zhA x1).bind fun l=>
 bif(!l) then
 (a true)
 else
 ((Vm.ziF x2).bind fun m=>
 bif(!m) then
 (a true)
 else
 ((Vm.zcM x0 x2.Branch).bind fun n=>
 bif decide (n< (0:Int)) then
 (a true)
 else
 ((Vm.zcM x0 x2.Into).bind fun o=>
 a (decide (o< (0:Int)))))))
def zlf (x0:Vm.Owner)(x1:Vm.Owner):Option (Bool):=
 bif(x0.Path !=x1.Path) then
 (some false)
 else
 (bif(x0.Who !=x1.Who) then
 (some false)
 else
 (some true))
def zhh (x0:List Vm.Owner)(x1:List Vm.Owner)(b:Bool->Int->Option (Bool)):Nat->Bool->Int->Option (Bool)
 |0,_,_=>none
 |m+1,c,a=>
 bif decide (a< (x0.length:Int)) then
 ((gi x0 a).bind fun d=>
 (gi x1 a).bind fun e=>
 (Vm.zlf d e).bind fun f=>
 bif(!f) then
 (some false)
 else
 (zhh x0 x1 b m c (w64 (a+1))))
 else
 (b c a)
def zkE (x0:List Vm.Owner)(x1:List Vm.Owner):Option (Bool):=
 bif((x0.length:Int) !=(x1.length:Int)) then
 (some false)
 else
 (jn (fun(b:Bool) (c:Int)=>
 some true) fun a=>
 zhh x0 x1 a (((x0.length:Int)-0).toNat+1) false 0)
def zkF (x0:Vm.Review)(x1:Vm.Review):Option (Bool):=
 bif(x0.Branch !=x1.Branch) then
 (some false)
 else
 (bif(x0.Into !=x1.Into) then
 (some false)
 else
 (bif(x0.By !=x1.By) then
 (some false)
 else
 ((Vm.zeW x0.Yes x1.Yes).bind fun a=>
 bif(!a) then
 (some false)
 else
 (some true))))
def zgh (d:Int->Int->List Vm.Owner->Option (Int×(List Vm.Owner))):Nat->Int->Int->List Vm.Owner->Option (Int×(List Vm.Owner))
 |0,_,_,_=>none
 |m+1,b,a,c=>
 bif decide (a< (c.length:Int)) then
 ((Vm.zcp b).bind fun f=>
 (gi c a).bind fun g=>
 (siM c a (Vm.Owner.mk f g.Who)).bind fun e=>
 (Vm.zcp (w64 (b+1))).bind fun h=>
 (gi e a).bind fun i=>
 (siM e a (Vm.Owner.mk i.Path h)).bind fun j=>
 zgh d m (w64 ((w64 (b+1))+1)) (w64 (a+1)) j)
 else
 (d b a c)
def zi9 (x0:List Vm.Owner)(x1:Int):Option (Int×(List Vm.Owner)):=
 jn (fun(a:Int) (d:Int) (b:List Vm.Owner)=>
 some (a,b)) fun c=>
 zgh c (((x0.length:Int)-0).toNat+1) x1 0 x0
def zja (x0:Vm.Review)(x1:Int):Option (Int×Vm.Review):=
 (Vm.zed x0.Yes x1).bind fun a=>
 some (a.1,Vm.Review.mk x0.Branch x0.Into x0.By a.2)
def zev (x0:Vm.Repo)(x1:List Vm.Owner)(x2:Vm.Review):Option (Bool):=
 (Vm.ziJ x0 1048576).bind fun k=>
 bif decide (k< (0:Int)) then
 (some true)
 else
 ((Vm.zkB x1 k).bind fun l=>
 bif decide (l< (0:Int)) then
 (some true)
 else
 ((Vm.zkC x2 l).bind fun u=>
 bif decide (u< (0:Int)) then
 (some true)
 else
 ((Vm.zc1 x0).bind fun m=>
 (Vm.zhy x1).bind fun v=>
 (Vm.zhz x2).bind fun e=>
 (Vm.zg2 (Vm.Repo.mk m.Commits m.Heads) v (Vm.Review.mk e.Branch e.Into e.By e.Yes)).bind fun b=>
 (Vm.zc1 x0).bind fun c=>
 (Vm.zhy x1).bind fun i=>
 (Vm.zhz x2).bind fun a=>
 (Vm.zgg (Vm.Repo.mk c.Commits c.Heads) i (Vm.Review.mk a.Branch a.Into a.By a.Yes)).bind fun d=>
 jn (fun(w:Bool)=>
 bif w then
 (some false)
 else
 ((Vm.zc1 x0).bind fun n=>
 (Vm.zdq (Vm.Repo.mk c.Commits c.Heads) (Vm.Repo.mk n.Commits n.Heads)).bind fun x=>
 bif(!x) then
 (some false)
 else
 ((Vm.zhy x1).bind fun y=>
 (Vm.zkE i y).bind fun z=>
 bif(!z) then
 (some false)
 else
 ((Vm.zhz x2).bind fun f=>
 (Vm.zkF (Vm.Review.mk a.Branch a.Into a.By a.Yes) (Vm.Review.mk f.Branch f.Into f.By f.Yes)).bind fun A=>
 bif(!A) then
 (some false)
 else
 ((Vm.zeG (Vm.Repo.mk c.Commits c.Heads) 1).bind fun B=>
 (Vm.zi9 i B.1).bind fun C=>
 (Vm.zja (Vm.Review.mk a.Branch a.Into a.By a.Yes) C.1).bind fun D=>
 jn (fun(E:Bool)=>
 bif E then
 (some false)
 else
 ((Vm.zed d.1 1).bind fun g=>
 (Vm.zeX g.2 1).bind fun o=>
 bif decide (o< (0:Int)) then
 (some false)
 else
 (bif((o:Int) !=(g.1:Int)) then
 (some false)
 else
 ((Vm.zc1 x0).bind fun p=>
 (Vm.zhy x1).bind fun F=>
 (Vm.zhz x2).bind fun h=>
 (Vm.zgg (Vm.Repo.mk p.Commits p.Heads) F (Vm.Review.mk h.Branch h.Into h.By h.Yes)).bind fun q=>
 jn (fun(G:Bool)=>
 bif G then
 (some false)
 else
 ((Vm.zeX g.2 1).bind fun r=>
 bif decide (r< (0:Int)) then
 (some false)
 else
 (bif((r:Int) !=(g.1:Int)) then
 (some false)
 else
 (some true)))) fun s=>
 (Vm.zeW q.1 b.1).bind fun H=>
 bif(!H) then
 (s true)
 else
 (s (q.2 !=b.2)))))) fun j=>
 bif decide (D.1< (0:Int)) then
 (j true)
 else
 ((Vm.zeW d.1 b.1).bind fun I=>
 bif(!I) then
 (j true)
 else
 (j (d.2 !=b.2)))))))) fun t=>
 (Vm.zeW d.1 b.1).bind fun J=>
 bif(!J) then
 (t true)
 else
 (t (d.2 !=b.2)))))
end Go.Vm
