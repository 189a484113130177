/- Models of the functions: plain Lean, printed by a program of ours. Conditions: none. -/
import Derived.Test.YtifbmanldeabeaaGreatDoorGLw
import Derived.Test.YtifbmanldeabeaaGreatDoorGM1
import Derived.Test.YtifbmanldeabeaaGreatDoorGM2
namespace Go.Vm
open Go Go.Sx
set_option linter.unusedVariables false
set_option linter.unusedSimpArgs false
def zdY (x0:Vm.l30Rd)(e:List Vm.Owner->Int->Int->Option ((List Vm.Owner)×Int)):Nat->List Vm.Owner->Int->Int->Option ((List Vm.Owner)×Int)
 |0,_,_,_=>none
 |m+1,c,a,f=>
 bif decide ((a:Int)< ((([([97]:Str),([98]:Str),([100]:Str),([100,47,101]:Str),([103]:Str)]:List Str).length:Int):Int)) then
 (jn (fun(i:List Vm.Owner) (j:Int)=>
 zdY x0 e m i (w64 (a+1)) j) fun g=>
 (Vm.zav (Vm.l30Rd.mk x0.b f) 2).bind fun d=>
 bif(d.1==0) then
 ((gi ([([97]:Str),([98]:Str),([100]:Str),([100,47,101]:Str),([103]:Str)]:List Str) a).bind fun k=>
 (Vm.zbt (Vm.l30Rd.mk x0.b d.2) ([([97,110,110]:Str),([98,111,98]:Str),([99,105,100]:Str)]:List Str)).bind fun h=>
 (apM c [Vm.Owner.mk k h.1]).bind fun l=>
 g l h.2)
 else
 (g c d.2))
 else
 (e c a f)
def zho (x0:Vm.l30Rd):Option ((List Vm.Owner)×Int):=
 jn (fun(a:List Vm.Owner) (n:Int) (c:Int)=>
 jn (fun(h:Int) (i:List Vm.Owner)=>
 some (i,h)) fun d=>
 jn (fun(j:Bool) (e:Int)=>
 bif j then
 ((gi a 0).bind fun k=>
 (siM a 0 (Vm.Owner.mk k.Path ([]:Str))).bind fun l=>
 d e l)
 else
 (d e a)) fun f=>
 bif decide (0< (a.length:Int)) then
 ((Vm.zav (Vm.l30Rd.mk x0.b c) 14).bind fun g=>
 f (g.1==0) g.2)
 else
 (f false c)) fun m=>
 zdY x0 m (((([([97]:Str),([98]:Str),([100]:Str),([100,47,101]:Str),([103]:Str)]:List Str).length:Int)-0).toNat+1) ([]:List Owner) 0 x0.p
def zdZ (x0:Vm.l30Rd)(h:Int->Int->Str->Str->Str->List Str->Option (Vm.Review×Int)):Nat->Int->Int->Str->Str->Str->List Str->Option (Vm.Review×Int)
 |0,_,_,_,_,_,_=>none
 |m+1,a,i,c,d,e,f=>
 bif decide ((a:Int)< ((([([97,110,110]:Str),([98,111,98]:Str),([99,105,100]:Str)]:List Str).length:Int):Int)) then
 (jn (fun(k:Int) (l:Str) (n:Str) (o:Str) (p:List Str)=>
 zdZ x0 h m (w64 (a+1)) k l n o p) fun j=>
 (Vm.zav (Vm.l30Rd.mk x0.b i) 2).bind fun g=>
 bif(g.1==0) then
 ((gi ([([97,110,110]:Str),([98,111,98]:Str),([99,105,100]:Str)]:List Str) a).bind fun q=>
 (apM f [q]).bind fun r=>
 j g.2 c d e r)
 else
 (j g.2 c d e f))
 else
 (h a i c d e f)
def zhp (x0:Vm.l30Rd):Option (Vm.Review×Int):=
 (Vm.zbt x0 ([([115,105,100,101]:Str),([100,101,118]:Str),([109,97,105,110]:Str)]:List Str)).bind fun c=>
 (Vm.zbt (Vm.l30Rd.mk x0.b c.2) ([([109,97,105,110]:Str),([109,97,105,110]:Str),([100,101,118]:Str)]:List Str)).bind fun d=>
 (Vm.zbt (Vm.l30Rd.mk x0.b d.2) ([([97,110,110]:Str),([98,111,98]:Str),([101,118,101]:Str)]:List Str)).bind fun e=>
 jn (fun(s:Int) (k:Int) (f:Str) (g:Str) (h:Str) (i:List Str)=>
 jn (fun(l:Int) (m:Str) (n:Str) (o:Str) (p:List Str)=>
 some (Vm.Review.mk m n o p,l)) fun j=>
 (Vm.zav (Vm.l30Rd.mk x0.b k) 14).bind fun a=>
 bif(a.1==0) then
 ((apM i ([([97,110,110]:Str)])).bind fun q=>
 j a.2 f g h q)
 else
 (j a.2 f g h i)) fun r=>
 zdZ x0 r (((([([97,110,110]:Str),([98,111,98]:Str),([99,105,100]:Str)]:List Str).length:Int)-0).toNat+1) 0 e.2 c.1 d.1 e.1 ([]:List Str)
def zet (x0:List Byte):Option (Vm.Repo×(List Vm.Owner)×Vm.Review):=
 (Vm.zeQ x0).bind fun c=>
 (Vm.zer c).bind fun d=>
 (Vm.zho (Vm.l30Rd.mk c.b d.2)).bind fun e=>
 (Vm.zhp (Vm.l30Rd.mk c.b e.2)).bind fun a=>
 some (Vm.Repo.mk d.1.Commits d.1.Heads,e.1,Vm.Review.mk a.1.Branch a.1.Into a.1.By a.1.Yes)
def ze3 (x0:List Str)(x1:List Str)(b:Bool->Int->Option (Bool)):Nat->Bool->Int->Option (Bool)
 |0,_,_=>none
 |m+1,c,a=>
 bif decide (a< (x0.length:Int)) then
 ((gi x0 a).bind fun d=>
 (gi x1 a).bind fun e=>
 bif(d !=e) then
 (some false)
 else
 (ze3 x0 x1 b m c (w64 (a+1))))
 else
 (b c a)
def ziu (x0:List Str)(x1:List Str):Option (Bool):=
 bif((x0.length:Int) !=(x1.length:Int)) then
 (some false)
 else
 (jn (fun(b:Bool) (c:Int)=>
 some true) fun a=>
 ze3 x0 x1 a (((x0.length:Int)-0).toNat+1) false 0)
def zcP (a:Vm.Repo×(List Vm.Owner)×Vm.Review)(c:List Vm.Owner->Int->Option (Bool)):Nat->List Vm.Owner->Int->Option (Bool)
 |0,_,_=>none
 |m+1,d,b=>
 bif decide (b< (a.2.1.length:Int)) then
 ((gi a.2.1 b).bind fun e=>
 (apM d [Vm.Owner.mk e.Path a.2.2.By]).bind fun f=>
 zcP a c m f (w64 (b+1)))
 else
 (c d b)
def zgb (x0:List Byte):Option (Bool):=
 bif decide (1048576< (x0.length:Int)) then
 (some true)
 else
 ((Vm.zet x0).bind fun a=>
 (Vm.zb8 (Vm.Repo.mk a.1.Commits a.1.Heads) a.2.1 (Vm.Review.mk a.2.2.Branch a.2.2.Into a.2.2.By a.2.2.Yes)).bind fun b=>
 (Vm.zep (Vm.Repo.mk a.1.Commits a.1.Heads) a.2.1 (Vm.Review.mk a.2.2.Branch a.2.2.Into a.2.2.By a.2.2.Yes)).bind fun c=>
 jn (fun(h:Bool)=>
 bif h then
 (jn (fun(i:Bool)=>
 some i) fun e=>
 bif(b.2==c.2) then
 ((Vm.ziu b.1 c.1).bind fun j=>
 e j)
 else
 (e false))
 else
 (jn (fun(k:List Vm.Owner) (o:Int)=>
 (Vm.zb8 (Vm.Repo.mk a.1.Commits a.1.Heads) k (Vm.Review.mk a.2.2.Branch a.2.2.Into a.2.2.By a.2.2.Yes)).bind fun f=>
 jn (fun(l:Bool)=>
 some l) fun g=>
 bif f.2 then
 (g ((f.1.length:Int)==0))
 else
 (g false)) fun m=>
 zcP a m (((a.2.1.length:Int)-0).toNat+1) ([]:List Owner) 0)) fun d=>
 bif(b.2 !=c.2) then
 (d true)
 else
 ((Vm.ziu b.1 c.1).bind fun n=>
 bif(!n) then
 (d true)
 else
 (d (!b.2))))
end Go.Vm
