/- Models of the functions: plain Lean, printed by a program of ours. Conditions: none. -/
import Derived.Test.YtjokjcdckcpijaaGreatDoorXALw
import Derived.Lib.SplitLaws
import Derived.Lib.IndexMore
import Derived.Lib.Join
import Derived.Lib.ItoaNum
namespace Go.Vm
open Go Go.Sx
set_option linter.unusedVariables false
set_option linter.unusedSimpArgs false
def zcY (x0:List Byte):Option (Vm.l30Rd):=
 jn (fun(b:List Byte)=>
 some (Vm.l30Rd.mk b 0)) fun a=>
 bif decide (2000< (x0.length:Int)) then
 ((slM x0 0 2000).bind fun c=>
 a c)
 else
 (a x0)
def zaC (x0:Vm.l30Rd)(x1:Int):Option (Int×Int):=
 jn (fun(e:Bool)=>
 bif e then
 (some (0,w64 (x0.p+1)))
 else
 (bif decide ((w64 ((w64 (x0.p+1))-1):Int)< (x0.b.length:Int)) then
 ((gi x0.b (w64 ((w64 (x0.p+1))-1))).bind fun f=>
 (if(x1:Int)=0 then none else some ()).bind fun _=>
 some (Int.tmod (w64 (UInt8.toNat f:Int)) x1,w64 (x0.p+1)))
 else
 ((if(x0.b.length:Int)=0 then none else some ()).bind fun _=>
 (gi x0.b (Int.tmod (w64 ((w64 (x0.p+1))-1)) (x0.b.length:Int))).bind fun a=>
 (if(x0.b.length:Int)=0 then none else some ()).bind fun _=>
 (gi x0.b (Int.tmod (w64 ((w64 ((w64 ((w64 (x0.p+1))-1))*7))+3)) (x0.b.length:Int))).bind fun c=>
 (if(x0.b.length:Int)=0 then none else some ()).bind fun _=>
 (if(x1:Int)=0 then none else some ()).bind fun _=>
 some (Int.tmod (zom (w64 ((w64 ((w64 ((w64 ((w64 (UInt8.toNat a:Int))*131))+(w64 ((w64 (UInt8.toNat c:Int))*1117))))+(w64 ((w64 ((w64 (x0.p+1))-1))*29))))+(w64 ((w64 (Int.tdiv (w64 ((w64 (x0.p+1))-1)) (x0.b.length:Int)))*53)))) (w64 (Int.tdiv (w64 ((w64 ((w64 ((w64 ((w64 (UInt8.toNat a:Int))*131))+(w64 ((w64 (UInt8.toNat c:Int))*1117))))+(w64 ((w64 ((w64 (x0.p+1))-1))*29))))+(w64 ((w64 (Int.tdiv (w64 ((w64 (x0.p+1))-1)) (x0.b.length:Int)))*53)))) 64))) x1,w64 (x0.p+1))))) fun d=>
 bif decide (x1< (1:Int)) then
 (d true)
 else
 (d ((x0.b.length:Int)==0))
def zbP (x0:Vm.l30Rd)(x1:List Int):Option (Int×Int):=
 (Vm.zaC x0 (x1.length:Int)).bind fun a=>
 (gi x1 a.1).bind fun b=>
 some (b,a.2)
def za6 (x0:Vm.l30Rd)(x1:List Str):Option (Str×Int):=
 (Vm.zaC x0 (x1.length:Int)).bind fun a=>
 (gi x1 a.1).bind fun b=>
 some (b,a.2)
def zcu (x0:Vm.l30Rd):Option (Str×Int):=
 (Vm.za6 x0 ([([109,97,105,110]:Str),([109,97,105,110]:Str),([115,105,100,101]:Str),([100,101,118]:Str)]:List Str)).bind fun a=>
 some (a.1,a.2)
def zcG (x0:Vm.l30Rd):Option (Str×Int):=
 (Vm.za6 x0 ([([97]:Str),([98]:Str),([100,47,101]:Str),([100,47,102]:Str),([103,47,104,47,105]:Str),([103,47,107]:Str),([122]:Str)]:List Str)).bind fun a=>
 some (a.1,a.2)
def zcZ (x0:Vm.l30Rd):Option (Str×Int):=
 (Vm.za6 x0 ([([97]:Str),([98]:Str),([99]:Str),([100]:Str),([]:Str),([120,32,121]:Str),([115,101,101,32,97]:Str),([115,101,101,32,100,47,101]:Str),([101,110,100]:Str)]:List Str)).bind fun a=>
 some (a.1,a.2)
def zcH (x0:Vm.l30Rd)(c:List Str->Int->Int->Option ((List Str)×Int)):Nat->List Str->Int->Int->Option ((List Str)×Int)
 |0,_,_,_=>none
 |m+1,d,a,e=>
 bif decide (0< (a:Int)) then
 ((Vm.zcZ (Vm.l30Rd.mk x0.b e)).bind fun f=>
 (apM d [f.1]).bind fun g=>
 zcH x0 c m g (w64 (a-1)) f.2)
 else
 (c d a e)
def zdX (x0:Vm.l30Rd):Option ((List Str)×Int):=
 (Vm.zbP x0 ([0,1,3,5,8]:List Int)).bind fun a=>
 jn (fun(b:List Str) (e:Int) (c:Int)=>
 some (b,c)) fun d=>
 zcH x0 d ((a.1-0).toNat+1) ([]:List Str) a.1 a.2
def ze7 (x0:Vm.l30Rd):Option (Vm.Op×Int):=
 (Vm.zcu x0).bind fun c=>
 (Vm.za6 (Vm.l30Rd.mk x0.b c.2) ([([97,110,110]:Str),([98,111,98]:Str),([99,105,100]:Str)]:List Str)).bind fun d=>
 jn (fun(q:Int) (r:Int) (s:Str) (t:Str) (u:Str) (v:Str) (w:Int) (x:List Str)=>
 some (Vm.Op.mk r s t u v w x,q)) fun e=>
 (Vm.zaC (Vm.l30Rd.mk x0.b d.2) 12).bind fun a=>
 bif(a.1==0) then
 ((Vm.zcG (Vm.l30Rd.mk x0.b a.2)).bind fun g=>
 e g.2 2 c.1 d.1 g.1 ([]:Str) 0 ([]:List Str))
 else
 (bif(a.1==1) then
 ((Vm.zcG (Vm.l30Rd.mk x0.b a.2)).bind fun h=>
 (Vm.zcG (Vm.l30Rd.mk x0.b h.2)).bind fun i=>
 e i.2 3 c.1 d.1 h.1 i.1 0 ([]:List Str))
 else
 (jn (fun(y:Bool)=>
 bif y then
 ((Vm.za6 (Vm.l30Rd.mk x0.b a.2) ([([115,105,100,101]:Str),([100,101,118]:Str),([111,108,100]:Str)]:List Str)).bind fun j=>
 e j.2 4 c.1 d.1 ([]:Str) j.1 0 ([]:List Str))
 else
 (jn (fun(z:Bool)=>
 bif z then
 ((Vm.zcu (Vm.l30Rd.mk x0.b a.2)).bind fun k=>
 e k.2 5 c.1 d.1 ([]:Str) k.1 0 ([]:List Str))
 else
 (bif(a.1==7) then
 ((Vm.zaC (Vm.l30Rd.mk x0.b a.2) 10).bind fun l=>
 e l.2 6 c.1 d.1 ([]:Str) ([]:Str) l.1 ([]:List Str))
 else
 (bif(a.1==8) then
 ((Vm.zaC (Vm.l30Rd.mk x0.b a.2) 10).bind fun m=>
 e m.2 7 c.1 d.1 ([]:Str) ([]:Str) m.1 ([]:List Str))
 else
 ((Vm.zcG (Vm.l30Rd.mk x0.b a.2)).bind fun n=>
 (Vm.zdX (Vm.l30Rd.mk x0.b n.2)).bind fun o=>
 e o.2 1 c.1 d.1 n.1 ([]:Str) 0 o.1)))) fun f=>
 bif(a.1==4) then
 (f (a.1==4))
 else
 (bif(a.1==5) then
 (f (a.1==5))
 else
 (f (a.1==6))))) fun p=>
 bif(a.1==2) then
 (p (a.1==2))
 else
 (p (a.1==3))))
def zc0 (x0:Vm.l30Rd)(d:List Vm.Op->Int->Int->Option ((List Vm.Op)×Int)):Nat->List Vm.Op->Int->Int->Option ((List Vm.Op)×Int)
 |0,_,_,_=>none
 |m+1,e,c,f=>
 bif decide (0< (c:Int)) then
 ((Vm.ze7 (Vm.l30Rd.mk x0.b f)).bind fun a=>
 (apM e [Vm.Op.mk a.1.Kind a.1.Branch a.1.Who a.1.Path a.1.To a.1.At a.1.Text]).bind fun g=>
 zc0 x0 d m g (w64 (c-1)) a.2)
 else
 (d e c f)
def zew (x0:Vm.l30Rd):Option ((List Vm.Op)×Int):=
 (Vm.zbP x0 ([0,3,8,14,20]:List Int)).bind fun a=>
 jn (fun(b:List Vm.Op) (e:Int) (c:Int)=>
 some (b,c)) fun d=>
 zc0 x0 d ((a.1-0).toNat+1) ([]:List Op) a.1 a.2
def zdq (x0:Int)(x1:Int)(x2:Int):Option (Bool):=
 jn (fun(b:Bool)=>
 some b) fun a=>
 bif decide (x1<=(x0:Int)) then
 (a (decide (x0<=(x2:Int))))
 else
 (a false)
def zbQ (x0:Str)(c:Bool->Int->Option (Bool)):Nat->Bool->Int->Option (Bool)
 |0,_,_=>none
 |m+1,d,a=>
 bif decide (a< (x0.length:Int)) then
 (jn (fun(e:Bool)=>
 bif e then
 (some false)
 else
 (zbQ x0 c m d (w64 (a+1)))) fun b=>
 (chM x0 a).bind fun f=>
 bif decide (((UInt8.toNat f:Int):Int)< (97:Int)) then
 ((chM x0 a).bind fun g=>
 bif decide (((UInt8.toNat g:Int):Int)< (48:Int)) then
 (b true)
 else
 ((chM x0 a).bind fun h=>
 b (decide ((57:Int)< ((UInt8.toNat h:Int):Int)))))
 else
 ((chM x0 a).bind fun i=>
 bif decide ((122:Int)< ((UInt8.toNat i:Int):Int)) then
 ((chM x0 a).bind fun j=>
 bif decide (((UInt8.toNat j:Int):Int)< (48:Int)) then
 (b true)
 else
 ((chM x0 a).bind fun k=>
 b (decide ((57:Int)< ((UInt8.toNat k:Int):Int)))))
 else
 (b false)))
 else
 (c d a)
def zbt (x0:Str):Option (Bool):=
 jn (fun(c:Bool) (d:Int)=>
 (Vm.zdq (x0.length:Int) 1 6).bind fun a=>
 some a) fun b=>
 zbQ x0 b (((x0.length:Int)-0).toNat+1) false 0
def zcg (x0:Vm.Op)(x1:Bool)(x2:Bool)(x3:Bool)(x4:Bool):Option (Bool):=
 jn (fun(b:Bool)=>
 some b) fun a=>
 bif x1 then
 (bif x2 then
 (bif x3 then
 (bif x4 then
 (a true)
 else
 (a ((x0.Text.length:Int)==0)))
 else
 (bif(x0.At==0) then
 (bif x4 then
 (a true)
 else
 (a ((x0.Text.length:Int)==0)))
 else
 (a false)))
 else
 (bif(x0.To==([]:Str)) then
 (bif x3 then
 (bif x4 then
 (a true)
 else
 (a ((x0.Text.length:Int)==0)))
 else
 (bif(x0.At==0) then
 (bif x4 then
 (a true)
 else
 (a ((x0.Text.length:Int)==0)))
 else
 (a false)))
 else
 (a false)))
 else
 (bif(x0.Path==([]:Str)) then
 (bif x2 then
 (bif x3 then
 (bif x4 then
 (a true)
 else
 (a ((x0.Text.length:Int)==0)))
 else
 (bif(x0.At==0) then
 (bif x4 then
 (a true)
 else
 (a ((x0.Text.length:Int)==0)))
 else
 (a false)))
 else
 (bif(x0.To==([]:Str)) then
 (bif x3 then
 (bif x4 then
 (a true)
 else
 (a ((x0.Text.length:Int)==0)))
 else
 (bif(x0.At==0) then
 (bif x4 then
 (a true)
 else
 (a ((x0.Text.length:Int)==0)))
 else
 (a false)))
 else
 (a false)))
 else
 (a false))
def zdr (x0:Str)(x1:Byte)(x2:Int)(d:List Str->Int->Int->Option ((List Str))):Nat->List Str->Int->Int->Option ((List Str))
 |0,_,_,_=>none
 |m+1,b,c,a=>
 jn (fun(g:Bool)=>
 bif g then
 (jn (fun(h:List Str) (i:Int)=>
 zdr x0 x1 x2 d m h i (w64 (a+1))) fun e=>
 (chM x0 a).bind fun j=>
 bif(((UInt8.toNat j:Int):Int)==((UInt8.toNat x1:Int):Int)) then
 ((slM x0 c a).bind fun k=>
 (apM b [k]).bind fun l=>
 e l (w64 (a+1)))
 else
 (e b c))
 else
 (d b c a)) fun f=>
 bif decide (a< (x0.length:Int)) then
 (f (decide (b.length< (x2:Int))))
 else
 (f false)
def ze8 (x0:Str)(x1:Byte)(x2:Int):Option ((List Str)):=
 jn (fun(a:List Str) (b:Int) (f:Int)=>
 (slM x0 b (x0.length:Int)).bind fun c=>
 (apM a [c]).bind fun d=>
 some d) fun e=>
 zdr x0 x1 x2 e (x0.length+1) ([]:List Str) 0 0
def zbR (b:(List Str))(c:Bool->Int->Option (Bool)):Nat->Bool->Int->Option (Bool)
 |0,_,_=>none
 |m+1,d,a=>
 bif decide (a< (b.length:Int)) then
 ((gi b a).bind fun e=>
 (Vm.zbt e).bind fun f=>
 bif(!f) then
 (some false)
 else
 (zbR b c m d (w64 (a+1))))
 else
 (c d a)
def zcs (x0:Str):Option (Bool):=
 (Vm.ze8 x0 (UInt8.ofNatLT 47 (by decide):Byte) 3).bind fun a=>
 jn (fun(c:Bool) (d:Int)=>
 some (decide (a.length<=(3:Int)))) fun b=>
 zbR a b (((a.length:Int)-0).toNat+1) false 0
def zbS (x0:Str)(b:Bool->Int->Option (Bool)):Nat->Bool->Int->Option (Bool)
 |0,_,_=>none
 |m+1,c,a=>
 bif decide (a< (x0.length:Int)) then
 (jn (fun(e:Bool)=>
 bif e then
 (some false)
 else
 (zbS x0 b m c (w64 (a+1)))) fun d=>
 (chM x0 a).bind fun f=>
 bif decide (((UInt8.toNat f:Int):Int)< (32:Int)) then
 (d true)
 else
 ((chM x0 a).bind fun g=>
 d (decide ((126:Int)< ((UInt8.toNat g:Int):Int)))))
 else
 (b c a)
def zex (x0:Str):Option (Bool):=
 jn (fun(b:Bool) (c:Int)=>
 some (decide (x0.length<=(12:Int)))) fun a=>
 zbS x0 a (((x0.length:Int)-0).toNat+1) false 0
def zc1 (x0:List Str)(b:Bool->Int->Option (Bool)):Nat->Bool->Int->Option (Bool)
 |0,_,_=>none
 |m+1,c,a=>
 bif decide (a< (x0.length:Int)) then
 ((gi x0 a).bind fun d=>
 (Vm.zex d).bind fun e=>
 bif(!e) then
 (some false)
 else
 (zc1 x0 b m c (w64 (a+1))))
 else
 (b c a)
def zcW (x0:List Str):Option (Bool):=
 jn (fun(b:Bool) (c:Int)=>
 some (decide (x0.length<=(10:Int)))) fun a=>
 zc1 x0 a (((x0.length:Int)-0).toNat+1) false 0
def zbi (x0:List Str)(b:Int)(c:Bool->Int->Option (Bool)):Nat->Bool->Int->Option (Bool)
 |0,_,_=>none
 |m+1,d,a=>
 (gi x0 b).bind fun e=>
 bif decide (a< (e.length:Int)) then
 ((gi x0 b).bind fun f=>
 (chM f a).bind fun g=>
 bif(((UInt8.toNat g:Int):Int)==(124:Int)) then
 (some false)
 else
 (zbi x0 b c m d (w64 (a+1))))
 else
 (c d a)
def zaL (x0:List Str)(b:Bool->Int->Option (Bool)):Nat->Bool->Int->Option (Bool)
 |0,_,_=>none
 |m+1,c,a=>
 bif decide (a< (x0.length:Int)) then
 (jn (fun(d:Bool) (f:Int)=>
 zaL x0 b m d (w64 (a+1))) fun e=>
 zbi x0 a e (((gi x0 a).getD []).length+1) c 0)
 else
 (b c a)
def zds (x0:List Str):Option (Bool):=
 jn (fun(c:Bool) (d:Int)=>
 (Vm.zcW x0).bind fun a=>
 some a) fun b=>
 zaL x0 b (((x0.length:Int)-0).toNat+1) false 0
def ze9 (x0:Vm.Op):Option (Bool):=
 jn (fun(i:Bool)=>
 bif i then
 (some false)
 else
 (bif(x0.Kind==1) then
 (jn (fun(j:Bool)=>
 some j) fun a=>
 (Vm.zcg x0 true false false true).bind fun k=>
 bif k then
 ((Vm.zcs x0.Path).bind fun l=>
 bif l then
 ((Vm.zds x0.Text).bind fun m=>
 a m)
 else
 (a false))
 else
 (a false))
 else
 (bif(x0.Kind==2) then
 (jn (fun(n:Bool)=>
 some n) fun c=>
 (Vm.zcg x0 true false false false).bind fun o=>
 bif o then
 ((Vm.zcs x0.Path).bind fun p=>
 c p)
 else
 (c false))
 else
 (bif(x0.Kind==3) then
 (jn (fun(q:Bool)=>
 some q) fun b=>
 (Vm.zcg x0 true true false false).bind fun r=>
 bif r then
 ((Vm.zcs x0.Path).bind fun s=>
 bif s then
 ((Vm.zcs x0.To).bind fun t=>
 b t)
 else
 (b false))
 else
 (b false))
 else
 (jn (fun(u:Bool)=>
 bif u then
 (jn (fun(v:Bool)=>
 some v) fun d=>
 (Vm.zcg x0 false true false false).bind fun w=>
 bif w then
 ((Vm.zbt x0.To).bind fun x=>
 d x)
 else
 (d false))
 else
 (jn (fun(y:Bool)=>
 bif y then
 (jn (fun(z:Bool)=>
 some z) fun e=>
 (Vm.zcg x0 false false true false).bind fun A=>
 bif A then
 ((Vm.zdq x0.At 0 15).bind fun B=>
 e B)
 else
 (e false))
 else
 (some false)) fun f=>
 bif(x0.Kind==6) then
 (f (x0.Kind==6))
 else
 (f (x0.Kind==7)))) fun g=>
 bif(x0.Kind==4) then
 (g (x0.Kind==4))
 else
 (g (x0.Kind==5))))))) fun h=>
 (Vm.zbt x0.Branch).bind fun C=>
 bif(!C) then
 (h true)
 else
 ((Vm.zbt x0.Who).bind fun D=>
 h (!D))
def zc2 (x0:Vm.Repo)(x1:Str)(b:Int->Int->Option (Int)):Nat->Int->Int->Option (Int)
 |0,_,_=>none
 |m+1,c,a=>
 bif decide (a< (x0.Heads.length:Int)) then
 ((gi x0.Heads a).bind fun d=>
 bif(d.Name==x1) then
 ((gi x0.Heads a).bind fun e=>
 some e.At)
 else
 (zc2 x0 x1 b m c (w64 (a+1))))
 else
 (b c a)
def zca (x0:Vm.Repo)(x1:Str):Option (Int):=
 jn (fun(b:Int) (c:Int)=>
 some (-1)) fun a=>
 zc2 x0 x1 a (((x0.Heads.length:Int)-0).toNat+1) 0 0
def zeX (x0:Str)(x1:Str):Option (Bool):=
 jn (fun(b:Bool)=>
 some b) fun a=>
 bif decide (x0.length< (x1.length:Int)) then
 ((slM x1 0 (x0.length:Int)).bind fun c=>
 bif(c==x0) then
 ((chM x1 (x0.length:Int)).bind fun d=>
 a (((UInt8.toNat d:Int):Int)==(47:Int)))
 else
 (a false))
 else
 (a false)
def zch (x0:List Vm.File)(b:Int)(c:Bool->Int->Option (Bool)):Nat->Bool->Int->Option (Bool)
 |0,_,_=>none
 |m+1,d,a=>
 bif decide (a< (x0.length:Int)) then
 ((gi x0 b).bind fun e=>
 (gi x0 a).bind fun f=>
 (Vm.zeX e.Path f.Path).bind fun g=>
 bif g then
 (some false)
 else
 (zch x0 b c m d (w64 (a+1))))
 else
 (c d a)
def zc3 (x0:List Vm.File)(c:Bool->Int->Option (Bool)):Nat->Bool->Int->Option (Bool)
 |0,_,_=>none
 |m+1,d,a=>
 bif decide (a< (x0.length:Int)) then
 (jn (fun(g:Bool)=>
 bif g then
 (some false)
 else
 (jn (fun(h:Bool) (o:Int)=>
 zc3 x0 c m h (w64 (a+1))) fun i=>
 zch x0 a i (((x0.length:Int)-0).toNat+1) d 0)) fun b=>
 (gi x0 a).bind fun j=>
 (Vm.zcs j.Path).bind fun k=>
 bif(!k) then
 (b true)
 else
 ((gi x0 a).bind fun l=>
 (Vm.zcW l.Text).bind fun n=>
 bif(!n) then
 (b true)
 else
 (bif decide (0< (a:Int)) then
 ((gi x0 a).bind fun e=>
 (gi x0 (w64 (a-1))).bind fun f=>
 b (Op.bytesLess e.Path f.Path||e.Path==f.Path))
 else
 (b false))))
 else
 (c d a)
def zco (x0:List Vm.File):Option (Bool):=
 jn (fun(b:Bool) (c:Int)=>
 some (decide (x0.length<=(8:Int)))) fun a=>
 zc3 x0 a (((x0.length:Int)-0).toNat+1) false 0
def zbT (x0:List Vm.File)(b:List Vm.File->Int->Option ((List Vm.File))):Nat->List Vm.File->Int->Option ((List Vm.File))
 |0,_,_=>none
 |m+1,c,a=>
 bif decide (a< (x0.length:Int)) then
 ((gi x0 a).bind fun d=>
 (gi x0 a).bind fun e=>
 (apM ([]:List Str) e.Text).bind fun f=>
 (apM c [Vm.File.mk d.Path f]).bind fun g=>
 zbT x0 b m g (w64 (a+1)))
 else
 (b c a)
def zbu (x0:List Vm.File):Option ((List Vm.File)):=
 jn (fun(a:List Vm.File) (c:Int)=>
 some a) fun b=>
 zbT x0 b (((x0.length:Int)-0).toNat+1) ([]:List File) 0
def zcv (x0:List Vm.File)(x1:Vm.File)(d:List Vm.File->Bool->Int->Option ((List Vm.File))):Nat->List Vm.File->Bool->Int->Option ((List Vm.File))
 |0,_,_,_=>none
 |m+1,b,c,a=>
 bif decide (a< (x0.length:Int)) then
 (jn (fun(j:List Vm.File) (k:Bool)=>
 zcv x0 x1 d m j k (w64 (a+1))) fun e=>
 jn (fun(f:List Vm.File) (g:Bool)=>
 (gi x0 a).bind fun l=>
 bif(l.Path !=x1.Path) then
 ((gi x0 a).bind fun n=>
 (apM f [n]).bind fun o=>
 e o g)
 else
 (e f g)) fun h=>
 jn (fun(p:Bool)=>
 bif p then
 ((apM ([]:List Str) x1.Text).bind fun q=>
 (apM b [Vm.File.mk x1.Path q]).bind fun r=>
 h r true)
 else
 (h b c)) fun i=>
 bif(!c) then
 ((gi x0 a).bind fun s=>
 i (!Op.bytesLess s.Path x1.Path))
 else
 (i false))
 else
 (d b c a)
def zdS (x0:List Vm.File)(x1:Vm.File):Option ((List Vm.File)):=
 jn (fun(a:List Vm.File) (c:Bool) (h:Int)=>
 jn (fun(d:List Vm.File)=>
 some d) fun b=>
 bif(!c) then
 ((apM ([]:List Str) x1.Text).bind fun e=>
 (apM a [Vm.File.mk x1.Path e]).bind fun f=>
 b f)
 else
 (b a)) fun g=>
 zcv x0 x1 g (((x0.length:Int)-0).toNat+1) ([]:List File) false 0
def zc4 (x0:List Vm.File)(x1:Vm.File):Option ((List Vm.File)×Bool):=
 (Vm.zco x0).bind fun b=>
 bif(!b) then
 (some (([]:List File),false))
 else
 ((Vm.zbu x0).bind fun c=>
 (Vm.zdS c x1).bind fun a=>
 (Vm.zco a).bind fun d=>
 bif(!d) then
 ((Vm.zbu x0).bind fun e=>
 some (e,false))
 else
 (some (a,true)))
def zci (d:Int)(b:Vm.Commit)(e:Bool->Int->Option (Bool)):Nat->Bool->Int->Option (Bool)
 |0,_,_=>none
 |m+1,f,a=>
 bif decide (a< (b.Parents.length:Int)) then
 (jn (fun(g:Bool)=>
 bif g then
 (some false)
 else
 (zci d b e m f (w64 (a+1)))) fun c=>
 (gi b.Parents a).bind fun h=>
 (Vm.zdq h 0 (w64 (d-1))).bind fun i=>
 bif(!i) then
 (c true)
 else
 (bif decide (0< (a:Int)) then
 ((gi b.Parents a).bind fun j=>
 (gi b.Parents 0).bind fun k=>
 c ((j:Int)==(k:Int)))
 else
 (c false)))
 else
 (e f a)
def zcj (x0:Vm.Repo)(c:Bool->Int->Option (Bool)):Nat->Bool->Int->Option (Bool)
 |0,_,_=>none
 |m+1,d,a=>
 bif decide (a< (x0.Heads.length:Int)) then
 (jn (fun(g:Bool)=>
 bif g then
 (some false)
 else
 (zcj x0 c m d (w64 (a+1)))) fun b=>
 (gi x0.Heads a).bind fun h=>
 (Vm.zbt h.Name).bind fun i=>
 bif(!i) then
 (b true)
 else
 ((gi x0.Heads a).bind fun j=>
 (Vm.zdq j.At 0 (w64 ((x0.Commits.length:Int)-1))).bind fun k=>
 bif(!k) then
 (b true)
 else
 (bif decide (0< (a:Int)) then
 ((gi x0.Heads a).bind fun e=>
 (gi x0.Heads (w64 (a-1))).bind fun f=>
 b (Op.bytesLess e.Name f.Name||e.Name==f.Name))
 else
 (b false))))
 else
 (c d a)
def zc5 (x0:Vm.Repo)(d:Bool->Int->Option (Bool)):Nat->Bool->Int->Option (Bool)
 |0,_,_=>none
 |m+1,e,a=>
 bif decide (a< (x0.Commits.length:Int)) then
 ((gi x0.Commits a).bind fun b=>
 jn (fun(f:Bool) (k:Int)=>
 jn (fun(g:Bool)=>
 bif g then
 (some false)
 else
 (zc5 x0 d m f (w64 (a+1)))) fun c=>
 bif decide (2< (b.Parents.length:Int)) then
 (c true)
 else
 ((Vm.zbt b.Who).bind fun h=>
 bif(!h) then
 (c true)
 else
 ((Vm.zco b.Tree).bind fun i=>
 c (!i)))) fun j=>
 zci a b j (((b.Parents.length:Int)-0).toNat+1) e 0)
 else
 (d e a)
def zbx (x0:Vm.Repo):Option (Bool):=
 jn (fun(b:Bool) (f:Int)=>
 jn (fun(g:Bool) (h:Int)=>
 jn (fun(c:Bool)=>
 some c) fun a=>
 bif decide (x0.Commits.length<=(16:Int)) then
 (a (decide (x0.Heads.length<=(5:Int))))
 else
 (a false)) fun d=>
 zcj x0 d (((x0.Heads.length:Int)-0).toNat+1) b 0) fun e=>
 zc5 x0 e (((x0.Commits.length:Int)-0).toNat+1) false 0
def zbN (x0:Vm.Commit):Option (Vm.Commit):=
 (apM ([]:List Int) x0.Parents).bind fun a=>
 (Vm.zbu x0.Tree).bind fun b=>
 some (Vm.Commit.mk a x0.Who b)
def zbU (x0:Vm.Repo)(c:Int->List Vm.Commit->List Vm.Head->Option (Vm.Repo)):Nat->Int->List Vm.Commit->List Vm.Head->Option (Vm.Repo)
 |0,_,_,_=>none
 |m+1,a,d,e=>
 bif decide (a< (x0.Commits.length:Int)) then
 ((gi x0.Commits a).bind fun f=>
 (Vm.zbN f).bind fun b=>
 (apM d [Vm.Commit.mk b.Parents b.Who b.Tree]).bind fun g=>
 zbU x0 c m (w64 (a+1)) g e)
 else
 (c a d e)
def zaS (x0:Vm.Repo):Option (Vm.Repo):=
 (apM ([]:List Head) x0.Heads).bind fun a=>
 jn (fun(e:Int) (b:List Vm.Commit) (c:List Vm.Head)=>
 some (Vm.Repo.mk b c)) fun d=>
 zbU x0 d (((x0.Commits.length:Int)-0).toNat+1) 0 ([]:List Commit) a
def zbV (x0:Vm.Repo)(x1:Str)(x2:Int)(e:Bool->Int->List Vm.Commit->List Vm.Head->Option (Vm.Repo)):Nat->Bool->Int->List Vm.Commit->List Vm.Head->Option (Vm.Repo)
 |0,_,_,_,_=>none
 |m+1,b,a,c,d=>
 bif decide (a< (x0.Heads.length:Int)) then
 (jn (fun(l:Bool) (n:List Vm.Commit) (o:List Vm.Head)=>
 zbV x0 x1 x2 e m l (w64 (a+1)) n o) fun f=>
 jn (fun(g:Bool) (h:List Vm.Commit) (i:List Vm.Head)=>
 (gi x0.Heads a).bind fun p=>
 bif(p.Name !=x1) then
 ((gi x0.Heads a).bind fun q=>
 (apM i [q]).bind fun r=>
 f g h r)
 else
 (f g h i)) fun j=>
 jn (fun(s:Bool)=>
 bif s then
 ((apM d [Vm.Head.mk x1 x2]).bind fun t=>
 j true c t)
 else
 (j b c d)) fun k=>
 bif(!b) then
 ((gi x0.Heads a).bind fun u=>
 k (!Op.bytesLess u.Name x1))
 else
 (k false))
 else
 (e b a c d)
def zdA (x0:Vm.Repo)(x1:Str)(x2:Int):Option (Vm.Repo):=
 jn (fun(d:Bool) (i:Int) (a:List Vm.Commit) (b:List Vm.Head)=>
 jn (fun(e:List Vm.Commit) (f:List Vm.Head)=>
 some (Vm.Repo.mk e f)) fun c=>
 bif(!d) then
 ((apM b [Vm.Head.mk x1 x2]).bind fun g=>
 c a g)
 else
 (c a b)) fun h=>
 zbV x0 x1 x2 h (((x0.Heads.length:Int)-0).toNat+1) false 0 x0.Commits ([]:List Head)
def zcN (x0:Vm.Repo)(x1:Str)(x2:Vm.Commit):Option (Vm.Repo):=
 (apM ([]:List Commit) x0.Commits).bind fun a=>
 (apM a [x2]).bind fun b=>
 (Vm.zdA (Vm.Repo.mk b x0.Heads) x1 (x0.Commits.length:Int)).bind fun c=>
 some c
def zcI (x0:Vm.Repo)(x1:Str)(x2:Str)(x3:List Vm.File):Option (Vm.Repo×Bool):=
 (Vm.zbx x0).bind fun f=>
 bif(!f) then
 (some (Vm.Repo.mk ([]:List Commit) ([]:List Head),false))
 else
 ((Vm.zbu x3).bind fun a=>
 jn (fun(g:List Int) (h:Str) (i:List Vm.File)=>
 (Vm.zaS x0).bind fun b=>
 (Vm.zcN (Vm.Repo.mk b.Commits b.Heads) x1 (Vm.Commit.mk g h i)).bind fun c=>
 (Vm.zbx c).bind fun j=>
 bif(!j) then
 ((Vm.zaS x0).bind fun d=>
 some (Vm.Repo.mk d.Commits d.Heads,false))
 else
 (some (c,true))) fun e=>
 (Vm.zca x0 x1).bind fun k=>
 bif decide (0<=(k:Int)) then
 ((Vm.zca x0 x1).bind fun l=>
 e ([l]:List Int) x2 a)
 else
 (e ([]:List Int) x2 a))
def zbc (x0:Vm.Repo)(x1:Vm.Op)(x2:List Vm.File)(x3:Bool):Option (Vm.Repo×Int):=
 bif(!x3) then
 (some (x0,1))
 else
 ((Vm.zcI x0 x1.Branch x1.Who x2).bind fun a=>
 bif(!a.2) then
 (some (x0,5))
 else
 (some (a.1,0)))
def zbW (x0:List Vm.File)(x1:Str)(c:List Vm.File->Int->Option ((List Vm.File))):Nat->List Vm.File->Int->Option ((List Vm.File))
 |0,_,_=>none
 |m+1,b,a=>
 bif decide (a< (x0.length:Int)) then
 (jn (fun(f:List Vm.File)=>
 zbW x0 x1 c m f (w64 (a+1))) fun d=>
 jn (fun(g:Bool)=>
 bif g then
 ((gi x0 a).bind fun h=>
 (apM b [h]).bind fun i=>
 d i)
 else
 (d b)) fun e=>
 (gi x0 a).bind fun j=>
 bif(j.Path !=x1) then
 ((gi x0 a).bind fun k=>
 (Vm.zeX x1 k.Path).bind fun l=>
 e (!l))
 else
 (e false))
 else
 (c b a)
def zd9 (x0:List Vm.File)(x1:Str):Option ((List Vm.File)):=
 jn (fun(a:List Vm.File) (c:Int)=>
 some a) fun b=>
 zbW x0 x1 b (((x0.length:Int)-0).toNat+1) ([]:List File) 0
def zcw (x0:List Vm.File)(x1:Str):Option ((List Vm.File)×Bool):=
 (Vm.zco x0).bind fun b=>
 bif(!b) then
 (some (([]:List File),false))
 else
 ((Vm.zbu x0).bind fun c=>
 (Vm.zd9 c x1).bind fun a=>
 some (a,decide (a.length< (x0.length:Int))))
def zaM (x0:List Vm.File)(x1:Str)(x2:Str)(c:List Vm.File->Int->Option ((List Vm.File)×Bool)):Nat->List Vm.File->Int->Option ((List Vm.File)×Bool)
 |0,_,_=>none
 |m+1,b,a=>
 bif decide (a< (x0.length:Int)) then
 (jn (fun(f:List Vm.File)=>
 zaM x0 x1 x2 c m f (w64 (a+1))) fun d=>
 jn (fun(g:Bool)=>
 bif g then
 ((gi x0 a).bind fun u64=>
 (slM u64.Path (x1.length:Int) (u64.Path.length:Int)).bind fun h=>
 (saM x2 h).bind fun i=>
 (gi x0 a).bind fun j=>
 (Vm.zdS b (Vm.File.mk i j.Text)).bind fun k=>
 d k)
 else
 (d b)) fun e=>
 (gi x0 a).bind fun l=>
 bif(l.Path==x1) then
 (e true)
 else
 ((gi x0 a).bind fun n=>
 (Vm.zeX x1 n.Path).bind fun o=>
 e o))
 else
 (c b a)
def zcx (x0:List Vm.File)(x1:Str)(x2:Str):Option ((List Vm.File)×Bool):=
 (Vm.zco x0).bind fun e=>
 bif(!e) then
 (some (([]:List File),false))
 else
 ((Vm.zbu x0).bind fun f=>
 (Vm.zd9 f x1).bind fun b=>
 jn (fun(g:Bool)=>
 bif g then
 ((Vm.zbu x0).bind fun h=>
 some (h,false))
 else
 (jn (fun(a:List Vm.File) (n:Int)=>
 jn (fun(i:Bool)=>
 bif i then
 ((Vm.zbu x0).bind fun j=>
 some (j,false))
 else
 (some (a,true))) fun c=>
 (Vm.zco a).bind fun k=>
 bif(!k) then
 (c true)
 else
 (c ((a.length:Int) !=(x0.length:Int)))) fun l=>
 zaM x0 x1 x2 l (((x0.length:Int)-0).toNat+1) b 0)) fun d=>
 bif((b.length:Int)==(x0.length:Int)) then
 (d true)
 else
 ((Vm.zcs x2).bind fun m=>
 d (!m)))
def zby (x0:Vm.Repo)(x1:Str)(x2:Int):Option (Vm.Repo×Bool):=
 (Vm.zbx x0).bind fun e=>
 bif(!e) then
 (some (Vm.Repo.mk ([]:List Commit) ([]:List Head),false))
 else
 ((Vm.zaS x0).bind fun a=>
 (Vm.zdA (Vm.Repo.mk a.Commits a.Heads) x1 x2).bind fun b=>
 jn (fun(f:Bool)=>
 bif f then
 ((Vm.zaS x0).bind fun c=>
 some (Vm.Repo.mk c.Commits c.Heads,false))
 else
 (some (b,true))) fun d=>
 (Vm.zca x0 x1).bind fun g=>
 bif decide (0<=(g:Int)) then
 (d true)
 else
 ((Vm.zbx b).bind fun h=>
 d (!h)))
def zcy (x0:Vm.Repo)(a:Int)(d:Int->List Bool->Option ((List Int))):Nat->Int->List Bool->Option ((List Int))
 |0,_,_=>none
 |m+1,b,c=>
 jn (fun(g:Bool)=>
 bif g then
 ((gi x0.Commits a).bind fun h=>
 (gi h.Parents b).bind fun e=>
 (gi c e).bind fun l=>
 (siM c e true).bind fun i=>
 zcy x0 a d m (w64 (b+1)) i)
 else
 (d b c)) fun f=>
 (gi x0.Commits a).bind fun j=>
 bif decide (b< (j.Parents.length:Int)) then
 ((gi c a).bind fun k=>
 f k)
 else
 (f false)
def zbI (b:List Bool)(d:List Int->Int->Option ((List Int))):Nat->List Int->Int->Option ((List Int))
 |0,_,_=>none
 |m+1,c,a=>
 bif decide (a< (b.length:Int)) then
 (jn (fun(f:List Int)=>
 zbI b d m f (w64 (a+1))) fun e=>
 (gi b a).bind fun g=>
 bif g then
 ((apM c [a]).bind fun h=>
 e h)
 else
 (e c))
 else
 (d c a)
def zbJ (x0:Vm.Repo)(b:Int->List Bool->Option ((List Int))):Nat->Int->List Bool->Option ((List Int))
 |0,_,_=>none
 |m+1,a,c=>
 bif decide (0<=(a:Int)) then
 (jn (fun(f:Int) (d:List Bool)=>
 zbJ x0 b m (w64 (a-1)) d) fun e=>
 zcy x0 a e (4) 0 c)
 else
 (b a c)
def zdi (x0:Vm.Repo)(x1:Int):Option ((List Int)):=
 (mkM (x0.Commits.length:Int) (false:Bool)).bind fun a=>
 (gi a x1).bind fun g=>
 (siM a x1 true).bind fun c=>
 jn (fun(h:Int) (b:List Bool)=>
 jn (fun(d:List Int) (i:Int)=>
 some d) fun e=>
 zbI b e (((b.length:Int)-0).toNat+1) ([]:List Int) 0) fun f=>
 zbJ x0 f ((x1+1-0).toNat+1) x1 c
def zcz (x0:List Int)(x1:Int)(b:Bool->Int->Option (Bool)):Nat->Bool->Int->Option (Bool)
 |0,_,_=>none
 |m+1,c,a=>
 bif decide (a< (x0.length:Int)) then
 ((gi x0 a).bind fun d=>
 bif((d:Int)==(x1:Int)) then
 (some true)
 else
 (zcz x0 x1 b m c (w64 (a+1))))
 else
 (b c a)
def zdT (x0:List Int)(x1:Int):Option (Bool):=
 jn (fun(b:Bool) (c:Int)=>
 some false) fun a=>
 zcz x0 x1 a (((x0.length:Int)-0).toNat+1) false 0
def za8 (x0:Vm.Repo)(b:List Int)(c:Int)(d:Bool->Int->Option ((List Int))):Nat->Bool->Int->Option ((List Int))
 |0,_,_=>none
 |m+1,e,a=>
 bif decide (a< (b.length:Int)) then
 (bif e then
 (bif((a:Int)==(c:Int)) then
 (za8 x0 b c d m true (w64 (a+1)))
 else
 ((gi b a).bind fun f=>
 (gi b c).bind fun g=>
 (Vm.zdi x0 f).bind fun h=>
 (Vm.zdT h g).bind fun i=>
 za8 x0 b c d m (!i) (w64 (a+1))))
 else
 (za8 x0 b c d m false (w64 (a+1))))
 else
 (d e a)
def zaH (x0:Vm.Repo)(a:List Int)(d:List Int->Int->Option ((List Int))):Nat->List Int->Int->Option ((List Int))
 |0,_,_=>none
 |m+1,c,b=>
 bif decide (b< (a.length:Int)) then
 (jn (fun(f:List Int)=>
 zaH x0 a d m f (w64 (b+1))) fun e=>
 jn (fun(g:Bool) (k:Int)=>
 bif g then
 ((gi a b).bind fun h=>
 (apM c [h]).bind fun i=>
 e i)
 else
 (e c)) fun j=>
 za8 x0 a b j (((a.length:Int)-0).toNat+1) true 0)
 else
 (d c b)
def zbz (b:(List Int))(d:(List Int))(e:List Int->Int->Option ((List Int))):Nat->List Int->Int->Option ((List Int))
 |0,_,_=>none
 |m+1,c,a=>
 bif decide (a< (b.length:Int)) then
 (jn (fun(g:List Int)=>
 zbz b d e m g (w64 (a+1))) fun f=>
 (gi b a).bind fun h=>
 (Vm.zdT d h).bind fun i=>
 bif i then
 ((gi b a).bind fun j=>
 (apM c [j]).bind fun k=>
 f k)
 else
 (f c))
 else
 (e c a)
def zdY (x0:Vm.Repo)(x1:Int)(x2:Int):Option ((List Int)):=
 (Vm.zdi x0 x1).bind fun a=>
 (Vm.zdi x0 x2).bind fun c=>
 jn (fun(b:List Int) (g:Int)=>
 jn (fun(d:List Int) (h:Int)=>
 some d) fun e=>
 zaH x0 b e (((b.length:Int)-0).toNat+1) ([]:List Int) 0) fun f=>
 zbz a c f (((a.length:Int)-0).toNat+1) ([]:List Int) 0
def zey (x0:Vm.Repo)(x1:Int)(x2:Int):Option ((List Vm.File)):=
 (Vm.zdY x0 x1 x2).bind fun a=>
 bif((a.length:Int)==0) then
 (some ([]:List File))
 else
 ((gi a (w64 ((a.length:Int)-1))).bind fun b=>
 (gi x0.Commits b).bind fun c=>
 some c.Tree)
def zcA (x0:List Str)(x1:Str)(b:Int->Option ((List Str))):Nat->Int->Option ((List Str))
 |0,_=>none
 |m+1,a=>
 jn (fun(d:Bool)=>
 bif d then
 (zcA x0 x1 b m (w64 (a+1)))
 else
 (b a)) fun c=>
 bif decide (a< (x0.length:Int)) then
 ((gi x0 a).bind fun e=>
 c (Op.bytesLess e x1))
 else
 (c false)
def zdj (x0:List Str)(x1:Str):Option ((List Str)):=
 jn (fun(a:Int)=>
 jn (fun(c:Bool)=>
 bif c then
 (some x0)
 else
 ((slM x0 0 a).bind fun d=>
 (apM ([]:List Str) d).bind fun e=>
 (apM e [x1]).bind fun f=>
 (slM x0 a (x0.length:Int)).bind fun g=>
 (apM f g).bind fun h=>
 some h)) fun b=>
 bif decide (a< (x0.length:Int)) then
 ((gi x0 a).bind fun i=>
 b (i==x1))
 else
 (b false)) fun j=>
 zcA x0 x1 j (x0.length+1) 0
def zaz (x2:List Vm.File)(b:List Str->Int->Option ((List Str))):Nat->List Str->Int->Option ((List Str))
 |0,_,_=>none
 |m+1,c,a=>
 bif decide (a< (x2.length:Int)) then
 ((gi x2 a).bind fun d=>
 (Vm.zdj c d.Path).bind fun e=>
 zaz x2 b m e (w64 (a+1)))
 else
 (b c a)
def zaW (x1:List Vm.File)(b:List Str->Int->Option ((List Str))):Nat->List Str->Int->Option ((List Str))
 |0,_,_=>none
 |m+1,c,a=>
 bif decide (a< (x1.length:Int)) then
 ((gi x1 a).bind fun d=>
 (Vm.zdj c d.Path).bind fun e=>
 zaW x1 b m e (w64 (a+1)))
 else
 (b c a)
def zbA (x0:List Vm.File)(b:List Str->Int->Option ((List Str))):Nat->List Str->Int->Option ((List Str))
 |0,_,_=>none
 |m+1,c,a=>
 bif decide (a< (x0.length:Int)) then
 ((gi x0 a).bind fun d=>
 (Vm.zdj c d.Path).bind fun e=>
 zbA x0 b m e (w64 (a+1)))
 else
 (b c a)
def zdZ (x0:List Vm.File)(x1:List Vm.File)(x2:List Vm.File):Option ((List Str)):=
 jn (fun(a:List Str) (g:Int)=>
 jn (fun(b:List Str) (h:Int)=>
 jn (fun(c:List Str) (i:Int)=>
 some c) fun d=>
 zaz x2 d (((x2.length:Int)-0).toNat+1) b 0) fun e=>
 zaW x1 e (((x1.length:Int)-0).toNat+1) a 0) fun f=>
 zbA x0 f (((x0.length:Int)-0).toNat+1) ([]:List Str) 0
def zcB (x0:List Vm.File)(x1:Str)(b:List Str->Bool->Int->Option ((List Str)×Bool)):Nat->List Str->Bool->Int->Option ((List Str)×Bool)
 |0,_,_,_=>none
 |m+1,c,d,a=>
 bif decide (a< (x0.length:Int)) then
 ((gi x0 a).bind fun e=>
 bif(e.Path==x1) then
 ((gi x0 a).bind fun f=>
 some (f.Text,true))
 else
 (zcB x0 x1 b m c d (w64 (a+1))))
 else
 (b c d a)
def zei (x0:List Vm.File)(x1:Str):Option ((List Str)×Bool):=
 jn (fun(b:List Str) (c:Bool) (d:Int)=>
 some (([]:List Str),false)) fun a=>
 zcB x0 x1 a (((x0.length:Int)-0).toNat+1) ([]:List Str) false 0
def zbX (x0:List Str)(x1:List Str)(b:Bool->Int->Option (Bool)):Nat->Bool->Int->Option (Bool)
 |0,_,_=>none
 |m+1,c,a=>
 bif decide (a< (x0.length:Int)) then
 ((gi x0 a).bind fun d=>
 (gi x1 a).bind fun e=>
 bif(d !=e) then
 (some false)
 else
 (zbX x0 x1 b m c (w64 (a+1))))
 else
 (b c a)
def zcP (x0:List Str)(x1:List Str):Option (Bool):=
 bif((x0.length:Int) !=(x1.length:Int)) then
 (some false)
 else
 (jn (fun(b:Bool) (c:Int)=>
 some true) fun a=>
 zbX x0 x1 a (((x0.length:Int)-0).toNat+1) false 0)
def zdB (x0:List Str)(x1:Bool)(x2:List Str)(x3:Bool):Option (Bool):=
 jn (fun(b:Bool)=>
 some b) fun a=>
 bif(x1==x3) then
 (bif(!x1) then
 (a true)
 else
 ((Vm.zcP x0 x2).bind fun c=>
 a c))
 else
 (a false)
def zbB (x0:List Str)(x1:List Str)(b:Int)(e:Int->List (List Int)->Option ((List (List Int)))):Nat->Int->List (List Int)->Option ((List (List Int)))
 |0,_,_=>none
 |m+1,a,c=>
 bif decide (0<=(a:Int)) then
 (jn (fun(h:List (List Int))=>
 zbB x0 x1 b e m (w64 (a-1)) h) fun d=>
 (gi x0 b).bind fun i=>
 (gi x1 a).bind fun j=>
 bif(i==j) then
 ((gi c b).bind fun u64=>
 (gi c (w64 (b+1))).bind fun k=>
 (gi k (w64 (a+1))).bind fun l=>
 (gi u64 a).bind fun B=>
 (siM u64 a (w64 (l+1))).bind fun n=>
 (siM c b n).bind fun o=>
 d o)
 else
 ((gi c (w64 (b+1))).bind fun p=>
 (gi p a).bind fun q=>
 (gi c b).bind fun r=>
 (gi r (w64 (a+1))).bind fun s=>
 bif decide (s<=(q:Int)) then
 ((gi c b).bind fun f=>
 (gi c (w64 (b+1))).bind fun t=>
 (gi t a).bind fun u=>
 (gi f a).bind fun C=>
 (siM f a u).bind fun v=>
 (siM c b v).bind fun w=>
 d w)
 else
 ((gi c b).bind fun g=>
 (gi c b).bind fun x=>
 (gi x (w64 (a+1))).bind fun y=>
 (gi g a).bind fun D=>
 (siM g a y).bind fun z=>
 (siM c b z).bind fun A=>
 d A)))
 else
 (e a c)
def za9 (x0:List Str)(x1:List Str)(b:Int->List (List Int)->Option ((List (List Int)))):Nat->Int->List (List Int)->Option ((List (List Int)))
 |0,_,_=>none
 |m+1,a,c=>
 bif decide (0<=(a:Int)) then
 (jn (fun(f:Int) (d:List (List Int))=>
 za9 x0 x1 b m (w64 (a-1)) d) fun e=>
 zbB x0 x1 a e (((w64 ((x1.length:Int)-1))+1-0).toNat+1) (w64 ((x1.length:Int)-1)) c)
 else
 (b a c)
def zbC (x0:List Str)(x1:List Str)(b:List (List Int)->Int->Option ((List (List Int)))):Nat->List (List Int)->Int->Option ((List (List Int)))
 |0,_,_=>none
 |m+1,c,a=>
 bif decide (a<=(x0.length:Int)) then
 ((mkM (w64 ((x1.length:Int)+1)) (0:Int)).bind fun d=>
 (apM c [d]).bind fun e=>
 zbC x0 x1 b m e (w64 (a+1)))
 else
 (b c a)
def zd0 (x0:List Str)(x1:List Str):Option ((List (List Int))):=
 jn (fun(a:List (List Int)) (e:Int)=>
 jn (fun(f:Int) (b:List (List Int))=>
 some b) fun c=>
 za9 x0 x1 c (((w64 ((x0.length:Int)-1))+1-0).toNat+1) (w64 ((x0.length:Int)-1)) a) fun d=>
 zbC x0 x1 d (((x0.length:Int)+1-0).toNat+1) ([]:List (List Int)) 0
def zbD (x0:List Str)(x1:List Str)(c:(List (List Int)))(d:List Int->Int->Int->Option ((List Int))):Nat->List Int->Int->Int->Option ((List Int))
 |0,_,_,_=>none
 |m+1,e,a,b=>
 bif decide (b< (x0.length:Int)) then
 (jn (fun(h:Bool)=>
 bif h then
 ((apM e [a]).bind fun i=>
 zbD x0 x1 c d m i (w64 (a+1)) (w64 (b+1)))
 else
 (jn (fun(j:Bool)=>
 bif j then
 ((apM e [(-1)]).bind fun k=>
 zbD x0 x1 c d m k a (w64 (b+1)))
 else
 (zbD x0 x1 c d m e (w64 (a+1)) b)) fun f=>
 bif decide (x1.length<=(a:Int)) then
 (f true)
 else
 ((gi c (w64 (b+1))).bind fun l=>
 (gi l a).bind fun n=>
 (gi c b).bind fun o=>
 (gi o (w64 (a+1))).bind fun p=>
 f (decide (p<=(n:Int)))))) fun g=>
 bif decide (a< (x1.length:Int)) then
 ((gi x0 b).bind fun q=>
 (gi x1 a).bind fun r=>
 g (q==r))
 else
 (g false))
 else
 (d e a b)
def zdt (x0:List Str)(x1:List Str):Option ((List Int)):=
 (Vm.zd0 x0 x1).bind fun a=>
 jn (fun(b:List Int) (d:Int) (e:Int)=>
 some b) fun c=>
 zbD x0 x1 a c (x0.length+x1.length+1) ([]:List Int) 0 0
def zez (x0:List Str)(x1:List Str)(x2:List Str):Option (Vm.Part):=
 jn (fun(c:Bool)=>
 bif c then
 ((apM ([]:List Str) x2).bind fun d=>
 some (Vm.Part.mk false d ([]:List Str) ([]:List Str) ([]:List Str)))
 else
 ((Vm.zcP x2 x0).bind fun e=>
 bif e then
 ((apM ([]:List Str) x1).bind fun f=>
 some (Vm.Part.mk false f ([]:List Str) ([]:List Str) ([]:List Str)))
 else
 ((apM ([]:List Str) x0).bind fun g=>
 (apM ([]:List Str) x1).bind fun h=>
 (apM ([]:List Str) x2).bind fun i=>
 some (Vm.Part.mk true ([]:List Str) g h i)))) fun a=>
 (Vm.zcP x1 x0).bind fun b=>
 bif b then
 (a b)
 else
 ((Vm.zcP x1 x2).bind fun j=>
 a j)
def zeN (x0:List Vm.Part)(x1:Vm.Part):Option ((List Vm.Part)):=
 jn (fun(d:Bool)=>
 bif d then
 (some x0)
 else
 (jn (fun(e:Bool)=>
 bif e then
 ((gi x0 (w64 ((x0.length:Int)-1))).bind fun a=>
 (apM a.Lines x1.Lines).bind fun f=>
 (gi x0 (w64 ((x0.length:Int)-1))).bind fun j=>
 (siM x0 (w64 ((x0.length:Int)-1)) (Vm.Part.mk a.Clash f a.Old a.One a.Two)).bind fun g=>
 some g)
 else
 ((apM x0 [Vm.Part.mk x1.Clash x1.Lines x1.Old x1.One x1.Two]).bind fun h=>
 some h)) fun b=>
 bif decide (0< (x0.length:Int)) then
 (bif(!x1.Clash) then
 ((gi x0 (w64 ((x0.length:Int)-1))).bind fun i=>
 b (!i.Clash))
 else
 (b false))
 else
 (b false))) fun c=>
 bif(!x1.Clash) then
 (c ((x1.Lines.length:Int)==0))
 else
 (c false)
def zck (x0:List Str)(x1:List Str)(x2:List Str)(b:List Int)(d:List Int)(i:List Vm.Part->Int->Int->Int->Int->Option ((List Vm.Part))):Nat->List Vm.Part->Int->Int->Int->Int->Option ((List Vm.Part))
 |0,_,_,_,_,_=>none
 |m+1,e,f,g,h,a=>
 bif decide (a< (b.length:Int)) then
 (jn (fun(o:List Vm.Part) (p:Int) (q:Int) (r:Int)=>
 zck x0 x1 x2 b d i m o p q r (w64 (a+1))) fun j=>
 jn (fun(s:Bool)=>
 bif s then
 (j e f g h)
 else
 ((slM x0 f a).bind fun t=>
 (gi b a).bind fun u=>
 (slM x1 g u).bind fun v=>
 (gi d a).bind fun w=>
 (slM x2 h w).bind fun x=>
 (Vm.zez t v x).bind fun c=>
 (Vm.zeN e (Vm.Part.mk c.Clash c.Lines c.Old c.One c.Two)).bind fun k=>
 jn (fun(y:List Vm.Part)=>
 (gi b a).bind fun z=>
 (gi d a).bind fun A=>
 j y (w64 (a+1)) (w64 (z+1)) (w64 (A+1))) fun l=>
 bif decide (a< (x0.length:Int)) then
 ((gi x0 a).bind fun B=>
 (Vm.zeN k (Vm.Part.mk false ([B]:List Str) ([]:List Str) ([]:List Str) ([]:List Str))).bind fun C=>
 l C)
 else
 (l k))) fun n=>
 (gi b a).bind fun D=>
 bif decide (D< (0:Int)) then
 (n true)
 else
 ((gi d a).bind fun E=>
 n (decide (E< (0:Int)))))
 else
 (i e f g h a)
def zfO (x0:List Str)(x1:List Str)(x2:List Str):Option ((List Vm.Part)):=
 (Vm.zdt x0 x1).bind fun b=>
 (apM b [(x1.length:Int)]).bind fun a=>
 (Vm.zdt x0 x2).bind fun c=>
 (apM c [(x2.length:Int)]).bind fun d=>
 jn (fun(e:List Vm.Part) (g:Int) (h:Int) (i:Int) (j:Int)=>
 some e) fun f=>
 zck x0 x1 x2 a d f (((a.length:Int)-0).toNat+1) ([]:List Part) 0 0 0 0
def zbY (x0:List Vm.Part)(b:List Str->Bool->List Str->Int->Option ((List Str)×Bool)):Nat->List Str->Bool->List Str->Int->Option ((List Str)×Bool)
 |0,_,_,_,_=>none
 |m+1,c,d,e,a=>
 bif decide (a< (x0.length:Int)) then
 ((gi x0 a).bind fun f=>
 bif f.Clash then
 (some (([]:List Str),false))
 else
 ((gi x0 a).bind fun g=>
 (apM e g.Lines).bind fun h=>
 zbY x0 b m c d h (w64 (a+1))))
 else
 (b c d e a)
def zeA (x0:List Vm.Part):Option ((List Str)×Bool):=
 jn (fun(d:List Str) (e:Bool) (a:List Str) (f:Int)=>
 (Vm.zcW a).bind fun b=>
 bif(!b) then
 (some (([]:List Str),false))
 else
 (some (a,true))) fun c=>
 zbY x0 c (((x0.length:Int)-0).toNat+1) ([]:List Str) false ([]:List Str) 0
def zfa (x0:List Vm.File)(x1:List Vm.File)(x2:List Vm.File)(x3:Str):Option ((List Str)×Bool×Int):=
 (Vm.zei x0 x3).bind fun a=>
 (Vm.zei x1 x3).bind fun b=>
 (Vm.zei x2 x3).bind fun c=>
 jn (fun(h:Bool)=>
 bif h then
 (some (c.1,c.2,0))
 else
 ((Vm.zdB c.1 c.2 a.1 a.2).bind fun i=>
 bif i then
 (some (b.1,b.2,0))
 else
 (jn (fun(j:Bool)=>
 bif j then
 (some (a.1,a.2,1))
 else
 (bif(!a.2) then
 (some (([]:List Str),false,2))
 else
 ((Vm.zfO a.1 b.1 c.1).bind fun k=>
 (Vm.zeA k).bind fun d=>
 bif(!d.2) then
 (some (a.1,true,3))
 else
 (some (d.1,true,0))))) fun e=>
 bif(!b.2) then
 (e true)
 else
 (e (!c.2))))) fun f=>
 (Vm.zdB b.1 b.2 a.1 a.2).bind fun g=>
 bif g then
 (f g)
 else
 ((Vm.zdB b.1 b.2 c.1 c.2).bind fun l=>
 f l)
def zc6 (x0:List Vm.File)(x1:List Vm.File)(x2:List Vm.File)(b:(List Str))(f:List Vm.File->List Vm.Clash->Int->Option ((List Vm.File)×(List Vm.Clash))):Nat->List Vm.File->List Vm.Clash->Int->Option ((List Vm.File)×(List Vm.Clash))
 |0,_,_,_=>none
 |m+1,d,e,a=>
 bif decide (a< (b.length:Int)) then
 (jn (fun(j:List Vm.File) (k:List Vm.Clash)=>
 zc6 x0 x1 x2 b f m j k (w64 (a+1))) fun g=>
 (gi b a).bind fun l=>
 (Vm.zfa x0 x1 x2 l).bind fun c=>
 jn (fun(h:List Vm.Clash)=>
 bif c.2.1 then
 ((gi b a).bind fun n=>
 (apM ([]:List Str) c.1).bind fun o=>
 (apM d [Vm.File.mk n o]).bind fun p=>
 g p h)
 else
 (g d h)) fun i=>
 bif decide (0< (c.2.2:Int)) then
 ((gi b a).bind fun q=>
 (apM e [Vm.Clash.mk q c.2.2]).bind fun r=>
 i r)
 else
 (i e))
 else
 (f d e a)
def zfP (x0:List Vm.File)(x1:List Vm.File)(x2:List Vm.File):Option ((List Vm.File)×(List Vm.Clash)):=
 (Vm.zdZ x0 x1 x2).bind fun a=>
 jn (fun(b:List Vm.File) (c:List Vm.Clash) (e:Int)=>
 some (b,c)) fun d=>
 zc6 x0 x1 x2 a d (((a.length:Int)-0).toNat+1) ([]:List File) ([]:List Clash) 0
def zea (x0:List Vm.File)(x1:List Vm.File)(x2:List Vm.File):Option ((List Vm.File)×(List Vm.Clash)):=
 (Vm.zfP x0 x1 x2).bind fun a=>
 jn (fun(c:Bool)=>
 bif c then
 ((Vm.zbu x0).bind fun d=>
 some (d,([Vm.Clash.mk ([]:Str) 4]:List Clash)))
 else
 (some (a.1,a.2))) fun b=>
 bif((a.2.length:Int)==0) then
 ((Vm.zco a.1).bind fun e=>
 b (!e))
 else
 (b false)
def zc7 (x0:Vm.Repo)(x1:Str)(x2:Str)(x3:Int):Option (Vm.Repo×Int):=
 (Vm.zca x0 x1).bind fun a=>
 (Vm.zdi x0 a).bind fun d=>
 (Vm.zdT d x3).bind fun e=>
 bif e then
 (some (x0,2))
 else
 ((Vm.zdi x0 x3).bind fun f=>
 (Vm.zdT f a).bind fun g=>
 bif g then
 ((Vm.zdA x0 x1 x3).bind fun h=>
 some (h,3))
 else
 ((gi x0.Commits a).bind fun i=>
 (gi x0.Commits x3).bind fun j=>
 (Vm.zey x0 a x3).bind fun k=>
 (Vm.zea k i.Tree j.Tree).bind fun b=>
 bif decide (0< (b.2.length:Int)) then
 (some (x0,4))
 else
 ((Vm.zcN x0 x1 (Vm.Commit.mk ([a,x3]:List Int) x2 b.1)).bind fun c=>
 (Vm.zbx c).bind fun l=>
 bif(!l) then
 (some (x0,5))
 else
 (some (c,0)))))
def zbj (x0:Vm.Repo)(x1:Str)(x2:Str)(x3:Int):Option (Vm.Repo×Int):=
 (Vm.zbx x0).bind fun e=>
 bif(!e) then
 (some (Vm.Repo.mk ([]:List Commit) ([]:List Head),1))
 else
 (jn (fun(f:Bool)=>
 bif f then
 ((Vm.zaS x0).bind fun b=>
 some (Vm.Repo.mk b.Commits b.Heads,1))
 else
 ((Vm.zaS x0).bind fun c=>
 (Vm.zc7 (Vm.Repo.mk c.Commits c.Heads) x1 x2 x3).bind fun d=>
 some (d.1,d.2))) fun a=>
 (Vm.zca x0 x1).bind fun g=>
 bif decide (g< (0:Int)) then
 (a true)
 else
 ((Vm.zbt x2).bind fun h=>
 bif(!h) then
 (a true)
 else
 ((Vm.zdq x3 0 (w64 ((x0.Commits.length:Int)-1))).bind fun i=>
 a (!i))))
def zbe (x0:Vm.Repo)(x1:Int):Option ((List Vm.File)):=
 (gi x0.Commits x1).bind fun a=>
 bif((a.Parents.length:Int)==0) then
 (some ([]:List File))
 else
 ((gi x0.Commits x1).bind fun b=>
 (gi b.Parents 0).bind fun c=>
 (gi x0.Commits c).bind fun d=>
 some d.Tree)
def zcb (x0:Vm.Repo)(x1:Str)(x2:Str)(x3:List Vm.File)(x4:List Vm.File):Option (Vm.Repo×Int):=
 (Vm.zca x0 x1).bind fun a=>
 (gi x0.Commits a).bind fun d=>
 (Vm.zea x3 d.Tree x4).bind fun b=>
 bif decide (0< (b.2.length:Int)) then
 (some (x0,4))
 else
 ((Vm.zcN x0 x1 (Vm.Commit.mk ([a]:List Int) x2 b.1)).bind fun c=>
 (Vm.zbx c).bind fun e=>
 bif(!e) then
 (some (x0,5))
 else
 (some (c,0)))
def zcQ (x0:Vm.Repo)(x1:Str)(x2:Str)(x3:Int):Option (Vm.Repo×Int):=
 (Vm.zbx x0).bind fun e=>
 bif(!e) then
 (some (Vm.Repo.mk ([]:List Commit) ([]:List Head),1))
 else
 (jn (fun(f:Bool)=>
 bif f then
 ((Vm.zaS x0).bind fun c=>
 some (Vm.Repo.mk c.Commits c.Heads,1))
 else
 ((Vm.zaS x0).bind fun a=>
 (gi a.Commits x3).bind fun g=>
 (Vm.zbe (Vm.Repo.mk a.Commits a.Heads) x3).bind fun h=>
 (Vm.zcb (Vm.Repo.mk a.Commits a.Heads) x1 x2 h g.Tree).bind fun d=>
 some (d.1,d.2))) fun b=>
 (Vm.zca x0 x1).bind fun i=>
 bif decide (i< (0:Int)) then
 (b true)
 else
 ((Vm.zbt x2).bind fun j=>
 bif(!j) then
 (b true)
 else
 ((Vm.zdq x3 0 (w64 ((x0.Commits.length:Int)-1))).bind fun k=>
 b (!k))))
def zbK (x0:Vm.Repo)(x1:Str)(x2:Str)(x3:Int):Option (Vm.Repo×Int):=
 (Vm.zbx x0).bind fun e=>
 bif(!e) then
 (some (Vm.Repo.mk ([]:List Commit) ([]:List Head),1))
 else
 (jn (fun(f:Bool)=>
 bif f then
 ((Vm.zaS x0).bind fun c=>
 some (Vm.Repo.mk c.Commits c.Heads,1))
 else
 ((Vm.zaS x0).bind fun a=>
 (gi a.Commits x3).bind fun g=>
 (Vm.zbe (Vm.Repo.mk a.Commits a.Heads) x3).bind fun h=>
 (Vm.zcb (Vm.Repo.mk a.Commits a.Heads) x1 x2 g.Tree h).bind fun d=>
 some (d.1,d.2))) fun b=>
 (Vm.zca x0 x1).bind fun i=>
 bif decide (i< (0:Int)) then
 (b true)
 else
 ((Vm.zbt x2).bind fun j=>
 bif(!j) then
 (b true)
 else
 ((Vm.zdq x3 0 (w64 ((x0.Commits.length:Int)-1))).bind fun k=>
 b (!k))))
def zfb (x0:Vm.Repo)(x1:Vm.Op):Option (Vm.Repo×Int):=
 (Vm.zca x0 x1.Branch).bind fun a=>
 jn (fun(b:List Vm.File)=>
 bif(x1.Kind==1) then
 ((Vm.zc4 b (Vm.File.mk x1.Path x1.Text)).bind fun c=>
 (Vm.zbc x0 x1 c.1 c.2).bind fun d=>
 some (d.1,d.2))
 else
 (bif(x1.Kind==2) then
 ((Vm.zcw b x1.Path).bind fun e=>
 (Vm.zbc x0 x1 e.1 e.2).bind fun f=>
 some (f.1,f.2))
 else
 (bif(x1.Kind==3) then
 ((Vm.zcx b x1.Path x1.To).bind fun g=>
 (Vm.zbc x0 x1 g.1 g.2).bind fun h=>
 some (h.1,h.2))
 else
 (bif(x1.Kind==4) then
 ((Vm.zby x0 x1.To a).bind fun i=>
 bif(!i.2) then
 (some (x0,1))
 else
 (some (i.1,0)))
 else
 (bif(x1.Kind==5) then
 ((Vm.zca x0 x1.To).bind fun n=>
 (Vm.zbj x0 x1.Branch x1.Who n).bind fun j=>
 some (j.1,j.2))
 else
 (bif(x1.Kind==6) then
 ((Vm.zcQ x0 x1.Branch x1.Who x1.At).bind fun k=>
 some (k.1,k.2))
 else
 ((Vm.zbK x0 x1.Branch x1.Who x1.At).bind fun l=>
 some (l.1,l.2)))))))) fun m=>
 bif decide (0<=(a:Int)) then
 ((gi x0.Commits a).bind fun o=>
 m o.Tree)
 else
 (m ([]:List File))
def zbk (x0:List Vm.Op)(d:Int->List Vm.Commit->List Vm.Head->Option (Vm.Repo)):Nat->Int->List Vm.Commit->List Vm.Head->Option (Vm.Repo)
 |0,_,_,_=>none
 |m+1,a,b,c=>
 jn (fun(h:Bool)=>
 bif h then
 (jn (fun(i:List Vm.Commit) (j:List Vm.Head)=>
 zbk x0 d m (w64 (a+1)) i j) fun e=>
 (gi x0 a).bind fun k=>
 (Vm.ze9 k).bind fun l=>
 bif l then
 ((gi x0 a).bind fun n=>
 (Vm.zfb (Vm.Repo.mk b c) n).bind fun f=>
 e f.1.Commits f.1.Heads)
 else
 (e b c))
 else
 (d a b c)) fun g=>
 bif decide (a< (x0.length:Int)) then
 (g (decide (a< (30:Int))))
 else
 (g false)
def zdu (x0:List Vm.Op):Option (Vm.Repo):=
 jn (fun(d:Int) (a:List Vm.Commit) (b:List Vm.Head)=>
 some (Vm.Repo.mk a b)) fun c=>
 zbk x0 c (x0.length+1) 0 ([]:List Commit) ([]:List Head)
def zd1 (x0:Vm.l30Rd):Option (Vm.Repo×Int):=
 (Vm.zew x0).bind fun a=>
 (Vm.zdu a.1).bind fun c=>
 (Vm.zaS c).bind fun b=>
 some (Vm.Repo.mk b.Commits b.Heads,a.2)
def zcJ (x0:Vm.l30Rd):Option (Vm.Repo×Int):=
 (Vm.zd1 x0).bind fun a=>
 jn (fun(h:Int) (i:List Vm.Commit) (j:List Vm.Head)=>
 some (Vm.Repo.mk i j,h)) fun e=>
 bif decide (0< (a.1.Commits.length:Int)) then
 ((Vm.zaC (Vm.l30Rd.mk x0.b a.2) (a.1.Commits.length:Int)).bind fun d=>
 (Vm.zaC (Vm.l30Rd.mk x0.b d.2) 16).bind fun c=>
 bif(c.1==0) then
 ((gi a.1.Commits d.1).bind fun f=>
 (siM a.1.Commits d.1 (Vm.Commit.mk ([d.1]:List Int) f.Who f.Tree)).bind fun k=>
 e c.2 k a.1.Heads)
 else
 (bif(c.1==1) then
 ((gi a.1.Commits d.1).bind fun g=>
 (siM a.1.Commits d.1 (Vm.Commit.mk g.Parents ([]:Str) g.Tree)).bind fun l=>
 e c.2 l a.1.Heads)
 else
 (bif(c.1==2) then
 ((gi a.1.Heads 0).bind fun m=>
 (apM a.1.Heads [m]).bind fun n=>
 e c.2 a.1.Commits n)
 else
 (e c.2 a.1.Commits a.1.Heads))))
 else
 (e a.2 a.1.Commits a.1.Heads)
def zbw (x0:List Byte):Option (Vm.Repo):=
 (Vm.zcY x0).bind fun b=>
 (Vm.zcJ b).bind fun a=>
 some (Vm.Repo.mk a.1.Commits a.1.Heads)
def zcc (x0:Int)(x1:Int)(x2:Int):Option (Bool):=
 jn (fun(b:Bool)=>
 some b) fun a=>
 bif decide (x1<=(x0:Int)) then
 (a (decide (x0<=(x2:Int))))
 else
 (a false)
def zdv (x0:Byte):Option (Bool):=
 jn (fun(b:Bool)=>
 some b) fun a=>
 bif decide ((97:Int)<=((UInt8.toNat x0:Int):Int)) then
 (bif decide (((UInt8.toNat x0:Int):Int)<=(122:Int)) then
 (a true)
 else
 (bif decide ((48:Int)<=((UInt8.toNat x0:Int):Int)) then
 (a (decide (((UInt8.toNat x0:Int):Int)<=(57:Int))))
 else
 (a false)))
 else
 (bif decide ((48:Int)<=((UInt8.toNat x0:Int):Int)) then
 (a (decide (((UInt8.toNat x0:Int):Int)<=(57:Int))))
 else
 (a false))
def zbZ (x0:Str)(b:Bool->Int->Option (Bool)):Nat->Bool->Int->Option (Bool)
 |0,_,_=>none
 |m+1,c,a=>
 bif decide (a< (x0.length:Int)) then
 ((chM x0 a).bind fun d=>
 (Vm.zdv d).bind fun e=>
 bif(!e) then
 (some false)
 else
 (zbZ x0 b m c (w64 (a+1))))
 else
 (b c a)
def zdd (x0:Str):Option (Bool):=
 (Vm.zcc (x0.length:Int) 1 6).bind fun a=>
 bif(!a) then
 (some false)
 else
 (jn (fun(c:Bool) (d:Int)=>
 some true) fun b=>
 zbZ x0 b (((x0.length:Int)-0).toNat+1) false 0)
def zb0 (x0:Str)(b:Bool->Int->Option (Bool)):Nat->Bool->Int->Option (Bool)
 |0,_,_=>none
 |m+1,c,a=>
 bif decide (a< (x0.length:Int)) then
 (jn (fun(e:Bool)=>
 bif e then
 (some false)
 else
 (zb0 x0 b m c (w64 (a+1)))) fun d=>
 (chM x0 a).bind fun f=>
 bif decide (((UInt8.toNat f:Int):Int)< (32:Int)) then
 (d true)
 else
 ((chM x0 a).bind fun g=>
 d (decide ((126:Int)< ((UInt8.toNat g:Int):Int)))))
 else
 (b c a)
def zeB (x0:Str):Option (Bool):=
 bif decide (12< (x0.length:Int)) then
 (some false)
 else
 (jn (fun(b:Bool) (c:Int)=>
 some true) fun a=>
 zb0 x0 a (((x0.length:Int)-0).toNat+1) false 0)
def zb1 (x0:List Str)(b:Bool->Int->Option (Bool)):Nat->Bool->Int->Option (Bool)
 |0,_,_=>none
 |m+1,c,a=>
 bif decide (a< (x0.length:Int)) then
 ((gi x0 a).bind fun d=>
 (Vm.zeB d).bind fun e=>
 bif(!e) then
 (some false)
 else
 (zb1 x0 b m c (w64 (a+1))))
 else
 (b c a)
def zbv (x0:List Str):Option (Bool):=
 bif decide (10< (x0.length:Int)) then
 (some false)
 else
 (jn (fun(b:Bool) (c:Int)=>
 some true) fun a=>
 zb1 x0 a (((x0.length:Int)-0).toNat+1) false 0)
def strings_Split (x0:Str)(x1:Str):Option ((List Str)):=
 if x0.length<=4294967000/\1<=x1.length then some (Go.Lib.split x0 x1) else none
def zb2 (b:(List Str))(c:Bool->Int->Option (Bool)):Nat->Bool->Int->Option (Bool)
 |0,_,_=>none
 |m+1,d,a=>
 bif decide (a< (b.length:Int)) then
 ((gi b a).bind fun e=>
 (Vm.zdd e).bind fun f=>
 bif(!f) then
 (some false)
 else
 (zb2 b c m d (w64 (a+1))))
 else
 (c d a)
def zdC (x0:Str):Option (Bool):=
 (Vm.strings_Split x0 ([47]:Str)).bind fun a=>
 bif decide (3< (a.length:Int)) then
 (some false)
 else
 (jn (fun(c:Bool) (d:Int)=>
 some true) fun b=>
 zb2 a b (((a.length:Int)-0).toNat+1) false 0)
def strings_HasPrefix (x0:Str)(x1:Str):Option (Bool):=
 some (Go.Lib.hasPrefix x0 x1)
def zcd (x0:Str)(x1:Str):Option (Bool):=
 jn (fun(b:Bool)=>
 some b) fun a=>
 (Vm.zdC x0).bind fun c=>
 bif c then
 ((Vm.zdC x1).bind fun d=>
 bif d then
 ((saM x0 ([47]:Str)).bind fun e=>
 (Vm.strings_HasPrefix x1 e).bind fun f=>
 a f)
 else
 (a false))
 else
 (a false)
def zbl (c:Vm.File)(b:List Vm.File)(d:Bool->Int->Option (Bool)):Nat->Bool->Int->Option (Bool)
 |0,_,_=>none
 |m+1,e,a=>
 bif decide (a< (b.length:Int)) then
 ((gi b a).bind fun f=>
 (Vm.zcd f.Path c.Path).bind fun g=>
 bif g then
 (some false)
 else
 (zbl c b d m e (w64 (a+1))))
 else
 (d e a)
def zb3 (x0:List Vm.File)(d:Bool->Int->Option (Bool)):Nat->Bool->Int->Option (Bool)
 |0,_,_=>none
 |m+1,e,a=>
 bif decide (a< (x0.length:Int)) then
 ((gi x0 a).bind fun b=>
 jn (fun(g:Bool)=>
 bif g then
 (some false)
 else
 ((slM x0 0 a).bind fun f=>
 jn (fun(h:Bool) (n:Int)=>
 zb3 x0 d m h (w64 (a+1))) fun i=>
 zbl b f i (((f.length:Int)-0).toNat+1) e 0)) fun c=>
 (Vm.zbv b.Text).bind fun j=>
 bif(!j) then
 (c true)
 else
 ((Vm.zdC b.Path).bind fun k=>
 bif(!k) then
 (c true)
 else
 (bif decide (0< (a:Int)) then
 ((gi x0 (w64 (a-1))).bind fun l=>
 c (!Op.bytesLess l.Path b.Path))
 else
 (c false))))
 else
 (d e a)
def zeb (x0:List Vm.File):Option (Bool):=
 bif decide (8< (x0.length:Int)) then
 (some false)
 else
 (jn (fun(b:Bool) (c:Int)=>
 some true) fun a=>
 zb3 x0 a (((x0.length:Int)-0).toNat+1) false 0)
def zcl (x0:Vm.Repo)(x1:Int):Option (Bool):=
 (Vm.zcc x1 0 (w64 ((x0.Commits.length:Int)-1))).bind fun a=>
 some a
def zbE (x0:Vm.Repo)(x1:List Vm.Head)(d:Bool->Int->Option (Bool)):Nat->Bool->Int->Option (Bool)
 |0,_,_=>none
 |m+1,e,a=>
 bif decide (a< (x1.length:Int)) then
 ((gi x1 a).bind fun c=>
 jn (fun(f:Bool)=>
 bif f then
 (some false)
 else
 (zbE x0 x1 d m e (w64 (a+1)))) fun b=>
 (Vm.zdd c.Name).bind fun g=>
 bif(!g) then
 (b true)
 else
 ((Vm.zcl x0 c.At).bind fun h=>
 bif(!h) then
 (b true)
 else
 (bif decide (0< (a:Int)) then
 ((gi x1 (w64 (a-1))).bind fun i=>
 b (!Op.bytesLess i.Name c.Name))
 else
 (b false))))
 else
 (d e a)
def zd2 (x0:Vm.Repo)(x1:List Vm.Head):Option (Bool):=
 bif decide (5< (x1.length:Int)) then
 (some false)
 else
 (jn (fun(b:Bool) (c:Int)=>
 some true) fun a=>
 zbE x0 x1 a (((x1.length:Int)-0).toNat+1) false 0)
def zbm (c:Int)(b:Vm.Commit)(d:Bool->Int->Option (Bool)):Nat->Bool->Int->Option (Bool)
 |0,_,_=>none
 |m+1,e,a=>
 bif decide (a< (b.Parents.length:Int)) then
 ((gi b.Parents a).bind fun f=>
 (Vm.zcc f 0 (w64 (c-1))).bind fun g=>
 bif(!g) then
 (some false)
 else
 (zbm c b d m e (w64 (a+1))))
 else
 (d e a)
def zb4 (x0:Vm.Repo)(d:Bool->Int->Option (Bool)):Nat->Bool->Int->Option (Bool)
 |0,_,_=>none
 |m+1,e,c=>
 bif decide (c< (x0.Commits.length:Int)) then
 ((gi x0.Commits c).bind fun a=>
 jn (fun(f:Bool)=>
 bif f then
 (some false)
 else
 (jn (fun(g:Bool) (p:Int)=>
 zb4 x0 d m g (w64 (c+1))) fun h=>
 zbm c a h (((a.Parents.length:Int)-0).toNat+1) e 0)) fun b=>
 bif decide (2< (a.Parents.length:Int)) then
 (b true)
 else
 (bif((a.Parents.length:Int)==2) then
 ((gi a.Parents 0).bind fun i=>
 (gi a.Parents 1).bind fun j=>
 bif((i:Int)==(j:Int)) then
 (b true)
 else
 ((Vm.zdd a.Who).bind fun k=>
 bif(!k) then
 (b true)
 else
 ((Vm.zeb a.Tree).bind fun l=>
 b (!l))))
 else
 ((Vm.zdd a.Who).bind fun n=>
 bif(!n) then
 (b true)
 else
 ((Vm.zeb a.Tree).bind fun o=>
 b (!o)))))
 else
 (d e c)
def zeC (x0:Vm.Repo):Option (Bool):=
 bif decide (16< (x0.Commits.length:Int)) then
 (some false)
 else
 (jn (fun(c:Bool) (d:Int)=>
 (Vm.zd2 x0 x0.Heads).bind fun a=>
 some a) fun b=>
 zb4 x0 b (((x0.Commits.length:Int)-0).toNat+1) false 0)
def zaq (x0:List Str)(x1:List Str)(b:Bool->Int->Option (Bool)):Nat->Bool->Int->Option (Bool)
 |0,_,_=>none
 |m+1,c,a=>
 bif decide (a< (x0.length:Int)) then
 ((gi x0 a).bind fun d=>
 (gi x1 a).bind fun e=>
 bif(d !=e) then
 (some false)
 else
 (zaq x0 x1 b m c (w64 (a+1))))
 else
 (b c a)
def zaE (x0:List Str)(x1:List Str):Option (Bool):=
 bif((x0.length:Int) !=(x1.length:Int)) then
 (some false)
 else
 (jn (fun(b:Bool) (c:Int)=>
 some true) fun a=>
 zaq x0 x1 a (((x0.length:Int)-0).toNat+1) false 0)
def zbO (x0:List Str)(x1:Vm.File):Option (Bool):=
 (Vm.zaE x0 x1.Text).bind fun a=>
 some a
def zdw (x0:List Str):Option ((List Str)):=
 (apM ([]:List Str) x0).bind fun a=>
 some a
def zab (x0:List (List Str))(x2:Vm.File)(b:Int->Int->Option (Int)):Nat->Int->Int->Option (Int)
 |0,_,_=>none
 |m+1,c,a=>
 bif decide (a< (x0.length:Int)) then
 ((gi x0 a).bind fun d=>
 (Vm.zbO d (Vm.File.mk x2.Path x2.Text)).bind fun e=>
 bif e then
 (some a)
 else
 (zab x0 x2 b m c (w64 (a+1))))
 else
 (b c a)
def zan (x0:List (List Str))(x2:Vm.File):Option (Int):=
 jn (fun(b:Int) (c:Int)=>
 some (-1)) fun a=>
 zab x0 x2 a (((x0.length:Int)-0).toNat+1) 0 0
def zad (x0:List (List Str))(x2:Vm.File):Option (Bool):=
 (Vm.zan x0 x2).bind fun a=>
 some (decide (0<=(a:Int)))
def zaU (c:Vm.Commit)(d:List (List Str)->Int->Option ((List (List Str))×Bool)):Nat->List (List Str)->Int->Option ((List (List Str))×Bool)
 |0,_,_=>none
 |m+1,a,b=>
 bif decide (b< (c.Tree.length:Int)) then
 (jn (fun(g:List (List Str))=>
 zaU c d m g (w64 (b+1))) fun e=>
 (gi c.Tree b).bind fun f=>
 (Vm.zad a f).bind fun h=>
 bif(!h) then
 ((Vm.zdw f.Text).bind fun i=>
 (apM a [i]).bind fun j=>
 e j)
 else
 (e a))
 else
 (d a b)
def zba (x0:Vm.Repo)(b:List (List Str)->Int->Option ((List (List Str))×Bool)):Nat->List (List Str)->Int->Option ((List (List Str))×Bool)
 |0,_,_=>none
 |m+1,c,a=>
 bif decide (a< (x0.Commits.length:Int)) then
 ((gi x0.Commits a).bind fun d=>
 jn (fun(e:List (List Str)) (g:Int)=>
 zba x0 b m e (w64 (a+1))) fun f=>
 zaU d f (((d.Tree.length:Int)-0).toNat+1) c 0)
 else
 (b c a)
def zbn (x0:Vm.Repo):Option ((List (List Str))×Bool):=
 (Vm.zeC x0).bind fun b=>
 bif(!b) then
 (some (([]:List (List Str)),false))
 else
 (jn (fun(a:List (List Str)) (d:Int)=>
 bif decide (12< (a.length:Int)) then
 (some (([]:List (List Str)),false))
 else
 (some (a,true))) fun c=>
 zba x0 c (((x0.Commits.length:Int)-0).toNat+1) ([]:List (List Str)) 0)
def zaI (b:List (List Str))(u64:Vm.File)(c:Bool->Int->Option ((List (List Str))×Bool)):Nat->Bool->Int->Option ((List (List Str))×Bool)
 |0,_,_=>none
 |m+1,d,a=>
 bif decide (a< (b.length:Int)) then
 (bif d then
 (zaI b u64 c m true (w64 (a+1)))
 else
 ((gi b a).bind fun e=>
 (Vm.zcP e u64.Text).bind fun f=>
 zaI b u64 c m f (w64 (a+1))))
 else
 (c d a)
def zaV (x0:Vm.Repo)(c:Int)(d:List (List Str)->Int->Option ((List (List Str))×Bool)):Nat->List (List Str)->Int->Option ((List (List Str))×Bool)
 |0,_,_=>none
 |m+1,a,b=>
 (gi x0.Commits c).bind fun f=>
 bif decide (b< (f.Tree.length:Int)) then
 (jn (fun(g:List (List Str))=>
 zaV x0 c d m g (w64 (b+1))) fun e=>
 (gi x0.Commits c).bind fun h=>
 (gi h.Tree b).bind fun u64=>
 jn (fun(i:Bool) (n:Int)=>
 bif(!i) then
 ((apM ([]:List Str) u64.Text).bind fun j=>
 (apM a [j]).bind fun k=>
 e k)
 else
 (e a)) fun l=>
 zaI a u64 l (((a.length:Int)-0).toNat+1) false 0)
 else
 (d a b)
def zbb (x0:Vm.Repo)(b:List (List Str)->Int->Option ((List (List Str))×Bool)):Nat->List (List Str)->Int->Option ((List (List Str))×Bool)
 |0,_,_=>none
 |m+1,c,a=>
 bif decide (a< (x0.Commits.length:Int)) then
 (jn (fun(d:List (List Str)) (f:Int)=>
 zbb x0 b m d (w64 (a+1))) fun e=>
 zaV x0 a e (100) c 0)
 else
 (b c a)
def zbo (x0:Vm.Repo):Option ((List (List Str))×Bool):=
 (Vm.zbx x0).bind fun b=>
 bif(!b) then
 (some (([]:List (List Str)),false))
 else
 (jn (fun(a:List (List Str)) (d:Int)=>
 bif decide (12< (a.length:Int)) then
 (some (([]:List (List Str)),false))
 else
 (some (a,true))) fun c=>
 zbb x0 c (((x0.Commits.length:Int)-0).toNat+1) ([]:List (List Str)) 0)
def zb5 (x0:List Str)(x1:List Str)(c:Int->Option (Int)):Nat->Int->Option (Int)
 |0,_=>none
 |m+1,a=>
 jn (fun(d:Bool)=>
 bif d then
 (zb5 x0 x1 c m (w64 (a+1)))
 else
 (c a)) fun b=>
 bif decide (a< (x0.length:Int)) then
 (bif decide (a< (x1.length:Int)) then
 ((gi x0 a).bind fun e=>
 (gi x1 a).bind fun f=>
 b (e==f))
 else
 (b false))
 else
 (b false)
def zeD (x0:List Str)(x1:List Str):Option (Int):=
 jn (fun(a:Int)=>
 some a) fun b=>
 zb5 x0 x1 b (x0.length+1) 0
def zbL (x0:List Str)(c:List Str)(d:Int->Int->Int->Option ((List Vm.Delta))):Nat->Int->Int->Int->Option ((List Vm.Delta))
 |0,_,_,_=>none
 |m+1,e,b,a=>
 bif decide (a< (x0.length:Int)) then
 (jn (fun(h:Int) (i:Int)=>
 zbL x0 c d m h i (w64 (a+1))) fun f=>
 (slM x0 a (x0.length:Int)).bind fun j=>
 (Vm.zeD j c).bind fun g=>
 bif decide (b< (g:Int)) then
 (f a g)
 else
 (f e b))
 else
 (d e b a)
def zdx (x0:List Str)(f:List Str->List Vm.Delta->Option ((List Vm.Delta))):Nat->List Str->List Vm.Delta->Option ((List Vm.Delta))
 |0,_,_=>none
 |m+1,b,a=>
 bif decide (0< (b.length:Int)) then
 (jn (fun(h:Int) (c:Int) (u:Int)=>
 jn (fun(i:List Vm.Delta)=>
 (slM b (maxI 1 c) (b.length:Int)).bind fun j=>
 zdx x0 f m j i) fun d=>
 bif decide (0< (c:Int)) then
 ((apM a ([Vm.Delta.mk h c ([]:List Str)])).bind fun k=>
 d k)
 else
 (jn (fun(l:Bool)=>
 bif l then
 ((gi a (w64 ((a.length:Int)-1))).bind fun e=>
 (gi b 0).bind fun n=>
 (apM e.Lines [n]).bind fun o=>
 (gi a (w64 ((a.length:Int)-1))).bind fun v=>
 (siM a (w64 ((a.length:Int)-1)) (Vm.Delta.mk e.From e.Many o)).bind fun p=>
 d p)
 else
 ((gi b 0).bind fun q=>
 (apM a ([Vm.Delta.mk 0 0 ([q]:List Str)])).bind fun r=>
 d r)) fun g=>
 bif decide ((0:Int)<=(w64 ((a.length:Int)-1):Int)) then
 ((gi a (w64 ((a.length:Int)-1))).bind fun s=>
 g (decide (0< (s.Lines.length:Int))))
 else
 (g false))) fun t=>
 zbL x0 b t (((x0.length:Int)-0).toNat+1) 0 0 0)
 else
 (f b a)
def zeO (x0:List Str)(x1:List Str):Option ((List Vm.Delta)):=
 jn (fun(c:List Str) (a:List Vm.Delta)=>
 some a) fun b=>
 zdx x0 b (((x1.length:Int)-0).toNat+1) x1 ([]:List Delta)
def zb6 (x0:List Vm.Delta)(b:Int->Int->Option (Int)):Nat->Int->Int->Option (Int)
 |0,_,_=>none
 |m+1,c,a=>
 bif decide (a< (x0.length:Int)) then
 ((gi x0 a).bind fun d=>
 zb6 x0 b m (w64 (c+(d.Lines.length:Int))) (w64 (a+1)))
 else
 (b c a)
def zec (x0:List Vm.Delta):Option (Int):=
 jn (fun(a:Int) (c:Int)=>
 some a) fun b=>
 zb6 x0 b (((x0.length:Int)-0).toNat+1) (x0.length:Int) 0
def zbp (c:List Int)(h:List Str)(d:List (List Str))(i:Int->Int->Int->List Vm.Delta->Option ((List Vm.Packed))):Nat->Int->Int->Int->List Vm.Delta->Option ((List Vm.Packed))
 |0,_,_,_,_=>none
 |m+1,e,a,f,b=>
 bif decide (a< (d.length:Int)) then
 (jn (fun(k:Int) (l:Int) (n:List Vm.Delta)=>
 zbp c h d i m k (w64 (a+1)) l n) fun g=>
 (gi d a).bind fun o=>
 (gi c a).bind fun p=>
 bif decide (3<=(p:Int)) then
 (g e f b)
 else
 ((Vm.zeO o h).bind fun j=>
 (Vm.zec j).bind fun q=>
 (Vm.zec b).bind fun r=>
 bif decide (q< (r:Int)) then
 ((gi c a).bind fun s=>
 g (w64 (s+1)) a j)
 else
 (g e f b)))
 else
 (i e a f b)
def zaQ (x0:List (List Str))(c:List Vm.Packed->List Int->Int->Option ((List Vm.Packed))):Nat->List Vm.Packed->List Int->Int->Option ((List Vm.Packed))
 |0,_,_,_=>none
 |m+1,d,b,a=>
 bif decide (a< (x0.length:Int)) then
 ((gi x0 a).bind fun e=>
 (Vm.zeO ([]:List Str) e).bind fun g=>
 (slM x0 0 a).bind fun f=>
 jn (fun(h:Int) (o:Int) (i:Int) (j:List Vm.Delta)=>
 (apM d [Vm.Packed.mk i j]).bind fun k=>
 (apM b [h]).bind fun l=>
 zaQ x0 c m k l (w64 (a+1))) fun n=>
 zbp b e f n (((f.length:Int)-0).toNat+1) 1 0 (-1) g)
 else
 (c d b a)
def zb7 (x0:List (List Str))(b:List Vm.Packed->Int->Option ((List Vm.Packed))):Nat->List Vm.Packed->Int->Option ((List Vm.Packed))
 |0,_,_=>none
 |m+1,c,a=>
 bif decide (a< (x0.length:Int)) then
 ((gi x0 a).bind fun d=>
 (Vm.zbv d).bind fun e=>
 bif(!e) then
 (some ([]:List Packed))
 else
 (zb7 x0 b m c (w64 (a+1))))
 else
 (b c a)
def zeE (x0:List (List Str)):Option ((List Vm.Packed)):=
 bif decide (12< (x0.length:Int)) then
 (some ([]:List Packed))
 else
 (jn (fun(d:List Vm.Packed) (e:Int)=>
 jn (fun(a:List Vm.Packed) (f:List Int) (g:Int)=>
 some a) fun b=>
 zaQ x0 b (((x0.length:Int)-0).toNat+1) ([]:List Packed) ([]:List Int) 0) fun c=>
 zb7 x0 c (((x0.length:Int)-0).toNat+1) ([]:List Packed) 0)
def zbF (x0:List Vm.Delta)(e:Bool->Int->Option (Bool)):Nat->Bool->Int->Option (Bool)
 |0,_,_=>none
 |m+1,c,b=>
 bif decide (b< (x0.length:Int)) then
 (jn (fun(h:Bool)=>
 zbF x0 e m h (w64 (b+1))) fun f=>
 (gi x0 b).bind fun a=>
 bif decide (0< (a.Lines.length:Int)) then
 (jn (fun(i:Bool)=>
 bif i then
 (some false)
 else
 (f c)) fun d=>
 bif(a.From !=0) then
 (d true)
 else
 (bif(a.Many !=0) then
 (d true)
 else
 ((Vm.zbv a.Lines).bind fun j=>
 d (!j))))
 else
 (jn (fun(k:Bool)=>
 bif k then
 (some false)
 else
 (f c)) fun g=>
 (Vm.zcc a.From 0 10).bind fun l=>
 bif(!l) then
 (g true)
 else
 ((Vm.zcc a.Many 1 (w64 (10-a.From))).bind fun n=>
 g (!n))))
 else
 (e c b)
def zd3 (x0:List Vm.Delta):Option (Bool):=
 bif decide (10< (x0.length:Int)) then
 (some false)
 else
 (jn (fun(b:Bool) (c:Int)=>
 some true) fun a=>
 zbF x0 a (((x0.length:Int)-0).toNat+1) false 0)
def zbG (x0:List Str)(x1:List Vm.Delta)(f:List Str->Bool->List Str->Int->Option ((List Str)×Bool)):Nat->List Str->Bool->List Str->Int->Option ((List Str)×Bool)
 |0,_,_,_,_=>none
 |m+1,c,d,e,b=>
 bif decide (b< (x1.length:Int)) then
 (jn (fun(h:List Str) (i:Bool) (j:List Str)=>
 zbG x0 x1 f m h i j (w64 (b+1))) fun g=>
 (gi x1 b).bind fun a=>
 bif decide (0< (a.Lines.length:Int)) then
 ((apM e a.Lines).bind fun k=>
 g c d k)
 else
 (bif decide ((x0.length:Int)< (w64 (a.From+a.Many):Int)) then
 (some (([]:List Str),false))
 else
 ((slM x0 a.From (w64 (a.From+a.Many))).bind fun l=>
 (apM e l).bind fun n=>
 g c d n)))
 else
 (f c d e b)
def zcm (x0:List Str)(x1:List Vm.Delta):Option ((List Str)×Bool):=
 jn (fun(c:Bool)=>
 bif c then
 (some (([]:List Str),false))
 else
 (jn (fun(h:List Str) (i:Bool) (a:List Str) (j:Int)=>
 (Vm.zbv a).bind fun d=>
 bif(!d) then
 (some (([]:List Str),false))
 else
 (some (a,true))) fun e=>
 zbG x0 x1 e (((x1.length:Int)-0).toNat+1) ([]:List Str) false ([]:List Str) 0)) fun b=>
 (Vm.zbv x0).bind fun f=>
 bif(!f) then
 (b true)
 else
 ((Vm.zd3 x1).bind fun g=>
 b (!g))
def zb8 (x0:List Vm.Packed)(e:List (List Str)->Bool->List (List Str)->List Int->Int->Option ((List (List Str))×Bool)):Nat->List (List Str)->Bool->List (List Str)->List Int->Int->Option ((List (List Str))×Bool)
 |0,_,_,_,_,_=>none
 |m+1,f,g,c,d,a=>
 bif decide (a< (x0.length:Int)) then
 ((gi x0 a).bind fun b=>
 (Vm.zcc b.Base (-1) (w64 (a-1))).bind fun l=>
 bif(!l) then
 (some (([]:List (List Str)),false))
 else
 (jn (fun(n:List Str) (h:Int)=>
 (Vm.zcm n b.Delta).bind fun i=>
 jn (fun(o:Bool)=>
 bif o then
 (some (([]:List (List Str)),false))
 else
 ((apM c [i.1]).bind fun p=>
 (apM d [h]).bind fun q=>
 zb8 x0 e m f g p q (w64 (a+1)))) fun j=>
 bif(!i.2) then
 (j true)
 else
 (j (decide (3< (h:Int))))) fun k=>
 bif decide (0<=(b.Base:Int)) then
 ((gi c b.Base).bind fun r=>
 (gi d b.Base).bind fun s=>
 k r (w64 (s+1)))
 else
 (k ([]:List Str) 1)))
 else
 (e f g c d a)
def zeF (x0:List Vm.Packed):Option ((List (List Str))×Bool):=
 bif decide (12< (x0.length:Int)) then
 (some (([]:List (List Str)),false))
 else
 (jn (fun(c:List (List Str)) (d:Bool) (a:List (List Str)) (e:List Int) (f:Int)=>
 some (a,true)) fun b=>
 zb8 x0 b (((x0.length:Int)-0).toNat+1) ([]:List (List Str)) false ([]:List (List Str)) ([]:List Int) 0)
def zd4 (x0:List Vm.Packed)(x1:Int):Option ((List Str)×Bool):=
 (Vm.zeF x0).bind fun a=>
 jn (fun(c:Bool)=>
 bif c then
 (some (([]:List Str),false))
 else
 ((gi a.1 x1).bind fun d=>
 some (d,true))) fun b=>
 bif(!a.2) then
 (b true)
 else
 ((Vm.zcc x1 0 (w64 ((x0.length:Int)-1))).bind fun e=>
 b (!e))
def zbH (x0:List Str)(x1:List Str)(b:Bool->Int->Option (Bool)):Nat->Bool->Int->Option (Bool)
 |0,_,_=>none
 |m+1,c,a=>
 bif decide (a< (x0.length:Int)) then
 ((gi x0 a).bind fun d=>
 (gi x1 a).bind fun e=>
 bif(d !=e) then
 (some false)
 else
 (zbH x0 x1 b m c (w64 (a+1))))
 else
 (b c a)
def zcK (x0:List Str)(x1:List Str):Option (Bool):=
 bif((x0.length:Int) !=(x1.length:Int)) then
 (some false)
 else
 (jn (fun(b:Bool) (c:Int)=>
 some true) fun a=>
 zbH x0 x1 a (((x0.length:Int)-0).toNat+1) false 0)
def zaY (b:(List (List Str))×Bool)(c:Int)(d:Bool->Int->Option (Bool)):Nat->Bool->Int->Option (Bool)
 |0,_,_=>none
 |m+1,e,a=>
 bif decide (a< (c:Int)) then
 ((gi b.1 a).bind fun f=>
 (gi b.1 c).bind fun g=>
 (Vm.zcK f g).bind fun h=>
 bif h then
 (some false)
 else
 (zaY b c d m e (w64 (a+1))))
 else
 (d e a)
def zaB (c:Vm.Repo)(b:(List (List Str))×Bool)(d:Int)(e:Int)(f:Bool->Int->Option (Bool)):Nat->Bool->Int->Option (Bool)
 |0,_,_=>none
 |m+1,g,a=>
 bif decide (a< (b.1.length:Int)) then
 (bif g then
 (zaB c b d e f m true (w64 (a+1)))
 else
 ((gi b.1 a).bind fun h=>
 (gi c.Commits d).bind fun i=>
 (gi i.Tree e).bind fun j=>
 (Vm.zcK h j.Text).bind fun k=>
 zaB c b d e f m k (w64 (a+1))))
 else
 (f g a)
def zaZ (b:Vm.Repo)(c:(List (List Str))×Bool)(d:Int)(e:Bool->Int->Option (Bool)):Nat->Bool->Int->Option (Bool)
 |0,_,_=>none
 |m+1,f,a=>
 (gi b.Commits d).bind fun g=>
 bif decide (a< (g.Tree.length:Int)) then
 (jn (fun(h:Bool) (j:Int)=>
 bif(!h) then
 (some false)
 else
 (zaZ b c d e m f (w64 (a+1)))) fun i=>
 zaB b c d a i (((c.1.length:Int)-0).toNat+1) false 0)
 else
 (e f a)
def zak (b:Vm.Repo)(c:(List (List Str))×Bool)(d:Bool->Int->Option (Bool)):Nat->Bool->Int->Option (Bool)
 |0,_,_=>none
 |m+1,e,a=>
 bif decide (a< (b.Commits.length:Int)) then
 (jn (fun(f:Bool) (h:Int)=>
 zak b c d m f (w64 (a+1))) fun g=>
 zaZ b c a g (100) e 0)
 else
 (d e a)
def zav (b:(List (List Str))×Bool)(d:(List (List Str))×Bool)(e:(List Vm.Packed))(f:Bool->Int->Option (Bool)):Nat->Bool->Int->Option (Bool)
 |0,_,_=>none
 |m+1,g,a=>
 bif decide (a< (b.1.length:Int)) then
 ((Vm.zd4 e a).bind fun h=>
 jn (fun(i:Bool)=>
 bif i then
 (some false)
 else
 (jn (fun(j:Bool) (r:Int)=>
 zav b d e f m j (w64 (a+1))) fun k=>
 zaY b a k ((a-0).toNat+1) g 0)) fun c=>
 (gi b.1 a).bind fun l=>
 (gi d.1 a).bind fun n=>
 (Vm.zcK l n).bind fun o=>
 bif(!o) then
 (c true)
 else
 (bif(!h.2) then
 (c true)
 else
 ((gi b.1 a).bind fun p=>
 (Vm.zcK h.1 p).bind fun q=>
 c (!q))))
 else
 (f g a)
def zcR (x0:List Byte):Option (Bool):=
 bif decide (1048576< (x0.length:Int)) then
 (some true)
 else
 ((Vm.zbw x0).bind fun b=>
 (Vm.zbn (Vm.Repo.mk b.Commits b.Heads)).bind fun a=>
 (Vm.zbo (Vm.Repo.mk b.Commits b.Heads)).bind fun c=>
 jn (fun(f:Bool)=>
 bif f then
 (jn (fun(g:Bool)=>
 some g) fun e=>
 bif(a.2==c.2) then
 (e ((a.1.length:Int)==(c.1.length:Int)))
 else
 (e false))
 else
 ((Vm.zeE a.1).bind fun h=>
 jn (fun(i:Bool) (l:Int)=>
 jn (fun(m:Bool) (n:Int)=>
 some true) fun j=>
 zak b a j (((b.Commits.length:Int)-0).toNat+1) i 0) fun k=>
 zav a c h k (((a.1.length:Int)-0).toNat+1) false 0)) fun d=>
 bif(a.2 !=c.2) then
 (d true)
 else
 (bif((a.1.length:Int) !=(c.1.length:Int)) then
 (d true)
 else
 (d (!a.2))))
end Go.Vm
