/- Models of the functions: plain Lean, printed by a program of ours. Conditions: none. -/
import Derived.Test.YtjokjcdckcpijaaDoorBLw
import Derived.Lib.SplitLaws
import Derived.Lib.IndexMore
import Derived.Lib.Join
import Derived.Lib.ItoaNum
namespace Go.Vm
open Go Go.Sx
set_option linter.unusedVariables false
set_option linter.unusedSimpArgs false
def zan (x0:List Str)(c:Int->Int->Int->Option (Int)):Nat->Int->Int->Int->Option (Int)
 |0,_,_,_=>none
 |m+1,b,d,a=>
 bif decide (a< (x0.length:Int)) then
 ((gi x0 a).bind fun e=>
 bif decide ((w64 (b-(e.length:Int)):Int)< (0:Int)) then
 (some (-1))
 else
 (zan x0 c m (w64 (b-(e.length:Int))) d (w64 (a+1))))
 else
 (c b d a)
def zaQ (x0:List Str)(x1:Int):Option (Int):=
 bif decide ((w64 (x1-(x0.length:Int)):Int)< (0:Int)) then
 (some (-1))
 else
 (jn (fun(a:Int) (c:Int) (d:Int)=>
 some a) fun b=>
 zan x0 b (((x0.length:Int)-0).toNat+1) (w64 (x1-(x0.length:Int))) 0 0)
def zc0 (x0:Vm.Op)(x1:Int):Option (Int):=
 bif decide ((w64 (x1-(x0.Branch.length:Int)):Int)< (0:Int)) then
 (some (-1))
 else
 (bif decide ((w64 ((w64 (x1-(x0.Branch.length:Int)))-(x0.Who.length:Int)):Int)< (0:Int)) then
 (some (-1))
 else
 (bif decide ((w64 ((w64 ((w64 (x1-(x0.Branch.length:Int)))-(x0.Who.length:Int)))-(x0.Path.length:Int)):Int)< (0:Int)) then
 (some (-1))
 else
 (bif decide ((w64 ((w64 ((w64 ((w64 (x1-(x0.Branch.length:Int)))-(x0.Who.length:Int)))-(x0.Path.length:Int)))-(x0.To.length:Int)):Int)< (0:Int)) then
 (some (-1))
 else
 ((Vm.zaQ x0.Text (w64 ((w64 ((w64 ((w64 (x1-(x0.Branch.length:Int)))-(x0.Who.length:Int)))-(x0.Path.length:Int)))-(x0.To.length:Int)))).bind fun a=>
 bif decide (a< (0:Int)) then
 (some (-1))
 else
 (some a)))))
def zao (x0:List Str)(c:Int->List Str->Option ((List Str))):Nat->Int->List Str->Option ((List Str))
 |0,_,_=>none
 |m+1,a,b=>
 bif decide (a< (x0.length:Int)) then
 ((gi x0 a).bind fun d=>
 (gi b a).bind fun f=>
 (siM b a d).bind fun e=>
 zao x0 c m (w64 (a+1)) e)
 else
 (c a b)
def zaR (x0:List Str):Option ((List Str)):=
 (mkM (x0.length:Int) (([]:Str):Str)).bind fun a=>
 jn (fun(d:Int) (b:List Str)=>
 some b) fun c=>
 zao x0 c (((x0.length:Int)-0).toNat+1) 0 a
def zcg (x0:Vm.Op):Option (Vm.Op):=
 (Vm.zaR x0.Text).bind fun a=>
 some (Vm.Op.mk x0.Kind x0.Branch x0.Who x0.Path x0.To x0.At a)
def zb5 (x0:Int)(x1:Int)(x2:Int):Option (Bool):=
 jn (fun(b:Bool)=>
 some b) fun a=>
 bif decide (x1<=(x0:Int)) then
 (a (decide (x0<=(x2:Int))))
 else
 (a false)
def zay (x0:Str)(c:Bool->Int->Option (Bool)):Nat->Bool->Int->Option (Bool)
 |0,_,_=>none
 |m+1,d,a=>
 bif decide (a< (x0.length:Int)) then
 (jn (fun(e:Bool)=>
 bif e then
 (some false)
 else
 (zay x0 c m d (w64 (a+1)))) fun b=>
 (chM x0 a).bind fun f=>
 bif decide (((UInt8.toNat f:Int):Int)< (97:Int)) then
 ((chM x0 a).bind fun g=>
 bif decide (((UInt8.toNat g:Int):Int)< (48:Int)) then
 (b true)
 else
 ((chM x0 a).bind fun h=>
 b (decide ((57:Int)< ((UInt8.toNat h:Int):Int)))))
 else
 ((chM x0 a).bind fun i=>
 bif decide ((122:Int)< ((UInt8.toNat i:Int):Int)) then
 ((chM x0 a).bind fun j=>
 bif decide (((UInt8.toNat j:Int):Int)< (48:Int)) then
 (b true)
 else
 ((chM x0 a).bind fun k=>
 b (decide ((57:Int)< ((UInt8.toNat k:Int):Int)))))
 else
 (b false)))
 else
 (c d a)
def zaY (x0:Str):Option (Bool):=
 jn (fun(c:Bool) (d:Int)=>
 (Vm.zb5 (x0.length:Int) 1 6).bind fun a=>
 some a) fun b=>
 zay x0 b (((x0.length:Int)-0).toNat+1) false 0
def zaF (x0:Vm.Op)(x1:Bool)(x2:Bool)(x3:Bool)(x4:Bool):Option (Bool):=
 jn (fun(b:Bool)=>
 some b) fun a=>
 bif x1 then
 (bif x2 then
 (bif x3 then
 (bif x4 then
 (a true)
 else
 (a ((x0.Text.length:Int)==0)))
 else
 (bif(x0.At==0) then
 (bif x4 then
 (a true)
 else
 (a ((x0.Text.length:Int)==0)))
 else
 (a false)))
 else
 (bif(x0.To==([]:Str)) then
 (bif x3 then
 (bif x4 then
 (a true)
 else
 (a ((x0.Text.length:Int)==0)))
 else
 (bif(x0.At==0) then
 (bif x4 then
 (a true)
 else
 (a ((x0.Text.length:Int)==0)))
 else
 (a false)))
 else
 (a false)))
 else
 (bif(x0.Path==([]:Str)) then
 (bif x2 then
 (bif x3 then
 (bif x4 then
 (a true)
 else
 (a ((x0.Text.length:Int)==0)))
 else
 (bif(x0.At==0) then
 (bif x4 then
 (a true)
 else
 (a ((x0.Text.length:Int)==0)))
 else
 (a false)))
 else
 (bif(x0.To==([]:Str)) then
 (bif x3 then
 (bif x4 then
 (a true)
 else
 (a ((x0.Text.length:Int)==0)))
 else
 (bif(x0.At==0) then
 (bif x4 then
 (a true)
 else
 (a ((x0.Text.length:Int)==0)))
 else
 (a false)))
 else
 (a false)))
 else
 (a false))
def za8 (x0:Str)(x1:zcM)(x2:Int)(d:List Str->Int->Int->Option ((List Str))):Nat->List Str->Int->Int->Option ((List Str))
 |0,_,_,_=>none
 |m+1,b,c,a=>
 jn (fun(g:Bool)=>
 bif g then
 (jn (fun(h:List Str) (i:Int)=>
 za8 x0 x1 x2 d m h i (w64 (a+1))) fun e=>
 (chM x0 a).bind fun j=>
 bif(((UInt8.toNat j:Int):Int)==((UInt8.toNat x1:Int):Int)) then
 ((slM x0 c a).bind fun k=>
 (apM b [k]).bind fun l=>
 e l (w64 (a+1)))
 else
 (e b c))
 else
 (d b c a)) fun f=>
 bif decide (a< (x0.length:Int)) then
 (f (decide (b.length< (x2:Int))))
 else
 (f false)
def zbR (x0:Str)(x1:zcM)(x2:Int):Option ((List Str)):=
 jn (fun(a:List Str) (b:Int) (f:Int)=>
 (slM x0 b (x0.length:Int)).bind fun c=>
 (apM a [c]).bind fun d=>
 some d) fun e=>
 za8 x0 x1 x2 e (x0.length+1) ([]:List Str) 0 0
def zaz (b:(List Str))(c:Bool->Int->Option (Bool)):Nat->Bool->Int->Option (Bool)
 |0,_,_=>none
 |m+1,d,a=>
 bif decide (a< (b.length:Int)) then
 ((gi b a).bind fun e=>
 (Vm.zaY e).bind fun f=>
 bif(!f) then
 (some false)
 else
 (zaz b c m d (w64 (a+1))))
 else
 (c d a)
def zaZ (x0:Str):Option (Bool):=
 (Vm.zbR x0 (UInt8.ofNatLT 47 (by decide):zcM) 3).bind fun a=>
 jn (fun(c:Bool) (d:Int)=>
 some (decide (a.length<=(3:Int)))) fun b=>
 zaz a b (((a.length:Int)-0).toNat+1) false 0
def zaA (x0:Str)(b:Bool->Int->Option (Bool)):Nat->Bool->Int->Option (Bool)
 |0,_,_=>none
 |m+1,c,a=>
 bif decide (a< (x0.length:Int)) then
 (jn (fun(e:Bool)=>
 bif e then
 (some false)
 else
 (zaA x0 b m c (w64 (a+1)))) fun d=>
 (chM x0 a).bind fun f=>
 bif decide (((UInt8.toNat f:Int):Int)< (32:Int)) then
 (d true)
 else
 ((chM x0 a).bind fun g=>
 d (decide ((126:Int)< ((UInt8.toNat g:Int):Int)))))
 else
 (b c a)
def zbw (x0:Str):Option (Bool):=
 jn (fun(b:Bool) (c:Int)=>
 some (decide (x0.length<=(12:Int)))) fun a=>
 zaA x0 a (((x0.length:Int)-0).toNat+1) false 0
def zaS (x0:List Str)(b:Bool->Int->Option (Bool)):Nat->Bool->Int->Option (Bool)
 |0,_,_=>none
 |m+1,c,a=>
 bif decide (a< (x0.length:Int)) then
 ((gi x0 a).bind fun d=>
 (Vm.zbw d).bind fun e=>
 bif(!e) then
 (some false)
 else
 (zaS x0 b m c (w64 (a+1))))
 else
 (b c a)
def zch (x0:List Str):Option (Bool):=
 jn (fun(b:Bool) (c:Int)=>
 some (decide (x0.length<=(10:Int)))) fun a=>
 zaS x0 a (((x0.length:Int)-0).toNat+1) false 0
def zat (x0:List Str)(b:Int)(c:Bool->Int->Option (Bool)):Nat->Bool->Int->Option (Bool)
 |0,_,_=>none
 |m+1,d,a=>
 (gi x0 b).bind fun e=>
 bif decide (a< (e.length:Int)) then
 ((gi x0 b).bind fun f=>
 (chM f a).bind fun g=>
 bif(((UInt8.toNat g:Int):Int)==(124:Int)) then
 (some false)
 else
 (zat x0 b c m d (w64 (a+1))))
 else
 (c d a)
def zaf (x0:List Str)(b:Bool->Int->Option (Bool)):Nat->Bool->Int->Option (Bool)
 |0,_,_=>none
 |m+1,c,a=>
 bif decide (a< (x0.length:Int)) then
 (jn (fun(d:Bool) (f:Int)=>
 zaf x0 b m d (w64 (a+1))) fun e=>
 zat x0 a e (((gi x0 a).getD []).length+1) c 0)
 else
 (b c a)
def za9 (x0:List Str):Option (Bool):=
 jn (fun(c:Bool) (d:Int)=>
 (Vm.zch x0).bind fun a=>
 some a) fun b=>
 zaf x0 b (((x0.length:Int)-0).toNat+1) false 0
def zbD (x0:Vm.Op):Option (Bool):=
 jn (fun(i:Bool)=>
 bif i then
 (some false)
 else
 (bif(x0.Kind==1) then
 (jn (fun(j:Bool)=>
 some j) fun a=>
 (Vm.zaF x0 true false false true).bind fun k=>
 bif k then
 ((Vm.zaZ x0.Path).bind fun l=>
 bif l then
 ((Vm.za9 x0.Text).bind fun m=>
 a m)
 else
 (a false))
 else
 (a false))
 else
 (bif(x0.Kind==2) then
 (jn (fun(n:Bool)=>
 some n) fun c=>
 (Vm.zaF x0 true false false false).bind fun o=>
 bif o then
 ((Vm.zaZ x0.Path).bind fun p=>
 c p)
 else
 (c false))
 else
 (bif(x0.Kind==3) then
 (jn (fun(q:Bool)=>
 some q) fun b=>
 (Vm.zaF x0 true true false false).bind fun r=>
 bif r then
 ((Vm.zaZ x0.Path).bind fun s=>
 bif s then
 ((Vm.zaZ x0.To).bind fun t=>
 b t)
 else
 (b false))
 else
 (b false))
 else
 (jn (fun(u:Bool)=>
 bif u then
 (jn (fun(v:Bool)=>
 some v) fun d=>
 (Vm.zaF x0 false true false false).bind fun w=>
 bif w then
 ((Vm.zaY x0.To).bind fun x=>
 d x)
 else
 (d false))
 else
 (jn (fun(y:Bool)=>
 bif y then
 (jn (fun(z:Bool)=>
 some z) fun e=>
 (Vm.zaF x0 false false true false).bind fun A=>
 bif A then
 ((Vm.zb5 x0.At 0 15).bind fun B=>
 e B)
 else
 (e false))
 else
 (some false)) fun f=>
 bif(x0.Kind==6) then
 (f (x0.Kind==6))
 else
 (f (x0.Kind==7)))) fun g=>
 bif(x0.Kind==4) then
 (g (x0.Kind==4))
 else
 (g (x0.Kind==5))))))) fun h=>
 (Vm.zaY x0.Branch).bind fun C=>
 bif(!C) then
 (h true)
 else
 ((Vm.zaY x0.Who).bind fun D=>
 h (!D))
def zbE:Option ((List Str)):=
 some ([([]:Str),([115,101,116]:Str),([100,114,111,112]:Str),([109,111,118,101]:Str),([102,111,114,107]:Str),([117,110,105,116,101]:Str),([112,105,99,107]:Str),([98,97,99,107]:Str)]:List Str)
def spec_l1Dec_r:Nat->Int->Option (Str)
 |0,_=>none
 |m+1,x0=>
 bif decide ((x0:Int)< ((-9223372036854775807):Int)) then
 (some ([45,57,50,50,51,51,55,50,48,51,54,56,53,52,55,55,53,56,48,56]:Str))
 else
 (bif decide (x0< (0:Int)) then
 ((Vm.spec_l1Dec_r m (w64 (0-x0))).bind fun a=>
 (saM ([45]:Str) a).bind fun b=>
 some b)
 else
 (bif decide (x0< (10:Int)) then
 (some (([(by8 (w64 (48+x0)))]:List zcM):Str))
 else
 ((Vm.spec_l1Dec_r m (w64 (Int.tdiv x0 10))).bind fun c=>
 (saM c (([(by8 (w64 (48+(Int.tmod x0 10))))]:List zcM):Str)).bind fun d=>
 some d)))
def zcx (x0:Int):Option (Str):=
 spec_l1Dec_r (x0.natAbs+2) x0
def zau (x0:Vm.Op)(b:Str->Option (Str)):Nat->Str->Int->Option (Str)
 |0,_,_=>none
 |m+1,c,a=>
 bif decide (a< (x0.Text.length:Int)) then
 ((saM c ([124]:Str)).bind fun d=>
 (gi x0.Text a).bind fun e=>
 (saM d e).bind fun f=>
 zau x0 b m f (w64 (a+1)))
 else
 (b c)
def zbp (x0:Vm.Op):Option (Str):=
 (Vm.zbE).bind fun d=>
 (gi d x0.Kind).bind fun e=>
 (saM e ([32]:Str)).bind fun f=>
 (saM f x0.Branch).bind fun g=>
 (saM g ([32]:Str)).bind fun h=>
 (saM h x0.Who).bind fun a=>
 jn (fun(i:Str)=>
 some i) fun b=>
 bif(x0.Kind==1) then
 ((saM a ([32]:Str)).bind fun j=>
 (saM j x0.Path).bind fun k=>
 (saM k ([32]:Str)).bind fun l=>
 zau x0 b (((x0.Text.length:Int)-0).toNat+1) l 0)
 else
 (bif(x0.Kind==2) then
 ((saM a ([32]:Str)).bind fun m=>
 (saM m x0.Path).bind fun n=>
 b n)
 else
 (bif(x0.Kind==3) then
 ((saM a ([32]:Str)).bind fun o=>
 (saM o x0.Path).bind fun p=>
 (saM p ([32]:Str)).bind fun q=>
 (saM q x0.To).bind fun r=>
 b r)
 else
 (jn (fun(s:Bool)=>
 bif s then
 ((saM a ([32]:Str)).bind fun t=>
 (saM t x0.To).bind fun u=>
 b u)
 else
 ((saM a ([32]:Str)).bind fun v=>
 (Vm.zcx x0.At).bind fun w=>
 (saM v w).bind fun x=>
 b x)) fun c=>
 bif(x0.Kind==4) then
 (c (x0.Kind==4))
 else
 (c (x0.Kind==5)))))
def zbS (x0:Vm.Op):Option (Str):=
 (Vm.zbD x0).bind fun a=>
 bif(!a) then
 (some ([]:Str))
 else
 ((Vm.zbp x0).bind fun b=>
 some b)
def zbq (x0:Int)(x1:Int)(x2:Int):Option (Bool):=
 jn (fun(b:Bool)=>
 some b) fun a=>
 bif decide (x1<=(x0:Int)) then
 (a (decide (x0<=(x2:Int))))
 else
 (a false)
def zba (x0:zcM):Option (Bool):=
 jn (fun(b:Bool)=>
 some b) fun a=>
 bif decide ((97:Int)<=((UInt8.toNat x0:Int):Int)) then
 (bif decide (((UInt8.toNat x0:Int):Int)<=(122:Int)) then
 (a true)
 else
 (bif decide ((48:Int)<=((UInt8.toNat x0:Int):Int)) then
 (a (decide (((UInt8.toNat x0:Int):Int)<=(57:Int))))
 else
 (a false)))
 else
 (bif decide ((48:Int)<=((UInt8.toNat x0:Int):Int)) then
 (a (decide (((UInt8.toNat x0:Int):Int)<=(57:Int))))
 else
 (a false))
def zaB (x0:Str)(b:Bool->Int->Option (Bool)):Nat->Bool->Int->Option (Bool)
 |0,_,_=>none
 |m+1,c,a=>
 bif decide (a< (x0.length:Int)) then
 ((chM x0 a).bind fun d=>
 (Vm.zba d).bind fun e=>
 bif(!e) then
 (some false)
 else
 (zaB x0 b m c (w64 (a+1))))
 else
 (b c a)
def za0 (x0:Str):Option (Bool):=
 (Vm.zbq (x0.length:Int) 1 6).bind fun a=>
 bif(!a) then
 (some false)
 else
 (jn (fun(c:Bool) (d:Int)=>
 some true) fun b=>
 zaB x0 b (((x0.length:Int)-0).toNat+1) false 0)
def strings_Split (x0:Str)(x1:Str):Option ((List Str)):=
 if x0.length<=4294967000/\1<=x1.length then some (Go.Lib.split x0 x1) else none
def zaC (b:(List Str))(c:Bool->Int->Option (Bool)):Nat->Bool->Int->Option (Bool)
 |0,_,_=>none
 |m+1,d,a=>
 bif decide (a< (b.length:Int)) then
 ((gi b a).bind fun e=>
 (Vm.za0 e).bind fun f=>
 bif(!f) then
 (some false)
 else
 (zaC b c m d (w64 (a+1))))
 else
 (c d a)
def za1 (x0:Str):Option (Bool):=
 (Vm.strings_Split x0 ([47]:Str)).bind fun a=>
 bif decide (3< (a.length:Int)) then
 (some false)
 else
 (jn (fun(c:Bool) (d:Int)=>
 some true) fun b=>
 zaC a b (((a.length:Int)-0).toNat+1) false 0)
def zaD (x0:Str)(b:Bool->Int->Option (Bool)):Nat->Bool->Int->Option (Bool)
 |0,_,_=>none
 |m+1,c,a=>
 bif decide (a< (x0.length:Int)) then
 (jn (fun(e:Bool)=>
 bif e then
 (some false)
 else
 (zaD x0 b m c (w64 (a+1)))) fun d=>
 (chM x0 a).bind fun f=>
 bif decide (((UInt8.toNat f:Int):Int)< (32:Int)) then
 (d true)
 else
 ((chM x0 a).bind fun g=>
 d (decide ((126:Int)< ((UInt8.toNat g:Int):Int)))))
 else
 (b c a)
def zbx (x0:Str):Option (Bool):=
 bif decide (12< (x0.length:Int)) then
 (some false)
 else
 (jn (fun(b:Bool) (c:Int)=>
 some true) fun a=>
 zaD x0 a (((x0.length:Int)-0).toNat+1) false 0)
def zaE (x0:List Str)(b:Bool->Int->Option (Bool)):Nat->Bool->Int->Option (Bool)
 |0,_,_=>none
 |m+1,c,a=>
 bif decide (a< (x0.length:Int)) then
 ((gi x0 a).bind fun d=>
 (Vm.zbx d).bind fun e=>
 bif(!e) then
 (some false)
 else
 (zaE x0 b m c (w64 (a+1))))
 else
 (b c a)
def zby (x0:List Str):Option (Bool):=
 bif decide (10< (x0.length:Int)) then
 (some false)
 else
 (jn (fun(b:Bool) (c:Int)=>
 some true) fun a=>
 zaE x0 a (((x0.length:Int)-0).toNat+1) false 0)
def strings_Join (x0:List Str)(x1:Str):Option (Str):=
 if x0.length<=4294967000/\(Go.Lib.join x0 x1).length<=4294967000 then some (Go.Lib.join x0 x1) else none
def strings_Contains (x0:Str)(x1:Str):Option (Bool):=
 if x0.length<=4294967000 then some (Go.Lib.contains x0 x1) else none
def zb6 (x0:Vm.Op):Option (Bool):=
 jn (fun(i:Bool)=>
 bif i then
 (some false)
 else
 (bif(x0.Kind==1) then
 (jn (fun(j:Bool)=>
 some j) fun a=>
 (Vm.za1 x0.Path).bind fun k=>
 bif k then
 ((Vm.zby x0.Text).bind fun l=>
 bif l then
 ((Vm.strings_Join x0.Text ([]:Str)).bind fun m=>
 (Vm.strings_Contains m ([124]:Str)).bind fun n=>
 bif(!n) then
 (bif(x0.To==([]:Str)) then
 (a (x0.At==0))
 else
 (a false))
 else
 (a false))
 else
 (a false))
 else
 (a false))
 else
 (bif(x0.Kind==2) then
 (jn (fun(o:Bool)=>
 some o) fun b=>
 (Vm.za1 x0.Path).bind fun p=>
 bif p then
 (bif(x0.To==([]:Str)) then
 (bif(x0.At==0) then
 (b ((x0.Text.length:Int)==0))
 else
 (b false))
 else
 (b false))
 else
 (b false))
 else
 (bif(x0.Kind==3) then
 (jn (fun(q:Bool)=>
 some q) fun c=>
 (Vm.za1 x0.Path).bind fun r=>
 bif r then
 ((Vm.za1 x0.To).bind fun s=>
 bif s then
 (bif(x0.At==0) then
 (c ((x0.Text.length:Int)==0))
 else
 (c false))
 else
 (c false))
 else
 (c false))
 else
 (jn (fun(t:Bool)=>
 bif t then
 (jn (fun(u:Bool)=>
 some u) fun d=>
 (Vm.za0 x0.To).bind fun v=>
 bif v then
 (bif(x0.Path==([]:Str)) then
 (bif(x0.At==0) then
 (d ((x0.Text.length:Int)==0))
 else
 (d false))
 else
 (d false))
 else
 (d false))
 else
 (jn (fun(w:Bool)=>
 bif w then
 (jn (fun(x:Bool)=>
 some x) fun e=>
 (Vm.zbq x0.At 0 15).bind fun y=>
 bif y then
 (bif(x0.Path==([]:Str)) then
 (bif(x0.To==([]:Str)) then
 (e ((x0.Text.length:Int)==0))
 else
 (e false))
 else
 (e false))
 else
 (e false))
 else
 (some false)) fun f=>
 bif(x0.Kind==6) then
 (f (x0.Kind==6))
 else
 (f (x0.Kind==7)))) fun g=>
 bif(x0.Kind==4) then
 (g (x0.Kind==4))
 else
 (g (x0.Kind==5))))))) fun h=>
 (Vm.za0 x0.Branch).bind fun z=>
 bif(!z) then
 (h true)
 else
 ((Vm.za0 x0.Who).bind fun A=>
 h (!A))
def zbT:Option ((List Str)):=
 some ([([]:Str),([115,101,116]:Str),([100,114,111,112]:Str),([109,111,118,101]:Str),([102,111,114,107]:Str),([117,110,105,116,101]:Str),([112,105,99,107]:Str),([98,97,99,107]:Str)]:List Str)
def zap (x0:List Str)(b:Str->Int->Option (Str)):Nat->Str->Int->Option (Str)
 |0,_,_=>none
 |m+1,c,a=>
 bif decide (a< (x0.length:Int)) then
 ((gi x0 a).bind fun d=>
 (saM ([124]:Str) d).bind fun e=>
 (saM c e).bind fun f=>
 zap x0 b m f (w64 (a+1)))
 else
 (b c a)
def zaT (x0:List Str):Option (Str):=
 jn (fun(a:Str) (c:Int)=>
 some a) fun b=>
 zap x0 b (((x0.length:Int)-0).toNat+1) ([]:Str) 0
def strconv_Itoa (x0:Int):Option (Str):=
 if 0<=x0/\x0<100 then some (Go.Lib.decDigits x0.toNat) else none
def zbF (x0:Vm.Op):Option (Str):=
 (Vm.zbT).bind fun c=>
 (gi c x0.Kind).bind fun d=>
 (saM d ([32]:Str)).bind fun e=>
 (saM e x0.Branch).bind fun f=>
 (saM f ([32]:Str)).bind fun g=>
 (saM g x0.Who).bind fun h=>
 (saM h ([32]:Str)).bind fun a=>
 bif(x0.Kind==1) then
 ((saM a x0.Path).bind fun i=>
 (saM i ([32]:Str)).bind fun j=>
 (Vm.zaT x0.Text).bind fun k=>
 (saM j k).bind fun l=>
 some l)
 else
 (bif(x0.Kind==2) then
 ((saM a x0.Path).bind fun m=>
 some m)
 else
 (bif(x0.Kind==3) then
 ((saM a x0.Path).bind fun n=>
 (saM n ([32]:Str)).bind fun o=>
 (saM o x0.To).bind fun p=>
 some p)
 else
 (jn (fun(q:Bool)=>
 bif q then
 ((saM a x0.To).bind fun r=>
 some r)
 else
 ((Vm.strconv_Itoa x0.At).bind fun s=>
 (saM a s).bind fun t=>
 some t)) fun b=>
 bif(x0.Kind==4) then
 (b (x0.Kind==4))
 else
 (b (x0.Kind==5)))))
def zbU (x0:Vm.Op):Option (Str):=
 (Vm.zb6 x0).bind fun a=>
 bif(!a) then
 (some ([]:Str))
 else
 ((Vm.zbF x0).bind fun b=>
 some b)
def zaq (x0:List Str)(x1:List Str)(b:Bool->Int->Option (Bool)):Nat->Bool->Int->Option (Bool)
 |0,_,_=>none
 |m+1,c,a=>
 bif decide (a< (x0.length:Int)) then
 ((gi x0 a).bind fun d=>
 (gi x1 a).bind fun e=>
 bif(d !=e) then
 (some false)
 else
 (zaq x0 x1 b m c (w64 (a+1))))
 else
 (b c a)
def zaU (x0:List Str)(x1:List Str):Option (Bool):=
 bif((x0.length:Int) !=(x1.length:Int)) then
 (some false)
 else
 (jn (fun(b:Bool) (c:Int)=>
 some true) fun a=>
 zaq x0 x1 a (((x0.length:Int)-0).toNat+1) false 0)
def zc1 (x0:Vm.Op)(x1:Vm.Op):Option (Bool):=
 bif((x0.Kind:Int) !=(x1.Kind:Int)) then
 (some false)
 else
 (bif(x0.Branch !=x1.Branch) then
 (some false)
 else
 (bif(x0.Who !=x1.Who) then
 (some false)
 else
 (bif(x0.Path !=x1.Path) then
 (some false)
 else
 (bif(x0.To !=x1.To) then
 (some false)
 else
 (bif((x0.At:Int) !=(x1.At:Int)) then
 (some false)
 else
 ((Vm.zaU x0.Text x1.Text).bind fun a=>
 bif(!a) then
 (some false)
 else
 (some true)))))))
def zaL (x0:Vm.Op):Option (Bool):=
 (Vm.zc0 x0 1048576).bind fun d=>
 bif decide (d< (0:Int)) then
 (some true)
 else
 ((Vm.zcg x0).bind fun b=>
 (Vm.zbS (Vm.Op.mk b.Kind b.Branch b.Who b.Path b.To b.At b.Text)).bind fun e=>
 (Vm.zcg x0).bind fun a=>
 (Vm.zbU (Vm.Op.mk a.Kind a.Branch a.Who a.Path a.To a.At a.Text)).bind fun f=>
 bif(f !=e) then
 (some false)
 else
 ((Vm.zcg x0).bind fun c=>
 (Vm.zc1 (Vm.Op.mk a.Kind a.Branch a.Who a.Path a.To a.At a.Text) (Vm.Op.mk c.Kind c.Branch c.Who c.Path c.To c.At c.Text)).bind fun g=>
 bif(!g) then
 (some false)
 else
 (some true)))
end Go.Vm
