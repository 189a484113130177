/- Models of the functions: plain Lean, printed by a program of ours. Conditions: none. -/
import Derived.Test.YtifbmanldeabeaaDoorALw
import Derived.Lib.SplitLaws
import Derived.Lib.IndexMore
import Derived.Lib.Join
import Derived.Lib.ItoaNum
import Derived.Test.YtifbmanldeabeaaDoorAAt
namespace Go.Vm
open Go Go.Sx
set_option linter.unusedVariables false
set_option linter.unusedSimpArgs false
def zbr (x0:Str)(x1:zdt)(x2:Int)(d:List Str->Int->Int->Option ((List Str))):Nat->List Str->Int->Int->Option ((List Str))
 |0,_,_,_=>none
 |m+1,b,c,a=>
 jn (fun(g:Bool)=>
 bif g then
 (jn (fun(h:List Str) (i:Int)=>
 zbr x0 x1 x2 d m h i (w64 (a+1))) fun e=>
 (chM x0 a).bind fun j=>
 bif(((UInt8.toNat j:Int):Int)==((UInt8.toNat x1:Int):Int)) then
 ((slM x0 c a).bind fun k=>
 (apM b [k]).bind fun l=>
 e l (w64 (a+1)))
 else
 (e b c))
 else
 (d b c a)) fun f=>
 bif decide (a< (x0.length:Int)) then
 (f (decide (b.length< (x2:Int))))
 else
 (f false)
def za4 (x0:Str)(x1:zdt)(x2:Int):Option ((List Str)):=
 jn (fun(a:List Str) (b:Int) (f:Int)=>
 (slM x0 b (x0.length:Int)).bind fun c=>
 (apM a [c]).bind fun d=>
 some d) fun e=>
 zbr x0 x1 x2 e (x0.length+1) ([]:List Str) 0 0
def za3:Option ((List Str)):=
 some ([([]:Str),([115,101,116]:Str),([100,114,111,112]:Str),([109,111,118,101]:Str),([102,111,114,107]:Str),([117,110,105,116,101]:Str),([112,105,99,107]:Str),([98,97,99,107]:Str)]:List Str)
def zbs (x0:Str)(c:Int->Int->Int->Option (Int)):Nat->Int->Int->Int->Option (Int)
 |0,_,_,_=>none
 |m+1,d,e,a=>
 bif decide (a< (x0.length:Int)) then
 (jn (fun(f:Bool)=>
 bif f then
 (some (-1))
 else
 ((chM x0 a).bind fun g=>
 zbs x0 c m d (w64 ((w64 (e*10))+(w64 (IntKind.u8.wrap ((UInt8.toNat g:Int)-48))))) (w64 (a+1)))) fun b=>
 (chM x0 a).bind fun h=>
 bif decide (((UInt8.toNat h:Int):Int)< (48:Int)) then
 (b true)
 else
 ((chM x0 a).bind fun i=>
 bif decide ((57:Int)< ((UInt8.toNat i:Int):Int)) then
 (b true)
 else
 (b (decide (6<=(a:Int))))))
 else
 (c d e a)
def zbp (x0:Str):Option (Int):=
 jn (fun(f:Int) (b:Int) (g:Int)=>
 jn (fun(c:Bool)=>
 bif c then
 (some (-1))
 else
 (some b)) fun a=>
 bif((x0.length:Int)==0) then
 (a true)
 else
 (bif decide (1< (x0.length:Int)) then
 ((chM x0 0).bind fun d=>
 a (((UInt8.toNat d:Int):Int)==(48:Int)))
 else
 (a false))) fun e=>
 zbs x0 e (((x0.length:Int)-0).toNat+1) 0 0 0
def zct (x0:Int)(x1:Int)(x2:Int):Option (Bool):=
 jn (fun(b:Bool)=>
 some b) fun a=>
 bif decide (x1<=(x0:Int)) then
 (a (decide (x0<=(x2:Int))))
 else
 (a false)
def zaL (x0:Str)(c:Bool->Int->Option (Bool)):Nat->Bool->Int->Option (Bool)
 |0,_,_=>none
 |m+1,d,a=>
 bif decide (a< (x0.length:Int)) then
 (jn (fun(e:Bool)=>
 bif e then
 (some false)
 else
 (zaL x0 c m d (w64 (a+1)))) fun b=>
 (chM x0 a).bind fun f=>
 bif decide (((UInt8.toNat f:Int):Int)< (97:Int)) then
 ((chM x0 a).bind fun g=>
 bif decide (((UInt8.toNat g:Int):Int)< (48:Int)) then
 (b true)
 else
 ((chM x0 a).bind fun h=>
 b (decide ((57:Int)< ((UInt8.toNat h:Int):Int)))))
 else
 ((chM x0 a).bind fun i=>
 bif decide ((122:Int)< ((UInt8.toNat i:Int):Int)) then
 ((chM x0 a).bind fun j=>
 bif decide (((UInt8.toNat j:Int):Int)< (48:Int)) then
 (b true)
 else
 ((chM x0 a).bind fun k=>
 b (decide ((57:Int)< ((UInt8.toNat k:Int):Int)))))
 else
 (b false)))
 else
 (c d a)
def zbg (x0:Str):Option (Bool):=
 jn (fun(c:Bool) (d:Int)=>
 (Vm.zct (x0.length:Int) 1 6).bind fun a=>
 some a) fun b=>
 zaL x0 b (((x0.length:Int)-0).toNat+1) false 0
def zaV (x0:Vm.Op)(x1:Bool)(x2:Bool)(x3:Bool)(x4:Bool):Option (Bool):=
 jn (fun(b:Bool)=>
 some b) fun a=>
 bif x1 then
 (bif x2 then
 (bif x3 then
 (bif x4 then
 (a true)
 else
 (a ((x0.Text.length:Int)==0)))
 else
 (bif(x0.At==0) then
 (bif x4 then
 (a true)
 else
 (a ((x0.Text.length:Int)==0)))
 else
 (a false)))
 else
 (bif(x0.To==([]:Str)) then
 (bif x3 then
 (bif x4 then
 (a true)
 else
 (a ((x0.Text.length:Int)==0)))
 else
 (bif(x0.At==0) then
 (bif x4 then
 (a true)
 else
 (a ((x0.Text.length:Int)==0)))
 else
 (a false)))
 else
 (a false)))
 else
 (bif(x0.Path==([]:Str)) then
 (bif x2 then
 (bif x3 then
 (bif x4 then
 (a true)
 else
 (a ((x0.Text.length:Int)==0)))
 else
 (bif(x0.At==0) then
 (bif x4 then
 (a true)
 else
 (a ((x0.Text.length:Int)==0)))
 else
 (a false)))
 else
 (bif(x0.To==([]:Str)) then
 (bif x3 then
 (bif x4 then
 (a true)
 else
 (a ((x0.Text.length:Int)==0)))
 else
 (bif(x0.At==0) then
 (bif x4 then
 (a true)
 else
 (a ((x0.Text.length:Int)==0)))
 else
 (a false)))
 else
 (a false)))
 else
 (a false))
def zaM (b:(List Str))(c:Bool->Int->Option (Bool)):Nat->Bool->Int->Option (Bool)
 |0,_,_=>none
 |m+1,d,a=>
 bif decide (a< (b.length:Int)) then
 ((gi b a).bind fun e=>
 (Vm.zbg e).bind fun f=>
 bif(!f) then
 (some false)
 else
 (zaM b c m d (w64 (a+1))))
 else
 (c d a)
def zbh (x0:Str):Option (Bool):=
 (Vm.za4 x0 (UInt8.ofNatLT 47 (by decide):zdt) 3).bind fun a=>
 jn (fun(c:Bool) (d:Int)=>
 some (decide (a.length<=(3:Int)))) fun b=>
 zaM a b (((a.length:Int)-0).toNat+1) false 0
def zaN (x0:Str)(b:Bool->Int->Option (Bool)):Nat->Bool->Int->Option (Bool)
 |0,_,_=>none
 |m+1,c,a=>
 bif decide (a< (x0.length:Int)) then
 (jn (fun(e:Bool)=>
 bif e then
 (some false)
 else
 (zaN x0 b m c (w64 (a+1)))) fun d=>
 (chM x0 a).bind fun f=>
 bif decide (((UInt8.toNat f:Int):Int)< (32:Int)) then
 (d true)
 else
 ((chM x0 a).bind fun g=>
 d (decide ((126:Int)< ((UInt8.toNat g:Int):Int)))))
 else
 (b c a)
def zbW (x0:Str):Option (Bool):=
 jn (fun(b:Bool) (c:Int)=>
 some (decide (x0.length<=(12:Int)))) fun a=>
 zaN x0 a (((x0.length:Int)-0).toNat+1) false 0
def za9 (x0:List Str)(b:Bool->Int->Option (Bool)):Nat->Bool->Int->Option (Bool)
 |0,_,_=>none
 |m+1,c,a=>
 bif decide (a< (x0.length:Int)) then
 ((gi x0 a).bind fun d=>
 (Vm.zbW d).bind fun e=>
 bif(!e) then
 (some false)
 else
 (za9 x0 b m c (w64 (a+1))))
 else
 (b c a)
def zcF (x0:List Str):Option (Bool):=
 jn (fun(b:Bool) (c:Int)=>
 some (decide (x0.length<=(10:Int)))) fun a=>
 za9 x0 a (((x0.length:Int)-0).toNat+1) false 0
def zaC (x0:List Str)(b:Int)(c:Bool->Int->Option (Bool)):Nat->Bool->Int->Option (Bool)
 |0,_,_=>none
 |m+1,d,a=>
 (gi x0 b).bind fun e=>
 bif decide (a< (e.length:Int)) then
 ((gi x0 b).bind fun f=>
 (chM f a).bind fun g=>
 bif(((UInt8.toNat g:Int):Int)==(124:Int)) then
 (some false)
 else
 (zaC x0 b c m d (w64 (a+1))))
 else
 (c d a)
def zak (x0:List Str)(b:Bool->Int->Option (Bool)):Nat->Bool->Int->Option (Bool)
 |0,_,_=>none
 |m+1,c,a=>
 bif decide (a< (x0.length:Int)) then
 (jn (fun(d:Bool) (f:Int)=>
 zak x0 b m d (w64 (a+1))) fun e=>
 zaC x0 a e (((gi x0 a).getD []).length+1) c 0)
 else
 (b c a)
def zbt (x0:List Str):Option (Bool):=
 jn (fun(c:Bool) (d:Int)=>
 (Vm.zcF x0).bind fun a=>
 some a) fun b=>
 zak x0 b (((x0.length:Int)-0).toNat+1) false 0
def zbM (x0:Vm.Op):Option (Bool):=
 jn (fun(i:Bool)=>
 bif i then
 (some false)
 else
 (bif(x0.Kind==1) then
 (jn (fun(j:Bool)=>
 some j) fun a=>
 (Vm.zaV x0 true false false true).bind fun k=>
 bif k then
 ((Vm.zbh x0.Path).bind fun l=>
 bif l then
 ((Vm.zbt x0.Text).bind fun m=>
 a m)
 else
 (a false))
 else
 (a false))
 else
 (bif(x0.Kind==2) then
 (jn (fun(n:Bool)=>
 some n) fun c=>
 (Vm.zaV x0 true false false false).bind fun o=>
 bif o then
 ((Vm.zbh x0.Path).bind fun p=>
 c p)
 else
 (c false))
 else
 (bif(x0.Kind==3) then
 (jn (fun(q:Bool)=>
 some q) fun b=>
 (Vm.zaV x0 true true false false).bind fun r=>
 bif r then
 ((Vm.zbh x0.Path).bind fun s=>
 bif s then
 ((Vm.zbh x0.To).bind fun t=>
 b t)
 else
 (b false))
 else
 (b false))
 else
 (jn (fun(u:Bool)=>
 bif u then
 (jn (fun(v:Bool)=>
 some v) fun d=>
 (Vm.zaV x0 false true false false).bind fun w=>
 bif w then
 ((Vm.zbg x0.To).bind fun x=>
 d x)
 else
 (d false))
 else
 (jn (fun(y:Bool)=>
 bif y then
 (jn (fun(z:Bool)=>
 some z) fun e=>
 (Vm.zaV x0 false false true false).bind fun A=>
 bif A then
 ((Vm.zct x0.At 0 15).bind fun B=>
 e B)
 else
 (e false))
 else
 (some false)) fun f=>
 bif(x0.Kind==6) then
 (f (x0.Kind==6))
 else
 (f (x0.Kind==7)))) fun g=>
 bif(x0.Kind==4) then
 (g (x0.Kind==4))
 else
 (g (x0.Kind==5))))))) fun h=>
 (Vm.zbg x0.Branch).bind fun C=>
 bif(!C) then
 (h true)
 else
 ((Vm.zbg x0.Who).bind fun D=>
 h (!D))
def spec_l1Dec_r:Nat->Int->Option (Str)
 |0,_=>none
 |m+1,x0=>
 bif decide ((x0:Int)< ((-9223372036854775807):Int)) then
 (some ([45,57,50,50,51,51,55,50,48,51,54,56,53,52,55,55,53,56,48,56]:Str))
 else
 (bif decide (x0< (0:Int)) then
 ((Vm.spec_l1Dec_r m (w64 (0-x0))).bind fun a=>
 (saM ([45]:Str) a).bind fun b=>
 some b)
 else
 (bif decide (x0< (10:Int)) then
 (some (([(by8 (w64 (48+x0)))]:List zdt):Str))
 else
 ((Vm.spec_l1Dec_r m (w64 (Int.tdiv x0 10))).bind fun c=>
 (saM c (([(by8 (w64 (48+(Int.tmod x0 10))))]:List zdt):Str)).bind fun d=>
 some d)))
def zcW (x0:Int):Option (Str):=
 spec_l1Dec_r (x0.natAbs+2) x0
def zaD (x0:Vm.Op)(b:Str->Option (Str)):Nat->Str->Int->Option (Str)
 |0,_,_=>none
 |m+1,c,a=>
 bif decide (a< (x0.Text.length:Int)) then
 ((saM c ([124]:Str)).bind fun d=>
 (gi x0.Text a).bind fun e=>
 (saM d e).bind fun f=>
 zaD x0 b m f (w64 (a+1)))
 else
 (b c)
def zbw (x0:Vm.Op):Option (Str):=
 (Vm.za3).bind fun d=>
 (gi d x0.Kind).bind fun e=>
 (saM e ([32]:Str)).bind fun f=>
 (saM f x0.Branch).bind fun g=>
 (saM g ([32]:Str)).bind fun h=>
 (saM h x0.Who).bind fun a=>
 jn (fun(i:Str)=>
 some i) fun b=>
 bif(x0.Kind==1) then
 ((saM a ([32]:Str)).bind fun j=>
 (saM j x0.Path).bind fun k=>
 (saM k ([32]:Str)).bind fun l=>
 zaD x0 b (((x0.Text.length:Int)-0).toNat+1) l 0)
 else
 (bif(x0.Kind==2) then
 ((saM a ([32]:Str)).bind fun m=>
 (saM m x0.Path).bind fun n=>
 b n)
 else
 (bif(x0.Kind==3) then
 ((saM a ([32]:Str)).bind fun o=>
 (saM o x0.Path).bind fun p=>
 (saM p ([32]:Str)).bind fun q=>
 (saM q x0.To).bind fun r=>
 b r)
 else
 (jn (fun(s:Bool)=>
 bif s then
 ((saM a ([32]:Str)).bind fun t=>
 (saM t x0.To).bind fun u=>
 b u)
 else
 ((saM a ([32]:Str)).bind fun v=>
 (Vm.zcW x0.At).bind fun w=>
 (saM v w).bind fun x=>
 b x)) fun c=>
 bif(x0.Kind==4) then
 (c (x0.Kind==4))
 else
 (c (x0.Kind==5)))))
def zar (h:(List Str))(i:Int->Int->Str->Str->Str->Str->Int->List Str->Option (Vm.Op×Bool)):Nat->Int->Int->Str->Str->Str->Str->Int->List Str->Option (Vm.Op×Bool)
 |0,_,_,_,_,_,_,_,_=>none
 |m+1,a,j,b,c,d,e,f,g=>
 (Vm.za3).bind fun l=>
 bif decide (a< (l.length:Int)) then
 (jn (fun(n:Int) (o:Str) (p:Str) (q:Str) (r:Str) (s:Int) (t:List Str)=>
 zar h i m (w64 (a+1)) n o p q r s t) fun k=>
 (Vm.za3).bind fun u=>
 (gi u a).bind fun v=>
 (gi h 0).bind fun w=>
 bif(v==w) then
 (k a b c d e f g)
 else
 (k j b c d e f g))
 else
 (i a j b c d e f g)
def zbN (x0:Str):Option (Vm.Op×Bool):=
 (Vm.za4 x0 (UInt8.ofNatLT 32 (by decide):zdt) 4).bind fun a=>
 bif decide (a.length< (4:Int)) then
 (some (Vm.Op.mk 0 ([]:Str) ([]:Str) ([]:Str) ([]:Str) 0 ([]:List Str),false))
 else
 ((gi a 1).bind fun v=>
 (gi a 2).bind fun w=>
 jn (fun(K:Int) (b:Int) (c:Str) (d:Str) (p:Str) (h:Str) (f:Int) (g:List Str)=>
 jn (fun(q:Str)=>
 jn (fun(i:Int) (j:Str) (k:Str) (l:Str) (m:Str) (n:Int) (o:List Str)=>
 jn (fun(x:Bool)=>
 bif x then
 (some (Vm.Op.mk 0 ([]:Str) ([]:Str) ([]:Str) ([]:Str) 0 ([]:List Str),false))
 else
 (some (Vm.Op.mk i j k l m n o,true))) fun r=>
 (Vm.zbM (Vm.Op.mk i j k l m n o)).bind fun y=>
 bif(!y) then
 (r true)
 else
 ((Vm.zbw (Vm.Op.mk i j k l m n o)).bind fun z=>
 r (z !=x0))) fun e=>
 bif(b==1) then
 ((gi a 3).bind fun A=>
 (Vm.za4 q (UInt8.ofNatLT 124 (by decide):zdt) 11).bind fun s=>
 (slM s 1 (s.length:Int)).bind fun B=>
 e b c d A h f B)
 else
 (bif(b==2) then
 ((gi a 3).bind fun C=>
 e b c d C h f g)
 else
 (bif(b==3) then
 ((gi a 3).bind fun D=>
 e b c d D q f g)
 else
 (jn (fun(E:Bool)=>
 bif E then
 ((gi a 3).bind fun F=>
 e b c d p F f g)
 else
 ((gi a 3).bind fun G=>
 (Vm.zbp G).bind fun H=>
 e b c d p h H g)) fun t=>
 bif(b==4) then
 (t (b==4))
 else
 (t (b==5)))))) fun u=>
 bif((a.length:Int)==5) then
 ((gi a 4).bind fun I=>
 u I)
 else
 (u ([]:Str))) fun J=>
 zar a J (8) 1 0 v w ([]:Str) ([]:Str) 0 ([]:List Str))
def strings_SplitN (x0:Str)(x1:Str)(x2:Int):Option ((List Str)):=
 if x0.length<=4294967000/\1<=x1.length/\1<=x2/\x2<=1000 then some (Go.Lib.splitK x1 0 (min x2.toNat (x0.length+1)-1) x0) else none
def zbu:Option ((List Str)):=
 some ([([]:Str),([115,101,116]:Str),([100,114,111,112]:Str),([109,111,118,101]:Str),([102,111,114,107]:Str),([117,110,105,116,101]:Str),([112,105,99,107]:Str),([98,97,99,107]:Str)]:List Str)
def zag (x0:List Str)(x1:Str)(b:Int->Int->Option (Int)):Nat->Int->Int->Option (Int)
 |0,_,_=>none
 |m+1,c,a=>
 bif decide (a< (x0.length:Int)) then
 ((gi x0 a).bind fun d=>
 bif(x1==d) then
 (some a)
 else
 (zag x0 x1 b m c (w64 (a+1))))
 else
 (b c a)
def zah (x0:List Str)(x1:Str):Option (Int):=
 jn (fun(b:Int) (c:Int)=>
 some (-1)) fun a=>
 zag x0 x1 a (((x0.length:Int)-0).toNat+1) 0 0
def strings_Split (x0:Str)(x1:Str):Option ((List Str)):=
 if x0.length<=4294967000/\1<=x1.length then some (Go.Lib.split x0 x1) else none
def strconv_Atoi (x0:Str):Option (Int×Unit):=
 if x0.length<=4294967000 then some (zcK x0,()) else none
def zbI (x0:Int)(x1:Int)(x2:Int):Option (Bool):=
 jn (fun(b:Bool)=>
 some b) fun a=>
 bif decide (x1<=(x0:Int)) then
 (a (decide (x0<=(x2:Int))))
 else
 (a false)
def zbv (x0:zdt):Option (Bool):=
 jn (fun(b:Bool)=>
 some b) fun a=>
 bif decide ((97:Int)<=((UInt8.toNat x0:Int):Int)) then
 (bif decide (((UInt8.toNat x0:Int):Int)<=(122:Int)) then
 (a true)
 else
 (bif decide ((48:Int)<=((UInt8.toNat x0:Int):Int)) then
 (a (decide (((UInt8.toNat x0:Int):Int)<=(57:Int))))
 else
 (a false)))
 else
 (bif decide ((48:Int)<=((UInt8.toNat x0:Int):Int)) then
 (a (decide (((UInt8.toNat x0:Int):Int)<=(57:Int))))
 else
 (a false))
def zaO (x0:Str)(b:Bool->Int->Option (Bool)):Nat->Bool->Int->Option (Bool)
 |0,_,_=>none
 |m+1,c,a=>
 bif decide (a< (x0.length:Int)) then
 ((chM x0 a).bind fun d=>
 (Vm.zbv d).bind fun e=>
 bif(!e) then
 (some false)
 else
 (zaO x0 b m c (w64 (a+1))))
 else
 (b c a)
def zbi (x0:Str):Option (Bool):=
 (Vm.zbI (x0.length:Int) 1 6).bind fun a=>
 bif(!a) then
 (some false)
 else
 (jn (fun(c:Bool) (d:Int)=>
 some true) fun b=>
 zaO x0 b (((x0.length:Int)-0).toNat+1) false 0)
def zaP (b:(List Str))(c:Bool->Int->Option (Bool)):Nat->Bool->Int->Option (Bool)
 |0,_,_=>none
 |m+1,d,a=>
 bif decide (a< (b.length:Int)) then
 ((gi b a).bind fun e=>
 (Vm.zbi e).bind fun f=>
 bif(!f) then
 (some false)
 else
 (zaP b c m d (w64 (a+1))))
 else
 (c d a)
def zbj (x0:Str):Option (Bool):=
 (Vm.strings_Split x0 ([47]:Str)).bind fun a=>
 bif decide (3< (a.length:Int)) then
 (some false)
 else
 (jn (fun(c:Bool) (d:Int)=>
 some true) fun b=>
 zaP a b (((a.length:Int)-0).toNat+1) false 0)
def zaQ (x0:Str)(b:Bool->Int->Option (Bool)):Nat->Bool->Int->Option (Bool)
 |0,_,_=>none
 |m+1,c,a=>
 bif decide (a< (x0.length:Int)) then
 (jn (fun(e:Bool)=>
 bif e then
 (some false)
 else
 (zaQ x0 b m c (w64 (a+1)))) fun d=>
 (chM x0 a).bind fun f=>
 bif decide (((UInt8.toNat f:Int):Int)< (32:Int)) then
 (d true)
 else
 ((chM x0 a).bind fun g=>
 d (decide ((126:Int)< ((UInt8.toNat g:Int):Int)))))
 else
 (b c a)
def zbX (x0:Str):Option (Bool):=
 bif decide (12< (x0.length:Int)) then
 (some false)
 else
 (jn (fun(b:Bool) (c:Int)=>
 some true) fun a=>
 zaQ x0 a (((x0.length:Int)-0).toNat+1) false 0)
def zaR (x0:List Str)(b:Bool->Int->Option (Bool)):Nat->Bool->Int->Option (Bool)
 |0,_,_=>none
 |m+1,c,a=>
 bif decide (a< (x0.length:Int)) then
 ((gi x0 a).bind fun d=>
 (Vm.zbX d).bind fun e=>
 bif(!e) then
 (some false)
 else
 (zaR x0 b m c (w64 (a+1))))
 else
 (b c a)
def zbY (x0:List Str):Option (Bool):=
 bif decide (10< (x0.length:Int)) then
 (some false)
 else
 (jn (fun(b:Bool) (c:Int)=>
 some true) fun a=>
 zaR x0 a (((x0.length:Int)-0).toNat+1) false 0)
def strings_Join (x0:List Str)(x1:Str):Option (Str):=
 if x0.length<=4294967000/\(Go.Lib.join x0 x1).length<=4294967000 then some (Go.Lib.join x0 x1) else none
def strings_Contains (x0:Str)(x1:Str):Option (Bool):=
 if x0.length<=4294967000 then some (Go.Lib.contains x0 x1) else none
def zcb (x0:Vm.Op):Option (Bool):=
 jn (fun(i:Bool)=>
 bif i then
 (some false)
 else
 (bif(x0.Kind==1) then
 (jn (fun(j:Bool)=>
 some j) fun a=>
 (Vm.zbj x0.Path).bind fun k=>
 bif k then
 ((Vm.zbY x0.Text).bind fun l=>
 bif l then
 ((Vm.strings_Join x0.Text ([]:Str)).bind fun m=>
 (Vm.strings_Contains m ([124]:Str)).bind fun n=>
 bif(!n) then
 (bif(x0.To==([]:Str)) then
 (a (x0.At==0))
 else
 (a false))
 else
 (a false))
 else
 (a false))
 else
 (a false))
 else
 (bif(x0.Kind==2) then
 (jn (fun(o:Bool)=>
 some o) fun b=>
 (Vm.zbj x0.Path).bind fun p=>
 bif p then
 (bif(x0.To==([]:Str)) then
 (bif(x0.At==0) then
 (b ((x0.Text.length:Int)==0))
 else
 (b false))
 else
 (b false))
 else
 (b false))
 else
 (bif(x0.Kind==3) then
 (jn (fun(q:Bool)=>
 some q) fun c=>
 (Vm.zbj x0.Path).bind fun r=>
 bif r then
 ((Vm.zbj x0.To).bind fun s=>
 bif s then
 (bif(x0.At==0) then
 (c ((x0.Text.length:Int)==0))
 else
 (c false))
 else
 (c false))
 else
 (c false))
 else
 (jn (fun(t:Bool)=>
 bif t then
 (jn (fun(u:Bool)=>
 some u) fun d=>
 (Vm.zbi x0.To).bind fun v=>
 bif v then
 (bif(x0.Path==([]:Str)) then
 (bif(x0.At==0) then
 (d ((x0.Text.length:Int)==0))
 else
 (d false))
 else
 (d false))
 else
 (d false))
 else
 (jn (fun(w:Bool)=>
 bif w then
 (jn (fun(x:Bool)=>
 some x) fun e=>
 (Vm.zbI x0.At 0 15).bind fun y=>
 bif y then
 (bif(x0.Path==([]:Str)) then
 (bif(x0.To==([]:Str)) then
 (e ((x0.Text.length:Int)==0))
 else
 (e false))
 else
 (e false))
 else
 (e false))
 else
 (some false)) fun f=>
 bif(x0.Kind==6) then
 (f (x0.Kind==6))
 else
 (f (x0.Kind==7)))) fun g=>
 bif(x0.Kind==4) then
 (g (x0.Kind==4))
 else
 (g (x0.Kind==5))))))) fun h=>
 (Vm.zbi x0.Branch).bind fun z=>
 bif(!z) then
 (h true)
 else
 ((Vm.zbi x0.Who).bind fun A=>
 h (!A))
def zaw (x0:List Str)(b:Str->Int->Option (Str)):Nat->Str->Int->Option (Str)
 |0,_,_=>none
 |m+1,c,a=>
 bif decide (a< (x0.length:Int)) then
 ((gi x0 a).bind fun d=>
 (saM ([124]:Str) d).bind fun e=>
 (saM c e).bind fun f=>
 zaw x0 b m f (w64 (a+1)))
 else
 (b c a)
def zba (x0:List Str):Option (Str):=
 jn (fun(a:Str) (c:Int)=>
 some a) fun b=>
 zaw x0 b (((x0.length:Int)-0).toNat+1) ([]:Str) 0
def strconv_Itoa (x0:Int):Option (Str):=
 if 0<=x0/\x0<100 then some (Go.Lib.decDigits x0.toNat) else none
def zbO (x0:Vm.Op):Option (Str):=
 (Vm.zbu).bind fun c=>
 (gi c x0.Kind).bind fun d=>
 (saM d ([32]:Str)).bind fun e=>
 (saM e x0.Branch).bind fun f=>
 (saM f ([32]:Str)).bind fun g=>
 (saM g x0.Who).bind fun h=>
 (saM h ([32]:Str)).bind fun a=>
 bif(x0.Kind==1) then
 ((saM a x0.Path).bind fun i=>
 (saM i ([32]:Str)).bind fun j=>
 (Vm.zba x0.Text).bind fun k=>
 (saM j k).bind fun l=>
 some l)
 else
 (bif(x0.Kind==2) then
 ((saM a x0.Path).bind fun m=>
 some m)
 else
 (bif(x0.Kind==3) then
 ((saM a x0.Path).bind fun n=>
 (saM n ([32]:Str)).bind fun o=>
 (saM o x0.To).bind fun p=>
 some p)
 else
 (jn (fun(q:Bool)=>
 bif q then
 ((saM a x0.To).bind fun r=>
 some r)
 else
 ((Vm.strconv_Itoa x0.At).bind fun s=>
 (saM a s).bind fun t=>
 some t)) fun b=>
 bif(x0.Kind==4) then
 (b (x0.Kind==4))
 else
 (b (x0.Kind==5)))))
def zb4 (x0:Str):Option (Vm.Op×Bool):=
 (Vm.strings_SplitN x0 ([32]:Str) 5).bind fun b=>
 bif decide (b.length< (4:Int)) then
 (some (Vm.Op.mk 0 ([]:Str) ([]:Str) ([]:Str) ([]:Str) 0 ([]:List Str),false))
 else
 ((Vm.zbu).bind fun t=>
 (gi b 0).bind fun u=>
 (Vm.zah t u).bind fun a=>
 (gi b 1).bind fun c=>
 (gi b 2).bind fun d=>
 jn (fun(f:Int) (g:Str) (h:Str) (i:Str) (j:Str) (k:Int) (l:List Str)=>
 jn (fun(v:Bool)=>
 bif v then
 (some (Vm.Op.mk 0 ([]:Str) ([]:Str) ([]:Str) ([]:Str) 0 ([]:List Str),false))
 else
 (some (Vm.Op.mk f g h i j k l,true))) fun m=>
 (Vm.zcb (Vm.Op.mk f g h i j k l)).bind fun w=>
 bif(!w) then
 (m true)
 else
 ((Vm.zbO (Vm.Op.mk f g h i j k l)).bind fun x=>
 m (x !=x0))) fun e=>
 bif(a==1) then
 ((gi b 3).bind fun n=>
 jn (fun(y:Bool)=>
 bif y then
 ((gi b 4).bind fun z=>
 (Vm.strings_Split z ([124]:Str)).bind fun o=>
 (slM o 1 (o.length:Int)).bind fun A=>
 e a c d n ([]:Str) 0 A)
 else
 (e a c d n ([]:Str) 0 ([]:List Str))) fun p=>
 bif((b.length:Int)==5) then
 ((gi b 4).bind fun B=>
 p (B !=([]:Str)))
 else
 (p false))
 else
 (bif(a==2) then
 ((gi b 3).bind fun C=>
 e a c d C ([]:Str) 0 ([]:List Str))
 else
 (bif(a==3) then
 ((gi b 3).bind fun q=>
 bif((b.length:Int)==5) then
 ((gi b 4).bind fun D=>
 e a c d q D 0 ([]:List Str))
 else
 (e a c d q ([]:Str) 0 ([]:List Str)))
 else
 (jn (fun(E:Bool)=>
 bif E then
 ((gi b 3).bind fun F=>
 e a c d ([]:Str) F 0 ([]:List Str))
 else
 (jn (fun(G:Bool)=>
 bif G then
 ((gi b 3).bind fun H=>
 (Vm.strconv_Atoi H).bind fun I=>
 e a c d ([]:Str) ([]:Str) I.1 ([]:List Str))
 else
 (e a c d ([]:Str) ([]:Str) 0 ([]:List Str))) fun r=>
 bif(a==6) then
 (r (a==6))
 else
 (r (a==7)))) fun s=>
 bif(a==4) then
 (s (a==4))
 else
 (s (a==5))))))
def zax (x0:List Str)(x1:List Str)(b:Bool->Int->Option (Bool)):Nat->Bool->Int->Option (Bool)
 |0,_,_=>none
 |m+1,c,a=>
 bif decide (a< (x0.length:Int)) then
 ((gi x0 a).bind fun d=>
 (gi x1 a).bind fun e=>
 bif(d !=e) then
 (some false)
 else
 (zax x0 x1 b m c (w64 (a+1))))
 else
 (b c a)
def zbb (x0:List Str)(x1:List Str):Option (Bool):=
 bif((x0.length:Int) !=(x1.length:Int)) then
 (some false)
 else
 (jn (fun(b:Bool) (c:Int)=>
 some true) fun a=>
 zax x0 x1 a (((x0.length:Int)-0).toNat+1) false 0)
def zc4 (x0:Vm.Op)(x1:Vm.Op):Option (Bool):=
 bif((x0.Kind:Int) !=(x1.Kind:Int)) then
 (some false)
 else
 (bif(x0.Branch !=x1.Branch) then
 (some false)
 else
 (bif(x0.Who !=x1.Who) then
 (some false)
 else
 (bif(x0.Path !=x1.Path) then
 (some false)
 else
 (bif(x0.To !=x1.To) then
 (some false)
 else
 (bif((x0.At:Int) !=(x1.At:Int)) then
 (some false)
 else
 ((Vm.zbb x0.Text x1.Text).bind fun a=>
 bif(!a) then
 (some false)
 else
 (some true)))))))
def zaW (b:Int->Str->Option (Str)):Nat->Int->Str->Option (Str)
 |0,_,_=>none
 |m+1,a,c=>
 bif decide (0< (a:Int)) then
 ((saM (([(by8 (w64 (48+(Int.tmod a 10))))]:List zdt):Str) c).bind fun d=>
 zaW b m (w64 (Int.tdiv a 10)) d)
 else
 (b a c)
def zay (x0:Int):Option (Str):=
 bif decide (x0<=(0:Int)) then
 (some ([109,48]:Str))
 else
 (jn (fun(d:Int) (a:Str)=>
 (saM ([109]:Str) a).bind fun b=>
 some b) fun c=>
 zaW c ((x0-0).toNat+1) x0 ([]:Str))
def zan (d:Int->Int->List Str->Option (Int×(List Str))):Nat->Int->Int->List Str->Option (Int×(List Str))
 |0,_,_,_=>none
 |m+1,c,a,b=>
 bif decide (a< (b.length:Int)) then
 ((Vm.zay c).bind fun e=>
 (gi b a).bind fun g=>
 (siM b a e).bind fun f=>
 zan d m (w64 (c+1)) (w64 (a+1)) f)
 else
 (d c a b)
def zaF (x0:List Str)(x1:Int):Option (Int×(List Str)):=
 jn (fun(a:Int) (d:Int) (b:List Str)=>
 some (a,b)) fun c=>
 zan c (((x0.length:Int)-0).toNat+1) x1 0 x0
def zcB (x0:Vm.Op)(x1:Int):Option (Int×Vm.Op):=
 (Vm.zaF x0.Text x1).bind fun a=>
 some (a.1,Vm.Op.mk x0.Kind x0.Branch x0.Who x0.Path x0.To x0.At a.2)
def zao (x0:List Str)(c:Int->Int->Int->Option (Int)):Nat->Int->Int->Int->Option (Int)
 |0,_,_,_=>none
 |m+1,b,d,a=>
 bif decide (a< (x0.length:Int)) then
 ((gi x0 a).bind fun e=>
 (Vm.zay b).bind fun f=>
 bif(e !=f) then
 (some (-1))
 else
 (zao x0 c m (w64 (b+1)) d (w64 (a+1))))
 else
 (c b d a)
def zaX (x0:List Str)(x1:Int):Option (Int):=
 jn (fun(a:Int) (c:Int) (d:Int)=>
 some a) fun b=>
 zao x0 b (((x0.length:Int)-0).toNat+1) x1 0 0
def zce (x0:Vm.Op)(x1:Int):Option (Int):=
 (Vm.zaX x0.Text x1).bind fun a=>
 bif decide (a< (0:Int)) then
 (some (-1))
 else
 (some a)
def za2 (x0:Str):Option (Bool):=
 bif decide (1048576< (x0.length:Int)) then
 (some true)
 else
 ((Vm.zbN x0).bind fun c=>
 (Vm.zb4 x0).bind fun a=>
 jn (fun(i:Bool)=>
 bif i then
 (some false)
 else
 ((Vm.zcB (Vm.Op.mk a.1.Kind a.1.Branch a.1.Who a.1.Path a.1.To a.1.At a.1.Text) 1).bind fun d=>
 (Vm.zce (Vm.Op.mk a.1.Kind a.1.Branch a.1.Who a.1.Path a.1.To a.1.At d.2.Text) 1).bind fun e=>
 bif decide (e< (0:Int)) then
 (some false)
 else
 (bif((e:Int) !=(d.1:Int)) then
 (some false)
 else
 ((Vm.zb4 x0).bind fun b=>
 jn (fun(j:Bool)=>
 bif j then
 (some false)
 else
 ((Vm.zce (Vm.Op.mk a.1.Kind a.1.Branch a.1.Who a.1.Path a.1.To a.1.At d.2.Text) 1).bind fun f=>
 bif decide (f< (0:Int)) then
 (some false)
 else
 (bif((f:Int) !=(d.1:Int)) then
 (some false)
 else
 (some true)))) fun g=>
 (Vm.zc4 (Vm.Op.mk b.1.Kind b.1.Branch b.1.Who b.1.Path b.1.To b.1.At b.1.Text) c.1).bind fun k=>
 bif(!k) then
 (g true)
 else
 (g (b.2 !=c.2)))))) fun h=>
 (Vm.zc4 (Vm.Op.mk a.1.Kind a.1.Branch a.1.Who a.1.Path a.1.To a.1.At a.1.Text) c.1).bind fun l=>
 bif(!l) then
 (h true)
 else
 (h (a.2 !=c.2)))
end Go.Vm
