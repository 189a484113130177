/- Models of the functions: plain Lean, printed by a program of ours. Conditions: none. -/
import Derived.Test.YtjokjcdckcpijaaDoorALw
import Derived.Lib.SplitLaws
import Derived.Lib.IndexMore
import Derived.Lib.Join
import Derived.Lib.ItoaNum
import Derived.Test.YtjokjcdckcpijaaDoorAAt
namespace Go.Vm
open Go Go.Sx
set_option linter.unusedVariables false
set_option linter.unusedSimpArgs false
def zaX (x0:List Byte):Option (Vm.l30Rd):=
 jn (fun(b:List Byte)=>
 some (Vm.l30Rd.mk b 0)) fun a=>
 bif decide (2000< (x0.length:Int)) then
 ((slM x0 0 2000).bind fun c=>
 a c)
 else
 (a x0)
def zad (x0:Vm.l30Rd)(x1:Int):Option (Int×Int):=
 jn (fun(e:Bool)=>
 bif e then
 (some (0,w64 (x0.p+1)))
 else
 (bif decide ((w64 ((w64 (x0.p+1))-1):Int)< (x0.b.length:Int)) then
 ((gi x0.b (w64 ((w64 (x0.p+1))-1))).bind fun f=>
 (if(x1:Int)=0 then none else some ()).bind fun _=>
 some (Int.tmod (w64 (UInt8.toNat f:Int)) x1,w64 (x0.p+1)))
 else
 ((if(x0.b.length:Int)=0 then none else some ()).bind fun _=>
 (gi x0.b (Int.tmod (w64 ((w64 (x0.p+1))-1)) (x0.b.length:Int))).bind fun a=>
 (if(x0.b.length:Int)=0 then none else some ()).bind fun _=>
 (gi x0.b (Int.tmod (w64 ((w64 ((w64 ((w64 (x0.p+1))-1))*7))+3)) (x0.b.length:Int))).bind fun c=>
 (if(x0.b.length:Int)=0 then none else some ()).bind fun _=>
 (if(x1:Int)=0 then none else some ()).bind fun _=>
 some (Int.tmod (zhx (w64 ((w64 ((w64 ((w64 ((w64 (UInt8.toNat a:Int))*131))+(w64 ((w64 (UInt8.toNat c:Int))*1117))))+(w64 ((w64 ((w64 (x0.p+1))-1))*29))))+(w64 ((w64 (Int.tdiv (w64 ((w64 (x0.p+1))-1)) (x0.b.length:Int)))*53)))) (w64 (Int.tdiv (w64 ((w64 ((w64 ((w64 ((w64 (UInt8.toNat a:Int))*131))+(w64 ((w64 (UInt8.toNat c:Int))*1117))))+(w64 ((w64 ((w64 (x0.p+1))-1))*29))))+(w64 ((w64 (Int.tdiv (w64 ((w64 (x0.p+1))-1)) (x0.b.length:Int)))*53)))) 64))) x1,w64 (x0.p+1))))) fun d=>
 bif decide (x1< (1:Int)) then
 (d true)
 else
 (d ((x0.b.length:Int)==0))
def zal (x0:Vm.l30Rd)(x1:List Str):Option (Str×Int):=
 (Vm.zad x0 (x1.length:Int)).bind fun a=>
 (gi x1 a.1).bind fun b=>
 some (b,a.2)
def za0 (x0:Vm.l30Rd):Option (Str×Int):=
 (Vm.zal x0 ([([109,97,105,110]:Str),([109,97,105,110]:Str),([115,105,100,101]:Str),([100,101,118]:Str)]:List Str)).bind fun a=>
 some (a.1,a.2)
def za3 (x0:Vm.l30Rd):Option (Str×Int):=
 (Vm.zal x0 ([([97]:Str),([98]:Str),([100,47,101]:Str),([100,47,102]:Str),([103,47,104,47,105]:Str),([103,47,107]:Str),([122]:Str)]:List Str)).bind fun a=>
 some (a.1,a.2)
def zaL (x0:Vm.l30Rd)(x1:List Int):Option (Int×Int):=
 (Vm.zad x0 (x1.length:Int)).bind fun a=>
 (gi x1 a.1).bind fun b=>
 some (b,a.2)
def za4 (x0:Vm.l30Rd):Option (Str×Int):=
 (Vm.zal x0 ([([97]:Str),([98]:Str),([99]:Str),([100]:Str),([]:Str),([120,32,121]:Str),([115,101,101,32,97]:Str),([115,101,101,32,100,47,101]:Str),([101,110,100]:Str)]:List Str)).bind fun a=>
 some (a.1,a.2)
def za1 (x0:Vm.l30Rd)(c:List Str->Int->Int->Option ((List Str)×Int)):Nat->List Str->Int->Int->Option ((List Str)×Int)
 |0,_,_,_=>none
 |m+1,d,a,e=>
 bif decide (0< (a:Int)) then
 ((Vm.za4 (Vm.l30Rd.mk x0.b e)).bind fun f=>
 (apM d [f.1]).bind fun g=>
 za1 x0 c m g (w64 (a-1)) f.2)
 else
 (c d a e)
def zbI (x0:Vm.l30Rd):Option ((List Str)×Int):=
 (Vm.zaL x0 ([0,1,3,5,8]:List Int)).bind fun a=>
 jn (fun(b:List Str) (e:Int) (c:Int)=>
 some (b,c)) fun d=>
 za1 x0 d ((a.1-0).toNat+1) ([]:List Str) a.1 a.2
def zcc (x0:Vm.l30Rd):Option (Vm.Op×Int):=
 (Vm.za0 x0).bind fun c=>
 (Vm.zal (Vm.l30Rd.mk x0.b c.2) ([([97,110,110]:Str),([98,111,98]:Str),([99,105,100]:Str)]:List Str)).bind fun d=>
 jn (fun(q:Int) (r:Int) (s:Str) (t:Str) (u:Str) (v:Str) (w:Int) (x:List Str)=>
 some (Vm.Op.mk r s t u v w x,q)) fun e=>
 (Vm.zad (Vm.l30Rd.mk x0.b d.2) 12).bind fun a=>
 bif(a.1==0) then
 ((Vm.za3 (Vm.l30Rd.mk x0.b a.2)).bind fun g=>
 e g.2 2 c.1 d.1 g.1 ([]:Str) 0 ([]:List Str))
 else
 (bif(a.1==1) then
 ((Vm.za3 (Vm.l30Rd.mk x0.b a.2)).bind fun h=>
 (Vm.za3 (Vm.l30Rd.mk x0.b h.2)).bind fun i=>
 e i.2 3 c.1 d.1 h.1 i.1 0 ([]:List Str))
 else
 (jn (fun(y:Bool)=>
 bif y then
 ((Vm.zal (Vm.l30Rd.mk x0.b a.2) ([([115,105,100,101]:Str),([100,101,118]:Str),([111,108,100]:Str)]:List Str)).bind fun j=>
 e j.2 4 c.1 d.1 ([]:Str) j.1 0 ([]:List Str))
 else
 (jn (fun(z:Bool)=>
 bif z then
 ((Vm.za0 (Vm.l30Rd.mk x0.b a.2)).bind fun k=>
 e k.2 5 c.1 d.1 ([]:Str) k.1 0 ([]:List Str))
 else
 (bif(a.1==7) then
 ((Vm.zad (Vm.l30Rd.mk x0.b a.2) 10).bind fun l=>
 e l.2 6 c.1 d.1 ([]:Str) ([]:Str) l.1 ([]:List Str))
 else
 (bif(a.1==8) then
 ((Vm.zad (Vm.l30Rd.mk x0.b a.2) 10).bind fun m=>
 e m.2 7 c.1 d.1 ([]:Str) ([]:Str) m.1 ([]:List Str))
 else
 ((Vm.za3 (Vm.l30Rd.mk x0.b a.2)).bind fun n=>
 (Vm.zbI (Vm.l30Rd.mk x0.b n.2)).bind fun o=>
 e o.2 1 c.1 d.1 n.1 ([]:Str) 0 o.1)))) fun f=>
 bif(a.1==4) then
 (f (a.1==4))
 else
 (bif(a.1==5) then
 (f (a.1==5))
 else
 (f (a.1==6))))) fun p=>
 bif(a.1==2) then
 (p (a.1==2))
 else
 (p (a.1==3))))
def zcM (x0:Int)(x1:Int)(x2:Int):Option (Bool):=
 jn (fun(b:Bool)=>
 some b) fun a=>
 bif decide (x1<=(x0:Int)) then
 (a (decide (x0<=(x2:Int))))
 else
 (a false)
def zaM (x0:Str)(c:Bool->Int->Option (Bool)):Nat->Bool->Int->Option (Bool)
 |0,_,_=>none
 |m+1,d,a=>
 bif decide (a< (x0.length:Int)) then
 (jn (fun(e:Bool)=>
 bif e then
 (some false)
 else
 (zaM x0 c m d (w64 (a+1)))) fun b=>
 (chM x0 a).bind fun f=>
 bif decide (((UInt8.toNat f:Int):Int)< (97:Int)) then
 ((chM x0 a).bind fun g=>
 bif decide (((UInt8.toNat g:Int):Int)< (48:Int)) then
 (b true)
 else
 ((chM x0 a).bind fun h=>
 b (decide ((57:Int)< ((UInt8.toNat h:Int):Int)))))
 else
 ((chM x0 a).bind fun i=>
 bif decide ((122:Int)< ((UInt8.toNat i:Int):Int)) then
 ((chM x0 a).bind fun j=>
 bif decide (((UInt8.toNat j:Int):Int)< (48:Int)) then
 (b true)
 else
 ((chM x0 a).bind fun k=>
 b (decide ((57:Int)< ((UInt8.toNat k:Int):Int)))))
 else
 (b false)))
 else
 (c d a)
def zbi (x0:Str):Option (Bool):=
 jn (fun(c:Bool) (d:Int)=>
 (Vm.zcM (x0.length:Int) 1 6).bind fun a=>
 some a) fun b=>
 zaM x0 b (((x0.length:Int)-0).toNat+1) false 0
def zaY (x0:Vm.Op)(x1:Bool)(x2:Bool)(x3:Bool)(x4:Bool):Option (Bool):=
 jn (fun(b:Bool)=>
 some b) fun a=>
 bif x1 then
 (bif x2 then
 (bif x3 then
 (bif x4 then
 (a true)
 else
 (a ((x0.Text.length:Int)==0)))
 else
 (bif(x0.At==0) then
 (bif x4 then
 (a true)
 else
 (a ((x0.Text.length:Int)==0)))
 else
 (a false)))
 else
 (bif(x0.To==([]:Str)) then
 (bif x3 then
 (bif x4 then
 (a true)
 else
 (a ((x0.Text.length:Int)==0)))
 else
 (bif(x0.At==0) then
 (bif x4 then
 (a true)
 else
 (a ((x0.Text.length:Int)==0)))
 else
 (a false)))
 else
 (a false)))
 else
 (bif(x0.Path==([]:Str)) then
 (bif x2 then
 (bif x3 then
 (bif x4 then
 (a true)
 else
 (a ((x0.Text.length:Int)==0)))
 else
 (bif(x0.At==0) then
 (bif x4 then
 (a true)
 else
 (a ((x0.Text.length:Int)==0)))
 else
 (a false)))
 else
 (bif(x0.To==([]:Str)) then
 (bif x3 then
 (bif x4 then
 (a true)
 else
 (a ((x0.Text.length:Int)==0)))
 else
 (bif(x0.At==0) then
 (bif x4 then
 (a true)
 else
 (a ((x0.Text.length:Int)==0)))
 else
 (a false)))
 else
 (a false)))
 else
 (a false))
def zbn (x0:Str)(x1:Byte)(x2:Int)(d:List Str->Int->Int->Option ((List Str))):Nat->List Str->Int->Int->Option ((List Str))
 |0,_,_,_=>none
 |m+1,b,c,a=>
 jn (fun(g:Bool)=>
 bif g then
 (jn (fun(h:List Str) (i:Int)=>
 zbn x0 x1 x2 d m h i (w64 (a+1))) fun e=>
 (chM x0 a).bind fun j=>
 bif(((UInt8.toNat j:Int):Int)==((UInt8.toNat x1:Int):Int)) then
 ((slM x0 c a).bind fun k=>
 (apM b [k]).bind fun l=>
 e l (w64 (a+1)))
 else
 (e b c))
 else
 (d b c a)) fun f=>
 bif decide (a< (x0.length:Int)) then
 (f (decide (b.length< (x2:Int))))
 else
 (f false)
def zbf (x0:Str)(x1:Byte)(x2:Int):Option ((List Str)):=
 jn (fun(a:List Str) (b:Int) (f:Int)=>
 (slM x0 b (x0.length:Int)).bind fun c=>
 (apM a [c]).bind fun d=>
 some d) fun e=>
 zbn x0 x1 x2 e (x0.length+1) ([]:List Str) 0 0
def zaN (b:(List Str))(c:Bool->Int->Option (Bool)):Nat->Bool->Int->Option (Bool)
 |0,_,_=>none
 |m+1,d,a=>
 bif decide (a< (b.length:Int)) then
 ((gi b a).bind fun e=>
 (Vm.zbi e).bind fun f=>
 bif(!f) then
 (some false)
 else
 (zaN b c m d (w64 (a+1))))
 else
 (c d a)
def zbj (x0:Str):Option (Bool):=
 (Vm.zbf x0 (UInt8.ofNatLT 47 (by decide):Byte) 3).bind fun a=>
 jn (fun(c:Bool) (d:Int)=>
 some (decide (a.length<=(3:Int)))) fun b=>
 zaN a b (((a.length:Int)-0).toNat+1) false 0
def zaO (x0:Str)(b:Bool->Int->Option (Bool)):Nat->Bool->Int->Option (Bool)
 |0,_,_=>none
 |m+1,c,a=>
 bif decide (a< (x0.length:Int)) then
 (jn (fun(e:Bool)=>
 bif e then
 (some false)
 else
 (zaO x0 b m c (w64 (a+1)))) fun d=>
 (chM x0 a).bind fun f=>
 bif decide (((UInt8.toNat f:Int):Int)< (32:Int)) then
 (d true)
 else
 ((chM x0 a).bind fun g=>
 d (decide ((126:Int)< ((UInt8.toNat g:Int):Int)))))
 else
 (b c a)
def zb1 (x0:Str):Option (Bool):=
 jn (fun(b:Bool) (c:Int)=>
 some (decide (x0.length<=(12:Int)))) fun a=>
 zaO x0 a (((x0.length:Int)-0).toNat+1) false 0
def za5 (x0:List Str)(b:Bool->Int->Option (Bool)):Nat->Bool->Int->Option (Bool)
 |0,_,_=>none
 |m+1,c,a=>
 bif decide (a< (x0.length:Int)) then
 ((gi x0 a).bind fun d=>
 (Vm.zb1 d).bind fun e=>
 bif(!e) then
 (some false)
 else
 (za5 x0 b m c (w64 (a+1))))
 else
 (b c a)
def zcZ (x0:List Str):Option (Bool):=
 jn (fun(b:Bool) (c:Int)=>
 some (decide (x0.length<=(10:Int)))) fun a=>
 za5 x0 a (((x0.length:Int)-0).toNat+1) false 0
def zaz (x0:List Str)(b:Int)(c:Bool->Int->Option (Bool)):Nat->Bool->Int->Option (Bool)
 |0,_,_=>none
 |m+1,d,a=>
 (gi x0 b).bind fun e=>
 bif decide (a< (e.length:Int)) then
 ((gi x0 b).bind fun f=>
 (chM f a).bind fun g=>
 bif(((UInt8.toNat g:Int):Int)==(124:Int)) then
 (some false)
 else
 (zaz x0 b c m d (w64 (a+1))))
 else
 (c d a)
def zae (x0:List Str)(b:Bool->Int->Option (Bool)):Nat->Bool->Int->Option (Bool)
 |0,_,_=>none
 |m+1,c,a=>
 bif decide (a< (x0.length:Int)) then
 (jn (fun(d:Bool) (f:Int)=>
 zae x0 b m d (w64 (a+1))) fun e=>
 zaz x0 a e (((gi x0 a).getD []).length+1) c 0)
 else
 (b c a)
def zbo (x0:List Str):Option (Bool):=
 jn (fun(c:Bool) (d:Int)=>
 (Vm.zcZ x0).bind fun a=>
 some a) fun b=>
 zae x0 b (((x0.length:Int)-0).toNat+1) false 0
def zbD (x0:Vm.Op):Option (Bool):=
 jn (fun(i:Bool)=>
 bif i then
 (some false)
 else
 (bif(x0.Kind==1) then
 (jn (fun(j:Bool)=>
 some j) fun a=>
 (Vm.zaY x0 true false false true).bind fun k=>
 bif k then
 ((Vm.zbj x0.Path).bind fun l=>
 bif l then
 ((Vm.zbo x0.Text).bind fun m=>
 a m)
 else
 (a false))
 else
 (a false))
 else
 (bif(x0.Kind==2) then
 (jn (fun(n:Bool)=>
 some n) fun c=>
 (Vm.zaY x0 true false false false).bind fun o=>
 bif o then
 ((Vm.zbj x0.Path).bind fun p=>
 c p)
 else
 (c false))
 else
 (bif(x0.Kind==3) then
 (jn (fun(q:Bool)=>
 some q) fun b=>
 (Vm.zaY x0 true true false false).bind fun r=>
 bif r then
 ((Vm.zbj x0.Path).bind fun s=>
 bif s then
 ((Vm.zbj x0.To).bind fun t=>
 b t)
 else
 (b false))
 else
 (b false))
 else
 (jn (fun(u:Bool)=>
 bif u then
 (jn (fun(v:Bool)=>
 some v) fun d=>
 (Vm.zaY x0 false true false false).bind fun w=>
 bif w then
 ((Vm.zbi x0.To).bind fun x=>
 d x)
 else
 (d false))
 else
 (jn (fun(y:Bool)=>
 bif y then
 (jn (fun(z:Bool)=>
 some z) fun e=>
 (Vm.zaY x0 false false true false).bind fun A=>
 bif A then
 ((Vm.zcM x0.At 0 15).bind fun B=>
 e B)
 else
 (e false))
 else
 (some false)) fun f=>
 bif(x0.Kind==6) then
 (f (x0.Kind==6))
 else
 (f (x0.Kind==7)))) fun g=>
 bif(x0.Kind==4) then
 (g (x0.Kind==4))
 else
 (g (x0.Kind==5))))))) fun h=>
 (Vm.zbi x0.Branch).bind fun C=>
 bif(!C) then
 (h true)
 else
 ((Vm.zbi x0.Who).bind fun D=>
 h (!D))
def zbc:Option ((List Str)):=
 some ([([]:Str),([115,101,116]:Str),([100,114,111,112]:Str),([109,111,118,101]:Str),([102,111,114,107]:Str),([117,110,105,116,101]:Str),([112,105,99,107]:Str),([98,97,99,107]:Str)]:List Str)
def spec_l1Dec_r:Nat->Int->Option (Str)
 |0,_=>none
 |m+1,x0=>
 bif decide ((x0:Int)< ((-9223372036854775807):Int)) then
 (some ([45,57,50,50,51,51,55,50,48,51,54,56,53,52,55,55,53,56,48,56]:Str))
 else
 (bif decide (x0< (0:Int)) then
 ((Vm.spec_l1Dec_r m (w64 (0-x0))).bind fun a=>
 (saM ([45]:Str) a).bind fun b=>
 some b)
 else
 (bif decide (x0< (10:Int)) then
 (some (([(by8 (w64 (48+x0)))]:List Byte):Str))
 else
 ((Vm.spec_l1Dec_r m (w64 (Int.tdiv x0 10))).bind fun c=>
 (saM c (([(by8 (w64 (48+(Int.tmod x0 10))))]:List Byte):Str)).bind fun d=>
 some d)))
def zc7 (x0:Int):Option (Str):=
 spec_l1Dec_r (x0.natAbs+2) x0
def zat (x0:Vm.Op)(b:Str->Option (Str)):Nat->Str->Int->Option (Str)
 |0,_,_=>none
 |m+1,c,a=>
 bif decide (a< (x0.Text.length:Int)) then
 ((saM c ([124]:Str)).bind fun d=>
 (gi x0.Text a).bind fun e=>
 (saM d e).bind fun f=>
 zat x0 b m f (w64 (a+1)))
 else
 (b c)
def zbk (x0:Vm.Op):Option (Str):=
 (Vm.zbc).bind fun d=>
 (gi d x0.Kind).bind fun e=>
 (saM e ([32]:Str)).bind fun f=>
 (saM f x0.Branch).bind fun g=>
 (saM g ([32]:Str)).bind fun h=>
 (saM h x0.Who).bind fun a=>
 jn (fun(i:Str)=>
 some i) fun b=>
 bif(x0.Kind==1) then
 ((saM a ([32]:Str)).bind fun j=>
 (saM j x0.Path).bind fun k=>
 (saM k ([32]:Str)).bind fun l=>
 zat x0 b (((x0.Text.length:Int)-0).toNat+1) l 0)
 else
 (bif(x0.Kind==2) then
 ((saM a ([32]:Str)).bind fun m=>
 (saM m x0.Path).bind fun n=>
 b n)
 else
 (bif(x0.Kind==3) then
 ((saM a ([32]:Str)).bind fun o=>
 (saM o x0.Path).bind fun p=>
 (saM p ([32]:Str)).bind fun q=>
 (saM q x0.To).bind fun r=>
 b r)
 else
 (jn (fun(s:Bool)=>
 bif s then
 ((saM a ([32]:Str)).bind fun t=>
 (saM t x0.To).bind fun u=>
 b u)
 else
 ((saM a ([32]:Str)).bind fun v=>
 (Vm.zc7 x0.At).bind fun w=>
 (saM v w).bind fun x=>
 b x)) fun c=>
 bif(x0.Kind==4) then
 (c (x0.Kind==4))
 else
 (c (x0.Kind==5)))))
def zbT (x0:Vm.Op):Option (Str):=
 (Vm.zbD x0).bind fun a=>
 bif(!a) then
 (some ([]:Str))
 else
 ((Vm.zbk x0).bind fun b=>
 some b)
def strings_SplitN (x0:Str)(x1:Str)(x2:Int):Option ((List Str)):=
 if x0.length<=4294967000/\1<=x1.length/\1<=x2/\x2<=1000 then some (Go.Lib.splitK x1 0 (min x2.toNat (x0.length+1)-1) x0) else none
def zbu:Option ((List Str)):=
 some ([([]:Str),([115,101,116]:Str),([100,114,111,112]:Str),([109,111,118,101]:Str),([102,111,114,107]:Str),([117,110,105,116,101]:Str),([112,105,99,107]:Str),([98,97,99,107]:Str)]:List Str)
def zam (x0:List Str)(x1:Str)(b:Int->Int->Option (Int)):Nat->Int->Int->Option (Int)
 |0,_,_=>none
 |m+1,c,a=>
 bif decide (a< (x0.length:Int)) then
 ((gi x0 a).bind fun d=>
 bif(x1==d) then
 (some a)
 else
 (zam x0 x1 b m c (w64 (a+1))))
 else
 (b c a)
def zaf (x0:List Str)(x1:Str):Option (Int):=
 jn (fun(b:Int) (c:Int)=>
 some (-1)) fun a=>
 zam x0 x1 a (((x0.length:Int)-0).toNat+1) 0 0
def strings_Split (x0:Str)(x1:Str):Option ((List Str)):=
 if x0.length<=4294967000/\1<=x1.length then some (Go.Lib.split x0 x1) else none
def strconv_Atoi (x0:Str):Option (Int×Unit):=
 if x0.length<=4294967000 then some (zcu x0,()) else none
def zbP (x0:Int)(x1:Int)(x2:Int):Option (Bool):=
 jn (fun(b:Bool)=>
 some b) fun a=>
 bif decide (x1<=(x0:Int)) then
 (a (decide (x0<=(x2:Int))))
 else
 (a false)
def zbp (x0:Byte):Option (Bool):=
 jn (fun(b:Bool)=>
 some b) fun a=>
 bif decide ((97:Int)<=((UInt8.toNat x0:Int):Int)) then
 (bif decide (((UInt8.toNat x0:Int):Int)<=(122:Int)) then
 (a true)
 else
 (bif decide ((48:Int)<=((UInt8.toNat x0:Int):Int)) then
 (a (decide (((UInt8.toNat x0:Int):Int)<=(57:Int))))
 else
 (a false)))
 else
 (bif decide ((48:Int)<=((UInt8.toNat x0:Int):Int)) then
 (a (decide (((UInt8.toNat x0:Int):Int)<=(57:Int))))
 else
 (a false))
def zaP (x0:Str)(b:Bool->Int->Option (Bool)):Nat->Bool->Int->Option (Bool)
 |0,_,_=>none
 |m+1,c,a=>
 bif decide (a< (x0.length:Int)) then
 ((chM x0 a).bind fun d=>
 (Vm.zbp d).bind fun e=>
 bif(!e) then
 (some false)
 else
 (zaP x0 b m c (w64 (a+1))))
 else
 (b c a)
def zbl (x0:Str):Option (Bool):=
 (Vm.zbP (x0.length:Int) 1 6).bind fun a=>
 bif(!a) then
 (some false)
 else
 (jn (fun(c:Bool) (d:Int)=>
 some true) fun b=>
 zaP x0 b (((x0.length:Int)-0).toNat+1) false 0)
def zaQ (b:(List Str))(c:Bool->Int->Option (Bool)):Nat->Bool->Int->Option (Bool)
 |0,_,_=>none
 |m+1,d,a=>
 bif decide (a< (b.length:Int)) then
 ((gi b a).bind fun e=>
 (Vm.zbl e).bind fun f=>
 bif(!f) then
 (some false)
 else
 (zaQ b c m d (w64 (a+1))))
 else
 (c d a)
def zbm (x0:Str):Option (Bool):=
 (Vm.strings_Split x0 ([47]:Str)).bind fun a=>
 bif decide (3< (a.length:Int)) then
 (some false)
 else
 (jn (fun(c:Bool) (d:Int)=>
 some true) fun b=>
 zaQ a b (((a.length:Int)-0).toNat+1) false 0)
def zaR (x0:Str)(b:Bool->Int->Option (Bool)):Nat->Bool->Int->Option (Bool)
 |0,_,_=>none
 |m+1,c,a=>
 bif decide (a< (x0.length:Int)) then
 (jn (fun(e:Bool)=>
 bif e then
 (some false)
 else
 (zaR x0 b m c (w64 (a+1)))) fun d=>
 (chM x0 a).bind fun f=>
 bif decide (((UInt8.toNat f:Int):Int)< (32:Int)) then
 (d true)
 else
 ((chM x0 a).bind fun g=>
 d (decide ((126:Int)< ((UInt8.toNat g:Int):Int)))))
 else
 (b c a)
def zb2 (x0:Str):Option (Bool):=
 bif decide (12< (x0.length:Int)) then
 (some false)
 else
 (jn (fun(b:Bool) (c:Int)=>
 some true) fun a=>
 zaR x0 a (((x0.length:Int)-0).toNat+1) false 0)
def zaS (x0:List Str)(b:Bool->Int->Option (Bool)):Nat->Bool->Int->Option (Bool)
 |0,_,_=>none
 |m+1,c,a=>
 bif decide (a< (x0.length:Int)) then
 ((gi x0 a).bind fun d=>
 (Vm.zb2 d).bind fun e=>
 bif(!e) then
 (some false)
 else
 (zaS x0 b m c (w64 (a+1))))
 else
 (b c a)
def zb3 (x0:List Str):Option (Bool):=
 bif decide (10< (x0.length:Int)) then
 (some false)
 else
 (jn (fun(b:Bool) (c:Int)=>
 some true) fun a=>
 zaS x0 a (((x0.length:Int)-0).toNat+1) false 0)
def strings_Join (x0:List Str)(x1:Str):Option (Str):=
 if x0.length<=4294967000/\(Go.Lib.join x0 x1).length<=4294967000 then some (Go.Lib.join x0 x1) else none
def strings_Contains (x0:Str)(x1:Str):Option (Bool):=
 if x0.length<=4294967000 then some (Go.Lib.contains x0 x1) else none
def zbv (x0:Vm.Op):Option (Bool):=
 jn (fun(i:Bool)=>
 bif i then
 (some false)
 else
 (bif(x0.Kind==1) then
 (jn (fun(j:Bool)=>
 some j) fun a=>
 (Vm.zbm x0.Path).bind fun k=>
 bif k then
 ((Vm.zb3 x0.Text).bind fun l=>
 bif l then
 ((Vm.strings_Join x0.Text ([]:Str)).bind fun m=>
 (Vm.strings_Contains m ([124]:Str)).bind fun n=>
 bif(!n) then
 (bif(x0.To==([]:Str)) then
 (a (x0.At==0))
 else
 (a false))
 else
 (a false))
 else
 (a false))
 else
 (a false))
 else
 (bif(x0.Kind==2) then
 (jn (fun(o:Bool)=>
 some o) fun b=>
 (Vm.zbm x0.Path).bind fun p=>
 bif p then
 (bif(x0.To==([]:Str)) then
 (bif(x0.At==0) then
 (b ((x0.Text.length:Int)==0))
 else
 (b false))
 else
 (b false))
 else
 (b false))
 else
 (bif(x0.Kind==3) then
 (jn (fun(q:Bool)=>
 some q) fun c=>
 (Vm.zbm x0.Path).bind fun r=>
 bif r then
 ((Vm.zbm x0.To).bind fun s=>
 bif s then
 (bif(x0.At==0) then
 (c ((x0.Text.length:Int)==0))
 else
 (c false))
 else
 (c false))
 else
 (c false))
 else
 (jn (fun(t:Bool)=>
 bif t then
 (jn (fun(u:Bool)=>
 some u) fun d=>
 (Vm.zbl x0.To).bind fun v=>
 bif v then
 (bif(x0.Path==([]:Str)) then
 (bif(x0.At==0) then
 (d ((x0.Text.length:Int)==0))
 else
 (d false))
 else
 (d false))
 else
 (d false))
 else
 (jn (fun(w:Bool)=>
 bif w then
 (jn (fun(x:Bool)=>
 some x) fun e=>
 (Vm.zbP x0.At 0 15).bind fun y=>
 bif y then
 (bif(x0.Path==([]:Str)) then
 (bif(x0.To==([]:Str)) then
 (e ((x0.Text.length:Int)==0))
 else
 (e false))
 else
 (e false))
 else
 (e false))
 else
 (some false)) fun f=>
 bif(x0.Kind==6) then
 (f (x0.Kind==6))
 else
 (f (x0.Kind==7)))) fun g=>
 bif(x0.Kind==4) then
 (g (x0.Kind==4))
 else
 (g (x0.Kind==5))))))) fun h=>
 (Vm.zbl x0.Branch).bind fun z=>
 bif(!z) then
 (h true)
 else
 ((Vm.zbl x0.Who).bind fun A=>
 h (!A))
def zao (x0:List Str)(b:Str->Int->Option (Str)):Nat->Str->Int->Option (Str)
 |0,_,_=>none
 |m+1,c,a=>
 bif decide (a< (x0.length:Int)) then
 ((gi x0 a).bind fun d=>
 (saM ([124]:Str) d).bind fun e=>
 (saM c e).bind fun f=>
 zao x0 b m f (w64 (a+1)))
 else
 (b c a)
def zba (x0:List Str):Option (Str):=
 jn (fun(a:Str) (c:Int)=>
 some a) fun b=>
 zao x0 b (((x0.length:Int)-0).toNat+1) ([]:Str) 0
def strconv_Itoa (x0:Int):Option (Str):=
 if 0<=x0/\x0<100 then some (Go.Lib.decDigits x0.toNat) else none
def zbE (x0:Vm.Op):Option (Str):=
 (Vm.zbu).bind fun c=>
 (gi c x0.Kind).bind fun d=>
 (saM d ([32]:Str)).bind fun e=>
 (saM e x0.Branch).bind fun f=>
 (saM f ([32]:Str)).bind fun g=>
 (saM g x0.Who).bind fun h=>
 (saM h ([32]:Str)).bind fun a=>
 bif(x0.Kind==1) then
 ((saM a x0.Path).bind fun i=>
 (saM i ([32]:Str)).bind fun j=>
 (Vm.zba x0.Text).bind fun k=>
 (saM j k).bind fun l=>
 some l)
 else
 (bif(x0.Kind==2) then
 ((saM a x0.Path).bind fun m=>
 some m)
 else
 (bif(x0.Kind==3) then
 ((saM a x0.Path).bind fun n=>
 (saM n ([32]:Str)).bind fun o=>
 (saM o x0.To).bind fun p=>
 some p)
 else
 (jn (fun(q:Bool)=>
 bif q then
 ((saM a x0.To).bind fun r=>
 some r)
 else
 ((Vm.strconv_Itoa x0.At).bind fun s=>
 (saM a s).bind fun t=>
 some t)) fun b=>
 bif(x0.Kind==4) then
 (b (x0.Kind==4))
 else
 (b (x0.Kind==5)))))
def zcd (x0:Str):Option (Vm.Op×Bool):=
 (Vm.strings_SplitN x0 ([32]:Str) 5).bind fun b=>
 bif decide (b.length< (4:Int)) then
 (some (Vm.Op.mk 0 ([]:Str) ([]:Str) ([]:Str) ([]:Str) 0 ([]:List Str),false))
 else
 ((Vm.zbu).bind fun t=>
 (gi b 0).bind fun u=>
 (Vm.zaf t u).bind fun a=>
 (gi b 1).bind fun c=>
 (gi b 2).bind fun d=>
 jn (fun(f:Int) (g:Str) (h:Str) (i:Str) (j:Str) (k:Int) (l:List Str)=>
 jn (fun(v:Bool)=>
 bif v then
 (some (Vm.Op.mk 0 ([]:Str) ([]:Str) ([]:Str) ([]:Str) 0 ([]:List Str),false))
 else
 (some (Vm.Op.mk f g h i j k l,true))) fun m=>
 (Vm.zbv (Vm.Op.mk f g h i j k l)).bind fun w=>
 bif(!w) then
 (m true)
 else
 ((Vm.zbE (Vm.Op.mk f g h i j k l)).bind fun x=>
 m (x !=x0))) fun e=>
 bif(a==1) then
 ((gi b 3).bind fun n=>
 jn (fun(y:Bool)=>
 bif y then
 ((gi b 4).bind fun z=>
 (Vm.strings_Split z ([124]:Str)).bind fun o=>
 (slM o 1 (o.length:Int)).bind fun A=>
 e a c d n ([]:Str) 0 A)
 else
 (e a c d n ([]:Str) 0 ([]:List Str))) fun p=>
 bif((b.length:Int)==5) then
 ((gi b 4).bind fun B=>
 p (B !=([]:Str)))
 else
 (p false))
 else
 (bif(a==2) then
 ((gi b 3).bind fun C=>
 e a c d C ([]:Str) 0 ([]:List Str))
 else
 (bif(a==3) then
 ((gi b 3).bind fun q=>
 bif((b.length:Int)==5) then
 ((gi b 4).bind fun D=>
 e a c d q D 0 ([]:List Str))
 else
 (e a c d q ([]:Str) 0 ([]:List Str)))
 else
 (jn (fun(E:Bool)=>
 bif E then
 ((gi b 3).bind fun F=>
 e a c d ([]:Str) F 0 ([]:List Str))
 else
 (jn (fun(G:Bool)=>
 bif G then
 ((gi b 3).bind fun H=>
 (Vm.strconv_Atoi H).bind fun I=>
 e a c d ([]:Str) ([]:Str) I.1 ([]:List Str))
 else
 (e a c d ([]:Str) ([]:Str) 0 ([]:List Str))) fun r=>
 bif(a==6) then
 (r (a==6))
 else
 (r (a==7)))) fun s=>
 bif(a==4) then
 (s (a==4))
 else
 (s (a==5))))))
def zaH (x0:List Str)(x1:List Str)(b:Bool->Int->Option (Bool)):Nat->Bool->Int->Option (Bool)
 |0,_,_=>none
 |m+1,c,a=>
 bif decide (a< (x0.length:Int)) then
 ((gi x0 a).bind fun d=>
 (gi x1 a).bind fun e=>
 bif(d !=e) then
 (some false)
 else
 (zaH x0 x1 b m c (w64 (a+1))))
 else
 (b c a)
def zbJ (x0:List Str)(x1:List Str):Option (Bool):=
 bif((x0.length:Int) !=(x1.length:Int)) then
 (some false)
 else
 (jn (fun(b:Bool) (c:Int)=>
 some true) fun a=>
 zaH x0 x1 a (((x0.length:Int)-0).toNat+1) false 0)
def zcq (x0:Vm.Op)(x1:Vm.Op):Option (Bool):=
 jn (fun(b:Bool)=>
 some b) fun a=>
 bif((x0.Kind:Int)==(x1.Kind:Int)) then
 (bif(x0.Branch==x1.Branch) then
 (bif(x0.Who==x1.Who) then
 (bif(x0.Path==x1.Path) then
 (bif(x0.To==x1.To) then
 (bif((x0.At:Int)==(x1.At:Int)) then
 ((Vm.zbJ x0.Text x1.Text).bind fun c=>
 a c)
 else
 (a false))
 else
 (a false))
 else
 (a false))
 else
 (a false))
 else
 (a false))
 else
 (a false)
def zce (x0:Vm.Op):Option (Str):=
 (Vm.zbv x0).bind fun a=>
 bif(!a) then
 (some ([]:Str))
 else
 ((Vm.zbE x0).bind fun b=>
 some b)
end Go.Vm
