/- Models of the functions: plain Lean, printed by a program of ours. Conditions: none. -/
import Derived.Test.YtjokjcdckcpijaaDoorALw
import Derived.Test.YtjokjcdckcpijaaDoorAM0
namespace Go.Vm
open Go Go.Sx
set_option linter.unusedVariables false
set_option linter.unusedSimpArgs false
def zck (x0:Vm.l30Rd)(x1:Str):Option (Str×Int):=
 (Vm.zad x0 (w64 ((x1.length:Int)+1))).bind fun c=>
 jn (fun(n:Str) (g:Int)=>
 some (x1,g)) fun d=>
 (Vm.zad (Vm.l30Rd.mk x0.b c.2) 5).bind fun a=>
 bif(a.1==0) then
 (bif decide (c.1< (x1.length:Int)) then
 ((slM x1 0 c.1).bind fun h=>
 (slM x1 (w64 (c.1+1)) (x1.length:Int)).bind fun i=>
 (Vm.zal (Vm.l30Rd.mk x0.b a.2) ([([48]:Str),([49]:Str),([32]:Str),([45]:Str),([43]:Str),([10]:Str),([64]:Str),([124]:Str),([120]:Str)]:List Str)).bind fun e=>
 (saM h e.1).bind fun j=>
 (saM j i).bind fun k=>
 some (k,e.2))
 else
 (d ([]:Str) a.2))
 else
 (bif(a.1==1) then
 ((slM x1 0 c.1).bind fun l=>
 some (l,a.2))
 else
 (bif(a.1==2) then
 ((Vm.zal (Vm.l30Rd.mk x0.b a.2) ([([48]:Str),([32]:Str),([10]:Str),([124]:Str),([43,120,10]:Str)]:List Str)).bind fun f=>
 (saM x1 f.1).bind fun m=>
 some (m,f.2))
 else
 (d ([]:Str) a.2)))
def zbL (x0:List Byte):Option (Str):=
 (Vm.zaX x0).bind fun c=>
 (Vm.zcc c).bind fun a=>
 (Vm.zbT (Vm.Op.mk a.1.Kind a.1.Branch a.1.Who a.1.Path a.1.To a.1.At a.1.Text)).bind fun d=>
 (Vm.zad (Vm.l30Rd.mk c.b a.2) 2).bind fun e=>
 bif(e.1==0) then
 (some d)
 else
 ((Vm.zck (Vm.l30Rd.mk c.b e.2) d).bind fun f=>
 some f.1)
def zb0 (x0:Str)(c:Int->Int->Int->Option (Int)):Nat->Int->Int->Int->Option (Int)
 |0,_,_,_=>none
 |m+1,d,e,a=>
 bif decide (a< (x0.length:Int)) then
 (jn (fun(f:Bool)=>
 bif f then
 (some (-1))
 else
 ((chM x0 a).bind fun g=>
 zb0 x0 c m d (w64 ((w64 (e*10))+(w64 (IntKind.u8.wrap ((UInt8.toNat g:Int)-48))))) (w64 (a+1)))) fun b=>
 (chM x0 a).bind fun h=>
 bif decide (((UInt8.toNat h:Int):Int)< (48:Int)) then
 (b true)
 else
 ((chM x0 a).bind fun i=>
 bif decide ((57:Int)< ((UInt8.toNat i:Int):Int)) then
 (b true)
 else
 (b (decide (6<=(a:Int))))))
 else
 (c d e a)
def zbU (x0:Str):Option (Int):=
 jn (fun(f:Int) (b:Int) (g:Int)=>
 jn (fun(c:Bool)=>
 bif c then
 (some (-1))
 else
 (some b)) fun a=>
 bif((x0.length:Int)==0) then
 (a true)
 else
 (bif decide (1< (x0.length:Int)) then
 ((chM x0 0).bind fun d=>
 a (((UInt8.toNat d:Int):Int)==(48:Int)))
 else
 (a false))) fun e=>
 zb0 x0 e (((x0.length:Int)-0).toNat+1) 0 0 0
def zaG (h:(List Str))(i:Int->Int->Str->Str->Str->Str->Int->List Str->Option (Vm.Op×Bool)):Nat->Int->Int->Str->Str->Str->Str->Int->List Str->Option (Vm.Op×Bool)
 |0,_,_,_,_,_,_,_,_=>none
 |m+1,a,j,b,c,d,e,f,g=>
 (Vm.zbc).bind fun l=>
 bif decide (a< (l.length:Int)) then
 (jn (fun(n:Int) (o:Str) (p:Str) (q:Str) (r:Str) (s:Int) (t:List Str)=>
 zaG h i m (w64 (a+1)) n o p q r s t) fun k=>
 (Vm.zbc).bind fun u=>
 (gi u a).bind fun v=>
 (gi h 0).bind fun w=>
 bif(v==w) then
 (k a b c d e f g)
 else
 (k j b c d e f g))
 else
 (i a j b c d e f g)
def zc8 (x0:Str):Option (Vm.Op×Bool):=
 (Vm.zbf x0 (UInt8.ofNatLT 32 (by decide):Byte) 4).bind fun a=>
 bif decide (a.length< (4:Int)) then
 (some (Vm.Op.mk 0 ([]:Str) ([]:Str) ([]:Str) ([]:Str) 0 ([]:List Str),false))
 else
 ((gi a 1).bind fun v=>
 (gi a 2).bind fun w=>
 jn (fun(K:Int) (b:Int) (c:Str) (d:Str) (p:Str) (h:Str) (f:Int) (g:List Str)=>
 jn (fun(q:Str)=>
 jn (fun(i:Int) (j:Str) (k:Str) (l:Str) (m:Str) (n:Int) (o:List Str)=>
 jn (fun(x:Bool)=>
 bif x then
 (some (Vm.Op.mk 0 ([]:Str) ([]:Str) ([]:Str) ([]:Str) 0 ([]:List Str),false))
 else
 (some (Vm.Op.mk i j k l m n o,true))) fun r=>
 (Vm.zbD (Vm.Op.mk i j k l m n o)).bind fun y=>
 bif(!y) then
 (r true)
 else
 ((Vm.zbk (Vm.Op.mk i j k l m n o)).bind fun z=>
 r (z !=x0))) fun e=>
 bif(b==1) then
 ((gi a 3).bind fun A=>
 (Vm.zbf q (UInt8.ofNatLT 124 (by decide):Byte) 11).bind fun s=>
 (slM s 1 (s.length:Int)).bind fun B=>
 e b c d A h f B)
 else
 (bif(b==2) then
 ((gi a 3).bind fun C=>
 e b c d C h f g)
 else
 (bif(b==3) then
 ((gi a 3).bind fun D=>
 e b c d D q f g)
 else
 (jn (fun(E:Bool)=>
 bif E then
 ((gi a 3).bind fun F=>
 e b c d p F f g)
 else
 ((gi a 3).bind fun G=>
 (Vm.zbU G).bind fun H=>
 e b c d p h H g)) fun t=>
 bif(b==4) then
 (t (b==4))
 else
 (t (b==5)))))) fun u=>
 bif((a.length:Int)==5) then
 ((gi a 4).bind fun I=>
 u I)
 else
 (u ([]:Str))) fun J=>
 zaG a J (8) 1 0 v w ([]:Str) ([]:Str) 0 ([]:List Str))
def zcO (x0:List Byte):Option (Bool):=
 bif decide (1048576< (x0.length:Int)) then
 (some true)
 else
 ((Vm.zbL x0).bind fun c=>
 (Vm.zcd c).bind fun a=>
 (Vm.zc8 c).bind fun b=>
 jn (fun(f:Bool)=>
 bif f then
 (jn (fun(g:Bool)=>
 some g) fun e=>
 bif(a.2==b.2) then
 ((Vm.zcq (Vm.Op.mk a.1.Kind a.1.Branch a.1.Who a.1.Path a.1.To a.1.At a.1.Text) b.1).bind fun h=>
 e h)
 else
 (e false))
 else
 ((Vm.zce (Vm.Op.mk a.1.Kind a.1.Branch a.1.Who a.1.Path a.1.To a.1.At a.1.Text)).bind fun i=>
 some (i==c))) fun d=>
 bif(a.2 !=b.2) then
 (d true)
 else
 ((Vm.zcq (Vm.Op.mk a.1.Kind a.1.Branch a.1.Who a.1.Path a.1.To a.1.At a.1.Text) b.1).bind fun j=>
 bif(!j) then
 (d true)
 else
 (d (!a.2))))
end Go.Vm
