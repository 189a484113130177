/- Models of the functions: plain Lean, printed by a program of ours. Conditions: none. -/
import Derived.Test.YtjokjcdckcpijaaDoorALw
import Derived.Test.YtjokjcdckcpijaaDoorAM0
namespace Go.Vm
open Go Go.Sx
set_option linter.unusedVariables false
set_option linter.unusedSimpArgs false
def zbZ (x0:Vm.l30Rd):Option (Vm.Op×Int):=
 (Vm.zcc x0).bind fun a=>
 jn (fun(h:Int) (i:Int) (j:Str) (k:Str) (l:Str) (m:Str) (n:Int) (o:List Str)=>
 some (Vm.Op.mk i j k l m n o,h)) fun d=>
 (Vm.zad (Vm.l30Rd.mk x0.b a.2) 16).bind fun c=>
 bif(c.1==0) then
 ((Vm.zaL (Vm.l30Rd.mk x0.b c.2) ([0,8,1]:List Int)).bind fun e=>
 d e.2 e.1 a.1.Branch a.1.Who a.1.Path a.1.To a.1.At a.1.Text)
 else
 (bif(c.1==1) then
 ((Vm.zal (Vm.l30Rd.mk x0.b c.2) ([([]:Str),([77,97,105,110]:Str)]:List Str)).bind fun f=>
 d f.2 a.1.Kind f.1 a.1.Who a.1.Path a.1.To a.1.At a.1.Text)
 else
 (bif(c.1==2) then
 ((apM a.1.Text ([([97,124,98]:Str)])).bind fun p=>
 d c.2 a.1.Kind a.1.Branch a.1.Who a.1.Path a.1.To a.1.At p)
 else
 (bif(c.1==3) then
 ((Vm.zaL (Vm.l30Rd.mk x0.b c.2) ([(-1),16]:List Int)).bind fun g=>
 d g.2 a.1.Kind a.1.Branch a.1.Who a.1.Path a.1.To g.1 a.1.Text)
 else
 (d c.2 a.1.Kind a.1.Branch a.1.Who a.1.Path a.1.To a.1.At a.1.Text))))
def zbK (x0:List Byte):Option (Vm.Op):=
 (Vm.zaX x0).bind fun b=>
 (Vm.zbZ b).bind fun a=>
 some (Vm.Op.mk a.1.Kind a.1.Branch a.1.Who a.1.Path a.1.To a.1.At a.1.Text)
def zdi (x0:Vm.Op):Option (Bool):=
 (Vm.zbD x0).bind fun a=>
 some a
def zcN (x0:List Byte):Option (Bool):=
 bif decide (1048576< (x0.length:Int)) then
 (some true)
 else
 ((Vm.zbK x0).bind fun a=>
 (Vm.zce (Vm.Op.mk a.Kind a.Branch a.Who a.Path a.To a.At a.Text)).bind fun c=>
 jn (fun(g:Bool)=>
 bif g then
 (jn (fun(h:Bool)=>
 some h) fun d=>
 (Vm.zbT (Vm.Op.mk a.Kind a.Branch a.Who a.Path a.To a.At a.Text)).bind fun i=>
 bif(c==i) then
 ((Vm.zbv (Vm.Op.mk a.Kind a.Branch a.Who a.Path a.To a.At a.Text)).bind fun j=>
 (Vm.zdi (Vm.Op.mk a.Kind a.Branch a.Who a.Path a.To a.At a.Text)).bind fun k=>
 bif(j==k) then
 ((Vm.zbv (Vm.Op.mk a.Kind a.Branch a.Who a.Path a.To a.At a.Text)).bind fun l=>
 d (!l))
 else
 (d false))
 else
 (d false))
 else
 ((Vm.zcd c).bind fun b=>
 jn (fun(m:Bool)=>
 some m) fun f=>
 bif b.2 then
 ((Vm.zcq (Vm.Op.mk b.1.Kind b.1.Branch b.1.Who b.1.Path b.1.To b.1.At b.1.Text) (Vm.Op.mk a.Kind a.Branch a.Who a.Path a.To a.At a.Text)).bind fun n=>
 f n)
 else
 (f false))) fun e=>
 (Vm.zbT (Vm.Op.mk a.Kind a.Branch a.Who a.Path a.To a.At a.Text)).bind fun o=>
 bif(c !=o) then
 (e true)
 else
 ((Vm.zbv (Vm.Op.mk a.Kind a.Branch a.Who a.Path a.To a.At a.Text)).bind fun p=>
 (Vm.zdi (Vm.Op.mk a.Kind a.Branch a.Who a.Path a.To a.At a.Text)).bind fun q=>
 bif(p !=q) then
 (e true)
 else
 (e (c==([]:Str)))))
end Go.Vm
