/- Models of the functions: plain Lean, printed by a program of ours. Conditions: none. -/
import Derived.Test.YtpijdodljeieaaaGreatDoorBLw
namespace Go.Vm
open Go Go.Sx
set_option linter.unusedVariables false
set_option linter.unusedSimpArgs false
def zfz (x0:List Str):Option ((List Str)):=
 (apM ([]:List Str) x0).bind fun a=>
 some a
def zb1 (x0:List Vm.File)(b:List Vm.File->Int->Option ((List Vm.File))):Nat->List Vm.File->Int->Option ((List Vm.File))
 |0,_,_=>none
 |m+1,c,a=>
 bif decide (a< (x0.length:Int)) then
 ((gi x0 a).bind fun d=>
 (Vm.zfz d.Text).bind fun e=>
 (apM c [Vm.File.mk d.Path e]).bind fun f=>
 zb1 x0 b m f (w64 (a+1)))
 else
 (b c a)
def zeh (x0:List Vm.File):Option ((List Vm.File)):=
 jn (fun(a:List Vm.File) (c:Int)=>
 some a) fun b=>
 zb1 x0 b (((x0.length:Int)-0).toNat+1) ([]:List File) 0
end Go.Vm
