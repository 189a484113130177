/- Models of the functions: plain Lean, printed by a program of ours. Conditions: none. -/
import Derived.Test.YtpijdodljeieaaaGreatDoorALw
import Derived.Test.YtpijdodljeieaaaGreatDoorAM0
namespace Go.Vm
open Go Go.Sx
set_option linter.unusedVariables false
set_option linter.unusedSimpArgs false
def zdS (x0:Vm.Repo)(x1:Str)(b:Int->Int->Option (Int)):Nat->Int->Int->Option (Int)
 |0,_,_=>none
 |m+1,c,a=>
 bif decide (a< (x0.Heads.length:Int)) then
 ((gi x0.Heads a).bind fun d=>
 bif(d.Name==x1) then
 (some d.At)
 else
 (zdS x0 x1 b m c (w64 (a+1))))
 else
 (b c a)
def zgD (x0:Vm.Repo)(x1:Str):Option (Int):=
 jn (fun(b:Int) (c:Int)=>
 some (-1)) fun a=>
 zdS x0 x1 a (((x0.Heads.length:Int)-0).toNat+1) 0 0
def zdn (x0:List Vm.File)(b:List Vm.File->Int->Option ((List Vm.File))):Nat->List Vm.File->Int->Option ((List Vm.File))
 |0,_,_=>none
 |m+1,c,a=>
 bif decide (a< (x0.length:Int)) then
 ((gi x0 a).bind fun d=>
 (Vm.zdY d.Text).bind fun e=>
 (apM c [Vm.File.mk d.Path e]).bind fun f=>
 zdn x0 b m f (w64 (a+1)))
 else
 (b c a)
def zf3 (x0:List Vm.File):Option ((List Vm.File)):=
 jn (fun(a:List Vm.File) (c:Int)=>
 some a) fun b=>
 zdn x0 b (((x0.length:Int)-0).toNat+1) ([]:List File) 0
def zdo (x0:Vm.Repo)(c:Int->List Vm.Commit->List Vm.Head->Option (Vm.Repo)):Nat->Int->List Vm.Commit->List Vm.Head->Option (Vm.Repo)
 |0,_,_,_=>none
 |m+1,a,d,e=>
 bif decide (a< (x0.Commits.length:Int)) then
 ((gi x0.Commits a).bind fun b=>
 (apM ([]:List Int) b.Parents).bind fun f=>
 (Vm.zf3 b.Tree).bind fun g=>
 (apM d [Vm.Commit.mk f b.Who g]).bind fun h=>
 zdo x0 c m (w64 (a+1)) h e)
 else
 (c a d e)
def zdZ (x0:Vm.Repo):Option (Vm.Repo):=
 (apM ([]:List Head) x0.Heads).bind fun a=>
 jn (fun(e:Int) (b:List Vm.Commit) (c:List Vm.Head)=>
 some (Vm.Repo.mk b c)) fun d=>
 zdo x0 d (((x0.Commits.length:Int)-0).toNat+1) 0 ([]:List Commit) a
def zdT (x0:List Str)(x1:List Str)(b:Bool->Int->Option (Bool)):Nat->Bool->Int->Option (Bool)
 |0,_,_=>none
 |m+1,c,a=>
 bif decide (a< (x0.length:Int)) then
 ((gi x0 a).bind fun d=>
 (gi x1 a).bind fun e=>
 bif(d !=e) then
 (some false)
 else
 (zdT x0 x1 b m c (w64 (a+1))))
 else
 (b c a)
def zhC (x0:List Str)(x1:List Str):Option (Bool):=
 bif((x0.length:Int) !=(x1.length:Int)) then
 (some false)
 else
 (jn (fun(b:Bool) (c:Int)=>
 some true) fun a=>
 zdT x0 x1 a (((x0.length:Int)-0).toNat+1) false 0)
def zen (x0:List Vm.File)(x1:List Vm.File)(b:Bool->Int->Option (Bool)):Nat->Bool->Int->Option (Bool)
 |0,_,_=>none
 |m+1,c,a=>
 bif decide (a< (x0.length:Int)) then
 (jn (fun(e:Bool)=>
 bif e then
 (some false)
 else
 (zen x0 x1 b m c (w64 (a+1)))) fun d=>
 (gi x0 a).bind fun f=>
 (gi x1 a).bind fun g=>
 bif(f.Path !=g.Path) then
 (d true)
 else
 ((gi x0 a).bind fun h=>
 (gi x1 a).bind fun i=>
 (Vm.zhC h.Text i.Text).bind fun j=>
 d (!j)))
 else
 (b c a)
def zh2 (x0:List Vm.File)(x1:List Vm.File):Option (Bool):=
 bif((x0.length:Int) !=(x1.length:Int)) then
 (some false)
 else
 (jn (fun(b:Bool) (c:Int)=>
 some true) fun a=>
 zen x0 x1 a (((x0.length:Int)-0).toNat+1) false 0)
def zgy (x0:Vm.Commit)(x1:Vm.Commit):Option (Bool):=
 jn (fun(b:Bool)=>
 some b) fun a=>
 bif(x0.Who==x1.Who) then
 ((Vm.zdy x0.Parents x1.Parents).bind fun c=>
 bif c then
 ((Vm.zh2 x0.Tree x1.Tree).bind fun d=>
 a d)
 else
 (a false))
 else
 (a false)
def zeo (x0:Vm.Repo)(x1:Vm.Repo)(b:Bool->Int->Option (Bool)):Nat->Bool->Int->Option (Bool)
 |0,_,_=>none
 |m+1,c,a=>
 bif decide (a< (x0.Heads.length:Int)) then
 ((gi x0.Heads a).bind fun d=>
 (gi x1.Heads a).bind fun e=>
 bif(!(d.Name==e.Name&&d.At==e.At)) then
 (some false)
 else
 (zeo x0 x1 b m c (w64 (a+1))))
 else
 (b c a)
def zep (x0:Vm.Repo)(x1:Vm.Repo)(b:Bool->Int->Option (Bool)):Nat->Bool->Int->Option (Bool)
 |0,_,_=>none
 |m+1,c,a=>
 bif decide (a< (x0.Commits.length:Int)) then
 ((gi x0.Commits a).bind fun d=>
 (gi x1.Commits a).bind fun e=>
 (Vm.zgy d e).bind fun f=>
 bif(!f) then
 (some false)
 else
 (zep x0 x1 b m c (w64 (a+1))))
 else
 (b c a)
def zff (x0:Vm.Repo)(x1:Vm.Repo):Option (Bool):=
 jn (fun(b:Bool)=>
 bif b then
 (some false)
 else
 (jn (fun(c:Bool) (f:Int)=>
 jn (fun(g:Bool) (h:Int)=>
 some true) fun d=>
 zeo x0 x1 d (((x0.Heads.length:Int)-0).toNat+1) c 0) fun e=>
 zep x0 x1 e (((x0.Commits.length:Int)-0).toNat+1) false 0)) fun a=>
 bif((x0.Commits.length:Int) !=(x1.Commits.length:Int)) then
 (a true)
 else
 (a ((x0.Heads.length:Int) !=(x1.Heads.length:Int)))
def zgo (x0:Vm.Repo)(x1:Str):Option (Int):=
 (Vm.zct x0).bind fun a=>
 bif(!a) then
 (some (-1))
 else
 ((Vm.zgD x0 x1).bind fun b=>
 some b)
end Go.Vm
