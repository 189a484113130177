/- Models of the functions: plain Lean, printed by a program of ours. Conditions: none. -/
import Derived.Test.YtifbmanldeabeaaGreatDoorCLw
import Derived.Test.YtifbmanldeabeaaGreatDoorCM0
namespace Go.Vm
open Go Go.Sx
set_option linter.unusedVariables false
set_option linter.unusedSimpArgs false
def zkO (x0:List Int)(x1:Int):Option (Int):=
 bif decide ((w64 (x1-(x0.length:Int)):Int)< (0:Int)) then
 (some (-1))
 else
 (some (w64 (x1-(x0.length:Int))))
def zc7 (x0:List Str)(c:Int->Int->Int->Option (Int)):Nat->Int->Int->Int->Option (Int)
 |0,_,_,_=>none
 |m+1,b,d,a=>
 bif decide (a< (x0.length:Int)) then
 ((gi x0 a).bind fun e=>
 bif decide ((w64 (b-(e.length:Int)):Int)< (0:Int)) then
 (some (-1))
 else
 (zc7 x0 c m (w64 (b-(e.length:Int))) d (w64 (a+1))))
 else
 (c b d a)
def zeY (x0:List Str)(x1:Int):Option (Int):=
 bif decide ((w64 (x1-(x0.length:Int)):Int)< (0:Int)) then
 (some (-1))
 else
 (jn (fun(a:Int) (c:Int) (d:Int)=>
 some a) fun b=>
 zc7 x0 b (((x0.length:Int)-0).toNat+1) (w64 (x1-(x0.length:Int))) 0 0)
def zkP (x0:Vm.File)(x1:Int):Option (Int):=
 bif decide ((w64 (x1-(x0.Path.length:Int)):Int)< (0:Int)) then
 (some (-1))
 else
 ((Vm.zeY x0.Text (w64 (x1-(x0.Path.length:Int)))).bind fun a=>
 bif decide (a< (0:Int)) then
 (some (-1))
 else
 (some a))
def zgo (x0:List Vm.File)(b:Int->Int->Int->Option (Int)):Nat->Int->Int->Int->Option (Int)
 |0,_,_,_=>none
 |m+1,c,d,a=>
 bif decide (a< (x0.length:Int)) then
 ((gi x0 a).bind fun f=>
 (Vm.zkP f c).bind fun e=>
 bif decide (e< (0:Int)) then
 (some (-1))
 else
 (zgo x0 b m e d (w64 (a+1))))
 else
 (b c d a)
def zjW (x0:List Vm.File)(x1:Int):Option (Int):=
 bif decide ((w64 (x1-(x0.length:Int)):Int)< (0:Int)) then
 (some (-1))
 else
 (jn (fun(a:Int) (c:Int) (d:Int)=>
 some a) fun b=>
 zgo x0 b (((x0.length:Int)-0).toNat+1) (w64 (x1-(x0.length:Int))) 0 0)
def zi5 (x0:Vm.Commit)(x1:Int):Option (Int):=
 (Vm.zkO x0.Parents x1).bind fun a=>
 bif decide (a< (0:Int)) then
 (some (-1))
 else
 (bif decide ((w64 (a-(x0.Who.length:Int)):Int)< (0:Int)) then
 (some (-1))
 else
 ((Vm.zjW x0.Tree (w64 (a-(x0.Who.length:Int)))).bind fun b=>
 bif decide (b< (0:Int)) then
 (some (-1))
 else
 (some b)))
def zeK (x0:List Vm.Commit)(b:Int->Int->Int->Option (Int)):Nat->Int->Int->Int->Option (Int)
 |0,_,_,_=>none
 |m+1,c,d,a=>
 bif decide (a< (x0.length:Int)) then
 ((gi x0 a).bind fun f=>
 (Vm.zi5 f c).bind fun e=>
 bif decide (e< (0:Int)) then
 (some (-1))
 else
 (zeK x0 b m e d (w64 (a+1))))
 else
 (b c d a)
def zh9 (x0:List Vm.Commit)(x1:Int):Option (Int):=
 bif decide ((w64 (x1-(x0.length:Int)):Int)< (0:Int)) then
 (some (-1))
 else
 (jn (fun(a:Int) (c:Int) (d:Int)=>
 some a) fun b=>
 zeK x0 b (((x0.length:Int)-0).toNat+1) (w64 (x1-(x0.length:Int))) 0 0)
def zkQ (x0:Vm.Head)(x1:Int):Option (Int):=
 bif decide ((w64 (x1-(x0.Name.length:Int)):Int)< (0:Int)) then
 (some (-1))
 else
 (some (w64 (x1-(x0.Name.length:Int))))
def zgp (x0:List Vm.Head)(b:Int->Int->Int->Option (Int)):Nat->Int->Int->Int->Option (Int)
 |0,_,_,_=>none
 |m+1,c,d,a=>
 bif decide (a< (x0.length:Int)) then
 ((gi x0 a).bind fun f=>
 (Vm.zkQ f c).bind fun e=>
 bif decide (e< (0:Int)) then
 (some (-1))
 else
 (zgp x0 b m e d (w64 (a+1))))
 else
 (b c d a)
def zjX (x0:List Vm.Head)(x1:Int):Option (Int):=
 bif decide ((w64 (x1-(x0.length:Int)):Int)< (0:Int)) then
 (some (-1))
 else
 (jn (fun(a:Int) (c:Int) (d:Int)=>
 some a) fun b=>
 zgp x0 b (((x0.length:Int)-0).toNat+1) (w64 (x1-(x0.length:Int))) 0 0)
def zkR (x0:Vm.Repo)(x1:Int):Option (Int):=
 (Vm.zh9 x0.Commits x1).bind fun a=>
 bif decide (a< (0:Int)) then
 (some (-1))
 else
 ((Vm.zjX x0.Heads a).bind fun b=>
 bif decide (b< (0:Int)) then
 (some (-1))
 else
 (some b))
def zjY (x0:Vm.Owner)(x1:Int):Option (Int):=
 bif decide ((w64 (x1-(x0.Path.length:Int)):Int)< (0:Int)) then
 (some (-1))
 else
 (bif decide ((w64 ((w64 (x1-(x0.Path.length:Int)))-(x0.Who.length:Int)):Int)< (0:Int)) then
 (some (-1))
 else
 (some (w64 ((w64 (x1-(x0.Path.length:Int)))-(x0.Who.length:Int)))))
def zfD (x0:List Vm.Owner)(b:Int->Int->Int->Option (Int)):Nat->Int->Int->Int->Option (Int)
 |0,_,_,_=>none
 |m+1,c,d,a=>
 bif decide (a< (x0.length:Int)) then
 ((gi x0 a).bind fun f=>
 (Vm.zjY f c).bind fun e=>
 bif decide (e< (0:Int)) then
 (some (-1))
 else
 (zfD x0 b m e d (w64 (a+1))))
 else
 (b c d a)
def zi6 (x0:List Vm.Owner)(x1:Int):Option (Int):=
 bif decide ((w64 (x1-(x0.length:Int)):Int)< (0:Int)) then
 (some (-1))
 else
 (jn (fun(a:Int) (c:Int) (d:Int)=>
 some a) fun b=>
 zfD x0 b (((x0.length:Int)-0).toNat+1) (w64 (x1-(x0.length:Int))) 0 0)
def zi7 (x0:Vm.Review)(x1:Int):Option (Int):=
 bif decide ((w64 (x1-(x0.Branch.length:Int)):Int)< (0:Int)) then
 (some (-1))
 else
 (bif decide ((w64 ((w64 (x1-(x0.Branch.length:Int)))-(x0.Into.length:Int)):Int)< (0:Int)) then
 (some (-1))
 else
 (bif decide ((w64 ((w64 ((w64 (x1-(x0.Branch.length:Int)))-(x0.Into.length:Int)))-(x0.By.length:Int)):Int)< (0:Int)) then
 (some (-1))
 else
 ((Vm.zeY x0.Yes (w64 ((w64 ((w64 (x1-(x0.Branch.length:Int)))-(x0.Into.length:Int)))-(x0.By.length:Int)))).bind fun a=>
 bif decide (a< (0:Int)) then
 (some (-1))
 else
 (some a))))
def zg4 (x0:List Int)(c:Int->List Int->Option ((List Int))):Nat->Int->List Int->Option ((List Int))
 |0,_,_=>none
 |m+1,a,b=>
 bif decide (a< (x0.length:Int)) then
 ((gi x0 a).bind fun d=>
 (gi b a).bind fun f=>
 (siM b a d).bind fun e=>
 zg4 x0 c m (w64 (a+1)) e)
 else
 (c a b)
def zkS (x0:List Int):Option ((List Int)):=
 (mkM (x0.length:Int) (0:Int)).bind fun a=>
 jn (fun(d:Int) (b:List Int)=>
 some b) fun c=>
 zg4 x0 c (((x0.length:Int)-0).toNat+1) 0 a
def zc8 (x0:List Str)(c:Int->List Str->Option ((List Str))):Nat->Int->List Str->Option ((List Str))
 |0,_,_=>none
 |m+1,a,b=>
 bif decide (a< (x0.length:Int)) then
 ((gi x0 a).bind fun d=>
 (gi b a).bind fun f=>
 (siM b a d).bind fun e=>
 zc8 x0 c m (w64 (a+1)) e)
 else
 (c a b)
def zeZ (x0:List Str):Option ((List Str)):=
 (mkM (x0.length:Int) (([]:Str):Str)).bind fun a=>
 jn (fun(d:Int) (b:List Str)=>
 some b) fun c=>
 zc8 x0 c (((x0.length:Int)-0).toNat+1) 0 a
def zkT (x0:Vm.File):Option (Vm.File):=
 (Vm.zeZ x0.Text).bind fun a=>
 some (Vm.File.mk x0.Path a)
def zgq (x0:List Vm.File)(c:Int->List Vm.File->Option ((List Vm.File))):Nat->Int->List Vm.File->Option ((List Vm.File))
 |0,_,_=>none
 |m+1,a,b=>
 bif decide (a< (x0.length:Int)) then
 ((gi x0 a).bind fun e=>
 (Vm.zkT e).bind fun d=>
 (gi b a).bind fun g=>
 (siM b a (Vm.File.mk d.Path d.Text)).bind fun f=>
 zgq x0 c m (w64 (a+1)) f)
 else
 (c a b)
def zjZ (x0:List Vm.File):Option ((List Vm.File)):=
 (mkM (x0.length:Int) (Vm.File.mk ([]:Str) ([]:List Str):File)).bind fun a=>
 jn (fun(d:Int) (b:List Vm.File)=>
 some b) fun c=>
 zgq x0 c (((x0.length:Int)-0).toNat+1) 0 a
def zi8 (x0:Vm.Commit):Option (Vm.Commit):=
 (Vm.zkS x0.Parents).bind fun a=>
 (Vm.zjZ x0.Tree).bind fun b=>
 some (Vm.Commit.mk a x0.Who b)
def zeL (x0:List Vm.Commit)(d:Int->List Vm.Commit->Option ((List Vm.Commit))):Nat->Int->List Vm.Commit->Option ((List Vm.Commit))
 |0,_,_=>none
 |m+1,a,b=>
 bif decide (a< (x0.length:Int)) then
 ((gi x0 a).bind fun e=>
 (Vm.zi8 e).bind fun c=>
 (gi b a).bind fun g=>
 (siM b a (Vm.Commit.mk c.Parents c.Who c.Tree)).bind fun f=>
 zeL x0 d m (w64 (a+1)) f)
 else
 (d a b)
def zia (x0:List Vm.Commit):Option ((List Vm.Commit)):=
 (mkM (x0.length:Int) (Vm.Commit.mk ([]:List Int) ([]:Str) ([]:List File):Commit)).bind fun a=>
 jn (fun(d:Int) (b:List Vm.Commit)=>
 some b) fun c=>
 zeL x0 c (((x0.length:Int)-0).toNat+1) 0 a
def zkU (x0:Vm.Head):Option (Vm.Head):=
 some (Vm.Head.mk x0.Name x0.At)
def zgr (x0:List Vm.Head)(c:Int->List Vm.Head->Option ((List Vm.Head))):Nat->Int->List Vm.Head->Option ((List Vm.Head))
 |0,_,_=>none
 |m+1,a,b=>
 bif decide (a< (x0.length:Int)) then
 ((gi x0 a).bind fun d=>
 (Vm.zkU d).bind fun e=>
 (gi b a).bind fun g=>
 (siM b a e).bind fun f=>
 zgr x0 c m (w64 (a+1)) f)
 else
 (c a b)
def zj0 (x0:List Vm.Head):Option ((List Vm.Head)):=
 (mkM (x0.length:Int) (Vm.Head.mk ([]:Str) 0:Head)).bind fun a=>
 jn (fun(d:Int) (b:List Vm.Head)=>
 some b) fun c=>
 zgr x0 c (((x0.length:Int)-0).toNat+1) 0 a
def zhK (x0:Vm.Repo):Option (Vm.Repo):=
 (Vm.zia x0.Commits).bind fun a=>
 (Vm.zj0 x0.Heads).bind fun b=>
 some (Vm.Repo.mk a b)
def zj1 (x0:Vm.Owner):Option (Vm.Owner):=
 some (Vm.Owner.mk x0.Path x0.Who)
def zfE (x0:List Vm.Owner)(c:Int->List Vm.Owner->Option ((List Vm.Owner))):Nat->Int->List Vm.Owner->Option ((List Vm.Owner))
 |0,_,_=>none
 |m+1,a,b=>
 bif decide (a< (x0.length:Int)) then
 ((gi x0 a).bind fun d=>
 (Vm.zj1 d).bind fun e=>
 (gi b a).bind fun g=>
 (siM b a e).bind fun f=>
 zfE x0 c m (w64 (a+1)) f)
 else
 (c a b)
def zfV (x0:List Vm.Owner):Option ((List Vm.Owner)):=
 (mkM (x0.length:Int) (Vm.Owner.mk ([]:Str) ([]:Str):Owner)).bind fun a=>
 jn (fun(d:Int) (b:List Vm.Owner)=>
 some b) fun c=>
 zfE x0 c (((x0.length:Int)-0).toNat+1) 0 a
def zfW (x0:Vm.Review):Option (Vm.Review):=
 (Vm.zeZ x0.Yes).bind fun a=>
 some (Vm.Review.mk x0.Branch x0.Into x0.By a)
def zff (x0:Vm.Repo)(x1:List Vm.Owner)(x2:Vm.Review):Option (Vm.Repo×Int):=
 (Vm.zcK x0).bind fun f=>
 bif(!f) then
 (some (Vm.Repo.mk ([]:List Commit) ([]:List Head),1))
 else
 ((Vm.zdq x0 x1 x2).bind fun a=>
 bif(!a.2) then
 ((Vm.zbn x0).bind fun b=>
 some (Vm.Repo.mk b.Commits b.Heads,1))
 else
 (bif decide (0< (a.1.length:Int)) then
 ((Vm.zbn x0).bind fun c=>
 some (Vm.Repo.mk c.Commits c.Heads,6))
 else
 ((Vm.zbn x0).bind fun d=>
 (Vm.zcB x0 x2.Branch).bind fun g=>
 (Vm.zeg (Vm.Repo.mk d.Commits d.Heads) x2.Into x2.By g).bind fun e=>
 some (e.1,e.2))))
def zdt (x0:List Vm.File)(b:List Vm.File->Int->Option ((List Vm.File))):Nat->List Vm.File->Int->Option ((List Vm.File))
 |0,_,_=>none
 |m+1,c,a=>
 bif decide (a< (x0.length:Int)) then
 ((gi x0 a).bind fun d=>
 (Vm.zbZ d.Text).bind fun e=>
 (apM c [Vm.File.mk d.Path e]).bind fun f=>
 zdt x0 b m f (w64 (a+1)))
 else
 (b c a)
def zdm (x0:List Vm.File):Option ((List Vm.File)):=
 jn (fun(a:List Vm.File) (c:Int)=>
 some a) fun b=>
 zdt x0 b (((x0.length:Int)-0).toNat+1) ([]:List File) 0
def zdu (x0:Vm.Repo)(c:Int->List Vm.Commit->List Vm.Head->Option (Vm.Repo)):Nat->Int->List Vm.Commit->List Vm.Head->Option (Vm.Repo)
 |0,_,_,_=>none
 |m+1,a,d,e=>
 bif decide (a< (x0.Commits.length:Int)) then
 ((gi x0.Commits a).bind fun b=>
 (apM ([]:List Int) b.Parents).bind fun f=>
 (Vm.zdm b.Tree).bind fun g=>
 (apM d [Vm.Commit.mk f b.Who g]).bind fun h=>
 zdu x0 c m (w64 (a+1)) h e)
 else
 (c a d e)
def zbs (x0:Vm.Repo):Option (Vm.Repo):=
 (apM ([]:List Head) x0.Heads).bind fun a=>
 jn (fun(e:Int) (b:List Vm.Commit) (c:List Vm.Head)=>
 some (Vm.Repo.mk b c)) fun d=>
 zdu x0 d (((x0.Commits.length:Int)-0).toNat+1) 0 ([]:List Commit) a
def zbb (x0:List Vm.Head)(x1:Int)(x2:Vm.Head):Option ((List Vm.Head)):=
 if 0<=x1/\x1<=x0.length/\x0.length+1<=lim then some (x0.take x1.toNat++[x2]++x0.drop x1.toNat) else none
def zdL (x0:List Vm.Head)(x1:Vm.Head)(b:Int->Option ((List Vm.Head))):Nat->Int->Option ((List Vm.Head))
 |0,_=>none
 |m+1,a=>
 jn (fun(e:Bool)=>
 bif e then
 (zdL x0 x1 b m (w64 (a-1)))
 else
 (b a)) fun c=>
 bif decide (0< (a:Int)) then
 ((gi x0 (w64 (a-1))).bind fun d=>
 c (!(Op.bytesLess d.Name x1.Name||d.Name==x1.Name)))
 else
 (c false)
def zfg (x0:List Vm.Head)(x1:Vm.Head):Option ((List Vm.Head)):=
 jn (fun(a:Int)=>
 (apM ([]:List Head) x0).bind fun b=>
 (Vm.zbb b a x1).bind fun c=>
 some c) fun d=>
 zdL x0 x1 d (x0.length+1) (x0.length:Int)
def zbm (x0:Vm.Repo)(x1:Str)(x2:Int)(c:Int->List Vm.Commit->List Vm.Head->List Vm.Head->Option (Vm.Repo)):Nat->Int->List Vm.Commit->List Vm.Head->List Vm.Head->Option (Vm.Repo)
 |0,_,_,_,_=>none
 |m+1,a,d,e,b=>
 bif decide (a< (x0.Heads.length:Int)) then
 ((gi b a).bind fun f=>
 bif(f.Name==x1) then
 ((gi b a).bind fun g=>
 (siM b a (Vm.Head.mk g.Name x2)).bind fun h=>
 some (Vm.Repo.mk x0.Commits h))
 else
 (zbm x0 x1 x2 c m (w64 (a+1)) d e b))
 else
 (c a d e b)
def zbw (x0:Vm.Repo)(x1:Str)(x2:Int):Option (Vm.Repo):=
 jn (fun(d:Int) (e:List Vm.Commit) (f:List Vm.Head) (a:List Vm.Head)=>
 (Vm.zfg a (Vm.Head.mk x1 x2)).bind fun b=>
 some (Vm.Repo.mk x0.Commits b)) fun c=>
 zbm x0 x1 x2 c (((x0.Heads.length:Int)-0).toNat+1) 0 ([]:List Commit) ([]:List Head) x0.Heads
def zfX (x0:List Vm.File)(x1:List Vm.File)(x2:List Vm.File):Option (Bool):=
 jn (fun(b:Bool)=>
 some b) fun a=>
 (Vm.zcG x0).bind fun c=>
 bif c then
 ((Vm.zcG x1).bind fun d=>
 bif d then
 ((Vm.zcG x2).bind fun e=>
 a e)
 else
 (a false))
 else
 (a false)
def zdv (b:List Vm.File)(c:List Str->Int->Option ((List Str))):Nat->List Str->Int->Option ((List Str))
 |0,_,_=>none
 |m+1,d,a=>
 bif decide (a< (b.length:Int)) then
 ((gi b a).bind fun e=>
 (apM d [e.Path]).bind fun f=>
 zdv b c m f (w64 (a+1)))
 else
 (c d a)
def zbT (x0:List (List Vm.File))(b:List Str->Int->Option ((List Str))):Nat->List Str->Int->Option ((List Str))
 |0,_,_=>none
 |m+1,c,a=>
 bif decide (a< (x0.length:Int)) then
 ((gi x0 a).bind fun d=>
 jn (fun(e:List Str) (g:Int)=>
 zbT x0 b m e (w64 (a+1))) fun f=>
 zdv d f (((d.length:Int)-0).toNat+1) c 0)
 else
 (b c a)
def zgS (x0:List (List Vm.File)):Option ((List Str)):=
 jn (fun(a:List Str) (e:Int)=>
 (Vm.zat a).bind fun b=>
 (Vm.za5 b).bind fun c=>
 some c) fun d=>
 zbT x0 d (((x0.length:Int)-0).toNat+1) ([]:List Str) 0
def zib (x0:List Vm.File)(x1:Str):Option (Vm.has):=
 (Vm.zgR x0 x1).bind fun a=>
 some (Vm.has.mk a.1 a.2)
def ze0 (x0:Vm.has)(x1:Vm.has):Option (Bool):=
 jn (fun(b:Bool)=>
 some b) fun a=>
 bif(x0.file==x1.file) then
 ((Vm.zaE x0.text x1.text).bind fun c=>
 a c)
 else
 (a false)
def zgT (x0:List Str)(x1:List Str)(x2:List Str):Option (Bool):=
 jn (fun(b:Bool)=>
 some b) fun a=>
 (Vm.zco x0).bind fun c=>
 bif c then
 ((Vm.zco x1).bind fun d=>
 bif d then
 ((Vm.zco x2).bind fun e=>
 a e)
 else
 (a false))
 else
 (a false)
def zcM (x0:List Str)(x1:List Vm.Part):Option ((List Vm.Part)):=
 bif((x0.length:Int)==0) then
 (some x1)
 else
 (jn (fun(b:Int) (c:List Vm.Part)=>
 (gi c b).bind fun a=>
 (apM a.Lines x0).bind fun f=>
 (gi c b).bind fun k=>
 (siM c b (Vm.Part.mk a.Clash f a.Old a.One a.Two)).bind fun g=>
 some g) fun d=>
 jn (fun(h:Bool)=>
 bif h then
 ((apM x1 ([Vm.Part.mk false ([]:List Str) ([]:List Str) ([]:List Str) ([]:List Str)])).bind fun i=>
 d (w64 ((w64 ((x1.length:Int)-1))+1)) i)
 else
 (d (w64 ((x1.length:Int)-1)) x1)) fun e=>
 bif decide ((w64 ((x1.length:Int)-1):Int)< (0:Int)) then
 (e true)
 else
 ((gi x1 (w64 ((x1.length:Int)-1))).bind fun j=>
 e j.Clash))
def zbL (x0:List Str)(x1:List Str)(x2:List Str)(b:List Int)(d:List Int)(l:Int->Int->Int->Int->List Vm.Part->Option ((List Vm.Part))):Nat->Int->Int->Int->Int->List Vm.Part->Option ((List Vm.Part))
 |0,_,_,_,_,_=>none
 |m+1,g,h,i,a,c=>
 bif decide (a< (b.length:Int)) then
 (jn (fun(s:Int) (t:Int) (u:Int) (v:List Vm.Part)=>
 zbL x0 x1 x2 b d l m s t u (w64 (a+1)) v) fun n=>
 jn (fun(w:Bool)=>
 bif w then
 (n g h i c)
 else
 ((slM x0 g a).bind fun j=>
 (gi b a).bind fun x=>
 (slM x1 h x).bind fun e=>
 (gi d a).bind fun y=>
 (slM x2 i y).bind fun f=>
 jn (fun(o:List Vm.Part)=>
 jn (fun(z:List Vm.Part)=>
 (gi b a).bind fun A=>
 (gi d a).bind fun B=>
 n (w64 (a+1)) (w64 (A+1)) (w64 (B+1)) z) fun p=>
 bif decide (a< (x0.length:Int)) then
 ((slM x0 a (w64 (a+1))).bind fun C=>
 (Vm.zcM C o).bind fun D=>
 p D)
 else
 (p o)) fun k=>
 jn (fun(E:Bool)=>
 bif E then
 ((Vm.zcM f c).bind fun F=>
 k F)
 else
 ((Vm.zaE f j).bind fun G=>
 bif G then
 ((Vm.zcM e c).bind fun H=>
 k H)
 else
 ((Vm.zbZ j).bind fun I=>
 (Vm.zbZ e).bind fun J=>
 (Vm.zbZ f).bind fun K=>
 (apM c ([Vm.Part.mk true ([]:List Str) I J K])).bind fun L=>
 k L))) fun q=>
 (Vm.zaE e j).bind fun M=>
 bif M then
 (q true)
 else
 ((Vm.zaE e f).bind fun N=>
 q N))) fun r=>
 (gi b a).bind fun P=>
 bif decide (P< (0:Int)) then
 (r true)
 else
 ((gi d a).bind fun Q=>
 r (decide (Q< (0:Int)))))
 else
 (l g h i a c)
def zhy (x0:List Str)(x1:List Str)(x2:List Str):Option ((List Vm.Part)):=
 (Vm.zgG x0 x1).bind fun b=>
 (apM b [(x1.length:Int)]).bind fun a=>
 (Vm.zgG x0 x2).bind fun c=>
 (apM c [(x2.length:Int)]).bind fun d=>
 jn (fun(g:Int) (h:Int) (i:Int) (j:Int) (e:List Vm.Part)=>
 some e) fun f=>
 zbL x0 x1 x2 a d f (((a.length:Int)-0).toNat+1) 0 0 0 0 ([]:List Part)
def zgh (x0:Vm.Part):Option ((List Str)×Bool):=
 some (([]:List Str),false)
def zaH (b:(List Vm.Part))(f:List Str->Bool->List Str->Int->Option ((List Str)×Bool)):Nat->List Str->Bool->List Str->Int->Option ((List Str)×Bool)
 |0,_,_,_,_=>none
 |m+1,c,d,g,a=>
 bif decide (a< (b.length:Int)) then
 ((gi b a).bind fun e=>
 jn (fun(j:List Str) (k:Bool) (l:List Str)=>
 (apM g l).bind fun n=>
 zaH b f m j k n (w64 (a+1))) fun h=>
 bif e.Clash then
 ((Vm.zgh e).bind fun i=>
 bif(!i.2) then
 (some (([]:List Str),false))
 else
 (h c d i.1))
 else
 (h c d e.Lines))
 else
 (f c d g a)
def zbM (x0:List Str)(x1:List Str)(x2:List Str):Option ((List Str)×Bool):=
 (Vm.zgT x0 x1 x2).bind fun c=>
 bif(!c) then
 (some (([]:List Str),false))
 else
 ((Vm.zhy x0 x1 x2).bind fun a=>
 jn (fun(f:List Str) (g:Bool) (b:List Str) (h:Int)=>
 (Vm.zco b).bind fun d=>
 bif(!d) then
 (some (([]:List Str),false))
 else
 (some (b,true))) fun e=>
 zaH a e (((a.length:Int)-0).toNat+1) ([]:List Str) false ([]:List Str) 0)
def zf9 (x0:List Str)(x1:List Str)(x2:List Str):Option ((List Str)×Bool):=
 (Vm.zbM x0 x1 x2).bind fun a=>
 some (a.1,a.2)
def ziV (x0:Vm.has)(x1:Vm.has)(x2:Vm.has):Option (Vm.has×Int):=
 jn (fun(d:Bool)=>
 bif d then
 (some (x2,0))
 else
 ((Vm.ze0 x2 x0).bind fun e=>
 bif e then
 (some (x1,0))
 else
 (jn (fun(f:Bool)=>
 bif f then
 (some (x0,1))
 else
 (bif(!x0.file) then
 (some (x0,2))
 else
 ((Vm.zf9 x0.text x1.text x2.text).bind fun a=>
 bif(!a.2) then
 (some (x0,3))
 else
 (some (Vm.has.mk a.1 true,0))))) fun b=>
 bif(!x1.file) then
 (b true)
 else
 (b (!x2.file))))) fun c=>
 (Vm.ze0 x1 x0).bind fun g=>
 bif g then
 (c true)
 else
 ((Vm.ze0 x1 x2).bind fun h=>
 c h)
def zek (x0:List Vm.File)(x1:List Vm.File)(x2:List Vm.File)(d:(List Str))(g:List Vm.File->List Vm.Clash->Int->Option ((List Vm.File)×(List Vm.Clash))):Nat->List Vm.File->List Vm.Clash->Int->Option ((List Vm.File)×(List Vm.Clash))
 |0,_,_,_=>none
 |m+1,e,f,b=>
 bif decide (b< (d.length:Int)) then
 (jn (fun(o:List Vm.File) (p:List Vm.Clash)=>
 zek x0 x1 x2 d g m o p (w64 (b+1))) fun h=>
 (gi d b).bind fun a=>
 (Vm.zib x0 a).bind fun i=>
 (Vm.zib x1 a).bind fun j=>
 (Vm.zib x2 a).bind fun k=>
 (Vm.ziV (Vm.has.mk i.text i.file) (Vm.has.mk j.text j.file) (Vm.has.mk k.text k.file)).bind fun c=>
 jn (fun(l:List Vm.Clash)=>
 bif c.1.file then
 ((apM e [Vm.File.mk a c.1.text]).bind fun q=>
 h q l)
 else
 (h e l)) fun n=>
 bif(c.2 !=0) then
 ((apM f [Vm.Clash.mk a c.2]).bind fun r=>
 n r)
 else
 (n f))
 else
 (g e f b)
def ziW (x0:List Vm.File)(x1:List Vm.File)(x2:List Vm.File):Option ((List Vm.File)×(List Vm.Clash)):=
 (Vm.zfX x0 x1 x2).bind fun e=>
 bif(!e) then
 (some (([]:List File),([]:List Clash)))
 else
 ((Vm.zgS ([x0,x1,x2]:List (List File))).bind fun a=>
 jn (fun(b:List Vm.File) (c:List Vm.Clash) (j:Int)=>
 jn (fun(f:Bool)=>
 bif f then
 ((Vm.zdm x0).bind fun g=>
 some (g,([Vm.Clash.mk ([]:Str) 4]:List Clash)))
 else
 (some (b,c))) fun d=>
 bif((c.length:Int)==0) then
 ((Vm.zcG b).bind fun h=>
 d (!h))
 else
 (d false)) fun i=>
 zek x0 x1 x2 a i (((a.length:Int)-0).toNat+1) ([]:List File) ([]:List Clash) 0)
def zdW (x0:List Vm.File)(x1:List Vm.File)(x2:List Vm.File):Option ((List Vm.File)×Bool):=
 (Vm.zfX x0 x1 x2).bind fun b=>
 bif(!b) then
 (some (([]:List File),false))
 else
 ((Vm.ziW x0 x1 x2).bind fun a=>
 bif decide (0< (a.2.length:Int)) then
 (some (([]:List File),false))
 else
 (some (a.1,true)))
def zbU (x0:Vm.Repo)(x1:Str)(x2:Str)(x3:List Vm.File)(x4:List Int):Option (Vm.Repo):=
 (Vm.zdm x3).bind fun c=>
 (apM x0.Commits [Vm.Commit.mk x4 x2 c]).bind fun a=>
 (Vm.zbw (Vm.Repo.mk a x0.Heads) x1 (w64 ((a.length:Int)-1))).bind fun b=>
 some (Vm.Repo.mk b.Commits b.Heads)
def zb7 (x0:Vm.Repo)(x1:Vm.Repo):Option (Vm.Repo×Bool):=
 (Vm.zfC (Vm.Repo.mk x1.Commits x1.Heads)).bind fun b=>
 bif(!b) then
 ((Vm.zbs x0).bind fun a=>
 some (Vm.Repo.mk a.Commits a.Heads,false))
 else
 (some (Vm.Repo.mk x1.Commits x1.Heads,true))
def zfh (x0:Vm.Repo)(x1:Str)(x2:Str)(x3:Int):Option (Vm.Repo×Int):=
 (Vm.zdr x0 x1).bind fun a=>
 jn (fun(l:Bool)=>
 bif l then
 ((Vm.zbs x0).bind fun d=>
 some (Vm.Repo.mk d.Commits d.Heads,1))
 else
 ((Vm.zaQ x0 a).bind fun m=>
 (gi m x3).bind fun n=>
 bif n then
 ((Vm.zbs x0).bind fun e=>
 some (Vm.Repo.mk e.Commits e.Heads,2))
 else
 ((Vm.zaQ x0 x3).bind fun o=>
 (gi o a).bind fun p=>
 bif p then
 ((Vm.zbs x0).bind fun f=>
 (Vm.zbw (Vm.Repo.mk f.Commits f.Heads) x1 x3).bind fun g=>
 some (Vm.Repo.mk g.Commits g.Heads,3))
 else
 ((Vm.zbA x0 a x3).bind fun q=>
 (Vm.zbr x0 a).bind fun r=>
 (Vm.zbr x0 x3).bind fun s=>
 (Vm.zdW q r s).bind fun h=>
 bif(!h.2) then
 ((Vm.zbs x0).bind fun i=>
 some (Vm.Repo.mk i.Commits i.Heads,4))
 else
 ((Vm.zbs x0).bind fun j=>
 (Vm.zbU (Vm.Repo.mk j.Commits j.Heads) x1 x2 h.1 ([a,x3]:List Int)).bind fun k=>
 (Vm.zb7 x0 (Vm.Repo.mk k.Commits k.Heads)).bind fun b=>
 bif(!b.2) then
 (some (Vm.Repo.mk b.1.Commits b.1.Heads,5))
 else
 (some (Vm.Repo.mk b.1.Commits b.1.Heads,0))))))) fun c=>
 bif decide (a< (0:Int)) then
 (c true)
 else
 ((Vm.zcF x2).bind fun t=>
 bif(!t) then
 (c true)
 else
 ((Vm.zch x0 x3).bind fun u=>
 c (!u)))
def zet (x0:Vm.Repo)(x1:List Vm.Owner)(x2:Vm.Review):Option (Vm.Repo×Int):=
 (Vm.zfC x0).bind fun e=>
 bif(!e) then
 (some (Vm.Repo.mk ([]:List Commit) ([]:List Head),1))
 else
 ((Vm.zbK x0 x1 x2).bind fun b=>
 bif(!b.2) then
 ((Vm.zbs x0).bind fun c=>
 some (Vm.Repo.mk c.Commits c.Heads,1))
 else
 (bif decide (0< (b.1.length:Int)) then
 ((Vm.zbs x0).bind fun d=>
 some (Vm.Repo.mk d.Commits d.Heads,6))
 else
 ((Vm.zdr x0 x2.Branch).bind fun f=>
 (Vm.zfh x0 x2.Into x2.By f).bind fun a=>
 some (Vm.Repo.mk a.1.Commits a.1.Heads,a.2))))
def zg5 (x0:List Int)(x1:List Int)(b:Bool->Int->Option (Bool)):Nat->Bool->Int->Option (Bool)
 |0,_,_=>none
 |m+1,c,a=>
 bif decide (a< (x0.length:Int)) then
 ((gi x0 a).bind fun d=>
 (gi x1 a).bind fun e=>
 bif((d:Int) !=(e:Int)) then
 (some false)
 else
 (zg5 x0 x1 b m c (w64 (a+1))))
 else
 (b c a)
def zkV (x0:List Int)(x1:List Int):Option (Bool):=
 bif((x0.length:Int) !=(x1.length:Int)) then
 (some false)
 else
 (jn (fun(b:Bool) (c:Int)=>
 some true) fun a=>
 zg5 x0 x1 a (((x0.length:Int)-0).toNat+1) false 0)
def zc9 (x0:List Str)(x1:List Str)(b:Bool->Int->Option (Bool)):Nat->Bool->Int->Option (Bool)
 |0,_,_=>none
 |m+1,c,a=>
 bif decide (a< (x0.length:Int)) then
 ((gi x0 a).bind fun d=>
 (gi x1 a).bind fun e=>
 bif(d !=e) then
 (some false)
 else
 (zc9 x0 x1 b m c (w64 (a+1))))
 else
 (b c a)
def ze1 (x0:List Str)(x1:List Str):Option (Bool):=
 bif((x0.length:Int) !=(x1.length:Int)) then
 (some false)
 else
 (jn (fun(b:Bool) (c:Int)=>
 some true) fun a=>
 zc9 x0 x1 a (((x0.length:Int)-0).toNat+1) false 0)
def zkW (x0:Vm.File)(x1:Vm.File):Option (Bool):=
 bif(x0.Path !=x1.Path) then
 (some false)
 else
 ((Vm.ze1 x0.Text x1.Text).bind fun a=>
 bif(!a) then
 (some false)
 else
 (some true))
def zgs (x0:List Vm.File)(x1:List Vm.File)(b:Bool->Int->Option (Bool)):Nat->Bool->Int->Option (Bool)
 |0,_,_=>none
 |m+1,c,a=>
 bif decide (a< (x0.length:Int)) then
 ((gi x0 a).bind fun d=>
 (gi x1 a).bind fun e=>
 (Vm.zkW d e).bind fun f=>
 bif(!f) then
 (some false)
 else
 (zgs x0 x1 b m c (w64 (a+1))))
 else
 (b c a)
def zj2 (x0:List Vm.File)(x1:List Vm.File):Option (Bool):=
 bif((x0.length:Int) !=(x1.length:Int)) then
 (some false)
 else
 (jn (fun(b:Bool) (c:Int)=>
 some true) fun a=>
 zgs x0 x1 a (((x0.length:Int)-0).toNat+1) false 0)
def zi9 (x0:Vm.Commit)(x1:Vm.Commit):Option (Bool):=
 (Vm.zkV x0.Parents x1.Parents).bind fun a=>
 bif(!a) then
 (some false)
 else
 (bif(x0.Who !=x1.Who) then
 (some false)
 else
 ((Vm.zj2 x0.Tree x1.Tree).bind fun b=>
 bif(!b) then
 (some false)
 else
 (some true)))
def zeM (x0:List Vm.Commit)(x1:List Vm.Commit)(b:Bool->Int->Option (Bool)):Nat->Bool->Int->Option (Bool)
 |0,_,_=>none
 |m+1,c,a=>
 bif decide (a< (x0.length:Int)) then
 ((gi x0 a).bind fun d=>
 (gi x1 a).bind fun e=>
 (Vm.zi9 d e).bind fun f=>
 bif(!f) then
 (some false)
 else
 (zeM x0 x1 b m c (w64 (a+1))))
 else
 (b c a)
def zic (x0:List Vm.Commit)(x1:List Vm.Commit):Option (Bool):=
 bif((x0.length:Int) !=(x1.length:Int)) then
 (some false)
 else
 (jn (fun(b:Bool) (c:Int)=>
 some true) fun a=>
 zeM x0 x1 a (((x0.length:Int)-0).toNat+1) false 0)
def zkX (x0:Vm.Head)(x1:Vm.Head):Option (Bool):=
 bif(x0.Name !=x1.Name) then
 (some false)
 else
 (bif((x0.At:Int) !=(x1.At:Int)) then
 (some false)
 else
 (some true))
def zgt (x0:List Vm.Head)(x1:List Vm.Head)(b:Bool->Int->Option (Bool)):Nat->Bool->Int->Option (Bool)
 |0,_,_=>none
 |m+1,c,a=>
 bif decide (a< (x0.length:Int)) then
 ((gi x0 a).bind fun d=>
 (gi x1 a).bind fun e=>
 (Vm.zkX d e).bind fun f=>
 bif(!f) then
 (some false)
 else
 (zgt x0 x1 b m c (w64 (a+1))))
 else
 (b c a)
def zj3 (x0:List Vm.Head)(x1:List Vm.Head):Option (Bool):=
 bif((x0.length:Int) !=(x1.length:Int)) then
 (some false)
 else
 (jn (fun(b:Bool) (c:Int)=>
 some true) fun a=>
 zgt x0 x1 a (((x0.length:Int)-0).toNat+1) false 0)
def zhL (x0:Vm.Repo)(x1:Vm.Repo):Option (Bool):=
 (Vm.zic x0.Commits x1.Commits).bind fun a=>
 bif(!a) then
 (some false)
 else
 ((Vm.zj3 x0.Heads x1.Heads).bind fun b=>
 bif(!b) then
 (some false)
 else
 (some true))
def zj4 (x0:Vm.Owner)(x1:Vm.Owner):Option (Bool):=
 bif(x0.Path !=x1.Path) then
 (some false)
 else
 (bif(x0.Who !=x1.Who) then
 (some false)
 else
 (some true))
def zfF (x0:List Vm.Owner)(x1:List Vm.Owner)(b:Bool->Int->Option (Bool)):Nat->Bool->Int->Option (Bool)
 |0,_,_=>none
 |m+1,c,a=>
 bif decide (a< (x0.length:Int)) then
 ((gi x0 a).bind fun d=>
 (gi x1 a).bind fun e=>
 (Vm.zj4 d e).bind fun f=>
 bif(!f) then
 (some false)
 else
 (zfF x0 x1 b m c (w64 (a+1))))
 else
 (b c a)
def zja (x0:List Vm.Owner)(x1:List Vm.Owner):Option (Bool):=
 bif((x0.length:Int) !=(x1.length:Int)) then
 (some false)
 else
 (jn (fun(b:Bool) (c:Int)=>
 some true) fun a=>
 zfF x0 x1 a (((x0.length:Int)-0).toNat+1) false 0)
def zjb (x0:Vm.Review)(x1:Vm.Review):Option (Bool):=
 bif(x0.Branch !=x1.Branch) then
 (some false)
 else
 (bif(x0.Into !=x1.Into) then
 (some false)
 else
 (bif(x0.By !=x1.By) then
 (some false)
 else
 ((Vm.ze1 x0.Yes x1.Yes).bind fun a=>
 bif(!a) then
 (some false)
 else
 (some true))))
def zfG (d:Int->Int->List Int->Option (Int×(List Int))):Nat->Int->Int->List Int->Option (Int×(List Int))
 |0,_,_,_=>none
 |m+1,c,a,b=>
 bif decide (a< (b.length:Int)) then
 ((gi b a).bind fun f=>
 (siM b a c).bind fun e=>
 zfG d m (w64 (c+1)) (w64 (a+1)) e)
 else
 (d c a b)
def zjc (x0:List Int)(x1:Int):Option (Int×(List Int)):=
 jn (fun(a:Int) (d:Int) (b:List Int)=>
 some (a,b)) fun c=>
 zfG c (((x0.length:Int)-0).toNat+1) x1 0 x0
def zez (b:Int->Str->Option (Str)):Nat->Int->Str->Option (Str)
 |0,_,_=>none
 |m+1,a,c=>
 bif decide (0< (a:Int)) then
 ((saM (([(by8 (w64 (48+(Int.tmod a 10))))]:List Byte):Str) c).bind fun d=>
 zez b m (w64 (Int.tdiv a 10)) d)
 else
 (b a c)
def zbg (x0:Int):Option (Str):=
 bif decide (x0<=(0:Int)) then
 (some ([109,48]:Str))
 else
 (jn (fun(d:Int) (a:Str)=>
 (saM ([109]:Str) a).bind fun b=>
 some b) fun c=>
 zez c ((x0-0).toNat+1) x0 ([]:Str))
def zb8 (d:Int->Int->List Str->Option (Int×(List Str))):Nat->Int->Int->List Str->Option (Int×(List Str))
 |0,_,_,_=>none
 |m+1,c,a,b=>
 bif decide (a< (b.length:Int)) then
 ((Vm.zbg c).bind fun e=>
 (gi b a).bind fun g=>
 (siM b a e).bind fun f=>
 zb8 d m (w64 (c+1)) (w64 (a+1)) f)
 else
 (d c a b)
def zdw (x0:List Str)(x1:Int):Option (Int×(List Str)):=
 jn (fun(a:Int) (d:Int) (b:List Str)=>
 some (a,b)) fun c=>
 zb8 c (((x0.length:Int)-0).toNat+1) x1 0 x0
def zeN (d:Int->Int->List Vm.File->Option (Int×(List Vm.File))):Nat->Int->Int->List Vm.File->Option (Int×(List Vm.File))
 |0,_,_,_=>none
 |m+1,c,a,b=>
 bif decide (a< (b.length:Int)) then
 ((Vm.zbg c).bind fun h=>
 (gi b a).bind fun i=>
 (siM b a (Vm.File.mk h i.Text)).bind fun e=>
 (gi e a).bind fun f=>
 (Vm.zdw f.Text (w64 (c+1))).bind fun g=>
 (siM e a (Vm.File.mk f.Path g.2)).bind fun j=>
 zeN d m g.1 (w64 (a+1)) j)
 else
 (d c a b)
def zid (x0:List Vm.File)(x1:Int):Option (Int×(List Vm.File)):=
 jn (fun(a:Int) (d:Int) (b:List Vm.File)=>
 some (a,b)) fun c=>
 zeN c (((x0.length:Int)-0).toNat+1) x1 0 x0
def zd0 (f:Int->Int->List Vm.Commit->Option (Int×(List Vm.Commit))):Nat->Int->Int->List Vm.Commit->Option (Int×(List Vm.Commit))
 |0,_,_,_=>none
 |m+1,g,a,b=>
 bif decide (a< (b.length:Int)) then
 ((gi b a).bind fun c=>
 (Vm.zjc c.Parents g).bind fun d=>
 (siM b a (Vm.Commit.mk d.2 c.Who c.Tree)).bind fun h=>
 (Vm.zbg d.1).bind fun l=>
 (gi h a).bind fun i=>
 (siM h a (Vm.Commit.mk i.Parents l i.Tree)).bind fun j=>
 (gi j a).bind fun e=>
 (Vm.zid e.Tree (w64 (d.1+1))).bind fun k=>
 (siM j a (Vm.Commit.mk e.Parents e.Who k.2)).bind fun n=>
 zd0 f m k.1 (w64 (a+1)) n)
 else
 (f g a b)
def zgH (x0:List Vm.Commit)(x1:Int):Option (Int×(List Vm.Commit)):=
 jn (fun(a:Int) (d:Int) (b:List Vm.Commit)=>
 some (a,b)) fun c=>
 zd0 c (((x0.length:Int)-0).toNat+1) x1 0 x0
def zeO (d:Int->Int->List Vm.Head->Option (Int×(List Vm.Head))):Nat->Int->Int->List Vm.Head->Option (Int×(List Vm.Head))
 |0,_,_,_=>none
 |m+1,b,a,c=>
 bif decide (a< (c.length:Int)) then
 ((Vm.zbg b).bind fun f=>
 (gi c a).bind fun g=>
 (siM c a (Vm.Head.mk f g.At)).bind fun e=>
 (gi e a).bind fun h=>
 (siM e a (Vm.Head.mk h.Name (w64 (b+1)))).bind fun i=>
 zeO d m (w64 ((w64 (b+1))+1)) (w64 (a+1)) i)
 else
 (d b a c)
def zie (x0:List Vm.Head)(x1:Int):Option (Int×(List Vm.Head)):=
 jn (fun(a:Int) (d:Int) (b:List Vm.Head)=>
 some (a,b)) fun c=>
 zeO c (((x0.length:Int)-0).toNat+1) x1 0 x0
def zhM (x0:Vm.Repo)(x1:Int):Option (Int×Vm.Repo):=
 (Vm.zgH x0.Commits x1).bind fun a=>
 (Vm.zie x0.Heads a.1).bind fun b=>
 some (b.1,Vm.Repo.mk a.2 b.2)
def zeu (d:Int->Int->List Vm.Owner->Option (Int×(List Vm.Owner))):Nat->Int->Int->List Vm.Owner->Option (Int×(List Vm.Owner))
 |0,_,_,_=>none
 |m+1,b,a,c=>
 bif decide (a< (c.length:Int)) then
 ((Vm.zbg b).bind fun f=>
 (gi c a).bind fun g=>
 (siM c a (Vm.Owner.mk f g.Who)).bind fun e=>
 (Vm.zbg (w64 (b+1))).bind fun h=>
 (gi e a).bind fun i=>
 (siM e a (Vm.Owner.mk i.Path h)).bind fun j=>
 zeu d m (w64 ((w64 (b+1))+1)) (w64 (a+1)) j)
 else
 (d b a c)
def zhu (x0:List Vm.Owner)(x1:Int):Option (Int×(List Vm.Owner)):=
 jn (fun(a:Int) (d:Int) (b:List Vm.Owner)=>
 some (a,b)) fun c=>
 zeu c (((x0.length:Int)-0).toNat+1) x1 0 x0
def zhv (x0:Vm.Review)(x1:Int):Option (Int×Vm.Review):=
 (Vm.zdw x0.Yes x1).bind fun a=>
 some (a.1,Vm.Review.mk x0.Branch x0.Into x0.By a.2)
def zfH (x0:List Int)(c:Int->Int->Int->Option (Int)):Nat->Int->Int->Int->Option (Int)
 |0,_,_,_=>none
 |m+1,b,d,a=>
 bif decide (a< (x0.length:Int)) then
 ((gi x0 a).bind fun e=>
 bif((e:Int) !=(b:Int)) then
 (some (-1))
 else
 (zfH x0 c m (w64 (b+1)) d (w64 (a+1))))
 else
 (c b d a)
def zjd (x0:List Int)(x1:Int):Option (Int):=
 jn (fun(a:Int) (c:Int) (d:Int)=>
 some a) fun b=>
 zfH x0 b (((x0.length:Int)-0).toNat+1) x1 0 0
def zb9 (x0:List Str)(c:Int->Int->Int->Option (Int)):Nat->Int->Int->Int->Option (Int)
 |0,_,_,_=>none
 |m+1,b,d,a=>
 bif decide (a< (x0.length:Int)) then
 ((gi x0 a).bind fun e=>
 (Vm.zbg b).bind fun f=>
 bif(e !=f) then
 (some (-1))
 else
 (zb9 x0 c m (w64 (b+1)) d (w64 (a+1))))
 else
 (c b d a)
def zeA (x0:List Str)(x1:Int):Option (Int):=
 jn (fun(a:Int) (c:Int) (d:Int)=>
 some a) fun b=>
 zb9 x0 b (((x0.length:Int)-0).toNat+1) x1 0 0
def zeP (x0:List Vm.File)(c:Int->Int->Int->Option (Int)):Nat->Int->Int->Int->Option (Int)
 |0,_,_,_=>none
 |m+1,b,d,a=>
 bif decide (a< (x0.length:Int)) then
 ((gi x0 a).bind fun f=>
 (Vm.zbg b).bind fun g=>
 bif(f.Path !=g) then
 (some (-1))
 else
 ((gi x0 a).bind fun h=>
 (Vm.zeA h.Text (w64 (b+1))).bind fun e=>
 bif decide (e< (0:Int)) then
 (some (-1))
 else
 (zeP x0 c m e d (w64 (a+1)))))
 else
 (c b d a)
def zif (x0:List Vm.File)(x1:Int):Option (Int):=
 jn (fun(a:Int) (c:Int) (d:Int)=>
 some a) fun b=>
 zeP x0 b (((x0.length:Int)-0).toNat+1) x1 0 0
def zd1 (x0:List Vm.Commit)(c:Int->Int->Int->Option (Int)):Nat->Int->Int->Int->Option (Int)
 |0,_,_,_=>none
 |m+1,d,e,a=>
 bif decide (a< (x0.length:Int)) then
 ((gi x0 a).bind fun g=>
 (Vm.zjd g.Parents d).bind fun b=>
 bif decide (b< (0:Int)) then
 (some (-1))
 else
 ((gi x0 a).bind fun h=>
 (Vm.zbg b).bind fun i=>
 bif(h.Who !=i) then
 (some (-1))
 else
 ((gi x0 a).bind fun j=>
 (Vm.zif j.Tree (w64 (b+1))).bind fun f=>
 bif decide (f< (0:Int)) then
 (some (-1))
 else
 (zd1 x0 c m f e (w64 (a+1))))))
 else
 (c d e a)
def zgI (x0:List Vm.Commit)(x1:Int):Option (Int):=
 jn (fun(a:Int) (c:Int) (d:Int)=>
 some a) fun b=>
 zd1 x0 b (((x0.length:Int)-0).toNat+1) x1 0 0
def zeQ (x0:List Vm.Head)(c:Int->Int->Int->Option (Int)):Nat->Int->Int->Int->Option (Int)
 |0,_,_,_=>none
 |m+1,b,d,a=>
 bif decide (a< (x0.length:Int)) then
 ((gi x0 a).bind fun e=>
 (Vm.zbg b).bind fun f=>
 bif(e.Name !=f) then
 (some (-1))
 else
 ((gi x0 a).bind fun g=>
 bif((g.At:Int) !=(w64 (b+1):Int)) then
 (some (-1))
 else
 (zeQ x0 c m (w64 ((w64 (b+1))+1)) d (w64 (a+1)))))
 else
 (c b d a)
def zig (x0:List Vm.Head)(x1:Int):Option (Int):=
 jn (fun(a:Int) (c:Int) (d:Int)=>
 some a) fun b=>
 zeQ x0 b (((x0.length:Int)-0).toNat+1) x1 0 0
def zhN (x0:Vm.Repo)(x1:Int):Option (Int):=
 (Vm.zgI x0.Commits x1).bind fun a=>
 bif decide (a< (0:Int)) then
 (some (-1))
 else
 ((Vm.zig x0.Heads a).bind fun b=>
 bif decide (b< (0:Int)) then
 (some (-1))
 else
 (some b))
def zdj (x0:Vm.Repo)(x1:List Vm.Owner)(x2:Vm.Review):Option (Bool):=
 (Vm.zkR x0 1048576).bind fun l=>
 bif decide (l< (0:Int)) then
 (some true)
 else
 ((Vm.zi6 x1 l).bind fun m=>
 bif decide (m< (0:Int)) then
 (some true)
 else
 ((Vm.zi7 x2 m).bind fun u=>
 bif decide (u< (0:Int)) then
 (some true)
 else
 ((Vm.zhK x0).bind fun n=>
 (Vm.zfV x1).bind fun v=>
 (Vm.zfW x2).bind fun f=>
 (Vm.zff (Vm.Repo.mk n.Commits n.Heads) v (Vm.Review.mk f.Branch f.Into f.By f.Yes)).bind fun c=>
 (Vm.zhK x0).bind fun d=>
 (Vm.zfV x1).bind fun i=>
 (Vm.zfW x2).bind fun a=>
 (Vm.zet (Vm.Repo.mk d.Commits d.Heads) i (Vm.Review.mk a.Branch a.Into a.By a.Yes)).bind fun b=>
 jn (fun(w:Bool)=>
 bif w then
 (some false)
 else
 ((Vm.zhK x0).bind fun o=>
 (Vm.zhL (Vm.Repo.mk d.Commits d.Heads) (Vm.Repo.mk o.Commits o.Heads)).bind fun x=>
 bif(!x) then
 (some false)
 else
 ((Vm.zfV x1).bind fun y=>
 (Vm.zja i y).bind fun z=>
 bif(!z) then
 (some false)
 else
 ((Vm.zfW x2).bind fun g=>
 (Vm.zjb (Vm.Review.mk a.Branch a.Into a.By a.Yes) (Vm.Review.mk g.Branch g.Into g.By g.Yes)).bind fun A=>
 bif(!A) then
 (some false)
 else
 ((Vm.zhM (Vm.Repo.mk d.Commits d.Heads) 1).bind fun B=>
 (Vm.zhu i B.1).bind fun C=>
 (Vm.zhv (Vm.Review.mk a.Branch a.Into a.By a.Yes) C.1).bind fun D=>
 jn (fun(E:Bool)=>
 bif E then
 (some false)
 else
 ((Vm.zhM (Vm.Repo.mk b.1.Commits b.1.Heads) 1).bind fun e=>
 (Vm.zhN (Vm.Repo.mk e.2.Commits e.2.Heads) 1).bind fun p=>
 bif decide (p< (0:Int)) then
 (some false)
 else
 (bif((p:Int) !=(e.1:Int)) then
 (some false)
 else
 ((Vm.zhK x0).bind fun q=>
 (Vm.zfV x1).bind fun F=>
 (Vm.zfW x2).bind fun h=>
 (Vm.zet (Vm.Repo.mk q.Commits q.Heads) F (Vm.Review.mk h.Branch h.Into h.By h.Yes)).bind fun j=>
 jn (fun(G:Bool)=>
 bif G then
 (some false)
 else
 ((Vm.zhN (Vm.Repo.mk e.2.Commits e.2.Heads) 1).bind fun r=>
 bif decide (r< (0:Int)) then
 (some false)
 else
 (bif((r:Int) !=(e.1:Int)) then
 (some false)
 else
 (some true)))) fun s=>
 (Vm.zhL (Vm.Repo.mk j.1.Commits j.1.Heads) c.1).bind fun H=>
 bif(!H) then
 (s true)
 else
 (s ((j.2:Int) !=(c.2:Int))))))) fun k=>
 bif decide (D.1< (0:Int)) then
 (k true)
 else
 ((Vm.zhL (Vm.Repo.mk b.1.Commits b.1.Heads) c.1).bind fun I=>
 bif(!I) then
 (k true)
 else
 (k ((b.2:Int) !=(c.2:Int))))))))) fun t=>
 (Vm.zhL (Vm.Repo.mk b.1.Commits b.1.Heads) c.1).bind fun J=>
 bif(!J) then
 (t true)
 else
 (t ((b.2:Int) !=(c.2:Int))))))
end Go.Vm
