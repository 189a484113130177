/- Models of the functions: plain Lean, printed by a program of ours. Conditions: none. -/
import Derived.Test.YtifbmanldeabeaaGreatDoorGLw
import Derived.Test.YtifbmanldeabeaaGreatDoorGM0
import Derived.Test.YtifbmanldeabeaaGreatDoorGM1
namespace Go.Vm
open Go Go.Sx
set_option linter.unusedVariables false
set_option linter.unusedSimpArgs false
def zmw (x0:List Int)(x1:Int):Option (Int):=
 bif decide ((w64 (x1-(x0.length:Int)):Int)< (0:Int)) then
 (some (-1))
 else
 (some (w64 (x1-(x0.length:Int))))
def zdV (x0:List Str)(c:Int->Int->Int->Option (Int)):Nat->Int->Int->Int->Option (Int)
 |0,_,_,_=>none
 |m+1,b,d,a=>
 bif decide (a< (x0.length:Int)) then
 ((gi x0 a).bind fun e=>
 bif decide ((w64 (b-(e.length:Int)):Int)< (0:Int)) then
 (some (-1))
 else
 (zdV x0 c m (w64 (b-(e.length:Int))) d (w64 (a+1))))
 else
 (c b d a)
def zgj (x0:List Str)(x1:Int):Option (Int):=
 bif decide ((w64 (x1-(x0.length:Int)):Int)< (0:Int)) then
 (some (-1))
 else
 (jn (fun(a:Int) (c:Int) (d:Int)=>
 some a) fun b=>
 zdV x0 b (((x0.length:Int)-0).toNat+1) (w64 (x1-(x0.length:Int))) 0 0)
def zmx (x0:Vm.File)(x1:Int):Option (Int):=
 bif decide ((w64 (x1-(x0.Path.length:Int)):Int)< (0:Int)) then
 (some (-1))
 else
 ((Vm.zgj x0.Text (w64 (x1-(x0.Path.length:Int)))).bind fun a=>
 bif decide (a< (0:Int)) then
 (some (-1))
 else
 (some a))
def zhT (x0:List Vm.File)(b:Int->Int->Int->Option (Int)):Nat->Int->Int->Int->Option (Int)
 |0,_,_,_=>none
 |m+1,c,d,a=>
 bif decide (a< (x0.length:Int)) then
 ((gi x0 a).bind fun f=>
 (Vm.zmx f c).bind fun e=>
 bif decide (e< (0:Int)) then
 (some (-1))
 else
 (zhT x0 b m e d (w64 (a+1))))
 else
 (b c d a)
def zlu (x0:List Vm.File)(x1:Int):Option (Int):=
 bif decide ((w64 (x1-(x0.length:Int)):Int)< (0:Int)) then
 (some (-1))
 else
 (jn (fun(a:Int) (c:Int) (d:Int)=>
 some a) fun b=>
 zhT x0 b (((x0.length:Int)-0).toNat+1) (w64 (x1-(x0.length:Int))) 0 0)
def zkB (x0:Vm.Commit)(x1:Int):Option (Int):=
 (Vm.zmw x0.Parents x1).bind fun a=>
 bif decide (a< (0:Int)) then
 (some (-1))
 else
 (bif decide ((w64 (a-(x0.Who.length:Int)):Int)< (0:Int)) then
 (some (-1))
 else
 ((Vm.zlu x0.Tree (w64 (a-(x0.Who.length:Int)))).bind fun b=>
 bif decide (b< (0:Int)) then
 (some (-1))
 else
 (some b)))
def zf4 (x0:List Vm.Commit)(b:Int->Int->Int->Option (Int)):Nat->Int->Int->Int->Option (Int)
 |0,_,_,_=>none
 |m+1,c,d,a=>
 bif decide (a< (x0.length:Int)) then
 ((gi x0 a).bind fun f=>
 (Vm.zkB f c).bind fun e=>
 bif decide (e< (0:Int)) then
 (some (-1))
 else
 (zf4 x0 b m e d (w64 (a+1))))
 else
 (b c d a)
def zjF (x0:List Vm.Commit)(x1:Int):Option (Int):=
 bif decide ((w64 (x1-(x0.length:Int)):Int)< (0:Int)) then
 (some (-1))
 else
 (jn (fun(a:Int) (c:Int) (d:Int)=>
 some a) fun b=>
 zf4 x0 b (((x0.length:Int)-0).toNat+1) (w64 (x1-(x0.length:Int))) 0 0)
def zmy (x0:Vm.Head)(x1:Int):Option (Int):=
 bif decide ((w64 (x1-(x0.Name.length:Int)):Int)< (0:Int)) then
 (some (-1))
 else
 (some (w64 (x1-(x0.Name.length:Int))))
def zhU (x0:List Vm.Head)(b:Int->Int->Int->Option (Int)):Nat->Int->Int->Int->Option (Int)
 |0,_,_,_=>none
 |m+1,c,d,a=>
 bif decide (a< (x0.length:Int)) then
 ((gi x0 a).bind fun f=>
 (Vm.zmy f c).bind fun e=>
 bif decide (e< (0:Int)) then
 (some (-1))
 else
 (zhU x0 b m e d (w64 (a+1))))
 else
 (b c d a)
def zlv (x0:List Vm.Head)(x1:Int):Option (Int):=
 bif decide ((w64 (x1-(x0.length:Int)):Int)< (0:Int)) then
 (some (-1))
 else
 (jn (fun(a:Int) (c:Int) (d:Int)=>
 some a) fun b=>
 zhU x0 b (((x0.length:Int)-0).toNat+1) (w64 (x1-(x0.length:Int))) 0 0)
def zmz (x0:Vm.Repo)(x1:Int):Option (Int):=
 (Vm.zjF x0.Commits x1).bind fun a=>
 bif decide (a< (0:Int)) then
 (some (-1))
 else
 ((Vm.zlv x0.Heads a).bind fun b=>
 bif decide (b< (0:Int)) then
 (some (-1))
 else
 (some b))
def zlw (x0:Vm.Owner)(x1:Int):Option (Int):=
 bif decide ((w64 (x1-(x0.Path.length:Int)):Int)< (0:Int)) then
 (some (-1))
 else
 (bif decide ((w64 ((w64 (x1-(x0.Path.length:Int)))-(x0.Who.length:Int)):Int)< (0:Int)) then
 (some (-1))
 else
 (some (w64 ((w64 (x1-(x0.Path.length:Int)))-(x0.Who.length:Int)))))
def zgQ (x0:List Vm.Owner)(b:Int->Int->Int->Option (Int)):Nat->Int->Int->Int->Option (Int)
 |0,_,_,_=>none
 |m+1,c,d,a=>
 bif decide (a< (x0.length:Int)) then
 ((gi x0 a).bind fun f=>
 (Vm.zlw f c).bind fun e=>
 bif decide (e< (0:Int)) then
 (some (-1))
 else
 (zgQ x0 b m e d (w64 (a+1))))
 else
 (b c d a)
def zkC (x0:List Vm.Owner)(x1:Int):Option (Int):=
 bif decide ((w64 (x1-(x0.length:Int)):Int)< (0:Int)) then
 (some (-1))
 else
 (jn (fun(a:Int) (c:Int) (d:Int)=>
 some a) fun b=>
 zgQ x0 b (((x0.length:Int)-0).toNat+1) (w64 (x1-(x0.length:Int))) 0 0)
def zkD (x0:Vm.Review)(x1:Int):Option (Int):=
 bif decide ((w64 (x1-(x0.Branch.length:Int)):Int)< (0:Int)) then
 (some (-1))
 else
 (bif decide ((w64 ((w64 (x1-(x0.Branch.length:Int)))-(x0.Into.length:Int)):Int)< (0:Int)) then
 (some (-1))
 else
 (bif decide ((w64 ((w64 ((w64 (x1-(x0.Branch.length:Int)))-(x0.Into.length:Int)))-(x0.By.length:Int)):Int)< (0:Int)) then
 (some (-1))
 else
 ((Vm.zgj x0.Yes (w64 ((w64 ((w64 (x1-(x0.Branch.length:Int)))-(x0.Into.length:Int)))-(x0.By.length:Int)))).bind fun a=>
 bif decide (a< (0:Int)) then
 (some (-1))
 else
 (some a))))
def ziz (x0:List Int)(c:Int->List Int->Option ((List Int))):Nat->Int->List Int->Option ((List Int))
 |0,_,_=>none
 |m+1,a,b=>
 bif decide (a< (x0.length:Int)) then
 ((gi x0 a).bind fun d=>
 (gi b a).bind fun f=>
 (siM b a d).bind fun e=>
 ziz x0 c m (w64 (a+1)) e)
 else
 (c a b)
def zmA (x0:List Int):Option ((List Int)):=
 (mkM (x0.length:Int) (0:Int)).bind fun a=>
 jn (fun(d:Int) (b:List Int)=>
 some b) fun c=>
 ziz x0 c (((x0.length:Int)-0).toNat+1) 0 a
def zdW (x0:List Str)(c:Int->List Str->Option ((List Str))):Nat->Int->List Str->Option ((List Str))
 |0,_,_=>none
 |m+1,a,b=>
 bif decide (a< (x0.length:Int)) then
 ((gi x0 a).bind fun d=>
 (gi b a).bind fun f=>
 (siM b a d).bind fun e=>
 zdW x0 c m (w64 (a+1)) e)
 else
 (c a b)
def zgk (x0:List Str):Option ((List Str)):=
 (mkM (x0.length:Int) (([]:Str):Str)).bind fun a=>
 jn (fun(d:Int) (b:List Str)=>
 some b) fun c=>
 zdW x0 c (((x0.length:Int)-0).toNat+1) 0 a
def zmB (x0:Vm.File):Option (Vm.File):=
 (Vm.zgk x0.Text).bind fun a=>
 some (Vm.File.mk x0.Path a)
def zhV (x0:List Vm.File)(c:Int->List Vm.File->Option ((List Vm.File))):Nat->Int->List Vm.File->Option ((List Vm.File))
 |0,_,_=>none
 |m+1,a,b=>
 bif decide (a< (x0.length:Int)) then
 ((gi x0 a).bind fun e=>
 (Vm.zmB e).bind fun d=>
 (gi b a).bind fun g=>
 (siM b a (Vm.File.mk d.Path d.Text)).bind fun f=>
 zhV x0 c m (w64 (a+1)) f)
 else
 (c a b)
def zlx (x0:List Vm.File):Option ((List Vm.File)):=
 (mkM (x0.length:Int) (Vm.File.mk ([]:Str) ([]:List Str):File)).bind fun a=>
 jn (fun(d:Int) (b:List Vm.File)=>
 some b) fun c=>
 zhV x0 c (((x0.length:Int)-0).toNat+1) 0 a
def zkE (x0:Vm.Commit):Option (Vm.Commit):=
 (Vm.zmA x0.Parents).bind fun a=>
 (Vm.zlx x0.Tree).bind fun b=>
 some (Vm.Commit.mk a x0.Who b)
def zf5 (x0:List Vm.Commit)(d:Int->List Vm.Commit->Option ((List Vm.Commit))):Nat->Int->List Vm.Commit->Option ((List Vm.Commit))
 |0,_,_=>none
 |m+1,a,b=>
 bif decide (a< (x0.length:Int)) then
 ((gi x0 a).bind fun e=>
 (Vm.zkE e).bind fun c=>
 (gi b a).bind fun g=>
 (siM b a (Vm.Commit.mk c.Parents c.Who c.Tree)).bind fun f=>
 zf5 x0 d m (w64 (a+1)) f)
 else
 (d a b)
def zjG (x0:List Vm.Commit):Option ((List Vm.Commit)):=
 (mkM (x0.length:Int) (Vm.Commit.mk ([]:List Int) ([]:Str) ([]:List File):Commit)).bind fun a=>
 jn (fun(d:Int) (b:List Vm.Commit)=>
 some b) fun c=>
 zf5 x0 c (((x0.length:Int)-0).toNat+1) 0 a
def zmC (x0:Vm.Head):Option (Vm.Head):=
 some (Vm.Head.mk x0.Name x0.At)
def zhW (x0:List Vm.Head)(c:Int->List Vm.Head->Option ((List Vm.Head))):Nat->Int->List Vm.Head->Option ((List Vm.Head))
 |0,_,_=>none
 |m+1,a,b=>
 bif decide (a< (x0.length:Int)) then
 ((gi x0 a).bind fun d=>
 (Vm.zmC d).bind fun e=>
 (gi b a).bind fun g=>
 (siM b a e).bind fun f=>
 zhW x0 c m (w64 (a+1)) f)
 else
 (c a b)
def zly (x0:List Vm.Head):Option ((List Vm.Head)):=
 (mkM (x0.length:Int) (Vm.Head.mk ([]:Str) 0:Head)).bind fun a=>
 jn (fun(d:Int) (b:List Vm.Head)=>
 some b) fun c=>
 zhW x0 c (((x0.length:Int)-0).toNat+1) 0 a
def zjk (x0:Vm.Repo):Option (Vm.Repo):=
 (Vm.zjG x0.Commits).bind fun a=>
 (Vm.zly x0.Heads).bind fun b=>
 some (Vm.Repo.mk a b)
def zlz (x0:Vm.Owner):Option (Vm.Owner):=
 some (Vm.Owner.mk x0.Path x0.Who)
def zgR (x0:List Vm.Owner)(c:Int->List Vm.Owner->Option ((List Vm.Owner))):Nat->Int->List Vm.Owner->Option ((List Vm.Owner))
 |0,_,_=>none
 |m+1,a,b=>
 bif decide (a< (x0.length:Int)) then
 ((gi x0 a).bind fun d=>
 (Vm.zlz d).bind fun e=>
 (gi b a).bind fun g=>
 (siM b a e).bind fun f=>
 zgR x0 c m (w64 (a+1)) f)
 else
 (c a b)
def zha (x0:List Vm.Owner):Option ((List Vm.Owner)):=
 (mkM (x0.length:Int) (Vm.Owner.mk ([]:Str) ([]:Str):Owner)).bind fun a=>
 jn (fun(d:Int) (b:List Vm.Owner)=>
 some b) fun c=>
 zgR x0 c (((x0.length:Int)-0).toNat+1) 0 a
def zhb (x0:Vm.Review):Option (Vm.Review):=
 (Vm.zgk x0.Yes).bind fun a=>
 some (Vm.Review.mk x0.Branch x0.Into x0.By a)
def zgx (x0:Vm.Repo)(x1:List Vm.Owner)(x2:Vm.Review):Option (Vm.Repo×Int):=
 (Vm.zcQ x0).bind fun f=>
 bif(!f) then
 (some (Vm.Repo.mk ([]:List Commit) ([]:List Head),1))
 else
 ((Vm.zep x0 x1 x2).bind fun a=>
 bif(!a.2) then
 ((Vm.zbl x0).bind fun b=>
 some (Vm.Repo.mk b.Commits b.Heads,1))
 else
 (bif decide (0< (a.1.length:Int)) then
 ((Vm.zbl x0).bind fun c=>
 some (Vm.Repo.mk c.Commits c.Heads,6))
 else
 ((Vm.zbl x0).bind fun d=>
 (Vm.zc3 x0 x2.Branch).bind fun g=>
 (Vm.zd5 (Vm.Repo.mk d.Commits d.Heads) x2.Into x2.By g).bind fun e=>
 some (e.1,e.2))))
def zeu (x0:List Vm.File)(b:List Vm.File->Int->Option ((List Vm.File))):Nat->List Vm.File->Int->Option ((List Vm.File))
 |0,_,_=>none
 |m+1,c,a=>
 bif decide (a< (x0.length:Int)) then
 ((gi x0 a).bind fun d=>
 (Vm.zbS d.Text).bind fun e=>
 (apM c [Vm.File.mk d.Path e]).bind fun f=>
 zeu x0 b m f (w64 (a+1)))
 else
 (b c a)
def zee (x0:List Vm.File):Option ((List Vm.File)):=
 jn (fun(a:List Vm.File) (c:Int)=>
 some a) fun b=>
 zeu x0 b (((x0.length:Int)-0).toNat+1) ([]:List File) 0
def zev (x0:Vm.Repo)(c:Int->List Vm.Commit->List Vm.Head->Option (Vm.Repo)):Nat->Int->List Vm.Commit->List Vm.Head->Option (Vm.Repo)
 |0,_,_,_=>none
 |m+1,a,d,e=>
 bif decide (a< (x0.Commits.length:Int)) then
 ((gi x0.Commits a).bind fun b=>
 (apM ([]:List Int) b.Parents).bind fun f=>
 (Vm.zee b.Tree).bind fun g=>
 (apM d [Vm.Commit.mk f b.Who g]).bind fun h=>
 zev x0 c m (w64 (a+1)) h e)
 else
 (c a d e)
def zbJ (x0:Vm.Repo):Option (Vm.Repo):=
 (apM ([]:List Head) x0.Heads).bind fun a=>
 jn (fun(e:Int) (b:List Vm.Commit) (c:List Vm.Head)=>
 some (Vm.Repo.mk b c)) fun d=>
 zev x0 d (((x0.Commits.length:Int)-0).toNat+1) 0 ([]:List Commit) a
def zbu (x0:List Vm.Head)(x1:Int)(x2:Vm.Head):Option ((List Vm.Head)):=
 if 0<=x1/\x1<=x0.length/\x0.length+1<=lim then some (x0.take x1.toNat++[x2]++x0.drop x1.toNat) else none
def zeS (x0:List Vm.Head)(x1:Vm.Head)(b:Int->Option ((List Vm.Head))):Nat->Int->Option ((List Vm.Head))
 |0,_=>none
 |m+1,a=>
 jn (fun(e:Bool)=>
 bif e then
 (zeS x0 x1 b m (w64 (a-1)))
 else
 (b a)) fun c=>
 bif decide (0< (a:Int)) then
 ((gi x0 (w64 (a-1))).bind fun d=>
 c (!(Op.bytesLess d.Name x1.Name||d.Name==x1.Name)))
 else
 (c false)
def zgy (x0:List Vm.Head)(x1:Vm.Head):Option ((List Vm.Head)):=
 jn (fun(a:Int)=>
 (apM ([]:List Head) x0).bind fun b=>
 (Vm.zbu b a x1).bind fun c=>
 some c) fun d=>
 zeS x0 x1 d (x0.length+1) (x0.length:Int)
def zbF (x0:Vm.Repo)(x1:Str)(x2:Int)(c:Int->List Vm.Commit->List Vm.Head->List Vm.Head->Option (Vm.Repo)):Nat->Int->List Vm.Commit->List Vm.Head->List Vm.Head->Option (Vm.Repo)
 |0,_,_,_,_=>none
 |m+1,a,d,e,b=>
 bif decide (a< (x0.Heads.length:Int)) then
 ((gi b a).bind fun f=>
 bif(f.Name==x1) then
 ((gi b a).bind fun g=>
 (siM b a (Vm.Head.mk g.Name x2)).bind fun h=>
 some (Vm.Repo.mk x0.Commits h))
 else
 (zbF x0 x1 x2 c m (w64 (a+1)) d e b))
 else
 (c a d e b)
def zbM (x0:Vm.Repo)(x1:Str)(x2:Int):Option (Vm.Repo):=
 jn (fun(d:Int) (e:List Vm.Commit) (f:List Vm.Head) (a:List Vm.Head)=>
 (Vm.zgy a (Vm.Head.mk x1 x2)).bind fun b=>
 some (Vm.Repo.mk x0.Commits b)) fun c=>
 zbF x0 x1 x2 c (((x0.Heads.length:Int)-0).toNat+1) 0 ([]:List Commit) ([]:List Head) x0.Heads
def zhc (x0:List Vm.File)(x1:List Vm.File)(x2:List Vm.File):Option (Bool):=
 jn (fun(b:Bool)=>
 some b) fun a=>
 (Vm.zda x0).bind fun c=>
 bif c then
 ((Vm.zda x1).bind fun d=>
 bif d then
 ((Vm.zda x2).bind fun e=>
 a e)
 else
 (a false))
 else
 (a false)
def zew (b:List Vm.File)(c:List Str->Int->Option ((List Str))):Nat->List Str->Int->Option ((List Str))
 |0,_,_=>none
 |m+1,d,a=>
 bif decide (a< (b.length:Int)) then
 ((gi b a).bind fun e=>
 (apM d [e.Path]).bind fun f=>
 zew b c m f (w64 (a+1)))
 else
 (c d a)
def zco (x0:List (List Vm.File))(b:List Str->Int->Option ((List Str))):Nat->List Str->Int->Option ((List Str))
 |0,_,_=>none
 |m+1,c,a=>
 bif decide (a< (x0.length:Int)) then
 ((gi x0 a).bind fun d=>
 jn (fun(e:List Str) (g:Int)=>
 zco x0 b m e (w64 (a+1))) fun f=>
 zew d f (((d.length:Int)-0).toNat+1) c 0)
 else
 (b c a)
def zim (x0:List (List Vm.File)):Option ((List Str)):=
 jn (fun(a:List Str) (e:Int)=>
 (Vm.zaB a).bind fun b=>
 (Vm.zbp b).bind fun c=>
 some c) fun d=>
 zco x0 d (((x0.length:Int)-0).toNat+1) ([]:List Str) 0
def zjH (x0:List Vm.File)(x1:Str):Option (Vm.has):=
 (Vm.zfE x0 x1).bind fun a=>
 some (Vm.has.mk a.1 a.2)
def zgl (x0:Vm.has)(x1:Vm.has):Option (Bool):=
 jn (fun(b:Bool)=>
 some b) fun a=>
 bif(x0.file==x1.file) then
 ((Vm.zaK x0.text x1.text).bind fun c=>
 a c)
 else
 (a false)
def zin (x0:List Str)(x1:List Str)(x2:List Str):Option (Bool):=
 jn (fun(b:Bool)=>
 some b) fun a=>
 (Vm.zcU x0).bind fun c=>
 bif c then
 ((Vm.zcU x1).bind fun d=>
 bif d then
 ((Vm.zcU x2).bind fun e=>
 a e)
 else
 (a false))
 else
 (a false)
def zdL (x0:List Str)(x1:List Vm.Part):Option ((List Vm.Part)):=
 bif((x0.length:Int)==0) then
 (some x1)
 else
 (jn (fun(b:Int) (c:List Vm.Part)=>
 (gi c b).bind fun a=>
 (apM a.Lines x0).bind fun f=>
 (gi c b).bind fun k=>
 (siM c b (Vm.Part.mk a.Clash f a.Old a.One a.Two)).bind fun g=>
 some g) fun d=>
 jn (fun(h:Bool)=>
 bif h then
 ((apM x1 ([Vm.Part.mk false ([]:List Str) ([]:List Str) ([]:List Str) ([]:List Str)])).bind fun i=>
 d (w64 ((w64 ((x1.length:Int)-1))+1)) i)
 else
 (d (w64 ((x1.length:Int)-1)) x1)) fun e=>
 bif decide ((w64 ((x1.length:Int)-1):Int)< (0:Int)) then
 (e true)
 else
 ((gi x1 (w64 ((x1.length:Int)-1))).bind fun j=>
 e j.Clash))
def zb9 (x0:List Str)(x1:List Str)(x2:List Str)(b:List Int)(d:List Int)(l:Int->Int->Int->Int->List Vm.Part->Option ((List Vm.Part))):Nat->Int->Int->Int->Int->List Vm.Part->Option ((List Vm.Part))
 |0,_,_,_,_,_=>none
 |m+1,g,h,i,a,c=>
 bif decide (a< (b.length:Int)) then
 (jn (fun(s:Int) (t:Int) (u:Int) (v:List Vm.Part)=>
 zb9 x0 x1 x2 b d l m s t u (w64 (a+1)) v) fun n=>
 jn (fun(w:Bool)=>
 bif w then
 (n g h i c)
 else
 ((slM x0 g a).bind fun j=>
 (gi b a).bind fun x=>
 (slM x1 h x).bind fun e=>
 (gi d a).bind fun y=>
 (slM x2 i y).bind fun f=>
 jn (fun(o:List Vm.Part)=>
 jn (fun(z:List Vm.Part)=>
 (gi b a).bind fun A=>
 (gi d a).bind fun B=>
 n (w64 (a+1)) (w64 (A+1)) (w64 (B+1)) z) fun p=>
 bif decide (a< (x0.length:Int)) then
 ((slM x0 a (w64 (a+1))).bind fun C=>
 (Vm.zdL C o).bind fun D=>
 p D)
 else
 (p o)) fun k=>
 jn (fun(E:Bool)=>
 bif E then
 ((Vm.zdL f c).bind fun F=>
 k F)
 else
 ((Vm.zaK f j).bind fun G=>
 bif G then
 ((Vm.zdL e c).bind fun H=>
 k H)
 else
 ((Vm.zbS j).bind fun I=>
 (Vm.zbS e).bind fun J=>
 (Vm.zbS f).bind fun K=>
 (apM c ([Vm.Part.mk true ([]:List Str) I J K])).bind fun L=>
 k L))) fun q=>
 (Vm.zaK e j).bind fun M=>
 bif M then
 (q true)
 else
 ((Vm.zaK e f).bind fun N=>
 q N))) fun r=>
 (gi b a).bind fun P=>
 bif decide (P< (0:Int)) then
 (r true)
 else
 ((gi d a).bind fun Q=>
 r (decide (Q< (0:Int)))))
 else
 (l g h i a c)
def zi7 (x0:List Str)(x1:List Str)(x2:List Str):Option ((List Vm.Part)):=
 (Vm.zeG x0 x1).bind fun b=>
 (apM b [(x1.length:Int)]).bind fun a=>
 (Vm.zeG x0 x2).bind fun c=>
 (apM c [(x2.length:Int)]).bind fun d=>
 jn (fun(g:Int) (h:Int) (i:Int) (j:Int) (e:List Vm.Part)=>
 some e) fun f=>
 zb9 x0 x1 x2 a d f (((a.length:Int)-0).toNat+1) 0 0 0 0 ([]:List Part)
def zhy (x0:Vm.Part):Option ((List Str)×Bool):=
 some (([]:List Str),false)
def zaN (b:(List Vm.Part))(f:List Str->Bool->List Str->Int->Option ((List Str)×Bool)):Nat->List Str->Bool->List Str->Int->Option ((List Str)×Bool)
 |0,_,_,_,_=>none
 |m+1,c,d,g,a=>
 bif decide (a< (b.length:Int)) then
 ((gi b a).bind fun e=>
 jn (fun(j:List Str) (k:Bool) (l:List Str)=>
 (apM g l).bind fun n=>
 zaN b f m j k n (w64 (a+1))) fun h=>
 bif e.Clash then
 ((Vm.zhy e).bind fun i=>
 bif(!i.2) then
 (some (([]:List Str),false))
 else
 (h c d i.1))
 else
 (h c d e.Lines))
 else
 (f c d g a)
def zca (x0:List Str)(x1:List Str)(x2:List Str):Option ((List Str)×Bool):=
 (Vm.zin x0 x1 x2).bind fun c=>
 bif(!c) then
 (some (([]:List Str),false))
 else
 ((Vm.zi7 x0 x1 x2).bind fun a=>
 jn (fun(f:List Str) (g:Bool) (b:List Str) (h:Int)=>
 (Vm.zcU b).bind fun d=>
 bif(!d) then
 (some (([]:List Str),false))
 else
 (some (b,true))) fun e=>
 zaN a e (((a.length:Int)-0).toNat+1) ([]:List Str) false ([]:List Str) 0)
def zhn (x0:List Str)(x1:List Str)(x2:List Str):Option ((List Str)×Bool):=
 (Vm.zca x0 x1 x2).bind fun a=>
 some (a.1,a.2)
def zko (x0:Vm.has)(x1:Vm.has)(x2:Vm.has):Option (Vm.has×Int):=
 jn (fun(d:Bool)=>
 bif d then
 (some (x2,0))
 else
 ((Vm.zgl x2 x0).bind fun e=>
 bif e then
 (some (x1,0))
 else
 (jn (fun(f:Bool)=>
 bif f then
 (some (x0,1))
 else
 (bif(!x0.file) then
 (some (x0,2))
 else
 ((Vm.zhn x0.text x1.text x2.text).bind fun a=>
 bif(!a.2) then
 (some (x0,3))
 else
 (some (Vm.has.mk a.1 true,0))))) fun b=>
 bif(!x1.file) then
 (b true)
 else
 (b (!x2.file))))) fun c=>
 (Vm.zgl x1 x0).bind fun g=>
 bif g then
 (c true)
 else
 ((Vm.zgl x1 x2).bind fun h=>
 c h)
def zfv (x0:List Vm.File)(x1:List Vm.File)(x2:List Vm.File)(d:(List Str))(g:List Vm.File->List Vm.Clash->Int->Option ((List Vm.File)×(List Vm.Clash))):Nat->List Vm.File->List Vm.Clash->Int->Option ((List Vm.File)×(List Vm.Clash))
 |0,_,_,_=>none
 |m+1,e,f,b=>
 bif decide (b< (d.length:Int)) then
 (jn (fun(o:List Vm.File) (p:List Vm.Clash)=>
 zfv x0 x1 x2 d g m o p (w64 (b+1))) fun h=>
 (gi d b).bind fun a=>
 (Vm.zjH x0 a).bind fun i=>
 (Vm.zjH x1 a).bind fun j=>
 (Vm.zjH x2 a).bind fun k=>
 (Vm.zko (Vm.has.mk i.text i.file) (Vm.has.mk j.text j.file) (Vm.has.mk k.text k.file)).bind fun c=>
 jn (fun(l:List Vm.Clash)=>
 bif c.1.file then
 ((apM e [Vm.File.mk a c.1.text]).bind fun q=>
 h q l)
 else
 (h e l)) fun n=>
 bif(c.2 !=0) then
 ((apM f [Vm.Clash.mk a c.2]).bind fun r=>
 n r)
 else
 (n f))
 else
 (g e f b)
def zkp (x0:List Vm.File)(x1:List Vm.File)(x2:List Vm.File):Option ((List Vm.File)×(List Vm.Clash)):=
 (Vm.zhc x0 x1 x2).bind fun e=>
 bif(!e) then
 (some (([]:List File),([]:List Clash)))
 else
 ((Vm.zim ([x0,x1,x2]:List (List File))).bind fun a=>
 jn (fun(b:List Vm.File) (c:List Vm.Clash) (j:Int)=>
 jn (fun(f:Bool)=>
 bif f then
 ((Vm.zee x0).bind fun g=>
 some (g,([Vm.Clash.mk ([]:Str) 4]:List Clash)))
 else
 (some (b,c))) fun d=>
 bif((c.length:Int)==0) then
 ((Vm.zda b).bind fun h=>
 d (!h))
 else
 (d false)) fun i=>
 zfv x0 x1 x2 a i (((a.length:Int)-0).toNat+1) ([]:List File) ([]:List Clash) 0)
def ze6 (x0:List Vm.File)(x1:List Vm.File)(x2:List Vm.File):Option ((List Vm.File)×Bool):=
 (Vm.zhc x0 x1 x2).bind fun b=>
 bif(!b) then
 (some (([]:List File),false))
 else
 ((Vm.zkp x0 x1 x2).bind fun a=>
 bif decide (0< (a.2.length:Int)) then
 (some (([]:List File),false))
 else
 (some (a.1,true)))
def zcp (x0:Vm.Repo)(x1:Str)(x2:Str)(x3:List Vm.File)(x4:List Int):Option (Vm.Repo):=
 (Vm.zee x3).bind fun c=>
 (apM x0.Commits [Vm.Commit.mk x4 x2 c]).bind fun a=>
 (Vm.zbM (Vm.Repo.mk a x0.Heads) x1 (w64 ((a.length:Int)-1))).bind fun b=>
 some (Vm.Repo.mk b.Commits b.Heads)
def zc6 (x0:Vm.Repo)(x1:Vm.Repo):Option (Vm.Repo×Bool):=
 (Vm.zfa (Vm.Repo.mk x1.Commits x1.Heads)).bind fun b=>
 bif(!b) then
 ((Vm.zbJ x0).bind fun a=>
 some (Vm.Repo.mk a.Commits a.Heads,false))
 else
 (some (Vm.Repo.mk x1.Commits x1.Heads,true))
def zgz (x0:Vm.Repo)(x1:Str)(x2:Str)(x3:Int):Option (Vm.Repo×Int):=
 (Vm.zeq x0 x1).bind fun a=>
 jn (fun(l:Bool)=>
 bif l then
 ((Vm.zbJ x0).bind fun d=>
 some (Vm.Repo.mk d.Commits d.Heads,1))
 else
 ((Vm.za0 x0 a).bind fun m=>
 (gi m x3).bind fun n=>
 bif n then
 ((Vm.zbJ x0).bind fun e=>
 some (Vm.Repo.mk e.Commits e.Heads,2))
 else
 ((Vm.za0 x0 x3).bind fun o=>
 (gi o a).bind fun p=>
 bif p then
 ((Vm.zbJ x0).bind fun f=>
 (Vm.zbM (Vm.Repo.mk f.Commits f.Heads) x1 x3).bind fun g=>
 some (Vm.Repo.mk g.Commits g.Heads,3))
 else
 ((Vm.zbU x0 a x3).bind fun q=>
 (Vm.zaX x0 a).bind fun r=>
 (Vm.zaX x0 x3).bind fun s=>
 (Vm.ze6 q r s).bind fun h=>
 bif(!h.2) then
 ((Vm.zbJ x0).bind fun i=>
 some (Vm.Repo.mk i.Commits i.Heads,4))
 else
 ((Vm.zbJ x0).bind fun j=>
 (Vm.zcp (Vm.Repo.mk j.Commits j.Heads) x1 x2 h.1 ([a,x3]:List Int)).bind fun k=>
 (Vm.zc6 x0 (Vm.Repo.mk k.Commits k.Heads)).bind fun b=>
 bif(!b.2) then
 (some (Vm.Repo.mk b.1.Commits b.1.Heads,5))
 else
 (some (Vm.Repo.mk b.1.Commits b.1.Heads,0))))))) fun c=>
 bif decide (a< (0:Int)) then
 (c true)
 else
 ((Vm.zc9 x2).bind fun t=>
 bif(!t) then
 (c true)
 else
 ((Vm.zbI x0 x3).bind fun u=>
 c (!u)))
def zfG (x0:Vm.Repo)(x1:List Vm.Owner)(x2:Vm.Review):Option (Vm.Repo×Int):=
 (Vm.zfa x0).bind fun e=>
 bif(!e) then
 (some (Vm.Repo.mk ([]:List Commit) ([]:List Head),1))
 else
 ((Vm.zb8 x0 x1 x2).bind fun b=>
 bif(!b.2) then
 ((Vm.zbJ x0).bind fun c=>
 some (Vm.Repo.mk c.Commits c.Heads,1))
 else
 (bif decide (0< (b.1.length:Int)) then
 ((Vm.zbJ x0).bind fun d=>
 some (Vm.Repo.mk d.Commits d.Heads,6))
 else
 ((Vm.zeq x0 x2.Branch).bind fun f=>
 (Vm.zgz x0 x2.Into x2.By f).bind fun a=>
 some (Vm.Repo.mk a.1.Commits a.1.Heads,a.2))))
def ziA (x0:List Int)(x1:List Int)(b:Bool->Int->Option (Bool)):Nat->Bool->Int->Option (Bool)
 |0,_,_=>none
 |m+1,c,a=>
 bif decide (a< (x0.length:Int)) then
 ((gi x0 a).bind fun d=>
 (gi x1 a).bind fun e=>
 bif((d:Int) !=(e:Int)) then
 (some false)
 else
 (ziA x0 x1 b m c (w64 (a+1))))
 else
 (b c a)
def zmD (x0:List Int)(x1:List Int):Option (Bool):=
 bif((x0.length:Int) !=(x1.length:Int)) then
 (some false)
 else
 (jn (fun(b:Bool) (c:Int)=>
 some true) fun a=>
 ziA x0 x1 a (((x0.length:Int)-0).toNat+1) false 0)
def zdX (x0:List Str)(x1:List Str)(b:Bool->Int->Option (Bool)):Nat->Bool->Int->Option (Bool)
 |0,_,_=>none
 |m+1,c,a=>
 bif decide (a< (x0.length:Int)) then
 ((gi x0 a).bind fun d=>
 (gi x1 a).bind fun e=>
 bif(d !=e) then
 (some false)
 else
 (zdX x0 x1 b m c (w64 (a+1))))
 else
 (b c a)
def zgm (x0:List Str)(x1:List Str):Option (Bool):=
 bif((x0.length:Int) !=(x1.length:Int)) then
 (some false)
 else
 (jn (fun(b:Bool) (c:Int)=>
 some true) fun a=>
 zdX x0 x1 a (((x0.length:Int)-0).toNat+1) false 0)
def zmE (x0:Vm.File)(x1:Vm.File):Option (Bool):=
 bif(x0.Path !=x1.Path) then
 (some false)
 else
 ((Vm.zgm x0.Text x1.Text).bind fun a=>
 bif(!a) then
 (some false)
 else
 (some true))
def zhX (x0:List Vm.File)(x1:List Vm.File)(b:Bool->Int->Option (Bool)):Nat->Bool->Int->Option (Bool)
 |0,_,_=>none
 |m+1,c,a=>
 bif decide (a< (x0.length:Int)) then
 ((gi x0 a).bind fun d=>
 (gi x1 a).bind fun e=>
 (Vm.zmE d e).bind fun f=>
 bif(!f) then
 (some false)
 else
 (zhX x0 x1 b m c (w64 (a+1))))
 else
 (b c a)
def zlA (x0:List Vm.File)(x1:List Vm.File):Option (Bool):=
 bif((x0.length:Int) !=(x1.length:Int)) then
 (some false)
 else
 (jn (fun(b:Bool) (c:Int)=>
 some true) fun a=>
 zhX x0 x1 a (((x0.length:Int)-0).toNat+1) false 0)
def zkF (x0:Vm.Commit)(x1:Vm.Commit):Option (Bool):=
 (Vm.zmD x0.Parents x1.Parents).bind fun a=>
 bif(!a) then
 (some false)
 else
 (bif(x0.Who !=x1.Who) then
 (some false)
 else
 ((Vm.zlA x0.Tree x1.Tree).bind fun b=>
 bif(!b) then
 (some false)
 else
 (some true)))
def zf6 (x0:List Vm.Commit)(x1:List Vm.Commit)(b:Bool->Int->Option (Bool)):Nat->Bool->Int->Option (Bool)
 |0,_,_=>none
 |m+1,c,a=>
 bif decide (a< (x0.length:Int)) then
 ((gi x0 a).bind fun d=>
 (gi x1 a).bind fun e=>
 (Vm.zkF d e).bind fun f=>
 bif(!f) then
 (some false)
 else
 (zf6 x0 x1 b m c (w64 (a+1))))
 else
 (b c a)
def zjI (x0:List Vm.Commit)(x1:List Vm.Commit):Option (Bool):=
 bif((x0.length:Int) !=(x1.length:Int)) then
 (some false)
 else
 (jn (fun(b:Bool) (c:Int)=>
 some true) fun a=>
 zf6 x0 x1 a (((x0.length:Int)-0).toNat+1) false 0)
def zmF (x0:Vm.Head)(x1:Vm.Head):Option (Bool):=
 bif(x0.Name !=x1.Name) then
 (some false)
 else
 (bif((x0.At:Int) !=(x1.At:Int)) then
 (some false)
 else
 (some true))
def zhY (x0:List Vm.Head)(x1:List Vm.Head)(b:Bool->Int->Option (Bool)):Nat->Bool->Int->Option (Bool)
 |0,_,_=>none
 |m+1,c,a=>
 bif decide (a< (x0.length:Int)) then
 ((gi x0 a).bind fun d=>
 (gi x1 a).bind fun e=>
 (Vm.zmF d e).bind fun f=>
 bif(!f) then
 (some false)
 else
 (zhY x0 x1 b m c (w64 (a+1))))
 else
 (b c a)
def zlB (x0:List Vm.Head)(x1:List Vm.Head):Option (Bool):=
 bif((x0.length:Int) !=(x1.length:Int)) then
 (some false)
 else
 (jn (fun(b:Bool) (c:Int)=>
 some true) fun a=>
 zhY x0 x1 a (((x0.length:Int)-0).toNat+1) false 0)
def zjl (x0:Vm.Repo)(x1:Vm.Repo):Option (Bool):=
 (Vm.zjI x0.Commits x1.Commits).bind fun a=>
 bif(!a) then
 (some false)
 else
 ((Vm.zlB x0.Heads x1.Heads).bind fun b=>
 bif(!b) then
 (some false)
 else
 (some true))
def zlC (x0:Vm.Owner)(x1:Vm.Owner):Option (Bool):=
 bif(x0.Path !=x1.Path) then
 (some false)
 else
 (bif(x0.Who !=x1.Who) then
 (some false)
 else
 (some true))
def zgS (x0:List Vm.Owner)(x1:List Vm.Owner)(b:Bool->Int->Option (Bool)):Nat->Bool->Int->Option (Bool)
 |0,_,_=>none
 |m+1,c,a=>
 bif decide (a< (x0.length:Int)) then
 ((gi x0 a).bind fun d=>
 (gi x1 a).bind fun e=>
 (Vm.zlC d e).bind fun f=>
 bif(!f) then
 (some false)
 else
 (zgS x0 x1 b m c (w64 (a+1))))
 else
 (b c a)
def zkG (x0:List Vm.Owner)(x1:List Vm.Owner):Option (Bool):=
 bif((x0.length:Int) !=(x1.length:Int)) then
 (some false)
 else
 (jn (fun(b:Bool) (c:Int)=>
 some true) fun a=>
 zgS x0 x1 a (((x0.length:Int)-0).toNat+1) false 0)
def zkH (x0:Vm.Review)(x1:Vm.Review):Option (Bool):=
 bif(x0.Branch !=x1.Branch) then
 (some false)
 else
 (bif(x0.Into !=x1.Into) then
 (some false)
 else
 (bif(x0.By !=x1.By) then
 (some false)
 else
 ((Vm.zgm x0.Yes x1.Yes).bind fun a=>
 bif(!a) then
 (some false)
 else
 (some true))))
def zgT (d:Int->Int->List Int->Option (Int×(List Int))):Nat->Int->Int->List Int->Option (Int×(List Int))
 |0,_,_,_=>none
 |m+1,c,a,b=>
 bif decide (a< (b.length:Int)) then
 ((gi b a).bind fun f=>
 (siM b a c).bind fun e=>
 zgT d m (w64 (c+1)) (w64 (a+1)) e)
 else
 (d c a b)
def zkI (x0:List Int)(x1:Int):Option (Int×(List Int)):=
 jn (fun(a:Int) (d:Int) (b:List Int)=>
 some (a,b)) fun c=>
 zgT c (((x0.length:Int)-0).toNat+1) x1 0 x0
def zfP (b:Int->Str->Option (Str)):Nat->Int->Str->Option (Str)
 |0,_,_=>none
 |m+1,a,c=>
 bif decide (0< (a:Int)) then
 ((saM (([(by8 (w64 (48+(Int.tmod a 10))))]:List Byte):Str) c).bind fun d=>
 zfP b m (w64 (Int.tdiv a 10)) d)
 else
 (b a c)
def zbA (x0:Int):Option (Str):=
 bif decide (x0<=(0:Int)) then
 (some ([109,48]:Str))
 else
 (jn (fun(d:Int) (a:Str)=>
 (saM ([109]:Str) a).bind fun b=>
 some b) fun c=>
 zfP c ((x0-0).toNat+1) x0 ([]:Str))
def zdc (d:Int->Int->List Str->Option (Int×(List Str))):Nat->Int->Int->List Str->Option (Int×(List Str))
 |0,_,_,_=>none
 |m+1,c,a,b=>
 bif decide (a< (b.length:Int)) then
 ((Vm.zbA c).bind fun e=>
 (gi b a).bind fun g=>
 (siM b a e).bind fun f=>
 zdc d m (w64 (c+1)) (w64 (a+1)) f)
 else
 (d c a b)
def zex (x0:List Str)(x1:Int):Option (Int×(List Str)):=
 jn (fun(a:Int) (d:Int) (b:List Str)=>
 some (a,b)) fun c=>
 zdc c (((x0.length:Int)-0).toNat+1) x1 0 x0
def zf7 (d:Int->Int->List Vm.File->Option (Int×(List Vm.File))):Nat->Int->Int->List Vm.File->Option (Int×(List Vm.File))
 |0,_,_,_=>none
 |m+1,c,a,b=>
 bif decide (a< (b.length:Int)) then
 ((Vm.zbA c).bind fun h=>
 (gi b a).bind fun i=>
 (siM b a (Vm.File.mk h i.Text)).bind fun e=>
 (gi e a).bind fun f=>
 (Vm.zex f.Text (w64 (c+1))).bind fun g=>
 (siM e a (Vm.File.mk f.Path g.2)).bind fun j=>
 zf7 d m g.1 (w64 (a+1)) j)
 else
 (d c a b)
def zjJ (x0:List Vm.File)(x1:Int):Option (Int×(List Vm.File)):=
 jn (fun(a:Int) (d:Int) (b:List Vm.File)=>
 some (a,b)) fun c=>
 zf7 c (((x0.length:Int)-0).toNat+1) x1 0 x0
def zfc (f:Int->Int->List Vm.Commit->Option (Int×(List Vm.Commit))):Nat->Int->Int->List Vm.Commit->Option (Int×(List Vm.Commit))
 |0,_,_,_=>none
 |m+1,g,a,b=>
 bif decide (a< (b.length:Int)) then
 ((gi b a).bind fun c=>
 (Vm.zkI c.Parents g).bind fun d=>
 (siM b a (Vm.Commit.mk d.2 c.Who c.Tree)).bind fun h=>
 (Vm.zbA d.1).bind fun l=>
 (gi h a).bind fun i=>
 (siM h a (Vm.Commit.mk i.Parents l i.Tree)).bind fun j=>
 (gi j a).bind fun e=>
 (Vm.zjJ e.Tree (w64 (d.1+1))).bind fun k=>
 (siM j a (Vm.Commit.mk e.Parents e.Who k.2)).bind fun n=>
 zfc f m k.1 (w64 (a+1)) n)
 else
 (f g a b)
def zib (x0:List Vm.Commit)(x1:Int):Option (Int×(List Vm.Commit)):=
 jn (fun(a:Int) (d:Int) (b:List Vm.Commit)=>
 some (a,b)) fun c=>
 zfc c (((x0.length:Int)-0).toNat+1) x1 0 x0
def zf8 (d:Int->Int->List Vm.Head->Option (Int×(List Vm.Head))):Nat->Int->Int->List Vm.Head->Option (Int×(List Vm.Head))
 |0,_,_,_=>none
 |m+1,b,a,c=>
 bif decide (a< (c.length:Int)) then
 ((Vm.zbA b).bind fun f=>
 (gi c a).bind fun g=>
 (siM c a (Vm.Head.mk f g.At)).bind fun e=>
 (gi e a).bind fun h=>
 (siM e a (Vm.Head.mk h.Name (w64 (b+1)))).bind fun i=>
 zf8 d m (w64 ((w64 (b+1))+1)) (w64 (a+1)) i)
 else
 (d b a c)
def zjK (x0:List Vm.Head)(x1:Int):Option (Int×(List Vm.Head)):=
 jn (fun(a:Int) (d:Int) (b:List Vm.Head)=>
 some (a,b)) fun c=>
 zf8 c (((x0.length:Int)-0).toNat+1) x1 0 x0
def zjm (x0:Vm.Repo)(x1:Int):Option (Int×Vm.Repo):=
 (Vm.zib x0.Commits x1).bind fun a=>
 (Vm.zjK x0.Heads a.1).bind fun b=>
 some (b.1,Vm.Repo.mk a.2 b.2)
def zfH (d:Int->Int->List Vm.Owner->Option (Int×(List Vm.Owner))):Nat->Int->Int->List Vm.Owner->Option (Int×(List Vm.Owner))
 |0,_,_,_=>none
 |m+1,b,a,c=>
 bif decide (a< (c.length:Int)) then
 ((Vm.zbA b).bind fun f=>
 (gi c a).bind fun g=>
 (siM c a (Vm.Owner.mk f g.Who)).bind fun e=>
 (Vm.zbA (w64 (b+1))).bind fun h=>
 (gi e a).bind fun i=>
 (siM e a (Vm.Owner.mk i.Path h)).bind fun j=>
 zfH d m (w64 ((w64 (b+1))+1)) (w64 (a+1)) j)
 else
 (d b a c)
def zi2 (x0:List Vm.Owner)(x1:Int):Option (Int×(List Vm.Owner)):=
 jn (fun(a:Int) (d:Int) (b:List Vm.Owner)=>
 some (a,b)) fun c=>
 zfH c (((x0.length:Int)-0).toNat+1) x1 0 x0
def zi3 (x0:Vm.Review)(x1:Int):Option (Int×Vm.Review):=
 (Vm.zex x0.Yes x1).bind fun a=>
 some (a.1,Vm.Review.mk x0.Branch x0.Into x0.By a.2)
def zgU (x0:List Int)(c:Int->Int->Int->Option (Int)):Nat->Int->Int->Int->Option (Int)
 |0,_,_,_=>none
 |m+1,b,d,a=>
 bif decide (a< (x0.length:Int)) then
 ((gi x0 a).bind fun e=>
 bif((e:Int) !=(b:Int)) then
 (some (-1))
 else
 (zgU x0 c m (w64 (b+1)) d (w64 (a+1))))
 else
 (c b d a)
def zkJ (x0:List Int)(x1:Int):Option (Int):=
 jn (fun(a:Int) (c:Int) (d:Int)=>
 some a) fun b=>
 zgU x0 b (((x0.length:Int)-0).toNat+1) x1 0 0
def zdd (x0:List Str)(c:Int->Int->Int->Option (Int)):Nat->Int->Int->Int->Option (Int)
 |0,_,_,_=>none
 |m+1,b,d,a=>
 bif decide (a< (x0.length:Int)) then
 ((gi x0 a).bind fun e=>
 (Vm.zbA b).bind fun f=>
 bif(e !=f) then
 (some (-1))
 else
 (zdd x0 c m (w64 (b+1)) d (w64 (a+1))))
 else
 (c b d a)
def zfQ (x0:List Str)(x1:Int):Option (Int):=
 jn (fun(a:Int) (c:Int) (d:Int)=>
 some a) fun b=>
 zdd x0 b (((x0.length:Int)-0).toNat+1) x1 0 0
def zf9 (x0:List Vm.File)(c:Int->Int->Int->Option (Int)):Nat->Int->Int->Int->Option (Int)
 |0,_,_,_=>none
 |m+1,b,d,a=>
 bif decide (a< (x0.length:Int)) then
 ((gi x0 a).bind fun f=>
 (Vm.zbA b).bind fun g=>
 bif(f.Path !=g) then
 (some (-1))
 else
 ((gi x0 a).bind fun h=>
 (Vm.zfQ h.Text (w64 (b+1))).bind fun e=>
 bif decide (e< (0:Int)) then
 (some (-1))
 else
 (zf9 x0 c m e d (w64 (a+1)))))
 else
 (c b d a)
def zjL (x0:List Vm.File)(x1:Int):Option (Int):=
 jn (fun(a:Int) (c:Int) (d:Int)=>
 some a) fun b=>
 zf9 x0 b (((x0.length:Int)-0).toNat+1) x1 0 0
def zfd (x0:List Vm.Commit)(c:Int->Int->Int->Option (Int)):Nat->Int->Int->Int->Option (Int)
 |0,_,_,_=>none
 |m+1,d,e,a=>
 bif decide (a< (x0.length:Int)) then
 ((gi x0 a).bind fun g=>
 (Vm.zkJ g.Parents d).bind fun b=>
 bif decide (b< (0:Int)) then
 (some (-1))
 else
 ((gi x0 a).bind fun h=>
 (Vm.zbA b).bind fun i=>
 bif(h.Who !=i) then
 (some (-1))
 else
 ((gi x0 a).bind fun j=>
 (Vm.zjL j.Tree (w64 (b+1))).bind fun f=>
 bif decide (f< (0:Int)) then
 (some (-1))
 else
 (zfd x0 c m f e (w64 (a+1))))))
 else
 (c d e a)
def zic (x0:List Vm.Commit)(x1:Int):Option (Int):=
 jn (fun(a:Int) (c:Int) (d:Int)=>
 some a) fun b=>
 zfd x0 b (((x0.length:Int)-0).toNat+1) x1 0 0
def zga (x0:List Vm.Head)(c:Int->Int->Int->Option (Int)):Nat->Int->Int->Int->Option (Int)
 |0,_,_,_=>none
 |m+1,b,d,a=>
 bif decide (a< (x0.length:Int)) then
 ((gi x0 a).bind fun e=>
 (Vm.zbA b).bind fun f=>
 bif(e.Name !=f) then
 (some (-1))
 else
 ((gi x0 a).bind fun g=>
 bif((g.At:Int) !=(w64 (b+1):Int)) then
 (some (-1))
 else
 (zga x0 c m (w64 ((w64 (b+1))+1)) d (w64 (a+1)))))
 else
 (c b d a)
def zjM (x0:List Vm.Head)(x1:Int):Option (Int):=
 jn (fun(a:Int) (c:Int) (d:Int)=>
 some a) fun b=>
 zga x0 b (((x0.length:Int)-0).toNat+1) x1 0 0
def zjn (x0:Vm.Repo)(x1:Int):Option (Int):=
 (Vm.zic x0.Commits x1).bind fun a=>
 bif decide (a< (0:Int)) then
 (some (-1))
 else
 ((Vm.zjM x0.Heads a).bind fun b=>
 bif decide (b< (0:Int)) then
 (some (-1))
 else
 (some b))
def zea (x0:Vm.Repo)(x1:List Vm.Owner)(x2:Vm.Review):Option (Bool):=
 (Vm.zmz x0 1048576).bind fun l=>
 bif decide (l< (0:Int)) then
 (some true)
 else
 ((Vm.zkC x1 l).bind fun m=>
 bif decide (m< (0:Int)) then
 (some true)
 else
 ((Vm.zkD x2 m).bind fun u=>
 bif decide (u< (0:Int)) then
 (some true)
 else
 ((Vm.zjk x0).bind fun n=>
 (Vm.zha x1).bind fun v=>
 (Vm.zhb x2).bind fun f=>
 (Vm.zgx (Vm.Repo.mk n.Commits n.Heads) v (Vm.Review.mk f.Branch f.Into f.By f.Yes)).bind fun c=>
 (Vm.zjk x0).bind fun d=>
 (Vm.zha x1).bind fun i=>
 (Vm.zhb x2).bind fun a=>
 (Vm.zfG (Vm.Repo.mk d.Commits d.Heads) i (Vm.Review.mk a.Branch a.Into a.By a.Yes)).bind fun b=>
 jn (fun(w:Bool)=>
 bif w then
 (some false)
 else
 ((Vm.zjk x0).bind fun o=>
 (Vm.zjl (Vm.Repo.mk d.Commits d.Heads) (Vm.Repo.mk o.Commits o.Heads)).bind fun x=>
 bif(!x) then
 (some false)
 else
 ((Vm.zha x1).bind fun y=>
 (Vm.zkG i y).bind fun z=>
 bif(!z) then
 (some false)
 else
 ((Vm.zhb x2).bind fun g=>
 (Vm.zkH (Vm.Review.mk a.Branch a.Into a.By a.Yes) (Vm.Review.mk g.Branch g.Into g.By g.Yes)).bind fun A=>
 bif(!A) then
 (some false)
 else
 ((Vm.zjm (Vm.Repo.mk d.Commits d.Heads) 1).bind fun B=>
 (Vm.zi2 i B.1).bind fun C=>
 (Vm.zi3 (Vm.Review.mk a.Branch a.Into a.By a.Yes) C.1).bind fun D=>
 jn (fun(E:Bool)=>
 bif E then
 (some false)
 else
 ((Vm.zjm (Vm.Repo.mk b.1.Commits b.1.Heads) 1).bind fun e=>
 (Vm.zjn (Vm.Repo.mk e.2.Commits e.2.Heads) 1).bind fun p=>
 bif decide (p< (0:Int)) then
 (some false)
 else
 (bif((p:Int) !=(e.1:Int)) then
 (some false)
 else
 ((Vm.zjk x0).bind fun q=>
 (Vm.zha x1).bind fun F=>
 (Vm.zhb x2).bind fun h=>
 (Vm.zfG (Vm.Repo.mk q.Commits q.Heads) F (Vm.Review.mk h.Branch h.Into h.By h.Yes)).bind fun j=>
 jn (fun(G:Bool)=>
 bif G then
 (some false)
 else
 ((Vm.zjn (Vm.Repo.mk e.2.Commits e.2.Heads) 1).bind fun r=>
 bif decide (r< (0:Int)) then
 (some false)
 else
 (bif((r:Int) !=(e.1:Int)) then
 (some false)
 else
 (some true)))) fun s=>
 (Vm.zjl (Vm.Repo.mk j.1.Commits j.1.Heads) c.1).bind fun H=>
 bif(!H) then
 (s true)
 else
 (s ((j.2:Int) !=(c.2:Int))))))) fun k=>
 bif decide (D.1< (0:Int)) then
 (k true)
 else
 ((Vm.zjl (Vm.Repo.mk b.1.Commits b.1.Heads) c.1).bind fun I=>
 bif(!I) then
 (k true)
 else
 (k ((b.2:Int) !=(c.2:Int))))))))) fun t=>
 (Vm.zjl (Vm.Repo.mk b.1.Commits b.1.Heads) c.1).bind fun J=>
 bif(!J) then
 (t true)
 else
 (t ((b.2:Int) !=(c.2:Int))))))
end Go.Vm
