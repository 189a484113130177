/- Models of the functions: plain Lean, printed by a program of ours. Conditions: none. -/
import Derived.Test.YtifbmanldeabeaaGreatDoorCLw
import Derived.Test.YtifbmanldeabeaaGreatDoorCM0
namespace Go.Vm
open Go Go.Sx
set_option linter.unusedVariables false
set_option linter.unusedSimpArgs false
def zga (x0:List Byte):Option (Vm.l30Rd):=
 jn (fun(b:List Byte)=>
 some (Vm.l30Rd.mk b 0)) fun a=>
 bif decide (2000< (x0.length:Int)) then
 ((slM x0 0 2000).bind fun c=>
 a c)
 else
 (a x0)
def zay (x0:Vm.l30Rd)(x1:Int):Option (Int×Int):=
 jn (fun(e:Bool)=>
 bif e then
 (some (0,w64 (x0.p+1)))
 else
 (bif decide ((w64 ((w64 (x0.p+1))-1):Int)< (x0.b.length:Int)) then
 ((gi x0.b (w64 ((w64 (x0.p+1))-1))).bind fun f=>
 (if(x1:Int)=0 then none else some ()).bind fun _=>
 some (Int.tmod (w64 (UInt8.toNat f:Int)) x1,w64 (x0.p+1)))
 else
 ((if(x0.b.length:Int)=0 then none else some ()).bind fun _=>
 (gi x0.b (Int.tmod (w64 ((w64 (x0.p+1))-1)) (x0.b.length:Int))).bind fun a=>
 (if(x0.b.length:Int)=0 then none else some ()).bind fun _=>
 (gi x0.b (Int.tmod (w64 ((w64 ((w64 ((w64 (x0.p+1))-1))*7))+3)) (x0.b.length:Int))).bind fun c=>
 (if(x0.b.length:Int)=0 then none else some ()).bind fun _=>
 (if(x1:Int)=0 then none else some ()).bind fun _=>
 some (Int.tmod (zua (w64 ((w64 ((w64 ((w64 ((w64 (UInt8.toNat a:Int))*131))+(w64 ((w64 (UInt8.toNat c:Int))*1117))))+(w64 ((w64 ((w64 (x0.p+1))-1))*29))))+(w64 ((w64 (Int.tdiv (w64 ((w64 (x0.p+1))-1)) (x0.b.length:Int)))*53)))) (w64 (Int.tdiv (w64 ((w64 ((w64 ((w64 ((w64 (UInt8.toNat a:Int))*131))+(w64 ((w64 (UInt8.toNat c:Int))*1117))))+(w64 ((w64 ((w64 (x0.p+1))-1))*29))))+(w64 ((w64 (Int.tdiv (w64 ((w64 (x0.p+1))-1)) (x0.b.length:Int)))*53)))) 64))) x1,w64 (x0.p+1))))) fun d=>
 bif decide (x1< (1:Int)) then
 (d true)
 else
 (d ((x0.b.length:Int)==0))
def zel (x0:Vm.l30Rd)(x1:List Int):Option (Int×Int):=
 (Vm.zay x0 (x1.length:Int)).bind fun a=>
 (gi x1 a.1).bind fun b=>
 some (b,a.2)
def zbt (x0:Vm.l30Rd)(x1:List Str):Option (Str×Int):=
 (Vm.zay x0 (x1.length:Int)).bind fun a=>
 (gi x1 a.1).bind fun b=>
 some (b,a.2)
def ze2 (x0:Vm.l30Rd):Option (Str×Int):=
 (Vm.zbt x0 ([([109,97,105,110]:Str),([109,97,105,110]:Str),([115,105,100,101]:Str),([100,101,118]:Str)]:List Str)).bind fun a=>
 some (a.1,a.2)
def zfi (x0:Vm.l30Rd):Option (Str×Int):=
 (Vm.zbt x0 ([([97]:Str),([98]:Str),([100,47,101]:Str),([100,47,102]:Str),([103,47,104,47,105]:Str),([103,47,107]:Str),([122]:Str)]:List Str)).bind fun a=>
 some (a.1,a.2)
def zgb (x0:Vm.l30Rd):Option (Str×Int):=
 (Vm.zbt x0 ([([97]:Str),([98]:Str),([99]:Str),([100]:Str),([]:Str),([120,32,121]:Str),([115,101,101,32,97]:Str),([115,101,101,32,100,47,101]:Str),([101,110,100]:Str)]:List Str)).bind fun a=>
 some (a.1,a.2)
def zfj (x0:Vm.l30Rd)(c:List Str->Int->Int->Option ((List Str)×Int)):Nat->List Str->Int->Int->Option ((List Str)×Int)
 |0,_,_,_=>none
 |m+1,d,a,e=>
 bif decide (0< (a:Int)) then
 ((Vm.zgb (Vm.l30Rd.mk x0.b e)).bind fun f=>
 (apM d [f.1]).bind fun g=>
 zfj x0 c m g (w64 (a-1)) f.2)
 else
 (c d a e)
def zhz (x0:Vm.l30Rd):Option ((List Str)×Int):=
 (Vm.zel x0 ([0,1,3,5,8]:List Int)).bind fun a=>
 jn (fun(b:List Str) (e:Int) (c:Int)=>
 some (b,c)) fun d=>
 zfj x0 d ((a.1-0).toNat+1) ([]:List Str) a.1 a.2
def zj5 (x0:Vm.l30Rd):Option (Vm.Op×Int):=
 (Vm.ze2 x0).bind fun c=>
 (Vm.zbt (Vm.l30Rd.mk x0.b c.2) ([([97,110,110]:Str),([98,111,98]:Str),([99,105,100]:Str)]:List Str)).bind fun d=>
 jn (fun(q:Int) (r:Int) (s:Str) (t:Str) (u:Str) (v:Str) (w:Int) (x:List Str)=>
 some (Vm.Op.mk r s t u v w x,q)) fun e=>
 (Vm.zay (Vm.l30Rd.mk x0.b d.2) 12).bind fun a=>
 bif(a.1==0) then
 ((Vm.zfi (Vm.l30Rd.mk x0.b a.2)).bind fun g=>
 e g.2 2 c.1 d.1 g.1 ([]:Str) 0 ([]:List Str))
 else
 (bif(a.1==1) then
 ((Vm.zfi (Vm.l30Rd.mk x0.b a.2)).bind fun h=>
 (Vm.zfi (Vm.l30Rd.mk x0.b h.2)).bind fun i=>
 e i.2 3 c.1 d.1 h.1 i.1 0 ([]:List Str))
 else
 (jn (fun(y:Bool)=>
 bif y then
 ((Vm.zbt (Vm.l30Rd.mk x0.b a.2) ([([115,105,100,101]:Str),([100,101,118]:Str),([111,108,100]:Str)]:List Str)).bind fun j=>
 e j.2 4 c.1 d.1 ([]:Str) j.1 0 ([]:List Str))
 else
 (jn (fun(z:Bool)=>
 bif z then
 ((Vm.ze2 (Vm.l30Rd.mk x0.b a.2)).bind fun k=>
 e k.2 5 c.1 d.1 ([]:Str) k.1 0 ([]:List Str))
 else
 (bif(a.1==7) then
 ((Vm.zay (Vm.l30Rd.mk x0.b a.2) 10).bind fun l=>
 e l.2 6 c.1 d.1 ([]:Str) ([]:Str) l.1 ([]:List Str))
 else
 (bif(a.1==8) then
 ((Vm.zay (Vm.l30Rd.mk x0.b a.2) 10).bind fun m=>
 e m.2 7 c.1 d.1 ([]:Str) ([]:Str) m.1 ([]:List Str))
 else
 ((Vm.zfi (Vm.l30Rd.mk x0.b a.2)).bind fun n=>
 (Vm.zhz (Vm.l30Rd.mk x0.b n.2)).bind fun o=>
 e o.2 1 c.1 d.1 n.1 ([]:Str) 0 o.1)))) fun f=>
 bif(a.1==4) then
 (f (a.1==4))
 else
 (bif(a.1==5) then
 (f (a.1==5))
 else
 (f (a.1==6))))) fun p=>
 bif(a.1==2) then
 (p (a.1==2))
 else
 (p (a.1==3))))
def zgc (x0:Vm.l30Rd)(d:List Vm.Op->Int->Int->Option ((List Vm.Op)×Int)):Nat->List Vm.Op->Int->Int->Option ((List Vm.Op)×Int)
 |0,_,_,_=>none
 |m+1,e,c,f=>
 bif decide (0< (c:Int)) then
 ((Vm.zj5 (Vm.l30Rd.mk x0.b f)).bind fun a=>
 (apM e [Vm.Op.mk a.1.Kind a.1.Branch a.1.Who a.1.Path a.1.To a.1.At a.1.Text]).bind fun g=>
 zgc x0 d m g (w64 (c-1)) a.2)
 else
 (d e c f)
def ziX (x0:Vm.l30Rd):Option ((List Vm.Op)×Int):=
 (Vm.zel x0 ([0,3,8,14,20]:List Int)).bind fun a=>
 jn (fun(b:List Vm.Op) (e:Int) (c:Int)=>
 some (b,c)) fun d=>
 zgc x0 d ((a.1-0).toNat+1) ([]:List Op) a.1 a.2
def zeB (x0:Vm.Op)(x1:Bool)(x2:Bool)(x3:Bool)(x4:Bool):Option (Bool):=
 jn (fun(b:Bool)=>
 some b) fun a=>
 bif x1 then
 (bif x2 then
 (bif x3 then
 (bif x4 then
 (a true)
 else
 (a ((x0.Text.length:Int)==0)))
 else
 (bif(x0.At==0) then
 (bif x4 then
 (a true)
 else
 (a ((x0.Text.length:Int)==0)))
 else
 (a false)))
 else
 (bif(x0.To==([]:Str)) then
 (bif x3 then
 (bif x4 then
 (a true)
 else
 (a ((x0.Text.length:Int)==0)))
 else
 (bif(x0.At==0) then
 (bif x4 then
 (a true)
 else
 (a ((x0.Text.length:Int)==0)))
 else
 (a false)))
 else
 (a false)))
 else
 (bif(x0.Path==([]:Str)) then
 (bif x2 then
 (bif x3 then
 (bif x4 then
 (a true)
 else
 (a ((x0.Text.length:Int)==0)))
 else
 (bif(x0.At==0) then
 (bif x4 then
 (a true)
 else
 (a ((x0.Text.length:Int)==0)))
 else
 (a false)))
 else
 (bif(x0.To==([]:Str)) then
 (bif x3 then
 (bif x4 then
 (a true)
 else
 (a ((x0.Text.length:Int)==0)))
 else
 (bif(x0.At==0) then
 (bif x4 then
 (a true)
 else
 (a ((x0.Text.length:Int)==0)))
 else
 (a false)))
 else
 (a false)))
 else
 (a false))
def zdx (x0:List Str)(b:Int)(c:Bool->Int->Option (Bool)):Nat->Bool->Int->Option (Bool)
 |0,_,_=>none
 |m+1,d,a=>
 (gi x0 b).bind fun e=>
 bif decide (a< (e.length:Int)) then
 ((gi x0 b).bind fun f=>
 (chM f a).bind fun g=>
 bif(((UInt8.toNat g:Int):Int)==(124:Int)) then
 (some false)
 else
 (zdx x0 b c m d (w64 (a+1))))
 else
 (c d a)
def zbV (x0:List Str)(b:Bool->Int->Option (Bool)):Nat->Bool->Int->Option (Bool)
 |0,_,_=>none
 |m+1,c,a=>
 bif decide (a< (x0.length:Int)) then
 (jn (fun(d:Bool) (f:Int)=>
 zbV x0 b m d (w64 (a+1))) fun e=>
 zdx x0 a e (((gi x0 a).getD []).length+1) c 0)
 else
 (b c a)
def zgU (x0:List Str):Option (Bool):=
 jn (fun(c:Bool) (d:Int)=>
 (Vm.zdl x0).bind fun a=>
 some a) fun b=>
 zbV x0 b (((x0.length:Int)-0).toNat+1) false 0
def zj6 (x0:Vm.Op):Option (Bool):=
 jn (fun(i:Bool)=>
 bif i then
 (some false)
 else
 (bif(x0.Kind==1) then
 (jn (fun(j:Bool)=>
 some j) fun a=>
 (Vm.zeB x0 true false false true).bind fun k=>
 bif k then
 ((Vm.zcj x0.Path).bind fun l=>
 bif l then
 ((Vm.zgU x0.Text).bind fun m=>
 a m)
 else
 (a false))
 else
 (a false))
 else
 (bif(x0.Kind==2) then
 (jn (fun(n:Bool)=>
 some n) fun c=>
 (Vm.zeB x0 true false false false).bind fun o=>
 bif o then
 ((Vm.zcj x0.Path).bind fun p=>
 c p)
 else
 (c false))
 else
 (bif(x0.Kind==3) then
 (jn (fun(q:Bool)=>
 some q) fun b=>
 (Vm.zeB x0 true true false false).bind fun r=>
 bif r then
 ((Vm.zcj x0.Path).bind fun s=>
 bif s then
 ((Vm.zcj x0.To).bind fun t=>
 b t)
 else
 (b false))
 else
 (b false))
 else
 (jn (fun(u:Bool)=>
 bif u then
 (jn (fun(v:Bool)=>
 some v) fun d=>
 (Vm.zeB x0 false true false false).bind fun w=>
 bif w then
 ((Vm.zbX x0.To).bind fun x=>
 d x)
 else
 (d false))
 else
 (jn (fun(y:Bool)=>
 bif y then
 (jn (fun(z:Bool)=>
 some z) fun e=>
 (Vm.zeB x0 false false true false).bind fun A=>
 bif A then
 ((Vm.zfe x0.At 0 15).bind fun B=>
 e B)
 else
 (e false))
 else
 (some false)) fun f=>
 bif(x0.Kind==6) then
 (f (x0.Kind==6))
 else
 (f (x0.Kind==7)))) fun g=>
 bif(x0.Kind==4) then
 (g (x0.Kind==4))
 else
 (g (x0.Kind==5))))))) fun h=>
 (Vm.zbX x0.Branch).bind fun C=>
 bif(!C) then
 (h true)
 else
 ((Vm.zbX x0.Who).bind fun D=>
 h (!D))
def ze3 (x0:List Vm.File)(x1:Vm.File)(d:List Vm.File->Bool->Int->Option ((List Vm.File))):Nat->List Vm.File->Bool->Int->Option ((List Vm.File))
 |0,_,_,_=>none
 |m+1,b,c,a=>
 bif decide (a< (x0.length:Int)) then
 (jn (fun(j:List Vm.File) (k:Bool)=>
 ze3 x0 x1 d m j k (w64 (a+1))) fun e=>
 jn (fun(f:List Vm.File) (g:Bool)=>
 (gi x0 a).bind fun l=>
 bif(l.Path !=x1.Path) then
 ((gi x0 a).bind fun n=>
 (apM f [n]).bind fun o=>
 e o g)
 else
 (e f g)) fun h=>
 jn (fun(p:Bool)=>
 bif p then
 ((apM ([]:List Str) x1.Text).bind fun q=>
 (apM b [Vm.File.mk x1.Path q]).bind fun r=>
 h r true)
 else
 (h b c)) fun i=>
 bif(!c) then
 ((gi x0 a).bind fun s=>
 i (!Op.bytesLess s.Path x1.Path))
 else
 (i false))
 else
 (d b c a)
def zhw (x0:List Vm.File)(x1:Vm.File):Option ((List Vm.File)):=
 jn (fun(a:List Vm.File) (c:Bool) (h:Int)=>
 jn (fun(d:List Vm.File)=>
 some d) fun b=>
 bif(!c) then
 ((apM ([]:List Str) x1.Text).bind fun e=>
 (apM a [Vm.File.mk x1.Path e]).bind fun f=>
 b f)
 else
 (b a)) fun g=>
 ze3 x0 x1 g (((x0.length:Int)-0).toNat+1) ([]:List File) false 0
def zgd (x0:List Vm.File)(x1:Vm.File):Option ((List Vm.File)×Bool):=
 (Vm.zd7 x0).bind fun b=>
 bif(!b) then
 (some (([]:List File),false))
 else
 ((Vm.zdi x0).bind fun c=>
 (Vm.zhw c x1).bind fun a=>
 (Vm.zd7 a).bind fun d=>
 bif(!d) then
 ((Vm.zdi x0).bind fun e=>
 some (e,false))
 else
 (some (a,true)))
def zfk (x0:Vm.Repo)(x1:Str)(x2:Str)(x3:List Vm.File):Option (Vm.Repo×Bool):=
 (Vm.zcK x0).bind fun f=>
 bif(!f) then
 (some (Vm.Repo.mk ([]:List Commit) ([]:List Head),false))
 else
 ((Vm.zdi x3).bind fun a=>
 jn (fun(g:List Int) (h:Str) (i:List Vm.File)=>
 (Vm.zbn x0).bind fun b=>
 (Vm.zef (Vm.Repo.mk b.Commits b.Heads) x1 (Vm.Commit.mk g h i)).bind fun c=>
 (Vm.zcK c).bind fun j=>
 bif(!j) then
 ((Vm.zbn x0).bind fun d=>
 some (Vm.Repo.mk d.Commits d.Heads,false))
 else
 (some (c,true))) fun e=>
 (Vm.zcB x0 x1).bind fun k=>
 bif decide (0<=(k:Int)) then
 ((Vm.zcB x0 x1).bind fun l=>
 e ([l]:List Int) x2 a)
 else
 (e ([]:List Int) x2 a))
def zdg (x0:Vm.Repo)(x1:Vm.Op)(x2:List Vm.File)(x3:Bool):Option (Vm.Repo×Int):=
 bif(!x3) then
 (some (x0,1))
 else
 ((Vm.zfk x0 x1.Branch x1.Who x2).bind fun a=>
 bif(!a.2) then
 (some (x0,5))
 else
 (some (a.1,0)))
def zem (x0:List Vm.File)(x1:Str)(c:List Vm.File->Int->Option ((List Vm.File))):Nat->List Vm.File->Int->Option ((List Vm.File))
 |0,_,_=>none
 |m+1,b,a=>
 bif decide (a< (x0.length:Int)) then
 (jn (fun(f:List Vm.File)=>
 zem x0 x1 c m f (w64 (a+1))) fun d=>
 jn (fun(g:Bool)=>
 bif g then
 ((gi x0 a).bind fun h=>
 (apM b [h]).bind fun i=>
 d i)
 else
 (d b)) fun e=>
 (gi x0 a).bind fun j=>
 bif(j.Path !=x1) then
 ((gi x0 a).bind fun k=>
 (Vm.zhr x1 k.Path).bind fun l=>
 e (!l))
 else
 (e false))
 else
 (c b a)
def zhO (x0:List Vm.File)(x1:Str):Option ((List Vm.File)):=
 jn (fun(a:List Vm.File) (c:Int)=>
 some a) fun b=>
 zem x0 x1 b (((x0.length:Int)-0).toNat+1) ([]:List File) 0
def ze4 (x0:List Vm.File)(x1:Str):Option ((List Vm.File)×Bool):=
 (Vm.zd7 x0).bind fun b=>
 bif(!b) then
 (some (([]:List File),false))
 else
 ((Vm.zdi x0).bind fun c=>
 (Vm.zhO c x1).bind fun a=>
 some (a,decide (a.length< (x0.length:Int))))
def zbW (x0:List Vm.File)(x1:Str)(x2:Str)(c:List Vm.File->Int->Option ((List Vm.File)×Bool)):Nat->List Vm.File->Int->Option ((List Vm.File)×Bool)
 |0,_,_=>none
 |m+1,b,a=>
 bif decide (a< (x0.length:Int)) then
 (jn (fun(f:List Vm.File)=>
 zbW x0 x1 x2 c m f (w64 (a+1))) fun d=>
 jn (fun(g:Bool)=>
 bif g then
 ((gi x0 a).bind fun u64=>
 (slM u64.Path (x1.length:Int) (u64.Path.length:Int)).bind fun h=>
 (saM x2 h).bind fun i=>
 (gi x0 a).bind fun j=>
 (Vm.zhw b (Vm.File.mk i j.Text)).bind fun k=>
 d k)
 else
 (d b)) fun e=>
 (gi x0 a).bind fun l=>
 bif(l.Path==x1) then
 (e true)
 else
 ((gi x0 a).bind fun n=>
 (Vm.zhr x1 n.Path).bind fun o=>
 e o))
 else
 (c b a)
def ze5 (x0:List Vm.File)(x1:Str)(x2:Str):Option ((List Vm.File)×Bool):=
 (Vm.zd7 x0).bind fun e=>
 bif(!e) then
 (some (([]:List File),false))
 else
 ((Vm.zdi x0).bind fun f=>
 (Vm.zhO f x1).bind fun b=>
 jn (fun(g:Bool)=>
 bif g then
 ((Vm.zdi x0).bind fun h=>
 some (h,false))
 else
 (jn (fun(a:List Vm.File) (n:Int)=>
 jn (fun(i:Bool)=>
 bif i then
 ((Vm.zdi x0).bind fun j=>
 some (j,false))
 else
 (some (a,true))) fun c=>
 (Vm.zd7 a).bind fun k=>
 bif(!k) then
 (c true)
 else
 (c ((a.length:Int) !=(x0.length:Int)))) fun l=>
 zbW x0 x1 x2 l (((x0.length:Int)-0).toNat+1) b 0)) fun d=>
 bif((b.length:Int)==(x0.length:Int)) then
 (d true)
 else
 ((Vm.zcj x2).bind fun m=>
 d (!m)))
def zdT (x0:Vm.Repo)(x1:Str)(x2:Int):Option (Vm.Repo×Bool):=
 (Vm.zcK x0).bind fun e=>
 bif(!e) then
 (some (Vm.Repo.mk ([]:List Commit) ([]:List Head),false))
 else
 ((Vm.zbn x0).bind fun a=>
 (Vm.zfz (Vm.Repo.mk a.Commits a.Heads) x1 x2).bind fun b=>
 jn (fun(f:Bool)=>
 bif f then
 ((Vm.zbn x0).bind fun c=>
 some (Vm.Repo.mk c.Commits c.Heads,false))
 else
 (some (b,true))) fun d=>
 (Vm.zcB x0 x1).bind fun g=>
 bif decide (0<=(g:Int)) then
 (d true)
 else
 ((Vm.zcK b).bind fun h=>
 d (!h)))
def zdy (x0:Vm.Repo)(x1:Str)(x2:Str)(x3:Int):Option (Vm.Repo×Int):=
 (Vm.zcK x0).bind fun e=>
 bif(!e) then
 (some (Vm.Repo.mk ([]:List Commit) ([]:List Head),1))
 else
 (jn (fun(f:Bool)=>
 bif f then
 ((Vm.zbn x0).bind fun b=>
 some (Vm.Repo.mk b.Commits b.Heads,1))
 else
 ((Vm.zbn x0).bind fun c=>
 (Vm.zeg (Vm.Repo.mk c.Commits c.Heads) x1 x2 x3).bind fun d=>
 some (d.1,d.2))) fun a=>
 (Vm.zcB x0 x1).bind fun g=>
 bif decide (g< (0:Int)) then
 (a true)
 else
 ((Vm.zbX x2).bind fun h=>
 bif(!h) then
 (a true)
 else
 ((Vm.zfe x3 0 (w64 ((x0.Commits.length:Int)-1))).bind fun i=>
 a (!i))))
def zdn (x0:Vm.Repo)(x1:Int):Option ((List Vm.File)):=
 (gi x0.Commits x1).bind fun a=>
 bif((a.Parents.length:Int)==0) then
 (some ([]:List File))
 else
 ((gi x0.Commits x1).bind fun b=>
 (gi b.Parents 0).bind fun c=>
 (gi x0.Commits c).bind fun d=>
 some d.Tree)
def zev (x0:Vm.Repo)(x1:Str)(x2:Str)(x3:List Vm.File)(x4:List Vm.File):Option (Vm.Repo×Int):=
 (Vm.zcB x0 x1).bind fun a=>
 (gi x0.Commits a).bind fun d=>
 (Vm.zgn x3 d.Tree x4).bind fun b=>
 bif decide (0< (b.2.length:Int)) then
 (some (x0,4))
 else
 ((Vm.zef x0 x1 (Vm.Commit.mk ([a]:List Int) x2 b.1)).bind fun c=>
 (Vm.zcK c).bind fun e=>
 bif(!e) then
 (some (x0,5))
 else
 (some (c,0)))
def zfI (x0:Vm.Repo)(x1:Str)(x2:Str)(x3:Int):Option (Vm.Repo×Int):=
 (Vm.zcK x0).bind fun e=>
 bif(!e) then
 (some (Vm.Repo.mk ([]:List Commit) ([]:List Head),1))
 else
 (jn (fun(f:Bool)=>
 bif f then
 ((Vm.zbn x0).bind fun c=>
 some (Vm.Repo.mk c.Commits c.Heads,1))
 else
 ((Vm.zbn x0).bind fun a=>
 (gi a.Commits x3).bind fun g=>
 (Vm.zdn (Vm.Repo.mk a.Commits a.Heads) x3).bind fun h=>
 (Vm.zev (Vm.Repo.mk a.Commits a.Heads) x1 x2 h g.Tree).bind fun d=>
 some (d.1,d.2))) fun b=>
 (Vm.zcB x0 x1).bind fun i=>
 bif decide (i< (0:Int)) then
 (b true)
 else
 ((Vm.zbX x2).bind fun j=>
 bif(!j) then
 (b true)
 else
 ((Vm.zfe x3 0 (w64 ((x0.Commits.length:Int)-1))).bind fun k=>
 b (!k))))
def zdX (x0:Vm.Repo)(x1:Str)(x2:Str)(x3:Int):Option (Vm.Repo×Int):=
 (Vm.zcK x0).bind fun e=>
 bif(!e) then
 (some (Vm.Repo.mk ([]:List Commit) ([]:List Head),1))
 else
 (jn (fun(f:Bool)=>
 bif f then
 ((Vm.zbn x0).bind fun c=>
 some (Vm.Repo.mk c.Commits c.Heads,1))
 else
 ((Vm.zbn x0).bind fun a=>
 (gi a.Commits x3).bind fun g=>
 (Vm.zdn (Vm.Repo.mk a.Commits a.Heads) x3).bind fun h=>
 (Vm.zev (Vm.Repo.mk a.Commits a.Heads) x1 x2 g.Tree h).bind fun d=>
 some (d.1,d.2))) fun b=>
 (Vm.zcB x0 x1).bind fun i=>
 bif decide (i< (0:Int)) then
 (b true)
 else
 ((Vm.zbX x2).bind fun j=>
 bif(!j) then
 (b true)
 else
 ((Vm.zfe x3 0 (w64 ((x0.Commits.length:Int)-1))).bind fun k=>
 b (!k))))
def zj7 (x0:Vm.Repo)(x1:Vm.Op):Option (Vm.Repo×Int):=
 (Vm.zcB x0 x1.Branch).bind fun a=>
 jn (fun(b:List Vm.File)=>
 bif(x1.Kind==1) then
 ((Vm.zgd b (Vm.File.mk x1.Path x1.Text)).bind fun c=>
 (Vm.zdg x0 x1 c.1 c.2).bind fun d=>
 some (d.1,d.2))
 else
 (bif(x1.Kind==2) then
 ((Vm.ze4 b x1.Path).bind fun e=>
 (Vm.zdg x0 x1 e.1 e.2).bind fun f=>
 some (f.1,f.2))
 else
 (bif(x1.Kind==3) then
 ((Vm.ze5 b x1.Path x1.To).bind fun g=>
 (Vm.zdg x0 x1 g.1 g.2).bind fun h=>
 some (h.1,h.2))
 else
 (bif(x1.Kind==4) then
 ((Vm.zdT x0 x1.To a).bind fun i=>
 bif(!i.2) then
 (some (x0,1))
 else
 (some (i.1,0)))
 else
 (bif(x1.Kind==5) then
 ((Vm.zcB x0 x1.To).bind fun n=>
 (Vm.zdy x0 x1.Branch x1.Who n).bind fun j=>
 some (j.1,j.2))
 else
 (bif(x1.Kind==6) then
 ((Vm.zfI x0 x1.Branch x1.Who x1.At).bind fun k=>
 some (k.1,k.2))
 else
 ((Vm.zdX x0 x1.Branch x1.Who x1.At).bind fun l=>
 some (l.1,l.2)))))))) fun m=>
 bif decide (0<=(a:Int)) then
 ((gi x0.Commits a).bind fun o=>
 m o.Tree)
 else
 (m ([]:List File))
def zdz (x0:List Vm.Op)(d:Int->List Vm.Commit->List Vm.Head->Option (Vm.Repo)):Nat->Int->List Vm.Commit->List Vm.Head->Option (Vm.Repo)
 |0,_,_,_=>none
 |m+1,a,b,c=>
 jn (fun(h:Bool)=>
 bif h then
 (jn (fun(i:List Vm.Commit) (j:List Vm.Head)=>
 zdz x0 d m (w64 (a+1)) i j) fun e=>
 (gi x0 a).bind fun k=>
 (Vm.zj6 k).bind fun l=>
 bif l then
 ((gi x0 a).bind fun n=>
 (Vm.zj7 (Vm.Repo.mk b c) n).bind fun f=>
 e f.1.Commits f.1.Heads)
 else
 (e b c))
 else
 (d a b c)) fun g=>
 bif decide (a< (x0.length:Int)) then
 (g (decide (a< (30:Int))))
 else
 (g false)
def zgV (x0:List Vm.Op):Option (Vm.Repo):=
 jn (fun(d:Int) (a:List Vm.Commit) (b:List Vm.Head)=>
 some (Vm.Repo.mk a b)) fun c=>
 zdz x0 c (x0.length+1) 0 ([]:List Commit) ([]:List Head)
def zhA (x0:Vm.l30Rd):Option (Vm.Repo×Int):=
 (Vm.ziX x0).bind fun a=>
 (Vm.zgV a.1).bind fun c=>
 (Vm.zbn c).bind fun b=>
 some (Vm.Repo.mk b.Commits b.Heads,a.2)
def zfl (x0:Vm.l30Rd):Option (Vm.Repo×Int):=
 (Vm.zhA x0).bind fun a=>
 jn (fun(h:Int) (i:List Vm.Commit) (j:List Vm.Head)=>
 some (Vm.Repo.mk i j,h)) fun e=>
 bif decide (0< (a.1.Commits.length:Int)) then
 ((Vm.zay (Vm.l30Rd.mk x0.b a.2) (a.1.Commits.length:Int)).bind fun d=>
 (Vm.zay (Vm.l30Rd.mk x0.b d.2) 16).bind fun c=>
 bif(c.1==0) then
 ((gi a.1.Commits d.1).bind fun f=>
 (siM a.1.Commits d.1 (Vm.Commit.mk ([d.1]:List Int) f.Who f.Tree)).bind fun k=>
 e c.2 k a.1.Heads)
 else
 (bif(c.1==1) then
 ((gi a.1.Commits d.1).bind fun g=>
 (siM a.1.Commits d.1 (Vm.Commit.mk g.Parents ([]:Str) g.Tree)).bind fun l=>
 e c.2 l a.1.Heads)
 else
 (bif(c.1==2) then
 ((gi a.1.Heads 0).bind fun m=>
 (apM a.1.Heads [m]).bind fun n=>
 e c.2 a.1.Commits n)
 else
 (e c.2 a.1.Commits a.1.Heads))))
 else
 (e a.2 a.1.Commits a.1.Heads)
def zda (x0:Vm.l30Rd)(e:List Vm.Owner->Int->Int->Option ((List Vm.Owner)×Int)):Nat->List Vm.Owner->Int->Int->Option ((List Vm.Owner)×Int)
 |0,_,_,_=>none
 |m+1,c,a,f=>
 bif decide ((a:Int)< ((([([97]:Str),([98]:Str),([100]:Str),([100,47,101]:Str),([103]:Str)]:List Str).length:Int):Int)) then
 (jn (fun(i:List Vm.Owner) (j:Int)=>
 zda x0 e m i (w64 (a+1)) j) fun g=>
 (Vm.zay (Vm.l30Rd.mk x0.b f) 2).bind fun d=>
 bif(d.1==0) then
 ((gi ([([97]:Str),([98]:Str),([100]:Str),([100,47,101]:Str),([103]:Str)]:List Str) a).bind fun k=>
 (Vm.zbt (Vm.l30Rd.mk x0.b d.2) ([([97,110,110]:Str),([98,111,98]:Str),([99,105,100]:Str)]:List Str)).bind fun h=>
 (apM c [Vm.Owner.mk k h.1]).bind fun l=>
 g l h.2)
 else
 (g c d.2))
 else
 (e c a f)
def zge (x0:Vm.l30Rd):Option ((List Vm.Owner)×Int):=
 jn (fun(a:List Vm.Owner) (n:Int) (c:Int)=>
 jn (fun(h:Int) (i:List Vm.Owner)=>
 some (i,h)) fun d=>
 jn (fun(j:Bool) (e:Int)=>
 bif j then
 ((gi a 0).bind fun k=>
 (siM a 0 (Vm.Owner.mk k.Path ([]:Str))).bind fun l=>
 d e l)
 else
 (d e a)) fun f=>
 bif decide (0< (a.length:Int)) then
 ((Vm.zay (Vm.l30Rd.mk x0.b c) 14).bind fun g=>
 f (g.1==0) g.2)
 else
 (f false c)) fun m=>
 zda x0 m (((([([97]:Str),([98]:Str),([100]:Str),([100,47,101]:Str),([103]:Str)]:List Str).length:Int)-0).toNat+1) ([]:List Owner) 0 x0.p
def zdb (x0:Vm.l30Rd)(h:Int->Int->Str->Str->Str->List Str->Option (Vm.Review×Int)):Nat->Int->Int->Str->Str->Str->List Str->Option (Vm.Review×Int)
 |0,_,_,_,_,_,_=>none
 |m+1,a,i,c,d,e,f=>
 bif decide ((a:Int)< ((([([97,110,110]:Str),([98,111,98]:Str),([99,105,100]:Str)]:List Str).length:Int):Int)) then
 (jn (fun(k:Int) (l:Str) (n:Str) (o:Str) (p:List Str)=>
 zdb x0 h m (w64 (a+1)) k l n o p) fun j=>
 (Vm.zay (Vm.l30Rd.mk x0.b i) 2).bind fun g=>
 bif(g.1==0) then
 ((gi ([([97,110,110]:Str),([98,111,98]:Str),([99,105,100]:Str)]:List Str) a).bind fun q=>
 (apM f [q]).bind fun r=>
 j g.2 c d e r)
 else
 (j g.2 c d e f))
 else
 (h a i c d e f)
def zgf (x0:Vm.l30Rd):Option (Vm.Review×Int):=
 (Vm.zbt x0 ([([115,105,100,101]:Str),([100,101,118]:Str),([109,97,105,110]:Str)]:List Str)).bind fun c=>
 (Vm.zbt (Vm.l30Rd.mk x0.b c.2) ([([109,97,105,110]:Str),([109,97,105,110]:Str),([100,101,118]:Str)]:List Str)).bind fun d=>
 (Vm.zbt (Vm.l30Rd.mk x0.b d.2) ([([97,110,110]:Str),([98,111,98]:Str),([101,118,101]:Str)]:List Str)).bind fun e=>
 jn (fun(s:Int) (k:Int) (f:Str) (g:Str) (h:Str) (i:List Str)=>
 jn (fun(l:Int) (m:Str) (n:Str) (o:Str) (p:List Str)=>
 some (Vm.Review.mk m n o p,l)) fun j=>
 (Vm.zay (Vm.l30Rd.mk x0.b k) 14).bind fun a=>
 bif(a.1==0) then
 ((apM i ([([97,110,110]:Str)])).bind fun q=>
 j a.2 f g h q)
 else
 (j a.2 f g h i)) fun r=>
 zdb x0 r (((([([97,110,110]:Str),([98,111,98]:Str),([99,105,100]:Str)]:List Str).length:Int)-0).toNat+1) 0 e.2 c.1 d.1 e.1 ([]:List Str)
def zds (x0:List Byte):Option (Vm.Repo×(List Vm.Owner)×Vm.Review):=
 (Vm.zga x0).bind fun c=>
 (Vm.zfl c).bind fun d=>
 (Vm.zge (Vm.l30Rd.mk c.b d.2)).bind fun e=>
 (Vm.zgf (Vm.l30Rd.mk c.b e.2)).bind fun a=>
 some (Vm.Repo.mk d.1.Commits d.1.Heads,e.1,Vm.Review.mk a.1.Branch a.1.Into a.1.By a.1.Yes)
def zdU (x0:List Str)(x1:List Str)(b:Bool->Int->Option (Bool)):Nat->Bool->Int->Option (Bool)
 |0,_,_=>none
 |m+1,c,a=>
 bif decide (a< (x0.length:Int)) then
 ((gi x0 a).bind fun d=>
 (gi x1 a).bind fun e=>
 bif(d !=e) then
 (some false)
 else
 (zdU x0 x1 b m c (w64 (a+1))))
 else
 (b c a)
def zgW (x0:List Str)(x1:List Str):Option (Bool):=
 bif((x0.length:Int) !=(x1.length:Int)) then
 (some false)
 else
 (jn (fun(b:Bool) (c:Int)=>
 some true) fun a=>
 zdU x0 x1 a (((x0.length:Int)-0).toNat+1) false 0)
def zb2 (a:Vm.Repo×(List Vm.Owner)×Vm.Review)(c:List Vm.Owner->Int->Option (Bool)):Nat->List Vm.Owner->Int->Option (Bool)
 |0,_,_=>none
 |m+1,d,b=>
 bif decide (b< (a.2.1.length:Int)) then
 ((gi a.2.1 b).bind fun e=>
 (apM d [Vm.Owner.mk e.Path a.2.2.By]).bind fun f=>
 zb2 a c m f (w64 (b+1)))
 else
 (c d b)
def zeR (x0:List Byte):Option (Bool):=
 bif decide (1048576< (x0.length:Int)) then
 (some true)
 else
 ((Vm.zds x0).bind fun a=>
 (Vm.zbK (Vm.Repo.mk a.1.Commits a.1.Heads) a.2.1 (Vm.Review.mk a.2.2.Branch a.2.2.Into a.2.2.By a.2.2.Yes)).bind fun b=>
 (Vm.zdq (Vm.Repo.mk a.1.Commits a.1.Heads) a.2.1 (Vm.Review.mk a.2.2.Branch a.2.2.Into a.2.2.By a.2.2.Yes)).bind fun c=>
 jn (fun(h:Bool)=>
 bif h then
 (jn (fun(i:Bool)=>
 some i) fun e=>
 bif(b.2==c.2) then
 ((Vm.zgW b.1 c.1).bind fun j=>
 e j)
 else
 (e false))
 else
 (jn (fun(k:List Vm.Owner) (o:Int)=>
 (Vm.zbK (Vm.Repo.mk a.1.Commits a.1.Heads) k (Vm.Review.mk a.2.2.Branch a.2.2.Into a.2.2.By a.2.2.Yes)).bind fun f=>
 jn (fun(l:Bool)=>
 some l) fun g=>
 bif f.2 then
 (g ((f.1.length:Int)==0))
 else
 (g false)) fun m=>
 zb2 a m (((a.2.1.length:Int)-0).toNat+1) ([]:List Owner) 0)) fun d=>
 bif(b.2 !=c.2) then
 (d true)
 else
 ((Vm.zgW b.1 c.1).bind fun n=>
 bif(!n) then
 (d true)
 else
 (d (!b.2))))
end Go.Vm
