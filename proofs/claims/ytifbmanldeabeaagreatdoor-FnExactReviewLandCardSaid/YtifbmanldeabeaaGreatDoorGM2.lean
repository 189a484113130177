/- Models of the functions: plain Lean, printed by a program of ours. Conditions: none. -/
import Derived.Test.YtifbmanldeabeaaGreatDoorGLw
import Derived.Test.YtifbmanldeabeaaGreatDoorGM0
namespace Go.Vm
open Go Go.Sx
set_option linter.unusedVariables false
set_option linter.unusedSimpArgs false
def zeQ (x0:List Byte):Option (Vm.l30Rd):=
 jn (fun(b:List Byte)=>
 some (Vm.l30Rd.mk b 0)) fun a=>
 bif decide (2000< (x0.length:Int)) then
 ((slM x0 0 2000).bind fun c=>
 a c)
 else
 (a x0)
def zav (x0:Vm.l30Rd)(x1:Int):Option (Int×Int):=
 jn (fun(e:Bool)=>
 bif e then
 (some (0,w64 (x0.p+1)))
 else
 (bif decide ((w64 ((w64 (x0.p+1))-1):Int)< (x0.b.length:Int)) then
 ((gi x0.b (w64 ((w64 (x0.p+1))-1))).bind fun f=>
 (if(x1:Int)=0 then none else some ()).bind fun _=>
 some (Int.tmod (w64 (UInt8.toNat f:Int)) x1,w64 (x0.p+1)))
 else
 ((if(x0.b.length:Int)=0 then none else some ()).bind fun _=>
 (gi x0.b (Int.tmod (w64 ((w64 (x0.p+1))-1)) (x0.b.length:Int))).bind fun a=>
 (if(x0.b.length:Int)=0 then none else some ()).bind fun _=>
 (gi x0.b (Int.tmod (w64 ((w64 ((w64 ((w64 (x0.p+1))-1))*7))+3)) (x0.b.length:Int))).bind fun c=>
 (if(x0.b.length:Int)=0 then none else some ()).bind fun _=>
 (if(x1:Int)=0 then none else some ()).bind fun _=>
 some (Int.tmod (ztf (w64 ((w64 ((w64 ((w64 ((w64 (UInt8.toNat a:Int))*131))+(w64 ((w64 (UInt8.toNat c:Int))*1117))))+(w64 ((w64 ((w64 (x0.p+1))-1))*29))))+(w64 ((w64 (Int.tdiv (w64 ((w64 (x0.p+1))-1)) (x0.b.length:Int)))*53)))) (w64 (Int.tdiv (w64 ((w64 ((w64 ((w64 ((w64 (UInt8.toNat a:Int))*131))+(w64 ((w64 (UInt8.toNat c:Int))*1117))))+(w64 ((w64 ((w64 (x0.p+1))-1))*29))))+(w64 ((w64 (Int.tdiv (w64 ((w64 (x0.p+1))-1)) (x0.b.length:Int)))*53)))) 64))) x1,w64 (x0.p+1))))) fun d=>
 bif decide (x1< (1:Int)) then
 (d true)
 else
 (d ((x0.b.length:Int)==0))
def zdT (x0:Vm.l30Rd)(x1:List Int):Option (Int×Int):=
 (Vm.zav x0 (x1.length:Int)).bind fun a=>
 (gi x1 a.1).bind fun b=>
 some (b,a.2)
def zbt (x0:Vm.l30Rd)(x1:List Str):Option (Str×Int):=
 (Vm.zav x0 (x1.length:Int)).bind fun a=>
 (gi x1 a.1).bind fun b=>
 some (b,a.2)
def ze0 (x0:Vm.l30Rd):Option (Str×Int):=
 (Vm.zbt x0 ([([109,97,105,110]:Str),([109,97,105,110]:Str),([115,105,100,101]:Str),([100,101,118]:Str)]:List Str)).bind fun a=>
 some (a.1,a.2)
def zd6 (x0:Vm.l30Rd):Option (Str×Int):=
 (Vm.zbt x0 ([([97]:Str),([98]:Str),([100,47,101]:Str),([100,47,102]:Str),([103,47,104,47,105]:Str),([103,47,107]:Str),([122]:Str)]:List Str)).bind fun a=>
 some (a.1,a.2)
def zfl (x0:Vm.l30Rd):Option (Str×Int):=
 (Vm.zbt x0 ([([97]:Str),([98]:Str),([99]:Str),([100]:Str),([]:Str),([120,32,121]:Str),([115,101,101,32,97]:Str),([115,101,101,32,100,47,101]:Str),([101,110,100]:Str)]:List Str)).bind fun a=>
 some (a.1,a.2)
def ze1 (x0:Vm.l30Rd)(c:List Str->Int->Int->Option ((List Str)×Int)):Nat->List Str->Int->Int->Option ((List Str)×Int)
 |0,_,_,_=>none
 |m+1,d,a,e=>
 bif decide (0< (a:Int)) then
 ((Vm.zfl (Vm.l30Rd.mk x0.b e)).bind fun f=>
 (apM d [f.1]).bind fun g=>
 ze1 x0 c m g (w64 (a-1)) f.2)
 else
 (c d a e)
def zhl (x0:Vm.l30Rd):Option ((List Str)×Int):=
 (Vm.zdT x0 ([0,1,3,5,8]:List Int)).bind fun a=>
 jn (fun(b:List Str) (e:Int) (c:Int)=>
 some (b,c)) fun d=>
 ze1 x0 d ((a.1-0).toNat+1) ([]:List Str) a.1 a.2
def zjC (x0:Vm.l30Rd):Option (Vm.Op×Int):=
 (Vm.ze0 x0).bind fun c=>
 (Vm.zbt (Vm.l30Rd.mk x0.b c.2) ([([97,110,110]:Str),([98,111,98]:Str),([99,105,100]:Str)]:List Str)).bind fun d=>
 jn (fun(q:Int) (r:Int) (s:Str) (t:Str) (u:Str) (v:Str) (w:Int) (x:List Str)=>
 some (Vm.Op.mk r s t u v w x,q)) fun e=>
 (Vm.zav (Vm.l30Rd.mk x0.b d.2) 12).bind fun a=>
 bif(a.1==0) then
 ((Vm.zd6 (Vm.l30Rd.mk x0.b a.2)).bind fun g=>
 e g.2 2 c.1 d.1 g.1 ([]:Str) 0 ([]:List Str))
 else
 (bif(a.1==1) then
 ((Vm.zd6 (Vm.l30Rd.mk x0.b a.2)).bind fun h=>
 (Vm.zd6 (Vm.l30Rd.mk x0.b h.2)).bind fun i=>
 e i.2 3 c.1 d.1 h.1 i.1 0 ([]:List Str))
 else
 (jn (fun(y:Bool)=>
 bif y then
 ((Vm.zbt (Vm.l30Rd.mk x0.b a.2) ([([115,105,100,101]:Str),([100,101,118]:Str),([111,108,100]:Str)]:List Str)).bind fun j=>
 e j.2 4 c.1 d.1 ([]:Str) j.1 0 ([]:List Str))
 else
 (jn (fun(z:Bool)=>
 bif z then
 ((Vm.ze0 (Vm.l30Rd.mk x0.b a.2)).bind fun k=>
 e k.2 5 c.1 d.1 ([]:Str) k.1 0 ([]:List Str))
 else
 (bif(a.1==7) then
 ((Vm.zav (Vm.l30Rd.mk x0.b a.2) 10).bind fun l=>
 e l.2 6 c.1 d.1 ([]:Str) ([]:Str) l.1 ([]:List Str))
 else
 (bif(a.1==8) then
 ((Vm.zav (Vm.l30Rd.mk x0.b a.2) 10).bind fun m=>
 e m.2 7 c.1 d.1 ([]:Str) ([]:Str) m.1 ([]:List Str))
 else
 ((Vm.zd6 (Vm.l30Rd.mk x0.b a.2)).bind fun n=>
 (Vm.zhl (Vm.l30Rd.mk x0.b n.2)).bind fun o=>
 e o.2 1 c.1 d.1 n.1 ([]:Str) 0 o.1)))) fun f=>
 bif(a.1==4) then
 (f (a.1==4))
 else
 (bif(a.1==5) then
 (f (a.1==5))
 else
 (f (a.1==6))))) fun p=>
 bif(a.1==2) then
 (p (a.1==2))
 else
 (p (a.1==3))))
def zfu (x0:Vm.l30Rd)(d:List Vm.Op->Int->Int->Option ((List Vm.Op)×Int)):Nat->List Vm.Op->Int->Int->Option ((List Vm.Op)×Int)
 |0,_,_,_=>none
 |m+1,e,c,f=>
 bif decide (0< (c:Int)) then
 ((Vm.zjC (Vm.l30Rd.mk x0.b f)).bind fun a=>
 (apM e [Vm.Op.mk a.1.Kind a.1.Branch a.1.Who a.1.Path a.1.To a.1.At a.1.Text]).bind fun g=>
 zfu x0 d m g (w64 (c-1)) a.2)
 else
 (d e c f)
def ziy (x0:Vm.l30Rd):Option ((List Vm.Op)×Int):=
 (Vm.zdT x0 ([0,3,8,14,20]:List Int)).bind fun a=>
 jn (fun(b:List Vm.Op) (e:Int) (c:Int)=>
 some (b,c)) fun d=>
 zfu x0 d ((a.1-0).toNat+1) ([]:List Op) a.1 a.2
def zeR (x0:Vm.Op)(x1:Bool)(x2:Bool)(x3:Bool)(x4:Bool):Option (Bool):=
 jn (fun(b:Bool)=>
 some b) fun a=>
 bif x1 then
 (bif x2 then
 (bif x3 then
 (bif x4 then
 (a true)
 else
 (a ((x0.Text.length:Int)==0)))
 else
 (bif(x0.At==0) then
 (bif x4 then
 (a true)
 else
 (a ((x0.Text.length:Int)==0)))
 else
 (a false)))
 else
 (bif(x0.To==([]:Str)) then
 (bif x3 then
 (bif x4 then
 (a true)
 else
 (a ((x0.Text.length:Int)==0)))
 else
 (bif(x0.At==0) then
 (bif x4 then
 (a true)
 else
 (a ((x0.Text.length:Int)==0)))
 else
 (a false)))
 else
 (a false)))
 else
 (bif(x0.Path==([]:Str)) then
 (bif x2 then
 (bif x3 then
 (bif x4 then
 (a true)
 else
 (a ((x0.Text.length:Int)==0)))
 else
 (bif(x0.At==0) then
 (bif x4 then
 (a true)
 else
 (a ((x0.Text.length:Int)==0)))
 else
 (a false)))
 else
 (bif(x0.To==([]:Str)) then
 (bif x3 then
 (bif x4 then
 (a true)
 else
 (a ((x0.Text.length:Int)==0)))
 else
 (bif(x0.At==0) then
 (bif x4 then
 (a true)
 else
 (a ((x0.Text.length:Int)==0)))
 else
 (a false)))
 else
 (a false)))
 else
 (a false))
def zcZ (x0:List Str)(b:Int)(c:Bool->Int->Option (Bool)):Nat->Bool->Int->Option (Bool)
 |0,_,_=>none
 |m+1,d,a=>
 (gi x0 b).bind fun e=>
 bif decide (a< (e.length:Int)) then
 ((gi x0 b).bind fun f=>
 (chM f a).bind fun g=>
 bif(((UInt8.toNat g:Int):Int)==(124:Int)) then
 (some false)
 else
 (zcZ x0 b c m d (w64 (a+1))))
 else
 (c d a)
def zbi (x0:List Str)(b:Bool->Int->Option (Bool)):Nat->Bool->Int->Option (Bool)
 |0,_,_=>none
 |m+1,c,a=>
 bif decide (a< (x0.length:Int)) then
 (jn (fun(d:Bool) (f:Int)=>
 zbi x0 b m d (w64 (a+1))) fun e=>
 zcZ x0 a e (((gi x0 a).getD []).length+1) c 0)
 else
 (b c a)
def zgh (x0:List Str):Option (Bool):=
 jn (fun(c:Bool) (d:Int)=>
 (Vm.zc2 x0).bind fun a=>
 some a) fun b=>
 zbi x0 b (((x0.length:Int)-0).toNat+1) false 0
def zjD (x0:Vm.Op):Option (Bool):=
 jn (fun(i:Bool)=>
 bif i then
 (some false)
 else
 (bif(x0.Kind==1) then
 (jn (fun(j:Bool)=>
 some j) fun a=>
 (Vm.zeR x0 true false false true).bind fun k=>
 bif k then
 ((Vm.zcT x0.Path).bind fun l=>
 bif l then
 ((Vm.zgh x0.Text).bind fun m=>
 a m)
 else
 (a false))
 else
 (a false))
 else
 (bif(x0.Kind==2) then
 (jn (fun(n:Bool)=>
 some n) fun c=>
 (Vm.zeR x0 true false false false).bind fun o=>
 bif o then
 ((Vm.zcT x0.Path).bind fun p=>
 c p)
 else
 (c false))
 else
 (bif(x0.Kind==3) then
 (jn (fun(q:Bool)=>
 some q) fun b=>
 (Vm.zeR x0 true true false false).bind fun r=>
 bif r then
 ((Vm.zcT x0.Path).bind fun s=>
 bif s then
 ((Vm.zcT x0.To).bind fun t=>
 b t)
 else
 (b false))
 else
 (b false))
 else
 (jn (fun(u:Bool)=>
 bif u then
 (jn (fun(v:Bool)=>
 some v) fun d=>
 (Vm.zeR x0 false true false false).bind fun w=>
 bif w then
 ((Vm.zbW x0.To).bind fun x=>
 d x)
 else
 (d false))
 else
 (jn (fun(y:Bool)=>
 bif y then
 (jn (fun(z:Bool)=>
 some z) fun e=>
 (Vm.zeR x0 false false true false).bind fun A=>
 bif A then
 ((Vm.zeY x0.At 0 15).bind fun B=>
 e B)
 else
 (e false))
 else
 (some false)) fun f=>
 bif(x0.Kind==6) then
 (f (x0.Kind==6))
 else
 (f (x0.Kind==7)))) fun g=>
 bif(x0.Kind==4) then
 (g (x0.Kind==4))
 else
 (g (x0.Kind==5))))))) fun h=>
 (Vm.zbW x0.Branch).bind fun C=>
 bif(!C) then
 (h true)
 else
 ((Vm.zbW x0.Who).bind fun D=>
 h (!D))
def zeI (x0:List Vm.File)(x1:Vm.File)(d:List Vm.File->Bool->Int->Option ((List Vm.File))):Nat->List Vm.File->Bool->Int->Option ((List Vm.File))
 |0,_,_,_=>none
 |m+1,b,c,a=>
 bif decide (a< (x0.length:Int)) then
 (jn (fun(j:List Vm.File) (k:Bool)=>
 zeI x0 x1 d m j k (w64 (a+1))) fun e=>
 jn (fun(f:List Vm.File) (g:Bool)=>
 (gi x0 a).bind fun l=>
 bif(l.Path !=x1.Path) then
 ((gi x0 a).bind fun n=>
 (apM f [n]).bind fun o=>
 e o g)
 else
 (e f g)) fun h=>
 jn (fun(p:Bool)=>
 bif p then
 ((apM ([]:List Str) x1.Text).bind fun q=>
 (apM b [Vm.File.mk x1.Path q]).bind fun r=>
 h r true)
 else
 (h b c)) fun i=>
 bif(!c) then
 ((gi x0 a).bind fun s=>
 i (!Op.bytesLess s.Path x1.Path))
 else
 (i false))
 else
 (d b c a)
def zgJ (x0:List Vm.File)(x1:Vm.File):Option ((List Vm.File)):=
 jn (fun(a:List Vm.File) (c:Bool) (h:Int)=>
 jn (fun(d:List Vm.File)=>
 some d) fun b=>
 bif(!c) then
 ((apM ([]:List Str) x1.Text).bind fun e=>
 (apM a [Vm.File.mk x1.Path e]).bind fun f=>
 b f)
 else
 (b a)) fun g=>
 zeI x0 x1 g (((x0.length:Int)-0).toNat+1) ([]:List File) false 0
def zfm (x0:List Vm.File)(x1:Vm.File):Option ((List Vm.File)×Bool):=
 (Vm.zec x0).bind fun b=>
 bif(!b) then
 (some (([]:List File),false))
 else
 ((Vm.zdp x0).bind fun c=>
 (Vm.zgJ c x1).bind fun a=>
 (Vm.zec a).bind fun d=>
 bif(!d) then
 ((Vm.zdp x0).bind fun e=>
 some (e,false))
 else
 (some (a,true)))
def ze2 (x0:Vm.Repo)(x1:Str)(x2:Str)(x3:List Vm.File):Option (Vm.Repo×Bool):=
 (Vm.zcQ x0).bind fun f=>
 bif(!f) then
 (some (Vm.Repo.mk ([]:List Commit) ([]:List Head),false))
 else
 ((Vm.zdp x3).bind fun a=>
 jn (fun(g:List Int) (h:Str) (i:List Vm.File)=>
 (Vm.zbl x0).bind fun b=>
 (Vm.zdP (Vm.Repo.mk b.Commits b.Heads) x1 (Vm.Commit.mk g h i)).bind fun c=>
 (Vm.zcQ c).bind fun j=>
 bif(!j) then
 ((Vm.zbl x0).bind fun d=>
 some (Vm.Repo.mk d.Commits d.Heads,false))
 else
 (some (c,true))) fun e=>
 (Vm.zc3 x0 x1).bind fun k=>
 bif decide (0<=(k:Int)) then
 ((Vm.zc3 x0 x1).bind fun l=>
 e ([l]:List Int) x2 a)
 else
 (e ([]:List Int) x2 a))
def zch (x0:Vm.Repo)(x1:Vm.Op)(x2:List Vm.File)(x3:Bool):Option (Vm.Repo×Int):=
 bif(!x3) then
 (some (x0,1))
 else
 ((Vm.ze2 x0 x1.Branch x1.Who x2).bind fun a=>
 bif(!a.2) then
 (some (x0,5))
 else
 (some (a.1,0)))
def zdU (x0:List Vm.File)(x1:Str)(c:List Vm.File->Int->Option ((List Vm.File))):Nat->List Vm.File->Int->Option ((List Vm.File))
 |0,_,_=>none
 |m+1,b,a=>
 bif decide (a< (x0.length:Int)) then
 (jn (fun(f:List Vm.File)=>
 zdU x0 x1 c m f (w64 (a+1))) fun d=>
 jn (fun(g:Bool)=>
 bif g then
 ((gi x0 a).bind fun h=>
 (apM b [h]).bind fun i=>
 d i)
 else
 (d b)) fun e=>
 (gi x0 a).bind fun j=>
 bif(j.Path !=x1) then
 ((gi x0 a).bind fun k=>
 (Vm.zhQ x1 k.Path).bind fun l=>
 e (!l))
 else
 (e false))
 else
 (c b a)
def zhS (x0:List Vm.File)(x1:Str):Option ((List Vm.File)):=
 jn (fun(a:List Vm.File) (c:Int)=>
 some a) fun b=>
 zdU x0 x1 b (((x0.length:Int)-0).toNat+1) ([]:List File) 0
def zeJ (x0:List Vm.File)(x1:Str):Option ((List Vm.File)×Bool):=
 (Vm.zec x0).bind fun b=>
 bif(!b) then
 (some (([]:List File),false))
 else
 ((Vm.zdp x0).bind fun c=>
 (Vm.zhS c x1).bind fun a=>
 some (a,decide (a.length< (x0.length:Int))))
def zbj (x0:List Vm.File)(x1:Str)(x2:Str)(c:List Vm.File->Int->Option ((List Vm.File)×Bool)):Nat->List Vm.File->Int->Option ((List Vm.File)×Bool)
 |0,_,_=>none
 |m+1,b,a=>
 bif decide (a< (x0.length:Int)) then
 (jn (fun(f:List Vm.File)=>
 zbj x0 x1 x2 c m f (w64 (a+1))) fun d=>
 jn (fun(g:Bool)=>
 bif g then
 ((gi x0 a).bind fun u64=>
 (slM u64.Path (x1.length:Int) (u64.Path.length:Int)).bind fun h=>
 (saM x2 h).bind fun i=>
 (gi x0 a).bind fun j=>
 (Vm.zgJ b (Vm.File.mk i j.Text)).bind fun k=>
 d k)
 else
 (d b)) fun e=>
 (gi x0 a).bind fun l=>
 bif(l.Path==x1) then
 (e true)
 else
 ((gi x0 a).bind fun n=>
 (Vm.zhQ x1 n.Path).bind fun o=>
 e o))
 else
 (c b a)
def zeK (x0:List Vm.File)(x1:Str)(x2:Str):Option ((List Vm.File)×Bool):=
 (Vm.zec x0).bind fun e=>
 bif(!e) then
 (some (([]:List File),false))
 else
 ((Vm.zdp x0).bind fun f=>
 (Vm.zhS f x1).bind fun b=>
 jn (fun(g:Bool)=>
 bif g then
 ((Vm.zdp x0).bind fun h=>
 some (h,false))
 else
 (jn (fun(a:List Vm.File) (n:Int)=>
 jn (fun(i:Bool)=>
 bif i then
 ((Vm.zdp x0).bind fun j=>
 some (j,false))
 else
 (some (a,true))) fun c=>
 (Vm.zec a).bind fun k=>
 bif(!k) then
 (c true)
 else
 (c ((a.length:Int) !=(x0.length:Int)))) fun l=>
 zbj x0 x1 x2 l (((x0.length:Int)-0).toNat+1) b 0)) fun d=>
 bif((b.length:Int)==(x0.length:Int)) then
 (d true)
 else
 ((Vm.zcT x2).bind fun m=>
 d (!m)))
def zdv (x0:Vm.Repo)(x1:Str)(x2:Int):Option (Vm.Repo×Bool):=
 (Vm.zcQ x0).bind fun e=>
 bif(!e) then
 (some (Vm.Repo.mk ([]:List Commit) ([]:List Head),false))
 else
 ((Vm.zbl x0).bind fun a=>
 (Vm.zfB (Vm.Repo.mk a.Commits a.Heads) x1 x2).bind fun b=>
 jn (fun(f:Bool)=>
 bif f then
 ((Vm.zbl x0).bind fun c=>
 some (Vm.Repo.mk c.Commits c.Heads,false))
 else
 (some (b,true))) fun d=>
 (Vm.zc3 x0 x1).bind fun g=>
 bif decide (0<=(g:Int)) then
 (d true)
 else
 ((Vm.zcQ b).bind fun h=>
 d (!h)))
def zdb (x0:Vm.Repo)(x1:Str)(x2:Str)(x3:Int):Option (Vm.Repo×Int):=
 (Vm.zcQ x0).bind fun e=>
 bif(!e) then
 (some (Vm.Repo.mk ([]:List Commit) ([]:List Head),1))
 else
 (jn (fun(f:Bool)=>
 bif f then
 ((Vm.zbl x0).bind fun b=>
 some (Vm.Repo.mk b.Commits b.Heads,1))
 else
 ((Vm.zbl x0).bind fun c=>
 (Vm.zd5 (Vm.Repo.mk c.Commits c.Heads) x1 x2 x3).bind fun d=>
 some (d.1,d.2))) fun a=>
 (Vm.zc3 x0 x1).bind fun g=>
 bif decide (g< (0:Int)) then
 (a true)
 else
 ((Vm.zbW x2).bind fun h=>
 bif(!h) then
 (a true)
 else
 ((Vm.zeY x3 0 (w64 ((x0.Commits.length:Int)-1))).bind fun i=>
 a (!i))))
def zcv (x0:Vm.Repo)(x1:Int):Option ((List Vm.File)):=
 (gi x0.Commits x1).bind fun a=>
 bif((a.Parents.length:Int)==0) then
 (some ([]:List File))
 else
 ((gi x0.Commits x1).bind fun b=>
 (gi b.Parents 0).bind fun c=>
 (gi x0.Commits c).bind fun d=>
 some d.Tree)
def zd9 (x0:Vm.Repo)(x1:Str)(x2:Str)(x3:List Vm.File)(x4:List Vm.File):Option (Vm.Repo×Int):=
 (Vm.zc3 x0 x1).bind fun a=>
 (gi x0.Commits a).bind fun d=>
 (Vm.zf3 x3 d.Tree x4).bind fun b=>
 bif decide (0< (b.2.length:Int)) then
 (some (x0,4))
 else
 ((Vm.zdP x0 x1 (Vm.Commit.mk ([a]:List Int) x2 b.1)).bind fun c=>
 (Vm.zcQ c).bind fun e=>
 bif(!e) then
 (some (x0,5))
 else
 (some (c,0)))
def zfb (x0:Vm.Repo)(x1:Str)(x2:Str)(x3:Int):Option (Vm.Repo×Int):=
 (Vm.zcQ x0).bind fun e=>
 bif(!e) then
 (some (Vm.Repo.mk ([]:List Commit) ([]:List Head),1))
 else
 (jn (fun(f:Bool)=>
 bif f then
 ((Vm.zbl x0).bind fun c=>
 some (Vm.Repo.mk c.Commits c.Heads,1))
 else
 ((Vm.zbl x0).bind fun a=>
 (gi a.Commits x3).bind fun g=>
 (Vm.zcv (Vm.Repo.mk a.Commits a.Heads) x3).bind fun h=>
 (Vm.zd9 (Vm.Repo.mk a.Commits a.Heads) x1 x2 h g.Tree).bind fun d=>
 some (d.1,d.2))) fun b=>
 (Vm.zc3 x0 x1).bind fun i=>
 bif decide (i< (0:Int)) then
 (b true)
 else
 ((Vm.zbW x2).bind fun j=>
 bif(!j) then
 (b true)
 else
 ((Vm.zeY x3 0 (w64 ((x0.Commits.length:Int)-1))).bind fun k=>
 b (!k))))
def zdE (x0:Vm.Repo)(x1:Str)(x2:Str)(x3:Int):Option (Vm.Repo×Int):=
 (Vm.zcQ x0).bind fun e=>
 bif(!e) then
 (some (Vm.Repo.mk ([]:List Commit) ([]:List Head),1))
 else
 (jn (fun(f:Bool)=>
 bif f then
 ((Vm.zbl x0).bind fun c=>
 some (Vm.Repo.mk c.Commits c.Heads,1))
 else
 ((Vm.zbl x0).bind fun a=>
 (gi a.Commits x3).bind fun g=>
 (Vm.zcv (Vm.Repo.mk a.Commits a.Heads) x3).bind fun h=>
 (Vm.zd9 (Vm.Repo.mk a.Commits a.Heads) x1 x2 g.Tree h).bind fun d=>
 some (d.1,d.2))) fun b=>
 (Vm.zc3 x0 x1).bind fun i=>
 bif decide (i< (0:Int)) then
 (b true)
 else
 ((Vm.zbW x2).bind fun j=>
 bif(!j) then
 (b true)
 else
 ((Vm.zeY x3 0 (w64 ((x0.Commits.length:Int)-1))).bind fun k=>
 b (!k))))
def zjE (x0:Vm.Repo)(x1:Vm.Op):Option (Vm.Repo×Int):=
 (Vm.zc3 x0 x1.Branch).bind fun a=>
 jn (fun(b:List Vm.File)=>
 bif(x1.Kind==1) then
 ((Vm.zfm b (Vm.File.mk x1.Path x1.Text)).bind fun c=>
 (Vm.zch x0 x1 c.1 c.2).bind fun d=>
 some (d.1,d.2))
 else
 (bif(x1.Kind==2) then
 ((Vm.zeJ b x1.Path).bind fun e=>
 (Vm.zch x0 x1 e.1 e.2).bind fun f=>
 some (f.1,f.2))
 else
 (bif(x1.Kind==3) then
 ((Vm.zeK b x1.Path x1.To).bind fun g=>
 (Vm.zch x0 x1 g.1 g.2).bind fun h=>
 some (h.1,h.2))
 else
 (bif(x1.Kind==4) then
 ((Vm.zdv x0 x1.To a).bind fun i=>
 bif(!i.2) then
 (some (x0,1))
 else
 (some (i.1,0)))
 else
 (bif(x1.Kind==5) then
 ((Vm.zc3 x0 x1.To).bind fun n=>
 (Vm.zdb x0 x1.Branch x1.Who n).bind fun j=>
 some (j.1,j.2))
 else
 (bif(x1.Kind==6) then
 ((Vm.zfb x0 x1.Branch x1.Who x1.At).bind fun k=>
 some (k.1,k.2))
 else
 ((Vm.zdE x0 x1.Branch x1.Who x1.At).bind fun l=>
 some (l.1,l.2)))))))) fun m=>
 bif decide (0<=(a:Int)) then
 ((gi x0.Commits a).bind fun o=>
 m o.Tree)
 else
 (m ([]:List File))
def zc0 (x0:List Vm.Op)(d:Int->List Vm.Commit->List Vm.Head->Option (Vm.Repo)):Nat->Int->List Vm.Commit->List Vm.Head->Option (Vm.Repo)
 |0,_,_,_=>none
 |m+1,a,b,c=>
 jn (fun(h:Bool)=>
 bif h then
 (jn (fun(i:List Vm.Commit) (j:List Vm.Head)=>
 zc0 x0 d m (w64 (a+1)) i j) fun e=>
 (gi x0 a).bind fun k=>
 (Vm.zjD k).bind fun l=>
 bif l then
 ((gi x0 a).bind fun n=>
 (Vm.zjE (Vm.Repo.mk b c) n).bind fun f=>
 e f.1.Commits f.1.Heads)
 else
 (e b c))
 else
 (d a b c)) fun g=>
 bif decide (a< (x0.length:Int)) then
 (g (decide (a< (30:Int))))
 else
 (g false)
def zgi (x0:List Vm.Op):Option (Vm.Repo):=
 jn (fun(d:Int) (a:List Vm.Commit) (b:List Vm.Head)=>
 some (Vm.Repo.mk a b)) fun c=>
 zc0 x0 c (x0.length+1) 0 ([]:List Commit) ([]:List Head)
def zhm (x0:Vm.l30Rd):Option (Vm.Repo×Int):=
 (Vm.ziy x0).bind fun a=>
 (Vm.zgi a.1).bind fun c=>
 (Vm.zbl c).bind fun b=>
 some (Vm.Repo.mk b.Commits b.Heads,a.2)
def zer (x0:Vm.l30Rd):Option (Vm.Repo×Int):=
 (Vm.zhm x0).bind fun a=>
 jn (fun(h:Int) (i:List Vm.Commit) (j:List Vm.Head)=>
 some (Vm.Repo.mk i j,h)) fun e=>
 bif decide (0< (a.1.Commits.length:Int)) then
 ((Vm.zav (Vm.l30Rd.mk x0.b a.2) (a.1.Commits.length:Int)).bind fun d=>
 (Vm.zav (Vm.l30Rd.mk x0.b d.2) 16).bind fun c=>
 bif(c.1==0) then
 ((gi a.1.Commits d.1).bind fun f=>
 (siM a.1.Commits d.1 (Vm.Commit.mk ([d.1]:List Int) f.Who f.Tree)).bind fun k=>
 e c.2 k a.1.Heads)
 else
 (bif(c.1==1) then
 ((gi a.1.Commits d.1).bind fun g=>
 (siM a.1.Commits d.1 (Vm.Commit.mk g.Parents ([]:Str) g.Tree)).bind fun l=>
 e c.2 l a.1.Heads)
 else
 (bif(c.1==2) then
 ((gi a.1.Heads 0).bind fun m=>
 (apM a.1.Heads [m]).bind fun n=>
 e c.2 a.1.Commits n)
 else
 (e c.2 a.1.Commits a.1.Heads))))
 else
 (e a.2 a.1.Commits a.1.Heads)
end Go.Vm
