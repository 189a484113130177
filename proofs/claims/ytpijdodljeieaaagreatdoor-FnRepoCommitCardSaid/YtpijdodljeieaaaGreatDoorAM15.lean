/- Models of the functions: plain Lean, printed by a program of ours. Conditions: none. -/
import Derived.Test.YtpijdodljeieaaaGreatDoorALw
import Derived.Test.YtpijdodljeieaaaGreatDoorAM0
import Derived.Test.YtpijdodljeieaaaGreatDoorAM2
import Derived.Test.YtpijdodljeieaaaGreatDoorAM3
import Derived.Test.YtpijdodljeieaaaGreatDoorAM6
import Derived.Test.YtpijdodljeieaaaGreatDoorAM9
namespace Go.Vm
open Go Go.Sx
set_option linter.unusedVariables false
set_option linter.unusedSimpArgs false
def zgM (x0:Vm.l30Rd)(c:List Vm.File->Int->Int->Option ((List Vm.File)×Int)):Nat->List Vm.File->Int->Int->Option ((List Vm.File)×Int)
 |0,_,_,_=>none
 |m+1,d,a,e=>
 bif decide (0< (a:Int)) then
 ((Vm.zcv (Vm.l30Rd.mk x0.b e)).bind fun f=>
 (Vm.zei (Vm.l30Rd.mk x0.b f.2)).bind fun g=>
 (Vm.zcU d (Vm.File.mk f.1 g.1)).bind fun h=>
 zgM x0 c m h.1 (w64 (a-1)) g.2)
 else
 (c d a e)
def zj9 (x0:Vm.l30Rd):Option ((List Vm.File)×Int):=
 (Vm.zaz x0 6).bind fun a=>
 jn (fun(b:List Vm.File) (f:Int) (c:Int)=>
 (Vm.zcY b).bind fun d=>
 some (d,c)) fun e=>
 zgM x0 e ((a.1-0).toNat+1) ([]:List File) a.1 a.2
def zig (x0:Vm.l30Rd):Option (Str×Int):=
 (Vm.zaz x0 6).bind fun a=>
 bif(a.1==0) then
 ((Vm.zbg (Vm.l30Rd.mk x0.b a.2) ([([]:Str),([100]:Str),([103]:Str),([65]:Str),([97,47]:Str),([97,47,98,47,99,47,100]:Str),([116,111,111,108,111,110,103]:Str),([103,47,104]:Str),([100,47,101,47,102]:Str)]:List Str)).bind fun c=>
 some (c.1,c.2))
 else
 ((Vm.zcv (Vm.l30Rd.mk x0.b a.2)).bind fun d=>
 some (d.1,d.2))
def zih (x0:Vm.l30Rd):Option ((List Str)×Int):=
 (Vm.zei x0).bind fun c=>
 (Vm.zaz (Vm.l30Rd.mk x0.b c.2) 16).bind fun a=>
 bif(a.1==0) then
 ((Vm.zbg (Vm.l30Rd.mk x0.b a.2) ([([97,32,108,105,110,101,32,116,111,111,32,108,111,110,103]:Str),([120,10,121]:Str),([255]:Str)]:List Str)).bind fun d=>
 (apM c.1 [d.1]).bind fun e=>
 some (e,d.2))
 else
 (bif(a.1==1) then
 ((apM c.1 ([([49]:Str),([50]:Str),([51]:Str),([52]:Str),([53]:Str),([54]:Str),([55]:Str),([56]:Str),([57]:Str),([49,48]:Str)]:List Str)).bind fun f=>
 some (f,a.2))
 else
 (some (c.1,a.2)))
def zii (x0:Vm.l30Rd):Option ((List Vm.File)×Int):=
 (Vm.zj9 x0).bind fun a=>
 jn (fun(p:List Vm.File) (h:Int) (i:List Vm.File)=>
 some (i,h)) fun e=>
 bif decide (0< (a.1.length:Int)) then
 ((Vm.zaz (Vm.l30Rd.mk x0.b a.2) (a.1.length:Int)).bind fun d=>
 (Vm.zaz (Vm.l30Rd.mk x0.b d.2) 14).bind fun c=>
 bif(c.1==0) then
 ((Vm.zig (Vm.l30Rd.mk x0.b c.2)).bind fun f=>
 (gi a.1 d.1).bind fun j=>
 (siM a.1 d.1 (Vm.File.mk f.1 j.Text)).bind fun k=>
 e ([]:List File) f.2 k)
 else
 (bif(c.1==1) then
 ((Vm.zih (Vm.l30Rd.mk x0.b c.2)).bind fun g=>
 (gi a.1 d.1).bind fun l=>
 (siM a.1 d.1 (Vm.File.mk l.Path g.1)).bind fun m=>
 e ([]:List File) g.2 m)
 else
 (bif(c.1==2) then
 ((gi a.1 d.1).bind fun n=>
 (apM a.1 [n]).bind fun o=>
 some (o,c.2))
 else
 (e ([]:List File) c.2 a.1))))
 else
 (e ([]:List File) a.2 a.1)
def zgn (x0:List Byte):Option (Vm.Repo×Str×Str×(List Vm.File)):=
 (Vm.zcu x0).bind fun a=>
 (Vm.zcs a).bind fun c=>
 (Vm.zbg (Vm.l30Rd.mk a.b c.2) ([([109,97,105,110]:Str),([115,105,100,101]:Str),([110,101,119]:Str),([66,97,100]:Str)]:List Str)).bind fun d=>
 (Vm.zbg (Vm.l30Rd.mk a.b d.2) ([([97,110,110]:Str),([98,111,98]:Str),([]:Str)]:List Str)).bind fun e=>
 (Vm.zii (Vm.l30Rd.mk a.b e.2)).bind fun f=>
 some (Vm.Repo.mk c.1.Commits c.1.Heads,d.1,e.1,f.1)
def zfF (x0:Vm.Repo)(x1:Str)(x2:Str)(x3:List Vm.File)(x4:List Int):Option (Vm.Repo):=
 (Vm.zf3 x3).bind fun c=>
 (apM x0.Commits [Vm.Commit.mk x4 x2 c]).bind fun a=>
 (Vm.zdz (Vm.Repo.mk a x0.Heads) x1 (w64 ((a.length:Int)-1))).bind fun b=>
 some (Vm.Repo.mk b.Commits b.Heads)
def zij (x0:Vm.Repo)(x1:Str)(x2:Str)(x3:List Vm.File):Option (Vm.Repo×Bool):=
 (Vm.zct x0).bind fun f=>
 bif(!f) then
 (some (Vm.Repo.mk ([]:List Commit) ([]:List Head),false))
 else
 (jn (fun(g:List Int)=>
 (Vm.zdZ x0).bind fun b=>
 (Vm.zfF (Vm.Repo.mk b.Commits b.Heads) x1 x2 x3 g).bind fun c=>
 (Vm.zeA x0 (Vm.Repo.mk c.Commits c.Heads)).bind fun a=>
 some (Vm.Repo.mk a.1.Commits a.1.Heads,a.2)) fun d=>
 (Vm.zgD x0 x1).bind fun e=>
 bif decide (0<=(e:Int)) then
 ((apM ([]:List Int) [e]).bind fun h=>
 d h)
 else
 (d ([]:List Int)))
def zkg (x0:Vm.Repo):Option (Bool):=
 (Vm.zcr x0).bind fun a=>
 some a
def zjo (x0:Vm.Repo)(x1:Int):Option ((List Vm.File)×Bool):=
 jn (fun(b:Bool)=>
 bif b then
 (some (([]:List File),false))
 else
 ((Vm.zbK x0 x1).bind fun c=>
 (Vm.zf3 c).bind fun d=>
 some (d,true))) fun a=>
 (Vm.zct x0).bind fun e=>
 bif(!e) then
 (a true)
 else
 ((Vm.zby x0 x1).bind fun f=>
 a (!f))
def zem (a:Vm.Repo×Str×Str×(List Vm.File))(c:Vm.Repo×Bool)(d:Bool->Int->Option (Bool)):Nat->Bool->Int->Option (Bool)
 |0,_,_=>none
 |m+1,e,b=>
 bif decide (b< (a.1.Heads.length:Int)) then
 (jn (fun(g:Bool)=>
 bif g then
 (some false)
 else
 (zem a c d m e (w64 (b+1)))) fun f=>
 (gi a.1.Heads b).bind fun h=>
 bif(h.Name !=a.2.1) then
 ((gi a.1.Heads b).bind fun i=>
 (gi a.1.Heads b).bind fun j=>
 (Vm.zgo (Vm.Repo.mk c.1.Commits c.1.Heads) i.Name).bind fun k=>
 f ((k:Int) !=(j.At:Int)))
 else
 (f false))
 else
 (d e b)
def zh1 (x0:List Byte):Option (Bool):=
 bif decide (1048576< (x0.length:Int)) then
 (some true)
 else
 ((Vm.zgn x0).bind fun a=>
 (Vm.zij (Vm.Repo.mk a.1.Commits a.1.Heads) a.2.1 a.2.2.1 a.2.2.2).bind fun b=>
 (Vm.zcZ (Vm.Repo.mk a.1.Commits a.1.Heads) a.2.1 a.2.2.1 a.2.2.2).bind fun f=>
 jn (fun(j:Bool)=>
 bif j then
 (jn (fun(k:Bool)=>
 some k) fun h=>
 bif(b.2==f.2) then
 ((Vm.zff (Vm.Repo.mk b.1.Commits b.1.Heads) f.1).bind fun l=>
 bif l then
 ((Vm.zct (Vm.Repo.mk a.1.Commits a.1.Heads)).bind fun m=>
 (Vm.zkg (Vm.Repo.mk a.1.Commits a.1.Heads)).bind fun n=>
 h (m==n))
 else
 (h false))
 else
 (h false))
 else
 (bif(!b.2) then
 ((Vm.zff (Vm.Repo.mk b.1.Commits b.1.Heads) (Vm.Repo.mk a.1.Commits a.1.Heads)).bind fun o=>
 some o)
 else
 ((Vm.zgo (Vm.Repo.mk b.1.Commits b.1.Heads) a.2.1).bind fun d=>
 (Vm.zjo (Vm.Repo.mk b.1.Commits b.1.Heads) d).bind fun i=>
 (Vm.zgo (Vm.Repo.mk a.1.Commits a.1.Heads) a.2.1).bind fun e=>
 jn (fun(D:Bool) (E:Int)=>
 jn (fun(p:Bool)=>
 some p) fun c=>
 (Vm.zct (Vm.Repo.mk b.1.Commits b.1.Heads)).bind fun q=>
 bif q then
 ((Vm.zhm (Vm.Repo.mk b.1.Commits b.1.Heads) (Vm.Repo.mk a.1.Commits a.1.Heads)).bind fun r=>
 bif r then
 (bif((d:Int)==(a.1.Commits.length:Int)) then
 (bif i.2 then
 ((Vm.zh2 i.1 a.2.2.2).bind fun s=>
 bif s then
 (bif decide (e< (0:Int)) then
 ((gi b.1.Commits d).bind fun t=>
 bif((t.Parents.length:Int)==0) then
 (c true)
 else
 (bif decide (0<=(e:Int)) then
 ((gi b.1.Commits d).bind fun u=>
 (Vm.zdy u.Parents ([e]:List Int)).bind fun v=>
 c v)
 else
 (c false)))
 else
 (bif decide (0<=(e:Int)) then
 ((gi b.1.Commits d).bind fun w=>
 (Vm.zdy w.Parents ([e]:List Int)).bind fun x=>
 c x)
 else
 (c false)))
 else
 (c false))
 else
 (c false))
 else
 (c false))
 else
 (c false))
 else
 (c false)) fun y=>
 zem a b y (((a.1.Heads.length:Int)-0).toNat+1) false 0))) fun g=>
 bif(b.2 !=f.2) then
 (g true)
 else
 ((Vm.zff (Vm.Repo.mk b.1.Commits b.1.Heads) f.1).bind fun z=>
 bif(!z) then
 (g true)
 else
 ((Vm.zct (Vm.Repo.mk a.1.Commits a.1.Heads)).bind fun A=>
 (Vm.zkg (Vm.Repo.mk a.1.Commits a.1.Heads)).bind fun B=>
 bif(A !=B) then
 (g true)
 else
 ((Vm.zct (Vm.Repo.mk a.1.Commits a.1.Heads)).bind fun C=>
 g (!C)))))
end Go.Vm
