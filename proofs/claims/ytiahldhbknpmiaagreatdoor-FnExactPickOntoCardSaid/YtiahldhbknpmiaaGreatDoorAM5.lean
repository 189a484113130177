/- Models of the functions: plain Lean, printed by a program of ours. Conditions: none. -/
import Derived.Test.YtiahldhbknpmiaaGreatDoorALw
import Derived.Test.YtiahldhbknpmiaaGreatDoorAM0
import Derived.Test.YtiahldhbknpmiaaGreatDoorAM1
import Derived.Test.YtiahldhbknpmiaaGreatDoorAM2
import Derived.Test.YtiahldhbknpmiaaGreatDoorAM3
namespace Go.Vm
open Go Go.Sx
set_option linter.unusedVariables false
set_option linter.unusedSimpArgs false
def zfT (d:(List Int))(b:(List Int))(e:List Int->Int->Option ((List Int))):Nat->List Int->Int->Option ((List Int))
 |0,_,_=>none
 |m+1,c,a=>
 bif decide (a< (b.length:Int)) then
 (jn (fun(g:List Int)=>
 zfT d b e m g (w64 (a+1))) fun f=>
 (gi b a).bind fun h=>
 (Vm.zgm d h).bind fun i=>
 bif(!i) then
 ((gi b a).bind fun j=>
 (apM c [j]).bind fun k=>
 f k)
 else
 (f c))
 else
 (e c a)
def zke (x0:Vm.Repo)(x1:Int)(x2:Int):Option ((List Int)):=
 jn (fun(c:Bool)=>
 bif c then
 (some ([]:List Int))
 else
 ((Vm.zfu x0 x1).bind fun d=>
 (Vm.zfu x0 x2).bind fun b=>
 jn (fun(e:List Int) (j:Int)=>
 some e) fun f=>
 zfT d b f (((b.length:Int)-0).toNat+1) ([]:List Int) 0)) fun a=>
 (Vm.zdJ x0).bind fun g=>
 bif(!g) then
 (a true)
 else
 ((Vm.zec x1 0 (w64 ((x0.Commits.length:Int)-1))).bind fun h=>
 bif(!h) then
 (a true)
 else
 ((Vm.zec x2 0 (w64 ((x0.Commits.length:Int)-1))).bind fun i=>
 a (!i)))
def zeY (x0:Vm.Repo)(x1:Str)(b:(List Int))(i:Int->Int->List Vm.Commit->List Vm.Head->List Vm.Commit->List Vm.Head->Option (Vm.Repo×Int)):Nat->Int->Int->List Vm.Commit->List Vm.Head->List Vm.Commit->List Vm.Head->Option (Vm.Repo×Int)
 |0,_,_,_,_,_,_=>none
 |m+1,f,a,g,h,c,d=>
 bif decide (a< (b.length:Int)) then
 (jn (fun(n:Int) (o:List Vm.Commit) (p:List Vm.Head) (q:List Vm.Commit) (r:List Vm.Head)=>
 zeY x0 x1 b i m n (w64 (a+1)) o p q r) fun j=>
 (gi b a).bind fun s=>
 (gi x0.Commits s).bind fun k=>
 bif decide (1< (k.Parents.length:Int)) then
 (j f g h c d)
 else
 ((gi b a).bind fun t=>
 (Vm.zcr (Vm.Repo.mk c d) t).bind fun u=>
 (gi b a).bind fun v=>
 (gi c v).bind fun w=>
 (Vm.zds (Vm.Repo.mk c d) x1 k.Who u w.Tree).bind fun e=>
 bif(e.2 !=0) then
 ((Vm.zdr x0).bind fun l=>
 some (Vm.Repo.mk l.Commits l.Heads,e.2))
 else
 (j f g h e.1.Commits e.1.Heads)))
 else
 (i f a g h c d)
def ziD (x0:Vm.Repo)(x1:Str)(x2:Int):Option (Vm.Repo×Int):=
 (Vm.zdJ x0).bind fun f=>
 bif(!f) then
 (some (Vm.Repo.mk ([]:List Commit) ([]:List Head),1))
 else
 (jn (fun(g:Bool)=>
 bif g then
 ((Vm.zdr x0).bind fun a=>
 some (Vm.Repo.mk a.Commits a.Heads,1))
 else
 ((Vm.zd0 x0 x1).bind fun h=>
 (Vm.zke x0 x2 h).bind fun b=>
 (Vm.zdr x0).bind fun c=>
 (Vm.zfi (Vm.Repo.mk c.Commits c.Heads) x1 x2).bind fun d=>
 jn (fun(n:Int) (o:Int) (p:List Vm.Commit) (q:List Vm.Head) (i:List Vm.Commit) (j:List Vm.Head)=>
 some (Vm.Repo.mk i j,0)) fun k=>
 zeY x0 x1 b k (((b.length:Int)-0).toNat+1) 0 0 ([]:List Commit) ([]:List Head) d.Commits d.Heads)) fun e=>
 (Vm.zd0 x0 x1).bind fun l=>
 bif decide (l< (0:Int)) then
 (e true)
 else
 ((Vm.zec x2 0 (w64 ((x0.Commits.length:Int)-1))).bind fun m=>
 e (!m)))
def zdY (b:(List Int))(d:Int->List Bool->Option ((List Int))):Nat->Int->List Bool->Option ((List Int))
 |0,_,_=>none
 |m+1,a,c=>
 bif decide (a< (b.length:Int)) then
 ((gi b a).bind fun e=>
 (gi c e).bind fun g=>
 (siM c e false).bind fun f=>
 zdY b d m (w64 (a+1)) f)
 else
 (d a c)
def zdb (x0:Vm.Repo)(x2:List Int)(b:Int->List Bool->Option ((List Int))):Nat->Int->List Bool->Option ((List Int))
 |0,_,_=>none
 |m+1,a,c=>
 bif decide (a< (x2.length:Int)) then
 ((gi x2 a).bind fun e=>
 (Vm.za2 x0 e).bind fun f=>
 (Vm.zbL f).bind fun d=>
 jn (fun(i:Int) (g:List Bool)=>
 zdb x0 x2 b m (w64 (a+1)) g) fun h=>
 zdY d h (((d.length:Int)-0).toNat+1) 0 c)
 else
 (b a c)
def zg0 (x0:Vm.Repo)(x1:Int)(x2:List Int):Option ((List Int)):=
 (Vm.za2 x0 x1).bind fun a=>
 jn (fun(e:Int) (b:List Bool)=>
 (Vm.zbL b).bind fun c=>
 some c) fun d=>
 zdb x0 x2 d (((x2.length:Int)-0).toNat+1) 0 a
def zeZ (x0:Vm.Repo)(x1:Str)(c:(List Int))(j:Int->Int->List Vm.Commit->List Vm.Head->List Vm.Commit->List Vm.Head->Option (Vm.Repo×Int)):Nat->Int->Int->List Vm.Commit->List Vm.Head->List Vm.Commit->List Vm.Head->Option (Vm.Repo×Int)
 |0,_,_,_,_,_,_=>none
 |m+1,d,a,e,f,g,h=>
 bif decide (a< (c.length:Int)) then
 (jn (fun(n:Int) (o:List Vm.Commit) (p:List Vm.Head) (q:List Vm.Commit) (r:List Vm.Head)=>
 zeZ x0 x1 c j m n (w64 (a+1)) o p q r) fun k=>
 (gi c a).bind fun i=>
 (gi x0.Commits i).bind fun s=>
 bif decide (1< (s.Parents.length:Int)) then
 (k d e f g h)
 else
 ((gi x0.Commits i).bind fun t=>
 (Vm.zcY (Vm.Repo.mk g h) x1 t.Who i false).bind fun b=>
 bif(b.2 !=0) then
 ((Vm.zaP x0).bind fun l=>
 some (Vm.Repo.mk l.Commits l.Heads,b.2))
 else
 (k d e f b.1.Commits b.1.Heads)))
 else
 (j d a e f g h)
def zhx (x0:Vm.Repo)(x1:Str)(x2:Int):Option (Vm.Repo×Int):=
 (Vm.zdE x0).bind fun g=>
 bif(!g) then
 (some (Vm.Repo.mk ([]:List Commit) ([]:List Head),1))
 else
 ((Vm.zcM x0 x1).bind fun a=>
 jn (fun(h:Bool)=>
 bif h then
 ((Vm.zaP x0).bind fun b=>
 some (Vm.Repo.mk b.Commits b.Heads,1))
 else
 ((Vm.zaP x0).bind fun c=>
 (Vm.za1 (Vm.Repo.mk c.Commits c.Heads) x1 x2).bind fun d=>
 (Vm.zg0 x0 a ([x2]:List Int)).bind fun e=>
 jn (fun(m:Int) (n:Int) (o:List Vm.Commit) (p:List Vm.Head) (i:List Vm.Commit) (j:List Vm.Head)=>
 some (Vm.Repo.mk i j,0)) fun k=>
 zeZ x0 x1 e k (((e.length:Int)-0).toNat+1) 0 0 ([]:List Commit) ([]:List Head) d.Commits d.Heads)) fun f=>
 bif decide (a< (0:Int)) then
 (f true)
 else
 ((Vm.zbl x0 x2).bind fun l=>
 f (!l)))
def zfj (x0:Vm.Repo)(x1:Str)(x2:Int):Option (Bool):=
 bif decide (1048576< (x1.length:Int)) then
 (some true)
 else
 ((Vm.ziJ x0 1048576).bind fun n=>
 bif decide (n< (0:Int)) then
 (some true)
 else
 ((Vm.zc1 x0).bind fun g=>
 (Vm.ziD (Vm.Repo.mk g.Commits g.Heads) x1 x2).bind fun b=>
 (Vm.zc1 x0).bind fun c=>
 (Vm.zhx (Vm.Repo.mk c.Commits c.Heads) x1 x2).bind fun a=>
 jn (fun(o:Bool)=>
 bif o then
 (some false)
 else
 ((Vm.zc1 x0).bind fun h=>
 (Vm.zdq (Vm.Repo.mk c.Commits c.Heads) (Vm.Repo.mk h.Commits h.Heads)).bind fun p=>
 bif(!p) then
 (some false)
 else
 ((Vm.zeG (Vm.Repo.mk c.Commits c.Heads) 1).bind fun q=>
 jn (fun(r:Bool)=>
 bif r then
 (some false)
 else
 ((Vm.zeG (Vm.Repo.mk a.1.Commits a.1.Heads) 1).bind fun d=>
 (Vm.zfb (Vm.Repo.mk d.2.Commits d.2.Heads) 1).bind fun i=>
 bif decide (i< (0:Int)) then
 (some false)
 else
 (bif((i:Int) !=(d.1:Int)) then
 (some false)
 else
 ((Vm.zc1 x0).bind fun j=>
 (Vm.zhx (Vm.Repo.mk j.Commits j.Heads) x1 x2).bind fun e=>
 jn (fun(s:Bool)=>
 bif s then
 (some false)
 else
 ((Vm.zfb (Vm.Repo.mk d.2.Commits d.2.Heads) 1).bind fun k=>
 bif decide (k< (0:Int)) then
 (some false)
 else
 (bif((k:Int) !=(d.1:Int)) then
 (some false)
 else
 (some true)))) fun l=>
 (Vm.zdq (Vm.Repo.mk e.1.Commits e.1.Heads) b.1).bind fun t=>
 bif(!t) then
 (l true)
 else
 (l ((e.2:Int) !=(b.2:Int))))))) fun f=>
 bif decide (q.1< (0:Int)) then
 (f true)
 else
 ((Vm.zdq (Vm.Repo.mk a.1.Commits a.1.Heads) b.1).bind fun u=>
 bif(!u) then
 (f true)
 else
 (f ((a.2:Int) !=(b.2:Int))))))) fun m=>
 (Vm.zdq (Vm.Repo.mk a.1.Commits a.1.Heads) b.1).bind fun v=>
 bif(!v) then
 (m true)
 else
 (m ((a.2:Int) !=(b.2:Int)))))
end Go.Vm
