/- Walks: each function answers as its model, printed by a program of ours. Conditions: the arguments read as they are given. -/
import Derived.Test.YtjokjcdckcpijaaDoorATs
import Derived.Test.YtjokjcdckcpijaaDoorAM0
import Derived.Test.YtjokjcdckcpijaaDoorAW0
import Derived.Test.YtjokjcdckcpijaaDoorAE
namespace Go.Sx
open Go Go.Proofs Go.Vm Rp
set_option linter.unusedVariables false
set_option linter.unusedSimpArgs false
variable {W W0:CW}{K:List Nat}
theorem c29 {r}(Y:Vm.zbc=some r):Q0 29 [] W0 fun Wf v=> ∃ a,v=a/\OwS Wf LL [] [a] r:=by
 unfold Vm.zbc at Y
 refine zaq.of Tryd.func29 O O O O (sr (Nv (.slice none 0 0) O (sr (Lw.t O (T.bsS (α:=Str) (xs:=[([]:Str),([115,101,116]:Str),([100,114,111,112]:Str),([109,111,118,101]:Str),([102,111,114,107]:Str),([117,110,105,116,101]:Str),([112,105,99,107]:Str),([98,97,99,107]:Str)]) 2 [] (W:=W0) [vS ([]:Str),vS ([115,101,116]:Str),vS ([100,114,111,112]:Str),vS ([109,111,118,101]:Str),vS ([102,111,114,107]:Str),vS ([117,110,105,116,101]:Str),vS ([112,105,99,107]:Str),vS ([98,97,99,107]:Str)] (Each.cons ((rdS _)) (Each.cons ((rdS _)) (Each.cons ((rdS _)) (Each.cons ((rdS _)) (Each.cons ((rdS _)) (Each.cons ((rdS _)) (Each.cons ((rdS _)) (Each.cons ((rdS _)) Each.nil)))))))) O) ?_))))
 rintro b _ ⟨h,rfl,d,e⟩
 have f:=d.o
 refine Nv b O ?_
 cases Y
 exact Cw.ret (ziK O (Res.mk f ⟨b,O,e.s.sub O O⟩))
theorem p29 {k0 r}(Y:Vm.zbc=some r):Q1 29 [] W [] fun W' v=> ∃ a,v=a/\Ow W' k0 [] [a] r:=
 (c29 (W0:=W.view [] []) Y).ad (fk k0) fun _ _ ⟨a,e,b⟩=>⟨a,e,b.back (zl3 _)⟩
theorem c58 (m:Nat): ∀ {W0:CW} {x0:Int} {r:Str} (Y:Vm.spec_l1Dec_r m x0=some r),zaq Tryd.prog 58 [vI x0].toArray W0.w (Res W0 LL fun Wf v=>v=vS r):=by
 induction m with
 |zero=>intro W0 x0 r Y;exact absurd Y (by unfold Vm.spec_l1Dec_r;exact nofun)
 |succ m ih=>
  have p58: ∀ {W:CW} {x0:Int} {r:Str} (Y:Vm.spec_l1Dec_r m x0=some r),zaq Tryd.prog 58 [vI x0].toArray W.w (Res W [] fun W' v=>v=vS r):=fun {W} {x0} {r} Y=>(ih (W0:=W.view [0] []) Y).ad (fk 0) fun _ _ e=>e
  intro W0 x0 r Y
  unfold Vm.spec_l1Dec_r at Y
  refine zaq.of Tryd.func58 O O O O (sr (Ns O (ssr (mi O (Lw.lt O (nl (cn Y (fun Y=>?_) fun Y=>?_)))))))
  ·exact sr (Ns O (.ret (rt Y (Le.refl _ _))))
  ·refine sk (ssr (mi O (Lw.lt O (nl (cn Y (fun Y=>?_) fun Y=>?_)))))
   ·refine sr (mi O (Lw.r O (R.neg O) (ca Y (fun _=>p58) fun z3 W5 Y F=>?_)))
    have G:=F.o
    obtain⟨q7,H,Y⟩:=ob Y
    exact Lw.r O (R.sad H O O) (Ns O (.ret (rt Y G)))
   ·refine sk (ssr (mi O (Lw.lt O (nl (cn Y (fun Y=>?_) fun Y=>?_)))))
    ·refine sr (mi O (Lw.add O (Lw.r O (R.cv8 O O) (Lw.t O (T.bsS (α:=Byte) (xs:=[(by8 (w64 (48+x0)))]) 2 [] (W:=W0) [.int .u8 (UInt8.toNat (by8 (w64 (48+x0))):Int)] (Each.cons ((rdY _)) Each.nil) O) ?_))))
     rintro am _ ⟨an,rfl,l10,I⟩
     have J:=l10.o
     exact Lw.r O (R.cvB (xs:=([(by8 (w64 (48+x0)))]:List Byte)) I.rd O (fun h=>h.1)) (Ns O (.ret (rt Y J)))
    ·refine sk (Cw.seq ?_)
     obtain⟨b,K,Y⟩:=ob Y
     obtain⟨a,L,Y⟩:=ob Y
     refine Cw.par [[],[0],[0,1],[],[3],[3,4],[3,4,5],[3,4,5,6],[3,4,5,6,7],[0,1,2,3,4,5,6,7,8],[0,1,2,3,4,5,6,7,8,9]] [[],[0],[1],[],[3],[4],[5],[6],[7],[2,8],[9]] [[],[],[],[],[],[],[],[],[],[],[]] [[0],[1],[2],[3],[4],[5],[6],[7],[8],[9],[10]] [[],[],[],[],[],[],[],[3],[],[],[]] [0,1,2,3,4,5,6,7,8,9,10] [] [fun vs W=>(vs 0)=vI x0,fun vs W=>(vs 1)=vI (w64 (Int.tdiv x0 10)),fun vs W=>(vs 2)=vS b,fun vs W=>(vs 3)=vI x0,fun vs W=>(vs 4)=vI (Int.tmod x0 10),fun vs W=>(vs 5)=vI (w64 (48+(Int.tmod x0 10))),fun vs W=>(vs 6) = .int .u8 (UInt8.toNat (by8 (w64 (48+(Int.tmod x0 10)))):Int),fun vs W=>Ow W 3 [] [(vs 7)] ([(by8 (w64 (48+(Int.tmod x0 10))))]:List Byte),fun vs W=>(vs 8)=vS (([(by8 (w64 (48+(Int.tmod x0 10))))]:List Byte):Str),fun vs W=>(vs 9)=vS a,fun vs W=>(vs 10)=vS a] [] mixed (by kernel_rfl) O zjF.nil ?_
     intro ao M
     have N:=M.o
     refine⟨(zaI.cons ?_ (zaI.cons ?_ (zaI.cons ?_ (zaI.cons ?_ (zaI.cons ?_ (zaI.cons ?_ (zaI.cons ?_ (zaI.cons ?_ (zaI.cons ?_ (zaI.cons ?_ (zaI.cons ?_ zaI.nil))))))))))),(zch.cons SE (zch.cons SE (zch.cons SE (zch.cons SE (zch.cons SE (zch.cons SE (zch.cons SE (zch.cons SO (zch.cons SE (zch.cons SE (zch.cons SE zch.nil))))))))))),?_⟩
     ·intro vs ap lW hN hV
      exact Trq (R.mv (v:=vI x0) O) O
     ·intro vs aq lW hN hV
      have d:vs 0=vI x0:=(hN 0 (zaW O))
      obtain⟨vs,rfl⟩:=zai d
      exact Trq (R.quo O O (by decide)) O
     ·intro vs ar lW hN hV
      have f:vs 1=vI (w64 (Int.tdiv x0 10)):=(hN 1 (zaW O))
      obtain⟨vs,rfl⟩:=zai f
      refine Tr.mono (T.call O (p58 K)) ?_
      rintro _ _ ⟨P,rfl,Q,rfl⟩
      exact⟨P,O,Q,(show(vS b:Value)=vS b from O)⟩
     ·intro vs au lW hN hV
      exact Trq (R.mv (v:=vI x0) O) O
     ·intro vs av lW hN hV
      have i:vs 3=vI x0:=(hN 3 (zaW O))
      obtain⟨vs,rfl⟩:=zai i
      exact Trq (R.rem O O (by decide)) O
     ·intro vs aw lW hN hV
      have k:vs 4=vI (Int.tmod x0 10):=(hN 4 (zaW O))
      obtain⟨vs,rfl⟩:=zai k
      exact Trq (R.add O O) O
     ·intro vs ax lW hN hV
      have x:vs 5=vI (w64 (48+(Int.tmod x0 10))):=(hN 5 (zaW O))
      obtain⟨vs,rfl⟩:=zai x
      exact Trq (R.cv8 O O) O
     ·intro vs S lW hN hV
      have y:vs 6 = .int .u8 (UInt8.toNat (by8 (w64 (48+(Int.tmod x0 10)))):Int):=(hN 6 (zaW O))
      obtain⟨vs,rfl⟩:=zai y
      refine Tr.mono (T.bsS (α:=Byte) (xs:=[(by8 (w64 (48+(Int.tmod x0 10))))]) 3 [] (W:=S) [.int .u8 (UInt8.toNat (by8 (w64 (48+(Int.tmod x0 10)))):Int)] (Each.cons ((rdY _)) Each.nil) O) ?_
      rintro U _ ⟨E,rfl,V,X⟩
      exact⟨E,O,V,(show Ow E 3 [] [U] ([(by8 (w64 (48+(Int.tmod x0 10))))]:List Byte) from X)⟩
     ·intro vs Z lW hN hV
      obtain⟨z,A⟩: ∃ v,vs 7=v:=⟨_,O⟩
      obtain⟨vs,rfl⟩:=zai A
      have aa:Ow Z 3 [] [z] ([(by8 (w64 (48+(Int.tmod x0 10))))]:List Byte):=(hN 7 (zaW O))
      exact Trq (R.cvB (xs:=([(by8 (w64 (48+(Int.tmod x0 10))))]:List Byte)) aa.rd O (fun h=>h.1)) O
     ·intro vs ay lW hN hV
      have B:vs 2=vS b:=(hN 2 (zaW O))
      obtain⟨vs,rfl⟩:=zai B
      have C:vs 8=vS (([(by8 (w64 (48+(Int.tmod x0 10))))]:List Byte):Str):=(hN 8 (zaW O))
      obtain⟨vs,rfl⟩:=zai C
      exact Trq (R.sad L O O) O
     ·intro vs az lW hN hV
      have D:vs 9=vS a:=(hN 9 (zaW O))
      obtain⟨vs,rfl⟩:=zai D
      exact Trq (R.as (v:=vS a) O) O
     ·intro vs ac ae hN
      have af:=N.n ae
      have d:vs 0=vI x0:=(hN 0 (zaW O))
      obtain⟨vs,rfl⟩:=zai d
      have f:vs 1=vI (w64 (Int.tdiv x0 10)):=(hN 1 (zaW O))
      obtain⟨vs,rfl⟩:=zai f
      have B:vs 2=vS b:=(hN 2 (zaW O))
      obtain⟨vs,rfl⟩:=zai B
      have i:vs 3=vI x0:=(hN 3 (zaW O))
      obtain⟨vs,rfl⟩:=zai i
      have k:vs 4=vI (Int.tmod x0 10):=(hN 4 (zaW O))
      obtain⟨vs,rfl⟩:=zai k
      have x:vs 5=vI (w64 (48+(Int.tmod x0 10))):=(hN 5 (zaW O))
      obtain⟨vs,rfl⟩:=zai x
      have y:vs 6 = .int .u8 (UInt8.toNat (by8 (w64 (48+(Int.tmod x0 10)))):Int):=(hN 6 (zaW O))
      obtain⟨vs,rfl⟩:=zai y
      obtain⟨z,A⟩: ∃ v,vs 7=v:=⟨_,O⟩
      obtain⟨vs,rfl⟩:=zai A
      have a0:Ow ac 3 [] [z] ([(by8 (w64 (48+(Int.tmod x0 10))))]:List Byte):=(hN 7 (zaW O))
      have C:vs 8=vS (([(by8 (w64 (48+(Int.tmod x0 10))))]:List Byte):Str):=(hN 8 (zaW O))
      obtain⟨vs,rfl⟩:=zai C
      have D:vs 9=vS a:=(hN 9 (zaW O))
      obtain⟨vs,rfl⟩:=zai D
      have ah:vs 10=vS a:=(hN 10 (zaW O))
      obtain⟨vs,rfl⟩:=zai ah
      exact .ret (rt Y af)
theorem p58 {x0 r}(Y:Vm.zc7 x0=some r):Q1 58 [vI x0] W [] fun W' v=>v=vS r:=
 (c58 (x0.natAbs+2) (W0:=W.view [] []) Y).ad (fk 0) fun _ _ e=>e
theorem c32 {x0 af r}(h0:Rd W0 [0] [vI x0.Kind,vS x0.Branch,vS x0.Who,vS x0.Path,vS x0.To,vI x0.At,af] x0)(Y:Vm.zbk x0=some r):Q0 32 [.agg [vI x0.Kind,vS x0.Branch,vS x0.Who,vS x0.Path,vS x0.To,vI x0.At,af].toArray] W0 fun Wf v=>v=vS r:=by
 unfold Vm.zbk at Y
 obtain⟨cf,ah,au⟩:=Op.split h0
 simp only[List.cons.injEq,and_true,true_and]at ah
 obtain rfl:=ah
 refine zaq.of Tryd.func32 O O O O (sr (bo 2 O fun a W1 l1 b1=>?_))
 have a2:=l1.o
 refine Ns O (Cw.seq ?_)
 obtain⟨i,e7,Y⟩:=ob Y
 obtain⟨E,ai,Y⟩:=ob Y
 obtain⟨F,az,Y⟩:=ob Y
 obtain⟨G,a0,Y⟩:=ob Y
 obtain⟨H,a1,Y⟩:=ob Y
 obtain⟨f,a3,Y⟩:=ob Y
 refine Cw.par [[],[],[1],[0,1,2],[0,1,2,3],[0,1,2,3,4],[],[6],[0,1,2,3,4,5,6,7],[0,1,2,3,4,5,6,7,8],[],[10],[0,1,2,3,4,5,6,7,8,9,10,11],[0,1,2,3,4,5,6,7,8,9,10,11,12]] [[],[],[1],[0,2],[0,3],[4],[],[6],[5,7],[8],[],[10],[9,11],[12]] [[],[],[],[],[],[],[],[],[],[],[],[],[],[]] [[0],[1],[2],[0,3],[4],[5],[6],[7],[8],[9],[10],[11],[12],[13]] [[3],[],[],[],[],[],[],[],[],[],[],[],[],[]] [0,1,2,3,4,5,6,7,8,9,10,11,12,13] [] [fun vs W=>Ow W 3 [] [(vs 0)] i,fun vs W=>(vs 1)=ptr ((bx a).add 0),fun vs W=>(vs 2)=vI x0.Kind,fun vs W=>(vs 3)=ptr ((slA (vs 0)).add ((x0.Kind).toNat*Rp.sz (Str))),fun vs W=>(vs 4)=vS E,fun vs W=>(vs 5)=vS F,fun vs W=>(vs 6)=ptr ((bx a).add 1),fun vs W=>(vs 7)=vS x0.Branch,fun vs W=>(vs 8)=vS G,fun vs W=>(vs 9)=vS H,fun vs W=>(vs 10)=ptr ((bx a).add 2),fun vs W=>(vs 11)=vS x0.Who,fun vs W=>(vs 12)=vS f,fun vs W=>(vs 13)=vS f] [] mixed (by kernel_rfl) O zjF.nil ?_
 intro ch aj
 have a4:=a2.n aj
 have A:=b1.up aj
 refine⟨(zaI.cons ?_ (zaI.cons ?_ (zaI.cons ?_ (zaI.cons ?_ (zaI.cons ?_ (zaI.cons ?_ (zaI.cons ?_ (zaI.cons ?_ (zaI.cons ?_ (zaI.cons ?_ (zaI.cons ?_ (zaI.cons ?_ (zaI.cons ?_ (zaI.cons ?_ zaI.nil)))))))))))))),(zch.cons SO (zch.cons SE (zch.cons SE (zch.cons (fun vs vs' W W' _ hv l hd h=>by(show(vs' 3)=ptr ((slA (vs' 0)).add ((x0.Kind).toNat*Rp.sz (Str))));rw[hv 0 (zaW O),hv 3 (zaW O)];exact h) (zch.cons SE (zch.cons SE (zch.cons SE (zch.cons SE (zch.cons SE (zch.cons SE (zch.cons SE (zch.cons SE (zch.cons SE (zch.cons SE zch.nil)))))))))))))),?_⟩
 ·intro vs ci lW hN hV
  refine Tr.mono (T.call O (p29 (k0:=3) e7)) ?_
  rintro a5 _ ⟨ak,rfl,a6,⟨_,rfl,a7⟩⟩
  exact⟨ak,O,a6,(show Ow ak 3 [] [a5] i from a7)⟩
 ·intro vs cj lW hN hV
  exact Trq (R.fa O) O
 ·intro vs ck lW hN hV
  have I:vs 1=ptr ((bx a).add 0):=(hN 1 (zaW O))
  obtain⟨vs,rfl⟩:=zai I
  exact Trq (R.ld (v:=vI x0.Kind) O O ((A.up lW O).cell O)) O
 ·intro vs a8 lW hN hV
  obtain⟨e,k⟩: ∃ v,vs 0=v:=⟨_,O⟩
  obtain⟨vs,rfl⟩:=zai k
  have a9:Ow a8 3 [] [e] i:=(hN 0 (zaW O))
  have J:vs 2=vI x0.Kind:=(hN 2 (zaW O))
  obtain⟨vs,rfl⟩:=zai J
  exact Trq (R.ix (α:=Str) a9.rd ai O O O) O
 ·intro vs ba lW hN hV
  obtain⟨e,k⟩: ∃ v,vs 0=v:=⟨_,O⟩
  obtain⟨vs,rfl⟩:=zai k
  have bb:Ow ba 3 [] [e] i:=(hN 0 (zaW O))
  have K:vs 3=ptr ((slA e).add ((x0.Kind).toNat*Rp.sz (Str))):=(hN 3 (zaW O))
  obtain⟨vs,rfl⟩:=zai K
  exact Trq (R.ld O O (bb.rd.at_ ai).str) O
 ·intro vs cl lW hN hV
  have L:vs 4=vS E:=(hN 4 (zaW O))
  obtain⟨vs,rfl⟩:=zai L
  exact Trq (R.sad az O O) O
 ·intro vs cm lW hN hV
  exact Trq (R.fa O) O
 ·intro vs co lW hN hV
  have M:vs 6=ptr ((bx a).add 1):=(hN 6 (zaW O))
  obtain⟨vs,rfl⟩:=zai M
  exact Trq (R.ld (v:=vS x0.Branch) O O ((A.up lW O).cell O)) O
 ·intro vs cp lW hN hV
  have N:vs 5=vS F:=(hN 5 (zaW O))
  obtain⟨vs,rfl⟩:=zai N
  have P:vs 7=vS x0.Branch:=(hN 7 (zaW O))
  obtain⟨vs,rfl⟩:=zai P
  exact Trq (R.sad a0 O O) O
 ·intro vs cq lW hN hV
  have Q:vs 8=vS G:=(hN 8 (zaW O))
  obtain⟨vs,rfl⟩:=zai Q
  exact Trq (R.sad a1 O O) O
 ·intro vs cs lW hN hV
  exact Trq (R.fa O) O
 ·intro vs ct lW hN hV
  have S:vs 10=ptr ((bx a).add 2):=(hN 10 (zaW O))
  obtain⟨vs,rfl⟩:=zai S
  exact Trq (R.ld (v:=vS x0.Who) O O ((A.up lW O).cell O)) O
 ·intro vs cu lW hN hV
  have U:vs 9=vS H:=(hN 9 (zaW O))
  obtain⟨vs,rfl⟩:=zai U
  have V:vs 11=vS x0.Who:=(hN 11 (zaW O))
  obtain⟨vs,rfl⟩:=zai V
  exact Trq (R.sad a3 O O) O
 ·intro vs cv lW hN hV
  have X:vs 12=vS f:=(hN 12 (zaW O))
  obtain⟨vs,rfl⟩:=zai X
  exact Trq (R.as (v:=vS f) O) O
 ·intro vs b am hN
  have an:=a4.n am
  have d:=A.up am
  obtain⟨e,k⟩: ∃ v,vs 0=v:=⟨_,O⟩
  obtain⟨vs,rfl⟩:=zai k
  have cw:Ow b 3 [] [e] i:=(hN 0 (zaW O))
  have I:vs 1=ptr ((bx a).add 0):=(hN 1 (zaW O))
  obtain⟨vs,rfl⟩:=zai I
  have J:vs 2=vI x0.Kind:=(hN 2 (zaW O))
  obtain⟨vs,rfl⟩:=zai J
  have K:vs 3=ptr ((slA e).add ((x0.Kind).toNat*Rp.sz (Str))):=(hN 3 (zaW O))
  obtain⟨vs,rfl⟩:=zai K
  have L:vs 4=vS E:=(hN 4 (zaW O))
  obtain⟨vs,rfl⟩:=zai L
  have N:vs 5=vS F:=(hN 5 (zaW O))
  obtain⟨vs,rfl⟩:=zai N
  have M:vs 6=ptr ((bx a).add 1):=(hN 6 (zaW O))
  obtain⟨vs,rfl⟩:=zai M
  have P:vs 7=vS x0.Branch:=(hN 7 (zaW O))
  obtain⟨vs,rfl⟩:=zai P
  have Q:vs 8=vS G:=(hN 8 (zaW O))
  obtain⟨vs,rfl⟩:=zai Q
  have U:vs 9=vS H:=(hN 9 (zaW O))
  obtain⟨vs,rfl⟩:=zai U
  have S:vs 10=ptr ((bx a).add 2):=(hN 10 (zaW O))
  obtain⟨vs,rfl⟩:=zai S
  have V:vs 11=vS x0.Who:=(hN 11 (zaW O))
  obtain⟨vs,rfl⟩:=zai V
  have X:vs 12=vS f:=(hN 12 (zaW O))
  obtain⟨vs,rfl⟩:=zai X
  have bc:vs 13=vS f:=(hN 13 (zaW O))
  obtain⟨vs,rfl⟩:=zai bc
  obtain⟨ao,be,Y⟩:=zcR Y
  refine Cw.join 18 74 [3,4] (fun l w=> ∃ Z ap aa,CW.w aa=w/\Le [] b aa/\l=[vS Z,ap]/\ao Z=some r) ?_ ?_
  ·rintro _ _ σ ⟨Z,ap,aa,rfl,bg,rfl,Y⟩
   rw[be]at Y
   have bh:=an.n bg
   exact sr (ms O (Ns O (.ret (rt Y bh))))
  ·refine sr (fl d O (nl (Cw.block (sr (Lw.eq O (Nb O (cn Y (fun Y=>?_) fun Y=>?_)))))))
   ·refine sr (ms O ?_)
    obtain⟨cx,bi,Y⟩:=ob Y
    refine Lw.r O (R.sad bi O O) (fl d O ?_)
    obtain⟨cy,bj,Y⟩:=ob Y
    refine Lw.r O (R.sad bj O O) ?_
    obtain⟨bk,bl,Y⟩:=ob Y
    refine Lw.r O (R.sad bl O O) (Ns O (sr (Ni O (Cw.block (Cw.loop 34 48 [3,4] (fun m l w=> ∃ B x y,CW.w y=w/\Le [] b y/\l=[vS B,vI x]/\Vm.zat x0 ao m B x=some r) _ ⟨bk,0,b,O,Le.refl _ _,O,Y⟩ ?_)))))
    rintro(_ |cz) _ _ σ ⟨B,x,y,rfl,z,rfl,Y⟩
    ·cases Y
    unfold Vm.zat at Y
    have bm:=an.n z
    refine ssr ?_
    have ac:=au.ul bm
    refine mi O (fl (d.up z) O (Lw.ln x0.Text ac O (Lw.lt O (nl (cn Y (fun Y=>?_) fun Y=>?_)))))
    ·refine sk (Cw.seq (Cw.block (rg (ms O ?_))))
     obtain⟨c0,bn,Y⟩:=ob Y
     refine Lw.r O (R.sad bn O O) (fl (d.up z) O (mi O ?_))
     obtain⟨c1,aq,Y⟩:=ob Y
     refine Lw.r O (R.ix (α:=Str) ac aq O O O) (Lw.r O (R.ld O O (ac.at_ aq).str) ?_)
     obtain⟨bp,bq,Y⟩:=ob Y
     exact Lw.r O (R.sad bq O O) (Ns O (rg (mi O (Lw.add O (Ni O ((agm) ⟨bp,w64 (x+1),y,O,z,O,Y⟩))))))
    ·exact Cw.exit ((ag) ⟨B,vI x,y,O,z,O,Y⟩)
   ·refine sr (Lw.eq O (Nb O (cn Y (fun Y=>?_) fun Y=>?_)))
    ·refine rg (ms O ?_)
     obtain⟨c2,br,Y⟩:=ob Y
     refine Lw.r O (R.sad br O O) (fl d O ?_)
     obtain⟨bu,bv,Y⟩:=ob Y
     exact Lw.r O (R.sad bv O O) (Ns O ((ag) ⟨bu,undef,b,O,Le.refl _ _,O,Y⟩))
    ·refine sr (Lw.eq O (Nb O (cn Y (fun Y=>?_) fun Y=>?_)))
     ·refine rg (ms O ?_)
      obtain⟨c3,bw,Y⟩:=ob Y
      refine Lw.r O (R.sad bw O O) (fl d O ?_)
      obtain⟨c4,bz,Y⟩:=ob Y
      refine Lw.r O (R.sad bz O O) ?_
      obtain⟨c5,b0,Y⟩:=ob Y
      refine Lw.r O (R.sad b0 O O) (fl d O ?_)
      obtain⟨b2,b3,Y⟩:=ob Y
      exact Lw.r O (R.sad b3 O O) (Ns O ((ag) ⟨b2,undef,b,O,Le.refl _ _,O,Y⟩))
     ·obtain⟨b4,b5,Y⟩:=zcR Y
      refine Cw.join 67 69 [67] (fun l w=> ∃ ae C,CW.w C=w/\Le [] b C/\l=[vB ae]/\b4 ae=some r) ?_ ?_
      ·rintro _ _ σ ⟨ae,C,rfl,D,rfl,Y⟩
       rw[b5]at Y
       refine cn Y (fun Y=>?_) fun Y=>?_
       ·refine rg (ms O ?_)
        obtain⟨c6,b6,Y⟩:=ob Y
        refine Lw.r O (R.sad b6 O O) (fl (d.up D) O ?_)
        obtain⟨b7,b8,Y⟩:=ob Y
        exact Lw.r O (R.sad b8 O O) (Ns O ((ag) ⟨b7,undef,C,O,D,O,Y⟩))
       ·refine rg (ms O ?_)
        obtain⟨c7,b9,Y⟩:=ob Y
        refine Lw.r O (R.sad b9 O O) (fl (d.up D) O (ca Y (fun _=>p58) fun c8 cb Y cc=>?_))
        obtain⟨cd,ce,Y⟩:=ob Y
        exact Lw.r O (R.sad ce O O) (Ns O ((ag) ⟨cd,undef,cb,O,(D.j cc).w,O,Y⟩))
      ·refine sr (Lw.eq O (Nb O (cn Y (fun Y=>?_) fun Y=>?_)))
       ·exact sk ((ag) ⟨(x0.Kind==4),b,O,Le.refl _ _,O,Y⟩)
       ·exact rg (Lw.eq O (Nb O ((ag) ⟨(x0.Kind==5),b,O,Le.refl _ _,O,Y⟩)))
theorem p32 {x0 a r}(b:Rd W K [vI x0.Kind,vS x0.Branch,vS x0.Who,vS x0.Path,vS x0.To,vI x0.At,a] x0)(Y:Vm.zbk x0=some r):Q1 32 [.agg [vI x0.Kind,vS x0.Branch,vS x0.Who,vS x0.Path,vS x0.To,vI x0.At,a].toArray] W [] fun W' v=>v=vS r:=
 (c32 (b.view _) Y).ad (fk 0) fun _ _ e=>e
theorem c12 {x0 b r}(k:Rd W0 [0] [vI x0.Kind,vS x0.Branch,vS x0.Who,vS x0.Path,vS x0.To,vI x0.At,b] x0)(Y:Vm.zbT x0=some r):Q0 12 [.agg [vI x0.Kind,vS x0.Branch,vS x0.Who,vS x0.Path,vS x0.To,vI x0.At,b].toArray] W0 fun Wf v=>v=vS r:=by
 unfold Vm.zbT at Y
 obtain⟨A,d,e⟩:=Op.split k
 simp only[List.cons.injEq,and_true,true_and]at d
 obtain rfl:=d
 refine zaq.of Tryd.func12 O O O O (sr (bo 2 O fun B C x f=>?_))
 have h:=x.o
 refine Ns O (ssr (la f (ca Y (fun _=>p31 (Op.rd (K:=[0]) x0.Kind x0.Branch x0.Who x0.Path x0.To x0.At x0.Text (e.ul h))) fun D E Y i=>?_)))
 have a:=h.n i
 refine Lw.r O (R.not O) (nl (cn Y (fun Y=>?_) fun Y=>?_))
 ·exact sr (Ns O (.ret (rt Y a)))
 ·refine sk (sr (la (f.up i) (ca Y (fun _=>p32 (Op.rd (K:=[0]) x0.Kind x0.Branch x0.Who x0.Path x0.To x0.At x0.Text (e.ul a))) fun F G Y y=>?_)))
  have z:=a.n y
  exact Ns O (.ret (rt Y z))
theorem p12 {x0 a r}(b:Rd W K [vI x0.Kind,vS x0.Branch,vS x0.Who,vS x0.Path,vS x0.To,vI x0.At,a] x0)(Y:Vm.zbT x0=some r):Q1 12 [.agg [vI x0.Kind,vS x0.Branch,vS x0.Who,vS x0.Path,vS x0.To,vI x0.At,a].toArray] W [] fun W' v=>v=vS r:=
 (c12 (b.view _) Y).ad (fk 0) fun _ _ e=>e
theorem c24 {r}(Y:Vm.zbu=some r):Q0 24 [] W0 fun Wf v=> ∃ a,v=a/\OwS Wf LL [] [a] r:=by
 unfold Vm.zbu at Y
 refine zaq.of Tryd.func24 O O O O (sr (Nv (.slice none 0 0) O (sr (Lw.t O (T.bsS (α:=Str) (xs:=[([]:Str),([115,101,116]:Str),([100,114,111,112]:Str),([109,111,118,101]:Str),([102,111,114,107]:Str),([117,110,105,116,101]:Str),([112,105,99,107]:Str),([98,97,99,107]:Str)]) 2 [] (W:=W0) [vS ([]:Str),vS ([115,101,116]:Str),vS ([100,114,111,112]:Str),vS ([109,111,118,101]:Str),vS ([102,111,114,107]:Str),vS ([117,110,105,116,101]:Str),vS ([112,105,99,107]:Str),vS ([98,97,99,107]:Str)] (Each.cons ((rdS _)) (Each.cons ((rdS _)) (Each.cons ((rdS _)) (Each.cons ((rdS _)) (Each.cons ((rdS _)) (Each.cons ((rdS _)) (Each.cons ((rdS _)) (Each.cons ((rdS _)) Each.nil)))))))) O) ?_))))
 rintro b _ ⟨h,rfl,d,e⟩
 have f:=d.o
 refine Nv b O ?_
 cases Y
 exact Cw.ret (ziK O (Res.mk f ⟨b,O,e.s.sub O O⟩))
theorem p24 {k0 r}(Y:Vm.zbu=some r):Q1 24 [] W [] fun W' v=> ∃ a,v=a/\Ow W' k0 [] [a] r:=
 (c24 (W0:=W.view [] []) Y).ad (fk k0) fun _ _ ⟨a,e,b⟩=>⟨a,e,b.back (zl3 _)⟩
theorem c23 {x0 b x1 r}(h:Rd W0 [0] [b] x0)(Y:Vm.zaf x0 x1=some r):Q0 23 [b,vS x1] W0 fun Wf v=>v=vI r:=by
 unfold Vm.zaf at Y
 refine zaq.of Tryd.func23 O O O O (sr (Ni O (ssr (mv b O (Lw.ln x0 h O (mi O (nl (Cw.block ?_))))))))
 obtain⟨y,z,Y⟩:=zcR Y
 refine Cw.loop 8 18 [4,5,8] (fun m l w=> ∃ d a i e,CW.w e=w/\Le [] W0 e/\l=[vI d,i,vI a]/\Vm.zam x0 x1 y m d a=some r) _ ⟨0,0,undef,W0,O,Le.refl _ _,O,Y⟩ ?_
 rintro(_ |A) _ _ σ ⟨d,a,i,e,rfl,k,rfl,Y⟩
 ·cases Y
 unfold Vm.zam at Y
 have f:=k.o
 refine sr (Lw.lt O (nl (Cw.seq (cn Y (fun Y=>?_) fun Y=>?_))))
 ·refine sk (Cw.seq (Cw.block (sr (mi O (Ni O (sr (ms O (mv b O (mi O ?_)))))))))
  obtain⟨B,x,Y⟩:=ob Y
  refine Lw.r O (R.ix (α:=Str) (h.ul f) x O O O) (Lw.r O (R.ld O O ((h.ul f).at_ x).str) (Lw.seq O (nl (cn Y (fun Y=>?_) fun Y=>?_))))
  ·exact sr (mi O (Ni O (.ret (rt Y f))))
  ·exact sk (rg (Lw.add O (mi O (nl ((agm) ⟨d,w64 (a+1),vI a,e,O,k,O,Y⟩)))))
 ·refine Cw.exit ?_
  rw[z]at Y
  exact sr (Ni O (.ret (rt Y f)))
theorem p23 {x0 a x1 r}(b:Rd W K [a] x0)(Y:Vm.zaf x0 x1=some r):Q1 23 [a,vS x1] W [] fun W' v=>v=vI r:=
 (c23 (b.view _) Y).ad (fk 0) fun _ _ e=>e
theorem c40 {x0 x1 x2 r}(Y:Vm.zbP x0 x1 x2=some r):Q0 40 [vI x0,vI x1,vI x2] W0 fun Wf v=>v=vB r:=by
 unfold Vm.zbP at Y
 refine zaq.of Tryd.func40 O O O O (sr (Nb O ?_))
 obtain⟨e,f,Y⟩:=zcR Y
 refine Cw.join 7 14 [6] (fun l w=> ∃ b d,CW.w d=w/\Le [] W0 d/\l=[vB b]/\e b=some r) ?_ ?_
 ·rintro _ _ σ ⟨b,d,rfl,h,rfl,Y⟩
  rw[f]at Y
  have i:=h.o
  exact .ret (rt Y i)
 ·refine rg (mi O (mi O (Lw.le O (mb O (bs Y (fun a Y=>?_) fun a Y=>?_)))))
  ·exact wak 3 a (mi O (mi O (Lw.le O (Pb a O (Nb O ((ag) ⟨decide (x0<=(x2:Int)),W0,O,Le.refl _ _,O,Y⟩))))))
  ·exact psk 3 a O (Pb a O (Nb O ((ag) ⟨false,W0,O,Le.refl _ _,O,Y⟩)))
theorem p40 {x0 x1 x2 r}(Y:Vm.zbP x0 x1 x2=some r):Q1 40 [vI x0,vI x1,vI x2] W [] fun W' v=>v=vB r:=
 (c40 (W0:=W.view [] []) Y).ad (fk 0) fun _ _ e=>e
theorem c60 {x0 r}(Y:Vm.zbp x0=some r):Q0 60 [.int .u8 (UInt8.toNat x0:Int)] W0 fun Wf v=>v=vB r:=by
 unfold Vm.zbp at Y
 refine zaq.of Tryd.func60 O O O O (sr (Nb O ?_))
 obtain⟨i,k,Y⟩:=zcR Y
 refine Cw.join 3 16 [2] (fun l w=> ∃ f h,CW.w h=w/\Le [] W0 h/\l=[vB f]/\i f=some r) ?_ ?_
 ·rintro _ _ σ ⟨f,h,rfl,x,rfl,Y⟩
  rw[k]at Y
  have y:=x.o
  exact .ret (rt Y y)
 ·refine rg (mv (.int .u8 (UInt8.toNat x0:Int)) O (Lw.ge O (mb O (bs Y (fun b Y=>?_) fun b Y=>?_))))
  ·refine wak 2 b (mv (.int .u8 (UInt8.toNat x0:Int)) O (Lw.le O (Pb b O (mb O (bs Y (fun a Y=>?_) fun a Y=>?_)))))
   ·exact psk 3 a O (puk 2 O (psk 1 a O (Pb a O (Nb O ((ag) ⟨true,W0,O,Le.refl _ _,O,Y⟩)))))
   ·refine wak 3 a (mv (.int .u8 (UInt8.toNat x0:Int)) O (Lw.ge O (mb O (bs Y (fun d Y=>?_) fun d Y=>?_))))
    ·exact wak 2 d (mv (.int .u8 (UInt8.toNat x0:Int)) O (Lw.le O (wak 1 a (Pb d O (Pb a O (Nb O ((ag) ⟨decide (((UInt8.toNat x0:Int):Int)<=(57:Int)),W0,O,Le.refl _ _,O,Y⟩)))))))
    ·exact psk 2 d O (wak 1 a (Pb d O (Pb a O (Nb O ((ag) ⟨false,W0,O,Le.refl _ _,O,Y⟩)))))
  ·refine psk 2 b O (Pb b O (mb O (wak 3 O (mv (.int .u8 (UInt8.toNat x0:Int)) O (Lw.ge O (mb O (bs Y (fun e Y=>?_) fun e Y=>?_)))))))
   ·exact wak 2 e (mv (.int .u8 (UInt8.toNat x0:Int)) O (Lw.le O (wak 1 O (Pb e O (Pb O O (Nb O ((ag) ⟨decide (((UInt8.toNat x0:Int):Int)<=(57:Int)),W0,O,Le.refl _ _,O,Y⟩)))))))
   ·exact psk 2 e O (wak 1 O (Pb e O (Pb O O (Nb O ((ag) ⟨false,W0,O,Le.refl _ _,O,Y⟩)))))
theorem p60 {x0 r}(Y:Vm.zbp x0=some r):Q1 60 [.int .u8 (UInt8.toNat x0:Int)] W [] fun W' v=>v=vB r:=
 (c60 (W0:=W.view [] []) Y).ad (fk 0) fun _ _ e=>e
theorem c35 {x0 r}(Y:Vm.zbl x0=some r):Q0 35 [vS x0] W0 fun Wf v=>v=vB r:=by
 unfold Vm.zbl at Y
 refine zaq.of Tryd.func35 O O O O (sr (Nb O (ssr (ms O (Lw.r O (R.lenS O) (ca Y (fun _=>p40) fun D e Y x=>?_))))))
 have f:=x.o
 refine Lw.r O (R.not O) (nl (cn Y (fun Y=>?_) fun Y=>?_))
 ·exact sr (Nb O (.ret (rt Y f)))
 ·refine sk (ssr (Ni O (Cw.block ?_)))
  obtain⟨y,z,Y⟩:=zcR Y
  refine Cw.loop 8 18 [2,3] (fun m l w=> ∃ a b d,CW.w d=w/\Le [] e d/\l=[vB a,vI b]/\Vm.zaP x0 y m a b=some r) _ ⟨false,0,e,O,Le.refl _ _,O,Y⟩ ?_
  rintro(_ |E) _ _ σ ⟨a,b,d,rfl,h,rfl,Y⟩
  ·cases Y
  unfold Vm.zaP at Y
  have i:=f.n h
  refine ssr (mi O (ms O (Lw.r O (R.lenS O) (Lw.lt O (nl (cn Y (fun Y=>?_) fun Y=>?_))))))
  ·refine sk (Cw.seq (Cw.block (sr (ms O (mi O ?_)))))
   obtain⟨F,A,Y⟩:=ob Y
   refine Lw.r O (R.chm A O O) (ca Y (fun _=>p60) fun G B Y k=>?_)
   have C:=i.n k
   refine Lw.r O (R.not O) (nl (cn Y (fun Y=>?_) fun Y=>?_))
   ·exact sr (Nb O (.ret (rt Y C)))
   ·exact sk (rg (mi O (Lw.add O (Ni O ((agm) ⟨a,w64 (b+1),B,O,(h.j k).w,O,Y⟩)))))
  ·refine Cw.exit ?_
   rw[z]at Y
   exact sr (Nb O (.ret (rt Y i)))
theorem p35 {x0 r}(Y:Vm.zbl x0=some r):Q1 35 [vS x0] W [] fun W' v=>v=vB r:=
 (c35 (W0:=W.view [] []) Y).ad (fk 0) fun _ _ e=>e
theorem c36 {x0 r}(C:Gk 2 0 1 W0 [0])(Y:Vm.zbm x0=some r):Q0 36 [vS x0] W0 fun Wf v=>v=vB r:=by
 unfold Vm.zbm at Y
 refine zaq.of Tryd.func36 O O O O (sr (Nb O (sr (ms O (cr Y (fun _=>p25 (k0:=2) C) ?_)))))
 rintro f h k Y D ⟨_,rfl,a⟩
 have x:=D.o
 refine Nv h O (ssr (mv h O (Lw.ln f a.rd O (Lw.gt O (nl (cn Y (fun Y=>?_) fun Y=>?_))))))
 ·exact sr (Nb O (.ret (rt Y x)))
 ·refine sk (ssr (mv h O (Lw.ln f a.rd O (mi O (nl (Cw.block ?_))))))
  obtain⟨E,F,Y⟩:=zcR Y
  refine Cw.loop 13 20 [2,5,13] (fun m l w=> ∃ b d y i,CW.w i=w/\Le [] k i/\l=[vB b,y,vI d]/\Vm.zaQ f E m b d=some r) _ ⟨false,0,undef,k,O,Le.refl _ _,O,Y⟩ ?_
  rintro(_ |J) _ _ σ ⟨b,d,y,i,rfl,e,rfl,Y⟩
  ·cases Y
  unfold Vm.zaQ at Y
  have z:=x.n e
  refine sr (Lw.lt O (nl (Cw.seq (cn Y (fun Y=>?_) fun Y=>?_))))
  ·refine sk (Cw.seq (Cw.block (sr ?_)))
   obtain⟨G,A,Y⟩:=ob Y
   refine Lw.r O (R.ix (α:=Str) (a.up e).rd A O O O) (Lw.r O (R.ld O O ((a.up e).rd.at_ A).str) (Ns O (sr (ms O (ca Y (fun _=>p35) fun K H Y B=>?_)))))
   have I:=z.n B
   refine Lw.r O (R.not O) (nl (cn Y (fun Y=>?_) fun Y=>?_))
   ·exact sr (Nb O (.ret (rt Y I)))
   ·exact sk (rg (Lw.add O (mi O (nl ((agm) ⟨b,w64 (d+1),vS G,H,O,(e.j B).w,O,Y⟩)))))
  ·refine Cw.exit ?_
   rw[F]at Y
   exact sr (Nb O (.ret (rt Y z)))
theorem p36 {x0 r}(a:Gk 2 0 1 W K)(Y:Vm.zbm x0=some r):Q1 36 [vS x0] W [] fun W' v=>v=vB r:=
 (c36 (a.view _) Y).ad (fk 0) fun _ _ e=>e
theorem c61 {x0 r}(Y:Vm.zb2 x0=some r):Q0 61 [vS x0] W0 fun Wf v=>v=vB r:=by
 unfold Vm.zb2 at Y
 refine zaq.of Tryd.func61 O O O O (sr (Nb O (ssr (ms O (Lw.r O (R.lenS O) (Lw.gt O (nl (cn Y (fun Y=>?_) fun Y=>?_))))))))
 ·exact sr (Nb O (.ret (rt Y (Le.refl _ _))))
 ·refine sk (ssr (Ni O (Cw.block ?_)))
  obtain⟨x,y,Y⟩:=zcR Y
  refine Cw.loop 7 22 [2,3] (fun m l w=> ∃ d e a,CW.w a=w/\Le [] W0 a/\l=[vB d,vI e]/\Vm.zaR x0 x m d e=some r) _ ⟨false,0,W0,O,Le.refl _ _,O,Y⟩ ?_
  rintro(_ |F) _ _ σ ⟨d,e,a,rfl,i,rfl,Y⟩
  ·cases Y
  unfold Vm.zaR at Y
  have k:=i.o
  refine ssr (mi O (ms O (Lw.r O (R.lenS O) (Lw.lt O (nl (cn Y (fun Y=>?_) fun Y=>?_))))))
  ·refine sk (Cw.seq (Cw.block ?_))
   obtain⟨z,A,Y⟩:=zcR Y
   refine Cw.join 13 22 [22] (fun l w=> ∃ h f,CW.w f=w/\Le [] a f/\l=[vB h]/\z h=some r) ?_ ?_
   ·rintro _ _ σ ⟨h,f,rfl,l10,rfl,Y⟩
    rw[A]at Y
    have B:=k.n l10
    refine cn Y (fun Y=>?_) fun Y=>?_
    ·exact sr (Nb O (.ret (rt Y B)))
    ·exact sk (rg (mi O (Lw.add O (Ni O ((agm) ⟨d,w64 (e+1),f,O,(i.j l10).w,O,Y⟩)))))
   ·refine rg (ms O (mi O ?_))
    obtain⟨G,C,Y⟩:=ob Y
    refine Lw.r O (R.chm C O O) (Lw.lt O (mb O (bs Y (fun b Y=>?_) fun b Y=>?_)))
    ·exact psk 4 b O (Pb b O (nl ((ag) ⟨true,a,O,Le.refl _ _,O,Y⟩)))
    ·refine wak 4 b (ms O (mi O ?_))
     obtain⟨D,E,Y⟩:=ob Y
     exact Lw.r O (R.chm E O O) (Lw.gt O (Pb b O (nl ((ag) ⟨decide ((126:Int)< ((UInt8.toNat D:Int):Int)),a,O,Le.refl _ _,O,Y⟩))))
  ·refine Cw.exit ?_
   rw[y]at Y
   exact sr (Nb O (.ret (rt Y k)))
theorem p61 {x0 r}(Y:Vm.zb2 x0=some r):Q1 61 [vS x0] W [] fun W' v=>v=vB r:=
 (c61 (W0:=W.view [] []) Y).ad (fk 0) fun _ _ e=>e
theorem c37 {x0 a r}(b:Rd W0 [0] [a] x0)(Y:Vm.zb3 x0=some r):Q0 37 [a] W0 fun Wf v=>v=vB r:=by
 unfold Vm.zb3 at Y
 refine zaq.of Tryd.func37 O O O O (sr (Nb O (ssr (mv a O (Lw.ln x0 b O (Lw.gt O (nl (cn Y (fun Y=>?_) fun Y=>?_))))))))
 ·exact sr (Nb O (.ret (rt Y (Le.refl _ _))))
 ·refine sk (ssr (mv a O (Lw.ln x0 b O (mi O (nl (Cw.block ?_))))))
  obtain⟨z,A,Y⟩:=zcR Y
  refine Cw.loop 10 17 [2,4,10] (fun m l w=> ∃ d e i h,CW.w h=w/\Le [] W0 h/\l=[vB d,i,vI e]/\Vm.zaS x0 z m d e=some r) _ ⟨false,0,undef,W0,O,Le.refl _ _,O,Y⟩ ?_
  rintro(_ |E) _ _ σ ⟨d,e,i,h,rfl,k,rfl,Y⟩
  ·cases Y
  unfold Vm.zaS at Y
  have f:=k.o
  refine sr (Lw.lt O (nl (Cw.seq (cn Y (fun Y=>?_) fun Y=>?_))))
  ·refine sk (Cw.seq (Cw.block (sr ?_)))
   obtain⟨B,x,Y⟩:=ob Y
   refine Lw.r O (R.ix (α:=Str) (b.ul f) x O O O) (Lw.r O (R.ld O O ((b.ul f).at_ x).str) (Ns O (sr (ms O (ca Y (fun _=>p61) fun F C Y y=>?_)))))
   have D:=f.n y
   refine Lw.r O (R.not O) (nl (cn Y (fun Y=>?_) fun Y=>?_))
   ·exact sr (Nb O (.ret (rt Y D)))
   ·exact sk (rg (Lw.add O (mi O (nl ((agm) ⟨d,w64 (e+1),vS B,C,O,(k.j y).w,O,Y⟩)))))
  ·refine Cw.exit ?_
   rw[A]at Y
   exact sr (Nb O (.ret (rt Y f)))
theorem p37 {x0 a r}(b:Rd W K [a] x0)(Y:Vm.zb3 x0=some r):Q1 37 [a] W [] fun W' v=>v=vB r:=
 (c37 (b.view _) Y).ad (fk 0) fun _ _ e=>e
theorem c13 {x0 a1 r}(h0:Rd W0 [0] [vI x0.Kind,vS x0.Branch,vS x0.Who,vS x0.Path,vS x0.To,vI x0.At,a1] x0)(k:Gk 2 0 1 W0 [0])(Y:Vm.zbv x0=some r):Q0 13 [.agg [vI x0.Kind,vS x0.Branch,vS x0.Who,vS x0.Path,vS x0.To,vI x0.At,a1].toArray] W0 fun Wf v=>v=vB r:=by
 unfold Vm.zbv at Y
 obtain⟨cq,a3,Z⟩:=Op.split h0
 simp only[List.cons.injEq,and_true,true_and]at a3
 obtain rfl:=a3
 refine zaq.of Tryd.func13 O O O O (sr (bo 2 O fun g1 W1 l1 b1=>?_))
 have a2:=l1.o
 refine Nb O (Cw.seq ?_)
 obtain⟨K5,bk,Y⟩:=zcR Y
 refine Cw.join 7 16 [16] (fun l w=> ∃ y3 W4,CW.w W4=w/\Le [] W1 W4/\l=[vB y3]/\K5 y3=some r) ?_ ?_
 ·rintro _ _ σ ⟨y3,W4,rfl,l4,rfl,Y⟩
  rw[bk]at Y
  have a6:=a2.n l4
  refine cn Y (fun Y=>?_) fun Y=>?_
  ·exact sr (Nb O (.ret (rt Y a6)))
  ·refine sk (Cw.seq (Cw.draw [] [(0,0),(1,1),(2,0),(3,0),(4,1),(5,0),(6,0),(7,1),(8,0),(9,0),(10,1),(11,0),(12,0),(13,0),(14,0),(15,0),(16,0)] mixed (by kernel_rfl) fun f l9=>?_))
   have b:=a6.n l9
   have a:=(b1.up l4).up l9
   refine Dfl a O O O (Mw.p O O (fun _=>R.seq O O) (Dfl a O O O (Mw.p O O (fun _=>R.seq O O) (Dfl a O O O (Mw.p O O (fun _=>R.eq O O) (Dfl a O O O (Mw.p O O (fun _=>zqO (xs:=x0.Text) (Z.ul b) O) (Mw.p O O (fun _=>R.eq O O) (Hb O (Hb O (Hb O (Hb O (Mw.nil (ssr (fl a O (nl (Cw.block (sr (Lw.eq O (Nb O (cn Y (fun Y=>?_) fun Y=>?_)))))))))))))))))))))
   ·obtain⟨bl,bm,Y⟩:=zcR Y
    refine Cw.join 34 54 [2] (fun l w=> ∃ af ah,CW.w ah=w/\Le [] f ah/\l=[vB af]/\bl af=some r) ?_ ?_
    ·rintro _ _ σ ⟨af,ah,rfl,bn,rfl,Y⟩
     rw[bm]at Y
     have bp:=b.n bn
     exact .ret (rt Y bp)
    ·refine rg (fl a O (ca Y (fun _=>p36 (k.ul b)) fun ct bq Y d=>?_))
     have a8:=b.n d
     refine mb O (bs Y (fun x Y=>?_) fun x Y=>?_)
     ·refine wak 3 x (fl (a.up d) O (ca Y (fun _=>p37 (Z.ul a8)) fun cu br Y h=>?_))
      have a9:=a8.n h
      refine Pb x O (mb O (bs Y (fun y Y=>?_) fun y Y=>?_))
      ·refine wak 5 y (fl ((a.up d).up h) O (ca Y (fun _=>p39 (Z.ul a9)) fun cv cw Y P=>?_))
       have bu:=a9.n P
       refine ca Y (fun _=>p38 (k.ul bu)) fun cx ai Y aj=>Lw.r O (R.not O) (Pb y O (mb O (bs Y (fun z Y=>?_) fun z Y=>?_)))
       ·refine wak 1 z (mb O (Pb z O (mb O (bs Y (fun A Y=>?_) fun A Y=>?_))))
        ·exact wak 1 A (mb O (Pb A O (Nb O ((ag) ⟨(x0.At==0),ai,O,(((d.j h).j P).j aj).w,O,Y⟩))))
        ·exact psk 1 A O (Pb A O (Nb O ((ag) ⟨false,ai,O,(((d.j h).j P).j aj).w,O,Y⟩)))
       ·exact psk 1 z O (Pb z O (mb O (psk 1 O O (Pb O O (Nb O ((ag) ⟨false,ai,O,(((d.j h).j P).j aj).w,O,Y⟩))))))
      ·exact psk 5 y O (Pb y O (mb O (psk 1 O O (Pb O O (mb O (psk 1 O O (Pb O O (Nb O ((ag) ⟨false,br,O,(d.j h).w,O,Y⟩)))))))))
     ·exact psk 3 x O (Pb x O (mb O (psk 5 O O (Pb O O (mb O (psk 1 O O (Pb O O (mb O (psk 1 O O (Pb O O (Nb O ((ag) ⟨false,bq,O,d,O,Y⟩))))))))))))
   ·refine sr (Lw.eq O (Nb O (cn Y (fun Y=>?_) fun Y=>?_)))
    ·obtain⟨bv,bw,Y⟩:=zcR Y
     refine Cw.join 57 68 [2] (fun l w=> ∃ ak am,CW.w am=w/\Le [] f am/\l=[vB ak]/\bv ak=some r) ?_ ?_
     ·rintro _ _ σ ⟨ak,am,rfl,bz,rfl,Y⟩
      rw[bw]at Y
      have b0:=b.n bz
      exact .ret (rt Y b0)
     ·refine rg (fl a O (ca Y (fun _=>p36 (k.ul b)) fun cy Q Y S=>mb O (bs Y (fun B Y=>?_) fun B Y=>?_)))
      ·refine wak 1 B (mb O (Pb B O (mb O (bs Y (fun C Y=>?_) fun C Y=>?_))))
       ·refine wak 1 C (mb O (Pb C O (mb O (bs Y (fun D Y=>?_) fun D Y=>?_))))
        ·exact wak 1 D (mb O (Pb D O (Nb O ((ag) ⟨((x0.Text.length:Int)==0),Q,O,S,O,Y⟩))))
        ·exact psk 1 D O (Pb D O (Nb O ((ag) ⟨false,Q,O,S,O,Y⟩)))
       ·exact psk 1 C O (Pb C O (mb O (psk 1 O O (Pb O O (Nb O ((ag) ⟨false,Q,O,S,O,Y⟩))))))
      ·exact psk 1 B O (Pb B O (mb O (psk 1 O O (Pb O O (mb O (psk 1 O O (Pb O O (Nb O ((ag) ⟨false,Q,O,S,O,Y⟩)))))))))
    ·refine sr (Lw.eq O (Nb O (cn Y (fun Y=>?_) fun Y=>?_)))
     ·obtain⟨b2,b3,Y⟩:=zcR Y
      refine Cw.join 71 84 [2] (fun l w=> ∃ an ao,CW.w ao=w/\Le [] f ao/\l=[vB an]/\b2 an=some r) ?_ ?_
      ·rintro _ _ σ ⟨an,ao,rfl,b4,rfl,Y⟩
       rw[b3]at Y
       have b5:=b.n b4
       exact .ret (rt Y b5)
      ·refine rg (fl a O (ca Y (fun _=>p36 (k.ul b)) fun cz b6 Y i=>?_))
       have b7:=b.n i
       refine mb O (bs Y (fun E Y=>?_) fun E Y=>?_)
       ·refine wak 3 E (fl (a.up i) O (ca Y (fun _=>p36 (k.ul b7)) fun c0 ap Y aq=>Pb E O (mb O (bs Y (fun F Y=>?_) fun F Y=>?_))))
        ·refine wak 1 F (mb O (Pb F O (mb O (bs Y (fun G Y=>?_) fun G Y=>?_))))
         ·exact wak 1 G (mb O (Pb G O (Nb O ((ag) ⟨((x0.Text.length:Int)==0),ap,O,(i.j aq).w,O,Y⟩))))
         ·exact psk 1 G O (Pb G O (Nb O ((ag) ⟨false,ap,O,(i.j aq).w,O,Y⟩)))
        ·exact psk 1 F O (Pb F O (mb O (psk 1 O O (Pb O O (Nb O ((ag) ⟨false,ap,O,(i.j aq).w,O,Y⟩))))))
       ·exact psk 3 E O (Pb E O (mb O (psk 1 O O (Pb O O (mb O (psk 1 O O (Pb O O (Nb O ((ag) ⟨false,b6,O,i,O,Y⟩)))))))))
     ·obtain⟨b8,b9,Y⟩:=zcR Y
      refine Cw.join 85 87 [85] (fun l w=> ∃ ar e,CW.w e=w/\Le [] f e/\l=[vB ar]/\b8 ar=some r) ?_ ?_
      ·rintro _ _ σ ⟨ar,e,rfl,au,rfl,Y⟩
       rw[b9]at Y
       have ba:=b.n au
       refine cn Y (fun Y=>?_) fun Y=>?_
       ·obtain⟨cb,cc,Y⟩:=zcR Y
        refine Cw.join 88 99 [2] (fun l w=> ∃ av aw,CW.w aw=w/\Le [] e aw/\l=[vB av]/\cb av=some r) ?_ ?_
        ·rintro _ _ σ ⟨av,aw,rfl,cd,rfl,Y⟩
         rw[cc]at Y
         have ce:=ba.n cd
         exact .ret (rt Y ce)
        ·refine rg (fl (a.up au) O (ca Y (fun _=>p35) fun c1 T Y U=>mb O (bs Y (fun H Y=>?_) fun H Y=>?_)))
         ·refine wak 1 H (mb O (Pb H O (mb O (bs Y (fun I Y=>?_) fun I Y=>?_))))
          ·refine wak 1 I (mb O (Pb I O (mb O (bs Y (fun J Y=>?_) fun J Y=>?_))))
           ·exact wak 1 J (mb O (Pb J O (Nb O ((ag) ⟨((x0.Text.length:Int)==0),T,O,U,O,Y⟩))))
           ·exact psk 1 J O (Pb J O (Nb O ((ag) ⟨false,T,O,U,O,Y⟩)))
          ·exact psk 1 I O (Pb I O (mb O (psk 1 O O (Pb O O (Nb O ((ag) ⟨false,T,O,U,O,Y⟩))))))
         ·exact psk 1 H O (Pb H O (mb O (psk 1 O O (Pb O O (mb O (psk 1 O O (Pb O O (Nb O ((ag) ⟨false,T,O,U,O,Y⟩)))))))))
       ·obtain⟨cf,cg,Y⟩:=zcR Y
        refine Cw.join 100 102 [100] (fun l w=> ∃ ax V,CW.w V=w/\Le [] e V/\l=[vB ax]/\cf ax=some r) ?_ ?_
        ·rintro _ _ σ ⟨ax,V,rfl,bb,rfl,Y⟩
         rw[cg]at Y
         have bc:=ba.n bb
         refine cn Y (fun Y=>?_) fun Y=>?_
         ·obtain⟨ch,ci,Y⟩:=zcR Y
          refine Cw.join 103 114 [2] (fun l w=> ∃ ay az,CW.w az=w/\Le [] V az/\l=[vB ay]/\ch ay=some r) ?_ ?_
          ·rintro _ _ σ ⟨ay,az,rfl,cj,rfl,Y⟩
           rw[ci]at Y
           have ck:=bc.n cj
           exact .ret (rt Y ck)
          ·refine rg (fl ((a.up au).up bb) O (ca Y (fun _=>p40) fun c2 W Y X=>mb O (bs Y (fun K Y=>?_) fun K Y=>?_)))
           ·refine wak 1 K (mb O (Pb K O (mb O (bs Y (fun L Y=>?_) fun L Y=>?_))))
            ·refine wak 1 L (mb O (Pb L O (mb O (bs Y (fun M Y=>?_) fun M Y=>?_))))
             ·exact wak 1 M (mb O (Pb M O (Nb O ((ag) ⟨((x0.Text.length:Int)==0),W,O,X,O,Y⟩))))
             ·exact psk 1 M O (Pb M O (Nb O ((ag) ⟨false,W,O,X,O,Y⟩)))
            ·exact psk 1 L O (Pb L O (mb O (psk 1 O O (Pb O O (Nb O ((ag) ⟨false,W,O,X,O,Y⟩))))))
           ·exact psk 1 K O (Pb K O (mb O (psk 1 O O (Pb O O (mb O (psk 1 O O (Pb O O (Nb O ((ag) ⟨false,W,O,X,O,Y⟩)))))))))
         ·exact sk (sr (Nb O (.ret (rt Y bc))))
        ·refine sr (Lw.eq O (Nb O (cn Y (fun Y=>?_) fun Y=>?_)))
         ·exact sk ((ag) ⟨(x0.Kind==6),e,O,Le.refl _ _,O,Y⟩)
         ·exact rg (Lw.eq O (Nb O ((ag) ⟨(x0.Kind==7),e,O,Le.refl _ _,O,Y⟩)))
      ·refine sr (Lw.eq O (Nb O (cn Y (fun Y=>?_) fun Y=>?_)))
       ·exact sk ((ag) ⟨(x0.Kind==4),f,O,Le.refl _ _,O,Y⟩)
       ·exact rg (Lw.eq O (Nb O ((ag) ⟨(x0.Kind==5),f,O,Le.refl _ _,O,Y⟩)))
 ·refine rg (fl b1 O (ca Y (fun _=>p35) fun c3 cl Y a0=>Lw.r O (R.not O) (mb O (bs Y (fun N Y=>?_) fun N Y=>?_))))
  ·exact psk 4 N O (Pb N O (nl ((ag) ⟨true,cl,O,a0,O,Y⟩)))
  ·exact wak 4 N (fl (b1.up a0) O (ca Y (fun _=>p35) fun cm co Y cp=>Lw.r O (R.not O) (Pb N O (nl ((ag) ⟨(!cm),co,O,(a0.j cp).w,O,Y⟩)))))
theorem p13 {x0 a r}(b:Rd W K [vI x0.Kind,vS x0.Branch,vS x0.Who,vS x0.Path,vS x0.To,vI x0.At,a] x0)(d:Gk 2 0 1 W K)(Y:Vm.zbv x0=some r):Q1 13 [.agg [vI x0.Kind,vS x0.Branch,vS x0.Who,vS x0.Path,vS x0.To,vI x0.At,a].toArray] W [] fun W' v=>v=vB r:=
 (c13 (b.view _) (d.view _) Y).ad (fk 0) fun _ _ e=>e
theorem c51 {x0 d r}(e:Rd W0 [0] [d] x0)(Y:Vm.zba x0=some r):Q0 51 [d] W0 fun Wf v=>v=vS r:=by
 unfold Vm.zba at Y
 refine zaq.of Tryd.func51 O O O O (sr (Ns O (sr (Ns O (ssr (mv d O (Lw.ln x0 e O (mi O (nl (Cw.block ?_))))))))))
 obtain⟨y,z,Y⟩:=zcR Y
 refine Cw.loop 8 16 [3,5,8] (fun m l w=> ∃ f a i b,CW.w b=w/\Le [] W0 b/\l=[vS f,i,vI a]/\Vm.zao x0 y m f a=some r) _ ⟨([]:Str),0,undef,W0,O,Le.refl _ _,O,Y⟩ ?_
 rintro(_ |E) _ _ σ ⟨f,a,i,b,rfl,k,rfl,Y⟩
 ·cases Y
 unfold Vm.zao at Y
 have h:=k.o
 refine sr (Lw.lt O (nl (Cw.seq (cn Y (fun Y=>?_) fun Y=>?_))))
 ·refine sk (Cw.seq (Cw.block (sr ?_)))
  obtain⟨A,x,Y⟩:=ob Y
  refine Lw.r O (R.ix (α:=Str) (e.ul h) x O O O) (Lw.r O (R.ld O O ((e.ul h).at_ x).str) (Ns O (rg (ms O (ms O ?_)))))
  obtain⟨F,B,Y⟩:=ob Y
  refine Lw.r O (R.sad B O O) ?_
  obtain⟨C,D,Y⟩:=ob Y
  exact Lw.r O (R.sad D O O) (Ns O (rg (Lw.add O (mi O (nl ((agm) ⟨C,w64 (a+1),vS A,b,O,k,O,Y⟩))))))
 ·refine Cw.exit ?_
  rw[z]at Y
  exact sr (ms O (Ns O (.ret (rt Y h))))
theorem p51 {x0 a r}(b:Rd W K [a] x0)(Y:Vm.zba x0=some r):Q1 51 [a] W [] fun W' v=>v=vS r:=
 (c51 (b.view _) Y).ad (fk 0) fun _ _ e=>e
theorem c27 {x0 aa r}(h0:Rd W0 [0] [vI x0.Kind,vS x0.Branch,vS x0.Who,vS x0.Path,vS x0.To,vI x0.At,aa] x0)(Y:Vm.zbE x0=some r):Q0 27 [.agg [vI x0.Kind,vS x0.Branch,vS x0.Who,vS x0.Path,vS x0.To,vI x0.At,aa].toArray] W0 fun Wf v=>v=vS r:=by
 unfold Vm.zbE at Y
 obtain⟨bu,ac,ao⟩:=Op.split h0
 simp only[List.cons.injEq,and_true,true_and]at ac
 obtain rfl:=ac
 refine zaq.of Tryd.func27 O O O O (sr (bo 2 O fun a W1 l1 b1=>?_))
 have a2:=l1.o
 refine Ns O (Cw.seq ?_)
 obtain⟨f,e7,Y⟩:=ob Y
 obtain⟨z,ae,Y⟩:=ob Y
 obtain⟨A,av,Y⟩:=ob Y
 obtain⟨B,aw,Y⟩:=ob Y
 obtain⟨C,ax,Y⟩:=ob Y
 obtain⟨D,ay,Y⟩:=ob Y
 obtain⟨e,az,Y⟩:=ob Y
 refine Cw.par [[],[],[1],[0,1,2],[0,1,2,3],[0,1,2,3,4],[],[6],[0,1,2,3,4,5,6,7],[0,1,2,3,4,5,6,7,8],[],[10],[0,1,2,3,4,5,6,7,8,9,10,11],[0,1,2,3,4,5,6,7,8,9,10,11,12],[0,1,2,3,4,5,6,7,8,9,10,11,12,13]] [[],[],[1],[0,2],[0,3],[4],[],[6],[5,7],[8],[],[10],[9,11],[12],[13]] [[],[],[],[],[],[],[],[],[],[],[],[],[],[],[]] [[0],[1],[2],[0,3],[4],[5],[6],[7],[8],[9],[10],[11],[12],[13],[14]] [[3],[],[],[],[],[],[],[],[],[],[],[],[],[],[]] [0,1,2,3,4,5,6,7,8,9,10,11,12,13,14] [] [fun vs W=>Ow W 3 [] [(vs 0)] f,fun vs W=>(vs 1)=ptr ((bx a).add 0),fun vs W=>(vs 2)=vI x0.Kind,fun vs W=>(vs 3)=ptr ((slA (vs 0)).add ((x0.Kind).toNat*Rp.sz (Str))),fun vs W=>(vs 4)=vS z,fun vs W=>(vs 5)=vS A,fun vs W=>(vs 6)=ptr ((bx a).add 1),fun vs W=>(vs 7)=vS x0.Branch,fun vs W=>(vs 8)=vS B,fun vs W=>(vs 9)=vS C,fun vs W=>(vs 10)=ptr ((bx a).add 2),fun vs W=>(vs 11)=vS x0.Who,fun vs W=>(vs 12)=vS D,fun vs W=>(vs 13)=vS e,fun vs W=>(vs 14)=vS e] [] mixed (by kernel_rfl) O zjF.nil ?_
 intro bw af
 have a0:=a2.n af
 have k:=b1.up af
 refine⟨(zaI.cons ?_ (zaI.cons ?_ (zaI.cons ?_ (zaI.cons ?_ (zaI.cons ?_ (zaI.cons ?_ (zaI.cons ?_ (zaI.cons ?_ (zaI.cons ?_ (zaI.cons ?_ (zaI.cons ?_ (zaI.cons ?_ (zaI.cons ?_ (zaI.cons ?_ (zaI.cons ?_ zaI.nil))))))))))))))),(zch.cons SO (zch.cons SE (zch.cons SE (zch.cons (fun vs vs' W W' _ hv l hd h=>by(show(vs' 3)=ptr ((slA (vs' 0)).add ((x0.Kind).toNat*Rp.sz (Str))));rw[hv 0 (zaW O),hv 3 (zaW O)];exact h) (zch.cons SE (zch.cons SE (zch.cons SE (zch.cons SE (zch.cons SE (zch.cons SE (zch.cons SE (zch.cons SE (zch.cons SE (zch.cons SE (zch.cons SE zch.nil))))))))))))))),?_⟩
 ·intro vs bz lW hN hV
  refine Tr.mono (T.call O (p24 (k0:=3) e7)) ?_
  rintro a1 _ ⟨ah,rfl,a3,⟨_,rfl,a4⟩⟩
  exact⟨ah,O,a3,(show Ow ah 3 [] [a1] f from a4)⟩
 ·intro vs b0 lW hN hV
  exact Trq (R.fa O) O
 ·intro vs b2 lW hN hV
  have E:vs 1=ptr ((bx a).add 0):=(hN 1 (zaW O))
  obtain⟨vs,rfl⟩:=zai E
  exact Trq (R.ld (v:=vI x0.Kind) O O ((k.up lW O).cell O)) O
 ·intro vs a5 lW hN hV
  obtain⟨d,i⟩: ∃ v,vs 0=v:=⟨_,O⟩
  obtain⟨vs,rfl⟩:=zai i
  have a6:Ow a5 3 [] [d] f:=(hN 0 (zaW O))
  have F:vs 2=vI x0.Kind:=(hN 2 (zaW O))
  obtain⟨vs,rfl⟩:=zai F
  exact Trq (R.ix (α:=Str) a6.rd ae O O O) O
 ·intro vs a7 lW hN hV
  obtain⟨d,i⟩: ∃ v,vs 0=v:=⟨_,O⟩
  obtain⟨vs,rfl⟩:=zai i
  have a8:Ow a7 3 [] [d] f:=(hN 0 (zaW O))
  have G:vs 3=ptr ((slA d).add ((x0.Kind).toNat*Rp.sz (Str))):=(hN 3 (zaW O))
  obtain⟨vs,rfl⟩:=zai G
  exact Trq (R.ld O O (a8.rd.at_ ae).str) O
 ·intro vs b3 lW hN hV
  have H:vs 4=vS z:=(hN 4 (zaW O))
  obtain⟨vs,rfl⟩:=zai H
  exact Trq (R.sad av O O) O
 ·intro vs b4 lW hN hV
  exact Trq (R.fa O) O
 ·intro vs b5 lW hN hV
  have I:vs 6=ptr ((bx a).add 1):=(hN 6 (zaW O))
  obtain⟨vs,rfl⟩:=zai I
  exact Trq (R.ld (v:=vS x0.Branch) O O ((k.up lW O).cell O)) O
 ·intro vs b6 lW hN hV
  have J:vs 5=vS A:=(hN 5 (zaW O))
  obtain⟨vs,rfl⟩:=zai J
  have K:vs 7=vS x0.Branch:=(hN 7 (zaW O))
  obtain⟨vs,rfl⟩:=zai K
  exact Trq (R.sad aw O O) O
 ·intro vs b7 lW hN hV
  have L:vs 8=vS B:=(hN 8 (zaW O))
  obtain⟨vs,rfl⟩:=zai L
  exact Trq (R.sad ax O O) O
 ·intro vs b8 lW hN hV
  exact Trq (R.fa O) O
 ·intro vs b9 lW hN hV
  have M:vs 10=ptr ((bx a).add 2):=(hN 10 (zaW O))
  obtain⟨vs,rfl⟩:=zai M
  exact Trq (R.ld (v:=vS x0.Who) O O ((k.up lW O).cell O)) O
 ·intro vs cb lW hN hV
  have N:vs 9=vS C:=(hN 9 (zaW O))
  obtain⟨vs,rfl⟩:=zai N
  have P:vs 11=vS x0.Who:=(hN 11 (zaW O))
  obtain⟨vs,rfl⟩:=zai P
  exact Trq (R.sad ay O O) O
 ·intro vs cc lW hN hV
  have Q:vs 12=vS D:=(hN 12 (zaW O))
  obtain⟨vs,rfl⟩:=zai Q
  exact Trq (R.sad az O O) O
 ·intro vs cd lW hN hV
  have S:vs 13=vS e:=(hN 13 (zaW O))
  obtain⟨vs,rfl⟩:=zai S
  exact Trq (R.as (v:=vS e) O) O
 ·intro vs x ai hN
  have y:=a0.n ai
  have b:=k.up ai
  obtain⟨d,i⟩: ∃ v,vs 0=v:=⟨_,O⟩
  obtain⟨vs,rfl⟩:=zai i
  have ce:Ow x 3 [] [d] f:=(hN 0 (zaW O))
  have E:vs 1=ptr ((bx a).add 0):=(hN 1 (zaW O))
  obtain⟨vs,rfl⟩:=zai E
  have F:vs 2=vI x0.Kind:=(hN 2 (zaW O))
  obtain⟨vs,rfl⟩:=zai F
  have G:vs 3=ptr ((slA d).add ((x0.Kind).toNat*Rp.sz (Str))):=(hN 3 (zaW O))
  obtain⟨vs,rfl⟩:=zai G
  have H:vs 4=vS z:=(hN 4 (zaW O))
  obtain⟨vs,rfl⟩:=zai H
  have J:vs 5=vS A:=(hN 5 (zaW O))
  obtain⟨vs,rfl⟩:=zai J
  have I:vs 6=ptr ((bx a).add 1):=(hN 6 (zaW O))
  obtain⟨vs,rfl⟩:=zai I
  have K:vs 7=vS x0.Branch:=(hN 7 (zaW O))
  obtain⟨vs,rfl⟩:=zai K
  have L:vs 8=vS B:=(hN 8 (zaW O))
  obtain⟨vs,rfl⟩:=zai L
  have N:vs 9=vS C:=(hN 9 (zaW O))
  obtain⟨vs,rfl⟩:=zai N
  have M:vs 10=ptr ((bx a).add 2):=(hN 10 (zaW O))
  obtain⟨vs,rfl⟩:=zai M
  have P:vs 11=vS x0.Who:=(hN 11 (zaW O))
  obtain⟨vs,rfl⟩:=zai P
  have Q:vs 12=vS D:=(hN 12 (zaW O))
  obtain⟨vs,rfl⟩:=zai Q
  have S:vs 13=vS e:=(hN 13 (zaW O))
  obtain⟨vs,rfl⟩:=zai S
  have a9:vs 14=vS e:=(hN 14 (zaW O))
  obtain⟨vs,rfl⟩:=zai a9
  refine ssr (fl b O (nl (Cw.block (sr (Lw.eq O (Nb O (cn Y (fun Y=>?_) fun Y=>?_)))))))
  ·refine Cw.seq (Cw.draw [] [(0,0),(1,0),(2,1),(3,0),(4,0),(5,0),(6,1),(7,2),(8,0),(9,0)] mixed (by kernel_rfl) fun cf U=>?_)
   have aj:=y.n U
   refine Ds O (Dfl (b.up U) O O O ?_)
   obtain⟨cg,ba,Y⟩:=ob Y
   refine Mw.p O O (fun _=>R.sad ba O O) ?_
   obtain⟨ch,bb,Y⟩:=ob Y
   refine Mw.p O O (fun _=>R.sad bb O O) (Dfl (b.up U) O O O ?_)
   obtain⟨ci,bc,Y⟩:=ob Y
   refine Mw.t O O (T.call O (p51 (ao.ul aj) bc)) ?_
   rintro _ _ ⟨cj,rfl,ak,rfl⟩
   have be:=aj.n ak
   refine m0 ak fun ck=>?_
   obtain⟨cl,bg,Y⟩:=ob Y
   exact Mw.p O O (fun _=>R.sad bg O O) (Hs O (Mw.nil (.ret (rt Y be))))
  ·refine sr (Lw.eq O (Nb O (cn Y (fun Y=>?_) fun Y=>?_)))
   ·refine sr (ms O (fl b O ?_))
    obtain⟨cm,bh,Y⟩:=ob Y
    exact Lw.r O (R.sad bh O O) (Ns O (.ret (rt Y y)))
   ·refine sr (Lw.eq O (Nb O (cn Y (fun Y=>?_) fun Y=>?_)))
    ·refine sr (ms O (fl b O ?_))
     obtain⟨co,bi,Y⟩:=ob Y
     refine Lw.r O (R.sad bi O O) ?_
     obtain⟨cp,bj,Y⟩:=ob Y
     refine Lw.r O (R.sad bj O O) (fl b O ?_)
     obtain⟨cq,bk,Y⟩:=ob Y
     exact Lw.r O (R.sad bk O O) (Ns O (.ret (rt Y y)))
    ·obtain⟨bl,bm,Y⟩:=zcR Y
     refine Cw.join 47 49 [47] (fun l w=> ∃ V X,CW.w X=w/\Le [] x X/\l=[vB V]/\bl V=some r) ?_ ?_
     ·rintro _ _ σ ⟨V,X,rfl,Z,rfl,Y⟩
      rw[bm]at Y
      have am:=y.n Z
      refine cn Y (fun Y=>?_) fun Y=>?_
      ·refine sr (ms O (fl (b.up Z) O ?_))
       obtain⟨cs,bn,Y⟩:=ob Y
       exact Lw.r O (R.sad bn O O) (Ns O (.ret (rt Y am)))
      ·refine sk (sr (ms O (fl (b.up Z) O (ca Y (fun _=>p52) fun ct cu Y bp=>?_))))
       have bq:=am.n bp
       obtain⟨cv,br,Y⟩:=ob Y
       exact Lw.r O (R.sad br O O) (Ns O (.ret (rt Y bq)))
     ·refine sr (Lw.eq O (Nb O (cn Y (fun Y=>?_) fun Y=>?_)))
      ·exact sk ((ag) ⟨(x0.Kind==4),x,O,Le.refl _ _,O,Y⟩)
      ·exact rg (Lw.eq O (Nb O ((ag) ⟨(x0.Kind==5),x,O,Le.refl _ _,O,Y⟩)))
theorem p27 {x0 a r}(b:Rd W K [vI x0.Kind,vS x0.Branch,vS x0.Who,vS x0.Path,vS x0.To,vI x0.At,a] x0)(Y:Vm.zbE x0=some r):Q1 27 [.agg [vI x0.Kind,vS x0.Branch,vS x0.Who,vS x0.Path,vS x0.To,vI x0.At,a].toArray] W [] fun W' v=>v=vS r:=
 (c27 (b.view _) Y).ad (fk 0) fun _ _ e=>e
end Go.Sx
