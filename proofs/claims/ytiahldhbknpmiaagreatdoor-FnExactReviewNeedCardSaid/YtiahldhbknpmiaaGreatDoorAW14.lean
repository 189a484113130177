/- Walks: each function answers as its model, printed by a program of ours. Conditions: the arguments read as they are given. -/
import Derived.Test.YtiahldhbknpmiaaGreatDoorATs
import Derived.Test.YtiahldhbknpmiaaGreatDoorAM7
import Derived.Test.YtiahldhbknpmiaaGreatDoorAW0
import Derived.Test.YtiahldhbknpmiaaGreatDoorAW1
namespace Go.Sx
open Go Go.Proofs Go.Vm Rp
set_option linter.unusedVariables false
set_option linter.unusedSimpArgs false
variable {W W0:CW}{K:List Nat}
theorem c93 {x0 x1 r}(e:Rd W0 [0] [vS x0.Path,vS x0.Who] x0)(Y:Vm.zla x0 x1=some r):Q0 93 [.agg [vS x0.Path,vS x0.Who].toArray,vI x1] W0 fun Wf v=>v=vI r:=by
 unfold Vm.zla at Y
 refine zaz.of Tryz.func93 O O O O (sr (bo 2 O fun f h d b=>?_))
 have a:=d.o
 refine Ni O (sr (mi O (fl b O (Lw.r O (R.lenS O) (Lw.sub O (Ni O (ssr (mi O (Lw.lt O (nl (cn Y (fun Y=>?_) fun Y=>?_)))))))))))
 ·exact sr (Ni O (.ret (rt Y a)))
 ·refine sk (sr (mi O (fl b O (Lw.r O (R.lenS O) (Lw.sub O (Ni O (ssr (mi O (Lw.lt O (nl (cn Y (fun Y=>?_) fun Y=>?_)))))))))))
  ·exact sr (Ni O (.ret (rt Y a)))
  ·exact sk (sr (mi O (Ni O (.ret (rt Y a)))))
theorem p93 {x0 x1 r}(a:Rd W K [vS x0.Path,vS x0.Who] x0)(Y:Vm.zla x0 x1=some r):Q1 93 [.agg [vS x0.Path,vS x0.Who].toArray,vI x1] W [] fun W' v=>v=vI r:=
 (c93 (a.view _) Y).ad (fk 0) fun _ _ e=>e
theorem c28 {x0 a x1 r}(k:Rd W0 [0] [a] x0)(Y:Vm.zkB x0 x1=some r):Q0 28 [a,vI x1] W0 fun Wf v=>v=vI r:=by
 unfold Vm.zkB at Y
 refine zaz.of Tryz.func28 O O O O (sr (Ni O (sr (mi O (mv a O (Lw.ln x0 k O (Lw.sub O (Ni O (ssr (mi O (Lw.lt O (nl (cn Y (fun Y=>?_) fun Y=>?_)))))))))))))
 ·exact sr (Ni O (.ret (rt Y (Le.refl _ _))))
 ·refine sk (ssr (Ni O (Cw.block ?_)))
  obtain⟨B,C,Y⟩:=zbM Y
  refine Cw.loop 12 25 [1,4,5] (fun m l w=> ∃ e b d f,CW.w f=w/\Le [] W0 f/\l=[vI e,vI b,vI d]/\Vm.zhf x0 B m e b d=some r) _ ⟨w64 (x1-(x0.length:Int)),0,0,W0,O,Le.refl _ _,O,Y⟩ ?_
  rintro(_ |G) _ _ σ ⟨e,b,d,f,rfl,x,rfl,Y⟩
  ·cases Y
  unfold Vm.zhf at Y
  have h:=x.o
  refine ssr ?_
  have i:=k.ul h
  refine mi O (mv a O (Lw.ln x0 i O (Lw.lt O (nl (cn Y (fun Y=>?_) fun Y=>?_)))))
  ·refine sk (Cw.seq (Cw.block (sr (mv a O (mi O ?_)))))
   obtain⟨y,z,Y⟩:=ob Y
   refine Lw.r O (R.ix (α:=Owner) i z O O O) ?_
   obtain⟨x13,c14,_,r15⟩:=(i.at_ z).cells
   obtain rfl:=Owner.split r15
   refine Lw.r O (R.lda c14 O O) (mi O (ca Y (fun _=>p93 (Owner.rd (K:=[0]) y.Path y.Who)) fun D E Y A=>?_))
   have F:=h.n A
   refine Ni O (sr (mi O (Lw.lt O (nl (cn Y (fun Y=>?_) fun Y=>?_)))))
   ·exact sr (Ni O (.ret (rt Y F)))
   ·exact sk (rg (mi O (Lw.add O (Ni O ((agm) ⟨D,b,w64 (d+1),E,O,(x.j A).w,O,Y⟩)))))
  ·refine Cw.exit ?_
   rw[C]at Y
   exact sr (mi O (Ni O (.ret (rt Y h))))
theorem p28 {x0 a x1 r}(b:Rd W K [a] x0)(Y:Vm.zkB x0 x1=some r):Q1 28 [a,vI x1] W [] fun W' v=>v=vI r:=
 (c28 (b.view _) Y).ad (fk 0) fun _ _ e=>e
theorem c29 {x0 d x1 r}(h:Rd W0 [0] [vS x0.Branch,vS x0.Into,vS x0.By,d] x0)(Y:Vm.zkC x0 x1=some r):Q0 29 [.agg [vS x0.Branch,vS x0.Into,vS x0.By,d].toArray,vI x1] W0 fun Wf v=>v=vI r:=by
 unfold Vm.zkC at Y
 obtain⟨y,e,i⟩:=Review.split h
 simp only[List.cons.injEq,and_true,true_and]at e
 obtain rfl:=e
 refine zaz.of Tryz.func29 O O O O (sr (bo 2 O fun z A k b=>?_))
 have a:=k.o
 refine Ni O (sr (mi O (fl b O (Lw.r O (R.lenS O) (Lw.sub O (Ni O (ssr (mi O (Lw.lt O (nl (cn Y (fun Y=>?_) fun Y=>?_)))))))))))
 ·exact sr (Ni O (.ret (rt Y a)))
 ·refine sk (sr (mi O (fl b O (Lw.r O (R.lenS O) (Lw.sub O (Ni O (ssr (mi O (Lw.lt O (nl (cn Y (fun Y=>?_) fun Y=>?_)))))))))))
  ·exact sr (Ni O (.ret (rt Y a)))
  ·refine sk (sr (mi O (fl b O (Lw.r O (R.lenS O) (Lw.sub O (Ni O (ssr (mi O (Lw.lt O (nl (cn Y (fun Y=>?_) fun Y=>?_)))))))))))
   ·exact sr (Ni O (.ret (rt Y a)))
   ·refine sk (sr (fl b O (mi O (ca Y (fun _=>p94 (i.ul a)) fun B C Y x=>?_))))
    have f:=a.n x
    refine Ni O (ssr (mi O (Lw.lt O (nl (cn Y (fun Y=>?_) fun Y=>?_)))))
    ·exact sr (Ni O (.ret (rt Y f)))
    ·exact sk (sr (mi O (Ni O (.ret (rt Y f)))))
theorem p29 {x0 a x1 r}(b:Rd W K [vS x0.Branch,vS x0.Into,vS x0.By,a] x0)(Y:Vm.zkC x0 x1=some r):Q1 29 [.agg [vS x0.Branch,vS x0.Into,vS x0.By,a].toArray,vI x1] W [] fun W' v=>v=vI r:=
 (c29 (b.view _) Y).ad (fk 0) fun _ _ e=>e
theorem c98 {x0 r}(H:Rd W0 [0] [vS x0.Path,vS x0.Who] x0)(Y:Vm.zlb x0=some r):Q0 98 [.agg [vS x0.Path,vS x0.Who].toArray] W0 fun Wf v=>v = .agg [vS r.Path,vS r.Who].toArray:=by
 unfold Vm.zlb at Y
 refine zaz.of Tryz.func98 O O O O (sr (bo 2 O fun I J f h=>?_))
 have i:=f.o
 refine al 3 [vS ([]:Str),vS ([]:Str)] fun K L b k=>?_
 have x:=i.n b
 refine nl (sr (al 4 [vS ([]:Str),vS ([]:Str)] fun M N a y=>?_))
 have z:=x.n a
 have d:=(h.up b).up a
 refine nl (sr (fl d O (Lw.fa O (Lw.u (T.st (j:=0) (v:=vS x0.Path) y O O O O O) ?_))))
 rintro _ _ ⟨P,rfl,l10,A⟩
 have B:=z.t l10
 refine nl (sr (fl (d.up l10) O (Lw.fa O (Lw.u (T.st (j:=1) (v:=vS x0.Who) A O O O O O) ?_))))
 rintro _ _ ⟨Q,rfl,e,C⟩
 have D:=B.t e
 refine nl (sr (la C (sta (((k.up a).up l10).up e) (zaa O (zaa O za0)) fun R E F=>?_)))
 have G:=D.t E
 refine nl ?_
 cases Y
 exact Cw.ret (zn1 O F (Res.mk G O))
theorem p98 {x0 r}(a:Rd W K [vS x0.Path,vS x0.Who] x0)(Y:Vm.zlb x0=some r):Q1 98 [.agg [vS x0.Path,vS x0.Who].toArray] W [] fun W' v=>v = .agg [vS r.Path,vS r.Who].toArray:=
 (c98 (a.view _) Y).ad (fk 0) fun _ _ e=>e
theorem c31 {x0 b r}(d:Rd W0 [0] [b] x0)(Y:Vm.zhy x0=some r):Q0 31 [b] W0 fun Wf v=> ∃ y,v=y/\OwS Wf LL [] [y] r:=by
 unfold Vm.zhy at Y
 refine zaz.of Tryz.func31 O O O O (sr (Nv (.slice none 0 0) O (sr (mv b O (Lw.ln x0 d O ?_)))))
 obtain⟨E,F,Y⟩:=ob Y
 refine Lw.t O (T.mk (α:=Owner) 2 [] (n:=(x0.length:Int)) O O F) ?_
 rintro a _ ⟨z,rfl,G,H⟩
 have I:=G.o
 refine Nv a O (ssr (Ni O (Cw.block ?_)))
 obtain⟨J,L,Y⟩:=zbM Y
 refine Cw.loop 8 21 [4] (fun m l w=> ∃ e i f,CW.w f=w/\Le [2] z f/\l=[vI e]/\Ow f 2 [] [a] i/\Vm.zhg x0 J m e i=some r) _ ⟨0,E,z,O,Le.refl _ _,O,H,Y⟩ ?_
 rintro(_ |V) _ _ σ ⟨e,i,f,rfl,A,rfl,k,Y⟩
 ·cases Y
 unfold Vm.zhg at Y
 have h:=I.t A
 refine ssr (mi O (mv b O (Lw.ln x0 (d.ul h) O (Lw.lt O (nl (cn Y (fun Y=>?_) fun Y=>?_))))))
 ·refine sk (Cw.seq (Cw.block (rg (mv a O (mi O (mv b O (mi O ?_)))))))
  obtain⟨B,C,Y⟩:=ob Y
  refine Lw.r O (R.ix (α:=Owner) (d.ul h) C O O O) ?_
  obtain⟨x16,c17,_,r18⟩:=((d.ul h).at_ C).cells
  obtain rfl:=Owner.split r18
  refine Lw.r O (R.lda c17 O O) (ca Y (fun _=>p98 (Owner.rd (K:=[0]) B.Path B.Who)) fun D W Y x=>?_)
  obtain⟨X,M,Y⟩:=ob Y
  refine Lw.r O (R.ix (α:=Owner) (k.up x).rd M O O O) ?_
  obtain⟨N,P,Y⟩:=ob Y
  refine Lw.u (T.stS (K':=[]) (k.up x) (Owner.rd (K:=[]) D.Path D.Who) P O O O) ?_
  rintro _ _ ⟨Q,rfl,S,U⟩
  exact nl (rg (mi O (Lw.add O (Ni O ((agm) ⟨w64 (e+1),N,Q,O,((A.j x).j S).w,O,U,Y⟩)))))
 ·refine Cw.exit ?_
  rw[L]at Y
  refine sr (mv a O (Nv a O ?_))
  cases Y
  exact Cw.ret (zkN O (Res.mk h ⟨a,O,k.s.sub O O⟩))
theorem p31 {x0 b k0 r}(d:Rd W K [b] x0)(Y:Vm.zhy x0=some r):Q1 31 [b] W [] fun W' v=> ∃ a,v=a/\Ow W' k0 [] [a] r:=
 (c31 (d.view _) Y).ad (fk k0) fun _ _ ⟨a,e,f⟩=>⟨a,e,f.back (ziQ _)⟩
theorem c32 {x0 k r}(E:Rd W0 [0] [vS x0.Branch,vS x0.Into,vS x0.By,k] x0)(Y:Vm.zhz x0=some r):Q0 32 [.agg [vS x0.Branch,vS x0.Into,vS x0.By,k].toArray] W0 fun Wf v=> ∃ x,v = .agg [vS r.Branch,vS r.Into,vS r.By,x].toArray/\OwS Wf LL [] [x] r.Yes:=by
 unfold Vm.zhz at Y
 obtain⟨aa,y,F⟩:=Review.split E
 simp only[List.cons.injEq,and_true,true_and]at y
 obtain rfl:=y
 refine zaz.of Tryz.func32 O O O O (sr (bo 2 O fun g1 W1 G H=>?_))
 have I:=G.o
 refine al 3 [vS ([]:Str),vS ([]:Str),vS ([]:Str), .slice none 0 0] fun g3 W3 z J=>?_
 have K:=I.n z
 refine nl (sr (al 4 [vS ([]:Str),vS ([]:Str),vS ([]:Str), .slice none 0 0] fun g6 W6 b L=>?_))
 have M:=K.n b
 have d:=(H.up z).up b
 refine nl (sr (fl d O (Lw.fa O (Lw.u (T.st (j:=0) (v:=vS x0.Branch) L O O O O O) ?_))))
 rintro _ _ ⟨ak,rfl,l10,N⟩
 have P:=M.t l10
 refine nl (sr (fl (d.up l10) O (Lw.fa O (Lw.u (T.st (j:=1) (v:=vS x0.Into) N O O O O O) ?_))))
 rintro _ _ ⟨am,rfl,e,Q⟩
 have R:=P.t e
 have A:=(d.up l10).up e
 refine nl (sr (fl A O (Lw.fa O (Lw.u (T.st (j:=2) (v:=vS x0.By) Q O O O O O) ?_))))
 rintro _ _ ⟨an,rfl,f,S⟩
 have B:=R.t f
 refine nl (sr (fl (A.up f) O (cr Y (fun _=>p99 (k0:=5) (F.ul B)) ?_)))
 rintro ao C ap Y h ⟨_,rfl,i⟩
 have U:=B.n h
 refine Lw.fa O (Lw.u (T.st (j:=3) (v:=C) (S.up h) O O i.oc O O) ?_)
 rintro _ _ ⟨aq,rfl,a,V⟩
 have W:=U.t a
 refine nl (sr (la V (sta ((((((J.up b).up l10).up e).up f).up h).up a) (zaa O (zaa O (zaa O (zaa (i.up a).oc za0)))) fun ar D X=>?_)))
 have Z:=W.t D
 refine nl ?_
 cases Y
 exact Cw.ret (zn1 O X (Res.mk Z ⟨C,O,((i.up a).up D).s.sub O O⟩))
theorem p32 {x0 b k0 r}(d:Rd W K [vS x0.Branch,vS x0.Into,vS x0.By,b] x0)(Y:Vm.zhz x0=some r):Q1 32 [.agg [vS x0.Branch,vS x0.Into,vS x0.By,b].toArray] W [] fun W' v=> ∃ a,v = .agg [vS r.Branch,vS r.Into,vS r.By,a].toArray/\Ow W' k0 [] [a] r.Yes:=
 (c32 (d.view _) Y).ad (fk k0) fun _ _ ⟨a,e,f⟩=>⟨a,e,f.back (ziQ _)⟩
theorem c95 {x0 h r}(E:Rd W0 [0] [h] x0)(Y:Vm.zhF x0=some r):Q0 95 [h] W0 fun Wf v=>v=vB r:=by
 unfold Vm.zhF at Y
 refine zaz.of Tryz.func95 O O O O (sr (Nb O (ssr (Ni O (Cw.block ?_)))))
 obtain⟨M,N,Y⟩:=zbM Y
 refine Cw.loop 4 43 [2,3] (fun m l w=> ∃ z f A,CW.w A=w/\Le [] W0 A/\l=[vB z,vI f]/\Vm.zel x0 M m z f=some r) _ ⟨false,0,W0,O,Le.refl _ _,O,Y⟩ ?_
 rintro(_ |m5) _ _ σ ⟨z,f,A,rfl,L,rfl,Y⟩
 ·cases Y
 unfold Vm.zel at Y
 have x:=L.o
 refine ssr (mi O (mv h O (Lw.ln x0 (E.ul x) O (Lw.lt O (nl (cn Y (fun Y=>?_) fun Y=>?_))))))
 ·refine sk (Cw.seq (Cw.block ?_))
  obtain⟨P,Q,Y⟩:=zbM Y
  refine Cw.join 10 43 [43] (fun l w=> ∃ F B,CW.w B=w/\Le [] A B/\l=[vB F]/\P F=some r) ?_ ?_
  ·rintro _ _ σ ⟨F,B,rfl,l10,rfl,Y⟩
   rw[Q]at Y
   have S:=x.n l10
   refine cn Y (fun Y=>?_) fun Y=>?_
   ·exact sr (Nb O (.ret (rt Y S)))
   ·exact sk (rg (mi O (Lw.add O (Ni O ((agm) ⟨z,w64 (f+1),B,O,(L.j l10).w,O,Y⟩)))))
  ·refine Cw.draw [] [(0,0),(1,0),(2,0),(3,0),(4,1),(5,2),(6,0),(7,0),(8,0),(9,0),(10,0),(11,0),(12,1),(13,2),(14,0),(15,0),(16,0),(17,0),(18,0),(19,0),(20,0),(21,0),(22,0),(23,0),(24,1),(25,0),(26,0),(27,0),(28,0),(29,0),(30,1),(31,0),(32,0),(33,0)] mixed (by kernel_rfl) fun ac y=>?_
   have U:=x.n y
   refine Dv h O (Di O ?_)
   obtain⟨ae,G,Y⟩:=ob Y
   have b:=E.ul U
   refine Mw.p O O (fun _=>R.ix (α:=Owner) b G O O O) (Df O (Mw.q O O (fun _ c=>R.ld O O (zaB (Owner.at0 (b.at_ G)).1 O (Owner.at0 (b.at_ G)).str c)) (Dc Y (Le.refl _ _) (fun _=>p158) O ?_)))
   rintro af _ V Y C rfl W
   refine Mw.p O O (fun _=>R.not O) (Db O (bs Y (fun d Y=>?_) fun d Y=>?_))
   ·exact dps 7 d O (Mw.p O O (fun _=>R.pk d O (v:=vB true) O) (Db O (dps 3 O O (dpu 12 O (dps 1 O O (Mw.p O O (fun _=>R.pk O O (v:=vB true) O) (Mw.nil ((ag) ⟨true,V,O,(y.j C).w,O,Y⟩))))))))
   ·refine Wp d O (fun _=>R.mv (v:=h) O) (Wp d O (fun _=>R.mv (v:=vI f) O) ?_)
    obtain⟨ah,H,Y⟩:=ob Y
    refine Wp d O (fun _=>R.ix (α:=Owner) b H O O O) (Wp d O (fun _=>R.fa O) (Wq d O (fun _ c=>R.ld O O (zaB (Owner.at1 (b.at_ H)).1 O (Owner.at1 (b.at_ H)).str c)) ?_))
    obtain⟨X,Z,Y⟩:=ob Y
    refine Wt d O (T.call O (p70 Z)) ?_
    rintro _ _ ⟨I,rfl,D,rfl⟩
    refine mc W D fun ai=>Wp d O (fun _=>R.not O) (Mw.p O O (fun _=>R.pk d O (v:=vB (!X)) O) (Db O (bs Y (fun e Y=>?_) fun e Y=>?_)))
    ·exact dps 3 e O (dpu 12 O (dps 1 e O (Mw.p O O (fun _=>R.pk e O (v:=vB true) O) (Mw.nil ((ag) ⟨true,I,O,((y.j C).j D).w,O,Y⟩)))))
    ·refine Wp e O (fun _=>R.mv (v:=vI f) O) (Wp e O (fun _=>R.gt O O) (Wp e O (fun _=>R.mv (v:=vB (decide (0< (f:Int)))) O) (bs Y (fun a Y=>?_) fun a Y=>?_)))
     ·refine Wp a O (fun _=>R.mv (v:=h) O) (Wp a O (fun _=>R.mv (v:=vI f) O) ?_)
      obtain⟨i,J,Y⟩:=ob Y
      refine Wp a O (fun _=>R.ix (α:=Owner) b J O O O) (Wp a O (fun _=>R.fa O) (Wq a O (fun _ c=>R.ld O O (zaB (Owner.at0 (b.at_ J)).1 O (Owner.at0 (b.at_ J)).str c)) (Wp a O (fun _=>R.mv (v:=h) O) (Wp a O (fun _=>R.mv (v:=vI f) O) (Wp a O (fun _=>R.sub O O) ?_)))))
      obtain⟨k,K,Y⟩:=ob Y
      exact Wp a O (fun _=>R.ix (α:=Owner) b K O O O) (Wp a O (fun _=>R.fa O) (Wq a O (fun _ c=>R.ld O O (zaB (Owner.at0 (b.at_ K)).1 O (Owner.at0 (b.at_ K)).str c)) (Wp a O (fun _=>R.sle O O) (Wp e O (fun _=>R.pk a O (v:=vB (Op.bytesLess i.Path k.Path||i.Path==k.Path)) O) (Mw.p O O (fun _=>R.pk e O (v:=vB (Op.bytesLess i.Path k.Path||i.Path==k.Path)) O) (Mw.nil ((ag) ⟨(Op.bytesLess i.Path k.Path||i.Path==k.Path),I,O,((y.j C).j D).w,O,Y⟩)))))))
     ·exact dps 12 a O (Wp e O (fun _=>R.pk a O (v:=vB false) O) (Mw.p O O (fun _=>R.pk e O (v:=vB false) O) (Mw.nil ((ag) ⟨false,I,O,((y.j C).j D).w,O,Y⟩))))
 ·refine Cw.exit ?_
  rw[N]at Y
  exact sr (mv h O (Lw.ln x0 (E.ul x) O (Lw.le O (Nb O (.ret (rt Y x))))))
theorem p95 {x0 a r}(b:Rd W K [a] x0)(Y:Vm.zhF x0=some r):Q1 95 [a] W [] fun W' v=>v=vB r:=
 (c95 (b.view _) Y).ad (fk 0) fun _ _ e=>e
theorem c96 {x0 G r}(h0:Rd W0 [0] [vS x0.Branch,vS x0.Into,vS x0.By,G] x0)(Y:Vm.zlc x0=some r):Q0 96 [.agg [vS x0.Branch,vS x0.Into,vS x0.By,G].toArray] W0 fun Wf v=>v=vB r:=by
 unfold Vm.zlc at Y
 obtain⟨a3,Z,J⟩:=Review.split h0
 simp only[List.cons.injEq,and_true,true_and]at Z
 obtain rfl:=Z
 refine zaz.of Tryz.func96 O O O O (sr (bo 2 O fun g1 W1 l1 b1=>?_))
 have a2:=l1.o
 refine Nb O (ssr (Ni O (Cw.block ?_)))
 obtain⟨K6,am,Y⟩:=zbM Y
 refine Cw.loop 4 35 [2,3] (fun m l w=> ∃ H e x,CW.w x=w/\Le [] W1 x/\l=[vB H,vI e]/\Vm.zgL x0 K6 m H e=some r) _ ⟨false,0,W1,O,Le.refl _ _,O,Y⟩ ?_
 rintro(_ |m7) _ _ σ ⟨H,e,x,rfl,K,rfl,Y⟩
 ·cases Y
 unfold Vm.zgL at Y
 have y:=a2.n K
 have z:=b1.up K
 refine ssr (mi O (fl z O (Lw.ln x0.Yes (J.ul y) O (Lw.lt O (nl (cn Y (fun Y=>?_) fun Y=>?_))))))
 ·refine sk (Cw.seq (Cw.block ?_))
  obtain⟨an,ao,Y⟩:=zbM Y
  refine Cw.join 11 35 [35] (fun l w=> ∃ L I,CW.w I=w/\Le [] x I/\l=[vB L]/\an L=some r) ?_ ?_
  ·rintro _ _ σ ⟨L,I,rfl,ac,rfl,Y⟩
   rw[ao]at Y
   have ap:=y.n ac
   refine cn Y (fun Y=>?_) fun Y=>?_
   ·exact sr (Nb O (.ret (rt Y ap)))
   ·exact sk (rg (mi O (Lw.add O (Ni O ((agm) ⟨H,w64 (e+1),I,O,(K.j ac).w,O,Y⟩)))))
  ·refine Cw.draw [] [(0,0),(1,1),(2,0),(3,0),(4,1),(5,2),(6,0),(7,0),(8,0),(9,0),(10,0),(11,0),(12,1),(13,0),(14,0),(15,1),(16,0),(17,1),(18,0),(19,0),(20,0),(21,1),(22,0),(23,0),(24,0)] mixed (by kernel_rfl) fun a6 A=>?_
   have aq:=y.n A
   have M:=z.up A
   refine Dfl M O O O (Di O ?_)
   obtain⟨a7,N,Y⟩:=ob Y
   have d:=J.ul aq
   refine Mw.p O O (fun _=>R.ix (α:=Str) d N O O O) (Mw.q O O (fun _ c=>R.ld O O (zaB (d.at_ N).1 O (d.at_ N).str c)) (Dc Y (Le.refl _ _) (fun _=>p70) O ?_))
   rintro a9 _ P Y Q rfl ba
   refine Mw.p O O (fun _=>R.not O) (Db O (bs Y (fun b Y=>?_) fun b Y=>?_))
   ·exact dps 3 b O (dpu 12 O (dps 1 b O (Mw.p O O (fun _=>R.pk b O (v:=vB true) O) (Mw.nil ((ag) ⟨true,P,O,(A.j Q).w,O,Y⟩)))))
   ·refine Wp b O (fun _=>R.mv (v:=vI e) O) (Wp b O (fun _=>R.gt O O) (Wp b O (fun _=>R.mv (v:=vB (decide (0< (e:Int)))) O) (bs Y (fun a Y=>?_) fun a Y=>?_)))
    ·refine Wp a O (fun _=>R.fa O) (Wq a O (fun _ c=>R.ld (v:=G) O O (M.clc O O c)) (Wp a O (fun _=>R.mv (v:=vI e) O) ?_))
     obtain⟨h,S,Y⟩:=ob Y
     refine Wp a O (fun _=>R.ix (α:=Str) d S O O O) (Wq a O (fun _ c=>R.ld O O (zaB (d.at_ S).1 O (d.at_ S).str c)) (Wp a O (fun _=>R.fa O) (Wq a O (fun _ c=>R.ld (v:=G) O O (M.clc O O c)) (Wp a O (fun _=>R.mv (v:=vI e) O) (Wp a O (fun _=>R.sub O O) ?_)))))
     obtain⟨i,T,Y⟩:=ob Y
     exact Wp a O (fun _=>R.ix (α:=Str) d T O O O) (Wq a O (fun _ c=>R.ld O O (zaB (d.at_ T).1 O (d.at_ T).str c)) (Wp a O (fun _=>R.sle O O) (Wp b O (fun _=>R.pk a O (v:=vB (Op.bytesLess h i||h==i)) O) (Mw.p O O (fun _=>R.pk b O (v:=vB (Op.bytesLess h i||h==i)) O) (Mw.nil ((ag) ⟨(Op.bytesLess h i||h==i),P,O,(A.j Q).w,O,Y⟩))))))
    ·exact dps 12 a O (Wp b O (fun _=>R.pk a O (v:=vB false) O) (Mw.p O O (fun _=>R.pk b O (v:=vB false) O) (Mw.nil ((ag) ⟨false,P,O,(A.j Q).w,O,Y⟩))))
 ·refine Cw.exit ?_
  rw[am]at Y
  obtain⟨ar,au,Y⟩:=zbM Y
  refine Cw.join 36 61 [2] (fun l w=> ∃ U V,CW.w V=w/\Le [] x V/\l=[vB U]/\ar U=some r) ?_ ?_
  ·rintro _ _ σ ⟨U,V,rfl,av,rfl,Y⟩
   rw[au]at Y
   have aw:=y.n av
   exact .ret (rt Y aw)
  ·refine rg (fl z O (ca Y (fun _=>p70) fun bb ax Y f=>?_))
   have ay:=y.n f
   refine mb O (bs Y (fun B Y=>?_) fun B Y=>?_)
   ·refine wak 3 B (fl (z.up f) O (ca Y (fun _=>p70) fun bc az Y k=>?_))
    have a0:=ay.n k
    have ae:=(z.up f).up k
    refine Pb B O (mb O (bs Y (fun C Y=>?_) fun C Y=>?_))
    ·refine wak 3 C (fl ae O (ca Y (fun _=>p70) fun be W Y D=>?_))
     have a1:=a0.n D
     have X:=ae.up D
     refine Pb C O (mb O (bs Y (fun E Y=>?_) fun E Y=>?_))
     ·refine wak 5 E (fl X O (fl X O (Lw.sne O (Pb E O (mb O (bs Y (fun F Y=>?_) fun F Y=>?_))))))
      ·exact wak 4 F (fl X O (Lw.ln x0.Yes (J.ul a1) O (Lw.le O (Pb F O (Nb O ((ag) ⟨decide (x0.Yes.length<=(5:Int)),W,O,((f.j k).j D).w,O,Y⟩))))))
      ·exact psk 4 F O (Pb F O (Nb O ((ag) ⟨false,W,O,((f.j k).j D).w,O,Y⟩)))
     ·exact psk 5 E O (Pb E O (mb O (psk 4 O O (Pb O O (Nb O ((ag) ⟨false,W,O,((f.j k).j D).w,O,Y⟩))))))
    ·exact psk 3 C O (Pb C O (mb O (psk 5 O O (Pb O O (mb O (psk 4 O O (Pb O O (Nb O ((ag) ⟨false,az,O,(f.j k).w,O,Y⟩)))))))))
   ·exact psk 3 B O (Pb B O (mb O (psk 3 O O (Pb O O (mb O (psk 5 O O (Pb O O (mb O (psk 4 O O (Pb O O (Nb O ((ag) ⟨false,ax,O,f,O,Y⟩))))))))))))
theorem p96 {x0 a r}(b:Rd W K [vS x0.Branch,vS x0.Into,vS x0.By,a] x0)(Y:Vm.zlc x0=some r):Q1 96 [.agg [vS x0.Branch,vS x0.Into,vS x0.By,a].toArray] W [] fun W' v=>v=vB r:=
 (c96 (b.view _) Y).ad (fk 0) fun _ _ e=>e
theorem c218 {x0 f x1 e r}(h0:Rd W0 [0] [f] x0)(X:Rd W0 [0] [e] x1)(Y:Vm.zmf x0 x1=some r):Q0 218 [f,e] W0 fun Wf v=> ∃ u0,v=u0/\OwS Wf LL [] [u0] r:=by
 unfold Vm.zmf at Y
 refine zaz.of Tryz.func218 O O O O (sr (Nv (.slice none 0 0) O (sr (Lw.t O (T.lit0 (α:=Hunk) 2 []) ?_))))
 rintro v1 _ ⟨W1,rfl,l1,o1⟩
 have a2:=l1.o
 refine Nv v1 O (sr (mv f O (mv e O (cr Y (fun _=>p245 (k0:=3) (h0.ul a2) (X.ul a2)) ?_))))
 rintro z5 eb W7 Y l7 ⟨_,rfl,ch⟩
 have a8:=a2.n l7
 refine mv e O (Lw.ln x1 (X.ul a8) O (Lw.t O (T.bs 4 [vI (x1.length:Int)] (cs:=[vI (x1.length:Int)]) O O (bsv O)) ?_))
 rintro _ _ ⟨ed,ee,rfl,rfl,ao,ci⟩
 have cj:=a8.n ao
 obtain⟨bl,ck,Y⟩:=ob Y
 refine Lw.t O (T.app1S (α:=Int) (K':=[]) (ch.up ao) ci (rdI _) O O ck) ?_
 rintro z _ ⟨bm,rfl,bn,cl⟩
 have cm:=cj.t bn
 refine Nv z O (sr (Ni O (sr (Ni O (ssr (Ni O (Cw.block ?_)))))))
 obtain⟨co,cp,Y⟩:=zbM Y
 refine Cw.loop 18 66 [5,7,8,9] (fun m l w=> ∃ B a d b i A,CW.w A=w/\Le [2,5,6] bm A/\l=[i,vI a,vI d,vI b]/\Ow A 2 [] [i] B/\Vm.zhG x0 x1 bl co m B a d b=some r) _ ⟨([]:List Hunk),0,0,0,v1,bm,O,Le.refl _ _,O,(((o1.up l7).up ao).up bn),Y⟩ ?_
 rintro(_ |ef) _ _ σ ⟨B,a,d,b,i,A,rfl,ap,rfl,Z,Y⟩
 ·cases Y
 unfold Vm.zhG at Y
 have bp:=cm.t ap
 have C:=cl.up ap
 refine ssr (mi O (mv z O (Lw.ln bl C.rd O (Lw.lt O (nl (cn Y (fun Y=>?_) fun Y=>?_))))))
 ·refine sk ?_
  obtain⟨cq,ct,Y⟩:=zbM Y
  refine Cw.join 24 66 [5,7,8] (fun l w=> ∃ aa ac ae af M,CW.w M=w/\Le [2,5,6] A M/\l=[af,vI ac,vI ae]/\Ow M 2 [] [af] aa/\cq aa ac ae=some r) ?_ ?_
  ·rintro _ _ σ ⟨aa,ac,ae,af,M,rfl,cu,rfl,cv,Y⟩
   rw[ct]at Y
   exact rg (mi O (Lw.add O (Ni O ((agm) ⟨aa,ac,ae,w64 (b+1),af,M,O,(ap.j cu).w,O,cv,Y⟩))))
  ·refine Cw.block (ssr (mv z O (mi O ?_)))
   obtain⟨eg,bq,Y⟩:=ob Y
   refine Lw.r O (R.ix (α:=Int) C.rd bq O O O) (Lw.r O (R.ld O O (C.rd.at_ bq).int) (Lw.lt O (nl (cn Y (fun Y=>?_) fun Y=>?_))))
   ·exact Cw.exit ((ag) ⟨B,a,d,i,A,O,Le.refl _ _,O,Z,Y⟩)
   ·refine sk ?_
    obtain⟨cw,cx,Y⟩:=zbM Y
    refine Cw.join 29 59 [5] (fun l w=> ∃ ah ai N,CW.w N=w/\Le [2,5,6] A N/\l=[ai]/\Ow N 2 [] [ai] ah/\cw ah=some r) ?_ ?_
    ·rintro _ _ σ ⟨ah,ai,N,rfl,aq,rfl,cy,Y⟩
     rw[cx]at Y
     refine sr (mi O (Lw.add O (Ni O (rg (mv z O (mi O ?_))))))
     obtain⟨cz,br,Y⟩:=ob Y
     exact Lw.r O (R.ix (α:=Int) (C.up aq).rd br O O O) (Lw.r O (R.ld O O ((C.up aq).rd.at_ br).int) (Lw.add O (Ni O ((ag) ⟨ah,w64 (b+1),w64 (cz+1),ai,N,O,aq,O,cy,Y⟩))))
    ·obtain⟨c0,c1,Y⟩:=zbM Y
     refine Cw.join 29 39 [39] (fun l w=> ∃ ar aj,CW.w aj=w/\Le [] A aj/\l=[vB ar]/\c0 ar=some r) ?_ ?_
     ·rintro _ _ σ ⟨ar,aj,rfl,G,rfl,Y⟩
      rw[c1]at Y
      have c2:=bp.n G
      refine cn Y (fun Y=>?_) fun Y=>?_
      ·obtain⟨P,bu,Y⟩:=ob Y
       obtain⟨H,c3,Y⟩:=ob Y
       obtain⟨y,bv,Y⟩:=ob Y
       obtain⟨Q,bw,Y⟩:=ob Y
       obtain⟨I,c4,Y⟩:=ob Y
       obtain⟨S,c5,Y⟩:=ob Y
       refine Cw.par [[],[],[],[],[],[],[3,4,5],[2,3,4,5,6],[],[],[],[],[],[11,12],[11,12,13],[9,10,11,12,13,14],[2,3,4,5,6,7,8,9,10,11,12,13,14,15],[1,2,3,4,5,6,7,8,9,10,11,12,13,14,15,16],[1,2,3,4,5,6,7,8,9,10,11,12,13,14,15,16,17],[0,1,2,3,4,5,6,7,8,9,10,11,12,13,14,15,16,17,18],[0,1,2,3,4,5,6,7,8,9,10,11,12,13,14,15,16,17,18,19]] [[21],[],[],[],[],[],[3,4,5],[2,6],[],[],[],[],[],[11,12],[13],[9,10,14],[8,15],[1,7,16],[7,16,17],[0,7,16,18,21],[19]] [[],[],[],[],[],[],[],[5],[],[],[],[],[],[],[],[],[6],[],[],[2,5,6],[]] [[0],[1],[2],[3],[4],[5],[6],[7],[8],[9],[10],[11],[12],[13],[14],[15],[16],[7,16,17],[7,16,18],[19],[19,20],[]] [[],[],[5],[],[],[],[0],[5],[6],[],[],[],[],[],[],[0],[6],[],[7],[2],[],[2]] [0,1,3,4,5,6,9,10,11,12,13,14,15,17,18,19,20] [2,5,6] [fun vs W=>(vs 0)=i,fun vs W=>(vs 1)=vI a,fun vs W=>Ow W 5 [] [(vs 2)] ([]:List Str),fun vs W=>(vs 3)=f,fun vs W=>(vs 4)=vI a,fun vs W=>(vs 5)=vI b,fun vs W=>(vs 6)=(cutV f (a:Int).toNat (b:Int).toNat (Rp.sz (Str)))/\Rd W [0] [(cutV f (a:Int).toNat (b:Int).toNat (Rp.sz (Str)))] P,fun vs W=>Ow W 5 [] [(vs 7)] H,fun vs W=>Ow W 6 [] [(vs 8)] ([]:List Str),fun vs W=>(vs 9)=e,fun vs W=>(vs 10)=vI d,fun vs W=>(vs 11)=z,fun vs W=>(vs 12)=vI b,fun vs W=>(vs 13)=ptr ((slA z).add ((b).toNat*Rp.sz (Int))),fun vs W=>(vs 14)=vI y,fun vs W=>(vs 15)=(cutV e (d:Int).toNat (y:Int).toNat (Rp.sz (Str)))/\Rd W [0] [(cutV e (d:Int).toNat (y:Int).toNat (Rp.sz (Str)))] Q,fun vs W=>Ow W 6 [] [(vs 16)] I,fun vs W=>(vs 17) = .agg [vI a,(vs 7),(vs 16)].toArray,fun vs W=>(vs 18) = .slice (some (bx (pg (vs 18)))) 1 1/\Bx W 7 (pg (vs 18)) [vI a,(vs 7),(vs 16)],fun vs W=>Ow W 2 [] [(vs 19)] S,fun vs W=>(vs 20)=(vs 19)] [fun _ W=>Ow W 2 [] [i] B] mixed (by kernel_rfl) O (zrl.cons (fun _ _ l=>(Z.up G).up l O) zrl.nil) ?_
       intro eh au
       have bz:=c2.n au
       have b0:=(C.up G).up au
       refine⟨(zbu.cons ?_ (zbu.cons ?_ (zbu.cons ?_ (zbu.cons ?_ (zbu.cons ?_ (zbu.cons ?_ (zbu.cons ?_ (zbu.cons ?_ (zbu.cons ?_ (zbu.cons ?_ (zbu.cons ?_ (zbu.cons ?_ (zbu.cons ?_ (zbu.cons ?_ (zbu.cons ?_ (zbu.cons ?_ (zbu.cons ?_ (zbu.cons ?_ (zbu.cons ?_ (zbu.cons ?_ (zbu.cons ?_ zbu.nil))))))))))))))))))))),(zeJ.cons SE (zeJ.cons SE (zeJ.cons SO (zeJ.cons SE (zeJ.cons SE (zeJ.cons SE (zeJ.cons (fun vs vs' W W' _ hv l hd h=>by(show(vs' 6)=(cutV f (a:Int).toNat (b:Int).toNat (Rp.sz (Str)))/\Rd W' [0] [(cutV f (a:Int).toNat (b:Int).toNat (Rp.sz (Str)))] P);rw[hv 6 (zaY O)];exact⟨h.1,h.2.up l (znb hd (K:=[0]) O)⟩) (zeJ.cons SO (zeJ.cons SO (zeJ.cons SE (zeJ.cons SE (zeJ.cons SE (zeJ.cons SE (zeJ.cons SE (zeJ.cons SE (zeJ.cons (fun vs vs' W W' _ hv l hd h=>by(show(vs' 15)=(cutV e (d:Int).toNat (y:Int).toNat (Rp.sz (Str)))/\Rd W' [0] [(cutV e (d:Int).toNat (y:Int).toNat (Rp.sz (Str)))] Q);rw[hv 15 (zaY O)];exact⟨h.1,h.2.up l (znb hd (K:=[0]) O)⟩) (zeJ.cons SO (zeJ.cons (fun vs vs' W W' _ hv l hd h=>by(show(vs' 17) = .agg [vI a,(vs' 7),(vs' 16)].toArray);rw[hv 7 (zaY O),hv 16 (zaY O),hv 17 (zaY O)];exact h) (zeJ.cons (fun vs vs' W W' _ hv l hd h=>by(show(vs' 18) = .slice (some (bx (pg (vs' 18)))) 1 1/\Bx W' 7 (pg (vs' 18)) [vI a,(vs' 7),(vs' 16)]);rw[hv 7 (zaY O),hv 16 (zaY O),hv 18 (zaY O)];exact⟨h.1,h.2.up l (zeg hd (c:=7) O)⟩) (zeJ.cons SO (zeJ.cons (fun vs vs' W W' _ hv l hd h=>by(show(vs' 20)=(vs' 19));rw[hv 19 (zaY O),hv 20 (zaY O)];exact h) (zeJ.cons (fun _ _ _ _ _ _ l hd h=>h.upv l (zeg hd (c:=2) O)) zeJ.nil)))))))))))))))))))))),?_⟩
       ·intro vs c6 lW hN hV
        have ei:Ow c6 2 [] [i] B:=hN 21 (zaY O)
        have av:vs 20=i:=hV 20 (zaY O)
        obtain⟨vs,rfl⟩:=zaC av
        exact Trq (R.mv (v:=i) O) O
       ·intro vs ej lW hN hV
        exact Trq (R.mv (v:=vI a) O) O
       ·intro vs ek lW hN hV
        refine Tr.mono (T.lit0 (α:=Str) 5 []) ?_
        rintro c7 _ ⟨b1,rfl,c8,c9⟩
        exact⟨b1,O,c8,(show Ow b1 5 [] [c7] ([]:List Str) from c9)⟩
       ·intro vs el lW hN hV
        exact Trq (R.mv (v:=f) O) O
       ·intro vs em lW hN hV
        exact Trq (R.mv (v:=vI a) O) O
       ·intro vs en lW hN hV
        exact Trq (R.mv (v:=vI b) O) O
       ·intro vs da lW hN hV
        have b2:=bz.t lW O
        have aw:vs 3=f:=(hN 3 (zaY O))
        obtain⟨vs,rfl⟩:=zaC aw
        have ax:vs 4=vI a:=(hN 4 (zaY O))
        obtain⟨vs,rfl⟩:=zaC ax
        have ay:vs 5=vI b:=(hN 5 (zaY O))
        obtain⟨vs,rfl⟩:=zaC ay
        have r162:=(h0.ul b2).cutV bu
        exact Trq (R.sl (h0.ul b2) bu O (.inr O) (.inr O)) (show((cutV f (a:Int).toNat (b:Int).toNat (Rp.sz (Str))):Value)=(cutV f (a:Int).toNat (b:Int).toNat (Rp.sz (Str)))/\Rd da [0] [(cutV f (a:Int).toNat (b:Int).toNat (Rp.sz (Str)))] P from⟨O,r162⟩)
       ·intro vs b3 lW hN hV
        obtain⟨db,dc⟩: ∃ v,vs 2=v:=⟨_,O⟩
        obtain⟨vs,rfl⟩:=zaC dc
        have dd:Ow b3 5 [] [db] ([]:List Str):=(hN 2 (zaY O))
        have az:vs 6=(cutV f (a:Int).toNat (b:Int).toNat (Rp.sz (Str))):=(hN 6 (zaY O)).1
        obtain⟨vs,rfl⟩:=zaC az
        have de:Rd b3 [0] [(cutV f (a:Int).toNat (b:Int).toNat (Rp.sz (Str)))] P:=(hN 6 (zaY O)).2
        refine Tr.mono (T.appP (α:=Str) dd de O O c3) ?_
        rintro df _ ⟨b4,rfl,dg,dh⟩
        exact⟨b4,O,dg,(show Ow b4 5 [] [df] H from dh)⟩
       ·intro vs eo lW hN hV
        refine Tr.mono (T.lit0 (α:=Str) 6 []) ?_
        rintro di _ ⟨b5,rfl,dj,dk⟩
        exact⟨b5,O,dj,(show Ow b5 6 [] [di] ([]:List Str) from dk)⟩
       ·intro vs ep lW hN hV
        exact Trq (R.mv (v:=e) O) O
       ·intro vs er lW hN hV
        exact Trq (R.mv (v:=vI d) O) O
       ·intro vs es lW hN hV
        exact Trq (R.mv (v:=z) O) O
       ·intro vs et lW hN hV
        exact Trq (R.mv (v:=vI b) O) O
       ·intro vs eu lW hN hV
        have a0:vs 11=z:=(hN 11 (zaY O))
        obtain⟨vs,rfl⟩:=zaC a0
        have a1:vs 12=vI b:=(hN 12 (zaY O))
        obtain⟨vs,rfl⟩:=zaC a1
        exact Trq (R.ix (α:=Int) (b0.up lW O).rd bv O O O) O
       ·intro vs ew lW hN hV
        have a3:vs 13=ptr ((slA z).add ((b).toNat*Rp.sz (Int))):=(hN 13 (zaY O))
        obtain⟨vs,rfl⟩:=zaC a3
        exact Trq (R.ld O O ((b0.up lW O).rd.at_ bv).int) O
       ·intro vs dl lW hN hV
        have b6:=bz.t lW O
        have a4:vs 9=e:=(hN 9 (zaY O))
        obtain⟨vs,rfl⟩:=zaC a4
        have a5:vs 10=vI d:=(hN 10 (zaY O))
        obtain⟨vs,rfl⟩:=zaC a5
        have a6:vs 14=vI y:=(hN 14 (zaY O))
        obtain⟨vs,rfl⟩:=zaC a6
        have r211:=(X.ul b6).cutV bw
        exact Trq (R.sl (X.ul b6) bw O (.inr O) (.inr O)) (show((cutV e (d:Int).toNat (y:Int).toNat (Rp.sz (Str))):Value)=(cutV e (d:Int).toNat (y:Int).toNat (Rp.sz (Str)))/\Rd dl [0] [(cutV e (d:Int).toNat (y:Int).toNat (Rp.sz (Str)))] Q from⟨O,r211⟩)
       ·intro vs b7 lW hN hV
        obtain⟨dm,dn⟩: ∃ v,vs 8=v:=⟨_,O⟩
        obtain⟨vs,rfl⟩:=zaC dn
        have dp:Ow b7 6 [] [dm] ([]:List Str):=(hN 8 (zaY O))
        have a7:vs 15=(cutV e (d:Int).toNat (y:Int).toNat (Rp.sz (Str))):=(hN 15 (zaY O)).1
        obtain⟨vs,rfl⟩:=zaC a7
        have dq:Rd b7 [0] [(cutV e (d:Int).toNat (y:Int).toNat (Rp.sz (Str)))] Q:=(hN 15 (zaY O)).2
        refine Tr.mono (T.appP (α:=Str) dp dq O O c4) ?_
        rintro dr _ ⟨b8,rfl,ds,dt⟩
        exact⟨b8,O,ds,(show Ow b8 6 [] [dr] I from dt)⟩
       ·intro vs b9 lW hN hV
        have a9:vs 1=vI a:=(hN 1 (zaY O))
        obtain⟨vs,rfl⟩:=zaC a9
        obtain⟨k,D⟩: ∃ v,vs 7=v:=⟨_,O⟩
        obtain⟨vs,rfl⟩:=zaC D
        have du:Ow b9 5 [] [k] H:=(hN 7 (zaY O))
        obtain⟨x,E⟩: ∃ v,vs 16=v:=⟨_,O⟩
        obtain⟨vs,rfl⟩:=zaC E
        have dv:Ow b9 6 [] [x] I:=(hN 16 (zaY O))
        exact Trq (R.bd (zs:=[vI 0, .slice none 0 0, .slice none 0 0]) (cs:=[vI a,k,x]) [(0,vI a),(1,k),(2,x)] O O O (zbc O O (zbc du.oc O (zbc dv.oc O ze4)))) O
       ·intro vs cb lW hN hV
        obtain⟨k,D⟩: ∃ v,vs 7=v:=⟨_,O⟩
        obtain⟨vs,rfl⟩:=zaC D
        have ex:Ow cb 5 [] [k] H:=(hN 7 (zaY O))
        obtain⟨x,E⟩: ∃ v,vs 16=v:=⟨_,O⟩
        obtain⟨vs,rfl⟩:=zaC E
        have ey:Ow cb 6 [] [x] I:=(hN 16 (zaY O))
        have ba:vs 17 = .agg [vI a,k,x].toArray:=(hN 17 (zaY O))
        obtain⟨vs,rfl⟩:=zaC ba
        refine Tr.mono (T.bs 7 [.agg [vI a,k,x].toArray] (cs:=[vI a,k,x]) O O (bsA O)) ?_
        rintro _ _ ⟨bb,cc,rfl,rfl,dw,dx⟩
        exact⟨cc,O,dw,(show(.slice (some (bx bb)) 1 1:Value) = .slice (some (bx bb)) 1 1/\Bx cc 7 bb [vI a,k,x] from⟨O,dx⟩)⟩
       ·intro vs ak lW hN hV
        have bc:vs 0=i:=(hN 0 (zaY O))
        obtain⟨vs,rfl⟩:=zaC bc
        obtain⟨k,D⟩: ∃ v,vs 7=v:=⟨_,O⟩
        obtain⟨vs,rfl⟩:=zaC D
        have dy:Ow ak 5 [] [k] H:=(hN 7 (zaY O))
        obtain⟨x,E⟩: ∃ v,vs 16=v:=⟨_,O⟩
        obtain⟨vs,rfl⟩:=zaC E
        have dz:Ow ak 6 [] [x] I:=(hN 16 (zaY O))
        obtain⟨F,be⟩: ∃ F,vs 18 = .slice (some (bx F)) 1 1:=⟨_,((hN 18 (zaY O))).1⟩
        obtain⟨vs,rfl⟩:=zaC be
        have d0:Bx ak 7 F [vI a,k,x]:=(hN 18 (zaY O)).2
        have d1:Ow ak 2 [] [i] B:=hN 21 (zaY O)
        refine Tr.mono (T.app1 (α:=Hunk) (J:=[5,6]) (K':=[]) d1 d0 (Hunk.own a H I dy.s dz.s) O O c5) ?_
        rintro d2 _ ⟨cd,rfl,d3,d4⟩
        exact⟨cd,O,d3,(show Ow cd 2 [] [d2] S from d4)⟩
       ·intro vs d5 lW hN hV
        obtain⟨L,bg⟩: ∃ v,vs 19=v:=⟨_,O⟩
        obtain⟨vs,rfl⟩:=zaC bg
        have ez:Ow d5 2 [] [L] S:=(hN 19 (zaY O))
        exact Trq (R.as (v:=L) O) O
       ·intro vs U d6 hN
        have bc:vs 0=i:=(hN 0 (zaY O))
        obtain⟨vs,rfl⟩:=zaC bc
        have a9:vs 1=vI a:=(hN 1 (zaY O))
        obtain⟨vs,rfl⟩:=zaC a9
        have aw:vs 3=f:=(hN 3 (zaY O))
        obtain⟨vs,rfl⟩:=zaC aw
        have ax:vs 4=vI a:=(hN 4 (zaY O))
        obtain⟨vs,rfl⟩:=zaC ax
        have ay:vs 5=vI b:=(hN 5 (zaY O))
        obtain⟨vs,rfl⟩:=zaC ay
        have az:vs 6=(cutV f (a:Int).toNat (b:Int).toNat (Rp.sz (Str))):=(hN 6 (zaY O)).1
        obtain⟨vs,rfl⟩:=zaC az
        have e0:Rd U [0] [(cutV f (a:Int).toNat (b:Int).toNat (Rp.sz (Str)))] P:=(hN 6 (zaY O)).2
        have a4:vs 9=e:=(hN 9 (zaY O))
        obtain⟨vs,rfl⟩:=zaC a4
        have a5:vs 10=vI d:=(hN 10 (zaY O))
        obtain⟨vs,rfl⟩:=zaC a5
        have a0:vs 11=z:=(hN 11 (zaY O))
        obtain⟨vs,rfl⟩:=zaC a0
        have a1:vs 12=vI b:=(hN 12 (zaY O))
        obtain⟨vs,rfl⟩:=zaC a1
        have a3:vs 13=ptr ((slA z).add ((b).toNat*Rp.sz (Int))):=(hN 13 (zaY O))
        obtain⟨vs,rfl⟩:=zaC a3
        have a6:vs 14=vI y:=(hN 14 (zaY O))
        obtain⟨vs,rfl⟩:=zaC a6
        have a7:vs 15=(cutV e (d:Int).toNat (y:Int).toNat (Rp.sz (Str))):=(hN 15 (zaY O)).1
        obtain⟨vs,rfl⟩:=zaC a7
        have e1:Rd U [0] [(cutV e (d:Int).toNat (y:Int).toNat (Rp.sz (Str)))] Q:=(hN 15 (zaY O)).2
        obtain⟨k,D⟩: ∃ v,vs 7=v:=⟨_,O⟩
        obtain⟨vs,rfl⟩:=zaC D
        obtain⟨x,E⟩: ∃ v,vs 16=v:=⟨_,O⟩
        obtain⟨vs,rfl⟩:=zaC E
        have ba:vs 17 = .agg [vI a,k,x].toArray:=(hN 17 (zaY O))
        obtain⟨vs,rfl⟩:=zaC ba
        obtain⟨F,be⟩: ∃ F,vs 18 = .slice (some (bx F)) 1 1:=⟨_,((hN 18 (zaY O))).1⟩
        obtain⟨vs,rfl⟩:=zaC be
        have e2:Bx U 7 F [vI a,k,x]:=(hN 18 (zaY O)).2
        obtain⟨L,bg⟩: ∃ v,vs 19=v:=⟨_,O⟩
        obtain⟨vs,rfl⟩:=zaC bg
        have d7:Ow U 2 [] [L] S:=(hN 19 (zaY O))
        have av:vs 20=L:=(hN 20 (zaY O))
        obtain⟨vs,rfl⟩:=zaC av
        exact(ag) ⟨S,L,U,O,((G.j au).j d6).w,O,d7,Y⟩
      ·exact sk ((ag) ⟨B,i,aj,O,G.w,O,(Z.up G),Y⟩)
     ·refine rg (mi O (mi O (Lw.gt O (mb O (bs Y (fun V Y=>?_) fun V Y=>?_)))))
      ·exact psk 6 V O (Pb V O (nl ((ag) ⟨true,A,O,Le.refl _ _,O,Y⟩)))
      ·refine wak 6 V (mv z O (mi O ?_))
       obtain⟨d8,ce,Y⟩:=ob Y
       exact Lw.r O (R.ix (α:=Int) C.rd ce O O O) (Lw.r O (R.ld O O (C.rd.at_ ce).int) (mi O (Lw.gt O (Pb V O (nl ((ag) ⟨decide (d< (d8:Int)),A,O,Le.refl _ _,O,Y⟩))))))
 ·refine Cw.exit ?_
  rw[cp]at Y
  refine sr (mv i O (Nv i O ?_))
  cases Y
  exact Cw.ret (zkN O (Res.mk bp ⟨i,O,Z.s.sub O O⟩))
theorem p218 {x0 b x1 d k0 r}(f:Rd W K [b] x0)(h:Rd W K [d] x1)(Y:Vm.zmf x0 x1=some r):Q1 218 [b,d] W [] fun W' v=> ∃ a,v=a/\Ow W' k0 [] [a] r:=
 (c218 (f.view _) (h.view _) Y).ad (fk k0) fun _ _ ⟨a,e,i⟩=>⟨a,e,i.back (ziQ _)⟩
theorem c219 {x0 I x1 d x2 J x3 C r}(h0:Rd W0 [0] [I] x0)(b:Rd W0 [0] [d] x1)(h2:Rd W0 [0] [J] x2)(D:Rd W0 [0] [C] x3)(Y:Vm.ziE x0 x1 x2 x3=some r):Q0 219 [I,d,J,C] W0 fun Wf v=>v=vS r:=by
 unfold Vm.ziE at Y
 refine zaz.of Tryz.func219 O O O O (sr (Ns O (ssr (Ni O (Cw.block ?_)))))
 obtain⟨K8,ap,Y⟩:=zbM Y
 refine Cw.loop 14 68 [8,9,10,11,12,13] (fun m l w=> ∃ E f T U V W K,CW.w K=w/\Le [] W0 K/\l=[vS E,vI f,T,U,V,W]/\Vm.ze1 x0 x1 x2 x3 K8 m E f=some r) _ ⟨([]:Str),0,undef,undef,undef,undef,W0,O,Le.refl _ _,O,Y⟩ ?_
 rintro(_ |m9) _ _ σ ⟨E,f,T,U,V,W,K,rfl,X,rfl,Y⟩
 ·cases Y
 unfold Vm.ze1 at Y
 have h:=X.o
 refine ssr (mi O (mv d O (Lw.ln x1 (b.ul h) O (Lw.lt O (nl (cn Y (fun Y=>?_) fun Y=>?_))))))
 ·refine sk (Cw.seq (Cw.block (sr (mv I O (mv d O (mi O ?_))))))
  obtain⟨a2,Z,Y⟩:=ob Y
  refine Lw.r O (R.ix (α:=File) (b.ul h) Z O O O) (Lw.fa O (Lw.r O (R.ld O O (File.at0 ((b.ul h).at_ Z)).str) (cr Y (fun _=>p216 (h0.ul h)) ?_)))
  rintro z _ aa Y ac ⟨i,rfl,aq⟩
  have a3:=aq.sub (M:=[0]) O
  have ar:=h.n ac
  refine mv (.tuple [i,vB z.2].toArray) O (Lw.r O (R.ext (vs:=[i,vB z.2]) (v:=i) O O) (Lw.r O (R.ext (vs:=[i,vB z.2]) (v:=vB z.2) O O) (Gv i O (Nb O (sr (Nb O (ssr (Ni O (Cw.block ?_)))))))))
  obtain⟨au,av,Y⟩:=zbM Y
  refine Cw.loop 30 49 [12,13] (fun m l w=> ∃ F e k,CW.w k=w/\Le [] aa k/\l=[vB F,vI e]/\Vm.zdv x1 x3 f au m F e=some r) _ ⟨true,0,aa,O,Le.refl _ _,O,Y⟩ ?_
  rintro(_ |a4) _ _ σ ⟨F,e,k,rfl,G,rfl,Y⟩
  ·cases Y
  unfold Vm.zdv at Y
  have x:=ar.n G
  refine ssr (mi O (mv C O (Lw.ln x3 (D.ul x) O (Lw.lt O (nl (cn Y (fun Y=>?_) fun Y=>?_))))))
  ·refine sk (Cw.seq (Cw.block (Cw.draw [] [(0,0),(1,0),(2,0),(3,0),(4,0),(5,0),(6,1),(7,0),(8,0),(9,0),(10,0),(11,1),(12,0),(13,0),(14,0)] mixed (by kernel_rfl) fun ae L=>?_)))
   have y:=x.n L
   refine Db O (Db O (bs Y (fun a Y=>?_) fun a Y=>?_))
   ·refine Wp a O (fun _=>R.mv (v:=C) O) (Wp a O (fun _=>R.mv (v:=vI e) O) ?_)
    obtain⟨af,N,Y⟩:=ob Y
    refine Wp a O (fun _=>R.ix (α:=Change) (D.ul y) N O O O) (Wp a O (fun _=>R.fa O) (Wq a O (fun _ c=>R.ld O O (zaB (Change.at2 ((D.ul y).at_ N)).1 O (Change.at2 ((D.ul y).at_ N)).str c)) (Wp a O (fun _=>R.mv (v:=d) O) (Wp a O (fun _=>R.mv (v:=vI f) O) ?_))))
    obtain⟨ah,P,Y⟩:=ob Y
    exact Wp a O (fun _=>R.ix (α:=File) (b.ul y) P O O O) (Wp a O (fun _=>R.fa O) (Wq a O (fun _ c=>R.ld O O (zaB (File.at0 ((b.ul y).at_ P)).1 O (File.at0 ((b.ul y).at_ P)).str c)) (Wp a O (fun _=>R.sne O O) (Mw.p O O (fun _=>R.pk a O (v:=vB (af.To !=ah.Path)) O) (Hb O (Mw.nil (rg (mi O (Lw.add O (Ni O ((agm) ⟨(af.To !=ah.Path),w64 (e+1),ae,O,(G.j L).w,O,Y⟩)))))))))))
   ·exact dps 11 a O (Mw.p O O (fun _=>R.pk a O (v:=vB false) O) (Hb O (Mw.nil (rg (mi O (Lw.add O (Ni O ((agm) ⟨false,w64 (e+1),ae,O,(G.j L).w,O,Y⟩))))))))
  ·refine Cw.exit ?_
   rw[av]at Y
   obtain⟨aw,ax,Y⟩:=zbM Y
   refine Cw.join 50 63 [63] (fun l w=> ∃ Q H,CW.w H=w/\Le [] k H/\l=[vB Q]/\aw Q=some r) ?_ ?_
   ·rintro _ _ σ ⟨Q,H,rfl,ai,rfl,Y⟩
    rw[ax]at Y
    have S:=x.n ai
    refine cn Y (fun Y=>?_) fun Y=>?_
    ·refine sr (mv d O (mi O ?_))
     obtain⟨a5,aj,Y⟩:=ob Y
     exact Lw.r O (R.ix (α:=File) (b.ul S) aj O O O) (Lw.fa O (Lw.r O (R.ld O O (File.at0 ((b.ul S).at_ aj)).str) (Ns O (.ret (rt Y S)))))
    ·exact sk (rg (mi O (Lw.add O (Ni O ((agm) ⟨E,w64 (f+1),i,vB z.2,vB F,vI e,H,O,(((X.j ac).j G).j ai).w,O,Y⟩)))))
   ·refine rg (mb O (Lw.r O (R.not O) (mb O (bs Y (fun A Y=>?_) fun A Y=>?_))))
    ·refine wak 1 A (mb O (Pb A O (mb O (bs Y (fun B Y=>?_) fun B Y=>?_))))
     ·refine wak 7 B (mv d O (mi O ?_))
      obtain⟨a6,ak,Y⟩:=ob Y
      refine Lw.r O (R.ix (α:=File) (b.ul x) ak O O O) (Lw.fa O ?_)
      obtain⟨a7,c52,r53⟩:=(File.at1 ((b.ul x).at_ ak)).cell O
      exact Lw.r O (R.ld O O c52) (mv J O (ca Y (fun _=>p217 r53 (h2.ul x)) fun ay az Y a0=>Pb B O (nl ((ag) ⟨ay,az,O,a0,O,Y⟩))))
     ·exact psk 7 B O (Pb B O (nl ((ag) ⟨false,k,O,Le.refl _ _,O,Y⟩)))
    ·exact psk 1 A O (Pb A O (mb O (psk 7 O O (Pb O O (nl ((ag) ⟨false,k,O,Le.refl _ _,O,Y⟩))))))
 ·refine Cw.exit ?_
  rw[ap]at Y
  exact sr (Ns O (.ret (rt Y h)))
theorem p219 {x0 a x1 b x2 d x3 f r}(h:Rd W K [a] x0)(i:Rd W K [b] x1)(k:Rd W K [d] x2)(x:Rd W K [f] x3)(Y:Vm.ziE x0 x1 x2 x3=some r):Q1 219 [a,b,d,f] W [] fun W' v=>v=vS r:=
 (c219 (h.view _) (i.view _) (k.view _) (x.view _) Y).ad (fk 0) fun _ _ e=>e
end Go.Sx
