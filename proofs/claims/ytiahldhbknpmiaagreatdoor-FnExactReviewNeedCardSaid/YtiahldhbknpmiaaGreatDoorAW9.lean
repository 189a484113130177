/- Walks: each function answers as its model, printed by a program of ours. Conditions: the arguments read as they are given. -/
import Derived.Test.YtiahldhbknpmiaaGreatDoorATs
import Derived.Test.YtiahldhbknpmiaaGreatDoorAM4
import Derived.Test.YtiahldhbknpmiaaGreatDoorAW2
import Derived.Test.YtiahldhbknpmiaaGreatDoorAW7
import Derived.Test.YtiahldhbknpmiaaGreatDoorAE
namespace Go.Sx
open Go Go.Proofs Go.Vm Rp
set_option linter.unusedVariables false
set_option linter.unusedSimpArgs false
variable {W W0:CW}{K:List Nat}
theorem c179 {x0 W X x1 x2 r}(h0:Rd W0 [0] [W,X] x0)(Y:Vm.zhD x0 x1 x2=some r):Q0 179 [.agg [W,X].toArray,vI x1,vI x2] W0 fun Wf v=> ∃ u0,v=u0/\OwS Wf LL [] [u0] r:=by
 unfold Vm.zhD at Y
 obtain⟨c4,c5,av,Z,aa⟩:=Repo.split h0
 simp only[List.cons.injEq,and_true,true_and]at av
 obtain⟨rfl,rfl⟩:=av
 refine zaz.of Tryz.func179 O O O O (sr (bo 2 O fun g1 W1 l1 b1=>?_))
 have a2:=l1.o
 refine Nv (.slice none 0 0) O (sr (la b1 (mi O (cr Y (fun _=>p138 (k0:=3) (Repo.rd (K:=[0]) x0.Commits x0.Heads (Z.ul a2) (aa.ul a2))) ?_))))
 rintro z5 H W7 Y l7 ⟨_,rfl,bp⟩
 have a8:=a2.n l7
 refine Nv H O (sr (la (b1.up l7) (mi O (cr Y (fun _=>p138 (k0:=4) (Repo.rd (K:=[0]) x0.Commits x0.Heads (Z.ul a8) (aa.ul a8))) ?_))))
 rintro bq ax c9 Y ai ⟨_,rfl,br⟩
 have bu:=a8.n ai
 refine Nv ax O (sr (Lw.t O (T.lit0 (α:=Int) 5 []) ?_))
 rintro ay _ ⟨az,rfl,I,bv⟩
 have bw:=bu.n I
 refine Nv ay O (ssr (Ni O (Cw.block ?_)))
 obtain⟨bz,b0,Y⟩:=zbM Y
 refine Cw.loop 22 40 [9,10] (fun m l w=> ∃ h J e B,CW.w B=w/\Le [5] az B/\l=[e,vI J]/\Ow B 5 [] [e] h/\Vm.zdU z5 bq bz m h J=some r) _ ⟨([]:List Int),0,ay,az,O,Le.refl _ _,O,bv,Y⟩ ?_
 rintro(_ |da) _ _ σ ⟨h,J,e,B,rfl,C,rfl,aj,Y⟩
 ·cases Y
 unfold Vm.zdU at Y
 have b2:=bw.t C
 have D:=((bp.up ai).up I).up C
 refine ssr (mi O (mv H O (Lw.ln z5 D.rd O (Lw.lt O (nl (cn Y (fun Y=>?_) fun Y=>?_))))))
 ·refine sk ?_
  obtain⟨b3,b4,Y⟩:=zbM Y
  refine Cw.join 28 40 [9] (fun l w=> ∃ L M E,CW.w E=w/\Le [5] B E/\l=[M]/\Ow E 5 [] [M] L/\b3 L=some r) ?_ ?_
  ·rintro _ _ σ ⟨L,M,E,rfl,b5,rfl,b6,Y⟩
   rw[b4]at Y
   exact rg (mi O (Lw.add O (Ni O ((agm) ⟨L,w64 (J+1),M,E,O,(C.j b5).w,O,b6,Y⟩))))
  ·refine Cw.block (sr (mv ax O (mv H O (mi O ?_))))
   obtain⟨db,a0,Y⟩:=ob Y
   refine Lw.r O (R.ix (α:=Int) D.rd a0 O O O) (Lw.r O (R.ld O O (D.rd.at_ a0).int) (ca Y (fun _=>p154 (K:=[4]) ((br.up I).up C).rd) fun dc b7 Y y=>nl (cn Y (fun Y=>?_) fun Y=>?_)))
   ·refine rg (mv e O (mv H O (mi O ?_)))
    obtain⟨a1,a3,Y⟩:=ob Y
    refine Lw.r O (R.ix (α:=Int) (D.up y).rd a3 O O O) (Lw.r O (R.ld O O ((D.up y).rd.at_ a3).int) (Lw.t O (T.bs 6 [vI a1] (cs:=[vI a1]) O O (bsv O)) ?_))
    rintro _ _ ⟨dd,de,rfl,rfl,a4,b8⟩
    obtain⟨b9,cb,Y⟩:=ob Y
    refine Lw.t O (T.app1S (α:=Int) (K':=[]) ((aj.up y).up a4) b8 (rdI _) O O cb) ?_
    rintro a5 _ ⟨cc,rfl,cd,ce⟩
    exact Nv a5 O ((ag) ⟨b9,a5,cc,O,((y.j a4).j cd).w,O,ce,Y⟩)
   ·exact sk ((ag) ⟨h,e,b7,O,y.w,O,(aj.up y),Y⟩)
 ·refine Cw.exit ?_
  rw[b0]at Y
  refine sr (Lw.t O (T.lit0 (α:=Int) 7 []) ?_)
  rintro a6 _ ⟨a7,rfl,ak,cf⟩
  have cg:=b2.n ak
  refine Nv a6 O (ssr (Ni O (Cw.block ?_)))
  obtain⟨ch,ci,Y⟩:=zbM Y
  refine Cw.loop 42 81 [11,12,13,14] (fun m l w=> ∃ N i k a9 ba x,CW.w x=w/\Le [7] a7 x/\l=[k,vI i,a9,ba]/\Ow x 7 [] [k] N/\Vm.zbG x0 h ch m N i=some r) _ ⟨([]:List Int),0,a6,undef,undef,a7,O,Le.refl _ _,O,cf,Y⟩ ?_
  rintro(_ |df) _ _ σ ⟨N,i,k,a9,ba,x,rfl,P,rfl,am,Y⟩
  ·cases Y
  unfold Vm.zbG at Y
  have bb:=cg.t P
  have bc:=(aj.up ak).up P
  refine ssr (mi O (mv e O (Lw.ln h bc.rd O (Lw.lt O (nl (cn Y (fun Y=>?_) fun Y=>?_))))))
  ·refine sk ?_
   obtain⟨cj,ck,Y⟩:=zbM Y
   refine Cw.join 48 81 [11,13,14] (fun l w=> ∃ Q S an ao F,CW.w F=w/\Le [7] x F/\l=[S,an,ao]/\Ow F 7 [] [S] Q/\cj Q=some r) ?_ ?_
   ·rintro _ _ σ ⟨Q,S,an,ao,F,rfl,cl,rfl,cm,Y⟩
    rw[ck]at Y
    exact rg (mi O (Lw.add O (Ni O ((agm) ⟨Q,w64 (i+1),S,an,ao,F,O,(P.j cl).w,O,cm,Y⟩))))
   ·refine Cw.block (sr (Nb O (ssr (Ni O (Cw.block ?_)))))
    obtain⟨co,cp,Y⟩:=zbM Y
    refine Cw.loop 48 73 [13,14] (fun m l w=> ∃ G d U,CW.w U=w/\Le [] x U/\l=[vB G,vI d]/\Vm.zdf x0 h i co m G d=some r) _ ⟨true,0,x,O,Le.refl _ _,O,Y⟩ ?_
    rintro(_ |dg) _ _ σ ⟨G,d,U,rfl,f,rfl,Y⟩
    ·cases Y
    unfold Vm.zdf at Y
    have cq:=bb.n f
    have V:=bc.up f
    refine ssr (mi O (mv e O (Lw.ln h V.rd O (Lw.lt O (nl (cn Y (fun Y=>?_) fun Y=>?_))))))
    ·refine sk (Cw.seq (Cw.block (Cw.draw [] [(0,0),(1,0),(2,0),(3,0),(4,0),(5,0),(6,1),(7,0),(8,0),(9,0),(10,1),(12,0),(13,0),(14,0),(15,1),(11,2),(16,3),(17,0),(18,0),(19,0),(20,0)] mixed (by kernel_rfl) fun be z=>?_)))
     have bg:=cq.n z
     have A:=V.up z
     refine Db O (Db O (bs Y (fun b Y=>?_) fun b Y=>?_))
     ·refine Wp b O (fun _=>R.mv (v:=vI d) O) (Wp b O (fun _=>R.mv (v:=vI i) O) (Wp b O (fun _=>R.eq O O) (Wp b O (fun _=>R.mv (v:=vB ((d:Int)==(i:Int))) O) (bs Y (fun a Y=>?_) fun a Y=>?_))))
      ·exact dps 12 a O (Wp b O (fun _=>R.pk a O (v:=vB true) O) (Mw.p O O (fun _=>R.pk b O (v:=vB true) O) (Hb O (Mw.nil (rg (mi O (Lw.add O (Ni O ((agm) ⟨true,w64 (d+1),be,O,(f.j z).w,O,Y⟩)))))))))
      ·refine Wq a O (fun _ c=>R.lda (cs:=[W,X]) (((((((((b1.up l7).up ai).up I).up C).up ak).up P).up f).up z).clcs O c) O O) (Wp a O (fun _=>R.mv (v:=e) O) (Wp a O (fun _=>R.mv (v:=vI d) O) ?_))
       obtain⟨dh,ap,Y⟩:=ob Y
       refine Wp a O (fun _=>R.ix (α:=Int) A.rd ap O O O) (Wq a O (fun _ c=>R.ld O O (zaB (A.rd.at_ ap).1 O (A.rd.at_ ap).int c)) (Wp a O (fun _=>R.mv (v:=e) O) (Wp a O (fun _=>R.mv (v:=vI i) O) ?_)))
       obtain⟨di,aq,Y⟩:=ob Y
       refine Wp a O (fun _=>R.ix (α:=Int) A.rd aq O O O) (Wq a O (fun _ c=>R.ld O O (zaB (A.rd.at_ aq).1 O (A.rd.at_ aq).int c)) ?_)
       obtain⟨dj,ct,Y⟩:=ob Y
       refine Wt a O (T.call O (p138 (k0:=8) (Repo.rd (K:=[0]) x0.Commits x0.Heads (Z.ul bg) (aa.ul bg)) ct)) ?_
       rintro dk _ ⟨dl,rfl,bh,⟨_,rfl,cu⟩⟩
       refine m0 bh fun dm=>?_
       obtain⟨ar,cv,Y⟩:=ob Y
       refine Mw.gl a O O O O O (T.call O (p154 (K:=[8]) cu.rd cv)) ?_
       rintro _ _ ⟨cw,rfl,cx,rfl⟩
       exact Wp a O (fun _=>R.not O) (Wp b O (fun _=>R.pk a O (v:=vB (!ar)) O) (Mw.p O O (fun _=>R.pk b O (v:=vB (!ar)) O) (Hb O (Mw.nil (rg (mi O (Lw.add O (Ni O ((agm) ⟨(!ar),w64 (d+1),cw,O,(((f.j z).j bh).j cx).w,O,Y⟩)))))))))
     ·exact dps 4 b O (dpu 12 O (dps 1 b O (Mw.p O O (fun _=>R.pk b O (v:=vB false) O) (Hb O (Mw.nil (rg (mi O (Lw.add O (Ni O ((agm) ⟨false,w64 (d+1),be,O,(f.j z).w,O,Y⟩))))))))))
    ·refine Cw.exit ?_
     rw[cp]at Y
     refine sr (mb O (nl (cn Y (fun Y=>?_) fun Y=>?_)))
     ·refine rg (mv k O (mv e O (mi O ?_)))
      obtain⟨bi,bj,Y⟩:=ob Y
      refine Lw.r O (R.ix (α:=Int) V.rd bj O O O) (Lw.r O (R.ld O O (V.rd.at_ bj).int) (Lw.t O (T.bs 9 [vI bi] (cs:=[vI bi]) O O (bsv O)) ?_))
      rintro _ _ ⟨dn,dp,rfl,rfl,bk,cy⟩
      obtain⟨cz,c0,Y⟩:=ob Y
      refine Lw.t O (T.app1S (α:=Int) (K':=[]) ((am.up f).up bk) cy (rdI _) O O c0) ?_
      rintro bl _ ⟨c1,rfl,c2,c3⟩
      exact Nv bl O ((ag) ⟨cz,bl,vB G,vI d,c1,O,((f.j bk).j c2).w,O,c3,Y⟩)
     ·exact sk ((ag) ⟨N,k,vB G,vI d,U,O,f.w,O,(am.up f),Y⟩)
  ·refine Cw.exit ?_
   rw[ci]at Y
   refine sr (mv k O (Nv k O ?_))
   cases Y
   exact Cw.ret (zkN O (Res.mk bb ⟨k,O,am.s.sub O O⟩))
theorem p179 {x0 b d x1 x2 k0 r}(f:Rd W K [b,d] x0)(Y:Vm.zhD x0 x1 x2=some r):Q1 179 [.agg [b,d].toArray,vI x1,vI x2] W [] fun W' v=> ∃ a,v=a/\Ow W' k0 [] [a] r:=
 (c179 (f.view _) Y).ad (fk k0) fun _ _ ⟨a,e,h⟩=>⟨a,e,h.back (ziQ _)⟩
theorem c124 {x0 k x x1 x2 r}(I:Rd W0 [0] [k,x] x0)(Y:Vm.zh1 x0 x1 x2=some r):Q0 124 [.agg [k,x].toArray,vI x1,vI x2] W0 fun Wf v=> ∃ y,v=y/\Rd Wf [0] [y] r:=by
 unfold Vm.zh1 at Y
 obtain⟨M,N,z,A,J⟩:=Repo.split I
 simp only[List.cons.injEq,and_true,true_and]at z
 obtain⟨rfl,rfl⟩:=z
 refine zaz.of Tryz.func124 O O O O (sr (bo 2 O fun P Q L B=>?_))
 have d:=L.o
 refine Nv (.slice none 0 0) O (sr (la B (mi O (mi O (cr Y (fun _=>p179 (k0:=3) (Repo.rd (K:=[0]) x0.Commits x0.Heads (A.ul d) (J.ul d))) ?_)))))
 rintro C a S Y D ⟨_,rfl,E⟩
 have F:=d.n D
 refine Nv a O (ssr (mv a O (Lw.ln C E.rd O (Lw.eq O (nl (cn Y (fun Y=>?_) fun Y=>?_))))))
 ·refine sr (Nv (.slice none 0 0) O ?_)
  cases Y
  exact Cw.ret (zkN O (Res.mk F ⟨.slice none 0 0,O,(rdN (K:=[0]))⟩))
 ·refine sk (Cw.seq (Cw.draw [] [(0,0),(1,1),(2,0),(3,0),(4,0),(5,0),(6,0),(7,1),(8,0),(9,0),(10,1),(11,0)] mixed (by kernel_rfl) fun T e=>?_))
  have G:=F.n e
  have b:=E.up e
  refine Dfl ((B.up D).up e) O O O (Dv a O (Dv a O (Mw.p O O (fun _=>ztT (xs:=C) b.rd O) (Mw.p O O (fun _=>R.sub O O) ?_))))
  obtain⟨U,f,Y⟩:=ob Y
  refine Mw.p O O (fun _=>R.ix (α:=Int) b.rd f O O O) (Mw.q O O (fun _ c=>R.ld O O (zaB (b.rd.at_ f).1 O (b.rd.at_ f).int c)) ?_)
  obtain⟨V,h,Y⟩:=ob Y
  have i:=A.ul G
  refine Mw.p O O (fun _=>R.ix (α:=Commit) i h O O O) (Df O ?_)
  obtain⟨H,c21,r22⟩:=(Commit.at2 (i.at_ h)).cell O
  refine Mw.q O O (fun _ c=>R.ld O O (zaB (Commit.at2 (i.at_ h)).1 O c21 c)) (Hv H O (Mw.nil ?_))
  cases Y
  exact Cw.ret (zkN O (Res.mk G ⟨H,O,r22⟩))
theorem p124 {x0 b d x1 x2 r}(f:Rd W K [b,d] x0)(Y:Vm.zh1 x0 x1 x2=some r):Q1 124 [.agg [b,d].toArray,vI x1,vI x2] W [] fun W' v=> ∃ a,v=a/\Rd W' (0::K) [a] r:=
 (c124 (f.view _) Y).ad (fk 0) fun _ _ ⟨a,e,h⟩=>⟨a,e,h.back O⟩
theorem c169 {x0 z A x1 x2 r}(h0:Rd W0 [0] [z,A] x0)(Y:Vm.zfw x0 x1 x2=some r):Q0 169 [.agg [z,A].toArray,vI x1,vI x2] W0 fun Wf v=> ∃ u0,v=u0/\OwS Wf LL [] [u0] r:=by
 unfold Vm.zfw at Y
 obtain⟨c4,c5,aj,B,M⟩:=Repo.split h0
 simp only[List.cons.injEq,and_true,true_and]at aj
 obtain⟨rfl,rfl⟩:=aj
 refine zaz.of Tryz.func169 O O O O (sr (bo 2 O fun g1 W1 l1 b1=>?_))
 have a2:=l1.o
 refine Nv (.slice none 0 0) O (Cw.seq (Cw.draw [] [(0,1),(1,0),(3,1),(4,0),(2,2),(5,3),(6,0),(7,0)] mixed (by kernel_rfl) fun W3 l3=>?_))
 have N:=a2.n l3
 have P:=b1.up l3
 refine Mw.q O O (fun _ c=>R.lda (cs:=[z,A]) (P.clcs O c) O O) (Di O (Mw.q O O (fun _ c=>R.lda (cs:=[z,A]) (P.clcs O c) O O) (Di O ?_)))
 obtain⟨z8,e9,Y⟩:=ob Y
 refine Mw.t O O (T.call O (p126 (k0:=3) (Repo.rd (K:=[0]) x0.Commits x0.Heads (B.ul N) (M.ul N)) e9)) ?_
 rintro am _ ⟨c9,rfl,l10,⟨_,rfl,bm⟩⟩
 have Q:=N.n l10
 refine m0 l10 fun da=>?_
 obtain⟨bn,bp,Y⟩:=ob Y
 refine Mw.l O O (T.call O (p126 (k0:=4) (Repo.rd (K:=[0]) x0.Commits x0.Heads (B.ul Q) (M.ul Q)) bp)) ?_
 rintro an _ ⟨db,rfl,S,⟨_,rfl,bq⟩⟩
 have ao:=Q.n S
 have ap:=(P.up l10).up S
 refine Hv am O (Hv an O (Mw.nil (sr (fl ap O (Lw.ln x0.Commits (B.ul ao) O ?_)))))
 obtain⟨U,br,Y⟩:=ob Y
 refine Lw.t O (T.mk (α:=Bool) 5 [] (n:=(x0.Commits.length:Int)) O O br) ?_
 rintro d _ ⟨aq,rfl,C,ar⟩
 have bu:=ao.n C
 refine Nv d O (ssr (mv d O (Lw.ln U ar.rd O (mi O (nl (Cw.block ?_))))))
 obtain⟨bv,bw,Y⟩:=zbM Y
 refine Cw.loop 28 44 [10,28] (fun m l w=> ∃ a V au D,CW.w D=w/\Le [5] aq D/\l=[au,vI a]/\Ow D 5 [] [d] V/\Vm.zcy z8 bn U bv m a V=some r) _ ⟨0,U,undef,aq,O,Le.refl _ _,O,ar,Y⟩ ?_
 rintro(_ |dc) _ _ σ ⟨a,V,au,D,rfl,e,rfl,f,Y⟩
 ·cases Y
 unfold Vm.zcy at Y
 have bz:=bu.t e
 have av:=((bm.up S).up C).up e
 have aw:=(bq.up C).up e
 refine sr (Lw.lt O (nl (Cw.seq (cn Y (fun Y=>?_) fun Y=>?_))))
 ·refine sk (Cw.seq (Cw.block (sr (mi O (Ni O (rg (mv d O (mi O (mv am O (mi O ?_))))))))))
  obtain⟨dd,ax,Y⟩:=ob Y
  refine Lw.r O (R.ix (α:=Bool) av.rd ax O O O) (Lw.r O (R.ld O O (av.rd.at_ ax).bool) (mb O (bs Y (fun i Y=>?_) fun i Y=>?_)))
  ·refine wak 4 i (mv an O (mi O ?_))
   obtain⟨de,ay,Y⟩:=ob Y
   refine Lw.r O (R.ix (α:=Bool) aw.rd ay O O O) (Lw.r O (R.ld O O (aw.rd.at_ ay).bool) (Pb i O ?_))
   obtain⟨df,b0,Y⟩:=ob Y
   refine Lw.r O (R.ix (α:=Bool) f.rd b0 O O O) ?_
   obtain⟨b2,b3,Y⟩:=ob Y
   refine Lw.u (T.stS (K':=[]) f (rdB _) b3 O O O) ?_
   rintro _ _ ⟨b4,rfl,b6,b7⟩
   exact nl (rg (Lw.add O (mi O (nl ((agm) ⟨w64 (a+1),b2,vI a,b4,O,(e.j b6).w,O,b7,Y⟩)))))
  ·refine psk 4 i O (Pb i O ?_)
   obtain⟨dg,b8,Y⟩:=ob Y
   refine Lw.r O (R.ix (α:=Bool) f.rd b8 O O O) ?_
   obtain⟨b9,cb,Y⟩:=ob Y
   refine Lw.u (T.stS (K':=[]) f (rdB _) cb O O O) ?_
   rintro _ _ ⟨cc,rfl,cd,ce⟩
   exact nl (rg (Lw.add O (mi O (nl ((agm) ⟨w64 (a+1),b9,vI a,cc,O,(e.j cd).w,O,ce,Y⟩)))))
 ·refine Cw.exit ?_
  rw[bw]at Y
  refine sr (mv d O (cr Y (fun _=>p200 (K:=[5]) (k0:=6) f.rd) ?_))
  rintro cf h dh Y W ⟨_,rfl,cg⟩
  have ch:=bz.n W
  refine Nv h O (ssr (mv d O (cr Y (fun _=>p134 (K:=[5]) (k0:=7) (f.up W).rd) ?_)))
  rintro az di a0 Y X ⟨_,rfl,Z⟩
  have ci:=ch.n X
  refine Lw.ln az Z.rd O (mi O (nl (Cw.block ?_)))
  obtain⟨cj,ck,Y⟩:=zbM Y
  refine Cw.loop 50 70 [13,15,50] (fun m l w=> ∃ E F a1 aa G,CW.w G=w/\Le [6] a0 G/\l=[a1,aa,vI E]/\Ow G 6 [] [h] F/\Vm.zbs x0 az cj m E F=some r) _ ⟨0,cf,undef,undef,a0,O,Le.refl _ _,O,(cg.up X),Y⟩ ?_
  rintro(_ |dj) _ _ σ ⟨E,F,a1,aa,G,rfl,k,rfl,a3,Y⟩
  ·cases Y
  unfold Vm.zbs at Y
  have ac:=ci.t k
  refine sr (Lw.lt O (nl (Cw.seq (cn Y (fun Y=>?_) fun Y=>?_))))
  ·refine sk (Cw.seq (Cw.block (sr ?_)))
   obtain⟨a5,a6,Y⟩:=ob Y
   refine Lw.r O (R.ix (α:=Int) (Z.up k).rd a6 O O O) (Lw.r O (R.ld O O ((Z.up k).rd.at_ a6).int) (Ni O (sr (la (((((ap.up C).up e).up W).up X).up k) (mi O (cr Y (fun _=>p126 (k0:=8) (Repo.rd (K:=[0]) x0.Commits x0.Heads (B.ul ac) (M.ul ac))) ?_))))))
   rintro dk dl dm Y a7 ⟨_,rfl,cl⟩
   refine cr Y (fun _=>p134 (K:=[8]) (k0:=9) cl.rd) ?_
   rintro a8 dn a9 Y ba ⟨_,rfl,ae⟩
   refine Lw.ln a8 ae.rd O (mi O (nl (Cw.block ?_)))
   obtain⟨cm,co,Y⟩:=zbM Y
   refine Cw.loop 59 69 [15,59] (fun m l w=> ∃ H x af b,CW.w b=w/\Le [6] a9 b/\l=[af,vI H]/\Ow b 6 [] [h] x/\Vm.zcW a5 a8 cm m H x=some r) _ ⟨0,F,aa,a9,O,Le.refl _ _,O,((a3.up a7).up ba),Y⟩ ?_
   rintro(_ |dp) _ _ σ ⟨H,x,af,b,rfl,I,rfl,J,Y⟩
   ·cases Y
   unfold Vm.zcW at Y
   refine sr (Lw.lt O (nl (Cw.seq (cn Y (fun Y=>?_) fun Y=>?_))))
   ·refine sk ?_
    obtain⟨cp,cq,Y⟩:=zbM Y
    refine Cw.join 61 68 [15] (fun l w=> ∃ L ah y,CW.w y=w/\Le [6] b y/\l=[ah]/\Ow y 6 [] [h] L/\cp L=some r) ?_ ?_
    ·rintro _ _ σ ⟨L,ah,y,rfl,ct,rfl,cu,Y⟩
     rw[cq]at Y
     exact rg (Lw.add O (mi O (nl ((agm) ⟨w64 (H+1),L,ah,y,O,(I.j ct).w,O,cu,Y⟩))))
    ·refine Cw.block (sr ?_)
     obtain⟨bb,bc,Y⟩:=ob Y
     refine Lw.r O (R.ix (α:=Int) (ae.up I).rd bc O O O) (Lw.r O (R.ld O O ((ae.up I).rd.at_ bc).int) (Ni O (sr (mi O (mi O (Lw.ne O (nl (cn Y (fun Y=>?_) fun Y=>?_))))))))
     ·refine rg (mv h O (mi O ?_))
      obtain⟨dq,cv,Y⟩:=ob Y
      refine Lw.r O (R.ix (α:=Bool) J.rd cv O O O) ?_
      obtain⟨cw,cx,Y⟩:=ob Y
      refine Lw.u (T.stS (K':=[]) J (rdB _) cx O O O) ?_
      rintro _ _ ⟨cy,rfl,cz,c0⟩
      exact nl ((ag) ⟨cw,vI bb,cy,O,cz,O,c0,Y⟩)
     ·exact sk ((ag) ⟨x,vI bb,b,O,Le.refl _ _,O,J,Y⟩)
   ·refine Cw.exit ?_
    rw[co]at Y
    exact rg (Lw.add O (mi O (nl ((agm) ⟨w64 (E+1),x,vI a5,af,b,O,(((k.j a7).j ba).j I).w,O,J,Y⟩))))
  ·refine Cw.exit ?_
   rw[ck]at Y
   refine sr (mv h O (cr Y (fun _=>p134 (K:=[6]) (k0:=10) a3.rd) ?_))
   rintro dr be ds Y c1 ⟨_,rfl,c2⟩
   have c3:=ac.n c1
   refine Nv be O ?_
   cases Y
   exact Cw.ret (zkN O (Res.mk c3 ⟨be,O,c2.s.sub O O⟩))
theorem p169 {x0 b d x1 x2 k0 r}(f:Rd W K [b,d] x0)(Y:Vm.zfw x0 x1 x2=some r):Q1 169 [.agg [b,d].toArray,vI x1,vI x2] W [] fun W' v=> ∃ a,v=a/\Ow W' k0 [] [a] r:=
 (c169 (f.view _) Y).ad (fk k0) fun _ _ ⟨a,e,h⟩=>⟨a,e,h.back (ziQ _)⟩
theorem c104 {x0 d e x1 x2 r}(H:Rd W0 [0] [d,e] x0)(Y:Vm.zcX x0 x1 x2=some r):Q0 104 [.agg [d,e].toArray,vI x1,vI x2] W0 fun Wf v=> ∃ x,v=x/\Rd Wf [0] [x] r:=by
 unfold Vm.zcX at Y
 obtain⟨S,U,y,z,A⟩:=Repo.split H
 simp only[List.cons.injEq,and_true,true_and]at y
 obtain⟨rfl,rfl⟩:=y
 refine zaz.of Tryz.func104 O O O O (sr (bo 2 O fun V W I B=>?_))
 have f:=I.o
 refine Nv (.slice none 0 0) O (sr (la B (mi O (mi O (cr Y (fun _=>p169 (k0:=3) (Repo.rd (K:=[0]) x0.Commits x0.Heads (z.ul f) (A.ul f))) ?_)))))
 rintro C a X Y D ⟨_,rfl,E⟩
 have F:=f.n D
 refine Nv a O (ssr (mv a O (Lw.ln C E.rd O (Lw.eq O (nl (cn Y (fun Y=>?_) fun Y=>?_))))))
 ·refine sr (Nv (.slice none 0 0) O ?_)
  cases Y
  exact Cw.ret (zkN O (Res.mk F ⟨.slice none 0 0,O,(rdN (K:=[0]))⟩))
 ·refine sk (Cw.seq (Cw.draw [] [(0,1),(1,0),(2,0),(3,0),(4,0),(5,0),(6,1),(7,3),(8,0)] mixed (by kernel_rfl) fun Z h=>?_))
  have i:=F.n h
  have b:=E.up h
  refine Mw.q O O (fun _ c=>R.lda (cs:=[d,e]) (((B.up D).up h).clcs O c) O O) (Dv a O (Dv a O (Mw.p O O (fun _=>ztT (xs:=C) b.rd O) (Mw.p O O (fun _=>R.sub O O) ?_))))
  obtain⟨aa,k,Y⟩:=ob Y
  refine Mw.p O O (fun _=>R.ix (α:=Int) b.rd k O O O) (Mw.q O O (fun _ c=>R.ld O O (zaB (b.rd.at_ k).1 O (b.rd.at_ k).int c)) ?_)
  obtain⟨ac,J,Y⟩:=ob Y
  refine Mw.l O O (T.call O (p105 (Repo.rd (K:=[0]) x0.Commits x0.Heads (z.ul i) (A.ul i)) J)) ?_
  rintro G _ ⟨ae,rfl,L,⟨_,rfl,N⟩⟩
  have P:=N.sub (M:=[0]) O
  have Q:=i.n L
  refine Hv G O (Mw.nil ?_)
  cases Y
  exact Cw.ret (zkN O (Res.mk Q ⟨G,O,P⟩))
theorem p104 {x0 b d x1 x2 r}(f:Rd W K [b,d] x0)(Y:Vm.zcX x0 x1 x2=some r):Q1 104 [.agg [b,d].toArray,vI x1,vI x2] W [] fun W' v=> ∃ a,v=a/\Rd W' (0::K) [a] r:=
 (c104 (f.view _) Y).ad (fk 0) fun _ _ ⟨a,e,h⟩=>⟨a,e,h.back O⟩
end Go.Sx
