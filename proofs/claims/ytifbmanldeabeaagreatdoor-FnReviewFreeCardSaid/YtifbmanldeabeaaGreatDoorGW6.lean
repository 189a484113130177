/- Walks: each function answers as its model, printed by a program of ours. Conditions: the arguments read as they are given. -/
import Derived.Test.YtifbmanldeabeaaGreatDoorGTs
import Derived.Test.YtifbmanldeabeaaGreatDoorGM1
import Derived.Test.YtifbmanldeabeaaGreatDoorGW3
import Derived.Test.YtifbmanldeabeaaGreatDoorGW5
import Derived.Test.YtifbmanldeabeaaGreatDoorGE
namespace Go.Sx
open Go Go.Proofs Go.Vm Rp
set_option linter.unusedVariables false
set_option linter.unusedSimpArgs false
variable {W W0:CW}{K:List Nat}
theorem c98 {x0 H I x1 r}(h0:Rd W0 [0] [H,I] x0)(Y:Vm.za0 x0 x1=some r):Q0 98 [.agg [H,I].toArray,vI x1] W0 fun Wf v=> ∃ J,v=J/\OwS Wf LL [] [J] r:=by
 unfold Vm.za0 at Y
 obtain⟨a3,a4,K,A,a5⟩:=Repo.split h0
 simp only[List.cons.injEq,and_true,true_and]at K
 obtain⟨rfl,rfl⟩:=K
 refine zao.of Tryz.func98 O O O O (sr (bo 2 O fun g1 W1 l1 L=>?_))
 have M:=l1.o
 refine Nv (.slice none 0 0) O (sr (fl L O (Lw.ln x0.Commits (A.ul M) O ?_)))
 obtain⟨q4,e5,Y⟩:=ob Y
 refine Lw.t O (T.mk (α:=Bool) 3 [] (n:=(x0.Commits.length:Int)) O O e5) ?_
 rintro a _ ⟨W6,rfl,N,P⟩
 have a7:=M.n N
 refine Nv a O (sr (mv a O (mi O ?_)))
 obtain⟨u9,ai,Y⟩:=ob Y
 refine Lw.r O (R.ix (α:=Bool) P.rd ai O O O) ?_
 obtain⟨aj,ak,Y⟩:=ob Y
 refine Lw.u (T.stS (K':=[]) P (rdB _) ak O O O) ?_
 rintro _ _ ⟨Q,rfl,S,am⟩
 have an:=a7.t S
 refine nl (ssr (mi O (Ni O (Cw.block ?_))))
 obtain⟨ao,ap,Y⟩:=zaY Y
 refine Cw.loop 17 39 [6,8] (fun m l w=> ∃ i d k b,CW.w b=w/\Le [3] Q b/\l=[vI i,k]/\Ow b 3 [] [a] d/\Vm.zaS x0 ao m i d=some r) _ ⟨x1,aj,undef,Q,O,Le.refl _ _,O,am,Y⟩ ?_
 rintro(_ |bc) _ _ σ ⟨i,d,k,b,rfl,B,rfl,e,Y⟩
 ·cases Y
 unfold Vm.zaS at Y
 have C:=an.t B
 refine ssr (mi O (Lw.ge O (nl (cn Y (fun Y=>?_) fun Y=>?_))))
 ·refine sk ?_
  obtain⟨U,aq,Y⟩:=zaY Y
  refine Cw.join 21 39 [8] (fun l w=> ∃ x D f,CW.w f=w/\Le [3] b f/\l=[D]/\Ow f 3 [] [a] x/\U x=some r) ?_ ?_
  ·rintro _ _ σ ⟨x,D,f,rfl,ar,rfl,au,Y⟩
   rw[aq]at Y
   exact rg (mi O (Lw.sub O (Ni O ((agm) ⟨w64 (i-1),x,D,f,O,(B.j ar).w,O,au,Y⟩))))
  ·refine Cw.block (sr (mv a O (mi O ?_)))
   obtain⟨be,V,Y⟩:=ob Y
   refine Lw.r O (R.ix (α:=Bool) e.rd V O O O) (Lw.r O (R.ld O O (e.rd.at_ V).bool) (nl (cn Y (fun Y=>?_) fun Y=>?_)))
   ·refine sr (fl (((L.up N).up S).up B) O (mi O ?_))
    obtain⟨W,X,Y⟩:=ob Y
    refine Lw.r O (R.ix (α:=Commit) (A.ul C) X O O O) (Lw.fa O ?_)
    obtain⟨bg,c40,r41⟩:=(Commit.at0 ((A.ul C).at_ X)).cell O
    refine Lw.r O (R.ld O O c40) (Lw.ln W.Parents r41 O (mi O (nl (Cw.block (Cw.loop 32 39 [8,32] (fun m l w=> ∃ y z E h,CW.w h=w/\Le [3] b h/\l=[E,vI y]/\Ow h 3 [] [a] z/\Vm.zbf U W m y z=some r) _ ⟨0,d,k,b,O,Le.refl _ _,O,e,Y⟩ ?_)))))
    rintro(_ |bh) _ _ σ ⟨y,z,E,h,rfl,F,rfl,G,Y⟩
    ·cases Y
    unfold Vm.zbf at Y
    have Z:=F.s
    refine sr (Lw.lt O (nl (Cw.seq (cn Y (fun Y=>?_) fun Y=>?_))))
    ·refine sk (Cw.seq (Cw.block (sr ?_)))
     obtain⟨av,aa,Y⟩:=ob Y
     refine Lw.r O (R.ix (α:=Int) (r41.ul Z) aa O O O) (Lw.r O (R.ld O O ((r41.ul Z).at_ aa).int) (Ni O (rg (mv a O (mi O ?_)))))
     obtain⟨bi,aw,Y⟩:=ob Y
     refine Lw.r O (R.ix (α:=Bool) G.rd aw O O O) ?_
     obtain⟨ax,ay,Y⟩:=ob Y
     refine Lw.u (T.stS (K':=[]) G (rdB _) ay O O O) ?_
     rintro _ _ ⟨az,rfl,a0,a1⟩
     exact nl (rg (Lw.add O (mi O (nl ((agm) ⟨w64 (y+1),ax,vI av,az,O,(F.j a0).w,O,a1,Y⟩)))))
    ·exact Cw.exit ((ag) ⟨z,E,h,O,F,O,G,Y⟩)
   ·exact sk ((ag) ⟨d,k,b,O,Le.refl _ _,O,e,Y⟩)
 ·refine Cw.exit ?_
  rw[ap]at Y
  refine sr (mv a O (Nv a O ?_))
  cases Y
  exact Cw.ret (zik O (Res.mk C ⟨a,O,e.s.sub O O⟩))
theorem p98 {x0 b d x1 k0 r}(f:Rd W K [b,d] x0)(Y:Vm.za0 x0 x1=some r):Q1 98 [.agg [b,d].toArray,vI x1] W [] fun W' v=> ∃ a,v=a/\Ow W' k0 [] [a] r:=
 (c98 (f.view _) Y).ad (fk k0) fun _ _ ⟨a,e,h⟩=>⟨a,e,h.back (zgv _)⟩
theorem c162 {x0 k r}(x:Rd W0 [0] [k] x0)(Y:Vm.zcd x0=some r):Q0 162 [k] W0 fun Wf v=> ∃ C,v=C/\OwS Wf LL [] [C] r:=by
 unfold Vm.zcd at Y
 refine zao.of Tryz.func162 O O O O (sr (Nv (.slice none 0 0) O (sr (Nv (.slice none 0 0) O (ssr (mv k O (Lw.ln x0 x O (mi O (nl (Cw.block ?_))))))))))
 obtain⟨K,L,Y⟩:=zaY Y
 refine Cw.loop 8 18 [3,4,5,8] (fun m l w=> ∃ f a b D E d,CW.w d=w/\Le [2] W0 d/\l=[b,D,E,vI a]/\Ow d 2 [] [b] f/\Vm.zdS x0 K m f a=some r) _ ⟨([]:List Int),0, .slice none 0 0,undef,undef,W0,O,Le.refl _ _,O,owN 2 [],Y⟩ ?_
 rintro(_ |m9) _ _ σ ⟨f,a,b,D,E,d,rfl,F,rfl,y,Y⟩
 ·cases Y
 unfold Vm.zdS at Y
 have z:=F.s
 refine sr (Lw.lt O (nl (Cw.seq (cn Y (fun Y=>?_) fun Y=>?_))))
 ·refine sk ?_
  obtain⟨M,N,Y⟩:=zaY Y
  refine Cw.join 10 17 [3,4,5] (fun l w=> ∃ h i A B e,CW.w e=w/\Le [2] d e/\l=[i,A,B]/\Ow e 2 [] [i] h/\M h=some r) ?_ ?_
  ·rintro _ _ σ ⟨h,i,A,B,e,rfl,P,rfl,Q,Y⟩
   rw[N]at Y
   exact rg (Lw.add O (mi O (nl ((agm) ⟨h,w64 (a+1),i,A,B,e,O,(F.j P).w,O,Q,Y⟩))))
  ·refine Cw.block (sr (mi O ?_))
   obtain⟨G,H,Y⟩:=ob Y
   refine Lw.r O (R.ix (α:=Bool) (x.ul z) H O O O) (Lw.r O (R.ld O O ((x.ul z).at_ H).bool) (Gi O (Nb O (sr (mb O (nl (cn Y (fun Y=>?_) fun Y=>?_)))))))
   ·refine rg (mv b O (mi O (Lw.t O (T.bs 3 [vI a] (cs:=[vI a]) O O (bsv O)) ?_)))
    rintro _ _ ⟨ac,ae,rfl,rfl,I,S⟩
    obtain⟨U,V,Y⟩:=ob Y
    refine Lw.t O (T.app1S (α:=Int) (K':=[]) (y.up I) S (rdI _) O O V) ?_
    rintro J _ ⟨W,rfl,X,Z⟩
    exact Nv J O ((ag) ⟨U,J,vI a,vB G,W,O,(I.j X).w,O,Z,Y⟩)
   ·exact sk ((ag) ⟨f,b,vI a,vB G,d,O,Le.refl _ _,O,y,Y⟩)
 ·refine Cw.exit ?_
  rw[L]at Y
  refine sr (mv b O (Nv b O ?_))
  cases Y
  exact Cw.ret (zik O (Res.mk z ⟨b,O,y.s.sub O O⟩))
theorem p162 {x0 b k0 r}(d:Rd W K [b] x0)(Y:Vm.zcd x0=some r):Q1 162 [b] W [] fun W' v=> ∃ a,v=a/\Ow W' k0 [] [a] r:=
 (c162 (d.view _) Y).ad (fk k0) fun _ _ ⟨a,e,f⟩=>⟨a,e,f.back (zgv _)⟩
theorem c126 {x0 z A x1 x2 r}(h0:Rd W0 [0] [z,A] x0)(Y:Vm.zeZ x0 x1 x2=some r):Q0 126 [.agg [z,A].toArray,vI x1,vI x2] W0 fun Wf v=> ∃ u0,v=u0/\OwS Wf LL [] [u0] r:=by
 unfold Vm.zeZ at Y
 obtain⟨c4,c5,aj,B,M⟩:=Repo.split h0
 simp only[List.cons.injEq,and_true,true_and]at aj
 obtain⟨rfl,rfl⟩:=aj
 refine zao.of Tryz.func126 O O O O (sr (bo 2 O fun g1 W1 l1 b1=>?_))
 have a2:=l1.o
 refine Nv (.slice none 0 0) O (Cw.seq (Cw.draw [] [(0,1),(1,0),(3,1),(4,0),(2,2),(5,3),(6,0),(7,0)] mixed (by kernel_rfl) fun W3 l3=>?_))
 have N:=a2.n l3
 have P:=b1.up l3
 refine Mw.q O O (fun _ c=>R.lda (cs:=[z,A]) (P.clcs O c) O O) (Di O (Mw.q O O (fun _ c=>R.lda (cs:=[z,A]) (P.clcs O c) O O) (Di O ?_)))
 obtain⟨z8,e9,Y⟩:=ob Y
 refine Mw.t O O (T.call O (p98 (k0:=3) (Repo.rd (K:=[0]) x0.Commits x0.Heads (B.ul N) (M.ul N)) e9)) ?_
 rintro am _ ⟨c9,rfl,l10,⟨_,rfl,bm⟩⟩
 have Q:=N.n l10
 refine m0 l10 fun da=>?_
 obtain⟨bn,bp,Y⟩:=ob Y
 refine Mw.l O O (T.call O (p98 (k0:=4) (Repo.rd (K:=[0]) x0.Commits x0.Heads (B.ul Q) (M.ul Q)) bp)) ?_
 rintro an _ ⟨db,rfl,S,⟨_,rfl,bq⟩⟩
 have ao:=Q.n S
 have ap:=(P.up l10).up S
 refine Hv am O (Hv an O (Mw.nil (sr (fl ap O (Lw.ln x0.Commits (B.ul ao) O ?_)))))
 obtain⟨U,br,Y⟩:=ob Y
 refine Lw.t O (T.mk (α:=Bool) 5 [] (n:=(x0.Commits.length:Int)) O O br) ?_
 rintro d _ ⟨aq,rfl,C,ar⟩
 have bu:=ao.n C
 refine Nv d O (ssr (mv d O (Lw.ln U ar.rd O (mi O (nl (Cw.block ?_))))))
 obtain⟨bv,bw,Y⟩:=zaY Y
 refine Cw.loop 28 44 [10,28] (fun m l w=> ∃ a V au D,CW.w D=w/\Le [5] aq D/\l=[au,vI a]/\Ow D 5 [] [d] V/\Vm.zbE z8 bn U bv m a V=some r) _ ⟨0,U,undef,aq,O,Le.refl _ _,O,ar,Y⟩ ?_
 rintro(_ |dc) _ _ σ ⟨a,V,au,D,rfl,e,rfl,f,Y⟩
 ·cases Y
 unfold Vm.zbE at Y
 have bz:=bu.t e
 have av:=((bm.up S).up C).up e
 have aw:=(bq.up C).up e
 refine sr (Lw.lt O (nl (Cw.seq (cn Y (fun Y=>?_) fun Y=>?_))))
 ·refine sk (Cw.seq (Cw.block (sr (mi O (Ni O (rg (mv d O (mi O (mv am O (mi O ?_))))))))))
  obtain⟨dd,ax,Y⟩:=ob Y
  refine Lw.r O (R.ix (α:=Bool) av.rd ax O O O) (Lw.r O (R.ld O O (av.rd.at_ ax).bool) (mb O (bs Y (fun i Y=>?_) fun i Y=>?_)))
  ·refine wak 4 i (mv an O (mi O ?_))
   obtain⟨de,ay,Y⟩:=ob Y
   refine Lw.r O (R.ix (α:=Bool) aw.rd ay O O O) (Lw.r O (R.ld O O (aw.rd.at_ ay).bool) (Pb i O ?_))
   obtain⟨df,b0,Y⟩:=ob Y
   refine Lw.r O (R.ix (α:=Bool) f.rd b0 O O O) ?_
   obtain⟨b2,b3,Y⟩:=ob Y
   refine Lw.u (T.stS (K':=[]) f (rdB _) b3 O O O) ?_
   rintro _ _ ⟨b4,rfl,b6,b7⟩
   exact nl (rg (Lw.add O (mi O (nl ((agm) ⟨w64 (a+1),b2,vI a,b4,O,(e.j b6).w,O,b7,Y⟩)))))
  ·refine psk 4 i O (Pb i O ?_)
   obtain⟨dg,b8,Y⟩:=ob Y
   refine Lw.r O (R.ix (α:=Bool) f.rd b8 O O O) ?_
   obtain⟨b9,cb,Y⟩:=ob Y
   refine Lw.u (T.stS (K':=[]) f (rdB _) cb O O O) ?_
   rintro _ _ ⟨cc,rfl,cd,ce⟩
   exact nl (rg (Lw.add O (mi O (nl ((agm) ⟨w64 (a+1),b9,vI a,cc,O,(e.j cd).w,O,ce,Y⟩)))))
 ·refine Cw.exit ?_
  rw[bw]at Y
  refine sr (mv d O (cr Y (fun _=>p161 (K:=[5]) (k0:=6) f.rd) ?_))
  rintro cf h dh Y W ⟨_,rfl,cg⟩
  have ch:=bz.n W
  refine Nv h O (ssr (mv d O (cr Y (fun _=>p162 (K:=[5]) (k0:=7) (f.up W).rd) ?_)))
  rintro az di a0 Y X ⟨_,rfl,Z⟩
  have ci:=ch.n X
  refine Lw.ln az Z.rd O (mi O (nl (Cw.block ?_)))
  obtain⟨cj,ck,Y⟩:=zaY Y
  refine Cw.loop 50 70 [13,15,50] (fun m l w=> ∃ E F a1 aa G,CW.w G=w/\Le [6] a0 G/\l=[a1,aa,vI E]/\Ow G 6 [] [h] F/\Vm.za3 x0 az cj m E F=some r) _ ⟨0,cf,undef,undef,a0,O,Le.refl _ _,O,(cg.up X),Y⟩ ?_
  rintro(_ |dj) _ _ σ ⟨E,F,a1,aa,G,rfl,k,rfl,a3,Y⟩
  ·cases Y
  unfold Vm.za3 at Y
  have ac:=ci.t k
  refine sr (Lw.lt O (nl (Cw.seq (cn Y (fun Y=>?_) fun Y=>?_))))
  ·refine sk (Cw.seq (Cw.block (sr ?_)))
   obtain⟨a5,a6,Y⟩:=ob Y
   refine Lw.r O (R.ix (α:=Int) (Z.up k).rd a6 O O O) (Lw.r O (R.ld O O ((Z.up k).rd.at_ a6).int) (Ni O (sr (la (((((ap.up C).up e).up W).up X).up k) (mi O (cr Y (fun _=>p98 (k0:=8) (Repo.rd (K:=[0]) x0.Commits x0.Heads (B.ul ac) (M.ul ac))) ?_))))))
   rintro dk dl dm Y a7 ⟨_,rfl,cl⟩
   refine cr Y (fun _=>p162 (K:=[8]) (k0:=9) cl.rd) ?_
   rintro a8 dn a9 Y ba ⟨_,rfl,ae⟩
   refine Lw.ln a8 ae.rd O (mi O (nl (Cw.block ?_)))
   obtain⟨cm,co,Y⟩:=zaY Y
   refine Cw.loop 59 69 [15,59] (fun m l w=> ∃ H x af b,CW.w b=w/\Le [6] a9 b/\l=[af,vI H]/\Ow b 6 [] [h] x/\Vm.zbT a5 a8 cm m H x=some r) _ ⟨0,F,aa,a9,O,Le.refl _ _,O,((a3.up a7).up ba),Y⟩ ?_
   rintro(_ |dp) _ _ σ ⟨H,x,af,b,rfl,I,rfl,J,Y⟩
   ·cases Y
   unfold Vm.zbT at Y
   refine sr (Lw.lt O (nl (Cw.seq (cn Y (fun Y=>?_) fun Y=>?_))))
   ·refine sk ?_
    obtain⟨cp,cq,Y⟩:=zaY Y
    refine Cw.join 61 68 [15] (fun l w=> ∃ L ah y,CW.w y=w/\Le [6] b y/\l=[ah]/\Ow y 6 [] [h] L/\cp L=some r) ?_ ?_
    ·rintro _ _ σ ⟨L,ah,y,rfl,ct,rfl,cu,Y⟩
     rw[cq]at Y
     exact rg (Lw.add O (mi O (nl ((agm) ⟨w64 (H+1),L,ah,y,O,(I.j ct).w,O,cu,Y⟩))))
    ·refine Cw.block (sr ?_)
     obtain⟨bb,bc,Y⟩:=ob Y
     refine Lw.r O (R.ix (α:=Int) (ae.up I).rd bc O O O) (Lw.r O (R.ld O O ((ae.up I).rd.at_ bc).int) (Ni O (sr (mi O (mi O (Lw.ne O (nl (cn Y (fun Y=>?_) fun Y=>?_))))))))
     ·refine rg (mv h O (mi O ?_))
      obtain⟨dq,cv,Y⟩:=ob Y
      refine Lw.r O (R.ix (α:=Bool) J.rd cv O O O) ?_
      obtain⟨cw,cx,Y⟩:=ob Y
      refine Lw.u (T.stS (K':=[]) J (rdB _) cx O O O) ?_
      rintro _ _ ⟨cy,rfl,cz,c0⟩
      exact nl ((ag) ⟨cw,vI bb,cy,O,cz,O,c0,Y⟩)
     ·exact sk ((ag) ⟨x,vI bb,b,O,Le.refl _ _,O,J,Y⟩)
   ·refine Cw.exit ?_
    rw[co]at Y
    exact rg (Lw.add O (mi O (nl ((agm) ⟨w64 (E+1),x,vI a5,af,b,O,(((k.j a7).j ba).j I).w,O,J,Y⟩))))
  ·refine Cw.exit ?_
   rw[ck]at Y
   refine sr (mv h O (cr Y (fun _=>p162 (K:=[6]) (k0:=10) a3.rd) ?_))
   rintro dr be ds Y c1 ⟨_,rfl,c2⟩
   have c3:=ac.n c1
   refine Nv be O ?_
   cases Y
   exact Cw.ret (zik O (Res.mk c3 ⟨be,O,c2.s.sub O O⟩))
theorem p126 {x0 b d x1 x2 k0 r}(f:Rd W K [b,d] x0)(Y:Vm.zeZ x0 x1 x2=some r):Q1 126 [.agg [b,d].toArray,vI x1,vI x2] W [] fun W' v=> ∃ a,v=a/\Ow W' k0 [] [a] r:=
 (c126 (f.view _) Y).ad (fk k0) fun _ _ ⟨a,e,h⟩=>⟨a,e,h.back (zgv _)⟩
theorem c70 {x0 d e x1 x2 r}(H:Rd W0 [0] [d,e] x0)(Y:Vm.zbU x0 x1 x2=some r):Q0 70 [.agg [d,e].toArray,vI x1,vI x2] W0 fun Wf v=> ∃ x,v=x/\Rd Wf [0] [x] r:=by
 unfold Vm.zbU at Y
 obtain⟨S,U,y,z,A⟩:=Repo.split H
 simp only[List.cons.injEq,and_true,true_and]at y
 obtain⟨rfl,rfl⟩:=y
 refine zao.of Tryz.func70 O O O O (sr (bo 2 O fun V W I B=>?_))
 have f:=I.o
 refine Nv (.slice none 0 0) O (sr (la B (mi O (mi O (cr Y (fun _=>p126 (k0:=3) (Repo.rd (K:=[0]) x0.Commits x0.Heads (z.ul f) (A.ul f))) ?_)))))
 rintro C a X Y D ⟨_,rfl,E⟩
 have F:=f.n D
 refine Nv a O (ssr (mv a O (Lw.ln C E.rd O (Lw.eq O (nl (cn Y (fun Y=>?_) fun Y=>?_))))))
 ·refine sr (Nv (.slice none 0 0) O ?_)
  cases Y
  exact Cw.ret (zik O (Res.mk F ⟨.slice none 0 0,O,(rdN (K:=[0]))⟩))
 ·refine sk (Cw.seq (Cw.draw [] [(0,1),(1,0),(2,0),(3,0),(4,0),(5,0),(6,1),(7,3),(8,0)] mixed (by kernel_rfl) fun Z h=>?_))
  have i:=F.n h
  have b:=E.up h
  refine Mw.q O O (fun _ c=>R.lda (cs:=[d,e]) (((B.up D).up h).clcs O c) O O) (Dv a O (Dv a O (Mw.p O O (fun _=>zuo (xs:=C) b.rd O) (Mw.p O O (fun _=>R.sub O O) ?_))))
  obtain⟨aa,k,Y⟩:=ob Y
  refine Mw.p O O (fun _=>R.ix (α:=Int) b.rd k O O O) (Mw.q O O (fun _ c=>R.ld O O (zaq (b.rd.at_ k).1 O (b.rd.at_ k).int c)) ?_)
  obtain⟨ac,J,Y⟩:=ob Y
  refine Mw.l O O (T.call O (p71 (Repo.rd (K:=[0]) x0.Commits x0.Heads (z.ul i) (A.ul i)) J)) ?_
  rintro G _ ⟨ae,rfl,L,⟨_,rfl,N⟩⟩
  have P:=N.sub (M:=[0]) O
  have Q:=i.n L
  refine Hv G O (Mw.nil ?_)
  cases Y
  exact Cw.ret (zik O (Res.mk Q ⟨G,O,P⟩))
theorem p70 {x0 b d x1 x2 r}(f:Rd W K [b,d] x0)(Y:Vm.zbU x0 x1 x2=some r):Q1 70 [.agg [b,d].toArray,vI x1,vI x2] W [] fun W' v=> ∃ a,v=a/\Rd W' (0::K) [a] r:=
 (c70 (f.view _) Y).ad (fk 0) fun _ _ ⟨a,e,h⟩=>⟨a,e,h.back O⟩
theorem c123 {x0 b x1 f r}(d:Rd W0 [0] [b] x0)(h:Rd W0 [0] [f] x1)(Y:Vm.zaK x0 x1=some r):Q0 123 [b,f] W0 fun Wf v=>v=vB r:=by
 unfold Vm.zaK at Y
 refine zao.of Tryz.func123 O O O O (sr (Nb O (ssr (mv b O (Lw.ln x0 d O (mv f O (Lw.ln x1 h O (Lw.ne O (nl (cn Y (fun Y=>?_) fun Y=>?_))))))))))
 ·exact sr (Nb O (.ret (rt Y (Le.refl _ _))))
 ·refine sk (ssr (mv b O (Lw.ln x0 d O (mi O (nl (Cw.block ?_))))))
  obtain⟨C,D,Y⟩:=zaY Y
  refine Cw.loop 13 25 [4,5,13] (fun m l w=> ∃ i e z k,CW.w k=w/\Le [] W0 k/\l=[vB i,z,vI e]/\Vm.zaM x0 x1 C m i e=some r) _ ⟨false,0,undef,W0,O,Le.refl _ _,O,Y⟩ ?_
  rintro(_ |F) _ _ σ ⟨i,e,z,k,rfl,A,rfl,Y⟩
  ·cases Y
  unfold Vm.zaM at Y
  have B:=A.o
  refine sr (Lw.lt O (nl (Cw.seq (cn Y (fun Y=>?_) fun Y=>?_))))
  ·refine sk (Cw.seq (Cw.block (sr (mi O (Ni O (Cw.seq (Cw.draw [] [(0,0),(1,0),(2,0),(3,1),(4,0),(5,0),(6,0),(7,1),(8,0)] mixed (by kernel_rfl) fun E l10=>?_)))))))
   have a:=B.n l10
   refine Dv b O (Di O ?_)
   obtain⟨G,x,Y⟩:=ob Y
   refine Mw.p O O (fun _=>R.ix (α:=Str) (d.ul a) x O O O) (Mw.q O O (fun _ c=>R.ld O O (zaq ((d.ul a).at_ x).1 O ((d.ul a).at_ x).str c)) (Dv f O (Di O ?_)))
   obtain⟨H,y,Y⟩:=ob Y
   refine Mw.p O O (fun _=>R.ix (α:=Str) (h.ul a) y O O O) (Mw.q O O (fun _ c=>R.ld O O (zaq ((h.ul a).at_ y).1 O ((h.ul a).at_ y).str c)) (Mw.p O O (fun _=>R.sne O O) (Mw.nil (cn Y (fun Y=>?_) fun Y=>?_))))
   ·exact sr (Nb O (.ret (rt Y a)))
   ·exact sk (rg (Lw.add O (mi O (nl ((agm) ⟨i,w64 (e+1),vI e,E,O,(A.j l10).w,O,Y⟩)))))
  ·refine Cw.exit ?_
   rw[D]at Y
   exact sr (Nb O (.ret (rt Y B)))
theorem p123 {x0 a x1 b r}(d:Rd W K [a] x0)(f:Rd W K [b] x1)(Y:Vm.zaK x0 x1=some r):Q1 123 [a,b] W [] fun W' v=>v=vB r:=
 (c123 (d.view _) (f.view _) Y).ad (fk 0) fun _ _ e=>e
theorem c124 {x0 A x1 f r}(V:Rd W0 [0] [A] x0)(B:Rd W0 [0] [f] x1)(Y:Vm.zk3 x0 x1=some r):Q0 124 [A,f] W0 fun Wf v=> ∃ u0,v=u0/\OwS Wf LL [] [u0] r:=by
 unfold Vm.zk3 at Y
 refine zao.of Tryz.func124 O O O O (sr (Nv (.slice none 0 0) O (sr (mv A O (mv f O (cr Y (fun _=>p118 (k0:=2) V B) ?_))))))
 rintro z1 b3 W3 Y l3 ⟨_,rfl,az⟩
 have a4:=l3.o
 refine mv f O (Lw.ln x1 (B.ul a4) O (Lw.t O (T.bs 3 [vI (x1.length:Int)] (cs:=[vI (x1.length:Int)]) O O (bsv O)) ?_))
 rintro _ _ ⟨g6,W6,rfl,rfl,l6,b6⟩
 have a7:=a4.n l6
 obtain⟨q9,a2,Y⟩:=ob Y
 refine Lw.t O (T.app1S (α:=Int) (K':=[]) (az.up l6) b6 (rdI _) O O a2) ?_
 rintro ak _ ⟨am,rfl,a3,W⟩
 have a5:=a7.t a3
 refine Nv ak O (sr (Nv (.slice none 0 0) O (sr (Gi O (Ni O (ssr (mv ak O (Lw.ln q9 W.rd O (mi O (nl (Cw.block ?_)))))))))))
 obtain⟨a6,a8,Y⟩:=zaY Y
 refine Cw.loop 20 54 [6,7,8,9,10,20] (fun m l w=> ∃ h b i e d an ao a,CW.w a=w/\Le [4,5,6] am a/\l=[d,vI b,vI i,an,ao,vI e]/\Ow a 4 [] [d] h/\Vm.zfk x0 x1 q9 a6 m h b i e=some r) _ ⟨([]:List Hunk),0,0,0, .slice none 0 0,undef,undef,am,O,Le.refl _ _,O,owN 4 [],Y⟩ ?_
 rintro(_ |b8) _ _ σ ⟨h,b,i,e,d,an,ao,a,rfl,C,rfl,D,Y⟩
 ·cases Y
 unfold Vm.zfk at Y
 have ap:=a5.t C
 refine sr (Lw.lt O (nl (Cw.seq (cn Y (fun Y=>?_) fun Y=>?_))))
 ·refine sk ?_
  obtain⟨a9,ba,Y⟩:=zaY Y
  refine Cw.join 22 53 [6,7,8,9,10] (fun l w=> ∃ E F G H X Z k,CW.w k=w/\Le [4,5,6] a k/\l=[H,vI F,vI G,X,Z]/\Ow k 4 [] [H] E/\a9 E F G=some r) ?_ ?_
  ·rintro _ _ σ ⟨E,F,G,H,X,Z,k,rfl,bb,rfl,bc,Y⟩
   rw[ba]at Y
   exact rg (Lw.add O (mi O (nl ((agm) ⟨E,F,G,w64 (e+1),H,X,Z,k,O,(C.j bb).w,O,bc,Y⟩))))
  ·refine Cw.block (sr (mi O ?_))
   obtain⟨I,aq,Y⟩:=ob Y
   refine Lw.r O (R.ix (α:=Int) (W.up C).rd aq O O O) (Lw.r O (R.ld O O ((W.up C).rd.at_ aq).int) (Gi O (Ni O (ssr (mi O (Lw.lt O (nl (cn Y (fun Y=>?_) fun Y=>?_))))))))
   ·exact Cw.exit ((ag) ⟨h,b,i,d,vI e,vI I,a,O,Le.refl _ _,O,D,Y⟩)
   ·refine sk ?_
    obtain⟨be,bg,Y⟩:=zaY Y
    refine Cw.join 27 49 [6] (fun l w=> ∃ K L x,CW.w x=w/\Le [4,5,6] a x/\l=[L]/\Ow x 4 [] [L] K/\be K=some r) ?_ ?_
    ·rintro _ _ σ ⟨K,L,x,rfl,bh,rfl,bi,Y⟩
     rw[bg]at Y
     exact rg (mi O (Lw.add O (mi O (Lw.add O (Gi O (Ni O ((ag) ⟨K,w64 (e+1),w64 (I+1),L,vI e,vI I,x,O,bh,O,bi,Y⟩)))))))
    ·obtain⟨bj,bk,Y⟩:=zaY Y
     refine Cw.join 27 34 [34] (fun l w=> ∃ aa M,CW.w M=w/\Le [] a M/\l=[vB aa]/\bj aa=some r) ?_ ?_
     ·rintro _ _ σ ⟨aa,M,rfl,y,rfl,Y⟩
      rw[bk]at Y
      have bl:=ap.n y
      refine cn Y (fun Y=>?_) fun Y=>?_
      ·refine Cw.draw [] [(0,0),(1,0),(2,0),(3,0),(4,0),(5,0),(7,0),(8,0),(9,0),(10,0),(6,3),(11,3),(12,0),(13,3),(14,3),(15,0)] mixed (by kernel_rfl) fun b9 ac=>?_
       have N:=bl.n ac
       refine Dv d O (Di O (Dv A O (Di O (Di O ?_))))
       obtain⟨cb,ar,Y⟩:=ob Y
       have r69:=(V.ul N).cutV ar
       refine Mw.p O O (fun _=>R.sl (V.ul N) ar O (.inr O) (.inr O)) (Dv f O (Di O (Di O ?_)))
       obtain⟨cc,au,Y⟩:=ob Y
       have r74:=(B.ul N).cutV au
       refine Mw.p O O (fun _=>R.sl (B.ul N) au O (.inr O) (.inr O)) ?_
       obtain⟨bm,bn,Y⟩:=ob Y
       refine Mw.l O O (T.call O (p125 (k0:=5) r69 bn)) ?_
       rintro P _ ⟨cd,rfl,ae,⟨_,rfl,av⟩⟩
       have bp:=ae.o
       obtain⟨bq,br,Y⟩:=ob Y
       refine Mw.l O O (T.call O (p125 (k0:=6) (r74.ul bp) br)) ?_
       rintro Q _ ⟨ce,rfl,S,⟨_,rfl,aw⟩⟩
       refine Mw.p O O (fun _=>R.bd (zs:=[vI 0, .slice none 0 0, .slice none 0 0]) (cs:=[vI b,P,Q]) [(0,vI b),(1,P),(2,Q)] O O O (zaA O O (zaA (av.up S).oc O (zaA aw.oc O zc8)))) (Mw.l O O (T.bs 7 [.agg [vI b,P,Q].toArray] (cs:=[vI b,P,Q]) O O (bsA O)) ?_)
       rintro _ _ ⟨cf,cg,rfl,rfl,U,bu⟩
       obtain⟨bv,bw,Y⟩:=ob Y
       refine Mw.l O O (T.app1 (α:=Hunk) (J:=[5,6]) (K':=[]) (((((D.up y).up ac).up ae).up S).up U) bu (Hunk.own b bm bq ((av.up S).up U).s (aw.up U).s) O O bw) ?_
       rintro ax _ ⟨bz,rfl,b0,b1⟩
       exact Hv ax O (Mw.nil ((ag) ⟨bv,ax,bz,O,(((((y.j ac).j ae).j S).j U).j b0).w,O,b1,Y⟩))
      ·exact sk ((ag) ⟨h,d,M,O,y.w,O,(D.up y),Y⟩)
     ·refine rg (mi O (mi O (Lw.gt O (mb O (bs Y (fun z Y=>?_) fun z Y=>?_)))))
      ·exact psk 3 z O (Pb z O (nl ((ag) ⟨true,a,O,Le.refl _ _,O,Y⟩)))
      ·exact wak 3 z (mi O (mi O (Lw.gt O (Pb z O (nl ((ag) ⟨decide (i< (I:Int)),a,O,Le.refl _ _,O,Y⟩))))))
 ·refine Cw.exit ?_
  rw[a8]at Y
  refine sr (mv d O (Nv d O ?_))
  cases Y
  exact Cw.ret (zik O (Res.mk ap ⟨d,O,D.s.sub O O⟩))
theorem p124 {x0 b x1 d k0 r}(f:Rd W K [b] x0)(h:Rd W K [d] x1)(Y:Vm.zk3 x0 x1=some r):Q1 124 [b,d] W [] fun W' v=> ∃ a,v=a/\Ow W' k0 [] [a] r:=
 (c124 (f.view _) (h.view _) Y).ad (fk k0) fun _ _ ⟨a,e,i⟩=>⟨a,e,i.back (zgv _)⟩
theorem c128 {x0 b x1 r}(h:Rd W0 [0] [b] x0)(Y:Vm.zbz x0 x1=some r):Q0 128 [b,vS x1] W0 fun Wf v=>v=vI r:=by
 unfold Vm.zbz at Y
 refine zao.of Tryz.func128 O O O O (sr (Ni O (ssr (mv b O (Lw.ln x0 h O (mi O (nl (Cw.block ?_))))))))
 obtain⟨y,z,Y⟩:=zaY Y
 refine Cw.loop 8 18 [4,5,8] (fun m l w=> ∃ d a i e,CW.w e=w/\Le [] W0 e/\l=[vI d,i,vI a]/\Vm.zaz x0 x1 y m d a=some r) _ ⟨0,0,undef,W0,O,Le.refl _ _,O,Y⟩ ?_
 rintro(_ |A) _ _ σ ⟨d,a,i,e,rfl,k,rfl,Y⟩
 ·cases Y
 unfold Vm.zaz at Y
 have f:=k.o
 refine sr (Lw.lt O (nl (Cw.seq (cn Y (fun Y=>?_) fun Y=>?_))))
 ·refine sk (Cw.seq (Cw.block (sr (mi O (Ni O (sr (ms O (mv b O (mi O ?_)))))))))
  obtain⟨B,x,Y⟩:=ob Y
  refine Lw.r O (R.ix (α:=Str) (h.ul f) x O O O) (Lw.r O (R.ld O O ((h.ul f).at_ x).str) (Lw.seq O (nl (cn Y (fun Y=>?_) fun Y=>?_))))
  ·exact sr (mi O (Ni O (.ret (rt Y f))))
  ·exact sk (rg (Lw.add O (mi O (nl ((agm) ⟨d,w64 (a+1),vI a,e,O,k,O,Y⟩)))))
 ·refine Cw.exit ?_
  rw[z]at Y
  exact sr (Ni O (.ret (rt Y f)))
theorem p128 {x0 a x1 r}(b:Rd W K [a] x0)(Y:Vm.zbz x0 x1=some r):Q1 128 [a,vS x1] W [] fun W' v=>v=vI r:=
 (c128 (b.view _) Y).ad (fk 0) fun _ _ e=>e
theorem c73 {x0 a x1 r}(b:Rd W0 [0] [a] x0)(Y:Vm.zaP x0 x1=some r):Q0 73 [a,vS x1] W0 fun Wf v=>v=vB r:=by
 unfold Vm.zaP at Y
 refine zao.of Tryz.func73 O O O O (sr (Nb O (sr (mv a O (ms O (ca Y (fun _=>p128 b) fun f h Y d=>?_))))))
 have e:=d.o
 exact Lw.ge O (Nb O (.ret (rt Y e)))
theorem p73 {x0 a x1 r}(b:Rd W K [a] x0)(Y:Vm.zaP x0 x1=some r):Q1 73 [a,vS x1] W [] fun W' v=>v=vB r:=
 (c73 (b.view _) Y).ad (fk 0) fun _ _ e=>e
theorem c69 {x0 ac x1 ae r}(h0:Rd W0 [0] [ac] x0)(G:Rd W0 [0] [ae] x1)(d6:Gl 0 W0 [0])(Y:Vm.zft x0 x1=some r):Q0 69 [ac,ae] W0 fun Wf v=> ∃ u0,v=u0/\OwS Wf LL [] [u0] r:=by
 unfold Vm.zft at Y
 refine zao.of Tryz.func69 O O O O (sr (Nv (.slice none 0 0) O (Cw.seq ?_)))
 obtain⟨K3,fq,Y⟩:=zaY Y
 refine Cw.join 20 27 [27] (fun l w=> ∃ y1 W2,CW.w W2=w/\Le [] W0 W2/\l=[vB y1]/\K3 y1=some r) ?_ ?_
 ·rintro _ _ σ ⟨y1,W2,rfl,l2,rfl,Y⟩
  rw[fq]at Y
  have a4:=l2.o
  refine cn Y (fun Y=>?_) fun Y=>?_
  ·refine sr (Nv (.slice none 0 0) O ?_)
   cases Y
   exact Cw.ret (zik O (Res.mk a4 ⟨.slice none 0 0,O,(zp0 []).sub O O⟩))
  ·refine sk (sr (Nv (.slice none 0 0) O (sr (Nv (.slice none 0 0) O (ssr (mv ac O (Lw.ln x0 (h0.ul a4) O (mi O (nl (Cw.block ?_))))))))))
   obtain⟨fs,ft,Y⟩:=zaY Y
   refine Cw.loop 30 111 [5,6,8,9,10,11,13,14,15,30] (fun m l w=> ∃ y7 H b2 I L d8 d9 ea b3 aw ax ay x,CW.w x=w/\Le [2,3,4,6,8,9,10,12,13] W2 x/\l=[I,L,d8,d9,ea,b3,aw,ax,ay,vI b2]/\Ow x 2 [] [I] y7/\Ow x 3 [] [L] H/\Vm.zcm x0 x1 fs m y7 H b2=some r) _ ⟨([]:List Change),([]:List Str),0, .slice none 0 0, .slice none 0 0,undef,undef,undef,undef,undef,undef,undef,W2,O,Le.refl _ _,O,owN 2 [],owN 3 [],Y⟩ ?_
   rintro(_ |im) _ _ σ ⟨y7,H,b2,I,L,d8,d9,ea,b3,aw,ax,ay,x,rfl,eb,rfl,o9,ed,Y⟩
   ·cases Y
   unfold Vm.zcm at Y
   have y:=a4.t eb
   refine sr (Lw.lt O (nl (Cw.seq (cn Y (fun Y=>?_) fun Y=>?_))))
   ·refine sk ?_
    obtain⟨fu,fv,Y⟩:=zaY Y
    refine Cw.join 32 110 [5,6,8,9,10,11,13,14,15] (fun l w=> ∃ b4 b5 b6 b7 cz c0 c1 c2 c3 c4 c5 ah,CW.w ah=w/\Le [2,3,4,6,8,9,10,12,13] x ah/\l=[b6,b7,cz,c0,c1,c2,c3,c4,c5]/\Ow ah 2 [] [b6] b4/\Ow ah 3 [] [b7] b5/\fu b4 b5=some r) ?_ ?_
    ·rintro _ _ σ ⟨b4,b5,b6,b7,cz,c0,c1,c2,c3,c4,c5,ah,rfl,fw,rfl,fx,fy,Y⟩
     rw[fv]at Y
     exact rg (Lw.add O (mi O (nl ((agm) ⟨b4,b5,w64 (b2+1),b6,b7,cz,c0,c1,c2,c3,c4,c5,ah,O,(eb.j fw).w,O,fx,fy,Y⟩))))
    ·refine Cw.block (sr ?_)
     obtain⟨a,ee,Y⟩:=ob Y
     refine Lw.r O (R.ix (α:=File) (h0.ul y) ee O O O) ?_
     obtain⟨x45,c46,_,r47⟩:=((h0.ul y).at_ ee).cells
     obtain⟨b8,rfl,r49⟩:=File.split r47
     refine Lw.r O (R.lda c46 O O) (al 4 [vS ([]:Str), .slice none 0 0] fun k io ai fz=>?_)
     have z:=ai.o
     refine sta fz (zaa O (zaa r49.oc zaG)) fun ip aj c6=>?_
     have A:=aj.s
     refine nl (sr (mv ae O (fl c6 O (cr Y (fun _=>p116 (k0:=5) (G.ul ((y.trans z).trans A))) ?_))))
     rintro N _ ef Y B ⟨f,rfl,eg⟩
     have P:=B.o
     refine mv (.tuple [f,vB N.2].toArray) O (Lw.r O (R.ext (vs:=[f,vB N.2]) (v:=f) O O) (Lw.r O (R.ext (vs:=[f,vB N.2]) (v:=vB N.2) O O) (Gv f O (Nb O (Cw.block ?_)))))
     obtain⟨f0,f1,Y⟩:=zaY Y
     refine Cw.join 91 98 [91] (fun l w=> ∃ c7 b9,CW.w b9=w/\Le [] ef b9/\l=[vB c7]/\f0 c7=some r) ?_ ?_
     ·rintro _ _ σ ⟨c7,b9,rfl,C,rfl,Y⟩
      rw[f1]at Y
      have ak:=C.o
      have c8:=(((o9.up ai).up aj).up B).up C
      have c9:=(((ed.up ai).up aj).up B).up C
      have da:=(c6.up B).up C
      refine cn Y (fun Y=>?_) fun Y=>?_
      ·exact sk ((ag) ⟨y7,H,I,L,ptr (bx k),f,vB N.2,b3,aw,ax,ay,b9,O,(((ai.j aj).j B).j C).w,O,c8,c9,Y⟩)
      ·refine sr (mb O (Nb O (cn Y (fun Y=>?_) fun Y=>?_)))
       ·refine Cw.draw [2,6] [(0,0),(1,0),(2,1),(3,0),(4,1),(5,0),(6,2),(7,0),(8,2),(9,2),(10,0)] mixed (by kernel_rfl) fun iq Q=>?_
        have f2:=(((z.trans A).trans P).trans ak).n Q
        refine Dv I O (Dfl (da.up Q) O O O (Dfl (da.up Q) O O O (Dv f O (Dc Y (Le.refl _ _) (fun _=>p124 (K:=[0,5]) (k0:=6) ((r49.ul f2).sub (M:=[0,5]) O) (((eg.up C).up Q).rd.sub (M:=[0,5]) O)) O ?_))))
        rintro f3 cb ir Y db ⟨_,rfl,eh⟩ f4
        refine Mw.p O O (fun _=>R.bd (zs:=[vI 0,vS ([]:Str),vS ([]:Str), .slice none 0 0, .slice none 0 0]) (cs:=[vI 3,vS a.Path,vS ([]:Str), .slice none 0 0,cb]) [(0,vI 3),(1,vS a.Path),(4,cb)] O O O (zaA O O (zaA O O (zaA eh.oc O zc8)))) (Mw.t O O (T.bs 7 [.agg [vI 3,vS a.Path,vS ([]:Str), .slice none 0 0,cb].toArray] (cs:=[vI 3,vS a.Path,vS ([]:Str), .slice none 0 0,cb]) O O (bsA O)) ?_)
        rintro _ _ ⟨it,iu,rfl,rfl,az,f5⟩
        refine mc f4 az fun f6=>?_
        obtain⟨f7,f8,Y⟩:=ob Y
        refine Mw.t O O (T.app1 (α:=Change) (J:=[6]) (K':=[]) (((c8.up Q).up db).up az) f5 (Change.own 3 a.Path ([]:Str) ([]:List Str) f3 (zp0 []) (eh.up az).s) O O f8) ?_
        rintro ei _ ⟨f9,rfl,dc,ga⟩
        exact mc f6 dc fun iv=>Hv ei O (Mw.nil ((ag) ⟨f7,H,ei,L,ptr (bx k),f,vB N.2,b3,aw,ax,ay,f9,O,(((((((ai.j aj).j B).j C).j Q).j db).j az).j dc).w,O,ga,((((c9.up Q).up db).up az).up dc),Y⟩))
       ·refine Cw.seq ?_
        obtain⟨am,gb,Y⟩:=ob Y
        refine Cw.par [[],[0],[],[2],[2,3],[0,1,2,3,4],[],[0,1,2,3,4,5,6]] [[],[0],[],[2],[3],[1,4],[],[4,5,6]] [[],[],[],[],[],[],[],[9]] [[0],[1],[2],[3],[4],[4,5],[6],[4,6]] [[],[],[],[],[8],[],[9],[9]] [0,1,2,3,4,5,7] [9] [fun vs W=>(vs 0)=ptr ((bx k).add 0),fun vs W=>(vs 1)=vS a.Path,fun vs W=>(vs 2)=ptr ((bx k).add 1),fun vs W=>(vs 3)=b8,fun vs W=>Ow W 8 [] [(vs 4)] am,fun vs W=>(vs 5) = .agg [vI 2,vS a.Path,vS ([]:Str),(vs 4), .slice none 0 0].toArray,fun vs W=>(vs 6)=ptr (bx (pg (vs 6)))/\Bx W 9 (pg (vs 6)) [vI 0,vS ([]:Str),vS ([]:Str), .slice none 0 0, .slice none 0 0],fun vs W=>(vs 6)=ptr (bx (pg (vs 6)))/\Bx W 9 (pg (vs 6)) [vI 2,vS a.Path,vS ([]:Str),(vs 4), .slice none 0 0]] [] mixed (by kernel_rfl) O zsd.nil ?_
        intro iw a0
        have a1:=a0.o
        have dd:=da.up a0
        refine⟨(zaV.cons ?_ (zaV.cons ?_ (zaV.cons ?_ (zaV.cons ?_ (zaV.cons ?_ (zaV.cons ?_ (zaV.cons ?_ (zaV.cons ?_ zaV.nil)))))))),(zdz.cons SE (zdz.cons SE (zdz.cons SE (zdz.cons SE (zdz.cons SO (zdz.cons (fun vs vs' W W' _ hv l hd h=>by(show(vs' 5) = .agg [vI 2,vS a.Path,vS ([]:Str),(vs' 4), .slice none 0 0].toArray);rw[hv 4 (zaC O),hv 5 (zaC O)];exact h) (zdz.cons (fun vs vs' W W' _ hv l hd h=>by(show(vs' 6)=ptr (bx (pg (vs' 6)))/\Bx W' 9 (pg (vs' 6)) [vI 0,vS ([]:Str),vS ([]:Str), .slice none 0 0, .slice none 0 0]);rw[hv 6 (zaC O)];exact⟨h.1,h.2.up l (zcn hd (c:=9) O)⟩) (zdz.cons (fun vs vs' W W' _ hv l hd h=>by(show(vs' 6)=ptr (bx (pg (vs' 6)))/\Bx W' 9 (pg (vs' 6)) [vI 2,vS a.Path,vS ([]:Str),(vs' 4), .slice none 0 0]);rw[hv 4 (zaC O),hv 6 (zaC O)];exact⟨h.1,h.2.up l (zcn hd (c:=9) O)⟩) zdz.nil)))))))),?_⟩
        ·intro vs iy lW hN hV
         exact Trq (R.fa O) O
        ·intro vs iz lW hN hV
         have de:vs 0=ptr ((bx k).add 0):=(hN 0 (zaC O))
         obtain⟨vs,rfl⟩:=zat de
         exact Trq (R.ld (v:=vS a.Path) O O ((dd.up lW O).cell O)) O
        ·intro vs i0 lW hN hV
         exact Trq (R.fa O) O
        ·intro vs i1 lW hN hV
         have df:vs 2=ptr ((bx k).add 1):=(hN 2 (zaC O))
         obtain⟨vs,rfl⟩:=zat df
         exact Trq (R.ld (v:=b8) O O ((dd.up lW O).cell O)) O
        ·intro vs i2 lW hN hV
         have gc:=((((z.trans A).trans P).trans ak).trans a1).t lW O
         have dg:vs 3=b8:=(hN 3 (zaC O))
         obtain⟨vs,rfl⟩:=zat dg
         refine Tr.mono (T.call O (p125 (k0:=8) (r49.ul gc) gb)) ?_
         rintro gd _ ⟨ej,rfl,gf,⟨_,rfl,gg⟩⟩
         exact⟨ej,O,gf,(show Ow ej 8 [] [gd] am from gg)⟩
        ·intro vs gh lW hN hV
         have dh:vs 1=vS a.Path:=(hN 1 (zaC O))
         obtain⟨vs,rfl⟩:=zat dh
         obtain⟨b,a2⟩: ∃ v,vs 4=v:=⟨_,O⟩
         obtain⟨vs,rfl⟩:=zat a2
         have gj:Ow gh 8 [] [b] am:=(hN 4 (zaC O))
         exact Trq (R.bd (zs:=[vI 0,vS ([]:Str),vS ([]:Str), .slice none 0 0, .slice none 0 0]) (cs:=[vI 2,vS a.Path,vS ([]:Str),b, .slice none 0 0]) [(0,vI 2),(1,vS a.Path),(3,b)] O O O (zaA O O (zaA O O (zaA gj.oc O zc8)))) O
        ·intro vs i3 lW hN hV
         refine Tr.mono (T.alloc 9 (cs:=[vI 0,vS ([]:Str),vS ([]:Str), .slice none 0 0, .slice none 0 0]) O) ?_
         rintro _ _ ⟨di,ek,rfl,rfl,gk,gm⟩
         exact⟨ek,O,gk,(show(ptr (bx di):Value)=ptr (bx di)/\Bx ek 9 di [vI 0,vS ([]:Str),vS ([]:Str), .slice none 0 0, .slice none 0 0] from⟨O,gm⟩)⟩
        ·intro vs el lW hN hV
         obtain⟨b,a2⟩: ∃ v,vs 4=v:=⟨_,O⟩
         obtain⟨vs,rfl⟩:=zat a2
         have gn:Ow el 8 [] [b] am:=(hN 4 (zaC O))
         have dj:vs 5 = .agg [vI 2,vS a.Path,vS ([]:Str),b, .slice none 0 0].toArray:=(hN 5 (zaC O))
         obtain⟨vs,rfl⟩:=zat dj
         obtain⟨d,dk⟩: ∃ d,vs 6=ptr (bx d):=⟨_,((hN 6 (zaC O))).1⟩
         obtain⟨vs,rfl⟩:=zat dk
         have go:Bx el 9 d [vI 0,vS ([]:Str),vS ([]:Str), .slice none 0 0, .slice none 0 0]:=(hN 6 (zaC O)).2
         refine Tr.mono (T.sta (vs:=[vI 2,vS a.Path,vS ([]:Str),b, .slice none 0 0]) go O O (zaa O (zaa O (zaa O (zaa gn.oc (zaa O zaG))))) O O) ?_
         rintro _ _ ⟨em,rfl,gr,gs⟩
         exact⟨em,O,gr,(show(ptr (bx d))=ptr (bx d)/\Bx em 9 d [vI 2,vS a.Path,vS ([]:Str),b, .slice none 0 0] from⟨O,gs⟩)⟩
        ·intro vs a3 a5 hN
         have cc:=a5.s
         have de:vs 0=ptr ((bx k).add 0):=(hN 0 (zaC O))
         obtain⟨vs,rfl⟩:=zat de
         have dh:vs 1=vS a.Path:=(hN 1 (zaC O))
         obtain⟨vs,rfl⟩:=zat dh
         have df:vs 2=ptr ((bx k).add 1):=(hN 2 (zaC O))
         obtain⟨vs,rfl⟩:=zat df
         have dg:vs 3=b8:=(hN 3 (zaC O))
         obtain⟨vs,rfl⟩:=zat dg
         obtain⟨b,a2⟩: ∃ v,vs 4=v:=⟨_,O⟩
         obtain⟨vs,rfl⟩:=zat a2
         have gu:Ow a3 8 [] [b] am:=(hN 4 (zaC O))
         have dj:vs 5 = .agg [vI 2,vS a.Path,vS ([]:Str),b, .slice none 0 0].toArray:=(hN 5 (zaC O))
         obtain⟨vs,rfl⟩:=zat dj
         obtain⟨d,dk⟩: ∃ d,vs 6=ptr (bx d):=⟨_,(hN 7 (zaC O)).1⟩
         obtain⟨vs,rfl⟩:=zat dk
         have gv:Bx a3 9 d [vI 2,vS a.Path,vS ([]:Str),b, .slice none 0 0]:=(hN 7 (zaC O)).2
         obtain⟨en,gw,Y⟩:=zaY Y
         refine Cw.join 47 86 [6,13,14,15] (fun l w=> ∃ cd an ao ap ce cf cg dl dm dn a6 a7 S,CW.w S=w/\Le [3,9,12,13] a3 S/\l=[cg,dl,dm,dn]/\Ow S 3 [] [cg] cd/\Ow S 8 [] [a6] ce/\Ow S 10 [] [a7] cf/\Bx S 9 d [vI an,vS ao,vS ap,a6,a7]/\en cd an ao ap ce cf=some r) ?_ ?_
         ·rintro _ _ σ ⟨cd,an,ao,ap,ce,cf,cg,dl,dm,dn,a6,a7,S,rfl,eo,rfl,gx,gy,gz,g0,Y⟩
          rw[gw]at Y
          refine rg (mv I O (la g0 (Lw.t O (T.bs 11 [.agg [vI an,vS ao,vS ap,a6,a7].toArray] (cs:=[vI an,vS ao,vS ap,a6,a7]) O O (bsA O)) ?_)))
          rintro _ _ ⟨i4,i5,rfl,rfl,a8,g1⟩
          obtain⟨g2,g3,Y⟩:=ob Y
          refine Lw.t O (T.app1 (α:=Change) (J:=[8,10]) (K':=[]) ((((c8.up a0).up a5).up eo).up a8) g1 (Change.own an ao ap ce cf (gy.up a8).s (gz.up a8).s) O O g3) ?_
          rintro ep _ ⟨g4,rfl,er,g5⟩
          exact Nv ep O ((ag) ⟨g2,cd,ep,cg,ptr (bx k),f,vB N.2,ptr (bx d),dl,dm,dn,g4,O,((((((((ai.j aj).j B).j C).j a0).j a5).j eo).j a8).j er).w,O,g5,((gx.up a8).up er),Y⟩)
         ·refine sr (mv ae O (Lw.ln x1 (G.ul ((((((y.trans z).trans A).trans P).trans ak).trans a1).trans cc)) O (mi O (nl (Cw.block (Cw.loop 49 86 [6,13,14,15,49] (fun m l w=> ∃ a9 ch ba bb bc be bg U dp dq dr bh bi V,CW.w V=w/\Le [3,9,13] a3 V/\l=[U,dp,dq,dr,vI ch]/\Ow V 3 [] [U] a9/\Ow V 8 [] [bh] be/\Ow V 12 [] [bi] bg/\Bx V 9 d [vI ba,vS bb,vS bc,bh,bi]/\Vm.zcl x0 x1 a en m a9 ch ba bb bc be bg=some r) _ ⟨H,0,2,a.Path,([]:Str),am,([]:List Hunk),L,aw,ax,ay,b, .slice none 0 0,a3,O,Le.refl _ _,O,((c9.up a0).up a5),gu,owN 12 [],gv,Y⟩ ?_))))))
          rintro(_ |i6) _ _ σ ⟨a9,ch,ba,bb,bc,be,bg,U,dp,dq,dr,bh,bi,V,rfl,bj,rfl,es,et,eu,ew,Y⟩
          ·cases Y
          unfold Vm.zcl at Y
          have ds:=bj.s
          refine sr (Lw.lt O (nl (Cw.seq (cn Y (fun Y=>?_) fun Y=>?_))))
          ·refine sk (Cw.seq (Cw.block (sr ?_)))
           obtain⟨bk,ex,Y⟩:=ob Y
           have ey:=G.ul (((((((y.trans z).trans A).trans P).trans ak).trans a1).trans cc).trans ds)
           refine Lw.r O (R.ix (α:=File) ey ex O O O) ?_
           obtain⟨x289,c290,_,r291⟩:=(ey.at_ ex).cells
           obtain⟨i7,rfl,r293⟩:=File.split r291
           refine Lw.r O (R.lda c290 O O) (al 13 [vS ([]:Str), .slice none 0 0] fun ez i8 D g6=>?_)
           have dt:=D.o
           refine sta g6 (zaa O (zaa r293.oc zaG)) fun i9 E bl=>?_
           have du:=E.s
           refine nl (sr (mv ac O (fl bl O (cr Y (fun _=>p116 (k0:=14) (h0.ul (((((((((y.trans z).trans A).trans P).trans ak).trans a1).trans cc).trans ds).trans dt).trans du))) ?_))))
           rintro aq _ e0 Y e ⟨X,rfl,ja⟩
           have e1:=e.o
           have dv:=((es.up D).up E).up e
           have e2:=((((dd.up a5).up bj).up D).up E).up e
           refine mv (.tuple [X,vB aq.2].toArray) O (Lw.r O (R.ext (vs:=[X,vB aq.2]) (v:=X) O O) (Lw.r O (R.ext (vs:=[X,vB aq.2]) (v:=vB aq.2) O O) (Gv X O (Nb O ?_))))
           obtain⟨g7,g8,Y⟩:=zaY Y
           refine Cw.join 60 75 [75] (fun l w=> ∃ dw ci,CW.w ci=w/\Le [] e0 ci/\l=[vB dw]/\g7 dw=some r) ?_ ?_
           ·rintro _ _ σ ⟨dw,ci,rfl,i,rfl,Y⟩
            rw[g8]at Y
            have e3:=(((ew.up D).up E).up e).up i
            refine cn Y (fun Y=>?_) fun Y=>?_
            ·refine sr (fl (e2.up i) O (fl ((bl.up e).up i) O (Lw.r O (R.bd (zs:=[vI 0,vS ([]:Str),vS ([]:Str), .slice none 0 0, .slice none 0 0]) (cs:=[vI 4,vS a.Path,vS bk.Path, .slice none 0 0, .slice none 0 0]) [(0,vI 4),(1,vS a.Path),(2,vS bk.Path)] O O O (zaA O O (zaA O O (zaA O O zc8)))) (sta e3 (zaa O (zaa O (zaa O (zaa O (zaa O zaG))))) fun jb dx g9=>nl (sr (mv U O (fl (((bl.up e).up i).up dx) O (Lw.t O (T.bs 15 [vS bk.Path] (cs:=[vS bk.Path]) O O (bsv O)) ?_))))))))
             rintro _ _ ⟨jc,jd,rfl,rfl,dy,ha⟩
             obtain⟨hb,hc,Y⟩:=ob Y
             refine Lw.t O (T.app1S (α:=Str) (K':=[]) (((dv.up i).up dx).up dy) ha (rdS _) O O hc) ?_
             rintro e4 _ ⟨he,rfl,e5,hf⟩
             exact Nv e4 O (Cw.exit ((ag) ⟨hb,4,a.Path,bk.Path,([]:List Str),([]:List Hunk),e4,ptr (bx ez),X,vB aq.2, .slice none 0 0, .slice none 0 0,he,O,(((((((bj.j D).j E).j e).j i).j dx).j dy).j e5).w,O,hf,owN 8 [],owN 10 [],((g9.up dy).up e5),Y⟩))
            ·exact sk (rg (Lw.add O (mi O (nl ((agm) ⟨a9,w64 (ch+1),ba,bb,bc,be,bg,U,ptr (bx ez),X,vB aq.2,bh,bi,ci,O,((((bj.j D).j E).j e).j i).w,O,(dv.up i),((((et.up D).up E).up e).up i),((((eu.up D).up E).up e).up i),e3,Y⟩)))))
           ·refine rg (mb O (Lw.r O (R.not O) (mb O (bs Y (fun bm Y=>?_) fun bm Y=>?_))))
            ·refine wak 5 bm (fl (bl.up e) O (fl e2 O (ca Y (fun _=>p123 (r293.ul ((dt.trans du).trans e1)) (r49.ul (((((((((z.trans A).trans P).trans ak).trans a1).trans cc).trans ds).trans dt).trans du).trans e1))) fun je hg Y cj=>Pb bm O (mb O (bs Y (fun bn Y=>?_) fun bn Y=>?_)))))
             ·exact wak 5 bn (mv U O (fl ((bl.up e).up cj) O (ca Y (fun _=>p73 (K:=[3]) (dv.up cj).rd) fun hh hi Y hj=>Lw.r O (R.not O) (Pb bn O (nl ((ag) ⟨(!hh),hi,O,(cj.j hj).w,O,Y⟩))))))
             ·exact psk 5 bn O (Pb bn O (nl ((ag) ⟨false,hg,O,cj,O,Y⟩)))
            ·exact psk 5 bm O (Pb bm O (mb O (psk 5 O O (Pb O O (nl ((ag) ⟨false,e0,O,Le.refl _ _,O,Y⟩))))))
          ·refine Cw.exit ?_
           obtain⟨hk,hl,ck,hn⟩:=eu.dyeO 10
           exact(ag) ⟨a9,ba,bb,bc,be,bg,U,dp,dq,dr,bh,bi,hk,hl,(bj.j ck).w,O,(es.up ck),(et.up ck),hn,(ew.up ck),Y⟩
     ·refine rg (mb O (mb O (bs Y (fun bp Y=>?_) fun bp Y=>?_)))
      ·exact wak 4 bp (mv f O (fl (c6.up B) O (ca Y (fun _=>p123 (K:=[0,5]) (eg.rd.sub (M:=[0,5]) O) ((r49.ul ((z.trans A).trans P)).sub (M:=[0,5]) O)) fun ho hp Y hq=>Pb bp O (Nb O ((ag) ⟨ho,hp,O,hq,O,Y⟩)))))
      ·exact psk 4 bp O (Pb bp O (Nb O ((ag) ⟨false,ef,O,Le.refl _ _,O,Y⟩)))
   ·refine Cw.exit ?_
    rw[ft]at Y
    refine ssr (mv ae O (Lw.ln x1 (G.ul y) O (mi O (nl (Cw.block ?_)))))
    obtain⟨hr,hs,Y⟩:=zaY Y
    refine Cw.loop 114 143 [5,17,18,19,114] (fun m l w=> ∃ cl cm F e6 e7 e8 bq,CW.w bq=w/\Le [2,16,18] x bq/\l=[F,e6,e7,e8,vI cm]/\Ow bq 2 [] [F] cl/\Vm.zaT x0 x1 H hr m cl cm=some r) _ ⟨y7,0,I,undef,undef,undef,x,O,Le.refl _ _,O,o9,Y⟩ ?_
    rintro(_ |jf) _ _ σ ⟨cl,cm,F,e6,e7,e8,bq,rfl,dz,rfl,e9,Y⟩
    ·cases Y
    unfold Vm.zaT at Y
    have co:=y.t dz
    refine sr (Lw.lt O (nl (Cw.seq (cn Y (fun Y=>?_) fun Y=>?_))))
    ·refine sk ?_
     obtain⟨ht,hu,Y⟩:=zaY Y
     refine Cw.join 116 142 [5,17,18,19] (fun l w=> ∃ cp cq d0 d1 d2 br,CW.w br=w/\Le [2,16,18] bq br/\l=[cq,d0,d1,d2]/\Ow br 2 [] [cq] cp/\ht cp=some r) ?_ ?_
     ·rintro _ _ σ ⟨cp,cq,d0,d1,d2,br,rfl,hw,rfl,hx,Y⟩
      rw[hu]at Y
      exact rg (Lw.add O (mi O (nl ((agm) ⟨cp,w64 (cm+1),cq,d0,d1,d2,br,O,(dz.j hw).w,O,hx,Y⟩))))
     ·refine Cw.block (sr ?_)
      obtain⟨bu,fb,Y⟩:=ob Y
      refine Lw.r O (R.ix (α:=File) (G.ul co) fb O O O) ?_
      obtain⟨x448,c449,_,r450⟩:=((G.ul co).at_ fb).cells
      obtain⟨jg,rfl,r452⟩:=File.split r450
      refine Lw.r O (R.lda c449 O O) (al 16 [vS ([]:Str), .slice none 0 0] fun fc jh bv hy=>?_)
      have fd:=bv.o
      refine sta hy (zaa O (zaa r452.oc zaG)) fun ji bw d3=>?_
      have fe:=bw.s
      refine nl (sr (mv ac O (fl d3 O (cr Y (fun _=>p116 (k0:=17) (h0.ul ((co.trans fd).trans fe))) ?_))))
      rintro ar _ ff Y Z ⟨aa,rfl,jj⟩
      have hz:=(fd.trans fe).n Z
      refine mv (.tuple [aa,vB ar.2].toArray) O (Lw.r O (R.ext (vs:=[aa,vB ar.2]) (v:=aa) O O) (Lw.r O (R.ext (vs:=[aa,vB ar.2]) (v:=vB ar.2) O O) (Gv aa O (Nb O ?_))))
      obtain⟨h2,h3,Y⟩:=zaY Y
      refine Cw.join 125 133 [133] (fun l w=> ∃ d4 ct,CW.w ct=w/\Le [] ff ct/\l=[vB d4]/\h2 d4=some r) ?_ ?_
      ·rintro _ _ σ ⟨d4,ct,rfl,bz,rfl,Y⟩
       rw[h3]at Y
       have h4:=hz.n bz
       have fg:=(((e9.up bv).up bw).up Z).up bz
       refine cn Y (fun Y=>?_) fun Y=>?_
       ·refine Cw.draw [2,18] [(0,0),(1,0),(2,1),(3,0),(4,1),(5,2),(6,0),(7,2),(8,2),(9,0)] mixed (by kernel_rfl) fun jk cu=>?_
        have h5:=h4.n cu
        have fh:=((d3.up Z).up bz).up cu
        refine Dv F O (Dfl fh O O O (Dfl fh O O O (Dc Y (Le.refl _ _) (fun _=>p125 (k0:=18) (r452.ul h5)) O ?_)))
        rintro h6 cv jl Y fi ⟨_,rfl,fj⟩ h7
        refine Mw.p O O (fun _=>R.bd (zs:=[vI 0,vS ([]:Str),vS ([]:Str), .slice none 0 0, .slice none 0 0]) (cs:=[vI 1,vS bu.Path,vS ([]:Str),cv, .slice none 0 0]) [(0,vI 1),(1,vS bu.Path),(3,cv)] O O O (zaA O O (zaA O O (zaA fj.oc O zc8)))) (Mw.t O O (T.bs 19 [.agg [vI 1,vS bu.Path,vS ([]:Str),cv, .slice none 0 0].toArray] (cs:=[vI 1,vS bu.Path,vS ([]:Str),cv, .slice none 0 0]) O O (bsA O)) ?_)
        rintro _ _ ⟨jm,jo,rfl,rfl,cw,h8⟩
        refine mc h7 cw fun h9=>?_
        obtain⟨ia,ib,Y⟩:=ob Y
        refine Mw.t O O (T.app1 (α:=Change) (J:=[18]) (K':=[]) (((fg.up cu).up fi).up cw) h8 (Change.own 1 bu.Path ([]:Str) h6 ([]:List Hunk) (fj.up cw).s (zp0 [])) O O ib) ?_
        rintro fm _ ⟨ic,rfl,fn,id⟩
        exact mc h9 fn fun jp=>Hv fm O (Mw.nil ((ag) ⟨ia,fm,ptr (bx fc),aa,vB ar.2,ic,O,(((((((bv.j bw).j Z).j bz).j cu).j fi).j cw).j fn).w,O,id,Y⟩))
       ·exact sk ((ag) ⟨cl,F,ptr (bx fc),aa,vB ar.2,ct,O,(((bv.j bw).j Z).j bz).w,O,fg,Y⟩)
      ·refine rg (mb O (Lw.r O (R.not O) (mb O (bs Y (fun b0 Y=>?_) fun b0 Y=>?_))))
       ·exact wak 5 b0 (mv L O (fl (d3.up Z) O (ca Y (fun _=>p73 (K:=[3]) ((((ed.up dz).up bv).up bw).up Z).rd) fun ie ig Y ih=>Lw.r O (R.not O) (Pb b0 O (nl ((ag) ⟨(!ie),ig,O,ih,O,Y⟩))))))
       ·exact psk 5 b0 O (Pb b0 O (nl ((ag) ⟨false,ff,O,Le.refl _ _,O,Y⟩)))
    ·refine Cw.exit ?_
     rw[hs]at Y
     refine sr (mv F O (Nv F O ?_))
     cases Y
     exact Cw.ret (zik O (Res.mk co ⟨F,O,e9.s.sub O O⟩))
 ·refine rg (mv ac O (ca Y (fun _=>p93 h0 d6) fun jq ii Y d5=>?_))
  have fo:=d5.o
  refine Lw.r O (R.not O) (mb O (bs Y (fun b1 Y=>?_) fun b1 Y=>?_))
  ·exact psk 3 b1 O (Pb b1 O (nl ((ag) ⟨true,ii,O,d5,O,Y⟩)))
  ·exact wak 3 b1 (mv ae O (ca Y (fun _=>p93 (G.ul fo) (d6.ul fo)) fun ij ik Y il=>Lw.r O (R.not O) (Pb b1 O (nl ((ag) ⟨(!ij),ik,O,(d5.j il).w,O,Y⟩)))))
theorem p69 {x0 b x1 d k0 r}(f:Rd W K [b] x0)(h:Rd W K [d] x1)(i:Gl 0 W K)(Y:Vm.zft x0 x1=some r):Q1 69 [b,d] W [] fun W' v=> ∃ a,v=a/\Ow W' k0 [] [a] r:=
 (c69 (f.view _) (h.view _) (i.view _) Y).ad (fk k0) fun _ _ ⟨a,e,k⟩=>⟨a,e,k.back (zgv _)⟩
theorem c68 {x0 x r}(y:Rd W0 [0] [x] x0)(Y:Vm.zhi x0=some r):Q0 68 [x] W0 fun Wf v=> ∃ G,v=G/\OwS Wf LL [] [G] r:=by
 unfold Vm.zhi at Y
 refine zao.of Tryz.func68 O O O O (sr (Nv (.slice none 0 0) O (sr (Nv (.slice none 0 0) O (ssr (mv x O (Lw.ln x0 y O (mi O (nl (Cw.block ?_))))))))))
 obtain⟨V,W,Y⟩:=zaY Y
 refine Cw.loop 8 25 [3,5,8] (fun m l w=> ∃ z e a H b,CW.w b=w/\Le [2,3] W0 b/\l=[a,H,vI e]/\Ow b 2 [] [a] z/\Vm.zdt x0 V m z e=some r) _ ⟨([]:List Str),0, .slice none 0 0,undef,W0,O,Le.refl _ _,O,owN 2 [],Y⟩ ?_
 rintro(_ |m8) _ _ σ ⟨z,e,a,H,b,rfl,I,rfl,J,Y⟩
 ·cases Y
 unfold Vm.zdt at Y
 have A:=I.s
 refine sr (Lw.lt O (nl (Cw.seq (cn Y (fun Y=>?_) fun Y=>?_))))
 ·refine sk ?_
  obtain⟨X,Z,Y⟩:=zaY Y
  refine Cw.join 10 24 [3,5] (fun l w=> ∃ f h B d,CW.w d=w/\Le [2,3] b d/\l=[h,B]/\Ow d 2 [] [h] f/\X f=some r) ?_ ?_
  ·rintro _ _ σ ⟨f,h,B,d,rfl,aa,rfl,ac,Y⟩
   rw[Z]at Y
   exact rg (Lw.add O (mi O (nl ((agm) ⟨f,w64 (e+1),h,B,d,O,(I.j aa).w,O,ac,Y⟩))))
  ·refine Cw.block (sr ?_)
   obtain⟨i,L,Y⟩:=ob Y
   refine Lw.r O (R.ix (α:=Change) (y.ul A) L O O O) ?_
   obtain⟨x21,c22,_,r23⟩:=((y.ul A).at_ L).cells
   obtain⟨ax,ay,rfl,r25,r27⟩:=Change.split r23
   refine Lw.r O (R.lda c22 O O) (al 3 [vI 0,vS ([]:Str),vS ([]:Str), .slice none 0 0, .slice none 0 0] fun M az C ae=>sta ae (zaa O (zaa O (zaa O (zaa r25.oc (zaa r27.oc zaG))))) fun a0 D N=>nl (sr (mv a O (fl N O (Lw.t O (T.bs 4 [vS i.Path] (cs:=[vS i.Path]) O O (bsv O)) ?_)))))
   rintro _ _ ⟨a1,a2,rfl,rfl,k,af⟩
   obtain⟨ah,ai,Y⟩:=ob Y
   refine Lw.t O (T.app1S (α:=Str) (K':=[]) (((J.up C).up D).up k) af (rdS _) O O ai) ?_
   rintro E _ ⟨aj,rfl,F,P⟩
   have Q:=(N.up k).up F
   refine Nv E O (sr (fl Q O (Lw.eq O (nl (cn Y (fun Y=>?_) fun Y=>?_)))))
   ·refine rg (mv E O (fl Q O (Lw.t O (T.bs 5 [vS i.To] (cs:=[vS i.To]) O O (bsv O)) ?_)))
    rintro _ _ ⟨a3,a4,rfl,rfl,S,ak⟩
    obtain⟨am,an,Y⟩:=ob Y
    refine Lw.t O (T.app1S (α:=Str) (K':=[]) (P.up S) ak (rdS _) O O an) ?_
    rintro U _ ⟨ao,rfl,ap,aq⟩
    exact Nv U O ((ag) ⟨am,U,ptr (bx M),ao,O,(((((C.j D).j k).j F).j S).j ap).w,O,aq,Y⟩)
   ·exact sk ((ag) ⟨ah,E,ptr (bx M),aj,O,(((C.j D).j k).j F).w,O,P,Y⟩)
 ·refine Cw.exit ?_
  rw[W]at Y
  refine sr (mv a O (cr Y (fun _=>p113 (K:=[0]) (c0:=2) J O) ?_))
  rintro a5 _ a6 Y ar ⟨rfl,au⟩
  have av:=A.t ar
  refine nl (sr (mv a O (Nv a O ?_)))
  cases Y
  exact Cw.ret (zik O (Res.mk av ⟨a,O,au.s.sub O O⟩))
theorem p68 {x0 b k0 r}(d:Rd W K [b] x0)(Y:Vm.zhi x0=some r):Q1 68 [b] W [] fun W' v=> ∃ a,v=a/\Ow W' k0 [] [a] r:=
 (c68 (d.view _) Y).ad (fk k0) fun _ _ ⟨a,e,f⟩=>⟨a,e,f.back (zgv _)⟩
theorem c72 {x0 x x1 r}(y:Rd W0 [0] [x] x0)(K:Gl 0 W0 [0])(Y:Vm.zhj x0 x1=some r):Q0 72 [x,vS x1] W0 fun Wf v=>v=vS r:=by
 unfold Vm.zhj at Y
 refine zao.of Tryz.func72 O O O O (sr (Ns O (Cw.seq ?_)))
 obtain⟨K3,ai,Y⟩:=zaY Y
 refine Cw.join 8 15 [15] (fun l w=> ∃ L M,CW.w M=w/\Le [] W0 M/\l=[vB L]/\K3 L=some r) ?_ ?_
 ·rintro _ _ σ ⟨L,M,rfl,l2,rfl,Y⟩
  rw[ai]at Y
  have S:=l2.o
  refine cn Y (fun Y=>?_) fun Y=>?_
  ·exact sr (Ns O (.ret (rt Y S)))
  ·refine sk (sr (al 2 [vS ([]:Str),vS ([]:Str)] fun T U l6 b6=>?_))
   have V:=S.n l6
   refine nl (ssr (mv x O (Lw.ln x0 (y.ul V) O (mi O (nl (Cw.block ?_))))))
   obtain⟨an,ao,Y⟩:=zaY Y
   refine Cw.loop 18 42 [7,18] (fun m l w=> ∃ z a A W b,CW.w b=w/\Le [2,3] U b/\l=[W,vI z]/\Bx b 2 T [vS a,vS A]/\Vm.zdu x0 x1 an m z a A=some r) _ ⟨0,([]:Str),([]:Str),undef,U,O,Le.refl _ _,O,b6,Y⟩ ?_
   rintro(_ |ba) _ _ σ ⟨z,a,A,W,b,rfl,X,rfl,Z,Y⟩
   ·cases Y
   unfold Vm.zdu at Y
   have B:=V.t X
   refine sr (Lw.lt O (nl (Cw.seq (cn Y (fun Y=>?_) fun Y=>?_))))
   ·refine sk ?_
    obtain⟨ap,aq,Y⟩:=zaY Y
    refine Cw.join 20 41 [7] (fun l w=> ∃ C D N d,CW.w d=w/\Le [2,3] b d/\l=[N]/\Bx d 2 T [vS C,vS D]/\ap C D=some r) ?_ ?_
    ·rintro _ _ σ ⟨C,D,N,d,rfl,ar,rfl,au,Y⟩
     rw[aq]at Y
     exact rg (Lw.add O (mi O (nl ((agm) ⟨w64 (z+1),C,D,N,d,O,(X.j ar).w,O,au,Y⟩))))
    ·refine Cw.block (sr ?_)
     obtain⟨E,aa,Y⟩:=ob Y
     refine Lw.r O (R.ix (α:=Owner) (y.ul B) aa O O O) ?_
     obtain⟨x29,c30,_,r31⟩:=((y.ul B).at_ aa).cells
     obtain rfl:=Owner.split r31
     refine Lw.r O (R.lda c30 O O) (al 3 [vS ([]:Str),vS ([]:Str)] fun ac bb F av=>?_)
     have aw:=B.n F
     refine sta av (zaa O (zaa O zaG)) fun ae G e=>?_
     have ax:=aw.t G
     have H:=(Z.up F).up G
     refine nl ?_
     obtain⟨ay,az,Y⟩:=zaY Y
     refine Cw.join 22 40 [40] (fun l w=> ∃ P I,CW.w I=w/\Le [] ae I/\l=[vB P]/\ay P=some r) ?_ ?_
     ·rintro _ _ σ ⟨P,I,rfl,f,rfl,Y⟩
      rw[az]at Y
      refine cn Y (fun Y=>?_) fun Y=>?_
      ·exact rg (la (e.up f) (sta (H.up f) (zaa O (zaa O zaG)) fun a0 a1 a2=>nl ((ag) ⟨E.Path,E.Who,ptr (bx ac),a0,O,(((F.j G).j f).j a1).w,O,a2,Y⟩)))
      ·exact sk ((ag) ⟨a,A,ptr (bx ac),I,O,((F.j G).j f).w,O,(H.up f),Y⟩)
     ·refine rg (fl e O (ms O (Lw.seq O (mb O (bs Y (fun h Y=>?_) fun h Y=>?_)))))
      ·exact psk 4 h O (Pb h O (mb O (wak 7 O (fl e O (Lw.r O (R.lenS O) (fl H O (Lw.r O (R.lenS O) (Lw.gt O (Pb O O (nl ((ag) ⟨decide (a.length< (E.Path.length:Int)),ae,O,Le.refl _ _,O,Y⟩)))))))))))
      ·refine wak 4 h (fl e O (ms O (ca Y (fun _=>p127 (K.ul ax)) fun bc af Y J=>Pb h O (mb O (bs Y (fun i Y=>?_) fun i Y=>?_)))))
       ·exact wak 7 i (fl (e.up J) O (Lw.r O (R.lenS O) (fl (H.up J) O (Lw.r O (R.lenS O) (Lw.gt O (Pb i O (nl ((ag) ⟨decide (a.length< (E.Path.length:Int)),af,O,J,O,Y⟩))))))))
       ·exact psk 7 i O (Pb i O (nl ((ag) ⟨false,af,O,J,O,Y⟩)))
   ·refine Cw.exit ?_
    rw[ao]at Y
    exact sr (fl Z O (Ns O (.ret (rt Y B))))
 ·refine rg (mv x O (ca Y (fun _=>p66 y K) fun be a3 Y Q=>?_))
  have a5:=Q.o
  refine Lw.r O (R.not O) (mb O (bs Y (fun k Y=>?_) fun k Y=>?_))
  ·exact psk 3 k O (Pb k O (nl ((ag) ⟨true,a3,O,Q,O,Y⟩)))
  ·exact wak 3 k (ms O (ca Y (fun _=>p121 (K.ul a5)) fun a6 a8 Y a9=>Lw.r O (R.not O) (Pb k O (nl ((ag) ⟨(!a6),a8,O,(Q.j a9).w,O,Y⟩)))))
theorem p72 {x0 a x1 r}(b:Rd W K [a] x0)(d:Gl 0 W K)(Y:Vm.zhj x0 x1=some r):Q1 72 [a,vS x1] W [] fun W' v=>v=vS r:=
 (c72 (b.view _) (d.view _) Y).ad (fk 0) fun _ _ e=>e
end Go.Sx
