/- Walks: each function answers as its model, printed by a program of ours. Conditions: the arguments read as they are given. -/
import Derived.Test.YtifbmanldeabeaaGreatDoorCTs
import Derived.Test.YtifbmanldeabeaaGreatDoorCM0
import Derived.Test.YtifbmanldeabeaaGreatDoorCW0
namespace Go.Sx
open Go Go.Proofs Go.Vm Rp
set_option linter.unusedVariables false
set_option linter.unusedSimpArgs false
variable {W W0:CW}{K:List Nat}
theorem c140 {x0 W X x1 x2 r}(h0:Rd W0 [0] [W,X] x0)(Y:Vm.zf1 x0 x1 x2=some r):Q0 140 [.agg [W,X].toArray,vI x1,vI x2] W0 fun Wf v=> ∃ u0,v=u0/\OwS Wf LL [] [u0] r:=by
 unfold Vm.zf1 at Y
 obtain⟨c4,c5,av,Z,aa⟩:=Repo.split h0
 simp only[List.cons.injEq,and_true,true_and]at av
 obtain⟨rfl,rfl⟩:=av
 refine zak.of Tryz.func140 O O O O (sr (bo 2 O fun g1 W1 l1 b1=>?_))
 have a2:=l1.o
 refine Nv (.slice none 0 0) O (sr (la b1 (mi O (cr Y (fun _=>p85 (k0:=3) (Repo.rd (K:=[0]) x0.Commits x0.Heads (Z.ul a2) (aa.ul a2))) ?_))))
 rintro z5 H W7 Y l7 ⟨_,rfl,bp⟩
 have a8:=a2.n l7
 refine Nv H O (sr (la (b1.up l7) (mi O (cr Y (fun _=>p85 (k0:=4) (Repo.rd (K:=[0]) x0.Commits x0.Heads (Z.ul a8) (aa.ul a8))) ?_))))
 rintro bq ax c9 Y ai ⟨_,rfl,br⟩
 have bu:=a8.n ai
 refine Nv ax O (sr (Lw.t O (T.lit0 (α:=Int) 5 []) ?_))
 rintro ay _ ⟨az,rfl,I,bv⟩
 have bw:=bu.n I
 refine Nv ay O (ssr (Ni O (Cw.block ?_)))
 obtain⟨bz,b0,Y⟩:=zaT Y
 refine Cw.loop 22 40 [9,10] (fun m l w=> ∃ h J e B,CW.w B=w/\Le [5] az B/\l=[e,vI J]/\Ow B 5 [] [e] h/\Vm.zck z5 bq bz m h J=some r) _ ⟨([]:List Int),0,ay,az,O,Le.refl _ _,O,bv,Y⟩ ?_
 rintro(_ |da) _ _ σ ⟨h,J,e,B,rfl,C,rfl,aj,Y⟩
 ·cases Y
 unfold Vm.zck at Y
 have b2:=bw.t C
 have D:=((bp.up ai).up I).up C
 refine ssr (mi O (mv H O (Lw.ln z5 D.rd O (Lw.lt O (nl (cn Y (fun Y=>?_) fun Y=>?_))))))
 ·refine sk ?_
  obtain⟨b3,b4,Y⟩:=zaT Y
  refine Cw.join 28 40 [9] (fun l w=> ∃ L M E,CW.w E=w/\Le [5] B E/\l=[M]/\Ow E 5 [] [M] L/\b3 L=some r) ?_ ?_
  ·rintro _ _ σ ⟨L,M,E,rfl,b5,rfl,b6,Y⟩
   rw[b4]at Y
   exact rg (mi O (Lw.add O (Ni O ((agm) ⟨L,w64 (J+1),M,E,O,(C.j b5).w,O,b6,Y⟩))))
  ·refine Cw.block (sr (mv ax O (mv H O (mi O ?_))))
   obtain⟨db,a0,Y⟩:=ob Y
   refine Lw.r O (R.ix (α:=Int) D.rd a0 O O O) (Lw.r O (R.ld O O (D.rd.at_ a0).int) (ca Y (fun _=>p84 (K:=[4]) ((br.up I).up C).rd) fun dc b7 Y y=>nl (cn Y (fun Y=>?_) fun Y=>?_)))
   ·refine rg (mv e O (mv H O (mi O ?_)))
    obtain⟨a1,a3,Y⟩:=ob Y
    refine Lw.r O (R.ix (α:=Int) (D.up y).rd a3 O O O) (Lw.r O (R.ld O O ((D.up y).rd.at_ a3).int) (Lw.t O (T.bs 6 [vI a1] (cs:=[vI a1]) O O (bsv O)) ?_))
    rintro _ _ ⟨dd,de,rfl,rfl,a4,b8⟩
    obtain⟨b9,cb,Y⟩:=ob Y
    refine Lw.t O (T.app1S (α:=Int) (K':=[]) ((aj.up y).up a4) b8 (rdI _) O O cb) ?_
    rintro a5 _ ⟨cc,rfl,cd,ce⟩
    exact Nv a5 O ((ag) ⟨b9,a5,cc,O,((y.j a4).j cd).w,O,ce,Y⟩)
   ·exact sk ((ag) ⟨h,e,b7,O,y.w,O,(aj.up y),Y⟩)
 ·refine Cw.exit ?_
  rw[b0]at Y
  refine sr (Lw.t O (T.lit0 (α:=Int) 7 []) ?_)
  rintro a6 _ ⟨a7,rfl,ak,cf⟩
  have cg:=b2.n ak
  refine Nv a6 O (ssr (Ni O (Cw.block ?_)))
  obtain⟨ch,ci,Y⟩:=zaT Y
  refine Cw.loop 42 81 [11,12,13,14] (fun m l w=> ∃ N i k a9 ba x,CW.w x=w/\Le [7] a7 x/\l=[k,vI i,a9,ba]/\Ow x 7 [] [k] N/\Vm.zaV x0 h ch m N i=some r) _ ⟨([]:List Int),0,a6,undef,undef,a7,O,Le.refl _ _,O,cf,Y⟩ ?_
  rintro(_ |df) _ _ σ ⟨N,i,k,a9,ba,x,rfl,P,rfl,am,Y⟩
  ·cases Y
  unfold Vm.zaV at Y
  have bb:=cg.t P
  have bc:=(aj.up ak).up P
  refine ssr (mi O (mv e O (Lw.ln h bc.rd O (Lw.lt O (nl (cn Y (fun Y=>?_) fun Y=>?_))))))
  ·refine sk ?_
   obtain⟨cj,ck,Y⟩:=zaT Y
   refine Cw.join 48 81 [11,13,14] (fun l w=> ∃ Q S an ao F,CW.w F=w/\Le [7] x F/\l=[S,an,ao]/\Ow F 7 [] [S] Q/\cj Q=some r) ?_ ?_
   ·rintro _ _ σ ⟨Q,S,an,ao,F,rfl,cl,rfl,cm,Y⟩
    rw[ck]at Y
    exact rg (mi O (Lw.add O (Ni O ((agm) ⟨Q,w64 (i+1),S,an,ao,F,O,(P.j cl).w,O,cm,Y⟩))))
   ·refine Cw.block (sr (Nb O (ssr (Ni O (Cw.block ?_)))))
    obtain⟨co,cp,Y⟩:=zaT Y
    refine Cw.loop 48 73 [13,14] (fun m l w=> ∃ G d U,CW.w U=w/\Le [] x U/\l=[vB G,vI d]/\Vm.zbY x0 h i co m G d=some r) _ ⟨true,0,x,O,Le.refl _ _,O,Y⟩ ?_
    rintro(_ |dg) _ _ σ ⟨G,d,U,rfl,f,rfl,Y⟩
    ·cases Y
    unfold Vm.zbY at Y
    have cq:=bb.n f
    have V:=bc.up f
    refine ssr (mi O (mv e O (Lw.ln h V.rd O (Lw.lt O (nl (cn Y (fun Y=>?_) fun Y=>?_))))))
    ·refine sk (Cw.seq (Cw.block (Cw.draw [] [(0,0),(1,0),(2,0),(3,0),(4,0),(5,0),(6,1),(7,0),(8,0),(9,0),(10,1),(12,0),(13,0),(14,0),(15,1),(11,2),(16,3),(17,0),(18,0),(19,0),(20,0)] mixed (by kernel_rfl) fun be z=>?_)))
     have bg:=cq.n z
     have A:=V.up z
     refine Db O (Db O (bs Y (fun b Y=>?_) fun b Y=>?_))
     ·refine Wp b O (fun _=>R.mv (v:=vI d) O) (Wp b O (fun _=>R.mv (v:=vI i) O) (Wp b O (fun _=>R.eq O O) (Wp b O (fun _=>R.mv (v:=vB ((d:Int)==(i:Int))) O) (bs Y (fun a Y=>?_) fun a Y=>?_))))
      ·exact dps 12 a O (Wp b O (fun _=>R.pk a O (v:=vB true) O) (Mw.p O O (fun _=>R.pk b O (v:=vB true) O) (Hb O (Mw.nil (rg (mi O (Lw.add O (Ni O ((agm) ⟨true,w64 (d+1),be,O,(f.j z).w,O,Y⟩)))))))))
      ·refine Wq a O (fun _ c=>R.lda (cs:=[W,X]) (((((((((b1.up l7).up ai).up I).up C).up ak).up P).up f).up z).clcs O c) O O) (Wp a O (fun _=>R.mv (v:=e) O) (Wp a O (fun _=>R.mv (v:=vI d) O) ?_))
       obtain⟨dh,ap,Y⟩:=ob Y
       refine Wp a O (fun _=>R.ix (α:=Int) A.rd ap O O O) (Wq a O (fun _ c=>R.ld O O (zao (A.rd.at_ ap).1 O (A.rd.at_ ap).int c)) (Wp a O (fun _=>R.mv (v:=e) O) (Wp a O (fun _=>R.mv (v:=vI i) O) ?_)))
       obtain⟨di,aq,Y⟩:=ob Y
       refine Wp a O (fun _=>R.ix (α:=Int) A.rd aq O O O) (Wq a O (fun _ c=>R.ld O O (zao (A.rd.at_ aq).1 O (A.rd.at_ aq).int c)) ?_)
       obtain⟨dj,ct,Y⟩:=ob Y
       refine Wt a O (T.call O (p85 (k0:=8) (Repo.rd (K:=[0]) x0.Commits x0.Heads (Z.ul bg) (aa.ul bg)) ct)) ?_
       rintro dk _ ⟨dl,rfl,bh,⟨_,rfl,cu⟩⟩
       refine m0 bh fun dm=>?_
       obtain⟨ar,cv,Y⟩:=ob Y
       refine Mw.gl a O O O O O (T.call O (p84 (K:=[8]) cu.rd cv)) ?_
       rintro _ _ ⟨cw,rfl,cx,rfl⟩
       exact Wp a O (fun _=>R.not O) (Wp b O (fun _=>R.pk a O (v:=vB (!ar)) O) (Mw.p O O (fun _=>R.pk b O (v:=vB (!ar)) O) (Hb O (Mw.nil (rg (mi O (Lw.add O (Ni O ((agm) ⟨(!ar),w64 (d+1),cw,O,(((f.j z).j bh).j cx).w,O,Y⟩)))))))))
     ·exact dps 4 b O (dpu 12 O (dps 1 b O (Mw.p O O (fun _=>R.pk b O (v:=vB false) O) (Hb O (Mw.nil (rg (mi O (Lw.add O (Ni O ((agm) ⟨false,w64 (d+1),be,O,(f.j z).w,O,Y⟩))))))))))
    ·refine Cw.exit ?_
     rw[cp]at Y
     refine sr (mb O (nl (cn Y (fun Y=>?_) fun Y=>?_)))
     ·refine rg (mv k O (mv e O (mi O ?_)))
      obtain⟨bi,bj,Y⟩:=ob Y
      refine Lw.r O (R.ix (α:=Int) V.rd bj O O O) (Lw.r O (R.ld O O (V.rd.at_ bj).int) (Lw.t O (T.bs 9 [vI bi] (cs:=[vI bi]) O O (bsv O)) ?_))
      rintro _ _ ⟨dn,dp,rfl,rfl,bk,cy⟩
      obtain⟨cz,c0,Y⟩:=ob Y
      refine Lw.t O (T.app1S (α:=Int) (K':=[]) ((am.up f).up bk) cy (rdI _) O O c0) ?_
      rintro bl _ ⟨c1,rfl,c2,c3⟩
      exact Nv bl O ((ag) ⟨cz,bl,vB G,vI d,c1,O,((f.j bk).j c2).w,O,c3,Y⟩)
     ·exact sk ((ag) ⟨N,k,vB G,vI d,U,O,f.w,O,(am.up f),Y⟩)
  ·refine Cw.exit ?_
   rw[ci]at Y
   refine sr (mv k O (Nv k O ?_))
   cases Y
   exact Cw.ret (zhX O (Res.mk bb ⟨k,O,am.s.sub O O⟩))
theorem p140 {x0 b d x1 x2 k0 r}(f:Rd W K [b,d] x0)(Y:Vm.zf1 x0 x1 x2=some r):Q1 140 [.agg [b,d].toArray,vI x1,vI x2] W [] fun W' v=> ∃ a,v=a/\Ow W' k0 [] [a] r:=
 (c140 (f.view _) Y).ad (fk k0) fun _ _ ⟨a,e,h⟩=>⟨a,e,h.back (zgC _)⟩
theorem c88 {x0 k x x1 x2 r}(I:Rd W0 [0] [k,x] x0)(Y:Vm.zgl x0 x1 x2=some r):Q0 88 [.agg [k,x].toArray,vI x1,vI x2] W0 fun Wf v=> ∃ y,v=y/\Rd Wf [0] [y] r:=by
 unfold Vm.zgl at Y
 obtain⟨M,N,z,A,J⟩:=Repo.split I
 simp only[List.cons.injEq,and_true,true_and]at z
 obtain⟨rfl,rfl⟩:=z
 refine zak.of Tryz.func88 O O O O (sr (bo 2 O fun P Q L B=>?_))
 have d:=L.o
 refine Nv (.slice none 0 0) O (sr (la B (mi O (mi O (cr Y (fun _=>p140 (k0:=3) (Repo.rd (K:=[0]) x0.Commits x0.Heads (A.ul d) (J.ul d))) ?_)))))
 rintro C a S Y D ⟨_,rfl,E⟩
 have F:=d.n D
 refine Nv a O (ssr (mv a O (Lw.ln C E.rd O (Lw.eq O (nl (cn Y (fun Y=>?_) fun Y=>?_))))))
 ·refine sr (Nv (.slice none 0 0) O ?_)
  cases Y
  exact Cw.ret (zhX O (Res.mk F ⟨.slice none 0 0,O,(rdN (K:=[0]))⟩))
 ·refine sk (Cw.seq (Cw.draw [] [(0,0),(1,1),(2,0),(3,0),(4,0),(5,0),(6,0),(7,1),(8,0),(9,0),(10,1),(11,0)] mixed (by kernel_rfl) fun T e=>?_))
  have G:=F.n e
  have b:=E.up e
  refine Dfl ((B.up D).up e) O O O (Dv a O (Dv a O (Mw.p O O (fun _=>zte (xs:=C) b.rd O) (Mw.p O O (fun _=>R.sub O O) ?_))))
  obtain⟨U,f,Y⟩:=ob Y
  refine Mw.p O O (fun _=>R.ix (α:=Int) b.rd f O O O) (Mw.q O O (fun _ c=>R.ld O O (zao (b.rd.at_ f).1 O (b.rd.at_ f).int c)) ?_)
  obtain⟨V,h,Y⟩:=ob Y
  have i:=A.ul G
  refine Mw.p O O (fun _=>R.ix (α:=Commit) i h O O O) (Df O ?_)
  obtain⟨H,c21,r22⟩:=(Commit.at2 (i.at_ h)).cell O
  refine Mw.q O O (fun _ c=>R.ld O O (zao (Commit.at2 (i.at_ h)).1 O c21 c)) (Hv H O (Mw.nil ?_))
  cases Y
  exact Cw.ret (zhX O (Res.mk G ⟨H,O,r22⟩))
theorem p88 {x0 b d x1 x2 r}(f:Rd W K [b,d] x0)(Y:Vm.zgl x0 x1 x2=some r):Q1 88 [.agg [b,d].toArray,vI x1,vI x2] W [] fun W' v=> ∃ a,v=a/\Rd W' (0::K) [a] r:=
 (c88 (f.view _) Y).ad (fk 0) fun _ _ ⟨a,e,h⟩=>⟨a,e,h.back O⟩
theorem c155 {x0 a x1 r}(C:Rd W0 [0] [a] x0)(Y:Vm.zeH x0 x1=some r):Q0 155 [a,vS x1] W0 fun Wf v=> ∃ x,v = .tuple [x,vB r.2].toArray/\Rd Wf [0] [x] r.1:=by
 unfold Vm.zeH at Y
 refine zak.of Tryz.func155 O O O O (sr (Gv (.slice none 0 0) O (Nb O (ssr (Ni O (Cw.block ?_))))))
 obtain⟨D,E,Y⟩:=zaT Y
 refine Cw.loop 7 24 [4,5,6] (fun m l w=> ∃ e f h i b,CW.w b=w/\Le [] W0 b/\l=[i,vB f,vI h]/\Ow b 2 [] [i] e/\Vm.zdE x0 x1 D m e f h=some r) _ ⟨([]:List Str),false,0, .slice none 0 0,W0,O,Le.refl _ _,O,owN 2 [],Y⟩ ?_
 rintro(_ |G) _ _ σ ⟨e,f,h,i,b,rfl,y,rfl,F,Y⟩
 ·cases Y
 unfold Vm.zdE at Y
 have k:=y.o
 refine ssr ?_
 have d:=C.ul k
 refine mi O (mv a O (Lw.ln x0 d O (Lw.lt O (nl (cn Y (fun Y=>?_) fun Y=>?_)))))
 ·refine sk (Cw.seq (Cw.block (sr (mv a O (mi O ?_)))))
  obtain⟨H,z,Y⟩:=ob Y
  refine Lw.r O (R.ix (α:=File) d z O O O) (Lw.fa O (Lw.r O (R.ld O O (File.at0 (d.at_ z)).str) (ms O (Lw.seq O (nl (cn Y (fun Y=>?_) fun Y=>?_))))))
  ·refine sr (mv a O (mi O ?_))
   obtain⟨I,A,Y⟩:=ob Y
   refine Lw.r O (R.ix (α:=File) d A O O O) (Lw.fa O ?_)
   obtain⟨B,c18,r19⟩:=(File.at1 (d.at_ A)).cell O
   refine Lw.r O (R.ld O O c18) (Gv B O (Nb O ?_))
   cases Y
   exact Cw.ret (zow O O (Res.mk k ⟨B,O,r19⟩))
  ·exact sk (rg (mi O (Lw.add O (Ni O ((agm) ⟨e,f,w64 (h+1),i,b,O,y,O,F,Y⟩)))))
 ·refine Cw.exit ?_
  rw[E]at Y
  refine sr (Gv (.slice none 0 0) O (Nb O ?_))
  cases Y
  exact Cw.ret (zow O O (Res.mk k ⟨.slice none 0 0,O,(rdN (K:=[0]))⟩))
theorem p155 {x0 b x1 r}(d:Rd W K [b] x0)(Y:Vm.zeH x0 x1=some r):Q1 155 [b,vS x1] W [] fun W' v=> ∃ a,v = .tuple [a,vB r.2].toArray/\Rd W' (0::K) [a] r.1:=
 (c155 (d.view _) Y).ad (fk 0) fun _ _ ⟨a,e,f⟩=>⟨a,e,f.back O⟩
theorem c196 {x0 b x1 e r}(d:Rd W0 [0] [b] x0)(f:Rd W0 [0] [e] x1)(Y:Vm.zdZ x0 x1=some r):Q0 196 [b,e] W0 fun Wf v=>v=vB r:=by
 unfold Vm.zdZ at Y
 refine zak.of Tryz.func196 O O O O (sr (Nb O (ssr (mv b O (Lw.ln x0 d O (mv e O (Lw.ln x1 f O (Lw.ne O (nl (cn Y (fun Y=>?_) fun Y=>?_))))))))))
 ·exact sr (Nb O (.ret (rt Y (Le.refl _ _))))
 ·refine sk (ssr (Ni O (Cw.block ?_)))
  obtain⟨B,C,Y⟩:=zaT Y
  refine Cw.loop 11 25 [4,5] (fun m l w=> ∃ h i k,CW.w k=w/\Le [] W0 k/\l=[vB h,vI i]/\Vm.zcS x0 x1 B m h i=some r) _ ⟨false,0,W0,O,Le.refl _ _,O,Y⟩ ?_
  rintro(_ |E) _ _ σ ⟨h,i,k,rfl,A,rfl,Y⟩
  ·cases Y
  unfold Vm.zcS at Y
  have x:=A.o
  refine ssr (mi O (mv b O (Lw.ln x0 (d.ul x) O (Lw.lt O (nl (cn Y (fun Y=>?_) fun Y=>?_))))))
  ·refine sk (Cw.seq (Cw.block (Cw.seq (Cw.draw [] [(0,0),(1,0),(2,0),(3,1),(4,0),(5,0),(6,0),(7,1),(8,0)] mixed (by kernel_rfl) fun D l10=>?_))))
   have a:=x.n l10
   refine Dv b O (Di O ?_)
   obtain⟨F,y,Y⟩:=ob Y
   refine Mw.p O O (fun _=>R.ix (α:=Str) (d.ul a) y O O O) (Mw.q O O (fun _ c=>R.ld O O (zao ((d.ul a).at_ y).1 O ((d.ul a).at_ y).str c)) (Dv e O (Di O ?_)))
   obtain⟨G,z,Y⟩:=ob Y
   refine Mw.p O O (fun _=>R.ix (α:=Str) (f.ul a) z O O O) (Mw.q O O (fun _ c=>R.ld O O (zao ((f.ul a).at_ z).1 O ((f.ul a).at_ z).str c)) (Mw.p O O (fun _=>R.sne O O) (Mw.nil (cn Y (fun Y=>?_) fun Y=>?_))))
   ·exact sr (Nb O (.ret (rt Y a)))
   ·exact sk (rg (mi O (Lw.add O (Ni O ((agm) ⟨h,w64 (i+1),D,O,(A.j l10).w,O,Y⟩)))))
  ·refine Cw.exit ?_
   rw[C]at Y
   exact sr (Nb O (.ret (rt Y x)))
theorem p196 {x0 a x1 b r}(d:Rd W K [a] x0)(f:Rd W K [b] x1)(Y:Vm.zdZ x0 x1=some r):Q1 196 [a,b] W [] fun W' v=>v=vB r:=
 (c196 (d.view _) (f.view _) Y).ad (fk 0) fun _ _ e=>e
theorem c189 {x0 z x1 A r}(B:Rd W0 [0] [z] x0)(C:Rd W0 [0] [A] x1)(Y:Vm.zf2 x0 x1=some r):Q0 189 [z,A] W0 fun Wf v=> ∃ u0,v=u0/\OwS Wf LL [] [u0] r:=by
 unfold Vm.zf2 at Y
 refine zak.of Tryz.func189 O O O O (sr (Nv (.slice none 0 0) O (sr (Lw.t O (T.lit0 (α:=List Int) 2 []) ?_))))
 rintro v1 _ ⟨W1,rfl,l1,o1⟩
 have a2:=l1.o
 refine Nv v1 O (ssr (Ni O (Cw.block ?_)))
 obtain⟨K8,bj,Y⟩:=zaT Y
 refine Cw.loop 10 22 [5,6] (fun m l w=> ∃ G H a h,CW.w h=w/\Le [2,3] W1 h/\l=[a,vI H]/\Ow h 2 [] [a] G/\Vm.zcm x0 x1 K8 m G H=some r) _ ⟨([]:List (List Int)),0,v1,W1,O,Le.refl _ _,O,o1,Y⟩ ?_
 rintro(_ |m9) _ _ σ ⟨G,H,a,h,rfl,l7,rfl,o5,Y⟩
 ·cases Y
 unfold Vm.zcm at Y
 have I:=a2.t l7
 refine ssr (mi O (mv z O (Lw.ln x0 (B.ul I) O (Lw.le O (nl (cn Y (fun Y=>?_) fun Y=>?_))))))
 ·refine sk (Cw.seq (Cw.block (rg (mv a O (mv A O (Lw.ln x1 (C.ul I) O (Lw.add O ?_)))))))
  obtain⟨c7,bk,Y⟩:=ob Y
  refine Lw.t O (T.mk (α:=Int) 3 [] (n:=w64 ((x1.length:Int)+1)) O O bk) ?_
  rintro ax _ ⟨c8,rfl,ay,S⟩
  refine Lw.t O (T.bs 4 [ax] (cs:=[ax]) (bsc S.oc) O (bsv S.oc)) ?_
  rintro _ _ ⟨c9,da,rfl,rfl,U,bl⟩
  obtain⟨bm,bn,Y⟩:=ob Y
  refine Lw.t O (T.app1 (α:=List Int) (J:=[3]) (K':=[]) ((o5.up ay).up U) bl (S.up U).s O O bn) ?_
  rintro az _ ⟨bp,rfl,bq,br⟩
  exact Nv az O (rg (mi O (Lw.add O (Ni O ((agm) ⟨bm,w64 (H+1),az,bp,O,(((l7.j ay).j U).j bq).w,O,br,Y⟩)))))
 ·refine Cw.exit ?_
  rw[bj]at Y
  refine ssr (mv z O (Lw.ln x0 (B.ul I) O (Lw.sub O (Ni O (Cw.block ?_)))))
  obtain⟨bu,bv,Y⟩:=zaT Y
  refine Cw.loop 26 108 [7,8] (fun m l w=> ∃ D K a0 i,CW.w i=w/\Le [2,5,6,7] h i/\l=[vI D,a0]/\Ow i 2 [] [a] K/\Vm.zbI x0 x1 bu m D K=some r) _ ⟨w64 ((x0.length:Int)-1),G,undef,h,O,Le.refl _ _,O,o5,Y⟩ ?_
  rintro(_ |db) _ _ σ ⟨D,K,a0,i,rfl,a1,rfl,a3,Y⟩
  ·cases Y
  unfold Vm.zbI at Y
  have V:=I.t a1
  refine ssr (mi O (Lw.ge O (nl (cn Y (fun Y=>?_) fun Y=>?_))))
  ·refine sk (Cw.seq (Cw.block (sr (mv A O (Lw.ln x1 (C.ul V) O (Lw.sub O (Ni O (Cw.block ?_))))))))
   obtain⟨bw,bz,Y⟩:=zaT Y
   refine Cw.loop 33 108 [8] (fun m l w=> ∃ E L k,CW.w k=w/\Le [2,5,6,7] i k/\l=[vI E]/\Ow k 2 [] [a] L/\Vm.zcl x0 x1 D bw m E L=some r) _ ⟨w64 ((x1.length:Int)-1),K,i,O,Le.refl _ _,O,a3,Y⟩ ?_
   rintro(_ |dc) _ _ σ ⟨E,L,k,rfl,W,rfl,X,Y⟩
   ·cases Y
   unfold Vm.zcl at Y
   have b0:=V.t W
   refine ssr (mi O (Lw.ge O (nl (cn Y (fun Y=>?_) fun Y=>?_))))
   ·refine sk ?_
    obtain⟨b1,b2,Y⟩:=zaT Y
    refine Cw.join 37 108 [] (fun l w=> ∃ M F,CW.w F=w/\Le [2,5,6,7] k F/\l=[]/\Ow F 2 [] [a] M/\b1 M=some r) ?_ ?_
    ·rintro _ _ σ ⟨M,F,rfl,b3,rfl,b4,Y⟩
     rw[b2]at Y
     exact rg (mi O (Lw.sub O (Ni O ((agm) ⟨w64 (E-1),M,F,O,(W.j b3).w,O,b4,Y⟩))))
    ·refine Cw.block (Cw.block (Cw.seq (Cw.draw [] [(0,0),(1,0),(2,0),(3,1),(4,0),(5,0),(6,0),(7,1),(8,0),(9,0)] mixed (by kernel_rfl) fun dd x=>?_)))
     have y:=b0.n x
     refine Dv z O (Di O ?_)
     obtain⟨de,Z,Y⟩:=ob Y
     refine Mw.p O O (fun _=>R.ix (α:=Str) (B.ul y) Z O O O) (Mw.q O O (fun _ c=>R.ld O O (zao ((B.ul y).at_ Z).1 O ((B.ul y).at_ Z).str c)) (Dv A O (Di O ?_)))
     obtain⟨df,aa,Y⟩:=ob Y
     refine Mw.p O O (fun _=>R.ix (α:=Str) (C.ul y) aa O O O) (Mw.q O O (fun _ c=>R.ld O O (zao ((C.ul y).at_ aa).1 O ((C.ul y).at_ aa).str c)) (Mw.p O O (fun _=>R.seq O O) (Hb O (Mw.nil (cn Y (fun Y=>?_) fun Y=>?_)))))
     ·refine Cw.draw [] [(0,0),(1,0),(2,0),(3,1),(4,0),(5,0),(6,0),(7,0),(8,0),(9,1),(10,0),(11,0),(12,0),(13,1),(14,0),(15,0),(16,3)] mixed (by kernel_rfl) fun dg a4=>?_
      have d:=(X.up x).up a4
      refine Dv a O (Di O ?_)
      obtain⟨u64,N,Y⟩:=ob Y
      refine Mw.p O O (fun _=>R.ix (α:=List Int) d.rd N O O O) ?_
      obtain⟨dh,c67,r68⟩:=(d.rd.at_ N).cell O
      refine Mw.q O O (fun _ c=>R.ld O O (zao (d.rd.at_ N).1 O c67 c)) (Di O (Dv a O (Di O (Mw.p O O (fun _=>R.add O O) ?_))))
      obtain⟨di,ac,Y⟩:=ob Y
      refine Mw.p O O (fun _=>R.ix (α:=List Int) d.rd ac O O O) ?_
      obtain⟨dj,c72,r73⟩:=(d.rd.at_ ac).cell O
      refine Mw.q O O (fun _ c=>R.ld O O (zao (d.rd.at_ ac).1 O c72 c)) (Di O (Mw.p O O (fun _=>R.add O O) ?_))
      obtain⟨dk,ae,Y⟩:=ob Y
      refine Mw.p O O (fun _=>R.ix (α:=Int) r73 ae O O O) (Mw.q O O (fun _ c=>R.ld O O (zao (r73.at_ ae).1 O (r73.at_ ae).int c)) (Mw.p O O (fun _=>R.add O O) ?_))
      obtain⟨dl,b5,Y⟩:=ob Y
      refine Mw.p O O (fun _=>R.ix (α:=Int) r68 b5 O O O) ?_
      obtain⟨dm,b6,b7,b8,gb78⟩:=Ow.lend (α:=List Int) (β:=List Int) (j:=5) (jf:=0) d N (by rw[zjU];exact c67) O
      rw[<- b6]
      obtain⟨dn,b9,Y⟩:=ob Y
      refine Mw.lu O (T.stS (K':=[]) b8 (rdI _) b9 O O O) ?_
      rintro _ _ ⟨dp,rfl,a5,cb⟩
      obtain⟨cc,cd,ce,cf,eq85,cg⟩:=gb78 _ _ a5 cb
      obtain⟨a6,eqm85,Y⟩:=ob Y
      obtain rfl:a6=cf:=Option.some.inj (eqm85.symm.trans eq85)
      rw[<- cd]
      exact Mw.nil ((ag) ⟨a6,cc,O,((((x.j a4).j b7).j a5).j ce).w,O,cg,Y⟩)
     ·refine Cw.seq (Cw.draw [] [(0,0),(1,0),(2,0),(3,0),(4,1),(5,0),(6,0),(7,1),(8,0),(9,0),(10,0),(11,1),(12,0),(13,0),(14,0),(15,1),(16,0),(17,0)] mixed (by kernel_rfl) fun dq af=>?_)
      have b:=(X.up x).up af
      refine Dv a O (Di O (Mw.p O O (fun _=>R.add O O) ?_))
      obtain⟨dr,ah,Y⟩:=ob Y
      refine Mw.p O O (fun _=>R.ix (α:=List Int) b.rd ah O O O) ?_
      obtain⟨ds,c93,r94⟩:=(b.rd.at_ ah).cell O
      refine Mw.q O O (fun _ c=>R.ld O O (zao (b.rd.at_ ah).1 O c93 c)) (Di O ?_)
      obtain⟨dt,ai,Y⟩:=ob Y
      refine Mw.p O O (fun _=>R.ix (α:=Int) r94 ai O O O) (Mw.q O O (fun _ c=>R.ld O O (zao (r94.at_ ai).1 O (r94.at_ ai).int c)) (Dv a O (Di O ?_)))
      obtain⟨du,aj,Y⟩:=ob Y
      refine Mw.p O O (fun _=>R.ix (α:=List Int) b.rd aj O O O) ?_
      obtain⟨dv,c100,r101⟩:=(b.rd.at_ aj).cell O
      refine Mw.q O O (fun _ c=>R.ld O O (zao (b.rd.at_ aj).1 O c100 c)) (Di O (Mw.p O O (fun _=>R.add O O) ?_))
      obtain⟨dw,ak,Y⟩:=ob Y
      refine Mw.p O O (fun _=>R.ix (α:=Int) r101 ak O O O) (Mw.q O O (fun _ c=>R.ld O O (zao (r101.at_ ak).1 O (r101.at_ ak).int c)) (Mw.p O O (fun _=>R.ge O O) (Hb O (Mw.nil (cn Y (fun Y=>?_) fun Y=>?_)))))
      ·refine Cw.draw [] [(0,0),(1,0),(2,0),(3,1),(4,0),(5,0),(6,0),(7,0),(8,0),(9,1),(10,0),(11,0),(12,1),(13,0),(14,3)] mixed (by kernel_rfl) fun dx a7=>?_
       have e:=b.up a7
       refine Dv a O (Di O ?_)
       obtain⟨dy,P,Y⟩:=ob Y
       refine Mw.p O O (fun _=>R.ix (α:=List Int) e.rd P O O O) ?_
       obtain⟨dz,c111,r112⟩:=(e.rd.at_ P).cell O
       refine Mw.q O O (fun _ c=>R.ld O O (zao (e.rd.at_ P).1 O c111 c)) (Di O (Dv a O (Di O (Mw.p O O (fun _=>R.add O O) ?_))))
       obtain⟨d0,am,Y⟩:=ob Y
       refine Mw.p O O (fun _=>R.ix (α:=List Int) e.rd am O O O) ?_
       obtain⟨d1,c116,r117⟩:=(e.rd.at_ am).cell O
       refine Mw.q O O (fun _ c=>R.ld O O (zao (e.rd.at_ am).1 O c116 c)) (Di O ?_)
       obtain⟨d2,an,Y⟩:=ob Y
       refine Mw.p O O (fun _=>R.ix (α:=Int) r117 an O O O) (Mw.q O O (fun _ c=>R.ld O O (zao (r117.at_ an).1 O (r117.at_ an).int c)) ?_)
       obtain⟨d3,ch,Y⟩:=ob Y
       refine Mw.p O O (fun _=>R.ix (α:=Int) r112 ch O O O) ?_
       obtain⟨d4,ci,cj,ck,gb122⟩:=Ow.lend (α:=List Int) (β:=List Int) (j:=6) (jf:=0) e P (by rw[zjU];exact c111) O
       rw[<- ci]
       obtain⟨d5,cl,Y⟩:=ob Y
       refine Mw.lu O (T.stS (K':=[]) ck (rdI _) cl O O O) ?_
       rintro _ _ ⟨d6,rfl,a8,cm⟩
       obtain⟨co,cp,cq,ct,eq129,cu⟩:=gb122 _ _ a8 cm
       obtain⟨a9,eqm129,Y⟩:=ob Y
       obtain rfl:a9=ct:=Option.some.inj (eqm129.symm.trans eq129)
       rw[<- cp]
       exact Mw.nil ((ag) ⟨a9,co,O,(((((x.j af).j a7).j cj).j a8).j cq).w,O,cu,Y⟩)
      ·refine Cw.draw [] [(0,0),(1,0),(2,0),(3,1),(4,0),(5,0),(6,0),(7,0),(8,1),(9,0),(10,0),(11,0),(12,1),(13,0),(14,3)] mixed (by kernel_rfl) fun d7 ba=>?_
       have f:=b.up ba
       refine Dv a O (Di O ?_)
       obtain⟨d8,Q,Y⟩:=ob Y
       refine Mw.p O O (fun _=>R.ix (α:=List Int) f.rd Q O O O) ?_
       obtain⟨d9,c137,r138⟩:=(f.rd.at_ Q).cell O
       refine Mw.q O O (fun _ c=>R.ld O O (zao (f.rd.at_ Q).1 O c137 c)) (Di O (Dv a O (Di O ?_)))
       obtain⟨ea,ao,Y⟩:=ob Y
       refine Mw.p O O (fun _=>R.ix (α:=List Int) f.rd ao O O O) ?_
       obtain⟨eb,c142,r143⟩:=(f.rd.at_ ao).cell O
       refine Mw.q O O (fun _ c=>R.ld O O (zao (f.rd.at_ ao).1 O c142 c)) (Di O (Mw.p O O (fun _=>R.add O O) ?_))
       obtain⟨ec,ap,Y⟩:=ob Y
       refine Mw.p O O (fun _=>R.ix (α:=Int) r143 ap O O O) (Mw.q O O (fun _ c=>R.ld O O (zao (r143.at_ ap).1 O (r143.at_ ap).int c)) ?_)
       obtain⟨ed,cv,Y⟩:=ob Y
       refine Mw.p O O (fun _=>R.ix (α:=Int) r138 cv O O O) ?_
       obtain⟨ee,cw,cx,cy,gb148⟩:=Ow.lend (α:=List Int) (β:=List Int) (j:=7) (jf:=0) f Q (by rw[zjU];exact c137) O
       rw[<- cw]
       obtain⟨ef,cz,Y⟩:=ob Y
       refine Mw.lu O (T.stS (K':=[]) cy (rdI _) cz O O O) ?_
       rintro _ _ ⟨eg,rfl,bb,c0⟩
       obtain⟨c1,c2,c3,c4,eq155,c5⟩:=gb148 _ _ bb c0
       obtain⟨bc,eqm155,Y⟩:=ob Y
       obtain rfl:bc=c4:=Option.some.inj (eqm155.symm.trans eq155)
       rw[<- c2]
       exact Mw.nil ((ag) ⟨bc,c1,O,(((((x.j af).j ba).j cx).j bb).j c3).w,O,c5,Y⟩)
   ·refine Cw.exit ?_
    rw[bz]at Y
    exact rg (mi O (Lw.sub O (Ni O ((agm) ⟨w64 (D-1),L,vI E,k,O,(a1.j W).w,O,X,Y⟩))))
  ·refine Cw.exit ?_
   rw[bv]at Y
   refine sr (mv a O (Nv a O ?_))
   cases Y
   exact Cw.ret (zhX O (Res.mk V ⟨a,O,a3.s.sub O O⟩))
theorem p189 {x0 b x1 d k0 r}(f:Rd W K [b] x0)(h:Rd W K [d] x1)(Y:Vm.zf2 x0 x1=some r):Q1 189 [b,d] W [] fun W' v=> ∃ a,v=a/\Ow W' k0 [] [a] r:=
 (c189 (f.view _) (h.view _) Y).ad (fk k0) fun _ _ ⟨a,e,i⟩=>⟨a,e,i.back (zgC _)⟩
theorem c156 {x0 x x1 i r}(y:Rd W0 [0] [x] x0)(I:Rd W0 [0] [i] x1)(Y:Vm.zey x0 x1=some r):Q0 156 [x,i] W0 fun Wf v=> ∃ Z,v=Z/\OwS Wf LL [] [Z] r:=by
 unfold Vm.zey at Y
 refine zak.of Tryz.func156 O O O O (sr (Nv (.slice none 0 0) O (sr (mv x O (mv i O (cr Y (fun _=>p189 (k0:=2) y I) ?_))))))
 rintro z1 J W3 Y l3 ⟨_,rfl,aw⟩
 have a4:=l3.o
 refine Nv J O (sr (Lw.t O (T.lit0 (α:=Int) 3 []) ?_))
 rintro v5 _ ⟨W5,rfl,l5,o5⟩
 have a6:=a4.n l5
 refine Nv v5 O (sr (Ni O (ssr (Ni O (Cw.block ?_)))))
 obtain⟨a0,a1,Y⟩:=zaT Y
 refine Cw.loop 13 71 [6,7,8] (fun m l w=> ∃ B d e f z,CW.w z=w/\Le [3] W5 z/\l=[f,vI d,vI e]/\Ow z 3 [] [f] B/\Vm.zcL x0 x1 z1 a0 m B d e=some r) _ ⟨([]:List Int),0,0,v5,W5,O,Le.refl _ _,O,o5,Y⟩ ?_
 rintro(_ |bq) _ _ σ ⟨B,d,e,f,z,rfl,A,rfl,K,Y⟩
 ·cases Y
 unfold Vm.zcL at Y
 have C:=a6.t A
 refine ssr (mi O (mv x O (Lw.ln x0 (y.ul C) O (Lw.lt O (nl (cn Y (fun Y=>?_) fun Y=>?_))))))
 ·refine sk (Cw.block (Cw.block ?_))
  obtain⟨a2,a3,Y⟩:=zaT Y
  refine Cw.join 19 34 [19] (fun l w=> ∃ L D,CW.w D=w/\Le [] z D/\l=[vB L]/\a2 L=some r) ?_ ?_
  ·rintro _ _ σ ⟨L,D,rfl,h,rfl,Y⟩
   rw[a3]at Y
   have a5:=C.n h
   refine cn Y (fun Y=>?_) fun Y=>?_
   ·refine sr (mv f O (mi O (Lw.t O (T.bs 4 [vI d] (cs:=[vI d]) O O (bsv O)) ?_)))
    rintro _ _ ⟨br,bu,rfl,rfl,af,a7⟩
    obtain⟨a8,a9,Y⟩:=ob Y
    refine Lw.t O (T.app1S (α:=Int) (K':=[]) ((K.up h).up af) a7 (rdI _) O O a9) ?_
    rintro ah _ ⟨ba,rfl,bb,bc⟩
    exact Nv ah O (sr (mi O (Lw.add O (Ni O (rg (mi O (Lw.add O (Ni O ((agm) ⟨a8,w64 (d+1),w64 (e+1),ah,ba,O,(((A.j h).j af).j bb).w,O,bc,Y⟩)))))))))
   ·obtain⟨be,bg,Y⟩:=zaT Y
    refine Cw.join 43 66 [43] (fun l w=> ∃ M E,CW.w E=w/\Le [] D E/\l=[vB M]/\be M=some r) ?_ ?_
    ·rintro _ _ σ ⟨M,E,rfl,N,rfl,Y⟩
     rw[bg]at Y
     have ai:=(K.up h).up N
     refine cn Y (fun Y=>?_) fun Y=>?_
     ·refine sr (mv f O (Lw.t O (T.bs 5 [vI (-1)] (cs:=[vI (-1)]) O O (bsv O)) ?_))
      rintro _ _ ⟨bv,bw,rfl,rfl,aj,bh⟩
      obtain⟨bi,bj,Y⟩:=ob Y
      refine Lw.t O (T.app1S (α:=Int) (K':=[]) (ai.up aj) bh (rdI _) O O bj) ?_
      rintro ak _ ⟨bk,rfl,bl,bm⟩
      exact Nv ak O (rg (mi O (Lw.add O (Ni O ((agm) ⟨bi,d,w64 (e+1),ak,bk,O,((((A.j h).j N).j aj).j bl).w,O,bm,Y⟩)))))
     ·exact rg (mi O (Lw.add O (Ni O ((agm) ⟨B,w64 (d+1),e,f,E,O,((A.j h).j N).w,O,ai,Y⟩))))
    ·refine Cw.draw [] [(0,0),(1,0),(2,0),(3,0),(4,0),(5,0),(6,0),(7,0),(8,0),(9,1),(10,0),(11,0),(12,1),(13,0),(14,0),(15,0),(16,1),(17,0),(18,0),(19,0),(20,1),(21,0),(22,0),(23,0)] mixed (by kernel_rfl) fun am F=>?_
     have bn:=a5.n F
     have k:=(((aw.up l5).up A).up h).up F
     refine Di O (Dv i O (Mw.p O O (fun _=>zte (xs:=x1) (I.ul bn) O) (Mw.p O O (fun _=>R.ge O O) (Db O (bs Y (fun a Y=>?_) fun a Y=>?_)))))
     ·exact dps 17 a O (Mw.p O O (fun _=>R.pk a O (v:=vB true) O) (Hb O (Mw.nil ((ag) ⟨true,am,O,F,O,Y⟩))))
     ·refine Wp a O (fun _=>R.mv (v:=J) O) (Wp a O (fun _=>R.mv (v:=vI e) O) (Wp a O (fun _=>R.add O O) ?_))
      obtain⟨bz,P,Y⟩:=ob Y
      refine Wp a O (fun _=>R.ix (α:=List Int) k.rd P O O O) ?_
      obtain⟨b0,c63,r64⟩:=(k.rd.at_ P).cell O
      refine Wq a O (fun _ c=>R.ld O O (zao (k.rd.at_ P).1 O c63 c)) (Wp a O (fun _=>R.mv (v:=vI d) O) ?_)
      obtain⟨an,Q,Y⟩:=ob Y
      refine Wp a O (fun _=>R.ix (α:=Int) r64 Q O O O) (Wq a O (fun _ c=>R.ld O O (zao (r64.at_ Q).1 O (r64.at_ Q).int c)) (Wp a O (fun _=>R.mv (v:=J) O) (Wp a O (fun _=>R.mv (v:=vI e) O) ?_)))
      obtain⟨b1,S,Y⟩:=ob Y
      refine Wp a O (fun _=>R.ix (α:=List Int) k.rd S O O O) ?_
      obtain⟨b2,c70,r71⟩:=(k.rd.at_ S).cell O
      refine Wq a O (fun _ c=>R.ld O O (zao (k.rd.at_ S).1 O c70 c)) (Wp a O (fun _=>R.mv (v:=vI d) O) (Wp a O (fun _=>R.add O O) ?_))
      obtain⟨ao,U,Y⟩:=ob Y
      exact Wp a O (fun _=>R.ix (α:=Int) r71 U O O O) (Wq a O (fun _ c=>R.ld O O (zao (r71.at_ U).1 O (r71.at_ U).int c)) (Wp a O (fun _=>R.ge O O) (Mw.p O O (fun _=>R.pk a O (v:=vB (decide (ao<=(an:Int)))) O) (Hb O (Mw.nil ((ag) ⟨decide (ao<=(an:Int)),am,O,F,O,Y⟩))))))
  ·refine Cw.draw [] [(0,0),(1,0),(2,0),(3,0),(4,0),(5,0),(6,0),(7,0),(8,1),(9,0),(10,0),(11,0),(12,1),(13,0),(14,0),(15,0)] mixed (by kernel_rfl) fun ap V=>?_
   have G:=C.n V
   have H:=I.ul G
   refine Di O (Dv i O (Mw.p O O (fun _=>zte (xs:=x1) H O) (Mw.p O O (fun _=>R.lt O O) (Db O (bs Y (fun b Y=>?_) fun b Y=>?_)))))
   ·refine Wp b O (fun _=>R.mv (v:=x) O) (Wp b O (fun _=>R.mv (v:=vI e) O) ?_)
    obtain⟨aq,W,Y⟩:=ob Y
    refine Wp b O (fun _=>R.ix (α:=Str) (y.ul G) W O O O) (Wq b O (fun _ c=>R.ld O O (zao ((y.ul G).at_ W).1 O ((y.ul G).at_ W).str c)) (Wp b O (fun _=>R.mv (v:=i) O) (Wp b O (fun _=>R.mv (v:=vI d) O) ?_)))
    obtain⟨ar,X,Y⟩:=ob Y
    exact Wp b O (fun _=>R.ix (α:=Str) H X O O O) (Wq b O (fun _ c=>R.ld O O (zao (H.at_ X).1 O (H.at_ X).str c)) (Wp b O (fun _=>R.seq O O) (Mw.p O O (fun _=>R.pk b O (v:=vB (aq==ar)) O) (Hb O (Mw.nil ((ag) ⟨(aq==ar),ap,O,V,O,Y⟩))))))
   ·exact dps 9 b O (Mw.p O O (fun _=>R.pk b O (v:=vB false) O) (Hb O (Mw.nil ((ag) ⟨false,ap,O,V,O,Y⟩))))
 ·refine Cw.exit ?_
  rw[a1]at Y
  refine sr (mv f O (Nv f O ?_))
  cases Y
  exact Cw.ret (zhX O (Res.mk C ⟨f,O,K.s.sub O O⟩))
theorem p156 {x0 b x1 d k0 r}(f:Rd W K [b] x0)(h:Rd W K [d] x1)(Y:Vm.zey x0 x1=some r):Q1 156 [b,d] W [] fun W' v=> ∃ a,v=a/\Ow W' k0 [] [a] r:=
 (c156 (f.view _) (h.view _) Y).ad (fk k0) fun _ _ ⟨a,e,i⟩=>⟨a,e,i.back (zgC _)⟩
theorem c197 {x0 f x1 e r}(h0:Rd W0 [0] [f] x0)(X:Rd W0 [0] [e] x1)(Y:Vm.zjq x0 x1=some r):Q0 197 [f,e] W0 fun Wf v=> ∃ u0,v=u0/\OwS Wf LL [] [u0] r:=by
 unfold Vm.zjq at Y
 refine zak.of Tryz.func197 O O O O (sr (Nv (.slice none 0 0) O (sr (Lw.t O (T.lit0 (α:=Hunk) 2 []) ?_))))
 rintro v1 _ ⟨W1,rfl,l1,o1⟩
 have a2:=l1.o
 refine Nv v1 O (sr (mv f O (mv e O (cr Y (fun _=>p156 (k0:=3) (h0.ul a2) (X.ul a2)) ?_))))
 rintro z5 eb W7 Y l7 ⟨_,rfl,ch⟩
 have a8:=a2.n l7
 refine mv e O (Lw.ln x1 (X.ul a8) O (Lw.t O (T.bs 4 [vI (x1.length:Int)] (cs:=[vI (x1.length:Int)]) O O (bsv O)) ?_))
 rintro _ _ ⟨ed,ee,rfl,rfl,ao,ci⟩
 have cj:=a8.n ao
 obtain⟨bl,ck,Y⟩:=ob Y
 refine Lw.t O (T.app1S (α:=Int) (K':=[]) (ch.up ao) ci (rdI _) O O ck) ?_
 rintro z _ ⟨bm,rfl,bn,cl⟩
 have cm:=cj.t bn
 refine Nv z O (sr (Ni O (sr (Ni O (ssr (Ni O (Cw.block ?_)))))))
 obtain⟨co,cp,Y⟩:=zaT Y
 refine Cw.loop 18 66 [5,7,8,9] (fun m l w=> ∃ B a d b i A,CW.w A=w/\Le [2,5,6] bm A/\l=[i,vI a,vI d,vI b]/\Ow A 2 [] [i] B/\Vm.zea x0 x1 bl co m B a d b=some r) _ ⟨([]:List Hunk),0,0,0,v1,bm,O,Le.refl _ _,O,(((o1.up l7).up ao).up bn),Y⟩ ?_
 rintro(_ |ef) _ _ σ ⟨B,a,d,b,i,A,rfl,ap,rfl,Z,Y⟩
 ·cases Y
 unfold Vm.zea at Y
 have bp:=cm.t ap
 have C:=cl.up ap
 refine ssr (mi O (mv z O (Lw.ln bl C.rd O (Lw.lt O (nl (cn Y (fun Y=>?_) fun Y=>?_))))))
 ·refine sk ?_
  obtain⟨cq,ct,Y⟩:=zaT Y
  refine Cw.join 24 66 [5,7,8] (fun l w=> ∃ aa ac ae af M,CW.w M=w/\Le [2,5,6] A M/\l=[af,vI ac,vI ae]/\Ow M 2 [] [af] aa/\cq aa ac ae=some r) ?_ ?_
  ·rintro _ _ σ ⟨aa,ac,ae,af,M,rfl,cu,rfl,cv,Y⟩
   rw[ct]at Y
   exact rg (mi O (Lw.add O (Ni O ((agm) ⟨aa,ac,ae,w64 (b+1),af,M,O,(ap.j cu).w,O,cv,Y⟩))))
  ·refine Cw.block (ssr (mv z O (mi O ?_)))
   obtain⟨eg,bq,Y⟩:=ob Y
   refine Lw.r O (R.ix (α:=Int) C.rd bq O O O) (Lw.r O (R.ld O O (C.rd.at_ bq).int) (Lw.lt O (nl (cn Y (fun Y=>?_) fun Y=>?_))))
   ·exact Cw.exit ((ag) ⟨B,a,d,i,A,O,Le.refl _ _,O,Z,Y⟩)
   ·refine sk ?_
    obtain⟨cw,cx,Y⟩:=zaT Y
    refine Cw.join 29 59 [5] (fun l w=> ∃ ah ai N,CW.w N=w/\Le [2,5,6] A N/\l=[ai]/\Ow N 2 [] [ai] ah/\cw ah=some r) ?_ ?_
    ·rintro _ _ σ ⟨ah,ai,N,rfl,aq,rfl,cy,Y⟩
     rw[cx]at Y
     refine sr (mi O (Lw.add O (Ni O (rg (mv z O (mi O ?_))))))
     obtain⟨cz,br,Y⟩:=ob Y
     exact Lw.r O (R.ix (α:=Int) (C.up aq).rd br O O O) (Lw.r O (R.ld O O ((C.up aq).rd.at_ br).int) (Lw.add O (Ni O ((ag) ⟨ah,w64 (b+1),w64 (cz+1),ai,N,O,aq,O,cy,Y⟩))))
    ·obtain⟨c0,c1,Y⟩:=zaT Y
     refine Cw.join 29 39 [39] (fun l w=> ∃ ar aj,CW.w aj=w/\Le [] A aj/\l=[vB ar]/\c0 ar=some r) ?_ ?_
     ·rintro _ _ σ ⟨ar,aj,rfl,G,rfl,Y⟩
      rw[c1]at Y
      have c2:=bp.n G
      refine cn Y (fun Y=>?_) fun Y=>?_
      ·obtain⟨P,bu,Y⟩:=ob Y
       obtain⟨H,c3,Y⟩:=ob Y
       obtain⟨y,bv,Y⟩:=ob Y
       obtain⟨Q,bw,Y⟩:=ob Y
       obtain⟨I,c4,Y⟩:=ob Y
       obtain⟨S,c5,Y⟩:=ob Y
       refine Cw.par [[],[],[],[],[],[],[3,4,5],[2,3,4,5,6],[],[],[],[],[],[11,12],[11,12,13],[9,10,11,12,13,14],[2,3,4,5,6,7,8,9,10,11,12,13,14,15],[1,2,3,4,5,6,7,8,9,10,11,12,13,14,15,16],[1,2,3,4,5,6,7,8,9,10,11,12,13,14,15,16,17],[0,1,2,3,4,5,6,7,8,9,10,11,12,13,14,15,16,17,18],[0,1,2,3,4,5,6,7,8,9,10,11,12,13,14,15,16,17,18,19]] [[21],[],[],[],[],[],[3,4,5],[2,6],[],[],[],[],[],[11,12],[13],[9,10,14],[8,15],[1,7,16],[7,16,17],[0,7,16,18,21],[19]] [[],[],[],[],[],[],[],[5],[],[],[],[],[],[],[],[],[6],[],[],[2,5,6],[]] [[0],[1],[2],[3],[4],[5],[6],[7],[8],[9],[10],[11],[12],[13],[14],[15],[16],[7,16,17],[7,16,18],[19],[19,20],[]] [[],[],[5],[],[],[],[0],[5],[6],[],[],[],[],[],[],[0],[6],[],[7],[2],[],[2]] [0,1,3,4,5,6,9,10,11,12,13,14,15,17,18,19,20] [2,5,6] [fun vs W=>(vs 0)=i,fun vs W=>(vs 1)=vI a,fun vs W=>Ow W 5 [] [(vs 2)] ([]:List Str),fun vs W=>(vs 3)=f,fun vs W=>(vs 4)=vI a,fun vs W=>(vs 5)=vI b,fun vs W=>(vs 6)=(cutV f (a:Int).toNat (b:Int).toNat (Rp.sz (Str)))/\Rd W [0] [(cutV f (a:Int).toNat (b:Int).toNat (Rp.sz (Str)))] P,fun vs W=>Ow W 5 [] [(vs 7)] H,fun vs W=>Ow W 6 [] [(vs 8)] ([]:List Str),fun vs W=>(vs 9)=e,fun vs W=>(vs 10)=vI d,fun vs W=>(vs 11)=z,fun vs W=>(vs 12)=vI b,fun vs W=>(vs 13)=ptr ((slA z).add ((b).toNat*Rp.sz (Int))),fun vs W=>(vs 14)=vI y,fun vs W=>(vs 15)=(cutV e (d:Int).toNat (y:Int).toNat (Rp.sz (Str)))/\Rd W [0] [(cutV e (d:Int).toNat (y:Int).toNat (Rp.sz (Str)))] Q,fun vs W=>Ow W 6 [] [(vs 16)] I,fun vs W=>(vs 17) = .agg [vI a,(vs 7),(vs 16)].toArray,fun vs W=>(vs 18) = .slice (some (bx (pg (vs 18)))) 1 1/\Bx W 7 (pg (vs 18)) [vI a,(vs 7),(vs 16)],fun vs W=>Ow W 2 [] [(vs 19)] S,fun vs W=>(vs 20)=(vs 19)] [fun _ W=>Ow W 2 [] [i] B] mixed (by kernel_rfl) O (zrK.cons (fun _ _ l=>(Z.up G).up l O) zrK.nil) ?_
       intro eh au
       have bz:=c2.n au
       have b0:=(C.up G).up au
       refine⟨(zaZ.cons ?_ (zaZ.cons ?_ (zaZ.cons ?_ (zaZ.cons ?_ (zaZ.cons ?_ (zaZ.cons ?_ (zaZ.cons ?_ (zaZ.cons ?_ (zaZ.cons ?_ (zaZ.cons ?_ (zaZ.cons ?_ (zaZ.cons ?_ (zaZ.cons ?_ (zaZ.cons ?_ (zaZ.cons ?_ (zaZ.cons ?_ (zaZ.cons ?_ (zaZ.cons ?_ (zaZ.cons ?_ (zaZ.cons ?_ (zaZ.cons ?_ zaZ.nil))))))))))))))))))))),(zdI.cons SE (zdI.cons SE (zdI.cons SO (zdI.cons SE (zdI.cons SE (zdI.cons SE (zdI.cons (fun vs vs' W W' _ hv l hd h=>by(show(vs' 6)=(cutV f (a:Int).toNat (b:Int).toNat (Rp.sz (Str)))/\Rd W' [0] [(cutV f (a:Int).toNat (b:Int).toNat (Rp.sz (Str)))] P);rw[hv 6 (zaD O)];exact⟨h.1,h.2.up l (zku hd (K:=[0]) O)⟩) (zdI.cons SO (zdI.cons SO (zdI.cons SE (zdI.cons SE (zdI.cons SE (zdI.cons SE (zdI.cons SE (zdI.cons SE (zdI.cons (fun vs vs' W W' _ hv l hd h=>by(show(vs' 15)=(cutV e (d:Int).toNat (y:Int).toNat (Rp.sz (Str)))/\Rd W' [0] [(cutV e (d:Int).toNat (y:Int).toNat (Rp.sz (Str)))] Q);rw[hv 15 (zaD O)];exact⟨h.1,h.2.up l (zku hd (K:=[0]) O)⟩) (zdI.cons SO (zdI.cons (fun vs vs' W W' _ hv l hd h=>by(show(vs' 17) = .agg [vI a,(vs' 7),(vs' 16)].toArray);rw[hv 7 (zaD O),hv 16 (zaD O),hv 17 (zaD O)];exact h) (zdI.cons (fun vs vs' W W' _ hv l hd h=>by(show(vs' 18) = .slice (some (bx (pg (vs' 18)))) 1 1/\Bx W' 7 (pg (vs' 18)) [vI a,(vs' 7),(vs' 16)]);rw[hv 7 (zaD O),hv 16 (zaD O),hv 18 (zaD O)];exact⟨h.1,h.2.up l (zca hd (c:=7) O)⟩) (zdI.cons SO (zdI.cons (fun vs vs' W W' _ hv l hd h=>by(show(vs' 20)=(vs' 19));rw[hv 19 (zaD O),hv 20 (zaD O)];exact h) (zdI.cons (fun _ _ _ _ _ _ l hd h=>h.upv l (zca hd (c:=2) O)) zdI.nil)))))))))))))))))))))),?_⟩
       ·intro vs c6 lW hN hV
        have ei:Ow c6 2 [] [i] B:=hN 21 (zaD O)
        have av:vs 20=i:=hV 20 (zaD O)
        obtain⟨vs,rfl⟩:=zav av
        exact Trq (R.mv (v:=i) O) O
       ·intro vs ej lW hN hV
        exact Trq (R.mv (v:=vI a) O) O
       ·intro vs ek lW hN hV
        refine Tr.mono (T.lit0 (α:=Str) 5 []) ?_
        rintro c7 _ ⟨b1,rfl,c8,c9⟩
        exact⟨b1,O,c8,(show Ow b1 5 [] [c7] ([]:List Str) from c9)⟩
       ·intro vs el lW hN hV
        exact Trq (R.mv (v:=f) O) O
       ·intro vs em lW hN hV
        exact Trq (R.mv (v:=vI a) O) O
       ·intro vs en lW hN hV
        exact Trq (R.mv (v:=vI b) O) O
       ·intro vs da lW hN hV
        have b2:=bz.t lW O
        have aw:vs 3=f:=(hN 3 (zaD O))
        obtain⟨vs,rfl⟩:=zav aw
        have ax:vs 4=vI a:=(hN 4 (zaD O))
        obtain⟨vs,rfl⟩:=zav ax
        have ay:vs 5=vI b:=(hN 5 (zaD O))
        obtain⟨vs,rfl⟩:=zav ay
        have r162:=(h0.ul b2).cutV bu
        exact Trq (R.sl (h0.ul b2) bu O (.inr O) (.inr O)) (show((cutV f (a:Int).toNat (b:Int).toNat (Rp.sz (Str))):Value)=(cutV f (a:Int).toNat (b:Int).toNat (Rp.sz (Str)))/\Rd da [0] [(cutV f (a:Int).toNat (b:Int).toNat (Rp.sz (Str)))] P from⟨O,r162⟩)
       ·intro vs b3 lW hN hV
        obtain⟨db,dc⟩: ∃ v,vs 2=v:=⟨_,O⟩
        obtain⟨vs,rfl⟩:=zav dc
        have dd:Ow b3 5 [] [db] ([]:List Str):=(hN 2 (zaD O))
        have az:vs 6=(cutV f (a:Int).toNat (b:Int).toNat (Rp.sz (Str))):=(hN 6 (zaD O)).1
        obtain⟨vs,rfl⟩:=zav az
        have de:Rd b3 [0] [(cutV f (a:Int).toNat (b:Int).toNat (Rp.sz (Str)))] P:=(hN 6 (zaD O)).2
        refine Tr.mono (T.appP (α:=Str) dd de O O c3) ?_
        rintro df _ ⟨b4,rfl,dg,dh⟩
        exact⟨b4,O,dg,(show Ow b4 5 [] [df] H from dh)⟩
       ·intro vs eo lW hN hV
        refine Tr.mono (T.lit0 (α:=Str) 6 []) ?_
        rintro di _ ⟨b5,rfl,dj,dk⟩
        exact⟨b5,O,dj,(show Ow b5 6 [] [di] ([]:List Str) from dk)⟩
       ·intro vs ep lW hN hV
        exact Trq (R.mv (v:=e) O) O
       ·intro vs er lW hN hV
        exact Trq (R.mv (v:=vI d) O) O
       ·intro vs es lW hN hV
        exact Trq (R.mv (v:=z) O) O
       ·intro vs et lW hN hV
        exact Trq (R.mv (v:=vI b) O) O
       ·intro vs eu lW hN hV
        have a0:vs 11=z:=(hN 11 (zaD O))
        obtain⟨vs,rfl⟩:=zav a0
        have a1:vs 12=vI b:=(hN 12 (zaD O))
        obtain⟨vs,rfl⟩:=zav a1
        exact Trq (R.ix (α:=Int) (b0.up lW O).rd bv O O O) O
       ·intro vs ew lW hN hV
        have a3:vs 13=ptr ((slA z).add ((b).toNat*Rp.sz (Int))):=(hN 13 (zaD O))
        obtain⟨vs,rfl⟩:=zav a3
        exact Trq (R.ld O O ((b0.up lW O).rd.at_ bv).int) O
       ·intro vs dl lW hN hV
        have b6:=bz.t lW O
        have a4:vs 9=e:=(hN 9 (zaD O))
        obtain⟨vs,rfl⟩:=zav a4
        have a5:vs 10=vI d:=(hN 10 (zaD O))
        obtain⟨vs,rfl⟩:=zav a5
        have a6:vs 14=vI y:=(hN 14 (zaD O))
        obtain⟨vs,rfl⟩:=zav a6
        have r211:=(X.ul b6).cutV bw
        exact Trq (R.sl (X.ul b6) bw O (.inr O) (.inr O)) (show((cutV e (d:Int).toNat (y:Int).toNat (Rp.sz (Str))):Value)=(cutV e (d:Int).toNat (y:Int).toNat (Rp.sz (Str)))/\Rd dl [0] [(cutV e (d:Int).toNat (y:Int).toNat (Rp.sz (Str)))] Q from⟨O,r211⟩)
       ·intro vs b7 lW hN hV
        obtain⟨dm,dn⟩: ∃ v,vs 8=v:=⟨_,O⟩
        obtain⟨vs,rfl⟩:=zav dn
        have dp:Ow b7 6 [] [dm] ([]:List Str):=(hN 8 (zaD O))
        have a7:vs 15=(cutV e (d:Int).toNat (y:Int).toNat (Rp.sz (Str))):=(hN 15 (zaD O)).1
        obtain⟨vs,rfl⟩:=zav a7
        have dq:Rd b7 [0] [(cutV e (d:Int).toNat (y:Int).toNat (Rp.sz (Str)))] Q:=(hN 15 (zaD O)).2
        refine Tr.mono (T.appP (α:=Str) dp dq O O c4) ?_
        rintro dr _ ⟨b8,rfl,ds,dt⟩
        exact⟨b8,O,ds,(show Ow b8 6 [] [dr] I from dt)⟩
       ·intro vs b9 lW hN hV
        have a9:vs 1=vI a:=(hN 1 (zaD O))
        obtain⟨vs,rfl⟩:=zav a9
        obtain⟨k,D⟩: ∃ v,vs 7=v:=⟨_,O⟩
        obtain⟨vs,rfl⟩:=zav D
        have du:Ow b9 5 [] [k] H:=(hN 7 (zaD O))
        obtain⟨x,E⟩: ∃ v,vs 16=v:=⟨_,O⟩
        obtain⟨vs,rfl⟩:=zav E
        have dv:Ow b9 6 [] [x] I:=(hN 16 (zaD O))
        exact Trq (R.bd (zs:=[vI 0, .slice none 0 0, .slice none 0 0]) (cs:=[vI a,k,x]) [(0,vI a),(1,k),(2,x)] O O O (zax O O (zax du.oc O (zax dv.oc O zcd)))) O
       ·intro vs cb lW hN hV
        obtain⟨k,D⟩: ∃ v,vs 7=v:=⟨_,O⟩
        obtain⟨vs,rfl⟩:=zav D
        have ex:Ow cb 5 [] [k] H:=(hN 7 (zaD O))
        obtain⟨x,E⟩: ∃ v,vs 16=v:=⟨_,O⟩
        obtain⟨vs,rfl⟩:=zav E
        have ey:Ow cb 6 [] [x] I:=(hN 16 (zaD O))
        have ba:vs 17 = .agg [vI a,k,x].toArray:=(hN 17 (zaD O))
        obtain⟨vs,rfl⟩:=zav ba
        refine Tr.mono (T.bs 7 [.agg [vI a,k,x].toArray] (cs:=[vI a,k,x]) O O (bsA O)) ?_
        rintro _ _ ⟨bb,cc,rfl,rfl,dw,dx⟩
        exact⟨cc,O,dw,(show(.slice (some (bx bb)) 1 1:Value) = .slice (some (bx bb)) 1 1/\Bx cc 7 bb [vI a,k,x] from⟨O,dx⟩)⟩
       ·intro vs ak lW hN hV
        have bc:vs 0=i:=(hN 0 (zaD O))
        obtain⟨vs,rfl⟩:=zav bc
        obtain⟨k,D⟩: ∃ v,vs 7=v:=⟨_,O⟩
        obtain⟨vs,rfl⟩:=zav D
        have dy:Ow ak 5 [] [k] H:=(hN 7 (zaD O))
        obtain⟨x,E⟩: ∃ v,vs 16=v:=⟨_,O⟩
        obtain⟨vs,rfl⟩:=zav E
        have dz:Ow ak 6 [] [x] I:=(hN 16 (zaD O))
        obtain⟨F,be⟩: ∃ F,vs 18 = .slice (some (bx F)) 1 1:=⟨_,((hN 18 (zaD O))).1⟩
        obtain⟨vs,rfl⟩:=zav be
        have d0:Bx ak 7 F [vI a,k,x]:=(hN 18 (zaD O)).2
        have d1:Ow ak 2 [] [i] B:=hN 21 (zaD O)
        refine Tr.mono (T.app1 (α:=Hunk) (J:=[5,6]) (K':=[]) d1 d0 (Hunk.own a H I dy.s dz.s) O O c5) ?_
        rintro d2 _ ⟨cd,rfl,d3,d4⟩
        exact⟨cd,O,d3,(show Ow cd 2 [] [d2] S from d4)⟩
       ·intro vs d5 lW hN hV
        obtain⟨L,bg⟩: ∃ v,vs 19=v:=⟨_,O⟩
        obtain⟨vs,rfl⟩:=zav bg
        have ez:Ow d5 2 [] [L] S:=(hN 19 (zaD O))
        exact Trq (R.as (v:=L) O) O
       ·intro vs U d6 hN
        have bc:vs 0=i:=(hN 0 (zaD O))
        obtain⟨vs,rfl⟩:=zav bc
        have a9:vs 1=vI a:=(hN 1 (zaD O))
        obtain⟨vs,rfl⟩:=zav a9
        have aw:vs 3=f:=(hN 3 (zaD O))
        obtain⟨vs,rfl⟩:=zav aw
        have ax:vs 4=vI a:=(hN 4 (zaD O))
        obtain⟨vs,rfl⟩:=zav ax
        have ay:vs 5=vI b:=(hN 5 (zaD O))
        obtain⟨vs,rfl⟩:=zav ay
        have az:vs 6=(cutV f (a:Int).toNat (b:Int).toNat (Rp.sz (Str))):=(hN 6 (zaD O)).1
        obtain⟨vs,rfl⟩:=zav az
        have e0:Rd U [0] [(cutV f (a:Int).toNat (b:Int).toNat (Rp.sz (Str)))] P:=(hN 6 (zaD O)).2
        have a4:vs 9=e:=(hN 9 (zaD O))
        obtain⟨vs,rfl⟩:=zav a4
        have a5:vs 10=vI d:=(hN 10 (zaD O))
        obtain⟨vs,rfl⟩:=zav a5
        have a0:vs 11=z:=(hN 11 (zaD O))
        obtain⟨vs,rfl⟩:=zav a0
        have a1:vs 12=vI b:=(hN 12 (zaD O))
        obtain⟨vs,rfl⟩:=zav a1
        have a3:vs 13=ptr ((slA z).add ((b).toNat*Rp.sz (Int))):=(hN 13 (zaD O))
        obtain⟨vs,rfl⟩:=zav a3
        have a6:vs 14=vI y:=(hN 14 (zaD O))
        obtain⟨vs,rfl⟩:=zav a6
        have a7:vs 15=(cutV e (d:Int).toNat (y:Int).toNat (Rp.sz (Str))):=(hN 15 (zaD O)).1
        obtain⟨vs,rfl⟩:=zav a7
        have e1:Rd U [0] [(cutV e (d:Int).toNat (y:Int).toNat (Rp.sz (Str)))] Q:=(hN 15 (zaD O)).2
        obtain⟨k,D⟩: ∃ v,vs 7=v:=⟨_,O⟩
        obtain⟨vs,rfl⟩:=zav D
        obtain⟨x,E⟩: ∃ v,vs 16=v:=⟨_,O⟩
        obtain⟨vs,rfl⟩:=zav E
        have ba:vs 17 = .agg [vI a,k,x].toArray:=(hN 17 (zaD O))
        obtain⟨vs,rfl⟩:=zav ba
        obtain⟨F,be⟩: ∃ F,vs 18 = .slice (some (bx F)) 1 1:=⟨_,((hN 18 (zaD O))).1⟩
        obtain⟨vs,rfl⟩:=zav be
        have e2:Bx U 7 F [vI a,k,x]:=(hN 18 (zaD O)).2
        obtain⟨L,bg⟩: ∃ v,vs 19=v:=⟨_,O⟩
        obtain⟨vs,rfl⟩:=zav bg
        have d7:Ow U 2 [] [L] S:=(hN 19 (zaD O))
        have av:vs 20=L:=(hN 20 (zaD O))
        obtain⟨vs,rfl⟩:=zav av
        exact(ag) ⟨S,L,U,O,((G.j au).j d6).w,O,d7,Y⟩
      ·exact sk ((ag) ⟨B,i,aj,O,G.w,O,(Z.up G),Y⟩)
     ·refine rg (mi O (mi O (Lw.gt O (mb O (bs Y (fun V Y=>?_) fun V Y=>?_)))))
      ·exact psk 6 V O (Pb V O (nl ((ag) ⟨true,A,O,Le.refl _ _,O,Y⟩)))
      ·refine wak 6 V (mv z O (mi O ?_))
       obtain⟨d8,ce,Y⟩:=ob Y
       exact Lw.r O (R.ix (α:=Int) C.rd ce O O O) (Lw.r O (R.ld O O (C.rd.at_ ce).int) (mi O (Lw.gt O (Pb V O (nl ((ag) ⟨decide (d< (d8:Int)),A,O,Le.refl _ _,O,Y⟩))))))
 ·refine Cw.exit ?_
  rw[cp]at Y
  refine sr (mv i O (Nv i O ?_))
  cases Y
  exact Cw.ret (zhX O (Res.mk bp ⟨i,O,Z.s.sub O O⟩))
theorem p197 {x0 b x1 d k0 r}(f:Rd W K [b] x0)(h:Rd W K [d] x1)(Y:Vm.zjq x0 x1=some r):Q1 197 [b,d] W [] fun W' v=> ∃ a,v=a/\Ow W' k0 [] [a] r:=
 (c197 (f.view _) (h.view _) Y).ad (fk k0) fun _ _ ⟨a,e,i⟩=>⟨a,e,i.back (zgC _)⟩
theorem c198 {x0 I x1 d x2 J x3 C r}(h0:Rd W0 [0] [I] x0)(b:Rd W0 [0] [d] x1)(h2:Rd W0 [0] [J] x2)(D:Rd W0 [0] [C] x3)(Y:Vm.zeV x0 x1 x2 x3=some r):Q0 198 [I,d,J,C] W0 fun Wf v=>v=vS r:=by
 unfold Vm.zeV at Y
 refine zak.of Tryz.func198 O O O O (sr (Ns O (ssr (Ni O (Cw.block ?_)))))
 obtain⟨K8,ap,Y⟩:=zaT Y
 refine Cw.loop 14 68 [8,9,10,11,12,13] (fun m l w=> ∃ E f T U V W K,CW.w K=w/\Le [] W0 K/\l=[vS E,vI f,T,U,V,W]/\Vm.zb3 x0 x1 x2 x3 K8 m E f=some r) _ ⟨([]:Str),0,undef,undef,undef,undef,W0,O,Le.refl _ _,O,Y⟩ ?_
 rintro(_ |m9) _ _ σ ⟨E,f,T,U,V,W,K,rfl,X,rfl,Y⟩
 ·cases Y
 unfold Vm.zb3 at Y
 have h:=X.o
 refine ssr (mi O (mv d O (Lw.ln x1 (b.ul h) O (Lw.lt O (nl (cn Y (fun Y=>?_) fun Y=>?_))))))
 ·refine sk (Cw.seq (Cw.block (sr (mv I O (mv d O (mi O ?_))))))
  obtain⟨a2,Z,Y⟩:=ob Y
  refine Lw.r O (R.ix (α:=File) (b.ul h) Z O O O) (Lw.fa O (Lw.r O (R.ld O O (File.at0 ((b.ul h).at_ Z)).str) (cr Y (fun _=>p155 (h0.ul h)) ?_)))
  rintro z _ aa Y ac ⟨i,rfl,aq⟩
  have a3:=aq.sub (M:=[0]) O
  have ar:=h.n ac
  refine mv (.tuple [i,vB z.2].toArray) O (Lw.r O (R.ext (vs:=[i,vB z.2]) (v:=i) O O) (Lw.r O (R.ext (vs:=[i,vB z.2]) (v:=vB z.2) O O) (Gv i O (Nb O (sr (Nb O (ssr (Ni O (Cw.block ?_)))))))))
  obtain⟨au,av,Y⟩:=zaT Y
  refine Cw.loop 30 49 [12,13] (fun m l w=> ∃ F e k,CW.w k=w/\Le [] aa k/\l=[vB F,vI e]/\Vm.zbe x1 x3 f au m F e=some r) _ ⟨true,0,aa,O,Le.refl _ _,O,Y⟩ ?_
  rintro(_ |a4) _ _ σ ⟨F,e,k,rfl,G,rfl,Y⟩
  ·cases Y
  unfold Vm.zbe at Y
  have x:=ar.n G
  refine ssr (mi O (mv C O (Lw.ln x3 (D.ul x) O (Lw.lt O (nl (cn Y (fun Y=>?_) fun Y=>?_))))))
  ·refine sk (Cw.seq (Cw.block (Cw.draw [] [(0,0),(1,0),(2,0),(3,0),(4,0),(5,0),(6,1),(7,0),(8,0),(9,0),(10,0),(11,1),(12,0),(13,0),(14,0)] mixed (by kernel_rfl) fun ae L=>?_)))
   have y:=x.n L
   refine Db O (Db O (bs Y (fun a Y=>?_) fun a Y=>?_))
   ·refine Wp a O (fun _=>R.mv (v:=C) O) (Wp a O (fun _=>R.mv (v:=vI e) O) ?_)
    obtain⟨af,N,Y⟩:=ob Y
    refine Wp a O (fun _=>R.ix (α:=Change) (D.ul y) N O O O) (Wp a O (fun _=>R.fa O) (Wq a O (fun _ c=>R.ld O O (zao (Change.at2 ((D.ul y).at_ N)).1 O (Change.at2 ((D.ul y).at_ N)).str c)) (Wp a O (fun _=>R.mv (v:=d) O) (Wp a O (fun _=>R.mv (v:=vI f) O) ?_))))
    obtain⟨ah,P,Y⟩:=ob Y
    exact Wp a O (fun _=>R.ix (α:=File) (b.ul y) P O O O) (Wp a O (fun _=>R.fa O) (Wq a O (fun _ c=>R.ld O O (zao (File.at0 ((b.ul y).at_ P)).1 O (File.at0 ((b.ul y).at_ P)).str c)) (Wp a O (fun _=>R.sne O O) (Mw.p O O (fun _=>R.pk a O (v:=vB (af.To !=ah.Path)) O) (Hb O (Mw.nil (rg (mi O (Lw.add O (Ni O ((agm) ⟨(af.To !=ah.Path),w64 (e+1),ae,O,(G.j L).w,O,Y⟩)))))))))))
   ·exact dps 11 a O (Mw.p O O (fun _=>R.pk a O (v:=vB false) O) (Hb O (Mw.nil (rg (mi O (Lw.add O (Ni O ((agm) ⟨false,w64 (e+1),ae,O,(G.j L).w,O,Y⟩))))))))
  ·refine Cw.exit ?_
   rw[av]at Y
   obtain⟨aw,ax,Y⟩:=zaT Y
   refine Cw.join 50 63 [63] (fun l w=> ∃ Q H,CW.w H=w/\Le [] k H/\l=[vB Q]/\aw Q=some r) ?_ ?_
   ·rintro _ _ σ ⟨Q,H,rfl,ai,rfl,Y⟩
    rw[ax]at Y
    have S:=x.n ai
    refine cn Y (fun Y=>?_) fun Y=>?_
    ·refine sr (mv d O (mi O ?_))
     obtain⟨a5,aj,Y⟩:=ob Y
     exact Lw.r O (R.ix (α:=File) (b.ul S) aj O O O) (Lw.fa O (Lw.r O (R.ld O O (File.at0 ((b.ul S).at_ aj)).str) (Ns O (.ret (rt Y S)))))
    ·exact sk (rg (mi O (Lw.add O (Ni O ((agm) ⟨E,w64 (f+1),i,vB z.2,vB F,vI e,H,O,(((X.j ac).j G).j ai).w,O,Y⟩)))))
   ·refine rg (mb O (Lw.r O (R.not O) (mb O (bs Y (fun A Y=>?_) fun A Y=>?_))))
    ·refine wak 1 A (mb O (Pb A O (mb O (bs Y (fun B Y=>?_) fun B Y=>?_))))
     ·refine wak 7 B (mv d O (mi O ?_))
      obtain⟨a6,ak,Y⟩:=ob Y
      refine Lw.r O (R.ix (α:=File) (b.ul x) ak O O O) (Lw.fa O ?_)
      obtain⟨a7,c52,r53⟩:=(File.at1 ((b.ul x).at_ ak)).cell O
      exact Lw.r O (R.ld O O c52) (mv J O (ca Y (fun _=>p196 r53 (h2.ul x)) fun ay az Y a0=>Pb B O (nl ((ag) ⟨ay,az,O,a0,O,Y⟩))))
     ·exact psk 7 B O (Pb B O (nl ((ag) ⟨false,k,O,Le.refl _ _,O,Y⟩)))
    ·exact psk 1 A O (Pb A O (mb O (psk 7 O O (Pb O O (nl ((ag) ⟨false,k,O,Le.refl _ _,O,Y⟩))))))
 ·refine Cw.exit ?_
  rw[ap]at Y
  exact sr (Ns O (.ret (rt Y h)))
theorem p198 {x0 a x1 b x2 d x3 f r}(h:Rd W K [a] x0)(i:Rd W K [b] x1)(k:Rd W K [d] x2)(x:Rd W K [f] x3)(Y:Vm.zeV x0 x1 x2 x3=some r):Q1 198 [a,b,d,f] W [] fun W' v=>v=vS r:=
 (c198 (h.view _) (i.view _) (k.view _) (x.view _) Y).ad (fk 0) fun _ _ e=>e
end Go.Sx
