/- Walks: each function answers as its model, printed by a program of ours. Conditions: the arguments read as they are given. -/
import Derived.Test.YtifbmanldeabeaaGreatDoorGTs
import Derived.Test.YtifbmanldeabeaaGreatDoorGM4
import Derived.Test.YtifbmanldeabeaaGreatDoorGW17
namespace Go.Sx
open Go Go.Proofs Go.Vm Rp
set_option linter.unusedVariables false
set_option linter.unusedSimpArgs false
variable {W W0:CW}{K:List Nat}
theorem c24 {x0 ak am x1 x2 r}(h0:Rd W0 [0] [ak,am] x0)(Y:Vm.zis x0 x1 x2=some r):Q0 24 [.agg [ak,am].toArray,vI x1,vS x2] W0 fun Wf v=> ∃ u0,v=u0/\OwS Wf LL [] [u0] r:=by
 unfold Vm.zis at Y
 obtain⟨cw,cx,ao,ap,bj⟩:=Repo.split h0
 simp only[List.cons.injEq,and_true,true_and]at ao
 obtain⟨rfl,rfl⟩:=ao
 refine zao.of Tryz.func24 O O O O (sr (bo 2 O fun g1 W1 l1 b1=>?_))
 have a2:=l1.o
 refine Nv (.slice none 0 0) O (sr (Lw.t O (T.lit0 (α:=Share) 3 []) ?_))
 rintro v3 _ ⟨W3,rfl,L,o3⟩
 have M:=a2.n L
 refine Nv v3 O (sr (la (b1.up L) (mi O (ms O (cr Y (fun _=>p59 (k0:=4) (Repo.rd (K:=[0]) x0.Commits x0.Heads (ap.ul M) (bj.ul M))) ?_)))))
 rintro z8 N av Y l10 ⟨_,rfl,aw⟩
 have bn:=M.n l10
 refine Nv N O (ssr (Ni O (Cw.block ?_)))
 obtain⟨bp,bq,Y⟩:=zaY Y
 refine Cw.loop 18 85 [7,9,10,11,12] (fun m l w=> ∃ e C a ax ay P k,CW.w k=w/\Le [3,5] av k/\l=[a,vI C,ax,ay,P]/\Ow k 3 [] [a] e/\Vm.zdm x0 z8 bp m e C=some r) _ ⟨([]:List Share),0,v3,undef,undef,undef,av,O,Le.refl _ _,O,(o3.up l10),Y⟩ ?_
 rintro(_ |c1) _ _ σ ⟨e,C,a,ax,ay,P,k,rfl,x,rfl,az,Y⟩
 ·cases Y
 unfold Vm.zdm at Y
 have a0:=bn.t x
 refine ssr (mi O (mv N O (Lw.ln z8 (aw.up x).rd O (Lw.lt O (nl (cn Y (fun Y=>?_) fun Y=>?_))))))
 ·refine sk ?_
  obtain⟨br,bu,Y⟩:=zaY Y
  refine Cw.join 24 85 [7,10,11,12] (fun l w=> ∃ D E Q S U y,CW.w y=w/\Le [3,5] k y/\l=[E,Q,S,U]/\Ow y 3 [] [E] D/\br D=some r) ?_ ?_
  ·rintro _ _ σ ⟨D,E,Q,S,U,y,rfl,bv,rfl,bw,Y⟩
   rw[bu]at Y
   exact rg (mi O (Lw.add O (Ni O ((agm) ⟨D,w64 (C+1),E,Q,S,U,y,O,(x.j bv).w,O,bw,Y⟩))))
  ·refine Cw.block (Cw.seq (Cw.draw [] [(0,0),(1,1),(2,0),(3,0),(4,0),(5,1),(6,0),(7,0),(8,1),(9,0)] mixed (by kernel_rfl) fun a1 f=>?_))
   have bz:=a0.n f
   have V:=(aw.up x).up f
   refine Dfl ((((b1.up L).up l10).up x).up f) O O O (Dv N O (Di O ?_))
   obtain⟨c2,W,Y⟩:=ob Y
   refine Mw.p O O (fun _=>R.ix (α:=Int) V.rd W O O O) (Mw.q O O (fun _ c=>R.ld O O (zaq (V.rd.at_ W).1 O (V.rd.at_ W).int c)) ?_)
   obtain⟨b,X,Y⟩:=ob Y
   have Z:=ap.ul bz
   refine Mw.p O O (fun _=>R.ix (α:=Commit) Z X O O O) (Df O (Mw.q O O (fun _ c=>R.ld O O (zaq (Commit.at1 (Z.at_ X)).1 O (Commit.at1 (Z.at_ X)).str c)) (Hs O (Mw.nil (sr (Ni O (Cw.seq (Cw.block ?_))))))))
   obtain⟨b0,b2,Y⟩:=zaY Y
   refine Cw.loop 33 47 [11] (fun m l w=> ∃ h i,CW.w i=w/\Le [] a1 i/\l=[vI h]/\Vm.zez e b b0 m h=some r) _ ⟨0,a1,O,Le.refl _ _,O,Y⟩ ?_
   rintro(_ |c3) _ _ σ ⟨h,i,rfl,F,rfl,Y⟩
   ·cases Y
   unfold Vm.zez at Y
   have G:=(az.up f).up F
   refine Cw.seq ?_
   obtain⟨b3,b4,Y⟩:=zaY Y
   refine Cw.join 33 45 [45] (fun l w=> ∃ aa d,CW.w d=w/\Le [] i d/\l=[vB aa]/\b3 aa=some r) ?_ ?_
   ·rintro _ _ σ ⟨aa,d,rfl,H,rfl,Y⟩
    rw[b4]at Y
    have I:=G.up H
    refine cn Y (fun Y=>?_) fun Y=>?_
    ·exact sk (Cw.block (rg (mi O (Lw.add O (Ni O ((agm) ⟨w64 (h+1),d,O,(F.j H).w,O,Y⟩))))))
    ·refine Cw.exit ?_
     rw[b2]at Y
     refine Cw.seq ?_
     obtain⟨b5,b6,Y⟩:=zaY Y
     refine Cw.join 48 60 [60] (fun l w=> ∃ ac ae,CW.w ae=w/\Le [] d ae/\l=[vB ac]/\b5 ac=some r) ?_ ?_
     ·rintro _ _ σ ⟨ac,ae,rfl,af,rfl,Y⟩
      rw[b6]at Y
      have z:=I.up af
      refine cn Y (fun Y=>?_) fun Y=>?_
      ·refine sr (mv a O (mi O (mv a O (mi O ?_))))
       obtain⟨c4,a3,Y⟩:=ob Y
       refine Lw.r O (R.ix (α:=Share) z.rd a3 O O O) (Lw.fa O (Lw.r O (R.ld O O (Share.at1 (z.rd.at_ a3)).int) (Lw.add O ?_)))
       obtain⟨c5,a5,Y⟩:=ob Y
       refine Lw.r O (R.ix (α:=Share) z.rd a5 O O O) (Lw.fa O ?_)
       obtain⟨b7,b8,Y⟩:=ob Y
       refine Lw.u (T.stH (α:=Share) (β:=Int) (J:=[]) (Ow.hole (α:=Share) (β:=Int) (jf:=1) z a5) (OwS.atm (K:=[]) (rdI _)) b8 O O O O) ?_
       rintro _ _ ⟨b9,rfl,cb,cc⟩
       exact nl (Cw.exit ((ag) ⟨b7,a,vS b.Who,vI h,P,b9,O,((((f.j F).j H).j af).j cb).w,O,cc,Y⟩))
      ·refine sk (sr (Lw.t O (T.lit0 (α:=Share) 5 []) ?_))
       rintro c6 _ ⟨c7,rfl,a6,cd⟩
       have ah:=z.up a6
       refine mv a O (mi O ?_)
       obtain⟨c8,a7,Y⟩:=ob Y
       have r91:=ah.rd.cutV a7
       refine Lw.r O (R.sl ah.rd a7 O (.inl ⟨O,O⟩) (.inr O)) ?_
       obtain⟨c9,ce,Y⟩:=ob Y
       refine Lw.t O (T.appP (α:=Share) cd r91 O O ce) ?_
       rintro a8 _ ⟨da,rfl,a9,cf⟩
       refine Nv a8 O (sr (mv a8 O (ms O (Lw.r O (R.bd (zs:=[vS ([]:Str),vI 0]) (cs:=[vS b.Who,vI 1]) [(0,vS b.Who),(1,vI 1)] O O O (zaA O O (zaA O O zc8))) (Lw.t O (T.bs 6 [.agg [vS b.Who,vI 1].toArray] (cs:=[vS b.Who,vI 1]) O O (bsA O)) ?_)))))
       rintro _ _ ⟨db,dc,rfl,rfl,ai,cg⟩
       obtain⟨dd,ch,Y⟩:=ob Y
       refine Lw.t O (T.app1S (α:=Share) (K':=[]) (cf.up ai) cg (Share.rd (K:=[]) b.Who 1) O O ch) ?_
       rintro aj _ ⟨de,rfl,ba,ci⟩
       have bb:=((ah.up a9).up ai).up ba
       refine Nv aj O (rg (mv aj O (mv a O (mi O ?_))))
       obtain⟨df,bc,Y⟩:=ob Y
       have r116:=bb.rd.cutV bc
       refine Lw.r O (R.sl bb.rd bc O (.inr O) (.inl ⟨O,O⟩)) ?_
       obtain⟨cj,ck,Y⟩:=ob Y
       refine Lw.t O (T.appP (α:=Share) ci r116 O O ck) ?_
       rintro be _ ⟨dg,rfl,cl,cm⟩
       refine Nv be O ?_
       obtain⟨co,cp,cq,ct⟩:=cm.dyeO 3
       exact(ag) ⟨cj,be,vS b.Who,vI h,aj,co,cp,(((((((((f.j F).j H).j af).j a6).j a9).j ai).j ba).j cl).j cq).w,O,ct,Y⟩
     ·refine rg (mi O (mv a O (Lw.ln e I.rd O (Lw.lt O (mb O (bs Y (fun A Y=>?_) fun A Y=>?_))))))
      ·refine wak 7 A (mv a O (mi O ?_))
       obtain⟨cu,bg,Y⟩:=ob Y
       exact Lw.r O (R.ix (α:=Share) I.rd bg O O O) (Lw.fa O (Lw.r O (R.ld O O (Share.at0 (I.rd.at_ bg)).str) (ms O (Lw.seq O (Pb A O (nl ((ag) ⟨(cu.Who==b.Who),d,O,Le.refl _ _,O,Y⟩)))))))
      ·exact psk 7 A O (Pb A O (nl ((ag) ⟨false,d,O,Le.refl _ _,O,Y⟩)))
   ·refine rg (mi O (mv a O (Lw.ln e G.rd O (Lw.lt O (mb O (bs Y (fun B Y=>?_) fun B Y=>?_))))))
    ·refine wak 7 B (mv a O (mi O ?_))
     obtain⟨cv,bh,Y⟩:=ob Y
     exact Lw.r O (R.ix (α:=Share) G.rd bh O O O) (Lw.fa O (Lw.r O (R.ld O O (Share.at0 (G.rd.at_ bh)).str) (ms O (Lw.r O (R.slt O O) (Pb B O (nl ((ag) ⟨Op.bytesLess cv.Who b.Who,i,O,Le.refl _ _,O,Y⟩)))))))
    ·exact psk 7 B O (Pb B O (nl ((ag) ⟨false,i,O,Le.refl _ _,O,Y⟩)))
 ·refine Cw.exit ?_
  rw[bq]at Y
  refine sr (mv a O (Nv a O ?_))
  cases Y
  exact Cw.ret (zik O (Res.mk a0 ⟨a,O,az.s.sub O O⟩))
theorem p24 {x0 b d x1 x2 k0 r}(f:Rd W K [b,d] x0)(Y:Vm.zis x0 x1 x2=some r):Q1 24 [.agg [b,d].toArray,vI x1,vS x2] W [] fun W' v=> ∃ a,v=a/\Ow W' k0 [] [a] r:=
 (c24 (f.view _) Y).ad (fk k0) fun _ _ ⟨a,e,h⟩=>⟨a,e,h.back (zgv _)⟩
theorem c23 {x0 b x1 e r}(d:Rd W0 [0] [b] x0)(f:Rd W0 [0] [e] x1)(Y:Vm.zit x0 x1=some r):Q0 23 [b,e] W0 fun Wf v=>v=vB r:=by
 unfold Vm.zit at Y
 refine zao.of Tryz.func23 O O O O (sr (Nb O (ssr (mv b O (Lw.ln x0 d O (mv e O (Lw.ln x1 f O (Lw.ne O (nl (cn Y (fun Y=>?_) fun Y=>?_))))))))))
 ·exact sr (Nb O (.ret (rt Y (Le.refl _ _))))
 ·refine sk (ssr (Ni O (Cw.block ?_)))
  obtain⟨B,C,Y⟩:=zaY Y
  refine Cw.loop 11 25 [4,5] (fun m l w=> ∃ h i k,CW.w k=w/\Le [] W0 k/\l=[vB h,vI i]/\Vm.zeA x0 x1 B m h i=some r) _ ⟨false,0,W0,O,Le.refl _ _,O,Y⟩ ?_
  rintro(_ |E) _ _ σ ⟨h,i,k,rfl,A,rfl,Y⟩
  ·cases Y
  unfold Vm.zeA at Y
  have x:=A.o
  refine ssr (mi O (mv b O (Lw.ln x0 (d.ul x) O (Lw.lt O (nl (cn Y (fun Y=>?_) fun Y=>?_))))))
  ·refine sk (Cw.seq (Cw.block (Cw.seq (Cw.draw [] [(0,0),(1,0),(2,0),(3,1),(4,0),(5,0),(6,0),(7,1),(8,0)] mixed (by kernel_rfl) fun D l10=>?_))))
   have a:=x.n l10
   refine Dv b O (Di O ?_)
   obtain⟨F,y,Y⟩:=ob Y
   refine Mw.p O O (fun _=>R.ix (α:=Share) (d.ul a) y O O O) ?_
   obtain⟨x15,c16,_,r17⟩:=((d.ul a).at_ y).cells
   obtain rfl:=Share.split r17
   refine Mw.q O O (fun _ c=>R.lda (zkz ((d.ul a).at_ y).1 O c16 c) O O) (Dv e O (Di O ?_))
   obtain⟨G,z,Y⟩:=ob Y
   refine Mw.p O O (fun _=>R.ix (α:=Share) (f.ul a) z O O O) ?_
   obtain⟨x21,c22,_,r23⟩:=((f.ul a).at_ z).cells
   obtain rfl:=Share.split r23
   refine Mw.q O O (fun _ c=>R.lda (zkz ((f.ul a).at_ z).1 O c22 c) O O) (Mw.p O O (fun _=>R.hne O O) (Mw.nil (cn Y (fun Y=>?_) fun Y=>?_)))
   ·exact sr (Nb O (.ret (rt Y a)))
   ·exact sk (rg (mi O (Lw.add O (Ni O ((agm) ⟨h,w64 (i+1),D,O,(A.j l10).w,O,Y⟩)))))
  ·refine Cw.exit ?_
   rw[C]at Y
   exact sr (Nb O (.ret (rt Y x)))
theorem p23 {x0 a x1 b r}(d:Rd W K [a] x0)(f:Rd W K [b] x1)(Y:Vm.zit x0 x1=some r):Q1 23 [a,b] W [] fun W' v=>v=vB r:=
 (c23 (d.view _) (f.view _) Y).ad (fk 0) fun _ _ e=>e
theorem c4 {x0 P r}(h0:Rd W0 [0] [P] x0)(ay:Gl 0 W0 [0])(Y:Vm.zhZ x0=some r):Q0 4 [P] W0 fun Wf v=>v=vB r:=by
 unfold Vm.zhZ at Y
 refine zao.of Tryz.func4 O O O O (sr (Nb O (ssr (mv P O (Lw.ln x0 h0 O (Lw.gt O (nl (cn Y (fun Y=>?_) fun Y=>?_))))))))
 ·exact sr (Nb O (.ret (rt Y (Le.refl _ _))))
 ·refine sk (sr (mv P O (cr Y (fun _=>p21 (k0:=2) (k1:=3) h0) ?_)))
  rintro a _ W4 Y l4 ⟨E,F,rfl,az,a0⟩
  have a5:=l4.o
  refine mv (.tuple [.agg [E,F].toArray,vI a.2.1,vS a.2.2].toArray) O (Lw.r O (R.ext (vs:=[.agg [E,F].toArray,vI a.2.1,vS a.2.2]) (v:= .agg [E,F].toArray) O O) (Lw.r O (R.ext (vs:=[.agg [E,F].toArray,vI a.2.1,vS a.2.2]) (v:=vI a.2.1) O O) (Lw.r O (R.ext (vs:=[.agg [E,F].toArray,vI a.2.1,vS a.2.2]) (v:=vS a.2.2) O O) (al 4 [.slice none 0 0, .slice none 0 0] fun g6 W6 G b6=>?_))))
  have a7:=a5.n G
  refine sta b6 (zaa (az.up G).oc (zaa (a0.up G).oc zaG)) fun b9 l10 ac=>?_
  have a1:=a7.t l10
  have ae:=(az.up G).up l10
  have af:=(a0.up G).up l10
  refine Gi O (Ns O (sr (la ac (mi O (ms O (cr Y (fun _=>p22 (K:=[0,2,3]) (k0:=5) (x0:=(Vm.Repo.mk a.1.Commits a.1.Heads)) ((Repo.rd (K:=[2,3]) a.1.Commits a.1.Heads (ae.rd.sub (M:=[2,3]) O) (af.rd.sub (M:=[2,3]) O)).sub (M:=[0,2,3]) O) ((ay.ul a1).sub (M:=[0,2,3]) O)) ?_))))))
  rintro ah k cb Y x ⟨_,rfl,a2⟩
  have bl:=a1.n x
  refine Nv k O (ssr (mv k O (la (ac.up x) (mi O (ms O (cr Y (fun _=>p24 (K:=[2,3]) (k0:=6) (x0:=(Vm.Repo.mk a.1.Commits a.1.Heads)) (Repo.rd (K:=[2,3]) a.1.Commits a.1.Heads ((ae.up x).rd.sub (M:=[2,3]) O) ((af.up x).rd.sub (M:=[2,3]) O))) ?_))))))
  rintro cc cd ce Y z ⟨_,rfl,bm⟩
  have bn:=bl.n z
  refine ca Y (fun _=>p23 (K:=[5,6]) ((a2.up z).rd.sub (M:=[5,6]) O) (bm.rd.sub (M:=[5,6]) O)) fun cf cg Y H=>?_
  have ai:=bn.n H
  have a3:=((ae.up x).up z).up H
  have a4:=((ac.up x).up z).up H
  refine Lw.r O (R.not O) (nl (cn Y (fun Y=>?_) fun Y=>?_))
  ·exact sr (Nb O (.ret (rt Y ai)))
  ·refine sk (sr (la a4 (mi O (ms O (cr Y (fun _=>p25 (K:=[0,2,3]) (k0:=7) (x0:=(Vm.Repo.mk a.1.Commits a.1.Heads)) ((Repo.rd (K:=[2,3]) a.1.Commits a.1.Heads (a3.rd.sub (M:=[2,3]) O) ((((af.up x).up z).up H).rd.sub (M:=[2,3]) O)).sub (M:=[0,2,3]) O) ((ay.ul ai).sub (M:=[0,2,3]) O)) ?_)))))
   rintro Q S a6 Y T ⟨_,rfl,a8⟩
   have bp:=ai.n T
   refine Nv S O (sr (Ni O (ssr (Ni O (Cw.block ?_)))))
   obtain⟨bq,br,Y⟩:=zaY Y
   refine Cw.loop 36 96 [2,8,9,10,11] (fun m l w=> ∃ U V e a9 ba I,CW.w I=w/\Le [] a6 I/\l=[vB U,vI V,vI e,a9,ba]/\Vm.zcr a ah Q bq m U V e=some r) _ ⟨false,0,0,undef,undef,a6,O,Le.refl _ _,O,Y⟩ ?_
   rintro(_ |ch) _ _ σ ⟨U,V,e,a9,ba,I,rfl,y,rfl,Y⟩
   ·cases Y
   unfold Vm.zcr at Y
   have bb:=bp.n y
   have aj:=(((a2.up z).up H).up T).up y
   refine ssr (mi O (mv k O (Lw.ln ah aj.rd O (Lw.lt O (nl (cn Y (fun Y=>?_) fun Y=>?_))))))
   ·refine sk (Cw.seq (Cw.block (sr (Ni O (ssr (Ni O (Cw.block ?_)))))))
    obtain⟨bu,bv,Y⟩:=zaY Y
    refine Cw.loop 42 64 [10,11] (fun m l w=> ∃ f J L,CW.w L=w/\Le [] I L/\l=[vI f,vI J]/\Vm.zcq a ah Q e bu m f J=some r) _ ⟨0,0,I,O,Le.refl _ _,O,Y⟩ ?_
    rintro(_ |ci) _ _ σ ⟨f,J,L,rfl,i,rfl,Y⟩
    ·cases Y
    unfold Vm.zcq at Y
    have bw:=bb.n i
    have bc:=(a8.up y).up i
    refine ssr (mi O (mv S O (Lw.ln Q bc.rd O (Lw.lt O (nl (cn Y (fun Y=>?_) fun Y=>?_))))))
    ·refine sk ?_
     obtain⟨bz,b0,Y⟩:=zaY Y
     refine Cw.join 48 64 [10] (fun l w=> ∃ W X,CW.w X=w/\Le [] L X/\l=[vI W]/\bz W=some r) ?_ ?_
     ·rintro _ _ σ ⟨W,X,rfl,b1,rfl,Y⟩
      rw[b0]at Y
      exact rg (mi O (Lw.add O (Ni O ((agm) ⟨W,w64 (J+1),X,O,(i.j b1).w,O,Y⟩))))
     ·refine Cw.block (Cw.seq (Cw.draw [] [(0,0),(1,1),(2,0),(3,0),(4,0),(5,1),(6,0),(7,0),(8,1),(9,0),(10,0),(11,0),(12,0),(13,1),(14,0)] mixed (by kernel_rfl) fun be A=>?_))
      have ak:=(((a3.up T).up y).up i).up A
      have am:=(aj.up i).up A
      have an:=bc.up A
      refine Dfl ((((a4.up T).up y).up i).up A) O O O (Dv S O (Di O ?_))
      obtain⟨cj,ao,Y⟩:=ob Y
      refine Mw.p O O (fun _=>R.ix (α:=Int) an.rd ao O O O) (Mw.q O O (fun _ c=>R.ld O O (zaq (an.rd.at_ ao).1 O (an.rd.at_ ao).int c)) ?_)
      obtain⟨ck,ap,Y⟩:=ob Y
      refine Mw.p O O (fun _=>R.ix (α:=Commit) ak.rd ap O O O) (Df O (Mw.q O O (fun _ c=>R.ld O O (zaq (Commit.at1 (ak.rd.at_ ap)).1 O (Commit.at1 (ak.rd.at_ ap)).str c)) (Dv k O (Di O ?_))))
      obtain⟨cl,aq,Y⟩:=ob Y
      refine Mw.p O O (fun _=>R.ix (α:=Share) am.rd aq O O O) (Df O (Mw.q O O (fun _ c=>R.ld O O (zaq (Share.at0 (am.rd.at_ aq)).1 O (Share.at0 (am.rd.at_ aq)).str c)) (Mw.p O O (fun _=>R.seq O O) (Mw.nil (cn Y (fun Y=>?_) fun Y=>?_)))))
      ·exact rg (mi O (Lw.add O (Ni O ((ag) ⟨w64 (f+1),be,O,A,O,Y⟩))))
      ·exact sk ((ag) ⟨f,be,O,A,O,Y⟩)
    ·refine Cw.exit ?_
     rw[bv]at Y
     refine Cw.seq ?_
     obtain⟨b2,b3,Y⟩:=zaY Y
     refine Cw.join 65 93 [93] (fun l w=> ∃ ar Z,CW.w Z=w/\Le [] L Z/\l=[vB ar]/\b2 ar=some r) ?_ ?_
     ·rintro _ _ σ ⟨ar,Z,rfl,bg,rfl,Y⟩
      rw[b3]at Y
      have b4:=bw.n bg
      refine cn Y (fun Y=>?_) fun Y=>?_
      ·exact sr (Nb O (.ret (rt Y b4)))
      ·exact sk (rg (mi O (mi O (Lw.add O (Ni O (rg (mi O (Lw.add O (Ni O ((agm) ⟨U,w64 (V+f),w64 (e+1),vI f,vI J,Z,O,((y.j i).j bg).w,O,Y⟩))))))))))
     ·refine Cw.draw [] [(0,0),(1,0),(2,0),(3,0),(4,0),(5,1),(6,0),(7,0),(8,0),(9,0),(10,0),(11,0),(12,0),(13,0),(14,0),(15,0),(16,0),(17,0),(18,0),(19,1),(20,0),(21,0),(22,0),(23,0),(24,0),(25,1),(26,0),(27,0),(28,0)] mixed (by kernel_rfl) fun aa N=>?_
      have h:=(aj.up i).up N
      refine Di O (Dv k O (Di O ?_))
      obtain⟨cm,au,Y⟩:=ob Y
      refine Mw.p O O (fun _=>R.ix (α:=Share) h.rd au O O O) (Df O (Mw.q O O (fun _ c=>R.ld O O (zaq (Share.at1 (h.rd.at_ au)).1 O (Share.at1 (h.rd.at_ au)).int c)) (Mw.p O O (fun _=>R.ne O O) (Db O (bs Y (fun B Y=>?_) fun B Y=>?_)))))
      ·exact dps 2 B O (Mw.p O O (fun _=>R.pk B O (v:=vB true) O) (Db O (dps 3 O O (dpu 12 O (dps 1 O O (Mw.p O O (fun _=>R.pk O O (v:=vB true) O) (Mw.nil ((ag) ⟨true,aa,O,N,O,Y⟩))))))))
      ·refine Wp B O (fun _=>R.mv (v:=vI f) O) (Wp B O (fun _=>R.eq O O) (Mw.p O O (fun _=>R.pk B O (v:=vB (f==0)) O) (Db O (bs Y (fun d Y=>?_) fun d Y=>?_))))
       ·exact dps 3 d O (dpu 12 O (dps 1 d O (Mw.p O O (fun _=>R.pk d O (v:=vB true) O) (Mw.nil ((ag) ⟨true,aa,O,N,O,Y⟩)))))
       ·refine Wp d O (fun _=>R.mv (v:=vI e) O) (Wp d O (fun _=>R.gt O O) (Wp d O (fun _=>R.mv (v:=vB (decide (0< (e:Int)))) O) (bs Y (fun b Y=>?_) fun b Y=>?_)))
        ·refine Wp b O (fun _=>R.mv (v:=k) O) (Wp b O (fun _=>R.mv (v:=vI e) O) ?_)
         obtain⟨C,av,Y⟩:=ob Y
         refine Wp b O (fun _=>R.ix (α:=Share) h.rd av O O O) (Wp b O (fun _=>R.fa O) (Wq b O (fun _ c=>R.ld O O (zaq (Share.at0 (h.rd.at_ av)).1 O (Share.at0 (h.rd.at_ av)).str c)) (Wp b O (fun _=>R.mv (v:=k) O) (Wp b O (fun _=>R.mv (v:=vI e) O) (Wp b O (fun _=>R.sub O O) ?_)))))
         obtain⟨D,aw,Y⟩:=ob Y
         exact Wp b O (fun _=>R.ix (α:=Share) h.rd aw O O O) (Wp b O (fun _=>R.fa O) (Wq b O (fun _ c=>R.ld O O (zaq (Share.at0 (h.rd.at_ aw)).1 O (Share.at0 (h.rd.at_ aw)).str c)) (Wp b O (fun _=>R.sle O O) (Wp d O (fun _=>R.pk b O (v:=vB (Op.bytesLess C.Who D.Who||C.Who==D.Who)) O) (Mw.p O O (fun _=>R.pk d O (v:=vB (Op.bytesLess C.Who D.Who||C.Who==D.Who)) O) (Mw.nil ((ag) ⟨(Op.bytesLess C.Who D.Who||C.Who==D.Who),aa,O,N,O,Y⟩)))))))
        ·exact dps 12 b O (Wp d O (fun _=>R.pk b O (v:=vB false) O) (Mw.p O O (fun _=>R.pk d O (v:=vB false) O) (Mw.nil ((ag) ⟨false,aa,O,N,O,Y⟩))))
   ·refine Cw.exit ?_
    rw[br]at Y
    exact sr (mi O (mv S O (Lw.ln Q (a8.up y).rd O (Lw.eq O (Nb O (.ret (rt Y bb)))))))
theorem p4 {x0 a r}(b:Rd W K [a] x0)(d:Gl 0 W K)(Y:Vm.zhZ x0=some r):Q1 4 [a] W [] fun W' v=>v=vB r:=
 (c4 (b.view _) (d.view _) Y).ad (fk 0) fun _ _ e=>e
end Go.Sx
