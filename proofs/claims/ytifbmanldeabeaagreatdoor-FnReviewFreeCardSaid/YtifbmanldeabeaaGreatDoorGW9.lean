/- Walks: each function answers as its model, printed by a program of ours. Conditions: the arguments read as they are given. -/
import Derived.Test.YtifbmanldeabeaaGreatDoorGTs
import Derived.Test.YtifbmanldeabeaaGreatDoorGM2
import Derived.Test.YtifbmanldeabeaaGreatDoorGW0
import Derived.Test.YtifbmanldeabeaaGreatDoorGW1
import Derived.Test.YtifbmanldeabeaaGreatDoorGW2
namespace Go.Sx
open Go Go.Proofs Go.Vm Rp
set_option linter.unusedVariables false
set_option linter.unusedSimpArgs false
variable {W W0:CW}{K:List Nat}
theorem c235 {x0 e x1 aw r}(x:Rd W0 [0] [e] x0)(h1:Rd W0 [0] [vS x1.Path,aw] x1)(Y:Vm.zgJ x0 x1=some r):Q0 235 [e, .agg [vS x1.Path,aw].toArray] W0 fun Wf v=> ∃ u0,v=u0/\OwS (α:=List (Sh Vm.File)) Wf LL [0] [u0] r:=by
 unfold Vm.zgJ at Y
 obtain⟨dr,ay,az⟩:=File.split h1
 simp only[List.cons.injEq,and_true,true_and]at ay
 obtain rfl:=ay
 refine zao.of Tryz.func235 O O O O (sr (bo 2 O fun g1 W1 l1 b1=>?_))
 have a2:=l1.o
 refine Nv (.slice none 0 0) O (sr (Lw.t O (T.lit0 (α:=File) 3 []) ?_))
 rintro v3 _ ⟨W3,rfl,l3,o3⟩
 have a4:=a2.n l3
 refine Nv v3 O (sr (Nb O (ssr (Ni O (Cw.block ?_)))))
 obtain⟨bw,bz,Y⟩:=zaY Y
 obtain⟨a3,b0,a5,b2⟩:=o3.toSh
 have b3:=a4.t a5
 rw[<- b0]
 refine Cw.loop 9 51 [5,6,7] (fun m l w=> ∃ (y:List Vm.File) (P:Bool) (z:Int) (d:Value) (b:CW),b.w=w/\Le [3,5] a3 b/\l=[d,vB P,vI z]/\Ow (α:=List (Sh Vm.File)) b 3 [0] [d] y/\Vm.zeI x0 x1 bw m y P z=some r) _ ⟨([]:List File),false,0,v3,a3,O,Le.refl _ _,O,b2,Y⟩ ?_
 rintro(_ |dv) _ _ σ ⟨y,P,z,d,b,rfl,an,rfl,Q,Y⟩
 ·cases Y
 unfold Vm.zeI at Y
 have f:=b3.t an
 have A:=((b1.up l3).up a5).up an
 refine ssr (mi O (mv e O (Lw.ln x0 (x.ul f) O (Lw.lt O (nl (cn Y (fun Y=>?_) fun Y=>?_))))))
 ·refine sk ?_
  obtain⟨b4,b5,Y⟩:=zaY Y
  refine Cw.join 15 51 [5,6] (fun l w=> ∃ (S:List Vm.File) (U:Bool) (V:Value) (B:CW),B.w=w/\Le [3,5] b B/\l=[V,vB U]/\Ow (α:=List (Sh Vm.File)) B 3 [0] [V] S/\b4 S U=some r) ?_ ?_
  ·rintro _ _ σ ⟨S,U,V,B,rfl,b6,rfl,b7,Y⟩
   rw[b5]at Y
   exact rg (mi O (Lw.add O (Ni O ((agm) ⟨S,U,w64 (z+1),V,B,O,(an.j b6).w,O,b7,Y⟩))))
  ·refine Cw.block ?_
   obtain⟨b8,b9,Y⟩:=zaY Y
   refine Cw.join 15 36 [5,6] (fun l w=> ∃ (W:List Vm.File) (C:Bool) (D:Value) (X:CW),X.w=w/\Le [3,5] b X/\l=[D,vB C]/\Ow (α:=List (Sh Vm.File)) X 3 [0] [D] W/\b8 W C=some r) ?_ ?_
   ·rintro _ _ σ ⟨W,C,D,X,rfl,Z,rfl,a6,Y⟩
    rw[b9]at Y
    have cb:=f.t Z
    refine Cw.seq (Cw.draw [] [(0,0),(1,0),(2,0),(3,0),(4,1),(5,0),(6,1),(7,0)] mixed (by kernel_rfl) fun cc h=>?_)
    have cd:=cb.n h
    refine Dv e O (Di O ?_)
    obtain⟨dw,ao,Y⟩:=ob Y
    have E:=x.ul cd
    refine Mw.p O O (fun _=>R.ix (α:=File) E ao O O O) (Df O (Mw.q O O (fun _ c=>R.ld O O (zaq (File.at0 (E.at_ ao)).1 O (File.at0 (E.at_ ao)).str c)) (Dfl ((A.up Z).up h) O O O (Mw.p O O (fun _=>R.sne O O) (Mw.nil (cn Y (fun Y=>?_) fun Y=>?_))))))
    ·refine rg (mv D O (mv e O (mi O ?_)))
     obtain⟨aa,a7,Y⟩:=ob Y
     refine Lw.r O (R.ix (α:=File) E a7 O O O) ?_
     obtain⟨x47,c48,_,r49⟩:=(E.at_ a7).cells
     obtain⟨a8,rfl,r51⟩:=File.split r49
     refine Lw.r O (R.lda c48 O O) (Lw.t O (T.bs 4 [.agg [vS aa.Path,a8].toArray] (cs:=[vS aa.Path,a8]) O O (bsA O)) ?_)
     rintro _ _ ⟨dx,dy,rfl,rfl,ap,ce⟩
     have cf:=ap.o
     obtain⟨cg,ch,Y⟩:=ob Y
     refine Lw.t O (T.app1S (α:=Sh Vm.File) (K':=[0]) ((a6.up h).up ap) ce (File.rd (K:=[0]) aa.Path aa.Text (r51.ul cf)).sh1 O O ch) ?_
     rintro a9 _ ⟨ci,rfl,cj,ck⟩
     exact Nv a9 O ((ag) ⟨cg,C,a9,ci,O,(((Z.j h).j ap).j cj).w,O,ck,Y⟩)
    ·exact sk ((ag) ⟨W,C,D,cc,O,(Z.j h).w,O,(a6.up h),Y⟩)
   ·obtain⟨cl,cm,Y⟩:=zaY Y
    refine Cw.join 15 26 [26] (fun l w=> ∃ aq ac,CW.w ac=w/\Le [] b ac/\l=[vB aq]/\cl aq=some r) ?_ ?_
    ·rintro _ _ σ ⟨aq,ac,rfl,i,rfl,Y⟩
     rw[cm]at Y
     have co:=f.n i
     refine cn Y (fun Y=>?_) fun Y=>?_
     ·refine Cw.seq (Cw.draw [3,5] [(0,0),(1,0),(2,1),(4,0),(5,1),(3,2),(6,2),(7,0),(8,2),(9,2),(10,0)] mixed (by kernel_rfl) fun dz ae=>?_)
      have cp:=co.n ae
      have ba:=(A.up i).up ae
      refine Dv d O (Dfl ba O O O (Dfl ba O O O (Mw.t O O (T.lit0 (α:=Str) 5 []) ?_)))
      rintro d0 _ ⟨d1,rfl,F,cq⟩
      have ct:=cp.n F
      refine m0 F fun cu=>?_
      obtain⟨bb,cv,Y⟩:=ob Y
      refine Mw.t O O (T.appP (α:=Str) cq (az.ul ct) O O cv) ?_
      rintro G _ ⟨d2,rfl,af,bc⟩
      refine mc cu af fun cw=>Mw.p O O (fun _=>R.bd (zs:=[vS ([]:Str), .slice none 0 0]) (cs:=[vS x1.Path,G]) [(0,vS x1.Path),(1,G)] O O O (zaA O O (zaA bc.oc O zc8))) (Mw.t O O (T.bs 6 [.agg [vS x1.Path,G].toArray] (cs:=[vS x1.Path,G]) O O (bsA O)) ?_)
      rintro _ _ ⟨d3,d4,rfl,rfl,H,cx⟩
      refine mc cw H fun d5=>?_
      obtain⟨cy,cz,ah,c0⟩:=zmg _ 5
      rw[<- cz]
      have c1:Rd (α:=List Str) cy [0] [G] bb:=by rw[c0];exact((bc.up H).rd.dye 5).sub (M:=[0]) O
      obtain⟨c2,c3,Y⟩:=ob Y
      refine Mw.t O O (T.app1S (α:=Sh Vm.File) (K':=[0]) ((((((Q.up i).up ae).up F).up af).up H).up ah) (cx.up ah) (File.rd (K:=[0]) x1.Path bb c1).sh1 O O c3) ?_
      rintro be _ ⟨c4,rfl,bg,c5⟩
      refine⟨⟨_,O,((F.sub (M:=[3,5]) O).trans ((af.sub (M:=[3,5]) O).trans ((H.sub (M:=[3,5]) O).trans ((ah.sub (M:=[3,5]) O).trans (bg.sub (M:=[3,5]) O)))))⟩,?_⟩
      exact Hv be O (Mw.nil (rg (Nb O ((ag) ⟨c2,true,be,c4,O,((((((i.j ae).j F).j af).j H).j ah).j bg).w,O,c5,Y⟩))))
     ·exact sk ((ag) ⟨y,P,d,ac,O,i.w,O,(Q.up i),Y⟩)
    ·refine Cw.draw [] [(0,0),(1,0),(2,0),(3,0),(4,0),(5,0),(6,0),(7,1),(8,0),(9,1),(10,0),(11,0)] mixed (by kernel_rfl) fun bh ai=>?_
     have ar:=f.n ai
     refine Db O (Mw.p O O (fun _=>R.not O) (Db O (bs Y (fun a Y=>?_) fun a Y=>?_)))
     ·refine Wp a O (fun _=>R.mv (v:=e) O) (Wp a O (fun _=>R.mv (v:=vI z) O) ?_)
      obtain⟨bi,au,Y⟩:=ob Y
      exact Wp a O (fun _=>R.ix (α:=File) (x.ul ar) au O O O) (Wp a O (fun _=>R.fa O) (Wq a O (fun _ c=>R.ld O O (zaq (File.at0 ((x.ul ar).at_ au)).1 O (File.at0 ((x.ul ar).at_ au)).str c)) (Wp a O (fun _=>R.fa O) (Wq a O (fun _ c=>R.ld (v:=vS x1.Path) O O ((A.up ai).clc O O c)) (Wp a O (fun _=>R.sge O O) (Mw.p O O (fun _=>R.pk a O (v:=vB (!Op.bytesLess bi.Path x1.Path)) O) (Mw.nil ((ag) ⟨(!Op.bytesLess bi.Path x1.Path),bh,O,ai,O,Y⟩))))))))
     ·exact dps 8 a O (Mw.p O O (fun _=>R.pk a O (v:=vB false) O) (Mw.nil ((ag) ⟨false,bh,O,ai,O,Y⟩)))
 ·refine Cw.exit ?_
  rw[bz]at Y
  obtain⟨c6,c7,Y⟩:=zaY Y
  refine Cw.join 52 63 [5] (fun l w=> ∃ (av:List Vm.File) (k:Value) (aj:CW),aj.w=w/\Le [3,7] b aj/\l=[k]/\Ow (α:=List (Sh Vm.File)) aj 3 [0] [k] av/\c6 av=some r) ?_ ?_
  ·rintro _ _ σ ⟨av,k,aj,rfl,c8,rfl,c9,Y⟩
   rw[c7]at Y
   have da:=f.t c8
   refine sr (mv k O (Nv k O ?_))
   cases Y
   exact Cw.ret (zik O (Res.mk da ⟨k,O,c9.s.sub O O⟩))
  ·refine sr (mb O (Lw.r O (R.not O) (nl (cn Y (fun Y=>?_) fun Y=>?_))))
   ·refine Cw.draw [3,7] [(0,0),(1,0),(2,1),(4,0),(5,1),(3,2),(6,2),(7,0),(8,2),(9,2),(10,0)] mixed (by kernel_rfl) fun d6 I=>?_
    have db:=f.n I
    refine Dv d O (Dfl (A.up I) O O O (Dfl (A.up I) O O O (Mw.t O O (T.lit0 (α:=Str) 7 []) ?_)))
    rintro d7 _ ⟨d8,rfl,J,dc⟩
    have dd:=db.n J
    refine m0 J fun de=>?_
    obtain⟨bj,df,Y⟩:=ob Y
    refine Mw.t O O (T.appP (α:=Str) dc (az.ul dd) O O df) ?_
    rintro L _ ⟨d9,rfl,ak,bk⟩
    refine mc de ak fun dg=>Mw.p O O (fun _=>R.bd (zs:=[vS ([]:Str), .slice none 0 0]) (cs:=[vS x1.Path,L]) [(0,vS x1.Path),(1,L)] O O O (zaA O O (zaA bk.oc O zc8))) (Mw.t O O (T.bs 8 [.agg [vS x1.Path,L].toArray] (cs:=[vS x1.Path,L]) O O (bsA O)) ?_)
    rintro _ _ ⟨ea,eb,rfl,rfl,N,dh⟩
    refine mc dg N fun ec=>?_
    obtain⟨di,dj,am,dk⟩:=zmg _ 7
    rw[<- dj]
    have dl:Rd (α:=List Str) di [0] [L] bj:=by rw[dk];exact((bk.up N).rd.dye 7).sub (M:=[0]) O
    obtain⟨dm,dn,Y⟩:=ob Y
    refine Mw.t O O (T.app1S (α:=Sh Vm.File) (K':=[0]) (((((Q.up I).up J).up ak).up N).up am) (dh.up am) (File.rd (K:=[0]) x1.Path bj dl).sh1 O O dn) ?_
    rintro bl _ ⟨dp,rfl,bm,dq⟩
    refine⟨⟨_,O,((J.sub (M:=[3,7]) O).trans ((ak.sub (M:=[3,7]) O).trans ((N.sub (M:=[3,7]) O).trans ((am.sub (M:=[3,7]) O).trans (bm.sub (M:=[3,7]) O)))))⟩,?_⟩
    exact Hv bl O (Mw.nil ((ag) ⟨dm,bl,dp,O,(((((I.j J).j ak).j N).j am).j bm).w,O,dq,Y⟩))
   ·exact sk ((ag) ⟨y,d,b,O,Le.refl _ _,O,Q,Y⟩)
theorem p235 {x0 b x1 d k0 r}(f:Rd W K [b] x0)(h:Rd W K [vS x1.Path,d] x1)(Y:Vm.zgJ x0 x1=some r):Q1 235 [b, .agg [vS x1.Path,d].toArray] W [] fun W' v=> ∃ a,v=a/\Ow (α:=List (Sh Vm.File)) W' k0 (0::K) [a] r:=
 (c235 (f.view _) (h.view _) Y).ad (fk k0) fun _ _ ⟨a,e,i⟩=>⟨a,e,i.backS (zgv _) O⟩
theorem c214 {x0 b x1 d r}(e:Rd W0 [0] [b] x0)(N:Rd W0 [0] [vS x1.Path,d] x1)(Y:Vm.zfm x0 x1=some r):Q0 214 [b, .agg [vS x1.Path,d].toArray] W0 fun Wf v=> ∃ k,v = .tuple [k,vB r.2].toArray/\OwS (α:=List (Sh Vm.File)) Wf LL [0] [k] r.1:=by
 unfold Vm.zfm at Y
 obtain⟨ar,x,P⟩:=File.split N
 simp only[List.cons.injEq,and_true,true_and]at x
 obtain rfl:=x
 refine zao.of Tryz.func214 O O O O (sr (bo 2 O fun g1 W1 Q S=>?_))
 have y:=Q.o
 refine Gv (.slice none 0 0) O (Nb O (ssr (mv b O (ca Y (fun _=>p82 (e.ul y)) fun z4 W6 Y z=>?_))))
 have A:=y.n z
 refine Lw.r O (R.not O) (nl (cn Y (fun Y=>?_) fun Y=>?_))
 ·refine sr (Gv (.slice none 0 0) O (Nb O ?_))
  cases Y
  exact Cw.ret (zph O O (Res.mk A ⟨.slice none 0 0,O,(zts [0]).sub O O⟩))
 ·refine sk (Cw.seq (Cw.draw [] [(0,0),(2,1),(1,2),(3,3),(4,0)] mixed (by kernel_rfl) fun ay l10=>?_))
  have B:=A.n l10
  refine Dv b O (Mw.q O O (fun _ c=>R.lda (cs:=[vS x1.Path,d]) (((S.up z).up l10).clcs O c) O O) ?_)
  obtain⟨U,V,Y⟩:=ob Y
  refine Mw.t O O (T.call O (p138 (k0:=3) (e.ul B) V)) ?_
  rintro W _ ⟨az,rfl,C,⟨_,rfl,D⟩⟩
  have E:=B.n C
  refine m0 C fun a0=>?_
  obtain⟨f,X,Y⟩:=ob Y
  refine Mw.l O O (T.call O (p235 (K:=[0,3]) (k0:=4) (D.rd.sub (M:=[0,3]) O) ((File.rd (K:=[0]) x1.Path x1.Text (P.ul E)).sub (M:=[0,3]) O) X)) ?_
  rintro a _ ⟨F,rfl,G,⟨_,rfl,Z⟩⟩
  have H:Ow (α:=List (Sh Vm.File)) F 4 [0,3] [a] f:=Z.sub O
  have aa:=E.n G
  refine Hv a O (Mw.nil (ssr (mv a O ?_)))
  have ac:Rd (α:=List Vm.File) F [4,0,3] [a] f:=Ow.rdSh H
  refine ca Y (fun _=>p82 (K:=[0,3,4]) (ac.sub (M:=[0,3,4]) O)) fun a1 a3 Y h=>?_
  have i:=aa.n h
  refine Lw.r O (R.not O) (nl (cn Y (fun Y=>?_) fun Y=>?_))
  ·refine sr (mv b O (cr Y (fun _=>p138 (k0:=5) (e.ul i)) ?_))
   rintro a4 I a5 Y ae ⟨_,rfl,af⟩
   have ah:=i.n ae
   refine Gv I O (Nb O ?_)
   obtain⟨a6,ai,aj,ak⟩:=af.toSh
   have am:=ah.t aj
   cases Y
   rw[<- ai]
   exact Cw.ret (zph O O (Res.mk am ⟨I,O,ak.s.sub O O⟩))
  ·refine sk (sr (mv a O (Gv a O (Nb O ?_))))
   obtain⟨J,an,ao,L⟩:=zmg _ 3
   have a8:Rd (α:=List Vm.File) J [0] [W] U:=by rw[L];exact(((D.up G).up h).rd.dye 3).sub (M:=[0]) O
   have ap:Ow (α:=List (Sh Vm.File)) J 4 [0] [a] f:=by rw[L];exact((H.up h).dyeA 3 O).sub O
   have aq:=i.t ao
   cases Y
   rw[<- an]
   exact Cw.ret (zph O O (Res.mk aq ⟨a,O,ap.s.sub O O⟩))
theorem p214 {x0 b x1 d k0 r}(f:Rd W K [b] x0)(h:Rd W K [vS x1.Path,d] x1)(Y:Vm.zfm x0 x1=some r):Q1 214 [b, .agg [vS x1.Path,d].toArray] W [] fun W' v=> ∃ a,v = .tuple [a,vB r.2].toArray/\Ow (α:=List (Sh Vm.File)) W' k0 (0::K) [a] r.1:=
 (c214 (f.view _) (h.view _) Y).ad (fk k0) fun _ _ ⟨a,e,i⟩=>⟨a,e,i.backS (zgv _) O⟩
theorem c236 {x0 E F x1 x2 x3 ac r}(h0:Rd W0 [0] [E,F] x0)(h3:Rd W0 [0] [ac] x3)(Y:Vm.ze2 x0 x1 x2 x3=some r):Q0 236 [.agg [E,F].toArray,vS x1,vS x2,ac] W0 fun Wf v=> ∃ bq br,v = .tuple [.agg [bq,br].toArray,vB r.2].toArray/\Rd Wf [0] [bq] r.1.Commits/\Rd Wf [0] [br] r.1.Heads:=by
 unfold Vm.ze2 at Y
 obtain⟨e1,e2,bu,J,L⟩:=Repo.split h0
 simp only[List.cons.injEq,and_true,true_and]at bu
 obtain⟨rfl,rfl⟩:=bu
 refine zao.of Tryz.func236 O O O O (sr (bo 2 O fun g1 W1 l1 b1=>?_))
 have a2:=l1.o
 refine al 3 [.slice none 0 0, .slice none 0 0] fun g3 W3 l3 b3=>?_
 have a4:=a2.n l3
 refine Nb O (ssr (la (b1.up l3) (ca Y (fun _=>p34 (Repo.rd (K:=[0]) x0.Commits x0.Heads (J.ul a4) (L.ul a4))) fun z8 e8 Y l10=>?_)))
 have ah:=a4.n l10
 refine Lw.r O (R.not O) (nl (cn Y (fun Y=>?_) fun Y=>?_))
 ·refine sr (Lw.r O (R.bd (zs:=[.slice none 0 0, .slice none 0 0]) (cs:=[.slice none 0 0, .slice none 0 0]) [] O O O zc8) (sta (b3.up l10) (zaa O (zaa O zaG)) fun e9 cy cz=>?_))
  have c0:=ah.t cy
  refine Nb O ?_
  cases Y
  exact Cw.ret (zfY O cz O (Res.mk c0 ⟨.slice none 0 0, .slice none 0 0,O,(rdN (K:=[0])),(rdN (K:=[0]))⟩))
 ·refine sk (sr (ms O (mv ac O (cr Y (fun _=>p138 (k0:=4) (h3.ul ah)) ?_))))
  rintro bz U fb Y ai ⟨_,rfl,aj⟩
  have c1:=ah.n ai
  refine Lw.r O (R.bd (zs:=[.slice none 0 0,vS ([]:Str), .slice none 0 0]) (cs:=[.slice none 0 0,vS x2,U]) [(1,vS x2),(2,U)] O O O (zaA O O (zaA aj.oc O zc8))) (al 5 [.slice none 0 0,vS ([]:Str), .slice none 0 0] fun c2 fc N c3=>?_)
  have c4:=c1.n N
  refine sta c3 (zaa O (zaa O (zaa (aj.up N).oc zaG))) fun c5 V b0=>?_
  have X:=c4.t V
  have ak:=((((b1.up l3).up l10).up ai).up N).up V
  refine nl ?_
  obtain⟨c6,c7,Y⟩:=zaY Y
  refine Cw.join 20 28 [] (fun l w=> ∃ G k H x y I,CW.w I=w/\Le [5,12] c5 I/\l=[]/\Ow I 6 [] [x] G/\Ow I 4 [] [y] H/\Bx I 5 c2 [x,vS k,y]/\c6 G k H=some r) ?_ ?_
  ·rintro _ _ σ ⟨G,k,H,x,y,I,rfl,am,rfl,b2,b4,c8,Y⟩
   rw[c7]at Y
   have c9:=X.t am
   refine Cw.seq ?_
   obtain⟨b,da,Y⟩:=ob Y
   obtain⟨a,db,Y⟩:=ob Y
   refine Cw.par [[],[0],[],[],[0,1,2,3],[],[0,1,2,3,4,5]] [[],[0],[],[],[1,2,3],[],[4,5]] [[],[],[],[],[],[],[9]] [[0],[1],[2],[3],[4],[5],[4,5]] [[],[7,8],[],[],[0,4,6,7,8],[9],[9]] [0,1,2,3,4,6] [9] [fun vs W=>(vs 0) = .agg [E,F].toArray,fun vs W=>(vs 1) = .agg [(zai (vs 1) 0),(zai (vs 1) 1)].toArray/\Ow W 7 [] [(zai (vs 1) 0)] b.Commits/\Ow W 8 [] [(zai (vs 1) 1)] b.Heads,fun vs W=>(vs 2)=vS x1,fun vs W=>(vs 3) = .agg [x,vS k,y].toArray,fun vs W=>(vs 4) = .agg [(zai (vs 4) 0),(zai (vs 4) 1)].toArray/\Rd W [0,4,6,7,8] [(zai (vs 4) 0)] a.Commits/\Rd W [0,4,6,7,8] [(zai (vs 4) 1)] a.Heads,fun vs W=>(vs 5)=ptr (bx (pg (vs 5)))/\Bx W 9 (pg (vs 5)) [.slice none 0 0, .slice none 0 0],fun vs W=>(vs 5)=ptr (bx (pg (vs 5)))/\Bx W 9 (pg (vs 5)) [(zai (vs 4) 0),(zai (vs 4) 1)]] [] mixed (by kernel_rfl) O zsd.nil ?_
   intro fd z
   have b5:=c9.n z
   have b6:=(ak.up am).up z
   refine⟨(zaV.cons ?_ (zaV.cons ?_ (zaV.cons ?_ (zaV.cons ?_ (zaV.cons ?_ (zaV.cons ?_ (zaV.cons ?_ zaV.nil))))))),(zdz.cons SE (zdz.cons (fun vs vs' W W' _ hv l hd h=>by(show(vs' 1) = .agg [(zai (vs' 1) 0),(zai (vs' 1) 1)].toArray/\Ow W' 7 [] [(zai (vs' 1) 0)] b.Commits/\Ow W' 8 [] [(zai (vs' 1) 1)] b.Heads);rw[hv 1 (zaC O)];exact⟨h.1,h.2.1.upv l (zcn hd (c:=7) O),h.2.2.upv l (zcn hd (c:=8) O)⟩) (zdz.cons SE (zdz.cons SE (zdz.cons (fun vs vs' W W' _ hv l hd h=>by(show(vs' 4) = .agg [(zai (vs' 4) 0),(zai (vs' 4) 1)].toArray/\Rd W' [0,4,6,7,8] [(zai (vs' 4) 0)] a.Commits/\Rd W' [0,4,6,7,8] [(zai (vs' 4) 1)] a.Heads);rw[hv 4 (zaC O)];exact⟨h.1,h.2.1.up l (zkA hd (K:=[0,4,6,7,8]) O),h.2.2.up l (zkA hd (K:=[0,4,6,7,8]) O)⟩) (zdz.cons (fun vs vs' W W' _ hv l hd h=>by(show(vs' 5)=ptr (bx (pg (vs' 5)))/\Bx W' 9 (pg (vs' 5)) [.slice none 0 0, .slice none 0 0]);rw[hv 5 (zaC O)];exact⟨h.1,h.2.up l (zcn hd (c:=9) O)⟩) (zdz.cons (fun vs vs' W W' _ hv l hd h=>by(show(vs' 5)=ptr (bx (pg (vs' 5)))/\Bx W' 9 (pg (vs' 5)) [(zai (vs' 4) 0),(zai (vs' 4) 1)]);rw[hv 4 (zaC O),hv 5 (zaC O)];exact⟨h.1,h.2.up l (zcn hd (c:=9) O)⟩) zdz.nil))))))),?_⟩
   ·intro vs fe lW hN hV
    exact Trq (R.lda (cs:=[E,F]) (b6.up lW O).cells O O) O
   ·intro vs ff lW hN hV
    have b7:=b5.t lW O
    have an:vs 0 = .agg [E,F].toArray:=(hN 0 (zaC O))
    obtain⟨vs,rfl⟩:=zat an
    refine Tr.mono (T.call O (p35 (k0:=7) (k1:=8) (Repo.rd (K:=[0]) x0.Commits x0.Heads (J.ul b7) (L.ul b7)) da)) ?_
    rintro _ _ ⟨ao,rfl,dc,⟨ap,aq,rfl,dd,de⟩⟩
    exact⟨ao,O,dc,(show(.agg [ap,aq].toArray:Value) = .agg [ap,aq].toArray/\Ow ao 7 [] [ap] b.Commits/\Ow ao 8 [] [aq] b.Heads from⟨O,dd,de⟩)⟩
   ·intro vs fg lW hN hV
    exact Trq (R.mv (v:=vS x1) O) O
   ·intro vs fh lW hN hV
    exact Trq (R.lda (cs:=[x,vS k,y]) ((c8.up z).up lW O).cells O O) O
   ·intro vs b8 lW hN hV
    obtain⟨A,B,ar⟩: ∃ A B:Value,vs 1 = .agg [A,B].toArray:=⟨_,_,(hN 1 (zaC O)).1⟩
    obtain⟨vs,rfl⟩:=zat ar
    have df:Ow b8 7 [] [A] b.Commits:=(hN 1 (zaC O)).2.1
    have dg:Ow b8 8 [] [B] b.Heads:=(hN 1 (zaC O)).2.2
    have au:vs 2=vS x1:=(hN 2 (zaC O))
    obtain⟨vs,rfl⟩:=zat au
    have av:vs 3 = .agg [x,vS k,y].toArray:=(hN 3 (zaC O))
    obtain⟨vs,rfl⟩:=zat av
    refine Tr.mono (T.call O (p89 (K:=[4,6,7,8]) (x0:=(Vm.Repo.mk b.Commits b.Heads)) (x2:=(Vm.Commit.mk G k H)) ((Repo.rd (K:=[7,8]) b.Commits b.Heads (df.rd.sub (M:=[7,8]) O) (dg.rd.sub (M:=[7,8]) O)).sub (M:=[4,6,7,8]) O) ((Commit.rd (K:=[4,6]) G k H (((b2.up z).up lW O).rd.sub (M:=[4,6]) O) (((b4.up z).up lW O).rd.sub (M:=[4,6]) O)).sub (M:=[4,6,7,8]) O) db)) ?_
    rintro _ _ ⟨aw,rfl,dh,⟨ax,ay,rfl,di,dj⟩⟩
    have dk:=di.sub (M:=[0,4,6,7,8]) O
    have dl:=dj.sub (M:=[0,4,6,7,8]) O
    exact⟨aw,O,dh,(show(.agg [ax,ay].toArray:Value) = .agg [ax,ay].toArray/\Rd aw [0,4,6,7,8] [ax] a.Commits/\Rd aw [0,4,6,7,8] [ay] a.Heads from⟨O,dk,dl⟩)⟩
   ·intro vs fi lW hN hV
    refine Tr.mono (T.alloc 9 (cs:=[.slice none 0 0, .slice none 0 0]) O) ?_
    rintro _ _ ⟨az,b9,rfl,rfl,dm,dn⟩
    exact⟨b9,O,dm,(show(ptr (bx az):Value)=ptr (bx az)/\Bx b9 9 az [.slice none 0 0, .slice none 0 0] from⟨O,dn⟩)⟩
   ·intro vs a0 lW hN hV
    obtain⟨d,e,a1⟩: ∃ d e:Value,vs 4 = .agg [d,e].toArray:=⟨_,_,(hN 4 (zaC O)).1⟩
    obtain⟨vs,rfl⟩:=zat a1
    have dp:Rd a0 [0,4,6,7,8] [d] a.Commits:=(hN 4 (zaC O)).2.1
    have dq:Rd a0 [0,4,6,7,8] [e] a.Heads:=(hN 4 (zaC O)).2.2
    obtain⟨f,a3⟩: ∃ f,vs 5=ptr (bx f):=⟨_,((hN 5 (zaC O))).1⟩
    obtain⟨vs,rfl⟩:=zat a3
    have dr:Bx a0 9 f [.slice none 0 0, .slice none 0 0]:=(hN 5 (zaC O)).2
    refine Tr.mono (T.sta (vs:=[d,e]) dr O O (zaa dp.oc (zaa dq.oc zaG)) O O) ?_
    rintro _ _ ⟨cb,rfl,ds,dt⟩
    exact⟨cb,O,ds,(show(ptr (bx f))=ptr (bx f)/\Bx cb 9 f [d,e] from⟨O,dt⟩)⟩
   ·intro vs P Q hN
    have du:=b5.t Q
    have an:vs 0 = .agg [E,F].toArray:=(hN 0 (zaC O))
    obtain⟨vs,rfl⟩:=zat an
    obtain⟨A,B,ar⟩: ∃ A B:Value,vs 1 = .agg [A,B].toArray:=⟨_,_,(hN 1 (zaC O)).1⟩
    obtain⟨vs,rfl⟩:=zat ar
    have dv:Ow P 7 [] [A] b.Commits:=(hN 1 (zaC O)).2.1
    have dw:Ow P 8 [] [B] b.Heads:=(hN 1 (zaC O)).2.2
    have au:vs 2=vS x1:=(hN 2 (zaC O))
    obtain⟨vs,rfl⟩:=zat au
    have av:vs 3 = .agg [x,vS k,y].toArray:=(hN 3 (zaC O))
    obtain⟨vs,rfl⟩:=zat av
    obtain⟨d,e,a1⟩: ∃ d e:Value,vs 4 = .agg [d,e].toArray:=⟨_,_,(hN 4 (zaC O)).1⟩
    obtain⟨vs,rfl⟩:=zat a1
    have a5:Rd P [0,4,6,7,8] [d] a.Commits:=(hN 4 (zaC O)).2.1
    have a6:Rd P [0,4,6,7,8] [e] a.Heads:=(hN 4 (zaC O)).2.2
    obtain⟨f,a3⟩: ∃ f,vs 5=ptr (bx f):=⟨_,(hN 6 (zaC O)).1⟩
    obtain⟨vs,rfl⟩:=zat a3
    have cc:Bx P 9 f [d,e]:=(hN 6 (zaC O)).2
    refine ssr (Lw.r O (R.lda (cs:=[d,e]) cc.cells O O) (ca Y (fun _=>p34 (K:=[0,4,6,7,8]) (Repo.rd (K:=[0,4,6,7,8]) a.Commits a.Heads a5 a6)) fun fj fm Y i=>?_))
    have Z:=du.n i
    have cd:=(((((((b3.up l10).up ai).up N).up V).up am).up z).up Q).up i
    refine Lw.r O (R.not O) (nl (cn Y (fun Y=>?_) fun Y=>?_))
    ·refine sr (la ((b6.up Q).up i) (cr Y (fun _=>p35 (k0:=10) (k1:=11) (Repo.rd (K:=[0]) x0.Commits x0.Heads (J.ul Z) (L.ul Z))) ?_))
     rintro ce _ fn Y cf ⟨cg,ch,rfl,ci,cj⟩
     have dx:=Z.n cf
     refine sta (cd.up cf) (zaa ci.oc (zaa cj.oc zaG)) fun fo a7 dy=>?_
     have dz:=dx.t a7
     refine Nb O ?_
     obtain⟨d0,d1,a8,d2⟩:=zmg _ 10
     have d3:Rd (α:=List Vm.Commit) d0 [0] [cg] ce.Commits:=by rw[d2];exact((ci.up a7).rd.dye 10).sub (M:=[0]) O
     have d4:=dz.t a8
     obtain⟨d5,d6,ck,d7⟩:=zmg _ 11
     have d8:Rd (α:=List Vm.Head) d5 [0] [ch] ce.Heads:=by rw[d7];exact(((cj.up a7).up a8).rd.dye 11).sub (M:=[0]) O
     have cl:=ck.s
     cases Y
     rw[<- d6.trans (d1)]
     exact Cw.ret (zfY O ((dy.up a8).up ck) O (Res.mk (d4.trans cl) ⟨cg,ch,O,(d3.ul cl),d8⟩))
    ·refine sk (sr (la (cc.up i) (sta cd (zaa a5.oc (zaa a6.oc zaG)) fun fp C d9=>?_)))
     have ea:=Z.t C
     refine Nb O ?_
     have eb:=a5.up ((i.sub (M:=[3]) O).trans (C.sub (M:=[3]) O)) O
     have ec:=a6.up ((i.sub (M:=[3]) O).trans (C.sub (M:=[3]) O)) O
     obtain⟨a9,ed,S,ba⟩:=zmg _ 4
     have ee:Rd a9 [0,6,7,8] [d] a.Commits:=by rw[ba];exact(eb.dye 4).sub (M:=[0,6,7,8]) O
     have ef:Rd a9 [0,6,7,8] [e] a.Heads:=by rw[ba];exact(ec.dye 4).sub (M:=[0,6,7,8]) O
     have fq:Rd (α:=List Vm.File) a9 [0] [y] H:=by rw[ba];exact(((((b4.up z).up Q).up i).up C).rd.dye 4).sub (M:=[0]) O
     have eg:=ea.t S
     obtain⟨bb,eh,aa,bc⟩:=zmg _ 6
     have ei:Rd bb [0,7,8] [d] a.Commits:=by rw[bc];exact(ee.dye 6).sub (M:=[0,7,8]) O
     have ej:Rd bb [0,7,8] [e] a.Heads:=by rw[bc];exact(ef.dye 6).sub (M:=[0,7,8]) O
     have fr:Rd (α:=List Int) bb [0] [x] G:=by rw[bc];exact((((((b2.up z).up Q).up i).up C).up S).rd.dye 6).sub (M:=[0]) O
     have ek:=eg.t aa
     obtain⟨be,el,bg,bh⟩:=zmg _ 7
     have em:Rd be [0,8] [d] a.Commits:=by rw[bh];exact(ei.dye 7).sub (M:=[0,8]) O
     have en:Rd be [0,8] [e] a.Heads:=by rw[bh];exact(ej.dye 7).sub (M:=[0,8]) O
     have fs:Rd (α:=List Vm.Commit) be [0] [A] b.Commits:=by rw[bh];exact(((((dv.up i).up C).up S).up aa).rd.dye 7).sub (M:=[0]) O
     have eo:=ek.t bg
     obtain⟨bi,ep,cm,bj⟩:=zmg _ 8
     have er:Rd bi [0] [d] a.Commits:=by rw[bj];exact(em.dye 8).sub (M:=[0]) O
     have es:Rd bi [0] [e] a.Heads:=by rw[bj];exact(en.dye 8).sub (M:=[0]) O
     have ft:Rd (α:=List Vm.Head) bi [0] [B] b.Heads:=by rw[bj];exact((((((dw.up i).up C).up S).up aa).up bg).rd.dye 8).sub (M:=[0]) O
     have et:=eo.t cm
     cases Y
     rw[<- ep.trans (el.trans (eh.trans (ed)))]
     exact Cw.ret (zfY O ((((d9.up S).up aa).up bg).up cm) O (Res.mk et ⟨d,e,O,er,es⟩))
  ·refine sr (la ak (ms O (ca Y (fun _=>p37 (Repo.rd (K:=[0]) x0.Commits x0.Heads (J.ul X) (L.ul X))) fun fu eu Y D=>?_)))
   have co:=X.n D
   have cp:=((aj.up N).up V).up D
   refine Lw.ge O (nl (cn Y (fun Y=>?_) fun Y=>?_))
   ·refine rg (la (ak.up D) (ms O (ca Y (fun _=>p37 (Repo.rd (K:=[0]) x0.Commits x0.Heads (J.ul co) (L.ul co))) fun bk ew Y bl=>Lw.t O (T.bsS (α:=Int) (xs:=[bk]) 12 [] (W:=ew) [vI bk] (Each.cons ((rdI _)) Each.nil) O) ?_)))
    rintro cq _ ⟨fv,rfl,bm,ct⟩
    refine Lw.fa O (Lw.u (T.st (j:=0) (v:=cq) (((b0.up D).up bl).up bm) O O ct.oc O O) ?_)
    rintro _ _ ⟨fw,rfl,bn,ex⟩
    refine nl ?_
    obtain⟨ey,ez,bp,e0⟩:=(ct.up bn).dyeO 6
    exact(ag) ⟨([bk]:List Int),x2,bz,cq,U,ey,ez,((((D.j bl).j bm).j bn).j bp).w,O,e0,((((cp.up bl).up bm).up bn).up bp),(ex.up bp),Y⟩
   ·exact sk ((ag) ⟨([]:List Int),x2,bz, .slice none 0 0,U,eu,O,D.w,O,owN 6 [],cp,(b0.up D),Y⟩)
theorem p236 {x0 d f x1 x2 x3 h r}(i:Rd W K [d,f] x0)(k:Rd W K [h] x3)(Y:Vm.ze2 x0 x1 x2 x3=some r):Q1 236 [.agg [d,f].toArray,vS x1,vS x2,h] W [] fun W' v=> ∃ a b,v = .tuple [.agg [a,b].toArray,vB r.2].toArray/\Rd W' (0::K) [a] r.1.Commits/\Rd W' (0::K) [b] r.1.Heads:=
 (c236 (i.view _) (k.view _) Y).ad (fk 0) fun _ _ ⟨a,b,e,x,y⟩=>⟨a,b,e,x.back O,y.back O⟩
theorem c215 {x0 h i x1 L x2 A x3 r}(Z:Rd W0 [0] [h,i] x0)(h1:Rd W0 [0] [vI x1.Kind,vS x1.Branch,vS x1.Who,vS x1.Path,vS x1.To,vI x1.At,L] x1)(h2:Rd W0 [0] [A] x2)(Y:Vm.zch x0 x1 x2 x3=some r):Q0 215 [.agg [h,i].toArray, .agg [vI x1.Kind,vS x1.Branch,vS x1.Who,vS x1.Path,vS x1.To,vI x1.At,L].toArray,A,vB x3] W0 fun Wf v=> ∃ N P,v = .tuple [.agg [N,P].toArray,vI r.2].toArray/\Rd Wf [0] [N] r.1.Commits/\Rd Wf [0] [P] r.1.Heads:=by
 unfold Vm.zch at Y
 obtain⟨aw,ax,Q,a,b⟩:=Repo.split Z
 simp only[List.cons.injEq,and_true,true_and]at Q
 obtain⟨rfl,rfl⟩:=Q
 obtain⟨ay,S,az⟩:=Op.split h1
 simp only[List.cons.injEq,and_true,true_and]at S
 obtain rfl:=S
 refine zao.of Tryz.func215 O O O O (sr (bo 2 O fun g1 W1 l1 b1=>?_))
 have a2:=l1.o
 refine bo 3 O fun g3 W3 T U=>?_
 have a4:=a2.n T
 refine al 4 [.slice none 0 0, .slice none 0 0] fun g6 W6 k V=>?_
 have d:=a4.n k
 have B:=(b1.up T).up k
 refine Ni O (ssr (mb O (Lw.r O (R.not O) (nl (cn Y (fun Y=>?_) fun Y=>?_)))))
 ·refine sr (la B (sta V (zaa a.oc (zaa b.oc zaG)) fun a9 aj ak=>?_))
  have C:=d.t aj
  refine Ni O ?_
  cases Y
  exact Cw.ret (zfY O ak O (Res.mk C ⟨h,i,O,(a.ul C),(b.ul C)⟩))
 ·refine sk (sr (la B (fl (U.up k) O (fl (U.up k) O (mv A O (cr Y (fun _=>p236 (Repo.rd (K:=[0]) x0.Commits x0.Heads (a.ul d) (b.ul d)) (h2.ul d)) ?_))))))
  rintro x _ ba Y D ⟨e,f,rfl,am,an⟩
  have E:=am.sub (M:=[0]) O
  have F:=an.sub (M:=[0]) O
  have W:=d.n D
  refine mv (.tuple [.agg [e,f].toArray,vB x.2].toArray) O (Lw.r O (R.ext (vs:=[.agg [e,f].toArray,vB x.2]) (v:= .agg [e,f].toArray) O O) (Lw.r O (R.ext (vs:=[.agg [e,f].toArray,vB x.2]) (v:=vB x.2) O O) (al 5 [.slice none 0 0, .slice none 0 0] fun bb bc G ao=>?_)))
  have y:=G.o
  refine sta ao (zaa E.oc (zaa F.oc zaG)) fun be H ap=>?_
  have z:=H.s
  have X:=((V.up D).up G).up H
  refine Nb O (ssr (mb O (Lw.r O (R.not O) (nl (cn Y (fun Y=>?_) fun Y=>?_)))))
  ·refine sr (la (((B.up D).up G).up H) (sta X (zaa a.oc (zaa b.oc zaG)) fun bg aq ar=>?_))
   have I:=((W.trans y).trans z).t aq
   refine Ni O ?_
   cases Y
   exact Cw.ret (zfY O ar O (Res.mk I ⟨h,i,O,(a.ul I),(b.ul I)⟩))
  ·refine sk (sr (la ap (sta X (zaa E.oc (zaa F.oc zaG)) fun bh au av=>?_)))
   have J:=au.s
   refine Ni O ?_
   cases Y
   exact Cw.ret (zfY O av O (Res.mk (((W.trans y).trans z).trans J) ⟨e,f,O,(E.ul ((y.trans z).trans J)),(F.ul ((y.trans z).trans J))⟩))
theorem p215 {x0 d f x1 h x2 i x3 r}(k:Rd W K [d,f] x0)(x:Rd W K [vI x1.Kind,vS x1.Branch,vS x1.Who,vS x1.Path,vS x1.To,vI x1.At,h] x1)(y:Rd W K [i] x2)(Y:Vm.zch x0 x1 x2 x3=some r):Q1 215 [.agg [d,f].toArray, .agg [vI x1.Kind,vS x1.Branch,vS x1.Who,vS x1.Path,vS x1.To,vI x1.At,h].toArray,i,vB x3] W [] fun W' v=> ∃ a b,v = .tuple [.agg [a,b].toArray,vI r.2].toArray/\Rd W' (0::K) [a] r.1.Commits/\Rd W' (0::K) [b] r.1.Heads:=
 (c215 (k.view _) (x.view _) (y.view _) Y).ad (fk 0) fun _ _ ⟨a,b,e,z,A⟩=>⟨a,b,e,z.back O,A.back O⟩
theorem c237 {x0 d x1 r}(C:Rd W0 [0] [d] x0)(Y:Vm.zhS x0 x1=some r):Q0 237 [d,vS x1] W0 fun Wf v=> ∃ H,v=H/\OwS (α:=List (Sh Vm.File)) Wf LL [0] [H] r:=by
 unfold Vm.zhS at Y
 refine zao.of Tryz.func237 O O O O (sr (Nv (.slice none 0 0) O (sr (Lw.t O (T.lit0 (α:=File) 2 []) ?_))))
 rintro I _ ⟨W1,rfl,V,W⟩
 have X:=V.o
 refine Nv I O (ssr (Ni O (Cw.block ?_)))
 obtain⟨Z,aa,Y⟩:=zaY Y
 obtain⟨J,ac,l9,o9⟩:=W.toSh
 have ah:=X.t l9
 rw[<- ac]
 refine Cw.loop 8 37 [5,6] (fun m l w=> ∃ (k:List Vm.File) (x:Int) (a:Value) (b:CW),b.w=w/\Le [2] J b/\l=[a,vI x]/\Ow (α:=List (Sh Vm.File)) b 2 [0] [a] k/\Vm.zdU x0 x1 Z m k x=some r) _ ⟨([]:List File),0,I,J,O,Le.refl _ _,O,o9,Y⟩ ?_
 rintro(_ |a3) _ _ σ ⟨k,x,a,b,rfl,L,rfl,D,Y⟩
 ·cases Y
 unfold Vm.zdU at Y
 have E:=ah.t L
 refine ssr ?_
 have e:=C.ul E
 refine mi O (mv d O (Lw.ln x0 e O (Lw.lt O (nl (cn Y (fun Y=>?_) fun Y=>?_)))))
 ·refine sk ?_
  obtain⟨ai,aj,Y⟩:=zaY Y
  refine Cw.join 14 37 [5] (fun l w=> ∃ (y:List Vm.File) (z:Value) (f:CW),f.w=w/\Le [2] b f/\l=[z]/\Ow (α:=List (Sh Vm.File)) f 2 [0] [z] y/\ai y=some r) ?_ ?_
  ·rintro _ _ σ ⟨y,z,f,rfl,ak,rfl,am,Y⟩
   rw[aj]at Y
   exact rg (mi O (Lw.add O (Ni O ((agm) ⟨y,w64 (x+1),z,f,O,(L.j ak).w,O,am,Y⟩))))
  ·refine Cw.block ?_
   obtain⟨an,ao,Y⟩:=zaY Y
   refine Cw.join 14 30 [30] (fun l w=> ∃ F A,CW.w A=w/\Le [] b A/\l=[vB F]/\an F=some r) ?_ ?_
   ·rintro _ _ σ ⟨F,A,rfl,h,rfl,Y⟩
    rw[ao]at Y
    have M:=E.n h
    refine cn Y (fun Y=>?_) fun Y=>?_
    ·refine rg (mv a O (mv d O (mi O ?_)))
     obtain⟨B,N,Y⟩:=ob Y
     refine Lw.r O (R.ix (α:=File) (C.ul M) N O O O) ?_
     obtain⟨x30,c31,_,r32⟩:=((C.ul M).at_ N).cells
     obtain⟨P,rfl,r34⟩:=File.split r32
     refine Lw.r O (R.lda c31 O O) (Lw.t O (T.bs 3 [.agg [vS B.Path,P].toArray] (cs:=[vS B.Path,P]) O O (bsA O)) ?_)
     rintro _ _ ⟨a4,a5,rfl,rfl,G,ap⟩
     have aq:=G.o
     obtain⟨ar,au,Y⟩:=ob Y
     refine Lw.t O (T.app1S (α:=Sh Vm.File) (K':=[0]) ((D.up h).up G) ap (File.rd (K:=[0]) B.Path B.Text (r34.ul aq)).sh1 O O au) ?_
     rintro Q _ ⟨av,rfl,aw,ax⟩
     exact Nv Q O ((ag) ⟨ar,Q,av,O,((h.j G).j aw).w,O,ax,Y⟩)
    ·exact sk ((ag) ⟨k,a,A,O,h.w,O,(D.up h),Y⟩)
   ·refine rg (mv d O (mi O ?_))
    obtain⟨a6,S,Y⟩:=ob Y
    refine Lw.r O (R.ix (α:=File) e S O O O) (Lw.fa O (Lw.r O (R.ld O O (File.at0 (e.at_ S)).str) (ms O (Lw.sne O (mb O (bs Y (fun i Y=>?_) fun i Y=>?_))))))
    ·refine wak 8 i (ms O (mv d O (mi O ?_)))
     obtain⟨a7,U,Y⟩:=ob Y
     exact Lw.r O (R.ix (α:=File) e U O O O) (Lw.fa O (Lw.r O (R.ld O O (File.at0 (e.at_ U)).str) (ca Y (fun _=>p137) fun ay az Y a0=>Lw.r O (R.not O) (Pb i O (nl ((ag) ⟨(!ay),az,O,a0,O,Y⟩))))))
    ·exact psk 8 i O (Pb i O (nl ((ag) ⟨false,b,O,Le.refl _ _,O,Y⟩)))
 ·refine Cw.exit ?_
  rw[aa]at Y
  refine sr (mv a O (Nv a O ?_))
  cases Y
  exact Cw.ret (zik O (Res.mk E ⟨a,O,D.s.sub O O⟩))
theorem p237 {x0 b x1 k0 r}(d:Rd W K [b] x0)(Y:Vm.zhS x0 x1=some r):Q1 237 [b,vS x1] W [] fun W' v=> ∃ a,v=a/\Ow (α:=List (Sh Vm.File)) W' k0 (0::K) [a] r:=
 (c237 (d.view _) Y).ad (fk k0) fun _ _ ⟨a,e,f⟩=>⟨a,e,f.backS (zgv _) O⟩
theorem c216 {x0 b x1 r}(d:Rd W0 [0] [b] x0)(Y:Vm.zeJ x0 x1=some r):Q0 216 [b,vS x1] W0 fun Wf v=> ∃ h,v = .tuple [h,vB r.2].toArray/\OwS (α:=List (Sh Vm.File)) Wf LL [0] [h] r.1:=by
 unfold Vm.zeJ at Y
 refine zao.of Tryz.func216 O O O O (sr (Gv (.slice none 0 0) O (Nb O (ssr (mv b O (ca Y (fun _=>p82 d) fun P Q Y B=>?_))))))
 have e:=B.o
 refine Lw.r O (R.not O) (nl (cn Y (fun Y=>?_) fun Y=>?_))
 ·refine sr (Gv (.slice none 0 0) O (Nb O ?_))
  cases Y
  exact Cw.ret (zph O O (Res.mk e ⟨.slice none 0 0,O,(zts [0]).sub O O⟩))
 ·refine sk (sr (mv b O (cr Y (fun _=>p138 (k0:=2) (d.ul e)) ?_)))
  rintro C D S Y E ⟨_,rfl,i⟩
  have F:=e.n E
  refine ms O (cr Y (fun _=>p237 (K:=[2]) (k0:=3) i.rd) ?_)
  rintro f a G Y k ⟨_,rfl,x⟩
  have y:=F.n k
  refine Nv a O (sr ?_)
  have H:Rd (α:=List Vm.File) G [3,0,2] [a] f:=Ow.rdSh x
  refine mv a O (mv a O (Lw.ln f H O (mv b O (Lw.ln x0 (d.ul y) O (Lw.lt O (Gv a O (Nb O ?_)))))))
  obtain⟨z,I,J,A⟩:=zmg _ 2
  have T:Rd (α:=List Vm.File) z [0] [D] C:=by rw[A];exact((i.up k).rd.dye 2).sub (M:=[0]) O
  have L:Ow (α:=List (Sh Vm.File)) z 3 [0] [a] f:=by rw[A];exact(x.dyeA 2 O).sub O
  have N:=y.t J
  cases Y
  rw[<- I]
  exact Cw.ret (zph O O (Res.mk N ⟨a,O,L.s.sub O O⟩))
theorem p216 {x0 b x1 k0 r}(d:Rd W K [b] x0)(Y:Vm.zeJ x0 x1=some r):Q1 216 [b,vS x1] W [] fun W' v=> ∃ a,v = .tuple [a,vB r.2].toArray/\Ow (α:=List (Sh Vm.File)) W' k0 (0::K) [a] r.1:=
 (c216 (d.view _) Y).ad (fk k0) fun _ _ ⟨a,e,f⟩=>⟨a,e,f.backS (zgv _) O⟩
theorem c217 {x0 b x1 x2 r}(f:Rd W0 [0] [b] x0)(Y:Vm.zeK x0 x1 x2=some r):Q0 217 [b,vS x1,vS x2] W0 fun Wf v=> ∃ u0,v = .tuple [u0,vB r.2].toArray/\OwS (α:=List (Sh Vm.File)) Wf LL [0] [u0] r.1:=by
 unfold Vm.zeK at Y
 refine zao.of Tryz.func217 O O O O (sr (Gv (.slice none 0 0) O (Nb O (ssr (mv b O (ca Y (fun _=>p82 f) fun z1 W3 Y l3=>?_))))))
 have P:=l3.o
 refine Lw.r O (R.not O) (nl (cn Y (fun Y=>?_) fun Y=>?_))
 ·refine sr (Gv (.slice none 0 0) O (Nb O ?_))
  cases Y
  exact Cw.ret (zph O O (Res.mk P ⟨.slice none 0 0,O,(zts [0]).sub O O⟩))
 ·refine sk (sr (mv b O (cr Y (fun _=>p138 (k0:=2) (f.ul P)) ?_)))
  rintro z7 a9 W9 Y l9 ⟨_,rfl,ao⟩
  have bb:=P.n l9
  refine ms O (cr Y (fun _=>p237 (K:=[2]) (k0:=3) ao.rd) ?_)
  rintro D i Q Y ap ⟨_,rfl,aq⟩
  have ar:=bb.n ap
  refine Nv i O (Cw.seq ?_)
  obtain⟨bc,be,Y⟩:=zaY Y
  refine Cw.join 18 27 [27] (fun l w=> ∃ S U,CW.w U=w/\Le [] Q U/\l=[vB S]/\bc S=some r) ?_ ?_
  ·rintro _ _ σ ⟨S,U,rfl,V,rfl,Y⟩
   rw[be]at Y
   have E:=ar.n V
   refine cn Y (fun Y=>?_) fun Y=>?_
   ·refine sr (mv b O (cr Y (fun _=>p138 (k0:=4) (f.ul E)) ?_))
    rintro da au db Y bg ⟨_,rfl,bh⟩
    have bi:=E.n bg
    refine Gv au O (Nb O ?_)
    obtain⟨dc,bj,bk,bl⟩:=bh.toSh
    have bm:=bi.t bk
    cases Y
    rw[<- bj]
    exact Cw.ret (zph O O (Res.mk bm ⟨au,O,bl.s.sub O O⟩))
   ·refine sk (sr (mv b O (Lw.ln x0 (f.ul E) O (Ni O (ssr (Ni O (Cw.block ?_)))))))
    obtain⟨F,bn,bp,av⟩:=zmg _ 2
    rw[<- bn]
    have dd:Rd (α:=List Vm.File) F [0] [a9] z7:=by rw[av];exact(((ao.up ap).up V).rd.dye 2).sub (M:=[0]) O
    have bq:Ow (α:=List (Sh Vm.File)) F 3 [0] [i] D:=by rw[av];exact((aq.up V).dyeA 2 O).sub O
    have br:=E.t bp
    obtain⟨bu,bv,Y⟩:=zaY Y
    refine Cw.loop 32 71 [8,10] (fun m l w=> ∃ (d:List Vm.File) (G:Int) (a:Value) (e:CW),e.w=w/\Le [3,5] F e/\l=[a,vI G]/\Ow (α:=List (Sh Vm.File)) e 3 [0] [a] d/\Vm.zbj x0 x1 x2 bu m d G=some r) _ ⟨D,0,i,F,O,Le.refl _ _,O,bq,Y⟩ ?_
    rintro(_ |de) _ _ σ ⟨d,G,a,e,rfl,aw,rfl,k,Y⟩
    ·cases Y
    unfold Vm.zbj at Y
    have W:=br.t aw
    refine ssr ?_
    have x:=f.ul W
    refine mi O (mv b O (Lw.ln x0 x O (Lw.lt O (nl (cn Y (fun Y=>?_) fun Y=>?_)))))
    ·refine sk ?_
     obtain⟨bw,bz,Y⟩:=zaY Y
     refine Cw.join 38 71 [8] (fun l w=> ∃ (H:List Vm.File) (I:Value) (y:CW),y.w=w/\Le [3,5] e y/\l=[I]/\Ow (α:=List (Sh Vm.File)) y 3 [0] [I] H/\bw H=some r) ?_ ?_
     ·rintro _ _ σ ⟨H,I,y,rfl,b0,rfl,b1,Y⟩
      rw[bz]at Y
      exact rg (mi O (Lw.add O (Ni O ((agm) ⟨H,w64 (G+1),I,y,O,(aw.j b0).w,O,b1,Y⟩))))
     ·refine Cw.block ?_
      obtain⟨b2,b3,Y⟩:=zaY Y
      refine Cw.join 38 53 [53] (fun l w=> ∃ X J,CW.w J=w/\Le [] e J/\l=[vB X]/\b2 X=some r) ?_ ?_
      ·rintro _ _ σ ⟨X,J,rfl,z,rfl,Y⟩
       rw[b3]at Y
       have b4:=W.n z
       refine cn Y (fun Y=>?_) fun Y=>?_
       ·refine Cw.draw [] [(0,0),(1,0),(2,0),(3,0),(4,0),(5,0),(6,1),(7,0),(8,0),(9,0),(10,0),(11,0),(12,0),(13,0),(14,0),(15,1),(16,0),(17,2),(18,0)] mixed (by kernel_rfl) fun b5 Z=>?_
        have b6:=b4.n Z
        have ax:=(k.up z).up Z
        refine Dv a O (Ds O (Dv b O (Di O ?_)))
        obtain⟨u64,aa,Y⟩:=ob Y
        have h:=f.ul b6
        refine Mw.p O O (fun _=>R.ix (α:=File) h aa O O O) (Df O (Mw.q O O (fun _ c=>R.ld O O (zaq (File.at0 (h.at_ aa)).1 O (File.at0 (h.at_ aa)).str c)) (Ds O (Mw.p O O (fun _=>R.lenS O) ?_))))
        obtain⟨df,b7,Y⟩:=ob Y
        refine Mw.p O O (fun _=>R.ss b7 O (.inr O) (.inl ⟨O,O⟩)) ?_
        obtain⟨L,b8,Y⟩:=ob Y
        refine Mw.p O O (fun _=>R.sad b8 O O) (Dv b O (Di O ?_))
        obtain⟨ay,ac,Y⟩:=ob Y
        refine Mw.p O O (fun _=>R.ix (α:=File) h ac O O O) (Df O ?_)
        obtain⟨az,c74,r75⟩:=(File.at1 (h.at_ ac)).cell O
        refine Mw.q O O (fun _ c=>R.ld O O (zaq (File.at1 (h.at_ ac)).1 O c74 c)) (Mw.p O O (fun _=>R.bd (zs:=[vS ([]:Str), .slice none 0 0]) (cs:=[vS L,az]) [(0,vS L),(1,az)] O O O (zaA O O (zaA r75.oc O zc8))) ?_)
        have b9:Rd (α:=List Vm.File) b5 [3,0] [a] d:=Ow.rdSh ax
        obtain⟨ae,cb,Y⟩:=ob Y
        refine Mw.t O O (T.call O (p235 (K:=[0,3]) (k0:=5) (x1:=(Vm.File.mk L ay.Text)) (b9.sub (M:=[0,3]) O) ((File.rd (K:=[0]) L ay.Text r75).sub (M:=[0,3]) O) cb)) ?_
        rintro N _ ⟨cc,rfl,af,⟨_,rfl,cd⟩⟩
        have ce:Ow (α:=List (Sh Vm.File)) cc 5 [0,3] [N] ae:=cd.sub O
        refine m0 af fun dg=>Hv N O (Mw.nil ?_)
        obtain⟨a0,cf,cg,a1⟩:=zmg _ 3
        have dh:Rd (α:=List Vm.File) a0 [0] [a] d:=by rw[a1];exact((ax.up af).rd.dye 3).sub (M:=[0]) O
        have ch:Ow (α:=List (Sh Vm.File)) a0 5 [0] [N] ae:=by rw[a1];exact(ce.dyeA 3 O).sub O
        obtain⟨ci,cj,ck,cl⟩:=ch.dyeO 3
        exact(ag) ⟨ae,N,ci,cj.trans (cf),((((z.j Z).j af).j cg).j ck).w,O,cl,Y⟩
       ·exact sk ((ag) ⟨d,a,J,O,z.w,O,(k.up z),Y⟩)
      ·refine rg (mv b O (mi O ?_))
       obtain⟨di,a2,Y⟩:=ob Y
       refine Lw.r O (R.ix (α:=File) x a2 O O O) (Lw.fa O (Lw.r O (R.ld O O (File.at0 (x.at_ a2)).str) (ms O (Lw.seq O (mb O (bs Y (fun A Y=>?_) fun A Y=>?_))))))
       ·exact psk 7 A O (Pb A O (nl ((ag) ⟨true,e,O,Le.refl _ _,O,Y⟩)))
       ·refine wak 7 A (ms O (mv b O (mi O ?_)))
        obtain⟨dj,a3,Y⟩:=ob Y
        exact Lw.r O (R.ix (α:=File) x a3 O O O) (Lw.fa O (Lw.r O (R.ld O O (File.at0 (x.at_ a3)).str) (ca Y (fun _=>p137) fun cm co Y cp=>Pb A O (nl ((ag) ⟨cm,co,O,cp,O,Y⟩)))))
    ·refine Cw.exit ?_
     rw[bv]at Y
     refine Cw.seq ?_
     obtain⟨cq,ct,Y⟩:=zaY Y
     refine Cw.join 72 80 [80] (fun l w=> ∃ ah ai,CW.w ai=w/\Le [] e ai/\l=[vB ah]/\cq ah=some r) ?_ ?_
     ·rintro _ _ σ ⟨ah,ai,rfl,a5,rfl,Y⟩
      rw[ct]at Y
      have aj:=W.n a5
      refine cn Y (fun Y=>?_) fun Y=>?_
      ·refine sr (mv b O (cr Y (fun _=>p138 (k0:=6) (f.ul aj)) ?_))
       rintro dk a6 dl Y cu ⟨_,rfl,cv⟩
       have cw:=aj.n cu
       refine Gv a6 O (Nb O ?_)
       obtain⟨dm,cx,cy,cz⟩:=cv.toSh
       have c0:=cw.t cy
       cases Y
       rw[<- cx]
       exact Cw.ret (zph O O (Res.mk c0 ⟨a6,O,cz.s.sub O O⟩))
      ·refine sk (sr (mv a O (Gv a O (Nb O ?_))))
       cases Y
       exact Cw.ret (zph O O (Res.mk aj ⟨a,O,(k.up a5).s.sub O O⟩))
     ·refine rg (mv a O ?_)
      have c1:Rd (α:=List Vm.File) e [3,0] [a] d:=Ow.rdSh k
      refine ca Y (fun _=>p82 (K:=[0,3]) (c1.sub (M:=[0,3]) O)) fun dn ak Y am=>Lw.r O (R.not O) (mb O (bs Y (fun B Y=>?_) fun B Y=>?_))
      ·exact psk 4 B O (Pb B O (nl ((ag) ⟨true,ak,O,am,O,Y⟩)))
      ·refine wak 4 B (mv a O ?_)
       have c2:Rd (α:=List Vm.File) ak [3,0] [a] d:=Ow.rdSh (k.up am)
       exact Lw.ln d c2 O (mi O (Lw.ne O (Pb B O (nl ((ag) ⟨((d.length:Int) !=(x0.length:Int)),ak,O,am,O,Y⟩)))))
  ·refine rg ?_
   have c3:Rd (α:=List Vm.File) Q [3,0,2] [i] D:=Ow.rdSh aq
   refine mv i O (Lw.ln D c3 O (mv b O (Lw.ln x0 (f.ul ar) O (Lw.eq O (mb O (bs Y (fun C Y=>?_) fun C Y=>?_))))))
   ·exact psk 3 C O (Pb C O (nl ((ag) ⟨true,Q,O,Le.refl _ _,O,Y⟩)))
   ·exact wak 3 C (ms O (ca Y (fun _=>p130) fun c4 c5 Y c6=>Lw.r O (R.not O) (Pb C O (nl ((ag) ⟨(!c4),c5,O,c6,O,Y⟩)))))
theorem p217 {x0 b x1 x2 k0 r}(d:Rd W K [b] x0)(Y:Vm.zeK x0 x1 x2=some r):Q1 217 [b,vS x1,vS x2] W [] fun W' v=> ∃ a,v = .tuple [a,vB r.2].toArray/\Ow (α:=List (Sh Vm.File)) W' k0 (0::K) [a] r.1:=
 (c217 (d.view _) Y).ad (fk k0) fun _ _ ⟨a,e,f⟩=>⟨a,e,f.backS (zgv _) O⟩
theorem c218 {x0 X Z x1 x2 r}(h0:Rd W0 [0] [X,Z] x0)(Y:Vm.zdv x0 x1 x2=some r):Q0 218 [.agg [X,Z].toArray,vS x1,vI x2] W0 fun Wf v=> ∃ aa ac,v = .tuple [.agg [aa,ac].toArray,vB r.2].toArray/\Rd Wf [0] [aa] r.1.Commits/\Rd Wf [0] [ac] r.1.Heads:=by
 unfold Vm.zdv at Y
 obtain⟨co,cp,ae,y,z⟩:=Repo.split h0
 simp only[List.cons.injEq,and_true,true_and]at ae
 obtain⟨rfl,rfl⟩:=ae
 refine zao.of Tryz.func218 O O O O (sr (bo 2 O fun g1 W1 l1 b1=>?_))
 have a2:=l1.o
 refine al 3 [.slice none 0 0, .slice none 0 0] fun g3 W3 E b3=>?_
 have F:=a2.n E
 refine Nb O (ssr (la (b1.up E) (ca Y (fun _=>p34 (Repo.rd (K:=[0]) x0.Commits x0.Heads (y.ul F) (z.ul F))) fun z8 cx Y l10=>?_)))
 have A:=F.n l10
 have ai:=(b1.up E).up l10
 refine Lw.r O (R.not O) (nl (cn Y (fun Y=>?_) fun Y=>?_))
 ·refine sr (Lw.r O (R.bd (zs:=[.slice none 0 0, .slice none 0 0]) (cs:=[.slice none 0 0, .slice none 0 0]) [] O O O zc8) (sta (b3.up l10) (zaa O (zaa O zaG)) fun cy a5 a6=>?_))
  have a7:=A.t a5
  refine Nb O ?_
  cases Y
  exact Cw.ret (zfY O a6 O (Res.mk a7 ⟨.slice none 0 0, .slice none 0 0,O,(rdN (K:=[0])),(rdN (K:=[0]))⟩))
 ·refine sk (sr (la ai (cr Y (fun _=>p35 (k0:=4) (k1:=5) (Repo.rd (K:=[0]) x0.Commits x0.Heads (y.ul A) (z.ul A))) ?_)))
  rintro e _ cz Y G ⟨a8,a9,rfl,aj,ak⟩
  have ba:=A.n G
  refine ms O (mi O (cr Y (fun _=>p86 (K:=[4,5]) (x0:=(Vm.Repo.mk e.Commits e.Heads)) (Repo.rd (K:=[4,5]) e.Commits e.Heads (aj.rd.sub (M:=[4,5]) O) (ak.rd.sub (M:=[4,5]) O))) ?_))
  rintro f _ c0 Y h ⟨H,I,rfl,bb,bc⟩
  have B:=bb.sub (M:=[0,4,5]) O
  have C:=bc.sub (M:=[0,4,5]) O
  have be:=ba.n h
  refine al 6 [.slice none 0 0, .slice none 0 0] fun c1 c2 a bg=>?_
  have bh:=be.n a
  refine sta bg (zaa B.oc (zaa C.oc zaG)) fun bi b am=>?_
  have J:=bh.t b
  have an:=(((ai.up G).up h).up a).up b
  refine nl (Cw.seq ?_)
  obtain⟨bj,bk,Y⟩:=zaY Y
  refine Cw.join 18 26 [26] (fun l w=> ∃ L N,CW.w N=w/\Le [] bi N/\l=[vB L]/\bj L=some r) ?_ ?_
  ·rintro _ _ σ ⟨L,N,rfl,d,rfl,Y⟩
   rw[bk]at Y
   have D:=J.n d
   have ao:=(((((b3.up l10).up G).up h).up a).up b).up d
   refine cn Y (fun Y=>?_) fun Y=>?_
   ·refine sr (la (an.up d) (cr Y (fun _=>p35 (k0:=7) (k1:=8) (Repo.rd (K:=[0]) x0.Commits x0.Heads (y.ul D) (z.ul D))) ?_))
    rintro ap _ c3 Y aq ⟨ar,au,rfl,av,aw⟩
    have bl:=D.n aq
    refine sta (ao.up aq) (zaa av.oc (zaa aw.oc zaG)) fun c4 P bm=>?_
    have bn:=bl.t P
    refine Nb O ?_
    obtain⟨bp,bq,Q,br⟩:=zmg _ 7
    have bu:Rd (α:=List Vm.Commit) bp [0] [ar] ap.Commits:=by rw[br];exact((av.up P).rd.dye 7).sub (M:=[0]) O
    have bv:=bn.t Q
    obtain⟨bw,bz,ax,b0⟩:=zmg _ 8
    have b2:Rd (α:=List Vm.Head) bw [0] [au] ap.Heads:=by rw[b0];exact(((aw.up P).up Q).rd.dye 8).sub (M:=[0]) O
    have ay:=ax.s
    cases Y
    rw[<- bz.trans (bq)]
    exact Cw.ret (zfY O ((bm.up Q).up ax) O (Res.mk (bv.trans ay) ⟨ar,au,O,(bu.ul ay),b2⟩))
   ·refine sk (sr (la (am.up d) (sta ao (zaa B.oc (zaa C.oc zaG)) fun c5 i b4=>?_)))
    have b5:=D.t i
    refine Nb O ?_
    have b6:=B.up ((a.sub (M:=[3,6]) O).trans ((b.sub (M:=[3,6]) O).trans ((d.sub (M:=[3,6]) O).trans (i.sub (M:=[3,6]) O)))) O
    have b7:=C.up ((a.sub (M:=[3,6]) O).trans ((b.sub (M:=[3,6]) O).trans ((d.sub (M:=[3,6]) O).trans (i.sub (M:=[3,6]) O)))) O
    obtain⟨S,b8,T,U⟩:=zmg _ 4
    have b9:Rd S [0,5] [H] f.Commits:=by rw[U];exact(b6.dye 4).sub (M:=[0,5]) O
    have cb:Rd S [0,5] [I] f.Heads:=by rw[U];exact(b7.dye 4).sub (M:=[0,5]) O
    have c6:Rd (α:=List Vm.Commit) S [0] [a8] e.Commits:=by rw[U];exact((((((aj.up h).up a).up b).up d).up i).rd.dye 4).sub (M:=[0]) O
    have cc:=b5.t T
    obtain⟨V,cd,az,W⟩:=zmg _ 5
    have ce:Rd V [0] [H] f.Commits:=by rw[W];exact(b9.dye 5).sub (M:=[0]) O
    have cf:Rd V [0] [I] f.Heads:=by rw[W];exact(cb.dye 5).sub (M:=[0]) O
    have c7:Rd (α:=List Vm.Head) V [0] [a9] e.Heads:=by rw[W];exact(((((((ak.up h).up a).up b).up d).up i).up T).rd.dye 5).sub (M:=[0]) O
    have cg:=cc.t az
    cases Y
    rw[<- cd.trans (b8)]
    exact Cw.ret (zfY O ((b4.up T).up az) O (Res.mk cg ⟨H,I,O,ce,cf⟩))
  ·refine rg (la an (ms O (ca Y (fun _=>p37 (Repo.rd (K:=[0]) x0.Commits x0.Heads (y.ul J) (z.ul J))) fun c8 ch Y k=>Lw.ge O (mb O (bs Y (fun x Y=>?_) fun x Y=>?_)))))
   ·exact psk 3 x O (Pb x O (nl ((ag) ⟨true,ch,O,k,O,Y⟩)))
   ·refine wak 3 x (la (am.up k) ?_)
    have ci:=B.up ((a.sub (M:=[6]) O).trans ((b.sub (M:=[6]) O).trans (k.sub (M:=[6]) O))) O
    have cj:=C.up ((a.sub (M:=[6]) O).trans ((b.sub (M:=[6]) O).trans (k.sub (M:=[6]) O))) O
    exact ca Y (fun _=>p34 (K:=[0,4,5]) (Repo.rd (K:=[0,4,5]) f.Commits f.Heads ci cj)) fun ck cl Y cm=>Lw.r O (R.not O) (Pb x O (nl ((ag) ⟨(!ck),cl,O,(k.j cm).w,O,Y⟩)))
theorem p218 {x0 d f x1 x2 r}(h:Rd W K [d,f] x0)(Y:Vm.zdv x0 x1 x2=some r):Q1 218 [.agg [d,f].toArray,vS x1,vI x2] W [] fun W' v=> ∃ a b,v = .tuple [.agg [a,b].toArray,vB r.2].toArray/\Rd W' (0::K) [a] r.1.Commits/\Rd W' (0::K) [b] r.1.Heads:=
 (c218 (h.view _) Y).ad (fk 0) fun _ _ ⟨a,b,e,i,k⟩=>⟨a,b,e,i.back O,k.back O⟩
theorem c219 {x0 U V x1 x2 x3 r}(h0:Rd W0 [0] [U,V] x0)(Y:Vm.zdb x0 x1 x2 x3=some r):Q0 219 [.agg [U,V].toArray,vS x1,vS x2,vI x3] W0 fun Wf v=> ∃ W X,v = .tuple [.agg [W,X].toArray,vI r.2].toArray/\Rd Wf [0] [W] r.1.Commits/\Rd Wf [0] [X] r.1.Heads:=by
 unfold Vm.zdb at Y
 obtain⟨cj,ck,Z,h,A⟩:=Repo.split h0
 simp only[List.cons.injEq,and_true,true_and]at Z
 obtain⟨rfl,rfl⟩:=Z
 refine zao.of Tryz.func219 O O O O (sr (bo 2 O fun g1 W1 l1 b1=>?_))
 have a2:=l1.o
 refine al 3 [.slice none 0 0, .slice none 0 0] fun g3 W3 F b3=>?_
 have G:=a2.n F
 refine Ni O (ssr (la (b1.up F) (ca Y (fun _=>p34 (Repo.rd (K:=[0]) x0.Commits x0.Heads (h.ul G) (A.ul G))) fun z8 a0 Y l10=>?_)))
 have i:=G.n l10
 have B:=(b1.up F).up l10
 refine Lw.r O (R.not O) (nl (cn Y (fun Y=>?_) fun Y=>?_))
 ·refine sr (Lw.r O (R.bd (zs:=[.slice none 0 0, .slice none 0 0]) (cs:=[.slice none 0 0, .slice none 0 0]) [] O O O zc8) (sta (b3.up l10) (zaa O (zaa O zaG)) fun ct a1 a3=>?_))
  have a5:=i.t a1
  refine Ni O ?_
  cases Y
  exact Cw.ret (zfY O a3 O (Res.mk a5 ⟨.slice none 0 0, .slice none 0 0,O,(rdN (K:=[0])),(rdN (K:=[0]))⟩))
 ·refine sk (Cw.seq ?_)
  obtain⟨a6,a7,Y⟩:=zaY Y
  refine Cw.join 14 31 [31] (fun l w=> ∃ H I,CW.w I=w/\Le [] a0 I/\l=[vB H]/\a6 H=some r) ?_ ?_
  ·rintro _ _ σ ⟨H,I,rfl,C,rfl,Y⟩
   rw[a7]at Y
   have b:=i.n C
   have ae:=(b3.up l10).up C
   refine cn Y (fun Y=>?_) fun Y=>?_
   ·refine sr (la (B.up C) (cr Y (fun _=>p35 (k0:=4) (k1:=5) (Repo.rd (K:=[0]) x0.Commits x0.Heads (h.ul b) (A.ul b))) ?_))
    rintro af _ cu Y ah ⟨ai,aj,rfl,ak,am⟩
    have a8:=b.n ah
    refine sta (ae.up ah) (zaa ak.oc (zaa am.oc zaG)) fun cv J a9=>?_
    have ba:=a8.t J
    refine Ni O ?_
    obtain⟨bb,bc,L,be⟩:=zmg _ 4
    have bg:Rd (α:=List Vm.Commit) bb [0] [ai] af.Commits:=by rw[be];exact((ak.up J).rd.dye 4).sub (M:=[0]) O
    have bh:=ba.t L
    obtain⟨bi,bj,an,bk⟩:=zmg _ 5
    have bl:Rd (α:=List Vm.Head) bi [0] [aj] af.Heads:=by rw[bk];exact(((am.up J).up L).rd.dye 5).sub (M:=[0]) O
    have ao:=an.s
    cases Y
    rw[<- bj.trans (bc)]
    exact Cw.ret (zfY O ((a9.up L).up an) O (Res.mk (bh.trans ao) ⟨ai,aj,O,(bg.ul ao),bl⟩))
   ·refine sk (sr (la (B.up C) (cr Y (fun _=>p35 (k0:=6) (k1:=7) (Repo.rd (K:=[0]) x0.Commits x0.Heads (h.ul b) (A.ul b))) ?_)))
    rintro d _ cw Y ap ⟨bm,bn,rfl,aq,ar⟩
    have bp:=b.n ap
    refine ms O (ms O (mi O (cr Y (fun _=>p36 (K:=[6,7]) (x0:=(Vm.Repo.mk d.Commits d.Heads)) (Repo.rd (K:=[6,7]) d.Commits d.Heads (aq.rd.sub (M:=[6,7]) O) (ar.rd.sub (M:=[6,7]) O))) ?_)))
    rintro a _ cx Y D ⟨e,f,rfl,bq,br⟩
    have au:=bq.sub (M:=[0,6,7]) O
    have av:=br.sub (M:=[0,6,7]) O
    have bu:=bp.n D
    refine Lw.r O (R.ext (vs:=[.agg [e,f].toArray,vI a.2]) (v:= .agg [e,f].toArray) O O) (Lw.r O (R.ext (vs:=[.agg [e,f].toArray,vI a.2]) (v:=vI a.2) O O) (sta ((ae.up ap).up D) (zaa au.oc (zaa av.oc zaG)) fun cy k bv=>?_))
    have bw:=bu.t k
    refine Ni O ?_
    have bz:=au.up (k.sub (M:=[3]) O) O
    have b0:=av.up (k.sub (M:=[3]) O) O
    obtain⟨N,b2,P,Q⟩:=zmg _ 6
    have b4:Rd N [0,7] [e] a.1.Commits:=by rw[Q];exact(bz.dye 6).sub (M:=[0,7]) O
    have b5:Rd N [0,7] [f] a.1.Heads:=by rw[Q];exact(b0.dye 6).sub (M:=[0,7]) O
    have cz:Rd (α:=List Vm.Commit) N [0] [bm] d.Commits:=by rw[Q];exact(((aq.up D).up k).rd.dye 6).sub (M:=[0]) O
    have b6:=bw.t P
    obtain⟨S,b7,aw,T⟩:=zmg _ 7
    have b8:Rd S [0] [e] a.1.Commits:=by rw[T];exact(b4.dye 7).sub (M:=[0]) O
    have b9:Rd S [0] [f] a.1.Heads:=by rw[T];exact(b5.dye 7).sub (M:=[0]) O
    have c0:Rd (α:=List Vm.Head) S [0] [bn] d.Heads:=by rw[T];exact((((ar.up D).up k).up P).rd.dye 7).sub (M:=[0]) O
    have cb:=b6.t aw
    cases Y
    rw[<- b7.trans (b2)]
    exact Cw.ret (zfY O ((bv.up P).up aw) O (Res.mk cb ⟨e,f,O,b8,b9⟩))
  ·refine rg (la B (ms O (ca Y (fun _=>p37 (Repo.rd (K:=[0]) x0.Commits x0.Heads (h.ul i) (A.ul i))) fun c1 cc Y x=>?_)))
   have cd:=i.n x
   refine Lw.lt O (mb O (bs Y (fun y Y=>?_) fun y Y=>?_))
   ·exact psk 3 y O (Pb y O (mb O (psk 7 O O (Pb O O (nl ((ag) ⟨true,cc,O,x,O,Y⟩))))))
   ·refine wak 3 y (ms O (ca Y (fun _=>p81) fun c2 ce Y E=>?_))
    have cf:=cd.n E
    refine Lw.r O (R.not O) (Pb y O (mb O (bs Y (fun z Y=>?_) fun z Y=>?_)))
    ·exact psk 7 z O (Pb z O (nl ((ag) ⟨true,ce,O,(x.j E).w,O,Y⟩)))
    ·exact wak 7 z (mi O (fl ((B.up x).up E) O (Lw.ln x0.Commits (h.ul cf) O (Lw.sub O (ca Y (fun _=>p80) fun cg ch Y ci=>Lw.r O (R.not O) (Pb z O (nl ((ag) ⟨(!cg),ch,O,((x.j E).j ci).w,O,Y⟩))))))))
theorem p219 {x0 d f x1 x2 x3 r}(h:Rd W K [d,f] x0)(Y:Vm.zdb x0 x1 x2 x3=some r):Q1 219 [.agg [d,f].toArray,vS x1,vS x2,vI x3] W [] fun W' v=> ∃ a b,v = .tuple [.agg [a,b].toArray,vI r.2].toArray/\Rd W' (0::K) [a] r.1.Commits/\Rd W' (0::K) [b] r.1.Heads:=
 (c219 (h.view _) Y).ad (fk 0) fun _ _ ⟨a,b,e,i,k⟩=>⟨a,b,e,i.back O,k.back O⟩
end Go.Sx
