/- Walks: each function answers as its model, printed by a program of ours. Conditions: the arguments read as they are given. -/
import Derived.Test.YtjokjcdckcpijaaGreatDoorXATs
import Derived.Test.YtjokjcdckcpijaaGreatDoorXAM0
import Derived.Test.YtjokjcdckcpijaaGreatDoorXAW0
import Derived.Test.YtjokjcdckcpijaaGreatDoorXAW1
import Derived.Test.YtjokjcdckcpijaaGreatDoorXAW2
import Derived.Test.YtjokjcdckcpijaaGreatDoorXAW4
namespace Go.Sx
open Go Go.Proofs Go.Vm Rp
set_option linter.unusedVariables false
set_option linter.unusedSimpArgs false
variable {W W0:CW}{K:List Nat}
theorem c66 {x0 aj ak x1 x2 x3 r}(h0:Rd W0 [0] [aj,ak] x0)(Y:Vm.zcQ x0 x1 x2 x3=some r):Q0 66 [.agg [aj,ak].toArray,vS x1,vS x2,vI x3] W0 fun Wf v=> ∃ am an,v = .tuple [.agg [am,an].toArray,vI r.2].toArray/\Rd Wf [0] [am] r.1.Commits/\Rd Wf [0] [an] r.1.Heads:=by
 unfold Vm.zcQ at Y
 obtain⟨de,df,ao,z,H⟩:=Repo.split h0
 simp only[List.cons.injEq,and_true,true_and]at ao
 obtain⟨rfl,rfl⟩:=ao
 refine zap.of Tryz.func66 O O O O (sr (bo 2 O fun g1 W1 l1 b1=>?_))
 have a2:=l1.o
 refine al 3 [.slice none 0 0, .slice none 0 0] fun g3 W3 S b3=>?_
 have U:=a2.n S
 refine Ni O (ssr (la (b1.up S) (ca Y (fun _=>p17 (Repo.rd (K:=[0]) x0.Commits x0.Heads (z.ul U) (H.ul U))) fun z8 bi Y l10=>?_)))
 have A:=U.n l10
 have I:=(b1.up S).up l10
 refine Lw.r O (R.not O) (nl (cn Y (fun Y=>?_) fun Y=>?_))
 ·refine sr (Lw.r O (R.bd (zs:=[.slice none 0 0, .slice none 0 0]) (cs:=[.slice none 0 0, .slice none 0 0]) [] O O O zcU) (sta (b3.up l10) (zaa O (zaa O zaw)) fun dl bj bk=>?_))
  have bl:=A.t bj
  refine Ni O ?_
  cases Y
  exact Cw.ret (zeM O bk O (Res.mk bl ⟨.slice none 0 0, .slice none 0 0,O,(rdN (K:=[0])),(rdN (K:=[0]))⟩))
 ·refine sk (Cw.seq ?_)
  obtain⟨bm,bn,Y⟩:=za1 Y
  refine Cw.join 15 32 [32] (fun l w=> ∃ V W,CW.w W=w/\Le [] bi W/\l=[vB V]/\bm V=some r) ?_ ?_
  ·rintro _ _ σ ⟨V,W,rfl,J,rfl,Y⟩
   rw[bn]at Y
   have k:=A.n J
   have ar:=(b3.up l10).up J
   refine cn Y (fun Y=>?_) fun Y=>?_
   ·refine sr (la (I.up J) (cr Y (fun _=>p36 (k0:=4) (k1:=5) (Repo.rd (K:=[0]) x0.Commits x0.Heads (z.ul k) (H.ul k))) ?_))
    rintro au _ dm Y av ⟨aw,ax,rfl,ay,az⟩
    have bp:=k.n av
    refine sta (ar.up av) (zaa ay.oc (zaa az.oc zaw)) fun dn X bq=>?_
    have br:=bp.t X
    refine Ni O ?_
    obtain⟨bu,bv,Z,bw⟩:=zgV _ 4
    have bz:Rd (α:=List Vm.Commit) bu [0] [aw] au.Commits:=by rw[bw];exact((ay.up X).rd.dye 4).sub (M:=[0]) O
    have b0:=br.t Z
    obtain⟨b2,b4,a0,b5⟩:=zgV _ 5
    have b6:Rd (α:=List Vm.Head) b2 [0] [ax] au.Heads:=by rw[b5];exact(((az.up X).up Z).rd.dye 5).sub (M:=[0]) O
    have a1:=a0.s
    cases Y
    rw[<- b4.trans (bv)]
    exact Cw.ret (zeM O ((bq.up Z).up a0) O (Res.mk (b0.trans a1) ⟨aw,ax,O,(bz.ul a1),b6⟩))
   ·refine sk (sr (la (I.up J) (cr Y (fun _=>p36 (k0:=6) (k1:=7) (Repo.rd (K:=[0]) x0.Commits x0.Heads (z.ul k) (H.ul k))) ?_)))
    rintro a _ dp Y a3 ⟨aa,ac,rfl,a5,a6⟩
    have b7:=k.n a3
    refine al 8 [.slice none 0 0, .slice none 0 0] fun dq dr x b8=>?_
    have b9:=b7.n x
    refine sta b8 (zaa (a5.up x).oc (zaa (a6.up x).oc zaw)) fun ds L cb=>?_
    have cc:=b9.t L
    refine nl (Cw.seq (Cw.draw [] [(0,1),(1,0),(2,0),(3,1),(4,0),(6,0),(7,1),(8,0),(9,0),(10,0),(11,1),(5,2),(12,2),(13,0),(14,0),(15,3),(16,0)] mixed (by kernel_rfl) fun dt B=>?_))
    have cd:=cc.n B
    have y:=((a5.up x).up L).up B
    have ae:=((a6.up x).up L).up B
    have af:=cb.up B
    refine Mw.q O O (fun _ c=>R.lda (cs:=[aa,ac]) (af.clcs O c) O O) (Ds O (Ds O (Mw.q O O (fun _ c=>R.lda (cs:=[aa,ac]) (af.clcs O c) O O) (Di O (Dfl af O O O (Di O ?_))))))
    obtain⟨ce,ah,Y⟩:=ob Y
    refine Mw.p O O (fun _=>R.ix (α:=Commit) y.rd ah O O O) (Df O ?_)
    obtain⟨cf,c80,r81⟩:=(Commit.at2 (y.rd.at_ ah)).cell O
    refine Mw.q O O (fun _ c=>R.ld O O (zam (Commit.at2 (y.rd.at_ ah)).1 O c80 c)) ?_
    obtain⟨a7,cg,Y⟩:=ob Y
    refine Mw.t O O (T.call O (p80 (K:=[6,7]) (x0:=(Vm.Repo.mk a.Commits a.Heads)) (Repo.rd (K:=[6,7]) a.Commits a.Heads (y.rd.sub (M:=[6,7]) O) (ae.rd.sub (M:=[6,7]) O)) cg)) ?_
    rintro a8 _ ⟨du,rfl,b,⟨_,rfl,ch⟩⟩
    have a9:=ch.sub (M:=[0,6,7]) O
    have ci:=cd.n b
    refine m0 b fun cj=>?_
    have ck:=r81.up (b.sub (M:=[]) O) O
    obtain⟨d,cl,Y⟩:=ob Y
    refine Mw.t O O (T.call O (p79 (K:=[0,6,7]) (x0:=(Vm.Repo.mk a.Commits a.Heads)) ((Repo.rd (K:=[6,7]) a.Commits a.Heads ((y.up b).rd.sub (M:=[6,7]) O) ((ae.up b).rd.sub (M:=[6,7]) O)).sub (M:=[0,6,7]) O) a9 (ck.sub (M:=[0,6,7]) O) cl)) ?_
    rintro _ _ ⟨dv,rfl,e,⟨f,h,rfl,cm,co⟩⟩
    have ba:=cm.sub (M:=[0,6,7]) O
    have bb:=co.sub (M:=[0,6,7]) O
    have cp:=ci.n e
    refine mc cj e fun dw=>Mw.p O O (fun _=>R.ext (vs:=[.agg [f,h].toArray,vI d.2]) (v:= .agg [f,h].toArray) O O) (Mw.p O O (fun _=>R.ext (vs:=[.agg [f,h].toArray,vI d.2]) (v:=vI d.2) O O) (Mw.lu O (T.sta (vs:=[f,h]) ((((((ar.up a3).up x).up L).up B).up b).up e) O O (zaa ba.oc (zaa bb.oc zaw)) O O) ?_))
    rintro _ _ ⟨dx,rfl,i,cq⟩
    have ct:=cp.t i
    refine Hi O (Mw.nil ?_)
    have cu:=r81.up ((b.sub (M:=[3]) O).trans ((e.sub (M:=[3]) O).trans (i.sub (M:=[3]) O))) O
    have cv:=a9.up ((e.sub (M:=[3]) O).trans (i.sub (M:=[3]) O)) O
    have cw:=ba.up (i.sub (M:=[3]) O) O
    have cx:=bb.up (i.sub (M:=[3]) O) O
    obtain⟨C,cy,ai,D⟩:=zgV _ 6
    have dy:Rd C [0] [cf] ce.Tree:=by rw[D];exact(cu.dye 6).sub (M:=[0]) O
    have cz:Rd C [0,7] [a8] a7:=by rw[D];exact(cv.dye 6).sub (M:=[0,7]) O
    have c0:Rd C [0,7] [f] d.1.Commits:=by rw[D];exact(cw.dye 6).sub (M:=[0,7]) O
    have c1:Rd C [0,7] [h] d.1.Heads:=by rw[D];exact(cx.dye 6).sub (M:=[0,7]) O
    have dz:Rd (α:=List Vm.Commit) C [0] [aa] a.Commits:=by rw[D];exact((((y.up b).up e).up i).rd.dye 6).sub (M:=[0]) O
    have c2:=ct.t ai
    obtain⟨N,c3,bc,P⟩:=zgV _ 7
    have d0:Rd N [0] [a8] a7:=by rw[P];exact(cz.dye 7).sub (M:=[0]) O
    have c4:Rd N [0] [f] d.1.Commits:=by rw[P];exact(c0.dye 7).sub (M:=[0]) O
    have c5:Rd N [0] [h] d.1.Heads:=by rw[P];exact(c1.dye 7).sub (M:=[0]) O
    have d1:Rd (α:=List Vm.Head) N [0] [ac] a.Heads:=by rw[P];exact(((((ae.up b).up e).up i).up ai).rd.dye 7).sub (M:=[0]) O
    have c6:=c2.t bc
    cases Y
    rw[<- c3.trans (cy)]
    exact Cw.ret (zeM O ((cq.up ai).up bc) O (Res.mk c6 ⟨f,h,O,c4,c5⟩))
  ·refine rg (la I (ms O (ca Y (fun _=>p59 (Repo.rd (K:=[0]) x0.Commits x0.Heads (z.ul A) (H.ul A))) fun d2 c7 Y E=>?_)))
   have c8:=A.n E
   refine Lw.lt O (mb O (bs Y (fun F Y=>?_) fun F Y=>?_))
   ·exact psk 3 F O (Pb F O (mb O (psk 7 O O (Pb O O (nl ((ag) ⟨true,c7,O,E,O,Y⟩))))))
   ·refine wak 3 F (ms O (ca Y (fun _=>p31) fun d3 c9 Y Q=>?_))
    have da:=c8.n Q
    refine Lw.r O (R.not O) (Pb F O (mb O (bs Y (fun G Y=>?_) fun G Y=>?_)))
    ·exact psk 7 G O (Pb G O (nl ((ag) ⟨true,c9,O,(E.j Q).w,O,Y⟩)))
    ·exact wak 7 G (mi O (fl ((I.up E).up Q) O (Lw.ln x0.Commits (z.ul da) O (Lw.sub O (ca Y (fun _=>p30) fun db dc Y dd=>Lw.r O (R.not O) (Pb G O (nl ((ag) ⟨(!db),dc,O,((E.j Q).j dd).w,O,Y⟩))))))))
theorem p66 {x0 d f x1 x2 x3 r}(h:Rd W K [d,f] x0)(Y:Vm.zcQ x0 x1 x2 x3=some r):Q1 66 [.agg [d,f].toArray,vS x1,vS x2,vI x3] W [] fun W' v=> ∃ a b,v = .tuple [.agg [a,b].toArray,vI r.2].toArray/\Rd W' (0::K) [a] r.1.Commits/\Rd W' (0::K) [b] r.1.Heads:=
 (c66 (h.view _) Y).ad (fk 0) fun _ _ ⟨a,b,e,i,k⟩=>⟨a,b,e,i.back O,k.back O⟩
theorem c67 {x0 aj ak x1 x2 x3 r}(h0:Rd W0 [0] [aj,ak] x0)(Y:Vm.zbK x0 x1 x2 x3=some r):Q0 67 [.agg [aj,ak].toArray,vS x1,vS x2,vI x3] W0 fun Wf v=> ∃ am an,v = .tuple [.agg [am,an].toArray,vI r.2].toArray/\Rd Wf [0] [am] r.1.Commits/\Rd Wf [0] [an] r.1.Heads:=by
 unfold Vm.zbK at Y
 obtain⟨de,df,ao,z,H⟩:=Repo.split h0
 simp only[List.cons.injEq,and_true,true_and]at ao
 obtain⟨rfl,rfl⟩:=ao
 refine zap.of Tryz.func67 O O O O (sr (bo 2 O fun g1 W1 l1 b1=>?_))
 have a2:=l1.o
 refine al 3 [.slice none 0 0, .slice none 0 0] fun g3 W3 S b3=>?_
 have U:=a2.n S
 refine Ni O (ssr (la (b1.up S) (ca Y (fun _=>p17 (Repo.rd (K:=[0]) x0.Commits x0.Heads (z.ul U) (H.ul U))) fun z8 bi Y l10=>?_)))
 have A:=U.n l10
 have I:=(b1.up S).up l10
 refine Lw.r O (R.not O) (nl (cn Y (fun Y=>?_) fun Y=>?_))
 ·refine sr (Lw.r O (R.bd (zs:=[.slice none 0 0, .slice none 0 0]) (cs:=[.slice none 0 0, .slice none 0 0]) [] O O O zcU) (sta (b3.up l10) (zaa O (zaa O zaw)) fun dl bj bk=>?_))
  have bl:=A.t bj
  refine Ni O ?_
  cases Y
  exact Cw.ret (zeM O bk O (Res.mk bl ⟨.slice none 0 0, .slice none 0 0,O,(rdN (K:=[0])),(rdN (K:=[0]))⟩))
 ·refine sk (Cw.seq ?_)
  obtain⟨bm,bn,Y⟩:=za1 Y
  refine Cw.join 15 32 [32] (fun l w=> ∃ V W,CW.w W=w/\Le [] bi W/\l=[vB V]/\bm V=some r) ?_ ?_
  ·rintro _ _ σ ⟨V,W,rfl,J,rfl,Y⟩
   rw[bn]at Y
   have k:=A.n J
   have ar:=(b3.up l10).up J
   refine cn Y (fun Y=>?_) fun Y=>?_
   ·refine sr (la (I.up J) (cr Y (fun _=>p36 (k0:=4) (k1:=5) (Repo.rd (K:=[0]) x0.Commits x0.Heads (z.ul k) (H.ul k))) ?_))
    rintro au _ dm Y av ⟨aw,ax,rfl,ay,az⟩
    have bp:=k.n av
    refine sta (ar.up av) (zaa ay.oc (zaa az.oc zaw)) fun dn X bq=>?_
    have br:=bp.t X
    refine Ni O ?_
    obtain⟨bu,bv,Z,bw⟩:=zgV _ 4
    have bz:Rd (α:=List Vm.Commit) bu [0] [aw] au.Commits:=by rw[bw];exact((ay.up X).rd.dye 4).sub (M:=[0]) O
    have b0:=br.t Z
    obtain⟨b2,b4,a0,b5⟩:=zgV _ 5
    have b6:Rd (α:=List Vm.Head) b2 [0] [ax] au.Heads:=by rw[b5];exact(((az.up X).up Z).rd.dye 5).sub (M:=[0]) O
    have a1:=a0.s
    cases Y
    rw[<- b4.trans (bv)]
    exact Cw.ret (zeM O ((bq.up Z).up a0) O (Res.mk (b0.trans a1) ⟨aw,ax,O,(bz.ul a1),b6⟩))
   ·refine sk (sr (la (I.up J) (cr Y (fun _=>p36 (k0:=6) (k1:=7) (Repo.rd (K:=[0]) x0.Commits x0.Heads (z.ul k) (H.ul k))) ?_)))
    rintro a _ dp Y a3 ⟨aa,ac,rfl,a5,a6⟩
    have b7:=k.n a3
    refine al 8 [.slice none 0 0, .slice none 0 0] fun dq dr x b8=>?_
    have b9:=b7.n x
    refine sta b8 (zaa (a5.up x).oc (zaa (a6.up x).oc zaw)) fun ds L cb=>?_
    have cc:=b9.t L
    refine nl (Cw.seq (Cw.draw [] [(0,1),(1,0),(2,0),(3,0),(4,1),(5,0),(6,0),(7,0),(8,1),(9,1),(10,0),(11,2),(12,2),(13,0),(14,0),(15,3),(16,0)] mixed (by kernel_rfl) fun dt B=>?_))
    have cd:=cc.n B
    have y:=((a5.up x).up L).up B
    have ae:=((a6.up x).up L).up B
    have af:=cb.up B
    refine Mw.q O O (fun _ c=>R.lda (cs:=[aa,ac]) (af.clcs O c) O O) (Ds O (Ds O (Dfl af O O O (Di O ?_))))
    obtain⟨ce,ah,Y⟩:=ob Y
    refine Mw.p O O (fun _=>R.ix (α:=Commit) y.rd ah O O O) (Df O ?_)
    obtain⟨cf,c80,r81⟩:=(Commit.at2 (y.rd.at_ ah)).cell O
    refine Mw.q O O (fun _ c=>R.ld O O (zam (Commit.at2 (y.rd.at_ ah)).1 O c80 c)) (Mw.q O O (fun _ c=>R.lda (cs:=[aa,ac]) (af.clcs O c) O O) (Di O ?_))
    obtain⟨a7,cg,Y⟩:=ob Y
    refine Mw.t O O (T.call O (p80 (K:=[6,7]) (x0:=(Vm.Repo.mk a.Commits a.Heads)) (Repo.rd (K:=[6,7]) a.Commits a.Heads (y.rd.sub (M:=[6,7]) O) (ae.rd.sub (M:=[6,7]) O)) cg)) ?_
    rintro a8 _ ⟨du,rfl,b,⟨_,rfl,ch⟩⟩
    have a9:=ch.sub (M:=[0,6,7]) O
    have ci:=cd.n b
    refine m0 b fun cj=>?_
    have ck:=r81.up (b.sub (M:=[]) O) O
    obtain⟨d,cl,Y⟩:=ob Y
    refine Mw.t O O (T.call O (p79 (K:=[0,6,7]) (x0:=(Vm.Repo.mk a.Commits a.Heads)) ((Repo.rd (K:=[6,7]) a.Commits a.Heads ((y.up b).rd.sub (M:=[6,7]) O) ((ae.up b).rd.sub (M:=[6,7]) O)).sub (M:=[0,6,7]) O) (ck.sub (M:=[0,6,7]) O) a9 cl)) ?_
    rintro _ _ ⟨dv,rfl,e,⟨f,h,rfl,cm,co⟩⟩
    have ba:=cm.sub (M:=[0,6,7]) O
    have bb:=co.sub (M:=[0,6,7]) O
    have cp:=ci.n e
    refine mc cj e fun dw=>Mw.p O O (fun _=>R.ext (vs:=[.agg [f,h].toArray,vI d.2]) (v:= .agg [f,h].toArray) O O) (Mw.p O O (fun _=>R.ext (vs:=[.agg [f,h].toArray,vI d.2]) (v:=vI d.2) O O) (Mw.lu O (T.sta (vs:=[f,h]) ((((((ar.up a3).up x).up L).up B).up b).up e) O O (zaa ba.oc (zaa bb.oc zaw)) O O) ?_))
    rintro _ _ ⟨dx,rfl,i,cq⟩
    have ct:=cp.t i
    refine Hi O (Mw.nil ?_)
    have cu:=r81.up ((b.sub (M:=[3]) O).trans ((e.sub (M:=[3]) O).trans (i.sub (M:=[3]) O))) O
    have cv:=a9.up ((e.sub (M:=[3]) O).trans (i.sub (M:=[3]) O)) O
    have cw:=ba.up (i.sub (M:=[3]) O) O
    have cx:=bb.up (i.sub (M:=[3]) O) O
    obtain⟨C,cy,ai,D⟩:=zgV _ 6
    have dy:Rd C [0] [cf] ce.Tree:=by rw[D];exact(cu.dye 6).sub (M:=[0]) O
    have cz:Rd C [0,7] [a8] a7:=by rw[D];exact(cv.dye 6).sub (M:=[0,7]) O
    have c0:Rd C [0,7] [f] d.1.Commits:=by rw[D];exact(cw.dye 6).sub (M:=[0,7]) O
    have c1:Rd C [0,7] [h] d.1.Heads:=by rw[D];exact(cx.dye 6).sub (M:=[0,7]) O
    have dz:Rd (α:=List Vm.Commit) C [0] [aa] a.Commits:=by rw[D];exact((((y.up b).up e).up i).rd.dye 6).sub (M:=[0]) O
    have c2:=ct.t ai
    obtain⟨N,c3,bc,P⟩:=zgV _ 7
    have d0:Rd N [0] [a8] a7:=by rw[P];exact(cz.dye 7).sub (M:=[0]) O
    have c4:Rd N [0] [f] d.1.Commits:=by rw[P];exact(c0.dye 7).sub (M:=[0]) O
    have c5:Rd N [0] [h] d.1.Heads:=by rw[P];exact(c1.dye 7).sub (M:=[0]) O
    have d1:Rd (α:=List Vm.Head) N [0] [ac] a.Heads:=by rw[P];exact(((((ae.up b).up e).up i).up ai).rd.dye 7).sub (M:=[0]) O
    have c6:=c2.t bc
    cases Y
    rw[<- c3.trans (cy)]
    exact Cw.ret (zeM O ((cq.up ai).up bc) O (Res.mk c6 ⟨f,h,O,c4,c5⟩))
  ·refine rg (la I (ms O (ca Y (fun _=>p59 (Repo.rd (K:=[0]) x0.Commits x0.Heads (z.ul A) (H.ul A))) fun d2 c7 Y E=>?_)))
   have c8:=A.n E
   refine Lw.lt O (mb O (bs Y (fun F Y=>?_) fun F Y=>?_))
   ·exact psk 3 F O (Pb F O (mb O (psk 7 O O (Pb O O (nl ((ag) ⟨true,c7,O,E,O,Y⟩))))))
   ·refine wak 3 F (ms O (ca Y (fun _=>p31) fun d3 c9 Y Q=>?_))
    have da:=c8.n Q
    refine Lw.r O (R.not O) (Pb F O (mb O (bs Y (fun G Y=>?_) fun G Y=>?_)))
    ·exact psk 7 G O (Pb G O (nl ((ag) ⟨true,c9,O,(E.j Q).w,O,Y⟩)))
    ·exact wak 7 G (mi O (fl ((I.up E).up Q) O (Lw.ln x0.Commits (z.ul da) O (Lw.sub O (ca Y (fun _=>p30) fun db dc Y dd=>Lw.r O (R.not O) (Pb G O (nl ((ag) ⟨(!db),dc,O,((E.j Q).j dd).w,O,Y⟩))))))))
theorem p67 {x0 d f x1 x2 x3 r}(h:Rd W K [d,f] x0)(Y:Vm.zbK x0 x1 x2 x3=some r):Q1 67 [.agg [d,f].toArray,vS x1,vS x2,vI x3] W [] fun W' v=> ∃ a b,v = .tuple [.agg [a,b].toArray,vI r.2].toArray/\Rd W' (0::K) [a] r.1.Commits/\Rd W' (0::K) [b] r.1.Heads:=
 (c67 (h.view _) Y).ad (fk 0) fun _ _ ⟨a,b,e,i,k⟩=>⟨a,b,e,i.back O,k.back O⟩
theorem c49 {x0 C D x1 Z r}(h0:Rd W0 [0] [C,D] x0)(h1:Rd W0 [0] [vI x1.Kind,vS x1.Branch,vS x1.Who,vS x1.Path,vS x1.To,vI x1.At,Z] x1)(Y:Vm.zfb x0 x1=some r):Q0 49 [.agg [C,D].toArray, .agg [vI x1.Kind,vS x1.Branch,vS x1.Who,vS x1.Path,vS x1.To,vI x1.At,Z].toArray] W0 fun Wf v=> ∃ cc cd,v = .tuple [.agg [cc,cd].toArray,vI r.2].toArray/\Rd Wf [0] [cc] r.1.Commits/\Rd Wf [0] [cd] r.1.Heads:=by
 unfold Vm.zfb at Y
 obtain⟨ft,fu,ce,d,e⟩:=Repo.split h0
 simp only[List.cons.injEq,and_true,true_and]at ce
 obtain⟨rfl,rfl⟩:=ce
 obtain⟨fv,cf,E⟩:=Op.split h1
 simp only[List.cons.injEq,and_true,true_and]at cf
 obtain rfl:=cf
 refine zap.of Tryz.func49 O O O O (sr (bo 2 O fun g1 W1 l1 b1=>?_))
 have a2:=l1.o
 refine bo 3 O fun g3 W3 l3 b3=>?_
 have a4:=a2.n l3
 refine al 4 [.slice none 0 0, .slice none 0 0] fun g6 W6 l6 b6=>?_
 have a7:=a4.n l6
 have b8:=(b1.up l3).up l6
 refine Ni O (sr (la b8 (fl (b3.up l6) O (ca Y (fun _=>p59 (Repo.rd (K:=[0]) x0.Commits x0.Heads (d.ul a7) (e.ul a7))) fun f2 f3 Y ac=>?_))))
 have dm:=a7.n ac
 refine Ni O (sr (Lw.t O (T.lit0 (α:=File) 5 []) ?_))
 rintro a6 _ ⟨f4,rfl,ae,dn⟩
 have dp:=dm.n ae
 refine Nv a6 O ?_
 obtain⟨af,dq,ah,dr⟩:=zgV _ 5
 rw[<- dq]
 have ds:Rd (α:=List Vm.File) af [0] [a6] ([]:List File):=by rw[dr];exact(dn.rd.dye 5).sub (M:=[0]) O
 have a8:=dp.t ah
 have cj:=((b8.up ac).up ae).up ah
 obtain⟨dt,du,Y⟩:=za1 Y
 refine Cw.join 21 28 [7] (fun l w=> ∃ a9 B ai,CW.w ai=w/\Le [] af ai/\l=[B]/\Rd ai [0] [B] a9/\dt a9=some r) ?_ ?_
 ·rintro _ _ σ ⟨a9,B,ai,rfl,aj,rfl,r32,Y⟩
  rw[du]at Y
  have b:=a8.n aj
  have f:=cj.up aj
  have a:=((((b3.up l6).up ac).up ae).up ah).up aj
  have x:=(((b6.up ac).up ae).up ah).up aj
  refine ssr (fl a O (nl (Cw.block (sr (Lw.eq O (Nb O (cn Y (fun Y=>?_) fun Y=>?_)))))))
  ·refine sr (mv B O (fl a O (fl a O (Lw.r O (R.bd (zs:=[vS ([]:Str), .slice none 0 0]) (cs:=[vS x1.Path,Z]) [(0,vS x1.Path),(1,Z)] O O O (zaD O O (zaD E.oc O zcU))) (cr Y (fun _=>p60 (k0:=6) (x1:=(Vm.File.mk x1.Path x1.Text)) r32 (File.rd (K:=[0]) x1.Path x1.Text (E.ul b))) ?_)))))
   rintro y _ ck Y ak ⟨h,rfl,dv⟩
   have cl:Ow (α:=List (Sh Vm.File)) ck 6 [0] [h] y.1:=dv.sub O
   have am:=b.n ak
   refine mv (.tuple [h,vB y.2].toArray) O (Lw.r O (R.ext (vs:=[h,vB y.2]) (v:=h) O O) (Lw.r O (R.ext (vs:=[h,vB y.2]) (v:=vB y.2) O O) (Gv h O (Nb O (sr (la (f.up ak) (la (a.up ak) (mv h O (mb O ?_)))))))))
   have dw:Rd (α:=List Vm.File) ck [6,0] [h] y.1:=Ow.rdSh cl
   refine cr Y (fun _=>p61 (K:=[0,6]) ((Repo.rd (K:=[0]) x0.Commits x0.Heads (d.ul am) (e.ul am)).sub (M:=[0,6]) O) ((Op.rd (K:=[0]) x1.Kind x1.Branch x1.Who x1.Path x1.To x1.At x1.Text (E.ul am)).sub (M:=[0,6]) O) (dw.sub (M:=[0,6]) O)) ?_
   rintro F _ f5 Y ba ⟨G,H,rfl,dx,dy⟩
   have cm:=dx.sub (M:=[0,6]) O
   have co:=dy.sub (M:=[0,6]) O
   have dz:=am.n ba
   refine Lw.r O (R.ext (vs:=[.agg [G,H].toArray,vI F.2]) (v:= .agg [G,H].toArray) O O) (Lw.r O (R.ext (vs:=[.agg [G,H].toArray,vI F.2]) (v:=vI F.2) O O) (sta ((x.up ak).up ba) (zaa cm.oc (zaa co.oc zaw)) fun f6 an d0=>?_))
   have d1:=dz.t an
   refine Ni O ?_
   have d2:=cm.up (an.sub (M:=[4]) O) O
   have d3:=co.up (an.sub (M:=[4]) O) O
   obtain⟨bb,d4,cp,bc⟩:=zgV _ 6
   have d5:Rd bb [0] [G] F.1.Commits:=by rw[bc];exact(d2.dye 6).sub (M:=[0]) O
   have d6:Rd bb [0] [H] F.1.Heads:=by rw[bc];exact(d3.dye 6).sub (M:=[0]) O
   have f7:Rd (α:=List Vm.File) bb [0] [h] y.1:=by rw[bc];exact(((cl.up ba).up an).rd.dye 6).sub (M:=[0]) O
   have d7:=d1.t cp
   cases Y
   rw[<- d4]
   exact Cw.ret (zeM O (d0.up cp) O (Res.mk d7 ⟨G,H,O,d5,d6⟩))
  ·refine sr (Lw.eq O (Nb O (cn Y (fun Y=>?_) fun Y=>?_)))
   ·refine sr (mv B O (fl a O (cr Y (fun _=>p62 (k0:=7) r32) ?_)))
    rintro z _ cq Y ao ⟨i,rfl,d8⟩
    have ct:Ow (α:=List (Sh Vm.File)) cq 7 [0] [i] z.1:=d8.sub O
    have ap:=b.n ao
    refine mv (.tuple [i,vB z.2].toArray) O (Lw.r O (R.ext (vs:=[i,vB z.2]) (v:=i) O O) (Lw.r O (R.ext (vs:=[i,vB z.2]) (v:=vB z.2) O O) (Gv i O (Nb O (sr (la (f.up ao) (la (a.up ao) (mv i O (mb O ?_)))))))))
    have d9:Rd (α:=List Vm.File) cq [7,0] [i] z.1:=Ow.rdSh ct
    refine cr Y (fun _=>p61 (K:=[0,7]) ((Repo.rd (K:=[0]) x0.Commits x0.Heads (d.ul ap) (e.ul ap)).sub (M:=[0,7]) O) ((Op.rd (K:=[0]) x1.Kind x1.Branch x1.Who x1.Path x1.To x1.At x1.Text (E.ul ap)).sub (M:=[0,7]) O) (d9.sub (M:=[0,7]) O)) ?_
    rintro I _ f8 Y be ⟨J,L,rfl,ea,eb⟩
    have cu:=ea.sub (M:=[0,7]) O
    have cv:=eb.sub (M:=[0,7]) O
    have ec:=ap.n be
    refine Lw.r O (R.ext (vs:=[.agg [J,L].toArray,vI I.2]) (v:= .agg [J,L].toArray) O O) (Lw.r O (R.ext (vs:=[.agg [J,L].toArray,vI I.2]) (v:=vI I.2) O O) (sta ((x.up ao).up be) (zaa cu.oc (zaa cv.oc zaw)) fun f9 aq ed=>?_))
    have ee:=ec.t aq
    refine Ni O ?_
    have ef:=cu.up (aq.sub (M:=[4]) O) O
    have eg:=cv.up (aq.sub (M:=[4]) O) O
    obtain⟨bg,eh,cw,bh⟩:=zgV _ 7
    have ei:Rd bg [0] [J] I.1.Commits:=by rw[bh];exact(ef.dye 7).sub (M:=[0]) O
    have ej:Rd bg [0] [L] I.1.Heads:=by rw[bh];exact(eg.dye 7).sub (M:=[0]) O
    have ga:Rd (α:=List Vm.File) bg [0] [i] z.1:=by rw[bh];exact(((ct.up be).up aq).rd.dye 7).sub (M:=[0]) O
    have ek:=ee.t cw
    cases Y
    rw[<- eh]
    exact Cw.ret (zeM O (ed.up cw) O (Res.mk ek ⟨J,L,O,ei,ej⟩))
   ·refine sr (Lw.eq O (Nb O (cn Y (fun Y=>?_) fun Y=>?_)))
    ·refine sr (mv B O (fl a O (fl a O (cr Y (fun _=>p63 (k0:=8) r32) ?_))))
     rintro A _ cx Y ar ⟨k,rfl,el⟩
     have cy:Ow (α:=List (Sh Vm.File)) cx 8 [0] [k] A.1:=el.sub O
     have au:=b.n ar
     refine mv (.tuple [k,vB A.2].toArray) O (Lw.r O (R.ext (vs:=[k,vB A.2]) (v:=k) O O) (Lw.r O (R.ext (vs:=[k,vB A.2]) (v:=vB A.2) O O) (Gv k O (Nb O (sr (la (f.up ar) (la (a.up ar) (mv k O (mb O ?_)))))))))
     have em:Rd (α:=List Vm.File) cx [8,0] [k] A.1:=Ow.rdSh cy
     refine cr Y (fun _=>p61 (K:=[0,8]) ((Repo.rd (K:=[0]) x0.Commits x0.Heads (d.ul au) (e.ul au)).sub (M:=[0,8]) O) ((Op.rd (K:=[0]) x1.Kind x1.Branch x1.Who x1.Path x1.To x1.At x1.Text (E.ul au)).sub (M:=[0,8]) O) (em.sub (M:=[0,8]) O)) ?_
     rintro N _ gb Y bi ⟨P,Q,rfl,en,eo⟩
     have cz:=en.sub (M:=[0,8]) O
     have c0:=eo.sub (M:=[0,8]) O
     have ep:=au.n bi
     refine Lw.r O (R.ext (vs:=[.agg [P,Q].toArray,vI N.2]) (v:= .agg [P,Q].toArray) O O) (Lw.r O (R.ext (vs:=[.agg [P,Q].toArray,vI N.2]) (v:=vI N.2) O O) (sta ((x.up ar).up bi) (zaa cz.oc (zaa c0.oc zaw)) fun gc av er=>?_))
     have es:=ep.t av
     refine Ni O ?_
     have et:=cz.up (av.sub (M:=[4]) O) O
     have eu:=c0.up (av.sub (M:=[4]) O) O
     obtain⟨bj,ew,c1,bk⟩:=zgV _ 8
     have ex:Rd bj [0] [P] N.1.Commits:=by rw[bk];exact(et.dye 8).sub (M:=[0]) O
     have ey:Rd bj [0] [Q] N.1.Heads:=by rw[bk];exact(eu.dye 8).sub (M:=[0]) O
     have gd:Rd (α:=List Vm.File) bj [0] [k] A.1:=by rw[bk];exact(((cy.up bi).up av).rd.dye 8).sub (M:=[0]) O
     have ez:=es.t c1
     cases Y
     rw[<- ew]
     exact Cw.ret (zeM O (er.up c1) O (Res.mk ez ⟨P,Q,O,ex,ey⟩))
    ·refine sr (Lw.eq O (Nb O (cn Y (fun Y=>?_) fun Y=>?_)))
     ·refine sr (la f (fl a O (mi O (cr Y (fun _=>p64 (Repo.rd (K:=[0]) x0.Commits x0.Heads (d.ul b) (e.ul b))) ?_))))
      rintro aw _ gf Y bl ⟨S,U,rfl,e0,e1⟩
      have bm:=e0.sub (M:=[0]) O
      have bn:=e1.sub (M:=[0]) O
      have c2:=b.n bl
      refine mv (.tuple [.agg [S,U].toArray,vB aw.2].toArray) O (Lw.r O (R.ext (vs:=[.agg [S,U].toArray,vB aw.2]) (v:= .agg [S,U].toArray) O O) (Lw.r O (R.ext (vs:=[.agg [S,U].toArray,vB aw.2]) (v:=vB aw.2) O O) (al 9 [.slice none 0 0, .slice none 0 0] fun gg gh bp e2=>?_)))
      have ax:=bp.o
      refine sta e2 (zaa bm.oc (zaa bn.oc zaw)) fun gj bq e3=>?_
      have ay:=bq.s
      have c3:=((x.up bl).up bp).up bq
      refine Nb O (ssr (mb O (Lw.r O (R.not O) (nl (cn Y (fun Y=>?_) fun Y=>?_)))))
      ·refine sr (la (((f.up bl).up bp).up bq) (sta c3 (zaa d.oc (zaa e.oc zaw)) fun gk e4 e5=>?_))
       have br:=((c2.trans ax).trans ay).t e4
       refine Ni O ?_
       cases Y
       exact Cw.ret (zeM O e5 O (Res.mk br ⟨C,D,O,(d.ul br),(e.ul br)⟩))
      ·refine sk (sr (la e3 (sta c3 (zaa bm.oc (zaa bn.oc zaw)) fun gm e6 e7=>?_)))
       have bu:=e6.s
       refine Ni O ?_
       cases Y
       exact Cw.ret (zeM O e7 O (Res.mk (((c2.trans ax).trans ay).trans bu) ⟨S,U,O,(bm.ul ((ax.trans ay).trans bu)),(bn.ul ((ax.trans ay).trans bu))⟩))
     ·refine sr (Lw.eq O (Nb O (cn Y (fun Y=>?_) fun Y=>?_)))
      ·refine Cw.seq (Cw.draw [] [(0,1),(1,0),(2,1),(3,0),(4,1),(5,1),(6,0),(7,1),(8,2),(9,3),(10,0),(11,0),(12,3),(13,0)] mixed (by kernel_rfl) fun gn V=>?_)
       have bv:=b.n V
       have bw:=a.up V
       refine Mw.q O O (fun _ c=>R.lda (cs:=[C,D]) ((f.up V).clcs O c) O O) (Dfl bw O O O (Dfl bw O O O (Mw.q O O (fun _ c=>R.lda (cs:=[C,D]) ((f.up V).clcs O c) O O) (Dfl bw O O O ?_))))
       obtain⟨go,e8,Y⟩:=ob Y
       refine Mw.t O O (T.call O (p59 (Repo.rd (K:=[0]) x0.Commits x0.Heads (d.ul bv) (e.ul bv)) e8)) ?_
       rintro _ _ ⟨gr,rfl,bz,rfl⟩
       have b0:=bv.n bz
       refine m0 bz fun gs=>?_
       obtain⟨b2,e9,Y⟩:=ob Y
       refine Mw.l O O (T.call O (p65 (Repo.rd (K:=[0]) x0.Commits x0.Heads (d.ul b0) (e.ul b0)) e9)) ?_
       rintro _ _ ⟨gu,rfl,c4,⟨W,X,rfl,fb,fc⟩⟩
       have c5:=fb.sub (M:=[0]) O
       have c6:=fc.sub (M:=[0]) O
       have fd:=b0.n c4
       refine Mw.p O O (fun _=>R.ext (vs:=[.agg [W,X].toArray,vI b2.2]) (v:= .agg [W,X].toArray) O O) (Mw.p O O (fun _=>R.ext (vs:=[.agg [W,X].toArray,vI b2.2]) (v:=vI b2.2) O O) (Mw.lu O (T.sta (vs:=[W,X]) (((x.up V).up bz).up c4) O O (zaa c5.oc (zaa c6.oc zaw)) O O) ?_))
       rintro _ _ ⟨gv,rfl,fe,ff⟩
       have b4:=fe.s
       refine Hi O (Mw.nil ?_)
       cases Y
       exact Cw.ret (zeM O ff O (Res.mk (fd.trans b4) ⟨W,X,O,(c5.ul b4),(c6.ul b4)⟩))
      ·refine sr (Lw.eq O (Nb O (cn Y (fun Y=>?_) fun Y=>?_)))
       ·refine sr (la f (fl a O (fl a O (fl a O (cr Y (fun _=>p66 (Repo.rd (K:=[0]) x0.Commits x0.Heads (d.ul b) (e.ul b))) ?_)))))
        rintro b5 _ gw Y c7 ⟨az,a0,rfl,fg,fh⟩
        have c8:=fg.sub (M:=[0]) O
        have c9:=fh.sub (M:=[0]) O
        have fi:=b.n c7
        refine Lw.r O (R.ext (vs:=[.agg [az,a0].toArray,vI b5.2]) (v:= .agg [az,a0].toArray) O O) (Lw.r O (R.ext (vs:=[.agg [az,a0].toArray,vI b5.2]) (v:=vI b5.2) O O) (sta (x.up c7) (zaa c8.oc (zaa c9.oc zaw)) fun gx fj fm=>?_))
        have b7:=fj.s
        refine Ni O ?_
        cases Y
        exact Cw.ret (zeM O fm O (Res.mk (fi.trans b7) ⟨az,a0,O,(c8.ul b7),(c9.ul b7)⟩))
       ·refine sk (sr (la f (fl a O (fl a O (fl a O (cr Y (fun _=>p67 (Repo.rd (K:=[0]) x0.Commits x0.Heads (d.ul b) (e.ul b))) ?_))))))
        rintro b9 _ gy Y da ⟨a1,a3,rfl,fn,fo⟩
        have db:=fn.sub (M:=[0]) O
        have dc:=fo.sub (M:=[0]) O
        have fp:=b.n da
        refine Lw.r O (R.ext (vs:=[.agg [a1,a3].toArray,vI b9.2]) (v:= .agg [a1,a3].toArray) O O) (Lw.r O (R.ext (vs:=[.agg [a1,a3].toArray,vI b9.2]) (v:=vI b9.2) O O) (sta (x.up da) (zaa db.oc (zaa dc.oc zaw)) fun gz fq fr=>?_))
        have cb:=fq.s
        refine Ni O ?_
        cases Y
        exact Cw.ret (zeM O fr O (Res.mk (fp.trans cb) ⟨a1,a3,O,(db.ul cb),(dc.ul cb)⟩))
 ·refine sr (mi O (Lw.ge O (nl (cn Y (fun Y=>?_) fun Y=>?_))))
  ·refine rg (fl cj O (mi O ?_))
   obtain⟨fs,dd,Y⟩:=ob Y
   refine Lw.r O (R.ix (α:=Commit) (d.ul a8) dd O O O) (Lw.fa O ?_)
   obtain⟨de,c263,r264⟩:=(Commit.at2 ((d.ul a8).at_ dd)).cell O
   exact Lw.r O (R.ld O O c263) (Nv de O ((ag) ⟨fs.Tree,de,af,O,Le.refl _ _,O,r264,Y⟩))
  ·exact sk ((ag) ⟨([]:List File),a6,af,O,Le.refl _ _,O,ds,Y⟩)
theorem p49 {x0 d f x1 h r}(i:Rd W K [d,f] x0)(k:Rd W K [vI x1.Kind,vS x1.Branch,vS x1.Who,vS x1.Path,vS x1.To,vI x1.At,h] x1)(Y:Vm.zfb x0 x1=some r):Q1 49 [.agg [d,f].toArray, .agg [vI x1.Kind,vS x1.Branch,vS x1.Who,vS x1.Path,vS x1.To,vI x1.At,h].toArray] W [] fun W' v=> ∃ a b,v = .tuple [.agg [a,b].toArray,vI r.2].toArray/\Rd W' (0::K) [a] r.1.Commits/\Rd W' (0::K) [b] r.1.Heads:=
 (c49 (i.view _) (k.view _) Y).ad (fk 0) fun _ _ ⟨a,b,e,x,y⟩=>⟨a,b,e,x.back O,y.back O⟩
theorem c37 {x0 i r}(P:Rd W0 [0] [i] x0)(Y:Vm.zdu x0=some r):Q0 37 [i] W0 fun Wf v=> ∃ a8 a9,v = .agg [a8,a9].toArray/\Rd Wf [0] [a8] r.Commits/\Rd Wf [0] [a9] r.Heads:=by
 unfold Vm.zdu at Y
 refine zap.of Tryz.func37 O O O O (sr (al 2 [.slice none 0 0, .slice none 0 0] fun g1 W1 l1 b1=>?_))
 have a2:=l1.o
 refine nl (sr (Lw.r O (R.bd (zs:=[.slice none 0 0, .slice none 0 0]) (cs:=[.slice none 0 0, .slice none 0 0]) [] O O O zcU) (al 3 [.slice none 0 0, .slice none 0 0] fun g3 W3 l3 b3=>?_)))
 have a4:=a2.n l3
 refine sta b3 (zaa O (zaa O zaw)) fun W6 l6 b6=>?_
 have a7:=a4.t l6
 refine nl (ssr (Ni O (Cw.block ?_)))
 obtain⟨cb,cc,Y⟩:=za1 Y
 refine Cw.loop 8 32 [4,5,6] (fun m l w=> ∃ f F G ae af x y z,CW.w z=w/\Le [3,6] W6 z/\l=[vI f,ae,af]/\Rd z [0] [x] F/\Rd z [0] [y] G/\Bx z 3 g3 [x,y]/\Vm.zbk x0 cb m f F G=some r) _ ⟨0,([]:List Commit),([]:List Head),undef,undef, .slice none 0 0, .slice none 0 0,W6,O,Le.refl _ _,O,rdN,rdN,b6,Y⟩ ?_
 rintro(_ |de) _ _ σ ⟨f,F,G,ae,af,x,y,z,rfl,ah,rfl,r14,r17,bg,Y⟩
 ·cases Y
 unfold Vm.zbk at Y
 have H:=a7.t ah
 refine Cw.seq ?_
 obtain⟨cd,ce,Y⟩:=za1 Y
 refine Cw.join 8 15 [15] (fun l w=> ∃ ai Q,CW.w Q=w/\Le [] z Q/\l=[vB ai]/\cd ai=some r) ?_ ?_
 ·rintro _ _ σ ⟨ai,Q,rfl,I,rfl,Y⟩
  rw[ce]at Y
  have A:=I.o
  refine cn Y (fun Y=>?_) fun Y=>?_
  ·refine sk ?_
   obtain⟨cf,cg,Y⟩:=za1 Y
   refine Cw.join 18 32 [5,6] (fun l w=> ∃ S U aj ak V X C,CW.w C=w/\Le [3,6] Q C/\l=[aj,ak]/\Rd C [0] [V] S/\Rd C [0] [X] U/\Bx C 3 g3 [V,X]/\cf S U=some r) ?_ ?_
   ·rintro _ _ σ ⟨S,U,aj,ak,V,X,C,rfl,ch,rfl,r35,r38,ci,Y⟩
    rw[cg]at Y
    exact rg (mi O (Lw.add O (Ni O ((agm) ⟨w64 (f+1),S,U,aj,ak,V,X,C,O,((ah.j I).j ch).w,O,r35,r38,ci,Y⟩))))
   ·refine Cw.block (sr (mv i O (mi O ?_)))
    obtain⟨D,bh,Y⟩:=ob Y
    have bi:=P.ul (H.trans A)
    refine Lw.r O (R.ix (α:=Vm.Op) bi bh O O O) ?_
    obtain⟨x47,c48,_,r49⟩:=(bi.at_ bh).cells
    obtain⟨df,rfl,r51⟩:=Op.split r49
    refine Lw.r O (R.lda c48 O O) (ca Y (fun _=>p48 (Op.rd (K:=[0]) D.Kind D.Branch D.Who D.Path D.To D.At D.Text r51)) fun dg cj Y Z=>?_)
    have J:=Z.o
    have am:=(bg.up I).up Z
    refine nl (cn Y (fun Y=>?_) fun Y=>?_)
    ·refine Cw.seq ?_
     obtain⟨a,bj,Y⟩:=ob Y
     obtain⟨b,ck,Y⟩:=ob Y
     refine Cw.par [[],[],[],[1,2],[1,2,3],[0,1,2,3,4],[0,1,2,3,4,5],[0,1,2,3,4,5,6],[0,1,2,3,4,5,6],[],[0,1,2,3,4,5,6,7,9],[0,1,2,3,4,5,6,7,8,9,10]] [[],[],[],[1,2],[3],[0,4],[5],[5,6],[5,6],[],[5,7,9],[8]] [[],[],[],[],[],[],[],[],[],[],[6],[]] [[0],[1],[2],[3],[4],[5],[5,6],[5,7],[8],[9],[5,9],[11]] [[],[],[],[],[0],[0],[],[],[],[6],[6],[]] [0,1,2,3,4,5,6,7,8,10,11] [6] [fun vs W=>(vs 0) = .agg [x,y].toArray,fun vs W=>(vs 1)=i,fun vs W=>(vs 2)=vI f,fun vs W=>(vs 3)=ptr ((slA i).add ((f).toNat*Rp.sz (Vm.Op))),fun vs W=>(vs 4) = .agg [vI a.Kind,vS a.Branch,vS a.Who,vS a.Path,vS a.To,vI a.At,(zaK (vs 4) 6)].toArray/\Rd W [0] [(zaK (vs 4) 6)] a.Text,fun vs W=>(vs 5) = .tuple [.agg [(zaK (zaK (vs 5) 0) 0),(zaK (zaK (vs 5) 0) 1)].toArray,vI b.2].toArray/\Rd W [0] [(zaK (zaK (vs 5) 0) 0)] b.1.Commits/\Rd W [0] [(zaK (zaK (vs 5) 0) 1)] b.1.Heads,fun vs W=>(vs 6) = .tuple [.agg [(zaK (zaK (vs 5) 0) 0),(zaK (zaK (vs 5) 0) 1)].toArray,vI b.2].toArray,fun vs W=>(vs 7) = .agg [(zaK (zaK (vs 5) 0) 0),(zaK (zaK (vs 5) 0) 1)].toArray,fun vs W=>(vs 8)=vI b.2,fun vs W=>(vs 9)=ptr (bx (pg (vs 9)))/\Bx W 6 (pg (vs 9)) [.slice none 0 0, .slice none 0 0],fun vs W=>(vs 9)=ptr (bx (pg (vs 9)))/\Bx W 6 (pg (vs 9)) [(zaK (zaK (vs 5) 0) 0),(zaK (zaK (vs 5) 0) 1)],fun vs W=>(vs 11)=vI b.2] [] mixed (by kernel_rfl) O zoZ.nil ?_
     intro dh aa
     have an:=aa.o
     refine⟨(zdc.cons ?_ (zdc.cons ?_ (zdc.cons ?_ (zdc.cons ?_ (zdc.cons ?_ (zdc.cons ?_ (zdc.cons ?_ (zdc.cons ?_ (zdc.cons ?_ (zdc.cons ?_ (zdc.cons ?_ (zdc.cons ?_ zdc.nil)))))))))))),(zgf.cons SE (zgf.cons SE (zgf.cons SE (zgf.cons SE (zgf.cons (fun vs vs' W W' _ hv l hd h=>by(show(vs' 4) = .agg [vI a.Kind,vS a.Branch,vS a.Who,vS a.Path,vS a.To,vI a.At,(zaK (vs' 4) 6)].toArray/\Rd W' [0] [(zaK (vs' 4) 6)] a.Text);rw[hv 4 (zcr O)];exact⟨h.1,h.2.up l (zhr hd (K:=[0]) O)⟩) (zgf.cons (fun vs vs' W W' _ hv l hd h=>by(show(vs' 5) = .tuple [.agg [(zaK (zaK (vs' 5) 0) 0),(zaK (zaK (vs' 5) 0) 1)].toArray,vI b.2].toArray/\Rd W' [0] [(zaK (zaK (vs' 5) 0) 0)] b.1.Commits/\Rd W' [0] [(zaK (zaK (vs' 5) 0) 1)] b.1.Heads);rw[hv 5 (zcr O)];exact⟨h.1,h.2.1.up l (zhr hd (K:=[0]) O),h.2.2.up l (zhr hd (K:=[0]) O)⟩) (zgf.cons (fun vs vs' W W' _ hv l hd h=>by(show(vs' 6) = .tuple [.agg [(zaK (zaK (vs' 5) 0) 0),(zaK (zaK (vs' 5) 0) 1)].toArray,vI b.2].toArray);rw[hv 5 (zcr O),hv 6 (zcr O)];exact h) (zgf.cons (fun vs vs' W W' _ hv l hd h=>by(show(vs' 7) = .agg [(zaK (zaK (vs' 5) 0) 0),(zaK (zaK (vs' 5) 0) 1)].toArray);rw[hv 5 (zcr O),hv 7 (zcr O)];exact h) (zgf.cons SE (zgf.cons (fun vs vs' W W' _ hv l hd h=>by(show(vs' 9)=ptr (bx (pg (vs' 9)))/\Bx W' 6 (pg (vs' 9)) [.slice none 0 0, .slice none 0 0]);rw[hv 9 (zcr O)];exact⟨h.1,h.2.up l (zf9 hd (c:=6) O)⟩) (zgf.cons (fun vs vs' W W' _ hv l hd h=>by(show(vs' 9)=ptr (bx (pg (vs' 9)))/\Bx W' 6 (pg (vs' 9)) [(zaK (zaK (vs' 5) 0) 0),(zaK (zaK (vs' 5) 0) 1)]);rw[hv 5 (zcr O),hv 9 (zcr O)];exact⟨h.1,h.2.up l (zf9 hd (c:=6) O)⟩) (zgf.cons SE zgf.nil)))))))))))),?_⟩
     ·intro vs di lW hN hV
      exact Trq (R.lda (cs:=[x,y]) ((am.up aa).up lW O).cells O O) O
     ·intro vs dj lW hN hV
      exact Trq (R.mv (v:=i) O) O
     ·intro vs dk lW hN hV
      exact Trq (R.mv (v:=vI f) O) O
     ·intro vs dl lW hN hV
      have cl:=(((H.trans A).trans J).trans an).t lW O
      have ao:vs 1=i:=(hN 1 (zcr O))
      obtain⟨vs,rfl⟩:=zcf ao
      have ap:vs 2=vI f:=(hN 2 (zcr O))
      obtain⟨vs,rfl⟩:=zcf ap
      exact Trq (R.ix (α:=Vm.Op) (P.ul cl) bj O O O) O
     ·intro vs cm lW hN hV
      have co:=(((H.trans A).trans J).trans an).t lW O
      have aq:vs 3=ptr ((slA i).add ((f).toNat*Rp.sz (Vm.Op))):=(hN 3 (zcr O))
      obtain⟨vs,rfl⟩:=zcf aq
      obtain⟨x115,c116,_,r117⟩:=((P.ul co).at_ bj).cells
      obtain⟨ar,rfl,r119⟩:=Op.split r117
      exact Trq (R.lda c116 O O) (show(.agg [vI a.Kind,vS a.Branch,vS a.Who,vS a.Path,vS a.To,vI a.At,ar].toArray:Value) = .agg [vI a.Kind,vS a.Branch,vS a.Who,vS a.Path,vS a.To,vI a.At,ar].toArray/\Rd cm [0] [ar] a.Text from⟨O,r119⟩)
     ·intro vs cp lW hN hV
      have bk:=((A.trans J).trans an).t lW O
      have au:vs 0 = .agg [x,y].toArray:=(hN 0 (zcr O))
      obtain⟨vs,rfl⟩:=zcf au
      obtain⟨E,av⟩: ∃ E:Value,vs 4 = .agg [vI a.Kind,vS a.Branch,vS a.Who,vS a.Path,vS a.To,vI a.At,E].toArray:=⟨_,(hN 4 (zcr O)).1⟩
      obtain⟨vs,rfl⟩:=zcf av
      have cq:Rd cp [0] [E] a.Text:=(hN 4 (zcr O)).2
      refine Tr.mono (T.call O (p49 (x0:=(Vm.Repo.mk F G)) (Repo.rd (K:=[0]) F G (r14.ul bk) (r17.ul bk)) (Op.rd (K:=[0]) a.Kind a.Branch a.Who a.Path a.To a.At a.Text cq) ck)) ?_
      rintro _ _ ⟨aw,rfl,ct,⟨ax,ay,rfl,cu,cv⟩⟩
      have cw:=cu.sub (M:=[0]) O
      have cx:=cv.sub (M:=[0]) O
      exact⟨aw,O,ct,(show(.tuple [.agg [ax,ay].toArray,vI b.2].toArray:Value) = .tuple [.agg [ax,ay].toArray,vI b.2].toArray/\Rd aw [0] [ax] b.1.Commits/\Rd aw [0] [ay] b.1.Heads from⟨O,cw,cx⟩)⟩
     ·intro vs bl lW hN hV
      obtain⟨d,e,B⟩: ∃ d e:Value,vs 5 = .tuple [.agg [d,e].toArray,vI b.2].toArray:=⟨_,_,(hN 5 (zcr O)).1⟩
      obtain⟨vs,rfl⟩:=zcf B
      have dm:Rd bl [0] [d] b.1.Commits:=(hN 5 (zcr O)).2.1
      have dn:Rd bl [0] [e] b.1.Heads:=(hN 5 (zcr O)).2.2
      exact Trq (R.mv (v:= .tuple [Value.agg [d,e].toArray,vI b.2].toArray) O) O
     ·intro vs bm lW hN hV
      obtain⟨d,e,B⟩: ∃ d e:Value,vs 5 = .tuple [.agg [d,e].toArray,vI b.2].toArray:=⟨_,_,(hN 5 (zcr O)).1⟩
      obtain⟨vs,rfl⟩:=zcf B
      have dp:Rd bm [0] [d] b.1.Commits:=(hN 5 (zcr O)).2.1
      have dq:Rd bm [0] [e] b.1.Heads:=(hN 5 (zcr O)).2.2
      have L:vs 6 = .tuple [.agg [d,e].toArray,vI b.2].toArray:=(hN 6 (zcr O))
      obtain⟨vs,rfl⟩:=zcf L
      exact Trq (R.ext (vs:=[Value.agg [d,e].toArray,vI b.2]) (v:= .agg [d,e].toArray) O O) O
     ·intro vs bn lW hN hV
      obtain⟨d,e,B⟩: ∃ d e:Value,vs 5 = .tuple [.agg [d,e].toArray,vI b.2].toArray:=⟨_,_,(hN 5 (zcr O)).1⟩
      obtain⟨vs,rfl⟩:=zcf B
      have dr:Rd bn [0] [d] b.1.Commits:=(hN 5 (zcr O)).2.1
      have ds:Rd bn [0] [e] b.1.Heads:=(hN 5 (zcr O)).2.2
      have L:vs 6 = .tuple [.agg [d,e].toArray,vI b.2].toArray:=(hN 6 (zcr O))
      obtain⟨vs,rfl⟩:=zcf L
      exact Trq (R.ext (vs:=[Value.agg [d,e].toArray,vI b.2]) (v:=vI b.2) O O) O
     ·intro vs dt lW hN hV
      refine Tr.mono (T.alloc 6 (cs:=[.slice none 0 0, .slice none 0 0]) O) ?_
      rintro _ _ ⟨az,bp,rfl,rfl,cy,cz⟩
      exact⟨bp,O,cy,(show(ptr (bx az):Value)=ptr (bx az)/\Bx bp 6 az [.slice none 0 0, .slice none 0 0] from⟨O,cz⟩)⟩
     ·intro vs a0 lW hN hV
      obtain⟨d,e,B⟩: ∃ d e:Value,vs 5 = .tuple [.agg [d,e].toArray,vI b.2].toArray:=⟨_,_,(hN 5 (zcr O)).1⟩
      obtain⟨vs,rfl⟩:=zcf B
      have c0:Rd a0 [0] [d] b.1.Commits:=(hN 5 (zcr O)).2.1
      have c1:Rd a0 [0] [e] b.1.Heads:=(hN 5 (zcr O)).2.2
      have a1:vs 7 = .agg [d,e].toArray:=(hN 7 (zcr O))
      obtain⟨vs,rfl⟩:=zcf a1
      obtain⟨k,a3⟩: ∃ k,vs 9=ptr (bx k):=⟨_,((hN 9 (zcr O))).1⟩
      obtain⟨vs,rfl⟩:=zcf a3
      have c2:Bx a0 6 k [.slice none 0 0, .slice none 0 0]:=(hN 9 (zcr O)).2
      refine Tr.mono (T.sta (vs:=[d,e]) c2 O O (zaa c0.oc (zaa c1.oc zaw)) O O) ?_
      rintro _ _ ⟨bq,rfl,c3,c4⟩
      exact⟨bq,O,c3,(show(ptr (bx k))=ptr (bx k)/\Bx bq 6 k [d,e] from⟨O,c4⟩)⟩
     ·intro vs du lW hN hV
      have a5:vs 8=vI b.2:=(hN 8 (zcr O))
      obtain⟨vs,rfl⟩:=zcf a5
      exact Trq (R.as (v:=vI b.2) O) O
     ·intro vs ac br hN
      have au:vs 0 = .agg [x,y].toArray:=(hN 0 (zcr O))
      obtain⟨vs,rfl⟩:=zcf au
      have ao:vs 1=i:=(hN 1 (zcr O))
      obtain⟨vs,rfl⟩:=zcf ao
      have ap:vs 2=vI f:=(hN 2 (zcr O))
      obtain⟨vs,rfl⟩:=zcf ap
      have aq:vs 3=ptr ((slA i).add ((f).toNat*Rp.sz (Vm.Op))):=(hN 3 (zcr O))
      obtain⟨vs,rfl⟩:=zcf aq
      obtain⟨E,av⟩: ∃ E:Value,vs 4 = .agg [vI a.Kind,vS a.Branch,vS a.Who,vS a.Path,vS a.To,vI a.At,E].toArray:=⟨_,(hN 4 (zcr O)).1⟩
      obtain⟨vs,rfl⟩:=zcf av
      have dv:Rd ac [0] [E] a.Text:=(hN 4 (zcr O)).2
      obtain⟨d,e,B⟩: ∃ d e:Value,vs 5 = .tuple [.agg [d,e].toArray,vI b.2].toArray:=⟨_,_,(hN 5 (zcr O)).1⟩
      obtain⟨vs,rfl⟩:=zcf B
      have bu:Rd ac [0] [d] b.1.Commits:=(hN 5 (zcr O)).2.1
      have bv:Rd ac [0] [e] b.1.Heads:=(hN 5 (zcr O)).2.2
      have L:vs 6 = .tuple [.agg [d,e].toArray,vI b.2].toArray:=(hN 6 (zcr O))
      obtain⟨vs,rfl⟩:=zcf L
      have a1:vs 7 = .agg [d,e].toArray:=(hN 7 (zcr O))
      obtain⟨vs,rfl⟩:=zcf a1
      have a5:vs 8=vI b.2:=(hN 8 (zcr O))
      obtain⟨vs,rfl⟩:=zcf a5
      obtain⟨k,a3⟩: ∃ k,vs 9=ptr (bx k):=⟨_,(hN 10 (zcr O)).1⟩
      obtain⟨vs,rfl⟩:=zcf a3
      have c5:Bx ac 6 k [d,e]:=(hN 10 (zcr O)).2
      have c6:vs 11=vI b.2:=(hN 11 (zcr O))
      obtain⟨vs,rfl⟩:=zcf c6
      refine rg (Lw.r O (R.lda (cs:=[d,e]) c5.cells O O) (sta ((am.up aa).up br) (zaa bu.oc (zaa bv.oc zaw)) fun c7 bw c8=>?_))
      have bz:=bw.s
      exact nl ((ag) ⟨b.1.Commits,b.1.Heads,ptr (bx k),vI b.2,d,e,c7,O,(((Z.j aa).j br).j bw).w,O,(bu.ul bz),(bv.ul bz),c8,Y⟩)
    ·exact sk ((ag) ⟨F,G,ae,af,x,y,cj,O,Z.w,O,(r14.ul (A.trans J)),(r17.ul (A.trans J)),am,Y⟩)
  ·refine Cw.exit ?_
   rw[cc]at Y
   refine sr (la (bg.up I) (sta ((((b1.up l3).up l6).up ah).up I) (zaa r14.oc (zaa r17.oc zaw)) fun dw c9 da=>?_))
   have a6:=c9.s
   refine nl ?_
   cases Y
   exact Cw.ret (zkj O da (Res.mk ((H.trans A).trans a6) ⟨x,y,O,(r14.ul (A.trans a6)),(r17.ul (A.trans a6))⟩))
 ·refine rg (mi O (mv i O (Lw.ln x0 (P.ul H) O (Lw.lt O (mb O (bs Y (fun N Y=>?_) fun N Y=>?_))))))
  ·exact wak 2 N (mi O (Lw.lt O (Pb N O (nl ((ag) ⟨decide (f< (30:Int)),z,O,Le.refl _ _,O,Y⟩)))))
  ·exact psk 2 N O (Pb N O (nl ((ag) ⟨false,z,O,Le.refl _ _,O,Y⟩)))
theorem p37 {x0 d r}(f:Rd W K [d] x0)(Y:Vm.zdu x0=some r):Q1 37 [d] W [] fun W' v=> ∃ a b,v = .agg [a,b].toArray/\Rd W' (0::K) [a] r.Commits/\Rd W' (0::K) [b] r.Heads:=
 (c37 (f.view _) Y).ad (fk 0) fun _ _ ⟨a,b,e,h,i⟩=>⟨a,b,e,h.back O,i.back O⟩
theorem c24 {x0 f h r}(hB0:Bx W0 2 f [h,vI x0.p])(F:Rd W0 [0] [h] x0.b)(Y:Vm.zd1 x0=some r):Q0 24 [ptr (bx f)] W0 fun Wf v=> ∃ x y,v = .agg [x,y].toArray/\OwS Wf [31] [] [x] r.1.Commits/\OwS Wf [32] [] [y] r.1.Heads/\Bx Wf 2 f [h,vI r.2]:=by
 unfold Vm.zd1 at Y
 refine zap.of Tryz.func24 O O O O (sr (al 3 [.slice none 0 0, .slice none 0 0] fun g1 W1 z G=>?_))
 have A:=z.o
 have H:=hB0.up z
 refine nl (sr (mp O (cr Y (fun _=>p38 (k0:=4) (c0:=2) (x0:=x0) H (F.ul A) O) ?_)))
 rintro z5 am W7 Y B ⟨_,rfl,I,J⟩
 have L:=A.t B
 refine cr Y (fun _=>p37 (K:=[4]) I.rd) ?_
 rintro C _ ao Y i ⟨ap,aq,rfl,N,P⟩
 have Q:=N.sub (M:=[0,4]) O
 have R:=P.sub (M:=[0,4]) O
 have S:=L.n i
 refine cr Y (fun _=>p36 (K:=[0,4]) (k0:=5) (k1:=6) (Repo.rd (K:=[0,4]) C.Commits C.Heads Q R)) ?_
 rintro ar _ au Y k ⟨T,U,rfl,D,E⟩
 have V:=S.n k
 refine sta (((G.up B).up i).up k) (zaa D.oc (zaa E.oc zaw)) fun av a W=>?_
 have X:=V.t a
 refine nl ?_
 obtain⟨aw,Z,d,aa⟩:=(D.up a).dyeO 31
 have ac:=X.t d
 obtain⟨ax,ae,e,af⟩:=((E.up a).up d).dyeO 32
 have ah:=ac.t e
 cases Y
 rw[<- ae.trans (Z)]
 exact Cw.ret (zkj O ((W.up d).up e) (Res.mk ah ⟨T,U,O,(aa.up e).s,af.s,(((((J.up i).up k).up a).up d).up e)⟩))
theorem p24 {x0 f h k0 k1 c0 r}(hB0:Bx W c0 f [h,vI x0.p])(i:Rd W K [h] x0.b)(hJ:okJ K [c0]=true)(Y:Vm.zd1 x0=some r):Q1 24 [ptr (bx f)] W [c0] fun W' v=> ∃ a d,v = .agg [a,d].toArray/\Ow W' k0 [] [a] r.1.Commits/\Ow W' k1 [] [d] r.1.Heads/\Bx W' c0 f [h,vI r.2]:=
 zap.adJ (J:=[c0]) (fun c=>bif Nat.beq c 0 then 0 else bif Nat.beq c 2 then c0 else bif Nat.beq c 31 then k0 else bif Nat.beq c 32 then k1 else 0) (c24 (hB0.viewJ 0 hJ) (i.view _) Y) fun _ _ ⟨a,d,e,k,x,y⟩=>⟨a,d,e,k.one1.backN O,x.one1.backN O,Bx.backJ 0 y O⟩
theorem c10 {x0 E F r}(hB0:Bx W0 2 E [F,vI x0.p])(ac:Rd W0 [0] [F] x0.b)(Y:Vm.zcJ x0=some r):Q0 10 [ptr (bx E)] W0 fun Wf v=> ∃ am an,v = .agg [am,an].toArray/\OwS Wf [31] [] [am] r.1.Commits/\OwS Wf [32] [] [an] r.1.Heads/\Bx Wf 2 E [F,vI r.2]:=by
 unfold Vm.zcJ at Y
 refine zap.of Tryz.func10 O O O O (sr (al 3 [.slice none 0 0, .slice none 0 0] fun g1 W1 l1 b1=>?_))
 have a2:=l1.o
 have b3:=hB0.up l1
 refine nl (sr (mp O (cr Y (fun _=>p24 (k0:=4) (k1:=5) (c0:=2) (x0:=x0) b3 (ac.ul a2) O) ?_)))
 rintro a _ W7 Y l7 ⟨A,G,rfl,ar,au,bc⟩
 have a8:=a2.t l7
 refine al 6 [.slice none 0 0, .slice none 0 0] fun bg cp l10 bh=>?_
 have bi:=a8.n l10
 refine sta bh (zaa (ar.up l10).oc (zaa (au.up l10).oc zaw)) fun av B H=>?_
 have ae:=bi.t B
 have I:=(ar.up l10).up B
 have aw:=(au.up l10).up B
 have ax:=(bc.up l10).up B
 refine nl ?_
 obtain⟨bj,bk,Y⟩:=za1 Y
 refine Cw.join 7 44 [4] (fun l w=> ∃ af ah ai ay L M e,CW.w e=w/\Le [2,4,5,6,7] av e/\l=[ay]/\Bx e 2 E [F,vI af]/\Ow e 4 [] [L] ah/\Ow e 5 [] [M] ai/\Bx e 6 bg [L,M]/\bj af ah ai=some r) ?_ ?_
 ·rintro _ _ σ ⟨af,ah,ai,ay,L,M,e,rfl,az,rfl,bl,a0,a1,bm,Y⟩
  rw[bk]at Y
  have bn:=ae.t az
  refine sr (la bm (sta ((((b1.up l7).up l10).up B).up az) (zaa a0.oc (zaa a1.oc zaw)) fun cq N bp=>?_))
  have bq:=bn.t N
  refine nl ?_
  obtain⟨ct,br,P,bu⟩:=(a0.up N).dyeO 31
  have bv:=bq.t P
  obtain⟨cu,bw,Q,bz⟩:=((a1.up N).up P).dyeO 32
  have b0:=bv.t Q
  cases Y
  rw[<- bw.trans (br)]
  exact Cw.ret (zkj O ((bp.up P).up Q) (Res.mk b0 ⟨L,M,O,(bu.up Q).s,bz.s,(((bl.up N).up P).up Q)⟩))
 ·refine sr (fl H O (Lw.ln a.1.Commits I.rd O (Lw.gt O (nl (cn Y (fun Y=>?_) fun Y=>?_)))))
  ·refine sr (mp O (fl H O (Lw.ln a.1.Commits I.rd O (cr Y (fun _=>p25 (c0:=2) (x0:=(Vm.l30Rd.mk x0.b a.2)) ax (ac.ul ae) O) ?_))))
   rintro f _ cv Y d ⟨rfl,b2⟩
   have b4:=ae.t d
   refine Ni O (sr (mp O (cr Y (fun _=>p25 (c0:=2) (x0:=(Vm.l30Rd.mk x0.b f.2)) b2 (ac.ul b4) O) ?_)))
   rintro S _ a3 Y h ⟨rfl,U⟩
   have i:=(I.up d).up h
   have V:=(aw.up d).up h
   have k:=(H.up d).up h
   refine nl (Cw.block (sr (Lw.eq O (Nb O (cn Y (fun Y=>?_) fun Y=>?_)))))
   ·refine rg (fl k O (mi O (mi O (Lw.t O (T.bsS (α:=Int) (xs:=[f.1]) 7 [] (W:=a3) [vI f.1] (Each.cons ((rdI _)) Each.nil) O) ?_))))
    rintro cw _ ⟨cx,rfl,x,b5⟩
    obtain⟨cy,a4,Y⟩:=ob Y
    refine Lw.r O (R.ix (α:=Commit) (i.up x).rd a4 O O O) (Lw.fa O ?_)
    obtain⟨b6,b7,Y⟩:=ob Y
    refine Lw.u (T.stH (α:=Commit) (β:=List Int) (J:=[7]) (Ow.hole (α:=Commit) (β:=List Int) (jf:=0) (i.up x) a4) b5.s b7 O O O O) ?_
    rintro _ _ ⟨b8,rfl,X,b9⟩
    exact nl ((ag) ⟨S.2,b6,a.1.Heads,vI f.1,A,G,b8,O,(((d.j h).j x).j X).w,O,((U.up x).up X),b9,((V.up x).up X),((k.up x).up X),Y⟩)
   ·refine sr (Lw.eq O (Nb O (cn Y (fun Y=>?_) fun Y=>?_)))
    ·refine rg (fl k O (mi O ?_))
     obtain⟨cz,a5,Y⟩:=ob Y
     refine Lw.r O (R.ix (α:=Commit) i.rd a5 O O O) (Lw.fa O ?_)
     obtain⟨cb,cc,Y⟩:=ob Y
     refine Lw.u (T.stH (α:=Commit) (β:=Str) (J:=[]) (Ow.hole (α:=Commit) (β:=Str) (jf:=1) i a5) (OwS.atm (K:=[]) (rdS _)) cc O O O O) ?_
     rintro _ _ ⟨cd,rfl,Z,ce⟩
     exact nl ((ag) ⟨S.2,cb,a.1.Heads,vI f.1,A,G,cd,O,((d.j h).j Z).w,O,(U.up Z),ce,(V.up Z),(k.up Z),Y⟩)
    ·refine sr (Lw.eq O (Nb O (cn Y (fun Y=>?_) fun Y=>?_)))
     ·refine Cw.draw [5] [(0,0),(1,1),(2,0),(3,1),(4,0),(5,2),(6,2),(7,2),(8,0),(9,3)] mixed (by kernel_rfl) fun c1 C=>?_
      have aj:=V.up C
      have ak:=k.up C
      refine Dfl ak O O O (Dfl ak O O O ?_)
      obtain⟨y,a6,Y⟩:=ob Y
      refine Mw.p O O (fun _=>R.ix (α:=Head) aj.rd a6 O O O) ?_
      obtain⟨x112,c113,_,r114⟩:=(aj.rd.at_ a6).cells
      obtain rfl:=Head.split r114
      refine Mw.t O O (Run.tr (R.lda c113 O O)) ?_
      rintro _ _ ⟨hu,rfl⟩
      obtain rfl:=hu.symm
      refine⟨⟨_,O,(Le.refl _ _)⟩,?_⟩
      refine Mw.t O O (T.bs 8 [.agg [vS y.Name,vI y.At].toArray] (cs:=[vS y.Name,vI y.At]) O O (bsA O)) ?_
      rintro _ _ ⟨c2,c3,rfl,rfl,z,cf⟩
      refine m0 z fun cg=>?_
      obtain⟨ch,ci,Y⟩:=ob Y
      refine Mw.t O O (T.app1S (α:=Head) (K':=[]) (aj.up z) cf (Head.rd (K:=[]) y.Name y.At) O O ci) ?_
      rintro a7 _ ⟨c4,rfl,D,a9⟩
      refine mc cg D fun c5=>Df O (Mw.lu O (T.st (j:=1) (v:=a7) ((ak.up z).up D) O O a9.oc O O) ?_)
      rintro _ _ ⟨cj,rfl,aa,ck⟩
      exact Mw.nil ((ag) ⟨S.2,a.1.Commits,ch,vI f.1,A,a7,cj,O,(((((d.j h).j C).j z).j D).j aa).w,O,((((U.up C).up z).up D).up aa),((((i.up C).up z).up D).up aa),(a9.up aa),ck,Y⟩)
     ·exact sk ((ag) ⟨S.2,a.1.Commits,a.1.Heads,vI f.1,A,G,a3,O,(d.j h).w,O,U,i,V,k,Y⟩)
  ·exact sk ((ag) ⟨a.2,a.1.Commits,a.1.Heads,undef,A,G,av,O,Le.refl _ _,O,ax,I,aw,H,Y⟩)
theorem p10 {x0 f h k0 k1 c0 r}(hB0:Bx W c0 f [h,vI x0.p])(i:Rd W K [h] x0.b)(hJ:okJ K [c0]=true)(Y:Vm.zcJ x0=some r):Q1 10 [ptr (bx f)] W [c0] fun W' v=> ∃ a d,v = .agg [a,d].toArray/\Ow W' k0 [] [a] r.1.Commits/\Ow W' k1 [] [d] r.1.Heads/\Bx W' c0 f [h,vI r.2]:=
 zap.adJ (J:=[c0]) (fun c=>bif Nat.beq c 0 then 0 else bif Nat.beq c 2 then c0 else bif Nat.beq c 31 then k0 else bif Nat.beq c 32 then k1 else 0) (c10 (hB0.viewJ 0 hJ) (i.view _) Y) fun _ _ ⟨a,d,e,k,x,y⟩=>⟨a,d,e,k.one1.backN O,x.one1.backN O,Bx.backJ 0 y O⟩
theorem c4 {x0 a r}(A:Rd W0 [0] [a] x0)(Y:Vm.zbw x0=some r):Q0 4 [a] W0 fun Wf v=> ∃ f h,v = .agg [f,h].toArray/\OwS Wf [31] [] [f] r.Commits/\OwS Wf [32] [] [h] r.Heads:=by
 unfold Vm.zbw at Y
 refine zap.of Tryz.func4 O O O O (sr (al 2 [.slice none 0 0, .slice none 0 0] fun V W B C=>?_))
 have i:=B.o
 refine nl (sr (mv a O (cr Y (fun _=>p11 (k0:=3) (A.ul i)) ?_)))
 rintro D _ X Y k ⟨Z,aa,rfl,E,F⟩
 have G:=F.sub (M:=[0]) O
 have H:=i.n k
 refine cr Y (fun _=>p10 (k0:=4) (k1:=5) (c0:=3) (x0:=D) E G O) ?_
 rintro ac _ ae Y x ⟨I,J,rfl,y,z,af⟩
 have K:=H.t x
 refine sta ((C.up k).up x) (zaa y.oc (zaa z.oc zaw)) fun ah b L=>?_
 have N:=K.t b
 refine nl ?_
 obtain⟨ai,P,d,Q⟩:=(y.up b).dyeO 31
 have R:=N.t d
 obtain⟨aj,S,e,T⟩:=((z.up b).up d).dyeO 32
 have U:=R.t e
 cases Y
 rw[<- S.trans (P)]
 exact Cw.ret (zkj O ((L.up d).up e) (Res.mk U ⟨I,J,O,(Q.up e).s,T.s⟩))
theorem p4 {x0 d k0 k1 r}(f:Rd W K [d] x0)(Y:Vm.zbw x0=some r):Q1 4 [d] W [] fun W' v=> ∃ a b,v = .agg [a,b].toArray/\Ow W' k0 [] [a] r.Commits/\Ow W' k1 [] [b] r.Heads:=
 zap.adJ (J:=[]) (fun c=>bif Nat.beq c 0 then 0 else bif Nat.beq c 31 then k0 else bif Nat.beq c 32 then k1 else 0) (c4 (f.view _) Y) fun _ _ ⟨a,b,e,h,i⟩=>⟨a,b,e,h.one1.backN O,i.one1.backN O⟩
theorem c23 {x0 x1 x2 r}(Y:Vm.zcc x0 x1 x2=some r):Q0 23 [vI x0,vI x1,vI x2] W0 fun Wf v=>v=vB r:=by
 unfold Vm.zcc at Y
 refine zap.of Tryz.func23 O O O O (sr (Nb O ?_))
 obtain⟨e,f,Y⟩:=za1 Y
 refine Cw.join 7 14 [6] (fun l w=> ∃ b d,CW.w d=w/\Le [] W0 d/\l=[vB b]/\e b=some r) ?_ ?_
 ·rintro _ _ σ ⟨b,d,rfl,h,rfl,Y⟩
  rw[f]at Y
  have i:=h.o
  exact .ret (rt Y i)
 ·refine rg (mi O (mi O (Lw.le O (mb O (bs Y (fun a Y=>?_) fun a Y=>?_)))))
  ·exact wak 3 a (mi O (mi O (Lw.le O (Pb a O (Nb O ((ag) ⟨decide (x0<=(x2:Int)),W0,O,Le.refl _ _,O,Y⟩))))))
  ·exact psk 3 a O (Pb a O (Nb O ((ag) ⟨false,W0,O,Le.refl _ _,O,Y⟩)))
theorem p23 {x0 x1 x2 r}(Y:Vm.zcc x0 x1 x2=some r):Q1 23 [vI x0,vI x1,vI x2] W [] fun W' v=>v=vB r:=
 (c23 (W0:=W.view [] []) Y).ad (fk 0) fun _ _ e=>e
end Go.Sx
