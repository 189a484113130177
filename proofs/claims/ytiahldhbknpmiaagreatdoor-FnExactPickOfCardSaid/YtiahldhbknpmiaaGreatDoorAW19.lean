/- Walks: each function answers as its model, printed by a program of ours. Conditions: the arguments read as they are given. -/
import Derived.Test.YtiahldhbknpmiaaGreatDoorATs
import Derived.Test.YtiahldhbknpmiaaGreatDoorAM9
import Derived.Test.YtiahldhbknpmiaaGreatDoorAW0
import Derived.Test.YtiahldhbknpmiaaGreatDoorAW1
import Derived.Test.YtiahldhbknpmiaaGreatDoorAW2
import Derived.Test.YtiahldhbknpmiaaGreatDoorAW3
import Derived.Test.YtiahldhbknpmiaaGreatDoorAW4
import Derived.Test.YtiahldhbknpmiaaGreatDoorAW6
import Derived.Test.YtiahldhbknpmiaaGreatDoorAW8
namespace Go.Sx
open Go Go.Proofs Go.Vm Rp
set_option linter.unusedVariables false
set_option linter.unusedSimpArgs false
variable {W W0:CW}{K:List Nat}
theorem c22 {x0 aj ak x1 x2 x3 r}(h0:Rd W0 [0] [aj,ak] x0)(Y:Vm.zhi x0 x1 x2 x3=some r):Q0 22 [.agg [aj,ak].toArray,vS x1,vS x2,vI x3] W0 fun Wf v=> ∃ am an,v = .tuple [.agg [am,an].toArray,vI r.2].toArray/\Rd Wf [0] [am] r.1.Commits/\Rd Wf [0] [an] r.1.Heads:=by
 unfold Vm.zhi at Y
 obtain⟨de,df,ao,z,H⟩:=Repo.split h0
 simp only[List.cons.injEq,and_true,true_and]at ao
 obtain⟨rfl,rfl⟩:=ao
 refine zaz.of Tryz.func22 O O O O (sr (bo 2 O fun g1 W1 l1 b1=>?_))
 have a2:=l1.o
 refine al 3 [.slice none 0 0, .slice none 0 0] fun g3 W3 S b3=>?_
 have U:=a2.n S
 refine Ni O (ssr (la (b1.up S) (ca Y (fun _=>p68 (Repo.rd (K:=[0]) x0.Commits x0.Heads (z.ul U) (H.ul U))) fun z8 bi Y l10=>?_)))
 have A:=U.n l10
 have I:=(b1.up S).up l10
 refine Lw.r O (R.not O) (nl (cn Y (fun Y=>?_) fun Y=>?_))
 ·refine sr (Lw.r O (R.bd (zs:=[.slice none 0 0, .slice none 0 0]) (cs:=[.slice none 0 0, .slice none 0 0]) [] O O O ze4) (sta (b3.up l10) (zaa O (zaa O za0)) fun dl bj bk=>?_))
  have bl:=A.t bj
  refine Ni O ?_
  cases Y
  exact Cw.ret (zhl O bk O (Res.mk bl ⟨.slice none 0 0, .slice none 0 0,O,(rdN (K:=[0])),(rdN (K:=[0]))⟩))
 ·refine sk (Cw.seq ?_)
  obtain⟨bm,bn,Y⟩:=zbM Y
  refine Cw.join 15 32 [32] (fun l w=> ∃ V W,CW.w W=w/\Le [] bi W/\l=[vB V]/\bm V=some r) ?_ ?_
  ·rintro _ _ σ ⟨V,W,rfl,J,rfl,Y⟩
   rw[bn]at Y
   have k:=A.n J
   have ar:=(b3.up l10).up J
   refine cn Y (fun Y=>?_) fun Y=>?_
   ·refine sr (la (I.up J) (cr Y (fun _=>p72 (k0:=4) (k1:=5) (Repo.rd (K:=[0]) x0.Commits x0.Heads (z.ul k) (H.ul k))) ?_))
    rintro au _ dm Y av ⟨aw,ax,rfl,ay,az⟩
    have bp:=k.n av
    refine sta (ar.up av) (zaa ay.oc (zaa az.oc za0)) fun dn X bq=>?_
    have br:=bp.t X
    refine Ni O ?_
    obtain⟨bu,bv,Z,bw⟩:=zn3 _ 4
    have bz:Rd (α:=List Vm.Commit) bu [0] [aw] au.Commits:=by rw[bw];exact((ay.up X).rd.dye 4).sub (M:=[0]) O
    have b0:=br.t Z
    obtain⟨b2,b4,a0,b5⟩:=zn3 _ 5
    have b6:Rd (α:=List Vm.Head) b2 [0] [ax] au.Heads:=by rw[b5];exact(((az.up X).up Z).rd.dye 5).sub (M:=[0]) O
    have a1:=a0.s
    cases Y
    rw[<- b4.trans (bv)]
    exact Cw.ret (zhl O ((bq.up Z).up a0) O (Res.mk (b0.trans a1) ⟨aw,ax,O,(bz.ul a1),b6⟩))
   ·refine sk (sr (la (I.up J) (cr Y (fun _=>p72 (k0:=6) (k1:=7) (Repo.rd (K:=[0]) x0.Commits x0.Heads (z.ul k) (H.ul k))) ?_)))
    rintro a _ dp Y a3 ⟨aa,ac,rfl,a5,a6⟩
    have b7:=k.n a3
    refine al 8 [.slice none 0 0, .slice none 0 0] fun dq dr x b8=>?_
    have b9:=b7.n x
    refine sta b8 (zaa (a5.up x).oc (zaa (a6.up x).oc za0)) fun ds L cb=>?_
    have cc:=b9.t L
    refine nl (Cw.seq (Cw.draw [] [(0,1),(1,0),(2,0),(3,1),(4,0),(6,0),(7,1),(8,0),(9,0),(10,0),(11,1),(5,2),(12,2),(13,0),(14,0),(15,3),(16,0)] mixed (by kernel_rfl) fun dt B=>?_))
    have cd:=cc.n B
    have y:=((a5.up x).up L).up B
    have ae:=((a6.up x).up L).up B
    have af:=cb.up B
    refine Mw.q O O (fun _ c=>R.lda (cs:=[aa,ac]) (af.clcs O c) O O) (Ds O (Ds O (Mw.q O O (fun _ c=>R.lda (cs:=[aa,ac]) (af.clcs O c) O O) (Di O (Dfl af O O O (Di O ?_))))))
    obtain⟨ce,ah,Y⟩:=ob Y
    refine Mw.p O O (fun _=>R.ix (α:=Commit) y.rd ah O O O) (Df O ?_)
    obtain⟨cf,c80,r81⟩:=(Commit.at2 (y.rd.at_ ah)).cell O
    refine Mw.q O O (fun _ c=>R.ld O O (zaB (Commit.at2 (y.rd.at_ ah)).1 O c80 c)) ?_
    obtain⟨a7,cg,Y⟩:=ob Y
    refine Mw.t O O (T.call O (p74 (K:=[6,7]) (x0:=(Vm.Repo.mk a.Commits a.Heads)) (Repo.rd (K:=[6,7]) a.Commits a.Heads (y.rd.sub (M:=[6,7]) O) (ae.rd.sub (M:=[6,7]) O)) cg)) ?_
    rintro a8 _ ⟨du,rfl,b,⟨_,rfl,ch⟩⟩
    have a9:=ch.sub (M:=[0,6,7]) O
    have ci:=cd.n b
    refine m0 b fun cj=>?_
    have ck:=r81.up (b.sub (M:=[]) O) O
    obtain⟨d,cl,Y⟩:=ob Y
    refine Mw.t O O (T.call O (p73 (K:=[0,6,7]) (x0:=(Vm.Repo.mk a.Commits a.Heads)) ((Repo.rd (K:=[6,7]) a.Commits a.Heads ((y.up b).rd.sub (M:=[6,7]) O) ((ae.up b).rd.sub (M:=[6,7]) O)).sub (M:=[0,6,7]) O) a9 (ck.sub (M:=[0,6,7]) O) cl)) ?_
    rintro _ _ ⟨dv,rfl,e,⟨f,h,rfl,cm,co⟩⟩
    have ba:=cm.sub (M:=[0,6,7]) O
    have bb:=co.sub (M:=[0,6,7]) O
    have cp:=ci.n e
    refine mc cj e fun dw=>Mw.p O O (fun _=>R.ext (vs:=[.agg [f,h].toArray,vI d.2]) (v:= .agg [f,h].toArray) O O) (Mw.p O O (fun _=>R.ext (vs:=[.agg [f,h].toArray,vI d.2]) (v:=vI d.2) O O) (Mw.lu O (T.sta (vs:=[f,h]) ((((((ar.up a3).up x).up L).up B).up b).up e) O O (zaa ba.oc (zaa bb.oc za0)) O O) ?_))
    rintro _ _ ⟨dx,rfl,i,cq⟩
    have ct:=cp.t i
    refine Hi O (Mw.nil ?_)
    have cu:=r81.up ((b.sub (M:=[3]) O).trans ((e.sub (M:=[3]) O).trans (i.sub (M:=[3]) O))) O
    have cv:=a9.up ((e.sub (M:=[3]) O).trans (i.sub (M:=[3]) O)) O
    have cw:=ba.up (i.sub (M:=[3]) O) O
    have cx:=bb.up (i.sub (M:=[3]) O) O
    obtain⟨C,cy,ai,D⟩:=zn3 _ 6
    have dy:Rd C [0] [cf] ce.Tree:=by rw[D];exact(cu.dye 6).sub (M:=[0]) O
    have cz:Rd C [0,7] [a8] a7:=by rw[D];exact(cv.dye 6).sub (M:=[0,7]) O
    have c0:Rd C [0,7] [f] d.1.Commits:=by rw[D];exact(cw.dye 6).sub (M:=[0,7]) O
    have c1:Rd C [0,7] [h] d.1.Heads:=by rw[D];exact(cx.dye 6).sub (M:=[0,7]) O
    have dz:Rd (α:=List Vm.Commit) C [0] [aa] a.Commits:=by rw[D];exact((((y.up b).up e).up i).rd.dye 6).sub (M:=[0]) O
    have c2:=ct.t ai
    obtain⟨N,c3,bc,P⟩:=zn3 _ 7
    have d0:Rd N [0] [a8] a7:=by rw[P];exact(cz.dye 7).sub (M:=[0]) O
    have c4:Rd N [0] [f] d.1.Commits:=by rw[P];exact(c0.dye 7).sub (M:=[0]) O
    have c5:Rd N [0] [h] d.1.Heads:=by rw[P];exact(c1.dye 7).sub (M:=[0]) O
    have d1:Rd (α:=List Vm.Head) N [0] [ac] a.Heads:=by rw[P];exact(((((ae.up b).up e).up i).up ai).rd.dye 7).sub (M:=[0]) O
    have c6:=c2.t bc
    cases Y
    rw[<- c3.trans (cy)]
    exact Cw.ret (zhl O ((cq.up ai).up bc) O (Res.mk c6 ⟨f,h,O,c4,c5⟩))
  ·refine rg (la I (ms O (ca Y (fun _=>p69 (Repo.rd (K:=[0]) x0.Commits x0.Heads (z.ul A) (H.ul A))) fun d2 c7 Y E=>?_)))
   have c8:=A.n E
   refine Lw.lt O (mb O (bs Y (fun F Y=>?_) fun F Y=>?_))
   ·exact psk 3 F O (Pb F O (mb O (psk 7 O O (Pb O O (nl ((ag) ⟨true,c7,O,E,O,Y⟩))))))
   ·refine wak 3 F (ms O (ca Y (fun _=>p70) fun d3 c9 Y Q=>?_))
    have da:=c8.n Q
    refine Lw.r O (R.not O) (Pb F O (mb O (bs Y (fun G Y=>?_) fun G Y=>?_)))
    ·exact psk 7 G O (Pb G O (nl ((ag) ⟨true,c9,O,(E.j Q).w,O,Y⟩)))
    ·exact wak 7 G (mi O (fl ((I.up E).up Q) O (Lw.ln x0.Commits (z.ul da) O (Lw.sub O (ca Y (fun _=>p71) fun db dc Y dd=>Lw.r O (R.not O) (Pb G O (nl ((ag) ⟨(!db),dc,O,((E.j Q).j dd).w,O,Y⟩))))))))
theorem p22 {x0 d f x1 x2 x3 r}(h:Rd W K [d,f] x0)(Y:Vm.zhi x0 x1 x2 x3=some r):Q1 22 [.agg [d,f].toArray,vS x1,vS x2,vI x3] W [] fun W' v=> ∃ a b,v = .tuple [.agg [a,b].toArray,vI r.2].toArray/\Rd W' (0::K) [a] r.1.Commits/\Rd W' (0::K) [b] r.1.Heads:=
 (c22 (h.view _) Y).ad (fk 0) fun _ _ ⟨a,b,e,i,k⟩=>⟨a,b,e,i.back O,k.back O⟩
theorem c23 {x0 z A x1 x2 x3 r}(N:Rd W0 [0] [z,A] x0)(B:Gl 0 W0 [0])(Y:Vm.zjq x0 x1 x2 x3=some r):Q0 23 [.agg [z,A].toArray,vS x1,vS x2,vI x3] W0 fun Wf v=> ∃ C D,v = .tuple [.agg [C,D].toArray,vI r.2].toArray/\OwS Wf [31] [] [C] r.1.Commits/\OwS Wf [32] [] [D] r.1.Heads:=by
 unfold Vm.zjq at Y
 obtain⟨ai,aj,E,F,G⟩:=Repo.split N
 simp only[List.cons.injEq,and_true,true_and]at E
 obtain⟨rfl,rfl⟩:=E
 refine zaz.of Tryz.func23 O O O O (sr (bo 2 O fun g1 W1 P H=>?_))
 have Q:=P.o
 refine al 3 [.slice none 0 0, .slice none 0 0] fun g3 W3 h I=>?_
 have b:=Q.n h
 refine Ni O (ssr (la (H.up h) (ca Y (fun _=>p43 (Repo.rd (K:=[0]) x0.Commits x0.Heads (F.ul b) (G.ul b)) (B.ul b)) fun z9 aq Y d=>?_)))
 have a:=b.n d
 refine Lw.r O (R.not O) (nl (cn Y (fun Y=>?_) fun Y=>?_))
 ·refine sr (Lw.r O (R.bd (zs:=[.slice none 0 0, .slice none 0 0]) (cs:=[.slice none 0 0, .slice none 0 0]) [] O O O ze4) (sta (I.up d) (zaa O (zaa O za0)) fun ar S T=>?_))
  have U:=a.t S
  refine Ni O ?_
  cases Y
  exact Cw.ret (zhl O T O (Res.mk U ⟨.slice none 0 0, .slice none 0 0,O,(znU []).sub O O,(znU []).sub O O⟩))
 ·refine sk (sr (la ((H.up h).up d) (ms O (ms O (mi O (cr Y (fun _=>p77 (k0:=4) (k1:=5) (Repo.rd (K:=[0]) x0.Commits x0.Heads (F.ul a) (G.ul a)) (B.ul a)) ?_))))))
  rintro i _ au Y J ⟨e,f,rfl,L,M⟩
  have V:=a.n J
  refine Lw.r O (R.ext (vs:=[.agg [e,f].toArray,vI i.2]) (v:= .agg [e,f].toArray) O O) (Lw.r O (R.ext (vs:=[.agg [e,f].toArray,vI i.2]) (v:=vI i.2) O O) (sta ((I.up d).up J) (zaa L.oc (zaa M.oc za0)) fun av k W=>?_))
  have X:=V.t k
  refine Ni O ?_
  obtain⟨aw,Z,x,aa⟩:=(L.up k).dyeO 31
  have ac:=X.t x
  obtain⟨ax,ae,y,af⟩:=((M.up k).up x).dyeO 32
  have ah:=ac.t y
  cases Y
  rw[<- ae.trans (Z)]
  exact Cw.ret (zhl O ((W.up x).up y) O (Res.mk ah ⟨e,f,O,(aa.up y).s,af.s⟩))
theorem p23 {x0 d f x1 x2 x3 k0 k1 r}(h:Rd W K [d,f] x0)(i:Gl 0 W K)(Y:Vm.zjq x0 x1 x2 x3=some r):Q1 23 [.agg [d,f].toArray,vS x1,vS x2,vI x3] W [] fun W' v=> ∃ a b,v = .tuple [.agg [a,b].toArray,vI r.2].toArray/\Ow W' k0 [] [a] r.1.Commits/\Ow W' k1 [] [b] r.1.Heads:=
 zaz.adJ (J:=[]) (fun c=>bif Nat.beq c 0 then 0 else bif Nat.beq c 31 then k0 else bif Nat.beq c 32 then k1 else 0) (c23 (h.view _) (i.view _) Y) fun _ _ ⟨a,b,e,k,x⟩=>⟨a,b,e,k.one1.backN O,x.one1.backN O⟩
theorem c4 {x0 av aw x1 x2 x3 r}(h0:Rd W0 [0] [av,aw] x0)(ba:Gl 0 W0 [0])(Y:Vm.zgi x0 x1 x2 x3=some r):Q0 4 [.agg [av,aw].toArray,vS x1,vS x2,vI x3] W0 fun Wf v=>v=vB r:=by
 unfold Vm.zgi at Y
 obtain⟨d8,d9,bb,S,U⟩:=Repo.split h0
 simp only[List.cons.injEq,and_true,true_and]at bb
 obtain⟨rfl,rfl⟩:=bb
 refine zaz.of Tryz.func4 O O O O (sr (bo 2 O fun g1 W1 l1 b1=>?_))
 have V:=l1.o
 refine Nb O (ssr (ms O (Lw.r O (R.lenS O) (Lw.gt O (nl (cn Y (fun Y=>?_) fun Y=>?_))))))
 ·exact sr (Nb O (.ret (rt Y V)))
 ·refine sk (ssr (ms O (Lw.r O (R.lenS O) (Lw.gt O (nl (cn Y (fun Y=>?_) fun Y=>?_))))))
  ·exact sr (Nb O (.ret (rt Y V)))
  ·refine sk (sr (Ni O (sr (la b1 (mi O (ca Y (fun _=>p15 (Repo.rd (K:=[0]) x0.Commits x0.Heads (S.ul V) (U.ul V))) fun z7 W9 Y l9=>?_))))))
   have ae:=V.n l9
   refine Ni O (ssr (mi O (Lw.lt O (nl (cn Y (fun Y=>?_) fun Y=>?_)))))
   ·exact sr (Nb O (.ret (rt Y ae)))
   ·refine sk (sr (la (b1.up l9) (cr Y (fun _=>p17 (k0:=3) (k1:=4) (Repo.rd (K:=[0]) x0.Commits x0.Heads (S.ul ae) (U.ul ae))) ?_)))
    rintro af _ ee Y bc ⟨ef,eg,rfl,ct,cu⟩
    have cv:=ae.n bc
    refine ms O (ms O (mi O (cr Y (fun _=>p22 (K:=[3,4]) (x0:=(Vm.Repo.mk af.Commits af.Heads)) (Repo.rd (K:=[3,4]) af.Commits af.Heads (ct.rd.sub (M:=[3,4]) O) (cu.rd.sub (M:=[3,4]) O))) ?_)))
    rintro f _ eh Y be ⟨ah,ai,rfl,cw,cx⟩
    have aj:=cw.sub (M:=[0,3,4]) O
    have ak:=cx.sub (M:=[0,3,4]) O
    have cy:=cv.n be
    refine mv (.tuple [.agg [ah,ai].toArray,vI f.2].toArray) O (Lw.r O (R.ext (vs:=[.agg [ah,ai].toArray,vI f.2]) (v:= .agg [ah,ai].toArray) O O) (Lw.r O (R.ext (vs:=[.agg [ah,ai].toArray,vI f.2]) (v:=vI f.2) O O) (al 5 [.slice none 0 0, .slice none 0 0] fun ei ej H cz=>?_)))
    have c2:=cy.n H
    refine sta cz (zaa aj.oc (zaa ak.oc za0)) fun ek I c3=>?_
    have az:=c2.t I
    have bg:=((((b1.up l9).up bc).up be).up H).up I
    refine Ni O (sr (la bg (cr Y (fun _=>p17 (k0:=6) (k1:=7) (Repo.rd (K:=[0]) x0.Commits x0.Heads (S.ul az) (U.ul az))) ?_)))
    rintro B _ el Y D ⟨c5,c6,rfl,bh,bi⟩
    have c7:=az.n D
    refine al 8 [.slice none 0 0, .slice none 0 0] fun em en h c8=>?_
    have c9:=c7.n h
    refine sta c8 (zaa (bh.up h).oc (zaa (bi.up h).oc za0)) fun eo z bj=>?_
    have bk:=c9.t z
    have bl:=(bh.up h).up z
    have bm:=(bi.up h).up z
    refine nl (sr (la bj (ms O (ms O (mi O (cr Y (fun _=>p23 (K:=[0,6,7]) (k0:=9) (k1:=10) (x0:=(Vm.Repo.mk B.Commits B.Heads)) ((Repo.rd (K:=[6,7]) B.Commits B.Heads (bl.rd.sub (M:=[6,7]) O) (bm.rd.sub (M:=[6,7]) O)).sub (M:=[0,6,7]) O) ((ba.ul bk).sub (M:=[0,6,7]) O)) ?_))))))
    rintro a _ ep Y y ⟨am,an,rfl,bn,bp⟩
    have da:=bk.n y
    refine mv (.tuple [.agg [am,an].toArray,vI a.2].toArray) O (Lw.r O (R.ext (vs:=[.agg [am,an].toArray,vI a.2]) (v:= .agg [am,an].toArray) O O) (Lw.r O (R.ext (vs:=[.agg [am,an].toArray,vI a.2]) (v:=vI a.2) O O) (al 11 [.slice none 0 0, .slice none 0 0] fun er es b db=>?_)))
    have dc:=da.n b
    refine sta db (zaa (bn.up b).oc (zaa (bp.up b).oc za0)) fun dd d bq=>?_
    have de:=dc.t d
    have br:=(bn.up b).up d
    have bu:=(bp.up b).up d
    have bv:=(((((c3.up D).up h).up z).up y).up b).up d
    refine Ni O (Cw.seq ?_)
    obtain⟨df,dg,Y⟩:=zbM Y
    refine Cw.join 50 58 [58] (fun l w=> ∃ a0 a1,CW.w a1=w/\Le [] dd a1/\l=[vB a0]/\df a0=some r) ?_ ?_
    ·rintro _ _ σ ⟨a0,a1,rfl,i,rfl,Y⟩
     rw[dg]at Y
     have bw:=de.n i
     refine cn Y (fun Y=>?_) fun Y=>?_
     ·exact sr (Nb O (.ret (rt Y bw)))
     ·refine sk (Cw.seq (Cw.seq (Cw.draw [] [(0,1),(1,1),(2,2),(3,3),(4,0)] mixed (by kernel_rfl) fun et k=>?_)))
      have a3:=bw.n k
      have bz:=(((((((bg.up D).up h).up z).up y).up b).up d).up i).up k
      have b0:=((((bj.up y).up b).up d).up i).up k
      refine Mw.q O O (fun _ c=>R.lda (cs:=[c5,c6]) (b0.clcs O c) O O) (Mw.q O O (fun _ c=>R.lda (cs:=[av,aw]) (bz.clcs O c) O O) ?_)
      obtain⟨ao,dh,Y⟩:=ob Y
      refine Mw.t O O (T.call O (p17 (k0:=12) (k1:=13) (Repo.rd (K:=[0]) x0.Commits x0.Heads (S.ul a3) (U.ul a3)) dh)) ?_
      rintro _ _ ⟨eu,rfl,e,⟨ew,ex,rfl,di,dj⟩⟩
      have dk:=a3.n e
      have b2:=(((((bl.up y).up b).up d).up i).up k).up e
      have b3:=(((((bm.up y).up b).up d).up i).up k).up e
      refine m0 e fun ey=>?_
      obtain⟨ez,dl,Y⟩:=ob Y
      refine Mw.l O O (T.call O (p19 (K:=[6,7,12,13]) (x0:=(Vm.Repo.mk B.Commits B.Heads)) (x1:=(Vm.Repo.mk ao.Commits ao.Heads)) ((Repo.rd (K:=[6,7]) B.Commits B.Heads (b2.rd.sub (M:=[6,7]) O) (b3.rd.sub (M:=[6,7]) O)).sub (M:=[6,7,12,13]) O) ((Repo.rd (K:=[12,13]) ao.Commits ao.Heads (di.rd.sub (M:=[12,13]) O) (dj.rd.sub (M:=[12,13]) O)).sub (M:=[6,7,12,13]) O) dl)) ?_
      rintro _ _ ⟨e0,rfl,x,rfl⟩
      have b4:=dk.n x
      refine Mw.p O O (fun _=>R.not O) (Mw.nil (cn Y (fun Y=>?_) fun Y=>?_))
      ·exact sr (Nb O (.ret (rt Y b4)))
      ·refine sk (sr (Ni O (sr (la ((b0.up e).up x) (mi O (cr Y (fun _=>p20 (K:=[0]) (c0:=6) (c1:=7) (x0:=(Vm.Repo.mk B.Commits B.Heads)) (b2.up x) (b3.up x) O) ?_))))))
       rintro e1 _ b5 Y C ⟨rfl,e2,e3⟩
       have dm:=b4.t C
       have b6:=((((br.up i).up k).up e).up x).up C
       have b7:=((((bu.up i).up k).up e).up x).up C
       have b8:=((((bv.up i).up k).up e).up x).up C
       have a4:=((((bq.up i).up k).up e).up x).up C
       refine Ni O (Cw.seq ?_)
       obtain⟨dn,dp,Y⟩:=zbM Y
       refine Cw.join 67 79 [79] (fun l w=> ∃ a5 a6,CW.w a6=w/\Le [] b5 a6/\l=[vB a5]/\dn a5=some r) ?_ ?_
       ·rintro _ _ σ ⟨a5,a6,rfl,E,rfl,Y⟩
        rw[dp]at Y
        have b9:=dm.n E
        refine cn Y (fun Y=>?_) fun Y=>?_
        ·exact sr (Nb O (.ret (rt Y b9)))
        ·refine sk (sr (Ni O (sr (la (a4.up E) (mi O (cr Y (fun _=>p20 (K:=[0]) (c0:=9) (c1:=10) (x0:=(Vm.Repo.mk a.1.Commits a.1.Heads)) (b6.up E) (b7.up E) O) ?_))))))
         rintro J _ e4 Y Q ⟨rfl,cb,cc⟩
         have dq:=b9.t Q
         have cd:=(a4.up E).up Q
         refine Ni O (sr (Ni O (sr (la cd (mi O (ca Y (fun _=>p21 (K:=[9,10]) (x0:=(Vm.Repo.mk J.2.Commits J.2.Heads)) (Repo.rd (K:=[9,10]) J.2.Commits J.2.Heads (cb.rd.sub (M:=[9,10]) O) (cc.rd.sub (M:=[9,10]) O))) fun e5 e6 Y L=>?_))))))
         have W:=dq.n L
         refine Ni O (ssr (mi O (Lw.lt O (nl (cn Y (fun Y=>?_) fun Y=>?_)))))
         ·exact sr (Nb O (.ret (rt Y W)))
         ·refine sk (ssr (mi O (mi O (Lw.ne O (nl (cn Y (fun Y=>?_) fun Y=>?_))))))
          ·exact sr (Nb O (.ret (rt Y W)))
          ·refine sk (sr (la ((((((bz.up e).up x).up C).up E).up Q).up L) (cr Y (fun _=>p17 (k0:=14) (k1:=15) (Repo.rd (K:=[0]) x0.Commits x0.Heads (S.ul W) (U.ul W))) ?_)))
           rintro ap _ e7 Y N ⟨e8,e9,rfl,dr,ds⟩
           have ce:=W.n N
           refine ms O (ms O (mi O (cr Y (fun _=>p23 (K:=[0,14,15]) (k0:=16) (k1:=17) (x0:=(Vm.Repo.mk ap.Commits ap.Heads)) ((Repo.rd (K:=[14,15]) ap.Commits ap.Heads (dr.rd.sub (M:=[14,15]) O) (ds.rd.sub (M:=[14,15]) O)).sub (M:=[0,14,15]) O) ((ba.ul ce).sub (M:=[0,14,15]) O)) ?_)))
           rintro F _ fb Y P ⟨aq,ar,rfl,cf,cg⟩
           have dt:=ce.n P
           refine mv (.tuple [.agg [aq,ar].toArray,vI F.2].toArray) O (Lw.r O (R.ext (vs:=[.agg [aq,ar].toArray,vI F.2]) (v:= .agg [aq,ar].toArray) O O) (Lw.r O (R.ext (vs:=[.agg [aq,ar].toArray,vI F.2]) (v:=vI F.2) O O) (al 18 [.slice none 0 0, .slice none 0 0] fun fc fd A du=>?_)))
           have dv:=dt.n A
           refine sta du (zaa (cf.up A).oc (zaa (cg.up A).oc za0)) fun dw G dx=>?_
           have dy:=dv.t G
           refine Ni O (Cw.seq ?_)
           obtain⟨dz,d0,Y⟩:=zbM Y
           refine Cw.join 100 108 [108] (fun l w=> ∃ a7 a8,CW.w a8=w/\Le [] dw a8/\l=[vB a7]/\dz a7=some r) ?_ ?_
           ·rintro _ _ σ ⟨a7,a8,rfl,au,rfl,Y⟩
            rw[d0]at Y
            have ch:=dy.n au
            refine cn Y (fun Y=>?_) fun Y=>?_
            ·exact sr (Nb O (.ret (rt Y ch)))
            ·refine sk (sr (Ni O (sr (la ((((((cd.up L).up N).up P).up A).up G).up au) (mi O (ca Y (fun _=>p21 (K:=[9,10]) (x0:=(Vm.Repo.mk J.2.Commits J.2.Heads)) (Repo.rd (K:=[9,10]) J.2.Commits J.2.Heads (((((((cb.up L).up N).up P).up A).up G).up au).rd.sub (M:=[9,10]) O) (((((((cc.up L).up N).up P).up A).up G).up au).rd.sub (M:=[9,10]) O))) fun fe ff Y d1=>?_))))))
             have a9:=ch.n d1
             refine Ni O (ssr (mi O (Lw.lt O (nl (cn Y (fun Y=>?_) fun Y=>?_)))))
             ·exact sr (Nb O (.ret (rt Y a9)))
             ·refine sk (ssr (mi O (mi O (Lw.ne O (nl (cn Y (fun Y=>?_) fun Y=>?_))))))
              ·exact sr (Nb O (.ret (rt Y a9)))
              ·exact sk (sr (Nb O (.ret (rt Y a9))))
           ·refine rg (la dx (la (((((((b8.up E).up Q).up L).up N).up P).up A).up G) ?_))
            have d2:=aj.up ((H.sub (M:=[5,6,7,8,9,10,11,18]) O).trans ((I.sub (M:=[5,6,7,8,9,10,11,18]) O).trans ((D.sub (M:=[5,6,7,8,9,10,11,18]) O).trans ((h.sub (M:=[5,6,7,8,9,10,11,18]) O).trans ((z.sub (M:=[5,6,7,8,9,10,11,18]) O).trans ((y.sub (M:=[5,6,7,8,9,10,11,18]) O).trans ((b.sub (M:=[5,6,7,8,9,10,11,18]) O).trans ((d.sub (M:=[5,6,7,8,9,10,11,18]) O).trans ((i.sub (M:=[5,6,7,8,9,10,11,18]) O).trans ((k.sub (M:=[5,6,7,8,9,10,11,18]) O).trans ((e.sub (M:=[5,6,7,8,9,10,11,18]) O).trans ((x.sub (M:=[5,6,7,8,9,10,11,18]) O).trans ((C.sub (M:=[5,6,7,8,9,10,11,18]) O).trans ((E.sub (M:=[5,6,7,8,9,10,11,18]) O).trans ((Q.sub (M:=[5,6,7,8,9,10,11,18]) O).trans ((L.sub (M:=[5,6,7,8,9,10,11,18]) O).trans ((N.sub (M:=[5,6,7,8,9,10,11,18]) O).trans ((P.sub (M:=[5,6,7,8,9,10,11,18]) O).trans ((A.sub (M:=[5,6,7,8,9,10,11,18]) O).trans (G.sub (M:=[5,6,7,8,9,10,11,18]) O)))))))))))))))))))) O
            have d3:=ak.up ((H.sub (M:=[5,6,7,8,9,10,11,18]) O).trans ((I.sub (M:=[5,6,7,8,9,10,11,18]) O).trans ((D.sub (M:=[5,6,7,8,9,10,11,18]) O).trans ((h.sub (M:=[5,6,7,8,9,10,11,18]) O).trans ((z.sub (M:=[5,6,7,8,9,10,11,18]) O).trans ((y.sub (M:=[5,6,7,8,9,10,11,18]) O).trans ((b.sub (M:=[5,6,7,8,9,10,11,18]) O).trans ((d.sub (M:=[5,6,7,8,9,10,11,18]) O).trans ((i.sub (M:=[5,6,7,8,9,10,11,18]) O).trans ((k.sub (M:=[5,6,7,8,9,10,11,18]) O).trans ((e.sub (M:=[5,6,7,8,9,10,11,18]) O).trans ((x.sub (M:=[5,6,7,8,9,10,11,18]) O).trans ((C.sub (M:=[5,6,7,8,9,10,11,18]) O).trans ((E.sub (M:=[5,6,7,8,9,10,11,18]) O).trans ((Q.sub (M:=[5,6,7,8,9,10,11,18]) O).trans ((L.sub (M:=[5,6,7,8,9,10,11,18]) O).trans ((N.sub (M:=[5,6,7,8,9,10,11,18]) O).trans ((P.sub (M:=[5,6,7,8,9,10,11,18]) O).trans ((A.sub (M:=[5,6,7,8,9,10,11,18]) O).trans (G.sub (M:=[5,6,7,8,9,10,11,18]) O)))))))))))))))))))) O
            refine ca Y (fun _=>p19 (K:=[0,3,4,16,17]) (x0:=(Vm.Repo.mk F.1.Commits F.1.Heads)) ((Repo.rd (K:=[16,17]) F.1.Commits F.1.Heads (((cf.up A).up G).rd.sub (M:=[16,17]) O) (((cg.up A).up G).rd.sub (M:=[16,17]) O)).sub (M:=[0,3,4,16,17]) O) ((Repo.rd (K:=[0,3,4]) f.1.Commits f.1.Heads d2 d3).sub (M:=[0,3,4,16,17]) O)) fun fg ci Y cj=>Lw.r O (R.not O) (mb O (bs Y (fun X Y=>?_) fun X Y=>?_))
            ·exact psk 3 X O (Pb X O (nl ((ag) ⟨true,ci,O,cj,O,Y⟩)))
            ·exact wak 3 X (mi O (mi O (Lw.ne O (Pb X O (nl ((ag) ⟨((F.2:Int) !=(f.2:Int)),ci,O,cj,O,Y⟩))))))
       ·refine rg (mi O (Lw.lt O (mb O (bs Y (fun Z Y=>?_) fun Z Y=>?_))))
        ·exact psk 4 Z O (Pb Z O (mb O (psk 3 O O (Pb O O (nl ((ag) ⟨true,b5,O,Le.refl _ _,O,Y⟩))))))
        ·refine wak 4 Z (la a4 (la b8 ?_))
         have d4:=aj.up ((H.sub (M:=[5,6,7,8,11]) O).trans ((I.sub (M:=[5,6,7,8,11]) O).trans ((D.sub (M:=[5,6,7,8,11]) O).trans ((h.sub (M:=[5,6,7,8,11]) O).trans ((z.sub (M:=[5,6,7,8,11]) O).trans ((y.sub (M:=[5,6,7,8,11]) O).trans ((b.sub (M:=[5,6,7,8,11]) O).trans ((d.sub (M:=[5,6,7,8,11]) O).trans ((i.sub (M:=[5,6,7,8,11]) O).trans ((k.sub (M:=[5,6,7,8,11]) O).trans ((e.sub (M:=[5,6,7,8,11]) O).trans ((x.sub (M:=[5,6,7,8,11]) O).trans (C.sub (M:=[5,6,7,8,11]) O))))))))))))) O
         have d5:=ak.up ((H.sub (M:=[5,6,7,8,11]) O).trans ((I.sub (M:=[5,6,7,8,11]) O).trans ((D.sub (M:=[5,6,7,8,11]) O).trans ((h.sub (M:=[5,6,7,8,11]) O).trans ((z.sub (M:=[5,6,7,8,11]) O).trans ((y.sub (M:=[5,6,7,8,11]) O).trans ((b.sub (M:=[5,6,7,8,11]) O).trans ((d.sub (M:=[5,6,7,8,11]) O).trans ((i.sub (M:=[5,6,7,8,11]) O).trans ((k.sub (M:=[5,6,7,8,11]) O).trans ((e.sub (M:=[5,6,7,8,11]) O).trans ((x.sub (M:=[5,6,7,8,11]) O).trans (C.sub (M:=[5,6,7,8,11]) O))))))))))))) O
         refine ca Y (fun _=>p19 (K:=[0,3,4,9,10]) (x0:=(Vm.Repo.mk a.1.Commits a.1.Heads)) ((Repo.rd (K:=[9,10]) a.1.Commits a.1.Heads (b6.rd.sub (M:=[9,10]) O) (b7.rd.sub (M:=[9,10]) O)).sub (M:=[0,3,4,9,10]) O) ((Repo.rd (K:=[0,3,4]) f.1.Commits f.1.Heads d4 d5).sub (M:=[0,3,4,9,10]) O)) fun fh ck Y cl=>Lw.r O (R.not O) (Pb Z O (mb O (bs Y (fun aa Y=>?_) fun aa Y=>?_)))
         ·exact psk 3 aa O (Pb aa O (nl ((ag) ⟨true,ck,O,cl,O,Y⟩)))
         ·exact wak 3 aa (mi O (mi O (Lw.ne O (Pb aa O (nl ((ag) ⟨((a.2:Int) !=(f.2:Int)),ck,O,cl,O,Y⟩))))))
    ·refine rg (la bq (la bv ?_))
     have d6:=aj.up ((H.sub (M:=[5,8,11]) O).trans ((I.sub (M:=[5,8,11]) O).trans ((D.sub (M:=[5,8,11]) O).trans ((h.sub (M:=[5,8,11]) O).trans ((z.sub (M:=[5,8,11]) O).trans ((y.sub (M:=[5,8,11]) O).trans ((b.sub (M:=[5,8,11]) O).trans (d.sub (M:=[5,8,11]) O)))))))) O
     have d7:=ak.up ((H.sub (M:=[5,8,11]) O).trans ((I.sub (M:=[5,8,11]) O).trans ((D.sub (M:=[5,8,11]) O).trans ((h.sub (M:=[5,8,11]) O).trans ((z.sub (M:=[5,8,11]) O).trans ((y.sub (M:=[5,8,11]) O).trans ((b.sub (M:=[5,8,11]) O).trans (d.sub (M:=[5,8,11]) O)))))))) O
     refine ca Y (fun _=>p19 (K:=[0,3,4,9,10]) (x0:=(Vm.Repo.mk a.1.Commits a.1.Heads)) ((Repo.rd (K:=[9,10]) a.1.Commits a.1.Heads (br.rd.sub (M:=[9,10]) O) (bu.rd.sub (M:=[9,10]) O)).sub (M:=[0,3,4,9,10]) O) ((Repo.rd (K:=[0,3,4]) f.1.Commits f.1.Heads d6 d7).sub (M:=[0,3,4,9,10]) O)) fun fi cm Y co=>Lw.r O (R.not O) (mb O (bs Y (fun ac Y=>?_) fun ac Y=>?_))
     ·exact psk 3 ac O (Pb ac O (nl ((ag) ⟨true,cm,O,co,O,Y⟩)))
     ·exact wak 3 ac (mi O (mi O (Lw.ne O (Pb ac O (nl ((ag) ⟨((a.2:Int) !=(f.2:Int)),cm,O,co,O,Y⟩))))))
theorem p4 {x0 a b x1 x2 x3 r}(d:Rd W K [a,b] x0)(f:Gl 0 W K)(Y:Vm.zgi x0 x1 x2 x3=some r):Q1 4 [.agg [a,b].toArray,vS x1,vS x2,vI x3] W [] fun W' v=>v=vB r:=
 (c4 (d.view _) (f.view _) Y).ad (fk 0) fun _ _ e=>e
end Go.Sx
