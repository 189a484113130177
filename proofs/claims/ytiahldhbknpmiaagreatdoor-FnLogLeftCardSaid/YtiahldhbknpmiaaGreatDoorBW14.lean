/- Walks: each function answers as its model, printed by a program of ours. Conditions: the arguments read as they are given. -/
import Derived.Test.YtiahldhbknpmiaaGreatDoorBTs
import Derived.Test.YtiahldhbknpmiaaGreatDoorBM6
import Derived.Test.YtiahldhbknpmiaaGreatDoorBW0
import Derived.Test.YtiahldhbknpmiaaGreatDoorBW1
import Derived.Test.YtiahldhbknpmiaaGreatDoorBW3
import Derived.Test.YtiahldhbknpmiaaGreatDoorBW5
import Derived.Test.YtiahldhbknpmiaaGreatDoorBW6
import Derived.Test.YtiahldhbknpmiaaGreatDoorBW8
namespace Go.Sx
open Go Go.Proofs Go.Vm Rp
set_option linter.unusedVariables false
set_option linter.unusedSimpArgs false
variable {W W0:CW}{K:List Nat}
theorem c129 {x0 f h x1 H I r}(hB0:Bx W0 2 f [h,vI x0.p])(x:Rd W0 [0] [h] x0.b)(h1:Rd W0 [0] [H,I] x1)(Y:Vm.zjM x0 x1=some r):Q0 129 [ptr (bx f), .agg [H,I].toArray] W0 fun Wf v=> ∃ J,v=J/\OwS Wf [31] [] [J] r.1/\Bx Wf 2 f [h,vI r.2]:=by
 unfold Vm.zjM at Y
 obtain⟨bc,be,K,ah,bg⟩:=Repo.split h1
 simp only[List.cons.injEq,and_true,true_and]at K
 obtain⟨rfl,rfl⟩:=K
 refine zaY.of Tryz.func129 O O O O (sr (bo 3 O fun g1 W1 L b1=>?_))
 have a2:=L.o
 have b3:=hB0.up L
 refine Nv (.slice none 0 0) O (sr (Lw.t O (T.lit0 (α:=Int) 4 []) ?_))
 rintro M _ ⟨W4,rfl,y,o4⟩
 have N:=a2.n y
 refine Nv M O (ssr (mp O (cr Y (fun _=>p181 (c0:=2) (x0:=x0) (b3.up y) (x.ul N) O) ?_)))
 rintro P _ Q Y z ⟨rfl,an⟩
 have ao:=N.t z
 refine Ni O (Cw.block ?_)
 obtain⟨ap,aq,Y⟩:=zdY Y
 refine Cw.loop 10 21 [5,6] (fun m l w=> ∃ A i d a e,CW.w e=w/\Le [2,4] Q e/\l=[a,vI i]/\Ow e 4 [] [a] A/\Bx e 2 f [h,vI d]/\Vm.zgk x0 x1 ap m A i d=some r) _ ⟨([]:List Int),P.1,P.2,M,Q,O,Le.refl _ _,O,(o4.up z),an,Y⟩ ?_
 rintro(_ |bk) _ _ σ ⟨A,i,d,a,e,rfl,B,rfl,C,R,Y⟩
 ·cases Y
 unfold Vm.zgk at Y
 have k:=ao.t B
 refine ssr (mi O (Lw.gt O (nl (cn Y (fun Y=>?_) fun Y=>?_))))
 ·refine sk (Cw.seq (Cw.block (rg (mv a O (mp O (fl (((b1.up y).up z).up B) O (Lw.ln x1.Commits (ah.ul k) O (cr Y (fun _=>p181 (c0:=2) (x0:=(Vm.l30Rd.mk x0.b d)) R (x.ul k) O) ?_))))))))
  rintro D _ bl Y S ⟨rfl,ar⟩
  refine Lw.t O (T.bs 5 [vI D.1] (cs:=[vI D.1]) O O (bsv O)) ?_
  rintro _ _ ⟨bm,bn,rfl,rfl,E,au⟩
  obtain⟨av,aw,Y⟩:=ob Y
  refine Lw.t O (T.app1S (α:=Int) (K':=[]) ((C.up S).up E) au (rdI _) O O aw) ?_
  rintro U _ ⟨ax,rfl,V,ay⟩
  exact Nv U O (rg (mi O (Lw.sub O (Ni O ((agm) ⟨av,w64 (i-1),D.2,U,ax,O,(((B.j S).j E).j V).w,O,ay,((ar.up E).up V),Y⟩)))))
 ·refine Cw.exit ?_
  rw[aq]at Y
  refine ssr (mp O (cr Y (fun _=>p181 (c0:=2) (x0:=(Vm.l30Rd.mk x0.b d)) R (x.ul k) O) ?_))
  rintro bp _ bq Y F ⟨rfl,W⟩
  have X:=k.t F
  refine Lw.eq O (nl (cn Y (fun Y=>?_) fun Y=>?_))
  ·refine sr (mv a O (Lw.t O (T.bs 6 [vI (-1)] (cs:=[vI (-1)]) O O (bsv O)) ?_))
   rintro _ _ ⟨br,bu,rfl,rfl,G,az⟩
   have a0:=X.n G
   obtain⟨bv,a1,Y⟩:=ob Y
   refine Lw.t O (T.app1S (α:=Int) (K':=[]) ((C.up F).up G) az (rdI _) O O a1) ?_
   rintro Z _ ⟨bw,rfl,aa,a3⟩
   have a4:=a0.t aa
   refine Nv Z O ?_
   obtain⟨bz,a6,ac,a7⟩:=a3.dyeO 31
   have a8:=a4.t ac
   cases Y
   rw[<- a6]
   exact Cw.ret (zmc O (Res.mk a8 ⟨Z,O,a7.s,(((W.up G).up aa).up ac)⟩))
  ·refine sk (sr (mv a O (Nv a O ?_)))
   obtain⟨b0,a9,ae,ba⟩:=(C.up F).dyeO 31
   have bb:=X.t ae
   cases Y
   rw[<- a9]
   exact Cw.ret (zmc O (Res.mk bb ⟨a,O,ba.s,(W.up ae)⟩))
theorem p129 {x0 d f x1 h i k0 c0 r}(hB0:Bx W c0 d [f,vI x0.p])(k:Rd W K [f] x0.b)(x:Rd W K [h,i] x1)(hJ:okJ K [c0]=true)(Y:Vm.zjM x0 x1=some r):Q1 129 [ptr (bx d), .agg [h,i].toArray] W [c0] fun W' v=> ∃ a,v=a/\Ow W' k0 [] [a] r.1/\Bx W' c0 d [f,vI r.2]:=
 zaY.adJ (J:=[c0]) (fun c=>bif Nat.beq c 0 then 0 else bif Nat.beq c 2 then c0 else bif Nat.beq c 31 then k0 else 0) (c129 (hB0.viewJ 0 hJ) (k.view _) (x.view _) Y) fun _ _ ⟨a,e,y,z⟩=>⟨a,e,y.one1.backN O,Bx.backJ 0 z O⟩
theorem c55 {x0 D r}(h0:Rd W0 [0] [D] x0)(Y:Vm.zgQ x0=some r):Q0 55 [D] W0 fun Wf v=> ∃ N P Q,v = .tuple [.agg [N,P].toArray,Q,vI r.2.2].toArray/\OwS Wf [31] [] [N] r.1.Commits/\OwS Wf [32] [] [P] r.1.Heads/\OwS Wf [33] [] [Q] r.2.1:=by
 unfold Vm.zgQ at Y
 refine zaY.of Tryz.func55 O O O O (sr (al 2 [.slice none 0 0, .slice none 0 0] fun g1 W1 l1 b1=>?_))
 have S:=l1.o
 refine Gv (.slice none 0 0) O (Ni O (sr (mv D O (cr Y (fun _=>p127 (k0:=3) (h0.ul S)) ?_))))
 rintro E _ W6 Y U ⟨bg,bh,rfl,am,an⟩
 have F:=an.sub (M:=[0]) O
 have a8:=S.n U
 refine Np O (sr (mp O (cr Y (fun _=>p128 (k0:=4) (k1:=5) (c0:=3) (x0:=E) am F O) ?_)))
 rintro a _ bi Y V ⟨k,x,rfl,W,X,ap⟩
 have G:=V.s
 refine al 6 [.slice none 0 0, .slice none 0 0] fun bj bk e aq=>?_
 have H:=e.o
 refine sta aq (zai (W.up e).oc (zai (X.up e).oc zbt)) fun bl h Z=>?_
 have I:=h.s
 have aa:=(W.up e).up h
 have ac:=(X.up e).up h
 refine nl (sr (mp O (la Z (cr Y (fun _=>p129 (K:=[0,4,5]) (k0:=7) (c0:=3) (x0:=(Vm.l30Rd.mk E.b a.2)) (x1:=(Vm.Repo.mk a.1.Commits a.1.Heads)) ((ap.up e).up h) ((F.ul ((G.trans H).trans I)).sub (M:=[0,4,5]) O) ((Repo.rd (K:=[4,5]) a.1.Commits a.1.Heads (aa.rd.sub (M:=[4,5]) O) (ac.rd.sub (M:=[4,5]) O)).sub (M:=[0,4,5]) O) O) ?_))))
 rintro ar y bm Y i ⟨_,rfl,au,av⟩
 have ae:=i.s
 refine Nv y O (Cw.seq (Cw.draw [3] [(0,1),(1,0),(2,0),(3,1),(4,2),(5,3),(6,0),(7,0)] mixed (by kernel_rfl) fun bn f=>?_))
 have af:=f.o
 have J:=(aa.up i).up f
 have L:=(ac.up i).up f
 have ah:=(Z.up i).up f
 refine Mw.q O O (fun _ c=>R.lda (cs:=[k,x]) (ah.clcs O c) O O) (Dv y O (Dp O (Mw.q O O (fun _ c=>R.lda (cs:=[k,x]) (ah.clcs O c) O O) ?_)))
 obtain⟨bp,aw,Y⟩:=ob Y
 refine Mw.t O O (T.call O (p130 (K:=[0,4,5]) (c0:=3) (x0:=(Vm.l30Rd.mk E.b ar.2)) (x1:=(Vm.Repo.mk a.1.Commits a.1.Heads)) (av.up f) ((F.ul ((((G.trans H).trans I).trans ae).trans af)).sub (M:=[0,4,5]) O) ((Repo.rd (K:=[4,5]) a.1.Commits a.1.Heads (J.rd.sub (M:=[4,5]) O) (L.rd.sub (M:=[4,5]) O)).sub (M:=[0,4,5]) O) O aw)) ?_
 rintro _ _ ⟨bq,rfl,d,⟨rfl,br⟩⟩
 have ax:=(((((a8.trans G).trans H).trans I).trans ae).trans af).t d
 refine m0 d fun bu=>Mw.lu O (T.sta (vs:=[k,x]) (((((((b1.up U).up V).up e).up h).up i).up f).up d) O O (zai (J.up d).oc (zai (L.up d).oc zbt)) O O) ?_
 rintro _ _ ⟨bv,rfl,z,ay⟩
 have az:=ax.t z
 refine Hv y O (Hi O (Mw.nil ?_))
 obtain⟨bw,a0,A,a1⟩:=((J.up d).up z).dyeO 31
 have a3:=az.t A
 obtain⟨bz,a4,B,a5⟩:=(((L.up d).up z).up A).dyeO 32
 have a6:=a3.t B
 obtain⟨b0,a7,C,a9⟩:=(((((au.up f).up d).up z).up A).up B).dyeO 33
 have ba:=a6.t C
 cases Y
 rw[<- a7.trans (a4.trans (a0))]
 exact Cw.ret (zvS (zjD.c O (((ay.up A).up B).up C) (zjD.t O (zjD.t O zjD.n))) (Res.mk ba ⟨k,x,y,O,((a1.up B).up C).s,(a5.up C).s,a9.s⟩))
theorem p55 {x0 f k0 k1 k2 r}(h:Rd W K [f] x0)(Y:Vm.zgQ x0=some r):Q1 55 [f] W [] fun W' v=> ∃ a b d,v = .tuple [.agg [a,b].toArray,d,vI r.2.2].toArray/\Ow W' k0 [] [a] r.1.Commits/\Ow W' k1 [] [b] r.1.Heads/\Ow W' k2 [] [d] r.2.1:=
 zaY.adJ (J:=[]) (fun c=>bif Nat.beq c 0 then 0 else bif Nat.beq c 31 then k0 else bif Nat.beq c 32 then k1 else bif Nat.beq c 33 then k2 else 0) (c55 (h.view _) Y) fun _ _ ⟨a,b,d,e,i,k,x⟩=>⟨a,b,d,e,i.one1.backN O,k.one1.backN O,x.one1.backN O⟩
theorem c131 {x0 x y x1 f x2 r}(F:Rd W0 [0] [x,y] x0)(z:Rd W0 [0] [f] x1)(G:Gl 0 W0 [0])(Y:Vm.zei x0 x1 x2=some r):Q0 131 [.agg [x,y].toArray,f,vI x2] W0 fun Wf v=>v=vB r:=by
 unfold Vm.zei at Y
 obtain⟨S,T,A,B,C⟩:=Repo.split F
 simp only[List.cons.injEq,and_true,true_and]at A
 obtain⟨rfl,rfl⟩:=A
 refine zaY.of Tryz.func131 O O O O (sr (bo 2 O fun U H I D=>?_))
 have a:=I.o
 refine Nb O ?_
 obtain⟨J,L,Y⟩:=zdY Y
 refine Cw.join 7 19 [6] (fun l w=> ∃ h i,CW.w i=w/\Le [] H i/\l=[vB h]/\J h=some r) ?_ ?_
 ·rintro _ _ σ ⟨h,i,rfl,M,rfl,Y⟩
  rw[L]at Y
  have N:=a.n M
  exact .ret (rt Y N)
 ·refine rg (la D (mv f O (ca Y (fun _=>p122 (Repo.rd (K:=[0]) x0.Commits x0.Heads (B.ul a) (C.ul a)) (z.ul a) (G.ul a)) fun V E Y b=>?_)))
  have k:=a.n b
  refine mb O (bs Y (fun d Y=>?_) fun d Y=>?_)
  ·refine wak 3 d (mv f O (Lw.ln x1 (z.ul k) O (Lw.le O (Pb d O (mb O (bs Y (fun e Y=>?_) fun e Y=>?_))))))
   ·exact wak 3 e (la (D.up b) (mi O (ca Y (fun _=>p89 (Repo.rd (K:=[0]) x0.Commits x0.Heads (B.ul k) (C.ul k))) fun P Q Y R=>Pb e O (Nb O ((ag) ⟨P,Q,O,(b.j R).w,O,Y⟩)))))
   ·exact psk 3 e O (Pb e O (Nb O ((ag) ⟨false,E,O,b,O,Y⟩)))
  ·exact psk 3 d O (Pb d O (mb O (psk 3 O O (Pb O O (Nb O ((ag) ⟨false,E,O,b,O,Y⟩))))))
theorem p131 {x0 a b x1 d x2 r}(f:Rd W K [a,b] x0)(h:Rd W K [d] x1)(i:Gl 0 W K)(Y:Vm.zei x0 x1 x2=some r):Q1 131 [.agg [a,b].toArray,d,vI x2] W [] fun W' v=>v=vB r:=
 (c131 (f.view _) (h.view _) (i.view _) Y).ad (fk 0) fun _ _ e=>e
theorem c92 {x0 G H x1 x2 y r}(h0:Rd W0 [0] [G,H] x0)(z:Rd W0 [0] [y] x2)(Y:Vm.zgR x0 x1 x2=some r):Q0 92 [.agg [G,H].toArray,vI x1,y] W0 fun Wf v=> ∃ I,v=I/\OwS Wf LL [] [I] r:=by
 unfold Vm.zgR at Y
 obtain⟨a5,a6,J,L,M⟩:=Repo.split h0
 simp only[List.cons.injEq,and_true,true_and]at J
 obtain⟨rfl,rfl⟩:=J
 refine zaY.of Tryz.func92 O O O O (sr (bo 2 O fun g1 W1 l1 N=>?_))
 have A:=l1.o
 refine Nv (.slice none 0 0) O (sr (la N (mi O (cr Y (fun _=>p126 (k0:=3) (Repo.rd (K:=[0]) x0.Commits x0.Heads (L.ul A) (M.ul A))) ?_))))
 rintro z5 a P Y Q ⟨_,rfl,ak⟩
 have S:=A.n Q
 refine Nv a O (ssr (mv y O (Lw.ln x2 (z.ul S) O (mi O (nl (Cw.block ?_))))))
 obtain⟨am,an,Y⟩:=zdY Y
 refine Cw.loop 17 34 [9,11,17] (fun m l w=> ∃ e f U B h,CW.w h=w/\Le [3] P h/\l=[U,B,vI e]/\Ow h 3 [] [a] f/\Vm.zdA x0 x2 am m e f=some r) _ ⟨0,z5,undef,undef,P,O,Le.refl _ _,O,ak,Y⟩ ?_
 rintro(_ |ba) _ _ σ ⟨e,f,U,B,h,rfl,C,rfl,V,Y⟩
 ·cases Y
 unfold Vm.zdA at Y
 have b:=S.t C
 refine sr (Lw.lt O (nl (Cw.seq (cn Y (fun Y=>?_) fun Y=>?_))))
 ·refine sk (Cw.seq (Cw.block (sr ?_)))
  obtain⟨ao,W,Y⟩:=ob Y
  refine Lw.r O (R.ix (α:=Int) (z.ul b) W O O O) (Lw.r O (R.ld O O ((z.ul b).at_ W).int) (Ni O (sr (la ((N.up Q).up C) (mi O (cr Y (fun _=>p126 (k0:=4) (Repo.rd (K:=[0]) x0.Commits x0.Heads (L.ul b) (M.ul b))) ?_))))))
  rintro bb bc be Y X ⟨_,rfl,ap⟩
  refine cr Y (fun _=>p134 (K:=[4]) (k0:=5) ap.rd) ?_
  rintro Z bg aa Y ac ⟨_,rfl,D⟩
  refine Lw.ln Z D.rd O (mi O (nl (Cw.block ?_)))
  obtain⟨aq,ar,Y⟩:=zdY Y
  refine Cw.loop 26 33 [11,26] (fun m l w=> ∃ i k E d,CW.w d=w/\Le [3] aa d/\l=[E,vI i]/\Ow d 3 [] [a] k/\Vm.zeG Z aq m i k=some r) _ ⟨0,f,B,aa,O,Le.refl _ _,O,((V.up X).up ac),Y⟩ ?_
  rintro(_ |bh) _ _ σ ⟨i,k,E,d,rfl,x,rfl,F,Y⟩
  ·cases Y
  unfold Vm.zeG at Y
  refine sr (Lw.lt O (nl (Cw.seq (cn Y (fun Y=>?_) fun Y=>?_))))
  ·refine sk (Cw.seq (Cw.block (sr ?_)))
   obtain⟨au,ae,Y⟩:=ob Y
   refine Lw.r O (R.ix (α:=Int) (D.up x).rd ae O O O) (Lw.r O (R.ld O O ((D.up x).rd.at_ ae).int) (Ni O (rg (mv a O (mi O ?_)))))
   obtain⟨bi,av,Y⟩:=ob Y
   refine Lw.r O (R.ix (α:=Bool) F.rd av O O O) ?_
   obtain⟨aw,ax,Y⟩:=ob Y
   refine Lw.u (T.stS (K':=[]) F (rdB _) ax O O O) ?_
   rintro _ _ ⟨ay,rfl,az,a0⟩
   exact nl (rg (Lw.add O (mi O (nl ((agm) ⟨w64 (i+1),aw,vI au,ay,O,(x.j az).w,O,a0,Y⟩)))))
  ·refine Cw.exit ?_
   rw[ar]at Y
   exact rg (Lw.add O (mi O (nl ((agm) ⟨w64 (e+1),k,vI ao,E,d,O,(((C.j X).j ac).j x).w,O,F,Y⟩))))
 ·refine Cw.exit ?_
  rw[an]at Y
  refine sr (mv a O (cr Y (fun _=>p134 (K:=[3]) (k0:=6) V.rd) ?_))
  rintro bj af bk Y a1 ⟨_,rfl,a3⟩
  have a4:=b.n a1
  refine Nv af O ?_
  cases Y
  exact Cw.ret (zmc O (Res.mk a4 ⟨af,O,a3.s.sub O O⟩))
theorem p92 {x0 b d x1 x2 f k0 r}(h:Rd W K [b,d] x0)(i:Rd W K [f] x2)(Y:Vm.zgR x0 x1 x2=some r):Q1 92 [.agg [b,d].toArray,vI x1,f] W [] fun W' v=> ∃ a,v=a/\Ow W' k0 [] [a] r:=
 (c92 (h.view _) (i.view _) Y).ad (fk k0) fun _ _ ⟨a,e,k⟩=>⟨a,e,k.back (zk0 _)⟩
theorem c56 {x0 e f x1 d x2 r}(C:Rd W0 [0] [e,f] x0)(h:Rd W0 [0] [d] x1)(D:Gl 0 W0 [0])(Y:Vm.zgW x0 x1 x2=some r):Q0 56 [.agg [e,f].toArray,d,vI x2] W0 fun Wf v=> ∃ i,v=i/\OwS Wf LL [] [i] r:=by
 unfold Vm.zgW at Y
 obtain⟨I,J,k,x,y⟩:=Repo.split C
 simp only[List.cons.injEq,and_true,true_and]at k
 obtain⟨rfl,rfl⟩:=k
 refine zaY.of Tryz.func56 O O O O (sr (bo 2 O fun L M E z=>?_))
 have a:=E.o
 refine Nv (.slice none 0 0) O (ssr (la z (mv d O (mi O (ca Y (fun _=>p131 (Repo.rd (K:=[0]) x0.Commits x0.Heads (x.ul a) (y.ul a)) (h.ul a) (D.ul a)) fun N P Y A=>?_)))))
 have b:=a.n A
 refine Lw.r O (R.not O) (nl (cn Y (fun Y=>?_) fun Y=>?_))
 ·refine sr (Nv (.slice none 0 0) O ?_)
  cases Y
  exact Cw.ret (zmc O (Res.mk b ⟨.slice none 0 0,O,(zoR []).sub O O⟩))
 ·refine sk (sr (la (z.up A) (mi O (mv d O (cr Y (fun _=>p92 (k0:=3) (Repo.rd (K:=[0]) x0.Commits x0.Heads (x.ul b) (y.ul b)) (h.ul b)) ?_)))))
  rintro Q B S Y F ⟨_,rfl,G⟩
  have H:=b.n F
  refine Nv B O ?_
  cases Y
  exact Cw.ret (zmc O (Res.mk H ⟨B,O,G.s.sub O O⟩))
theorem p56 {x0 b d x1 f x2 k0 r}(h:Rd W K [b,d] x0)(i:Rd W K [f] x1)(k:Gl 0 W K)(Y:Vm.zgW x0 x1 x2=some r):Q1 56 [.agg [b,d].toArray,f,vI x2] W [] fun W' v=> ∃ a,v=a/\Ow W' k0 [] [a] r:=
 (c56 (h.view _) (i.view _) (k.view _) Y).ad (fk k0) fun _ _ ⟨a,e,x⟩=>⟨a,e,x.back (zk0 _)⟩
theorem c132 {x0 A B x1 a r}(E:Rd W0 [0] [A,B] x0)(b:Rd W0 [0] [a] x1)(Y:Vm.zkJ x0 x1=some r):Q0 132 [.agg [A,B].toArray,a] W0 fun Wf v=>v=vB r:=by
 unfold Vm.zkJ at Y
 obtain⟨P,Q,C,F,S⟩:=Repo.split E
 simp only[List.cons.injEq,and_true,true_and]at C
 obtain⟨rfl,rfl⟩:=C
 refine zaY.of Tryz.func132 O O O O (sr (bo 2 O fun U D G H=>?_))
 have I:=G.o
 refine Nb O (ssr (Ni O (Cw.block ?_)))
 obtain⟨J,K,Y⟩:=zdY Y
 refine Cw.loop 6 21 [4,5] (fun m l w=> ∃ e f i,CW.w i=w/\Le [] D i/\l=[vB e,vI f]/\Vm.zgV x0 x1 J m e f=some r) _ ⟨false,0,D,O,Le.refl _ _,O,Y⟩ ?_
 rintro(_ |V) _ _ σ ⟨e,f,i,rfl,k,rfl,Y⟩
 ·cases Y
 unfold Vm.zgV at Y
 have h:=I.n k
 refine ssr (mi O (mv a O (Lw.ln x1 (b.ul h) O (Lw.lt O (nl (cn Y (fun Y=>?_) fun Y=>?_))))))
 ·refine sk (Cw.seq (Cw.block (Cw.seq (Cw.draw [] [(0,0),(1,0),(2,0),(3,1),(4,0),(5,1),(6,0),(7,0),(8,2),(9,0)] mixed (by kernel_rfl) fun W x=>?_))))
  have d:=h.n x
  refine Dv a O (Di O ?_)
  obtain⟨X,y,Y⟩:=ob Y
  refine Mw.p O O (fun _=>R.ix (α:=Int) (b.ul d) y O O O) (Mw.q O O (fun _ c=>R.ld O O (zaW ((b.ul d).at_ y).1 O ((b.ul d).at_ y).int c)) (Dfl ((H.up k).up x) O O O (Mw.p O O (fun _=>zp7 (xs:=x0.Commits) (F.ul d) O) (Mw.p O O (fun _=>R.sub O O) ?_))))
  obtain⟨Z,L,Y⟩:=ob Y
  refine Mw.t O O (T.call O (p71 L)) ?_
  rintro _ _ ⟨M,rfl,z,rfl⟩
  have N:=d.n z
  refine m0 z fun aa=>Mw.p O O (fun _=>R.not O) (Mw.nil (cn Y (fun Y=>?_) fun Y=>?_))
  ·exact sr (Nb O (.ret (rt Y N)))
  ·exact sk (rg (mi O (Lw.add O (Ni O ((agm) ⟨e,w64 (f+1),M,O,((k.j x).j z).w,O,Y⟩)))))
 ·refine Cw.exit ?_
  rw[K]at Y
  exact sr (mv a O (Lw.ln x1 (b.ul h) O (Lw.le O (Nb O (.ret (rt Y h))))))
theorem p132 {x0 a b x1 d r}(f:Rd W K [a,b] x0)(h:Rd W K [d] x1)(Y:Vm.zkJ x0 x1=some r):Q1 132 [.agg [a,b].toArray,d] W [] fun W' v=>v=vB r:=
 (c132 (f.view _) (h.view _) Y).ad (fk 0) fun _ _ e=>e
theorem c133 {x0 H I x1 z x2 r}(h0:Rd W0 [0] [H,I] x0)(A:Rd W0 [0] [z] x1)(Y:Vm.ziV x0 x1 x2=some r):Q0 133 [.agg [H,I].toArray,z,vI x2] W0 fun Wf v=> ∃ W,v=W/\OwS Wf LL [] [W] r:=by
 unfold Vm.ziV at Y
 obtain⟨br,bu,X,Z,aa⟩:=Repo.split h0
 simp only[List.cons.injEq,and_true,true_and]at X
 obtain⟨rfl,rfl⟩:=X
 refine zaY.of Tryz.func133 O O O O (sr (bo 2 O fun g1 W1 l1 b1=>?_))
 have J:=l1.o
 refine Nv (.slice none 0 0) O (sr (la b1 (mi O (cr Y (fun _=>p138 (k0:=3) (Repo.rd (K:=[0]) x0.Commits x0.Heads (Z.ul J) (aa.ul J))) ?_))))
 rintro L B W7 Y l7 ⟨_,rfl,ay⟩
 have a8:=J.n l7
 refine Nv B O (sr (Lw.t O (T.lit0 (α:=Int) 4 []) ?_))
 rintro af _ ⟨ah,rfl,l10,a0⟩
 have a1:=a8.n l10
 refine Nv af O (ssr (Ni O (Cw.block ?_)))
 obtain⟨a3,a4,Y⟩:=zdY Y
 refine Cw.loop 16 50 [8,9,10,11] (fun m l w=> ∃ C h d ai aj f,CW.w f=w/\Le [4] ah f/\l=[d,vI h,ai,aj]/\Ow f 4 [] [d] C/\Vm.zgl x0 x1 L a3 m C h=some r) _ ⟨([]:List Int),0,af,undef,undef,ah,O,Le.refl _ _,O,a0,Y⟩ ?_
 rintro(_ |b0) _ _ σ ⟨C,h,d,ai,aj,f,rfl,D,rfl,M,Y⟩
 ·cases Y
 unfold Vm.zgl at Y
 have ak:=a1.t D
 have am:=(ay.up l10).up D
 refine ssr (mi O (mv B O (Lw.ln L am.rd O (Lw.lt O (nl (cn Y (fun Y=>?_) fun Y=>?_))))))
 ·refine sk ?_
  obtain⟨a5,a6,Y⟩:=zdY Y
  refine Cw.join 22 50 [8,10,11] (fun l w=> ∃ E F N P i,CW.w i=w/\Le [4] f i/\l=[F,N,P]/\Ow i 4 [] [F] E/\a5 E=some r) ?_ ?_
  ·rintro _ _ σ ⟨E,F,N,P,i,rfl,a7,rfl,a9,Y⟩
   rw[a6]at Y
   exact rg (mi O (Lw.add O (Ni O ((agm) ⟨E,w64 (h+1),F,N,P,i,O,(D.j a7).w,O,a9,Y⟩))))
  ·refine Cw.block (sr (Nb O (ssr (Ni O (Cw.block ?_)))))
   obtain⟨ba,bb,Y⟩:=zdY Y
   refine Cw.loop 22 42 [10,11] (fun m l w=> ∃ k e G,CW.w G=w/\Le [] f G/\l=[vB k,vI e]/\Vm.zev x0 x1 L h ba m k e=some r) _ ⟨true,0,f,O,Le.refl _ _,O,Y⟩ ?_
   rintro(_ |b2) _ _ σ ⟨k,e,G,rfl,b,rfl,Y⟩
   ·cases Y
   unfold Vm.zev at Y
   have an:=ak.n b
   have Q:=am.up b
   refine ssr (mi O (mv z O (Lw.ln x1 (A.ul an) O (Lw.lt O (nl (cn Y (fun Y=>?_) fun Y=>?_))))))
   ·refine sk (Cw.seq (Cw.block (Cw.draw [] [(0,0),(1,0),(2,1),(3,0),(4,0),(5,0),(6,1),(8,0),(9,0),(10,0),(11,1),(7,2),(12,3),(13,0),(14,0),(15,0)] mixed (by kernel_rfl) fun bc x=>?_)))
    have y:=an.n x
    have S:=Q.up x
    refine Db O (Db O (bs Y (fun a Y=>?_) fun a Y=>?_))
    ·refine Wq a O (fun _ c=>R.lda (cs:=[H,I]) ((((((b1.up l7).up l10).up D).up b).up x).clcs O c) O O) (Wp a O (fun _=>R.mv (v:=z) O) (Wp a O (fun _=>R.mv (v:=vI e) O) ?_))
     obtain⟨b3,U,Y⟩:=ob Y
     refine Wp a O (fun _=>R.ix (α:=Int) (A.ul y) U O O O) (Wq a O (fun _ c=>R.ld O O (zaW ((A.ul y).at_ U).1 O ((A.ul y).at_ U).int c)) (Wp a O (fun _=>R.mv (v:=B) O) (Wp a O (fun _=>R.mv (v:=vI h) O) ?_)))
     obtain⟨b4,V,Y⟩:=ob Y
     refine Wp a O (fun _=>R.ix (α:=Int) S.rd V O O O) (Wq a O (fun _ c=>R.ld O O (zaW (S.rd.at_ V).1 O (S.rd.at_ V).int c)) ?_)
     obtain⟨b5,be,Y⟩:=ob Y
     refine Wt a O (T.call O (p138 (k0:=5) (Repo.rd (K:=[0]) x0.Commits x0.Heads (Z.ul y) (aa.ul y)) be)) ?_
     rintro b6 _ ⟨b7,rfl,ao,⟨_,rfl,bg⟩⟩
     refine m0 ao fun b8=>?_
     obtain⟨ap,bh,Y⟩:=ob Y
     refine Mw.gl a O O O O O (T.call O (p154 (K:=[5]) bg.rd bh)) ?_
     rintro _ _ ⟨bi,rfl,bj,rfl⟩
     exact Wp a O (fun _=>R.not O) (Mw.p O O (fun _=>R.pk a O (v:=vB (!ap)) O) (Hb O (Mw.nil (rg (mi O (Lw.add O (Ni O ((agm) ⟨(!ap),w64 (e+1),bi,O,(((b.j x).j ao).j bj).w,O,Y⟩))))))))
    ·exact dps 12 a O (Mw.p O O (fun _=>R.pk a O (v:=vB false) O) (Hb O (Mw.nil (rg (mi O (Lw.add O (Ni O ((agm) ⟨false,w64 (e+1),bc,O,(b.j x).w,O,Y⟩))))))))
   ·refine Cw.exit ?_
    rw[bb]at Y
    refine sr (mb O (nl (cn Y (fun Y=>?_) fun Y=>?_)))
    ·refine rg (mv d O (mv B O (mi O ?_)))
     obtain⟨aq,ar,Y⟩:=ob Y
     refine Lw.r O (R.ix (α:=Int) Q.rd ar O O O) (Lw.r O (R.ld O O (Q.rd.at_ ar).int) (Lw.t O (T.bs 6 [vI aq] (cs:=[vI aq]) O O (bsv O)) ?_))
     rintro _ _ ⟨b9,cb,rfl,rfl,au,bk⟩
     obtain⟨bl,bm,Y⟩:=ob Y
     refine Lw.t O (T.app1S (α:=Int) (K':=[]) ((M.up b).up au) bk (rdI _) O O bm) ?_
     rintro av _ ⟨bn,rfl,bp,bq⟩
     exact Nv av O ((ag) ⟨bl,av,vB k,vI e,bn,O,((b.j au).j bp).w,O,bq,Y⟩)
    ·exact sk ((ag) ⟨C,d,vB k,vI e,G,O,b.w,O,(M.up b),Y⟩)
 ·refine Cw.exit ?_
  rw[a4]at Y
  refine sr (mv d O (Nv d O ?_))
  cases Y
  exact Cw.ret (zmc O (Res.mk ak ⟨d,O,M.s.sub O O⟩))
theorem p133 {x0 b d x1 f x2 k0 r}(h:Rd W K [b,d] x0)(i:Rd W K [f] x1)(Y:Vm.ziV x0 x1 x2=some r):Q1 133 [.agg [b,d].toArray,f,vI x2] W [] fun W' v=> ∃ a,v=a/\Ow W' k0 [] [a] r:=
 (c133 (h.view _) (i.view _) Y).ad (fk k0) fun _ _ ⟨a,e,k⟩=>⟨a,e,k.back (zk0 _)⟩
theorem c57 {x0 C D x1 f x2 r}(L:Rd W0 [0] [C,D] x0)(E:Rd W0 [0] [f] x1)(Y:Vm.ziW x0 x1 x2=some r):Q0 57 [.agg [C,D].toArray,f,vI x2] W0 fun Wf v=> ∃ F,v=F/\OwS Wf LL [] [F] r:=by
 unfold Vm.ziW at Y
 obtain⟨ac,ae,G,h,y⟩:=Repo.split L
 simp only[List.cons.injEq,and_true,true_and]at G
 obtain⟨rfl,rfl⟩:=G
 refine zaY.of Tryz.func57 O O O O (sr (bo 2 O fun g1 M N i=>?_))
 have k:=N.o
 refine Nv (.slice none 0 0) O (Cw.seq ?_)
 obtain⟨P,Q,Y⟩:=zdY Y
 refine Cw.join 7 24 [24] (fun l w=> ∃ z A,CW.w A=w/\Le [] M A/\l=[vB z]/\P z=some r) ?_ ?_
 ·rintro _ _ σ ⟨z,A,rfl,H,rfl,Y⟩
  rw[Q]at Y
  have b:=k.n H
  refine cn Y (fun Y=>?_) fun Y=>?_
  ·refine sr (Nv (.slice none 0 0) O ?_)
   cases Y
   exact Cw.ret (zmc O (Res.mk b ⟨.slice none 0 0,O,(zoR []).sub O O⟩))
  ·refine sk (sr (la (i.up H) (mv f O (mi O (cr Y (fun _=>p133 (k0:=3) (Repo.rd (K:=[0]) x0.Commits x0.Heads (h.ul b) (y.ul b)) (E.ul b)) ?_)))))
   rintro ah I ai Y S ⟨_,rfl,T⟩
   have U:=b.n S
   refine Nv I O ?_
   cases Y
   exact Cw.ret (zmc O (Res.mk U ⟨I,O,T.s.sub O O⟩))
 ·refine rg (la i (ca Y (fun _=>p68 (Repo.rd (K:=[0]) x0.Commits x0.Heads (h.ul k) (y.ul k))) fun aj V Y a=>?_))
  have J:=k.n a
  refine Lw.r O (R.not O) (mb O (bs Y (fun d Y=>?_) fun d Y=>?_))
  ·exact psk 7 d O (Pb d O (mb O (psk 4 O O (Pb O O (nl ((ag) ⟨true,V,O,a,O,Y⟩))))))
  ·refine wak 7 d (mi O (fl (i.up a) O (Lw.ln x0.Commits (h.ul J) O (Lw.sub O (ca Y (fun _=>p71) fun ak W Y x=>?_)))))
   have B:=J.n x
   refine Lw.r O (R.not O) (Pb d O (mb O (bs Y (fun e Y=>?_) fun e Y=>?_)))
   ·exact psk 4 e O (Pb e O (nl ((ag) ⟨true,W,O,(a.j x).w,O,Y⟩)))
   ·exact wak 4 e (la ((i.up a).up x) (mv f O (ca Y (fun _=>p132 (Repo.rd (K:=[0]) x0.Commits x0.Heads (h.ul B) (y.ul B)) (E.ul B)) fun X Z Y aa=>Lw.r O (R.not O) (Pb e O (nl ((ag) ⟨(!X),Z,O,((a.j x).j aa).w,O,Y⟩))))))
theorem p57 {x0 b d x1 f x2 k0 r}(h:Rd W K [b,d] x0)(i:Rd W K [f] x1)(Y:Vm.ziW x0 x1 x2=some r):Q1 57 [.agg [b,d].toArray,f,vI x2] W [] fun W' v=> ∃ a,v=a/\Ow W' k0 [] [a] r:=
 (c57 (h.view _) (i.view _) Y).ad (fk k0) fun _ _ ⟨a,e,k⟩=>⟨a,e,k.back (zk0 _)⟩
theorem c58 {x0 a x1 r}(x:Rd W0 [0] [a] x0)(Y:Vm.zlt x0 x1=some r):Q0 58 [a,vI x1] W0 fun Wf v=>v=vB r:=by
 unfold Vm.zlt at Y
 refine zaY.of Tryz.func58 O O O O (sr (Nb O (ssr (Ni O (Cw.block ?_)))))
 obtain⟨y,z,Y⟩:=zdY Y
 refine Cw.loop 6 17 [4,5] (fun m l w=> ∃ b d e,CW.w e=w/\Le [] W0 e/\l=[vB b,vI d]/\Vm.ziq x0 x1 y m b d=some r) _ ⟨false,0,W0,O,Le.refl _ _,O,Y⟩ ?_
 rintro(_ |A) _ _ σ ⟨b,d,e,rfl,i,rfl,Y⟩
 ·cases Y
 unfold Vm.ziq at Y
 have f:=i.o
 refine ssr ?_
 have h:=x.ul f
 refine mi O (mv a O (Lw.ln x0 h O (Lw.lt O (nl (cn Y (fun Y=>?_) fun Y=>?_)))))
 ·refine sk (Cw.seq (Cw.block (sr (mv a O (mi O ?_)))))
  obtain⟨B,k,Y⟩:=ob Y
  refine Lw.r O (R.ix (α:=Int) h k O O O) (Lw.r O (R.ld O O (h.at_ k).int) (mi O (Lw.eq O (nl (cn Y (fun Y=>?_) fun Y=>?_)))))
  ·exact sr (Nb O (.ret (rt Y f)))
  ·exact sk (rg (mi O (Lw.add O (Ni O ((agm) ⟨b,w64 (d+1),e,O,i,O,Y⟩)))))
 ·refine Cw.exit ?_
  rw[z]at Y
  exact sr (Nb O (.ret (rt Y f)))
theorem p58 {x0 a x1 r}(b:Rd W K [a] x0)(Y:Vm.zlt x0 x1=some r):Q1 58 [a,vI x1] W [] fun W' v=>v=vB r:=
 (c58 (b.view _) Y).ad (fk 0) fun _ _ e=>e
end Go.Sx
