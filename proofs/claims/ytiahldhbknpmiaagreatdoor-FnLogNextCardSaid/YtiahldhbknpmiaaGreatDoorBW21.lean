/- Walks: each function answers as its model, printed by a program of ours. Conditions: the arguments read as they are given. -/
import Derived.Test.YtiahldhbknpmiaaGreatDoorBTs
import Derived.Test.YtiahldhbknpmiaaGreatDoorBM13
import Derived.Test.YtiahldhbknpmiaaGreatDoorBW14
namespace Go.Sx
open Go Go.Proofs Go.Vm Rp
set_option linter.unusedVariables false
set_option linter.unusedSimpArgs false
variable {W W0:CW}{K:List Nat}
theorem c60 {x0 x r}(F:Rd W0 [0] [x] x0)(Y:Vm.ziU x0=some r):Q0 60 [x] W0 fun Wf v=> ∃ y z A,v = .tuple [.agg [y,z].toArray,A,vI r.2.2].toArray/\OwS Wf [31] [] [y] r.1.Commits/\OwS Wf [32] [] [z] r.1.Heads/\OwS Wf [33] [] [A] r.2.1:=by
 unfold Vm.ziU at Y
 refine zaY.of Tryz.func60 O O O O (sr (al 2 [.slice none 0 0, .slice none 0 0] fun X Z G H=>?_))
 have B:=G.o
 refine Gv (.slice none 0 0) O (Ni O (sr (mv x O (cr Y (fun _=>p55 (k0:=3) (k1:=4) (k2:=5) (F.ul B)) ?_))))
 rintro e _ W6 Y C ⟨b,d,a,rfl,D,E,I⟩
 have J:=B.n C
 refine Lw.r O (R.ext (vs:=[.agg [b,d].toArray,a,vI e.2.2]) (v:= .agg [b,d].toArray) O O) (Lw.r O (R.ext (vs:=[.agg [b,d].toArray,a,vI e.2.2]) (v:=a) O O) (Lw.r O (R.ext (vs:=[.agg [b,d].toArray,a,vI e.2.2]) (v:=vI e.2.2) O O) (sta (H.up C) (zai D.oc (zai E.oc zbt)) fun W9 f K=>?_)))
 have L:=J.t f
 refine Gv a O (Ni O ?_)
 obtain⟨ae,M,h,N⟩:=(D.up f).dyeO 31
 have P:=L.t h
 obtain⟨af,Q,i,S⟩:=((E.up f).up h).dyeO 32
 have T:=P.t i
 obtain⟨ah,U,k,V⟩:=(((I.up f).up h).up i).dyeO 33
 have W:=T.t k
 cases Y
 rw[<- U.trans (Q.trans (M))]
 exact Cw.ret (zvS (zjD.c O (((K.up h).up i).up k) (zjD.t O (zjD.t O zjD.n))) (Res.mk W ⟨b,d,a,O,((N.up i).up k).s,(S.up k).s,V.s⟩))
theorem p60 {x0 f k0 k1 k2 r}(h:Rd W K [f] x0)(Y:Vm.ziU x0=some r):Q1 60 [f] W [] fun W' v=> ∃ a b d,v = .tuple [.agg [a,b].toArray,d,vI r.2.2].toArray/\Ow W' k0 [] [a] r.1.Commits/\Ow W' k1 [] [b] r.1.Heads/\Ow W' k2 [] [d] r.2.1:=
 zaY.adJ (J:=[]) (fun c=>bif Nat.beq c 0 then 0 else bif Nat.beq c 31 then k0 else bif Nat.beq c 32 then k1 else bif Nat.beq c 33 then k2 else 0) (c60 (h.view _) Y) fun _ _ ⟨a,b,d,e,i,k,x⟩=>⟨a,b,d,e,i.one1.backN O,k.one1.backN O,x.one1.backN O⟩
theorem c61 {x0 C D x1 d x2 r}(h0:Rd W0 [0] [C,D] x0)(Q:Rd W0 [0] [d] x1)(az:Gl 0 W0 [0])(Y:Vm.zk2 x0 x1 x2=some r):Q0 61 [.agg [C,D].toArray,d,vI x2] W0 fun Wf v=>v=vI r:=by
 unfold Vm.zk2 at Y
 obtain⟨bq,br,aj,S,U⟩:=Repo.split h0
 simp only[List.cons.injEq,and_true,true_and]at aj
 obtain⟨rfl,rfl⟩:=aj
 refine zaY.of Tryz.func61 O O O O (sr (bo 2 O fun g1 W1 l1 b1=>?_))
 have e:=l1.o
 refine Ni O (sr (Gi O (Ni O (ssr (la b1 (mv d O (mi O (cr Y (fun _=>p56 (k0:=3) (Repo.rd (K:=[0]) x0.Commits x0.Heads (S.ul e) (U.ul e)) (Q.ul e) (az.ul e)) ?_))))))))
 rintro z7 bw W9 Y l9 ⟨_,rfl,V⟩
 have a1:=e.n l9
 refine Lw.ln z7 V.rd O (mi O (nl (Cw.block ?_)))
 obtain⟨a3,a4,Y⟩:=zdY Y
 refine Cw.loop 18 51 [7,8,10,11,12,18] (fun m l w=> ∃ f a E ap W X h,CW.w h=w/\Le [4] W9 h/\l=[vI f,vI a,ap,W,X,vI E]/\Vm.zgN x0 x1 x2 z7 a3 m f a E=some r) _ ⟨(-1),0,0,undef,undef,undef,W9,O,Le.refl _ _,O,Y⟩ ?_
 rintro(_ |bz) _ _ σ ⟨f,a,E,ap,W,X,h,rfl,i,rfl,Y⟩
 ·cases Y
 unfold Vm.zgN at Y
 have aq:=a1.t i
 refine sr (Lw.lt O (nl (Cw.seq (cn Y (fun Y=>?_) fun Y=>?_))))
 ·refine sk ?_
  obtain⟨a5,a6,Y⟩:=zdY Y
  refine Cw.join 20 50 [7,8,10,11,12] (fun l w=> ∃ F G Z aa ac H,CW.w H=w/\Le [4] h H/\l=[vI F,vI G,Z,aa,ac]/\a5 F G=some r) ?_ ?_
  ·rintro _ _ σ ⟨F,G,Z,aa,ac,H,rfl,a7,rfl,Y⟩
   rw[a6]at Y
   exact rg (Lw.add O (mi O (nl ((agm) ⟨F,G,w64 (E+1),Z,aa,ac,H,O,(i.j a7).w,O,Y⟩))))
  ·refine Cw.block (sr ?_)
   obtain⟨b,ar,Y⟩:=ob Y
   refine Lw.r O (R.ix (α:=Int) (V.up i).rd ar O O O) (Lw.r O (R.ld O O ((V.up i).rd.at_ ar).int) (Ni O (ssr (mi O (mi O (Lw.eq O (nl (cn Y (fun Y=>?_) fun Y=>?_))))))))
   ·exact Cw.exit ((ag) ⟨f,a,vI b,W,X,h,O,Le.refl _ _,O,Y⟩)
   ·refine sk (sr (Lw.t O (T.lit0 (α:=Int) 4 []) ?_))
    rintro b0 _ ⟨b2,rfl,I,a8⟩
    have au:=aq.n I
    refine mv d O ?_
    obtain⟨b3,a9,Y⟩:=ob Y
    refine Lw.t O (T.appP (α:=Int) a8 (Q.ul au) O O a9) ?_
    rintro b4 _ ⟨b5,rfl,J,ba⟩
    have bb:=au.t J
    refine mi O (Lw.t O (T.bs 5 [vI b] (cs:=[vI b]) O O (bsv O)) ?_)
    rintro _ _ ⟨b6,b7,rfl,rfl,k,bc⟩
    have be:=bb.n k
    obtain⟨b8,bg,Y⟩:=ob Y
    refine Lw.t O (T.app1S (α:=Int) (K':=[]) (ba.up k) bc (rdI _) O O bg) ?_
    rintro L _ ⟨b9,rfl,N,bh⟩
    have bi:=be.t N
    refine Nv L O (Cw.seq (Cw.draw [] [(0,1),(1,0),(2,0),(5,1),(6,0),(7,0),(3,2),(4,0),(8,3),(9,0),(10,0),(11,0)] mixed (by kernel_rfl) fun cb x=>?_))
    have ae:=bi.n x
    have av:=((((((b1.up l9).up i).up I).up J).up k).up N).up x
    refine Mw.q O O (fun _ c=>R.lda (cs:=[C,D]) (av.clcs O c) O O) (Di O (Dv L O (Mw.q O O (fun _ c=>R.lda (cs:=[C,D]) (av.clcs O c) O O) (Di O (Dv d O ?_)))))
    obtain⟨y,bj,Y⟩:=ob Y
    refine Mw.t O O (T.call O (p92 (K:=[0,4]) (k0:=6) ((Repo.rd (K:=[0]) x0.Commits x0.Heads (S.ul ae) (U.ul ae)).sub (M:=[0,4]) O) ((bh.up x).rd.sub (M:=[0,4]) O) bj)) ?_
    rintro cc _ ⟨cd,rfl,P,⟨_,rfl,bk⟩⟩
    have af:=ae.n P
    refine m0 P fun ce=>Mw.p O O (fun _=>zp7 (xs:=y) bk.rd O) ?_
    obtain⟨z,bl,Y⟩:=ob Y
    refine Mw.l O O (T.call O (p92 (k0:=7) (Repo.rd (K:=[0]) x0.Commits x0.Heads (S.ul af) (U.ul af)) (Q.ul af) bl)) ?_
    rintro cf _ ⟨ah,rfl,aw,⟨_,rfl,bm⟩⟩
    refine Mw.p O O (fun _=>zp7 (xs:=z) bm.rd O) (Mw.p O O (fun _=>R.max O O) (Hi O (Mw.nil ?_)))
    obtain⟨bn,bp,Y⟩:=zdY Y
    refine Cw.join 42 48 [48] (fun l w=> ∃ ai A,CW.w A=w/\Le [] ah A/\l=[vB ai]/\bn ai=some r) ?_ ?_
    ·rintro _ _ σ ⟨ai,A,rfl,ax,rfl,Y⟩
     rw[bp]at Y
     refine cn Y (fun Y=>?_) fun Y=>?_
     ·exact rg (mi O (mi O (Gi O (Ni O ((ag) ⟨b,zmU (y.length:Int) (z.length:Int),vI b,L,vI (zmU (y.length:Int) (z.length:Int)),A,O,(((((((I.j J).j k).j N).j x).j P).j aw).j ax).w,O,Y⟩)))))
     ·exact sk ((ag) ⟨f,a,vI b,L,vI (zmU (y.length:Int) (z.length:Int)),A,O,(((((((I.j J).j k).j N).j x).j P).j aw).j ax).w,O,Y⟩)
    ·refine rg (mi O (Lw.lt O (mb O (bs Y (fun B Y=>?_) fun B Y=>?_))))
     ·exact psk 3 B O (Pb B O (nl ((ag) ⟨true,ah,O,Le.refl _ _,O,Y⟩)))
     ·exact wak 3 B (mi O (mi O (Lw.lt O (Pb B O (nl ((ag) ⟨decide ((zmU (y.length:Int) (z.length:Int):Int)< (a:Int)),ah,O,Le.refl _ _,O,Y⟩))))))
 ·refine Cw.exit ?_
  rw[a4]at Y
  exact sr (mi O (Ni O (.ret (rt Y aq))))
theorem p61 {x0 a b x1 d x2 r}(f:Rd W K [a,b] x0)(h:Rd W K [d] x1)(i:Gl 0 W K)(Y:Vm.zk2 x0 x1 x2=some r):Q1 61 [.agg [a,b].toArray,d,vI x2] W [] fun W' v=>v=vI r:=
 (c61 (f.view _) (h.view _) (i.view _) Y).ad (fk 0) fun _ _ e=>e
theorem c62 {x0 i k x1 f x2 r}(h0:Rd W0 [0] [i,k] x0)(X:Rd W0 [0] [f] x1)(Y:Vm.zky x0 x1 x2=some r):Q0 62 [.agg [i,k].toArray,f,vI x2] W0 fun Wf v=>v=vI r:=by
 unfold Vm.zky at Y
 obtain⟨di,dj,bc,Z,aa⟩:=Repo.split h0
 simp only[List.cons.injEq,and_true,true_and]at bc
 obtain⟨rfl,rfl⟩:=bc
 refine zaY.of Tryz.func62 O O O O (sr (bo 2 O fun g1 W1 l1 b1=>?_))
 have I:=l1.o
 refine Ni O (sr (Ni O (sr (Ni O (sr (la b1 (mv f O (mi O (cr Y (fun _=>p57 (k0:=3) (Repo.rd (K:=[0]) x0.Commits x0.Heads (Z.ul I) (aa.ul I)) (X.ul I)) ?_)))))))))
 rintro z6 a W8 Y l8 ⟨_,rfl,b4⟩
 have a9:=I.n l8
 refine Nv a O (ssr (Ni O (Cw.block ?_)))
 obtain⟨b6,b7,Y⟩:=zdY Y
 refine Cw.loop 17 65 [7,8,10,11,12] (fun m l w=> ∃ B z d ac ae C,CW.w C=w/\Le [4] W8 C/\l=[vI B,vI z,vI d,ac,ae]/\Vm.zgO x0 x1 x2 z6 b6 m B z d=some r) _ ⟨(-1),0,0,undef,undef,W8,O,Le.refl _ _,O,Y⟩ ?_
 rintro(_ |dm) _ _ σ ⟨B,z,d,ac,ae,C,rfl,J,rfl,Y⟩
 ·cases Y
 unfold Vm.zgO at Y
 have bj:=a9.t J
 have L:=b4.up J
 refine ssr (mi O (mv a O (Lw.ln z6 L.rd O (Lw.lt O (nl (cn Y (fun Y=>?_) fun Y=>?_))))))
 ·refine sk ?_
  obtain⟨b8,b9,Y⟩:=zdY Y
  refine Cw.join 23 65 [7,8,11,12] (fun l w=> ∃ N P af ah Q,CW.w Q=w/\Le [4] C Q/\l=[vI N,vI P,af,ah]/\b8 N P=some r) ?_ ?_
  ·rintro _ _ σ ⟨N,P,af,ah,Q,rfl,cb,rfl,Y⟩
   rw[b9]at Y
   exact rg (mi O (Lw.add O (Ni O ((agm) ⟨N,P,w64 (d+1),af,ah,Q,O,(J.j cb).w,O,Y⟩))))
  ·refine Cw.block (ssr (mv a O (mi O ?_)))
   obtain⟨dn,bk,Y⟩:=ob Y
   refine Lw.r O (R.ix (α:=Int) L.rd bk O O O) (Lw.r O (R.ld O O (L.rd.at_ bk).int) (mi O (Lw.eq O (nl (cn Y (fun Y=>?_) fun Y=>?_)))))
   ·exact Cw.exit ((ag) ⟨B,z,ac,ae,C,O,Le.refl _ _,O,Y⟩)
   ·refine sk (Cw.seq ?_)
    obtain⟨ai,cc,Y⟩:=ob Y
    obtain⟨e,bl,Y⟩:=ob Y
    obtain⟨S,cd,Y⟩:=ob Y
    obtain⟨b,ce,Y⟩:=ob Y
    refine Cw.par [[],[],[],[1,2],[],[],[4,5],[4,5,6],[4,5,6,7],[1,2,3,4,5,6,7,8],[],[0,1,2,3,4,5,6,7,8,9,10],[0,1,2,3,4,5,6,7,8,9,10,11],[0,1,2,3,4,5,6,7,8,9,10,11,12]] [[],[],[],[1,2],[],[],[4,5],[6],[7],[3,8],[],[0,9,10],[11],[12]] [[],[],[],[4],[],[],[],[],[],[4],[],[],[],[]] [[0],[1],[2],[3],[4],[5],[6],[7],[8],[9],[10],[11],[12],[13]] [[],[4],[],[4],[],[],[],[],[5],[4],[],[6],[],[]] [0,2,4,5,6,7,8,9,10,11,12,13] [4] [fun vs W=>(vs 0) = .agg [i,k].toArray,fun vs W=>Ow W 4 [] [(vs 1)] ([]:List Int),fun vs W=>(vs 2)=f,fun vs W=>Ow W 4 [] [(vs 3)] ai,fun vs W=>(vs 4)=a,fun vs W=>(vs 5)=vI d,fun vs W=>(vs 6)=ptr ((slA a).add ((d).toNat*Rp.sz (Int))),fun vs W=>(vs 7)=vI e,fun vs W=>(vs 8) = .slice (some (bx (pg (vs 8)))) 1 1/\Bx W 5 (pg (vs 8)) [vI e],fun vs W=>Ow W 4 [] [(vs 9)] S,fun vs W=>(vs 10)=vI x2,fun vs W=>Ow W 6 [] [(vs 11)] b,fun vs W=>(vs 12)=vI (b.length:Int),fun vs W=>(vs 13)=vI (b.length:Int)] [] mixed (by kernel_rfl) O zqt.nil ?_
    intro dp D
    have aj:=bj.n D
    have ak:=L.up D
    have bm:=((b1.up l8).up J).up D
    refine⟨(zcI.cons ?_ (zcI.cons ?_ (zcI.cons ?_ (zcI.cons ?_ (zcI.cons ?_ (zcI.cons ?_ (zcI.cons ?_ (zcI.cons ?_ (zcI.cons ?_ (zcI.cons ?_ (zcI.cons ?_ (zcI.cons ?_ (zcI.cons ?_ (zcI.cons ?_ zcI.nil)))))))))))))),(zha.cons SE (zha.cons SO (zha.cons SE (zha.cons SO (zha.cons SE (zha.cons SE (zha.cons SE (zha.cons SE (zha.cons (fun vs vs' W W' _ hv l hd h=>by(show(vs' 8) = .slice (some (bx (pg (vs' 8)))) 1 1/\Bx W' 5 (pg (vs' 8)) [vI e]);rw[hv 8 (zbB O)];exact⟨h.1,h.2.up l (zgD hd (c:=5) O)⟩) (zha.cons SO (zha.cons SE (zha.cons SO (zha.cons SE (zha.cons SE zha.nil)))))))))))))),?_⟩
    ·intro vs dq lW hN hV
     exact Trq (R.lda (cs:=[i,k]) (bm.up lW O).cells O O) O
    ·intro vs dr lW hN hV
     refine Tr.mono (T.lit0 (α:=Int) 4 []) ?_
     rintro cf _ ⟨bn,rfl,cg,ch⟩
     exact⟨bn,O,cg,(show Ow bn 4 [] [cf] ([]:List Int) from ch)⟩
    ·intro vs ds lW hN hV
     exact Trq (R.mv (v:=f) O) O
    ·intro vs ci lW hN hV
     have cj:=aj.t lW O
     obtain⟨ck,cl⟩: ∃ v,vs 1=v:=⟨_,O⟩
     obtain⟨vs,rfl⟩:=za2 cl
     have cm:Ow ci 4 [] [ck] ([]:List Int):=(hN 1 (zbB O))
     have am:vs 2=f:=(hN 2 (zbB O))
     obtain⟨vs,rfl⟩:=za2 am
     refine Tr.mono (T.appP (α:=Int) cm (X.ul cj) O O cc) ?_
     rintro co _ ⟨bp,rfl,cp,cq⟩
     exact⟨bp,O,cp,(show Ow bp 4 [] [co] ai from cq)⟩
    ·intro vs dt lW hN hV
     exact Trq (R.mv (v:=a) O) O
    ·intro vs du lW hN hV
     exact Trq (R.mv (v:=vI d) O) O
    ·intro vs dv lW hN hV
     have an:vs 4=a:=(hN 4 (zbB O))
     obtain⟨vs,rfl⟩:=za2 an
     have ao:vs 5=vI d:=(hN 5 (zbB O))
     obtain⟨vs,rfl⟩:=za2 ao
     exact Trq (R.ix (α:=Int) (ak.up lW O).rd bl O O O) O
    ·intro vs dw lW hN hV
     have ap:vs 6=ptr ((slA a).add ((d).toNat*Rp.sz (Int))):=(hN 6 (zbB O))
     obtain⟨vs,rfl⟩:=za2 ap
     exact Trq (R.ld O O ((ak.up lW O).rd.at_ bl).int) O
    ·intro vs dx lW hN hV
     have aq:vs 7=vI e:=(hN 7 (zbB O))
     obtain⟨vs,rfl⟩:=za2 aq
     refine Tr.mono (T.bs 5 [vI e] (cs:=[vI e]) O O (bsv O)) ?_
     rintro _ _ ⟨ar,bq,rfl,rfl,ct,cu⟩
     exact⟨bq,O,ct,(show(.slice (some (bx ar)) 1 1:Value) = .slice (some (bx ar)) 1 1/\Bx bq 5 ar [vI e] from⟨O,cu⟩)⟩
    ·intro vs br lW hN hV
     obtain⟨cv,cw⟩: ∃ v,vs 3=v:=⟨_,O⟩
     obtain⟨vs,rfl⟩:=za2 cw
     have cx:Ow br 4 [] [cv] ai:=(hN 3 (zbB O))
     obtain⟨x,au⟩: ∃ x,vs 8 = .slice (some (bx x)) 1 1:=⟨_,((hN 8 (zbB O))).1⟩
     obtain⟨vs,rfl⟩:=za2 au
     have cy:Bx br 5 x [vI e]:=(hN 8 (zbB O)).2
     refine Tr.mono (T.app1S (α:=Int) (K':=[]) cx cy (rdI _) O O cd) ?_
     rintro cz _ ⟨bu,rfl,c0,c1⟩
     exact⟨bu,O,c0,(show Ow bu 4 [] [cz] S from c1)⟩
    ·intro vs dy lW hN hV
     exact Trq (R.mv (v:=vI x2) O) O
    ·intro vs c2 lW hN hV
     have bv:=aj.t lW O
     have av:vs 0 = .agg [i,k].toArray:=(hN 0 (zbB O))
     obtain⟨vs,rfl⟩:=za2 av
     obtain⟨aw,ax⟩: ∃ v,vs 9=v:=⟨_,O⟩
     obtain⟨vs,rfl⟩:=za2 ax
     have c3:Ow c2 4 [] [aw] S:=(hN 9 (zbB O))
     have ay:vs 10=vI x2:=(hN 10 (zbB O))
     obtain⟨vs,rfl⟩:=za2 ay
     refine Tr.mono (T.call O (p133 (K:=[0,4]) (k0:=6) ((Repo.rd (K:=[0]) x0.Commits x0.Heads (Z.ul bv) (aa.ul bv)).sub (M:=[0,4]) O) (c3.rd.sub (M:=[0,4]) O) ce)) ?_
     rintro c4 _ ⟨bw,rfl,c5,⟨_,rfl,c6⟩⟩
     exact⟨bw,O,c5,(show Ow bw 6 [] [c4] b from c6)⟩
    ·intro vs c7 lW hN hV
     obtain⟨az,a0⟩: ∃ v,vs 11=v:=⟨_,O⟩
     obtain⟨vs,rfl⟩:=za2 a0
     have c8:Ow c7 6 [] [az] b:=(hN 11 (zbB O))
     exact Trq (zp7 (xs:=b) c8.rd O) O
    ·intro vs dz lW hN hV
     have a1:vs 12=vI (b.length:Int):=(hN 12 (zbB O))
     obtain⟨vs,rfl⟩:=za2 a1
     exact Trq (R.as (v:=vI (b.length:Int)) O) O
    ·intro vs a3 E hN
     have c9:=aj.t E
     have av:vs 0 = .agg [i,k].toArray:=(hN 0 (zbB O))
     obtain⟨vs,rfl⟩:=za2 av
     have am:vs 2=f:=(hN 2 (zbB O))
     obtain⟨vs,rfl⟩:=za2 am
     have an:vs 4=a:=(hN 4 (zbB O))
     obtain⟨vs,rfl⟩:=za2 an
     have ao:vs 5=vI d:=(hN 5 (zbB O))
     obtain⟨vs,rfl⟩:=za2 ao
     have ap:vs 6=ptr ((slA a).add ((d).toNat*Rp.sz (Int))):=(hN 6 (zbB O))
     obtain⟨vs,rfl⟩:=za2 ap
     have aq:vs 7=vI e:=(hN 7 (zbB O))
     obtain⟨vs,rfl⟩:=za2 aq
     obtain⟨x,au⟩: ∃ x,vs 8 = .slice (some (bx x)) 1 1:=⟨_,((hN 8 (zbB O))).1⟩
     obtain⟨vs,rfl⟩:=za2 au
     have d0:Bx a3 5 x [vI e]:=(hN 8 (zbB O)).2
     obtain⟨aw,ax⟩: ∃ v,vs 9=v:=⟨_,O⟩
     obtain⟨vs,rfl⟩:=za2 ax
     have d1:Ow a3 4 [] [aw] S:=(hN 9 (zbB O))
     have ay:vs 10=vI x2:=(hN 10 (zbB O))
     obtain⟨vs,rfl⟩:=za2 ay
     obtain⟨az,a0⟩: ∃ v,vs 11=v:=⟨_,O⟩
     obtain⟨vs,rfl⟩:=za2 a0
     have d2:Ow a3 6 [] [az] b:=(hN 11 (zbB O))
     have a1:vs 12=vI (b.length:Int):=(hN 12 (zbB O))
     obtain⟨vs,rfl⟩:=za2 a1
     have da:vs 13=vI (b.length:Int):=(hN 13 (zbB O))
     obtain⟨vs,rfl⟩:=za2 da
     refine Cw.seq (Cw.draw [] [(0,1),(1,0),(2,0),(3,0),(4,0),(5,1),(6,3),(7,0),(8,0)] mixed (by kernel_rfl) fun d3 F=>?_)
     have a4:=c9.n F
     have U:=(ak.up E).up F
     refine Mw.q O O (fun _ c=>R.lda (cs:=[i,k]) (((bm.up E).up F).clcs O c) O O) (Dv f O (Dv a O (Di O ?_)))
     obtain⟨d4,a5,Y⟩:=ob Y
     refine Mw.p O O (fun _=>R.ix (α:=Int) U.rd a5 O O O) (Mw.q O O (fun _ c=>R.ld O O (zaW (U.rd.at_ a5).1 O (U.rd.at_ a5).int c)) ?_)
     obtain⟨V,db,Y⟩:=ob Y
     refine Mw.l O O (T.call O (p133 (k0:=7) (Repo.rd (K:=[0]) x0.Commits x0.Heads (Z.ul a4) (aa.ul a4)) (X.ul a4) db)) ?_
     rintro d5 _ ⟨a6,rfl,a7,⟨_,rfl,dc⟩⟩
     refine Mw.p O O (fun _=>zp7 (xs:=V) dc.rd O) (Hi O (Mw.nil ?_))
     obtain⟨dd,de,Y⟩:=zdY Y
     refine Cw.join 50 53 [11] (fun l w=> ∃ y A,CW.w A=w/\Le [] a6 A/\l=[vI y]/\dd y=some r) ?_ ?_
     ·rintro _ _ σ ⟨y,A,rfl,a8,rfl,Y⟩
      rw[de]at Y
      obtain⟨df,dg,Y⟩:=zdY Y
      refine Cw.join 54 60 [60] (fun l w=> ∃ ba G,CW.w G=w/\Le [] A G/\l=[vB ba]/\df ba=some r) ?_ ?_
      ·rintro _ _ σ ⟨ba,G,rfl,bb,rfl,Y⟩
       rw[dg]at Y
       have bz:=((U.up a7).up a8).up bb
       refine cn Y (fun Y=>?_) fun Y=>?_
       ·refine sr (mv a O (mi O ?_))
        obtain⟨dh,b0,Y⟩:=ob Y
        exact Lw.r O (R.ix (α:=Int) bz.rd b0 O O O) (Lw.r O (R.ld O O (bz.rd.at_ b0).int) (Ni O (rg (mi O (Ni O ((ag) ⟨dh,y,vI y,vI (V.length:Int),G,O,(((((D.j E).j F).j a7).j a8).j bb).w,O,Y⟩))))))
       ·exact sk ((ag) ⟨B,z,vI y,vI (V.length:Int),G,O,(((((D.j E).j F).j a7).j a8).j bb).w,O,Y⟩)
      ·refine rg (mi O (Lw.lt O (mb O (bs Y (fun H Y=>?_) fun H Y=>?_))))
       ·exact psk 3 H O (Pb H O (nl ((ag) ⟨true,A,O,Le.refl _ _,O,Y⟩)))
       ·exact wak 3 H (mi O (mi O (Lw.lt O (Pb H O (nl ((ag) ⟨decide (y< (z:Int)),A,O,Le.refl _ _,O,Y⟩))))))
     ·refine sr (mi O (mi O (Lw.gt O (nl (cn Y (fun Y=>?_) fun Y=>?_)))))
      ·exact rg (mi O (Ni O ((ag) ⟨(V.length:Int),a6,O,Le.refl _ _,O,Y⟩)))
      ·exact sk ((ag) ⟨(b.length:Int),a6,O,Le.refl _ _,O,Y⟩)
 ·refine Cw.exit ?_
  rw[b7]at Y
  exact sr (mi O (Ni O (.ret (rt Y bj))))
theorem p62 {x0 a b x1 d x2 r}(f:Rd W K [a,b] x0)(h:Rd W K [d] x1)(Y:Vm.zky x0 x1 x2=some r):Q1 62 [.agg [a,b].toArray,d,vI x2] W [] fun W' v=>v=vI r:=
 (c62 (f.view _) (h.view _) Y).ad (fk 0) fun _ _ e=>e
theorem c13 {x0 Q r}(h0:Rd W0 [0] [Q] x0)(S:Gl 0 W0 [0])(Y:Vm.zkH x0=some r):Q0 13 [Q] W0 fun Wf v=>v=vB r:=by
 unfold Vm.zkH at Y
 refine zaY.of Tryz.func13 O O O O (sr (Nb O (ssr (mv Q O (Lw.ln x0 h0 O (Lw.gt O (nl (cn Y (fun Y=>?_) fun Y=>?_))))))))
 ·exact sr (Nb O (.ret (rt Y (Le.refl _ _))))
 ·refine sk (sr (mv Q O (cr Y (fun _=>p60 (k0:=2) (k1:=3) (k2:=4) h0) ?_)))
  rintro a _ W4 Y l4 ⟨f,i,b,rfl,bb,bc,b4⟩
  have a5:=l4.o
  refine mv (.tuple [.agg [f,i].toArray,b,vI a.2.2].toArray) O (Lw.r O (R.ext (vs:=[.agg [f,i].toArray,b,vI a.2.2]) (v:= .agg [f,i].toArray) O O) (Lw.r O (R.ext (vs:=[.agg [f,i].toArray,b,vI a.2.2]) (v:=b) O O) (Lw.r O (R.ext (vs:=[.agg [f,i].toArray,b,vI a.2.2]) (v:=vI a.2.2) O O) (al 5 [.slice none 0 0, .slice none 0 0] fun g6 W6 A b6=>?_))))
  have a7:=a5.n A
  refine sta b6 (zai (bb.up A).oc (zai (bc.up A).oc zbt)) fun dt U aa=>?_
  have be:=a7.t U
  have ac:=(bb.up A).up U
  have ae:=(bc.up A).up U
  have af:=(b4.up A).up U
  refine Gv b O (Ni O (sr (la aa (mv b O (mi O (ca Y (fun _=>p61 (K:=[0,2,3,4]) (x0:=(Vm.Repo.mk a.1.Commits a.1.Heads)) ((Repo.rd (K:=[2,3]) a.1.Commits a.1.Heads (ac.rd.sub (M:=[2,3]) O) (ae.rd.sub (M:=[2,3]) O)).sub (M:=[0,2,3,4]) O) (af.rd.sub (M:=[0,2,3,4]) O) ((S.ul be).sub (M:=[0,2,3,4]) O)) fun d du Y k=>?_))))))
  have bg:=be.n k
  refine Ni O (sr (la (aa.up k) (mv b O (mi O (cr Y (fun _=>p56 (K:=[0,2,3,4]) (k0:=6) (x0:=(Vm.Repo.mk a.1.Commits a.1.Heads)) ((Repo.rd (K:=[2,3]) a.1.Commits a.1.Heads ((ac.up k).rd.sub (M:=[2,3]) O) ((ae.up k).rd.sub (M:=[2,3]) O)).sub (M:=[0,2,3,4]) O) ((af.up k).rd.sub (M:=[0,2,3,4]) O) ((S.ul bg).sub (M:=[0,2,3,4]) O)) ?_)))))
  rintro B y b9 Y G ⟨_,rfl,bh⟩
  have cb:=bg.n G
  have ah:=(ac.up k).up G
  have ai:=(ae.up k).up G
  have aj:=(af.up k).up G
  have ak:=(aa.up k).up G
  refine Nv y O (Cw.seq ?_)
  obtain⟨cc,cd,Y⟩:=zdY Y
  refine Cw.join 27 37 [37] (fun l w=> ∃ am C,CW.w C=w/\Le [] b9 C/\l=[vB am]/\cc am=some r) ?_ ?_
  ·rintro _ _ σ ⟨am,C,rfl,e,rfl,Y⟩
   rw[cd]at Y
   have an:=cb.n e
   have V:=bh.up e
   refine cn Y (fun Y=>?_) fun Y=>?_
   ·refine sr (mi O (la (ak.up e) (mv b O (mi O (ca Y (fun _=>p62 (K:=[2,3,4]) (x0:=(Vm.Repo.mk a.1.Commits a.1.Heads)) ((Repo.rd (K:=[2,3]) a.1.Commits a.1.Heads ((ah.up e).rd.sub (M:=[2,3]) O) ((ai.up e).rd.sub (M:=[2,3]) O)).sub (M:=[2,3,4]) O) ((aj.up e).rd.sub (M:=[2,3,4]) O)) fun dv dw Y ce=>?_)))))
    have cf:=an.n ce
    exact Lw.eq O (Nb O (.ret (rt Y cf)))
   ·refine sk (ssr (mi O (Lw.lt O (nl (cn Y (fun Y=>?_) fun Y=>?_)))))
    ·obtain⟨cg,ch,Y⟩:=zdY Y
     refine Cw.join 46 55 [2] (fun l w=> ∃ ao ap,CW.w ap=w/\Le [] C ap/\l=[vB ao]/\cg ao=some r) ?_ ?_
     ·rintro _ _ σ ⟨ao,ap,rfl,ci,rfl,Y⟩
      rw[ch]at Y
      have cj:=an.n ci
      exact .ret (rt Y cj)
     ·refine rg (mv y O (Lw.ln B V.rd O (Lw.eq O (mb O (bs Y (fun H Y=>?_) fun H Y=>?_)))))
      ·refine wak 5 H (mv y O ?_)
       obtain⟨u64,bi,Y⟩:=ob Y
       exact Lw.r O (R.ix (α:=Int) V.rd bi O O O) (Lw.r O (R.ld O O (V.rd.at_ bi).int) (mi O (Lw.eq O (Pb H O (Nb O ((ag) ⟨((u64:Int)==(a.2.2:Int)),C,O,Le.refl _ _,O,Y⟩))))))
      ·exact psk 5 H O (Pb H O (Nb O ((ag) ⟨false,C,O,Le.refl _ _,O,Y⟩)))
    ·refine sk (Cw.seq ?_)
     obtain⟨aq,ck,Y⟩:=ob Y
     obtain⟨X,cl,Y⟩:=ob Y
     obtain⟨I,cm,Y⟩:=ob Y
     refine Cw.par [[],[],[],[1,2],[],[4],[1,2,3,4,5],[],[0,1,2,3,4,5,6,7],[0,1,2,3,4,5,6,7,8]] [[],[],[],[1,2],[],[4],[3,5],[],[0,6,7],[8]] [[],[],[],[7],[],[],[7],[],[],[]] [[0],[1],[2],[3],[4],[5],[6],[7],[8],[8,9]] [[],[7],[],[7],[],[8],[7],[],[9],[]] [0,2,4,5,6,7,8,9] [7] [fun vs W=>(vs 0) = .agg [f,i].toArray,fun vs W=>Ow W 7 [] [(vs 1)] ([]:List Int),fun vs W=>(vs 2)=b,fun vs W=>Ow W 7 [] [(vs 3)] aq,fun vs W=>(vs 4)=vI d,fun vs W=>(vs 5) = .slice (some (bx (pg (vs 5)))) 1 1/\Bx W 8 (pg (vs 5)) [vI d],fun vs W=>Ow W 7 [] [(vs 6)] X,fun vs W=>(vs 7)=vI a.2.2,fun vs W=>Ow W 9 [] [(vs 8)] I,fun vs W=>(vs 9)=(vs 8)] [] mixed (by kernel_rfl) O zqt.nil ?_
     intro dx D
     have bj:=an.n D
     have bk:=(ah.up e).up D
     have bl:=(ai.up e).up D
     have bm:=(aj.up e).up D
     have bn:=(ak.up e).up D
     refine⟨(zcI.cons ?_ (zcI.cons ?_ (zcI.cons ?_ (zcI.cons ?_ (zcI.cons ?_ (zcI.cons ?_ (zcI.cons ?_ (zcI.cons ?_ (zcI.cons ?_ (zcI.cons ?_ zcI.nil)))))))))),(zha.cons SE (zha.cons SO (zha.cons SE (zha.cons SO (zha.cons SE (zha.cons (fun vs vs' W W' _ hv l hd h=>by(show(vs' 5) = .slice (some (bx (pg (vs' 5)))) 1 1/\Bx W' 8 (pg (vs' 5)) [vI d]);rw[hv 5 (zbB O)];exact⟨h.1,h.2.up l (zgD hd (c:=8) O)⟩) (zha.cons SO (zha.cons SE (zha.cons SO (zha.cons (fun vs vs' W W' _ hv l hd h=>by(show(vs' 9)=(vs' 8));rw[hv 8 (zbB O),hv 9 (zbB O)];exact h) zha.nil)))))))))),?_⟩
     ·intro vs dy lW hN hV
      exact Trq (R.lda (cs:=[f,i]) (bn.up lW O).cells O O) O
     ·intro vs dz lW hN hV
      refine Tr.mono (T.lit0 (α:=Int) 7 []) ?_
      rintro co _ ⟨bp,rfl,cp,cq⟩
      exact⟨bp,O,cp,(show Ow bp 7 [] [co] ([]:List Int) from cq)⟩
     ·intro vs d0 lW hN hV
      exact Trq (R.mv (v:=b) O) O
     ·intro vs ct lW hN hV
      obtain⟨cu,cv⟩: ∃ v,vs 1=v:=⟨_,O⟩
      obtain⟨vs,rfl⟩:=za2 cv
      have cw:Ow ct 7 [] [cu] ([]:List Int):=(hN 1 (zbB O))
      have ar:vs 2=b:=(hN 2 (zbB O))
      obtain⟨vs,rfl⟩:=za2 ar
      refine Tr.mono (T.appP (α:=Int) cw (bm.up lW O).rd O O ck) ?_
      rintro cx _ ⟨bq,rfl,cy,cz⟩
      exact⟨bq,O,cy,(show Ow bq 7 [] [cx] aq from cz)⟩
     ·intro vs d1 lW hN hV
      exact Trq (R.mv (v:=vI d) O) O
     ·intro vs d2 lW hN hV
      have au:vs 4=vI d:=(hN 4 (zbB O))
      obtain⟨vs,rfl⟩:=za2 au
      refine Tr.mono (T.bs 8 [vI d] (cs:=[vI d]) O O (bsv O)) ?_
      rintro _ _ ⟨av,br,rfl,rfl,c0,c1⟩
      exact⟨br,O,c0,(show(.slice (some (bx av)) 1 1:Value) = .slice (some (bx av)) 1 1/\Bx br 8 av [vI d] from⟨O,c1⟩)⟩
     ·intro vs bu lW hN hV
      obtain⟨c2,c3⟩: ∃ v,vs 3=v:=⟨_,O⟩
      obtain⟨vs,rfl⟩:=za2 c3
      have c4:Ow bu 7 [] [c2] aq:=(hN 3 (zbB O))
      obtain⟨z,aw⟩: ∃ z,vs 5 = .slice (some (bx z)) 1 1:=⟨_,((hN 5 (zbB O))).1⟩
      obtain⟨vs,rfl⟩:=za2 aw
      have c5:Bx bu 8 z [vI d]:=(hN 5 (zbB O)).2
      refine Tr.mono (T.app1S (α:=Int) (K':=[]) c4 c5 (rdI _) O O cl) ?_
      rintro c6 _ ⟨bv,rfl,c7,c8⟩
      exact⟨bv,O,c7,(show Ow bv 7 [] [c6] X from c8)⟩
     ·intro vs d3 lW hN hV
      exact Trq (R.mv (v:=vI a.2.2) O) O
     ·intro vs c9 lW hN hV
      have da:=bj.t lW O
      have ax:vs 0 = .agg [f,i].toArray:=(hN 0 (zbB O))
      obtain⟨vs,rfl⟩:=za2 ax
      obtain⟨ay,az⟩: ∃ v,vs 6=v:=⟨_,O⟩
      obtain⟨vs,rfl⟩:=za2 az
      have db:Ow c9 7 [] [ay] X:=(hN 6 (zbB O))
      have a0:vs 7=vI a.2.2:=(hN 7 (zbB O))
      obtain⟨vs,rfl⟩:=za2 a0
      refine Tr.mono (T.call O (p56 (K:=[0,2,3,7]) (k0:=9) (x0:=(Vm.Repo.mk a.1.Commits a.1.Heads)) ((Repo.rd (K:=[2,3]) a.1.Commits a.1.Heads ((bk.up lW O).rd.sub (M:=[2,3]) O) ((bl.up lW O).rd.sub (M:=[2,3]) O)).sub (M:=[0,2,3,7]) O) (db.rd.sub (M:=[0,2,3,7]) O) ((S.ul da).sub (M:=[0,2,3,7]) O) cm)) ?_
      rintro dc _ ⟨bw,rfl,dd,⟨_,rfl,de⟩⟩
      exact⟨bw,O,dd,(show Ow bw 9 [] [dc] I from de)⟩
     ·intro vs df lW hN hV
      obtain⟨E,a1⟩: ∃ v,vs 8=v:=⟨_,O⟩
      obtain⟨vs,rfl⟩:=za2 a1
      have d4:Ow df 9 [] [E] I:=(hN 8 (zbB O))
      exact Trq (R.as (v:=E) O) O
     ·intro vs a2 F hN
      have bz:=bj.t F
      have ax:vs 0 = .agg [f,i].toArray:=(hN 0 (zbB O))
      obtain⟨vs,rfl⟩:=za2 ax
      have ar:vs 2=b:=(hN 2 (zbB O))
      obtain⟨vs,rfl⟩:=za2 ar
      have au:vs 4=vI d:=(hN 4 (zbB O))
      obtain⟨vs,rfl⟩:=za2 au
      obtain⟨z,aw⟩: ∃ z,vs 5 = .slice (some (bx z)) 1 1:=⟨_,((hN 5 (zbB O))).1⟩
      obtain⟨vs,rfl⟩:=za2 aw
      have d5:Bx a2 8 z [vI d]:=(hN 5 (zbB O)).2
      obtain⟨ay,az⟩: ∃ v,vs 6=v:=⟨_,O⟩
      obtain⟨vs,rfl⟩:=za2 az
      have d6:Ow a2 7 [] [ay] X:=(hN 6 (zbB O))
      have a0:vs 7=vI a.2.2:=(hN 7 (zbB O))
      obtain⟨vs,rfl⟩:=za2 a0
      obtain⟨E,a1⟩: ∃ v,vs 8=v:=⟨_,O⟩
      obtain⟨vs,rfl⟩:=za2 a1
      have dg:Ow a2 9 [] [E] I:=(hN 8 (zbB O))
      have dh:vs 9=E:=(hN 9 (zbB O))
      obtain⟨vs,rfl⟩:=za2 dh
      refine sr (la (bn.up F) (mv b O (mi O (cr Y (fun _=>p56 (K:=[0,2,3,4]) (k0:=10) (x0:=(Vm.Repo.mk a.1.Commits a.1.Heads)) ((Repo.rd (K:=[2,3]) a.1.Commits a.1.Heads ((bk.up F).rd.sub (M:=[2,3]) O) ((bl.up F).rd.sub (M:=[2,3]) O)).sub (M:=[0,2,3,4]) O) ((bm.up F).rd.sub (M:=[0,2,3,4]) O) ((S.ul bz).sub (M:=[0,2,3,4]) O)) ?_))))
      rintro b0 b1 di Y a3 ⟨_,rfl,dj⟩
      have dk:=bz.n a3
      have a4:=((V.up D).up F).up a3
      refine Nv b1 O ?_
      obtain⟨dl,dm,Y⟩:=zdY Y
      refine Cw.join 69 90 [2] (fun l w=> ∃ a6 a8,CW.w a8=w/\Le [] di a8/\l=[vB a6]/\dl a6=some r) ?_ ?_
      ·rintro _ _ σ ⟨a6,a8,rfl,dn,rfl,Y⟩
       rw[dm]at Y
       have dp:=dk.n dn
       exact .ret (rt Y dp)
      ·refine rg (mv y O (mi O (ca Y (fun _=>p58 (K:=[6]) a4.rd) fun d7 Z Y x=>mb O (bs Y (fun J Y=>?_) fun J Y=>?_))))
       ·refine wak 3 J (mi O (mi O (Lw.ne O (Pb J O (mb O (bs Y (fun L Y=>?_) fun L Y=>?_))))))
        ·refine wak 5 L (mv E O (Lw.ln I ((dg.up a3).up x).rd O (mv y O (Lw.ln B (a4.up x).rd O (Lw.lt O (Pb L O (mb O (bs Y (fun N Y=>?_) fun N Y=>?_))))))))
         ·exact wak 5 N (mv b1 O (Lw.ln b0 (dj.up x).rd O (mv y O (Lw.ln B (a4.up x).rd O (Lw.lt O (Pb N O (Nb O ((ag) ⟨decide (b0.length< (B.length:Int)),Z,O,x,O,Y⟩))))))))
         ·exact psk 5 N O (Pb N O (Nb O ((ag) ⟨false,Z,O,x,O,Y⟩)))
        ·exact psk 5 L O (Pb L O (mb O (psk 5 O O (Pb O O (Nb O ((ag) ⟨false,Z,O,x,O,Y⟩))))))
       ·exact psk 3 J O (Pb J O (mb O (psk 5 O O (Pb O O (mb O (psk 5 O O (Pb O O (Nb O ((ag) ⟨false,Z,O,x,O,Y⟩)))))))))
  ·refine rg (mi O (la ak (mv b O (mi O (ca Y (fun _=>p62 (K:=[2,3,4]) (x0:=(Vm.Repo.mk a.1.Commits a.1.Heads)) ((Repo.rd (K:=[2,3]) a.1.Commits a.1.Heads (ah.rd.sub (M:=[2,3]) O) (ai.rd.sub (M:=[2,3]) O)).sub (M:=[2,3,4]) O) (aj.rd.sub (M:=[2,3,4]) O)) fun d8 b2 Y a9=>Lw.ne O (mb O (bs Y (fun P Y=>?_) fun P Y=>?_)))))))
   ·exact psk 3 P O (Pb P O (nl ((ag) ⟨true,b2,O,a9,O,Y⟩)))
   ·exact wak 3 P (mv y O (Lw.ln B (bh.up a9).rd O (Lw.eq O (Pb P O (nl ((ag) ⟨((B.length:Int)==0),b2,O,a9,O,Y⟩))))))
theorem p13 {x0 a r}(b:Rd W K [a] x0)(d:Gl 0 W K)(Y:Vm.zkH x0=some r):Q1 13 [a] W [] fun W' v=>v=vB r:=
 (c13 (b.view _) (d.view _) Y).ad (fk 0) fun _ _ e=>e
end Go.Sx
