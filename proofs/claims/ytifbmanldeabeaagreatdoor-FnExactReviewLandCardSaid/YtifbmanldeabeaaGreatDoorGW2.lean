/- Walks: each function answers as its model, printed by a program of ours. Conditions: the arguments read as they are given. -/
import Derived.Test.YtifbmanldeabeaaGreatDoorGTs
import Derived.Test.YtifbmanldeabeaaGreatDoorGM0
import Derived.Test.YtifbmanldeabeaaGreatDoorGW0
import Derived.Test.YtifbmanldeabeaaGreatDoorGW1
namespace Go.Sx
open Go Go.Proofs Go.Vm Rp
set_option linter.unusedVariables false
set_option linter.unusedSimpArgs false
variable {W W0:CW}{K:List Nat}
theorem c229 {x0 a x1 A B C D r}(N:Ow W0 2 [] [a] x0)(P:Ow W0 3 [] [A] x1.Lines)(ae:Ow W0 4 [] [B] x1.Old)(af:Ow W0 5 [] [C] x1.One)(ah:Ow W0 6 [] [D] x1.Two)(Y:Vm.zhx x0 x1=some r):Q0 229 [a, .agg [vB x1.Clash,A,B,C,D].toArray] W0 fun Wf v=> ∃ Q,v=Q/\OwS Wf [31] [] [Q] r:=by
 unfold Vm.zhx at Y
 refine zao.of Tryz.func229 O O O O (sr (bo 7 O fun g1 H b E=>?_))
 have a2:=b.o
 refine Nv (.slice none 0 0) O (sr (mv a O (Lw.ln x0 (N.up b).rd O (Ni O (Cw.seq ?_)))))
 obtain⟨aj,ak,Y⟩:=zaY Y
 refine Cw.join 8 16 [16] (fun l w=> ∃ I f,CW.w f=w/\Le [] H f/\l=[vB I]/\aj I=some r) ?_ ?_
 ·rintro _ _ σ ⟨I,f,rfl,d,rfl,Y⟩
  rw[ak]at Y
  have S:=a2.n d
  have i:=(N.up b).up d
  refine cn Y (fun Y=>?_) fun Y=>?_
  ·refine sr (mv a O (Nv a O ?_))
   obtain⟨br,am,an,ao⟩:=i.dyeO 31
   have ap:=S.t an
   cases Y
   rw[<- am]
   exact Cw.ret (zik O (Res.mk ap ⟨a,O,ao.s⟩))
  ·refine sk (Cw.seq ?_)
   obtain⟨aq,ar,Y⟩:=zaY Y
   refine Cw.join 18 33 [33] (fun l w=> ∃ K L,CW.w L=w/\Le [] f L/\l=[vB K]/\aq K=some r) ?_ ?_
   ·rintro _ _ σ ⟨K,L,rfl,e,rfl,Y⟩
    rw[ar]at Y
    have U:=S.n e
    have V:=((P.up b).up d).up e
    have W:=(E.up d).up e
    refine cn Y (fun Y=>?_) fun Y=>?_
    ·refine Cw.seq (Cw.draw [] [(0,0),(1,0),(2,0),(3,0),(4,0),(5,0),(6,0),(7,0),(8,1),(9,0),(10,1),(11,3),(12,0),(13,0),(14,3)] mixed (by kernel_rfl) fun bu F=>?_)
     have au:=U.n F
     have k:=(i.up e).up F
     refine Dv a O (Di O (Mw.p O O (fun _=>R.sub O O) (Dv a O (Di O (Mw.p O O (fun _=>R.sub O O) ?_)))))
     obtain⟨bv,G,Y⟩:=ob Y
     refine Mw.p O O (fun _=>R.ix (α:=Part) k.rd G O O O) (Df O ?_)
     obtain⟨bw,c48,r49⟩:=(Part.at1 (k.rd.at_ G)).cell O
     refine Mw.q O O (fun _ c=>R.ld O O (zaq (Part.at1 (k.rd.at_ G)).1 O c48 c)) (Dfl (W.up F) O O O ?_)
     obtain⟨bz,av,X,aw,ax⟩:=Ow.take (α:=Part) (β:=List Str) (j:=8) (jf:=1) k G c48 O
     rw[<- av]
     have ay:=au.t X
     obtain⟨b0,az,Y⟩:=ob Y
     refine Mw.l O O (T.appP (α:=Str) aw ((V.up F).up X).rd O O az) ?_
     rintro b2 _ ⟨b3,rfl,Z,a0⟩
     have a1:=ay.t Z
     obtain⟨b4,a3,Y⟩:=ob Y
     refine Mw.p O O (fun _=>R.ix (α:=Part) k.rd a3 O O O) (Df O ?_)
     obtain⟨b5,a4,Y⟩:=ob Y
     refine Mw.lu O (T.stH (α:=Part) (β:=List Str) (J:=[8]) (ax.up (Z.sub (M:=[8]) O) O) a0.s a4 O O O O) ?_
     rintro _ _ ⟨b6,rfl,a5,a6⟩
     have a7:=a1.t a5
     refine Mw.nil (sr (mv a O (Nv a O ?_)))
     obtain⟨b7,a8,a9,ba⟩:=a6.dyeO 31
     have bb:=a7.t a9
     cases Y
     rw[<- a8]
     exact Cw.ret (zik O (Res.mk bb ⟨a,O,ba.s⟩))
    ·refine sk (sr (mv a O (la W (Lw.t O (T.bs 9 [.agg [vB x1.Clash,A,B,C,D].toArray] (cs:=[vB x1.Clash,A,B,C,D]) O O (bsA O)) ?_))))
     rintro _ _ ⟨b8,b9,rfl,rfl,h,bc⟩
     have be:=U.n h
     obtain⟨cb,bg,Y⟩:=ob Y
     refine Lw.t O (T.app1 (α:=Part) (J:=[3,4,5,6]) (K':=[]) ((i.up e).up h) bc (Part.own x1.Clash x1.Lines x1.Old x1.One x1.Two (V.up h).s ((((ae.up b).up d).up e).up h).s ((((af.up b).up d).up e).up h).s ((((ah.up b).up d).up e).up h).s) O O bg) ?_
     rintro aa _ ⟨cc,rfl,bh,bi⟩
     have bj:=be.t bh
     refine Nv aa O ?_
     obtain⟨cd,bk,bl,bm⟩:=bi.dyeO 31
     have bn:=bj.t bl
     cases Y
     rw[<- bk]
     exact Cw.ret (zik O (Res.mk bn ⟨aa,O,bm.s⟩))
   ·refine rg (mi O (Lw.gt O (mb O (bs Y (fun x Y=>?_) fun x Y=>?_))))
    ·refine wak 3 x (fl (E.up d) O (Lw.r O (R.not O) (Pb x O (mb O (bs Y (fun y Y=>?_) fun y Y=>?_)))))
     ·refine wak 7 y (mv a O (mi O (Lw.sub O ?_)))
      obtain⟨bp,ac,Y⟩:=ob Y
      exact Lw.r O (R.ix (α:=Part) i.rd ac O O O) (Lw.fa O (Lw.r O (R.ld O O (Part.at0 (i.rd.at_ ac)).bool) (Lw.r O (R.not O) (Pb y O (nl ((ag) ⟨(!bp.Clash),f,O,Le.refl _ _,O,Y⟩))))))
     ·exact psk 7 y O (Pb y O (nl ((ag) ⟨false,f,O,Le.refl _ _,O,Y⟩)))
    ·exact psk 3 x O (Pb x O (mb O (psk 7 O O (Pb O O (nl ((ag) ⟨false,f,O,Le.refl _ _,O,Y⟩))))))
 ·refine rg (fl E O (Lw.r O (R.not O) (mb O (bs Y (fun z Y=>?_) fun z Y=>?_))))
  ·exact wak 4 z (fl E O (Lw.ln x1.Lines (P.up b).rd O (Lw.eq O (Pb z O (nl ((ag) ⟨((x1.Lines.length:Int)==0),H,O,Le.refl _ _,O,Y⟩))))))
  ·exact psk 4 z O (Pb z O (nl ((ag) ⟨false,H,O,Le.refl _ _,O,Y⟩)))
theorem p229 {x0 b x1 d f h i k0 c0 c1 c2 c3 c4 r}(k:Ow W c0 [] [b] x0)(x:Ow W c1 [] [d] x1.Lines)(y:Ow W c2 [] [f] x1.Old)(z:Ow W c3 [] [h] x1.One)(A:Ow W c4 [] [i] x1.Two)(hJ:okJ K [c0,c1,c2,c3,c4]=true)(Y:Vm.zhx x0 x1=some r):Q1 229 [b, .agg [vB x1.Clash,d,f,h,i].toArray] W [c0,c1,c2,c3,c4] fun W' v=> ∃ a,v=a/\Ow W' k0 [] [a] r:=
 zao.adJ (J:=[c0,c1,c2,c3,c4]) (fun c=>bif Nat.beq c 0 then 0 else bif Nat.beq c 2 then c0 else bif Nat.beq c 3 then c1 else bif Nat.beq c 4 then c2 else bif Nat.beq c 5 then c3 else bif Nat.beq c 6 then c4 else bif Nat.beq c 31 then k0 else 0) (c229 (k.viewJ 0 hJ) (x.viewJ 1 hJ) (y.viewJ 2 hJ) (z.viewJ 3 hJ) (A.viewJ 4 hJ) Y) fun _ _ ⟨a,e,B⟩=>⟨a,e,B.one1.backN O⟩
theorem c201 {x0 d x1 k x2 x r}(e:Rd W0 [0] [d] x0)(F:Rd W0 [0] [k] x1)(G:Rd W0 [0] [x] x2)(Y:Vm.zjx x0 x1 x2=some r):Q0 201 [d,k,x] W0 fun Wf v=> ∃ u0,v=u0/\OwS Wf LL [] [u0] r:=by
 unfold Vm.zjx at Y
 refine zao.of Tryz.func201 O O O O (sr (Nv (.slice none 0 0) O (sr (Lw.t O (T.lit0 (α:=Part) 2 []) ?_))))
 rintro v1 _ ⟨W1,rfl,l1,o1⟩
 have a2:=l1.o
 refine Nv v1 O (sr (mv d O (mv k O (cr Y (fun _=>p156 (k0:=3) (e.ul a2) (F.ul a2)) ?_))))
 rintro z5 dm W7 Y l7 ⟨_,rfl,b1⟩
 have a8:=a2.n l7
 refine mv k O (Lw.ln x1 (F.ul a8) O (Lw.t O (T.bs 4 [vI (x1.length:Int)] (cs:=[vI (x1.length:Int)]) O O (bsv O)) ?_))
 rintro _ _ ⟨dp,dq,rfl,rfl,am,b2⟩
 have b3:=a8.n am
 obtain⟨a7,b4,Y⟩:=ob Y
 refine Lw.t O (T.app1S (α:=Int) (K':=[]) (b1.up am) b2 (rdI _) O O b4) ?_
 rintro y _ ⟨dr,rfl,a9,b5⟩
 have an:=b3.t a9
 refine Nv y O (sr (mv d O (mv x O (cr Y (fun _=>p156 (k0:=5) (e.ul an) (G.ul an)) ?_))))
 rintro ds dt du Y ao ⟨_,rfl,b6⟩
 have ba:=an.n ao
 refine mv x O (Lw.ln x2 (G.ul ba) O (Lw.t O (T.bs 6 [vI (x2.length:Int)] (cs:=[vI (x2.length:Int)]) O O (bsv O)) ?_))
 rintro _ _ ⟨dv,dw,rfl,rfl,H,b7⟩
 have b8:=ba.n H
 obtain⟨b9,cb,Y⟩:=ob Y
 refine Lw.t O (T.app1S (α:=Int) (K':=[]) (b6.up H) b7 (rdI _) O O cb) ?_
 rintro I _ ⟨bb,rfl,ap,cc⟩
 have cd:=b8.t ap
 refine Nv I O (sr (Ni O (sr (Ni O (sr (Ni O (ssr (Ni O (Cw.block ?_)))))))))
 obtain⟨ce,cf,Y⟩:=zaY Y
 refine Cw.loop 29 91 [7,10,11,12,13] (fun m l w=> ∃ J L N P z a b,CW.w b=w/\Le [2,7,8,9,10,11,12,13,14,15,16] bb b/\l=[a,vI L,vI N,vI P,vI z]/\Ow b 2 [] [a] J/\Vm.zcz x0 x1 x2 a7 b9 ce m J L N P z=some r) _ ⟨([]:List Part),0,0,0,0,v1,bb,O,Le.refl _ _,O,((((((o1.up l7).up am).up a9).up ao).up H).up ap),Y⟩ ?_
 rintro(_ |dx) _ _ σ ⟨J,L,N,P,z,a,b,rfl,Q,rfl,aq,Y⟩
 ·cases Y
 unfold Vm.zcz at Y
 have bc:=cd.t Q
 have S:=(((b5.up ao).up H).up ap).up Q
 have ar:=cc.up Q
 refine ssr (mi O (mv y O (Lw.ln a7 S.rd O (Lw.lt O (nl (cn Y (fun Y=>?_) fun Y=>?_))))))
 ·refine sk ?_
  obtain⟨cg,ch,Y⟩:=zaY Y
  refine Cw.join 35 91 [7,10,11,12] (fun l w=> ∃ U V X Z aa A,CW.w A=w/\Le [2,7,8,9,10,11,12,13,14,15,16] b A/\l=[aa,vI V,vI X,vI Z]/\Ow A 2 [] [aa] U/\cg U V X Z=some r) ?_ ?_
  ·rintro _ _ σ ⟨U,V,X,Z,aa,A,rfl,ci,rfl,cj,Y⟩
   rw[ch]at Y
   exact rg (mi O (Lw.add O (Ni O ((agm) ⟨U,V,X,Z,w64 (z+1),aa,A,O,(Q.j ci).w,O,cj,Y⟩))))
  ·refine Cw.block (Cw.seq ?_)
   obtain⟨ck,cl,Y⟩:=zaY Y
   refine Cw.join 35 46 [46] (fun l w=> ∃ au ac,CW.w ac=w/\Le [] b ac/\l=[vB au]/\ck au=some r) ?_ ?_
   ·rintro _ _ σ ⟨au,ac,rfl,f,rfl,Y⟩
    rw[cl]at Y
    have cm:=bc.n f
    refine cn Y (fun Y=>?_) fun Y=>?_
    ·exact Cw.exit ((ag) ⟨J,L,N,P,a,ac,O,f.w,O,(aq.up f),Y⟩)
    ·refine sk (Cw.seq (Cw.draw [2,7,8,9,10] [(0,0),(1,0),(2,0),(3,0),(4,0),(5,0),(6,0),(7,0),(8,0),(9,0),(10,1),(11,0),(12,0),(13,0),(14,0),(15,0),(16,0),(17,1),(18,0),(19,3),(20,2),(21,0)] mixed (by kernel_rfl) fun dy B=>?_))
     have h:=cm.n B
     have ae:=(S.up f).up B
     have af:=(ar.up f).up B
     refine Dv a O (Dv d O (Di O (Di O ?_)))
     obtain⟨dz,be,Y⟩:=ob Y
     have r95:=(e.ul h).cutV be
     refine Mw.p O O (fun _=>R.sl (e.ul h) be O (.inr O) (.inr O)) (Dv k O (Di O (Dv y O (Di O ?_))))
     obtain⟨d0,av,Y⟩:=ob Y
     refine Mw.p O O (fun _=>R.ix (α:=Int) ae.rd av O O O) (Mw.q O O (fun _ c=>R.ld O O (zaq (ae.rd.at_ av).1 O (ae.rd.at_ av).int c)) ?_)
     obtain⟨d1,bg,Y⟩:=ob Y
     have r102:=(F.ul h).cutV bg
     refine Mw.p O O (fun _=>R.sl (F.ul h) bg O (.inr O) (.inr O)) (Dv x O (Di O (Dv I O (Di O ?_))))
     obtain⟨d2,aw,Y⟩:=ob Y
     refine Mw.p O O (fun _=>R.ix (α:=Int) af.rd aw O O O) (Mw.q O O (fun _ c=>R.ld O O (zaq (af.rd.at_ aw).1 O (af.rd.at_ aw).int c)) ?_)
     obtain⟨d3,bh,Y⟩:=ob Y
     have r109:=(G.ul h).cutV bh
     refine Mw.p O O (fun _=>R.sl (G.ul h) bh O (.inr O) (.inr O)) ?_
     obtain⟨C,co,Y⟩:=ob Y
     refine Mw.l O O (T.call O (p230 (k0:=7) (k1:=8) (k2:=9) (k3:=10) r95 r102 r109 co)) ?_
     rintro _ _ ⟨d4,rfl,i,⟨d5,d6,d7,d8,rfl,cp,cq,ct,cu⟩⟩
     have cv:=h.n i
     obtain⟨cw,cx,Y⟩:=ob Y
     refine Mw.t O O (T.call O (p229 (K:=[0]) (k0:=11) (c0:=2) (c1:=7) (c2:=8) (c3:=9) (c4:=10) (x1:=(Vm.Part.mk C.Clash C.Lines C.Old C.One C.Two)) (((aq.up f).up B).up i) cp cq ct cu O cx)) ?_
     rintro ax _ ⟨ay,rfl,D,⟨_,rfl,bi⟩⟩
     have az:=cv.t D
     refine⟨⟨_,O,((i.sub (M:=[2,7,8,9,10]) O).trans (D.sub (M:=[2,7,8,9,10]) O))⟩,?_⟩
     refine Hv ax O (Mw.nil ?_)
     obtain⟨cy,cz,Y⟩:=zaY Y
     refine Cw.join 68 79 [7] (fun l w=> ∃ ah ai aj,CW.w aj=w/\Le [11,12,13,14,15,16] ay aj/\l=[ai]/\Ow aj 11 [] [ai] ah/\cy ah=some r) ?_ ?_
     ·rintro _ _ σ ⟨ah,ai,aj,rfl,a0,rfl,c5,Y⟩
      rw[cz]at Y
      have bj:=((ae.up i).up D).up a0
      have bk:=((af.up i).up D).up a0
      refine sr (mi O (Lw.add O (Ni O (sr (mv y O (mi O ?_))))))
      obtain⟨c6,bl,Y⟩:=ob Y
      refine Lw.r O (R.ix (α:=Int) bj.rd bl O O O) (Lw.r O (R.ld O O (bj.rd.at_ bl).int) (Lw.add O (Ni O (rg (mv I O (mi O ?_))))))
      obtain⟨c7,bm,Y⟩:=ob Y
      refine Lw.r O (R.ix (α:=Int) bk.rd bm O O O) (Lw.r O (R.ld O O (bk.rd.at_ bm).int) (Lw.add O (Ni O ?_)))
      obtain⟨c8,c9,da,db⟩:=c5.dyeO 2
      exact(ag) ⟨ah,w64 (z+1),w64 (c6+1),w64 (c7+1),ai,c8,c9,(((((f.j B).j i).j D).j a0).j da).w,O,db,Y⟩
     ·refine sr (mi O (mv d O (Lw.ln x0 (e.ul az) O (Lw.lt O (nl (cn Y (fun Y=>?_) fun Y=>?_))))))
      ·refine rg (mv ax O (mv d O (mi O ?_)))
       obtain⟨a1,bn,Y⟩:=ob Y
       refine Lw.r O (R.ix (α:=Str) (e.ul az) bn O O O) (Lw.r O (R.ld O O ((e.ul az).at_ bn).str) (Lw.t O (T.bsS (α:=Str) (xs:=[a1]) 12 [] (W:=ay) [vS a1] (Each.cons ((rdS _)) Each.nil) O) ?_))
       rintro bp _ ⟨d9,rfl,bq,br⟩
       refine Lw.r O (R.bd (zs:=[vB false, .slice none 0 0, .slice none 0 0, .slice none 0 0, .slice none 0 0]) (cs:=[vB false,bp, .slice none 0 0, .slice none 0 0, .slice none 0 0]) [(1,bp)] O O O (zaA br.oc O zc8)) (cr Y (fun _=>p229 (K:=[0]) (k0:=16) (c0:=11) (c1:=12) (c2:=13) (c3:=14) (c4:=15) (x1:=(Vm.Part.mk false ([a1]:List Str) ([]:List Str) ([]:List Str) ([]:List Str))) (bi.up bq) br (owN 13 []) (owN 14 []) (owN 15 []) O) ?_)
       rintro dc bu ea Y dd ⟨_,rfl,de⟩
       refine Nv bu O ?_
       obtain⟨df,dg,dh,di⟩:=de.dyeO 11
       exact(ag) ⟨dc,bu,df,dg,((bq.j dd).j dh).w,O,di,Y⟩
      ·exact sk ((ag) ⟨cw,ax,ay,O,Le.refl _ _,O,bi,Y⟩)
   ·refine rg (mv y O (mi O ?_))
    obtain⟨eb,bv,Y⟩:=ob Y
    refine Lw.r O (R.ix (α:=Int) S.rd bv O O O) (Lw.r O (R.ld O O (S.rd.at_ bv).int) (Lw.lt O (mb O (bs Y (fun E Y=>?_) fun E Y=>?_))))
    ·exact psk 5 E O (Pb E O (nl ((ag) ⟨true,b,O,Le.refl _ _,O,Y⟩)))
    ·refine wak 5 E (mv I O (mi O ?_))
     obtain⟨dj,bw,Y⟩:=ob Y
     exact Lw.r O (R.ix (α:=Int) ar.rd bw O O O) (Lw.r O (R.ld O O (ar.rd.at_ bw).int) (Lw.lt O (Pb E O (nl ((ag) ⟨decide (dj< (0:Int)),b,O,Le.refl _ _,O,Y⟩)))))
 ·refine Cw.exit ?_
  rw[cf]at Y
  refine sr (mv a O (Nv a O ?_))
  cases Y
  exact Cw.ret (zik O (Res.mk bc ⟨a,O,aq.s.sub O O⟩))
theorem p201 {x0 b x1 d x2 f k0 r}(h:Rd W K [b] x0)(i:Rd W K [d] x1)(k:Rd W K [f] x2)(Y:Vm.zjx x0 x1 x2=some r):Q1 201 [b,d,f] W [] fun W' v=> ∃ a,v=a/\Ow W' k0 [] [a] r:=
 (c201 (h.view _) (i.view _) (k.view _) Y).ad (fk k0) fun _ _ ⟨a,e,x⟩=>⟨a,e,x.back (zgv _)⟩
theorem c200 {x0 b r}(L:Rd W0 [0] [b] x0)(Y:Vm.zgO x0=some r):Q0 200 [b] W0 fun Wf v=> ∃ A,v = .tuple [A,vB r.2].toArray/\OwS Wf LL [] [A] r.1:=by
 unfold Vm.zgO at Y
 refine zao.of Tryz.func200 O O O O (sr (Gv (.slice none 0 0) O (Nb O (sr (Lw.t O (T.lit0 (α:=Str) 2 []) ?_)))))
 rintro B _ ⟨C,rfl,M,N⟩
 have P:=M.o
 refine Nv B O (ssr (Ni O (Cw.block ?_)))
 obtain⟨Q,S,Y⟩:=zaY Y
 refine Cw.loop 7 24 [2,3,4,5] (fun m l w=> ∃ f h x i k a d,CW.w d=w/\Le [2] C d/\l=[k,vB h,a,vI i]/\Ow d 3 [] [k] f/\Ow d 2 [] [a] x/\Vm.zcI x0 Q m f h x i=some r) _ ⟨([]:List Str),false,([]:List Str),0, .slice none 0 0,B,C,O,Le.refl _ _,O,owN 3 [],N,Y⟩ ?_
 rintro(_ |aa) _ _ σ ⟨f,h,x,i,k,a,d,rfl,D,rfl,U,y,Y⟩
 ·cases Y
 unfold Vm.zcI at Y
 have z:=P.t D
 refine ssr ?_
 have e:=L.ul z
 refine mi O (mv b O (Lw.ln x0 e O (Lw.lt O (nl (cn Y (fun Y=>?_) fun Y=>?_)))))
 ·refine sk (Cw.seq (Cw.block (ssr (mv b O (mi O ?_)))))
  obtain⟨ac,E,Y⟩:=ob Y
  refine Lw.r O (R.ix (α:=Part) e E O O O) (Lw.fa O (Lw.r O (R.ld O O (Part.at0 (e.at_ E)).bool) (nl (cn Y (fun Y=>?_) fun Y=>?_))))
  ·refine sr (Gv (.slice none 0 0) O (Nb O ?_))
   cases Y
   exact Cw.ret (zph O O (Res.mk z ⟨.slice none 0 0,O,(zp0 []).sub O O⟩))
  ·refine sk (rg (mv a O (mv b O (mi O ?_))))
   obtain⟨ae,F,Y⟩:=ob Y
   refine Lw.r O (R.ix (α:=Part) e F O O O) (Lw.fa O ?_)
   obtain⟨af,c23,r24⟩:=(Part.at1 (e.at_ F)).cell O
   refine Lw.r O (R.ld O O c23) ?_
   obtain⟨V,W,Y⟩:=ob Y
   refine Lw.t O (T.appP (α:=Str) y r24 O O W) ?_
   rintro G _ ⟨X,rfl,H,Z⟩
   exact Nv G O (rg (mi O (Lw.add O (Ni O ((agm) ⟨f,h,V,w64 (i+1),k,G,X,O,(D.j H).w,O,(U.up H),Z,Y⟩)))))
 ·refine Cw.exit ?_
  rw[S]at Y
  refine ssr (mv a O (ca Y (fun _=>p136 (K:=[2]) y.rd) fun ah ai Y I=>?_))
  have J:=z.n I
  refine Lw.r O (R.not O) (nl (cn Y (fun Y=>?_) fun Y=>?_))
  ·refine sr (Gv (.slice none 0 0) O (Nb O ?_))
   cases Y
   exact Cw.ret (zph O O (Res.mk J ⟨.slice none 0 0,O,(zp0 []).sub O O⟩))
  ·refine sk (sr (mv a O (Gv a O (Nb O ?_))))
   cases Y
   exact Cw.ret (zph O O (Res.mk J ⟨a,O,(y.up I).s.sub O O⟩))
theorem p200 {x0 b k0 r}(d:Rd W K [b] x0)(Y:Vm.zgO x0=some r):Q1 200 [b] W [] fun W' v=> ∃ a,v = .tuple [a,vB r.2].toArray/\Ow W' k0 [] [a] r.1:=
 (c200 (d.view _) Y).ad (fk k0) fun _ _ ⟨a,e,f⟩=>⟨a,e,f.back (zgv _)⟩
theorem c170 {x0 H x1 I x2 J x3 r}(Z:Rd W0 [0] [H] x0)(h1:Rd W0 [0] [I] x1)(h2:Rd W0 [0] [J] x2)(Y:Vm.zia x0 x1 x2 x3=some r):Q0 170 [H,I,J,vS x3] W0 fun Wf v=> ∃ W,v = .tuple [W,vB r.2.1,vI r.2.2].toArray/\Rd Wf [0] [W] r.1:=by
 unfold Vm.zia at Y
 refine zao.of Tryz.func170 O O O O (sr (Gv (.slice none 0 0) O (Gb O (Ni O (sr (mv H O (ms O (cr Y (fun _=>p155 Z) ?_))))))))
 rintro D _ W3 Y l3 ⟨d,rfl,af⟩
 have z:=af.sub (M:=[0]) O
 have y:=l3.o
 refine mv (.tuple [d,vB D.2].toArray) O (Lw.r O (R.ext (vs:=[d,vB D.2]) (v:=d) O O) (Lw.r O (R.ext (vs:=[d,vB D.2]) (v:=vB D.2) O O) (Gv d O (Nb O (sr (mv I O (ms O (cr Y (fun _=>p155 (h1.ul y)) ?_))))))))
 rintro E _ W9 Y l9 ⟨f,rfl,ai⟩
 have F:=ai.sub (M:=[0]) O
 have e:=l9.o
 refine mv (.tuple [f,vB E.2].toArray) O (Lw.r O (R.ext (vs:=[f,vB E.2]) (v:=f) O O) (Lw.r O (R.ext (vs:=[f,vB E.2]) (v:=vB E.2) O O) (Gv f O (Nb O (sr (mv J O (ms O (cr Y (fun _=>p155 (h2.ul (y.trans e))) ?_))))))))
 rintro A _ aj Y ak ⟨h,rfl,am⟩
 have G:=am.sub (M:=[0]) O
 have a:=ak.o
 refine mv (.tuple [h,vB A.2].toArray) O (Lw.r O (R.ext (vs:=[h,vB A.2]) (v:=h) O O) (Lw.r O (R.ext (vs:=[h,vB A.2]) (v:=vB A.2) O O) (Gv h O (Nb O (Cw.seq (Cw.block ?_))))))
 obtain⟨an,ao,Y⟩:=zaY Y
 refine Cw.join 37 47 [37] (fun l w=> ∃ L N,CW.w N=w/\Le [] aj N/\l=[vB L]/\an L=some r) ?_ ?_
 ·rintro _ _ σ ⟨L,N,rfl,ap,rfl,Y⟩
  rw[ao]at Y
  have b:=ap.o
  refine cn Y (fun Y=>?_) fun Y=>?_
  ·refine sr (mv h O (mb O (Gv h O (Gb O (Ni O ?_)))))
   cases Y
   exact Cw.ret (zAN O O O (Res.mk (((y.trans e).trans a).trans b) ⟨h,O,(G.ul b)⟩))
  ·refine sr (mv h O (mb O (mv d O (mb O (ca Y (fun _=>p199 (G.ul b) (z.ul ((e.trans a).trans b))) fun bg P Y aq=>?_)))))
   have i:=aq.o
   refine Nb O (cn Y (fun Y=>?_) fun Y=>?_)
   ·refine sr (mv f O (mb O (Gv f O (Gb O (Ni O ?_)))))
    cases Y
    exact Cw.ret (zAN O O O (Res.mk ((((y.trans e).trans a).trans b).trans i) ⟨f,O,(F.ul ((a.trans b).trans i))⟩))
   ·obtain⟨ar,au,Y⟩:=zaY Y
    refine Cw.join 58 64 [58] (fun l w=> ∃ Q S,CW.w S=w/\Le [] P S/\l=[vB Q]/\ar Q=some r) ?_ ?_
    ·rintro _ _ σ ⟨Q,S,rfl,av,rfl,Y⟩
     rw[au]at Y
     have k:=av.o
     refine cn Y (fun Y=>?_) fun Y=>?_
     ·refine sr (mv d O (mb O (Gv d O (Gb O (Ni O ?_)))))
      cases Y
      exact Cw.ret (zAN O O O (Res.mk (((((y.trans e).trans a).trans b).trans i).trans k) ⟨d,O,(z.ul ((((e.trans a).trans b).trans i).trans k))⟩))
     ·refine sr (mb O (Lw.r O (R.not O) (Nb O (cn Y (fun Y=>?_) fun Y=>?_))))
      ·refine sr (Gv (.slice none 0 0) O (Gb O (Ni O ?_)))
       cases Y
       exact Cw.ret (zAN O O O (Res.mk (((((y.trans e).trans a).trans b).trans i).trans k) ⟨.slice none 0 0,O,(rdN (K:=[0]))⟩))
      ·refine sk (sr (mv d O (mv f O (mv h O (cr Y (fun _=>p201 (k0:=2) (z.ul ((((e.trans a).trans b).trans i).trans k)) (F.ul (((a.trans b).trans i).trans k)) (G.ul ((b.trans i).trans k))) ?_)))))
       rintro bh bi bj Y aw ⟨_,rfl,ax⟩
       have T:=aw.o
       refine cr Y (fun _=>p200 (K:=[2]) (k0:=3) ax.rd) ?_
       rintro B _ bk Y ay ⟨x,rfl,az⟩
       have U:=ay.o
       refine mv (.tuple [x,vB B.2].toArray) O (Lw.r O (R.ext (vs:=[x,vB B.2]) (v:=x) O O) (Lw.r O (R.ext (vs:=[x,vB B.2]) (v:=vB B.2) O O) (Gv x O (Nb O (ssr (mb O (Lw.r O (R.not O) (nl (cn Y (fun Y=>?_) fun Y=>?_)))))))))
       ·refine sr (mv d O (Gv d O (Gb O (Ni O ?_))))
        cases Y
        exact Cw.ret (zAN O O O (Res.mk (((((((y.trans e).trans a).trans b).trans i).trans k).trans T).trans U) ⟨d,O,(z.ul ((((((e.trans a).trans b).trans i).trans k).trans T).trans U))⟩))
       ·refine sk (sr (mv x O (Gv x O (Gb O (Ni O ?_)))))
        obtain⟨a0,a1,a2,a3⟩:=zmg _ 3
        have a4:Rd (α:=List Str) a0 [0] [x] B.1:=by rw[a3];exact(az.rd.dye 3).sub (M:=[0]) O
        have a6:=(((((((y.trans e).trans a).trans b).trans i).trans k).trans T).trans U).t a2
        cases Y
        rw[<- a1]
        exact Cw.ret (zAN O O O (Res.mk a6 ⟨x,O,a4⟩))
    ·refine rg (mb O (Lw.r O (R.not O) (mb O (bs Y (fun C Y=>?_) fun C Y=>?_))))
     ·exact psk 2 C O (Pb C O (Nb O ((ag) ⟨true,P,O,Le.refl _ _,O,Y⟩)))
     ·exact wak 2 C (mb O (Lw.r O (R.not O) (Pb C O (Nb O ((ag) ⟨(!A.2),P,O,Le.refl _ _,O,Y⟩)))))
 ·refine sr (mv f O (mb O (mv d O (mb O (ca Y (fun _=>p199 (F.ul a) (z.ul (e.trans a))) fun a7 a8 Y V=>?_)))))
  have X:=V.o
  refine Nb O (cn Y (fun Y=>?_) fun Y=>?_)
  ·exact sk ((ag) ⟨a7,a8,O,V,O,Y⟩)
  ·exact rg (mv f O (mb O (mv h O (mb O (ca Y (fun _=>p199 (F.ul (a.trans X)) (G.ul X)) fun a9 ba Y bb=>Nb O ((ag) ⟨a9,ba,O,(V.j bb).w,O,Y⟩))))))
theorem p170 {x0 b x1 d x2 f x3 r}(h:Rd W K [b] x0)(i:Rd W K [d] x1)(k:Rd W K [f] x2)(Y:Vm.zia x0 x1 x2 x3=some r):Q1 170 [b,d,f,vS x3] W [] fun W' v=> ∃ a,v = .tuple [a,vB r.2.1,vI r.2.2].toArray/\Rd W' (0::K) [a] r.1:=
 (c170 (h.view _) (i.view _) (k.view _) Y).ad (fk 0) fun _ _ ⟨a,e,x⟩=>⟨a,e,x.back O⟩
theorem c139 {x0 G x1 H x2 I r}(h0:Rd W0 [0] [G] x0)(h1:Rd W0 [0] [H] x1)(h2:Rd W0 [0] [I] x2)(Y:Vm.zjy x0 x1 x2=some r):Q0 139 [G,H,I] W0 fun Wf v=> ∃ u0 u1,v = .tuple [u0,u1].toArray/\OwS Wf [31] [] [u0] r.1/\OwS Wf [32] [] [u1] r.2:=by
 unfold Vm.zjy at Y
 refine zao.of Tryz.func139 O O O O (sr (Gv (.slice none 0 0) O (Nv (.slice none 0 0) O (sr (Lw.t O (T.lit0 (α:=File) 2 []) ?_)))))
 rintro v1 _ ⟨W1,rfl,l1,o1⟩
 have a2:=l1.o
 refine Nv v1 O (sr (Lw.t O (T.lit0 (α:=Clash) 3 []) ?_))
 rintro v3 _ ⟨W3,rfl,l3,o3⟩
 have L:=a2.n l3
 refine Nv v3 O (sr (mv G O (mv H O (mv I O (cr Y (fun _=>p169 (h0.ul L) (h1.ul L) (h2.ul L)) ?_)))))
 rintro z9 y a3 Y af ⟨_,rfl,bw⟩
 have N:=bw.sub (M:=[0]) O
 have P:=L.n af
 refine Nv y O (ssr (Ni O (Cw.block ?_)))
 obtain⟨bz,b0,Y⟩:=zaY Y
 refine Cw.loop 21 61 [8,9,11,12,13,14] (fun m l w=> ∃ Q S U d e a5 a6 a7 f,CW.w f=w/\Le [2,3,4] a3 f/\l=[d,e,vI U,a5,a6,a7]/\Ow f 2 [] [d] Q/\Ow f 3 [] [e] S/\Vm.zd4 x0 x1 x2 z9 bz m Q S U=some r) _ ⟨([]:List File),([]:List Clash),0,v1,v3,undef,undef,undef,a3,O,Le.refl _ _,O,((o1.up l3).up af),(o3.up af),Y⟩ ?_
 rintro(_ |c2) _ _ σ ⟨Q,S,U,d,e,a5,a6,a7,f,rfl,a8,rfl,a9,ah,Y⟩
 ·cases Y
 unfold Vm.zd4 at Y
 have h:=a8.s
 refine ssr ?_
 have ai:=N.ul h
 refine mi O (mv y O (Lw.ln z9 ai O (Lw.lt O (nl (cn Y (fun Y=>?_) fun Y=>?_)))))
 ·refine sk ?_
  obtain⟨b1,b2,Y⟩:=zaY Y
  refine Cw.join 27 61 [8,9,12,13,14] (fun l w=> ∃ V W X Z aj ak am i,CW.w i=w/\Le [2,3,4] f i/\l=[X,Z,aj,ak,am]/\Ow i 2 [] [X] V/\Ow i 3 [] [Z] W/\b1 V W=some r) ?_ ?_
  ·rintro _ _ σ ⟨V,W,X,Z,aj,ak,am,i,rfl,b3,rfl,b4,b5,Y⟩
   rw[b2]at Y
   exact rg (mi O (Lw.add O (Ni O ((agm) ⟨V,W,w64 (U+1),X,Z,aj,ak,am,i,O,(a8.j b3).w,O,b4,b5,Y⟩))))
  ·refine Cw.block (sr (mv G O (mv H O (mv I O (mv y O (mi O ?_))))))
   obtain⟨c3,ba,Y⟩:=ob Y
   refine Lw.r O (R.ix (α:=Str) ai ba O O O) (Lw.r O (R.ld O O (ai.at_ ba).str) (cr Y (fun _=>p170 (h0.ul (P.trans h)) (h1.ul (P.trans h)) (h2.ul (P.trans h))) ?_))
   rintro a _ bb Y k ⟨b,rfl,b6⟩
   have b7:=b6.sub (M:=[0]) O
   have an:=h.n k
   refine mv (.tuple [b,vB a.2.1,vI a.2.2].toArray) O (Lw.r O (R.ext (vs:=[b,vB a.2.1,vI a.2.2]) (v:=b) O O) (Lw.r O (R.ext (vs:=[b,vB a.2.1,vI a.2.2]) (v:=vB a.2.1) O O) (Lw.r O (R.ext (vs:=[b,vB a.2.1,vI a.2.2]) (v:=vI a.2.2) O O) (Gv b O (Gb O (Ni O ?_))))))
   obtain⟨b8,b9,Y⟩:=zaY Y
   refine Cw.join 39 49 [9] (fun l w=> ∃ z A B,CW.w B=w/\Le [3] bb B/\l=[A]/\Ow B 3 [] [A] z/\b8 z=some r) ?_ ?_
   ·rintro _ _ σ ⟨z,A,B,rfl,aa,rfl,bc,Y⟩
    rw[b9]at Y
    have be:=aa.s
    have bg:=(a9.up k).up aa
    refine sr (mb O (nl (cn Y (fun Y=>?_) fun Y=>?_)))
    ·refine Cw.draw [2,4] [(0,0),(1,0),(2,0),(3,0),(4,1),(6,0),(5,2),(7,2),(8,0),(9,3),(10,2),(11,0)] mixed (by kernel_rfl) fun c4 ac=>?_
     have bh:=ac.o
     refine Dv d O (Dv y O (Di O ?_))
     obtain⟨C,ao,Y⟩:=ob Y
     have ap:=N.ul ((an.trans be).trans bh)
     refine Mw.p O O (fun _=>R.ix (α:=Str) ap ao O O O) (Mw.q O O (fun _ c=>R.ld O O (zaq (ap.at_ ao).1 O (ap.at_ ao).str c)) (Dv b O (Mw.t O O (T.lit0 (α:=Str) 4 []) ?_)))
     rintro c5 _ ⟨c6,rfl,x,cb⟩
     have cc:=(be.trans bh).n x
     refine m0 x fun cd=>?_
     obtain⟨ce,cf,Y⟩:=ob Y
     refine Mw.t O O (T.appP (α:=Str) cb (b7.ul cc) O O cf) ?_
     rintro ae _ ⟨c7,rfl,D,bi⟩
     refine mc cd D fun c8=>Mw.p O O (fun _=>R.bd (zs:=[vS ([]:Str), .slice none 0 0]) (cs:=[vS C,ae]) [(0,vS C),(1,ae)] O O O (zaA O O (zaA bi.oc O zc8))) (Mw.l O O (T.bs 5 [.agg [vS C,ae].toArray] (cs:=[vS C,ae]) O O (bsA O)) ?_)
     rintro _ _ ⟨c9,da,rfl,rfl,E,cg⟩
     obtain⟨ch,ci,Y⟩:=ob Y
     refine Mw.t O O (T.app1 (α:=File) (J:=[4]) (K':=[]) ((((bg.up ac).up x).up D).up E) cg (File.own C ce (bi.up E).s) O O ci) ?_
     rintro bj _ ⟨cj,rfl,aq,ck⟩
     refine⟨⟨_,O,((x.sub (M:=[2,4]) O).trans ((D.sub (M:=[2,4]) O).trans ((E.sub (M:=[2,4]) O).trans (aq.sub (M:=[2,4]) O))))⟩,?_⟩
     exact Hv bj O (Mw.nil ((ag) ⟨ch,z,bj,A,b,vB a.2.1,vI a.2.2,cj,O,((((((k.j aa).j ac).j x).j D).j E).j aq).w,O,ck,(((((bc.up ac).up x).up D).up E).up aq),Y⟩))
    ·exact sk ((ag) ⟨Q,z,d,A,b,vB a.2.1,vI a.2.2,B,O,(k.j aa).w,O,bg,bc,Y⟩)
   ·refine sr (mi O (Lw.gt O (nl (cn Y (fun Y=>?_) fun Y=>?_))))
    ·refine rg (mv e O (mv y O (mi O ?_)))
     obtain⟨F,bk,Y⟩:=ob Y
     refine Lw.r O (R.ix (α:=Str) (N.ul an) bk O O O) (Lw.r O (R.ld O O ((N.ul an).at_ bk).str) (mi O (Lw.r O (R.bd (zs:=[vS ([]:Str),vI 0]) (cs:=[vS F,vI a.2.2]) [(0,vS F),(1,vI a.2.2)] O O O (zaA O O (zaA O O zc8))) (Lw.t O (T.bs 6 [.agg [vS F,vI a.2.2].toArray] (cs:=[vS F,vI a.2.2]) O O (bsA O)) ?_))))
     rintro _ _ ⟨db,dc,rfl,rfl,bl,cl⟩
     obtain⟨cm,co,Y⟩:=ob Y
     refine Lw.t O (T.app1S (α:=Clash) (K':=[]) ((ah.up k).up bl) cl (Clash.rd (K:=[]) F a.2.2) O O co) ?_
     rintro bm _ ⟨cp,rfl,cq,ct⟩
     exact Nv bm O ((ag) ⟨cm,bm,cp,O,(bl.j cq).w,O,ct,Y⟩)
    ·exact sk ((ag) ⟨S,e,bb,O,Le.refl _ _,O,(ah.up k),Y⟩)
 ·refine Cw.exit ?_
  rw[b0]at Y
  refine sr (mv d O (mv e O (Gv d O (Nv e O ?_))))
  obtain⟨dd,cu,bn,cv⟩:=a9.dyeO 31
  have cw:=(P.trans h).t bn
  obtain⟨de,cx,bp,cy⟩:=(ah.up bn).dyeO 32
  have cz:=cw.t bp
  cases Y
  rw[<- cx.trans (cu)]
  exact Cw.ret (zph O O (Res.mk cz ⟨d,e,O,(cv.up bp).s,cy.s⟩))
theorem p139 {x0 d x1 f x2 h k0 k1 r}(i:Rd W K [d] x0)(k:Rd W K [f] x1)(x:Rd W K [h] x2)(Y:Vm.zjy x0 x1 x2=some r):Q1 139 [d,f,h] W [] fun W' v=> ∃ a b,v = .tuple [a,b].toArray/\Ow W' k0 [] [a] r.1/\Ow W' k1 [] [b] r.2:=
 zao.adJ (J:=[]) (fun c=>bif Nat.beq c 0 then 0 else bif Nat.beq c 31 then k0 else bif Nat.beq c 32 then k1 else 0) (c139 (i.view _) (k.view _) (x.view _) Y) fun _ _ ⟨a,b,e,y,z⟩=>⟨a,b,e,y.one1.backN O,z.one1.backN O⟩
theorem c87 {x0 e x1 f x2 h r}(A:Rd W0 [0] [e] x0)(Q:Rd W0 [0] [f] x1)(S:Rd W0 [0] [h] x2)(Y:Vm.zf3 x0 x1 x2=some r):Q0 87 [e,f,h] W0 fun Wf v=> ∃ B C,v = .tuple [B,C].toArray/\OwS Wf [31] [] [B] r.1/\OwS Wf [32] [] [C] r.2:=by
 unfold Vm.zf3 at Y
 refine zao.of Tryz.func87 O O O O (sr (Gv (.slice none 0 0) O (Nv (.slice none 0 0) O (sr (mv e O (mv f O (mv h O (cr Y (fun _=>p139 (k0:=2) (k1:=3) A Q S) ?_))))))))
 rintro U _ D Y V ⟨a,b,rfl,E,F⟩
 have W:=V.o
 refine mv (.tuple [a,b].toArray) O (Lw.r O (R.ext (vs:=[a,b]) (v:=a) O O) (Lw.r O (R.ext (vs:=[a,b]) (v:=b) O O) (Gv a O (Nv b O (Cw.seq ?_)))))
 obtain⟨X,Z,Y⟩:=zaY Y
 refine Cw.join 17 24 [24] (fun l w=> ∃ i k,CW.w k=w/\Le [] D k/\l=[vB i]/\X i=some r) ?_ ?_
 ·rintro _ _ σ ⟨i,k,rfl,y,rfl,Y⟩
  rw[Z]at Y
  have z:=W.n y
  refine cn Y (fun Y=>?_) fun Y=>?_
  ·refine sr (mv e O (cr Y (fun _=>p138 (k0:=4) (A.ul z)) ?_))
   rintro a0 G a1 Y aa ⟨_,rfl,ac⟩
   have ae:=z.n aa
   refine Lw.r O (R.bd (zs:=[vS ([]:Str),vI 0]) (cs:=[vS ([]:Str),vI 4]) [(1,vI 4)] O O O (zaA O O zc8)) (Lw.t O (T.bsO (α:=Clash) (J:=[]) (xs:=[Vm.Clash.mk ([]:Str) 4]) 5 [.agg [vS ([]:Str),vI 4].toArray] (bsL [[vS ([]:Str),vI 4]] (zD1 O zDj) (OwL.cons (x:=(Vm.Clash.mk ([]:Str) 4)) (OwS.atm (K:=[]) (Clash.rd (K:=[]) ([]:Str) 4)) OwL.nil)) O) ?_)
   rintro H _ ⟨a2,rfl,I,af⟩
   have ah:=ae.n I
   refine Gv G O (Nv H O ?_)
   obtain⟨a3,ai,L,aj⟩:=(ac.up I).dyeO 31
   have ak:=ah.t L
   obtain⟨a5,am,M,an⟩:=(af.up L).dyeO 32
   have ao:=ak.t M
   cases Y
   rw[<- am.trans (ai)]
   exact Cw.ret (zph O O (Res.mk ao ⟨G,H,O,(aj.up M).s,an.s⟩))
  ·refine sk (sr (mv a O (mv b O (Gv a O (Nv b O ?_)))))
   obtain⟨a6,ap,N,aq⟩:=(E.up y).dyeO 31
   have ar:=z.t N
   obtain⟨a7,au,P,av⟩:=((F.up y).up N).dyeO 32
   have aw:=ar.t P
   cases Y
   rw[<- au.trans (ap)]
   exact Cw.ret (zph O O (Res.mk aw ⟨a,b,O,(aq.up P).s,av.s⟩))
 ·refine rg (mv b O (Lw.ln U.2 F.rd O (Lw.eq O (mb O (bs Y (fun d Y=>?_) fun d Y=>?_)))))
  ·exact wak 3 d (mv a O (ca Y (fun _=>p82 (K:=[2]) E.rd) fun ax ay Y az=>Lw.r O (R.not O) (Pb d O (nl ((ag) ⟨(!ax),ay,O,az,O,Y⟩)))))
  ·exact psk 3 d O (Pb d O (nl ((ag) ⟨false,D,O,Le.refl _ _,O,Y⟩)))
theorem p87 {x0 d x1 f x2 h k0 k1 r}(i:Rd W K [d] x0)(k:Rd W K [f] x1)(x:Rd W K [h] x2)(Y:Vm.zf3 x0 x1 x2=some r):Q1 87 [d,f,h] W [] fun W' v=> ∃ a b,v = .tuple [a,b].toArray/\Ow W' k0 [] [a] r.1/\Ow W' k1 [] [b] r.2:=
 zao.adJ (J:=[]) (fun c=>bif Nat.beq c 0 then 0 else bif Nat.beq c 31 then k0 else bif Nat.beq c 32 then k1 else 0) (c87 (i.view _) (k.view _) (x.view _) Y) fun _ _ ⟨a,b,e,y,z⟩=>⟨a,b,e,y.one1.backN O,z.one1.backN O⟩
theorem c89 {x0 x a x1 x2 d e r}(h0:Rd W0 [0] [x,a] x0)(h2:Rd W0 [0] [d,vS x2.Who,e] x2)(Y:Vm.zdP x0 x1 x2=some r):Q0 89 [.agg [x,a].toArray,vS x1, .agg [d,vS x2.Who,e].toArray] W0 fun Wf v=> ∃ ah ai,v = .agg [ah,ai].toArray/\Rd Wf [0] [ah] r.Commits/\Rd Wf [0] [ai] r.Heads:=by
 unfold Vm.zdP at Y
 obtain⟨c9,da,aj,ak,E⟩:=Repo.split h0
 simp only[List.cons.injEq,and_true,true_and]at aj
 obtain⟨rfl,rfl⟩:=aj
 obtain⟨db,dc,am,bc,be⟩:=Commit.split h2
 simp only[List.cons.injEq,and_true,true_and]at am
 obtain⟨rfl,rfl⟩:=am
 refine zao.of Tryz.func89 O O O O (sr (bo 2 O fun y W1 l1 b1=>?_))
 have a2:=l1.o
 refine bo 3 O fun g3 W3 l3 b3=>?_
 have a4:=a2.n l3
 refine al 4 [.slice none 0 0, .slice none 0 0] fun g6 W6 F b6=>?_
 have a7:=a4.n F
 refine nl (Cw.seq ?_)
 obtain⟨A,bn,Y⟩:=ob Y
 obtain⟨f,bp,Y⟩:=ob Y
 refine Cw.par [[],[],[1],[0,1,2],[],[4],[0,1,2,3,4,5],[],[7],[0,1,2,3,4,5,6,7,8],[],[0,1,2,3,4,5,6,7,8,9,10]] [[],[],[1],[0,2],[],[4],[3,5],[],[7],[6,8],[],[6,9,10]] [[],[],[],[5],[],[],[5],[],[],[],[],[7]] [[0],[1],[2],[3],[4],[5],[6],[7],[8],[6,9],[10],[6,10]] [[5],[],[],[0,5],[],[6],[0,5],[],[],[],[7],[7]] [1,2,4,5,6,7,8,9,11] [5,7] [fun vs W=>Ow W 5 [] [(vs 0)] ([]:List Commit),fun vs W=>(vs 1)=ptr ((bx y).add 0),fun vs W=>(vs 2)=x,fun vs W=>Ow (α:=List (Sh Vm.Commit)) W 5 [0] [(vs 3)] A,fun vs W=>(vs 4) = .agg [d,vS x2.Who,e].toArray,fun vs W=>(vs 5) = .slice (some (bx (pg (vs 5)))) 1 1/\Bx W 6 (pg (vs 5)) [d,vS x2.Who,e],fun vs W=>Ow (α:=List (Sh Vm.Commit)) W 5 [0] [(vs 6)] f,fun vs W=>(vs 7)=ptr ((bx y).add 1),fun vs W=>(vs 8)=a,fun vs W=>(vs 9) = .agg [(vs 6),a].toArray,fun vs W=>(vs 10)=ptr (bx (pg (vs 10)))/\Bx W 7 (pg (vs 10)) [.slice none 0 0, .slice none 0 0],fun vs W=>(vs 10)=ptr (bx (pg (vs 10)))/\Bx W 7 (pg (vs 10)) [(vs 6),a]] [] mixed (by kernel_rfl) O zsd.nil ?_
 intro di B
 have G:=a7.n B
 have H:=((b1.up l3).up F).up B
 refine⟨(zaV.cons ?_ (zaV.cons ?_ (zaV.cons ?_ (zaV.cons ?_ (zaV.cons ?_ (zaV.cons ?_ (zaV.cons ?_ (zaV.cons ?_ (zaV.cons ?_ (zaV.cons ?_ (zaV.cons ?_ (zaV.cons ?_ zaV.nil)))))))))))),(zdz.cons SO (zdz.cons SE (zdz.cons SE (zdz.cons (fun vs vs' W W' _ hv l hd h=>by(show Ow (α:=List (Sh Vm.Commit)) W' 5 [0] [(vs' 3)] A);rw[hv 3 (zaC O)];exact h.up l (zkA hd (K:=[5,0]) O)) (zdz.cons SE (zdz.cons (fun vs vs' W W' _ hv l hd h=>by(show(vs' 5) = .slice (some (bx (pg (vs' 5)))) 1 1/\Bx W' 6 (pg (vs' 5)) [d,vS x2.Who,e]);rw[hv 5 (zaC O)];exact⟨h.1,h.2.up l (zcn hd (c:=6) O)⟩) (zdz.cons (fun vs vs' W W' _ hv l hd h=>by(show Ow (α:=List (Sh Vm.Commit)) W' 5 [0] [(vs' 6)] f);rw[hv 6 (zaC O)];exact h.up l (zkA hd (K:=[5,0]) O)) (zdz.cons SE (zdz.cons SE (zdz.cons (fun vs vs' W W' _ hv l hd h=>by(show(vs' 9) = .agg [(vs' 6),a].toArray);rw[hv 6 (zaC O),hv 9 (zaC O)];exact h) (zdz.cons (fun vs vs' W W' _ hv l hd h=>by(show(vs' 10)=ptr (bx (pg (vs' 10)))/\Bx W' 7 (pg (vs' 10)) [.slice none 0 0, .slice none 0 0]);rw[hv 10 (zaC O)];exact⟨h.1,h.2.up l (zcn hd (c:=7) O)⟩) (zdz.cons (fun vs vs' W W' _ hv l hd h=>by(show(vs' 10)=ptr (bx (pg (vs' 10)))/\Bx W' 7 (pg (vs' 10)) [(vs' 6),a]);rw[hv 6 (zaC O),hv 10 (zaC O)];exact⟨h.1,h.2.up l (zcn hd (c:=7) O)⟩) zdz.nil)))))))))))),?_⟩
 ·intro vs dj lW hN hV
  refine Tr.mono (T.lit0 (α:=Commit) 5 []) ?_
  rintro bq _ ⟨ao,rfl,br,bu⟩
  exact⟨ao,O,br,(show Ow ao 5 [] [bq] ([]:List Commit) from bu)⟩
 ·intro vs dk lW hN hV
  exact Trq (R.fa O) O
 ·intro vs dl lW hN hV
  have I:vs 1=ptr ((bx y).add 0):=(hN 1 (zaC O))
  obtain⟨vs,rfl⟩:=zat I
  exact Trq (R.ld (v:=x) O O ((H.up lW O).cell O)) O
 ·intro vs bv lW hN hV
  have bw:=G.t lW O
  obtain⟨bz,b0⟩: ∃ v,vs 0=v:=⟨_,O⟩
  obtain⟨vs,rfl⟩:=zat b0
  have b2:Ow bv 5 [] [bz] ([]:List Commit):=(hN 0 (zaC O))
  have J:vs 2=x:=(hN 2 (zaC O))
  obtain⟨vs,rfl⟩:=zat J
  obtain⟨dm,b4,ap,b5⟩:=b2.toSh
  rw[<- b4]
  have b7:=bw.t ap
  refine Tr.mono (T.appS (α:=Sh Vm.Commit) (K':=[0]) b5 (ak.ul b7).shL O O bn) ?_
  rintro b8 _ ⟨aq,rfl,b9,cb⟩
  exact⟨aq,O,((ap.sub (M:=[5]) O).trans (b9.sub (M:=[5]) O)),(show Ow (α:=List (Sh Vm.Commit)) aq 5 [0] [b8] A from cb)⟩
 ·intro vs dn lW hN hV
  exact Trq (R.lda (cs:=[d,vS x2.Who,e]) (((b3.up F).up B).up lW O).cells O O) O
 ·intro vs dp lW hN hV
  have L:vs 4 = .agg [d,vS x2.Who,e].toArray:=(hN 4 (zaC O))
  obtain⟨vs,rfl⟩:=zat L
  refine Tr.mono (T.bs 6 [.agg [d,vS x2.Who,e].toArray] (cs:=[d,vS x2.Who,e]) O O (bsA O)) ?_
  rintro _ _ ⟨N,ar,rfl,rfl,cc,cd⟩
  exact⟨ar,O,cc,(show(.slice (some (bx N)) 1 1:Value) = .slice (some (bx N)) 1 1/\Bx ar 6 N [d,vS x2.Who,e] from⟨O,cd⟩)⟩
 ·intro vs au lW hN hV
  have av:=G.t lW O
  obtain⟨ce,cf⟩: ∃ v,vs 3=v:=⟨_,O⟩
  obtain⟨vs,rfl⟩:=zat cf
  have cg:Ow (α:=List (Sh Vm.Commit)) au 5 [0] [ce] A:=(hN 3 (zaC O))
  obtain⟨k,P⟩: ∃ k,vs 5 = .slice (some (bx k)) 1 1:=⟨_,((hN 5 (zaC O))).1⟩
  obtain⟨vs,rfl⟩:=zat P
  have ch:Bx au 6 k [d,vS x2.Who,e]:=(hN 5 (zaC O)).2
  refine Tr.mono (T.app1S (α:=Sh Vm.Commit) (K':=[0]) cg ch (Commit.rd (K:=[0]) x2.Parents x2.Who x2.Tree (bc.ul av) (be.ul av)).sh1 O O bp) ?_
  rintro ci _ ⟨aw,rfl,cj,ck⟩
  exact⟨aw,O,cj,(show Ow (α:=List (Sh Vm.Commit)) aw 5 [0] [ci] f from ck)⟩
 ·intro vs dq lW hN hV
  exact Trq (R.fa O) O
 ·intro vs dr lW hN hV
  have Q:vs 7=ptr ((bx y).add 1):=(hN 7 (zaC O))
  obtain⟨vs,rfl⟩:=zat Q
  exact Trq (R.ld (v:=a) O O ((H.up lW O).cell O)) O
 ·intro vs cl lW hN hV
  obtain⟨b,z⟩: ∃ v,vs 6=v:=⟨_,O⟩
  obtain⟨vs,rfl⟩:=zat z
  have cm:Ow (α:=List (Sh Vm.Commit)) cl 5 [0] [b] f:=(hN 6 (zaC O))
  have S:vs 8=a:=(hN 8 (zaC O))
  obtain⟨vs,rfl⟩:=zat S
  exact Trq (R.bd (zs:=[.slice none 0 0, .slice none 0 0]) (cs:=[b,a]) [(0,b),(1,a)] O O O (zaA cm.oc O (zaA E.oc O zc8))) O
 ·intro vs ds lW hN hV
  refine Tr.mono (T.alloc 7 (cs:=[.slice none 0 0, .slice none 0 0]) O) ?_
  rintro _ _ ⟨U,ax,rfl,rfl,co,cp⟩
  exact⟨ax,O,co,(show(ptr (bx U):Value)=ptr (bx U)/\Bx ax 7 U [.slice none 0 0, .slice none 0 0] from⟨O,cp⟩)⟩
 ·intro vs ay lW hN hV
  obtain⟨b,z⟩: ∃ v,vs 6=v:=⟨_,O⟩
  obtain⟨vs,rfl⟩:=zat z
  have cq:Ow (α:=List (Sh Vm.Commit)) ay 5 [0] [b] f:=(hN 6 (zaC O))
  have V:vs 9 = .agg [b,a].toArray:=(hN 9 (zaC O))
  obtain⟨vs,rfl⟩:=zat V
  obtain⟨i,X⟩: ∃ i,vs 10=ptr (bx i):=⟨_,((hN 10 (zaC O))).1⟩
  obtain⟨vs,rfl⟩:=zat X
  have ct:Bx ay 7 i [.slice none 0 0, .slice none 0 0]:=(hN 10 (zaC O)).2
  refine Tr.mono (T.sta (vs:=[b,a]) ct O O (zaa cq.oc (zaa E.oc zaG)) O O) ?_
  rintro _ _ ⟨az,rfl,cu,cv⟩
  exact⟨az,O,cu,(show(ptr (bx i))=ptr (bx i)/\Bx az 7 i [b,a] from⟨O,cv⟩)⟩
 ·intro vs C Z hN
  have aa:=G.t Z
  have I:vs 1=ptr ((bx y).add 0):=(hN 1 (zaC O))
  obtain⟨vs,rfl⟩:=zat I
  have J:vs 2=x:=(hN 2 (zaC O))
  obtain⟨vs,rfl⟩:=zat J
  have L:vs 4 = .agg [d,vS x2.Who,e].toArray:=(hN 4 (zaC O))
  obtain⟨vs,rfl⟩:=zat L
  obtain⟨k,P⟩: ∃ k,vs 5 = .slice (some (bx k)) 1 1:=⟨_,((hN 5 (zaC O))).1⟩
  obtain⟨vs,rfl⟩:=zat P
  have dt:Bx C 6 k [d,vS x2.Who,e]:=(hN 5 (zaC O)).2
  obtain⟨b,z⟩: ∃ v,vs 6=v:=⟨_,O⟩
  obtain⟨vs,rfl⟩:=zat z
  have a0:Ow (α:=List (Sh Vm.Commit)) C 5 [0] [b] f:=(hN 6 (zaC O))
  have Q:vs 7=ptr ((bx y).add 1):=(hN 7 (zaC O))
  obtain⟨vs,rfl⟩:=zat Q
  have S:vs 8=a:=(hN 8 (zaC O))
  obtain⟨vs,rfl⟩:=zat S
  have V:vs 9 = .agg [b,a].toArray:=(hN 9 (zaC O))
  obtain⟨vs,rfl⟩:=zat V
  obtain⟨i,X⟩: ∃ i,vs 10=ptr (bx i):=⟨_,(hN 11 (zaC O)).1⟩
  obtain⟨vs,rfl⟩:=zat X
  have cw:Bx C 7 i [b,a]:=(hN 11 (zaC O)).2
  refine sr (Lw.r O (R.lda (cs:=[b,a]) cw.cells O O) (ms O (fl (H.up Z) O (Lw.ln x0.Commits (ak.ul aa) O ?_))))
  have cx:Rd (α:=List Vm.Commit) C [5,0] [b] f:=Ow.rdSh a0
  refine cr Y (fun _=>p86 (K:=[0,5]) (x0:=(Vm.Repo.mk f x0.Heads)) (Repo.rd (K:=[0,5]) f x0.Heads (cx.sub (M:=[0,5]) O) ((E.ul aa).sub (M:=[0,5]) O))) ?_
  rintro a1 _ du Y ac ⟨a3,a5,rfl,cy,cz⟩
  have a6:=cy.sub (M:=[0,5]) O
  have a8:=cz.sub (M:=[0,5]) O
  have c0:=aa.n ac
  refine sta (((b6.up B).up Z).up ac) (zaa a6.oc (zaa a8.oc zaG)) fun dv D c1=>?_
  have c2:=c0.t D
  refine nl ?_
  have c3:=a6.up (D.sub (M:=[4]) O) O
  have c4:=a8.up (D.sub (M:=[4]) O) O
  obtain⟨ae,c5,a9,af⟩:=zmg _ 5
  have c6:Rd ae [0] [a3] a1.Commits:=by rw[af];exact(c3.dye 5).sub (M:=[0]) O
  have c7:Rd ae [0] [a5] a1.Heads:=by rw[af];exact(c4.dye 5).sub (M:=[0]) O
  have dw:Rd (α:=List Vm.Commit) ae [0] [b] f:=by rw[af];exact(((a0.up ac).up D).rd.dye 5).sub (M:=[0]) O
  have c8:=c2.t a9
  cases Y
  rw[<- c5]
  exact Cw.ret (zn3 O (c1.up a9) (Res.mk c8 ⟨a3,a5,O,c6,c7⟩))
theorem p89 {x0 d f x1 x2 h i r}(k:Rd W K [d,f] x0)(x:Rd W K [h,vS x2.Who,i] x2)(Y:Vm.zdP x0 x1 x2=some r):Q1 89 [.agg [d,f].toArray,vS x1, .agg [h,vS x2.Who,i].toArray] W [] fun W' v=> ∃ a b,v = .agg [a,b].toArray/\Rd W' (0::K) [a] r.Commits/\Rd W' (0::K) [b] r.Heads:=
 (c89 (k.view _) (x.view _) Y).ad (fk 0) fun _ _ ⟨a,b,e,y,z⟩=>⟨a,b,e,y.back O,z.back O⟩
theorem c36 {x0 k x x1 x2 x3 r}(h0:Rd W0 [0] [k,x] x0)(Y:Vm.zd5 x0 x1 x2 x3=some r):Q0 36 [.agg [k,x].toArray,vS x1,vS x2,vI x3] W0 fun Wf v=> ∃ a3 a5,v = .tuple [.agg [a3,a5].toArray,vI r.2].toArray/\Rd Wf [0] [a3] r.1.Commits/\Rd Wf [0] [a5] r.1.Heads:=by
 unfold Vm.zd5 at Y
 obtain⟨db,dc,a6,a,b⟩:=Repo.split h0
 simp only[List.cons.injEq,and_true,true_and]at a6
 obtain⟨rfl,rfl⟩:=a6
 refine zao.of Tryz.func36 O O O O (sr (bo 2 O fun g1 W1 l1 b1=>?_))
 have a2:=l1.o
 refine al 3 [.slice none 0 0, .slice none 0 0] fun g3 W3 P b3=>?_
 have Q:=a2.n P
 refine Ni O (sr (la (b1.up P) (ms O (ca Y (fun _=>p37 (Repo.rd (K:=[0]) x0.Commits x0.Heads (a.ul Q) (b.ul Q))) fun A dh Y l10=>?_))))
 have S:=Q.n l10
 have a8:=(b1.up P).up l10
 refine Ni O (ssr (la a8 (mi O (cr Y (fun _=>p85 (k0:=4) (Repo.rd (K:=[0]) x0.Commits x0.Heads (a.ul S) (b.ul S))) ?_))))
 rintro di dj dk Y U ⟨_,rfl,bu⟩
 have bv:=S.n U
 refine mi O (ca Y (fun _=>p84 (K:=[4]) bu.rd) fun dl dm Y V=>?_)
 have D:=bv.n V
 have X:=(a8.up U).up V
 have a9:=((b3.up l10).up U).up V
 refine nl (cn Y (fun Y=>?_) fun Y=>?_)
 ·refine sr (la X (sta a9 (zaa a.oc (zaa b.oc zaG)) fun dn bw bz=>?_))
  have Z:=D.t bw
  refine Ni O ?_
  cases Y
  exact Cw.ret (zfY O bz O (Res.mk Z ⟨k,x,O,(a.ul Z),(b.ul Z)⟩))
 ·refine sk (ssr (la X (mi O (cr Y (fun _=>p85 (k0:=5) (Repo.rd (K:=[0]) x0.Commits x0.Heads (a.ul D) (b.ul D))) ?_))))
  rintro dp dq dr Y aa ⟨_,rfl,b0⟩
  have b2:=D.n aa
  refine mi O (ca Y (fun _=>p84 (K:=[5]) b0.rd) fun ds dt Y ac=>?_)
  have E:=b2.n ac
  have ba:=(X.up aa).up ac
  have bb:=(a9.up aa).up ac
  refine nl (cn Y (fun Y=>?_) fun Y=>?_)
  ·refine sr (la ba (ms O (mi O (cr Y (fun _=>p86 (Repo.rd (K:=[0]) x0.Commits x0.Heads (a.ul E) (b.ul E))) ?_))))
   rintro du _ dv Y bc ⟨b4,b5,rfl,b6,b7⟩
   have be:=b6.sub (M:=[0]) O
   have bg:=b7.sub (M:=[0]) O
   have b8:=E.n bc
   refine sta (bb.up bc) (zaa be.oc (zaa bg.oc zaG)) fun dw b9 cb=>?_
   have ae:=b9.s
   refine Ni O ?_
   cases Y
   exact Cw.ret (zfY O cb O (Res.mk (b8.trans ae) ⟨b4,b5,O,(be.ul ae),(bg.ul ae)⟩))
  ·refine sk (Cw.seq (Cw.draw [] [(0,1),(1,0),(2,0),(4,0),(5,1),(6,0),(7,0),(8,0),(9,1),(10,0),(11,1),(12,0),(13,0),(14,0),(15,1),(3,2),(16,2),(17,0),(18,0),(19,0),(20,0),(21,0)] mixed (by kernel_rfl) fun dx af=>?_))
   have ah:=E.n af
   have F:=ba.up af
   refine Mw.q O O (fun _ c=>R.lda (cs:=[k,x]) (F.clcs O c) O O) (Di O (Di O (Dfl F O O O (Di O ?_))))
   obtain⟨dy,ai,Y⟩:=ob Y
   have i:=a.ul ah
   refine Mw.p O O (fun _=>R.ix (α:=Commit) i ai O O O) (Df O ?_)
   obtain⟨dz,c83,r84⟩:=(Commit.at2 (i.at_ ai)).cell O
   refine Mw.q O O (fun _ c=>R.ld O O (zaq (Commit.at2 (i.at_ ai)).1 O c83 c)) (Dfl F O O O (Di O ?_))
   obtain⟨d0,aj,Y⟩:=ob Y
   refine Mw.p O O (fun _=>R.ix (α:=Commit) i aj O O O) (Df O ?_)
   obtain⟨d1,c88,r89⟩:=(Commit.at2 (i.at_ aj)).cell O
   refine Mw.q O O (fun _ c=>R.ld O O (zaq (Commit.at2 (i.at_ aj)).1 O c88 c)) ?_
   obtain⟨d2,cc,Y⟩:=ob Y
   refine Mw.t O O (T.call O (p88 (Repo.rd (K:=[0]) x0.Commits x0.Heads i (b.ul ah)) cc)) ?_
   rintro d3 _ ⟨d4,rfl,G,⟨_,rfl,cd⟩⟩
   have ce:=cd.sub (M:=[0]) O
   have ak:=G.o
   refine m0 G fun cf=>?_
   obtain⟨H,cg,Y⟩:=ob Y
   refine Mw.t O O (T.call O (p87 (k0:=6) (k1:=7) ce (r84.ul ak) (r89.ul ak) cg)) ?_
   rintro _ _ ⟨ch,rfl,I,⟨d,y,rfl,ci,cj⟩⟩
   have bh:=(ah.trans ak).n I
   have am:=(F.up G).up I
   have bi:=((bb.up af).up G).up I
   refine mc cf I fun d5=>Dv (.tuple [d,y].toArray) O (Mw.p O O (fun _=>R.ext (vs:=[d,y]) (v:=d) O O) (Mw.p O O (fun _=>R.ext (vs:=[d,y]) (v:=y) O O) (Hv d O (Hv y O (Mw.nil (ssr (mv y O (Lw.ln H.2 cj.rd O (Lw.gt O (nl (cn Y (fun Y=>?_) fun Y=>?_)))))))))))
   ·refine sr (la am (sta bi (zaa a.oc (zaa b.oc zaG)) fun d6 ck cl=>?_))
    have an:=bh.t ck
    refine Ni O ?_
    cases Y
    exact Cw.ret (zfY O cl O (Res.mk an ⟨k,x,O,(a.ul an),(b.ul an)⟩))
   ·refine sk (sr (la am (ms O (mi O (mi O (Lw.t O (T.bsS (α:=Int) (xs:=[A,x3]) 8 [] (W:=ch) [vI A,vI x3] (Each.cons ((rdI _)) (Each.cons ((rdI _)) Each.nil)) O) ?_))))))
    rintro ao _ ⟨d7,rfl,J,ap⟩
    have aq:=bh.n J
    have ar:=ci.up J
    refine ms O (mv d O (Lw.r O (R.bd (zs:=[.slice none 0 0,vS ([]:Str), .slice none 0 0]) (cs:=[ao,vS x2,d]) [(0,ao),(1,vS x2),(2,d)] O O O (zaA ap.oc O (zaA O O (zaA ar.oc O zc8)))) (cr Y (fun _=>p89 (K:=[0,6,8]) (x2:=(Vm.Commit.mk ([A,x3]:List Int) x2 H.1)) ((Repo.rd (K:=[0]) x0.Commits x0.Heads (a.ul aq) (b.ul aq)).sub (M:=[0,6,8]) O) ((Commit.rd (K:=[6,8]) ([A,x3]:List Int) x2 H.1 (ap.rd.sub (M:=[6,8]) O) (ar.rd.sub (M:=[6,8]) O)).sub (M:=[0,6,8]) O)) ?_)))
    rintro z _ d8 Y B ⟨au,av,rfl,cm,co⟩
    have L:=cm.sub (M:=[0,6,8]) O
    have N:=co.sub (M:=[0,6,8]) O
    have cp:=aq.n B
    refine al 9 [.slice none 0 0, .slice none 0 0] fun d9 ea e cq=>?_
    have ct:=cp.n e
    refine sta cq (zaa L.oc (zaa N.oc zaG)) fun eb f bj=>?_
    have cu:=ct.t f
    refine nl (ssr (la bj ?_))
    have cv:=L.up ((e.sub (M:=[9]) O).trans (f.sub (M:=[9]) O)) O
    have cw:=N.up ((e.sub (M:=[9]) O).trans (f.sub (M:=[9]) O)) O
    refine ca Y (fun _=>p34 (K:=[0,6,8]) (Repo.rd (K:=[0,6,8]) z.Commits z.Heads cv cw)) fun ec ed Y h=>?_
    have bk:=cu.n h
    have bl:=((((bi.up J).up B).up e).up f).up h
    refine Lw.r O (R.not O) (nl (cn Y (fun Y=>?_) fun Y=>?_))
    ·refine sr (la (((((am.up J).up B).up e).up f).up h) (sta bl (zaa a.oc (zaa b.oc zaG)) fun ee cx cy=>?_))
     have aw:=bk.t cx
     refine Ni O ?_
     cases Y
     exact Cw.ret (zfY O cy O (Res.mk aw ⟨k,x,O,(a.ul aw),(b.ul aw)⟩))
    ·refine sk (sr (la (bj.up h) (sta bl (zaa L.oc (zaa N.oc zaG)) fun ef C cz=>?_)))
     have c0:=bk.t C
     refine Ni O ?_
     have c1:=L.up ((e.sub (M:=[3,9]) O).trans ((f.sub (M:=[3,9]) O).trans ((h.sub (M:=[3,9]) O).trans (C.sub (M:=[3,9]) O)))) O
     have c2:=N.up ((e.sub (M:=[3,9]) O).trans ((f.sub (M:=[3,9]) O).trans ((h.sub (M:=[3,9]) O).trans (C.sub (M:=[3,9]) O)))) O
     obtain⟨ax,c3,ay,az⟩:=zmg _ 6
     have c4:Rd ax [0,8] [au] z.Commits:=by rw[az];exact(c1.dye 6).sub (M:=[0,8]) O
     have c5:Rd ax [0,8] [av] z.Heads:=by rw[az];exact(c2.dye 6).sub (M:=[0,8]) O
     have eg:Rd (α:=List Vm.File) ax [0] [d] H.1:=by rw[az];exact((((((ar.up B).up e).up f).up h).up C).rd.dye 6).sub (M:=[0]) O
     have c6:=c0.t ay
     obtain⟨a0,c7,bm,a1⟩:=zmg _ 8
     have c8:Rd a0 [0] [au] z.Commits:=by rw[a1];exact(c4.dye 8).sub (M:=[0]) O
     have c9:Rd a0 [0] [av] z.Heads:=by rw[a1];exact(c5.dye 8).sub (M:=[0]) O
     have eh:Rd (α:=List Int) a0 [0] [ao] ([A,x3]:List Int):=by rw[a1];exact(((((((ap.up B).up e).up f).up h).up C).up ay).rd.dye 8).sub (M:=[0]) O
     have da:=c6.t bm
     cases Y
     rw[<- c7.trans (c3)]
     exact Cw.ret (zfY O ((cz.up ay).up bm) O (Res.mk da ⟨au,av,O,c8,c9⟩))
theorem p36 {x0 d f x1 x2 x3 r}(h:Rd W K [d,f] x0)(Y:Vm.zd5 x0 x1 x2 x3=some r):Q1 36 [.agg [d,f].toArray,vS x1,vS x2,vI x3] W [] fun W' v=> ∃ a b,v = .tuple [.agg [a,b].toArray,vI r.2].toArray/\Rd W' (0::K) [a] r.1.Commits/\Rd W' (0::K) [b] r.1.Heads:=
 (c36 (h.view _) Y).ad (fk 0) fun _ _ ⟨a,b,e,i,k⟩=>⟨a,b,e,i.back O,k.back O⟩
theorem c94 {x0 x1 x2 r}(Y:Vm.zfD x0 x1 x2=some r):Q0 94 [vI x0,vI x1,vI x2] W0 fun Wf v=>v=vB r:=by
 unfold Vm.zfD at Y
 refine zao.of Tryz.func94 O O O O (sr (Nb O ?_))
 obtain⟨e,f,Y⟩:=zaY Y
 refine Cw.join 7 14 [6] (fun l w=> ∃ b d,CW.w d=w/\Le [] W0 d/\l=[vB b]/\e b=some r) ?_ ?_
 ·rintro _ _ σ ⟨b,d,rfl,h,rfl,Y⟩
  rw[f]at Y
  have i:=h.o
  exact .ret (rt Y i)
 ·refine rg (mi O (mi O (Lw.le O (mb O (bs Y (fun a Y=>?_) fun a Y=>?_)))))
  ·exact wak 3 a (mi O (mi O (Lw.le O (Pb a O (Nb O ((ag) ⟨decide (x0<=(x2:Int)),W0,O,Le.refl _ _,O,Y⟩))))))
  ·exact psk 3 a O (Pb a O (Nb O ((ag) ⟨false,W0,O,Le.refl _ _,O,Y⟩)))
theorem p94 {x0 x1 x2 r}(Y:Vm.zfD x0 x1 x2=some r):Q1 94 [vI x0,vI x1,vI x2] W [] fun W' v=>v=vB r:=
 (c94 (W0:=W.view [] []) Y).ad (fk 0) fun _ _ e=>e
theorem c143 {x0 r}(Y:Vm.ze5 x0=some r):Q0 143 [.int .u8 (UInt8.toNat x0:Int)] W0 fun Wf v=>v=vB r:=by
 unfold Vm.ze5 at Y
 refine zao.of Tryz.func143 O O O O (sr (Nb O ?_))
 obtain⟨i,k,Y⟩:=zaY Y
 refine Cw.join 3 16 [2] (fun l w=> ∃ f h,CW.w h=w/\Le [] W0 h/\l=[vB f]/\i f=some r) ?_ ?_
 ·rintro _ _ σ ⟨f,h,rfl,x,rfl,Y⟩
  rw[k]at Y
  have y:=x.o
  exact .ret (rt Y y)
 ·refine rg (mv (.int .u8 (UInt8.toNat x0:Int)) O (Lw.ge O (mb O (bs Y (fun b Y=>?_) fun b Y=>?_))))
  ·refine wak 2 b (mv (.int .u8 (UInt8.toNat x0:Int)) O (Lw.le O (Pb b O (mb O (bs Y (fun a Y=>?_) fun a Y=>?_)))))
   ·exact psk 3 a O (puk 2 O (psk 1 a O (Pb a O (Nb O ((ag) ⟨true,W0,O,Le.refl _ _,O,Y⟩)))))
   ·refine wak 3 a (mv (.int .u8 (UInt8.toNat x0:Int)) O (Lw.ge O (mb O (bs Y (fun d Y=>?_) fun d Y=>?_))))
    ·exact wak 2 d (mv (.int .u8 (UInt8.toNat x0:Int)) O (Lw.le O (wak 1 a (Pb d O (Pb a O (Nb O ((ag) ⟨decide (((UInt8.toNat x0:Int):Int)<=(57:Int)),W0,O,Le.refl _ _,O,Y⟩)))))))
    ·exact psk 2 d O (wak 1 a (Pb d O (Pb a O (Nb O ((ag) ⟨false,W0,O,Le.refl _ _,O,Y⟩)))))
  ·refine psk 2 b O (Pb b O (mb O (wak 3 O (mv (.int .u8 (UInt8.toNat x0:Int)) O (Lw.ge O (mb O (bs Y (fun e Y=>?_) fun e Y=>?_)))))))
   ·exact wak 2 e (mv (.int .u8 (UInt8.toNat x0:Int)) O (Lw.le O (wak 1 O (Pb e O (Pb O O (Nb O ((ag) ⟨decide (((UInt8.toNat x0:Int):Int)<=(57:Int)),W0,O,Le.refl _ _,O,Y⟩)))))))
   ·exact psk 2 e O (wak 1 O (Pb e O (Pb O O (Nb O ((ag) ⟨false,W0,O,Le.refl _ _,O,Y⟩)))))
theorem p143 {x0 r}(Y:Vm.ze5 x0=some r):Q1 143 [.int .u8 (UInt8.toNat x0:Int)] W [] fun W' v=>v=vB r:=
 (c143 (W0:=W.view [] []) Y).ad (fk 0) fun _ _ e=>e
theorem c92 {x0 r}(Y:Vm.zc9 x0=some r):Q0 92 [vS x0] W0 fun Wf v=>v=vB r:=by
 unfold Vm.zc9 at Y
 refine zao.of Tryz.func92 O O O O (sr (Nb O (ssr (ms O (Lw.r O (R.lenS O) (ca Y (fun _=>p94) fun D e Y x=>?_))))))
 have f:=x.o
 refine Lw.r O (R.not O) (nl (cn Y (fun Y=>?_) fun Y=>?_))
 ·exact sr (Nb O (.ret (rt Y f)))
 ·refine sk (ssr (Ni O (Cw.block ?_)))
  obtain⟨y,z,Y⟩:=zaY Y
  refine Cw.loop 8 18 [2,3] (fun m l w=> ∃ a b d,CW.w d=w/\Le [] e d/\l=[vB a,vI b]/\Vm.zcJ x0 y m a b=some r) _ ⟨false,0,e,O,Le.refl _ _,O,Y⟩ ?_
  rintro(_ |E) _ _ σ ⟨a,b,d,rfl,h,rfl,Y⟩
  ·cases Y
  unfold Vm.zcJ at Y
  have i:=f.n h
  refine ssr (mi O (ms O (Lw.r O (R.lenS O) (Lw.lt O (nl (cn Y (fun Y=>?_) fun Y=>?_))))))
  ·refine sk (Cw.seq (Cw.block (sr (ms O (mi O ?_)))))
   obtain⟨F,A,Y⟩:=ob Y
   refine Lw.r O (R.chm A O O) (ca Y (fun _=>p143) fun G B Y k=>?_)
   have C:=i.n k
   refine Lw.r O (R.not O) (nl (cn Y (fun Y=>?_) fun Y=>?_))
   ·exact sr (Nb O (.ret (rt Y C)))
   ·exact sk (rg (mi O (Lw.add O (Ni O ((agm) ⟨a,w64 (b+1),B,O,(h.j k).w,O,Y⟩)))))
  ·refine Cw.exit ?_
   rw[z]at Y
   exact sr (Nb O (.ret (rt Y i)))
theorem p92 {x0 r}(Y:Vm.zc9 x0=some r):Q1 92 [vS x0] W [] fun W' v=>v=vB r:=
 (c92 (W0:=W.view [] []) Y).ad (fk 0) fun _ _ e=>e
end Go.Sx
