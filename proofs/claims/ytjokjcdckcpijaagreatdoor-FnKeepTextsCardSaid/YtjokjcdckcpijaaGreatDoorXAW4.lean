/- Walks: each function answers as its model, printed by a program of ours. Conditions: the arguments read as they are given. -/
import Derived.Test.YtjokjcdckcpijaaGreatDoorXATs
import Derived.Test.YtjokjcdckcpijaaGreatDoorXAM0
import Derived.Test.YtjokjcdckcpijaaGreatDoorXAW0
import Derived.Test.YtjokjcdckcpijaaGreatDoorXAW1
import Derived.Test.YtjokjcdckcpijaaGreatDoorXAW2
import Derived.Test.YtjokjcdckcpijaaGreatDoorXAW3
namespace Go.Sx
open Go Go.Proofs Go.Vm Rp
set_option linter.unusedVariables false
set_option linter.unusedSimpArgs false
variable {W W0:CW}{K:List Nat}
theorem c111 {x0 a x1 A B C D r}(N:Ow W0 2 [] [a] x0)(P:Ow W0 3 [] [A] x1.Lines)(ae:Ow W0 4 [] [B] x1.Old)(af:Ow W0 5 [] [C] x1.One)(ah:Ow W0 6 [] [D] x1.Two)(Y:Vm.zeN x0 x1=some r):Q0 111 [a, .agg [vB x1.Clash,A,B,C,D].toArray] W0 fun Wf v=> ∃ Q,v=Q/\OwS Wf [31] [] [Q] r:=by
 unfold Vm.zeN at Y
 refine zap.of Tryz.func111 O O O O (sr (bo 7 O fun g1 H b E=>?_))
 have a2:=b.o
 refine Nv (.slice none 0 0) O (sr (mv a O (Lw.ln x0 (N.up b).rd O (Ni O (Cw.seq ?_)))))
 obtain⟨aj,ak,Y⟩:=za1 Y
 refine Cw.join 8 16 [16] (fun l w=> ∃ I f,CW.w f=w/\Le [] H f/\l=[vB I]/\aj I=some r) ?_ ?_
 ·rintro _ _ σ ⟨I,f,rfl,d,rfl,Y⟩
  rw[ak]at Y
  have S:=a2.n d
  have i:=(N.up b).up d
  refine cn Y (fun Y=>?_) fun Y=>?_
  ·refine sr (mv a O (Nv a O ?_))
   obtain⟨br,am,an,ao⟩:=i.dyeO 31
   have ap:=S.t an
   cases Y
   rw[<- am]
   exact Cw.ret (zhg O (Res.mk ap ⟨a,O,ao.s⟩))
  ·refine sk (Cw.seq ?_)
   obtain⟨aq,ar,Y⟩:=za1 Y
   refine Cw.join 18 33 [33] (fun l w=> ∃ K L,CW.w L=w/\Le [] f L/\l=[vB K]/\aq K=some r) ?_ ?_
   ·rintro _ _ σ ⟨K,L,rfl,e,rfl,Y⟩
    rw[ar]at Y
    have U:=S.n e
    have V:=((P.up b).up d).up e
    have W:=(E.up d).up e
    refine cn Y (fun Y=>?_) fun Y=>?_
    ·refine Cw.seq (Cw.draw [] [(0,0),(1,0),(2,0),(3,0),(4,0),(5,0),(6,0),(7,0),(8,1),(9,0),(10,1),(11,3),(12,0),(13,0),(14,3)] mixed (by kernel_rfl) fun bu F=>?_)
     have au:=U.n F
     have k:=(i.up e).up F
     refine Dv a O (Di O (Mw.p O O (fun _=>R.sub O O) (Dv a O (Di O (Mw.p O O (fun _=>R.sub O O) ?_)))))
     obtain⟨bv,G,Y⟩:=ob Y
     refine Mw.p O O (fun _=>R.ix (α:=Part) k.rd G O O O) (Df O ?_)
     obtain⟨bw,c48,r49⟩:=(Part.at1 (k.rd.at_ G)).cell O
     refine Mw.q O O (fun _ c=>R.ld O O (zam (Part.at1 (k.rd.at_ G)).1 O c48 c)) (Dfl (W.up F) O O O ?_)
     obtain⟨bz,av,X,aw,ax⟩:=Ow.take (α:=Part) (β:=List Str) (j:=8) (jf:=1) k G c48 O
     rw[<- av]
     have ay:=au.t X
     obtain⟨b0,az,Y⟩:=ob Y
     refine Mw.l O O (T.appP (α:=Str) aw ((V.up F).up X).rd O O az) ?_
     rintro b2 _ ⟨b3,rfl,Z,a0⟩
     have a1:=ay.t Z
     obtain⟨b4,a3,Y⟩:=ob Y
     refine Mw.p O O (fun _=>R.ix (α:=Part) k.rd a3 O O O) (Df O ?_)
     obtain⟨b5,a4,Y⟩:=ob Y
     refine Mw.lu O (T.stH (α:=Part) (β:=List Str) (J:=[8]) (ax.up (Z.sub (M:=[8]) O) O) a0.s a4 O O O O) ?_
     rintro _ _ ⟨b6,rfl,a5,a6⟩
     have a7:=a1.t a5
     refine Mw.nil (sr (mv a O (Nv a O ?_)))
     obtain⟨b7,a8,a9,ba⟩:=a6.dyeO 31
     have bb:=a7.t a9
     cases Y
     rw[<- a8]
     exact Cw.ret (zhg O (Res.mk bb ⟨a,O,ba.s⟩))
    ·refine sk (sr (mv a O (la W (Lw.t O (T.bs 9 [.agg [vB x1.Clash,A,B,C,D].toArray] (cs:=[vB x1.Clash,A,B,C,D]) O O (bsA O)) ?_))))
     rintro _ _ ⟨b8,b9,rfl,rfl,h,bc⟩
     have be:=U.n h
     obtain⟨cb,bg,Y⟩:=ob Y
     refine Lw.t O (T.app1 (α:=Part) (J:=[3,4,5,6]) (K':=[]) ((i.up e).up h) bc (Part.own x1.Clash x1.Lines x1.Old x1.One x1.Two (V.up h).s ((((ae.up b).up d).up e).up h).s ((((af.up b).up d).up e).up h).s ((((ah.up b).up d).up e).up h).s) O O bg) ?_
     rintro aa _ ⟨cc,rfl,bh,bi⟩
     have bj:=be.t bh
     refine Nv aa O ?_
     obtain⟨cd,bk,bl,bm⟩:=bi.dyeO 31
     have bn:=bj.t bl
     cases Y
     rw[<- bk]
     exact Cw.ret (zhg O (Res.mk bn ⟨aa,O,bm.s⟩))
   ·refine rg (mi O (Lw.gt O (mb O (bs Y (fun x Y=>?_) fun x Y=>?_))))
    ·refine wak 3 x (fl (E.up d) O (Lw.r O (R.not O) (Pb x O (mb O (bs Y (fun y Y=>?_) fun y Y=>?_)))))
     ·refine wak 7 y (mv a O (mi O (Lw.sub O ?_)))
      obtain⟨bp,ac,Y⟩:=ob Y
      exact Lw.r O (R.ix (α:=Part) i.rd ac O O O) (Lw.fa O (Lw.r O (R.ld O O (Part.at0 (i.rd.at_ ac)).bool) (Lw.r O (R.not O) (Pb y O (nl ((ag) ⟨(!bp.Clash),f,O,Le.refl _ _,O,Y⟩))))))
     ·exact psk 7 y O (Pb y O (nl ((ag) ⟨false,f,O,Le.refl _ _,O,Y⟩)))
    ·exact psk 3 x O (Pb x O (mb O (psk 7 O O (Pb O O (nl ((ag) ⟨false,f,O,Le.refl _ _,O,Y⟩))))))
 ·refine rg (fl E O (Lw.r O (R.not O) (mb O (bs Y (fun z Y=>?_) fun z Y=>?_))))
  ·exact wak 4 z (fl E O (Lw.ln x1.Lines (P.up b).rd O (Lw.eq O (Pb z O (nl ((ag) ⟨((x1.Lines.length:Int)==0),H,O,Le.refl _ _,O,Y⟩))))))
  ·exact psk 4 z O (Pb z O (nl ((ag) ⟨false,H,O,Le.refl _ _,O,Y⟩)))
theorem p111 {x0 b x1 d f h i k0 c0 c1 c2 c3 c4 r}(k:Ow W c0 [] [b] x0)(x:Ow W c1 [] [d] x1.Lines)(y:Ow W c2 [] [f] x1.Old)(z:Ow W c3 [] [h] x1.One)(A:Ow W c4 [] [i] x1.Two)(hJ:okJ K [c0,c1,c2,c3,c4]=true)(Y:Vm.zeN x0 x1=some r):Q1 111 [b, .agg [vB x1.Clash,d,f,h,i].toArray] W [c0,c1,c2,c3,c4] fun W' v=> ∃ a,v=a/\Ow W' k0 [] [a] r:=
 zap.adJ (J:=[c0,c1,c2,c3,c4]) (fun c=>bif Nat.beq c 0 then 0 else bif Nat.beq c 2 then c0 else bif Nat.beq c 3 then c1 else bif Nat.beq c 4 then c2 else bif Nat.beq c 5 then c3 else bif Nat.beq c 6 then c4 else bif Nat.beq c 31 then k0 else 0) (c111 (k.viewJ 0 hJ) (x.viewJ 1 hJ) (y.viewJ 2 hJ) (z.viewJ 3 hJ) (A.viewJ 4 hJ) Y) fun _ _ ⟨a,e,B⟩=>⟨a,e,B.one1.backN O⟩
theorem c109 {x0 d x1 k x2 x r}(e:Rd W0 [0] [d] x0)(F:Rd W0 [0] [k] x1)(G:Rd W0 [0] [x] x2)(Y:Vm.zfO x0 x1 x2=some r):Q0 109 [d,k,x] W0 fun Wf v=> ∃ u0,v=u0/\OwS Wf LL [] [u0] r:=by
 unfold Vm.zfO at Y
 refine zap.of Tryz.func109 O O O O (sr (Nv (.slice none 0 0) O (sr (Lw.t O (T.lit0 (α:=Part) 2 []) ?_))))
 rintro v1 _ ⟨W1,rfl,l1,o1⟩
 have a2:=l1.o
 refine Nv v1 O (sr (mv d O (mv k O (cr Y (fun _=>p110 (k0:=3) (e.ul a2) (F.ul a2)) ?_))))
 rintro z5 dm W7 Y l7 ⟨_,rfl,b1⟩
 have a8:=a2.n l7
 refine mv k O (Lw.ln x1 (F.ul a8) O (Lw.t O (T.bs 4 [vI (x1.length:Int)] (cs:=[vI (x1.length:Int)]) O O (bsv O)) ?_))
 rintro _ _ ⟨dp,dq,rfl,rfl,am,b2⟩
 have b3:=a8.n am
 obtain⟨a7,b4,Y⟩:=ob Y
 refine Lw.t O (T.app1S (α:=Int) (K':=[]) (b1.up am) b2 (rdI _) O O b4) ?_
 rintro y _ ⟨dr,rfl,a9,b5⟩
 have an:=b3.t a9
 refine Nv y O (sr (mv d O (mv x O (cr Y (fun _=>p110 (k0:=5) (e.ul an) (G.ul an)) ?_))))
 rintro ds dt du Y ao ⟨_,rfl,b6⟩
 have ba:=an.n ao
 refine mv x O (Lw.ln x2 (G.ul ba) O (Lw.t O (T.bs 6 [vI (x2.length:Int)] (cs:=[vI (x2.length:Int)]) O O (bsv O)) ?_))
 rintro _ _ ⟨dv,dw,rfl,rfl,H,b7⟩
 have b8:=ba.n H
 obtain⟨b9,cb,Y⟩:=ob Y
 refine Lw.t O (T.app1S (α:=Int) (K':=[]) (b6.up H) b7 (rdI _) O O cb) ?_
 rintro I _ ⟨bb,rfl,ap,cc⟩
 have cd:=b8.t ap
 refine Nv I O (sr (Ni O (sr (Ni O (sr (Ni O (ssr (Ni O (Cw.block ?_)))))))))
 obtain⟨ce,cf,Y⟩:=za1 Y
 refine Cw.loop 29 91 [7,10,11,12,13] (fun m l w=> ∃ J L N P z a b,CW.w b=w/\Le [2,7,8,9,10,11,12,13,14,15,16] bb b/\l=[a,vI L,vI N,vI P,vI z]/\Ow b 2 [] [a] J/\Vm.zck x0 x1 x2 a7 b9 ce m J L N P z=some r) _ ⟨([]:List Part),0,0,0,0,v1,bb,O,Le.refl _ _,O,((((((o1.up l7).up am).up a9).up ao).up H).up ap),Y⟩ ?_
 rintro(_ |dx) _ _ σ ⟨J,L,N,P,z,a,b,rfl,Q,rfl,aq,Y⟩
 ·cases Y
 unfold Vm.zck at Y
 have bc:=cd.t Q
 have S:=(((b5.up ao).up H).up ap).up Q
 have ar:=cc.up Q
 refine ssr (mi O (mv y O (Lw.ln a7 S.rd O (Lw.lt O (nl (cn Y (fun Y=>?_) fun Y=>?_))))))
 ·refine sk ?_
  obtain⟨cg,ch,Y⟩:=za1 Y
  refine Cw.join 35 91 [7,10,11,12] (fun l w=> ∃ U V X Z aa A,CW.w A=w/\Le [2,7,8,9,10,11,12,13,14,15,16] b A/\l=[aa,vI V,vI X,vI Z]/\Ow A 2 [] [aa] U/\cg U V X Z=some r) ?_ ?_
  ·rintro _ _ σ ⟨U,V,X,Z,aa,A,rfl,ci,rfl,cj,Y⟩
   rw[ch]at Y
   exact rg (mi O (Lw.add O (Ni O ((agm) ⟨U,V,X,Z,w64 (z+1),aa,A,O,(Q.j ci).w,O,cj,Y⟩))))
  ·refine Cw.block (Cw.seq ?_)
   obtain⟨ck,cl,Y⟩:=za1 Y
   refine Cw.join 35 46 [46] (fun l w=> ∃ au ac,CW.w ac=w/\Le [] b ac/\l=[vB au]/\ck au=some r) ?_ ?_
   ·rintro _ _ σ ⟨au,ac,rfl,f,rfl,Y⟩
    rw[cl]at Y
    have cm:=bc.n f
    refine cn Y (fun Y=>?_) fun Y=>?_
    ·exact Cw.exit ((ag) ⟨J,L,N,P,a,ac,O,f.w,O,(aq.up f),Y⟩)
    ·refine sk (Cw.seq (Cw.draw [2,7,8,9,10] [(0,0),(1,0),(2,0),(3,0),(4,0),(5,0),(6,0),(7,0),(8,0),(9,0),(10,1),(11,0),(12,0),(13,0),(14,0),(15,0),(16,0),(17,1),(18,0),(19,3),(20,2),(21,0)] mixed (by kernel_rfl) fun dy B=>?_))
     have h:=cm.n B
     have ae:=(S.up f).up B
     have af:=(ar.up f).up B
     refine Dv a O (Dv d O (Di O (Di O ?_)))
     obtain⟨dz,be,Y⟩:=ob Y
     have r95:=(e.ul h).cutV be
     refine Mw.p O O (fun _=>R.sl (e.ul h) be O (.inr O) (.inr O)) (Dv k O (Di O (Dv y O (Di O ?_))))
     obtain⟨d0,av,Y⟩:=ob Y
     refine Mw.p O O (fun _=>R.ix (α:=Int) ae.rd av O O O) (Mw.q O O (fun _ c=>R.ld O O (zam (ae.rd.at_ av).1 O (ae.rd.at_ av).int c)) ?_)
     obtain⟨d1,bg,Y⟩:=ob Y
     have r102:=(F.ul h).cutV bg
     refine Mw.p O O (fun _=>R.sl (F.ul h) bg O (.inr O) (.inr O)) (Dv x O (Di O (Dv I O (Di O ?_))))
     obtain⟨d2,aw,Y⟩:=ob Y
     refine Mw.p O O (fun _=>R.ix (α:=Int) af.rd aw O O O) (Mw.q O O (fun _ c=>R.ld O O (zam (af.rd.at_ aw).1 O (af.rd.at_ aw).int c)) ?_)
     obtain⟨d3,bh,Y⟩:=ob Y
     have r109:=(G.ul h).cutV bh
     refine Mw.p O O (fun _=>R.sl (G.ul h) bh O (.inr O) (.inr O)) ?_
     obtain⟨C,co,Y⟩:=ob Y
     refine Mw.l O O (T.call O (p112 (k0:=7) (k1:=8) (k2:=9) (k3:=10) r95 r102 r109 co)) ?_
     rintro _ _ ⟨d4,rfl,i,⟨d5,d6,d7,d8,rfl,cp,cq,ct,cu⟩⟩
     have cv:=h.n i
     obtain⟨cw,cx,Y⟩:=ob Y
     refine Mw.t O O (T.call O (p111 (K:=[0]) (k0:=11) (c0:=2) (c1:=7) (c2:=8) (c3:=9) (c4:=10) (x1:=(Vm.Part.mk C.Clash C.Lines C.Old C.One C.Two)) (((aq.up f).up B).up i) cp cq ct cu O cx)) ?_
     rintro ax _ ⟨ay,rfl,D,⟨_,rfl,bi⟩⟩
     have az:=cv.t D
     refine⟨⟨_,O,((i.sub (M:=[2,7,8,9,10]) O).trans (D.sub (M:=[2,7,8,9,10]) O))⟩,?_⟩
     refine Hv ax O (Mw.nil ?_)
     obtain⟨cy,cz,Y⟩:=za1 Y
     refine Cw.join 68 79 [7] (fun l w=> ∃ ah ai aj,CW.w aj=w/\Le [11,12,13,14,15,16] ay aj/\l=[ai]/\Ow aj 11 [] [ai] ah/\cy ah=some r) ?_ ?_
     ·rintro _ _ σ ⟨ah,ai,aj,rfl,a0,rfl,c5,Y⟩
      rw[cz]at Y
      have bj:=((ae.up i).up D).up a0
      have bk:=((af.up i).up D).up a0
      refine sr (mi O (Lw.add O (Ni O (sr (mv y O (mi O ?_))))))
      obtain⟨c6,bl,Y⟩:=ob Y
      refine Lw.r O (R.ix (α:=Int) bj.rd bl O O O) (Lw.r O (R.ld O O (bj.rd.at_ bl).int) (Lw.add O (Ni O (rg (mv I O (mi O ?_))))))
      obtain⟨c7,bm,Y⟩:=ob Y
      refine Lw.r O (R.ix (α:=Int) bk.rd bm O O O) (Lw.r O (R.ld O O (bk.rd.at_ bm).int) (Lw.add O (Ni O ?_)))
      obtain⟨c8,c9,da,db⟩:=c5.dyeO 2
      exact(ag) ⟨ah,w64 (z+1),w64 (c6+1),w64 (c7+1),ai,c8,c9,(((((f.j B).j i).j D).j a0).j da).w,O,db,Y⟩
     ·refine sr (mi O (mv d O (Lw.ln x0 (e.ul az) O (Lw.lt O (nl (cn Y (fun Y=>?_) fun Y=>?_))))))
      ·refine rg (mv ax O (mv d O (mi O ?_)))
       obtain⟨a1,bn,Y⟩:=ob Y
       refine Lw.r O (R.ix (α:=Str) (e.ul az) bn O O O) (Lw.r O (R.ld O O ((e.ul az).at_ bn).str) (Lw.t O (T.bsS (α:=Str) (xs:=[a1]) 12 [] (W:=ay) [vS a1] (Each.cons ((rdS _)) Each.nil) O) ?_))
       rintro bp _ ⟨d9,rfl,bq,br⟩
       refine Lw.r O (R.bd (zs:=[vB false, .slice none 0 0, .slice none 0 0, .slice none 0 0, .slice none 0 0]) (cs:=[vB false,bp, .slice none 0 0, .slice none 0 0, .slice none 0 0]) [(1,bp)] O O O (zaD br.oc O zcU)) (cr Y (fun _=>p111 (K:=[0]) (k0:=16) (c0:=11) (c1:=12) (c2:=13) (c3:=14) (c4:=15) (x1:=(Vm.Part.mk false ([a1]:List Str) ([]:List Str) ([]:List Str) ([]:List Str))) (bi.up bq) br (owN 13 []) (owN 14 []) (owN 15 []) O) ?_)
       rintro dc bu ea Y dd ⟨_,rfl,de⟩
       refine Nv bu O ?_
       obtain⟨df,dg,dh,di⟩:=de.dyeO 11
       exact(ag) ⟨dc,bu,df,dg,((bq.j dd).j dh).w,O,di,Y⟩
      ·exact sk ((ag) ⟨cw,ax,ay,O,Le.refl _ _,O,bi,Y⟩)
   ·refine rg (mv y O (mi O ?_))
    obtain⟨eb,bv,Y⟩:=ob Y
    refine Lw.r O (R.ix (α:=Int) S.rd bv O O O) (Lw.r O (R.ld O O (S.rd.at_ bv).int) (Lw.lt O (mb O (bs Y (fun E Y=>?_) fun E Y=>?_))))
    ·exact psk 5 E O (Pb E O (nl ((ag) ⟨true,b,O,Le.refl _ _,O,Y⟩)))
    ·refine wak 5 E (mv I O (mi O ?_))
     obtain⟨dj,bw,Y⟩:=ob Y
     exact Lw.r O (R.ix (α:=Int) ar.rd bw O O O) (Lw.r O (R.ld O O (ar.rd.at_ bw).int) (Lw.lt O (Pb E O (nl ((ag) ⟨decide (dj< (0:Int)),b,O,Le.refl _ _,O,Y⟩)))))
 ·refine Cw.exit ?_
  rw[cf]at Y
  refine sr (mv a O (Nv a O ?_))
  cases Y
  exact Cw.ret (zhg O (Res.mk bc ⟨a,O,aq.s.sub O O⟩))
theorem p109 {x0 b x1 d x2 f k0 r}(h:Rd W K [b] x0)(i:Rd W K [d] x1)(k:Rd W K [f] x2)(Y:Vm.zfO x0 x1 x2=some r):Q1 109 [b,d,f] W [] fun W' v=> ∃ a,v=a/\Ow W' k0 [] [a] r:=
 (c109 (h.view _) (i.view _) (k.view _) Y).ad (fk k0) fun _ _ ⟨a,e,x⟩=>⟨a,e,x.back (zhe _)⟩
theorem c108 {x0 b r}(L:Rd W0 [0] [b] x0)(Y:Vm.zeA x0=some r):Q0 108 [b] W0 fun Wf v=> ∃ A,v = .tuple [A,vB r.2].toArray/\OwS Wf LL [] [A] r.1:=by
 unfold Vm.zeA at Y
 refine zap.of Tryz.func108 O O O O (sr (Gv (.slice none 0 0) O (Nb O (sr (Lw.t O (T.lit0 (α:=Str) 2 []) ?_)))))
 rintro B _ ⟨C,rfl,M,N⟩
 have P:=M.o
 refine Nv B O (ssr (Ni O (Cw.block ?_)))
 obtain⟨Q,S,Y⟩:=za1 Y
 refine Cw.loop 7 24 [2,3,4,5] (fun m l w=> ∃ f h x i k a d,CW.w d=w/\Le [2] C d/\l=[k,vB h,a,vI i]/\Ow d 3 [] [k] f/\Ow d 2 [] [a] x/\Vm.zbY x0 Q m f h x i=some r) _ ⟨([]:List Str),false,([]:List Str),0, .slice none 0 0,B,C,O,Le.refl _ _,O,owN 3 [],N,Y⟩ ?_
 rintro(_ |aa) _ _ σ ⟨f,h,x,i,k,a,d,rfl,D,rfl,U,y,Y⟩
 ·cases Y
 unfold Vm.zbY at Y
 have z:=P.t D
 refine ssr ?_
 have e:=L.ul z
 refine mi O (mv b O (Lw.ln x0 e O (Lw.lt O (nl (cn Y (fun Y=>?_) fun Y=>?_)))))
 ·refine sk (Cw.seq (Cw.block (ssr (mv b O (mi O ?_)))))
  obtain⟨ac,E,Y⟩:=ob Y
  refine Lw.r O (R.ix (α:=Part) e E O O O) (Lw.fa O (Lw.r O (R.ld O O (Part.at0 (e.at_ E)).bool) (nl (cn Y (fun Y=>?_) fun Y=>?_))))
  ·refine sr (Gv (.slice none 0 0) O (Nb O ?_))
   cases Y
   exact Cw.ret (zit O O (Res.mk z ⟨.slice none 0 0,O,(zmG []).sub O O⟩))
  ·refine sk (rg (mv a O (mv b O (mi O ?_))))
   obtain⟨ae,F,Y⟩:=ob Y
   refine Lw.r O (R.ix (α:=Part) e F O O O) (Lw.fa O ?_)
   obtain⟨af,c23,r24⟩:=(Part.at1 (e.at_ F)).cell O
   refine Lw.r O (R.ld O O c23) ?_
   obtain⟨V,W,Y⟩:=ob Y
   refine Lw.t O (T.appP (α:=Str) y r24 O O W) ?_
   rintro G _ ⟨X,rfl,H,Z⟩
   exact Nv G O (rg (mi O (Lw.add O (Ni O ((agm) ⟨f,h,V,w64 (i+1),k,G,X,O,(D.j H).w,O,(U.up H),Z,Y⟩)))))
 ·refine Cw.exit ?_
  rw[S]at Y
  refine ssr (mv a O (ca Y (fun _=>p44 (K:=[2]) y.rd) fun ah ai Y I=>?_))
  have J:=z.n I
  refine Lw.r O (R.not O) (nl (cn Y (fun Y=>?_) fun Y=>?_))
  ·refine sr (Gv (.slice none 0 0) O (Nb O ?_))
   cases Y
   exact Cw.ret (zit O O (Res.mk J ⟨.slice none 0 0,O,(zmG []).sub O O⟩))
  ·refine sk (sr (mv a O (Gv a O (Nb O ?_))))
   cases Y
   exact Cw.ret (zit O O (Res.mk J ⟨a,O,(y.up I).s.sub O O⟩))
theorem p108 {x0 b k0 r}(d:Rd W K [b] x0)(Y:Vm.zeA x0=some r):Q1 108 [b] W [] fun W' v=> ∃ a,v = .tuple [a,vB r.2].toArray/\Ow W' k0 [] [a] r.1:=
 (c108 (d.view _) Y).ad (fk k0) fun _ _ ⟨a,e,f⟩=>⟨a,e,f.back (zhe _)⟩
theorem c102 {x0 H x1 I x2 J x3 r}(Z:Rd W0 [0] [H] x0)(h1:Rd W0 [0] [I] x1)(h2:Rd W0 [0] [J] x2)(Y:Vm.zfa x0 x1 x2 x3=some r):Q0 102 [H,I,J,vS x3] W0 fun Wf v=> ∃ W,v = .tuple [W,vB r.2.1,vI r.2.2].toArray/\Rd Wf [0] [W] r.1:=by
 unfold Vm.zfa at Y
 refine zap.of Tryz.func102 O O O O (sr (Gv (.slice none 0 0) O (Gb O (Ni O (sr (mv H O (ms O (cr Y (fun _=>p106 Z) ?_))))))))
 rintro D _ W3 Y l3 ⟨d,rfl,af⟩
 have z:=af.sub (M:=[0]) O
 have y:=l3.o
 refine mv (.tuple [d,vB D.2].toArray) O (Lw.r O (R.ext (vs:=[d,vB D.2]) (v:=d) O O) (Lw.r O (R.ext (vs:=[d,vB D.2]) (v:=vB D.2) O O) (Gv d O (Nb O (sr (mv I O (ms O (cr Y (fun _=>p106 (h1.ul y)) ?_))))))))
 rintro E _ W9 Y l9 ⟨f,rfl,ai⟩
 have F:=ai.sub (M:=[0]) O
 have e:=l9.o
 refine mv (.tuple [f,vB E.2].toArray) O (Lw.r O (R.ext (vs:=[f,vB E.2]) (v:=f) O O) (Lw.r O (R.ext (vs:=[f,vB E.2]) (v:=vB E.2) O O) (Gv f O (Nb O (sr (mv J O (ms O (cr Y (fun _=>p106 (h2.ul (y.trans e))) ?_))))))))
 rintro A _ aj Y ak ⟨h,rfl,am⟩
 have G:=am.sub (M:=[0]) O
 have a:=ak.o
 refine mv (.tuple [h,vB A.2].toArray) O (Lw.r O (R.ext (vs:=[h,vB A.2]) (v:=h) O O) (Lw.r O (R.ext (vs:=[h,vB A.2]) (v:=vB A.2) O O) (Gv h O (Nb O (Cw.seq (Cw.block ?_))))))
 obtain⟨an,ao,Y⟩:=za1 Y
 refine Cw.join 37 47 [37] (fun l w=> ∃ L N,CW.w N=w/\Le [] aj N/\l=[vB L]/\an L=some r) ?_ ?_
 ·rintro _ _ σ ⟨L,N,rfl,ap,rfl,Y⟩
  rw[ao]at Y
  have b:=ap.o
  refine cn Y (fun Y=>?_) fun Y=>?_
  ·refine sr (mv h O (mb O (Gv h O (Gb O (Ni O ?_)))))
   cases Y
   exact Cw.ret (ztB O O O (Res.mk (((y.trans e).trans a).trans b) ⟨h,O,(G.ul b)⟩))
  ·refine sr (mv h O (mb O (mv d O (mb O (ca Y (fun _=>p107 (G.ul b) (z.ul ((e.trans a).trans b))) fun bg P Y aq=>?_)))))
   have i:=aq.o
   refine Nb O (cn Y (fun Y=>?_) fun Y=>?_)
   ·refine sr (mv f O (mb O (Gv f O (Gb O (Ni O ?_)))))
    cases Y
    exact Cw.ret (ztB O O O (Res.mk ((((y.trans e).trans a).trans b).trans i) ⟨f,O,(F.ul ((a.trans b).trans i))⟩))
   ·obtain⟨ar,au,Y⟩:=za1 Y
    refine Cw.join 58 64 [58] (fun l w=> ∃ Q S,CW.w S=w/\Le [] P S/\l=[vB Q]/\ar Q=some r) ?_ ?_
    ·rintro _ _ σ ⟨Q,S,rfl,av,rfl,Y⟩
     rw[au]at Y
     have k:=av.o
     refine cn Y (fun Y=>?_) fun Y=>?_
     ·refine sr (mv d O (mb O (Gv d O (Gb O (Ni O ?_)))))
      cases Y
      exact Cw.ret (ztB O O O (Res.mk (((((y.trans e).trans a).trans b).trans i).trans k) ⟨d,O,(z.ul ((((e.trans a).trans b).trans i).trans k))⟩))
     ·refine sr (mb O (Lw.r O (R.not O) (Nb O (cn Y (fun Y=>?_) fun Y=>?_))))
      ·refine sr (Gv (.slice none 0 0) O (Gb O (Ni O ?_)))
       cases Y
       exact Cw.ret (ztB O O O (Res.mk (((((y.trans e).trans a).trans b).trans i).trans k) ⟨.slice none 0 0,O,(rdN (K:=[0]))⟩))
      ·refine sk (sr (mv d O (mv f O (mv h O (cr Y (fun _=>p109 (k0:=2) (z.ul ((((e.trans a).trans b).trans i).trans k)) (F.ul (((a.trans b).trans i).trans k)) (G.ul ((b.trans i).trans k))) ?_)))))
       rintro bh bi bj Y aw ⟨_,rfl,ax⟩
       have T:=aw.o
       refine cr Y (fun _=>p108 (K:=[2]) (k0:=3) ax.rd) ?_
       rintro B _ bk Y ay ⟨x,rfl,az⟩
       have U:=ay.o
       refine mv (.tuple [x,vB B.2].toArray) O (Lw.r O (R.ext (vs:=[x,vB B.2]) (v:=x) O O) (Lw.r O (R.ext (vs:=[x,vB B.2]) (v:=vB B.2) O O) (Gv x O (Nb O (ssr (mb O (Lw.r O (R.not O) (nl (cn Y (fun Y=>?_) fun Y=>?_)))))))))
       ·refine sr (mv d O (Gv d O (Gb O (Ni O ?_))))
        cases Y
        exact Cw.ret (ztB O O O (Res.mk (((((((y.trans e).trans a).trans b).trans i).trans k).trans T).trans U) ⟨d,O,(z.ul ((((((e.trans a).trans b).trans i).trans k).trans T).trans U))⟩))
       ·refine sk (sr (mv x O (Gv x O (Gb O (Ni O ?_)))))
        obtain⟨a0,a1,a2,a3⟩:=zgV _ 3
        have a4:Rd (α:=List Str) a0 [0] [x] B.1:=by rw[a3];exact(az.rd.dye 3).sub (M:=[0]) O
        have a6:=(((((((y.trans e).trans a).trans b).trans i).trans k).trans T).trans U).t a2
        cases Y
        rw[<- a1]
        exact Cw.ret (ztB O O O (Res.mk a6 ⟨x,O,a4⟩))
    ·refine rg (mb O (Lw.r O (R.not O) (mb O (bs Y (fun C Y=>?_) fun C Y=>?_))))
     ·exact psk 2 C O (Pb C O (Nb O ((ag) ⟨true,P,O,Le.refl _ _,O,Y⟩)))
     ·exact wak 2 C (mb O (Lw.r O (R.not O) (Pb C O (Nb O ((ag) ⟨(!A.2),P,O,Le.refl _ _,O,Y⟩)))))
 ·refine sr (mv f O (mb O (mv d O (mb O (ca Y (fun _=>p107 (F.ul a) (z.ul (e.trans a))) fun a7 a8 Y V=>?_)))))
  have X:=V.o
  refine Nb O (cn Y (fun Y=>?_) fun Y=>?_)
  ·exact sk ((ag) ⟨a7,a8,O,V,O,Y⟩)
  ·exact rg (mv f O (mb O (mv h O (mb O (ca Y (fun _=>p107 (F.ul (a.trans X)) (G.ul X)) fun a9 ba Y bb=>Nb O ((ag) ⟨a9,ba,O,(V.j bb).w,O,Y⟩))))))
theorem p102 {x0 b x1 d x2 f x3 r}(h:Rd W K [b] x0)(i:Rd W K [d] x1)(k:Rd W K [f] x2)(Y:Vm.zfa x0 x1 x2 x3=some r):Q1 102 [b,d,f,vS x3] W [] fun W' v=> ∃ a,v = .tuple [a,vB r.2.1,vI r.2.2].toArray/\Rd W' (0::K) [a] r.1:=
 (c102 (h.view _) (i.view _) (k.view _) Y).ad (fk 0) fun _ _ ⟨a,e,x⟩=>⟨a,e,x.back O⟩
theorem c94 {x0 G x1 H x2 I r}(h0:Rd W0 [0] [G] x0)(h1:Rd W0 [0] [H] x1)(h2:Rd W0 [0] [I] x2)(Y:Vm.zfP x0 x1 x2=some r):Q0 94 [G,H,I] W0 fun Wf v=> ∃ u0 u1,v = .tuple [u0,u1].toArray/\OwS Wf [31] [] [u0] r.1/\OwS Wf [32] [] [u1] r.2:=by
 unfold Vm.zfP at Y
 refine zap.of Tryz.func94 O O O O (sr (Gv (.slice none 0 0) O (Nv (.slice none 0 0) O (sr (Lw.t O (T.lit0 (α:=File) 2 []) ?_)))))
 rintro v1 _ ⟨W1,rfl,l1,o1⟩
 have a2:=l1.o
 refine Nv v1 O (sr (Lw.t O (T.lit0 (α:=Clash) 3 []) ?_))
 rintro v3 _ ⟨W3,rfl,l3,o3⟩
 have L:=a2.n l3
 refine Nv v3 O (sr (mv G O (mv H O (mv I O (cr Y (fun _=>p101 (h0.ul L) (h1.ul L) (h2.ul L)) ?_)))))
 rintro z9 y a3 Y af ⟨_,rfl,bw⟩
 have N:=bw.sub (M:=[0]) O
 have P:=L.n af
 refine Nv y O (ssr (Ni O (Cw.block ?_)))
 obtain⟨bz,b0,Y⟩:=za1 Y
 refine Cw.loop 21 61 [8,9,11,12,13,14] (fun m l w=> ∃ Q S U d e a5 a6 a7 f,CW.w f=w/\Le [2,3,4] a3 f/\l=[d,e,vI U,a5,a6,a7]/\Ow f 2 [] [d] Q/\Ow f 3 [] [e] S/\Vm.zc6 x0 x1 x2 z9 bz m Q S U=some r) _ ⟨([]:List File),([]:List Clash),0,v1,v3,undef,undef,undef,a3,O,Le.refl _ _,O,((o1.up l3).up af),(o3.up af),Y⟩ ?_
 rintro(_ |c2) _ _ σ ⟨Q,S,U,d,e,a5,a6,a7,f,rfl,a8,rfl,a9,ah,Y⟩
 ·cases Y
 unfold Vm.zc6 at Y
 have h:=a8.s
 refine ssr ?_
 have ai:=N.ul h
 refine mi O (mv y O (Lw.ln z9 ai O (Lw.lt O (nl (cn Y (fun Y=>?_) fun Y=>?_)))))
 ·refine sk ?_
  obtain⟨b1,b2,Y⟩:=za1 Y
  refine Cw.join 27 61 [8,9,12,13,14] (fun l w=> ∃ V W X Z aj ak am i,CW.w i=w/\Le [2,3,4] f i/\l=[X,Z,aj,ak,am]/\Ow i 2 [] [X] V/\Ow i 3 [] [Z] W/\b1 V W=some r) ?_ ?_
  ·rintro _ _ σ ⟨V,W,X,Z,aj,ak,am,i,rfl,b3,rfl,b4,b5,Y⟩
   rw[b2]at Y
   exact rg (mi O (Lw.add O (Ni O ((agm) ⟨V,W,w64 (U+1),X,Z,aj,ak,am,i,O,(a8.j b3).w,O,b4,b5,Y⟩))))
  ·refine Cw.block (sr (mv G O (mv H O (mv I O (mv y O (mi O ?_))))))
   obtain⟨c3,ba,Y⟩:=ob Y
   refine Lw.r O (R.ix (α:=Str) ai ba O O O) (Lw.r O (R.ld O O (ai.at_ ba).str) (cr Y (fun _=>p102 (h0.ul (P.trans h)) (h1.ul (P.trans h)) (h2.ul (P.trans h))) ?_))
   rintro a _ bb Y k ⟨b,rfl,b6⟩
   have b7:=b6.sub (M:=[0]) O
   have an:=h.n k
   refine mv (.tuple [b,vB a.2.1,vI a.2.2].toArray) O (Lw.r O (R.ext (vs:=[b,vB a.2.1,vI a.2.2]) (v:=b) O O) (Lw.r O (R.ext (vs:=[b,vB a.2.1,vI a.2.2]) (v:=vB a.2.1) O O) (Lw.r O (R.ext (vs:=[b,vB a.2.1,vI a.2.2]) (v:=vI a.2.2) O O) (Gv b O (Gb O (Ni O ?_))))))
   obtain⟨b8,b9,Y⟩:=za1 Y
   refine Cw.join 39 49 [9] (fun l w=> ∃ z A B,CW.w B=w/\Le [3] bb B/\l=[A]/\Ow B 3 [] [A] z/\b8 z=some r) ?_ ?_
   ·rintro _ _ σ ⟨z,A,B,rfl,aa,rfl,bc,Y⟩
    rw[b9]at Y
    have be:=aa.s
    have bg:=(a9.up k).up aa
    refine sr (mb O (nl (cn Y (fun Y=>?_) fun Y=>?_)))
    ·refine Cw.draw [2,4] [(0,0),(1,0),(2,0),(3,0),(4,1),(6,0),(5,2),(7,2),(8,0),(9,3),(10,2),(11,0)] mixed (by kernel_rfl) fun c4 ac=>?_
     have bh:=ac.o
     refine Dv d O (Dv y O (Di O ?_))
     obtain⟨C,ao,Y⟩:=ob Y
     have ap:=N.ul ((an.trans be).trans bh)
     refine Mw.p O O (fun _=>R.ix (α:=Str) ap ao O O O) (Mw.q O O (fun _ c=>R.ld O O (zam (ap.at_ ao).1 O (ap.at_ ao).str c)) (Dv b O (Mw.t O O (T.lit0 (α:=Str) 4 []) ?_)))
     rintro c5 _ ⟨c6,rfl,x,cb⟩
     have cc:=(be.trans bh).n x
     refine m0 x fun cd=>?_
     obtain⟨ce,cf,Y⟩:=ob Y
     refine Mw.t O O (T.appP (α:=Str) cb (b7.ul cc) O O cf) ?_
     rintro ae _ ⟨c7,rfl,D,bi⟩
     refine mc cd D fun c8=>Mw.p O O (fun _=>R.bd (zs:=[vS ([]:Str), .slice none 0 0]) (cs:=[vS C,ae]) [(0,vS C),(1,ae)] O O O (zaD O O (zaD bi.oc O zcU))) (Mw.l O O (T.bs 5 [.agg [vS C,ae].toArray] (cs:=[vS C,ae]) O O (bsA O)) ?_)
     rintro _ _ ⟨c9,da,rfl,rfl,E,cg⟩
     obtain⟨ch,ci,Y⟩:=ob Y
     refine Mw.t O O (T.app1 (α:=File) (J:=[4]) (K':=[]) ((((bg.up ac).up x).up D).up E) cg (File.own C ce (bi.up E).s) O O ci) ?_
     rintro bj _ ⟨cj,rfl,aq,ck⟩
     refine⟨⟨_,O,((x.sub (M:=[2,4]) O).trans ((D.sub (M:=[2,4]) O).trans ((E.sub (M:=[2,4]) O).trans (aq.sub (M:=[2,4]) O))))⟩,?_⟩
     exact Hv bj O (Mw.nil ((ag) ⟨ch,z,bj,A,b,vB a.2.1,vI a.2.2,cj,O,((((((k.j aa).j ac).j x).j D).j E).j aq).w,O,ck,(((((bc.up ac).up x).up D).up E).up aq),Y⟩))
    ·exact sk ((ag) ⟨Q,z,d,A,b,vB a.2.1,vI a.2.2,B,O,(k.j aa).w,O,bg,bc,Y⟩)
   ·refine sr (mi O (Lw.gt O (nl (cn Y (fun Y=>?_) fun Y=>?_))))
    ·refine rg (mv e O (mv y O (mi O ?_)))
     obtain⟨F,bk,Y⟩:=ob Y
     refine Lw.r O (R.ix (α:=Str) (N.ul an) bk O O O) (Lw.r O (R.ld O O ((N.ul an).at_ bk).str) (mi O (Lw.r O (R.bd (zs:=[vS ([]:Str),vI 0]) (cs:=[vS F,vI a.2.2]) [(0,vS F),(1,vI a.2.2)] O O O (zaD O O (zaD O O zcU))) (Lw.t O (T.bs 6 [.agg [vS F,vI a.2.2].toArray] (cs:=[vS F,vI a.2.2]) O O (bsA O)) ?_))))
     rintro _ _ ⟨db,dc,rfl,rfl,bl,cl⟩
     obtain⟨cm,co,Y⟩:=ob Y
     refine Lw.t O (T.app1S (α:=Clash) (K':=[]) ((ah.up k).up bl) cl (Clash.rd (K:=[]) F a.2.2) O O co) ?_
     rintro bm _ ⟨cp,rfl,cq,ct⟩
     exact Nv bm O ((ag) ⟨cm,bm,cp,O,(bl.j cq).w,O,ct,Y⟩)
    ·exact sk ((ag) ⟨S,e,bb,O,Le.refl _ _,O,(ah.up k),Y⟩)
 ·refine Cw.exit ?_
  rw[b0]at Y
  refine sr (mv d O (mv e O (Gv d O (Nv e O ?_))))
  obtain⟨dd,cu,bn,cv⟩:=a9.dyeO 31
  have cw:=(P.trans h).t bn
  obtain⟨de,cx,bp,cy⟩:=(ah.up bn).dyeO 32
  have cz:=cw.t bp
  cases Y
  rw[<- cx.trans (cu)]
  exact Cw.ret (zit O O (Res.mk cz ⟨d,e,O,(cv.up bp).s,cy.s⟩))
theorem p94 {x0 d x1 f x2 h k0 k1 r}(i:Rd W K [d] x0)(k:Rd W K [f] x1)(x:Rd W K [h] x2)(Y:Vm.zfP x0 x1 x2=some r):Q1 94 [d,f,h] W [] fun W' v=> ∃ a b,v = .tuple [a,b].toArray/\Ow W' k0 [] [a] r.1/\Ow W' k1 [] [b] r.2:=
 zap.adJ (J:=[]) (fun c=>bif Nat.beq c 0 then 0 else bif Nat.beq c 31 then k0 else bif Nat.beq c 32 then k1 else 0) (c94 (i.view _) (k.view _) (x.view _) Y) fun _ _ ⟨a,b,e,y,z⟩=>⟨a,b,e,y.one1.backN O,z.one1.backN O⟩
theorem c88 {x0 e x1 f x2 h r}(A:Rd W0 [0] [e] x0)(Q:Rd W0 [0] [f] x1)(S:Rd W0 [0] [h] x2)(Y:Vm.zea x0 x1 x2=some r):Q0 88 [e,f,h] W0 fun Wf v=> ∃ B C,v = .tuple [B,C].toArray/\OwS Wf [31] [] [B] r.1/\OwS Wf [32] [] [C] r.2:=by
 unfold Vm.zea at Y
 refine zap.of Tryz.func88 O O O O (sr (Gv (.slice none 0 0) O (Nv (.slice none 0 0) O (sr (mv e O (mv f O (mv h O (cr Y (fun _=>p94 (k0:=2) (k1:=3) A Q S) ?_))))))))
 rintro U _ D Y V ⟨a,b,rfl,E,F⟩
 have W:=V.o
 refine mv (.tuple [a,b].toArray) O (Lw.r O (R.ext (vs:=[a,b]) (v:=a) O O) (Lw.r O (R.ext (vs:=[a,b]) (v:=b) O O) (Gv a O (Nv b O (Cw.seq ?_)))))
 obtain⟨X,Z,Y⟩:=za1 Y
 refine Cw.join 17 24 [24] (fun l w=> ∃ i k,CW.w k=w/\Le [] D k/\l=[vB i]/\X i=some r) ?_ ?_
 ·rintro _ _ σ ⟨i,k,rfl,y,rfl,Y⟩
  rw[Z]at Y
  have z:=W.n y
  refine cn Y (fun Y=>?_) fun Y=>?_
  ·refine sr (mv e O (cr Y (fun _=>p56 (k0:=4) (A.ul z)) ?_))
   rintro a0 G a1 Y aa ⟨_,rfl,ac⟩
   have ae:=z.n aa
   refine Lw.r O (R.bd (zs:=[vS ([]:Str),vI 0]) (cs:=[vS ([]:Str),vI 4]) [(1,vI 4)] O O O (zaD O O zcU)) (Lw.t O (T.bsO (α:=Clash) (J:=[]) (xs:=[Vm.Clash.mk ([]:Str) 4]) 5 [.agg [vS ([]:Str),vI 4].toArray] (bsL [[vS ([]:Str),vI 4]] (zxN O zxM) (OwL.cons (x:=(Vm.Clash.mk ([]:Str) 4)) (OwS.atm (K:=[]) (Clash.rd (K:=[]) ([]:Str) 4)) OwL.nil)) O) ?_)
   rintro H _ ⟨a2,rfl,I,af⟩
   have ah:=ae.n I
   refine Gv G O (Nv H O ?_)
   obtain⟨a3,ai,L,aj⟩:=(ac.up I).dyeO 31
   have ak:=ah.t L
   obtain⟨a5,am,M,an⟩:=(af.up L).dyeO 32
   have ao:=ak.t M
   cases Y
   rw[<- am.trans (ai)]
   exact Cw.ret (zit O O (Res.mk ao ⟨G,H,O,(aj.up M).s,an.s⟩))
  ·refine sk (sr (mv a O (mv b O (Gv a O (Nv b O ?_)))))
   obtain⟨a6,ap,N,aq⟩:=(E.up y).dyeO 31
   have ar:=z.t N
   obtain⟨a7,au,P,av⟩:=((F.up y).up N).dyeO 32
   have aw:=ar.t P
   cases Y
   rw[<- au.trans (ap)]
   exact Cw.ret (zit O O (Res.mk aw ⟨a,b,O,(aq.up P).s,av.s⟩))
 ·refine rg (mv b O (Lw.ln U.2 F.rd O (Lw.eq O (mb O (bs Y (fun d Y=>?_) fun d Y=>?_)))))
  ·exact wak 3 d (mv a O (ca Y (fun _=>p32 (K:=[2]) E.rd) fun ax ay Y az=>Lw.r O (R.not O) (Pb d O (nl ((ag) ⟨(!ax),ay,O,az,O,Y⟩)))))
  ·exact psk 3 d O (Pb d O (nl ((ag) ⟨false,D,O,Le.refl _ _,O,Y⟩)))
theorem p88 {x0 d x1 f x2 h k0 k1 r}(i:Rd W K [d] x0)(k:Rd W K [f] x1)(x:Rd W K [h] x2)(Y:Vm.zea x0 x1 x2=some r):Q1 88 [d,f,h] W [] fun W' v=> ∃ a b,v = .tuple [a,b].toArray/\Ow W' k0 [] [a] r.1/\Ow W' k1 [] [b] r.2:=
 zap.adJ (J:=[]) (fun c=>bif Nat.beq c 0 then 0 else bif Nat.beq c 31 then k0 else bif Nat.beq c 32 then k1 else 0) (c88 (i.view _) (k.view _) (x.view _) Y) fun _ _ ⟨a,b,e,y,z⟩=>⟨a,b,e,y.one1.backN O,z.one1.backN O⟩
theorem c78 {x0 k x x1 x2 x3 r}(h0:Rd W0 [0] [k,x] x0)(Y:Vm.zc7 x0 x1 x2 x3=some r):Q0 78 [.agg [k,x].toArray,vS x1,vS x2,vI x3] W0 fun Wf v=> ∃ a3 a5,v = .tuple [.agg [a3,a5].toArray,vI r.2].toArray/\Rd Wf [0] [a3] r.1.Commits/\Rd Wf [0] [a5] r.1.Heads:=by
 unfold Vm.zc7 at Y
 obtain⟨db,dc,a6,a,b⟩:=Repo.split h0
 simp only[List.cons.injEq,and_true,true_and]at a6
 obtain⟨rfl,rfl⟩:=a6
 refine zap.of Tryz.func78 O O O O (sr (bo 2 O fun g1 W1 l1 b1=>?_))
 have a2:=l1.o
 refine al 3 [.slice none 0 0, .slice none 0 0] fun g3 W3 P b3=>?_
 have Q:=a2.n P
 refine Ni O (sr (la (b1.up P) (ms O (ca Y (fun _=>p59 (Repo.rd (K:=[0]) x0.Commits x0.Heads (a.ul Q) (b.ul Q))) fun A dh Y l10=>?_))))
 have S:=Q.n l10
 have a8:=(b1.up P).up l10
 refine Ni O (ssr (la a8 (mi O (cr Y (fun _=>p87 (k0:=4) (Repo.rd (K:=[0]) x0.Commits x0.Heads (a.ul S) (b.ul S))) ?_))))
 rintro di dj dk Y U ⟨_,rfl,bu⟩
 have bv:=S.n U
 refine mi O (ca Y (fun _=>p86 (K:=[4]) bu.rd) fun dl dm Y V=>?_)
 have D:=bv.n V
 have X:=(a8.up U).up V
 have a9:=((b3.up l10).up U).up V
 refine nl (cn Y (fun Y=>?_) fun Y=>?_)
 ·refine sr (la X (sta a9 (zaa a.oc (zaa b.oc zaw)) fun dn bw bz=>?_))
  have Z:=D.t bw
  refine Ni O ?_
  cases Y
  exact Cw.ret (zeM O bz O (Res.mk Z ⟨k,x,O,(a.ul Z),(b.ul Z)⟩))
 ·refine sk (ssr (la X (mi O (cr Y (fun _=>p87 (k0:=5) (Repo.rd (K:=[0]) x0.Commits x0.Heads (a.ul D) (b.ul D))) ?_))))
  rintro dp dq dr Y aa ⟨_,rfl,b0⟩
  have b2:=D.n aa
  refine mi O (ca Y (fun _=>p86 (K:=[5]) b0.rd) fun ds dt Y ac=>?_)
  have E:=b2.n ac
  have ba:=(X.up aa).up ac
  have bb:=(a9.up aa).up ac
  refine nl (cn Y (fun Y=>?_) fun Y=>?_)
  ·refine sr (la ba (ms O (mi O (cr Y (fun _=>p77 (Repo.rd (K:=[0]) x0.Commits x0.Heads (a.ul E) (b.ul E))) ?_))))
   rintro du _ dv Y bc ⟨b4,b5,rfl,b6,b7⟩
   have be:=b6.sub (M:=[0]) O
   have bg:=b7.sub (M:=[0]) O
   have b8:=E.n bc
   refine sta (bb.up bc) (zaa be.oc (zaa bg.oc zaw)) fun dw b9 cb=>?_
   have ae:=b9.s
   refine Ni O ?_
   cases Y
   exact Cw.ret (zeM O cb O (Res.mk (b8.trans ae) ⟨b4,b5,O,(be.ul ae),(bg.ul ae)⟩))
  ·refine sk (Cw.seq (Cw.draw [] [(0,1),(1,0),(2,0),(4,0),(5,1),(6,0),(7,0),(8,0),(9,1),(10,0),(11,1),(12,0),(13,0),(14,0),(15,1),(3,2),(16,2),(17,0),(18,0),(19,0),(20,0),(21,0)] mixed (by kernel_rfl) fun dx af=>?_))
   have ah:=E.n af
   have F:=ba.up af
   refine Mw.q O O (fun _ c=>R.lda (cs:=[k,x]) (F.clcs O c) O O) (Di O (Di O (Dfl F O O O (Di O ?_))))
   obtain⟨dy,ai,Y⟩:=ob Y
   have i:=a.ul ah
   refine Mw.p O O (fun _=>R.ix (α:=Commit) i ai O O O) (Df O ?_)
   obtain⟨dz,c83,r84⟩:=(Commit.at2 (i.at_ ai)).cell O
   refine Mw.q O O (fun _ c=>R.ld O O (zam (Commit.at2 (i.at_ ai)).1 O c83 c)) (Dfl F O O O (Di O ?_))
   obtain⟨d0,aj,Y⟩:=ob Y
   refine Mw.p O O (fun _=>R.ix (α:=Commit) i aj O O O) (Df O ?_)
   obtain⟨d1,c88,r89⟩:=(Commit.at2 (i.at_ aj)).cell O
   refine Mw.q O O (fun _ c=>R.ld O O (zam (Commit.at2 (i.at_ aj)).1 O c88 c)) ?_
   obtain⟨d2,cc,Y⟩:=ob Y
   refine Mw.t O O (T.call O (p89 (Repo.rd (K:=[0]) x0.Commits x0.Heads i (b.ul ah)) cc)) ?_
   rintro d3 _ ⟨d4,rfl,G,⟨_,rfl,cd⟩⟩
   have ce:=cd.sub (M:=[0]) O
   have ak:=G.o
   refine m0 G fun cf=>?_
   obtain⟨H,cg,Y⟩:=ob Y
   refine Mw.t O O (T.call O (p88 (k0:=6) (k1:=7) ce (r84.ul ak) (r89.ul ak) cg)) ?_
   rintro _ _ ⟨ch,rfl,I,⟨d,y,rfl,ci,cj⟩⟩
   have bh:=(ah.trans ak).n I
   have am:=(F.up G).up I
   have bi:=((bb.up af).up G).up I
   refine mc cf I fun d5=>Dv (.tuple [d,y].toArray) O (Mw.p O O (fun _=>R.ext (vs:=[d,y]) (v:=d) O O) (Mw.p O O (fun _=>R.ext (vs:=[d,y]) (v:=y) O O) (Hv d O (Hv y O (Mw.nil (ssr (mv y O (Lw.ln H.2 cj.rd O (Lw.gt O (nl (cn Y (fun Y=>?_) fun Y=>?_)))))))))))
   ·refine sr (la am (sta bi (zaa a.oc (zaa b.oc zaw)) fun d6 ck cl=>?_))
    have an:=bh.t ck
    refine Ni O ?_
    cases Y
    exact Cw.ret (zeM O cl O (Res.mk an ⟨k,x,O,(a.ul an),(b.ul an)⟩))
   ·refine sk (sr (la am (ms O (mi O (mi O (Lw.t O (T.bsS (α:=Int) (xs:=[A,x3]) 8 [] (W:=ch) [vI A,vI x3] (Each.cons ((rdI _)) (Each.cons ((rdI _)) Each.nil)) O) ?_))))))
    rintro ao _ ⟨d7,rfl,J,ap⟩
    have aq:=bh.n J
    have ar:=ci.up J
    refine ms O (mv d O (Lw.r O (R.bd (zs:=[.slice none 0 0,vS ([]:Str), .slice none 0 0]) (cs:=[ao,vS x2,d]) [(0,ao),(1,vS x2),(2,d)] O O O (zaD ap.oc O (zaD O O (zaD ar.oc O zcU)))) (cr Y (fun _=>p85 (K:=[0,6,8]) (x2:=(Vm.Commit.mk ([A,x3]:List Int) x2 H.1)) ((Repo.rd (K:=[0]) x0.Commits x0.Heads (a.ul aq) (b.ul aq)).sub (M:=[0,6,8]) O) ((Commit.rd (K:=[6,8]) ([A,x3]:List Int) x2 H.1 (ap.rd.sub (M:=[6,8]) O) (ar.rd.sub (M:=[6,8]) O)).sub (M:=[0,6,8]) O)) ?_)))
    rintro z _ d8 Y B ⟨au,av,rfl,cm,co⟩
    have L:=cm.sub (M:=[0,6,8]) O
    have N:=co.sub (M:=[0,6,8]) O
    have cp:=aq.n B
    refine al 9 [.slice none 0 0, .slice none 0 0] fun d9 ea e cq=>?_
    have ct:=cp.n e
    refine sta cq (zaa L.oc (zaa N.oc zaw)) fun eb f bj=>?_
    have cu:=ct.t f
    refine nl (ssr (la bj ?_))
    have cv:=L.up ((e.sub (M:=[9]) O).trans (f.sub (M:=[9]) O)) O
    have cw:=N.up ((e.sub (M:=[9]) O).trans (f.sub (M:=[9]) O)) O
    refine ca Y (fun _=>p17 (K:=[0,6,8]) (Repo.rd (K:=[0,6,8]) z.Commits z.Heads cv cw)) fun ec ed Y h=>?_
    have bk:=cu.n h
    have bl:=((((bi.up J).up B).up e).up f).up h
    refine Lw.r O (R.not O) (nl (cn Y (fun Y=>?_) fun Y=>?_))
    ·refine sr (la (((((am.up J).up B).up e).up f).up h) (sta bl (zaa a.oc (zaa b.oc zaw)) fun ee cx cy=>?_))
     have aw:=bk.t cx
     refine Ni O ?_
     cases Y
     exact Cw.ret (zeM O cy O (Res.mk aw ⟨k,x,O,(a.ul aw),(b.ul aw)⟩))
    ·refine sk (sr (la (bj.up h) (sta bl (zaa L.oc (zaa N.oc zaw)) fun ef C cz=>?_)))
     have c0:=bk.t C
     refine Ni O ?_
     have c1:=L.up ((e.sub (M:=[3,9]) O).trans ((f.sub (M:=[3,9]) O).trans ((h.sub (M:=[3,9]) O).trans (C.sub (M:=[3,9]) O)))) O
     have c2:=N.up ((e.sub (M:=[3,9]) O).trans ((f.sub (M:=[3,9]) O).trans ((h.sub (M:=[3,9]) O).trans (C.sub (M:=[3,9]) O)))) O
     obtain⟨ax,c3,ay,az⟩:=zgV _ 6
     have c4:Rd ax [0,8] [au] z.Commits:=by rw[az];exact(c1.dye 6).sub (M:=[0,8]) O
     have c5:Rd ax [0,8] [av] z.Heads:=by rw[az];exact(c2.dye 6).sub (M:=[0,8]) O
     have eg:Rd (α:=List Vm.File) ax [0] [d] H.1:=by rw[az];exact((((((ar.up B).up e).up f).up h).up C).rd.dye 6).sub (M:=[0]) O
     have c6:=c0.t ay
     obtain⟨a0,c7,bm,a1⟩:=zgV _ 8
     have c8:Rd a0 [0] [au] z.Commits:=by rw[a1];exact(c4.dye 8).sub (M:=[0]) O
     have c9:Rd a0 [0] [av] z.Heads:=by rw[a1];exact(c5.dye 8).sub (M:=[0]) O
     have eh:Rd (α:=List Int) a0 [0] [ao] ([A,x3]:List Int):=by rw[a1];exact(((((((ap.up B).up e).up f).up h).up C).up ay).rd.dye 8).sub (M:=[0]) O
     have da:=c6.t bm
     cases Y
     rw[<- c7.trans (c3)]
     exact Cw.ret (zeM O ((cz.up ay).up bm) O (Res.mk da ⟨au,av,O,c8,c9⟩))
theorem p78 {x0 d f x1 x2 x3 r}(h:Rd W K [d,f] x0)(Y:Vm.zc7 x0 x1 x2 x3=some r):Q1 78 [.agg [d,f].toArray,vS x1,vS x2,vI x3] W [] fun W' v=> ∃ a b,v = .tuple [.agg [a,b].toArray,vI r.2].toArray/\Rd W' (0::K) [a] r.1.Commits/\Rd W' (0::K) [b] r.1.Heads:=
 (c78 (h.view _) Y).ad (fk 0) fun _ _ ⟨a,b,e,i,k⟩=>⟨a,b,e,i.back O,k.back O⟩
theorem c65 {x0 U V x1 x2 x3 r}(h0:Rd W0 [0] [U,V] x0)(Y:Vm.zbj x0 x1 x2 x3=some r):Q0 65 [.agg [U,V].toArray,vS x1,vS x2,vI x3] W0 fun Wf v=> ∃ W X,v = .tuple [.agg [W,X].toArray,vI r.2].toArray/\Rd Wf [0] [W] r.1.Commits/\Rd Wf [0] [X] r.1.Heads:=by
 unfold Vm.zbj at Y
 obtain⟨cj,ck,Z,h,A⟩:=Repo.split h0
 simp only[List.cons.injEq,and_true,true_and]at Z
 obtain⟨rfl,rfl⟩:=Z
 refine zap.of Tryz.func65 O O O O (sr (bo 2 O fun g1 W1 l1 b1=>?_))
 have a2:=l1.o
 refine al 3 [.slice none 0 0, .slice none 0 0] fun g3 W3 F b3=>?_
 have G:=a2.n F
 refine Ni O (ssr (la (b1.up F) (ca Y (fun _=>p17 (Repo.rd (K:=[0]) x0.Commits x0.Heads (h.ul G) (A.ul G))) fun z8 a0 Y l10=>?_)))
 have i:=G.n l10
 have B:=(b1.up F).up l10
 refine Lw.r O (R.not O) (nl (cn Y (fun Y=>?_) fun Y=>?_))
 ·refine sr (Lw.r O (R.bd (zs:=[.slice none 0 0, .slice none 0 0]) (cs:=[.slice none 0 0, .slice none 0 0]) [] O O O zcU) (sta (b3.up l10) (zaa O (zaa O zaw)) fun ct a1 a3=>?_))
  have a5:=i.t a1
  refine Ni O ?_
  cases Y
  exact Cw.ret (zeM O a3 O (Res.mk a5 ⟨.slice none 0 0, .slice none 0 0,O,(rdN (K:=[0])),(rdN (K:=[0]))⟩))
 ·refine sk (Cw.seq ?_)
  obtain⟨a6,a7,Y⟩:=za1 Y
  refine Cw.join 14 31 [31] (fun l w=> ∃ H I,CW.w I=w/\Le [] a0 I/\l=[vB H]/\a6 H=some r) ?_ ?_
  ·rintro _ _ σ ⟨H,I,rfl,C,rfl,Y⟩
   rw[a7]at Y
   have b:=i.n C
   have ae:=(b3.up l10).up C
   refine cn Y (fun Y=>?_) fun Y=>?_
   ·refine sr (la (B.up C) (cr Y (fun _=>p36 (k0:=4) (k1:=5) (Repo.rd (K:=[0]) x0.Commits x0.Heads (h.ul b) (A.ul b))) ?_))
    rintro af _ cu Y ah ⟨ai,aj,rfl,ak,am⟩
    have a8:=b.n ah
    refine sta (ae.up ah) (zaa ak.oc (zaa am.oc zaw)) fun cv J a9=>?_
    have ba:=a8.t J
    refine Ni O ?_
    obtain⟨bb,bc,L,be⟩:=zgV _ 4
    have bg:Rd (α:=List Vm.Commit) bb [0] [ai] af.Commits:=by rw[be];exact((ak.up J).rd.dye 4).sub (M:=[0]) O
    have bh:=ba.t L
    obtain⟨bi,bj,an,bk⟩:=zgV _ 5
    have bl:Rd (α:=List Vm.Head) bi [0] [aj] af.Heads:=by rw[bk];exact(((am.up J).up L).rd.dye 5).sub (M:=[0]) O
    have ao:=an.s
    cases Y
    rw[<- bj.trans (bc)]
    exact Cw.ret (zeM O ((a9.up L).up an) O (Res.mk (bh.trans ao) ⟨ai,aj,O,(bg.ul ao),bl⟩))
   ·refine sk (sr (la (B.up C) (cr Y (fun _=>p36 (k0:=6) (k1:=7) (Repo.rd (K:=[0]) x0.Commits x0.Heads (h.ul b) (A.ul b))) ?_)))
    rintro d _ cw Y ap ⟨bm,bn,rfl,aq,ar⟩
    have bp:=b.n ap
    refine ms O (ms O (mi O (cr Y (fun _=>p78 (K:=[6,7]) (x0:=(Vm.Repo.mk d.Commits d.Heads)) (Repo.rd (K:=[6,7]) d.Commits d.Heads (aq.rd.sub (M:=[6,7]) O) (ar.rd.sub (M:=[6,7]) O))) ?_)))
    rintro a _ cx Y D ⟨e,f,rfl,bq,br⟩
    have au:=bq.sub (M:=[0,6,7]) O
    have av:=br.sub (M:=[0,6,7]) O
    have bu:=bp.n D
    refine Lw.r O (R.ext (vs:=[.agg [e,f].toArray,vI a.2]) (v:= .agg [e,f].toArray) O O) (Lw.r O (R.ext (vs:=[.agg [e,f].toArray,vI a.2]) (v:=vI a.2) O O) (sta ((ae.up ap).up D) (zaa au.oc (zaa av.oc zaw)) fun cy k bv=>?_))
    have bw:=bu.t k
    refine Ni O ?_
    have bz:=au.up (k.sub (M:=[3]) O) O
    have b0:=av.up (k.sub (M:=[3]) O) O
    obtain⟨N,b2,P,Q⟩:=zgV _ 6
    have b4:Rd N [0,7] [e] a.1.Commits:=by rw[Q];exact(bz.dye 6).sub (M:=[0,7]) O
    have b5:Rd N [0,7] [f] a.1.Heads:=by rw[Q];exact(b0.dye 6).sub (M:=[0,7]) O
    have cz:Rd (α:=List Vm.Commit) N [0] [bm] d.Commits:=by rw[Q];exact(((aq.up D).up k).rd.dye 6).sub (M:=[0]) O
    have b6:=bw.t P
    obtain⟨S,b7,aw,T⟩:=zgV _ 7
    have b8:Rd S [0] [e] a.1.Commits:=by rw[T];exact(b4.dye 7).sub (M:=[0]) O
    have b9:Rd S [0] [f] a.1.Heads:=by rw[T];exact(b5.dye 7).sub (M:=[0]) O
    have c0:Rd (α:=List Vm.Head) S [0] [bn] d.Heads:=by rw[T];exact((((ar.up D).up k).up P).rd.dye 7).sub (M:=[0]) O
    have cb:=b6.t aw
    cases Y
    rw[<- b7.trans (b2)]
    exact Cw.ret (zeM O ((bv.up P).up aw) O (Res.mk cb ⟨e,f,O,b8,b9⟩))
  ·refine rg (la B (ms O (ca Y (fun _=>p59 (Repo.rd (K:=[0]) x0.Commits x0.Heads (h.ul i) (A.ul i))) fun c1 cc Y x=>?_)))
   have cd:=i.n x
   refine Lw.lt O (mb O (bs Y (fun y Y=>?_) fun y Y=>?_))
   ·exact psk 3 y O (Pb y O (mb O (psk 7 O O (Pb O O (nl ((ag) ⟨true,cc,O,x,O,Y⟩))))))
   ·refine wak 3 y (ms O (ca Y (fun _=>p31) fun c2 ce Y E=>?_))
    have cf:=cd.n E
    refine Lw.r O (R.not O) (Pb y O (mb O (bs Y (fun z Y=>?_) fun z Y=>?_)))
    ·exact psk 7 z O (Pb z O (nl ((ag) ⟨true,ce,O,(x.j E).w,O,Y⟩)))
    ·exact wak 7 z (mi O (fl ((B.up x).up E) O (Lw.ln x0.Commits (h.ul cf) O (Lw.sub O (ca Y (fun _=>p30) fun cg ch Y ci=>Lw.r O (R.not O) (Pb z O (nl ((ag) ⟨(!cg),ch,O,((x.j E).j ci).w,O,Y⟩))))))))
theorem p65 {x0 d f x1 x2 x3 r}(h:Rd W K [d,f] x0)(Y:Vm.zbj x0 x1 x2 x3=some r):Q1 65 [.agg [d,f].toArray,vS x1,vS x2,vI x3] W [] fun W' v=> ∃ a b,v = .tuple [.agg [a,b].toArray,vI r.2].toArray/\Rd W' (0::K) [a] r.1.Commits/\Rd W' (0::K) [b] r.1.Heads:=
 (c65 (h.view _) Y).ad (fk 0) fun _ _ ⟨a,b,e,i,k⟩=>⟨a,b,e,i.back O,k.back O⟩
theorem c80 {x0 k x x1 r}(D:Rd W0 [0] [k,x] x0)(Y:Vm.zbe x0 x1=some r):Q0 80 [.agg [k,x].toArray,vI x1] W0 fun Wf v=> ∃ y,v=y/\Rd Wf [0] [y] r:=by
 unfold Vm.zbe at Y
 obtain⟨G,H,z,d,I⟩:=Repo.split D
 simp only[List.cons.injEq,and_true,true_and]at z
 obtain⟨rfl,rfl⟩:=z
 refine zap.of Tryz.func80 O O O O (sr (bo 2 O fun J L E e=>?_))
 have b:=E.o
 refine Nv (.slice none 0 0) O (ssr (fl e O (mi O ?_)))
 obtain⟨F,A,Y⟩:=ob Y
 refine Lw.r O (R.ix (α:=Commit) (d.ul b) A O O O) (Lw.fa O ?_)
 obtain⟨M,c7,r8⟩:=(Commit.at0 ((d.ul b).at_ A)).cell O
 refine Lw.r O (R.ld O O c7) (Lw.ln F.Parents r8 O (Lw.eq O (nl (cn Y (fun Y=>?_) fun Y=>?_))))
 ·refine sr (Nv (.slice none 0 0) O ?_)
  cases Y
  exact Cw.ret (zhg O (Res.mk b ⟨.slice none 0 0,O,(rdN (K:=[0]))⟩))
 ·refine sk (Cw.seq (Cw.draw [] [(0,0),(1,1),(2,0),(3,1),(4,0),(5,0),(6,0),(7,1),(8,0),(9,1),(10,0),(11,0),(12,1),(13,0)] mixed (by kernel_rfl) fun N l10=>?_))
  have B:=b.n l10
  refine Dfl (e.up l10) O O O (Dfl (e.up l10) O O O (Di O ?_))
  obtain⟨P,f,Y⟩:=ob Y
  have a:=d.ul B
  refine Mw.p O O (fun _=>R.ix (α:=Commit) a f O O O) (Df O ?_)
  obtain⟨Q,c17,r18⟩:=(Commit.at0 (a.at_ f)).cell O
  refine Mw.q O O (fun _ c=>R.ld O O (zam (Commit.at0 (a.at_ f)).1 O c17 c)) ?_
  obtain⟨S,h,Y⟩:=ob Y
  refine Mw.p O O (fun _=>R.ix (α:=Int) r18 h O O O) (Mw.q O O (fun _ c=>R.ld O O (zam (r18.at_ h).1 O (r18.at_ h).int c)) ?_)
  obtain⟨T,i,Y⟩:=ob Y
  refine Mw.p O O (fun _=>R.ix (α:=Commit) a i O O O) (Df O ?_)
  obtain⟨C,c24,r25⟩:=(Commit.at2 (a.at_ i)).cell O
  refine Mw.q O O (fun _ c=>R.ld O O (zam (Commit.at2 (a.at_ i)).1 O c24 c)) (Hv C O (Mw.nil ?_))
  cases Y
  exact Cw.ret (zhg O (Res.mk B ⟨C,O,r25⟩))
theorem p80 {x0 b d x1 r}(f:Rd W K [b,d] x0)(Y:Vm.zbe x0 x1=some r):Q1 80 [.agg [b,d].toArray,vI x1] W [] fun W' v=> ∃ a,v=a/\Rd W' (0::K) [a] r:=
 (c80 (f.view _) Y).ad (fk 0) fun _ _ ⟨a,e,h⟩=>⟨a,e,h.back O⟩
theorem c79 {x0 B C x1 x2 x3 H x4 I r}(h0:Rd W0 [0] [B,C] x0)(h3:Rd W0 [0] [H] x3)(h4:Rd W0 [0] [I] x4)(Y:Vm.zcb x0 x1 x2 x3 x4=some r):Q0 79 [.agg [B,C].toArray,vS x1,vS x2,H,I] W0 fun Wf v=> ∃ ak am,v = .tuple [.agg [ak,am].toArray,vI r.2].toArray/\Rd Wf [0] [ak] r.1.Commits/\Rd Wf [0] [am] r.1.Heads:=by
 unfold Vm.zcb at Y
 obtain⟨b7,b8,an,e,h⟩:=Repo.split h0
 simp only[List.cons.injEq,and_true,true_and]at an
 obtain⟨rfl,rfl⟩:=an
 refine zap.of Tryz.func79 O O O O (sr (bo 2 O fun g1 W1 l1 b1=>?_))
 have a2:=l1.o
 refine al 3 [.slice none 0 0, .slice none 0 0] fun g3 W3 J b3=>?_
 have L:=a2.n J
 refine Ni O (sr (la (b1.up J) (ms O (ca Y (fun _=>p59 (Repo.rd (K:=[0]) x0.Commits x0.Heads (e.ul L) (h.ul L))) fun x ce Y l10=>?_))))
 have y:=L.n l10
 have ap:=(b1.up J).up l10
 refine Ni O (sr (mv H O (fl ap O (mi O ?_))))
 obtain⟨cf,aq,Y⟩:=ob Y
 refine Lw.r O (R.ix (α:=Commit) (e.ul y) aq O O O) (Lw.fa O ?_)
 obtain⟨cg,c18,r19⟩:=(Commit.at2 ((e.ul y).at_ aq)).cell O
 refine Lw.r O (R.ld O O c18) (mv I O (cr Y (fun _=>p88 (k0:=4) (k1:=5) (h3.ul y) r19 (h4.ul y)) ?_))
 rintro D _ a7 Y N ⟨a,i,rfl,a8,a9⟩
 have ar:=y.n N
 have P:=ap.up N
 have au:=(b3.up l10).up N
 refine mv (.tuple [a,i].toArray) O (Lw.r O (R.ext (vs:=[a,i]) (v:=a) O O) (Lw.r O (R.ext (vs:=[a,i]) (v:=i) O O) (Gv a O (Nv i O (ssr (mv i O (Lw.ln D.2 a9.rd O (Lw.gt O (nl (cn Y (fun Y=>?_) fun Y=>?_))))))))))
 ·refine sr (la P (sta au (zaa e.oc (zaa h.oc zaw)) fun ch ba bb=>?_))
  have Q:=ar.t ba
  refine Ni O ?_
  cases Y
  exact Cw.ret (zeM O bb O (Res.mk Q ⟨B,C,O,(e.ul Q),(h.ul Q)⟩))
 ·refine sk (sr (la P (ms O (mi O (Lw.t O (T.bsS (α:=Int) (xs:=[x]) 6 [] (W:=a7) [vI x] (Each.cons ((rdI _)) Each.nil) O) ?_)))))
  rintro S _ ⟨ci,rfl,E,U⟩
  have V:=ar.n E
  have X:=a8.up E
  refine ms O (mv a O (Lw.r O (R.bd (zs:=[.slice none 0 0,vS ([]:Str), .slice none 0 0]) (cs:=[S,vS x2,a]) [(0,S),(1,vS x2),(2,a)] O O O (zaD U.oc O (zaD O O (zaD X.oc O zcU)))) (cr Y (fun _=>p85 (K:=[0,4,6]) (x2:=(Vm.Commit.mk ([x]:List Int) x2 D.1)) ((Repo.rd (K:=[0]) x0.Commits x0.Heads (e.ul V) (h.ul V)).sub (M:=[0,4,6]) O) ((Commit.rd (K:=[4,6]) ([x]:List Int) x2 D.1 (U.rd.sub (M:=[4,6]) O) (X.rd.sub (M:=[4,6]) O)).sub (M:=[0,4,6]) O)) ?_)))
  rintro k _ cj Y z ⟨Z,aa,rfl,bc,be⟩
  have F:=bc.sub (M:=[0,4,6]) O
  have G:=be.sub (M:=[0,4,6]) O
  have bg:=V.n z
  refine al 7 [.slice none 0 0, .slice none 0 0] fun ck cl b bh=>?_
  have bi:=bg.n b
  refine sta bh (zaa F.oc (zaa G.oc zaw)) fun cm d av=>?_
  have bj:=bi.t d
  refine nl (ssr (la av ?_))
  have bk:=F.up ((b.sub (M:=[7]) O).trans (d.sub (M:=[7]) O)) O
  have bl:=G.up ((b.sub (M:=[7]) O).trans (d.sub (M:=[7]) O)) O
  refine ca Y (fun _=>p17 (K:=[0,4,6]) (Repo.rd (K:=[0,4,6]) k.Commits k.Heads bk bl)) fun co cp Y f=>?_
  have aw:=bj.n f
  have ax:=((((au.up E).up z).up b).up d).up f
  refine Lw.r O (R.not O) (nl (cn Y (fun Y=>?_) fun Y=>?_))
  ·refine sr (la (((((P.up E).up z).up b).up d).up f) (sta ax (zaa e.oc (zaa h.oc zaw)) fun cq bm bn=>?_))
   have ac:=aw.t bm
   refine Ni O ?_
   cases Y
   exact Cw.ret (zeM O bn O (Res.mk ac ⟨B,C,O,(e.ul ac),(h.ul ac)⟩))
  ·refine sk (sr (la (av.up f) (sta ax (zaa F.oc (zaa G.oc zaw)) fun ct A bp=>?_)))
   have bq:=aw.t A
   refine Ni O ?_
   have br:=F.up ((b.sub (M:=[3,7]) O).trans ((d.sub (M:=[3,7]) O).trans ((f.sub (M:=[3,7]) O).trans (A.sub (M:=[3,7]) O)))) O
   have bu:=G.up ((b.sub (M:=[3,7]) O).trans ((d.sub (M:=[3,7]) O).trans ((f.sub (M:=[3,7]) O).trans (A.sub (M:=[3,7]) O)))) O
   obtain⟨ae,bv,af,ah⟩:=zgV _ 4
   have bw:Rd ae [0,6] [Z] k.Commits:=by rw[ah];exact(br.dye 4).sub (M:=[0,6]) O
   have bz:Rd ae [0,6] [aa] k.Heads:=by rw[ah];exact(bu.dye 4).sub (M:=[0,6]) O
   have cu:Rd (α:=List Vm.File) ae [0] [a] D.1:=by rw[ah];exact((((((X.up z).up b).up d).up f).up A).rd.dye 4).sub (M:=[0]) O
   have b0:=bq.t af
   obtain⟨ai,b2,ay,aj⟩:=zgV _ 6
   have b4:Rd ai [0] [Z] k.Commits:=by rw[aj];exact(bw.dye 6).sub (M:=[0]) O
   have b5:Rd ai [0] [aa] k.Heads:=by rw[aj];exact(bz.dye 6).sub (M:=[0]) O
   have cv:Rd (α:=List Int) ai [0] [S] ([x]:List Int):=by rw[aj];exact(((((((U.up z).up b).up d).up f).up A).up af).rd.dye 6).sub (M:=[0]) O
   have b6:=b0.t ay
   cases Y
   rw[<- b2.trans (bv)]
   exact Cw.ret (zeM O ((bp.up af).up ay) O (Res.mk b6 ⟨Z,aa,O,b4,b5⟩))
theorem p79 {x0 d f x1 x2 x3 h x4 i r}(k:Rd W K [d,f] x0)(x:Rd W K [h] x3)(y:Rd W K [i] x4)(Y:Vm.zcb x0 x1 x2 x3 x4=some r):Q1 79 [.agg [d,f].toArray,vS x1,vS x2,h,i] W [] fun W' v=> ∃ a b,v = .tuple [.agg [a,b].toArray,vI r.2].toArray/\Rd W' (0::K) [a] r.1.Commits/\Rd W' (0::K) [b] r.1.Heads:=
 (c79 (k.view _) (x.view _) (y.view _) Y).ad (fk 0) fun _ _ ⟨a,b,e,z,A⟩=>⟨a,b,e,z.back O,A.back O⟩
end Go.Sx
