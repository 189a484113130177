/- Walks: each function answers as its model, printed by a program of ours. Conditions: the arguments read as they are given. -/
import Derived.Test.YtpijdodljeieaaaGreatDoorBTs
import Derived.Test.YtpijdodljeieaaaGreatDoorBM14
import Derived.Test.YtpijdodljeieaaaGreatDoorBW0
import Derived.Test.YtpijdodljeieaaaGreatDoorBW1
import Derived.Test.YtpijdodljeieaaaGreatDoorBW11
import Derived.Test.YtpijdodljeieaaaGreatDoorBW13
import Derived.Test.YtpijdodljeieaaaGreatDoorBW17
import Derived.Test.YtpijdodljeieaaaGreatDoorBW3
import Derived.Test.YtpijdodljeieaaaGreatDoorBW6
import Derived.Test.YtpijdodljeieaaaGreatDoorBW7
import Derived.Test.YtpijdodljeieaaaGreatDoorBW9
namespace Go.Sx
open Go Go.Proofs Go.Vm Rp
set_option linter.unusedVariables false
set_option linter.unusedSimpArgs false
variable {W W0:CW}{K:List Nat}
theorem c117 {x0 f h x1 H I r}(hB0:Bx W0 2 f [h,vI x0.p])(x:Rd W0 [0] [h] x0.b)(h1:Rd W0 [0] [H,I] x1)(Y:Vm.zjr x0 x1=some r):Q0 117 [ptr (bx f), .agg [H,I].toArray] W0 fun Wf v=> ∃ J,v=J/\OwS Wf [31] [] [J] r.1/\Bx Wf 2 f [h,vI r.2]:=by
 unfold Vm.zjr at Y
 obtain⟨bc,be,K,ah,bg⟩:=Repo.split h1
 simp only[List.cons.injEq,and_true,true_and]at K
 obtain⟨rfl,rfl⟩:=K
 refine zaT.of Tryz.func117 O O O O (sr (bo 3 O fun g1 W1 L b1=>?_))
 have a2:=L.o
 have b3:=hB0.up L
 refine Nv (.slice none 0 0) O (sr (Lw.t O (T.lit0 (α:=Int) 4 []) ?_))
 rintro M _ ⟨W4,rfl,y,o4⟩
 have N:=a2.n y
 refine Nv M O (ssr (mp O (cr Y (fun _=>p78 (c0:=2) (x0:=x0) (b3.up y) (x.ul N) O) ?_)))
 rintro P _ Q Y z ⟨rfl,an⟩
 have ao:=N.t z
 refine Ni O (Cw.block ?_)
 obtain⟨ap,aq,Y⟩:=zc4 Y
 refine Cw.loop 10 21 [5,6] (fun m l w=> ∃ A i d a e,CW.w e=w/\Le [2,4] Q e/\l=[a,vI i]/\Ow e 4 [] [a] A/\Bx e 2 f [h,vI d]/\Vm.zhB x0 x1 ap m A i d=some r) _ ⟨([]:List Int),P.1,P.2,M,Q,O,Le.refl _ _,O,(o4.up z),an,Y⟩ ?_
 rintro(_ |bk) _ _ σ ⟨A,i,d,a,e,rfl,B,rfl,C,R,Y⟩
 ·cases Y
 unfold Vm.zhB at Y
 have k:=ao.t B
 refine ssr (mi O (Lw.gt O (nl (cn Y (fun Y=>?_) fun Y=>?_))))
 ·refine sk (Cw.seq (Cw.block (rg (mv a O (mp O (fl (((b1.up y).up z).up B) O (Lw.ln x1.Commits (ah.ul k) O (cr Y (fun _=>p78 (c0:=2) (x0:=(Vm.l30Rd.mk x0.b d)) R (x.ul k) O) ?_))))))))
  rintro D _ bl Y S ⟨rfl,ar⟩
  refine Lw.t O (T.bs 5 [vI D.1] (cs:=[vI D.1]) O O (bsv O)) ?_
  rintro _ _ ⟨bm,bn,rfl,rfl,E,au⟩
  obtain⟨av,aw,Y⟩:=ob Y
  refine Lw.t O (T.app1S (α:=Int) (K':=[]) ((C.up S).up E) au (rdI _) O O aw) ?_
  rintro U _ ⟨ax,rfl,V,ay⟩
  exact Nv U O (rg (mi O (Lw.sub O (Ni O ((agm) ⟨av,w64 (i-1),D.2,U,ax,O,(((B.j S).j E).j V).w,O,ay,((ar.up E).up V),Y⟩)))))
 ·refine Cw.exit ?_
  rw[aq]at Y
  refine ssr (mp O (cr Y (fun _=>p78 (c0:=2) (x0:=(Vm.l30Rd.mk x0.b d)) R (x.ul k) O) ?_))
  rintro bp _ bq Y F ⟨rfl,W⟩
  have X:=k.t F
  refine Lw.eq O (nl (cn Y (fun Y=>?_) fun Y=>?_))
  ·refine sr (mv a O (Lw.t O (T.bs 6 [vI (-1)] (cs:=[vI (-1)]) O O (bsv O)) ?_))
   rintro _ _ ⟨br,bu,rfl,rfl,G,az⟩
   have a0:=X.n G
   obtain⟨bv,a1,Y⟩:=ob Y
   refine Lw.t O (T.app1S (α:=Int) (K':=[]) ((C.up F).up G) az (rdI _) O O a1) ?_
   rintro Z _ ⟨bw,rfl,aa,a3⟩
   have a4:=a0.t aa
   refine Nv Z O ?_
   obtain⟨bz,a6,ac,a7⟩:=a3.dyeO 31
   have a8:=a4.t ac
   cases Y
   rw[<- a6]
   exact Cw.ret (zmk O (Res.mk a8 ⟨Z,O,a7.s,(((W.up G).up aa).up ac)⟩))
  ·refine sk (sr (mv a O (Nv a O ?_)))
   obtain⟨b0,a9,ae,ba⟩:=(C.up F).dyeO 31
   have bb:=X.t ae
   cases Y
   rw[<- a9]
   exact Cw.ret (zmk O (Res.mk bb ⟨a,O,ba.s,(W.up ae)⟩))
theorem p117 {x0 d f x1 h i k0 c0 r}(hB0:Bx W c0 d [f,vI x0.p])(k:Rd W K [f] x0.b)(x:Rd W K [h,i] x1)(hJ:okJ K [c0]=true)(Y:Vm.zjr x0 x1=some r):Q1 117 [ptr (bx d), .agg [h,i].toArray] W [c0] fun W' v=> ∃ a,v=a/\Ow W' k0 [] [a] r.1/\Bx W' c0 d [f,vI r.2]:=
 zaT.adJ (J:=[c0]) (fun c=>bif Nat.beq c 0 then 0 else bif Nat.beq c 2 then c0 else bif Nat.beq c 31 then k0 else 0) (c117 (hB0.viewJ 0 hJ) (k.view _) (x.view _) Y) fun _ _ ⟨a,e,y,z⟩=>⟨a,e,y.one1.backN O,Bx.backJ 0 z O⟩
theorem c52 {x0 ac r}(h0:Rd W0 [0] [ac] x0)(Y:Vm.ziW x0=some r):Q0 52 [ac] W0 fun Wf v=> ∃ aw ax u1,v = .tuple [.agg [aw,ax].toArray,u1,vI r.2.2].toArray/\OwS Wf [31] [] [aw] r.1.Commits/\OwS Wf [32] [] [ax] r.1.Heads/\OwS Wf [33] [] [u1] r.2.1:=by
 unfold Vm.ziW at Y
 refine zaT.of Tryz.func52 O O O O (sr (al 2 [.slice none 0 0, .slice none 0 0] fun g1 W1 l1 b1=>?_))
 have a2:=l1.o
 refine Gv (.slice none 0 0) O (Ni O (sr (mv ac O (cr Y (fun _=>p75 (k0:=3) (h0.ul a2)) ?_))))
 rintro x _ W6 Y l6 ⟨bw,ae,rfl,bz,b0⟩
 have y:=b0.sub (M:=[0]) O
 have a8:=a2.n l6
 refine Np O (sr (mp O (cr Y (fun _=>p76 (k0:=4) (k1:=5) (c0:=3) (x0:=x) bz y O) ?_)))
 rintro a _ dh Y a1 ⟨e,f,rfl,a3,a4,b3⟩
 have af:=a1.s
 refine al 6 [.slice none 0 0, .slice none 0 0] fun di dj h b4=>?_
 have ah:=h.o
 refine sta b4 (zaf (a3.up h).oc (zaf (a4.up h).oc zaW)) fun dk E a5=>?_
 have ai:=E.s
 have a6:=(a3.up h).up E
 have aj:=(a4.up h).up E
 refine nl (sr (mp O (la a5 (cr Y (fun _=>p77 (K:=[0,4,5]) (c0:=3) (x0:=(Vm.l30Rd.mk x.b a.2)) (x1:=(Vm.Repo.mk a.1.Commits a.1.Heads)) ((b3.up h).up E) ((y.ul ((af.trans ah).trans ai)).sub (M:=[0,4,5]) O) ((Repo.rd (K:=[4,5]) a.1.Commits a.1.Heads (a6.rd.sub (M:=[4,5]) O) (aj.rd.sub (M:=[4,5]) O)).sub (M:=[0,4,5]) O) O) ?_))))
 rintro ak _ b5 Y z ⟨rfl,a7⟩
 have a9:=z.s
 have N:=a6.up z
 have P:=a5.up z
 refine Ni O (Cw.seq ?_)
 obtain⟨b6,b7,Y⟩:=zc4 Y
 refine Cw.join 15 29 [29] (fun l w=> ∃ am F G an H,CW.w H=w/\Le [3] b5 H/\l=[vB am]/\Rd H [0] [an] F/\Bx H 3 bw [an,vI G]/\b6 am F G=some r) ?_ ?_
 ·rintro _ _ σ ⟨am,F,G,an,H,rfl,i,rfl,r39,ba,Y⟩
  rw[b7]at Y
  have bb:=((((a8.trans af).trans ah).trans ai).trans a9).t i
  have ao:=(aj.up z).up i
  have bc:=(((((b1.up l6).up a1).up h).up E).up z).up i
  refine cn Y (fun Y=>?_) fun Y=>?_
  ·refine Cw.seq (Cw.draw [2,3] [(0,1),(1,1),(2,0),(3,0),(4,1),(5,0),(8,0),(6,2),(7,2),(9,2),(10,0),(11,0)] mixed (by kernel_rfl) fun dl A=>?_)
   have be:=A.o
   have ap:=(N.up i).up A
   have aq:=(P.up i).up A
   refine Mw.q O O (fun _ c=>R.lda (cs:=[e,f]) (aq.clcs O c) O O) (Mw.q O O (fun _ c=>R.lda (cs:=[e,f]) (aq.clcs O c) O O) (Dp O (Dfl aq O O O (Mw.p O O (fun _=>zo6 (xs:=a.1.Commits) ap.rd O) (Di O ?_)))))
   obtain⟨dm,b8,Y⟩:=ob Y
   refine Mw.t O O (T.call O (p78 (c0:=3) (x0:=(Vm.l30Rd.mk F G)) (ba.up A) (r39.ul be) O b8)) ?_
   rintro _ _ ⟨dn,rfl,B,⟨rfl,dp⟩⟩
   have b9:=(bb.trans be).t B
   have ar:=(ao.up A).up B
   refine m0 B fun cb=>?_
   obtain⟨dq,cc,Y⟩:=ob Y
   refine Mw.t O O (T.call O (p109 (K:=[4,5]) (k0:=7) (x0:=(Vm.Repo.mk a.1.Commits a.1.Heads)) (Repo.rd (K:=[4,5]) a.1.Commits a.1.Heads ((ap.up B).rd.sub (M:=[4,5]) O) (ar.rd.sub (M:=[4,5]) O)) cc)) ?_
   rintro bg _ ⟨dr,rfl,C,⟨_,rfl,cd⟩⟩
   have ce:=b9.n C
   have bh:=(ap.up B).up C
   refine mc cb C fun cf=>Mw.tu O (T.sta (vs:=[e,f]) (((bc.up A).up B).up C) O O (zaf bh.oc (zaf (ar.up C).oc zaW)) O O) ?_
   rintro _ _ ⟨ds,rfl,I,cg⟩
   have ch:=ce.t I
   refine mc cf I fun dt=>Hv bg O (Hi O (Mw.nil ?_))
   obtain⟨du,ci,Q,cj⟩:=(bh.up I).dyeO 31
   have ck:=ch.t Q
   obtain⟨dv,cl,S,cm⟩:=(((ar.up C).up I).up Q).dyeO 32
   have co:=ck.t S
   obtain⟨dw,cp,U,cq⟩:=(((cd.up I).up Q).up S).dyeO 33
   have ct:=co.t U
   cases Y
   rw[<- cp.trans (cl.trans (ci))]
   exact Cw.ret (zx3 (zlR.c O (((cg.up Q).up S).up U) (zlR.t O (zlR.t O zlR.n))) (Res.mk ct ⟨e,f,bg,O,((cj.up S).up U).s,(cm.up U).s,cq.s⟩))
  ·refine sk (Cw.seq (Cw.draw [3] [(0,1),(1,0),(2,1),(4,0),(3,2),(5,3),(6,0),(7,0)] mixed (by kernel_rfl) fun dx k=>?_))
   have bi:=k.o
   have au:=(N.up i).up k
   have bj:=(P.up i).up k
   refine Mw.q O O (fun _ c=>R.lda (cs:=[e,f]) (bj.clcs O c) O O) (Dp O (Mw.q O O (fun _ c=>R.lda (cs:=[e,f]) (bj.clcs O c) O O) (Di O ?_)))
   obtain⟨dy,cu,Y⟩:=ob Y
   refine Mw.t O O (T.call O (p117 (K:=[0,4,5]) (k0:=8) (c0:=3) (x0:=(Vm.l30Rd.mk F G)) (x1:=(Vm.Repo.mk a.1.Commits a.1.Heads)) (ba.up k) ((r39.ul bi).sub (M:=[0,4,5]) O) ((Repo.rd (K:=[4,5]) a.1.Commits a.1.Heads (au.rd.sub (M:=[4,5]) O) ((ao.up k).rd.sub (M:=[4,5]) O)).sub (M:=[0,4,5]) O) O cu)) ?_
   rintro bk _ ⟨dz,rfl,D,⟨_,rfl,cv,d0⟩⟩
   have cw:=(bb.trans bi).t D
   have bl:=(ao.up k).up D
   refine m0 D fun d1=>Mw.lu O (T.sta (vs:=[e,f]) ((bc.up k).up D) O O (zaf (au.up D).oc (zaf bl.oc zaW)) O O) ?_
   rintro _ _ ⟨d2,rfl,V,cx⟩
   have cy:=cw.t V
   refine Hv bk O (Hi O (Mw.nil ?_))
   obtain⟨d3,cz,W,c1⟩:=((au.up D).up V).dyeO 31
   have c2:=cy.t W
   obtain⟨d4,c3,X,c4⟩:=((bl.up V).up W).dyeO 32
   have c5:=c2.t X
   obtain⟨d5,c6,Z,c7⟩:=(((cv.up V).up W).up X).dyeO 33
   have c8:=c5.t Z
   cases Y
   rw[<- c6.trans (c3.trans (cz))]
   exact Cw.ret (zx3 (zlR.c O (((cx.up W).up X).up Z) (zlR.t O (zlR.t O zlR.n))) (Res.mk c8 ⟨e,f,bk,O,((c1.up X).up Z).s,(c4.up Z).s,c7.s⟩))
 ·refine rg (mi O (fl P O (Lw.ln a.1.Commits N.rd O (Lw.sub O (ca Y (fun _=>p67) fun d6 c9 Y d=>?_)))))
  have bm:=(((af.trans ah).trans ai).trans a9).n d
  refine mb O (bs Y (fun J Y=>?_) fun J Y=>?_)
  ·refine wak 2 J (la (P.up d) (ca Y (fun _=>p80 (K:=[4,5]) (x0:=(Vm.Repo.mk a.1.Commits a.1.Heads)) (Repo.rd (K:=[4,5]) a.1.Commits a.1.Heads ((N.up d).rd.sub (M:=[4,5]) O) (((aj.up z).up d).rd.sub (M:=[4,5]) O))) fun d7 da Y aa=>?_))
   have av:=bm.n aa
   have bn:=(a7.up d).up aa
   refine Pb J O (mb O (bs Y (fun L Y=>?_) fun L Y=>?_))
   ·refine wak 3 L (mp O (cr Y (fun _=>p78 (c0:=3) (x0:=(Vm.l30Rd.mk x.b ak.2)) bn (y.ul av) O) ?_))
    rintro bp _ db Y bq ⟨rfl,dc⟩
    have dd:=av.t bq
    exact Lw.gt O (Pb L O (nl ((ag) ⟨decide (0< (bp.1:Int)),x.b,bp.2,ae,db,O,((d.j aa).j bq).w,O,(y.ul dd),dc,Y⟩)))
   ·exact psk 3 L O (Pb L O (nl ((ag) ⟨false,x.b,ak.2,ae,da,O,(d.j aa).w,O,(y.ul av),bn,Y⟩)))
  ·exact psk 2 J O (Pb J O (mb O (psk 3 O O (Pb O O (nl ((ag) ⟨false,x.b,ak.2,ae,c9,O,d.w,O,(y.ul bm),(a7.up d),Y⟩))))))
theorem p52 {x0 f k0 k1 k2 r}(h:Rd W K [f] x0)(Y:Vm.ziW x0=some r):Q1 52 [f] W [] fun W' v=> ∃ a b d,v = .tuple [.agg [a,b].toArray,d,vI r.2.2].toArray/\Ow W' k0 [] [a] r.1.Commits/\Ow W' k1 [] [b] r.1.Heads/\Ow W' k2 [] [d] r.2.1:=
 zaT.adJ (J:=[]) (fun c=>bif Nat.beq c 0 then 0 else bif Nat.beq c 31 then k0 else bif Nat.beq c 32 then k1 else bif Nat.beq c 33 then k2 else 0) (c52 (h.view _) Y) fun _ _ ⟨a,b,d,e,i,k,x⟩=>⟨a,b,d,e,i.one1.backN O,k.one1.backN O,x.one1.backN O⟩
theorem c55 {x0 e f x1 d x2 r}(A:Rd W0 [0] [e,f] x0)(h:Rd W0 [0] [d] x1)(B:Gl 0 W0 [0])(Y:Vm.ziO x0 x1 x2=some r):Q0 55 [.agg [e,f].toArray,d,vI x2] W0 fun Wf v=>v=vI r:=by
 unfold Vm.ziO at Y
 obtain⟨H,I,i,k,x⟩:=Repo.split A
 simp only[List.cons.injEq,and_true,true_and]at i
 obtain⟨rfl,rfl⟩:=i
 refine zaT.of Tryz.func55 O O O O (sr (bo 2 O fun J L C y=>?_))
 have a:=C.o
 refine Ni O (ssr (la y (mv d O (mi O (ca Y (fun _=>p118 (Repo.rd (K:=[0]) x0.Commits x0.Heads (k.ul a) (x.ul a)) (h.ul a) (B.ul a)) fun M N Y z=>?_)))))
 have b:=a.n z
 refine Lw.r O (R.not O) (nl (cn Y (fun Y=>?_) fun Y=>?_))
 ·exact sr (Ni O (.ret (rt Y b)))
 ·refine sk (sr (la (y.up z) (mi O (mv d O (cr Y (fun _=>p119 (k0:=3) (Repo.rd (K:=[0]) x0.Commits x0.Heads (k.ul b) (x.ul b)) (h.ul b)) ?_)))))
  rintro D P Q Y E ⟨_,rfl,F⟩
  have G:=b.n E
  exact Lw.ln D F.rd O (Ni O (.ret (rt Y G)))
theorem p55 {x0 a b x1 d x2 r}(f:Rd W K [a,b] x0)(h:Rd W K [d] x1)(i:Gl 0 W K)(Y:Vm.ziO x0 x1 x2=some r):Q1 55 [.agg [a,b].toArray,d,vI x2] W [] fun W' v=>v=vI r:=
 (c55 (f.view _) (h.view _) (i.view _) Y).ad (fk 0) fun _ _ e=>e
theorem c56 {x0 C D x1 f x2 r}(H:Rd W0 [0] [C,D] x0)(E:Rd W0 [0] [f] x1)(Y:Vm.zjl x0 x1 x2=some r):Q0 56 [.agg [C,D].toArray,f,vI x2] W0 fun Wf v=>v=vI r:=by
 unfold Vm.zjl at Y
 obtain⟨aa,ac,F,h,z⟩:=Repo.split H
 simp only[List.cons.injEq,and_true,true_and]at F
 obtain⟨rfl,rfl⟩:=F
 refine zaT.of Tryz.func56 O O O O (sr (bo 2 O fun g1 I J i=>?_))
 have k:=J.o
 refine Ni O (Cw.seq ?_)
 obtain⟨L,M,Y⟩:=zc4 Y
 refine Cw.join 7 24 [24] (fun l w=> ∃ A B,CW.w B=w/\Le [] I B/\l=[vB A]/\L A=some r) ?_ ?_
 ·rintro _ _ σ ⟨A,B,rfl,G,rfl,Y⟩
  rw[M]at Y
  have b:=k.n G
  refine cn Y (fun Y=>?_) fun Y=>?_
  ·exact sr (Ni O (.ret (rt Y b)))
  ·refine sk (sr (la (i.up G) (mv f O (mi O (cr Y (fun _=>p121 (k0:=3) (Repo.rd (K:=[0]) x0.Commits x0.Heads (h.ul b) (z.ul b)) (E.ul b)) ?_)))))
   rintro N af ah Y P ⟨_,rfl,Q⟩
   have S:=b.n P
   exact Lw.ln N Q.rd O (Ni O (.ret (rt Y S)))
 ·refine rg (la i (ca Y (fun _=>p80 (Repo.rd (K:=[0]) x0.Commits x0.Heads (h.ul k) (z.ul k))) fun ai T Y a=>?_))
  have x:=k.n a
  refine Lw.r O (R.not O) (mb O (bs Y (fun d Y=>?_) fun d Y=>?_))
  ·exact psk 4 d O (Pb d O (mb O (psk 7 O O (Pb O O (nl ((ag) ⟨true,T,O,a,O,Y⟩))))))
  ·refine wak 4 d (la (i.up a) (mv f O (ca Y (fun _=>p120 (Repo.rd (K:=[0]) x0.Commits x0.Heads (h.ul x) (z.ul x)) (E.ul x)) fun aj U Y y=>?_)))
   have V:=x.n y
   refine Lw.r O (R.not O) (Pb d O (mb O (bs Y (fun e Y=>?_) fun e Y=>?_)))
   ·exact psk 7 e O (Pb e O (nl ((ag) ⟨true,U,O,(a.j y).w,O,Y⟩)))
   ·exact wak 7 e (mi O (fl ((i.up a).up y) O (Lw.ln x0.Commits (h.ul V) O (Lw.sub O (ca Y (fun _=>p67) fun W X Y Z=>Lw.r O (R.not O) (Pb e O (nl ((ag) ⟨(!W),X,O,((a.j y).j Z).w,O,Y⟩))))))))
theorem p56 {x0 a b x1 d x2 r}(f:Rd W K [a,b] x0)(h:Rd W K [d] x1)(Y:Vm.zjl x0 x1 x2=some r):Q1 56 [.agg [a,b].toArray,d,vI x2] W [] fun W' v=>v=vI r:=
 (c56 (f.view _) (h.view _) Y).ad (fk 0) fun _ _ e=>e
theorem c57 {x0 e f x1 d x2 r}(C:Rd W0 [0] [e,f] x0)(h:Rd W0 [0] [d] x1)(D:Gl 0 W0 [0])(Y:Vm.zlf x0 x1 x2=some r):Q0 57 [.agg [e,f].toArray,d,vI x2] W0 fun Wf v=> ∃ i,v=i/\OwS Wf LL [] [i] r:=by
 unfold Vm.zlf at Y
 obtain⟨I,J,k,x,y⟩:=Repo.split C
 simp only[List.cons.injEq,and_true,true_and]at k
 obtain⟨rfl,rfl⟩:=k
 refine zaT.of Tryz.func57 O O O O (sr (bo 2 O fun L M E z=>?_))
 have a:=E.o
 refine Nv (.slice none 0 0) O (ssr (la z (mv d O (mi O (ca Y (fun _=>p118 (Repo.rd (K:=[0]) x0.Commits x0.Heads (x.ul a) (y.ul a)) (h.ul a) (D.ul a)) fun N P Y A=>?_)))))
 have b:=a.n A
 refine Lw.r O (R.not O) (nl (cn Y (fun Y=>?_) fun Y=>?_))
 ·refine sr (Nv (.slice none 0 0) O ?_)
  cases Y
  exact Cw.ret (zmk O (Res.mk b ⟨.slice none 0 0,O,(zp1 []).sub O O⟩))
 ·refine sk (sr (la (z.up A) (mi O (mv d O (cr Y (fun _=>p119 (k0:=3) (Repo.rd (K:=[0]) x0.Commits x0.Heads (x.ul b) (y.ul b)) (h.ul b)) ?_)))))
  rintro Q B S Y F ⟨_,rfl,G⟩
  have H:=b.n F
  refine Nv B O ?_
  cases Y
  exact Cw.ret (zmk O (Res.mk H ⟨B,O,G.s.sub O O⟩))
theorem p57 {x0 b d x1 f x2 k0 r}(h:Rd W K [b,d] x0)(i:Rd W K [f] x1)(k:Gl 0 W K)(Y:Vm.zlf x0 x1 x2=some r):Q1 57 [.agg [b,d].toArray,f,vI x2] W [] fun W' v=> ∃ a,v=a/\Ow W' k0 [] [a] r:=
 (c57 (h.view _) (i.view _) (k.view _) Y).ad (fk k0) fun _ _ ⟨a,e,x⟩=>⟨a,e,x.back (zlS _)⟩
theorem c11 {x0 a4 r}(h0:Rd W0 [0] [a4] x0)(av:Gl 0 W0 [0])(Y:Vm.zll x0=some r):Q0 11 [a4] W0 fun Wf v=>v=vB r:=by
 unfold Vm.zll at Y
 refine zaT.of Tryz.func11 O O O O (sr (Nb O (ssr (mv a4 O (Lw.ln x0 h0 O (Lw.gt O (nl (cn Y (fun Y=>?_) fun Y=>?_))))))))
 ·exact sr (Nb O (.ret (rt Y (Le.refl _ _))))
 ·refine sk (sr (mv a4 O (cr Y (fun _=>p52 (k0:=2) (k1:=3) (k2:=4) h0) ?_)))
  rintro a _ W4 Y l4 ⟨P,Q,d,rfl,c6,c7,d4⟩
  have a5:=l4.o
  refine mv (.tuple [.agg [P,Q].toArray,d,vI a.2.2].toArray) O (Lw.r O (R.ext (vs:=[.agg [P,Q].toArray,d,vI a.2.2]) (v:= .agg [P,Q].toArray) O O) (Lw.r O (R.ext (vs:=[.agg [P,Q].toArray,d,vI a.2.2]) (v:=d) O O) (Lw.r O (R.ext (vs:=[.agg [P,Q].toArray,d,vI a.2.2]) (v:=vI a.2.2) O O) (al 5 [.slice none 0 0, .slice none 0 0] fun g6 W6 l6 b6=>?_))))
  have a7:=a5.n l6
  refine sta b6 (zaf (c6.up l6).oc (zaf (c7.up l6).oc zaW)) fun fv a6 bl=>?_
  have c8:=a7.t a6
  have bm:=(c6.up l6).up a6
  have bn:=(c7.up l6).up a6
  have bp:=(d4.up l6).up a6
  refine Gv d O (Ni O (sr (la bl (mv d O (mi O (cr Y (fun _=>p53 (K:=[0,2,3,4]) (k0:=6) (x0:=(Vm.Repo.mk a.1.Commits a.1.Heads)) ((Repo.rd (K:=[2,3]) a.1.Commits a.1.Heads (bm.rd.sub (M:=[2,3]) O) (bn.rd.sub (M:=[2,3]) O)).sub (M:=[0,2,3,4]) O) (bp.rd.sub (M:=[0,2,3,4]) O) ((av.ul c8).sub (M:=[0,2,3,4]) O)) ?_))))))
  rintro b _ fw Y S ⟨e,rfl,c9⟩
  have d8:=c8.n S
  refine mv (.tuple [e,vB b.2].toArray) O (Lw.r O (R.ext (vs:=[e,vB b.2]) (v:=e) O O) (Lw.r O (R.ext (vs:=[e,vB b.2]) (v:=vB b.2) O O) (Gv e O (Nb O (sr (la (bl.up S) (mv d O (mi O (cr Y (fun _=>p54 (K:=[2,3,4]) (k0:=7) (x0:=(Vm.Repo.mk a.1.Commits a.1.Heads)) ((Repo.rd (K:=[2,3]) a.1.Commits a.1.Heads ((bm.up S).rd.sub (M:=[2,3]) O) ((bn.up S).rd.sub (M:=[2,3]) O)).sub (M:=[2,3,4]) O) ((bp.up S).rd.sub (M:=[2,3,4]) O)) ?_)))))))))
  rintro U _ d9 Y ak ⟨aa,rfl,bq⟩
  have da:=d8.n ak
  have br:=(bm.up S).up ak
  have bu:=(bn.up S).up ak
  have bv:=(bp.up S).up ak
  have bw:=(bl.up S).up ak
  refine mv (.tuple [aa,vB U.2].toArray) O (Lw.r O (R.ext (vs:=[aa,vB U.2]) (v:=aa) O O) (Lw.r O (R.ext (vs:=[aa,vB U.2]) (v:=vB U.2) O O) (Gv aa O (Nb O (Cw.seq ?_)))))
  obtain⟨ea,eb,Y⟩:=zc4 Y
  refine Cw.join 38 62 [62] (fun l w=> ∃ bz a8,CW.w a8=w/\Le [] d9 a8/\l=[vB bz]/\ea bz=some r) ?_ ?_
  ·rintro _ _ σ ⟨bz,a8,rfl,ac,rfl,Y⟩
   rw[eb]at Y
   have a9:=da.n ac
   have ba:=br.up ac
   have bb:=bu.up ac
   have bc:=bv.up ac
   have db:=(c9.up ak).up ac
   have be:=bw.up ac
   refine cn Y (fun Y=>?_) fun Y=>?_
   ·obtain⟨ec,ed,Y⟩:=zc4 Y
    refine Cw.join 63 83 [2] (fun l w=> ∃ b0 b1,CW.w b1=w/\Le [] a8 b1/\l=[vB b0]/\ec b0=some r) ?_ ?_
    ·rintro _ _ σ ⟨b0,b1,rfl,ee,rfl,Y⟩
     rw[ed]at Y
     have ef:=a9.n ee
     exact .ret (rt Y ef)
    ·refine Cw.draw [] [(0,0),(1,0),(2,0),(3,0),(4,0),(5,0),(6,0),(7,0),(8,0),(9,0),(10,0),(11,1),(12,0),(13,0),(15,1),(16,0),(17,0),(14,2),(18,3),(19,0),(20,0),(21,0)] mixed (by kernel_rfl) fun dc k=>?_
     have eg:=a9.n k
     refine Db O (Db O (Mw.p O O (fun _=>R.beq O O) (Db O (bs Y (fun V Y=>?_) fun V Y=>?_))))
     ·refine Wp V O (fun _=>R.mv (v:=e) O) (Wp V O (fun _=>zo6 (xs:=b.1) (db.up k).rd O) (Wp V O (fun _=>R.mv (v:=aa) O) (Wp V O (fun _=>zo6 (xs:=U.1) ((bq.up ac).up k).rd O) (Wp V O (fun _=>R.eq O O) (Mw.p O O (fun _=>R.pk V O (v:=vB ((b.1.length:Int)==(U.1.length:Int))) O) (Db O (bs Y (fun z Y=>?_) fun z Y=>?_)))))))
      ·refine Wq z O (fun _ c=>R.lda (cs:=[P,Q]) ((be.up k).clcs O c) O O) (Wp z O (fun _=>R.mv (v:=d) O) (Wp z O (fun _=>R.mv (v:=vI a.2.2) O) (Wq z O (fun _ c=>R.lda (cs:=[P,Q]) ((be.up k).clcs O c) O O) (Wp z O (fun _=>R.mv (v:=d) O) (Wp z O (fun _=>R.mv (v:=vI a.2.2) O) ?_)))))
       obtain⟨dd,eh,Y⟩:=ob Y
       refine Wt z O (T.call O (p55 (K:=[0,2,3,4]) (x0:=(Vm.Repo.mk a.1.Commits a.1.Heads)) ((Repo.rd (K:=[2,3]) a.1.Commits a.1.Heads ((ba.up k).rd.sub (M:=[2,3]) O) ((bb.up k).rd.sub (M:=[2,3]) O)).sub (M:=[0,2,3,4]) O) ((bc.up k).rd.sub (M:=[0,2,3,4]) O) ((av.ul eg).sub (M:=[0,2,3,4]) O) eh)) ?_
       rintro _ _ ⟨fx,rfl,aw,rfl⟩
       refine m0 aw fun fy=>?_
       obtain⟨de,ei,Y⟩:=ob Y
       refine Mw.gl z O O O O O (T.call O (p56 (K:=[2,3,4]) (x0:=(Vm.Repo.mk a.1.Commits a.1.Heads)) ((Repo.rd (K:=[2,3]) a.1.Commits a.1.Heads (((ba.up k).up aw).rd.sub (M:=[2,3]) O) (((bb.up k).up aw).rd.sub (M:=[2,3]) O)).sub (M:=[2,3,4]) O) (((bc.up k).up aw).rd.sub (M:=[2,3,4]) O) ei)) ?_
       rintro _ _ ⟨ej,rfl,ek,rfl⟩
       exact Wp z O (fun _=>R.eq O O) (Mw.p O O (fun _=>R.pk z O (v:=vB ((dd:Int)==(de:Int))) O) (Hb O (Mw.nil ((ag) ⟨((dd:Int)==(de:Int)),ej,O,((k.j aw).j ek).w,O,Y⟩))))
      ·exact dps 9 z O (Mw.p O O (fun _=>R.pk z O (v:=vB false) O) (Hb O (Mw.nil ((ag) ⟨false,dc,O,k,O,Y⟩))))
     ·exact dps 5 V O (Mw.p O O (fun _=>R.pk V O (v:=vB false) O) (Db O (dps 9 O O (Mw.p O O (fun _=>R.pk O O (v:=vB false) O) (Hb O (Mw.nil ((ag) ⟨false,dc,O,k,O,Y⟩)))))))
   ·refine sk (sr (la be (mv d O (mi O (cr Y (fun _=>p57 (K:=[0,2,3,4]) (k0:=8) (x0:=(Vm.Repo.mk a.1.Commits a.1.Heads)) ((Repo.rd (K:=[2,3]) a.1.Commits a.1.Heads (ba.rd.sub (M:=[2,3]) O) (bb.rd.sub (M:=[2,3]) O)).sub (M:=[0,2,3,4]) O) (bc.rd.sub (M:=[0,2,3,4]) O) ((av.ul a9).sub (M:=[0,2,3,4]) O)) ?_)))))
    rintro b2 bg df Y am ⟨_,rfl,dg⟩
    have el:=a9.n am
    refine Nv bg O (ssr (Ni O (Cw.block ?_)))
    obtain⟨em,en,Y⟩:=zc4 Y
    refine Cw.loop 88 195 [2,11,12,13,14] (fun m l w=> ∃ bh ae dh di b3 ax,CW.w ax=w/\Le [9] df ax/\l=[vB bh,vI ae,dh,di,b3]/\Vm.zeF a b U b2 em m bh ae=some r) _ ⟨false,0,undef,undef,undef,df,O,Le.refl _ _,O,Y⟩ ?_
    rintro(_ |fz) _ _ σ ⟨bh,ae,dh,di,b3,ax,rfl,J,rfl,Y⟩
    ·cases Y
    unfold Vm.zeF at Y
    have b4:=el.t J
    have dj:=(ba.up am).up J
    have dk:=(bc.up am).up J
    have bi:=(db.up am).up J
    have dl:=(be.up am).up J
    refine ssr (mi O (mv e O (Lw.ln b.1 bi.rd O (Lw.lt O (nl (cn Y (fun Y=>?_) fun Y=>?_))))))
    ·refine sk (Cw.seq (Cw.block (Cw.seq (Cw.draw [] [(0,0),(1,1),(2,0),(3,0),(4,0),(5,1),(6,0),(7,1),(8,2),(9,3)] mixed (by kernel_rfl) fun f0 af=>?_))))
     have eo:=b4.n af
     have b5:=dj.up af
     have bj:=(dg.up J).up af
     refine Dfl (dl.up af) O O O (Dv bg O (Di O ?_))
     obtain⟨f1,b7,Y⟩:=ob Y
     refine Mw.p O O (fun _=>R.ix (α:=Int) bj.rd b7 O O O) (Mw.q O O (fun _ c=>R.ld O O (zaD (bj.rd.at_ b7).1 O (bj.rd.at_ b7).int c)) ?_)
     obtain⟨ah,b8,Y⟩:=ob Y
     refine Mw.p O O (fun _=>R.ix (α:=Commit) b5.rd b8 O O O) ?_
     obtain⟨x127,c128,_,r129⟩:=(b5.rd.at_ b8).cells
     obtain⟨ay,dm,rfl,r131,r133⟩:=Commit.split r129
     refine Mw.q O O (fun _ c=>R.lda (zmh (b5.rd.at_ b8).1 O c128 c) O O) (Mw.t O O (T.alloc 9 (cs:=[.slice none 0 0,vS ([]:Str), .slice none 0 0]) O) ?_)
     rintro _ _ ⟨ep,f2,rfl,rfl,C,er⟩
     have es:=eo.n C
     refine m0 C fun f3=>Mw.lu O (T.sta (vs:=[ay,vS ah.Who,dm]) er O O (zaf r131.oc (zaf O (zaf r133.oc zaW))) O O) ?_
     rintro _ _ ⟨et,rfl,F,dn⟩
     have eu:=es.t F
     have dp:=((bi.up af).up C).up F
     refine Mw.nil (Cw.seq ?_)
     obtain⟨ew,ex,Y⟩:=zc4 Y
     refine Cw.join 102 144 [144] (fun l w=> ∃ b9 az,CW.w az=w/\Le [] et az/\l=[vB b9]/\ew b9=some r) ?_ ?_
     ·rintro _ _ σ ⟨b9,az,rfl,W,rfl,Y⟩
      rw[ex]at Y
      have dq:=eu.n W
      refine cn Y (fun Y=>?_) fun Y=>?_
      ·exact sr (Nb O (.ret (rt Y dq)))
      ·refine sk (sr (Ni O (Cw.block ?_)))
       obtain⟨ey,ez,Y⟩:=zc4 Y
       refine Cw.loop 145 195 [2,13,14] (fun m l w=> ∃ a0 ai cb a1,CW.w a1=w/\Le [] az a1/\l=[vB a0,vI ai,cb]/\Vm.zg5 a b b2 ae ah ey m a0 ai=some r) _ ⟨bh,0,b3,az,O,Le.refl _ _,O,Y⟩ ?_
       rintro(_ |f4) _ _ σ ⟨a0,ai,cb,a1,rfl,L,rfl,Y⟩
       ·cases Y
       unfold Vm.zg5 at Y
       have e0:=dq.n L
       have dr:=(dp.up W).up L
       have ds:=(dn.up W).up L
       refine ssr ?_
       have e1:=r131.up ((C.sub (M:=[9]) O).trans ((F.sub (M:=[9]) O).trans ((W.sub (M:=[9]) O).trans (L.sub (M:=[9]) O)))) O
       refine mi O (fl ds O (Lw.ln ah.Parents e1 O (Lw.lt O (nl (cn Y (fun Y=>?_) fun Y=>?_)))))
       ·refine sk (Cw.seq (Cw.block (sr (mv e O (mi O ?_)))))
        obtain⟨f5,dt,Y⟩:=ob Y
        refine Lw.r O (R.ix (α:=Commit) dr.rd dt O O O) (Lw.fa O ?_)
        obtain⟨f6,c185,r186⟩:=(Commit.at0 (dr.rd.at_ dt)).cell O
        refine Lw.r O (R.ld O O c185) (mi O ?_)
        obtain⟨N,du,Y⟩:=ob Y
        refine Lw.r O (R.ix (α:=Int) r186 du O O O) (Lw.r O (R.ld O O (r186.at_ du).int) (Ni O ?_))
        obtain⟨e2,e3,Y⟩:=zc4 Y
        refine Cw.join 160 195 [195] (fun l w=> ∃ cc bk,CW.w bk=w/\Le [] a1 bk/\l=[vB cc]/\e2 cc=some r) ?_ ?_
        ·rintro _ _ σ ⟨cc,bk,rfl,dv,rfl,Y⟩
         rw[e3]at Y
         have e4:=e0.n dv
         refine cn Y (fun Y=>?_) fun Y=>?_
         ·exact sr (Nb O (.ret (rt Y e4)))
         ·exact sk (rg (mi O (Lw.add O (Ni O ((agm) ⟨a0,w64 (ai+1),vI N,bk,O,(L.j dv).w,O,Y⟩)))))
        ·refine Cw.draw [] [(0,0),(1,0),(2,0),(3,0),(4,0),(5,0),(6,0),(7,0),(8,0),(9,0),(10,1),(11,0),(12,1),(13,0),(14,0),(15,1),(16,0),(17,0),(18,0),(19,0),(20,0),(21,0),(22,0),(23,0),(24,0),(25,0),(26,0),(27,1),(28,0),(29,1),(30,0),(31,0),(32,1),(33,0),(34,0),(35,0)] mixed (by kernel_rfl) fun ao G=>?_
         have ap:=(((((dk.up af).up C).up F).up W).up L).up G
         have cd:=((((bj.up C).up F).up W).up L).up G
         have ce:=ds.up G
         refine Di O (Di O (Mw.p O O (fun _=>R.ge O O) (Db O (bs Y (fun H Y=>?_) fun H Y=>?_))))
         ·exact dps 3 H O (dpu 10 O (dps 1 H O (Mw.p O O (fun _=>R.pk H O (v:=vB true) O) (Db O (dps 3 O O (dpu 11 O (dps 1 O O (Mw.p O O (fun _=>R.pk O O (v:=vB true) O) (Mw.nil ((ag) ⟨true,ao,O,G,O,Y⟩))))))))))
         ·refine Wp H O (fun _=>R.mv (v:=vI N) O) (Wp H O (fun _=>R.ge O O) (Wp H O (fun _=>R.mv (v:=vB (decide (0<=(N:Int)))) O) (bs Y (fun x Y=>?_) fun x Y=>?_)))
          ·refine Wp x O (fun _=>R.mv (v:=bg) O) (Wp x O (fun _=>R.mv (v:=vI N) O) ?_)
           obtain⟨dw,cf,Y⟩:=ob Y
           refine Wp x O (fun _=>R.ix (α:=Int) cd.rd cf O O O) (Wq x O (fun _ c=>R.ld O O (zaD (cd.rd.at_ cf).1 O (cd.rd.at_ cf).int c)) (Wp x O (fun _=>R.fa O) (Wq x O (fun _ c=>R.ld (v:=ay) O O (ce.clc O O c)) (Wp x O (fun _=>R.mv (v:=vI ai) O) ?_))))
           obtain⟨dx,cg,Y⟩:=ob Y
           have aq:=r131.up ((C.sub (M:=[9]) O).trans ((F.sub (M:=[9]) O).trans ((W.sub (M:=[9]) O).trans ((L.sub (M:=[9]) O).trans (G.sub (M:=[9]) O))))) O
           refine Wp x O (fun _=>R.ix (α:=Int) aq cg O O O) (Wq x O (fun _ c=>R.ld O O (zaD (aq.at_ cg).1 O (aq.at_ cg).int c)) (Wp x O (fun _=>R.ne O O) (Wp H O (fun _=>R.pk x O (v:=vB ((dw:Int) !=(dx:Int))) O) (Mw.p O O (fun _=>R.pk H O (v:=vB ((dw:Int) !=(dx:Int))) O) (Db O (bs Y (fun I Y=>?_) fun I Y=>?_))))))
           ·exact dps 3 I O (dpu 11 O (dps 1 I O (Mw.p O O (fun _=>R.pk I O (v:=vB true) O) (Mw.nil ((ag) ⟨true,ao,O,G,O,Y⟩)))))
           ·refine Wp I O (fun _=>R.mv (v:=vI N) O) (Wp I O (fun _=>R.lt O O) (Wp I O (fun _=>R.mv (v:=vB (decide (N< (0:Int)))) O) (bs Y (fun f Y=>?_) fun f Y=>?_)))
            ·refine Wp f O (fun _=>R.mv (v:=d) O) (Wp f O (fun _=>R.mv (v:=vI N) O) (Wp f O (fun _=>R.sub O O) ?_))
             obtain⟨ch,ci,Y⟩:=ob Y
             refine Wp f O (fun _=>R.ix (α:=Int) ap.rd ci O O O) (Wq f O (fun _ c=>R.ld O O (zaD (ap.rd.at_ ci).1 O (ap.rd.at_ ci).int c)) (Wp f O (fun _=>R.fa O) (Wq f O (fun _ c=>R.ld (v:=ay) O O (ce.clc O O c)) (Wp f O (fun _=>R.mv (v:=vI ai) O) ?_))))
             obtain⟨cj,ck,Y⟩:=ob Y
             exact Wp f O (fun _=>R.ix (α:=Int) aq ck O O O) (Wq f O (fun _ c=>R.ld O O (zaD (aq.at_ ck).1 O (aq.at_ ck).int c)) (Wp f O (fun _=>R.ne O O) (Wp I O (fun _=>R.pk f O (v:=vB ((ch:Int) !=(cj:Int))) O) (Mw.p O O (fun _=>R.pk I O (v:=vB ((ch:Int) !=(cj:Int))) O) (Mw.nil ((ag) ⟨((ch:Int) !=(cj:Int)),ao,O,G,O,Y⟩))))))
            ·exact dps 11 f O (Wp I O (fun _=>R.pk f O (v:=vB false) O) (Mw.p O O (fun _=>R.pk I O (v:=vB false) O) (Mw.nil ((ag) ⟨false,ao,O,G,O,Y⟩))))
          ·refine dps 10 x O (Wp H O (fun _=>R.pk x O (v:=vB false) O) (Mw.p O O (fun _=>R.pk H O (v:=vB false) O) (Db O (Wp O O (fun _=>R.mv (v:=vI N) O) (Wp O O (fun _=>R.lt O O) (Wp O O (fun _=>R.mv (v:=vB (decide (N< (0:Int)))) O) (bs Y (fun h Y=>?_) fun h Y=>?_)))))))
           ·refine Wp h O (fun _=>R.mv (v:=d) O) (Wp h O (fun _=>R.mv (v:=vI N) O) (Wp h O (fun _=>R.sub O O) ?_))
            obtain⟨cl,cm,Y⟩:=ob Y
            refine Wp h O (fun _=>R.ix (α:=Int) ap.rd cm O O O) (Wq h O (fun _ c=>R.ld O O (zaD (ap.rd.at_ cm).1 O (ap.rd.at_ cm).int c)) (Wp h O (fun _=>R.fa O) (Wq h O (fun _ c=>R.ld (v:=ay) O O (ce.clc O O c)) (Wp h O (fun _=>R.mv (v:=vI ai) O) ?_))))
            obtain⟨co,cp,Y⟩:=ob Y
            have cq:=r131.up ((C.sub (M:=[9]) O).trans ((F.sub (M:=[9]) O).trans ((W.sub (M:=[9]) O).trans ((L.sub (M:=[9]) O).trans (G.sub (M:=[9]) O))))) O
            exact Wp h O (fun _=>R.ix (α:=Int) cq cp O O O) (Wq h O (fun _ c=>R.ld O O (zaD (cq.at_ cp).1 O (cq.at_ cp).int c)) (Wp h O (fun _=>R.ne O O) (Wp O O (fun _=>R.pk h O (v:=vB ((cl:Int) !=(co:Int))) O) (Mw.p O O (fun _=>R.pk O O (v:=vB ((cl:Int) !=(co:Int))) O) (Mw.nil ((ag) ⟨((cl:Int) !=(co:Int)),ao,O,G,O,Y⟩))))))
           ·exact dps 11 h O (Wp O O (fun _=>R.pk h O (v:=vB false) O) (Mw.p O O (fun _=>R.pk O O (v:=vB false) O) (Mw.nil ((ag) ⟨false,ao,O,G,O,Y⟩))))
       ·refine Cw.exit ?_
        rw[ez]at Y
        exact rg (mi O (Lw.add O (Ni O ((agm) ⟨a0,w64 (ae+1),ptr (bx ep),vI ai,cb,a1,O,(((((J.j af).j C).j F).j W).j L).w,O,Y⟩))))
     ·refine Cw.draw [] [(0,0),(1,0),(2,0),(3,1),(4,0),(5,0),(6,0),(7,1),(8,2),(9,0),(10,0),(11,0),(12,0),(13,0),(14,0),(15,1),(16,0),(17,1),(18,0),(19,0),(20,0),(21,0),(22,0),(23,0),(24,0),(25,1),(26,0),(27,1),(28,2),(29,0),(30,0),(31,0),(32,0),(33,0),(34,0),(35,0),(36,1),(37,0),(38,0),(39,1),(40,0),(41,0),(42,0)] mixed (by kernel_rfl) fun f7 X=>?_
      have D:=dp.up X
      have ct:=((((((bq.up ac).up am).up J).up af).up C).up F).up X
      have cu:=dn.up X
      refine Dv e O (Di O ?_)
      obtain⟨cv,cw,Y⟩:=ob Y
      refine Mw.p O O (fun _=>R.ix (α:=Commit) D.rd cw O O O) ?_
      obtain⟨x243,c244,_,r245⟩:=(D.rd.at_ cw).cells
      obtain⟨f8,f9,rfl,r247,r249⟩:=Commit.split r245
      refine Mw.q O O (fun _ c=>R.lda (zmh (D.rd.at_ cw).1 O c244 c) O O) (Dv aa O (Di O ?_))
      obtain⟨cx,cy,Y⟩:=ob Y
      refine Mw.p O O (fun _=>R.ix (α:=Commit) ct.rd cy O O O) ?_
      obtain⟨x252,c253,_,r254⟩:=(ct.rd.at_ cy).cells
      obtain⟨ga,gb,rfl,r256,r258⟩:=Commit.split r254
      refine Mw.q O O (fun _ c=>R.lda (zmh (ct.rd.at_ cy).1 O c253 c) O O) (Dc Y (Le.refl _ _) (fun _=>p58 (K:=[6,7]) ((Commit.rd (K:=[6]) cv.Parents cv.Who cv.Tree r247 r249).sub (M:=[6,7]) O) ((Commit.rd (K:=[7]) cx.Parents cx.Who cx.Tree r256 r258).sub (M:=[6,7]) O)) O ?_)
      rintro gc _ dy Y aj rfl e5
      refine Mw.p O O (fun _=>R.not O) (Db O (bs Y (fun E Y=>?_) fun E Y=>?_))
      ·exact dps 8 E O (Mw.p O O (fun _=>R.pk E O (v:=vB true) O) (Db O (dps 9 O O (Mw.p O O (fun _=>R.pk O O (v:=vB true) O) (Db O (dps 10 O O (Mw.p O O (fun _=>R.pk O O (v:=vB true) O) (Mw.nil ((ag) ⟨true,dy,O,(X.j aj).w,O,Y⟩)))))))))
      ·refine Wp E O (fun _=>R.mv (v:=e) O) (Wp E O (fun _=>R.mv (v:=vI ae) O) ?_)
       obtain⟨e6,cz,Y⟩:=ob Y
       refine Wp E O (fun _=>R.ix (α:=Commit) D.rd cz O O O) (Wp E O (fun _=>R.fa O) (Wq E O (fun _ c=>R.ld O O (zaD (Commit.at1 (D.rd.at_ cz)).1 O (Commit.at1 (D.rd.at_ cz)).str c)) (Wp E O (fun _=>R.fa O) (Wq E O (fun _ c=>R.ld (v:=vS ah.Who) O O (cu.clc O O c)) (Wp E O (fun _=>R.sne O O) (Mw.p O O (fun _=>R.pk E O (v:=vB (e6.Who !=ah.Who)) O) (Db O (bs Y (fun A Y=>?_) fun A Y=>?_))))))))
       ·exact dps 9 A O (Mw.p O O (fun _=>R.pk A O (v:=vB true) O) (Db O (dps 10 O O (Mw.p O O (fun _=>R.pk O O (v:=vB true) O) (Mw.nil ((ag) ⟨true,dy,O,(X.j aj).w,O,Y⟩))))))
       ·refine Wp A O (fun _=>R.mv (v:=e) O) (Wp A O (fun _=>R.mv (v:=vI ae) O) ?_)
        obtain⟨gd,c0,Y⟩:=ob Y
        refine Wp A O (fun _=>R.ix (α:=Commit) D.rd c0 O O O) (Wp A O (fun _=>R.fa O) ?_)
        obtain⟨gf,c278,r279⟩:=(Commit.at2 (D.rd.at_ c0)).cell O
        refine Wq A O (fun _ c=>R.ld O O (zaD (Commit.at2 (D.rd.at_ c0)).1 O c278 c)) (Wp A O (fun _=>R.fa O) (Wq A O (fun _ c=>R.ld (v:=dm) O O (cu.clc O O c)) ?_))
        have e7:=r279.up (aj.sub (M:=[]) O) O
        have e8:=r133.up ((C.sub (M:=[9]) O).trans ((F.sub (M:=[9]) O).trans ((X.sub (M:=[9]) O).trans (aj.sub (M:=[9]) O)))) O
        obtain⟨e9,fb,Y⟩:=ob Y
        refine Wt A O (T.call O (p37 (K:=[2,6]) (e7.sub (M:=[2,6]) O) (e8.sub (M:=[2,6]) O) fb)) ?_
        rintro _ _ ⟨dz,rfl,a2,rfl⟩
        refine mc e5 a2 fun gg=>Wp A O (fun _=>R.not O) (Mw.p O O (fun _=>R.pk A O (v:=vB (!e9)) O) (Db O (bs Y (fun y Y=>?_) fun y Y=>?_)))
        ·exact dps 10 y O (Mw.p O O (fun _=>R.pk y O (v:=vB true) O) (Mw.nil ((ag) ⟨true,dz,O,((X.j aj).j a2).w,O,Y⟩)))
        ·refine Wp y O (fun _=>R.mv (v:=e) O) (Wp y O (fun _=>R.mv (v:=vI ae) O) ?_)
         obtain⟨c1,c2,Y⟩:=ob Y
         refine Wp y O (fun _=>R.ix (α:=Commit) D.rd c2 O O O) (Wp y O (fun _=>R.fa O) ?_)
         obtain⟨gh,c298,r299⟩:=(Commit.at0 (D.rd.at_ c2)).cell O
         have fc:=r299.up ((aj.sub (M:=[]) O).trans (a2.sub (M:=[]) O)) O
         have fd:=r131.up ((C.sub (M:=[9]) O).trans ((F.sub (M:=[9]) O).trans ((X.sub (M:=[9]) O).trans ((aj.sub (M:=[9]) O).trans (a2.sub (M:=[9]) O))))) O
         exact Wq y O (fun _ c=>R.ld O O (zaD (Commit.at0 (D.rd.at_ c2)).1 O c298 c)) (Wp y O (fun _=>zo6 (xs:=c1.Parents) fc O) (Wp y O (fun _=>R.fa O) (Wq y O (fun _ c=>R.ld (v:=ay) O O (cu.clc O O c)) (Wp y O (fun _=>zo6 (xs:=ah.Parents) fd O) (Wp y O (fun _=>R.ne O O) (Mw.p O O (fun _=>R.pk y O (v:=vB ((c1.Parents.length:Int) !=(ah.Parents.length:Int))) O) (Mw.nil ((ag) ⟨((c1.Parents.length:Int) !=(ah.Parents.length:Int)),dz,O,((X.j aj).j a2).w,O,Y⟩))))))))
    ·refine Cw.exit ?_
     rw[en]at Y
     obtain⟨fe,ff,Y⟩:=zc4 Y
     refine Cw.join 196 209 [2] (fun l w=> ∃ c3 c4,CW.w c4=w/\Le [] ax c4/\l=[vB c3]/\fe c3=some r) ?_ ?_
     ·rintro _ _ σ ⟨c3,c4,rfl,fg,rfl,Y⟩
      rw[ff]at Y
      have fh:=b4.n fg
      exact .ret (rt Y fh)
     ·refine rg (mv e O (Lw.ln b.1 bi.rd O (mv bg O (Lw.ln b2 (dg.up J).rd O (Lw.eq O (mb O (bs Y (fun a3 Y=>?_) fun a3 Y=>?_)))))))
      ·exact wak 7 a3 (mv e O (Lw.ln b.1 bi.rd O (la dl (mv d O (mi O (ca Y (fun _=>p55 (K:=[0,2,3,4]) (x0:=(Vm.Repo.mk a.1.Commits a.1.Heads)) ((Repo.rd (K:=[2,3]) a.1.Commits a.1.Heads (dj.rd.sub (M:=[2,3]) O) (((bb.up am).up J).rd.sub (M:=[2,3]) O)).sub (M:=[0,2,3,4]) O) (dk.rd.sub (M:=[0,2,3,4]) O) ((av.ul b4).sub (M:=[0,2,3,4]) O)) fun fi fj Y fm=>Lw.eq O (Pb a3 O (Nb O ((ag) ⟨((b.1.length:Int)==(fi:Int)),fj,O,fm,O,Y⟩)))))))))
      ·exact psk 7 a3 O (Pb a3 O (Nb O ((ag) ⟨false,ax,O,Le.refl _ _,O,Y⟩)))
  ·refine Cw.draw [] [(0,0),(1,0),(2,0),(3,0),(4,0),(5,0),(6,0),(7,0),(8,0),(9,0),(10,0),(11,1),(12,0),(13,0),(15,1),(16,0),(17,0),(14,2),(18,3),(19,0),(20,0),(21,0),(22,0),(23,0),(24,0)] mixed (by kernel_rfl) fun d0 i=>?_
   have fn:=da.n i
   refine Db O (Db O (Mw.p O O (fun _=>R.bne O O) (Db O (bs Y (fun Z Y=>?_) fun Z Y=>?_))))
   ·exact dps 5 Z O (Mw.p O O (fun _=>R.pk Z O (v:=vB true) O) (Db O (dps 9 O O (Mw.p O O (fun _=>R.pk O O (v:=vB true) O) (Db O (dps 2 O O (Mw.p O O (fun _=>R.pk O O (v:=vB true) O) (Mw.nil ((ag) ⟨true,d0,O,i,O,Y⟩)))))))))
   ·refine Wp Z O (fun _=>R.mv (v:=e) O) (Wp Z O (fun _=>zo6 (xs:=b.1) ((c9.up ak).up i).rd O) (Wp Z O (fun _=>R.mv (v:=aa) O) (Wp Z O (fun _=>zo6 (xs:=U.1) (bq.up i).rd O) (Wp Z O (fun _=>R.ne O O) (Mw.p O O (fun _=>R.pk Z O (v:=vB ((b.1.length:Int) !=(U.1.length:Int))) O) (Db O (bs Y (fun B Y=>?_) fun B Y=>?_)))))))
    ·exact dps 9 B O (Mw.p O O (fun _=>R.pk B O (v:=vB true) O) (Db O (dps 2 O O (Mw.p O O (fun _=>R.pk O O (v:=vB true) O) (Mw.nil ((ag) ⟨true,d0,O,i,O,Y⟩))))))
    ·refine Wq B O (fun _ c=>R.lda (cs:=[P,Q]) ((bw.up i).clcs O c) O O) (Wp B O (fun _=>R.mv (v:=d) O) (Wp B O (fun _=>R.mv (v:=vI a.2.2) O) (Wq B O (fun _ c=>R.lda (cs:=[P,Q]) ((bw.up i).clcs O c) O O) (Wp B O (fun _=>R.mv (v:=d) O) (Wp B O (fun _=>R.mv (v:=vI a.2.2) O) ?_)))))
     obtain⟨fo,fp,Y⟩:=ob Y
     refine Wt B O (T.call O (p55 (K:=[0,2,3,4]) (x0:=(Vm.Repo.mk a.1.Commits a.1.Heads)) ((Repo.rd (K:=[2,3]) a.1.Commits a.1.Heads ((br.up i).rd.sub (M:=[2,3]) O) ((bu.up i).rd.sub (M:=[2,3]) O)).sub (M:=[0,2,3,4]) O) ((bv.up i).rd.sub (M:=[0,2,3,4]) O) ((av.ul fn).sub (M:=[0,2,3,4]) O) fp)) ?_
     rintro _ _ ⟨gj,rfl,ar,rfl⟩
     refine m0 ar fun gk=>?_
     obtain⟨fq,fr,Y⟩:=ob Y
     refine Mw.gl B O O O O O (T.call O (p56 (K:=[2,3,4]) (x0:=(Vm.Repo.mk a.1.Commits a.1.Heads)) ((Repo.rd (K:=[2,3]) a.1.Commits a.1.Heads (((br.up i).up ar).rd.sub (M:=[2,3]) O) (((bu.up i).up ar).rd.sub (M:=[2,3]) O)).sub (M:=[2,3,4]) O) (((bv.up i).up ar).rd.sub (M:=[2,3,4]) O) fr)) ?_
     rintro _ _ ⟨d1,rfl,d2,rfl⟩
     refine Wp B O (fun _=>R.ne O O) (Mw.p O O (fun _=>R.pk B O (v:=vB ((fo:Int) !=(fq:Int))) O) (Db O (bs Y (fun au Y=>?_) fun au Y=>?_)))
     ·exact dps 2 au O (Mw.p O O (fun _=>R.pk au O (v:=vB true) O) (Mw.nil ((ag) ⟨true,d1,O,((i.j ar).j d2).w,O,Y⟩)))
     ·exact Wp au O (fun _=>R.mv (v:=vB b.2) O) (Wp au O (fun _=>R.not O) (Mw.p O O (fun _=>R.pk au O (v:=vB (!b.2)) O) (Mw.nil ((ag) ⟨(!b.2),d1,O,((i.j ar).j d2).w,O,Y⟩))))
theorem p11 {x0 a r}(b:Rd W K [a] x0)(d:Gl 0 W K)(Y:Vm.zll x0=some r):Q1 11 [a] W [] fun W' v=>v=vB r:=
 (c11 (b.view _) (d.view _) Y).ad (fk 0) fun _ _ e=>e
end Go.Sx
