/- Walks: each function answers as its model, printed by a program of ours. Conditions: the arguments read as they are given. -/
import Derived.Test.YtiahldhbknpmiaaGreatDoorATs
import Derived.Test.YtiahldhbknpmiaaGreatDoorAM7
import Derived.Test.YtiahldhbknpmiaaGreatDoorAW0
import Derived.Test.YtiahldhbknpmiaaGreatDoorAW14
import Derived.Test.YtiahldhbknpmiaaGreatDoorAW16
import Derived.Test.YtiahldhbknpmiaaGreatDoorAW2
import Derived.Test.YtiahldhbknpmiaaGreatDoorAW3
import Derived.Test.YtiahldhbknpmiaaGreatDoorAW9
namespace Go.Sx
open Go Go.Proofs Go.Vm Rp
set_option linter.unusedVariables false
set_option linter.unusedSimpArgs false
variable {W W0:CW}{K:List Nat}
theorem c33 {x0 i k x1 J x2 a7 r}(h0:Rd W0 [0] [i,k] x0)(h1:Rd W0 [0] [J] x1)(h2:Rd W0 [0] [vS x2.Branch,vS x2.Into,vS x2.By,a7] x2)(L:Gl 0 W0 [0])(Y:Vm.zgg x0 x1 x2=some r):Q0 33 [.agg [i,k].toArray,J, .agg [vS x2.Branch,vS x2.Into,vS x2.By,a7].toArray] W0 fun Wf v=> ∃ u0,v = .tuple [u0,vB r.2].toArray/\OwS Wf LL [] [u0] r.1:=by
 unfold Vm.zgg at Y
 obtain⟨dm,dn,bb,d,e⟩:=Repo.split h0
 simp only[List.cons.injEq,and_true,true_and]at bb
 obtain⟨rfl,rfl⟩:=bb
 obtain⟨dp,bc,be⟩:=Review.split h2
 simp only[List.cons.injEq,and_true,true_and]at bc
 obtain rfl:=bc
 refine zaz.of Tryz.func33 O O O O (sr (bo 2 O fun g1 W1 l1 b1=>?_))
 have a2:=l1.o
 refine bo 3 O fun g3 W3 l3 b3=>?_
 have x:=a2.n l3
 have b5:=b1.up l3
 refine Gv (.slice none 0 0) O (Nb O (Cw.seq ?_))
 obtain⟨K8,ce,Y⟩:=zbM Y
 refine Cw.join 14 40 [40] (fun l w=> ∃ y6 W7,CW.w W7=w/\Le [] W3 W7/\l=[vB y6]/\K8 y6=some r) ?_ ?_
 ·rintro _ _ σ ⟨y6,W7,rfl,l7,rfl,Y⟩
  rw[ce]at Y
  have a9:=x.n l7
  refine cn Y (fun Y=>?_) fun Y=>?_
  ·refine sr (Gv (.slice none 0 0) O (Nb O ?_))
   cases Y
   exact Cw.ret (zp3 O O (Res.mk a9 ⟨.slice none 0 0,O,(znU []).sub O O⟩))
  ·refine sk (Cw.seq (Cw.draw [] [(0,1),(1,0),(2,1),(4,1),(5,0),(6,1),(3,2),(7,3),(8,0),(9,0)] mixed (by kernel_rfl) fun dt ah=>?_))
   have ai:=a9.n ah
   have aj:=(b5.up l7).up ah
   have ak:=(b3.up l7).up ah
   refine Mw.q O O (fun _ c=>R.lda (cs:=[i,k]) (aj.clcs O c) O O) (Dfl ak O O O (Mw.q O O (fun _ c=>R.lda (cs:=[i,k]) (aj.clcs O c) O O) (Dfl ak O O O ?_)))
   obtain⟨du,cf,Y⟩:=ob Y
   refine Mw.t O O (T.call O (p88 (Repo.rd (K:=[0]) x0.Commits x0.Heads (d.ul ai) (e.ul ai)) cf)) ?_
   rintro _ _ ⟨dv,rfl,N,rfl⟩
   have am:=ai.n N
   refine m0 N fun dw=>?_
   obtain⟨dx,cg,Y⟩:=ob Y
   refine Mw.l O O (T.call O (p88 (Repo.rd (K:=[0]) x0.Commits x0.Heads (d.ul am) (e.ul am)) cg)) ?_
   rintro _ _ ⟨dy,rfl,an,rfl⟩
   have ch:=am.n an
   refine Hi O (Hi O (Mw.nil (sr (Nv (.slice none 0 0) O (Cw.seq (Cw.seq (Cw.draw [] [(0,1),(1,0),(2,0),(4,1),(5,0),(10,0),(3,2),(6,3),(7,3),(8,2),(9,0)] mixed (by kernel_rfl) fun dz ao=>?_)))))))
   have ap:=ch.n ao
   have bj:=((aj.up N).up an).up ao
   refine Mw.q O O (fun _ c=>R.lda (cs:=[i,k]) (bj.clcs O c) O O) (Di O (Di O (Mw.q O O (fun _ c=>R.lda (cs:=[i,k]) (bj.clcs O c) O O) (Di O (Di O ?_)))))
   obtain⟨d0,ci,Y⟩:=ob Y
   refine Mw.t O O (T.call O (p104 (Repo.rd (K:=[0]) x0.Commits x0.Heads (d.ul ap) (e.ul ap)) ci)) ?_
   rintro d1 _ ⟨d2,rfl,P,⟨_,rfl,cj⟩⟩
   have ck:=cj.sub (M:=[0]) O
   have Q:=ap.n P
   refine m0 P fun d3=>?_
   obtain⟨d4,cl,Y⟩:=ob Y
   refine Mw.l O O (T.call O (p105 (Repo.rd (K:=[0]) x0.Commits x0.Heads (d.ul Q) (e.ul Q)) cl)) ?_
   rintro d5 _ ⟨d6,rfl,aq,⟨_,rfl,cm⟩⟩
   have co:=cm.sub (M:=[0]) O
   have ar:=aq.o
   obtain⟨d7,cp,Y⟩:=ob Y
   refine Mw.l O O (T.call O (p103 (k0:=4) (ck.ul ar) co (L.ul (Q.trans ar)) cp)) ?_
   rintro d8 _ ⟨d9,rfl,au,⟨_,rfl,cq⟩⟩
   have ct:=(Q.trans ar).n au
   obtain⟨bk,cu,Y⟩:=ob Y
   refine Mw.t O O (T.call O (p102 (K:=[4]) (k0:=5) cq.rd cu)) ?_
   rintro ea _ ⟨bl,rfl,av,⟨_,rfl,aw⟩⟩
   have cv:=ct.n av
   refine⟨⟨_,O,((P.sub (M:=[]) O).trans ((aq.sub (M:=[]) O).trans ((au.sub (M:=[]) O).trans (av.sub (M:=[]) O))))⟩,?_⟩
   refine Mw.p O O (fun _=>ztT (xs:=bk) aw.rd O) (Mw.nil (Cw.block ?_))
   obtain⟨cw,cx,Y⟩:=zbM Y
   refine Cw.loop 59 84 [10,12,13,59] (fun m l w=> ∃ S U a bm bn y,CW.w y=w/\Le [7] bl y/\l=[a,bm,bn,vI U]/\Ow y 6 [] [a] S/\Vm.zdc x1 x2 bk cw m S U=some r) _ ⟨([]:List Str),0, .slice none 0 0,undef,undef,bl,O,Le.refl _ _,O,owN 6 [],Y⟩ ?_
   rintro(_ |eb) _ _ σ ⟨S,U,a,bm,bn,y,rfl,z,rfl,bp,Y⟩
   ·cases Y
   unfold Vm.zdc at Y
   have V:=cv.t z
   refine sr (Lw.lt O (nl (Cw.seq (cn Y (fun Y=>?_) fun Y=>?_))))
   ·refine sk ?_
    obtain⟨cy,cz,Y⟩:=zbM Y
    refine Cw.join 61 83 [10,12,13] (fun l w=> ∃ W X ax ay A,CW.w A=w/\Le [7] y A/\l=[X,ax,ay]/\Ow A 6 [] [X] W/\cy W=some r) ?_ ?_
    ·rintro _ _ σ ⟨W,X,ax,ay,A,rfl,c0,rfl,c1,Y⟩
     rw[cz]at Y
     exact rg (Lw.add O (mi O (nl ((agm) ⟨W,w64 (U+1),X,ax,ay,A,O,(z.j c0).w,O,c1,Y⟩))))
    ·refine Cw.block (sr ?_)
     obtain⟨bq,br,Y⟩:=ob Y
     refine Lw.r O (R.ix (α:=Str) (aw.up z).rd br O O O) (Lw.r O (R.ld O O ((aw.up z).rd.at_ br).str) (Ns O (sr (mv J O (ms O (ca Y (fun _=>p106 (h1.ul V) (L.ul V)) fun bu az Y B=>?_))))))
     have c2:=V.n B
     have bv:=((((((((ak.up N).up an).up ao).up P).up aq).up au).up av).up z).up B
     refine Ns O ?_
     obtain⟨c3,c4,Y⟩:=zbM Y
     refine Cw.join 66 80 [80] (fun l w=> ∃ a0 Z,CW.w Z=w/\Le [] az Z/\l=[vB a0]/\c3 a0=some r) ?_ ?_
     ·rintro _ _ σ ⟨a0,Z,rfl,a1,rfl,Y⟩
      rw[c4]at Y
      have bw:=(bp.up B).up a1
      refine cn Y (fun Y=>?_) fun Y=>?_
      ·refine rg (mv a O (ms O (cr Y (fun _=>p108 (K:=[6]) (k0:=7) bw.rd) ?_)))
       rintro c5 bz ec Y c6 ⟨_,rfl,c7⟩
       refine Nv bz O ?_
       obtain⟨c8,c9,da,db⟩:=c7.dyeO 6
       exact(ag) ⟨c5,bz,vS bq,vS bu,c8,c9,(((B.j a1).j c6).j da).w,O,db,Y⟩
      ·exact sk ((ag) ⟨S,a,vS bq,vS bu,Z,O,(B.j a1).w,O,bw,Y⟩)
     ·refine rg (ms O (Lw.sne O (mb O (bs Y (fun C Y=>?_) fun C Y=>?_))))
      ·refine wak 4 C (ms O (fl bv O (Lw.sne O (Pb C O (mb O (bs Y (fun D Y=>?_) fun D Y=>?_))))))
       ·exact wak 5 D (fl bv O (ms O (ca Y (fun _=>p107 (be.ul c2)) fun dc dd Y de=>Lw.r O (R.not O) (Pb D O (nl ((ag) ⟨(!dc),dd,O,de,O,Y⟩))))))
       ·exact psk 5 D O (Pb D O (nl ((ag) ⟨false,az,O,Le.refl _ _,O,Y⟩)))
      ·exact psk 4 C O (Pb C O (mb O (psk 5 O O (Pb O O (nl ((ag) ⟨false,az,O,Le.refl _ _,O,Y⟩))))))
   ·refine Cw.exit ?_
    rw[cx]at Y
    refine sr (mv a O (Gv a O (Nb O ?_)))
    cases Y
    exact Cw.ret (zp3 O O (Res.mk V ⟨a,O,bp.s.sub O O⟩))
 ·refine rg (la b5 (ca Y (fun _=>p43 (Repo.rd (K:=[0]) x0.Commits x0.Heads (d.ul x) (e.ul x)) (L.ul x)) fun ed df Y b=>?_))
  have a3:=x.n b
  refine Lw.r O (R.not O) (mb O (bs Y (fun E Y=>?_) fun E Y=>?_))
  ·exact psk 3 E O (Pb E O (mb O (psk 3 O O (Pb O O (mb O (psk 5 O O (Pb O O (mb O (psk 5 O O (Pb O O (nl ((ag) ⟨true,df,O,b,O,Y⟩))))))))))))
  ·refine wak 3 E (mv J O (ca Y (fun _=>p100 (h1.ul a3) (L.ul a3)) fun ee dg Y f=>?_))
   have b0:=a3.n f
   have a5:=(b3.up b).up f
   refine Lw.r O (R.not O) (Pb E O (mb O (bs Y (fun F Y=>?_) fun F Y=>?_)))
   ·exact psk 3 F O (Pb F O (mb O (psk 5 O O (Pb O O (mb O (psk 5 O O (Pb O O (nl ((ag) ⟨true,dg,O,(b.j f).w,O,Y⟩)))))))))
   ·refine wak 3 F (la a5 (ca Y (fun _=>p101 (Review.rd (K:=[0]) x2.Branch x2.Into x2.By x2.Yes (be.ul b0))) fun ef dh Y h=>?_))
    have a6:=b0.n h
    have b2:=((b5.up b).up f).up h
    refine Lw.r O (R.not O) (Pb F O (mb O (bs Y (fun G Y=>?_) fun G Y=>?_)))
    ·exact psk 5 G O (Pb G O (mb O (psk 5 O O (Pb O O (nl ((ag) ⟨true,dh,O,((b.j f).j h).w,O,Y⟩))))))
    ·refine wak 5 G (la b2 (fl (a5.up h) O (ca Y (fun _=>p88 (Repo.rd (K:=[0]) x0.Commits x0.Heads (d.ul a6) (e.ul a6))) fun eg di Y H=>?_)))
     have b4:=a6.n H
     refine Lw.lt O (Pb G O (mb O (bs Y (fun I Y=>?_) fun I Y=>?_)))
     ·exact psk 5 I O (Pb I O (nl ((ag) ⟨true,di,O,(((b.j f).j h).j H).w,O,Y⟩)))
     ·exact wak 5 I (la (b2.up H) (fl ((a5.up h).up H) O (ca Y (fun _=>p88 (Repo.rd (K:=[0]) x0.Commits x0.Heads (d.ul b4) (e.ul b4))) fun dj dk Y dl=>Lw.lt O (Pb I O (nl ((ag) ⟨decide (dj< (0:Int)),dk,O,((((b.j f).j h).j H).j dl).w,O,Y⟩))))))
theorem p33 {x0 b d x1 f x2 h k0 r}(i:Rd W K [b,d] x0)(k:Rd W K [f] x1)(x:Rd W K [vS x2.Branch,vS x2.Into,vS x2.By,h] x2)(y:Gl 0 W K)(Y:Vm.zgg x0 x1 x2=some r):Q1 33 [.agg [b,d].toArray,f, .agg [vS x2.Branch,vS x2.Into,vS x2.By,h].toArray] W [] fun W' v=> ∃ a,v = .tuple [a,vB r.2].toArray/\Ow W' k0 [] [a] r.1:=
 (c33 (i.view _) (k.view _) (x.view _) (y.view _) Y).ad (fk k0) fun _ _ ⟨a,e,z⟩=>⟨a,e,z.back (ziQ _)⟩
theorem c109 {x0 x1 r}(i:Rd W0 [0] [vS x0.Path,vS x0.Who] x0)(k:Rd W0 [0] [vS x1.Path,vS x1.Who] x1)(Y:Vm.zlf x0 x1=some r):Q0 109 [.agg [vS x0.Path,vS x0.Who].toArray, .agg [vS x1.Path,vS x1.Who].toArray] W0 fun Wf v=>v=vB r:=by
 unfold Vm.zlf at Y
 refine zaz.of Tryz.func109 O O O O (sr (bo 2 O fun x y f d=>?_))
 have h:=f.o
 refine bo 3 O fun z A a e=>?_
 have b:=h.n a
 refine Nb O (ssr (fl (d.up a) O (fl e O (Lw.sne O (nl (cn Y (fun Y=>?_) fun Y=>?_))))))
 ·exact sr (Nb O (.ret (rt Y b)))
 ·refine sk (ssr (fl (d.up a) O (fl e O (Lw.sne O (nl (cn Y (fun Y=>?_) fun Y=>?_))))))
  ·exact sr (Nb O (.ret (rt Y b)))
  ·exact sk (sr (Nb O (.ret (rt Y b))))
theorem p109 {x0 x1 r}(a:Rd W K [vS x0.Path,vS x0.Who] x0)(b:Rd W K [vS x1.Path,vS x1.Who] x1)(Y:Vm.zlf x0 x1=some r):Q1 109 [.agg [vS x0.Path,vS x0.Who].toArray, .agg [vS x1.Path,vS x1.Who].toArray] W [] fun W' v=>v=vB r:=
 (c109 (a.view _) (b.view _) Y).ad (fk 0) fun _ _ e=>e
theorem c35 {x0 b x1 e r}(d:Rd W0 [0] [b] x0)(f:Rd W0 [0] [e] x1)(Y:Vm.zkE x0 x1=some r):Q0 35 [b,e] W0 fun Wf v=>v=vB r:=by
 unfold Vm.zkE at Y
 refine zaz.of Tryz.func35 O O O O (sr (Nb O (ssr (mv b O (Lw.ln x0 d O (mv e O (Lw.ln x1 f O (Lw.ne O (nl (cn Y (fun Y=>?_) fun Y=>?_))))))))))
 ·exact sr (Nb O (.ret (rt Y (Le.refl _ _))))
 ·refine sk (ssr (Ni O (Cw.block ?_)))
  obtain⟨E,F,Y⟩:=zbM Y
  refine Cw.loop 11 26 [4,5] (fun m l w=> ∃ h i k,CW.w k=w/\Le [] W0 k/\l=[vB h,vI i]/\Vm.zhh x0 x1 E m h i=some r) _ ⟨false,0,W0,O,Le.refl _ _,O,Y⟩ ?_
  rintro(_ |J) _ _ σ ⟨h,i,k,rfl,A,rfl,Y⟩
  ·cases Y
  unfold Vm.zhh at Y
  have x:=A.o
  refine ssr (mi O (mv b O (Lw.ln x0 (d.ul x) O (Lw.lt O (nl (cn Y (fun Y=>?_) fun Y=>?_))))))
  ·refine sk (Cw.seq (Cw.block (Cw.seq (Cw.draw [] [(0,0),(1,0),(2,0),(3,1),(4,0),(5,0),(6,0),(7,1),(8,3),(9,0)] mixed (by kernel_rfl) fun L l10=>?_))))
   have a:=x.n l10
   refine Dv b O (Di O ?_)
   obtain⟨B,y,Y⟩:=ob Y
   refine Mw.p O O (fun _=>R.ix (α:=Owner) (d.ul a) y O O O) ?_
   obtain⟨x15,c16,_,r17⟩:=((d.ul a).at_ y).cells
   obtain rfl:=Owner.split r17
   refine Mw.q O O (fun _ c=>R.lda (zkX ((d.ul a).at_ y).1 O c16 c) O O) (Dv e O (Di O ?_))
   obtain⟨C,z,Y⟩:=ob Y
   refine Mw.p O O (fun _=>R.ix (α:=Owner) (f.ul a) z O O O) ?_
   obtain⟨x21,c22,_,r23⟩:=((f.ul a).at_ z).cells
   obtain rfl:=Owner.split r23
   refine Mw.q O O (fun _ c=>R.lda (zkX ((f.ul a).at_ z).1 O c22 c) O O) ?_
   obtain⟨M,G,Y⟩:=ob Y
   refine Mw.l O O (T.call O (p109 (Owner.rd (K:=[0]) B.Path B.Who) (Owner.rd (K:=[0]) C.Path C.Who) G)) ?_
   rintro _ _ ⟨H,rfl,D,rfl⟩
   have I:=a.n D
   refine Mw.p O O (fun _=>R.not O) (Mw.nil (cn Y (fun Y=>?_) fun Y=>?_))
   ·exact sr (Nb O (.ret (rt Y I)))
   ·exact sk (rg (mi O (Lw.add O (Ni O ((agm) ⟨h,w64 (i+1),H,O,((A.j l10).j D).w,O,Y⟩)))))
  ·refine Cw.exit ?_
   rw[F]at Y
   exact sr (Nb O (.ret (rt Y x)))
theorem p35 {x0 a x1 b r}(d:Rd W K [a] x0)(f:Rd W K [b] x1)(Y:Vm.zkE x0 x1=some r):Q1 35 [a,b] W [] fun W' v=>v=vB r:=
 (c35 (d.view _) (f.view _) Y).ad (fk 0) fun _ _ e=>e
theorem c36 {x0 e x1 f r}(y:Rd W0 [0] [vS x0.Branch,vS x0.Into,vS x0.By,e] x0)(z:Rd W0 [0] [vS x1.Branch,vS x1.Into,vS x1.By,f] x1)(Y:Vm.zkF x0 x1=some r):Q0 36 [.agg [vS x0.Branch,vS x0.Into,vS x0.By,e].toArray, .agg [vS x1.Branch,vS x1.Into,vS x1.By,f].toArray] W0 fun Wf v=>v=vB r:=by
 unfold Vm.zkF at Y
 obtain⟨G,h,A⟩:=Review.split y
 simp only[List.cons.injEq,and_true,true_and]at h
 obtain rfl:=h
 obtain⟨H,i,B⟩:=Review.split z
 simp only[List.cons.injEq,and_true,true_and]at i
 obtain rfl:=i
 refine zaz.of Tryz.func36 O O O O (sr (bo 2 O fun I J C D=>?_))
 have E:=C.o
 refine bo 3 O fun K L k b=>?_
 have a:=E.n k
 have d:=D.up k
 refine Nb O (ssr (fl d O (fl b O (Lw.sne O (nl (cn Y (fun Y=>?_) fun Y=>?_))))))
 ·exact sr (Nb O (.ret (rt Y a)))
 ·refine sk (ssr (fl d O (fl b O (Lw.sne O (nl (cn Y (fun Y=>?_) fun Y=>?_))))))
  ·exact sr (Nb O (.ret (rt Y a)))
  ·refine sk (ssr (fl d O (fl b O (Lw.sne O (nl (cn Y (fun Y=>?_) fun Y=>?_))))))
   ·exact sr (Nb O (.ret (rt Y a)))
   ·refine sk (ssr (fl d O (fl b O (ca Y (fun _=>p34 (A.ul a) (B.ul a)) fun M N Y F=>?_))))
    have x:=a.n F
    refine Lw.r O (R.not O) (nl (cn Y (fun Y=>?_) fun Y=>?_))
    ·exact sr (Nb O (.ret (rt Y x)))
    ·exact sk (sr (Nb O (.ret (rt Y x))))
theorem p36 {x0 a x1 b r}(d:Rd W K [vS x0.Branch,vS x0.Into,vS x0.By,a] x0)(f:Rd W K [vS x1.Branch,vS x1.Into,vS x1.By,b] x1)(Y:Vm.zkF x0 x1=some r):Q1 36 [.agg [vS x0.Branch,vS x0.Into,vS x0.By,a].toArray, .agg [vS x1.Branch,vS x1.Into,vS x1.By,b].toArray] W [] fun W' v=>v=vB r:=
 (c36 (d.view _) (f.view _) Y).ad (fk 0) fun _ _ e=>e
theorem c37 {x0 a x1 r}(B:Ow W0 2 [] [a] x0)(Y:Vm.zi9 x0 x1=some r):Q0 37 [a,vI x1] W0 fun Wf v=>v=vI r.1/\Ow Wf 2 [] [a] r.2:=by
 unfold Vm.zi9 at Y
 refine zaz.of Tryz.func37 O O O O (sr (Ni O (ssr (Ni O (Cw.block ?_)))))
 obtain⟨C,D,Y⟩:=zbM Y
 refine Cw.loop 6 27 [1,5] (fun m l w=> ∃ b d e f,CW.w f=w/\Le [2] W0 f/\l=[vI b,vI d]/\Ow f 2 [] [a] e/\Vm.zgh C m b d e=some r) _ ⟨x1,0,x0,W0,O,Le.refl _ _,O,B,Y⟩ ?_
 rintro(_ |P) _ _ σ ⟨b,d,e,f,rfl,x,rfl,h,Y⟩
 ·cases Y
 unfold Vm.zgh at Y
 have E:=x.s
 refine ssr (mi O (mv a O (Lw.ln e h.rd O (Lw.lt O (nl (cn Y (fun Y=>?_) fun Y=>?_))))))
 ·refine sk (Cw.seq (Cw.block (sr (mv a O (mi O (mi O (ca Y (fun _=>p110) fun Q S Y i=>?_)))))))
  obtain⟨U,y,Y⟩:=ob Y
  refine Lw.r O (R.ix (α:=Owner) (h.up i).rd y O O O) (Lw.fa O ?_)
  obtain⟨V,F,Y⟩:=ob Y
  refine Lw.u (T.stH (α:=Owner) (β:=Str) (J:=[]) (Ow.hole (α:=Owner) (β:=Str) (jf:=0) (h.up i) y) (OwS.atm (K:=[]) (rdS _)) F O O O O) ?_
  rintro _ _ ⟨W,rfl,G,z⟩
  refine nl (sr (mi O (Lw.add O (Ni O (sr (mv a O (mi O (mi O (ca Y (fun _=>p110) fun X Z Y k=>?_)))))))))
  obtain⟨aa,A,Y⟩:=ob Y
  refine Lw.r O (R.ix (α:=Owner) (z.up k).rd A O O O) (Lw.fa O ?_)
  obtain⟨H,I,Y⟩:=ob Y
  refine Lw.u (T.stH (α:=Owner) (β:=Str) (J:=[]) (Ow.hole (α:=Owner) (β:=Str) (jf:=1) (z.up k) A) (OwS.atm (K:=[]) (rdS _)) I O O O O) ?_
  rintro _ _ ⟨L,rfl,M,N⟩
  exact nl (rg (mi O (Lw.add O (Ni O (rg (mi O (Lw.add O (Ni O ((agm) ⟨w64 ((w64 (b+1))+1),w64 (d+1),H,L,O,((((x.j i).j G).j k).j M).w,O,N,Y⟩)))))))))
 ·refine Cw.exit ?_
  rw[D]at Y
  refine sr (mi O (Ni O ?_))
  cases Y
  exact Cw.ret (zkN O (Res.mk E ⟨O,h⟩))
theorem p37 {x0 a x1 c0 r}(b:Ow W c0 [] [a] x0)(hJ:okJ K [c0]=true)(Y:Vm.zi9 x0 x1=some r):Q1 37 [a,vI x1] W [c0] fun W' v=>v=vI r.1/\Ow W' c0 [] [a] r.2:=
 zaz.adJ (J:=[c0]) (fun c=>bif Nat.beq c 0 then 0 else bif Nat.beq c 2 then c0 else 0) (c37 (b.viewJ 0 hJ) Y) fun _ _ ⟨e,d⟩=>⟨e,Ow.backJ 0 d O⟩
theorem c38 {x0 a x1 r}(d:Ow W0 2 [] [a] x0.Yes)(Y:Vm.zja x0 x1=some r):Q0 38 [.agg [vS x0.Branch,vS x0.Into,vS x0.By,a].toArray,vI x1] W0 fun Wf v=>v=vI r.1/\Ow Wf 2 [] [a] r.2.Yes:=by
 unfold Vm.zja at Y
 refine zaz.of Tryz.func38 O O O O (sr (bo 3 O fun x y b e=>?_))
 have f:=b.o
 refine Ni O (sr (fl e O (mi O (cr Y (fun _=>p39 (K:=[0]) (c0:=2) (d.up b) O) ?_))))
 rintro z _ A Y h ⟨rfl,i⟩
 have k:=f.t h
 refine Ni O (sr (mi O (Ni O ?_)))
 cases Y
 exact Cw.ret (zkN O (Res.mk k ⟨O,i⟩))
theorem p38 {x0 a x1 c0 r}(b:Ow W c0 [] [a] x0.Yes)(hJ:okJ K [c0]=true)(Y:Vm.zja x0 x1=some r):Q1 38 [.agg [vS x0.Branch,vS x0.Into,vS x0.By,a].toArray,vI x1] W [c0] fun W' v=>v=vI r.1/\Ow W' c0 [] [a] r.2.Yes:=
 zaz.adJ (J:=[c0]) (fun c=>bif Nat.beq c 0 then 0 else bif Nat.beq c 2 then c0 else 0) (c38 (b.viewJ 0 hJ) Y) fun _ _ ⟨e,d⟩=>⟨e,Ow.backJ 0 d O⟩
theorem c7 {x0 ah ai x1 S x2 aj r}(h0:Rd W0 [0] [ah,ai] x0)(h1:Rd W0 [0] [S] x1)(h2:Rd W0 [0] [vS x2.Branch,vS x2.Into,vS x2.By,aj] x2)(b4:Gl 0 W0 [0])(Y:Vm.zev x0 x1 x2=some r):Q0 7 [.agg [ah,ai].toArray,S, .agg [vS x2.Branch,vS x2.Into,vS x2.By,aj].toArray] W0 fun Wf v=>v=vB r:=by
 unfold Vm.zev at Y
 obtain⟨ft,fu,b5,am,an⟩:=Repo.split h0
 simp only[List.cons.injEq,and_true,true_and]at b5
 obtain⟨rfl,rfl⟩:=b5
 obtain⟨fv,b6,ao⟩:=Review.split h2
 simp only[List.cons.injEq,and_true,true_and]at b6
 obtain rfl:=b6
 refine zaz.of Tryz.func7 O O O O (sr (bo 2 O fun g1 W1 l1 b1=>?_))
 have a2:=l1.o
 refine bo 3 O fun g3 W3 l3 b3=>?_
 have a4:=a2.n l3
 refine Nb O (sr (Ni O (sr (la (b1.up l3) (mi O (ca Y (fun _=>p15 (Repo.rd (K:=[0]) x0.Commits x0.Heads (am.ul a4) (an.ul a4))) fun z8 f1 Y l10=>?_))))))
 have ba:=a4.n l10
 refine Ni O (ssr (mi O (Lw.lt O (nl (cn Y (fun Y=>?_) fun Y=>?_)))))
 ·exact sr (Nb O (.ret (rt Y ba)))
 ·refine sk (sr (mv S O (mi O (ca Y (fun _=>p28 (h1.ul ba)) fun f2 f3 Y bb=>?_))))
  have bc:=ba.n bb
  have b8:=(b3.up l10).up bb
  refine Ni O (ssr (mi O (Lw.lt O (nl (cn Y (fun Y=>?_) fun Y=>?_)))))
  ·exact sr (Nb O (.ret (rt Y bc)))
  ·refine sk (sr (la b8 (mi O (ca Y (fun _=>p29 (Review.rd (K:=[0]) x2.Branch x2.Into x2.By x2.Yes (ao.ul bc))) fun f4 f5 Y be=>?_))))
   have b9:=bc.n be
   refine Ni O (ssr (mi O (Lw.lt O (nl (cn Y (fun Y=>?_) fun Y=>?_)))))
   ·exact sr (Nb O (.ret (rt Y b9)))
   ·refine sk (Cw.seq (Cw.draw [] [(0,1),(2,0),(4,1),(1,2),(3,2),(5,2),(6,3),(7,0),(8,0),(9,0),(10,0),(11,0)] mixed (by kernel_rfl) fun f6 bg=>?_))
    have bh:=b9.n bg
    have cb:=((((b1.up l3).up l10).up bb).up be).up bg
    have cc:=(b8.up be).up bg
    refine Mw.q O O (fun _ c=>R.lda (cs:=[ah,ai]) (cb.clcs O c) O O) (Dv S O (Mw.q O O (fun _ c=>R.lda (cs:=[vS x2.Branch,vS x2.Into,vS x2.By,aj]) (cc.clcs O c) O O) ?_))
    obtain⟨az,dx,Y⟩:=ob Y
    refine Mw.t O O (T.call O (p17 (k0:=4) (k1:=5) (Repo.rd (K:=[0]) x0.Commits x0.Heads (am.ul bh) (an.ul bh)) dx)) ?_
    rintro _ _ ⟨f7,rfl,a0,⟨f8,f9,rfl,dy,dz⟩⟩
    have cd:=bh.n a0
    refine m0 a0 fun d0=>?_
    obtain⟨ga,d1,Y⟩:=ob Y
    refine Mw.t O O (T.call O (p31 (k0:=6) (h1.ul cd) d1)) ?_
    rintro gb _ ⟨gc,rfl,X,⟨_,rfl,d2⟩⟩
    have ce:=cd.n X
    refine mc d0 X fun d3=>?_
    obtain⟨I,d4,Y⟩:=ob Y
    refine Mw.t O O (T.call O (p32 (k0:=7) (Review.rd (K:=[0]) x2.Branch x2.Into x2.By x2.Yes (ao.ul ce)) d4)) ?_
    rintro _ _ ⟨gd,rfl,U,⟨gf,rfl,d5⟩⟩
    have d6:=ce.n U
    refine mc d3 U fun gg=>?_
    obtain⟨V,d7,Y⟩:=ob Y
    refine Mw.l O O (T.call O (p30 (K:=[4,5,6,7]) (x0:=(Vm.Repo.mk az.Commits az.Heads)) (x2:=(Vm.Review.mk I.Branch I.Into I.By I.Yes)) ((Repo.rd (K:=[4,5]) az.Commits az.Heads (((dy.up X).up U).rd.sub (M:=[4,5]) O) (((dz.up X).up U).rd.sub (M:=[4,5]) O)).sub (M:=[4,5,6,7]) O) ((d2.up U).rd.sub (M:=[4,5,6,7]) O) ((Review.rd (K:=[7]) I.Branch I.Into I.By I.Yes d5.rd).sub (M:=[4,5,6,7]) O) d7)) ?_
    rintro _ _ ⟨gh,rfl,bi,⟨J,rfl,d8⟩⟩
    have bj:=d8.sub (M:=[0,4,5,6,7]) O
    have bk:=d6.n bi
    have cf:=(((cb.up a0).up X).up U).up bi
    refine Dv (.tuple [J,vB V.2].toArray) O (Mw.p O O (fun _=>R.ext (vs:=[J,vB V.2]) (v:=J) O O) (Mw.p O O (fun _=>R.ext (vs:=[J,vB V.2]) (v:=vB V.2) O O) (Hv J O (Hb O (Mw.nil (sr (la cf (cr Y (fun _=>p17 (k0:=8) (k1:=9) (Repo.rd (K:=[0]) x0.Commits x0.Heads (am.ul bk) (an.ul bk))) ?_))))))))
    rintro C _ gj Y Z ⟨d9,ea,rfl,cg,ch⟩
    have eb:=bk.n Z
    refine al 10 [.slice none 0 0, .slice none 0 0] fun gk gm D ec=>?_
    have ed:=eb.n D
    refine sta ec (zaa (cg.up D).oc (zaa (ch.up D).oc za0)) fun gn L ee=>?_
    have ci:=ed.t L
    refine nl (sr (mv S O (cr Y (fun _=>p31 (k0:=11) (h1.ul ci)) ?_)))
    rintro go a1 gr Y G ⟨_,rfl,ef⟩
    have cj:=ci.n G
    have ck:=(((((((cc.up a0).up X).up U).up bi).up Z).up D).up L).up G
    refine Nv a1 O (sr (la ck (cr Y (fun _=>p32 (k0:=12) (Review.rd (K:=[0]) x2.Branch x2.Into x2.By x2.Yes (ao.ul cj))) ?_)))
    rintro a _ gs Y E ⟨eg,rfl,cl⟩
    have eh:=cj.n E
    refine al 13 [vS ([]:Str),vS ([]:Str),vS ([]:Str), .slice none 0 0] fun gu gv e ei=>?_
    have ej:=eh.n e
    refine sta ei (zaa O (zaa O (zaa O (zaa (cl.up e).oc za0)))) fun gw B cm=>?_
    have co:=ej.t B
    have cp:=(((((cg.up D).up L).up G).up E).up e).up B
    have cq:=(((((ch.up D).up L).up G).up E).up e).up B
    have ct:=((ef.up E).up e).up B
    have cu:=(cl.up e).up B
    have cv:=(((ee.up G).up E).up e).up B
    refine nl (sr (la cv (mv a1 O (la cm (cr Y (fun _=>p33 (K:=[0,8,9,11,12]) (k0:=14) (x0:=(Vm.Repo.mk C.Commits C.Heads)) (x2:=(Vm.Review.mk a.Branch a.Into a.By a.Yes)) ((Repo.rd (K:=[8,9]) C.Commits C.Heads (cp.rd.sub (M:=[8,9]) O) (cq.rd.sub (M:=[8,9]) O)).sub (M:=[0,8,9,11,12]) O) (ct.rd.sub (M:=[0,8,9,11,12]) O) ((Review.rd (K:=[12]) a.Branch a.Into a.By a.Yes cu.rd).sub (M:=[0,8,9,11,12]) O) ((b4.ul co).sub (M:=[0,8,9,11,12]) O)) ?_)))))
    rintro aa _ ek Y f ⟨F,rfl,cw⟩
    have el:=co.n f
    refine mv (.tuple [F,vB aa.2].toArray) O (Lw.r O (R.ext (vs:=[F,vB aa.2]) (v:=F) O O) (Lw.r O (R.ext (vs:=[F,vB aa.2]) (v:=vB aa.2) O O) (Gv F O (Nb O (Cw.seq ?_)))))
    obtain⟨em,en,Y⟩:=zbM Y
    refine Cw.join 58 66 [66] (fun l w=> ∃ bl bm,CW.w bm=w/\Le [] ek bm/\l=[vB bl]/\em bl=some r) ?_ ?_
    ·rintro _ _ σ ⟨bl,bm,rfl,h,rfl,Y⟩
     rw[en]at Y
     have cx:=el.n h
     refine cn Y (fun Y=>?_) fun Y=>?_
     ·exact sr (Nb O (.ret (rt Y cx)))
     ·refine sk (Cw.seq (Cw.seq (Cw.draw [] [(0,1),(1,1),(2,2),(3,3),(4,0)] mixed (by kernel_rfl) fun gx i=>?_)))
      have bn:=cx.n i
      have cy:=(((((((((cf.up Z).up D).up L).up G).up E).up e).up B).up f).up h).up i
      have cz:=((cv.up f).up h).up i
      refine Mw.q O O (fun _ c=>R.lda (cs:=[d9,ea]) (cz.clcs O c) O O) (Mw.q O O (fun _ c=>R.lda (cs:=[ah,ai]) (cy.clcs O c) O O) ?_)
      obtain⟨a3,eo,Y⟩:=ob Y
      refine Mw.t O O (T.call O (p17 (k0:=15) (k1:=16) (Repo.rd (K:=[0]) x0.Commits x0.Heads (am.ul bn) (an.ul bn)) eo)) ?_
      rintro _ _ ⟨gy,rfl,b,⟨gz,g0,rfl,ep,er⟩⟩
      have es:=bn.n b
      have c2:=(((cp.up f).up h).up i).up b
      have c3:=(((cq.up f).up h).up i).up b
      refine m0 b fun g2=>?_
      obtain⟨g4,et,Y⟩:=ob Y
      refine Mw.l O O (T.call O (p19 (K:=[8,9,15,16]) (x0:=(Vm.Repo.mk C.Commits C.Heads)) (x1:=(Vm.Repo.mk a3.Commits a3.Heads)) ((Repo.rd (K:=[8,9]) C.Commits C.Heads (c2.rd.sub (M:=[8,9]) O) (c3.rd.sub (M:=[8,9]) O)).sub (M:=[8,9,15,16]) O) ((Repo.rd (K:=[15,16]) a3.Commits a3.Heads (ep.rd.sub (M:=[15,16]) O) (er.rd.sub (M:=[15,16]) O)).sub (M:=[8,9,15,16]) O) et)) ?_
      rintro _ _ ⟨g5,rfl,k,rfl⟩
      have bp:=es.n k
      refine Mw.p O O (fun _=>R.not O) (Mw.nil (cn Y (fun Y=>?_) fun Y=>?_))
      ·exact sr (Nb O (.ret (rt Y bp)))
      ·refine sk (ssr (mv a1 O (mv S O (cr Y (fun _=>p31 (k0:=17) (h1.ul bp)) ?_))))
       rintro g6 g7 g8 Y x ⟨_,rfl,eu⟩
       have ew:=bp.n x
       have c4:=(((((ct.up f).up h).up i).up b).up k).up x
       refine ca Y (fun _=>p35 (K:=[11,17]) (c4.rd.sub (M:=[11,17]) O) (eu.rd.sub (M:=[11,17]) O)) fun g9 ha Y y=>?_
       have c5:=ew.n y
       refine Lw.r O (R.not O) (nl (cn Y (fun Y=>?_) fun Y=>?_))
       ·exact sr (Nb O (.ret (rt Y c5)))
       ·refine sk (Cw.seq (Cw.seq (Cw.draw [] [(0,1),(1,1),(2,2),(3,3),(4,0)] mixed (by kernel_rfl) fun hb z=>?_)))
        have c6:=c5.n z
        have c8:=((((((((((ck.up E).up e).up B).up f).up h).up i).up b).up k).up x).up y).up z
        have c9:=(((((((cm.up f).up h).up i).up b).up k).up x).up y).up z
        refine Mw.q O O (fun _ c=>R.lda (cs:=[vS a.Branch,vS a.Into,vS a.By,eg]) (c9.clcs O c) O O) (Mw.q O O (fun _ c=>R.lda (cs:=[vS x2.Branch,vS x2.Into,vS x2.By,aj]) (c8.clcs O c) O O) ?_)
        obtain⟨N,ex,Y⟩:=ob Y
        refine Mw.t O O (T.call O (p32 (k0:=18) (Review.rd (K:=[0]) x2.Branch x2.Into x2.By x2.Yes (ao.ul c6)) ex)) ?_
        rintro _ _ ⟨hc,rfl,d,⟨hd,rfl,ey⟩⟩
        have ez:=c6.n d
        have da:=((((((((cu.up f).up h).up i).up b).up k).up x).up y).up z).up d
        refine m0 d fun he=>?_
        obtain⟨hf,e0,Y⟩:=ob Y
        refine Mw.l O O (T.call O (p36 (K:=[12,18]) (x0:=(Vm.Review.mk a.Branch a.Into a.By a.Yes)) (x1:=(Vm.Review.mk N.Branch N.Into N.By N.Yes)) ((Review.rd (K:=[12]) a.Branch a.Into a.By a.Yes da.rd).sub (M:=[12,18]) O) ((Review.rd (K:=[18]) N.Branch N.Into N.By N.Yes ey.rd).sub (M:=[12,18]) O) e0)) ?_
        rintro _ _ ⟨hg,rfl,A,rfl⟩
        have db:=ez.n A
        refine Mw.p O O (fun _=>R.not O) (Mw.nil (cn Y (fun Y=>?_) fun Y=>?_))
        ·exact sr (Nb O (.ret (rt Y db)))
        ·refine sk (sr (Ni O (sr (la (((((((cz.up b).up k).up x).up y).up z).up d).up A) (mi O (cr Y (fun _=>p20 (K:=[0]) (c0:=8) (c1:=9) (x0:=(Vm.Repo.mk C.Commits C.Heads)) ((((((c2.up k).up x).up y).up z).up d).up A) ((((((c3.up k).up x).up y).up z).up d).up A) O) ?_))))))
         rintro hh _ hi Y H ⟨rfl,hj,hk⟩
         have e1:=db.t H
         refine Ni O (sr (mv a1 O (mi O (cr Y (fun _=>p37 (K:=[0]) (c0:=11) (((((c4.up y).up z).up d).up A).up H) O) ?_))))
         rintro hl _ hn Y P ⟨rfl,ho⟩
         have e2:=e1.t P
         refine Ni O (sr (la ((((c9.up d).up A).up H).up P) (mi O (cr Y (fun _=>p38 (K:=[0]) (c0:=12) (x0:=(Vm.Review.mk a.Branch a.Into a.By a.Yes)) (((da.up A).up H).up P) O) ?_))))
         rintro hp _ dc Y ac ⟨rfl,hq⟩
         have e3:=e2.t ac
         have dd:=(((((((((((cw.up h).up i).up b).up k).up x).up y).up z).up d).up A).up H).up P).up ac
         refine Ni O (Cw.seq ?_)
         obtain⟨e4,e5,Y⟩:=zbM Y
         refine Cw.join 91 103 [103] (fun l w=> ∃ bq br,CW.w br=w/\Le [] dc br/\l=[vB bq]/\e4 bq=some r) ?_ ?_
         ·rintro _ _ σ ⟨bq,br,rfl,ap,rfl,Y⟩
          rw[e5]at Y
          have de:=e3.n ap
          refine cn Y (fun Y=>?_) fun Y=>?_
          ·exact sr (Nb O (.ret (rt Y de)))
          ·refine sk (sr (Ni O (sr (mv F O (mi O (cr Y (fun _=>p39 (K:=[0]) (c0:=14) (dd.up ap) O) ?_))))))
           rintro hr _ hs Y a5 ⟨rfl,df⟩
           have e6:=de.t a5
           refine Ni O (sr (Ni O (sr (mv F O (mi O (ca Y (fun _=>p40 (K:=[14]) df.rd) fun ht hu Y aq=>?_))))))
           have bu:=e6.n aq
           refine Ni O (ssr (mi O (Lw.lt O (nl (cn Y (fun Y=>?_) fun Y=>?_)))))
           ·exact sr (Nb O (.ret (rt Y bu)))
           ·refine sk (ssr (mi O (mi O (Lw.ne O (nl (cn Y (fun Y=>?_) fun Y=>?_))))))
            ·exact sr (Nb O (.ret (rt Y bu)))
            ·refine sk (Cw.seq (Cw.draw [] [(0,1),(2,0),(4,1),(1,2),(3,2),(5,2),(6,3),(7,0),(8,0),(9,0),(10,0),(11,0)] mixed (by kernel_rfl) fun hv ar=>?_))
             have bv:=bu.n ar
             refine Mw.q O O (fun _ c=>R.lda (cs:=[ah,ai]) (((((((((((((((cy.up b).up k).up x).up y).up z).up d).up A).up H).up P).up ac).up ap).up a5).up aq).up ar).clcs O c) O O) (Dv S O (Mw.q O O (fun _ c=>R.lda (cs:=[vS x2.Branch,vS x2.Into,vS x2.By,aj]) ((((((((((c8.up d).up A).up H).up P).up ac).up ap).up a5).up aq).up ar).clcs O c) O O) ?_))
             obtain⟨a6,e7,Y⟩:=ob Y
             refine Mw.t O O (T.call O (p17 (k0:=19) (k1:=20) (Repo.rd (K:=[0]) x0.Commits x0.Heads (am.ul bv) (an.ul bv)) e7)) ?_
             rintro _ _ ⟨hw,rfl,a7,⟨hx,hy,rfl,e8,e9⟩⟩
             have dg:=bv.n a7
             refine m0 a7 fun fb=>?_
             obtain⟨hz,fc,Y⟩:=ob Y
             refine Mw.t O O (T.call O (p31 (k0:=21) (h1.ul dg) fc)) ?_
             rintro h3 _ ⟨h4,rfl,ae,⟨_,rfl,fd⟩⟩
             have dh:=dg.n ae
             refine mc fb ae fun fe=>?_
             obtain⟨Q,ff,Y⟩:=ob Y
             refine Mw.t O O (T.call O (p32 (k0:=22) (Review.rd (K:=[0]) x2.Branch x2.Into x2.By x2.Yes (ao.ul dh)) ff)) ?_
             rintro _ _ ⟨h5,rfl,W,⟨h6,rfl,fg⟩⟩
             have di:=dh.n W
             refine mc fe W fun h7=>?_
             obtain⟨au,fh,Y⟩:=ob Y
             refine Mw.l O O (T.call O (p33 (K:=[0,19,20,21,22]) (k0:=23) (x0:=(Vm.Repo.mk a6.Commits a6.Heads)) (x2:=(Vm.Review.mk Q.Branch Q.Into Q.By Q.Yes)) ((Repo.rd (K:=[19,20]) a6.Commits a6.Heads (((e8.up ae).up W).rd.sub (M:=[19,20]) O) (((e9.up ae).up W).rd.sub (M:=[19,20]) O)).sub (M:=[0,19,20,21,22]) O) ((fd.up W).rd.sub (M:=[0,19,20,21,22]) O) ((Review.rd (K:=[22]) Q.Branch Q.Into Q.By Q.Yes fg.rd).sub (M:=[0,19,20,21,22]) O) ((b4.ul di).sub (M:=[0,19,20,21,22]) O) fh)) ?_
             rintro _ _ ⟨fi,rfl,bw,⟨af,rfl,fj⟩⟩
             have fm:=di.n bw
             refine Dv (.tuple [af,vB au.2].toArray) O (Mw.p O O (fun _=>R.ext (vs:=[af,vB au.2]) (v:=af) O O) (Mw.p O O (fun _=>R.ext (vs:=[af,vB au.2]) (v:=vB au.2) O O) (Hv af O (Hb O (Mw.nil (Cw.seq ?_))))))
             obtain⟨fn,fo,Y⟩:=zbM Y
             refine Cw.join 125 133 [133] (fun l w=> ∃ bz b0,CW.w b0=w/\Le [] fi b0/\l=[vB bz]/\fn bz=some r) ?_ ?_
             ·rintro _ _ σ ⟨bz,b0,rfl,dj,rfl,Y⟩
              rw[fo]at Y
              have dk:=fm.n dj
              refine cn Y (fun Y=>?_) fun Y=>?_
              ·exact sr (Nb O (.ret (rt Y dk)))
              ·refine sk (sr (Ni O (sr (mv F O (mi O (ca Y (fun _=>p40 (K:=[14]) (((((((df.up aq).up ar).up a7).up ae).up W).up bw).up dj).rd) fun h8 h9 Y fp=>?_))))))
               have b2:=dk.n fp
               refine Ni O (ssr (mi O (Lw.lt O (nl (cn Y (fun Y=>?_) fun Y=>?_)))))
               ·exact sr (Nb O (.ret (rt Y b2)))
               ·refine sk (ssr (mi O (mi O (Lw.ne O (nl (cn Y (fun Y=>?_) fun Y=>?_))))))
                ·exact sr (Nb O (.ret (rt Y b2)))
                ·exact sk (sr (Nb O (.ret (rt Y b2))))
             ·refine rg (mv af O (mv J O ?_))
              have fq:=bj.up ((Z.sub (M:=[8,9,10,11,12,13,14]) O).trans ((D.sub (M:=[8,9,10,11,12,13,14]) O).trans ((L.sub (M:=[8,9,10,11,12,13,14]) O).trans ((G.sub (M:=[8,9,10,11,12,13,14]) O).trans ((E.sub (M:=[8,9,10,11,12,13,14]) O).trans ((e.sub (M:=[8,9,10,11,12,13,14]) O).trans ((B.sub (M:=[8,9,10,11,12,13,14]) O).trans ((f.sub (M:=[8,9,10,11,12,13,14]) O).trans ((h.sub (M:=[8,9,10,11,12,13,14]) O).trans ((i.sub (M:=[8,9,10,11,12,13,14]) O).trans ((b.sub (M:=[8,9,10,11,12,13,14]) O).trans ((k.sub (M:=[8,9,10,11,12,13,14]) O).trans ((x.sub (M:=[8,9,10,11,12,13,14]) O).trans ((y.sub (M:=[8,9,10,11,12,13,14]) O).trans ((z.sub (M:=[8,9,10,11,12,13,14]) O).trans ((d.sub (M:=[8,9,10,11,12,13,14]) O).trans ((A.sub (M:=[8,9,10,11,12,13,14]) O).trans ((H.sub (M:=[8,9,10,11,12,13,14]) O).trans ((P.sub (M:=[8,9,10,11,12,13,14]) O).trans ((ac.sub (M:=[8,9,10,11,12,13,14]) O).trans ((ap.sub (M:=[8,9,10,11,12,13,14]) O).trans ((a5.sub (M:=[8,9,10,11,12,13,14]) O).trans ((aq.sub (M:=[8,9,10,11,12,13,14]) O).trans ((ar.sub (M:=[8,9,10,11,12,13,14]) O).trans ((a7.sub (M:=[8,9,10,11,12,13,14]) O).trans ((ae.sub (M:=[8,9,10,11,12,13,14]) O).trans ((W.sub (M:=[8,9,10,11,12,13,14]) O).trans (bw.sub (M:=[8,9,10,11,12,13,14]) O)))))))))))))))))))))))))))) O
              refine ca Y (fun _=>p34 (K:=[0,4,5,6,7,23]) (fj.rd.sub (M:=[0,4,5,6,7,23]) O) (fq.sub (M:=[0,4,5,6,7,23]) O)) fun ia dl Y dm=>Lw.r O (R.not O) (mb O (bs Y (fun av Y=>?_) fun av Y=>?_))
              ·exact psk 3 av O (Pb av O (nl ((ag) ⟨true,dl,O,dm,O,Y⟩)))
              ·exact wak 3 av (mb O (mb O (Lw.r O (R.bne O O) (Pb av O (nl ((ag) ⟨(au.2 !=V.2),dl,O,dm,O,Y⟩))))))
         ·refine rg (mi O (Lw.lt O (mb O (bs Y (fun aw Y=>?_) fun aw Y=>?_))))
          ·exact psk 4 aw O (Pb aw O (mb O (psk 3 O O (Pb O O (nl ((ag) ⟨true,dc,O,Le.refl _ _,O,Y⟩))))))
          ·refine wak 4 aw (mv F O (mv J O ?_))
           have fr:=bj.up ((Z.sub (M:=[8,9,10,11,12,13]) O).trans ((D.sub (M:=[8,9,10,11,12,13]) O).trans ((L.sub (M:=[8,9,10,11,12,13]) O).trans ((G.sub (M:=[8,9,10,11,12,13]) O).trans ((E.sub (M:=[8,9,10,11,12,13]) O).trans ((e.sub (M:=[8,9,10,11,12,13]) O).trans ((B.sub (M:=[8,9,10,11,12,13]) O).trans ((f.sub (M:=[8,9,10,11,12,13]) O).trans ((h.sub (M:=[8,9,10,11,12,13]) O).trans ((i.sub (M:=[8,9,10,11,12,13]) O).trans ((b.sub (M:=[8,9,10,11,12,13]) O).trans ((k.sub (M:=[8,9,10,11,12,13]) O).trans ((x.sub (M:=[8,9,10,11,12,13]) O).trans ((y.sub (M:=[8,9,10,11,12,13]) O).trans ((z.sub (M:=[8,9,10,11,12,13]) O).trans ((d.sub (M:=[8,9,10,11,12,13]) O).trans ((A.sub (M:=[8,9,10,11,12,13]) O).trans ((H.sub (M:=[8,9,10,11,12,13]) O).trans ((P.sub (M:=[8,9,10,11,12,13]) O).trans (ac.sub (M:=[8,9,10,11,12,13]) O)))))))))))))))))))) O
           refine ca Y (fun _=>p34 (K:=[0,4,5,6,7,14]) (dd.rd.sub (M:=[0,4,5,6,7,14]) O) (fr.sub (M:=[0,4,5,6,7,14]) O)) fun ib dn Y dp=>Lw.r O (R.not O) (Pb aw O (mb O (bs Y (fun ax Y=>?_) fun ax Y=>?_)))
           ·exact psk 3 ax O (Pb ax O (nl ((ag) ⟨true,dn,O,dp,O,Y⟩)))
           ·exact wak 3 ax (mb O (mb O (Lw.r O (R.bne O O) (Pb ax O (nl ((ag) ⟨(aa.2 !=V.2),dn,O,dp,O,Y⟩))))))
    ·refine rg (mv F O (mv J O ?_))
     have fs:=bj.up ((Z.sub (M:=[10,13]) O).trans ((D.sub (M:=[10,13]) O).trans ((L.sub (M:=[10,13]) O).trans ((G.sub (M:=[10,13]) O).trans ((E.sub (M:=[10,13]) O).trans ((e.sub (M:=[10,13]) O).trans ((B.sub (M:=[10,13]) O).trans (f.sub (M:=[10,13]) O)))))))) O
     refine ca Y (fun _=>p34 (K:=[0,4,5,6,7,14]) (cw.rd.sub (M:=[0,4,5,6,7,14]) O) (fs.sub (M:=[0,4,5,6,7,14]) O)) fun ic dq Y dr=>Lw.r O (R.not O) (mb O (bs Y (fun ay Y=>?_) fun ay Y=>?_))
     ·exact psk 3 ay O (Pb ay O (nl ((ag) ⟨true,dq,O,dr,O,Y⟩)))
     ·exact wak 3 ay (mb O (mb O (Lw.r O (R.bne O O) (Pb ay O (nl ((ag) ⟨(aa.2 !=V.2),dq,O,dr,O,Y⟩))))))
theorem p7 {x0 a b x1 d x2 f r}(h:Rd W K [a,b] x0)(i:Rd W K [d] x1)(k:Rd W K [vS x2.Branch,vS x2.Into,vS x2.By,f] x2)(x:Gl 0 W K)(Y:Vm.zev x0 x1 x2=some r):Q1 7 [.agg [a,b].toArray,d, .agg [vS x2.Branch,vS x2.Into,vS x2.By,f].toArray] W [] fun W' v=>v=vB r:=
 (c7 (h.view _) (i.view _) (k.view _) (x.view _) Y).ad (fk 0) fun _ _ e=>e
end Go.Sx
