/- Walks: each function answers as its model, printed by a program of ours. Conditions: the arguments read as they are given. -/
import Derived.Test.YtifbmanldeabeaaGreatDoorGTs
import Derived.Test.YtifbmanldeabeaaGreatDoorGM1
import Derived.Test.YtifbmanldeabeaaGreatDoorGW3
import Derived.Test.YtifbmanldeabeaaGreatDoorGW5
import Derived.Test.YtifbmanldeabeaaGreatDoorGW6
import Derived.Test.YtifbmanldeabeaaGreatDoorGE
namespace Go.Sx
open Go Go.Proofs Go.Vm Rp
set_option linter.unusedVariables false
set_option linter.unusedSimpArgs false
variable {W W0:CW}{K:List Nat}
theorem c74 {x0 a x1 r}(i:Rd W0 [0] [a] x0)(Y:Vm.zhk x0 x1=some r):Q0 74 [a,vS x1] W0 fun Wf v=> ∃ d,v=d/\OwS Wf LL [] [d] r:=by
 unfold Vm.zhk at Y
 refine zao.of Tryz.func74 O O O O (sr (Nv (.slice none 0 0) O (sr (Lw.t O (T.lit0 (α:=Str) 2 []) ?_))))
 rintro Q _ ⟨R,rfl,k,x⟩
 have e:=k.o
 refine mv a O ?_
 obtain⟨S,y,Y⟩:=ob Y
 refine Lw.t O (T.appP (α:=Str) x (i.ul e) O O y) ?_
 rintro U _ ⟨V,rfl,z,A⟩
 have B:=e.t z
 refine ms O (Lw.t O (T.bs 3 [vS x1] (cs:=[vS x1]) O O (bsv O)) ?_)
 rintro _ _ ⟨W,X,rfl,rfl,f,C⟩
 have D:=B.n f
 obtain⟨Z,E,Y⟩:=ob Y
 refine Lw.t O (T.app1S (α:=Str) (K':=[]) (A.up f) C (rdS _) O O E) ?_
 rintro b _ ⟨aa,rfl,F,G⟩
 have H:=D.t F
 refine Nv b O (sr (mv b O (cr Y (fun _=>p113 (K:=[0]) (c0:=2) G O) ?_)))
 rintro ac _ ae Y I ⟨rfl,J⟩
 have L:=H.t I
 refine nl (sr (mv b O (cr Y (fun _=>p129 (K:=[0]) (k0:=4) (c0:=2) J O) ?_)))
 rintro af h ah Y M ⟨_,rfl,N⟩
 have P:=L.t M
 refine Nv h O ?_
 cases Y
 exact Cw.ret (zik O (Res.mk P ⟨h,O,N.s.sub O O⟩))
theorem p74 {x0 b x1 k0 r}(d:Rd W K [b] x0)(Y:Vm.zhk x0 x1=some r):Q1 74 [b,vS x1] W [] fun W' v=> ∃ a,v=a/\Ow W' k0 [] [a] r:=
 (c74 (d.view _) Y).ad (fk k0) fun _ _ ⟨a,e,f⟩=>⟨a,e,f.back (zgv _)⟩
theorem c27 {x0 i k x1 J x2 a7 r}(h0:Rd W0 [0] [i,k] x0)(h1:Rd W0 [0] [J] x1)(h2:Rd W0 [0] [vS x2.Branch,vS x2.Into,vS x2.By,a7] x2)(L:Gl 0 W0 [0])(Y:Vm.zb8 x0 x1 x2=some r):Q0 27 [.agg [i,k].toArray,J, .agg [vS x2.Branch,vS x2.Into,vS x2.By,a7].toArray] W0 fun Wf v=> ∃ u0,v = .tuple [u0,vB r.2].toArray/\OwS Wf LL [] [u0] r.1:=by
 unfold Vm.zb8 at Y
 obtain⟨dm,dn,bb,d,e⟩:=Repo.split h0
 simp only[List.cons.injEq,and_true,true_and]at bb
 obtain⟨rfl,rfl⟩:=bb
 obtain⟨dp,bc,be⟩:=Review.split h2
 simp only[List.cons.injEq,and_true,true_and]at bc
 obtain rfl:=bc
 refine zao.of Tryz.func27 O O O O (sr (bo 2 O fun g1 W1 l1 b1=>?_))
 have a2:=l1.o
 refine bo 3 O fun g3 W3 l3 b3=>?_
 have x:=a2.n l3
 have b5:=b1.up l3
 refine Gv (.slice none 0 0) O (Nb O (Cw.seq ?_))
 obtain⟨K8,ce,Y⟩:=zaY Y
 refine Cw.join 14 40 [40] (fun l w=> ∃ y6 W7,CW.w W7=w/\Le [] W3 W7/\l=[vB y6]/\K8 y6=some r) ?_ ?_
 ·rintro _ _ σ ⟨y6,W7,rfl,l7,rfl,Y⟩
  rw[ce]at Y
  have a9:=x.n l7
  refine cn Y (fun Y=>?_) fun Y=>?_
  ·refine sr (Gv (.slice none 0 0) O (Nb O ?_))
   cases Y
   exact Cw.ret (zph O O (Res.mk a9 ⟨.slice none 0 0,O,(zp0 []).sub O O⟩))
  ·refine sk (Cw.seq (Cw.draw [] [(0,1),(1,0),(2,1),(4,1),(5,0),(6,1),(3,2),(7,3),(8,0),(9,0)] mixed (by kernel_rfl) fun dt ah=>?_))
   have ai:=a9.n ah
   have aj:=(b5.up l7).up ah
   have ak:=(b3.up l7).up ah
   refine Mw.q O O (fun _ c=>R.lda (cs:=[i,k]) (aj.clcs O c) O O) (Dfl ak O O O (Mw.q O O (fun _ c=>R.lda (cs:=[i,k]) (aj.clcs O c) O O) (Dfl ak O O O ?_)))
   obtain⟨du,cf,Y⟩:=ob Y
   refine Mw.t O O (T.call O (p45 (Repo.rd (K:=[0]) x0.Commits x0.Heads (d.ul ai) (e.ul ai)) cf)) ?_
   rintro _ _ ⟨dv,rfl,N,rfl⟩
   have am:=ai.n N
   refine m0 N fun dw=>?_
   obtain⟨dx,cg,Y⟩:=ob Y
   refine Mw.l O O (T.call O (p45 (Repo.rd (K:=[0]) x0.Commits x0.Heads (d.ul am) (e.ul am)) cg)) ?_
   rintro _ _ ⟨dy,rfl,an,rfl⟩
   have ch:=am.n an
   refine Hi O (Hi O (Mw.nil (sr (Nv (.slice none 0 0) O (Cw.seq (Cw.seq (Cw.draw [] [(0,1),(1,0),(2,0),(4,1),(5,0),(10,0),(3,2),(6,3),(7,3),(8,2),(9,0)] mixed (by kernel_rfl) fun dz ao=>?_)))))))
   have ap:=ch.n ao
   have bj:=((aj.up N).up an).up ao
   refine Mw.q O O (fun _ c=>R.lda (cs:=[i,k]) (bj.clcs O c) O O) (Di O (Di O (Mw.q O O (fun _ c=>R.lda (cs:=[i,k]) (bj.clcs O c) O O) (Di O (Di O ?_)))))
   obtain⟨d0,ci,Y⟩:=ob Y
   refine Mw.t O O (T.call O (p70 (Repo.rd (K:=[0]) x0.Commits x0.Heads (d.ul ap) (e.ul ap)) ci)) ?_
   rintro d1 _ ⟨d2,rfl,P,⟨_,rfl,cj⟩⟩
   have ck:=cj.sub (M:=[0]) O
   have Q:=ap.n P
   refine m0 P fun d3=>?_
   obtain⟨d4,cl,Y⟩:=ob Y
   refine Mw.l O O (T.call O (p71 (Repo.rd (K:=[0]) x0.Commits x0.Heads (d.ul Q) (e.ul Q)) cl)) ?_
   rintro d5 _ ⟨d6,rfl,aq,⟨_,rfl,cm⟩⟩
   have co:=cm.sub (M:=[0]) O
   have ar:=aq.o
   obtain⟨d7,cp,Y⟩:=ob Y
   refine Mw.l O O (T.call O (p69 (k0:=4) (ck.ul ar) co (L.ul (Q.trans ar)) cp)) ?_
   rintro d8 _ ⟨d9,rfl,au,⟨_,rfl,cq⟩⟩
   have ct:=(Q.trans ar).n au
   obtain⟨bk,cu,Y⟩:=ob Y
   refine Mw.t O O (T.call O (p68 (K:=[4]) (k0:=5) cq.rd cu)) ?_
   rintro ea _ ⟨bl,rfl,av,⟨_,rfl,aw⟩⟩
   have cv:=ct.n av
   refine⟨⟨_,O,((P.sub (M:=[]) O).trans ((aq.sub (M:=[]) O).trans ((au.sub (M:=[]) O).trans (av.sub (M:=[]) O))))⟩,?_⟩
   refine Mw.p O O (fun _=>zuo (xs:=bk) aw.rd O) (Mw.nil (Cw.block ?_))
   obtain⟨cw,cx,Y⟩:=zaY Y
   refine Cw.loop 59 84 [10,12,13,59] (fun m l w=> ∃ S U a bm bn y,CW.w y=w/\Le [7] bl y/\l=[a,bm,bn,vI U]/\Ow y 6 [] [a] S/\Vm.zbm x1 x2 bk cw m S U=some r) _ ⟨([]:List Str),0, .slice none 0 0,undef,undef,bl,O,Le.refl _ _,O,owN 6 [],Y⟩ ?_
   rintro(_ |eb) _ _ σ ⟨S,U,a,bm,bn,y,rfl,z,rfl,bp,Y⟩
   ·cases Y
   unfold Vm.zbm at Y
   have V:=cv.t z
   refine sr (Lw.lt O (nl (Cw.seq (cn Y (fun Y=>?_) fun Y=>?_))))
   ·refine sk ?_
    obtain⟨cy,cz,Y⟩:=zaY Y
    refine Cw.join 61 83 [10,12,13] (fun l w=> ∃ W X ax ay A,CW.w A=w/\Le [7] y A/\l=[X,ax,ay]/\Ow A 6 [] [X] W/\cy W=some r) ?_ ?_
    ·rintro _ _ σ ⟨W,X,ax,ay,A,rfl,c0,rfl,c1,Y⟩
     rw[cz]at Y
     exact rg (Lw.add O (mi O (nl ((agm) ⟨W,w64 (U+1),X,ax,ay,A,O,(z.j c0).w,O,c1,Y⟩))))
    ·refine Cw.block (sr ?_)
     obtain⟨bq,br,Y⟩:=ob Y
     refine Lw.r O (R.ix (α:=Str) (aw.up z).rd br O O O) (Lw.r O (R.ld O O ((aw.up z).rd.at_ br).str) (Ns O (sr (mv J O (ms O (ca Y (fun _=>p72 (h1.ul V) (L.ul V)) fun bu az Y B=>?_))))))
     have c2:=V.n B
     have bv:=((((((((ak.up N).up an).up ao).up P).up aq).up au).up av).up z).up B
     refine Ns O ?_
     obtain⟨c3,c4,Y⟩:=zaY Y
     refine Cw.join 66 80 [80] (fun l w=> ∃ a0 Z,CW.w Z=w/\Le [] az Z/\l=[vB a0]/\c3 a0=some r) ?_ ?_
     ·rintro _ _ σ ⟨a0,Z,rfl,a1,rfl,Y⟩
      rw[c4]at Y
      have bw:=(bp.up B).up a1
      refine cn Y (fun Y=>?_) fun Y=>?_
      ·refine rg (mv a O (ms O (cr Y (fun _=>p74 (K:=[6]) (k0:=7) bw.rd) ?_)))
       rintro c5 bz ec Y c6 ⟨_,rfl,c7⟩
       refine Nv bz O ?_
       obtain⟨c8,c9,da,db⟩:=c7.dyeO 6
       exact(ag) ⟨c5,bz,vS bq,vS bu,c8,c9,(((B.j a1).j c6).j da).w,O,db,Y⟩
      ·exact sk ((ag) ⟨S,a,vS bq,vS bu,Z,O,(B.j a1).w,O,bw,Y⟩)
     ·refine rg (ms O (Lw.sne O (mb O (bs Y (fun C Y=>?_) fun C Y=>?_))))
      ·refine wak 4 C (ms O (fl bv O (Lw.sne O (Pb C O (mb O (bs Y (fun D Y=>?_) fun D Y=>?_))))))
       ·exact wak 5 D (fl bv O (ms O (ca Y (fun _=>p73 (be.ul c2)) fun dc dd Y de=>Lw.r O (R.not O) (Pb D O (nl ((ag) ⟨(!dc),dd,O,de,O,Y⟩))))))
       ·exact psk 5 D O (Pb D O (nl ((ag) ⟨false,az,O,Le.refl _ _,O,Y⟩)))
      ·exact psk 4 C O (Pb C O (mb O (psk 5 O O (Pb O O (nl ((ag) ⟨false,az,O,Le.refl _ _,O,Y⟩))))))
   ·refine Cw.exit ?_
    rw[cx]at Y
    refine sr (mv a O (Gv a O (Nb O ?_)))
    cases Y
    exact Cw.ret (zph O O (Res.mk V ⟨a,O,bp.s.sub O O⟩))
 ·refine rg (la b5 (ca Y (fun _=>p42 (Repo.rd (K:=[0]) x0.Commits x0.Heads (d.ul x) (e.ul x)) (L.ul x)) fun ed df Y b=>?_))
  have a3:=x.n b
  refine Lw.r O (R.not O) (mb O (bs Y (fun E Y=>?_) fun E Y=>?_))
  ·exact psk 3 E O (Pb E O (mb O (psk 3 O O (Pb O O (mb O (psk 5 O O (Pb O O (mb O (psk 5 O O (Pb O O (nl ((ag) ⟨true,df,O,b,O,Y⟩))))))))))))
  ·refine wak 3 E (mv J O (ca Y (fun _=>p66 (h1.ul a3) (L.ul a3)) fun ee dg Y f=>?_))
   have b0:=a3.n f
   have a5:=(b3.up b).up f
   refine Lw.r O (R.not O) (Pb E O (mb O (bs Y (fun F Y=>?_) fun F Y=>?_)))
   ·exact psk 3 F O (Pb F O (mb O (psk 5 O O (Pb O O (mb O (psk 5 O O (Pb O O (nl ((ag) ⟨true,dg,O,(b.j f).w,O,Y⟩)))))))))
   ·refine wak 3 F (la a5 (ca Y (fun _=>p67 (Review.rd (K:=[0]) x2.Branch x2.Into x2.By x2.Yes (be.ul b0))) fun ef dh Y h=>?_))
    have a6:=b0.n h
    have b2:=((b5.up b).up f).up h
    refine Lw.r O (R.not O) (Pb F O (mb O (bs Y (fun G Y=>?_) fun G Y=>?_)))
    ·exact psk 5 G O (Pb G O (mb O (psk 5 O O (Pb O O (nl ((ag) ⟨true,dh,O,((b.j f).j h).w,O,Y⟩))))))
    ·refine wak 5 G (la b2 (fl (a5.up h) O (ca Y (fun _=>p45 (Repo.rd (K:=[0]) x0.Commits x0.Heads (d.ul a6) (e.ul a6))) fun eg di Y H=>?_)))
     have b4:=a6.n H
     refine Lw.lt O (Pb G O (mb O (bs Y (fun I Y=>?_) fun I Y=>?_)))
     ·exact psk 5 I O (Pb I O (nl ((ag) ⟨true,di,O,(((b.j f).j h).j H).w,O,Y⟩)))
     ·exact wak 5 I (la (b2.up H) (fl ((a5.up h).up H) O (ca Y (fun _=>p45 (Repo.rd (K:=[0]) x0.Commits x0.Heads (d.ul b4) (e.ul b4))) fun dj dk Y dl=>Lw.lt O (Pb I O (nl ((ag) ⟨decide (dj< (0:Int)),dk,O,((((b.j f).j h).j H).j dl).w,O,Y⟩))))))
theorem p27 {x0 b d x1 f x2 h k0 r}(i:Rd W K [b,d] x0)(k:Rd W K [f] x1)(x:Rd W K [vS x2.Branch,vS x2.Into,vS x2.By,h] x2)(y:Gl 0 W K)(Y:Vm.zb8 x0 x1 x2=some r):Q1 27 [.agg [b,d].toArray,f, .agg [vS x2.Branch,vS x2.Into,vS x2.By,h].toArray] W [] fun W' v=> ∃ a,v = .tuple [a,vB r.2].toArray/\Ow W' k0 [] [a] r.1:=
 (c27 (i.view _) (k.view _) (x.view _) (y.view _) Y).ad (fk k0) fun _ _ ⟨a,e,z⟩=>⟨a,e,z.back (zgv _)⟩
end Go.Sx
