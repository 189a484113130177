/- Walks: each function answers as its model, printed by a program of ours. Conditions: the arguments read as they are given. -/
import Derived.Test.YtiahldhbknpmiaaGreatDoorBTs
import Derived.Test.YtiahldhbknpmiaaGreatDoorBM16
import Derived.Test.YtiahldhbknpmiaaGreatDoorBW10
import Derived.Test.YtiahldhbknpmiaaGreatDoorBW11
import Derived.Test.YtiahldhbknpmiaaGreatDoorBW12
import Derived.Test.YtiahldhbknpmiaaGreatDoorBW16
import Derived.Test.YtiahldhbknpmiaaGreatDoorBW18
import Derived.Test.YtiahldhbknpmiaaGreatDoorBW5
import Derived.Test.YtiahldhbknpmiaaGreatDoorBW6
import Derived.Test.YtiahldhbknpmiaaGreatDoorBW7
namespace Go.Sx
open Go Go.Proofs Go.Vm Rp
set_option linter.unusedVariables false
set_option linter.unusedSimpArgs false
variable {W W0:CW}{K:List Nat}
theorem c41 {x0 e r}(C:Rd W0 [0] [e] x0)(Y:Vm.zio x0=some r):Q0 41 [e] W0 fun Wf v=> ∃ k x,v = .tuple [.agg [k,x].toArray,vS r.2.1,vS r.2.2.1,vI r.2.2.2].toArray/\OwS Wf [31] [] [k] r.1.Commits/\OwS Wf [32] [] [x] r.1.Heads:=by
 unfold Vm.zio at Y
 refine zaY.of Tryz.func41 O O O O (sr (al 2 [.slice none 0 0, .slice none 0 0] fun P Q D E=>?_))
 have y:=D.o
 refine Gs O (Gs O (Ni O (sr (mv e O (cr Y (fun _=>p111 (k0:=3) (k1:=4) (C.ul y)) ?_)))))
 rintro a _ S Y z ⟨b,d,rfl,A,B⟩
 have F:=y.n z
 refine Lw.r O (R.ext (vs:=[.agg [b,d].toArray,vS a.2.1,vS a.2.2.1,vI a.2.2.2]) (v:= .agg [b,d].toArray) O O) (Lw.r O (R.ext (vs:=[.agg [b,d].toArray,vS a.2.1,vS a.2.2.1,vI a.2.2.2]) (v:=vS a.2.1) O O) (Lw.r O (R.ext (vs:=[.agg [b,d].toArray,vS a.2.1,vS a.2.2.1,vI a.2.2.2]) (v:=vS a.2.2.1) O O) (Lw.r O (R.ext (vs:=[.agg [b,d].toArray,vS a.2.1,vS a.2.2.1,vI a.2.2.2]) (v:=vI a.2.2.2) O O) (sta (E.up z) (zai A.oc (zai B.oc zbt)) fun T f G=>?_))))
 have H:=F.t f
 refine Gs O (Gs O (Ni O ?_))
 obtain⟨U,I,h,J⟩:=(A.up f).dyeO 31
 have K:=H.t h
 obtain⟨V,L,i,M⟩:=((B.up f).up h).dyeO 32
 have N:=K.t i
 cases Y
 rw[<- L.trans (I)]
 exact Cw.ret (zvS (zjD.c O ((G.up h).up i) (zjD.t O (zjD.t O (zjD.t O zjD.n)))) (Res.mk N ⟨b,d,O,(J.up i).s,M.s⟩))
theorem p41 {x0 d k0 k1 r}(f:Rd W K [d] x0)(Y:Vm.zio x0=some r):Q1 41 [d] W [] fun W' v=> ∃ a b,v = .tuple [.agg [a,b].toArray,vS r.2.1,vS r.2.2.1,vI r.2.2.2].toArray/\Ow W' k0 [] [a] r.1.Commits/\Ow W' k1 [] [b] r.1.Heads:=
 zaY.adJ (J:=[]) (fun c=>bif Nat.beq c 0 then 0 else bif Nat.beq c 31 then k0 else bif Nat.beq c 32 then k1 else 0) (c41 (f.view _) Y) fun _ _ ⟨a,b,e,h,i⟩=>⟨a,b,e,h.one1.backN O,i.one1.backN O⟩
theorem c8 {x0 a2 r}(h0:Rd W0 [0] [a2] x0)(L:Gl 0 W0 [0])(Y:Vm.zke x0=some r):Q0 8 [a2] W0 fun Wf v=>v=vB r:=by
 unfold Vm.zke at Y
 refine zaY.of Tryz.func8 O O O O (sr (Nb O (ssr (mv a2 O (Lw.ln x0 h0 O (Lw.gt O (nl (cn Y (fun Y=>?_) fun Y=>?_))))))))
 ·exact sr (Nb O (.ret (rt Y (Le.refl _ _))))
 ·refine sk (sr (mv a2 O (cr Y (fun _=>p41 (k0:=2) (k1:=3) h0) ?_)))
  rintro a _ W4 Y l4 ⟨z,E,rfl,cc,cd⟩
  have a5:=l4.o
  refine mv (.tuple [.agg [z,E].toArray,vS a.2.1,vS a.2.2.1,vI a.2.2.2].toArray) O (Lw.r O (R.ext (vs:=[.agg [z,E].toArray,vS a.2.1,vS a.2.2.1,vI a.2.2.2]) (v:= .agg [z,E].toArray) O O) (Lw.r O (R.ext (vs:=[.agg [z,E].toArray,vS a.2.1,vS a.2.2.1,vI a.2.2.2]) (v:=vS a.2.1) O O) (Lw.r O (R.ext (vs:=[.agg [z,E].toArray,vS a.2.1,vS a.2.2.1,vI a.2.2.2]) (v:=vS a.2.2.1) O O) (Lw.r O (R.ext (vs:=[.agg [z,E].toArray,vS a.2.1,vS a.2.2.1,vI a.2.2.2]) (v:=vI a.2.2.2) O O) (al 4 [.slice none 0 0, .slice none 0 0] fun g6 W6 l6 b6=>?_)))))
  have a7:=a5.n l6
  refine sta b6 (zai (cc.up l6).oc (zai (cd.up l6).oc zbt)) fun fh l10 ce=>?_
  have cf:=a7.t l10
  have cg:=(cc.up l6).up l10
  have ch:=(cd.up l6).up l10
  refine Gs O (Gs O (Ni O (sr (la ce (ms O (ms O (mi O (cr Y (fun _=>p18 (K:=[0,2,3]) (k0:=5) (k1:=6) (x0:=(Vm.Repo.mk a.1.Commits a.1.Heads)) ((Repo.rd (K:=[2,3]) a.1.Commits a.1.Heads (cg.rd.sub (M:=[2,3]) O) (ch.rd.sub (M:=[2,3]) O)).sub (M:=[0,2,3]) O) ((L.ul cf).sub (M:=[0,2,3]) O)) ?_))))))))
  rintro b _ fi Y a3 ⟨N,ac,rfl,ci,cj⟩
  have c6:=cf.n a3
  refine mv (.tuple [.agg [N,ac].toArray,vI b.2].toArray) O (Lw.r O (R.ext (vs:=[.agg [N,ac].toArray,vI b.2]) (v:= .agg [N,ac].toArray) O O) (Lw.r O (R.ext (vs:=[.agg [N,ac].toArray,vI b.2]) (v:=vI b.2) O O) (al 7 [.slice none 0 0, .slice none 0 0] fun fj fm G c7=>?_)))
  have c9:=c6.n G
  refine sta c7 (zai (ci.up G).oc (zai (cj.up G).oc zbt)) fun fn ae da=>?_
  have db:=c9.t ae
  have ck:=((cg.up a3).up G).up ae
  have cl:=((ch.up a3).up G).up ae
  have cm:=((ce.up a3).up G).up ae
  refine Ni O (sr (la cm (ms O (ms O (mi O (cr Y (fun _=>p16 (K:=[2,3]) (x0:=(Vm.Repo.mk a.1.Commits a.1.Heads)) (Repo.rd (K:=[2,3]) a.1.Commits a.1.Heads (ck.rd.sub (M:=[2,3]) O) (cl.rd.sub (M:=[2,3]) O))) ?_))))))
  rintro A _ fo Y P ⟨an,ao,rfl,dc,dd⟩
  have a4:=dc.sub (M:=[0,2,3]) O
  have a6:=dd.sub (M:=[0,2,3]) O
  have de:=db.n P
  refine mv (.tuple [.agg [an,ao].toArray,vI A.2].toArray) O (Lw.r O (R.ext (vs:=[.agg [an,ao].toArray,vI A.2]) (v:= .agg [an,ao].toArray) O O) (Lw.r O (R.ext (vs:=[.agg [an,ao].toArray,vI A.2]) (v:=vI A.2) O O) (al 8 [.slice none 0 0, .slice none 0 0] fun fp fq h df=>?_)))
  have dg:=de.n h
  refine sta df (zai a4.oc (zai a6.oc zbt)) fun co i cp=>?_
  have cq:=dg.t i
  have bg:=((ck.up P).up h).up i
  have bh:=((cl.up P).up h).up i
  have ct:=((((ci.up G).up ae).up P).up h).up i
  have cu:=((((cj.up G).up ae).up P).up h).up i
  have bi:=((cm.up P).up h).up i
  have cv:=((da.up P).up h).up i
  refine Ni O (Cw.seq ?_)
  obtain⟨dh,di,Y⟩:=zdY Y
  refine Cw.join 41 54 [54] (fun l w=> ∃ bj ap,CW.w ap=w/\Le [] co ap/\l=[vB bj]/\dh bj=some r) ?_ ?_
  ·rintro _ _ σ ⟨bj,ap,rfl,d,rfl,Y⟩
   rw[di]at Y
   have a8:=cq.n d
   have aq:=ct.up d
   have ar:=cu.up d
   have au:=cv.up d
   refine cn Y (fun Y=>?_) fun Y=>?_
   ·obtain⟨dj,dk,Y⟩:=zdY Y
    refine Cw.join 55 62 [2] (fun l w=> ∃ bk bl,CW.w bl=w/\Le [] ap bl/\l=[vB bk]/\dj bk=some r) ?_ ?_
    ·rintro _ _ σ ⟨bk,bl,rfl,dl,rfl,Y⟩
     rw[dk]at Y
     have dm:=a8.n dl
     exact .ret (rt Y dm)
    ·refine rg (mi O (mi O (Lw.eq O (mb O (bs Y (fun av Y=>?_) fun av Y=>?_)))))
     ·refine wak 3 av (la au (la (cp.up d) ?_))
      have dn:=a4.up ((h.sub (M:=[8]) O).trans ((i.sub (M:=[8]) O).trans (d.sub (M:=[8]) O))) O
      have dp:=a6.up ((h.sub (M:=[8]) O).trans ((i.sub (M:=[8]) O).trans (d.sub (M:=[8]) O))) O
      exact ca Y (fun _=>p42 (K:=[0,2,3,5,6]) (x0:=(Vm.Repo.mk b.1.Commits b.1.Heads)) ((Repo.rd (K:=[5,6]) b.1.Commits b.1.Heads (aq.rd.sub (M:=[5,6]) O) (ar.rd.sub (M:=[5,6]) O)).sub (M:=[0,2,3,5,6]) O) ((Repo.rd (K:=[0,2,3]) A.1.Commits A.1.Heads dn dp).sub (M:=[0,2,3,5,6]) O)) fun dq dr Y ds=>Pb av O (Nb O ((ag) ⟨dq,dr,O,ds,O,Y⟩))
     ·exact psk 3 av O (Pb av O (Nb O ((ag) ⟨false,ap,O,Le.refl _ _,O,Y⟩)))
   ·refine sk (ssr (mi O (Lw.ne O (nl (cn Y (fun Y=>?_) fun Y=>?_)))))
    ·refine sr (la au (la (bi.up d) (ca Y (fun _=>p42 (K:=[2,3,5,6]) (x0:=(Vm.Repo.mk b.1.Commits b.1.Heads)) (x1:=(Vm.Repo.mk a.1.Commits a.1.Heads)) ((Repo.rd (K:=[5,6]) b.1.Commits b.1.Heads (aq.rd.sub (M:=[5,6]) O) (ar.rd.sub (M:=[5,6]) O)).sub (M:=[2,3,5,6]) O) ((Repo.rd (K:=[2,3]) a.1.Commits a.1.Heads ((bg.up d).rd.sub (M:=[2,3]) O) ((bh.up d).rd.sub (M:=[2,3]) O)).sub (M:=[2,3,5,6]) O)) fun fr fs Y dt=>?_)))
     have du:=a8.n dt
     exact Nb O (.ret (rt Y du))
    ·refine sk (sr (la au (ms O (ca Y (fun _=>p44 (K:=[0,5,6]) (x0:=(Vm.Repo.mk b.1.Commits b.1.Heads)) ((Repo.rd (K:=[5,6]) b.1.Commits b.1.Heads (aq.rd.sub (M:=[5,6]) O) (ar.rd.sub (M:=[5,6]) O)).sub (M:=[0,5,6]) O) ((L.ul a8).sub (M:=[0,5,6]) O)) fun dv ft Y k=>?_))))
     have cw:=a8.n k
     refine Ni O (sr (la (au.up k) (mi O (cr Y (fun _=>p45 (K:=[0,5,6]) (k0:=9) (x0:=(Vm.Repo.mk b.1.Commits b.1.Heads)) ((Repo.rd (K:=[5,6]) b.1.Commits b.1.Heads ((aq.up k).rd.sub (M:=[5,6]) O) ((ar.up k).rd.sub (M:=[5,6]) O)).sub (M:=[0,5,6]) O) ((L.ul cw).sub (M:=[0,5,6]) O)) ?_))))
     rintro a9 _ fu Y F ⟨af,rfl,dw⟩
     have dx:=cw.n F
     refine mv (.tuple [af,vB a9.2].toArray) O (Lw.r O (R.ext (vs:=[af,vB a9.2]) (v:=af) O O) (Lw.r O (R.ext (vs:=[af,vB a9.2]) (v:=vB a9.2) O O) (Gv af O (Nb O (sr (Lw.t O (T.lit0 (α:=File) 10 []) ?_))))))
     rintro bm _ ⟨fv,rfl,B,dy⟩
     have dz:=dx.n B
     refine Nv bm O ?_
     have d0:=a4.up ((h.sub (M:=[8]) O).trans ((i.sub (M:=[8]) O).trans ((d.sub (M:=[8]) O).trans ((k.sub (M:=[8]) O).trans ((F.sub (M:=[8]) O).trans (B.sub (M:=[8]) O)))))) O
     have d1:=a6.up ((h.sub (M:=[8]) O).trans ((i.sub (M:=[8]) O).trans ((d.sub (M:=[8]) O).trans ((k.sub (M:=[8]) O).trans ((F.sub (M:=[8]) O).trans (B.sub (M:=[8]) O)))))) O
     obtain⟨bn,d2,H,bp⟩:=znf _ 2
     rw[<- d2]
     have fw:Rd bn [0,3] [an] A.1.Commits:=by rw[bp];exact(d0.dye 2).sub (M:=[0,3]) O
     have fx:Rd bn [0,3] [ao] A.1.Heads:=by rw[bp];exact(d1.dye 2).sub (M:=[0,3]) O
     have ah:Rd (α:=List Vm.Commit) bn [0] [z] a.1.Commits:=by rw[bp];exact(((((bg.up d).up k).up F).up B).rd.dye 2).sub (M:=[0]) O
     have ba:=dz.t H
     obtain⟨bq,d3,Q,d4⟩:=znf _ 10
     rw[<- d3]
     have d5:Rd (α:=List Vm.File) bq [0] [bm] ([]:List File):=by rw[d4];exact((dy.up H).rd.dye 10).sub (M:=[0]) O
     have C:=Q.s
     have bb:=(((((bi.up d).up k).up F).up B).up H).up Q
     obtain⟨d6,d7,Y⟩:=zdY Y
     refine Cw.join 78 98 [14] (fun l w=> ∃ br bc aw,CW.w aw=w/\Le [] bq aw/\l=[bc]/\Rd aw [0] [bc] br/\d6 br=some r) ?_ ?_
     ·rintro _ _ σ ⟨br,bc,aw,rfl,S,rfl,r174,Y⟩
      rw[d7]at Y
      have U:=S.o
      obtain⟨d8,d9,Y⟩:=zdY Y
      refine Cw.join 99 130 [2] (fun l w=> ∃ bu bv,CW.w bv=w/\Le [] aw bv/\l=[vB bu]/\d8 bu=some r) ?_ ?_
      ·rintro _ _ σ ⟨bu,bv,rfl,ea,rfl,Y⟩
       rw[d9]at Y
       have eb:=((ba.trans C).trans U).n ea
       exact .ret (rt Y eb)
      ·refine Cw.draw [] [(0,1),(1,2),(2,0),(3,1),(4,1),(5,2),(6,0),(7,0),(8,0),(9,1),(10,0),(11,0),(12,0),(13,1),(14,1),(15,0),(16,2),(17,2),(18,2),(19,0),(20,0),(21,0),(22,1),(23,0),(24,2),(25,0),(26,0),(27,0),(28,0),(29,2),(30,0),(31,0),(32,0)] mixed (by kernel_rfl) fun fy x=>?_
       have V:=x.o
       have ax:=((((((aq.up k).up F).up B).up H).up Q).up S).up x
       have cx:=((((((ar.up k).up F).up B).up H).up Q).up S).up x
       have bw:=(bb.up S).up x
       have bz:=((((((au.up k).up F).up B).up H).up Q).up S).up x
       refine Mw.q O O (fun _ c=>R.lda (cs:=[N,ac]) (bz.clcs O c) O O) ?_
       obtain⟨fz,ec,Y⟩:=ob Y
       refine Mw.t O O (T.call O (p43 (K:=[0,5,6]) (x0:=(Vm.Repo.mk b.1.Commits b.1.Heads)) ((Repo.rd (K:=[5,6]) b.1.Commits b.1.Heads (ax.rd.sub (M:=[5,6]) O) (cx.rd.sub (M:=[5,6]) O)).sub (M:=[0,5,6]) O) ((L.ul (((ba.trans C).trans U).trans V)).sub (M:=[0,5,6]) O) ec)) ?_
       rintro _ _ ⟨ed,rfl,y,rfl⟩
       have ai:=y.o
       have b0:=((((((((bh.up d).up k).up F).up B).up H).up Q).up S).up x).up y
       refine m0 y fun ee=>Db O (bs Y (fun X Y=>?_) fun X Y=>?_)
       ·refine Wq X O (fun _ c=>R.lda (cs:=[N,ac]) (bz.clcs O c) O O) (Wq X O (fun _ c=>R.lda (cs:=[z,E]) (bw.clcs O c) O O) ?_)
        obtain⟨ef,eg,Y⟩:=ob Y
        refine Wt X O (T.call O (p46 (K:=[0,3,5,6]) (x0:=(Vm.Repo.mk b.1.Commits b.1.Heads)) (x1:=(Vm.Repo.mk a.1.Commits a.1.Heads)) ((Repo.rd (K:=[5,6]) b.1.Commits b.1.Heads ((ax.up y).rd.sub (M:=[5,6]) O) ((cx.up y).rd.sub (M:=[5,6]) O)).sub (M:=[0,3,5,6]) O) ((Repo.rd (K:=[0,3]) a.1.Commits a.1.Heads ((ah.ul (((C.trans U).trans V).trans ai)).sub (M:=[0,3]) O) (b0.rd.sub (M:=[0,3]) O)).sub (M:=[0,3,5,6]) O) eg)) ?_
        rintro _ _ ⟨eh,rfl,D,rfl⟩
        have ay:=D.o
        refine mc ee D fun ei=>Mw.p O O (fun _=>R.pk X O (v:=vB ef) O) (Db O (bs Y (fun e Y=>?_) fun e Y=>?_))
        ·refine Wp e O (fun _=>R.fa O) (Wq e O (fun _ c=>R.ld (v:=N) O O (bz.clc O O c)) (Wp e O (fun _=>R.mv (v:=vI dv) O) ?_))
         obtain⟨f0,b1,Y⟩:=ob Y
         refine Wp e O (fun _=>R.ix (α:=Commit) ax.rd b1 O O O) (Wp e O (fun _=>R.fa O) ?_)
         obtain⟨f1,c234,r235⟩:=(Commit.at0 (ax.rd.at_ b1)).cell O
         refine Wq e O (fun _ c=>R.ld O O (zaW (Commit.at0 (ax.rd.at_ b1)).1 O c234 c)) (Wq e O (fun _ c=>R.lda (cs:=[z,E]) (bw.clcs O c) O O) (Wp e O (fun _=>R.mv (v:=vS a.2.1) O) ?_))
         obtain⟨cy,ej,Y⟩:=ob Y
         refine Wt e O (T.call O (p44 (K:=[0,3]) (x0:=(Vm.Repo.mk a.1.Commits a.1.Heads)) (Repo.rd (K:=[0,3]) a.1.Commits a.1.Heads ((ah.ul ((((C.trans U).trans V).trans ai).trans ay)).sub (M:=[0,3]) O) ((b0.up D).rd.sub (M:=[0,3]) O)) ((L.ul (((((ba.trans C).trans U).trans V).trans ai).trans ay)).sub (M:=[0,3]) O) ej)) ?_
         rintro _ _ ⟨ek,rfl,I,rfl⟩
         have b2:=I.o
         refine mc ei I fun el=>Wt e O (T.bsS (α:=Int) (xs:=[cy]) 11 [] (W:=ek) [vI cy] (Each.cons ((rdI _)) Each.nil) O) ?_
         rintro f2 _ ⟨f3,rfl,J,em⟩
         have b3:=J.o
         refine mc el J fun en=>?_
         have eo:=r235.up ((y.sub (M:=[]) O).trans ((D.sub (M:=[]) O).trans ((I.sub (M:=[]) O).trans (J.sub (M:=[]) O)))) O
         obtain⟨ep,er,Y⟩:=ob Y
         refine Wt e O (T.call O (p47 (K:=[5,11]) (eo.sub (M:=[5,11]) O) (em.rd.sub (M:=[5,11]) O) er)) ?_
         rintro _ _ ⟨es,rfl,Z,rfl⟩
         have b4:=Z.o
         refine mc en Z fun et=>Mw.p O O (fun _=>R.pk e O (v:=vB ep) O) (Db O (bs Y (fun f Y=>?_) fun f Y=>?_))
         ·refine Wp f O (fun _=>R.mv (v:=vI a.2.2.2) O) (Wq f O (fun _ c=>R.lda (cs:=[z,E]) (bw.clcs O c) O O) (Wp f O (fun _=>R.mv (v:=vS a.2.1) O) ?_))
          obtain⟨eu,ew,Y⟩:=ob Y
          refine Wt f O (T.call O (p44 (K:=[0,3]) (x0:=(Vm.Repo.mk a.1.Commits a.1.Heads)) (Repo.rd (K:=[0,3]) a.1.Commits a.1.Heads ((ah.ul (((((((C.trans U).trans V).trans ai).trans ay).trans b2).trans b3).trans b4)).sub (M:=[0,3]) O) (((((b0.up D).up I).up J).up Z).rd.sub (M:=[0,3]) O)) ((L.ul ((((((((ba.trans C).trans U).trans V).trans ai).trans ay).trans b2).trans b3).trans b4)).sub (M:=[0,3]) O) ew)) ?_
          rintro _ _ ⟨ex,rfl,az,rfl⟩
          have ey:=(((((V.trans ai).trans ay).trans b2).trans b3).trans b4).n az
          refine mc et az fun ez=>Wp f O (fun _=>R.ne O O) (Wp f O (fun _=>R.mv (v:=vB ((a.2.2.2:Int) !=(eu:Int))) O) (bs Y (fun aa Y=>?_) fun aa Y=>?_))
          ·exact dps 3 aa O (Wp f O (fun _=>R.pk aa O (v:=vB true) O) (Mw.p O O (fun _=>R.pk f O (v:=vB true) O) (Hb O (Mw.nil ((ag) ⟨true,ex,O,((((((x.j y).j D).j I).j J).j Z).j az).w,O,Y⟩)))))
          ·refine Wp aa O (fun _=>R.mv (v:=af) O) (Wp aa O (fun _=>R.mv (v:=bc) O) ?_)
           obtain⟨b5,e0,Y⟩:=ob Y
           refine Wt aa O (T.call O (p48 (K:=[0,9]) ((((((((((((dw.up B).up H).up Q).up S).up x).up y).up D).up I).up J).up Z).up az).rd.sub (M:=[0,9]) O) ((r174.ul ey).sub (M:=[0,9]) O) e0)) ?_
           rintro _ _ ⟨e1,rfl,cz,rfl⟩
           exact mc ez cz fun f4=>Wp f O (fun _=>R.pk aa O (v:=vB b5) O) (Mw.p O O (fun _=>R.pk f O (v:=vB b5) O) (Hb O (Mw.nil ((ag) ⟨b5,e1,O,(((((((x.j y).j D).j I).j J).j Z).j az).j cz).w,O,Y⟩))))
         ·exact dps 6 f O (dpu 3 O (dps 1 f O (Mw.p O O (fun _=>R.pk f O (v:=vB false) O) (Hb O (Mw.nil ((ag) ⟨false,es,O,(((((x.j y).j D).j I).j J).j Z).w,O,Y⟩))))))
        ·exact dps 11 e O (Mw.p O O (fun _=>R.pk e O (v:=vB false) O) (Db O (dps 6 O O (dpu 3 O (dps 1 O O (Mw.p O O (fun _=>R.pk O O (v:=vB false) O) (Hb O (Mw.nil ((ag) ⟨false,eh,O,((x.j y).j D).w,O,Y⟩)))))))))
       ·exact dps 3 X O (Mw.p O O (fun _=>R.pk X O (v:=vB false) O) (Db O (dps 11 O O (Mw.p O O (fun _=>R.pk O O (v:=vB false) O) (Db O (dps 6 O O (dpu 3 O (dps 1 O O (Mw.p O O (fun _=>R.pk O O (v:=vB false) O) (Hb O (Mw.nil ((ag) ⟨false,ed,O,(x.j y).w,O,Y⟩))))))))))))
     ·refine sr (fl bb O (mi O ?_))
      obtain⟨e2,c0,Y⟩:=ob Y
      refine Lw.r O (R.ix (α:=Commit) (ah.ul C) c0 O O O) (Lw.fa O ?_)
      obtain⟨f5,c304,r305⟩:=(Commit.at0 ((ah.ul C).at_ c0)).cell O
      refine Lw.r O (R.ld O O c304) (Lw.ln e2.Parents r305 O (Lw.gt O (nl (cn Y (fun Y=>?_) fun Y=>?_))))
      ·refine Cw.draw [] [(0,0),(1,1),(2,0),(3,1),(4,0),(5,0),(6,0),(7,1),(8,0),(9,1),(10,0),(11,0),(12,1),(13,0)] mixed (by kernel_rfl) fun e3 be=>?_
       have e4:=C.n be
       refine Dfl (bb.up be) O O O (Dfl (bb.up be) O O O (Di O ?_))
       obtain⟨f6,b7,Y⟩:=ob Y
       have aj:=ah.ul e4
       refine Mw.p O O (fun _=>R.ix (α:=Commit) aj b7 O O O) (Df O ?_)
       obtain⟨f7,c320,r321⟩:=(Commit.at0 (aj.at_ b7)).cell O
       refine Mw.q O O (fun _ c=>R.ld O O (zaW (Commit.at0 (aj.at_ b7)).1 O c320 c)) ?_
       obtain⟨f8,b8,Y⟩:=ob Y
       refine Mw.p O O (fun _=>R.ix (α:=Int) r321 b8 O O O) (Mw.q O O (fun _ c=>R.ld O O (zaW (r321.at_ b8).1 O (r321.at_ b8).int c)) ?_)
       obtain⟨e5,b9,Y⟩:=ob Y
       refine Mw.p O O (fun _=>R.ix (α:=Commit) aj b9 O O O) (Df O ?_)
       obtain⟨c1,c327,r328⟩:=(Commit.at2 (aj.at_ b9)).cell O
       exact Mw.q O O (fun _ c=>R.ld O O (zaW (Commit.at2 (aj.at_ b9)).1 O c327 c)) (Hv c1 O (Mw.nil ((ag) ⟨e5.Tree,c1,e3,O,be,O,r328,Y⟩)))
      ·exact sk ((ag) ⟨([]:List File),bm,bq,O,Le.refl _ _,O,d5,Y⟩)
  ·refine rg (mi O (mi O (Lw.ne O (mb O (bs Y (fun a0 Y=>?_) fun a0 Y=>?_)))))
   ·exact psk 4 a0 O (Pb a0 O (mb O (psk 3 O O (Pb O O (nl ((ag) ⟨true,co,O,Le.refl _ _,O,Y⟩))))))
   ·refine wak 4 a0 (la cv (la cp ?_))
    have e6:=a4.up ((h.sub (M:=[8]) O).trans (i.sub (M:=[8]) O)) O
    have e7:=a6.up ((h.sub (M:=[8]) O).trans (i.sub (M:=[8]) O)) O
    refine ca Y (fun _=>p42 (K:=[0,2,3,5,6]) (x0:=(Vm.Repo.mk b.1.Commits b.1.Heads)) ((Repo.rd (K:=[5,6]) b.1.Commits b.1.Heads (ct.rd.sub (M:=[5,6]) O) (cu.rd.sub (M:=[5,6]) O)).sub (M:=[0,2,3,5,6]) O) ((Repo.rd (K:=[0,2,3]) A.1.Commits A.1.Heads e6 e7).sub (M:=[0,2,3,5,6]) O)) fun f9 e8 Y ak=>?_
    have e9:=cq.n ak
    refine Lw.r O (R.not O) (Pb a0 O (mb O (bs Y (fun a1 Y=>?_) fun a1 Y=>?_)))
    ·exact psk 3 a1 O (Pb a1 O (nl ((ag) ⟨true,e8,O,ak,O,Y⟩)))
    ·exact wak 3 a1 (la (bi.up ak) (ca Y (fun _=>p43 (K:=[0,2,3]) (x0:=(Vm.Repo.mk a.1.Commits a.1.Heads)) ((Repo.rd (K:=[2,3]) a.1.Commits a.1.Heads ((bg.up ak).rd.sub (M:=[2,3]) O) ((bh.up ak).rd.sub (M:=[2,3]) O)).sub (M:=[0,2,3]) O) ((L.ul e9).sub (M:=[0,2,3]) O)) fun fb fc Y fd=>Lw.r O (R.not O) (Pb a1 O (nl ((ag) ⟨(!fb),fc,O,(ak.j fd).w,O,Y⟩)))))
theorem p8 {x0 a r}(b:Rd W K [a] x0)(d:Gl 0 W K)(Y:Vm.zke x0=some r):Q1 8 [a] W [] fun W' v=>v=vB r:=
 (c8 (b.view _) (d.view _) Y).ad (fk 0) fun _ _ e=>e
end Go.Sx
