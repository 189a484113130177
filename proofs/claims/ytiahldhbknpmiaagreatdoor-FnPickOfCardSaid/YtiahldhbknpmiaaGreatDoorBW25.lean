/- Walks: each function answers as its model, printed by a program of ours. Conditions: the arguments read as they are given. -/
import Derived.Test.YtiahldhbknpmiaaGreatDoorBTs
import Derived.Test.YtiahldhbknpmiaaGreatDoorBM17
import Derived.Test.YtiahldhbknpmiaaGreatDoorBW10
import Derived.Test.YtiahldhbknpmiaaGreatDoorBW12
import Derived.Test.YtiahldhbknpmiaaGreatDoorBW17
import Derived.Test.YtiahldhbknpmiaaGreatDoorBW18
import Derived.Test.YtiahldhbknpmiaaGreatDoorBW5
import Derived.Test.YtiahldhbknpmiaaGreatDoorBW6
import Derived.Test.YtiahldhbknpmiaaGreatDoorBW7
namespace Go.Sx
open Go Go.Proofs Go.Vm Rp
set_option linter.unusedVariables false
set_option linter.unusedSimpArgs false
variable {W W0:CW}{K:List Nat}
theorem c9 {x0 a3 r}(h0:Rd W0 [0] [a3] x0)(J:Gl 0 W0 [0])(Y:Vm.zlp x0=some r):Q0 9 [a3] W0 fun Wf v=>v=vB r:=by
 unfold Vm.zlp at Y
 refine zaY.of Tryz.func9 O O O O (sr (Nb O (ssr (mv a3 O (Lw.ln x0 h0 O (Lw.gt O (nl (cn Y (fun Y=>?_) fun Y=>?_))))))))
 ·exact sr (Nb O (.ret (rt Y (Le.refl _ _))))
 ·refine sk (sr (mv a3 O (cr Y (fun _=>p49 (k0:=2) (k1:=3) h0) ?_)))
  rintro a _ W4 Y l4 ⟨L,V,rfl,co,cp⟩
  have a5:=l4.o
  refine mv (.tuple [.agg [L,V].toArray,vS a.2.1,vS a.2.2.1,vI a.2.2.2].toArray) O (Lw.r O (R.ext (vs:=[.agg [L,V].toArray,vS a.2.1,vS a.2.2.1,vI a.2.2.2]) (v:= .agg [L,V].toArray) O O) (Lw.r O (R.ext (vs:=[.agg [L,V].toArray,vS a.2.1,vS a.2.2.1,vI a.2.2.2]) (v:=vS a.2.1) O O) (Lw.r O (R.ext (vs:=[.agg [L,V].toArray,vS a.2.1,vS a.2.2.1,vI a.2.2.2]) (v:=vS a.2.2.1) O O) (Lw.r O (R.ext (vs:=[.agg [L,V].toArray,vS a.2.1,vS a.2.2.1,vI a.2.2.2]) (v:=vI a.2.2.2) O O) (al 4 [.slice none 0 0, .slice none 0 0] fun g6 W6 l6 b6=>?_)))))
  have a7:=a5.n l6
  refine sta b6 (zai (co.up l6).oc (zai (cp.up l6).oc zbt)) fun f3 l10 cq=>?_
  have cs:=a7.t l10
  have ct:=(co.up l6).up l10
  have cu:=(cp.up l6).up l10
  refine Gs O (Gs O (Ni O (sr (la cq (ms O (ms O (mi O (cr Y (fun _=>p23 (K:=[0,2,3]) (k0:=5) (k1:=6) (x0:=(Vm.Repo.mk a.1.Commits a.1.Heads)) ((Repo.rd (K:=[2,3]) a.1.Commits a.1.Heads (ct.rd.sub (M:=[2,3]) O) (cu.rd.sub (M:=[2,3]) O)).sub (M:=[0,2,3]) O) ((J.ul cs).sub (M:=[0,2,3]) O)) ?_))))))))
  rintro b _ f4 Y a4 ⟨a6,a8,rfl,cv,cw⟩
  have dy:=cs.n a4
  refine mv (.tuple [.agg [a6,a8].toArray,vI b.2].toArray) O (Lw.r O (R.ext (vs:=[.agg [a6,a8].toArray,vI b.2]) (v:= .agg [a6,a8].toArray) O O) (Lw.r O (R.ext (vs:=[.agg [a6,a8].toArray,vI b.2]) (v:=vI b.2) O O) (al 7 [.slice none 0 0, .slice none 0 0] fun f5 f6 E dz=>?_)))
  have d0:=dy.n E
  refine sta dz (zai (cv.up E).oc (zai (cw.up E).oc zbt)) fun f7 X d1=>?_
  have d2:=d0.t X
  have cx:=((ct.up a4).up E).up X
  have cy:=((cu.up a4).up E).up X
  have cz:=((cq.up a4).up E).up X
  refine Ni O (sr (la cz (ms O (ms O (mi O (cr Y (fun _=>p22 (K:=[2,3]) (x0:=(Vm.Repo.mk a.1.Commits a.1.Heads)) (Repo.rd (K:=[2,3]) a.1.Commits a.1.Heads (cx.rd.sub (M:=[2,3]) O) (cy.rd.sub (M:=[2,3]) O))) ?_))))))
  rintro x _ f8 Y N ⟨am,an,rfl,d3,d4⟩
  have a9:=d3.sub (M:=[0,2,3]) O
  have ba:=d4.sub (M:=[0,2,3]) O
  have d5:=d2.n N
  refine mv (.tuple [.agg [am,an].toArray,vI x.2].toArray) O (Lw.r O (R.ext (vs:=[.agg [am,an].toArray,vI x.2]) (v:= .agg [am,an].toArray) O O) (Lw.r O (R.ext (vs:=[.agg [am,an].toArray,vI x.2]) (v:=vI x.2) O O) (al 8 [.slice none 0 0, .slice none 0 0] fun f9 ga e d6=>?_)))
  have d7:=d5.n e
  refine sta d6 (zai a9.oc (zai ba.oc zbt)) fun c0 f c1=>?_
  have c2:=d7.t f
  have c3:=((cx.up N).up e).up f
  have c4:=((cy.up N).up e).up f
  have c5:=((((cv.up E).up X).up N).up e).up f
  have c6:=((((cw.up E).up X).up N).up e).up f
  have c7:=((cz.up N).up e).up f
  have c8:=((d1.up N).up e).up f
  refine Ni O (Cw.seq ?_)
  obtain⟨d8,d9,Y⟩:=zdY Y
  refine Cw.join 45 58 [58] (fun l w=> ∃ br ao,CW.w ao=w/\Le [] c0 ao/\l=[vB br]/\d8 br=some r) ?_ ?_
  ·rintro _ _ σ ⟨br,ao,rfl,h,rfl,Y⟩
   rw[d9]at Y
   have bb:=c2.n h
   have bu:=c3.up h
   have bv:=c4.up h
   have bc:=c5.up h
   have be:=c6.up h
   have bw:=c7.up h
   have bg:=c8.up h
   refine cn Y (fun Y=>?_) fun Y=>?_
   ·obtain⟨ea,eb,Y⟩:=zdY Y
    refine Cw.join 59 66 [2] (fun l w=> ∃ bz b0,CW.w b0=w/\Le [] ao b0/\l=[vB bz]/\ea bz=some r) ?_ ?_
    ·rintro _ _ σ ⟨bz,b0,rfl,ec,rfl,Y⟩
     rw[eb]at Y
     have ed:=bb.n ec
     exact .ret (rt Y ed)
    ·refine rg (mi O (mi O (Lw.eq O (mb O (bs Y (fun ap Y=>?_) fun ap Y=>?_)))))
     ·refine wak 3 ap (la bg (la (c1.up h) ?_))
      have ee:=a9.up ((e.sub (M:=[8]) O).trans ((f.sub (M:=[8]) O).trans (h.sub (M:=[8]) O))) O
      have ef:=ba.up ((e.sub (M:=[8]) O).trans ((f.sub (M:=[8]) O).trans (h.sub (M:=[8]) O))) O
      exact ca Y (fun _=>p42 (K:=[0,2,3,5,6]) (x0:=(Vm.Repo.mk b.1.Commits b.1.Heads)) ((Repo.rd (K:=[5,6]) b.1.Commits b.1.Heads (bc.rd.sub (M:=[5,6]) O) (be.rd.sub (M:=[5,6]) O)).sub (M:=[0,2,3,5,6]) O) ((Repo.rd (K:=[0,2,3]) x.1.Commits x.1.Heads ee ef).sub (M:=[0,2,3,5,6]) O)) fun eg eh Y ei=>Pb ap O (Nb O ((ag) ⟨eg,eh,O,ei,O,Y⟩))
     ·exact psk 3 ap O (Pb ap O (Nb O ((ag) ⟨false,ao,O,Le.refl _ _,O,Y⟩)))
   ·refine sk (ssr (mi O (Lw.ne O (nl (cn Y (fun Y=>?_) fun Y=>?_)))))
    ·refine sr (la bg (la bw (ca Y (fun _=>p42 (K:=[2,3,5,6]) (x0:=(Vm.Repo.mk b.1.Commits b.1.Heads)) (x1:=(Vm.Repo.mk a.1.Commits a.1.Heads)) ((Repo.rd (K:=[5,6]) b.1.Commits b.1.Heads (bc.rd.sub (M:=[5,6]) O) (be.rd.sub (M:=[5,6]) O)).sub (M:=[2,3,5,6]) O) ((Repo.rd (K:=[2,3]) a.1.Commits a.1.Heads (bu.rd.sub (M:=[2,3]) O) (bv.rd.sub (M:=[2,3]) O)).sub (M:=[2,3,5,6]) O)) fun gb gc Y ej=>?_)))
     have ek:=bb.n ej
     exact Nb O (.ret (rt Y ek))
    ·refine sk (sr (la bw (ms O (ca Y (fun _=>p44 (K:=[0,2,3]) (x0:=(Vm.Repo.mk a.1.Commits a.1.Heads)) ((Repo.rd (K:=[2,3]) a.1.Commits a.1.Heads (bu.rd.sub (M:=[2,3]) O) (bv.rd.sub (M:=[2,3]) O)).sub (M:=[0,2,3]) O) ((J.ul bb).sub (M:=[0,2,3]) O)) fun b1 gd Y i=>?_))))
     have da:=bb.n i
     refine Ni O (sr (la (bg.up i) (ms O (ca Y (fun _=>p44 (K:=[0,5,6]) (x0:=(Vm.Repo.mk b.1.Commits b.1.Heads)) ((Repo.rd (K:=[5,6]) b.1.Commits b.1.Heads ((bc.up i).rd.sub (M:=[5,6]) O) ((be.up i).rd.sub (M:=[5,6]) O)).sub (M:=[0,5,6]) O) ((J.ul da).sub (M:=[0,5,6]) O)) fun gf gg Y z=>?_))))
     have el:=da.n z
     refine Ni O (sr (Lw.t O (T.lit0 (α:=File) 9 []) ?_))
     rintro b2 _ ⟨gh,rfl,A,em⟩
     have en:=el.n A
     refine Nv b2 O ?_
     obtain⟨eo,ep,B,er⟩:=znf _ 9
     rw[<- ep]
     have es:Rd (α:=List Vm.File) eo [0] [b2] ([]:List File):=by rw[er];exact(em.rd.dye 9).sub (M:=[0]) O
     have bh:=en.t B
     have et:=a9.up ((e.sub (M:=[8,9]) O).trans ((f.sub (M:=[8,9]) O).trans ((h.sub (M:=[8,9]) O).trans ((i.sub (M:=[8,9]) O).trans ((z.sub (M:=[8,9]) O).trans ((A.sub (M:=[8,9]) O).trans (B.sub (M:=[8,9]) O))))))) O
     have eu:=ba.up ((e.sub (M:=[8,9]) O).trans ((f.sub (M:=[8,9]) O).trans ((h.sub (M:=[8,9]) O).trans ((i.sub (M:=[8,9]) O).trans ((z.sub (M:=[8,9]) O).trans ((A.sub (M:=[8,9]) O).trans (B.sub (M:=[8,9]) O))))))) O
     obtain⟨aq,ew,Z,b3⟩:=znf _ 2
     rw[<- ew]
     have gj:Rd aq [0,3] [am] x.1.Commits:=by rw[b3];exact(et.dye 2).sub (M:=[0,3]) O
     have gk:Rd aq [0,3] [an] x.1.Heads:=by rw[b3];exact(eu.dye 2).sub (M:=[0,3]) O
     have F:Rd (α:=List Vm.Commit) aq [0] [L] a.1.Commits:=by rw[b3];exact(((((bu.up i).up z).up A).up B).rd.dye 2).sub (M:=[0]) O
     have ar:=Z.s
     have bi:=((((bw.up i).up z).up A).up B).up Z
     obtain⟨ex,ey,Y⟩:=zdY Y
     refine Cw.join 79 99 [13] (fun l w=> ∃ b4 bj bk,CW.w bk=w/\Le [] aq bk/\l=[bj]/\Rd bk [0] [bj] b4/\ex b4=some r) ?_ ?_
     ·rintro _ _ σ ⟨b4,bj,bk,rfl,aa,rfl,r171,Y⟩
      rw[ey]at Y
      have P:=aa.o
      refine Cw.seq (Cw.draw [] [(0,0),(1,0),(2,1),(3,0),(4,0),(5,0),(6,1),(7,0),(8,1),(9,0),(10,0),(11,0),(12,1),(13,2),(14,0),(15,0),(16,0),(17,0),(18,0)] mixed (by kernel_rfl) fun gm ac=>?_)
      have G:=ac.o
      have b5:=(bi.up aa).up ac
      refine Dv bj O (Dfl b5 O O O (Di O ?_))
      obtain⟨gn,b7,Y⟩:=ob Y
      have ae:=F.ul (P.trans G)
      refine Mw.p O O (fun _=>R.ix (α:=Commit) ae b7 O O O) (Df O ?_)
      obtain⟨go,c193,r194⟩:=(Commit.at2 (ae.at_ b7)).cell O
      refine Mw.q O O (fun _ c=>R.ld O O (zaW (Commit.at2 (ae.at_ b7)).1 O c193 c)) (Dfl b5 O O O (Di O ?_))
      obtain⟨gr,b8,Y⟩:=ob Y
      refine Mw.p O O (fun _=>R.ix (α:=Commit) ae b8 O O O) (Df O ?_)
      obtain⟨gs,c198,r199⟩:=(Commit.at2 (ae.at_ b8)).cell O
      refine Mw.q O O (fun _ c=>R.ld O O (zaW (Commit.at2 (ae.at_ b8)).1 O c198 c)) ?_
      obtain⟨af,ez,Y⟩:=ob Y
      refine Mw.t O O (T.call O (p50 (k0:=10) (r171.ul G) r194 r199 (J.ul (((bh.trans ar).trans P).trans G)) ez)) ?_
      rintro _ _ ⟨e0,rfl,Q,⟨H,rfl,e1⟩⟩
      have e2:Ow (α:=List (Sh Vm.File)) e0 10 [0] [H] af.1:=e1.sub O
      have au:=Q.o
      have db:=(((((((bc.up i).up z).up A).up B).up Z).up aa).up ac).up Q
      have dc:=(((((((be.up i).up z).up A).up B).up Z).up aa).up ac).up Q
      have dd:=(((((((bg.up i).up z).up A).up B).up Z).up aa).up ac).up Q
      refine m0 Q fun gu=>Dv (.tuple [H,vB af.2].toArray) O (Mw.p O O (fun _=>R.ext (vs:=[H,vB af.2]) (v:=H) O O) (Mw.p O O (fun _=>R.ext (vs:=[H,vB af.2]) (v:=vB af.2) O O) (Hv H O (Hb O (Mw.nil (sr (la dd (mi O (cr Y (fun _=>p45 (K:=[0,5,6]) (k0:=11) (x0:=(Vm.Repo.mk b.1.Commits b.1.Heads)) ((Repo.rd (K:=[5,6]) b.1.Commits b.1.Heads (db.rd.sub (M:=[5,6]) O) (dc.rd.sub (M:=[5,6]) O)).sub (M:=[0,5,6]) O) ((J.ul ((((bh.trans ar).trans P).trans G).trans au)).sub (M:=[0,5,6]) O)) ?_)))))))))
      rintro bl _ b9 Y S ⟨U,rfl,e3⟩
      have bm:=S.o
      have cb:=(b5.up Q).up S
      refine mv (.tuple [U,vB bl.2].toArray) O (Lw.r O (R.ext (vs:=[U,vB bl.2]) (v:=U) O O) (Lw.r O (R.ext (vs:=[U,vB bl.2]) (v:=vB bl.2) O O) (Gv U O (Nb O ?_))))
      obtain⟨e4,e5,Y⟩:=zdY Y
      refine Cw.join 123 142 [18] (fun l w=> ∃ cc bn,CW.w bn=w/\Le [] b9 bn/\l=[vB cc]/\e4 cc=some r) ?_ ?_
      ·rintro _ _ σ ⟨cc,bn,rfl,I,rfl,Y⟩
       rw[e5]at Y
       have cd:=I.o
       have ce:=(db.up S).up I
       have de:=(dc.up S).up I
       have cf:=(dd.up S).up I
       obtain⟨e6,e7,Y⟩:=zdY Y
       refine Cw.join 143 182 [2] (fun l w=> ∃ cg ch,CW.w ch=w/\Le [] bn ch/\l=[vB cg]/\e6 cg=some r) ?_ ?_
       ·rintro _ _ σ ⟨cg,ch,rfl,e8,rfl,Y⟩
        rw[e7]at Y
        have e9:=((((((bh.trans ar).trans P).trans G).trans au).trans bm).trans cd).n e8
        exact .ret (rt Y e9)
       ·refine rg (la cf (ca Y (fun _=>p43 (K:=[0,5,6]) (x0:=(Vm.Repo.mk b.1.Commits b.1.Heads)) ((Repo.rd (K:=[5,6]) b.1.Commits b.1.Heads (ce.rd.sub (M:=[5,6]) O) (de.rd.sub (M:=[5,6]) O)).sub (M:=[0,5,6]) O) ((J.ul ((((((bh.trans ar).trans P).trans G).trans au).trans bm).trans cd)).sub (M:=[0,5,6]) O)) fun gv fb Y d=>?_))
        have df:=((((P.trans G).trans au).trans bm).trans cd).n d
        have dg:=(cb.up I).up d
        refine mb O (bs Y (fun av Y=>?_) fun av Y=>?_)
        ·refine wak 3 av (la (cf.up d) (la dg (ca Y (fun _=>p46 (K:=[0,3,5,6]) (x0:=(Vm.Repo.mk b.1.Commits b.1.Heads)) (x1:=(Vm.Repo.mk a.1.Commits a.1.Heads)) ((Repo.rd (K:=[5,6]) b.1.Commits b.1.Heads ((ce.up d).rd.sub (M:=[5,6]) O) ((de.up d).rd.sub (M:=[5,6]) O)).sub (M:=[0,3,5,6]) O) ((Repo.rd (K:=[0,3]) a.1.Commits a.1.Heads ((F.ul df).sub (M:=[0,3]) O) ((((((((((((bv.up i).up z).up A).up B).up Z).up aa).up ac).up Q).up S).up I).up d).rd.sub (M:=[0,3]) O)).sub (M:=[0,3,5,6]) O)) fun gw dh Y k=>?_)))
         have fc:=df.n k
         have di:=(ce.up d).up k
         refine Pb av O (mb O (bs Y (fun aw Y=>?_) fun aw Y=>?_))
         ·refine wak 9 aw (fl ((cf.up d).up k) O (mi O ?_))
          obtain⟨gx,dj,Y⟩:=ob Y
          refine Lw.r O (R.ix (α:=Commit) di.rd dj O O O) (Lw.fa O ?_)
          obtain⟨gy,c280,r281⟩:=(Commit.at0 (di.rd.at_ dj)).cell O
          refine Lw.r O (R.ld O O c280) (mi O (Lw.t O (T.bsS (α:=Int) (xs:=[b1]) 12 [] (W:=dh) [vI b1] (Each.cons ((rdI _)) Each.nil) O) ?_))
          rintro gz _ ⟨g0,rfl,y,fd⟩
          have fe:=fc.n y
          have ff:=r281.up (y.sub (M:=[]) O) O
          refine ca Y (fun _=>p47 (K:=[5,12]) (ff.sub (M:=[5,12]) O) (fd.rd.sub (M:=[5,12]) O)) fun g1 ci Y C=>?_
          have fg:=fe.n C
          have dk:=((((e3.up I).up d).up k).up y).up C
          refine Pb aw O (mb O (bs Y (fun ax Y=>?_) fun ax Y=>?_))
          ·refine wak 1 ax (mb O (Pb ax O (mb O (bs Y (fun ay Y=>?_) fun ay Y=>?_))))
           ·refine wak 3 ay (mv U O (mv H O ?_))
            have fh:Rd (α:=List Vm.File) ci [10,0] [H] af.1:=Ow.rdSh ((((((e2.up S).up I).up d).up k).up y).up C)
            refine ca Y (fun _=>p48 (K:=[0,10,11]) (dk.rd.sub (M:=[0,10,11]) O) (fh.sub (M:=[0,10,11]) O)) fun g2 dl Y ah=>?_
            have dm:=fg.n ah
            refine Pb ay O (mb O (bs Y (fun D Y=>?_) fun D Y=>?_))
            ·refine wak 3 D (mb O (Lw.r O (R.not O) (mb O (bs Y (fun az Y=>?_) fun az Y=>?_))))
             ·exact psk 8 az O (wak 1 D (Pb az O (Pb D O (Nb O ((ag) ⟨true,dl,O,((((d.j k).j y).j C).j ah).w,O,Y⟩)))))
             ·refine wak 8 az (mv U O (fl ((((dg.up k).up y).up C).up ah) O (mi O ?_)))
              obtain⟨g3,dn,Y⟩:=ob Y
              refine Lw.r O (R.ix (α:=Commit) (F.ul dm) dn O O O) (Lw.fa O ?_)
              obtain⟨g4,c328,r329⟩:=(Commit.at2 ((F.ul dm).at_ dn)).cell O
              exact Lw.r O (R.ld O O c328) (ca Y (fun _=>p48 (K:=[0,11]) ((dk.up ah).rd.sub (M:=[0,11]) O) (r329.sub (M:=[0,11]) O)) fun fi fj Y fm=>wak 1 D (Pb az O (Pb D O (Nb O ((ag) ⟨fi,fj,O,(((((d.j k).j y).j C).j ah).j fm).w,O,Y⟩)))))
            ·exact psk 3 D O (puk 8 O (psk 1 D O (Pb D O (Nb O ((ag) ⟨false,dl,O,((((d.j k).j y).j C).j ah).w,O,Y⟩)))))
           ·exact psk 3 ay O (Pb ay O (mb O (psk 3 O O (puk 8 O (psk 1 O O (Pb O O (Nb O ((ag) ⟨false,ci,O,(((d.j k).j y).j C).w,O,Y⟩))))))))
          ·exact psk 1 ax O (Pb ax O (mb O (psk 3 O O (Pb O O (mb O (psk 3 O O (puk 8 O (psk 1 O O (Pb O O (Nb O ((ag) ⟨false,ci,O,(((d.j k).j y).j C).w,O,Y⟩)))))))))))
         ·exact psk 9 aw O (Pb aw O (mb O (psk 1 O O (Pb O O (mb O (psk 3 O O (Pb O O (mb O (psk 3 O O (puk 8 O (psk 1 O O (Pb O O (Nb O ((ag) ⟨false,dh,O,(d.j k).w,O,Y⟩))))))))))))))
        ·exact psk 3 av O (Pb av O (mb O (psk 9 O O (Pb O O (mb O (psk 1 O O (Pb O O (mb O (psk 3 O O (Pb O O (mb O (psk 3 O O (puk 8 O (psk 1 O O (Pb O O (Nb O ((ag) ⟨false,fb,O,d,O,Y⟩)))))))))))))))))
      ·refine rg (fl cb O (mi O ?_))
       obtain⟨fn,dp,Y⟩:=ob Y
       have bp:=F.ul (((P.trans G).trans au).trans bm)
       refine Lw.r O (R.ix (α:=Commit) bp dp O O O) (Lw.fa O ?_)
       obtain⟨g5,c347,r348⟩:=(Commit.at0 (bp.at_ dp)).cell O
       refine Lw.r O (R.ld O O c347) (Lw.ln fn.Parents r348 O (Lw.gt O (mb O (bs Y (fun a0 Y=>?_) fun a0 Y=>?_))))
       ·refine wak 10 a0 (fl cb O (mi O ?_))
        obtain⟨g7,dq,Y⟩:=ob Y
        refine Lw.r O (R.ix (α:=Commit) bp dq O O O) (Lw.fa O ?_)
        obtain⟨g8,c353,r354⟩:=(Commit.at0 (bp.at_ dq)).cell O
        refine Lw.r O (R.ld O O c353) ?_
        obtain⟨fo,dr,Y⟩:=ob Y
        exact Lw.r O (R.ix (α:=Int) r354 dr O O O) (Lw.r O (R.ld O O (r354.at_ dr).int) (mi O (Lw.eq O (Pb a0 O (Nb O ((ag) ⟨((fo:Int)==(b1:Int)),b9,O,Le.refl _ _,O,Y⟩))))))
       ·exact psk 10 a0 O (Pb a0 O (Nb O ((ag) ⟨false,b9,O,Le.refl _ _,O,Y⟩)))
     ·refine sr (fl bi O (mi O ?_))
      obtain⟨fp,ds,Y⟩:=ob Y
      refine Lw.r O (R.ix (α:=Commit) F ds O O O) (Lw.fa O ?_)
      obtain⟨g9,c360,r361⟩:=(Commit.at0 (F.at_ ds)).cell O
      refine Lw.r O (R.ld O O c360) (Lw.ln fp.Parents r361 O (Lw.gt O (nl (cn Y (fun Y=>?_) fun Y=>?_))))
      ·refine Cw.draw [] [(0,0),(1,1),(2,0),(3,1),(4,0),(5,0),(6,0),(7,1),(8,0),(9,1),(10,0),(11,0),(12,1),(13,0)] mixed (by kernel_rfl) fun fq bq=>?_
       have fr:=bq.o
       refine Dfl (bi.up bq) O O O (Dfl (bi.up bq) O O O (Di O ?_))
       obtain⟨ha,cj,Y⟩:=ob Y
       have ai:=F.ul fr
       refine Mw.p O O (fun _=>R.ix (α:=Commit) ai cj O O O) (Df O ?_)
       obtain⟨hb,c375,r376⟩:=(Commit.at0 (ai.at_ cj)).cell O
       refine Mw.q O O (fun _ c=>R.ld O O (zaW (Commit.at0 (ai.at_ cj)).1 O c375 c)) ?_
       obtain⟨hc,ck,Y⟩:=ob Y
       refine Mw.p O O (fun _=>R.ix (α:=Int) r376 ck O O O) (Mw.q O O (fun _ c=>R.ld O O (zaW (r376.at_ ck).1 O (r376.at_ ck).int c)) ?_)
       obtain⟨fs,cl,Y⟩:=ob Y
       refine Mw.p O O (fun _=>R.ix (α:=Commit) ai cl O O O) (Df O ?_)
       obtain⟨dt,c382,r383⟩:=(Commit.at2 (ai.at_ cl)).cell O
       exact Mw.q O O (fun _ c=>R.ld O O (zaW (Commit.at2 (ai.at_ cl)).1 O c382 c)) (Hv dt O (Mw.nil ((ag) ⟨fs.Tree,dt,fq,O,bq,O,r383,Y⟩)))
      ·exact sk ((ag) ⟨([]:List File),b2,aq,O,Le.refl _ _,O,(es.ul ar),Y⟩)
  ·refine rg (mi O (mi O (Lw.ne O (mb O (bs Y (fun a1 Y=>?_) fun a1 Y=>?_)))))
   ·exact psk 4 a1 O (Pb a1 O (mb O (psk 3 O O (Pb O O (nl ((ag) ⟨true,c0,O,Le.refl _ _,O,Y⟩))))))
   ·refine wak 4 a1 (la c8 (la c1 ?_))
    have ft:=a9.up ((e.sub (M:=[8]) O).trans (f.sub (M:=[8]) O)) O
    have fu:=ba.up ((e.sub (M:=[8]) O).trans (f.sub (M:=[8]) O)) O
    refine ca Y (fun _=>p42 (K:=[0,2,3,5,6]) (x0:=(Vm.Repo.mk b.1.Commits b.1.Heads)) ((Repo.rd (K:=[5,6]) b.1.Commits b.1.Heads (c5.rd.sub (M:=[5,6]) O) (c6.rd.sub (M:=[5,6]) O)).sub (M:=[0,2,3,5,6]) O) ((Repo.rd (K:=[0,2,3]) x.1.Commits x.1.Heads ft fu).sub (M:=[0,2,3,5,6]) O)) fun hd fv Y aj=>?_
    have fw:=c2.n aj
    refine Lw.r O (R.not O) (Pb a1 O (mb O (bs Y (fun a2 Y=>?_) fun a2 Y=>?_)))
    ·exact psk 3 a2 O (Pb a2 O (nl ((ag) ⟨true,fv,O,aj,O,Y⟩)))
    ·exact wak 3 a2 (la (c7.up aj) (ca Y (fun _=>p43 (K:=[0,2,3]) (x0:=(Vm.Repo.mk a.1.Commits a.1.Heads)) ((Repo.rd (K:=[2,3]) a.1.Commits a.1.Heads ((c3.up aj).rd.sub (M:=[2,3]) O) ((c4.up aj).rd.sub (M:=[2,3]) O)).sub (M:=[0,2,3]) O) ((J.ul fw).sub (M:=[0,2,3]) O)) fun fx fy Y fz=>Lw.r O (R.not O) (Pb a2 O (nl ((ag) ⟨(!fx),fy,O,(aj.j fz).w,O,Y⟩)))))
theorem p9 {x0 a r}(b:Rd W K [a] x0)(d:Gl 0 W K)(Y:Vm.zlp x0=some r):Q1 9 [a] W [] fun W' v=>v=vB r:=
 (c9 (b.view _) (d.view _) Y).ad (fk 0) fun _ _ e=>e
end Go.Sx
