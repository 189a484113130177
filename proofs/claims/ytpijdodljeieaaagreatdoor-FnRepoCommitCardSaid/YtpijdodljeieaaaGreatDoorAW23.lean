/- Walks: each function answers as its model, printed by a program of ours. Conditions: the arguments read as they are given. -/
import Derived.Test.YtpijdodljeieaaaGreatDoorATs
import Derived.Test.YtpijdodljeieaaaGreatDoorAM15
import Derived.Test.YtpijdodljeieaaaGreatDoorAW13
import Derived.Test.YtpijdodljeieaaaGreatDoorAW2
import Derived.Test.YtpijdodljeieaaaGreatDoorAW22
import Derived.Test.YtpijdodljeieaaaGreatDoorAW6
import Derived.Test.YtpijdodljeieaaaGreatDoorAW9
namespace Go.Sx
open Go Go.Proofs Go.Vm Rp
set_option linter.unusedVariables false
set_option linter.unusedSimpArgs false
variable {W W0:CW}{K:List Nat}
theorem c6 {x0 ba r}(h0:Rd W0 [0] [ba] x0)(F:Gl 0 W0 [0])(Y:Vm.zh1 x0=some r):Q0 6 [ba] W0 fun Wf v=>v=vB r:=by
 unfold Vm.zh1 at Y
 refine zaO.of Tryz.func6 O O O O (sr (Nb O (ssr (mv ba O (Lw.ln x0 h0 O (Lw.gt O (nl (cn Y (fun Y=>?_) fun Y=>?_))))))))
 ·exact sr (Nb O (.ret (rt Y (Le.refl _ _))))
 ·refine sk (sr (mv ba O (cr Y (fun _=>p28 (k0:=2) (k1:=3) (k2:=4) h0) ?_)))
  rintro a _ W4 Y l4 ⟨B,y,i,rfl,ci,cj,dy⟩
  have o5:Ow (α:=List (Sh Vm.File)) W4 4 [0] [i] a.2.2.2:=dy.sub O
  have a6:=l4.o
  refine mv (.tuple [.agg [B,y].toArray,vS a.2.1,vS a.2.2.1,i].toArray) O (Lw.r O (R.ext (vs:=[.agg [B,y].toArray,vS a.2.1,vS a.2.2.1,i]) (v:= .agg [B,y].toArray) O O) (Lw.r O (R.ext (vs:=[.agg [B,y].toArray,vS a.2.1,vS a.2.2.1,i]) (v:=vS a.2.1) O O) (Lw.r O (R.ext (vs:=[.agg [B,y].toArray,vS a.2.1,vS a.2.2.1,i]) (v:=vS a.2.2.1) O O) (Lw.r O (R.ext (vs:=[.agg [B,y].toArray,vS a.2.1,vS a.2.2.1,i]) (v:=i) O O) (al 5 [.slice none 0 0, .slice none 0 0] fun g7 W7 l7 b7=>?_)))))
  have a8:=a6.n l7
  refine sta b7 (zah (ci.up l7).oc (zah (cj.up l7).oc za4)) fun d3 bb ck=>?_
  have cl:=a8.t bb
  have cm:=(ci.up l7).up bb
  have co:=(cj.up l7).up bb
  have cp:=(o5.up l7).up bb
  refine Gs O (Gs O (Nv i O (sr (la ck (ms O (ms O (mv i O ?_)))))))
  have d4:Rd (α:=List Vm.File) d3 [4,0] [i] a.2.2.2:=Ow.rdSh cp
  refine cr Y (fun _=>p29 (K:=[0,2,3,4]) (k0:=6) (k1:=7) (x0:=(Vm.Repo.mk a.1.Commits a.1.Heads)) ((Repo.rd (K:=[2,3]) a.1.Commits a.1.Heads (cm.rd.sub (M:=[2,3]) O) (co.rd.sub (M:=[2,3]) O)).sub (M:=[0,2,3,4]) O) (d4.sub (M:=[0,2,3,4]) O) ((F.ul cl).sub (M:=[0,2,3,4]) O)) ?_
  rintro b _ go Y av ⟨aa,ac,rfl,cq,ct⟩
  have d5:=cl.n av
  refine mv (.tuple [.agg [aa,ac].toArray,vB b.2].toArray) O (Lw.r O (R.ext (vs:=[.agg [aa,ac].toArray,vB b.2]) (v:= .agg [aa,ac].toArray) O O) (Lw.r O (R.ext (vs:=[.agg [aa,ac].toArray,vB b.2]) (v:=vB b.2) O O) (al 8 [.slice none 0 0, .slice none 0 0] fun gr gs G d6=>?_)))
  have d7:=d5.n G
  refine sta d6 (zah (cq.up G).oc (zah (ct.up G).oc za4)) fun d8 ae d9=>?_
  have ea:=d7.t ae
  have cu:=((cm.up av).up G).up ae
  have cv:=((co.up av).up G).up ae
  have cw:=((cp.up av).up G).up ae
  have cx:=((ck.up av).up G).up ae
  refine Nb O (sr (la cx (ms O (ms O (mv i O ?_)))))
  have eb:Rd (α:=List Vm.File) d8 [4,0] [i] a.2.2.2:=Ow.rdSh cw
  refine cr Y (fun _=>p30 (K:=[0,2,3,4]) (x0:=(Vm.Repo.mk a.1.Commits a.1.Heads)) ((Repo.rd (K:=[2,3]) a.1.Commits a.1.Heads (cu.rd.sub (M:=[2,3]) O) (cv.rd.sub (M:=[2,3]) O)).sub (M:=[0,2,3,4]) O) (eb.sub (M:=[0,2,3,4]) O)) ?_
  rintro P _ gu Y Q ⟨ak,am,rfl,ec,ed⟩
  have br:=ec.sub (M:=[0,2,3,4]) O
  have bu:=ed.sub (M:=[0,2,3,4]) O
  have ee:=ea.n Q
  refine mv (.tuple [.agg [ak,am].toArray,vB P.2].toArray) O (Lw.r O (R.ext (vs:=[.agg [ak,am].toArray,vB P.2]) (v:= .agg [ak,am].toArray) O O) (Lw.r O (R.ext (vs:=[.agg [ak,am].toArray,vB P.2]) (v:=vB P.2) O O) (al 9 [.slice none 0 0, .slice none 0 0] fun gv gw z ef=>?_)))
  have eg:=ee.n z
  refine sta ef (zah br.oc (zah bu.oc za4)) fun eh A cy=>?_
  have cz:=eg.t A
  have c0:=((cu.up Q).up z).up A
  have c1:=((cv.up Q).up z).up A
  have c2:=((((cq.up G).up ae).up Q).up z).up A
  have c3:=((((ct.up G).up ae).up Q).up z).up A
  have c4:=((cx.up Q).up z).up A
  have c5:=((d9.up Q).up z).up A
  refine Nb O (Cw.seq ?_)
  obtain⟨ei,ej,Y⟩:=zdC Y
  refine Cw.join 42 62 [62] (fun l w=> ∃ bv bc,CW.w bc=w/\Le [] eh bc/\l=[vB bv]/\ei bv=some r) ?_ ?_
  ·rintro _ _ σ ⟨bv,bc,rfl,C,rfl,Y⟩
   rw[ej]at Y
   have aw:=cz.n C
   have bw:=c0.up C
   have bz:=c1.up C
   have ax:=c2.up C
   have ay:=c3.up C
   have be:=c4.up C
   have az:=c5.up C
   refine cn Y (fun Y=>?_) fun Y=>?_
   ·obtain⟨ek,el,Y⟩:=zdC Y
    refine Cw.join 63 77 [2] (fun l w=> ∃ b0 b1,CW.w b1=w/\Le [] bc b1/\l=[vB b0]/\ek b0=some r) ?_ ?_
    ·rintro _ _ σ ⟨b0,b1,rfl,em,rfl,Y⟩
     rw[el]at Y
     have en:=aw.n em
     exact .ret (rt Y en)
    ·refine Cw.draw [] [(0,0),(1,0),(2,0),(3,0),(4,1),(5,1),(6,2),(7,0),(8,0),(9,1),(11,1),(10,2),(12,2),(13,0),(14,0),(15,0)] mixed (by kernel_rfl) fun eo k=>?_
     have ep:=aw.n k
     refine Db O (Db O (Mw.p O O (fun _=>R.beq O O) (Db O (bs Y (fun af Y=>?_) fun af Y=>?_))))
     ·refine Wq af O (fun _ c=>R.lda (cs:=[aa,ac]) ((az.up k).clcs O c) O O) (Wq af O (fun _ c=>R.lda (cs:=[ak,am]) (((cy.up C).up k).clcs O c) O O) ?_)
      have er:=br.up ((z.sub (M:=[9]) O).trans ((A.sub (M:=[9]) O).trans ((C.sub (M:=[9]) O).trans (k.sub (M:=[9]) O)))) O
      have es:=bu.up ((z.sub (M:=[9]) O).trans ((A.sub (M:=[9]) O).trans ((C.sub (M:=[9]) O).trans (k.sub (M:=[9]) O)))) O
      obtain⟨et,eu,Y⟩:=ob Y
      refine Wt af O (T.call O (p31 (K:=[0,2,3,4,6,7]) (x0:=(Vm.Repo.mk b.1.Commits b.1.Heads)) ((Repo.rd (K:=[6,7]) b.1.Commits b.1.Heads ((ax.up k).rd.sub (M:=[6,7]) O) ((ay.up k).rd.sub (M:=[6,7]) O)).sub (M:=[0,2,3,4,6,7]) O) ((Repo.rd (K:=[0,2,3,4]) P.1.Commits P.1.Heads er es).sub (M:=[0,2,3,4,6,7]) O) eu)) ?_
      rintro _ _ ⟨ew,rfl,an,rfl⟩
      have ex:=ep.n an
      have c7:=(bw.up k).up an
      have c8:=(bz.up k).up an
      refine m0 an fun ey=>Mw.p O O (fun _=>R.pk af O (v:=vB et) O) (Db O (bs Y (fun H Y=>?_) fun H Y=>?_))
      ·refine Wq H O (fun _ c=>R.lda (cs:=[B,y]) ((be.up k).clcs O c) O O) (Wq H O (fun _ c=>R.lda (cs:=[B,y]) ((be.up k).clcs O c) O O) ?_)
       obtain⟨c9,ez,Y⟩:=ob Y
       refine Wt H O (T.call O (p32 (K:=[0,2,3]) (x0:=(Vm.Repo.mk a.1.Commits a.1.Heads)) ((Repo.rd (K:=[2,3]) a.1.Commits a.1.Heads (c7.rd.sub (M:=[2,3]) O) (c8.rd.sub (M:=[2,3]) O)).sub (M:=[0,2,3]) O) ((F.ul ex).sub (M:=[0,2,3]) O) ez)) ?_
       rintro _ _ ⟨gx,rfl,bg,rfl⟩
       refine mc ey bg fun e0=>?_
       obtain⟨da,e1,Y⟩:=ob Y
       refine Wt H O (T.call O (p33 (K:=[2,3]) (x0:=(Vm.Repo.mk a.1.Commits a.1.Heads)) (Repo.rd (K:=[2,3]) a.1.Commits a.1.Heads ((c7.up bg).rd.sub (M:=[2,3]) O) ((c8.up bg).rd.sub (M:=[2,3]) O)) e1)) ?_
       rintro _ _ ⟨e2,rfl,db,rfl⟩
       exact mc e0 db fun gy=>Wp H O (fun _=>R.beq O O) (Mw.p O O (fun _=>R.pk H O (v:=vB (c9==da)) O) (Hb O (Mw.nil ((ag) ⟨(c9==da),e2,O,(((k.j an).j bg).j db).w,O,Y⟩))))
      ·exact dps 5 H O (Mw.p O O (fun _=>R.pk H O (v:=vB false) O) (Hb O (Mw.nil ((ag) ⟨false,ew,O,(k.j an).w,O,Y⟩))))
     ·exact dps 3 af O (Mw.p O O (fun _=>R.pk af O (v:=vB false) O) (Db O (dps 5 O O (Mw.p O O (fun _=>R.pk O O (v:=vB false) O) (Hb O (Mw.nil ((ag) ⟨false,eo,O,k,O,Y⟩)))))))
   ·refine sk (ssr (mb O (Lw.r O (R.not O) (nl (cn Y (fun Y=>?_) fun Y=>?_)))))
    ·refine sr (la az (la be (ca Y (fun _=>p31 (K:=[2,3,6,7]) (x0:=(Vm.Repo.mk b.1.Commits b.1.Heads)) (x1:=(Vm.Repo.mk a.1.Commits a.1.Heads)) ((Repo.rd (K:=[6,7]) b.1.Commits b.1.Heads (ax.rd.sub (M:=[6,7]) O) (ay.rd.sub (M:=[6,7]) O)).sub (M:=[2,3,6,7]) O) ((Repo.rd (K:=[2,3]) a.1.Commits a.1.Heads (bw.rd.sub (M:=[2,3]) O) (bz.rd.sub (M:=[2,3]) O)).sub (M:=[2,3,6,7]) O)) fun gz g0 Y e3=>?_)))
     have e4:=aw.n e3
     exact Nb O (.ret (rt Y e4))
    ·refine sk (sr (la az (ms O (ca Y (fun _=>p34 (K:=[0,6,7]) (x0:=(Vm.Repo.mk b.1.Commits b.1.Heads)) ((Repo.rd (K:=[6,7]) b.1.Commits b.1.Heads (ax.rd.sub (M:=[6,7]) O) (ay.rd.sub (M:=[6,7]) O)).sub (M:=[0,6,7]) O) ((F.ul aw).sub (M:=[0,6,7]) O)) fun g1 g2 Y D=>?_))))
     have dc:=aw.n D
     refine Ni O (sr (la (az.up D) (mi O (cr Y (fun _=>p35 (K:=[0,6,7]) (k0:=10) (x0:=(Vm.Repo.mk b.1.Commits b.1.Heads)) ((Repo.rd (K:=[6,7]) b.1.Commits b.1.Heads ((ax.up D).rd.sub (M:=[6,7]) O) ((ay.up D).rd.sub (M:=[6,7]) O)).sub (M:=[0,6,7]) O) ((F.ul dc).sub (M:=[0,6,7]) O)) ?_))))
     rintro bh _ g3 Y S ⟨ao,rfl,e5⟩
     have dd:=dc.n S
     have de:=(bw.up D).up S
     have df:=(bz.up D).up S
     have dg:=(be.up D).up S
     refine mv (.tuple [ao,vB bh.2].toArray) O (Lw.r O (R.ext (vs:=[ao,vB bh.2]) (v:=ao) O O) (Lw.r O (R.ext (vs:=[ao,vB bh.2]) (v:=vB bh.2) O O) (Gv ao O (Nb O (sr (la dg (ms O (ca Y (fun _=>p34 (K:=[0,2,3]) (x0:=(Vm.Repo.mk a.1.Commits a.1.Heads)) ((Repo.rd (K:=[2,3]) a.1.Commits a.1.Heads (de.rd.sub (M:=[2,3]) O) (df.rd.sub (M:=[2,3]) O)).sub (M:=[0,2,3]) O) ((F.ul dd).sub (M:=[0,2,3]) O)) fun bi dh Y I=>?_))))))))
     have e6:=dd.n I
     refine Ni O (ssr (Ni O (Cw.block ?_)))
     obtain⟨e7,e8,Y⟩:=zdC Y
     refine Cw.loop 95 126 [2,15] (fun m l w=> ∃ bj ap a0,CW.w a0=w/\Le [] dh a0/\l=[vB bj,vI ap]/\Vm.zem a b e7 m bj ap=some r) _ ⟨false,0,dh,O,Le.refl _ _,O,Y⟩ ?_
     rintro(_ |g4) _ _ σ ⟨bj,ap,a0,rfl,E,rfl,Y⟩
     ·cases Y
     unfold Vm.zem at Y
     have bk:=e6.n E
     have b2:=(df.up I).up E
     have bl:=(((ax.up D).up S).up I).up E
     have b3:=(((ay.up D).up S).up I).up E
     have bm:=(dg.up I).up E
     have bn:=(((az.up D).up S).up I).up E
     refine ssr (mi O (fl bm O (Lw.ln a.1.Heads b2.rd O (Lw.lt O (nl (cn Y (fun Y=>?_) fun Y=>?_))))))
     ·refine sk (Cw.seq (Cw.block ?_))
      obtain⟨e9,fb,Y⟩:=zdC Y
      refine Cw.join 102 126 [126] (fun l w=> ∃ b4 bp,CW.w bp=w/\Le [] a0 bp/\l=[vB b4]/\e9 b4=some r) ?_ ?_
      ·rintro _ _ σ ⟨b4,bp,rfl,di,rfl,Y⟩
       rw[fb]at Y
       have fc:=bk.n di
       refine cn Y (fun Y=>?_) fun Y=>?_
       ·exact sr (Nb O (.ret (rt Y fc)))
       ·exact sk (rg (mi O (Lw.add O (Ni O ((agm) ⟨bj,w64 (ap+1),bp,O,(E.j di).w,O,Y⟩)))))
      ·refine Cw.draw [] [(0,0),(1,1),(2,0),(3,0),(4,0),(5,1),(6,0),(7,0),(8,0),(9,1),(10,0),(11,1),(12,0),(13,0),(14,0),(15,1),(17,0),(18,1),(19,0),(20,0),(21,0),(22,1),(16,2),(23,0),(24,0)] mixed (by kernel_rfl) fun fd U=>?_
       have fe:=bk.n U
       have J:=b2.up U
       have b5:=bm.up U
       refine Dfl b5 O O O (Di O ?_)
       obtain⟨g5,b6,Y⟩:=ob Y
       refine Mw.p O O (fun _=>R.ix (α:=Head) J.rd b6 O O O) (Df O (Mw.q O O (fun _ c=>R.ld O O (zaR (Head.at0 (J.rd.at_ b6)).1 O (Head.at0 (J.rd.at_ b6)).str c)) (Ds O (Mw.p O O (fun _=>R.sne O O) (Db O (bs Y (fun e Y=>?_) fun e Y=>?_))))))
       ·refine Wq e O (fun _ c=>R.lda (cs:=[aa,ac]) ((bn.up U).clcs O c) O O) (Wp e O (fun _=>R.fa O) (Wq e O (fun _ c=>R.ld (v:=y) O O (b5.clc O O c)) (Wp e O (fun _=>R.mv (v:=vI ap) O) ?_)))
        obtain⟨g6,b8,Y⟩:=ob Y
        refine Wp e O (fun _=>R.ix (α:=Head) J.rd b8 O O O) (Wp e O (fun _=>R.fa O) (Wq e O (fun _ c=>R.ld O O (zaR (Head.at0 (J.rd.at_ b8)).1 O (Head.at0 (J.rd.at_ b8)).str c)) (Wp e O (fun _=>R.fa O) (Wq e O (fun _ c=>R.ld (v:=y) O O (b5.clc O O c)) (Wp e O (fun _=>R.mv (v:=vI ap) O) ?_)))))
        obtain⟨dj,b9,Y⟩:=ob Y
        refine Wp e O (fun _=>R.ix (α:=Head) J.rd b9 O O O) (Wp e O (fun _=>R.fa O) (Wq e O (fun _ c=>R.ld O O (zaR (Head.at1 (J.rd.at_ b9)).1 O (Head.at1 (J.rd.at_ b9)).int c)) ?_))
        obtain⟨dk,ff,Y⟩:=ob Y
        refine Wt e O (T.call O (p34 (K:=[0,6,7]) (x0:=(Vm.Repo.mk b.1.Commits b.1.Heads)) ((Repo.rd (K:=[6,7]) b.1.Commits b.1.Heads ((bl.up U).rd.sub (M:=[6,7]) O) ((b3.up U).rd.sub (M:=[6,7]) O)).sub (M:=[0,6,7]) O) ((F.ul fe).sub (M:=[0,6,7]) O) ff)) ?_
        rintro _ _ ⟨fg,rfl,dl,rfl⟩
        exact m0 dl fun g8=>Wp e O (fun _=>R.ne O O) (Mw.p O O (fun _=>R.pk e O (v:=vB ((dk:Int) !=(dj.At:Int))) O) (Mw.nil ((ag) ⟨((dk:Int) !=(dj.At:Int)),fg,O,(U.j dl).w,O,Y⟩)))
       ·exact dps 15 e O (Mw.p O O (fun _=>R.pk e O (v:=vB false) O) (Mw.nil ((ag) ⟨false,fd,O,U,O,Y⟩)))
     ·refine Cw.exit ?_
      rw[e8]at Y
      obtain⟨fh,fi,Y⟩:=zdC Y
      refine Cw.join 127 177 [2] (fun l w=> ∃ cb cc,CW.w cc=w/\Le [] a0 cc/\l=[vB cb]/\fh cb=some r) ?_ ?_
      ·rintro _ _ σ ⟨cb,cc,rfl,fj,rfl,Y⟩
       rw[fi]at Y
       have fm:=bk.n fj
       exact .ret (rt Y fm)
      ·refine rg (la bn (ca Y (fun _=>p32 (K:=[0,6,7]) (x0:=(Vm.Repo.mk b.1.Commits b.1.Heads)) ((Repo.rd (K:=[6,7]) b.1.Commits b.1.Heads (bl.rd.sub (M:=[6,7]) O) (b3.rd.sub (M:=[6,7]) O)).sub (M:=[0,6,7]) O) ((F.ul bk).sub (M:=[0,6,7]) O)) fun g9 fn Y d=>?_))
       have dm:=((de.up I).up E).up d
       refine mb O (bs Y (fun a1 Y=>?_) fun a1 Y=>?_)
       ·refine wak 3 a1 (la (bn.up d) (la (bm.up d) (ca Y (fun _=>p36 (K:=[2,3,6,7]) (x0:=(Vm.Repo.mk b.1.Commits b.1.Heads)) (x1:=(Vm.Repo.mk a.1.Commits a.1.Heads)) ((Repo.rd (K:=[6,7]) b.1.Commits b.1.Heads ((bl.up d).rd.sub (M:=[6,7]) O) ((b3.up d).rd.sub (M:=[6,7]) O)).sub (M:=[2,3,6,7]) O) ((Repo.rd (K:=[2,3]) a.1.Commits a.1.Heads (dm.rd.sub (M:=[2,3]) O) ((b2.up d).rd.sub (M:=[2,3]) O)).sub (M:=[2,3,6,7]) O)) fun ha bq Y h=>Pb a1 O (mb O (bs Y (fun a2 Y=>?_) fun a2 Y=>?_)))))
        ·refine wak 5 a2 (mi O (fl ((bm.up d).up h) O (Lw.ln a.1.Commits (dm.up h).rd O (Lw.eq O (Pb a2 O (mb O (bs Y (fun a3 Y=>?_) fun a3 Y=>?_)))))))
         ·refine wak 1 a3 (mb O (Pb a3 O (mb O (bs Y (fun a4 Y=>?_) fun a4 Y=>?_))))
          ·refine wak 3 a4 (mv ao O (mv i O ?_))
           have fo:Rd (α:=List Vm.File) bq [4,0] [i] a.2.2.2:=Ow.rdSh ((((((((((cw.up Q).up z).up A).up C).up D).up S).up I).up E).up d).up h)
           refine ca Y (fun _=>p37 (K:=[0,4,10]) (((((e5.up I).up E).up d).up h).rd.sub (M:=[0,4,10]) O) (fo.sub (M:=[0,4,10]) O)) fun hb aq Y V=>?_
           have ar:=((bl.up d).up h).up V
           have cd:=((bn.up d).up h).up V
           refine Pb a4 O (mb O (bs Y (fun f Y=>?_) fun f Y=>?_))
           ·refine wak 3 f (mi O (Lw.lt O (mb O (bs Y (fun a5 Y=>?_) fun a5 Y=>?_))))
            ·refine wak 8 a5 (fl cd O (mi O ?_))
             obtain⟨fp,dn,Y⟩:=ob Y
             refine Lw.r O (R.ix (α:=Commit) ar.rd dn O O O) (Lw.fa O ?_)
             obtain⟨hc,c329,r330⟩:=(Commit.at0 (ar.rd.at_ dn)).cell O
             refine Lw.r O (R.ld O O c329) (Lw.ln fp.Parents r330 O (Lw.eq O (wak 2 f (Pb a5 O (mb O (bs Y (fun L Y=>?_) fun L Y=>?_))))))
             ·exact psk 3 L O (puk 9 O (psk 1 L O (wak 1 f (Pb L O (Pb f O (Nb O ((ag) ⟨true,aq,O,((d.j h).j V).w,O,Y⟩)))))))
             ·refine wak 3 L (mi O (Lw.ge O (mb O (bs Y (fun a7 Y=>?_) fun a7 Y=>?_))))
              ·refine wak 9 a7 (fl cd O (mi O ?_))
               obtain⟨hd,dp,Y⟩:=ob Y
               refine Lw.r O (R.ix (α:=Commit) ar.rd dp O O O) (Lw.fa O ?_)
               obtain⟨he,c336,r337⟩:=(Commit.at0 (ar.rd.at_ dp)).cell O
               refine Lw.r O (R.ld O O c336) (mi O (Lw.t O (T.bsS (α:=Int) (xs:=[bi]) 11 [] (W:=aq) [vI bi] (Each.cons ((rdI _)) Each.nil) O) ?_))
               rintro hf _ ⟨hg,rfl,dq,fq⟩
               have fr:=r337.up (dq.sub (M:=[]) O) O
               exact ca Y (fun _=>p17 (K:=[6,11]) (fr.sub (M:=[6,11]) O) (fq.rd.sub (M:=[6,11]) O)) fun fs ft Y fu=>wak 1 L (Pb a7 O (wak 1 f (Pb L O (Pb f O (Nb O ((ag) ⟨fs,ft,O,((((d.j h).j V).j dq).j fu).w,O,Y⟩))))))
              ·exact psk 9 a7 O (wak 1 L (Pb a7 O (wak 1 f (Pb L O (Pb f O (Nb O ((ag) ⟨false,aq,O,((d.j h).j V).w,O,Y⟩)))))))
            ·refine psk 8 a5 O (wak 2 f (Pb a5 O (mb O (wak 3 O (mi O (Lw.ge O (mb O (bs Y (fun a9 Y=>?_) fun a9 Y=>?_))))))))
             ·refine wak 9 a9 (fl cd O (mi O ?_))
              obtain⟨hh,dr,Y⟩:=ob Y
              refine Lw.r O (R.ix (α:=Commit) ar.rd dr O O O) (Lw.fa O ?_)
              obtain⟨hi,c368,r369⟩:=(Commit.at0 (ar.rd.at_ dr)).cell O
              refine Lw.r O (R.ld O O c368) (mi O (Lw.t O (T.bsS (α:=Int) (xs:=[bi]) 12 [] (W:=aq) [vI bi] (Each.cons ((rdI _)) Each.nil) O) ?_))
              rintro hj _ ⟨hk,rfl,ds,fv⟩
              have fw:=r369.up (ds.sub (M:=[]) O) O
              exact ca Y (fun _=>p17 (K:=[6,12]) (fw.sub (M:=[6,12]) O) (fv.rd.sub (M:=[6,12]) O)) fun fx fy Y fz=>wak 1 O (Pb a9 O (wak 1 f (Pb O O (Pb f O (Nb O ((ag) ⟨fx,fy,O,((((d.j h).j V).j ds).j fz).w,O,Y⟩))))))
             ·exact psk 9 a9 O (wak 1 O (Pb a9 O (wak 1 f (Pb O O (Pb f O (Nb O ((ag) ⟨false,aq,O,((d.j h).j V).w,O,Y⟩)))))))
           ·exact psk 3 f O (puk 8 O (psk 2 f O (puk 13 O (psk 1 f O (Pb f O (Nb O ((ag) ⟨false,aq,O,((d.j h).j V).w,O,Y⟩)))))))
          ·exact psk 3 a4 O (Pb a4 O (mb O (psk 3 O O (puk 8 O (psk 2 O O (puk 13 O (psk 1 O O (Pb O O (Nb O ((ag) ⟨false,bq,O,(d.j h).w,O,Y⟩))))))))))
         ·exact psk 1 a3 O (Pb a3 O (mb O (psk 3 O O (Pb O O (mb O (psk 3 O O (puk 8 O (psk 2 O O (puk 13 O (psk 1 O O (Pb O O (Nb O ((ag) ⟨false,bq,O,(d.j h).w,O,Y⟩)))))))))))))
        ·exact psk 5 a2 O (Pb a2 O (mb O (psk 1 O O (Pb O O (mb O (psk 3 O O (Pb O O (mb O (psk 3 O O (puk 8 O (psk 2 O O (puk 13 O (psk 1 O O (Pb O O (Nb O ((ag) ⟨false,bq,O,(d.j h).w,O,Y⟩))))))))))))))))
       ·exact psk 3 a1 O (Pb a1 O (mb O (psk 5 O O (Pb O O (mb O (psk 1 O O (Pb O O (mb O (psk 3 O O (Pb O O (mb O (psk 3 O O (puk 8 O (psk 2 O O (puk 13 O (psk 1 O O (Pb O O (Nb O ((ag) ⟨false,fn,O,d,O,Y⟩)))))))))))))))))))
  ·refine Cw.draw [] [(0,0),(1,0),(2,0),(3,0),(4,1),(5,1),(6,2),(7,0),(8,0),(9,0),(10,1),(12,1),(11,2),(13,2),(14,0),(15,0),(16,0),(17,1),(18,2),(19,0),(20,0)] mixed (by kernel_rfl) fun f0 x=>?_
   have f1:=cz.n x
   have ce:=c4.up x
   refine Db O (Db O (Mw.p O O (fun _=>R.bne O O) (Db O (bs Y (fun X Y=>?_) fun X Y=>?_))))
   ·exact dps 4 X O (Mw.p O O (fun _=>R.pk X O (v:=vB true) O) (Db O (dps 5 O O (Mw.p O O (fun _=>R.pk O O (v:=vB true) O) (Db O (dps 3 O O (Mw.p O O (fun _=>R.pk O O (v:=vB true) O) (Mw.nil ((ag) ⟨true,f0,O,x,O,Y⟩)))))))))
   ·refine Wq X O (fun _ c=>R.lda (cs:=[aa,ac]) ((c5.up x).clcs O c) O O) (Wq X O (fun _ c=>R.lda (cs:=[ak,am]) ((cy.up x).clcs O c) O O) ?_)
    have f2:=br.up ((z.sub (M:=[9]) O).trans ((A.sub (M:=[9]) O).trans (x.sub (M:=[9]) O))) O
    have f3:=bu.up ((z.sub (M:=[9]) O).trans ((A.sub (M:=[9]) O).trans (x.sub (M:=[9]) O))) O
    obtain⟨f4,f5,Y⟩:=ob Y
    refine Wt X O (T.call O (p31 (K:=[0,2,3,4,6,7]) (x0:=(Vm.Repo.mk b.1.Commits b.1.Heads)) ((Repo.rd (K:=[6,7]) b.1.Commits b.1.Heads ((c2.up x).rd.sub (M:=[6,7]) O) ((c3.up x).rd.sub (M:=[6,7]) O)).sub (M:=[0,2,3,4,6,7]) O) ((Repo.rd (K:=[0,2,3,4]) P.1.Commits P.1.Heads f2 f3).sub (M:=[0,2,3,4,6,7]) O) f5)) ?_
    rintro _ _ ⟨f6,rfl,ah,rfl⟩
    have dt:=f1.n ah
    have cf:=(c0.up x).up ah
    have cg:=(c1.up x).up ah
    refine m0 ah fun f7=>Wp X O (fun _=>R.not O) (Mw.p O O (fun _=>R.pk X O (v:=vB (!f4)) O) (Db O (bs Y (fun N Y=>?_) fun N Y=>?_)))
    ·exact dps 5 N O (Mw.p O O (fun _=>R.pk N O (v:=vB true) O) (Db O (dps 3 O O (Mw.p O O (fun _=>R.pk O O (v:=vB true) O) (Mw.nil ((ag) ⟨true,f6,O,(x.j ah).w,O,Y⟩))))))
    ·refine Wq N O (fun _ c=>R.lda (cs:=[B,y]) (ce.clcs O c) O O) (Wq N O (fun _ c=>R.lda (cs:=[B,y]) (ce.clcs O c) O O) ?_)
     obtain⟨f8,f9,Y⟩:=ob Y
     refine Wt N O (T.call O (p32 (K:=[0,2,3]) (x0:=(Vm.Repo.mk a.1.Commits a.1.Heads)) ((Repo.rd (K:=[2,3]) a.1.Commits a.1.Heads (cf.rd.sub (M:=[2,3]) O) (cg.rd.sub (M:=[2,3]) O)).sub (M:=[0,2,3]) O) ((F.ul dt).sub (M:=[0,2,3]) O) f9)) ?_
     rintro _ _ ⟨hl,rfl,Z,rfl⟩
     have ga:=dt.n Z
     refine mc f7 Z fun gb=>?_
     obtain⟨gc,gd,Y⟩:=ob Y
     refine Wt N O (T.call O (p33 (K:=[2,3]) (x0:=(Vm.Repo.mk a.1.Commits a.1.Heads)) (Repo.rd (K:=[2,3]) a.1.Commits a.1.Heads ((cf.up Z).rd.sub (M:=[2,3]) O) ((cg.up Z).rd.sub (M:=[2,3]) O)) gd)) ?_
     rintro _ _ ⟨gf,rfl,au,rfl⟩
     have gg:=ga.n au
     refine mc gb au fun gh=>Wp N O (fun _=>R.bne O O) (Mw.p O O (fun _=>R.pk N O (v:=vB (f8 !=gc)) O) (Db O (bs Y (fun ai Y=>?_) fun ai Y=>?_)))
     ·exact dps 3 ai O (Mw.p O O (fun _=>R.pk ai O (v:=vB true) O) (Mw.nil ((ag) ⟨true,gf,O,(((x.j ah).j Z).j au).w,O,Y⟩)))
     ·refine Wq ai O (fun _ c=>R.lda (cs:=[B,y]) (ce.clcs O c) O O) ?_
      obtain⟨du,gj,Y⟩:=ob Y
      refine Wt ai O (T.call O (p32 (K:=[0,2,3]) (x0:=(Vm.Repo.mk a.1.Commits a.1.Heads)) ((Repo.rd (K:=[2,3]) a.1.Commits a.1.Heads (((cf.up Z).up au).rd.sub (M:=[2,3]) O) (((cg.up Z).up au).rd.sub (M:=[2,3]) O)).sub (M:=[0,2,3]) O) ((F.ul gg).sub (M:=[0,2,3]) O) gj)) ?_
      rintro _ _ ⟨gk,rfl,dv,rfl⟩
      exact mc gh dv fun hn=>Wp ai O (fun _=>R.not O) (Mw.p O O (fun _=>R.pk ai O (v:=vB (!du)) O) (Mw.nil ((ag) ⟨(!du),gk,O,((((x.j ah).j Z).j au).j dv).w,O,Y⟩)))
theorem p6 {x0 a r}(b:Rd W K [a] x0)(d:Gl 0 W K)(Y:Vm.zh1 x0=some r):Q1 6 [a] W [] fun W' v=>v=vB r:=
 (c6 (b.view _) (d.view _) Y).ad (fk 0) fun _ _ e=>e
end Go.Sx
