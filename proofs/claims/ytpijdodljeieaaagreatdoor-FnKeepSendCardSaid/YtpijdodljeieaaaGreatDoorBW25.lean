/- Walks: each function answers as its model, printed by a program of ours. Conditions: the arguments read as they are given. -/
import Derived.Test.YtpijdodljeieaaaGreatDoorBTs
import Derived.Test.YtpijdodljeieaaaGreatDoorBM18
import Derived.Test.YtpijdodljeieaaaGreatDoorBW10
import Derived.Test.YtpijdodljeieaaaGreatDoorBW12
import Derived.Test.YtpijdodljeieaaaGreatDoorBW13
import Derived.Test.YtpijdodljeieaaaGreatDoorBW14
import Derived.Test.YtpijdodljeieaaaGreatDoorBW15
import Derived.Test.YtpijdodljeieaaaGreatDoorBW16
import Derived.Test.YtpijdodljeieaaaGreatDoorBW18
import Derived.Test.YtpijdodljeieaaaGreatDoorBW6
namespace Go.Sx
open Go Go.Proofs Go.Vm Rp
set_option linter.unusedVariables false
set_option linter.unusedSimpArgs false
variable {W W0:CW}{K:List Nat}
theorem c14 {x0 ac r}(h0:Rd W0 [0] [ac] x0)(E:Gl 0 W0 [0])(Y:Vm.zjZ x0=some r):Q0 14 [ac] W0 fun Wf v=>v=vB r:=by
 unfold Vm.zjZ at Y
 refine zaT.of Tryz.func14 O O O O (sr (Nb O (ssr (mv ac O (Lw.ln x0 h0 O (Lw.gt O (nl (cn Y (fun Y=>?_) fun Y=>?_))))))))
 ·exact sr (Nb O (.ret (rt Y (Le.refl _ _))))
 ·refine sk (sr (mv ac O (cr Y (fun _=>p38 (k0:=2) (k1:=3) h0) ?_)))
  rintro d _ W4 Y l4 ⟨au,av,rfl,bh,bi⟩
  have a5:=l4.o
  refine al 4 [.slice none 0 0, .slice none 0 0] fun g6 W6 W b6=>?_
  have a7:=a5.n W
  refine sta b6 (zaf (bh.up W).oc (zaf (bi.up W).oc zaW)) fun d8 l10 bj=>?_
  have bk:=a7.t l10
  have bl:=(bh.up W).up l10
  have bm:=(bi.up W).up l10
  refine nl (sr (la bj (cr Y (fun _=>p39 (K:=[0,2,3]) (k0:=5) (k1:=6) (x0:=(Vm.Repo.mk d.Commits d.Heads)) ((Repo.rd (K:=[2,3]) d.Commits d.Heads (bl.rd.sub (M:=[2,3]) O) (bm.rd.sub (M:=[2,3]) O)).sub (M:=[0,2,3]) O) ((E.ul bk).sub (M:=[0,2,3]) O)) ?_)))
  rintro a _ d9 Y ae ⟨af,ah,rfl,bn,bp⟩
  have cm:=bk.n ae
  refine al 7 [.slice none 0 0, .slice none 0 0] fun ea eb z co=>?_
  have cp:=cm.n z
  refine sta co (zaf (bn.up z).oc (zaf (bp.up z).oc zaW)) fun cq N aw=>?_
  have bq:=cp.t N
  have ax:=((bl.up ae).up z).up N
  have ay:=((bm.up ae).up z).up N
  have az:=(bn.up z).up N
  have br:=(bp.up z).up N
  have a0:=((bj.up ae).up z).up N
  refine nl (Cw.seq ?_)
  obtain⟨ct,cu,Y⟩:=zc4 Y
  refine Cw.join 19 34 [34] (fun l w=> ∃ a1 a2,CW.w a2=w/\Le [] cq a2/\l=[vB a1]/\ct a1=some r) ?_ ?_
  ·rintro _ _ σ ⟨a1,a2,rfl,A,rfl,Y⟩
   rw[cu]at Y
   have bu:=bq.n A
   have ai:=br.up A
   have a3:=aw.up A
   refine cn Y (fun Y=>?_) fun Y=>?_
   ·refine Cw.seq (Cw.draw [] [(0,1),(1,1),(2,2),(3,3),(4,0)] mixed (by kernel_rfl) fun ec F=>?_)
    have cv:=bu.n F
    refine Mw.q O O (fun _ c=>R.lda (cs:=[af,ah]) ((a3.up F).clcs O c) O O) (Mw.q O O (fun _ c=>R.lda (cs:=[au,av]) (((a0.up A).up F).clcs O c) O O) ?_)
    obtain⟨aj,cw,Y⟩:=ob Y
    refine Mw.t O O (T.call O (p40 (K:=[2,3]) (k0:=8) (k1:=9) (x0:=(Vm.Repo.mk d.Commits d.Heads)) (Repo.rd (K:=[2,3]) d.Commits d.Heads (((ax.up A).up F).rd.sub (M:=[2,3]) O) (((ay.up A).up F).rd.sub (M:=[2,3]) O)) cw)) ?_
    rintro _ _ ⟨ed,rfl,ak,⟨ee,ef,rfl,cx,cy⟩⟩
    have cz:=cv.n ak
    refine m0 ak fun eg=>?_
    obtain⟨eh,c0,Y⟩:=ob Y
    refine Mw.l O O (T.call O (p31 (K:=[5,6,8,9]) (x0:=(Vm.Repo.mk a.Commits a.Heads)) (x1:=(Vm.Repo.mk aj.Commits aj.Heads)) ((Repo.rd (K:=[5,6]) a.Commits a.Heads ((((az.up A).up F).up ak).rd.sub (M:=[5,6]) O) (((ai.up F).up ak).rd.sub (M:=[5,6]) O)).sub (M:=[5,6,8,9]) O) ((Repo.rd (K:=[8,9]) aj.Commits aj.Heads (cx.rd.sub (M:=[8,9]) O) (cy.rd.sub (M:=[8,9]) O)).sub (M:=[5,6,8,9]) O) c0)) ?_
    rintro _ _ ⟨ei,rfl,c1,rfl⟩
    have c2:=cz.n c1
    exact Hb O (Mw.nil (.ret (rt Y c2)))
   ·refine sk (sr (fl a3 O ?_))
    obtain⟨bv,bw,Y⟩:=ob Y
    refine Lw.r O (R.ix (α:=Head) ai.rd bw O O O) ?_
    obtain⟨x79,c80,_,r81⟩:=(ai.rd.at_ bw).cells
    obtain rfl:=Head.split r81
    refine Lw.r O (R.lda c80 O O) (al 10 [vS ([]:Str),vI 0] fun ej ek am c3=>?_)
    have c4:=bu.n am
    refine sta c3 (zaf O (zaf O zaW)) fun el an a4=>?_
    have bz:=c4.t an
    have b0:=((az.up A).up am).up an
    have b1:=(ai.up am).up an
    have b2:=(a3.up am).up an
    refine nl (sr (la b2 (fl a4 O (cr Y (fun _=>p53 (K:=[0,5,6]) (k0:=11) (x0:=(Vm.Repo.mk a.Commits a.Heads)) ((Repo.rd (K:=[5,6]) a.Commits a.Heads (b0.rd.sub (M:=[5,6]) O) (b1.rd.sub (M:=[5,6]) O)).sub (M:=[0,5,6]) O) (rdN (K:=[0,5,6])) ((E.ul bz).sub (M:=[0,5,6]) O)) ?_))))
    rintro ao _ em Y P ⟨Q,rfl,c5⟩
    have b3:=bz.n P
    refine mv (.tuple [Q,vB ao.2].toArray) O (Lw.r O (R.ext (vs:=[Q,vB ao.2]) (v:=Q) O O) (Lw.r O (R.ext (vs:=[Q,vB ao.2]) (v:=vB ao.2) O O) (Gv Q O (Nb O (sr (Lw.r O (R.bd (zs:=[.slice none 0 0, .slice none 0 0]) (cs:=[.slice none 0 0, .slice none 0 0]) [] O O O zg2) (mv Q O (fl (a4.up P) O (cr Y (fun _=>p60 (K:=[0,11]) (k0:=12) (k1:=13) (x0:=(Vm.Repo.mk ([]:List Commit) ([]:List Head))) ((Repo.rd (K:=[0]) ([]:List Commit) ([]:List Head) (rdN (K:=[0])) (rdN (K:=[0]))).sub (M:=[0,11]) O) (rdN (K:=[0,11])) (c5.rd.sub (M:=[0,11]) O) ((E.ul b3).sub (M:=[0,11]) O)) ?_)))))))))
    rintro b _ en Y X ⟨G,S,rfl,b4,b5⟩
    have c6:=b3.n X
    refine mv (.tuple [.agg [G,S].toArray,vB b.2].toArray) O (Lw.r O (R.ext (vs:=[.agg [G,S].toArray,vB b.2]) (v:= .agg [G,S].toArray) O O) (Lw.r O (R.ext (vs:=[.agg [G,S].toArray,vB b.2]) (v:=vB b.2) O O) (al 14 [.slice none 0 0, .slice none 0 0] fun eo ep x c7=>?_)))
    have c8:=c6.n x
    refine sta c7 (zaf (b4.up x).oc (zaf (b5.up x).oc zaW)) fun er H c9=>?_
    have da:=c8.t H
    refine Nb O (Cw.seq (Cw.draw [] [(0,1),(1,1),(2,0),(3,1),(4,2),(5,3),(6,0),(7,0),(8,0),(9,0),(10,0)] mixed (by kernel_rfl) fun es B=>?_))
    have b7:=da.n B
    have a6:=((b4.up x).up H).up B
    have b8:=((b5.up x).up H).up B
    have b9:=((((a4.up P).up X).up x).up H).up B
    have a8:=c9.up B
    refine Mw.q O O (fun _ c=>R.lda (cs:=[G,S]) (a8.clcs O c) O O) (Mw.q O O (fun _ c=>R.lda (cs:=[G,S]) (a8.clcs O c) O O) (Dfl b9 O O O ?_))
    obtain⟨et,db,Y⟩:=ob Y
    refine Mw.t O O (T.call O (p34 (K:=[0,12,13]) (x0:=(Vm.Repo.mk b.1.Commits b.1.Heads)) ((Repo.rd (K:=[12,13]) b.1.Commits b.1.Heads (a6.rd.sub (M:=[12,13]) O) (b8.rd.sub (M:=[12,13]) O)).sub (M:=[0,12,13]) O) ((E.ul b7).sub (M:=[0,12,13]) O) db)) ?_
    rintro _ _ ⟨eu,rfl,k,rfl⟩
    have cb:=b7.n k
    refine m0 k fun ew=>?_
    obtain⟨U,dc,Y⟩:=ob Y
    refine Mw.l O O (T.call O (p35 (K:=[0,12,13]) (k0:=15) (x0:=(Vm.Repo.mk b.1.Commits b.1.Heads)) ((Repo.rd (K:=[12,13]) b.1.Commits b.1.Heads ((a6.up k).rd.sub (M:=[12,13]) O) ((b8.up k).rd.sub (M:=[12,13]) O)).sub (M:=[0,12,13]) O) ((E.ul cb).sub (M:=[0,12,13]) O) dc)) ?_
    rintro _ _ ⟨dd,rfl,I,⟨V,rfl,de⟩⟩
    have cc:=cb.n I
    refine Dv (.tuple [V,vB U.2].toArray) O (Mw.p O O (fun _=>R.ext (vs:=[V,vB U.2]) (v:=V) O O) (Mw.p O O (fun _=>R.ext (vs:=[V,vB U.2]) (v:=vB U.2) O O) (Hv V O (Hb O (Mw.nil ?_)))))
    obtain⟨df,dg,Y⟩:=zc4 Y
    refine Cw.join 67 95 [2] (fun l w=> ∃ a9 ba,CW.w ba=w/\Le [] dd ba/\l=[vB a9]/\df a9=some r) ?_ ?_
    ·rintro _ _ σ ⟨a9,ba,rfl,dh,rfl,Y⟩
     rw[dg]at Y
     have di:=cc.n dh
     exact .ret (rt Y di)
    ·refine Cw.draw [] [(0,0),(1,0),(2,0),(3,0),(4,0),(5,0),(6,0),(7,0),(8,0),(9,0),(10,1),(11,0),(12,1),(13,0),(14,0),(15,1),(16,2),(17,0),(18,0),(19,0),(20,1),(21,0),(22,1),(23,0),(24,1),(25,2),(26,0),(27,0),(28,0),(29,0)] mixed (by kernel_rfl) fun bb f=>?_
     have dj:=cc.n f
     have ap:=(((((((b0.up P).up X).up x).up H).up B).up k).up I).up f
     have cd:=(((((((b2.up P).up X).up x).up H).up B).up k).up I).up f
     have ce:=((b9.up k).up I).up f
     refine Db O (Db O (bs Y (fun Z Y=>?_) fun Z Y=>?_))
     ·refine Wp Z O (fun _=>R.mv (v:=vB b.2) O) (Mw.p O O (fun _=>R.pk Z O (v:=vB b.2) O) (Db O (bs Y (fun aa Y=>?_) fun aa Y=>?_)))
      ·refine Wp aa O (fun _=>R.mv (v:=vB U.2) O) (Mw.p O O (fun _=>R.pk aa O (v:=vB U.2) O) (Db O (bs Y (fun h Y=>?_) fun h Y=>?_)))
       ·refine Wp h O (fun _=>R.mv (v:=V) O) (Wp h O (fun _=>R.fa O) (Wq h O (fun _ c=>R.ld (v:=af) O O (cd.clc O O c)) (Wp h O (fun _=>R.fa O) (Wq h O (fun _ c=>R.ld (v:=vI bv.At) O O (ce.clc O O c)) ?_))))
        obtain⟨ex,bc,Y⟩:=ob Y
        refine Wp h O (fun _=>R.ix (α:=Commit) ap.rd bc O O O) (Wp h O (fun _=>R.fa O) ?_)
        obtain⟨ey,c228,r229⟩:=(Commit.at2 (ap.rd.at_ bc)).cell O
        refine Wq h O (fun _ c=>R.ld O O (zaD (Commit.at2 (ap.rd.at_ bc)).1 O c228 c)) ?_
        obtain⟨dk,dl,Y⟩:=ob Y
        refine Wt h O (T.call O (p37 (K:=[5,15]) ((de.up f).rd.sub (M:=[5,15]) O) (r229.sub (M:=[5,15]) O) dl)) ?_
        rintro _ _ ⟨dm,rfl,J,rfl⟩
        have dn:=dj.n J
        refine m0 J fun dp=>Mw.p O O (fun _=>R.pk h O (v:=vB dk) O) (Db O (bs Y (fun i Y=>?_) fun i Y=>?_))
        ·refine Wp i O (fun _=>R.fa O) (Wq i O (fun _ c=>R.ld (v:=G) O O ((((a8.up k).up I).up f).clc O O c)) (Wp i O (fun _=>zo6 (xs:=b.1.Commits) ((((a6.up k).up I).up f).up J).rd O) (Wq i O (fun _ c=>R.lda (cs:=[af,ah]) (cd.clcs O c) O O) (Wp i O (fun _=>R.fa O) (Wq i O (fun _ c=>R.ld (v:=vI bv.At) O O (ce.clc O O c)) ?_)))))
         obtain⟨be,dq,Y⟩:=ob Y
         refine Wt i O (T.call O (p41 (K:=[0,5,6]) (k0:=16) (x0:=(Vm.Repo.mk a.Commits a.Heads)) ((Repo.rd (K:=[5,6]) a.Commits a.Heads ((ap.up J).rd.sub (M:=[5,6]) O) ((((((((((b1.up P).up X).up x).up H).up B).up k).up I).up f).up J).rd.sub (M:=[5,6]) O)).sub (M:=[0,5,6]) O) ((E.ul dn).sub (M:=[0,5,6]) O) dq)) ?_
         rintro ez _ ⟨dr,rfl,cf,⟨_,rfl,ds⟩⟩
         exact mc dp cf fun e0=>Wp i O (fun _=>zo6 (xs:=be) ds.rd O) (Wp i O (fun _=>R.eq O O) (Mw.p O O (fun _=>R.pk i O (v:=vB ((b.1.Commits.length:Int)==(be.length:Int))) O) (Hb O (Mw.nil ((ag) ⟨((b.1.Commits.length:Int)==(be.length:Int)),dr,O,((f.j J).j cf).w,O,Y⟩)))))
        ·exact dps 9 i O (Mw.p O O (fun _=>R.pk i O (v:=vB false) O) (Hb O (Mw.nil ((ag) ⟨false,dm,O,(f.j J).w,O,Y⟩))))
       ·exact dps 9 h O (Mw.p O O (fun _=>R.pk h O (v:=vB false) O) (Db O (dps 9 O O (Mw.p O O (fun _=>R.pk O O (v:=vB false) O) (Hb O (Mw.nil ((ag) ⟨false,bb,O,f,O,Y⟩)))))))
      ·exact dps 1 aa O (Mw.p O O (fun _=>R.pk aa O (v:=vB false) O) (Db O (dps 9 O O (Mw.p O O (fun _=>R.pk O O (v:=vB false) O) (Db O (dps 9 O O (Mw.p O O (fun _=>R.pk O O (v:=vB false) O) (Hb O (Mw.nil ((ag) ⟨false,bb,O,f,O,Y⟩))))))))))
     ·exact dps 1 Z O (Mw.p O O (fun _=>R.pk Z O (v:=vB false) O) (Db O (dps 1 O O (Mw.p O O (fun _=>R.pk O O (v:=vB false) O) (Db O (dps 9 O O (Mw.p O O (fun _=>R.pk O O (v:=vB false) O) (Db O (dps 9 O O (Mw.p O O (fun _=>R.pk O O (v:=vB false) O) (Hb O (Mw.nil ((ag) ⟨false,bb,O,f,O,Y⟩)))))))))))))
  ·refine Cw.draw [] [(0,1),(1,1),(2,2),(3,2),(4,0),(5,0),(6,1),(7,2),(8,0),(9,0),(10,0),(11,0),(12,1),(13,0),(14,0),(15,0)] mixed (by kernel_rfl) fun e1 e=>?_
   have dt:=bq.n e
   refine Mw.q O O (fun _ c=>R.lda (cs:=[af,ah]) ((aw.up e).clcs O c) O O) (Mw.q O O (fun _ c=>R.lda (cs:=[au,av]) ((a0.up e).clcs O c) O O) ?_)
   obtain⟨aq,du,Y⟩:=ob Y
   refine Mw.t O O (T.call O (p40 (K:=[2,3]) (k0:=17) (k1:=18) (x0:=(Vm.Repo.mk d.Commits d.Heads)) (Repo.rd (K:=[2,3]) d.Commits d.Heads ((ax.up e).rd.sub (M:=[2,3]) O) ((ay.up e).rd.sub (M:=[2,3]) O)) du)) ?_
   rintro _ _ ⟨e2,rfl,y,⟨e3,e4,rfl,dv,dw⟩⟩
   have dx:=dt.n y
   have cg:=(br.up e).up y
   refine m0 y fun dy=>?_
   obtain⟨e5,dz,Y⟩:=ob Y
   refine Mw.t O O (T.call O (p31 (K:=[5,6,17,18]) (x0:=(Vm.Repo.mk a.Commits a.Heads)) (x1:=(Vm.Repo.mk aq.Commits aq.Heads)) ((Repo.rd (K:=[5,6]) a.Commits a.Heads (((az.up e).up y).rd.sub (M:=[5,6]) O) (cg.rd.sub (M:=[5,6]) O)).sub (M:=[5,6,17,18]) O) ((Repo.rd (K:=[17,18]) aq.Commits aq.Heads (dv.rd.sub (M:=[17,18]) O) (dw.rd.sub (M:=[17,18]) O)).sub (M:=[5,6,17,18]) O) dz)) ?_
   rintro _ _ ⟨d0,rfl,C,rfl⟩
   have d1:=dx.n C
   refine mc dy C fun d2=>Mw.p O O (fun _=>R.not O) (Db O (bs Y (fun L Y=>?_) fun L Y=>?_))
   ·exact dps 3 L O (Mw.p O O (fun _=>R.pk L O (v:=vB true) O) (Db O (dps 4 O O (Mw.p O O (fun _=>R.pk O O (v:=vB true) O) (Mw.nil ((ag) ⟨true,d0,O,((e.j y).j C).w,O,Y⟩))))))
   ·refine Wq L O (fun _ c=>R.lda (cs:=[au,av]) ((a0.up e).clcs O c) O O) ?_
    obtain⟨d3,d4,Y⟩:=ob Y
    refine Wt L O (T.call O (p32 (K:=[0,2,3]) (x0:=(Vm.Repo.mk d.Commits d.Heads)) ((Repo.rd (K:=[2,3]) d.Commits d.Heads ((((ax.up e).up y).up C).rd.sub (M:=[2,3]) O) ((((ay.up e).up y).up C).rd.sub (M:=[2,3]) O)).sub (M:=[0,2,3]) O) ((E.ul d1).sub (M:=[0,2,3]) O) d4)) ?_
    rintro _ _ ⟨ch,rfl,ar,rfl⟩
    refine mc d2 ar fun e6=>Wp L O (fun _=>R.not O) (Mw.p O O (fun _=>R.pk L O (v:=vB (!d3)) O) (Db O (bs Y (fun D Y=>?_) fun D Y=>?_)))
    ·exact dps 4 D O (Mw.p O O (fun _=>R.pk D O (v:=vB true) O) (Mw.nil ((ag) ⟨true,ch,O,(((e.j y).j C).j ar).w,O,Y⟩)))
    ·exact Wp D O (fun _=>R.fa O) (Wq D O (fun _ c=>R.ld (v:=ah) O O ((aw.up e).clc O O c)) (Wp D O (fun _=>zo6 (xs:=a.Heads) ((cg.up C).up ar).rd O) (Wp D O (fun _=>R.eq O O) (Mw.p O O (fun _=>R.pk D O (v:=vB ((a.Heads.length:Int)==0)) O) (Mw.nil ((ag) ⟨((a.Heads.length:Int)==0),ch,O,(((e.j y).j C).j ar).w,O,Y⟩))))))
theorem p14 {x0 a r}(b:Rd W K [a] x0)(d:Gl 0 W K)(Y:Vm.zjZ x0=some r):Q1 14 [a] W [] fun W' v=>v=vB r:=
 (c14 (b.view _) (d.view _) Y).ad (fk 0) fun _ _ e=>e
end Go.Sx
