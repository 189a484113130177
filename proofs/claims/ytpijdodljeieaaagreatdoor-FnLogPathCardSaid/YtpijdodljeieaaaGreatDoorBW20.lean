/- Walks: each function answers as its model, printed by a program of ours. Conditions: the arguments read as they are given. -/
import Derived.Test.YtpijdodljeieaaaGreatDoorBTs
import Derived.Test.YtpijdodljeieaaaGreatDoorBM13
import Derived.Test.YtpijdodljeieaaaGreatDoorBW10
import Derived.Test.YtpijdodljeieaaaGreatDoorBW19
import Derived.Test.YtpijdodljeieaaaGreatDoorBW6
namespace Go.Sx
open Go Go.Proofs Go.Vm Rp
set_option linter.unusedVariables false
set_option linter.unusedSimpArgs false
variable {W W0:CW}{K:List Nat}
theorem c8 {x0 aj r}(h0:Rd W0 [0] [aj] x0)(P:Gl 0 W0 [0])(Y:Vm.zkw x0=some r):Q0 8 [aj] W0 fun Wf v=>v=vB r:=by
 unfold Vm.zkw at Y
 refine zaT.of Tryz.func8 O O O O (sr (Nb O (ssr (mv aj O (Lw.ln x0 h0 O (Lw.gt O (nl (cn Y (fun Y=>?_) fun Y=>?_))))))))
 ·exact sr (Nb O (.ret (rt Y (Le.refl _ _))))
 ·refine sk (sr (mv aj O (cr Y (fun _=>p43 (k0:=2) (k1:=3) h0) ?_)))
  rintro a _ W4 Y l4 ⟨H,Q,rfl,b1,b2⟩
  have a5:=l4.o
  refine mv (.tuple [.agg [H,Q].toArray,vI a.2.1,vS a.2.2].toArray) O (Lw.r O (R.ext (vs:=[.agg [H,Q].toArray,vI a.2.1,vS a.2.2]) (v:= .agg [H,Q].toArray) O O) (Lw.r O (R.ext (vs:=[.agg [H,Q].toArray,vI a.2.1,vS a.2.2]) (v:=vI a.2.1) O O) (Lw.r O (R.ext (vs:=[.agg [H,Q].toArray,vI a.2.1,vS a.2.2]) (v:=vS a.2.2) O O) (al 4 [.slice none 0 0, .slice none 0 0] fun g6 W6 S b6=>?_))))
  have a7:=a5.n S
  refine sta b6 (zaf (b1.up S).oc (zaf (b2.up S).oc zaW)) fun e0 l10 b3=>?_
  have b4:=a7.t l10
  have b5:=(b1.up S).up l10
  have b7:=(b2.up S).up l10
  refine Gi O (Ns O (sr (la b3 (mi O (ms O (cr Y (fun _=>p25 (K:=[0,2,3]) (k0:=5) (x0:=(Vm.Repo.mk a.1.Commits a.1.Heads)) ((Repo.rd (K:=[2,3]) a.1.Commits a.1.Heads (b5.rd.sub (M:=[2,3]) O) (b7.rd.sub (M:=[2,3]) O)).sub (M:=[0,2,3]) O) ((P.ul b4).sub (M:=[0,2,3]) O)) ?_))))))
  rintro az z db Y ak ⟨_,rfl,a0⟩
  have b8:=b4.n ak
  have a1:=b5.up ak
  have am:=b7.up ak
  have a2:=b3.up ak
  refine Nv z O (Cw.seq ?_)
  obtain⟨dc,dd,Y⟩:=zc4 Y
  refine Cw.join 27 49 [49] (fun l w=> ∃ a3 a4,CW.w a4=w/\Le [] db a4/\l=[vB a3]/\dc a3=some r) ?_ ?_
  ·rintro _ _ σ ⟨a3,a4,rfl,E,rfl,Y⟩
   rw[dd]at Y
   have a6:=b8.n E
   have a8:=a1.up E
   have a9:=a2.up E
   refine cn Y (fun Y=>?_) fun Y=>?_
   ·refine sr (mv z O (la a9 (mi O (ms O (cr Y (fun _=>p44 (K:=[2,3]) (k0:=6) (x0:=(Vm.Repo.mk a.1.Commits a.1.Heads)) (Repo.rd (K:=[2,3]) a.1.Commits a.1.Heads (a8.rd.sub (M:=[2,3]) O) ((am.up E).rd.sub (M:=[2,3]) O))) ?_)))))
    rintro e1 e2 e3 Y b9 ⟨_,rfl,de⟩
    have df:=a6.n b9
    refine ca Y (fun _=>p17 (K:=[5,6]) (((a0.up E).up b9).rd.sub (M:=[5,6]) O) (de.rd.sub (M:=[5,6]) O)) fun e4 e5 Y dg=>?_
    have dh:=df.n dg
    exact Nb O (.ret (rt Y dh))
   ·refine sk (sr (la a9 (mi O (cr Y (fun _=>p41 (K:=[0,2,3]) (k0:=7) (x0:=(Vm.Repo.mk a.1.Commits a.1.Heads)) ((Repo.rd (K:=[2,3]) a.1.Commits a.1.Heads (a8.rd.sub (M:=[2,3]) O) ((am.up E).rd.sub (M:=[2,3]) O)).sub (M:=[0,2,3]) O) ((P.ul a6).sub (M:=[0,2,3]) O)) ?_))))
    rintro ba I cb Y an ⟨_,rfl,di⟩
    have dj:=a6.n an
    refine Nv I O (ssr (Ni O (Cw.block ?_)))
    obtain⟨dk,dl,Y⟩:=zc4 Y
    refine Cw.loop 59 118 [2,8,9,10,11,12] (fun m l w=> ∃ U ao cc cd ce cf V,CW.w V=w/\Le [8] cb V/\l=[vB U,vI ao,cc,cd,ce,cf]/\Vm.zeg a az ba dk m U ao=some r) _ ⟨false,0,undef,undef,undef,undef,cb,O,Le.refl _ _,O,Y⟩ ?_
    rintro(_ |e6) _ _ σ ⟨U,ao,cc,cd,ce,cf,V,rfl,J,rfl,Y⟩
    ·cases Y
    unfold Vm.zeg at Y
    have cg:=dj.t J
    have bb:=((a0.up E).up an).up J
    have bc:=di.up J
    refine ssr (mi O (mv I O (Lw.ln ba bc.rd O (Lw.lt O (nl (cn Y (fun Y=>?_) fun Y=>?_))))))
    ·refine sk (Cw.seq (Cw.block (Cw.seq (Cw.draw [] [(0,0),(1,1),(2,0),(3,0),(4,0),(5,1),(6,0),(7,1),(8,2),(9,3)] mixed (by kernel_rfl) fun e7 L=>?_))))
     have dm:=cg.n L
     have ap:=((a8.up an).up J).up L
     have aq:=bc.up L
     have ch:=((a9.up an).up J).up L
     refine Dfl ch O O O (Dv I O (Di O ?_))
     obtain⟨e8,be,Y⟩:=ob Y
     refine Mw.p O O (fun _=>R.ix (α:=Int) aq.rd be O O O) (Mw.q O O (fun _ c=>R.ld O O (zaD (aq.rd.at_ be).1 O (aq.rd.at_ be).int c)) ?_)
     obtain⟨ar,bg,Y⟩:=ob Y
     refine Mw.p O O (fun _=>R.ix (α:=Commit) ap.rd bg O O O) ?_
     obtain⟨x84,c85,_,r86⟩:=(ap.rd.at_ bg).cells
     obtain⟨ci,dn,rfl,r88,r90⟩:=Commit.split r86
     refine Mw.q O O (fun _ c=>R.lda (zmh (ap.rd.at_ bg).1 O c85 c) O O) (Mw.t O O (T.alloc 8 (cs:=[.slice none 0 0,vS ([]:Str), .slice none 0 0]) O) ?_)
     rintro _ _ ⟨dp,e9,rfl,rfl,h,dq⟩
     have dr:=dm.n h
     refine m0 h fun fb=>Mw.lu O (T.sta (vs:=[ci,vS ar.Who,dn]) dq O O (zaf r88.oc (zaf O (zaf r90.oc zaW))) O O) ?_
     rintro _ _ ⟨fc,rfl,x,bh⟩
     have cj:=dr.t x
     refine Mw.nil (sr (fl bh O (ms O ?_)))
     have ds:=r90.up ((h.sub (M:=[8]) O).trans (x.sub (M:=[8]) O)) O
     refine cr Y (fun _=>p45 (K:=[0,2]) (k0:=9) (ds.sub (M:=[0,2]) O) ((P.ul cj).sub (M:=[0,2]) O)) ?_
     rintro N F W Y i ⟨_,rfl,dt⟩
     have ck:Ow (α:=List (Sh Vm.File)) W 9 [0,2] [F] N:=dt.sub O
     have du:=cj.n i
     refine Nv F O ?_
     obtain⟨dv,dw,Y⟩:=zc4 Y
     refine Cw.join 77 85 [11] (fun l w=> ∃ au X,CW.w X=w/\Le [] W X/\l=[vB au]/\dv au=some r) ?_ ?_
     ·rintro _ _ σ ⟨au,X,rfl,y,rfl,Y⟩
      rw[dw]at Y
      have dx:=du.n y
      refine ssr (Ni O (Cw.block ?_))
      obtain⟨dy,dz,Y⟩:=zc4 Y
      refine Cw.loop 86 110 [11,12] (fun m l w=> ∃ av G bi,CW.w bi=w/\Le [] X bi/\l=[vB av,vI G]/\Vm.zdb a ar N dy m av G=some r) _ ⟨au,0,X,O,Le.refl _ _,O,Y⟩ ?_
      rintro(_ |fd) _ _ σ ⟨av,G,bi,rfl,e,rfl,Y⟩
      ·cases Y
      unfold Vm.zdb at Y
      have cl:=dx.n e
      have cm:=((((aq.up h).up x).up i).up y).up e
      have co:=((bh.up i).up y).up e
      refine ssr ?_
      have d0:=r88.up ((h.sub (M:=[8]) O).trans ((x.sub (M:=[8]) O).trans ((i.sub (M:=[8]) O).trans ((y.sub (M:=[8]) O).trans (e.sub (M:=[8]) O))))) O
      refine mi O (fl co O (Lw.ln ar.Parents d0 O (Lw.lt O (nl (cn Y (fun Y=>?_) fun Y=>?_)))))
      ·refine sk (Cw.seq (Cw.block (Cw.draw [] [(0,0),(1,0),(2,0),(3,1),(4,0),(5,1),(6,0),(7,0),(8,1),(9,0),(10,0),(11,1),(12,0),(14,0),(13,2),(15,2),(16,0),(17,0),(18,0)] mixed (by kernel_rfl) fun d1 B=>?_)))
       have d2:=cl.n B
       have bj:=(((((ap.up h).up x).up i).up y).up e).up B
       refine Db O (Db O (bs Y (fun b Y=>?_) fun b Y=>?_))
       ·refine Wp b O (fun _=>R.fa O) (Wq b O (fun _ c=>R.ld (v:=H) O O (((((((ch.up h).up x).up i).up y).up e).up B).clc O O c)) (Wp b O (fun _=>R.fa O) (Wq b O (fun _ c=>R.ld (v:=ci) O O ((co.up B).clc O O c)) (Wp b O (fun _=>R.mv (v:=vI G) O) ?_))))
        obtain⟨fe,bk,Y⟩:=ob Y
        have bl:=r88.up ((h.sub (M:=[8]) O).trans ((x.sub (M:=[8]) O).trans ((i.sub (M:=[8]) O).trans ((y.sub (M:=[8]) O).trans ((e.sub (M:=[8]) O).trans (B.sub (M:=[8]) O)))))) O
        refine Wp b O (fun _=>R.ix (α:=Int) bl bk O O O) (Wq b O (fun _ c=>R.ld O O (zaD (bl.at_ bk).1 O (bl.at_ bk).int c)) ?_)
        obtain⟨ff,bm,Y⟩:=ob Y
        refine Wp b O (fun _=>R.ix (α:=Commit) bj.rd bm O O O) (Wp b O (fun _=>R.fa O) ?_)
        obtain⟨fg,c160,r161⟩:=(Commit.at2 (bj.rd.at_ bm)).cell O
        refine Wq b O (fun _ c=>R.ld O O (zaD (Commit.at2 (bj.rd.at_ bm)).1 O c160 c)) (Wp b O (fun _=>R.mv (v:=vS a.2.2) O) (Wp b O (fun _=>R.mv (v:=F) O) ?_))
        obtain⟨cp,d3,Y⟩:=ob Y
        refine Wt b O (T.call O (p45 (K:=[0,2]) (k0:=10) (r161.sub (M:=[0,2]) O) ((P.ul d2).sub (M:=[0,2]) O) d3)) ?_
        rintro cq _ ⟨bn,rfl,bp,⟨_,rfl,d4⟩⟩
        have d5:Ow (α:=List (Sh Vm.File)) bn 10 [0,2] [cq] cp:=d4.sub O
        refine m0 bp fun d6=>?_
        have d7:Rd (α:=List Vm.File) bn [10,0,2] [cq] cp:=Ow.rdSh d5
        have d8:Rd (α:=List Vm.File) bn [9,0,2] [F] N:=Ow.rdSh ((((ck.up y).up e).up B).up bp)
        obtain⟨ct,d9,Y⟩:=ob Y
        refine Wt b O (T.call O (p37 (K:=[0,2,9,10]) (d7.sub (M:=[0,2,9,10]) O) (d8.sub (M:=[0,2,9,10]) O) d9)) ?_
        rintro _ _ ⟨ea,rfl,cu,rfl⟩
        exact mc d6 cu fun fh=>Wp b O (fun _=>R.not O) (Mw.p O O (fun _=>R.pk b O (v:=vB (!ct)) O) (Hb O (Mw.nil (rg (mi O (Lw.add O (Ni O ((agm) ⟨(!ct),w64 (G+1),ea,O,(((e.j B).j bp).j cu).w,O,Y⟩))))))))
       ·exact dps 15 b O (Mw.p O O (fun _=>R.pk b O (v:=vB false) O) (Hb O (Mw.nil (rg (mi O (Lw.add O (Ni O ((agm) ⟨false,w64 (G+1),d1,O,(e.j B).w,O,Y⟩))))))))
      ·refine Cw.exit ?_
       rw[dz]at Y
       refine sr (mb O (mv z O (mv I O (mi O ?_))))
       obtain⟨fi,cv,Y⟩:=ob Y
       refine Lw.r O (R.ix (α:=Int) cm.rd cv O O O) (Lw.r O (R.ld O O (cm.rd.at_ cv).int) (ca Y (fun _=>p26 (K:=[5]) ((((((bb.up L).up h).up x).up i).up y).up e).rd) fun fj eb Y cw=>?_))
       have ec:=cl.n cw
       refine Lw.r O (R.bne O O) (nl (cn Y (fun Y=>?_) fun Y=>?_))
       ·exact sr (Nb O (.ret (rt Y ec)))
       ·exact sk (rg (mi O (Lw.add O (Ni O ((agm) ⟨U,w64 (ao+1),ptr (bx dp),F,vB av,vI G,eb,O,(((((((J.j L).j h).j x).j i).j y).j e).j cw).w,O,Y⟩)))))
     ·refine rg ?_
      have ed:=r88.up ((h.sub (M:=[8]) O).trans ((x.sub (M:=[8]) O).trans (i.sub (M:=[8]) O))) O
      refine fl (bh.up i) O (Lw.ln ar.Parents ed O (Lw.gt O (mb O (bs Y (fun Z Y=>?_) fun Z Y=>?_))))
      ·exact psk 3 Z O (Pb Z O (Nb O ((ag) ⟨true,W,O,Le.refl _ _,O,Y⟩)))
      ·refine wak 3 Z (mv F O ?_)
       have ee:Rd (α:=List Vm.File) W [9,0,2] [F] N:=Ow.rdSh ck
       exact Lw.ln N ee O (Lw.gt O (Pb Z O (Nb O ((ag) ⟨decide (0< (N.length:Int)),W,O,Le.refl _ _,O,Y⟩))))
    ·refine Cw.exit ?_
     rw[dl]at Y
     refine ssr (Ni O (Cw.block ?_))
     obtain⟨ef,eg,Y⟩:=zc4 Y
     refine Cw.loop 119 147 [2,13] (fun m l w=> ∃ aw C ax,CW.w ax=w/\Le [] V ax/\l=[vB aw,vI C]/\Vm.zgw az ba ef m aw C=some r) _ ⟨U,0,V,O,Le.refl _ _,O,Y⟩ ?_
     rintro(_ |fm) _ _ σ ⟨aw,C,ax,rfl,aa,rfl,Y⟩
     ·cases Y
     unfold Vm.zgw at Y
     have cx:=cg.n aa
     refine ssr (mi O (mv z O (Lw.ln az (bb.up aa).rd O (Lw.lt O (nl (cn Y (fun Y=>?_) fun Y=>?_))))))
     ·refine sk (Cw.seq (Cw.block ?_))
      obtain⟨eh,ei,Y⟩:=zc4 Y
      refine Cw.join 125 147 [147] (fun l w=> ∃ bq ay,CW.w ay=w/\Le [] ax ay/\l=[vB bq]/\eh bq=some r) ?_ ?_
      ·rintro _ _ σ ⟨bq,ay,rfl,cy,rfl,Y⟩
       rw[ei]at Y
       have ej:=cx.n cy
       refine cn Y (fun Y=>?_) fun Y=>?_
       ·exact sr (Nb O (.ret (rt Y ej)))
       ·exact sk (rg (mi O (Lw.add O (Ni O ((agm) ⟨aw,w64 (C+1),ay,O,(aa.j cy).w,O,Y⟩)))))
      ·refine Cw.draw [] [(0,0),(1,0),(2,0),(3,0),(4,0),(5,0),(6,1),(7,0),(8,0),(9,0),(10,0),(11,1),(12,0),(13,0),(14,0),(15,0),(16,0),(17,0),(18,0),(19,1),(20,2),(21,0),(22,0)] mixed (by kernel_rfl) fun ek ac=>?_
       have f:=(bb.up aa).up ac
       have cz:=(bc.up aa).up ac
       refine Di O (Mw.p O O (fun _=>R.gt O O) (Db O (bs Y (fun d Y=>?_) fun d Y=>?_)))
       ·refine Wp d O (fun _=>R.mv (v:=z) O) (Wp d O (fun _=>R.mv (v:=vI C) O) ?_)
        obtain⟨el,br,Y⟩:=ob Y
        refine Wp d O (fun _=>R.ix (α:=Int) f.rd br O O O) (Wq d O (fun _ c=>R.ld O O (zaD (f.rd.at_ br).1 O (f.rd.at_ br).int c)) (Wp d O (fun _=>R.mv (v:=z) O) (Wp d O (fun _=>R.mv (v:=vI C) O) (Wp d O (fun _=>R.sub O O) ?_))))
        obtain⟨em,bu,Y⟩:=ob Y
        refine Wp d O (fun _=>R.ix (α:=Int) f.rd bu O O O) (Wq d O (fun _ c=>R.ld O O (zaD (f.rd.at_ bu).1 O (f.rd.at_ bu).int c)) (Wp d O (fun _=>R.ge O O) (Mw.p O O (fun _=>R.pk d O (v:=vB (decide (em<=(el:Int)))) O) (Db O (bs Y (fun k Y=>?_) fun k Y=>?_)))))
        ·exact dps 7 k O (Mw.p O O (fun _=>R.pk k O (v:=vB true) O) (Mw.nil ((ag) ⟨true,ek,O,ac,O,Y⟩)))
        ·refine Wp k O (fun _=>R.mv (v:=I) O) (Wp k O (fun _=>R.mv (v:=z) O) (Wp k O (fun _=>R.mv (v:=vI C) O) ?_))
         obtain⟨fn,bv,Y⟩:=ob Y
         refine Wp k O (fun _=>R.ix (α:=Int) f.rd bv O O O) (Wq k O (fun _ c=>R.ld O O (zaD (f.rd.at_ bv).1 O (f.rd.at_ bv).int c)) ?_)
         obtain⟨c0,en,Y⟩:=ob Y
         refine Wt k O (T.call O (p26 (K:=[7]) cz.rd en)) ?_
         rintro _ _ ⟨eo,rfl,c1,rfl⟩
         exact m0 c1 fun fo=>Wp k O (fun _=>R.not O) (Mw.p O O (fun _=>R.pk k O (v:=vB (!c0)) O) (Mw.nil ((ag) ⟨(!c0),eo,O,(ac.j c1).w,O,Y⟩)))
       ·refine dps 10 d O (Mw.p O O (fun _=>R.pk d O (v:=vB false) O) (Db O (Wp O O (fun _=>R.mv (v:=I) O) (Wp O O (fun _=>R.mv (v:=z) O) (Wp O O (fun _=>R.mv (v:=vI C) O) ?_)))))
        obtain⟨fp,bw,Y⟩:=ob Y
        refine Wp O O (fun _=>R.ix (α:=Int) f.rd bw O O O) (Wq O O (fun _ c=>R.ld O O (zaD (f.rd.at_ bw).1 O (f.rd.at_ bw).int c)) ?_)
        obtain⟨c2,ep,Y⟩:=ob Y
        refine Wt O O (T.call O (p26 (K:=[7]) cz.rd ep)) ?_
        rintro _ _ ⟨er,rfl,c3,rfl⟩
        exact m0 c3 fun fq=>Wp O O (fun _=>R.not O) (Mw.p O O (fun _=>R.pk O O (v:=vB (!c2)) O) (Mw.nil ((ag) ⟨(!c2),er,O,(ac.j c3).w,O,Y⟩)))
     ·refine Cw.exit ?_
      rw[eg]at Y
      exact sr (Nb O (.ret (rt Y cx)))
  ·refine rg (mv z O (la a2 (mi O (ms O (cr Y (fun _=>p44 (K:=[2,3]) (k0:=11) (x0:=(Vm.Repo.mk a.1.Commits a.1.Heads)) (Repo.rd (K:=[2,3]) a.1.Commits a.1.Heads (a1.rd.sub (M:=[2,3]) O) (am.rd.sub (M:=[2,3]) O))) ?_)))))
   rintro fr fs ft Y A ⟨_,rfl,es⟩
   have et:=b8.n A
   refine ca Y (fun _=>p17 (K:=[5,11]) ((a0.up A).rd.sub (M:=[5,11]) O) (es.rd.sub (M:=[5,11]) O)) fun fu eu Y D=>?_
   have ew:=et.n D
   have c4:=(a1.up A).up D
   have c5:=(a2.up A).up D
   refine Lw.r O (R.not O) (mb O (bs Y (fun ae Y=>?_) fun ae Y=>?_))
   ·exact psk 3 ae O (Pb ae O (mb O (psk 2 O O (Pb O O (mb O (psk 5 O O (Pb O O (nl ((ag) ⟨true,eu,O,(A.j D).w,O,Y⟩)))))))))
   ·refine wak 3 ae (la c5 (ca Y (fun _=>p32 (K:=[0,2,3]) (x0:=(Vm.Repo.mk a.1.Commits a.1.Heads)) ((Repo.rd (K:=[2,3]) a.1.Commits a.1.Heads (c4.rd.sub (M:=[2,3]) O) (((am.up A).up D).rd.sub (M:=[2,3]) O)).sub (M:=[0,2,3]) O) ((P.ul ew).sub (M:=[0,2,3]) O)) fun fv bz Y af=>Lw.r O (R.not O) (Pb ae O (mb O (bs Y (fun ah Y=>?_) fun ah Y=>?_)))))
    ·exact psk 2 ah O (Pb ah O (mb O (psk 5 O O (Pb O O (nl ((ag) ⟨true,bz,O,((A.j D).j af).w,O,Y⟩))))))
    ·refine wak 2 ah (mi O (Lw.lt O (Pb ah O (mb O (bs Y (fun ai Y=>?_) fun ai Y=>?_)))))
     ·exact psk 5 ai O (Pb ai O (nl ((ag) ⟨true,bz,O,((A.j D).j af).w,O,Y⟩)))
     ·exact wak 5 ai (mi O (fl (c5.up af) O (Lw.ln a.1.Commits (c4.up af).rd O (Lw.ge O (Pb ai O (nl ((ag) ⟨decide (a.1.Commits.length<=(a.2.1:Int)),bz,O,((A.j D).j af).w,O,Y⟩)))))))
theorem p8 {x0 a r}(b:Rd W K [a] x0)(d:Gl 0 W K)(Y:Vm.zkw x0=some r):Q1 8 [a] W [] fun W' v=>v=vB r:=
 (c8 (b.view _) (d.view _) Y).ad (fk 0) fun _ _ e=>e
end Go.Sx
