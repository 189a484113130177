/- Walks: each function answers as its model, printed by a program of ours. Conditions: the arguments read as they are given. -/
import Derived.Test.YtpijdodljeieaaaGreatDoorBTs
import Derived.Test.YtpijdodljeieaaaGreatDoorBM15
import Derived.Test.YtpijdodljeieaaaGreatDoorBW10
import Derived.Test.YtpijdodljeieaaaGreatDoorBW12
import Derived.Test.YtpijdodljeieaaaGreatDoorBW14
import Derived.Test.YtpijdodljeieaaaGreatDoorBW15
import Derived.Test.YtpijdodljeieaaaGreatDoorBW18
import Derived.Test.YtpijdodljeieaaaGreatDoorBW6
import Derived.Test.YtpijdodljeieaaaGreatDoorBW7
namespace Go.Sx
open Go Go.Proofs Go.Vm Rp
set_option linter.unusedVariables false
set_option linter.unusedSimpArgs false
variable {W W0:CW}{K:List Nat}
theorem c42 {x0 d e r}(A:Rd W0 [0] [d,e] x0)(B:Gl 0 W0 [0])(Y:Vm.zkr x0=some r):Q0 42 [.agg [d,e].toArray] W0 fun Wf v=> ∃ f,v=f/\OwS Wf LL [] [f] r:=by
 unfold Vm.zkr at Y
 obtain⟨J,L,h,i,k⟩:=Repo.split A
 simp only[List.cons.injEq,and_true,true_and]at h
 obtain⟨rfl,rfl⟩:=h
 refine zaT.of Tryz.func42 O O O O (sr (bo 2 O fun M N C x=>?_))
 have a:=C.o
 refine Nv (.slice none 0 0) O (ssr (la x (ca Y (fun _=>p32 (Repo.rd (K:=[0]) x0.Commits x0.Heads (i.ul a) (k.ul a)) (B.ul a)) fun P Q Y y=>?_)))
 have b:=a.n y
 refine Lw.r O (R.not O) (nl (cn Y (fun Y=>?_) fun Y=>?_))
 ·refine sr (Nv (.slice none 0 0) O ?_)
  cases Y
  exact Cw.ret (zmk O (Res.mk b ⟨.slice none 0 0,O,(zp1 []).sub O O⟩))
 ·refine sk (sr (la (x.up y) (cr Y (fun _=>p104 (k0:=3) (Repo.rd (K:=[0]) x0.Commits x0.Heads (i.ul b) (k.ul b))) ?_)))
  rintro S T U Y D ⟨_,rfl,E⟩
  have F:=b.n D
  refine cr Y (fun _=>p103 (K:=[3]) (k0:=4) E.rd) ?_
  rintro V z W Y G ⟨_,rfl,H⟩
  have I:=F.n G
  refine Nv z O ?_
  cases Y
  exact Cw.ret (zmk O (Res.mk I ⟨z,O,H.s.sub O O⟩))
theorem p42 {x0 b d k0 r}(f:Rd W K [b,d] x0)(h:Gl 0 W K)(Y:Vm.zkr x0=some r):Q1 42 [.agg [b,d].toArray] W [] fun W' v=> ∃ a,v=a/\Ow W' k0 [] [a] r:=
 (c42 (f.view _) (h.view _) Y).ad (fk k0) fun _ _ ⟨a,e,i⟩=>⟨a,e,i.back (zlS _)⟩
theorem c7 {x0 bb r}(h0:Rd W0 [0] [bb] x0)(z:Gl 0 W0 [0])(Y:Vm.zjX x0=some r):Q0 7 [bb] W0 fun Wf v=>v=vB r:=by
 unfold Vm.zjX at Y
 refine zaT.of Tryz.func7 O O O O (sr (Nb O (ssr (mv bb O (Lw.ln x0 h0 O (Lw.gt O (nl (cn Y (fun Y=>?_) fun Y=>?_))))))))
 ·exact sr (Nb O (.ret (rt Y (Le.refl _ _))))
 ·refine sk (sr (mv bb O (cr Y (fun _=>p38 (k0:=2) (k1:=3) h0) ?_)))
  rintro b _ W4 Y l4 ⟨Z,aj,rfl,da,db⟩
  have a5:=l4.o
  refine al 4 [.slice none 0 0, .slice none 0 0] fun g6 W6 l6 b6=>?_
  have a7:=a5.n l6
  refine sta b6 (zaf (da.up l6).oc (zaf (db.up l6).oc zaW)) fun g2 l10 dc=>?_
  have dd:=a7.t l10
  have de:=(da.up l6).up l10
  have df:=(db.up l6).up l10
  refine nl (sr (la dc (cr Y (fun _=>p39 (K:=[0,2,3]) (k0:=5) (k1:=6) (x0:=(Vm.Repo.mk b.Commits b.Heads)) ((Repo.rd (K:=[2,3]) b.Commits b.Heads (de.rd.sub (M:=[2,3]) O) (df.rd.sub (M:=[2,3]) O)).sub (M:=[0,2,3]) O) ((z.ul dd).sub (M:=[0,2,3]) O)) ?_)))
  rintro a _ g3 Y bc ⟨i,C,rfl,dg,dh⟩
  have eo:=dd.n bc
  refine al 7 [.slice none 0 0, .slice none 0 0] fun g4 g5 aa ep=>?_
  have er:=eo.n aa
  refine sta ep (zaf (dg.up aa).oc (zaf (dh.up aa).oc zaW)) fun es aq bz=>?_
  have di:=er.t aq
  have be:=((de.up bc).up aa).up aq
  have bg:=((df.up bc).up aa).up aq
  have b0:=(dg.up aa).up aq
  have b1:=(dh.up aa).up aq
  have bh:=((dc.up bc).up aa).up aq
  refine nl (Cw.seq ?_)
  obtain⟨et,eu,Y⟩:=zc4 Y
  refine Cw.join 21 30 [30] (fun l w=> ∃ b2 aw,CW.w aw=w/\Le [] es aw/\l=[vB b2]/\et b2=some r) ?_ ?_
  ·rintro _ _ σ ⟨b2,aw,rfl,h,rfl,Y⟩
   rw[eu]at Y
   have dj:=di.n h
   refine cn Y (fun Y=>?_) fun Y=>?_
   ·refine Cw.seq (Cw.draw [] [(0,1),(1,1),(2,2),(3,3),(4,0)] mixed (by kernel_rfl) fun g7 ak=>?_)
    have ew:=dj.n ak
    refine Mw.q O O (fun _ c=>R.lda (cs:=[i,C]) (((bz.up h).up ak).clcs O c) O O) (Mw.q O O (fun _ c=>R.lda (cs:=[Z,aj]) (((bh.up h).up ak).clcs O c) O O) ?_)
    obtain⟨bi,ex,Y⟩:=ob Y
    refine Mw.t O O (T.call O (p40 (K:=[2,3]) (k0:=8) (k1:=9) (x0:=(Vm.Repo.mk b.Commits b.Heads)) (Repo.rd (K:=[2,3]) b.Commits b.Heads (((be.up h).up ak).rd.sub (M:=[2,3]) O) (((bg.up h).up ak).rd.sub (M:=[2,3]) O)) ex)) ?_
    rintro _ _ ⟨g8,rfl,bj,⟨g9,ha,rfl,ey,ez⟩⟩
    have e0:=ew.n bj
    refine m0 bj fun hb=>?_
    obtain⟨hc,e1,Y⟩:=ob Y
    refine Mw.l O O (T.call O (p31 (K:=[5,6,8,9]) (x0:=(Vm.Repo.mk a.Commits a.Heads)) (x1:=(Vm.Repo.mk bi.Commits bi.Heads)) ((Repo.rd (K:=[5,6]) a.Commits a.Heads ((((b0.up h).up ak).up bj).rd.sub (M:=[5,6]) O) ((((b1.up h).up ak).up bj).rd.sub (M:=[5,6]) O)).sub (M:=[5,6,8,9]) O) ((Repo.rd (K:=[8,9]) bi.Commits bi.Heads (ey.rd.sub (M:=[8,9]) O) (ez.rd.sub (M:=[8,9]) O)).sub (M:=[5,6,8,9]) O) e1)) ?_
    rintro _ _ ⟨hd,rfl,e2,rfl⟩
    have e3:=e0.n e2
    exact Hb O (Mw.nil (.ret (rt Y e3)))
   ·refine sk (ssr (Ni O (Cw.block ?_)))
    obtain⟨e4,e5,Y⟩:=zc4 Y
    refine Cw.loop 35 164 [2,5,6,7,8,9,10,11,12,13] (fun m l w=> ∃ bk bl dk dl dm dn dp dq dr ds bm,CW.w bm=w/\Le [] aw bm/\l=[vB bk,vI bl,dk,dl,dm,dn,dp,dq,dr,ds]/\Vm.zdN b a e4 m bk bl=some r) _ ⟨false,0,undef,undef,undef,undef,undef,undef,undef,undef,aw,O,Le.refl _ _,O,Y⟩ ?_
    rintro(_ |he) _ _ σ ⟨bk,bl,dk,dl,dm,dn,dp,dq,dr,ds,bm,rfl,ac,rfl,Y⟩
    ·cases Y
    unfold Vm.zdN at Y
    have b3:=dj.n ac
    have b4:=(be.up h).up ac
    have ax:=(bg.up h).up ac
    have b5:=(b0.up h).up ac
    have b7:=(b1.up h).up ac
    have ay:=(bh.up h).up ac
    have dt:=(bz.up h).up ac
    refine ssr (mi O (fl ay O (Lw.ln b.Heads ax.rd O (Lw.lt O (nl (cn Y (fun Y=>?_) fun Y=>?_))))))
    ·refine sk (Cw.seq (Cw.block (sr (fl ay O (mi O ?_)))))
     obtain⟨e6,du,Y⟩:=ob Y
     refine Lw.r O (R.ix (α:=Head) ax.rd du O O O) (Lw.fa O (Lw.r O (R.ld O O (Head.at0 (ax.rd.at_ du)).str) (Ns O (Cw.seq (Cw.draw [] [(0,1),(1,0),(2,1),(3,0),(4,0),(5,0),(6,1),(7,2),(8,0),(9,0),(10,0),(11,0),(12,0)] mixed (by kernel_rfl) fun hf H=>?_)))))
     have dv:=b3.n H
     have az:=ax.up H
     have b8:=ay.up H
     refine Mw.q O O (fun _ c=>R.lda (cs:=[Z,aj]) (b8.clcs O c) O O) (Dfl b8 O O O (Di O ?_))
     obtain⟨hg,b9,Y⟩:=ob Y
     refine Mw.p O O (fun _=>R.ix (α:=Head) az.rd b9 O O O) (Df O (Mw.q O O (fun _ c=>R.ld O O (zaD (Head.at1 (az.rd.at_ b9)).1 O (Head.at1 (az.rd.at_ b9)).int c)) ?_))
     obtain⟨a0,e7,Y⟩:=ob Y
     refine Mw.t O O (T.call O (p35 (K:=[0,2,3]) (k0:=10) (x0:=(Vm.Repo.mk b.Commits b.Heads)) ((Repo.rd (K:=[2,3]) b.Commits b.Heads ((b4.up H).rd.sub (M:=[2,3]) O) (az.rd.sub (M:=[2,3]) O)).sub (M:=[0,2,3]) O) ((z.ul dv).sub (M:=[0,2,3]) O) e7)) ?_
     rintro _ _ ⟨hh,rfl,I,⟨am,rfl,e8⟩⟩
     have e9:=dv.n I
     refine m0 I fun hi=>Dv (.tuple [am,vB a0.2].toArray) O (Mw.p O O (fun _=>R.ext (vs:=[am,vB a0.2]) (v:=am) O O) (Mw.p O O (fun _=>R.ext (vs:=[am,vB a0.2]) (v:=vB a0.2) O O) (Hv am O (Hb O (Mw.nil (Cw.seq (Cw.draw [] [(0,1),(1,1),(2,0),(3,2),(4,3),(5,0),(6,0),(7,0),(8,0),(9,0)] mixed (by kernel_rfl) fun hj J=>?_)))))))
     have dw:=e9.n J
     have cb:=((b5.up H).up I).up J
     have cc:=((b7.up H).up I).up J
     have cd:=((dt.up H).up I).up J
     refine Mw.q O O (fun _ c=>R.lda (cs:=[i,C]) (cd.clcs O c) O O) (Mw.q O O (fun _ c=>R.lda (cs:=[i,C]) (cd.clcs O c) O O) (Ds O ?_))
     obtain⟨hk,fb,Y⟩:=ob Y
     refine Mw.t O O (T.call O (p34 (K:=[0,5,6]) (x0:=(Vm.Repo.mk a.Commits a.Heads)) ((Repo.rd (K:=[5,6]) a.Commits a.Heads (cb.rd.sub (M:=[5,6]) O) (cc.rd.sub (M:=[5,6]) O)).sub (M:=[0,5,6]) O) ((z.ul dw).sub (M:=[0,5,6]) O) fb)) ?_
     rintro _ _ ⟨hl,rfl,k,rfl⟩
     have dx:=dw.n k
     refine m0 k fun hn=>?_
     obtain⟨a1,fc,Y⟩:=ob Y
     refine Mw.l O O (T.call O (p35 (K:=[0,5,6]) (k0:=11) (x0:=(Vm.Repo.mk a.Commits a.Heads)) ((Repo.rd (K:=[5,6]) a.Commits a.Heads ((cb.up k).rd.sub (M:=[5,6]) O) ((cc.up k).rd.sub (M:=[5,6]) O)).sub (M:=[0,5,6]) O) ((z.ul dx).sub (M:=[0,5,6]) O) fc)) ?_
     rintro _ _ ⟨ho,rfl,L,⟨an,rfl,fd⟩⟩
     have fe:=dx.n L
     refine Dv (.tuple [an,vB a1.2].toArray) O (Mw.p O O (fun _=>R.ext (vs:=[an,vB a1.2]) (v:=an) O O) (Mw.p O O (fun _=>R.ext (vs:=[an,vB a1.2]) (v:=vB a1.2) O O) (Hv an O (Hb O (Mw.nil (Cw.seq (Cw.draw [] [(0,1),(1,0),(2,1),(3,0),(4,0),(5,0),(6,1),(7,2),(8,0)] mixed (by kernel_rfl) fun hp D=>?_)))))))
     have dy:=fe.n D
     have dz:=(((((b4.up H).up I).up J).up k).up L).up D
     have bn:=((((az.up I).up J).up k).up L).up D
     have ce:=((((b8.up I).up J).up k).up L).up D
     refine Mw.q O O (fun _ c=>R.lda (cs:=[Z,aj]) (ce.clcs O c) O O) (Dfl ce O O O (Di O ?_))
     obtain⟨hq,cf,Y⟩:=ob Y
     refine Mw.p O O (fun _=>R.ix (α:=Head) bn.rd cf O O O) (Df O (Mw.q O O (fun _ c=>R.ld O O (zaD (Head.at1 (bn.rd.at_ cf)).1 O (Head.at1 (bn.rd.at_ cf)).int c)) ?_))
     obtain⟨bp,ff,Y⟩:=ob Y
     refine Mw.t O O (T.call O (p41 (K:=[0,2,3]) (k0:=12) (x0:=(Vm.Repo.mk b.Commits b.Heads)) ((Repo.rd (K:=[2,3]) b.Commits b.Heads (dz.rd.sub (M:=[2,3]) O) (bn.rd.sub (M:=[2,3]) O)).sub (M:=[0,2,3]) O) ((z.ul dy).sub (M:=[0,2,3]) O) ff)) ?_
     rintro ao _ ⟨hr,rfl,E,⟨_,rfl,fg⟩⟩
     have fh:=dy.n E
     refine m0 E fun hs=>Hv ao O (Mw.nil (Cw.seq (Cw.draw [] [(0,1),(1,1),(2,0),(3,2),(4,3),(5,0)] mixed (by kernel_rfl) fun ht F=>?_)))
     have d0:=fh.n F
     have cg:=((((cb.up k).up L).up D).up E).up F
     have d1:=((((cc.up k).up L).up D).up E).up F
     have ch:=((((cd.up k).up L).up D).up E).up F
     refine Mw.q O O (fun _ c=>R.lda (cs:=[i,C]) (ch.clcs O c) O O) (Mw.q O O (fun _ c=>R.lda (cs:=[i,C]) (ch.clcs O c) O O) (Ds O ?_))
     obtain⟨hu,fi,Y⟩:=ob Y
     refine Mw.t O O (T.call O (p34 (K:=[0,5,6]) (x0:=(Vm.Repo.mk a.Commits a.Heads)) ((Repo.rd (K:=[5,6]) a.Commits a.Heads (cg.rd.sub (M:=[5,6]) O) (d1.rd.sub (M:=[5,6]) O)).sub (M:=[0,5,6]) O) ((z.ul d0).sub (M:=[0,5,6]) O) fi)) ?_
     rintro _ _ ⟨hv,rfl,x,rfl⟩
     have d2:=d0.n x
     refine m0 x fun hw=>?_
     obtain⟨ci,fj,Y⟩:=ob Y
     refine Mw.l O O (T.call O (p41 (K:=[0,5,6]) (k0:=13) (x0:=(Vm.Repo.mk a.Commits a.Heads)) ((Repo.rd (K:=[5,6]) a.Commits a.Heads ((cg.up x).rd.sub (M:=[5,6]) O) ((d1.up x).rd.sub (M:=[5,6]) O)).sub (M:=[0,5,6]) O) ((z.ul d2).sub (M:=[0,5,6]) O) fj)) ?_
     rintro ar _ ⟨d3,rfl,N,⟨_,rfl,d4⟩⟩
     have fm:=d2.n N
     have d5:=((fg.up F).up x).up N
     refine Hv ar O (Mw.nil (Cw.seq ?_))
     obtain⟨fn,fo,Y⟩:=zc4 Y
     refine Cw.join 80 94 [94] (fun l w=> ∃ cj a2,CW.w a2=w/\Le [] d3 a2/\l=[vB cj]/\fn cj=some r) ?_ ?_
     ·rintro _ _ σ ⟨cj,a2,rfl,ae,rfl,Y⟩
      rw[fo]at Y
      have d6:=fm.n ae
      refine cn Y (fun Y=>?_) fun Y=>?_
      ·exact sr (Nb O (.ret (rt Y d6)))
      ·refine sk (sr (Ni O (Cw.block ?_)))
       obtain⟨fp,fq,Y⟩:=zc4 Y
       refine Cw.loop 95 164 [2,13] (fun m l w=> ∃ a3 P a4,CW.w a4=w/\Le [] a2 a4/\l=[vB a3,vI P]/\Vm.zfT b a bp ci fp m a3 P=some r) _ ⟨bk,0,a2,O,Le.refl _ _,O,Y⟩ ?_
       rintro(_ |hx) _ _ σ ⟨a3,P,a4,rfl,Q,rfl,Y⟩
       ·cases Y
       unfold Vm.zfT at Y
       have fr:=d6.n Q
       have d7:=(d5.up ae).up Q
       refine ssr (mi O (mv ao O (Lw.ln bp d7.rd O (Lw.lt O (nl (cn Y (fun Y=>?_) fun Y=>?_))))))
       ·refine sk (Cw.seq (Cw.block ?_))
        obtain⟨fs,ft,Y⟩:=zc4 Y
        refine Cw.join 101 164 [164] (fun l w=> ∃ ck bq,CW.w bq=w/\Le [] a4 bq/\l=[vB ck]/\fs ck=some r) ?_ ?_
        ·rintro _ _ σ ⟨ck,bq,rfl,d8,rfl,Y⟩
         rw[ft]at Y
         have fu:=fr.n d8
         refine cn Y (fun Y=>?_) fun Y=>?_
         ·exact sr (Nb O (.ret (rt Y fu)))
         ·exact sk (rg (mi O (Lw.add O (Ni O ((agm) ⟨a3,w64 (P+1),bq,O,(Q.j d8).w,O,Y⟩)))))
        ·refine Cw.draw [] [(0,0),(1,1),(2,0),(3,0),(4,0),(5,1),(6,0),(7,0),(8,1),(9,0),(10,1),(11,0),(12,0),(13,0),(14,1),(15,0),(16,0),(17,1),(18,0),(19,0),(20,0),(21,1),(22,0),(23,0),(24,0),(25,1),(26,0),(27,0),(28,1),(29,0),(30,1),(31,0),(32,0),(33,0),(34,1),(35,0),(36,0),(37,1),(38,2),(39,0),(40,0),(41,0),(42,0),(43,1),(44,0),(45,0),(46,0),(47,1),(48,0),(49,0),(50,1),(51,0),(52,0),(53,1),(54,0),(55,0),(56,0),(57,1),(58,0),(59,0),(60,1),(61,0),(62,0),(63,0)] mixed (by kernel_rfl) fun fv S=>?_
         have U:=((((((dz.up E).up F).up x).up N).up ae).up Q).up S
         have V:=((((cg.up x).up N).up ae).up Q).up S
         have W:=d7.up S
         have X:=((d4.up ae).up Q).up S
         have cl:=((((((ce.up E).up F).up x).up N).up ae).up Q).up S
         have cm:=((((ch.up x).up N).up ae).up Q).up S
         refine Dfl cl O O O (Dv ao O (Di O ?_))
         obtain⟨hy,co,Y⟩:=ob Y
         refine Mw.p O O (fun _=>R.ix (α:=Int) W.rd co O O O) (Mw.q O O (fun _ c=>R.ld O O (zaD (W.rd.at_ co).1 O (W.rd.at_ co).int c)) ?_)
         obtain⟨hz,cp,Y⟩:=ob Y
         refine Mw.p O O (fun _=>R.ix (α:=Commit) U.rd cp O O O) (Df O (Mw.q O O (fun _ c=>R.ld O O (zaD (Commit.at1 (U.rd.at_ cp)).1 O (Commit.at1 (U.rd.at_ cp)).str c)) (Dfl cm O O O (Dv ar O (Di O ?_)))))
         obtain⟨h1,cq,Y⟩:=ob Y
         refine Mw.p O O (fun _=>R.ix (α:=Int) X.rd cq O O O) (Mw.q O O (fun _ c=>R.ld O O (zaD (X.rd.at_ cq).1 O (X.rd.at_ cq).int c)) ?_)
         obtain⟨h2,ct,Y⟩:=ob Y
         refine Mw.p O O (fun _=>R.ix (α:=Commit) V.rd ct O O O) (Df O (Mw.q O O (fun _ c=>R.ld O O (zaD (Commit.at1 (V.rd.at_ ct)).1 O (Commit.at1 (V.rd.at_ ct)).str c)) (Mw.p O O (fun _=>R.sne O O) (Db O (bs Y (fun e Y=>?_) fun e Y=>?_)))))
         ·exact dps 20 e O (Mw.p O O (fun _=>R.pk e O (v:=vB true) O) (Db O (dps 21 O O (Mw.p O O (fun _=>R.pk O O (v:=vB true) O) (Mw.nil ((ag) ⟨true,fv,O,S,O,Y⟩))))))
         ·refine Wp e O (fun _=>R.fa O) (Wq e O (fun _ c=>R.ld (v:=Z) O O (cl.clc O O c)) (Wp e O (fun _=>R.mv (v:=ao) O) (Wp e O (fun _=>R.mv (v:=vI P) O) ?_)))
          obtain⟨h3,cu,Y⟩:=ob Y
          refine Wp e O (fun _=>R.ix (α:=Int) W.rd cu O O O) (Wq e O (fun _ c=>R.ld O O (zaD (W.rd.at_ cu).1 O (W.rd.at_ cu).int c)) ?_)
          obtain⟨h4,cv,Y⟩:=ob Y
          refine Wp e O (fun _=>R.ix (α:=Commit) U.rd cv O O O) (Wp e O (fun _=>R.fa O) ?_)
          obtain⟨h5,c291,r292⟩:=(Commit.at2 (U.rd.at_ cv)).cell O
          refine Wq e O (fun _ c=>R.ld O O (zaD (Commit.at2 (U.rd.at_ cv)).1 O c291 c)) (Wp e O (fun _=>R.fa O) (Wq e O (fun _ c=>R.ld (v:=i) O O (cm.clc O O c)) (Wp e O (fun _=>R.mv (v:=ar) O) (Wp e O (fun _=>R.mv (v:=vI P) O) ?_))))
          obtain⟨h6,cw,Y⟩:=ob Y
          refine Wp e O (fun _=>R.ix (α:=Int) X.rd cw O O O) (Wq e O (fun _ c=>R.ld O O (zaD (X.rd.at_ cw).1 O (X.rd.at_ cw).int c)) ?_)
          obtain⟨h7,cx,Y⟩:=ob Y
          refine Wp e O (fun _=>R.ix (α:=Commit) V.rd cx O O O) (Wp e O (fun _=>R.fa O) ?_)
          obtain⟨h8,c298,r299⟩:=(Commit.at2 (V.rd.at_ cx)).cell O
          refine Wq e O (fun _ c=>R.ld O O (zaD (Commit.at2 (V.rd.at_ cx)).1 O c298 c)) ?_
          obtain⟨fw,fx,Y⟩:=ob Y
          refine Wt e O (T.call O (p37 (K:=[2,5]) (r292.sub (M:=[2,5]) O) (r299.sub (M:=[2,5]) O) fx)) ?_
          rintro _ _ ⟨d9,rfl,a6,rfl⟩
          refine m0 a6 fun h9=>Wp e O (fun _=>R.not O) (Mw.p O O (fun _=>R.pk e O (v:=vB (!fw)) O) (Db O (bs Y (fun d Y=>?_) fun d Y=>?_)))
          ·exact dps 21 d O (Mw.p O O (fun _=>R.pk d O (v:=vB true) O) (Mw.nil ((ag) ⟨true,d9,O,(S.j a6).w,O,Y⟩)))
          ·refine Wp d O (fun _=>R.fa O) (Wq d O (fun _ c=>R.ld (v:=Z) O O (cl.clc O O c)) (Wp d O (fun _=>R.mv (v:=ao) O) (Wp d O (fun _=>R.mv (v:=vI P) O) ?_)))
           obtain⟨ia,cy,Y⟩:=ob Y
           refine Wp d O (fun _=>R.ix (α:=Int) W.rd cy O O O) (Wq d O (fun _ c=>R.ld O O (zaD (W.rd.at_ cy).1 O (W.rd.at_ cy).int c)) ?_)
           obtain⟨cz,c0,Y⟩:=ob Y
           refine Wp d O (fun _=>R.ix (α:=Commit) U.rd c0 O O O) (Wp d O (fun _=>R.fa O) ?_)
           obtain⟨ib,c320,r321⟩:=(Commit.at0 (U.rd.at_ c0)).cell O
           have fy:=r321.up (a6.sub (M:=[]) O) O
           refine Wq d O (fun _ c=>R.ld O O (zaD (Commit.at0 (U.rd.at_ c0)).1 O c320 c)) (Wp d O (fun _=>zo6 (xs:=cz.Parents) fy O) (Wp d O (fun _=>R.fa O) (Wq d O (fun _ c=>R.ld (v:=i) O O (cm.clc O O c)) (Wp d O (fun _=>R.mv (v:=ar) O) (Wp d O (fun _=>R.mv (v:=vI P) O) ?_)))))
           obtain⟨ic,c1,Y⟩:=ob Y
           refine Wp d O (fun _=>R.ix (α:=Int) X.rd c1 O O O) (Wq d O (fun _ c=>R.ld O O (zaD (X.rd.at_ c1).1 O (X.rd.at_ c1).int c)) ?_)
           obtain⟨c2,c3,Y⟩:=ob Y
           refine Wp d O (fun _=>R.ix (α:=Commit) V.rd c3 O O O) (Wp d O (fun _=>R.fa O) ?_)
           obtain⟨id,c328,r329⟩:=(Commit.at0 (V.rd.at_ c3)).cell O
           have fz:=r329.up (a6.sub (M:=[]) O) O
           exact Wq d O (fun _ c=>R.ld O O (zaD (Commit.at0 (V.rd.at_ c3)).1 O c328 c)) (Wp d O (fun _=>zo6 (xs:=c2.Parents) fz O) (Wp d O (fun _=>R.ne O O) (Mw.p O O (fun _=>R.pk d O (v:=vB ((cz.Parents.length:Int) !=(c2.Parents.length:Int))) O) (Mw.nil ((ag) ⟨((cz.Parents.length:Int) !=(c2.Parents.length:Int)),d9,O,(S.j a6).w,O,Y⟩)))))
       ·refine Cw.exit ?_
        rw[fq]at Y
        exact rg (mi O (Lw.add O (Ni O ((agm) ⟨a3,w64 (bl+1),vS e6.Name,am,vB a0.2,an,vB a1.2,ao,ar,vI P,a4,O,((((((((((((ac.j H).j I).j J).j k).j L).j D).j E).j F).j x).j N).j ae).j Q).w,O,Y⟩))))
     ·refine rg (mb O (Lw.r O (R.not O) (mb O (bs Y (fun a8 Y=>?_) fun a8 Y=>?_))))
      ·exact psk 4 a8 O (Pb a8 O (mb O (psk 5 O O (Pb O O (nl ((ag) ⟨true,d3,O,Le.refl _ _,O,Y⟩))))))
      ·refine wak 4 a8 (mv am O (mv an O (ca Y (fun _=>p37 (K:=[10,11]) (((((((((e8.up J).up k).up L).up D).up E).up F).up x).up N).rd.sub (M:=[10,11]) O) ((((((fd.up D).up E).up F).up x).up N).rd.sub (M:=[10,11]) O)) fun ie ea Y br=>Lw.r O (R.not O) (Pb a8 O (mb O (bs Y (fun a9 Y=>?_) fun a9 Y=>?_))))))
       ·exact psk 5 a9 O (Pb a9 O (nl ((ag) ⟨true,ea,O,br,O,Y⟩)))
       ·exact wak 5 a9 (mv ao O (Lw.ln bp (d5.up br).rd O (mv ar O (Lw.ln ci (d4.up br).rd O (Lw.ne O (Pb a9 O (nl ((ag) ⟨((bp.length:Int) !=(ci.length:Int)),ea,O,br,O,Y⟩))))))))
    ·refine Cw.exit ?_
     rw[e5]at Y
     obtain⟨f0,f1,Y⟩:=zc4 Y
     refine Cw.join 165 190 [2] (fun l w=> ∃ c4 c5,CW.w c5=w/\Le [] bm c5/\l=[vB c4]/\f0 c4=some r) ?_ ?_
     ·rintro _ _ σ ⟨c4,c5,rfl,f2,rfl,Y⟩
      rw[f1]at Y
      have f3:=b3.n f2
      exact .ret (rt Y f3)
     ·refine Cw.draw [] [(0,1),(1,2),(2,0),(3,0),(4,1),(5,0),(6,0),(7,1),(8,0),(9,0),(10,0),(11,0),(12,0),(13,1),(14,0),(15,1),(16,2),(17,0),(18,0),(19,0),(20,0),(21,1),(23,1),(22,2),(24,2),(25,0),(26,0)] mixed (by kernel_rfl) fun ig f=>?_
      have eb:=b3.n f
      have ba:=dt.up f
      refine Mw.q O O (fun _ c=>R.lda (cs:=[i,C]) (ba.clcs O c) O O) ?_
      obtain⟨ih,f4,Y⟩:=ob Y
      refine Mw.t O O (T.call O (p32 (K:=[0,5,6]) (x0:=(Vm.Repo.mk a.Commits a.Heads)) ((Repo.rd (K:=[5,6]) a.Commits a.Heads ((b5.up f).rd.sub (M:=[5,6]) O) ((b7.up f).rd.sub (M:=[5,6]) O)).sub (M:=[0,5,6]) O) ((z.ul eb).sub (M:=[0,5,6]) O) f4)) ?_
      rintro _ _ ⟨ec,rfl,G,rfl⟩
      have ed:=eb.n G
      have ee:=(ax.up f).up G
      have c6:=(b5.up f).up G
      have c8:=(b7.up f).up G
      refine m0 G fun f5=>Db O (bs Y (fun A Y=>?_) fun A Y=>?_)
      ·refine Wp A O (fun _=>R.fa O) (Wq A O (fun _ c=>R.ld (v:=C) O O (ba.clc O O c)) (Wp A O (fun _=>zo6 (xs:=a.Heads) c8.rd O) (Wp A O (fun _=>R.fa O) (Wq A O (fun _ c=>R.ld (v:=aj) O O ((ay.up f).clc O O c)) (Wp A O (fun _=>zo6 (xs:=b.Heads) ee.rd O) (Wp A O (fun _=>R.eq O O) (Mw.p O O (fun _=>R.pk A O (v:=vB ((a.Heads.length:Int)==(b.Heads.length:Int))) O) (Db O (bs Y (fun B Y=>?_) fun B Y=>?_)))))))))
       ·refine Wp B O (fun _=>R.fa O) (Wq B O (fun _ c=>R.ld (v:=i) O O (ba.clc O O c)) (Wp B O (fun _=>zo6 (xs:=a.Commits) c6.rd O) (Wq B O (fun _ c=>R.lda (cs:=[Z,aj]) ((ay.up f).clcs O c) O O) ?_)))
        obtain⟨ef,f6,Y⟩:=ob Y
        refine Wt B O (T.call O (p42 (K:=[0,2,3]) (k0:=14) (x0:=(Vm.Repo.mk b.Commits b.Heads)) ((Repo.rd (K:=[2,3]) b.Commits b.Heads (((b4.up f).up G).rd.sub (M:=[2,3]) O) (ee.rd.sub (M:=[2,3]) O)).sub (M:=[0,2,3]) O) ((z.ul ed).sub (M:=[0,2,3]) O) f6)) ?_
        rintro ii _ ⟨f7,rfl,af,⟨_,rfl,f8⟩⟩
        have f9:=ed.n af
        refine mc f5 af fun ga=>Wp B O (fun _=>zo6 (xs:=ef) f8.rd O) (Wp B O (fun _=>R.eq O O) (Mw.p O O (fun _=>R.pk B O (v:=vB ((a.Commits.length:Int)==(ef.length:Int))) O) (Db O (bs Y (fun ah Y=>?_) fun ah Y=>?_))))
        ·refine Wq ah O (fun _ c=>R.lda (cs:=[i,C]) (ba.clcs O c) O O) (Wq ah O (fun _ c=>R.lda (cs:=[i,C]) (ba.clcs O c) O O) ?_)
         obtain⟨bu,gb,Y⟩:=ob Y
         refine Wt ah O (T.call O (p39 (K:=[0,5,6]) (k0:=15) (k1:=16) (x0:=(Vm.Repo.mk a.Commits a.Heads)) ((Repo.rd (K:=[5,6]) a.Commits a.Heads ((c6.up af).rd.sub (M:=[5,6]) O) ((c8.up af).rd.sub (M:=[5,6]) O)).sub (M:=[0,5,6]) O) ((z.ul f9).sub (M:=[0,5,6]) O) gb)) ?_
         rintro _ _ ⟨ij,rfl,bv,⟨ik,il,rfl,gc,gd⟩⟩
         refine mc ga bv fun gf=>?_
         obtain⟨eg,gg,Y⟩:=ob Y
         refine Wt ah O (T.call O (p31 (K:=[5,6,15,16]) (x0:=(Vm.Repo.mk bu.Commits bu.Heads)) (x1:=(Vm.Repo.mk a.Commits a.Heads)) ((Repo.rd (K:=[15,16]) bu.Commits bu.Heads (gc.rd.sub (M:=[15,16]) O) (gd.rd.sub (M:=[15,16]) O)).sub (M:=[5,6,15,16]) O) ((Repo.rd (K:=[5,6]) a.Commits a.Heads (((c6.up af).up bv).rd.sub (M:=[5,6]) O) (((c8.up af).up bv).rd.sub (M:=[5,6]) O)).sub (M:=[5,6,15,16]) O) gg)) ?_
         rintro _ _ ⟨gh,rfl,eh,rfl⟩
         exact mc gf eh fun im=>Mw.p O O (fun _=>R.pk ah O (v:=vB eg) O) (Hb O (Mw.nil ((ag) ⟨eg,gh,O,((((f.j G).j af).j bv).j eh).w,O,Y⟩)))
        ·exact dps 4 ah O (Mw.p O O (fun _=>R.pk ah O (v:=vB false) O) (Hb O (Mw.nil ((ag) ⟨false,f7,O,((f.j G).j af).w,O,Y⟩))))
       ·exact dps 7 B O (Mw.p O O (fun _=>R.pk B O (v:=vB false) O) (Db O (dps 4 O O (Mw.p O O (fun _=>R.pk O O (v:=vB false) O) (Hb O (Mw.nil ((ag) ⟨false,ec,O,(f.j G).w,O,Y⟩)))))))
      ·exact dps 7 A O (Mw.p O O (fun _=>R.pk A O (v:=vB false) O) (Db O (dps 7 O O (Mw.p O O (fun _=>R.pk O O (v:=vB false) O) (Db O (dps 4 O O (Mw.p O O (fun _=>R.pk O O (v:=vB false) O) (Hb O (Mw.nil ((ag) ⟨false,ec,O,(f.j G).w,O,Y⟩))))))))))
  ·refine Cw.draw [] [(0,1),(1,1),(2,2),(3,2),(4,0),(5,0),(6,1),(7,2),(8,0),(9,0)] mixed (by kernel_rfl) fun io y=>?_
   have gj:=di.n y
   refine Mw.q O O (fun _ c=>R.lda (cs:=[i,C]) ((bz.up y).clcs O c) O O) (Mw.q O O (fun _ c=>R.lda (cs:=[Z,aj]) ((bh.up y).clcs O c) O O) ?_)
   obtain⟨bw,gk,Y⟩:=ob Y
   refine Mw.t O O (T.call O (p40 (K:=[2,3]) (k0:=17) (k1:=18) (x0:=(Vm.Repo.mk b.Commits b.Heads)) (Repo.rd (K:=[2,3]) b.Commits b.Heads ((be.up y).rd.sub (M:=[2,3]) O) ((bg.up y).rd.sub (M:=[2,3]) O)) gk)) ?_
   rintro _ _ ⟨ip,rfl,ai,⟨iq,ir,rfl,gm,gn⟩⟩
   have go:=gj.n ai
   refine m0 ai fun gr=>?_
   obtain⟨it,gs,Y⟩:=ob Y
   refine Mw.t O O (T.call O (p31 (K:=[5,6,17,18]) (x0:=(Vm.Repo.mk a.Commits a.Heads)) (x1:=(Vm.Repo.mk bw.Commits bw.Heads)) ((Repo.rd (K:=[5,6]) a.Commits a.Heads (((b0.up y).up ai).rd.sub (M:=[5,6]) O) (((b1.up y).up ai).rd.sub (M:=[5,6]) O)).sub (M:=[5,6,17,18]) O) ((Repo.rd (K:=[17,18]) bw.Commits bw.Heads (gm.rd.sub (M:=[17,18]) O) (gn.rd.sub (M:=[17,18]) O)).sub (M:=[5,6,17,18]) O) gs)) ?_
   rintro _ _ ⟨gu,rfl,au,rfl⟩
   have gv:=go.n au
   refine mc gr au fun gw=>Mw.p O O (fun _=>R.not O) (Db O (bs Y (fun ap Y=>?_) fun ap Y=>?_))
   ·exact dps 3 ap O (Mw.p O O (fun _=>R.pk ap O (v:=vB true) O) (Mw.nil ((ag) ⟨true,gu,O,((y.j ai).j au).w,O,Y⟩)))
   ·refine Wq ap O (fun _ c=>R.lda (cs:=[Z,aj]) ((bh.up y).clcs O c) O O) ?_
    obtain⟨ei,gx,Y⟩:=ob Y
    refine Wt ap O (T.call O (p32 (K:=[0,2,3]) (x0:=(Vm.Repo.mk b.Commits b.Heads)) ((Repo.rd (K:=[2,3]) b.Commits b.Heads ((((be.up y).up ai).up au).rd.sub (M:=[2,3]) O) ((((bg.up y).up ai).up au).rd.sub (M:=[2,3]) O)).sub (M:=[0,2,3]) O) ((z.ul gv).sub (M:=[0,2,3]) O) gx)) ?_
    rintro _ _ ⟨gy,rfl,ej,rfl⟩
    exact mc gw ej fun iu=>Wp ap O (fun _=>R.not O) (Mw.p O O (fun _=>R.pk ap O (v:=vB (!ei)) O) (Mw.nil ((ag) ⟨(!ei),gy,O,(((y.j ai).j au).j ej).w,O,Y⟩)))
theorem p7 {x0 a r}(b:Rd W K [a] x0)(d:Gl 0 W K)(Y:Vm.zjX x0=some r):Q1 7 [a] W [] fun W' v=>v=vB r:=
 (c7 (b.view _) (d.view _) Y).ad (fk 0) fun _ _ e=>e
end Go.Sx
