/- Walks: each function answers as its model, printed by a program of ours. Conditions: the arguments read as they are given. -/
import Derived.Test.YtifbmanldeabeaaGreatDoorETs
import Derived.Test.YtifbmanldeabeaaGreatDoorEM0
import Derived.Test.YtifbmanldeabeaaGreatDoorEW6
import Derived.Test.YtifbmanldeabeaaGreatDoorEW7
namespace Go.Sx
open Go Go.Proofs Go.Vm Rp
set_option linter.unusedVariables false
set_option linter.unusedSimpArgs false
variable {W W0:CW}{K:List Nat}
theorem c4 {x0 P r}(h0:Rd W0 [0] [P] x0)(ay:Gl 0 W0 [0])(Y:Vm.zc2 x0=some r):Q0 4 [P] W0 fun Wf v=>v=vB r:=by
 unfold Vm.zc2 at Y
 refine zak.of Tryz.func4 O O O O (sr (Nb O (ssr (mv P O (Lw.ln x0 h0 O (Lw.gt O (nl (cn Y (fun Y=>?_) fun Y=>?_))))))))
 ·exact sr (Nb O (.ret (rt Y (Le.refl _ _))))
 ·refine sk (sr (mv P O (cr Y (fun _=>p21 (k0:=2) (k1:=3) h0) ?_)))
  rintro a _ W4 Y l4 ⟨E,F,rfl,az,a0⟩
  have a5:=l4.o
  refine mv (.tuple [.agg [E,F].toArray,vI a.2.1,vS a.2.2].toArray) O (Lw.r O (R.ext (vs:=[.agg [E,F].toArray,vI a.2.1,vS a.2.2]) (v:= .agg [E,F].toArray) O O) (Lw.r O (R.ext (vs:=[.agg [E,F].toArray,vI a.2.1,vS a.2.2]) (v:=vI a.2.1) O O) (Lw.r O (R.ext (vs:=[.agg [E,F].toArray,vI a.2.1,vS a.2.2]) (v:=vS a.2.2) O O) (al 4 [.slice none 0 0, .slice none 0 0] fun g6 W6 G b6=>?_))))
  have a7:=a5.n G
  refine sta b6 (zaa (az.up G).oc (zaa (a0.up G).oc zau)) fun b9 l10 ac=>?_
  have a1:=a7.t l10
  have ae:=(az.up G).up l10
  have af:=(a0.up G).up l10
  refine Gi O (Ns O (sr (la ac (mi O (ms O (cr Y (fun _=>p22 (K:=[0,2,3]) (k0:=5) (x0:=(Vm.Repo.mk a.1.Commits a.1.Heads)) ((Repo.rd (K:=[2,3]) a.1.Commits a.1.Heads (ae.rd.sub (M:=[2,3]) O) (af.rd.sub (M:=[2,3]) O)).sub (M:=[0,2,3]) O) ((ay.ul a1).sub (M:=[0,2,3]) O)) ?_))))))
  rintro ah k cb Y x ⟨_,rfl,a2⟩
  have bl:=a1.n x
  refine Nv k O (ssr (mv k O (la (ac.up x) (mi O (ms O (cr Y (fun _=>p24 (K:=[2,3]) (k0:=6) (x0:=(Vm.Repo.mk a.1.Commits a.1.Heads)) (Repo.rd (K:=[2,3]) a.1.Commits a.1.Heads ((ae.up x).rd.sub (M:=[2,3]) O) ((af.up x).rd.sub (M:=[2,3]) O))) ?_))))))
  rintro cc cd ce Y z ⟨_,rfl,bm⟩
  have bn:=bl.n z
  refine ca Y (fun _=>p23 (K:=[5,6]) ((a2.up z).rd.sub (M:=[5,6]) O) (bm.rd.sub (M:=[5,6]) O)) fun cf cg Y H=>?_
  have ai:=bn.n H
  have a3:=((ae.up x).up z).up H
  have a4:=((ac.up x).up z).up H
  refine Lw.r O (R.not O) (nl (cn Y (fun Y=>?_) fun Y=>?_))
  ·exact sr (Nb O (.ret (rt Y ai)))
  ·refine sk (sr (la a4 (mi O (ms O (cr Y (fun _=>p25 (K:=[0,2,3]) (k0:=7) (x0:=(Vm.Repo.mk a.1.Commits a.1.Heads)) ((Repo.rd (K:=[2,3]) a.1.Commits a.1.Heads (a3.rd.sub (M:=[2,3]) O) ((((af.up x).up z).up H).rd.sub (M:=[2,3]) O)).sub (M:=[0,2,3]) O) ((ay.ul ai).sub (M:=[0,2,3]) O)) ?_)))))
   rintro Q S a6 Y T ⟨_,rfl,a8⟩
   have bp:=ai.n T
   refine Nv S O (sr (Ni O (ssr (Ni O (Cw.block ?_)))))
   obtain⟨bq,br,Y⟩:=za4 Y
   refine Cw.loop 36 96 [2,8,9,10,11] (fun m l w=> ∃ U V e a9 ba I,CW.w I=w/\Le [] a6 I/\l=[vB U,vI V,vI e,a9,ba]/\Vm.zaF a ah Q bq m U V e=some r) _ ⟨false,0,0,undef,undef,a6,O,Le.refl _ _,O,Y⟩ ?_
   rintro(_ |ch) _ _ σ ⟨U,V,e,a9,ba,I,rfl,y,rfl,Y⟩
   ·cases Y
   unfold Vm.zaF at Y
   have bb:=bp.n y
   have aj:=(((a2.up z).up H).up T).up y
   refine ssr (mi O (mv k O (Lw.ln ah aj.rd O (Lw.lt O (nl (cn Y (fun Y=>?_) fun Y=>?_))))))
   ·refine sk (Cw.seq (Cw.block (sr (Ni O (ssr (Ni O (Cw.block ?_)))))))
    obtain⟨bu,bv,Y⟩:=za4 Y
    refine Cw.loop 42 64 [10,11] (fun m l w=> ∃ f J L,CW.w L=w/\Le [] I L/\l=[vI f,vI J]/\Vm.zaE a ah Q e bu m f J=some r) _ ⟨0,0,I,O,Le.refl _ _,O,Y⟩ ?_
    rintro(_ |ci) _ _ σ ⟨f,J,L,rfl,i,rfl,Y⟩
    ·cases Y
    unfold Vm.zaE at Y
    have bw:=bb.n i
    have bc:=(a8.up y).up i
    refine ssr (mi O (mv S O (Lw.ln Q bc.rd O (Lw.lt O (nl (cn Y (fun Y=>?_) fun Y=>?_))))))
    ·refine sk ?_
     obtain⟨bz,b0,Y⟩:=za4 Y
     refine Cw.join 48 64 [10] (fun l w=> ∃ W X,CW.w X=w/\Le [] L X/\l=[vI W]/\bz W=some r) ?_ ?_
     ·rintro _ _ σ ⟨W,X,rfl,b1,rfl,Y⟩
      rw[b0]at Y
      exact rg (mi O (Lw.add O (Ni O ((agm) ⟨W,w64 (J+1),X,O,(i.j b1).w,O,Y⟩))))
     ·refine Cw.block (Cw.seq (Cw.draw [] [(0,0),(1,1),(2,0),(3,0),(4,0),(5,1),(6,0),(7,0),(8,1),(9,0),(10,0),(11,0),(12,0),(13,1),(14,0)] mixed (by kernel_rfl) fun be A=>?_))
      have ak:=(((a3.up T).up y).up i).up A
      have am:=(aj.up i).up A
      have an:=bc.up A
      refine Dfl ((((a4.up T).up y).up i).up A) O O O (Dv S O (Di O ?_))
      obtain⟨cj,ao,Y⟩:=ob Y
      refine Mw.p O O (fun _=>R.ix (α:=Int) an.rd ao O O O) (Mw.q O O (fun _ c=>R.ld O O (zae (an.rd.at_ ao).1 O (an.rd.at_ ao).int c)) ?_)
      obtain⟨ck,ap,Y⟩:=ob Y
      refine Mw.p O O (fun _=>R.ix (α:=Commit) ak.rd ap O O O) (Df O (Mw.q O O (fun _ c=>R.ld O O (zae (Commit.at1 (ak.rd.at_ ap)).1 O (Commit.at1 (ak.rd.at_ ap)).str c)) (Dv k O (Di O ?_))))
      obtain⟨cl,aq,Y⟩:=ob Y
      refine Mw.p O O (fun _=>R.ix (α:=Share) am.rd aq O O O) (Df O (Mw.q O O (fun _ c=>R.ld O O (zae (Share.at0 (am.rd.at_ aq)).1 O (Share.at0 (am.rd.at_ aq)).str c)) (Mw.p O O (fun _=>R.seq O O) (Mw.nil (cn Y (fun Y=>?_) fun Y=>?_)))))
      ·exact rg (mi O (Lw.add O (Ni O ((ag) ⟨w64 (f+1),be,O,A,O,Y⟩))))
      ·exact sk ((ag) ⟨f,be,O,A,O,Y⟩)
    ·refine Cw.exit ?_
     rw[bv]at Y
     refine Cw.seq ?_
     obtain⟨b2,b3,Y⟩:=za4 Y
     refine Cw.join 65 93 [93] (fun l w=> ∃ ar Z,CW.w Z=w/\Le [] L Z/\l=[vB ar]/\b2 ar=some r) ?_ ?_
     ·rintro _ _ σ ⟨ar,Z,rfl,bg,rfl,Y⟩
      rw[b3]at Y
      have b4:=bw.n bg
      refine cn Y (fun Y=>?_) fun Y=>?_
      ·exact sr (Nb O (.ret (rt Y b4)))
      ·exact sk (rg (mi O (mi O (Lw.add O (Ni O (rg (mi O (Lw.add O (Ni O ((agm) ⟨U,w64 (V+f),w64 (e+1),vI f,vI J,Z,O,((y.j i).j bg).w,O,Y⟩))))))))))
     ·refine Cw.draw [] [(0,0),(1,0),(2,0),(3,0),(4,0),(5,1),(6,0),(7,0),(8,0),(9,0),(10,0),(11,0),(12,0),(13,0),(14,0),(15,0),(16,0),(17,0),(18,0),(19,1),(20,0),(21,0),(22,0),(23,0),(24,0),(25,1),(26,0),(27,0),(28,0)] mixed (by kernel_rfl) fun aa N=>?_
      have h:=(aj.up i).up N
      refine Di O (Dv k O (Di O ?_))
      obtain⟨cm,au,Y⟩:=ob Y
      refine Mw.p O O (fun _=>R.ix (α:=Share) h.rd au O O O) (Df O (Mw.q O O (fun _ c=>R.ld O O (zae (Share.at1 (h.rd.at_ au)).1 O (Share.at1 (h.rd.at_ au)).int c)) (Mw.p O O (fun _=>R.ne O O) (Db O (bs Y (fun B Y=>?_) fun B Y=>?_)))))
      ·exact dps 2 B O (Mw.p O O (fun _=>R.pk B O (v:=vB true) O) (Db O (dps 3 O O (dpu 12 O (dps 1 O O (Mw.p O O (fun _=>R.pk O O (v:=vB true) O) (Mw.nil ((ag) ⟨true,aa,O,N,O,Y⟩))))))))
      ·refine Wp B O (fun _=>R.mv (v:=vI f) O) (Wp B O (fun _=>R.eq O O) (Mw.p O O (fun _=>R.pk B O (v:=vB (f==0)) O) (Db O (bs Y (fun d Y=>?_) fun d Y=>?_))))
       ·exact dps 3 d O (dpu 12 O (dps 1 d O (Mw.p O O (fun _=>R.pk d O (v:=vB true) O) (Mw.nil ((ag) ⟨true,aa,O,N,O,Y⟩)))))
       ·refine Wp d O (fun _=>R.mv (v:=vI e) O) (Wp d O (fun _=>R.gt O O) (Wp d O (fun _=>R.mv (v:=vB (decide (0< (e:Int)))) O) (bs Y (fun b Y=>?_) fun b Y=>?_)))
        ·refine Wp b O (fun _=>R.mv (v:=k) O) (Wp b O (fun _=>R.mv (v:=vI e) O) ?_)
         obtain⟨C,av,Y⟩:=ob Y
         refine Wp b O (fun _=>R.ix (α:=Share) h.rd av O O O) (Wp b O (fun _=>R.fa O) (Wq b O (fun _ c=>R.ld O O (zae (Share.at0 (h.rd.at_ av)).1 O (Share.at0 (h.rd.at_ av)).str c)) (Wp b O (fun _=>R.mv (v:=k) O) (Wp b O (fun _=>R.mv (v:=vI e) O) (Wp b O (fun _=>R.sub O O) ?_)))))
         obtain⟨D,aw,Y⟩:=ob Y
         exact Wp b O (fun _=>R.ix (α:=Share) h.rd aw O O O) (Wp b O (fun _=>R.fa O) (Wq b O (fun _ c=>R.ld O O (zae (Share.at0 (h.rd.at_ aw)).1 O (Share.at0 (h.rd.at_ aw)).str c)) (Wp b O (fun _=>R.sle O O) (Wp d O (fun _=>R.pk b O (v:=vB (Op.bytesLess C.Who D.Who||C.Who==D.Who)) O) (Mw.p O O (fun _=>R.pk d O (v:=vB (Op.bytesLess C.Who D.Who||C.Who==D.Who)) O) (Mw.nil ((ag) ⟨(Op.bytesLess C.Who D.Who||C.Who==D.Who),aa,O,N,O,Y⟩)))))))
        ·exact dps 12 b O (Wp d O (fun _=>R.pk b O (v:=vB false) O) (Mw.p O O (fun _=>R.pk d O (v:=vB false) O) (Mw.nil ((ag) ⟨false,aa,O,N,O,Y⟩))))
   ·refine Cw.exit ?_
    rw[br]at Y
    exact sr (mi O (mv S O (Lw.ln Q (a8.up y).rd O (Lw.eq O (Nb O (.ret (rt Y bb)))))))
theorem p4 {x0 a r}(b:Rd W K [a] x0)(d:Gl 0 W K)(Y:Vm.zc2 x0=some r):Q1 4 [a] W [] fun W' v=>v=vB r:=
 (c4 (b.view _) (d.view _) Y).ad (fk 0) fun _ _ e=>e
end Go.Sx
