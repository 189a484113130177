/- Walks: each function answers as its model, printed by a program of ours. Conditions: the arguments read as they are given. -/
import Derived.Test.YtifbmanldeabeaaGreatDoorGTs
import Derived.Test.YtifbmanldeabeaaGreatDoorGM1
import Derived.Test.YtifbmanldeabeaaGreatDoorGW0
import Derived.Test.YtifbmanldeabeaaGreatDoorGW1
import Derived.Test.YtifbmanldeabeaaGreatDoorGW2
import Derived.Test.YtifbmanldeabeaaGreatDoorGW3
import Derived.Test.YtifbmanldeabeaaGreatDoorGW4
namespace Go.Sx
open Go Go.Proofs Go.Vm Rp
set_option linter.unusedVariables false
set_option linter.unusedSimpArgs false
variable {W W0:CW}{K:List Nat}
theorem c245 {x0 f r}(G:Rd W0 [0] [f] x0)(Y:Vm.zk1 x0=some r):Q0 245 [f] W0 fun Wf v=>v=vB r:=by
 unfold Vm.zk1 at Y
 refine zao.of Tryz.func245 O O O O (sr (Nb O (ssr (Ni O (Cw.block ?_)))))
 obtain⟨K4,ah,Y⟩:=zaY Y
 refine Cw.loop 4 76 [2,3] (fun m l w=> ∃ C e D,CW.w D=w/\Le [] W0 D/\l=[vB C,vI e]/\Vm.zfi x0 K4 m C e=some r) _ ⟨false,0,W0,O,Le.refl _ _,O,Y⟩ ?_
 rintro(_ |m5) _ _ σ ⟨C,e,D,rfl,X,rfl,Y⟩
 ·cases Y
 unfold Vm.zfi at Y
 have A:=X.o
 refine ssr (mi O (mv f O (Lw.ln x0 (G.ul A) O (Lw.lt O (nl (cn Y (fun Y=>?_) fun Y=>?_))))))
 ·refine sk (Cw.seq (Cw.block ?_))
  obtain⟨ai,aj,Y⟩:=zaY Y
  refine Cw.join 10 76 [76] (fun l w=> ∃ H E,CW.w E=w/\Le [] D E/\l=[vB H]/\ai H=some r) ?_ ?_
  ·rintro _ _ σ ⟨H,E,rfl,l10,rfl,Y⟩
   rw[aj]at Y
   have ak:=A.n l10
   refine cn Y (fun Y=>?_) fun Y=>?_
   ·exact sr (Nb O (.ret (rt Y ak)))
   ·exact sk (rg (mi O (Lw.add O (Ni O ((agm) ⟨C,w64 (e+1),E,O,(X.j l10).w,O,Y⟩)))))
  ·refine Cw.draw [] [(0,0),(1,0),(2,0),(3,0),(4,1),(5,2),(6,0),(7,0),(8,0),(9,0),(10,0),(11,0),(12,1),(13,2),(14,0),(15,0),(16,0),(17,0),(18,0),(19,0),(20,0),(21,1),(22,0),(23,0),(24,0),(25,0),(26,0),(27,1),(28,0),(29,0),(30,0),(31,0),(32,0),(33,0),(34,0),(35,0),(36,0),(37,1),(38,2),(39,0),(40,0),(41,0),(42,0),(43,0),(44,0),(45,0),(46,0),(47,0),(48,0),(49,1),(50,0),(51,0),(52,0),(53,0),(54,0),(55,1),(56,0),(57,0),(58,0),(59,0),(60,0),(61,1),(62,0),(63,0),(64,0),(65,0),(66,0)] mixed (by kernel_rfl) fun az y=>?_
   have am:=A.n y
   refine Dv f O (Di O ?_)
   obtain⟨a0,I,Y⟩:=ob Y
   have a:=G.ul am
   refine Mw.p O O (fun _=>R.ix (α:=Hunk) a I O O O) (Df O ?_)
   obtain⟨a1,c20,r21⟩:=(Hunk.at1 (a.at_ I)).cell O
   refine Mw.q O O (fun _ c=>R.ld O O (zaq (Hunk.at1 (a.at_ I)).1 O c20 c)) ?_
   obtain⟨a2,an,Y⟩:=ob Y
   refine Mw.t O O (T.call O (p136 r21 an)) ?_
   rintro _ _ ⟨ao,rfl,x,rfl⟩
   have Z:=x.o
   refine m0 x fun ap=>Mw.p O O (fun _=>R.not O) (Db O (bs Y (fun h Y=>?_) fun h Y=>?_))
   ·exact dps 7 h O (Mw.p O O (fun _=>R.pk h O (v:=vB true) O) (Db O (dps 14 O O (Mw.p O O (fun _=>R.pk O O (v:=vB true) O) (Db O (dps 7 O O (Mw.p O O (fun _=>R.pk O O (v:=vB true) O) (Db O (dps 3 O O (dpu 20 O (dps 1 O O (Mw.p O O (fun _=>R.pk O O (v:=vB true) O) (Mw.nil ((ag) ⟨true,ao,O,(y.j x).w,O,Y⟩))))))))))))))
   ·refine Wp h O (fun _=>R.mv (v:=f) O) (Wp h O (fun _=>R.mv (v:=vI e) O) ?_)
    obtain⟨a3,J,Y⟩:=ob Y
    refine Wp h O (fun _=>R.ix (α:=Hunk) a J O O O) (Wp h O (fun _=>R.fa O) ?_)
    obtain⟨a4,c30,r31⟩:=(Hunk.at2 (a.at_ J)).cell O
    refine Wq h O (fun _ c=>R.ld O O (zaq (Hunk.at2 (a.at_ J)).1 O c30 c)) ?_
    obtain⟨aq,ar,Y⟩:=ob Y
    refine Wt h O (T.call O (p136 (r31.ul Z) ar)) ?_
    rintro _ _ ⟨aa,rfl,z,rfl⟩
    have K:=Z.n z
    refine mc ap z fun au=>Wp h O (fun _=>R.not O) (Mw.p O O (fun _=>R.pk h O (v:=vB (!aq)) O) (Db O (bs Y (fun d Y=>?_) fun d Y=>?_)))
    ·exact dps 14 d O (Mw.p O O (fun _=>R.pk d O (v:=vB true) O) (Db O (dps 7 O O (Mw.p O O (fun _=>R.pk O O (v:=vB true) O) (Db O (dps 3 O O (dpu 20 O (dps 1 O O (Mw.p O O (fun _=>R.pk O O (v:=vB true) O) (Mw.nil ((ag) ⟨true,aa,O,((y.j x).j z).w,O,Y⟩)))))))))))
    ·refine Wp d O (fun _=>R.mv (v:=f) O) (Wp d O (fun _=>R.mv (v:=vI e) O) ?_)
     obtain⟨ac,L,Y⟩:=ob Y
     refine Wp d O (fun _=>R.ix (α:=Hunk) a L O O O) (Wp d O (fun _=>R.fa O) ?_)
     obtain⟨a5,c41,r42⟩:=(Hunk.at1 (a.at_ L)).cell O
     refine Wq d O (fun _ c=>R.ld O O (zaq (Hunk.at1 (a.at_ L)).1 O c41 c)) (Wp d O (fun _=>zuo (xs:=ac.Less) (r42.ul K) O) (Wp d O (fun _=>R.mv (v:=f) O) (Wp d O (fun _=>R.mv (v:=vI e) O) ?_)))
     obtain⟨ae,M,Y⟩:=ob Y
     refine Wp d O (fun _=>R.ix (α:=Hunk) a M O O O) (Wp d O (fun _=>R.fa O) ?_)
     obtain⟨a7,c47,r48⟩:=(Hunk.at2 (a.at_ M)).cell O
     refine Wq d O (fun _ c=>R.ld O O (zaq (Hunk.at2 (a.at_ M)).1 O c47 c)) (Wp d O (fun _=>zuo (xs:=ae.More) (r48.ul K) O) (Wp d O (fun _=>R.add O O) (Wp d O (fun _=>R.eq O O) (Mw.p O O (fun _=>R.pk d O (v:=vB ((w64 ((ac.Less.length:Int)+(ae.More.length:Int)):Int)==(0:Int))) O) (Db O (bs Y (fun i Y=>?_) fun i Y=>?_))))))
     ·exact dps 7 i O (Mw.p O O (fun _=>R.pk i O (v:=vB true) O) (Db O (dps 3 O O (dpu 20 O (dps 1 O O (Mw.p O O (fun _=>R.pk O O (v:=vB true) O) (Mw.nil ((ag) ⟨true,aa,O,((y.j x).j z).w,O,Y⟩))))))))
     ·refine Wp i O (fun _=>R.mv (v:=f) O) (Wp i O (fun _=>R.mv (v:=vI e) O) ?_)
      obtain⟨a8,N,Y⟩:=ob Y
      refine Wp i O (fun _=>R.ix (α:=Hunk) a N O O O) (Wp i O (fun _=>R.fa O) (Wq i O (fun _ c=>R.ld O O (zaq (Hunk.at0 (a.at_ N)).1 O (Hunk.at0 (a.at_ N)).int c)) ?_))
      obtain⟨av,aw,Y⟩:=ob Y
      refine Wt i O (T.call O (p80 aw)) ?_
      rintro _ _ ⟨P,rfl,B,rfl⟩
      have ax:=K.n B
      refine mc au B fun a9=>Wp i O (fun _=>R.not O) (Mw.p O O (fun _=>R.pk i O (v:=vB (!av)) O) (Db O (bs Y (fun k Y=>?_) fun k Y=>?_)))
      ·exact dps 3 k O (dpu 20 O (dps 1 k O (Mw.p O O (fun _=>R.pk k O (v:=vB true) O) (Mw.nil ((ag) ⟨true,P,O,(((y.j x).j z).j B).w,O,Y⟩)))))
      ·refine Wp k O (fun _=>R.mv (v:=vI e) O) (Wp k O (fun _=>R.gt O O) (Wp k O (fun _=>R.mv (v:=vB (decide (0< (e:Int)))) O) (bs Y (fun b Y=>?_) fun b Y=>?_)))
       ·refine Wp b O (fun _=>R.mv (v:=f) O) (Wp b O (fun _=>R.mv (v:=vI e) O) ?_)
        obtain⟨Q,S,Y⟩:=ob Y
        refine Wp b O (fun _=>R.ix (α:=Hunk) a S O O O) (Wp b O (fun _=>R.fa O) (Wq b O (fun _ c=>R.ld O O (zaq (Hunk.at0 (a.at_ S)).1 O (Hunk.at0 (a.at_ S)).int c)) (Wp b O (fun _=>R.mv (v:=f) O) (Wp b O (fun _=>R.mv (v:=vI e) O) (Wp b O (fun _=>R.sub O O) ?_)))))
        obtain⟨U,V,Y⟩:=ob Y
        refine Wp b O (fun _=>R.ix (α:=Hunk) a V O O O) (Wp b O (fun _=>R.fa O) (Wq b O (fun _ c=>R.ld O O (zaq (Hunk.at0 (a.at_ V)).1 O (Hunk.at0 (a.at_ V)).int c)) (Wp b O (fun _=>R.mv (v:=f) O) (Wp b O (fun _=>R.mv (v:=vI e) O) (Wp b O (fun _=>R.sub O O) ?_)))))
        obtain⟨F,W,Y⟩:=ob Y
        refine Wp b O (fun _=>R.ix (α:=Hunk) a W O O O) (Wp b O (fun _=>R.fa O) ?_)
        obtain⟨ba,c66,r67⟩:=(Hunk.at1 (a.at_ W)).cell O
        exact Wq b O (fun _ c=>R.ld O O (zaq (Hunk.at1 (a.at_ W)).1 O c66 c)) (Wp b O (fun _=>zuo (xs:=F.Less) (r67.ul ax) O) (Wp b O (fun _=>R.add O O) (Wp b O (fun _=>R.le O O) (Wp k O (fun _=>R.pk b O (v:=vB (decide ((Q.At:Int)<=(w64 (U.At+(F.Less.length:Int)):Int)))) O) (Mw.p O O (fun _=>R.pk k O (v:=vB (decide ((Q.At:Int)<=(w64 (U.At+(F.Less.length:Int)):Int)))) O) (Mw.nil ((ag) ⟨decide ((Q.At:Int)<=(w64 (U.At+(F.Less.length:Int)):Int)),P,O,(((y.j x).j z).j B).w,O,Y⟩)))))))
       ·exact dps 20 b O (Wp k O (fun _=>R.pk b O (v:=vB false) O) (Mw.p O O (fun _=>R.pk k O (v:=vB false) O) (Mw.nil ((ag) ⟨false,P,O,(((y.j x).j z).j B).w,O,Y⟩))))
 ·refine Cw.exit ?_
  rw[ah]at Y
  exact sr (mv f O (Lw.ln x0 (G.ul A) O (Lw.le O (Nb O (.ret (rt Y A))))))
theorem p245 {x0 a r}(b:Rd W K [a] x0)(Y:Vm.zk1 x0=some r):Q1 245 [a] W [] fun W' v=>v=vB r:=
 (c245 (b.view _) Y).ad (fk 0) fun _ _ e=>e
theorem c227 {x0 aa ac r}(h0:Rd W0 [0] [vI x0.Kind,vS x0.Path,vS x0.To,aa,ac] x0)(Y:Vm.zjB x0=some r):Q0 227 [.agg [vI x0.Kind,vS x0.Path,vS x0.To,aa,ac].toArray] W0 fun Wf v=>v=vB r:=by
 unfold Vm.zjB at Y
 obtain⟨be,bg,ae,N,H⟩:=Change.split h0
 simp only[List.cons.injEq,and_true,true_and]at ae
 obtain⟨rfl,rfl⟩:=ae
 refine zao.of Tryz.func227 O O O O (sr (bo 2 O fun g1 P l1 b1=>?_))
 have a2:=l1.o
 refine Nb O (ssr (fl b1 O (nl (Cw.block ?_))))
 obtain⟨K5,ar,Y⟩:=zaY Y
 refine Cw.join 5 7 [5] (fun l w=> ∃ Q f,CW.w f=w/\Le [] P f/\l=[vB Q]/\K5 Q=some r) ?_ ?_
 ·rintro _ _ σ ⟨Q,f,rfl,l4,rfl,Y⟩
  rw[ar]at Y
  have b:=a2.n l4
  have d:=b1.up l4
  refine cn Y (fun Y=>?_) fun Y=>?_
  ·obtain⟨au,av,Y⟩:=zaY Y
   refine Cw.join 8 26 [2] (fun l w=> ∃ R S,CW.w S=w/\Le [] f S/\l=[vB R]/\au R=some r) ?_ ?_
   ·rintro _ _ σ ⟨R,S,rfl,l10,rfl,Y⟩
    rw[av]at Y
    have aw:=b.n l10
    exact .ret (rt Y aw)
   ·refine rg (fl d O (ca Y (fun _=>p130) fun bi ai Y h=>?_))
    have aj:=b.n h
    have T:=d.up h
    refine mb O (bs Y (fun k Y=>?_) fun k Y=>?_)
    ·refine wak 3 k (fl T O (Lw.seq O (Pb k O (mb O (bs Y (fun x Y=>?_) fun x Y=>?_)))))
     ·refine wak 3 x (fl T O (ca Y (fun _=>p136 (N.ul aj)) fun bj ak Y I=>?_))
      have ax:=aj.n I
      refine Pb x O (mb O (bs Y (fun y Y=>?_) fun y Y=>?_))
      ·exact wak 4 y (fl (T.up I) O (Lw.ln x0.Patch (H.ul ax) O (Lw.eq O (Pb y O (Nb O ((ag) ⟨((x0.Patch.length:Int)==0),ak,O,(h.j I).w,O,Y⟩))))))
      ·exact psk 4 y O (Pb y O (Nb O ((ag) ⟨false,ak,O,(h.j I).w,O,Y⟩)))
     ·exact psk 3 x O (Pb x O (mb O (psk 4 O O (Pb O O (Nb O ((ag) ⟨false,ai,O,h,O,Y⟩))))))
    ·exact psk 3 k O (Pb k O (mb O (psk 3 O O (Pb O O (mb O (psk 4 O O (Pb O O (Nb O ((ag) ⟨false,ai,O,h,O,Y⟩)))))))))
  ·refine sr (Lw.eq O (Nb O (cn Y (fun Y=>?_) fun Y=>?_)))
   ·obtain⟨ay,az,Y⟩:=zaY Y
    refine Cw.join 29 53 [2] (fun l w=> ∃ U V,CW.w V=w/\Le [] f V/\l=[vB U]/\ay U=some r) ?_ ?_
    ·rintro _ _ σ ⟨U,V,rfl,a0,rfl,Y⟩
     rw[az]at Y
     have a1:=b.n a0
     exact .ret (rt Y a1)
    ·refine rg (fl d O (ca Y (fun _=>p130) fun bk J Y e=>?_))
     have W:=b.n e
     have K:=d.up e
     refine mb O (bs Y (fun z Y=>?_) fun z Y=>?_)
     ·refine wak 3 z (fl K O (Lw.seq O (Pb z O (mb O (bs Y (fun A Y=>?_) fun A Y=>?_)))))
      ·refine wak 4 A (fl K O (Lw.ln x0.Text (N.ul W) O (Lw.eq O (Pb A O (mb O (bs Y (fun B Y=>?_) fun B Y=>?_))))))
       ·refine wak 4 B (fl K O (Lw.ln x0.Patch (H.ul W) O (Lw.gt O (Pb B O (mb O (bs Y (fun C Y=>?_) fun C Y=>?_))))))
        ·exact wak 3 C (fl K O (ca Y (fun _=>p245 (H.ul W)) fun a3 a4 Y a5=>Pb C O (Nb O ((ag) ⟨a3,a4,O,(e.j a5).w,O,Y⟩))))
        ·exact psk 3 C O (Pb C O (Nb O ((ag) ⟨false,J,O,e,O,Y⟩)))
       ·exact psk 4 B O (Pb B O (mb O (psk 3 O O (Pb O O (Nb O ((ag) ⟨false,J,O,e,O,Y⟩))))))
      ·exact psk 4 A O (Pb A O (mb O (psk 4 O O (Pb O O (mb O (psk 3 O O (Pb O O (Nb O ((ag) ⟨false,J,O,e,O,Y⟩)))))))))
     ·exact psk 3 z O (Pb z O (mb O (psk 4 O O (Pb O O (mb O (psk 4 O O (Pb O O (mb O (psk 3 O O (Pb O O (Nb O ((ag) ⟨false,J,O,e,O,Y⟩))))))))))))
   ·refine sr (Lw.eq O (Nb O (cn Y (fun Y=>?_) fun Y=>?_)))
    ·obtain⟨a7,a8,Y⟩:=zaY Y
     refine Cw.join 56 82 [2] (fun l w=> ∃ X Z,CW.w Z=w/\Le [] f Z/\l=[vB X]/\a7 X=some r) ?_ ?_
     ·rintro _ _ σ ⟨X,Z,rfl,a9,rfl,Y⟩
      rw[a8]at Y
      have ba:=b.n a9
      exact .ret (rt Y ba)
     ·refine rg (fl d O (ca Y (fun _=>p130) fun bl bb Y a=>?_))
      have bc:=b.n a
      refine mb O (bs Y (fun D Y=>?_) fun D Y=>?_)
      ·refine wak 3 D (fl (d.up a) O (ca Y (fun _=>p130) fun bm L Y i=>?_))
       have am:=bc.n i
       have M:=(d.up a).up i
       refine Pb D O (mb O (bs Y (fun E Y=>?_) fun E Y=>?_))
       ·refine wak 5 E (fl M O (fl M O (Lw.sne O (Pb E O (mb O (bs Y (fun F Y=>?_) fun F Y=>?_))))))
        ·refine wak 4 F (fl M O (Lw.ln x0.Text (N.ul am) O (Lw.eq O (Pb F O (mb O (bs Y (fun G Y=>?_) fun G Y=>?_))))))
         ·exact wak 4 G (fl M O (Lw.ln x0.Patch (H.ul am) O (Lw.eq O (Pb G O (Nb O ((ag) ⟨((x0.Patch.length:Int)==0),L,O,(a.j i).w,O,Y⟩))))))
         ·exact psk 4 G O (Pb G O (Nb O ((ag) ⟨false,L,O,(a.j i).w,O,Y⟩)))
        ·exact psk 4 F O (Pb F O (mb O (psk 4 O O (Pb O O (Nb O ((ag) ⟨false,L,O,(a.j i).w,O,Y⟩))))))
       ·exact psk 5 E O (Pb E O (mb O (psk 4 O O (Pb O O (mb O (psk 4 O O (Pb O O (Nb O ((ag) ⟨false,L,O,(a.j i).w,O,Y⟩)))))))))
      ·exact psk 3 D O (Pb D O (mb O (psk 5 O O (Pb O O (mb O (psk 4 O O (Pb O O (mb O (psk 4 O O (Pb O O (Nb O ((ag) ⟨false,bb,O,a,O,Y⟩))))))))))))
    ·exact sk (sr (Nb O (.ret (rt Y b))))
 ·refine sr (Lw.eq O (Nb O (cn Y (fun Y=>?_) fun Y=>?_)))
  ·exact sk ((ag) ⟨(x0.Kind==1),P,O,Le.refl _ _,O,Y⟩)
  ·exact rg (Lw.eq O (Nb O ((ag) ⟨(x0.Kind==2),P,O,Le.refl _ _,O,Y⟩)))
theorem p227 {x0 a b r}(d:Rd W K [vI x0.Kind,vS x0.Path,vS x0.To,a,b] x0)(Y:Vm.zjB x0=some r):Q1 227 [.agg [vI x0.Kind,vS x0.Path,vS x0.To,a,b].toArray] W [] fun W' v=>v=vB r:=
 (c227 (d.view _) Y).ad (fk 0) fun _ _ e=>e
theorem c228 {x0 b x1 r}(B:Rd W0 [0] [b] x0)(Y:Vm.zhR x0 x1=some r):Q0 228 [b,vS x1] W0 fun Wf v=>v=vB r:=by
 unfold Vm.zhR at Y
 refine zao.of Tryz.func228 O O O O (sr (Nb O (ssr (Ni O (Cw.block ?_)))))
 obtain⟨C,D,Y⟩:=zaY Y
 refine Cw.loop 6 27 [4,5] (fun m l w=> ∃ f h a,CW.w a=w/\Le [] W0 a/\l=[vB f,vI h]/\Vm.zdQ x0 x1 C m f h=some r) _ ⟨false,0,W0,O,Le.refl _ _,O,Y⟩ ?_
 rintro(_ |I) _ _ σ ⟨f,h,a,rfl,y,rfl,Y⟩
 ·cases Y
 unfold Vm.zdQ at Y
 have k:=y.o
 refine ssr ?_
 have d:=B.ul k
 refine mi O (mv b O (Lw.ln x0 d O (Lw.lt O (nl (cn Y (fun Y=>?_) fun Y=>?_)))))
 ·refine sk (Cw.seq (Cw.block ?_))
  obtain⟨E,F,Y⟩:=zaY Y
  refine Cw.join 12 27 [27] (fun l w=> ∃ x i,CW.w i=w/\Le [] a i/\l=[vB x]/\E x=some r) ?_ ?_
  ·rintro _ _ σ ⟨x,i,rfl,l10,rfl,Y⟩
   rw[F]at Y
   have G:=k.n l10
   refine cn Y (fun Y=>?_) fun Y=>?_
   ·exact sr (Nb O (.ret (rt Y G)))
   ·exact sk (rg (mi O (Lw.add O (Ni O ((agm) ⟨f,w64 (h+1),i,O,(y.j l10).w,O,Y⟩)))))
  ·refine rg (mv b O (mi O ?_))
   obtain⟨J,z,Y⟩:=ob Y
   refine Lw.r O (R.ix (α:=Change) d z O O O) (Lw.fa O (Lw.r O (R.ld O O (Change.at1 (d.at_ z)).str) (ms O (Lw.seq O (mb O (bs Y (fun e Y=>?_) fun e Y=>?_))))))
   ·exact psk 7 e O (Pb e O (nl ((ag) ⟨true,a,O,Le.refl _ _,O,Y⟩)))
   ·refine wak 7 e (mv b O (mi O ?_))
    obtain⟨H,A,Y⟩:=ob Y
    exact Lw.r O (R.ix (α:=Change) d A O O O) (Lw.fa O (Lw.r O (R.ld O O (Change.at2 (d.at_ A)).str) (ms O (Lw.seq O (Pb e O (nl ((ag) ⟨(H.To==x1),a,O,Le.refl _ _,O,Y⟩)))))))
 ·refine Cw.exit ?_
  rw[D]at Y
  exact sr (Nb O (.ret (rt Y k)))
theorem p228 {x0 a x1 r}(b:Rd W K [a] x0)(Y:Vm.zhR x0 x1=some r):Q1 228 [a,vS x1] W [] fun W' v=>v=vB r:=
 (c228 (b.view _) Y).ad (fk 0) fun _ _ e=>e
theorem c195 {x0 f r}(i:Rd W0 [0] [f] x0)(Y:Vm.zk2 x0=some r):Q0 195 [f] W0 fun Wf v=>v=vB r:=by
 unfold Vm.zk2 at Y
 refine zao.of Tryz.func195 O O O O (sr (Nb O (ssr (Ni O (Cw.block ?_)))))
 obtain⟨W,X,Y⟩:=zaY Y
 refine Cw.loop 4 47 [2,3] (fun m l w=> ∃ B h C,CW.w C=w/\Le [] W0 C/\l=[vB B,vI h]/\Vm.zfj x0 W m B h=some r) _ ⟨false,0,W0,O,Le.refl _ _,O,Y⟩ ?_
 rintro(_ |m5) _ _ σ ⟨B,h,C,rfl,M,rfl,Y⟩
 ·cases Y
 unfold Vm.zfj at Y
 have x:=M.o
 refine ssr (mi O (mv f O (Lw.ln x0 (i.ul x) O (Lw.lt O (nl (cn Y (fun Y=>?_) fun Y=>?_))))))
 ·refine sk (Cw.seq (Cw.block ?_))
  obtain⟨Z,aa,Y⟩:=zaY Y
  refine Cw.join 10 47 [47] (fun l w=> ∃ E D,CW.w D=w/\Le [] C D/\l=[vB E]/\Z E=some r) ?_ ?_
  ·rintro _ _ σ ⟨E,D,rfl,l10,rfl,Y⟩
   rw[aa]at Y
   have ac:=x.n l10
   refine cn Y (fun Y=>?_) fun Y=>?_
   ·exact sr (Nb O (.ret (rt Y ac)))
   ·exact sk (rg (mi O (Lw.add O (Ni O ((agm) ⟨B,w64 (h+1),D,O,(M.j l10).w,O,Y⟩)))))
  ·refine Cw.draw [] [(0,0),(1,0),(2,0),(3,1),(4,2),(5,0),(6,0),(7,0),(8,0),(9,0),(10,0),(11,0),(12,0),(13,0),(14,1),(15,2),(16,0),(17,0),(18,0),(19,0),(20,0),(21,0),(22,0),(23,1),(24,0),(25,0),(26,0),(27,0),(28,0),(29,0),(30,0),(31,0),(32,0),(33,1),(34,2),(35,0),(36,0),(37,0)] mixed (by kernel_rfl) fun aq y=>?_
   have N:=x.n y
   refine Dv f O (Di O ?_)
   obtain⟨z,F,Y⟩:=ob Y
   have e:=i.ul N
   refine Mw.p O O (fun _=>R.ix (α:=Change) e F O O O) ?_
   obtain⟨x19,c20,_,r21⟩:=(e.at_ F).cells
   obtain⟨ar,au,rfl,r23,r25⟩:=Change.split r21
   refine Mw.q O O (fun _ c=>R.lda (zkz (e.at_ F).1 O c20 c) O O) ?_
   obtain⟨av,ae,Y⟩:=ob Y
   refine Mw.t O O (T.call O (p227 (Change.rd (K:=[0]) z.Kind z.Path z.To z.Text z.Patch r23 r25) ae)) ?_
   rintro _ _ ⟨af,rfl,k,rfl⟩
   have G:=N.n k
   refine m0 k fun ah=>Mw.p O O (fun _=>R.not O) (Db O (bs Y (fun b Y=>?_) fun b Y=>?_))
   ·exact dps 10 b O (Mw.p O O (fun _=>R.pk b O (v:=vB true) O) (Db O (dps 7 O O (dpu 10 O (dps 1 O O (Mw.p O O (fun _=>R.pk O O (v:=vB true) O) (Mw.nil ((ag) ⟨true,af,O,(y.j k).w,O,Y⟩))))))))
   ·refine Wp b O (fun _=>R.mv (v:=f) O) (Wp b O (fun _=>R.mv (v:=vI h) O) ?_)
    obtain⟨aw,P,Y⟩:=ob Y
    have r35:=(i.ul G).cutV P
    refine Wp b O (fun _=>R.sl (i.ul G) P O (.inl ⟨O,O⟩) (.inr O)) (Wp b O (fun _=>R.mv (v:=f) O) (Wp b O (fun _=>R.mv (v:=vI h) O) ?_))
    obtain⟨ax,H,Y⟩:=ob Y
    refine Wp b O (fun _=>R.ix (α:=Change) e H O O O) (Wp b O (fun _=>R.fa O) (Wq b O (fun _ c=>R.ld O O (zaq (Change.at1 (e.at_ H)).1 O (Change.at1 (e.at_ H)).str c)) ?_))
    obtain⟨ai,aj,Y⟩:=ob Y
    refine Wt b O (T.call O (p228 r35 aj)) ?_
    rintro _ _ ⟨Q,rfl,A,rfl⟩
    have S:=G.n A
    refine mc ah A fun ak=>Wp b O (fun _=>R.not O) (Mw.p O O (fun _=>R.pk b O (v:=vB (!ai)) O) (Db O (bs Y (fun a Y=>?_) fun a Y=>?_)))
    ·exact dps 7 a O (dpu 10 O (dps 1 a O (Mw.p O O (fun _=>R.pk a O (v:=vB true) O) (Mw.nil ((ag) ⟨true,Q,O,((y.j k).j A).w,O,Y⟩)))))
    ·refine Wp a O (fun _=>R.mv (v:=f) O) (Wp a O (fun _=>R.mv (v:=vI h) O) ?_)
     obtain⟨am,I,Y⟩:=ob Y
     refine Wp a O (fun _=>R.ix (α:=Change) e I O O O) (Wp a O (fun _=>R.fa O) (Wq a O (fun _ c=>R.ld O O (zaq (Change.at2 (e.at_ I)).1 O (Change.at2 (e.at_ I)).str c)) (Wp a O (fun _=>R.sne O O) (Wp a O (fun _=>R.mv (v:=vB (am.To !=([]:Str))) O) (bs Y (fun d Y=>?_) fun d Y=>?_)))))
     ·refine Wp d O (fun _=>R.mv (v:=f) O) (Wp d O (fun _=>R.mv (v:=vI h) O) ?_)
      obtain⟨ay,U,Y⟩:=ob Y
      have r50:=(i.ul S).cutV U
      refine Wp d O (fun _=>R.sl (i.ul S) U O (.inl ⟨O,O⟩) (.inr O)) (Wp d O (fun _=>R.mv (v:=f) O) (Wp d O (fun _=>R.mv (v:=vI h) O) ?_))
      obtain⟨az,J,Y⟩:=ob Y
      refine Wp d O (fun _=>R.ix (α:=Change) e J O O O) (Wp d O (fun _=>R.fa O) (Wq d O (fun _ c=>R.ld O O (zaq (Change.at2 (e.at_ J)).1 O (Change.at2 (e.at_ J)).str c)) ?_))
      obtain⟨L,an,Y⟩:=ob Y
      refine Wt d O (T.call O (p228 r50 an)) ?_
      rintro _ _ ⟨ao,rfl,V,rfl⟩
      exact mc ak V fun a0=>Wp d O (fun _=>R.not O) (Wp a O (fun _=>R.pk d O (v:=vB (!L)) O) (Mw.p O O (fun _=>R.pk a O (v:=vB (!L)) O) (Mw.nil ((ag) ⟨(!L),ao,O,(((y.j k).j A).j V).w,O,Y⟩))))
     ·exact dps 10 d O (Wp a O (fun _=>R.pk d O (v:=vB false) O) (Mw.p O O (fun _=>R.pk a O (v:=vB false) O) (Mw.nil ((ag) ⟨false,Q,O,((y.j k).j A).w,O,Y⟩))))
 ·refine Cw.exit ?_
  rw[X]at Y
  exact sr (mv f O (Lw.ln x0 (i.ul x) O (Lw.le O (Nb O (.ret (rt Y x))))))
theorem p195 {x0 a r}(b:Rd W K [a] x0)(Y:Vm.zk2 x0=some r):Q1 195 [a] W [] fun W' v=>v=vB r:=
 (c195 (b.view _) Y).ad (fk 0) fun _ _ e=>e
theorem c165 {x0 a r}(d:Rd W0 [0] [a] x0)(Y:Vm.zck x0=some r):Q0 165 [a] W0 fun Wf v=> ∃ E,v=E/\Rd Wf [0] [E] r:=by
 unfold Vm.zck at Y
 refine zao.of Tryz.func165 O O O O (sr (Nv (.slice none 0 0) O (sr (Lw.t O (T.lit0 (α:=Str) 2 []) ?_))))
 rintro z _ ⟨W1,rfl,S,U⟩
 have F:=S.o
 refine Nv z O (ssr (mv a O (ca Y (fun _=>p195 (d.ul F)) fun z4 W6 Y G=>?_)))
 have H:=F.n G
 refine Lw.r O (R.not O) (nl (cn Y (fun Y=>?_) fun Y=>?_))
 ·refine sr (Nv (.slice none 0 0) O ?_)
  cases Y
  exact Cw.ret (zik O (Res.mk H ⟨.slice none 0 0,O,(rdN (K:=[0]))⟩))
 ·refine sk (ssr (Ni O (Cw.block ?_)))
  obtain⟨A,V,l10,W⟩:=zmg _ 2
  rw[<- V]
  have X:Rd (α:=List Str) A [0] [z] ([]:List Str):=by rw[W];exact((U.up G).rd.dye 2).sub (M:=[0]) O
  have Z:=H.t l10
  obtain⟨aa,ac,Y⟩:=zaY Y
  refine Cw.loop 9 34 [3,4] (fun m l w=> ∃ B i b e,CW.w e=w/\Le [] A e/\l=[b,vI i]/\Rd e [0] [b] B/\Vm.zbv x0 aa m B i=some r) _ ⟨([]:List Str),0,z,A,O,Le.refl _ _,O,X,Y⟩ ?_
  rintro(_ |ax) _ _ σ ⟨B,i,b,e,rfl,I,rfl,r15,Y⟩
  ·cases Y
  unfold Vm.zbv at Y
  have f:=Z.n I
  refine ssr (mi O (mv a O (Lw.ln x0 (d.ul f) O (Lw.lt O (nl (cn Y (fun Y=>?_) fun Y=>?_))))))
  ·refine sk ?_
   obtain⟨ae,af,Y⟩:=zaY Y
   refine Cw.join 15 34 [3] (fun l w=> ∃ k x h,CW.w h=w/\Le [] e h/\l=[x]/\Rd h [0] [x] k/\ae k=some r) ?_ ?_
   ·rintro _ _ σ ⟨k,x,h,rfl,ah,rfl,r25,Y⟩
    rw[af]at Y
    exact rg (mi O (Lw.add O (Ni O ((agm) ⟨k,w64 (i+1),x,h,O,(I.j ah).w,O,r25,Y⟩))))
   ·refine Cw.block (sr (mv b O (mv a O (mi O ?_))))
    obtain⟨ay,J,Y⟩:=ob Y
    refine Lw.r O (R.ix (α:=Change) (d.ul f) J O O O) (Lw.fa O (Lw.r O (R.ld O O (Change.at1 ((d.ul f).at_ J)).str) (cr Y (fun _=>p133 r15) ?_)))
    rintro ai C aj Y D ⟨_,rfl,ak⟩
    have L:=ak.sub (M:=[0]) O
    have am:=f.n D
    refine Nv C O (sr (mv a O (mi O ?_)))
    obtain⟨az,N,Y⟩:=ob Y
    have y:=d.ul am
    refine Lw.r O (R.ix (α:=Change) y N O O O) (Lw.fa O (Lw.r O (R.ld O O (Change.at2 (y.at_ N)).str) (Lw.sne O (nl (cn Y (fun Y=>?_) fun Y=>?_)))))
    ·refine rg (mv C O (mv a O (mi O ?_)))
     obtain⟨a0,P,Y⟩:=ob Y
     refine Lw.r O (R.ix (α:=Change) y P O O O) (Lw.fa O (Lw.r O (R.ld O O (Change.at2 (y.at_ P)).str) (cr Y (fun _=>p133 L) ?_)))
     rintro an Q ao Y ap ⟨_,rfl,aq⟩
     have ar:=aq.sub (M:=[0]) O
     exact Nv Q O ((ag) ⟨an,Q,ao,O,(D.j ap).w,O,ar,Y⟩)
    ·exact sk ((ag) ⟨ai,C,aj,O,D,O,L,Y⟩)
  ·refine Cw.exit ?_
   rw[ac]at Y
   refine sr (mv b O (Nv b O ?_))
   cases Y
   exact Cw.ret (zik O (Res.mk f ⟨b,O,r15⟩))
theorem p165 {x0 b r}(d:Rd W K [b] x0)(Y:Vm.zck x0=some r):Q1 165 [b] W [] fun W' v=> ∃ a,v=a/\Rd W' (0::K) [a] r:=
 (c165 (d.view _) Y).ad (fk 0) fun _ _ ⟨a,e,f⟩=>⟨a,e,f.back O⟩
theorem c131 {x0 b d x1 B r}(W:Rd W0 [0] [b,d] x0)(X:Rd W0 [0] [vS x1.Branch,vS x1.Into,vS x1.By,B] x1)(Y:Vm.zjj x0 x1=some r):Q0 131 [.agg [b,d].toArray, .agg [vS x1.Branch,vS x1.Into,vS x1.By,B].toArray] W0 fun Wf v=> ∃ C,v=C/\Rd Wf [0] [C] r:=by
 unfold Vm.zjj at Y
 obtain⟨a0,a1,D,e,f⟩:=Repo.split W
 simp only[List.cons.injEq,and_true,true_and]at D
 obtain⟨rfl,rfl⟩:=D
 obtain⟨a3,E,a5⟩:=Review.split X
 simp only[List.cons.injEq,and_true,true_and]at E
 obtain rfl:=E
 refine zao.of Tryz.func131 O O O O (sr (bo 2 O fun g1 W1 Z F=>?_))
 have a2:=Z.o
 refine bo 3 O fun g3 W3 h G=>?_
 have i:=a2.n h
 refine Nv (.slice none 0 0) O (sr (la (F.up h) (fl G O (ca Y (fun _=>p37 (Repo.rd (K:=[0]) x0.Commits x0.Heads (e.ul i) (f.ul i))) fun z8 bb Y l10=>?_))))
 have k:=i.n l10
 have H:=(F.up h).up l10
 refine Ni O (sr (la H (fl (G.up l10) O (ca Y (fun _=>p37 (Repo.rd (K:=[0]) x0.Commits x0.Heads (e.ul k) (f.ul k))) fun bc be Y I=>?_))))
 have ac:=k.n I
 refine Ni O (Cw.seq (Cw.draw [] [(0,1),(1,0),(2,0),(4,0),(5,1),(6,0),(7,0),(8,0),(9,1),(3,2),(10,2),(11,2),(12,0)] mixed (by kernel_rfl) fun bg J=>?_))
 have x:=ac.n J
 have L:=(H.up I).up J
 refine Mw.q O O (fun _ c=>R.lda (cs:=[b,d]) (L.clcs O c) O O) (Di O (Di O (Dfl L O O O (Di O ?_))))
 obtain⟨bh,y,Y⟩:=ob Y
 have a:=e.ul x
 refine Mw.p O O (fun _=>R.ix (α:=Commit) a y O O O) (Df O ?_)
 obtain⟨bi,c30,r31⟩:=(Commit.at2 (a.at_ y)).cell O
 refine Mw.q O O (fun _ c=>R.ld O O (zaq (Commit.at2 (a.at_ y)).1 O c30 c)) ?_
 obtain⟨bj,ae,Y⟩:=ob Y
 refine Mw.t O O (T.call O (p88 (Repo.rd (K:=[0]) x0.Commits x0.Heads a (f.ul x)) ae)) ?_
 rintro bk _ ⟨bl,rfl,N,⟨_,rfl,af⟩⟩
 have ah:=af.sub (M:=[0]) O
 have P:=N.o
 refine m0 N fun ai=>?_
 obtain⟨aj,ak,Y⟩:=ob Y
 refine Mw.t O O (T.call O (p166 (k0:=4) ah (r31.ul P) ak)) ?_
 rintro am _ ⟨bm,rfl,Q,⟨_,rfl,S⟩⟩
 have an:=(x.trans P).n Q
 refine mc ai Q fun ao=>?_
 obtain⟨ap,aq,Y⟩:=ob Y
 refine Mw.t O O (T.call O (p165 (K:=[4]) S.rd aq)) ?_
 rintro z _ ⟨bn,rfl,A,⟨_,rfl,ar⟩⟩
 have au:=ar.sub (M:=[0,4]) O
 have av:=an.n A
 refine mc ao A fun bp=>Hv z O (Mw.nil ?_)
 obtain⟨U,aw,ax,V⟩:=zmg _ 4
 have ay:Rd U [0] [z] ap:=by rw[V];exact(au.dye 4).sub (M:=[0]) O
 have bq:Rd (α:=List Vm.Change) U [0] [am] aj:=by rw[V];exact((S.up A).rd.dye 4).sub (M:=[0]) O
 have az:=av.t ax
 cases Y
 rw[<- aw]
 exact Cw.ret (zik O (Res.mk az ⟨z,O,ay⟩))
theorem p131 {x0 b d x1 f r}(h:Rd W K [b,d] x0)(i:Rd W K [vS x1.Branch,vS x1.Into,vS x1.By,f] x1)(Y:Vm.zjj x0 x1=some r):Q1 131 [.agg [b,d].toArray, .agg [vS x1.Branch,vS x1.Into,vS x1.By,f].toArray] W [] fun W' v=> ∃ a,v=a/\Rd W' (0::K) [a] r:=
 (c131 (h.view _) (i.view _) Y).ad (fk 0) fun _ _ ⟨a,e,k⟩=>⟨a,e,k.back O⟩
theorem c132 {x0 a x1 r}(k:Rd W0 [0] [a] x0)(Y:Vm.zix x0 x1=some r):Q0 132 [a,vS x1] W0 fun Wf v=>v=vS r:=by
 unfold Vm.zix at Y
 refine zao.of Tryz.func132 O O O O (sr (Ns O (sr (Ns O (sr (Ni O (ssr (Ni O (Cw.block ?_)))))))))
 obtain⟨S,T,Y⟩:=zaY Y
 refine Cw.loop 8 50 [5,6,7] (fun m l w=> ∃ x d y e,CW.w e=w/\Le [] W0 e/\l=[vS x,vI d,vI y]/\Vm.zdR x0 x1 S m x d y=some r) _ ⟨([]:Str),0,0,W0,O,Le.refl _ _,O,Y⟩ ?_
 rintro(_ |m6) _ _ σ ⟨x,d,y,e,rfl,H,rfl,Y⟩
 ·cases Y
 unfold Vm.zdR at Y
 have z:=H.o
 refine ssr ?_
 have b:=k.ul z
 refine mi O (mv a O (Lw.ln x0 b O (Lw.lt O (nl (cn Y (fun Y=>?_) fun Y=>?_)))))
 ·refine sk ?_
  obtain⟨U,V,Y⟩:=zaY Y
  refine Cw.join 14 50 [5,6] (fun l w=> ∃ A B C,CW.w C=w/\Le [] e C/\l=[vS A,vI B]/\U A B=some r) ?_ ?_
  ·rintro _ _ σ ⟨A,B,C,rfl,W,rfl,Y⟩
   rw[V]at Y
   exact rg (mi O (Lw.add O (Ni O ((agm) ⟨A,B,w64 (y+1),C,O,(H.j W).w,O,Y⟩))))
  ·refine Cw.block ?_
   obtain⟨X,Z,Y⟩:=zaY Y
   refine Cw.join 14 39 [39] (fun l w=> ∃ E f,CW.w f=w/\Le [] e f/\l=[vB E]/\X E=some r) ?_ ?_
   ·rintro _ _ σ ⟨E,f,rfl,F,rfl,Y⟩
    rw[Z]at Y
    have aa:=z.n F
    refine cn Y (fun Y=>?_) fun Y=>?_
    ·refine sr (mv a O (mi O ?_))
     obtain⟨ac,I,Y⟩:=ob Y
     have D:=k.ul aa
     refine Lw.r O (R.ix (α:=Owner) D I O O O) (Lw.fa O (Lw.r O (R.ld O O (Owner.at1 (D.at_ I)).str) (Ns O (rg (mv a O (mi O ?_))))))
     obtain⟨ae,J,Y⟩:=ob Y
     exact Lw.r O (R.ix (α:=Owner) D J O O O) (Lw.fa O (Lw.r O (R.ld O O (Owner.at0 (D.at_ J)).str) (Lw.r O (R.lenS O) (Ni O ((ag) ⟨ac.Who,(ae.Path.length:Int),f,O,F,O,Y⟩)))))
    ·exact sk ((ag) ⟨x,d,f,O,F,O,Y⟩)
   ·refine rg (mv a O (mi O ?_))
    obtain⟨aj,K,Y⟩:=ob Y
    refine Lw.r O (R.ix (α:=Owner) b K O O O) (Lw.fa O (Lw.r O (R.ld O O (Owner.at0 (b.at_ K)).str) (ms O (Lw.seq O (mb O (bs Y (fun h Y=>?_) fun h Y=>?_))))))
    ·refine psk 7 h O (Pb h O (mb O (wak 8 O (mv a O (mi O ?_)))))
     obtain⟨af,L,Y⟩:=ob Y
     exact Lw.r O (R.ix (α:=Owner) b L O O O) (Lw.fa O (Lw.r O (R.ld O O (Owner.at0 (b.at_ L)).str) (Lw.r O (R.lenS O) (mi O (Lw.gt O (Pb O O (nl ((ag) ⟨decide (d< (af.Path.length:Int)),e,O,Le.refl _ _,O,Y⟩))))))))
    ·refine wak 7 h (mv a O (mi O ?_))
     obtain⟨ak,M,Y⟩:=ob Y
     refine Lw.r O (R.ix (α:=Owner) b M O O O) (Lw.fa O (Lw.r O (R.ld O O (Owner.at0 (b.at_ M)).str) (ms O (ca Y (fun _=>p137) fun am N Y G=>?_))))
     have P:=z.n G
     refine Pb h O (mb O (bs Y (fun i Y=>?_) fun i Y=>?_))
     ·refine wak 8 i (mv a O (mi O ?_))
      obtain⟨ah,Q,Y⟩:=ob Y
      exact Lw.r O (R.ix (α:=Owner) (k.ul P) Q O O O) (Lw.fa O (Lw.r O (R.ld O O (Owner.at0 ((k.ul P).at_ Q)).str) (Lw.r O (R.lenS O) (mi O (Lw.gt O (Pb i O (nl ((ag) ⟨decide (d< (ah.Path.length:Int)),N,O,G,O,Y⟩))))))))
     ·exact psk 8 i O (Pb i O (nl ((ag) ⟨false,N,O,G,O,Y⟩)))
 ·refine Cw.exit ?_
  rw[T]at Y
  exact sr (ms O (Ns O (.ret (rt Y z))))
theorem p132 {x0 a x1 r}(b:Rd W K [a] x0)(Y:Vm.zix x0 x1=some r):Q1 132 [a,vS x1] W [] fun W' v=>v=vS r:=
 (c132 (b.view _) Y).ad (fk 0) fun _ _ e=>e
theorem c77 {x0 ak am x1 N x2 an r}(h0:Rd W0 [0] [ak,am] x0)(h1:Rd W0 [0] [N] x1)(h2:Rd W0 [0] [vS x2.Branch,vS x2.Into,vS x2.By,an] x2)(Y:Vm.zkn x0 x1 x2=some r):Q0 77 [.agg [ak,am].toArray,N, .agg [vS x2.Branch,vS x2.Into,vS x2.By,an].toArray] W0 fun Wf v=> ∃ u0,v=u0/\Rd Wf [0] [u0] r:=by
 unfold Vm.zkn at Y
 obtain⟨cd,ce,ap,bc,be⟩:=Repo.split h0
 simp only[List.cons.injEq,and_true,true_and]at ap
 obtain⟨rfl,rfl⟩:=ap
 obtain⟨cf,aq,ar⟩:=Review.split h2
 simp only[List.cons.injEq,and_true,true_and]at aq
 obtain rfl:=aq
 refine zao.of Tryz.func77 O O O O (sr (bo 2 O fun g1 W1 l1 b1=>?_))
 have a2:=l1.o
 refine bo 3 O fun g3 W3 l3 b3=>?_
 have a4:=a2.n l3
 refine Nv (.slice none 0 0) O (sr (Lw.t O (T.lit0 (α:=Str) 4 []) ?_))
 rintro P _ ⟨W6,rfl,A,o6⟩
 have B:=a4.n A
 refine Nv P O (sr (la ((b1.up l3).up A) (la (b3.up A) (cr Y (fun _=>p131 (Repo.rd (K:=[0]) x0.Commits x0.Heads (bc.ul B) (be.ul B)) (Review.rd (K:=[0]) x2.Branch x2.Into x2.By x2.Yes (ar.ul B))) ?_))))
 rintro aw Q cl Y S ⟨_,rfl,bl⟩
 have bm:=bl.sub (M:=[0]) O
 have U:=B.n S
 refine Nv Q O (ssr (Ni O (Cw.block ?_)))
 obtain⟨V,bn,ax,bp⟩:=zmg _ 4
 rw[<- bn]
 have bq:Rd (α:=List Str) V [0] [P] ([]:List Str):=by rw[bp];exact((o6.up S).rd.dye 4).sub (M:=[0]) O
 have C:=ax.s
 obtain⟨br,bu,Y⟩:=zaY Y
 refine Cw.loop 17 58 [7,9,10,11,12] (fun m l w=> ∃ D E a ay az a0 f,CW.w f=w/\Le [] V f/\l=[a,vI E,ay,az,a0]/\Rd f [0] [a] D/\Vm.zb7 x1 x2 aw br m D E=some r) _ ⟨([]:List Str),0,P,undef,undef,undef,V,O,Le.refl _ _,O,bq,Y⟩ ?_
 rintro(_ |cm) _ _ σ ⟨D,E,a,ay,az,a0,f,rfl,W,rfl,r28,Y⟩
 ·cases Y
 unfold Vm.zb7 at Y
 have F:=W.o
 refine ssr ?_
 have X:=bm.ul (C.trans F)
 refine mi O (mv Q O (Lw.ln aw X O (Lw.lt O (nl (cn Y (fun Y=>?_) fun Y=>?_)))))
 ·refine sk ?_
  obtain⟨bv,bw,Y⟩:=zaY Y
  refine Cw.join 23 58 [7,10,11,12] (fun l w=> ∃ G H Z aa ac h,CW.w h=w/\Le [] f h/\l=[H,Z,aa,ac]/\Rd h [0] [H] G/\bv G=some r) ?_ ?_
  ·rintro _ _ σ ⟨G,H,Z,aa,ac,h,rfl,bz,rfl,r43,Y⟩
   rw[bw]at Y
   exact rg (mi O (Lw.add O (Ni O ((agm) ⟨G,w64 (E+1),H,Z,aa,ac,h,O,(W.j bz).w,O,r43,Y⟩))))
  ·refine Cw.block (sr (mv N O (mv Q O (mi O ?_))))
   obtain⟨co,a1,Y⟩:=ob Y
   refine Lw.r O (R.ix (α:=Str) X a1 O O O) (Lw.r O (R.ld O O (X.at_ a1).str) (ca Y (fun _=>p132 (h1.ul ((U.trans C).trans F))) fun i ae Y I=>?_))
   have af:=I.o
   have a3:=((((b3.up A).up S).up ax).up W).up I
   refine Ns O ?_
   obtain⟨b0,b2,Y⟩:=zaY Y
   refine Cw.join 29 36 [11] (fun l w=> ∃ J k,CW.w k=w/\Le [] ae k/\l=[vB J]/\b0 J=some r) ?_ ?_
   ·rintro _ _ σ ⟨J,k,rfl,L,rfl,Y⟩
    rw[b2]at Y
    have ah:=L.o
    refine ssr (Ni O (Cw.block ?_))
    obtain⟨b4,b5,Y⟩:=zaY Y
    refine Cw.loop 37 53 [11,12] (fun m l w=> ∃ x b d,CW.w d=w/\Le [] k d/\l=[vB x,vI b]/\Vm.zbL x2 i b4 m x b=some r) _ ⟨J,0,k,O,Le.refl _ _,O,Y⟩ ?_
    rintro(_ |cp) _ _ σ ⟨x,b,d,rfl,e,rfl,Y⟩
    ·cases Y
    unfold Vm.zbL at Y
    have ai:=e.o
    have a5:=(a3.up L).up e
    refine ssr ?_
    have aj:=ar.ul (((((U.trans C).trans F).trans af).trans ah).trans ai)
    refine mi O (fl a5 O (Lw.ln x2.Yes aj O (Lw.lt O (nl (cn Y (fun Y=>?_) fun Y=>?_)))))
    ·refine sk (Cw.seq (Cw.block (rg (mb O (mb O (bs Y (fun y Y=>?_) fun y Y=>?_))))))
     ·exact psk 7 y O (Pb y O (Nb O (rg (mi O (Lw.add O (Ni O ((agm) ⟨true,w64 (b+1),d,O,e,O,Y⟩)))))))
     ·refine wak 7 y (fl a5 O (mi O ?_))
      obtain⟨b6,a6,Y⟩:=ob Y
      exact Lw.r O (R.ix (α:=Str) aj a6 O O O) (Lw.r O (R.ld O O (aj.at_ a6).str) (ms O (Lw.seq O (Pb y O (Nb O (rg (mi O (Lw.add O (Ni O ((agm) ⟨(b6==i),w64 (b+1),d,O,e,O,Y⟩))))))))))
    ·refine Cw.exit ?_
     rw[b5]at Y
     refine sr (mb O (Lw.r O (R.not O) (nl (cn Y (fun Y=>?_) fun Y=>?_))))
     ·refine rg (mv a O (ms O (cr Y (fun _=>p133 (r28.ul ((af.trans ah).trans ai))) ?_)))
      rintro b7 a8 b8 Y b9 ⟨_,rfl,cb⟩
      have cc:=cb.sub (M:=[0]) O
      exact Nv a8 O ((ag) ⟨b7,a8,vS i,vB x,vI b,b8,O,(((I.j L).j e).j b9).w,O,cc,Y⟩)
     ·exact sk ((ag) ⟨D,a,vS i,vB x,vI b,d,O,((I.j L).j e).w,O,(r28.ul ((af.trans ah).trans ai)),Y⟩)
   ·refine rg (ms O (Lw.seq O (mb O (bs Y (fun z Y=>?_) fun z Y=>?_))))
    ·exact psk 4 z O (Pb z O (Nb O ((ag) ⟨true,ae,O,Le.refl _ _,O,Y⟩)))
    ·exact wak 4 z (ms O (fl a3 O (Lw.seq O (Pb z O (Nb O ((ag) ⟨(i==x2.By),ae,O,Le.refl _ _,O,Y⟩))))))
 ·refine Cw.exit ?_
  rw[bu]at Y
  refine sr (mv a O (Nv a O ?_))
  cases Y
  exact Cw.ret (zik O (Res.mk ((U.trans C).trans F) ⟨a,O,r28⟩))
theorem p77 {x0 b d x1 f x2 h r}(i:Rd W K [b,d] x0)(k:Rd W K [f] x1)(x:Rd W K [vS x2.Branch,vS x2.Into,vS x2.By,h] x2)(Y:Vm.zkn x0 x1 x2=some r):Q1 77 [.agg [b,d].toArray,f, .agg [vS x2.Branch,vS x2.Into,vS x2.By,h].toArray] W [] fun W' v=> ∃ a,v=a/\Rd W' (0::K) [a] r:=
 (c77 (i.view _) (k.view _) (x.view _) Y).ad (fk 0) fun _ _ ⟨a,e,y⟩=>⟨a,e,y.back O⟩
theorem c28 {x0 I J x1 y x2 L r}(h0:Rd W0 [0] [I,J] x0)(N:Rd W0 [0] [y] x1)(h2:Rd W0 [0] [vS x2.Branch,vS x2.Into,vS x2.By,L] x2)(Y:Vm.zep x0 x1 x2=some r):Q0 28 [.agg [I,J].toArray,y, .agg [vS x2.Branch,vS x2.Into,vS x2.By,L].toArray] W0 fun Wf v=> ∃ P,v = .tuple [P,vB r.2].toArray/\Rd Wf [0] [P] r.1:=by
 unfold Vm.zep at Y
 obtain⟨a1,a3,Q,z,A⟩:=Repo.split h0
 simp only[List.cons.injEq,and_true,true_and]at Q
 obtain⟨rfl,rfl⟩:=Q
 obtain⟨a5,S,T⟩:=Review.split h2
 simp only[List.cons.injEq,and_true,true_and]at S
 obtain rfl:=S
 refine zao.of Tryz.func28 O O O O (sr (bo 2 O fun g1 W1 l1 b1=>?_))
 have a2:=l1.o
 refine bo 3 O fun g3 W3 U V=>?_
 have B:=a2.n U
 have C:=b1.up U
 refine Gv (.slice none 0 0) O (Nb O (Cw.seq ?_))
 obtain⟨K8,an,Y⟩:=zaY Y
 refine Cw.join 8 34 [34] (fun l w=> ∃ D E,CW.w E=w/\Le [] W3 E/\l=[vB D]/\K8 D=some r) ?_ ?_
 ·rintro _ _ σ ⟨D,E,rfl,F,rfl,Y⟩
  rw[an]at Y
  have e:=B.n F
  refine cn Y (fun Y=>?_) fun Y=>?_
  ·refine sr (Gv (.slice none 0 0) O (Nb O ?_))
   cases Y
   exact Cw.ret (zph O O (Res.mk e ⟨.slice none 0 0,O,(rdN (K:=[0]))⟩))
  ·refine sk (sr (la (C.up F) (mv y O (la (V.up F) (cr Y (fun _=>p77 (Repo.rd (K:=[0]) x0.Commits x0.Heads (z.ul e) (A.ul e)) (N.ul e) (Review.rd (K:=[0]) x2.Branch x2.Into x2.By x2.Yes (T.ul e))) ?_)))))
   rintro ba W bb Y ao ⟨_,rfl,ap⟩
   have aq:=ap.sub (M:=[0]) O
   have ar:=e.n ao
   refine Gv W O (Nb O ?_)
   cases Y
   exact Cw.ret (zph O O (Res.mk ar ⟨W,O,aq⟩))
 ·refine rg (la C (ca Y (fun _=>p34 (Repo.rd (K:=[0]) x0.Commits x0.Heads (z.ul B) (A.ul B))) fun bc au Y a=>?_))
  have X:=B.n a
  refine Lw.r O (R.not O) (mb O (bs Y (fun f Y=>?_) fun f Y=>?_))
  ·exact psk 3 f O (Pb f O (mb O (psk 3 O O (Pb O O (mb O (psk 5 O O (Pb O O (mb O (psk 5 O O (Pb O O (nl ((ag) ⟨true,au,O,a,O,Y⟩))))))))))))
  ·refine wak 3 f (mv y O (ca Y (fun _=>p75 (N.ul X)) fun be av Y b=>?_))
   have Z:=X.n b
   have G:=(V.up a).up b
   refine Lw.r O (R.not O) (Pb f O (mb O (bs Y (fun h Y=>?_) fun h Y=>?_)))
   ·exact psk 3 h O (Pb h O (mb O (psk 5 O O (Pb O O (mb O (psk 5 O O (Pb O O (nl ((ag) ⟨true,av,O,(a.j b).w,O,Y⟩)))))))))
   ·refine wak 3 h (la G (ca Y (fun _=>p76 (Review.rd (K:=[0]) x2.Branch x2.Into x2.By x2.Yes (T.ul Z))) fun bg aw Y d=>?_))
    have H:=Z.n d
    have aa:=((C.up a).up b).up d
    refine Lw.r O (R.not O) (Pb h O (mb O (bs Y (fun i Y=>?_) fun i Y=>?_)))
    ·exact psk 5 i O (Pb i O (mb O (psk 5 O O (Pb O O (nl ((ag) ⟨true,aw,O,((a.j b).j d).w,O,Y⟩))))))
    ·refine wak 5 i (la aa (fl (G.up d) O (ca Y (fun _=>p37 (Repo.rd (K:=[0]) x0.Commits x0.Heads (z.ul H) (A.ul H))) fun bh ax Y k=>?_)))
     have ac:=H.n k
     refine Lw.lt O (Pb i O (mb O (bs Y (fun x Y=>?_) fun x Y=>?_)))
     ·exact psk 5 x O (Pb x O (nl ((ag) ⟨true,ax,O,(((a.j b).j d).j k).w,O,Y⟩)))
     ·exact wak 5 x (la (aa.up k) (fl ((G.up d).up k) O (ca Y (fun _=>p37 (Repo.rd (K:=[0]) x0.Commits x0.Heads (z.ul ac) (A.ul ac))) fun ay az Y a0=>Lw.lt O (Pb x O (nl ((ag) ⟨decide (ay< (0:Int)),az,O,((((a.j b).j d).j k).j a0).w,O,Y⟩))))))
theorem p28 {x0 b d x1 f x2 h r}(i:Rd W K [b,d] x0)(k:Rd W K [f] x1)(x:Rd W K [vS x2.Branch,vS x2.Into,vS x2.By,h] x2)(Y:Vm.zep x0 x1 x2=some r):Q1 28 [.agg [b,d].toArray,f, .agg [vS x2.Branch,vS x2.Into,vS x2.By,h].toArray] W [] fun W' v=> ∃ a,v = .tuple [a,vB r.2].toArray/\Rd W' (0::K) [a] r.1:=
 (c28 (i.view _) (k.view _) (x.view _) Y).ad (fk 0) fun _ _ ⟨a,e,y⟩=>⟨a,e,y.back O⟩
theorem c66 {x0 i r}(f:Rd W0 [0] [i] x0)(U:Gl 0 W0 [0])(Y:Vm.zfF x0=some r):Q0 66 [i] W0 fun Wf v=>v=vB r:=by
 unfold Vm.zfF at Y
 refine zao.of Tryz.func66 O O O O (sr (Nb O (ssr (mv i O (Lw.ln x0 f O (Lw.gt O (nl (cn Y (fun Y=>?_) fun Y=>?_))))))))
 ·exact sr (Nb O (.ret (rt Y (Le.refl _ _))))
 ·refine sk (ssr (mv i O (Lw.ln x0 f O (mi O (nl (Cw.block ?_))))))
  obtain⟨V,W,Y⟩:=zaY Y
  refine Cw.loop 10 40 [2,3,4,10] (fun m l w=> ∃ x d J K D,CW.w D=w/\Le [2] W0 D/\l=[vB x,J,K,vI d]/\Vm.zcY x0 V m x d=some r) _ ⟨false,0,undef,undef,W0,O,Le.refl _ _,O,Y⟩ ?_
  rintro(_ |m8) _ _ σ ⟨x,d,J,K,D,rfl,L,rfl,Y⟩
  ·cases Y
  unfold Vm.zcY at Y
  have y:=L.s
  refine sr (Lw.lt O (nl (Cw.seq (cn Y (fun Y=>?_) fun Y=>?_))))
  ·refine sk (Cw.seq (Cw.block (sr (mi O ?_))))
   obtain⟨k,M,Y⟩:=ob Y
   refine Lw.r O (R.ix (α:=Owner) (f.ul y) M O O O) ?_
   obtain⟨x14,c15,_,r16⟩:=((f.ul y).at_ M).cells
   obtain rfl:=Owner.split r16
   refine Lw.r O (R.lda c15 O O) (al 2 [vS ([]:Str),vS ([]:Str)] fun X ap N Z=>?_)
   have aa:=y.n N
   refine Gi O (sta Z (zaa O (zaa O zaG)) fun ac P ae=>?_)
   have Q:=aa.t P
   refine nl ?_
   obtain⟨af,ah,Y⟩:=zaY Y
   refine Cw.join 15 39 [39] (fun l w=> ∃ E z,CW.w z=w/\Le [] ac z/\l=[vB E]/\af E=some r) ?_ ?_
   ·rintro _ _ σ ⟨E,z,rfl,S,rfl,Y⟩
    rw[ah]at Y
    have ai:=Q.n S
    refine cn Y (fun Y=>?_) fun Y=>?_
    ·exact sr (Nb O (.ret (rt Y ai)))
    ·exact sk (rg (Lw.add O (mi O (nl ((agm) ⟨x,w64 (d+1),vI d,ptr (bx X),z,O,(((L.j N).j P).j S).w,O,Y⟩)))))
   ·refine Cw.draw [] [(0,0),(1,1),(2,2),(3,0),(4,0),(5,0),(6,1),(7,2),(8,0),(9,0),(10,0),(11,0),(12,0),(13,0),(14,0),(15,0),(16,0),(17,0),(18,0),(19,1),(20,0),(21,1),(22,0),(23,0),(24,0)] mixed (by kernel_rfl) fun aq h=>?_
    have A:=Q.n h
    have F:=ae.up h
    refine Dfl F O O O (Dc Y (Le.refl _ _) (fun _=>p121 (U.ul A)) O ?_)
    rintro ar _ aj Y B rfl ak
    refine Mw.p O O (fun _=>R.not O) (Db O (bs Y (fun e Y=>?_) fun e Y=>?_))
    ·exact dps 4 e O (Mw.p O O (fun _=>R.pk e O (v:=vB true) O) (Db O (dps 3 O O (dpu 9 O (dps 1 O O (Mw.p O O (fun _=>R.pk O O (v:=vB true) O) (Mw.nil ((ag) ⟨true,aj,O,(h.j B).w,O,Y⟩))))))))
    ·refine Wp e O (fun _=>R.fa O) (Wq e O (fun _ c=>R.ld (v:=vS k.Who) O O (F.clc O O c)) ?_)
     obtain⟨am,an,Y⟩:=ob Y
     refine Wt e O (T.call O (p92 an)) ?_
     rintro _ _ ⟨G,rfl,C,rfl⟩
     refine mc ak C fun au=>Wp e O (fun _=>R.not O) (Mw.p O O (fun _=>R.pk e O (v:=vB (!am)) O) (Db O (bs Y (fun b Y=>?_) fun b Y=>?_)))
     ·exact dps 3 b O (dpu 9 O (dps 1 b O (Mw.p O O (fun _=>R.pk b O (v:=vB true) O) (Mw.nil ((ag) ⟨true,G,O,((h.j B).j C).w,O,Y⟩)))))
     ·refine Wp b O (fun _=>R.mv (v:=vI d) O) (Wp b O (fun _=>R.gt O O) (Wp b O (fun _=>R.mv (v:=vB (decide (0< (d:Int)))) O) (bs Y (fun a Y=>?_) fun a Y=>?_)))
      ·refine Wp a O (fun _=>R.mv (v:=i) O) (Wp a O (fun _=>R.mv (v:=vI d) O) (Wp a O (fun _=>R.sub O O) ?_))
       obtain⟨H,I,Y⟩:=ob Y
       exact Wp a O (fun _=>R.ix (α:=Owner) (f.ul A) I O O O) (Wp a O (fun _=>R.fa O) (Wq a O (fun _ c=>R.ld O O (zaq (Owner.at0 ((f.ul A).at_ I)).1 O (Owner.at0 ((f.ul A).at_ I)).str c)) (Wp a O (fun _=>R.fa O) (Wq a O (fun _ c=>R.ld (v:=vS k.Path) O O (F.clc O O c)) (Wp a O (fun _=>R.sge O O) (Wp b O (fun _=>R.pk a O (v:=vB (!Op.bytesLess H.Path k.Path)) O) (Mw.p O O (fun _=>R.pk b O (v:=vB (!Op.bytesLess H.Path k.Path)) O) (Mw.nil ((ag) ⟨(!Op.bytesLess H.Path k.Path),G,O,((h.j B).j C).w,O,Y⟩)))))))))
      ·exact dps 9 a O (Wp b O (fun _=>R.pk a O (v:=vB false) O) (Mw.p O O (fun _=>R.pk b O (v:=vB false) O) (Mw.nil ((ag) ⟨false,G,O,((h.j B).j C).w,O,Y⟩))))
  ·refine Cw.exit ?_
   rw[W]at Y
   exact sr (Nb O (.ret (rt Y y)))
theorem p66 {x0 a r}(b:Rd W K [a] x0)(d:Gl 0 W K)(Y:Vm.zfF x0=some r):Q1 66 [a] W [] fun W' v=>v=vB r:=
 (c66 (b.view _) (d.view _) Y).ad (fk 0) fun _ _ e=>e
theorem c122 {x0 h r}(b:Rd W0 [0] [h] x0)(Y:Vm.zhh x0=some r):Q0 122 [h] W0 fun Wf v=>v=vB r:=by
 unfold Vm.zhh at Y
 refine zao.of Tryz.func122 O O O O (sr (Nb O (ssr (mv h O (Lw.ln x0 b O (mi O (nl (Cw.block ?_))))))))
 obtain⟨J,K,Y⟩:=zaY Y
 refine Cw.loop 7 28 [2,3,4,7] (fun m l w=> ∃ i d B C k,CW.w k=w/\Le [] W0 k/\l=[vB i,B,C,vI d]/\Vm.zdr x0 J m i d=some r) _ ⟨false,0,undef,undef,W0,O,Le.refl _ _,O,Y⟩ ?_
 rintro(_ |Q) _ _ σ ⟨i,d,B,C,k,rfl,D,rfl,Y⟩
 ·cases Y
 unfold Vm.zdr at Y
 have e:=D.o
 refine sr (Lw.lt O (nl (Cw.seq (cn Y (fun Y=>?_) fun Y=>?_))))
 ·refine sk (Cw.seq (Cw.block (sr (mi O ?_))))
  obtain⟨E,F,Y⟩:=ob Y
  refine Lw.r O (R.ix (α:=Str) (b.ul e) F O O O) (Lw.r O (R.ld O O ((b.ul e).at_ F).str) (Gi O (Ns O ?_)))
  obtain⟨L,M,Y⟩:=zaY Y
  refine Cw.join 12 27 [27] (fun l w=> ∃ z x,CW.w x=w/\Le [] k x/\l=[vB z]/\L z=some r) ?_ ?_
  ·rintro _ _ σ ⟨z,x,rfl,G,rfl,Y⟩
   rw[M]at Y
   have N:=e.n G
   refine cn Y (fun Y=>?_) fun Y=>?_
   ·exact sr (Nb O (.ret (rt Y N)))
   ·exact sk (rg (Lw.add O (mi O (nl ((agm) ⟨i,w64 (d+1),vI d,vS E,x,O,(D.j G).w,O,Y⟩)))))
  ·refine rg (ms O (ca Y (fun _=>p92) fun S A Y y=>?_))
   have H:=e.n y
   refine Lw.r O (R.not O) (mb O (bs Y (fun a Y=>?_) fun a Y=>?_))
   ·exact psk 3 a O (puk 7 O (psk 1 a O (Pb a O (nl ((ag) ⟨true,A,O,y,O,Y⟩)))))
   ·refine wak 3 a (mi O (Lw.gt O (mb O (bs Y (fun f Y=>?_) fun f Y=>?_))))
    ·refine wak 7 f (mv h O (mi O (Lw.sub O ?_)))
     obtain⟨P,I,Y⟩:=ob Y
     exact Lw.r O (R.ix (α:=Str) (b.ul H) I O O O) (Lw.r O (R.ld O O ((b.ul H).at_ I).str) (ms O (Lw.r O (R.sge O O) (wak 1 a (Pb f O (Pb a O (nl ((ag) ⟨(!Op.bytesLess P E),A,O,y,O,Y⟩))))))))
    ·exact psk 7 f O (wak 1 a (Pb f O (Pb a O (nl ((ag) ⟨false,A,O,y,O,Y⟩)))))
 ·refine Cw.exit ?_
  rw[K]at Y
  exact sr (Nb O (.ret (rt Y e)))
theorem p122 {x0 a r}(b:Rd W K [a] x0)(Y:Vm.zhh x0=some r):Q1 122 [a] W [] fun W' v=>v=vB r:=
 (c122 (b.view _) Y).ad (fk 0) fun _ _ e=>e
theorem c67 {x0 B r}(H:Rd W0 [0] [vS x0.Branch,vS x0.Into,vS x0.By,B] x0)(Y:Vm.zgg x0=some r):Q0 67 [.agg [vS x0.Branch,vS x0.Into,vS x0.By,B].toArray] W0 fun Wf v=>v=vB r:=by
 unfold Vm.zgg at Y
 obtain⟨W,C,D⟩:=Review.split H
 simp only[List.cons.injEq,and_true,true_and]at C
 obtain rfl:=C
 refine zao.of Tryz.func67 O O O O (sr (bo 2 O fun X I J x=>?_))
 have E:=J.o
 refine Nb O ?_
 obtain⟨K,L,Y⟩:=zaY Y
 refine Cw.join 3 33 [2] (fun l w=> ∃ y z,CW.w z=w/\Le [] I z/\l=[vB y]/\K y=some r) ?_ ?_
 ·rintro _ _ σ ⟨y,z,rfl,M,rfl,Y⟩
  rw[L]at Y
  have N:=E.n M
  exact .ret (rt Y N)
 ·refine rg (fl x O (ca Y (fun _=>p92) fun Z P Y l10=>?_))
  have Q:=E.n l10
  refine mb O (bs Y (fun d Y=>?_) fun d Y=>?_)
  ·refine wak 3 d (fl (x.up l10) O (ca Y (fun _=>p92) fun aa R Y a=>?_))
   have S:=Q.n a
   have F:=(x.up l10).up a
   refine Pb d O (mb O (bs Y (fun e Y=>?_) fun e Y=>?_))
   ·refine wak 3 e (fl F O (ca Y (fun _=>p92) fun ac A Y b=>?_))
    have G:=S.n b
    have k:=F.up b
    refine Pb e O (mb O (bs Y (fun f Y=>?_) fun f Y=>?_))
    ·refine wak 5 f (fl k O (fl k O (Lw.sne O (Pb f O (mb O (bs Y (fun h Y=>?_) fun h Y=>?_))))))
     ·refine wak 4 h (fl k O (Lw.ln x0.Yes (D.ul G) O (Lw.le O (Pb h O (mb O (bs Y (fun i Y=>?_) fun i Y=>?_))))))
      ·exact wak 3 i (fl k O (ca Y (fun _=>p122 (D.ul G)) fun T U Y V=>Pb i O (Nb O ((ag) ⟨T,U,O,(((l10.j a).j b).j V).w,O,Y⟩))))
      ·exact psk 3 i O (Pb i O (Nb O ((ag) ⟨false,A,O,((l10.j a).j b).w,O,Y⟩)))
     ·exact psk 4 h O (Pb h O (mb O (psk 3 O O (Pb O O (Nb O ((ag) ⟨false,A,O,((l10.j a).j b).w,O,Y⟩))))))
    ·exact psk 5 f O (Pb f O (mb O (psk 4 O O (Pb O O (mb O (psk 3 O O (Pb O O (Nb O ((ag) ⟨false,A,O,((l10.j a).j b).w,O,Y⟩)))))))))
   ·exact psk 3 e O (Pb e O (mb O (psk 5 O O (Pb O O (mb O (psk 4 O O (Pb O O (mb O (psk 3 O O (Pb O O (Nb O ((ag) ⟨false,R,O,(l10.j a).w,O,Y⟩))))))))))))
  ·exact psk 3 d O (Pb d O (mb O (psk 3 O O (Pb O O (mb O (psk 5 O O (Pb O O (mb O (psk 4 O O (Pb O O (mb O (psk 3 O O (Pb O O (Nb O ((ag) ⟨false,P,O,l10,O,Y⟩)))))))))))))))
theorem p67 {x0 a r}(b:Rd W K [vS x0.Branch,vS x0.Into,vS x0.By,a] x0)(Y:Vm.zgg x0=some r):Q1 67 [.agg [vS x0.Branch,vS x0.Into,vS x0.By,a].toArray] W [] fun W' v=>v=vB r:=
 (c67 (b.view _) Y).ad (fk 0) fun _ _ e=>e
theorem c45 {x0 h i x1 r}(F:Rd W0 [0] [h,i] x0)(Y:Vm.zeq x0 x1=some r):Q0 45 [.agg [h,i].toArray,vS x1] W0 fun Wf v=>v=vI r:=by
 unfold Vm.zeq at Y
 obtain⟨Q,S,k,T,e⟩:=Repo.split F
 simp only[List.cons.injEq,and_true,true_and]at k
 obtain⟨rfl,rfl⟩:=k
 refine zao.of Tryz.func45 O O O O (sr (bo 2 O fun U x G H=>?_))
 have y:=G.o
 refine Ni O (ssr (fl H O (Lw.ln x0.Heads (e.ul y) O (mi O (nl (Cw.block ?_))))))
 obtain⟨I,J,Y⟩:=zaY Y
 refine Cw.loop 10 20 [4,6,10] (fun m l w=> ∃ a b z f,CW.w f=w/\Le [3] x f/\l=[vI a,z,vI b]/\Vm.zds x0 x1 I m a b=some r) _ ⟨0,0,undef,x,O,Le.refl _ _,O,Y⟩ ?_
 rintro(_ |V) _ _ σ ⟨a,b,z,f,rfl,A,rfl,Y⟩
 ·cases Y
 unfold Vm.zds at Y
 have d:=y.t A
 refine sr (Lw.lt O (nl (Cw.seq (cn Y (fun Y=>?_) fun Y=>?_))))
 ·refine sk (Cw.seq (Cw.block (sr ?_)))
  obtain⟨W,B,Y⟩:=ob Y
  refine Lw.r O (R.ix (α:=Head) (e.ul d) B O O O) ?_
  obtain⟨x16,c17,_,r18⟩:=((e.ul d).at_ B).cells
  obtain rfl:=Head.split r18
  refine Lw.r O (R.lda c17 O O) (al 3 [vS ([]:Str),vI 0] fun K X C L=>?_)
  have M:=d.n C
  refine sta L (zaa O (zaa O zaG)) fun N D E=>?_
  have P:=M.t D
  refine nl (sr (fl E O (ms O (Lw.seq O (nl (cn Y (fun Y=>?_) fun Y=>?_))))))
  ·exact sr (fl E O (Ni O (.ret (rt Y P))))
  ·exact sk (rg (Lw.add O (mi O (nl ((agm) ⟨a,w64 (b+1),ptr (bx K),N,O,((A.j C).j D).w,O,Y⟩)))))
 ·refine Cw.exit ?_
  rw[J]at Y
  exact sr (Ni O (.ret (rt Y d)))
theorem p45 {x0 a b x1 r}(d:Rd W K [a,b] x0)(Y:Vm.zeq x0 x1=some r):Q1 45 [.agg [a,b].toArray,vS x1] W [] fun W' v=>v=vI r:=
 (c45 (d.view _) Y).ad (fk 0) fun _ _ e=>e
end Go.Sx
