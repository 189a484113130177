/- Walks: each function answers as its model, printed by a program of ours. Conditions: the arguments read as they are given. -/
import Derived.Test.YtjokjcdckcpijaaGreatDoorXATs
import Derived.Test.YtjokjcdckcpijaaGreatDoorXAM0
import Derived.Test.YtjokjcdckcpijaaGreatDoorXAW0
namespace Go.Sx
open Go Go.Proofs Go.Vm Rp
set_option linter.unusedVariables false
set_option linter.unusedSimpArgs false
variable {W W0:CW}{K:List Nat}
theorem c48 {x0 ak r}(h0:Rd W0 [0] [vI x0.Kind,vS x0.Branch,vS x0.Who,vS x0.Path,vS x0.To,vI x0.At,ak] x0)(Y:Vm.ze9 x0=some r):Q0 48 [.agg [vI x0.Kind,vS x0.Branch,vS x0.Who,vS x0.Path,vS x0.To,vI x0.At,ak].toArray] W0 fun Wf v=>v=vB r:=by
 unfold Vm.ze9 at Y
 obtain⟨cq,am,f⟩:=Op.split h0
 simp only[List.cons.injEq,and_true,true_and]at am
 obtain rfl:=am
 refine zap.of Tryz.func48 O O O O (sr (bo 2 O fun g1 W1 l1 H=>?_))
 have a2:=l1.o
 refine Nb O (Cw.seq ?_)
 obtain⟨K5,aw,Y⟩:=za1 Y
 refine Cw.join 3 12 [12] (fun l w=> ∃ I b,CW.w b=w/\Le [] W1 b/\l=[vB I]/\K5 I=some r) ?_ ?_
 ·rintro _ _ σ ⟨I,b,rfl,l4,rfl,Y⟩
  rw[aw]at Y
  have d:=a2.n l4
  have a:=H.up l4
  refine cn Y (fun Y=>?_) fun Y=>?_
  ·exact sr (Nb O (.ret (rt Y d)))
  ·refine sk (ssr (fl a O (nl (Cw.block (sr (Lw.eq O (Nb O (cn Y (fun Y=>?_) fun Y=>?_))))))))
   ·obtain⟨ax,ay,Y⟩:=za1 Y
    refine Cw.join 17 28 [2] (fun l w=> ∃ J L,CW.w L=w/\Le [] b L/\l=[vB J]/\ax J=some r) ?_ ?_
    ·rintro _ _ σ ⟨J,L,rfl,az,rfl,Y⟩
     rw[ay]at Y
     have a0:=d.n az
     exact .ret (rt Y a0)
    ·refine rg (la a (ca Y (fun _=>p57 (Op.rd (K:=[0]) x0.Kind x0.Branch x0.Who x0.Path x0.To x0.At x0.Text (f.ul d))) fun ct a1 Y h=>?_))
     have a3:=d.n h
     refine mb O (bs Y (fun i Y=>?_) fun i Y=>?_)
     ·refine wak 3 i (fl (a.up h) O (ca Y (fun _=>p43) fun cu a4 Y E=>?_))
      have a5:=a3.n E
      refine Pb i O (mb O (bs Y (fun k Y=>?_) fun k Y=>?_))
      ·exact wak 3 k (fl ((a.up h).up E) O (ca Y (fun _=>p58 (f.ul a5)) fun a7 a8 Y a9=>Pb k O (Nb O ((ag) ⟨a7,a8,O,((h.j E).j a9).w,O,Y⟩))))
      ·exact psk 3 k O (Pb k O (Nb O ((ag) ⟨false,a4,O,(h.j E).w,O,Y⟩)))
     ·exact psk 3 i O (Pb i O (mb O (psk 3 O O (Pb O O (Nb O ((ag) ⟨false,a1,O,h,O,Y⟩))))))
   ·refine sr (Lw.eq O (Nb O (cn Y (fun Y=>?_) fun Y=>?_)))
    ·obtain⟨ba,bb,Y⟩:=za1 Y
     refine Cw.join 31 37 [2] (fun l w=> ∃ M N,CW.w N=w/\Le [] b N/\l=[vB M]/\ba M=some r) ?_ ?_
     ·rintro _ _ σ ⟨M,N,rfl,bc,rfl,Y⟩
      rw[bb]at Y
      have be:=d.n bc
      exact .ret (rt Y be)
     ·refine rg (la a (ca Y (fun _=>p57 (Op.rd (K:=[0]) x0.Kind x0.Branch x0.Who x0.Path x0.To x0.At x0.Text (f.ul d))) fun cv bg Y P=>mb O (bs Y (fun x Y=>?_) fun x Y=>?_)))
      ·exact wak 3 x (fl (a.up P) O (ca Y (fun _=>p43) fun bh bi Y bj=>Pb x O (Nb O ((ag) ⟨bh,bi,O,(P.j bj).w,O,Y⟩))))
      ·exact psk 3 x O (Pb x O (Nb O ((ag) ⟨false,bg,O,P,O,Y⟩)))
    ·refine sr (Lw.eq O (Nb O (cn Y (fun Y=>?_) fun Y=>?_)))
     ·obtain⟨bk,bl,Y⟩:=za1 Y
      refine Cw.join 40 51 [2] (fun l w=> ∃ Q S,CW.w S=w/\Le [] b S/\l=[vB Q]/\bk Q=some r) ?_ ?_
      ·rintro _ _ σ ⟨Q,S,rfl,bm,rfl,Y⟩
       rw[bl]at Y
       have bn:=d.n bm
       exact .ret (rt Y bn)
      ·refine rg (la a (ca Y (fun _=>p57 (Op.rd (K:=[0]) x0.Kind x0.Branch x0.Who x0.Path x0.To x0.At x0.Text (f.ul d))) fun cw bp Y y=>mb O (bs Y (fun z Y=>?_) fun z Y=>?_)))
       ·refine wak 3 z (fl (a.up y) O (ca Y (fun _=>p43) fun cx bq Y T=>Pb z O (mb O (bs Y (fun A Y=>?_) fun A Y=>?_))))
        ·exact wak 3 A (fl ((a.up y).up T) O (ca Y (fun _=>p43) fun br bu Y bv=>Pb A O (Nb O ((ag) ⟨br,bu,O,((y.j T).j bv).w,O,Y⟩))))
        ·exact psk 3 A O (Pb A O (Nb O ((ag) ⟨false,bq,O,(y.j T).w,O,Y⟩)))
       ·exact psk 3 z O (Pb z O (mb O (psk 3 O O (Pb O O (Nb O ((ag) ⟨false,bp,O,y,O,Y⟩))))))
     ·obtain⟨bw,bz,Y⟩:=za1 Y
      refine Cw.join 52 54 [52] (fun l w=> ∃ U e,CW.w e=w/\Le [] b e/\l=[vB U]/\bw U=some r) ?_ ?_
      ·rintro _ _ σ ⟨U,e,rfl,ao,rfl,Y⟩
       rw[bz]at Y
       have V:=d.n ao
       have F:=a.up ao
       refine cn Y (fun Y=>?_) fun Y=>?_
       ·obtain⟨b0,b2,Y⟩:=za1 Y
        refine Cw.join 55 61 [2] (fun l w=> ∃ W X,CW.w X=w/\Le [] e X/\l=[vB W]/\b0 W=some r) ?_ ?_
        ·rintro _ _ σ ⟨W,X,rfl,b3,rfl,Y⟩
         rw[b2]at Y
         have b4:=V.n b3
         exact .ret (rt Y b4)
        ·refine rg (la F (ca Y (fun _=>p57 (Op.rd (K:=[0]) x0.Kind x0.Branch x0.Who x0.Path x0.To x0.At x0.Text (f.ul V))) fun cy b5 Y Z=>mb O (bs Y (fun B Y=>?_) fun B Y=>?_)))
         ·exact wak 3 B (fl (F.up Z) O (ca Y (fun _=>p31) fun b6 b8 Y b9=>Pb B O (Nb O ((ag) ⟨b6,b8,O,(Z.j b9).w,O,Y⟩))))
         ·exact psk 3 B O (Pb B O (Nb O ((ag) ⟨false,b5,O,Z,O,Y⟩)))
       ·obtain⟨cb,cc,Y⟩:=za1 Y
        refine Cw.join 62 64 [62] (fun l w=> ∃ aa G,CW.w G=w/\Le [] e G/\l=[vB aa]/\cb aa=some r) ?_ ?_
        ·rintro _ _ σ ⟨aa,G,rfl,ac,rfl,Y⟩
         rw[cc]at Y
         have ae:=V.n ac
         refine cn Y (fun Y=>?_) fun Y=>?_
         ·obtain⟨cd,ce,Y⟩:=za1 Y
          refine Cw.join 65 71 [2] (fun l w=> ∃ af ah,CW.w ah=w/\Le [] G ah/\l=[vB af]/\cd af=some r) ?_ ?_
          ·rintro _ _ σ ⟨af,ah,rfl,cf,rfl,Y⟩
           rw[ce]at Y
           have cg:=ae.n cf
           exact .ret (rt Y cg)
          ·refine rg (la (F.up ac) (ca Y (fun _=>p57 (Op.rd (K:=[0]) x0.Kind x0.Branch x0.Who x0.Path x0.To x0.At x0.Text (f.ul ae))) fun cz ch Y ai=>mb O (bs Y (fun C Y=>?_) fun C Y=>?_)))
           ·exact wak 3 C (fl ((F.up ac).up ai) O (ca Y (fun _=>p30) fun ci cj Y ck=>Pb C O (Nb O ((ag) ⟨ci,cj,O,(ai.j ck).w,O,Y⟩))))
           ·exact psk 3 C O (Pb C O (Nb O ((ag) ⟨false,ch,O,ai,O,Y⟩)))
         ·exact sk (sr (Nb O (.ret (rt Y ae))))
        ·refine sr (Lw.eq O (Nb O (cn Y (fun Y=>?_) fun Y=>?_)))
         ·exact sk ((ag) ⟨(x0.Kind==6),e,O,Le.refl _ _,O,Y⟩)
         ·exact rg (Lw.eq O (Nb O ((ag) ⟨(x0.Kind==7),e,O,Le.refl _ _,O,Y⟩)))
      ·refine sr (Lw.eq O (Nb O (cn Y (fun Y=>?_) fun Y=>?_)))
       ·exact sk ((ag) ⟨(x0.Kind==4),b,O,Le.refl _ _,O,Y⟩)
       ·exact rg (Lw.eq O (Nb O ((ag) ⟨(x0.Kind==5),b,O,Le.refl _ _,O,Y⟩)))
 ·refine rg (fl H O (ca Y (fun _=>p31) fun c0 cl Y aj=>Lw.r O (R.not O) (mb O (bs Y (fun D Y=>?_) fun D Y=>?_))))
  ·exact psk 4 D O (Pb D O (nl ((ag) ⟨true,cl,O,aj,O,Y⟩)))
  ·exact wak 4 D (fl (H.up aj) O (ca Y (fun _=>p31) fun cm co Y cp=>Lw.r O (R.not O) (Pb D O (nl ((ag) ⟨(!cm),co,O,(aj.j cp).w,O,Y⟩)))))
theorem p48 {x0 a r}(b:Rd W K [vI x0.Kind,vS x0.Branch,vS x0.Who,vS x0.Path,vS x0.To,vI x0.At,a] x0)(Y:Vm.ze9 x0=some r):Q1 48 [.agg [vI x0.Kind,vS x0.Branch,vS x0.Who,vS x0.Path,vS x0.To,vI x0.At,a].toArray] W [] fun W' v=>v=vB r:=
 (c48 (b.view _) Y).ad (fk 0) fun _ _ e=>e
theorem c59 {x0 k x x1 r}(C:Rd W0 [0] [k,x] x0)(Y:Vm.zca x0 x1=some r):Q0 59 [.agg [k,x].toArray,vS x1] W0 fun Wf v=>v=vI r:=by
 unfold Vm.zca at Y
 obtain⟨J,K,y,L,D⟩:=Repo.split C
 simp only[List.cons.injEq,and_true,true_and]at y
 obtain⟨rfl,rfl⟩:=y
 refine zap.of Tryz.func59 O O O O (sr (bo 2 O fun M z E F=>?_))
 have G:=E.o
 refine Ni O (ssr (Ni O (Cw.block ?_)))
 obtain⟨H,I,Y⟩:=za1 Y
 refine Cw.loop 6 26 [4,5] (fun m l w=> ∃ b d e,CW.w e=w/\Le [] z e/\l=[vI b,vI d]/\Vm.zc2 x0 x1 H m b d=some r) _ ⟨0,0,z,O,Le.refl _ _,O,Y⟩ ?_
 rintro(_ |N) _ _ σ ⟨b,d,e,rfl,f,rfl,Y⟩
 ·cases Y
 unfold Vm.zc2 at Y
 have h:=G.n f
 have i:=F.up f
 refine ssr ?_
 have a:=D.ul h
 refine mi O (fl i O (Lw.ln x0.Heads a O (Lw.lt O (nl (cn Y (fun Y=>?_) fun Y=>?_)))))
 ·refine sk (Cw.seq (Cw.block (sr (fl i O (mi O ?_)))))
  obtain⟨P,A,Y⟩:=ob Y
  refine Lw.r O (R.ix (α:=Head) a A O O O) (Lw.fa O (Lw.r O (R.ld O O (Head.at0 (a.at_ A)).str) (ms O (Lw.seq O (nl (cn Y (fun Y=>?_) fun Y=>?_))))))
  ·refine sr (fl i O (mi O ?_))
   obtain⟨Q,B,Y⟩:=ob Y
   exact Lw.r O (R.ix (α:=Head) a B O O O) (Lw.fa O (Lw.r O (R.ld O O (Head.at1 (a.at_ B)).int) (Ni O (.ret (rt Y h)))))
  ·exact sk (rg (mi O (Lw.add O (Ni O ((agm) ⟨b,w64 (d+1),e,O,f,O,Y⟩)))))
 ·refine Cw.exit ?_
  rw[I]at Y
  exact sr (Ni O (.ret (rt Y h)))
theorem p59 {x0 a b x1 r}(d:Rd W K [a,b] x0)(Y:Vm.zca x0 x1=some r):Q1 59 [.agg [a,b].toArray,vS x1] W [] fun W' v=>v=vI r:=
 (c59 (d.view _) Y).ad (fk 0) fun _ _ e=>e
theorem c45 {x0 x1 r}(Y:Vm.zeX x0 x1=some r):Q0 45 [vS x0,vS x1] W0 fun Wf v=>v=vB r:=by
 unfold Vm.zeX at Y
 refine zap.of Tryz.func45 O O O O (sr (Nb O ?_))
 obtain⟨f,h,Y⟩:=za1 Y
 refine Cw.join 5 24 [4] (fun l w=> ∃ d e,CW.w e=w/\Le [] W0 e/\l=[vB d]/\f d=some r) ?_ ?_
 ·rintro _ _ σ ⟨d,e,rfl,i,rfl,Y⟩
  rw[h]at Y
  have k:=i.o
  exact .ret (rt Y k)
 ·refine rg (ms O (Lw.r O (R.lenS O) (ms O (Lw.r O (R.lenS O) (Lw.gt O (mb O (bs Y (fun a Y=>?_) fun a Y=>?_)))))))
  ·refine wak 6 a (ms O (ms O (Lw.r O (R.lenS O) ?_)))
   obtain⟨A,x,Y⟩:=ob Y
   refine Lw.r O (R.ss x O (.inl ⟨O,O⟩) (.inr O)) (ms O (Lw.seq O (Pb a O (mb O (bs Y (fun b Y=>?_) fun b Y=>?_)))))
   ·refine wak 5 b (ms O (ms O (Lw.r O (R.lenS O) ?_)))
    obtain⟨y,z,Y⟩:=ob Y
    exact Lw.r O (R.chm z O O) (Lw.eq O (Pb b O (Nb O ((ag) ⟨(((UInt8.toNat y:Int):Int)==(47:Int)),W0,O,Le.refl _ _,O,Y⟩))))
   ·exact psk 5 b O (Pb b O (Nb O ((ag) ⟨false,W0,O,Le.refl _ _,O,Y⟩)))
  ·exact psk 6 a O (Pb a O (mb O (psk 5 O O (Pb O O (Nb O ((ag) ⟨false,W0,O,Le.refl _ _,O,Y⟩))))))
theorem p45 {x0 x1 r}(Y:Vm.zeX x0 x1=some r):Q1 45 [vS x0,vS x1] W [] fun W' v=>v=vB r:=
 (c45 (W0:=W.view [] []) Y).ad (fk 0) fun _ _ e=>e
theorem c32 {x0 d r}(z:Rd W0 [0] [d] x0)(Y:Vm.zco x0=some r):Q0 32 [d] W0 fun Wf v=>v=vB r:=by
 unfold Vm.zco at Y
 refine zap.of Tryz.func32 O O O O (sr (Nb O (ssr (Ni O (Cw.block ?_)))))
 obtain⟨K5,ai,Y⟩:=za1 Y
 refine Cw.loop 5 61 [2,3,4] (fun m l w=> ∃ F h V G,CW.w G=w/\Le [] W0 G/\l=[vB F,vI h,V]/\Vm.zc3 x0 K5 m F h=some r) _ ⟨false,0,undef,W0,O,Le.refl _ _,O,Y⟩ ?_
 rintro(_ |m6) _ _ σ ⟨F,h,V,G,rfl,W,rfl,Y⟩
 ·cases Y
 unfold Vm.zc3 at Y
 have A:=W.o
 refine ssr (mi O (mv d O (Lw.ln x0 (z.ul A) O (Lw.lt O (nl (cn Y (fun Y=>?_) fun Y=>?_))))))
 ·refine sk (Cw.seq (Cw.block (Cw.seq ?_)))
  obtain⟨aj,ak,Y⟩:=za1 Y
  refine Cw.join 11 44 [44] (fun l w=> ∃ J B,CW.w B=w/\Le [] G B/\l=[vB J]/\aj J=some r) ?_ ?_
  ·rintro _ _ σ ⟨J,B,rfl,X,rfl,Y⟩
   rw[ak]at Y
   have Z:=A.n X
   refine cn Y (fun Y=>?_) fun Y=>?_
   ·exact sr (Nb O (.ret (rt Y Z)))
   ·refine sk (sr (Ni O (Cw.block ?_)))
    obtain⟨am,an,Y⟩:=za1 Y
    refine Cw.loop 45 61 [2,4] (fun m l w=> ∃ C D H,CW.w H=w/\Le [] B H/\l=[vB C,vI D]/\Vm.zch x0 h am m C D=some r) _ ⟨F,0,B,O,Le.refl _ _,O,Y⟩ ?_
    rintro(_ |a1) _ _ σ ⟨C,D,H,rfl,K,rfl,Y⟩
    ·cases Y
    unfold Vm.zch at Y
    have aa:=Z.n K
    refine ssr (mi O (mv d O (Lw.ln x0 (z.ul aa) O (Lw.lt O (nl (cn Y (fun Y=>?_) fun Y=>?_))))))
    ·refine sk (Cw.seq (Cw.block (Cw.seq (Cw.draw [] [(0,0),(1,0),(2,0),(3,0),(4,1),(5,0),(6,0),(7,0),(8,0),(9,1),(10,3)] mixed (by kernel_rfl) fun a2 ac=>?_))))
     have ae:=aa.n ac
     refine Dv d O (Di O ?_)
     obtain⟨a3,L,Y⟩:=ob Y
     have i:=z.ul ae
     refine Mw.p O O (fun _=>R.ix (α:=File) i L O O O) (Df O (Mw.q O O (fun _ c=>R.ld O O (zam (File.at0 (i.at_ L)).1 O (File.at0 (i.at_ L)).str c)) (Dv d O (Di O ?_))))
     obtain⟨a4,M,Y⟩:=ob Y
     refine Mw.p O O (fun _=>R.ix (α:=File) i M O O O) (Df O (Mw.q O O (fun _ c=>R.ld O O (zam (File.at0 (i.at_ M)).1 O (File.at0 (i.at_ M)).str c)) ?_))
     obtain⟨a5,ao,Y⟩:=ob Y
     refine Mw.l O O (T.call O (p45 ao)) ?_
     rintro _ _ ⟨ap,rfl,af,rfl⟩
     have aq:=ae.n af
     refine Mw.nil (cn Y (fun Y=>?_) fun Y=>?_)
     ·exact sr (Nb O (.ret (rt Y aq)))
     ·exact sk (rg (mi O (Lw.add O (Ni O ((agm) ⟨C,w64 (D+1),ap,O,((K.j ac).j af).w,O,Y⟩)))))
    ·refine Cw.exit ?_
     rw[an]at Y
     exact rg (mi O (Lw.add O (Ni O ((agm) ⟨C,w64 (h+1),vI D,H,O,((W.j X).j K).w,O,Y⟩))))
  ·refine Cw.draw [] [(0,0),(1,0),(2,0),(3,0),(4,1),(5,2),(6,0),(7,0),(8,0),(9,0),(10,0),(11,0),(12,1),(13,2),(14,0),(15,0),(16,0),(17,0),(18,0),(19,0),(20,0),(21,0),(22,0),(23,0),(24,1),(25,0),(26,0),(27,0),(28,0),(29,0),(30,1),(31,0),(32,0),(33,0)] mixed (by kernel_rfl) fun a6 E=>?_
   have ar:=A.n E
   refine Dv d O (Di O ?_)
   obtain⟨a8,N,Y⟩:=ob Y
   have b:=z.ul ar
   refine Mw.p O O (fun _=>R.ix (α:=File) b N O O O) (Df O (Mw.q O O (fun _ c=>R.ld O O (zam (File.at0 (b.at_ N)).1 O (File.at0 (b.at_ N)).str c)) ?_))
   obtain⟨a9,au,Y⟩:=ob Y
   refine Mw.t O O (T.call O (p43 au)) ?_
   rintro _ _ ⟨av,rfl,k,rfl⟩
   have aw:=k.o
   refine m0 k fun ax=>Mw.p O O (fun _=>R.not O) (Db O (bs Y (fun e Y=>?_) fun e Y=>?_))
   ·exact dps 7 e O (Mw.p O O (fun _=>R.pk e O (v:=vB true) O) (Db O (dps 3 O O (dpu 12 O (dps 1 O O (Mw.p O O (fun _=>R.pk O O (v:=vB true) O) (Mw.nil ((ag) ⟨true,av,O,(E.j k).w,O,Y⟩))))))))
   ·refine Wp e O (fun _=>R.mv (v:=d) O) (Wp e O (fun _=>R.mv (v:=vI h) O) ?_)
    obtain⟨ba,P,Y⟩:=ob Y
    refine Wp e O (fun _=>R.ix (α:=File) b P O O O) (Wp e O (fun _=>R.fa O) ?_)
    obtain⟨bb,c48,r49⟩:=(File.at1 (b.at_ P)).cell O
    refine Wq e O (fun _ c=>R.ld O O (zam (File.at1 (b.at_ P)).1 O c48 c)) ?_
    obtain⟨ay,az,Y⟩:=ob Y
    refine Wt e O (T.call O (p44 (r49.ul aw) az)) ?_
    rintro _ _ ⟨Q,rfl,I,rfl⟩
    refine mc ax I fun bc=>Wp e O (fun _=>R.not O) (Mw.p O O (fun _=>R.pk e O (v:=vB (!ay)) O) (Db O (bs Y (fun f Y=>?_) fun f Y=>?_)))
    ·exact dps 3 f O (dpu 12 O (dps 1 f O (Mw.p O O (fun _=>R.pk f O (v:=vB true) O) (Mw.nil ((ag) ⟨true,Q,O,((E.j k).j I).w,O,Y⟩)))))
    ·refine Wp f O (fun _=>R.mv (v:=vI h) O) (Wp f O (fun _=>R.gt O O) (Wp f O (fun _=>R.mv (v:=vB (decide (0< (h:Int)))) O) (bs Y (fun a Y=>?_) fun a Y=>?_)))
     ·refine Wp a O (fun _=>R.mv (v:=d) O) (Wp a O (fun _=>R.mv (v:=vI h) O) ?_)
      obtain⟨x,S,Y⟩:=ob Y
      refine Wp a O (fun _=>R.ix (α:=File) b S O O O) (Wp a O (fun _=>R.fa O) (Wq a O (fun _ c=>R.ld O O (zam (File.at0 (b.at_ S)).1 O (File.at0 (b.at_ S)).str c)) (Wp a O (fun _=>R.mv (v:=d) O) (Wp a O (fun _=>R.mv (v:=vI h) O) (Wp a O (fun _=>R.sub O O) ?_)))))
      obtain⟨y,U,Y⟩:=ob Y
      exact Wp a O (fun _=>R.ix (α:=File) b U O O O) (Wp a O (fun _=>R.fa O) (Wq a O (fun _ c=>R.ld O O (zam (File.at0 (b.at_ U)).1 O (File.at0 (b.at_ U)).str c)) (Wp a O (fun _=>R.sle O O) (Wp f O (fun _=>R.pk a O (v:=vB (Op.bytesLess x.Path y.Path||x.Path==y.Path)) O) (Mw.p O O (fun _=>R.pk f O (v:=vB (Op.bytesLess x.Path y.Path||x.Path==y.Path)) O) (Mw.nil ((ag) ⟨(Op.bytesLess x.Path y.Path||x.Path==y.Path),Q,O,((E.j k).j I).w,O,Y⟩)))))))
     ·exact dps 12 a O (Wp f O (fun _=>R.pk a O (v:=vB false) O) (Mw.p O O (fun _=>R.pk f O (v:=vB false) O) (Mw.nil ((ag) ⟨false,Q,O,((E.j k).j I).w,O,Y⟩))))
 ·refine Cw.exit ?_
  rw[ai]at Y
  exact sr (mv d O (Lw.ln x0 (z.ul A) O (Lw.le O (Nb O (.ret (rt Y A))))))
theorem p32 {x0 a r}(b:Rd W K [a] x0)(Y:Vm.zco x0=some r):Q1 32 [a] W [] fun W' v=>v=vB r:=
 (c32 (b.view _) Y).ad (fk 0) fun _ _ e=>e
theorem c56 {x0 d r}(E:Rd W0 [0] [d] x0)(Y:Vm.zbu x0=some r):Q0 56 [d] W0 fun Wf v=> ∃ F,v=F/\OwS Wf LL [] [F] r:=by
 unfold Vm.zbu at Y
 refine zap.of Tryz.func56 O O O O (sr (Nv (.slice none 0 0) O (sr (Lw.t O (T.lit0 (α:=File) 2 []) ?_))))
 rintro G _ ⟨H,rfl,P,Q⟩
 have S:=P.o
 refine Nv G O (ssr (Ni O (Cw.block ?_)))
 obtain⟨U,V,Y⟩:=za1 Y
 refine Cw.loop 6 27 [3,4] (fun m l w=> ∃ y f a h,CW.w h=w/\Le [2,3] H h/\l=[a,vI f]/\Ow h 2 [] [a] y/\Vm.zbT x0 U m y f=some r) _ ⟨([]:List File),0,G,H,O,Le.refl _ _,O,Q,Y⟩ ?_
 rintro(_ |m9) _ _ σ ⟨y,f,a,h,rfl,I,rfl,K,Y⟩
 ·cases Y
 unfold Vm.zbT at Y
 have z:=S.t I
 refine ssr (mi O (mv d O (Lw.ln x0 (E.ul z) O (Lw.lt O (nl (cn Y (fun Y=>?_) fun Y=>?_))))))
 ·refine sk (Cw.seq (Cw.block (Cw.draw [2,3] [(0,0),(1,0),(2,0),(3,0),(4,0),(5,1),(7,0),(8,0),(9,0),(10,0),(11,1),(6,2),(12,2),(13,0),(14,2),(15,2),(16,0)] mixed (by kernel_rfl) fun ap A=>?_)))
  have W:=z.n A
  refine Dv a O (Dv d O (Di O ?_))
  obtain⟨e,B,Y⟩:=ob Y
  have b:=E.ul W
  refine Mw.p O O (fun _=>R.ix (α:=File) b B O O O) (Df O (Mw.q O O (fun _ c=>R.ld O O (zam (File.at0 (b.at_ B)).1 O (File.at0 (b.at_ B)).str c)) (Dv d O (Di O ?_))))
  obtain⟨aq,C,Y⟩:=ob Y
  refine Mw.p O O (fun _=>R.ix (α:=File) b C O O O) (Df O ?_)
  obtain⟨ar,c22,r23⟩:=(File.at1 (b.at_ C)).cell O
  refine Mw.q O O (fun _ c=>R.ld O O (zam (File.at1 (b.at_ C)).1 O c22 c)) (Mw.t O O (T.lit0 (α:=Str) 3 []) ?_)
  rintro au _ ⟨av,rfl,i,X⟩
  have Z:=i.o
  refine m0 i fun aa=>?_
  obtain⟨ac,ae,Y⟩:=ob Y
  refine Mw.t O O (T.appP (α:=Str) X (r23.ul Z) O O ae) ?_
  rintro k _ ⟨aw,rfl,D,L⟩
  refine mc aa D fun af=>Mw.p O O (fun _=>R.bd (zs:=[vS ([]:Str), .slice none 0 0]) (cs:=[vS e.Path,k]) [(0,vS e.Path),(1,k)] O O O (zaD O O (zaD L.oc O zcU))) (Mw.t O O (T.bs 4 [.agg [vS e.Path,k].toArray] (cs:=[vS e.Path,k]) O O (bsA O)) ?_)
  rintro _ _ ⟨ax,ay,rfl,rfl,x,ah⟩
  refine mc af x fun ai=>?_
  obtain⟨aj,ak,Y⟩:=ob Y
  refine Mw.t O O (T.app1 (α:=File) (J:=[3]) (K':=[]) ((((K.up A).up i).up D).up x) ah (File.own e.Path ac (L.up x).s) O O ak) ?_
  rintro M _ ⟨am,rfl,N,an⟩
  exact mc ai N fun az=>Hv M O (Mw.nil (rg (mi O (Lw.add O (Ni O ((agm) ⟨aj,w64 (f+1),M,am,O,(((((I.j A).j i).j D).j x).j N).w,O,an,Y⟩))))))
 ·refine Cw.exit ?_
  rw[V]at Y
  refine sr (mv a O (Nv a O ?_))
  cases Y
  exact Cw.ret (zhg O (Res.mk z ⟨a,O,K.s.sub O O⟩))
theorem p56 {x0 b k0 r}(d:Rd W K [b] x0)(Y:Vm.zbu x0=some r):Q1 56 [b] W [] fun W' v=> ∃ a,v=a/\Ow W' k0 [] [a] r:=
 (c56 (d.view _) Y).ad (fk k0) fun _ _ ⟨a,e,f⟩=>⟨a,e,f.back (zhe _)⟩
theorem c74 {x0 e x1 aw r}(x:Rd W0 [0] [e] x0)(h1:Rd W0 [0] [vS x1.Path,aw] x1)(Y:Vm.zdS x0 x1=some r):Q0 74 [e, .agg [vS x1.Path,aw].toArray] W0 fun Wf v=> ∃ u0,v=u0/\OwS (α:=List (Sh Vm.File)) Wf LL [0] [u0] r:=by
 unfold Vm.zdS at Y
 obtain⟨dr,ay,az⟩:=File.split h1
 simp only[List.cons.injEq,and_true,true_and]at ay
 obtain rfl:=ay
 refine zap.of Tryz.func74 O O O O (sr (bo 2 O fun g1 W1 l1 b1=>?_))
 have a2:=l1.o
 refine Nv (.slice none 0 0) O (sr (Lw.t O (T.lit0 (α:=File) 3 []) ?_))
 rintro v3 _ ⟨W3,rfl,l3,o3⟩
 have a4:=a2.n l3
 refine Nv v3 O (sr (Nb O (ssr (Ni O (Cw.block ?_)))))
 obtain⟨bw,bz,Y⟩:=za1 Y
 obtain⟨a3,b0,a5,b2⟩:=o3.toSh
 have b3:=a4.t a5
 rw[<- b0]
 refine Cw.loop 9 51 [5,6,7] (fun m l w=> ∃ (y:List Vm.File) (P:Bool) (z:Int) (d:Value) (b:CW),b.w=w/\Le [3,5] a3 b/\l=[d,vB P,vI z]/\Ow (α:=List (Sh Vm.File)) b 3 [0] [d] y/\Vm.zcv x0 x1 bw m y P z=some r) _ ⟨([]:List File),false,0,v3,a3,O,Le.refl _ _,O,b2,Y⟩ ?_
 rintro(_ |dv) _ _ σ ⟨y,P,z,d,b,rfl,an,rfl,Q,Y⟩
 ·cases Y
 unfold Vm.zcv at Y
 have f:=b3.t an
 have A:=((b1.up l3).up a5).up an
 refine ssr (mi O (mv e O (Lw.ln x0 (x.ul f) O (Lw.lt O (nl (cn Y (fun Y=>?_) fun Y=>?_))))))
 ·refine sk ?_
  obtain⟨b4,b5,Y⟩:=za1 Y
  refine Cw.join 15 51 [5,6] (fun l w=> ∃ (S:List Vm.File) (U:Bool) (V:Value) (B:CW),B.w=w/\Le [3,5] b B/\l=[V,vB U]/\Ow (α:=List (Sh Vm.File)) B 3 [0] [V] S/\b4 S U=some r) ?_ ?_
  ·rintro _ _ σ ⟨S,U,V,B,rfl,b6,rfl,b7,Y⟩
   rw[b5]at Y
   exact rg (mi O (Lw.add O (Ni O ((agm) ⟨S,U,w64 (z+1),V,B,O,(an.j b6).w,O,b7,Y⟩))))
  ·refine Cw.block ?_
   obtain⟨b8,b9,Y⟩:=za1 Y
   refine Cw.join 15 36 [5,6] (fun l w=> ∃ (W:List Vm.File) (C:Bool) (D:Value) (X:CW),X.w=w/\Le [3,5] b X/\l=[D,vB C]/\Ow (α:=List (Sh Vm.File)) X 3 [0] [D] W/\b8 W C=some r) ?_ ?_
   ·rintro _ _ σ ⟨W,C,D,X,rfl,Z,rfl,a6,Y⟩
    rw[b9]at Y
    have cb:=f.t Z
    refine Cw.seq (Cw.draw [] [(0,0),(1,0),(2,0),(3,0),(4,1),(5,0),(6,1),(7,0)] mixed (by kernel_rfl) fun cc h=>?_)
    have cd:=cb.n h
    refine Dv e O (Di O ?_)
    obtain⟨dw,ao,Y⟩:=ob Y
    have E:=x.ul cd
    refine Mw.p O O (fun _=>R.ix (α:=File) E ao O O O) (Df O (Mw.q O O (fun _ c=>R.ld O O (zam (File.at0 (E.at_ ao)).1 O (File.at0 (E.at_ ao)).str c)) (Dfl ((A.up Z).up h) O O O (Mw.p O O (fun _=>R.sne O O) (Mw.nil (cn Y (fun Y=>?_) fun Y=>?_))))))
    ·refine rg (mv D O (mv e O (mi O ?_)))
     obtain⟨aa,a7,Y⟩:=ob Y
     refine Lw.r O (R.ix (α:=File) E a7 O O O) ?_
     obtain⟨x47,c48,_,r49⟩:=(E.at_ a7).cells
     obtain⟨a8,rfl,r51⟩:=File.split r49
     refine Lw.r O (R.lda c48 O O) (Lw.t O (T.bs 4 [.agg [vS aa.Path,a8].toArray] (cs:=[vS aa.Path,a8]) O O (bsA O)) ?_)
     rintro _ _ ⟨dx,dy,rfl,rfl,ap,ce⟩
     have cf:=ap.o
     obtain⟨cg,ch,Y⟩:=ob Y
     refine Lw.t O (T.app1S (α:=Sh Vm.File) (K':=[0]) ((a6.up h).up ap) ce (File.rd (K:=[0]) aa.Path aa.Text (r51.ul cf)).sh1 O O ch) ?_
     rintro a9 _ ⟨ci,rfl,cj,ck⟩
     exact Nv a9 O ((ag) ⟨cg,C,a9,ci,O,(((Z.j h).j ap).j cj).w,O,ck,Y⟩)
    ·exact sk ((ag) ⟨W,C,D,cc,O,(Z.j h).w,O,(a6.up h),Y⟩)
   ·obtain⟨cl,cm,Y⟩:=za1 Y
    refine Cw.join 15 26 [26] (fun l w=> ∃ aq ac,CW.w ac=w/\Le [] b ac/\l=[vB aq]/\cl aq=some r) ?_ ?_
    ·rintro _ _ σ ⟨aq,ac,rfl,i,rfl,Y⟩
     rw[cm]at Y
     have co:=f.n i
     refine cn Y (fun Y=>?_) fun Y=>?_
     ·refine Cw.seq (Cw.draw [3,5] [(0,0),(1,0),(2,1),(4,0),(5,1),(3,2),(6,2),(7,0),(8,2),(9,2),(10,0)] mixed (by kernel_rfl) fun dz ae=>?_)
      have cp:=co.n ae
      have ba:=(A.up i).up ae
      refine Dv d O (Dfl ba O O O (Dfl ba O O O (Mw.t O O (T.lit0 (α:=Str) 5 []) ?_)))
      rintro d0 _ ⟨d1,rfl,F,cq⟩
      have ct:=cp.n F
      refine m0 F fun cu=>?_
      obtain⟨bb,cv,Y⟩:=ob Y
      refine Mw.t O O (T.appP (α:=Str) cq (az.ul ct) O O cv) ?_
      rintro G _ ⟨d2,rfl,af,bc⟩
      refine mc cu af fun cw=>Mw.p O O (fun _=>R.bd (zs:=[vS ([]:Str), .slice none 0 0]) (cs:=[vS x1.Path,G]) [(0,vS x1.Path),(1,G)] O O O (zaD O O (zaD bc.oc O zcU))) (Mw.t O O (T.bs 6 [.agg [vS x1.Path,G].toArray] (cs:=[vS x1.Path,G]) O O (bsA O)) ?_)
      rintro _ _ ⟨d3,d4,rfl,rfl,H,cx⟩
      refine mc cw H fun d5=>?_
      obtain⟨cy,cz,ah,c0⟩:=zgV _ 5
      rw[<- cz]
      have c1:Rd (α:=List Str) cy [0] [G] bb:=by rw[c0];exact((bc.up H).rd.dye 5).sub (M:=[0]) O
      obtain⟨c2,c3,Y⟩:=ob Y
      refine Mw.t O O (T.app1S (α:=Sh Vm.File) (K':=[0]) ((((((Q.up i).up ae).up F).up af).up H).up ah) (cx.up ah) (File.rd (K:=[0]) x1.Path bb c1).sh1 O O c3) ?_
      rintro be _ ⟨c4,rfl,bg,c5⟩
      refine⟨⟨_,O,((F.sub (M:=[3,5]) O).trans ((af.sub (M:=[3,5]) O).trans ((H.sub (M:=[3,5]) O).trans ((ah.sub (M:=[3,5]) O).trans (bg.sub (M:=[3,5]) O)))))⟩,?_⟩
      exact Hv be O (Mw.nil (rg (Nb O ((ag) ⟨c2,true,be,c4,O,((((((i.j ae).j F).j af).j H).j ah).j bg).w,O,c5,Y⟩))))
     ·exact sk ((ag) ⟨y,P,d,ac,O,i.w,O,(Q.up i),Y⟩)
    ·refine Cw.draw [] [(0,0),(1,0),(2,0),(3,0),(4,0),(5,0),(6,0),(7,1),(8,0),(9,1),(10,0),(11,0)] mixed (by kernel_rfl) fun bh ai=>?_
     have ar:=f.n ai
     refine Db O (Mw.p O O (fun _=>R.not O) (Db O (bs Y (fun a Y=>?_) fun a Y=>?_)))
     ·refine Wp a O (fun _=>R.mv (v:=e) O) (Wp a O (fun _=>R.mv (v:=vI z) O) ?_)
      obtain⟨bi,au,Y⟩:=ob Y
      exact Wp a O (fun _=>R.ix (α:=File) (x.ul ar) au O O O) (Wp a O (fun _=>R.fa O) (Wq a O (fun _ c=>R.ld O O (zam (File.at0 ((x.ul ar).at_ au)).1 O (File.at0 ((x.ul ar).at_ au)).str c)) (Wp a O (fun _=>R.fa O) (Wq a O (fun _ c=>R.ld (v:=vS x1.Path) O O ((A.up ai).clc O O c)) (Wp a O (fun _=>R.sge O O) (Mw.p O O (fun _=>R.pk a O (v:=vB (!Op.bytesLess bi.Path x1.Path)) O) (Mw.nil ((ag) ⟨(!Op.bytesLess bi.Path x1.Path),bh,O,ai,O,Y⟩))))))))
     ·exact dps 8 a O (Mw.p O O (fun _=>R.pk a O (v:=vB false) O) (Mw.nil ((ag) ⟨false,bh,O,ai,O,Y⟩)))
 ·refine Cw.exit ?_
  rw[bz]at Y
  obtain⟨c6,c7,Y⟩:=za1 Y
  refine Cw.join 52 63 [5] (fun l w=> ∃ (av:List Vm.File) (k:Value) (aj:CW),aj.w=w/\Le [3,7] b aj/\l=[k]/\Ow (α:=List (Sh Vm.File)) aj 3 [0] [k] av/\c6 av=some r) ?_ ?_
  ·rintro _ _ σ ⟨av,k,aj,rfl,c8,rfl,c9,Y⟩
   rw[c7]at Y
   have da:=f.t c8
   refine sr (mv k O (Nv k O ?_))
   cases Y
   exact Cw.ret (zhg O (Res.mk da ⟨k,O,c9.s.sub O O⟩))
  ·refine sr (mb O (Lw.r O (R.not O) (nl (cn Y (fun Y=>?_) fun Y=>?_))))
   ·refine Cw.draw [3,7] [(0,0),(1,0),(2,1),(4,0),(5,1),(3,2),(6,2),(7,0),(8,2),(9,2),(10,0)] mixed (by kernel_rfl) fun d6 I=>?_
    have db:=f.n I
    refine Dv d O (Dfl (A.up I) O O O (Dfl (A.up I) O O O (Mw.t O O (T.lit0 (α:=Str) 7 []) ?_)))
    rintro d7 _ ⟨d8,rfl,J,dc⟩
    have dd:=db.n J
    refine m0 J fun de=>?_
    obtain⟨bj,df,Y⟩:=ob Y
    refine Mw.t O O (T.appP (α:=Str) dc (az.ul dd) O O df) ?_
    rintro L _ ⟨d9,rfl,ak,bk⟩
    refine mc de ak fun dg=>Mw.p O O (fun _=>R.bd (zs:=[vS ([]:Str), .slice none 0 0]) (cs:=[vS x1.Path,L]) [(0,vS x1.Path),(1,L)] O O O (zaD O O (zaD bk.oc O zcU))) (Mw.t O O (T.bs 8 [.agg [vS x1.Path,L].toArray] (cs:=[vS x1.Path,L]) O O (bsA O)) ?_)
    rintro _ _ ⟨ea,eb,rfl,rfl,N,dh⟩
    refine mc dg N fun ec=>?_
    obtain⟨di,dj,am,dk⟩:=zgV _ 7
    rw[<- dj]
    have dl:Rd (α:=List Str) di [0] [L] bj:=by rw[dk];exact((bk.up N).rd.dye 7).sub (M:=[0]) O
    obtain⟨dm,dn,Y⟩:=ob Y
    refine Mw.t O O (T.app1S (α:=Sh Vm.File) (K':=[0]) (((((Q.up I).up J).up ak).up N).up am) (dh.up am) (File.rd (K:=[0]) x1.Path bj dl).sh1 O O dn) ?_
    rintro bl _ ⟨dp,rfl,bm,dq⟩
    refine⟨⟨_,O,((J.sub (M:=[3,7]) O).trans ((ak.sub (M:=[3,7]) O).trans ((N.sub (M:=[3,7]) O).trans ((am.sub (M:=[3,7]) O).trans (bm.sub (M:=[3,7]) O)))))⟩,?_⟩
    exact Hv bl O (Mw.nil ((ag) ⟨dm,bl,dp,O,(((((I.j J).j ak).j N).j am).j bm).w,O,dq,Y⟩))
   ·exact sk ((ag) ⟨y,d,b,O,Le.refl _ _,O,Q,Y⟩)
theorem p74 {x0 b x1 d k0 r}(f:Rd W K [b] x0)(h:Rd W K [vS x1.Path,d] x1)(Y:Vm.zdS x0 x1=some r):Q1 74 [b, .agg [vS x1.Path,d].toArray] W [] fun W' v=> ∃ a,v=a/\Ow (α:=List (Sh Vm.File)) W' k0 (0::K) [a] r:=
 (c74 (f.view _) (h.view _) Y).ad (fk k0) fun _ _ ⟨a,e,i⟩=>⟨a,e,i.backS (zhe _) O⟩
theorem c60 {x0 b x1 d r}(e:Rd W0 [0] [b] x0)(N:Rd W0 [0] [vS x1.Path,d] x1)(Y:Vm.zc4 x0 x1=some r):Q0 60 [b, .agg [vS x1.Path,d].toArray] W0 fun Wf v=> ∃ k,v = .tuple [k,vB r.2].toArray/\OwS (α:=List (Sh Vm.File)) Wf LL [0] [k] r.1:=by
 unfold Vm.zc4 at Y
 obtain⟨ar,x,P⟩:=File.split N
 simp only[List.cons.injEq,and_true,true_and]at x
 obtain rfl:=x
 refine zap.of Tryz.func60 O O O O (sr (bo 2 O fun g1 W1 Q S=>?_))
 have y:=Q.o
 refine Gv (.slice none 0 0) O (Nb O (ssr (mv b O (ca Y (fun _=>p32 (e.ul y)) fun z4 W6 Y z=>?_))))
 have A:=y.n z
 refine Lw.r O (R.not O) (nl (cn Y (fun Y=>?_) fun Y=>?_))
 ·refine sr (Gv (.slice none 0 0) O (Nb O ?_))
  cases Y
  exact Cw.ret (zit O O (Res.mk A ⟨.slice none 0 0,O,(zlO [0]).sub O O⟩))
 ·refine sk (Cw.seq (Cw.draw [] [(0,0),(2,1),(1,2),(3,3),(4,0)] mixed (by kernel_rfl) fun ay l10=>?_))
  have B:=A.n l10
  refine Dv b O (Mw.q O O (fun _ c=>R.lda (cs:=[vS x1.Path,d]) (((S.up z).up l10).clcs O c) O O) ?_)
  obtain⟨U,V,Y⟩:=ob Y
  refine Mw.t O O (T.call O (p56 (k0:=3) (e.ul B) V)) ?_
  rintro W _ ⟨az,rfl,C,⟨_,rfl,D⟩⟩
  have E:=B.n C
  refine m0 C fun a0=>?_
  obtain⟨f,X,Y⟩:=ob Y
  refine Mw.l O O (T.call O (p74 (K:=[0,3]) (k0:=4) (D.rd.sub (M:=[0,3]) O) ((File.rd (K:=[0]) x1.Path x1.Text (P.ul E)).sub (M:=[0,3]) O) X)) ?_
  rintro a _ ⟨F,rfl,G,⟨_,rfl,Z⟩⟩
  have H:Ow (α:=List (Sh Vm.File)) F 4 [0,3] [a] f:=Z.sub O
  have aa:=E.n G
  refine Hv a O (Mw.nil (ssr (mv a O ?_)))
  have ac:Rd (α:=List Vm.File) F [4,0,3] [a] f:=Ow.rdSh H
  refine ca Y (fun _=>p32 (K:=[0,3,4]) (ac.sub (M:=[0,3,4]) O)) fun a1 a3 Y h=>?_
  have i:=aa.n h
  refine Lw.r O (R.not O) (nl (cn Y (fun Y=>?_) fun Y=>?_))
  ·refine sr (mv b O (cr Y (fun _=>p56 (k0:=5) (e.ul i)) ?_))
   rintro a4 I a5 Y ae ⟨_,rfl,af⟩
   have ah:=i.n ae
   refine Gv I O (Nb O ?_)
   obtain⟨a6,ai,aj,ak⟩:=af.toSh
   have am:=ah.t aj
   cases Y
   rw[<- ai]
   exact Cw.ret (zit O O (Res.mk am ⟨I,O,ak.s.sub O O⟩))
  ·refine sk (sr (mv a O (Gv a O (Nb O ?_))))
   obtain⟨J,an,ao,L⟩:=zgV _ 3
   have a8:Rd (α:=List Vm.File) J [0] [W] U:=by rw[L];exact(((D.up G).up h).rd.dye 3).sub (M:=[0]) O
   have ap:Ow (α:=List (Sh Vm.File)) J 4 [0] [a] f:=by rw[L];exact((H.up h).dyeA 3 O).sub O
   have aq:=i.t ao
   cases Y
   rw[<- an]
   exact Cw.ret (zit O O (Res.mk aq ⟨a,O,ap.s.sub O O⟩))
theorem p60 {x0 b x1 d k0 r}(f:Rd W K [b] x0)(h:Rd W K [vS x1.Path,d] x1)(Y:Vm.zc4 x0 x1=some r):Q1 60 [b, .agg [vS x1.Path,d].toArray] W [] fun W' v=> ∃ a,v = .tuple [a,vB r.2].toArray/\Ow (α:=List (Sh Vm.File)) W' k0 (0::K) [a] r.1:=
 (c60 (f.view _) (h.view _) Y).ad (fk k0) fun _ _ ⟨a,e,i⟩=>⟨a,e,i.backS (zhe _) O⟩
theorem c17 {x0 aj F r}(h0:Rd W0 [0] [aj,F] x0)(Y:Vm.zbx x0=some r):Q0 17 [.agg [aj,F].toArray] W0 fun Wf v=>v=vB r:=by
 unfold Vm.zbx at Y
 obtain⟨c4,c5,be,ak,am⟩:=Repo.split h0
 simp only[List.cons.injEq,and_true,true_and]at be
 obtain⟨rfl,rfl⟩:=be
 refine zap.of Tryz.func17 O O O O (sr (bo 2 O fun g1 W1 l1 b1=>?_))
 have a2:=l1.o
 refine Nb O (ssr (Ni O (Cw.block ?_)))
 obtain⟨K8,b4,Y⟩:=za1 Y
 refine Cw.loop 7 66 [2,3,4,5] (fun m l w=> ∃ G H j5 j6 I,CW.w I=w/\Le [3] W1 I/\l=[vB G,vI H,j5,j6]/\Vm.zc5 x0 K8 m G H=some r) _ ⟨false,0,undef,undef,W1,O,Le.refl _ _,O,Y⟩ ?_
 rintro(_ |m9) _ _ σ ⟨G,H,j5,j6,I,rfl,l7,rfl,Y⟩
 ·cases Y
 unfold Vm.zc5 at Y
 have W:=a2.t l7
 have ao:=b1.up l7
 refine ssr ?_
 have ap:=ak.ul W
 refine mi O (fl ao O (Lw.ln x0.Commits ap O (Lw.lt O (nl (cn Y (fun Y=>?_) fun Y=>?_)))))
 ·refine sk (Cw.seq (Cw.block (sr (fl ao O (mi O ?_)))))
  obtain⟨aq,bj,Y⟩:=ob Y
  refine Lw.r O (R.ix (α:=Commit) ap bj O O O) ?_
  obtain⟨x16,c17,_,r18⟩:=(ap.at_ bj).cells
  obtain⟨bk,c8,rfl,r20,r22⟩:=Commit.split r18
  refine Lw.r O (R.lda c17 O O) (al 3 [.slice none 0 0,vS ([]:Str), .slice none 0 0] fun b5 c9 bl b6=>?_)
  have J:=bl.o
  refine sta b6 (zaa r20.oc (zaa O (zaa r22.oc zaw))) fun bm bn b7=>?_
  have K:=bn.s
  refine nl (ssr (Ni O (Cw.block ?_)))
  obtain⟨b8,b9,Y⟩:=za1 Y
  refine Cw.loop 19 50 [2,5] (fun m l w=> ∃ L x z,CW.w z=w/\Le [] bm z/\l=[vB L,vI x]/\Vm.zci H aq b8 m L x=some r) _ ⟨G,0,bm,O,Le.refl _ _,O,Y⟩ ?_
  rintro(_ |da) _ _ σ ⟨L,x,z,rfl,X,rfl,Y⟩
  ·cases Y
  unfold Vm.zci at Y
  have M:=X.o
  have N:=b7.up X
  refine ssr ?_
  have bp:=r20.ul ((J.trans K).trans M)
  refine mi O (fl N O (Lw.ln aq.Parents bp O (Lw.lt O (nl (cn Y (fun Y=>?_) fun Y=>?_)))))
  ·refine sk (Cw.seq (Cw.block ?_))
   obtain⟨cb,cc,Y⟩:=za1 Y
   refine Cw.join 26 50 [50] (fun l w=> ∃ ar Z,CW.w Z=w/\Le [] z Z/\l=[vB ar]/\cb ar=some r) ?_ ?_
   ·rintro _ _ σ ⟨ar,Z,rfl,bq,rfl,Y⟩
    rw[cc]at Y
    have cd:=(((W.trans J).trans K).trans M).n bq
    refine cn Y (fun Y=>?_) fun Y=>?_
    ·exact sr (Nb O (.ret (rt Y cd)))
    ·exact sk (rg (mi O (Lw.add O (Ni O ((agm) ⟨L,w64 (x+1),Z,O,(X.j bq).w,O,Y⟩)))))
   ·refine Cw.draw [] [(0,0),(1,1),(2,0),(3,0),(4,1),(5,0),(6,0),(7,2),(8,0),(9,0),(10,0),(11,0),(12,0),(13,0),(14,1),(15,0),(16,0),(17,1),(18,0),(19,1),(20,0),(21,1),(22,0),(23,0),(24,0)] mixed (by kernel_rfl) fun db P=>?_
    have ce:=((J.trans K).trans M).n P
    have au:=N.up P
    refine Dfl au O O O (Di O ?_)
    obtain⟨dc,av,Y⟩:=ob Y
    have i:=r20.ul ce
    refine Mw.p O O (fun _=>R.ix (α:=Int) i av O O O) (Mw.q O O (fun _ c=>R.ld O O (zam (i.at_ av).1 O (i.at_ av).int c)) (Di O (Mw.p O O (fun _=>R.sub O O) (Dc Y (Le.refl _ _) (fun _=>p30) O ?_))))
    rintro dd _ aw Y ax rfl de
    refine Mw.p O O (fun _=>R.not O) (Db O (bs Y (fun f Y=>?_) fun f Y=>?_))
    ·exact dps 3 f O (dpu 10 O (dps 1 f O (Mw.p O O (fun _=>R.pk f O (v:=vB true) O) (Mw.nil ((ag) ⟨true,aw,O,(P.j ax).w,O,Y⟩)))))
    ·refine Wp f O (fun _=>R.mv (v:=vI x) O) (Wp f O (fun _=>R.gt O O) (Wp f O (fun _=>R.mv (v:=vB (decide (0< (x:Int)))) O) (bs Y (fun d Y=>?_) fun d Y=>?_)))
     ·refine Wp d O (fun _=>R.fa O) (Wq d O (fun _ c=>R.ld (v:=bk) O O (au.clc O O c)) (Wp d O (fun _=>R.mv (v:=vI x) O) ?_))
      obtain⟨ay,az,Y⟩:=ob Y
      refine Wp d O (fun _=>R.ix (α:=Int) i az O O O) (Wq d O (fun _ c=>R.ld O O (zam (i.at_ az).1 O (i.at_ az).int c)) (Wp d O (fun _=>R.fa O) (Wq d O (fun _ c=>R.ld (v:=bk) O O (au.clc O O c)) ?_)))
      obtain⟨a0,a1,Y⟩:=ob Y
      exact Wp d O (fun _=>R.ix (α:=Int) i a1 O O O) (Wq d O (fun _ c=>R.ld O O (zam (i.at_ a1).1 O (i.at_ a1).int c)) (Wp d O (fun _=>R.eq O O) (Wp f O (fun _=>R.pk d O (v:=vB ((ay:Int)==(a0:Int))) O) (Mw.p O O (fun _=>R.pk f O (v:=vB ((ay:Int)==(a0:Int))) O) (Mw.nil ((ag) ⟨((ay:Int)==(a0:Int)),aw,O,(P.j ax).w,O,Y⟩))))))
     ·exact dps 10 d O (Wp f O (fun _=>R.pk d O (v:=vB false) O) (Mw.p O O (fun _=>R.pk f O (v:=vB false) O) (Mw.nil ((ag) ⟨false,aw,O,(P.j ax).w,O,Y⟩))))
  ·refine Cw.exit ?_
   rw[b9]at Y
   obtain⟨cf,cg,Y⟩:=za1 Y
   refine Cw.join 51 66 [66] (fun l w=> ∃ a3 aa,CW.w aa=w/\Le [] z aa/\l=[vB a3]/\cf a3=some r) ?_ ?_
   ·rintro _ _ σ ⟨a3,aa,rfl,br,rfl,Y⟩
    rw[cg]at Y
    have ch:=(((W.trans J).trans K).trans M).n br
    refine cn Y (fun Y=>?_) fun Y=>?_
    ·exact sr (Nb O (.ret (rt Y ch)))
    ·exact sk (rg (mi O (Lw.add O (Ni O ((agm) ⟨L,w64 (H+1),ptr (bx b5),vI x,aa,O,((((l7.j bl).j bn).j X).j br).w,O,Y⟩)))))
   ·refine rg (fl N O (Lw.ln aq.Parents bp O (Lw.gt O (mb O (bs Y (fun Q Y=>?_) fun Q Y=>?_)))))
    ·exact psk 4 Q O (Pb Q O (mb O (psk 4 O O (Pb O O (nl ((ag) ⟨true,z,O,Le.refl _ _,O,Y⟩))))))
    ·refine wak 4 Q (fl N O (ca Y (fun _=>p31) fun df ci Y ac=>?_))
     have cj:=((J.trans K).trans M).n ac
     refine Lw.r O (R.not O) (Pb Q O (mb O (bs Y (fun S Y=>?_) fun S Y=>?_)))
     ·exact psk 4 S O (Pb S O (nl ((ag) ⟨true,ci,O,ac,O,Y⟩)))
     ·exact wak 4 S (fl (N.up ac) O (ca Y (fun _=>p32 (r22.ul cj)) fun ck cl Y cm=>Lw.r O (R.not O) (Pb S O (nl ((ag) ⟨(!ck),cl,O,(ac.j cm).w,O,Y⟩)))))
 ·refine Cw.exit ?_
  rw[b4]at Y
  refine ssr (Ni O (Cw.block ?_))
  obtain⟨co,cp,Y⟩:=za1 Y
  refine Cw.loop 67 115 [2,6] (fun m l w=> ∃ ae k y,CW.w y=w/\Le [] I y/\l=[vB ae,vI k]/\Vm.zcj x0 co m ae k=some r) _ ⟨G,0,I,O,Le.refl _ _,O,Y⟩ ?_
  rintro(_ |dg) _ _ σ ⟨ae,k,y,rfl,a4,rfl,Y⟩
  ·cases Y
  unfold Vm.zcj at Y
  have A:=W.n a4
  have af:=ao.up a4
  refine ssr (mi O (fl af O (Lw.ln x0.Heads (am.ul A) O (Lw.lt O (nl (cn Y (fun Y=>?_) fun Y=>?_))))))
  ·refine sk (Cw.seq (Cw.block ?_))
   obtain⟨cq,cs,Y⟩:=za1 Y
   refine Cw.join 74 115 [115] (fun l w=> ∃ a5 ah,CW.w ah=w/\Le [] y ah/\l=[vB a5]/\cq a5=some r) ?_ ?_
   ·rintro _ _ σ ⟨a5,ah,rfl,bu,rfl,Y⟩
    rw[cs]at Y
    have ct:=A.n bu
    refine cn Y (fun Y=>?_) fun Y=>?_
    ·exact sr (Nb O (.ret (rt Y ct)))
    ·exact sk (rg (mi O (Lw.add O (Ni O ((agm) ⟨ae,w64 (k+1),ah,O,(a4.j bu).w,O,Y⟩)))))
   ·refine Cw.draw [] [(0,0),(1,1),(2,0),(3,0),(4,0),(5,1),(6,2),(7,0),(8,0),(9,0),(10,1),(11,0),(12,0),(13,0),(14,1),(15,0),(16,1),(17,0),(18,0),(19,2),(20,0),(21,0),(22,0),(23,0),(24,0),(25,0),(26,0),(27,1),(28,0),(29,0),(30,0),(31,1),(32,0),(33,1),(34,0),(35,0),(36,0),(37,0),(38,1),(39,0),(40,0),(41,0)] mixed (by kernel_rfl) fun dh B=>?_
    have bv:=A.n B
    have U:=af.up B
    refine Dfl U O O O (Di O ?_)
    obtain⟨di,a6,Y⟩:=ob Y
    have e:=am.ul bv
    refine Mw.p O O (fun _=>R.ix (α:=Head) e a6 O O O) (Df O (Mw.q O O (fun _ c=>R.ld O O (zam (Head.at0 (e.at_ a6)).1 O (Head.at0 (e.at_ a6)).str c)) ?_))
    obtain⟨dj,cu,Y⟩:=ob Y
    refine Mw.t O O (T.call O (p31 cu)) ?_
    rintro _ _ ⟨cv,rfl,C,rfl⟩
    have cw:=bv.n C
    refine m0 C fun cx=>Mw.p O O (fun _=>R.not O) (Db O (bs Y (fun b Y=>?_) fun b Y=>?_))
    ·exact dps 12 b O (Mw.p O O (fun _=>R.pk b O (v:=vB true) O) (Db O (dps 3 O O (dpu 14 O (dps 1 O O (Mw.p O O (fun _=>R.pk O O (v:=vB true) O) (Mw.nil ((ag) ⟨true,cv,O,(B.j C).w,O,Y⟩))))))))
    ·refine Wp b O (fun _=>R.fa O) (Wq b O (fun _ c=>R.ld (v:=F) O O (U.clc O O c)) (Wp b O (fun _=>R.mv (v:=vI k) O) ?_))
     obtain⟨dk,a7,Y⟩:=ob Y
     refine Wp b O (fun _=>R.ix (α:=Head) e a7 O O O) (Wp b O (fun _=>R.fa O) (Wq b O (fun _ c=>R.ld O O (zam (Head.at1 (e.at_ a7)).1 O (Head.at1 (e.at_ a7)).int c)) (Wp b O (fun _=>R.fa O) (Wq b O (fun _ c=>R.ld (v:=aj) O O (U.clc O O c)) (Wp b O (fun _=>zpZ (xs:=x0.Commits) (ak.ul cw) O) (Wp b O (fun _=>R.sub O O) ?_))))))
     obtain⟨cy,cz,Y⟩:=ob Y
     refine Wt b O (T.call O (p30 cz)) ?_
     rintro _ _ ⟨a8,rfl,ai,rfl⟩
     refine mc cx ai fun dl=>Wp b O (fun _=>R.not O) (Mw.p O O (fun _=>R.pk b O (v:=vB (!cy)) O) (Db O (bs Y (fun h Y=>?_) fun h Y=>?_)))
     ·exact dps 3 h O (dpu 14 O (dps 1 h O (Mw.p O O (fun _=>R.pk h O (v:=vB true) O) (Mw.nil ((ag) ⟨true,a8,O,((B.j C).j ai).w,O,Y⟩)))))
     ·refine Wp h O (fun _=>R.mv (v:=vI k) O) (Wp h O (fun _=>R.gt O O) (Wp h O (fun _=>R.mv (v:=vB (decide (0< (k:Int)))) O) (bs Y (fun a Y=>?_) fun a Y=>?_)))
      ·refine Wp a O (fun _=>R.fa O) (Wq a O (fun _ c=>R.ld (v:=F) O O (U.clc O O c)) (Wp a O (fun _=>R.mv (v:=vI k) O) ?_))
       obtain⟨D,a9,Y⟩:=ob Y
       refine Wp a O (fun _=>R.ix (α:=Head) e a9 O O O) (Wp a O (fun _=>R.fa O) (Wq a O (fun _ c=>R.ld O O (zam (Head.at0 (e.at_ a9)).1 O (Head.at0 (e.at_ a9)).str c)) (Wp a O (fun _=>R.fa O) (Wq a O (fun _ c=>R.ld (v:=F) O O (U.clc O O c)) (Wp a O (fun _=>R.mv (v:=vI k) O) (Wp a O (fun _=>R.sub O O) ?_))))))
       obtain⟨E,ba,Y⟩:=ob Y
       exact Wp a O (fun _=>R.ix (α:=Head) e ba O O O) (Wp a O (fun _=>R.fa O) (Wq a O (fun _ c=>R.ld O O (zam (Head.at0 (e.at_ ba)).1 O (Head.at0 (e.at_ ba)).str c)) (Wp a O (fun _=>R.sle O O) (Wp h O (fun _=>R.pk a O (v:=vB (Op.bytesLess D.Name E.Name||D.Name==E.Name)) O) (Mw.p O O (fun _=>R.pk h O (v:=vB (Op.bytesLess D.Name E.Name||D.Name==E.Name)) O) (Mw.nil ((ag) ⟨(Op.bytesLess D.Name E.Name||D.Name==E.Name),a8,O,((B.j C).j ai).w,O,Y⟩)))))))
      ·exact dps 14 a O (Wp h O (fun _=>R.pk a O (v:=vB false) O) (Mw.p O O (fun _=>R.pk h O (v:=vB false) O) (Mw.nil ((ag) ⟨false,a8,O,((B.j C).j ai).w,O,Y⟩))))
  ·refine Cw.exit ?_
   rw[cp]at Y
   obtain⟨c0,c1,Y⟩:=za1 Y
   refine Cw.join 116 125 [2] (fun l w=> ∃ bb bc,CW.w bc=w/\Le [] y bc/\l=[vB bb]/\c0 bb=some r) ?_ ?_
   ·rintro _ _ σ ⟨bb,bc,rfl,c2,rfl,Y⟩
    rw[c1]at Y
    have c3:=A.n c2
    exact .ret (rt Y c3)
   ·refine rg (fl af O (Lw.ln x0.Commits (ak.ul A) O (Lw.le O (mb O (bs Y (fun V Y=>?_) fun V Y=>?_)))))
    ·exact wak 4 V (fl af O (Lw.ln x0.Heads (am.ul A) O (Lw.le O (Pb V O (Nb O ((ag) ⟨decide (x0.Heads.length<=(5:Int)),y,O,Le.refl _ _,O,Y⟩))))))
    ·exact psk 4 V O (Pb V O (Nb O ((ag) ⟨false,y,O,Le.refl _ _,O,Y⟩)))
theorem p17 {x0 a b r}(d:Rd W K [a,b] x0)(Y:Vm.zbx x0=some r):Q1 17 [.agg [a,b].toArray] W [] fun W' v=>v=vB r:=
 (c17 (d.view _) Y).ad (fk 0) fun _ _ e=>e
theorem c47 {x0 A B r}(I:Rd W0 [0] [A,vS x0.Who,B] x0)(Y:Vm.zbN x0=some r):Q0 47 [.agg [A,vS x0.Who,B].toArray] W0 fun Wf v=> ∃ C D,v = .agg [C,vS r.Who,D].toArray/\OwS Wf [31] [] [C] r.Parents/\OwS Wf [32] [] [D] r.Tree:=by
 unfold Vm.zbN at Y
 obtain⟨ao,ap,E,J,K⟩:=Commit.split I
 simp only[List.cons.injEq,and_true,true_and]at E
 obtain⟨rfl,rfl⟩:=E
 refine zap.of Tryz.func47 O O O O (sr (bo 2 O fun g1 W1 L M=>?_))
 have N:=L.o
 refine al 3 [.slice none 0 0,vS ([]:Str), .slice none 0 0] fun g3 W3 F P=>?_
 have Q:=N.n F
 refine nl (Cw.seq (Cw.draw [4] [(1,0),(2,1),(4,0),(5,1),(6,0),(7,1),(0,2),(3,2),(8,2),(9,0),(10,3)] mixed (by kernel_rfl) fun W6 e=>?_))
 have S:=Q.n e
 have f:=(M.up F).up e
 refine Dfl f O O O (Dfl f O O O (Dfl f O O O (Mw.t O O (T.lit0 (α:=Int) 4 []) ?_)))
 rintro ax _ ⟨ay,rfl,l10,U⟩
 have G:=S.n l10
 refine m0 l10 fun V=>?_
 obtain⟨az,W,Y⟩:=ob Y
 refine Mw.t O O (T.appP (α:=Int) U (J.ul G) O O W) ?_
 rintro a _ ⟨a0,rfl,h,X⟩
 have H:=G.t h
 refine mc V h fun Z=>?_
 obtain⟨a1,aa,Y⟩:=ob Y
 refine Mw.t O O (T.call O (p56 (k0:=5) (K.ul H) aa)) ?_
 rintro b _ ⟨a3,rfl,d,⟨_,rfl,i⟩⟩
 have ac:=H.n d
 have k:=X.up d
 refine mc Z d fun a5=>Mw.p O O (fun _=>R.bd (zs:=[.slice none 0 0,vS ([]:Str), .slice none 0 0]) (cs:=[a,vS x0.Who,b]) [(0,a),(1,vS x0.Who),(2,b)] O O O (zaD k.oc O (zaD O O (zaD i.oc O zcU)))) (Mw.lu O (T.sta (vs:=[a,vS x0.Who,b]) ((((P.up e).up l10).up h).up d) O O (zaa k.oc (zaa O (zaa i.oc zaw))) O O) ?_)
 rintro _ _ ⟨a6,rfl,x,ae⟩
 have af:=ac.t x
 refine Mw.nil ?_
 obtain⟨a8,ah,y,ai⟩:=(k.up x).dyeO 31
 have aj:=af.t y
 obtain⟨a9,ak,z,am⟩:=((i.up x).up y).dyeO 32
 have an:=aj.t z
 cases Y
 rw[<- ak.trans (ah)]
 exact Cw.ret (zkj O ((ae.up y).up z) (Res.mk an ⟨a,b,O,(ai.up z).s,am.s⟩))
theorem p47 {x0 d f k0 k1 r}(h:Rd W K [d,vS x0.Who,f] x0)(Y:Vm.zbN x0=some r):Q1 47 [.agg [d,vS x0.Who,f].toArray] W [] fun W' v=> ∃ a b,v = .agg [a,vS r.Who,b].toArray/\Ow W' k0 [] [a] r.Parents/\Ow W' k1 [] [b] r.Tree:=
 zap.adJ (J:=[]) (fun c=>bif Nat.beq c 0 then 0 else bif Nat.beq c 31 then k0 else bif Nat.beq c 32 then k1 else 0) (c47 (h.view _) Y) fun _ _ ⟨a,b,e,i,k⟩=>⟨a,b,e,i.one1.backN O,k.one1.backN O⟩
theorem c36 {x0 X Z r}(h0:Rd W0 [0] [X,Z] x0)(Y:Vm.zaS x0=some r):Q0 36 [.agg [X,Z].toArray] W0 fun Wf v=> ∃ aa ac,v = .agg [aa,ac].toArray/\OwS Wf [31] [] [aa] r.Commits/\OwS Wf [32] [] [ac] r.Heads:=by
 unfold Vm.zaS at Y
 obtain⟨b5,b6,ae,af,au⟩:=Repo.split h0
 simp only[List.cons.injEq,and_true,true_and]at ae
 obtain⟨rfl,rfl⟩:=ae
 refine zap.of Tryz.func36 O O O O (sr (bo 2 O fun g1 W1 l1 b1=>?_))
 have a2:=l1.o
 refine al 3 [.slice none 0 0, .slice none 0 0] fun g3 W3 l3 b3=>?_
 have a4:=a2.n l3
 refine nl (sr (Lw.t O (T.lit0 (α:=Head) 4 []) ?_))
 rintro v6 _ ⟨W6,rfl,C,o6⟩
 have a7:=a4.n C
 have b8:=(b1.up l3).up C
 refine fl b8 O ?_
 obtain⟨a1,a3,Y⟩:=ob Y
 refine Lw.t O (T.appP (α:=Head) o6 (au.ul a7) O O a3) ?_
 rintro D _ ⟨cf,rfl,E,F⟩
 have a5:=a7.t E
 refine Lw.r O (R.bd (zs:=[.slice none 0 0, .slice none 0 0]) (cs:=[.slice none 0 0,D]) [(1,D)] O O O (zaD F.oc O zcU)) (al 5 [.slice none 0 0, .slice none 0 0] fun a6 cg e a8=>?_)
 have a9:=a5.n e
 refine sta a8 (zaa O (zaa (F.up e).oc zaw)) fun ak i ba=>?_
 have bb:=a9.t i
 refine nl (ssr (Ni O (Cw.block ?_)))
 obtain⟨bc,be,Y⟩:=za1 Y
 refine Cw.loop 10 27 [4] (fun m l w=> ∃ k G x y f d,CW.w d=w/\Le [5,6,7,8] ak d/\l=[vI k]/\Ow d 6 [] [y] G/\Ow d 4 [] [f] x/\Bx d 5 a6 [y,f]/\Vm.zbU x0 bc m k G x=some r) _ ⟨0,([]:List Commit),a1, .slice none 0 0,D,ak,O,Le.refl _ _,O,owN 6 [],((F.up e).up i),ba,Y⟩ ?_
 rintro(_ |ch) _ _ σ ⟨k,G,x,y,f,d,rfl,z,rfl,H,I,L,Y⟩
 ·cases Y
 unfold Vm.zbU at Y
 have M:=bb.t z
 have am:=(((b8.up E).up e).up i).up z
 refine ssr (mi O (fl am O (Lw.ln x0.Commits (af.ul M) O (Lw.lt O (nl (cn Y (fun Y=>?_) fun Y=>?_))))))
 ·refine sk (Cw.seq (Cw.block (Cw.draw [6,7,8] [(0,0),(1,1),(2,0),(3,1),(4,0),(5,0),(6,1),(7,2),(8,2),(9,2),(10,0),(11,3)] mixed (by kernel_rfl) fun ci a=>?_)))
  have bg:=M.n a
  refine Dfl (L.up a) O O O (Dfl (am.up a) O O O (Di O ?_))
  obtain⟨N,P,Y⟩:=ob Y
  have Q:=af.ul bg
  refine Mw.p O O (fun _=>R.ix (α:=Commit) Q P O O O) ?_
  obtain⟨x53,c54,_,r55⟩:=(Q.at_ P).cells
  obtain⟨cj,ck,rfl,r57,r59⟩:=Commit.split r55
  refine Mw.q O O (fun _ c=>R.lda (zoR (Q.at_ P).1 O c54 c) O O) (Dc Y (Le.refl _ _) (fun _=>p47 (k0:=7) (k1:=8) (Commit.rd (K:=[0]) N.Parents N.Who N.Tree r57 r59)) O ?_)
  rintro h _ cl Y A ⟨an,ao,rfl,bh,bi⟩ bj
  refine Mw.t O O (T.bs 9 [.agg [an,vS h.Who,ao].toArray] (cs:=[an,vS h.Who,ao]) O O (bsA O)) ?_
  rintro _ _ ⟨cm,co,rfl,rfl,b,bk⟩
  refine mc bj b fun bl=>?_
  obtain⟨bm,bn,Y⟩:=ob Y
  refine Mw.t O O (T.app1 (α:=Commit) (J:=[7,8]) (K':=[]) (((H.up a).up A).up b) bk (Commit.own h.Parents h.Who h.Tree (bh.up b).s (bi.up b).s) O O bn) ?_
  rintro ap _ ⟨cp,rfl,B,aq⟩
  refine mc bl B fun cq=>Df O (Mw.lu O (T.st (j:=0) (v:=ap) ((((L.up a).up A).up b).up B) O O aq.oc O O) ?_)
  rintro _ _ ⟨bp,rfl,S,bq⟩
  exact Mw.nil (rg (mi O (Lw.add O (Ni O ((agm) ⟨w64 (k+1),bm,x,ap,f,bp,O,(((((z.j a).j A).j b).j B).j S).w,O,(aq.up S),(((((I.up a).up A).up b).up B).up S),bq,Y⟩)))))
 ·refine Cw.exit ?_
  rw[be]at Y
  refine sr (la L (sta (((((b3.up C).up E).up e).up i).up z) (zaa H.oc (zaa I.oc zaw)) fun ct U br=>?_))
  have bu:=M.t U
  refine nl ?_
  obtain⟨cu,bv,V,bw⟩:=(H.up U).dyeO 31
  have bz:=bu.t V
  obtain⟨cv,b0,W,b2⟩:=((I.up U).up V).dyeO 32
  have b4:=bz.t W
  cases Y
  rw[<- b0.trans (bv)]
  exact Cw.ret (zkj O ((br.up V).up W) (Res.mk b4 ⟨y,f,O,(bw.up W).s,b2.s⟩))
theorem p36 {x0 d f k0 k1 r}(h:Rd W K [d,f] x0)(Y:Vm.zaS x0=some r):Q1 36 [.agg [d,f].toArray] W [] fun W' v=> ∃ a b,v = .agg [a,b].toArray/\Ow W' k0 [] [a] r.Commits/\Ow W' k1 [] [b] r.Heads:=
 zap.adJ (J:=[]) (fun c=>bif Nat.beq c 0 then 0 else bif Nat.beq c 31 then k0 else bif Nat.beq c 32 then k1 else 0) (c36 (h.view _) Y) fun _ _ ⟨a,b,e,i,k⟩=>⟨a,b,e,i.one1.backN O,k.one1.backN O⟩
end Go.Sx
