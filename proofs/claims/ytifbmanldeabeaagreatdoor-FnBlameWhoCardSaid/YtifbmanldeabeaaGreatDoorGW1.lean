/- Walks: each function answers as its model, printed by a program of ours. Conditions: the arguments read as they are given. -/
import Derived.Test.YtifbmanldeabeaaGreatDoorGTs
import Derived.Test.YtifbmanldeabeaaGreatDoorGM0
import Derived.Test.YtifbmanldeabeaaGreatDoorGW0
namespace Go.Sx
open Go Go.Proofs Go.Vm Rp
set_option linter.unusedVariables false
set_option linter.unusedSimpArgs false
variable {W W0:CW}{K:List Nat}
theorem c189 {x0 z x1 A r}(B:Rd W0 [0] [z] x0)(C:Rd W0 [0] [A] x1)(Y:Vm.zfM x0 x1=some r):Q0 189 [z,A] W0 fun Wf v=> ∃ u0,v=u0/\OwS Wf LL [] [u0] r:=by
 unfold Vm.zfM at Y
 refine zao.of Tryz.func189 O O O O (sr (Nv (.slice none 0 0) O (sr (Lw.t O (T.lit0 (α:=List Int) 2 []) ?_))))
 rintro v1 _ ⟨W1,rfl,l1,o1⟩
 have a2:=l1.o
 refine Nv v1 O (ssr (Ni O (Cw.block ?_)))
 obtain⟨K8,bj,Y⟩:=zaY Y
 refine Cw.loop 10 22 [5,6] (fun m l w=> ∃ G H a h,CW.w h=w/\Le [2,3] W1 h/\l=[a,vI H]/\Ow h 2 [] [a] G/\Vm.zb4 x0 x1 K8 m G H=some r) _ ⟨([]:List (List Int)),0,v1,W1,O,Le.refl _ _,O,o1,Y⟩ ?_
 rintro(_ |m9) _ _ σ ⟨G,H,a,h,rfl,l7,rfl,o5,Y⟩
 ·cases Y
 unfold Vm.zb4 at Y
 have I:=a2.t l7
 refine ssr (mi O (mv z O (Lw.ln x0 (B.ul I) O (Lw.le O (nl (cn Y (fun Y=>?_) fun Y=>?_))))))
 ·refine sk (Cw.seq (Cw.block (rg (mv a O (mv A O (Lw.ln x1 (C.ul I) O (Lw.add O ?_)))))))
  obtain⟨c7,bk,Y⟩:=ob Y
  refine Lw.t O (T.mk (α:=Int) 3 [] (n:=w64 ((x1.length:Int)+1)) O O bk) ?_
  rintro ax _ ⟨c8,rfl,ay,S⟩
  refine Lw.t O (T.bs 4 [ax] (cs:=[ax]) (bsc S.oc) O (bsv S.oc)) ?_
  rintro _ _ ⟨c9,da,rfl,rfl,U,bl⟩
  obtain⟨bm,bn,Y⟩:=ob Y
  refine Lw.t O (T.app1 (α:=List Int) (J:=[3]) (K':=[]) ((o5.up ay).up U) bl (S.up U).s O O bn) ?_
  rintro az _ ⟨bp,rfl,bq,br⟩
  exact Nv az O (rg (mi O (Lw.add O (Ni O ((agm) ⟨bm,w64 (H+1),az,bp,O,(((l7.j ay).j U).j bq).w,O,br,Y⟩)))))
 ·refine Cw.exit ?_
  rw[bj]at Y
  refine ssr (mv z O (Lw.ln x0 (B.ul I) O (Lw.sub O (Ni O (Cw.block ?_)))))
  obtain⟨bu,bv,Y⟩:=zaY Y
  refine Cw.loop 26 108 [7,8] (fun m l w=> ∃ D K a0 i,CW.w i=w/\Le [2,5,6,7] h i/\l=[vI D,a0]/\Ow i 2 [] [a] K/\Vm.zbo x0 x1 bu m D K=some r) _ ⟨w64 ((x0.length:Int)-1),G,undef,h,O,Le.refl _ _,O,o5,Y⟩ ?_
  rintro(_ |db) _ _ σ ⟨D,K,a0,i,rfl,a1,rfl,a3,Y⟩
  ·cases Y
  unfold Vm.zbo at Y
  have V:=I.t a1
  refine ssr (mi O (Lw.ge O (nl (cn Y (fun Y=>?_) fun Y=>?_))))
  ·refine sk (Cw.seq (Cw.block (sr (mv A O (Lw.ln x1 (C.ul V) O (Lw.sub O (Ni O (Cw.block ?_))))))))
   obtain⟨bw,bz,Y⟩:=zaY Y
   refine Cw.loop 33 108 [8] (fun m l w=> ∃ E L k,CW.w k=w/\Le [2,5,6,7] i k/\l=[vI E]/\Ow k 2 [] [a] L/\Vm.zb3 x0 x1 D bw m E L=some r) _ ⟨w64 ((x1.length:Int)-1),K,i,O,Le.refl _ _,O,a3,Y⟩ ?_
   rintro(_ |dc) _ _ σ ⟨E,L,k,rfl,W,rfl,X,Y⟩
   ·cases Y
   unfold Vm.zb3 at Y
   have b0:=V.t W
   refine ssr (mi O (Lw.ge O (nl (cn Y (fun Y=>?_) fun Y=>?_))))
   ·refine sk ?_
    obtain⟨b1,b2,Y⟩:=zaY Y
    refine Cw.join 37 108 [] (fun l w=> ∃ M F,CW.w F=w/\Le [2,5,6,7] k F/\l=[]/\Ow F 2 [] [a] M/\b1 M=some r) ?_ ?_
    ·rintro _ _ σ ⟨M,F,rfl,b3,rfl,b4,Y⟩
     rw[b2]at Y
     exact rg (mi O (Lw.sub O (Ni O ((agm) ⟨w64 (E-1),M,F,O,(W.j b3).w,O,b4,Y⟩))))
    ·refine Cw.block (Cw.block (Cw.seq (Cw.draw [] [(0,0),(1,0),(2,0),(3,1),(4,0),(5,0),(6,0),(7,1),(8,0),(9,0)] mixed (by kernel_rfl) fun dd x=>?_)))
     have y:=b0.n x
     refine Dv z O (Di O ?_)
     obtain⟨de,Z,Y⟩:=ob Y
     refine Mw.p O O (fun _=>R.ix (α:=Str) (B.ul y) Z O O O) (Mw.q O O (fun _ c=>R.ld O O (zaq ((B.ul y).at_ Z).1 O ((B.ul y).at_ Z).str c)) (Dv A O (Di O ?_)))
     obtain⟨df,aa,Y⟩:=ob Y
     refine Mw.p O O (fun _=>R.ix (α:=Str) (C.ul y) aa O O O) (Mw.q O O (fun _ c=>R.ld O O (zaq ((C.ul y).at_ aa).1 O ((C.ul y).at_ aa).str c)) (Mw.p O O (fun _=>R.seq O O) (Hb O (Mw.nil (cn Y (fun Y=>?_) fun Y=>?_)))))
     ·refine Cw.draw [] [(0,0),(1,0),(2,0),(3,1),(4,0),(5,0),(6,0),(7,0),(8,0),(9,1),(10,0),(11,0),(12,0),(13,1),(14,0),(15,0),(16,3)] mixed (by kernel_rfl) fun dg a4=>?_
      have d:=(X.up x).up a4
      refine Dv a O (Di O ?_)
      obtain⟨u64,N,Y⟩:=ob Y
      refine Mw.p O O (fun _=>R.ix (α:=List Int) d.rd N O O O) ?_
      obtain⟨dh,c67,r68⟩:=(d.rd.at_ N).cell O
      refine Mw.q O O (fun _ c=>R.ld O O (zaq (d.rd.at_ N).1 O c67 c)) (Di O (Dv a O (Di O (Mw.p O O (fun _=>R.add O O) ?_))))
      obtain⟨di,ac,Y⟩:=ob Y
      refine Mw.p O O (fun _=>R.ix (α:=List Int) d.rd ac O O O) ?_
      obtain⟨dj,c72,r73⟩:=(d.rd.at_ ac).cell O
      refine Mw.q O O (fun _ c=>R.ld O O (zaq (d.rd.at_ ac).1 O c72 c)) (Di O (Mw.p O O (fun _=>R.add O O) ?_))
      obtain⟨dk,ae,Y⟩:=ob Y
      refine Mw.p O O (fun _=>R.ix (α:=Int) r73 ae O O O) (Mw.q O O (fun _ c=>R.ld O O (zaq (r73.at_ ae).1 O (r73.at_ ae).int c)) (Mw.p O O (fun _=>R.add O O) ?_))
      obtain⟨dl,b5,Y⟩:=ob Y
      refine Mw.p O O (fun _=>R.ix (α:=Int) r68 b5 O O O) ?_
      obtain⟨dm,b6,b7,b8,gb78⟩:=Ow.lend (α:=List Int) (β:=List Int) (j:=5) (jf:=0) d N (by rw[zlt];exact c67) O
      rw[<- b6]
      obtain⟨dn,b9,Y⟩:=ob Y
      refine Mw.lu O (T.stS (K':=[]) b8 (rdI _) b9 O O O) ?_
      rintro _ _ ⟨dp,rfl,a5,cb⟩
      obtain⟨cc,cd,ce,cf,eq85,cg⟩:=gb78 _ _ a5 cb
      obtain⟨a6,eqm85,Y⟩:=ob Y
      obtain rfl:a6=cf:=Option.some.inj (eqm85.symm.trans eq85)
      rw[<- cd]
      exact Mw.nil ((ag) ⟨a6,cc,O,((((x.j a4).j b7).j a5).j ce).w,O,cg,Y⟩)
     ·refine Cw.seq (Cw.draw [] [(0,0),(1,0),(2,0),(3,0),(4,1),(5,0),(6,0),(7,1),(8,0),(9,0),(10,0),(11,1),(12,0),(13,0),(14,0),(15,1),(16,0),(17,0)] mixed (by kernel_rfl) fun dq af=>?_)
      have b:=(X.up x).up af
      refine Dv a O (Di O (Mw.p O O (fun _=>R.add O O) ?_))
      obtain⟨dr,ah,Y⟩:=ob Y
      refine Mw.p O O (fun _=>R.ix (α:=List Int) b.rd ah O O O) ?_
      obtain⟨ds,c93,r94⟩:=(b.rd.at_ ah).cell O
      refine Mw.q O O (fun _ c=>R.ld O O (zaq (b.rd.at_ ah).1 O c93 c)) (Di O ?_)
      obtain⟨dt,ai,Y⟩:=ob Y
      refine Mw.p O O (fun _=>R.ix (α:=Int) r94 ai O O O) (Mw.q O O (fun _ c=>R.ld O O (zaq (r94.at_ ai).1 O (r94.at_ ai).int c)) (Dv a O (Di O ?_)))
      obtain⟨du,aj,Y⟩:=ob Y
      refine Mw.p O O (fun _=>R.ix (α:=List Int) b.rd aj O O O) ?_
      obtain⟨dv,c100,r101⟩:=(b.rd.at_ aj).cell O
      refine Mw.q O O (fun _ c=>R.ld O O (zaq (b.rd.at_ aj).1 O c100 c)) (Di O (Mw.p O O (fun _=>R.add O O) ?_))
      obtain⟨dw,ak,Y⟩:=ob Y
      refine Mw.p O O (fun _=>R.ix (α:=Int) r101 ak O O O) (Mw.q O O (fun _ c=>R.ld O O (zaq (r101.at_ ak).1 O (r101.at_ ak).int c)) (Mw.p O O (fun _=>R.ge O O) (Hb O (Mw.nil (cn Y (fun Y=>?_) fun Y=>?_)))))
      ·refine Cw.draw [] [(0,0),(1,0),(2,0),(3,1),(4,0),(5,0),(6,0),(7,0),(8,0),(9,1),(10,0),(11,0),(12,1),(13,0),(14,3)] mixed (by kernel_rfl) fun dx a7=>?_
       have e:=b.up a7
       refine Dv a O (Di O ?_)
       obtain⟨dy,P,Y⟩:=ob Y
       refine Mw.p O O (fun _=>R.ix (α:=List Int) e.rd P O O O) ?_
       obtain⟨dz,c111,r112⟩:=(e.rd.at_ P).cell O
       refine Mw.q O O (fun _ c=>R.ld O O (zaq (e.rd.at_ P).1 O c111 c)) (Di O (Dv a O (Di O (Mw.p O O (fun _=>R.add O O) ?_))))
       obtain⟨d0,am,Y⟩:=ob Y
       refine Mw.p O O (fun _=>R.ix (α:=List Int) e.rd am O O O) ?_
       obtain⟨d1,c116,r117⟩:=(e.rd.at_ am).cell O
       refine Mw.q O O (fun _ c=>R.ld O O (zaq (e.rd.at_ am).1 O c116 c)) (Di O ?_)
       obtain⟨d2,an,Y⟩:=ob Y
       refine Mw.p O O (fun _=>R.ix (α:=Int) r117 an O O O) (Mw.q O O (fun _ c=>R.ld O O (zaq (r117.at_ an).1 O (r117.at_ an).int c)) ?_)
       obtain⟨d3,ch,Y⟩:=ob Y
       refine Mw.p O O (fun _=>R.ix (α:=Int) r112 ch O O O) ?_
       obtain⟨d4,ci,cj,ck,gb122⟩:=Ow.lend (α:=List Int) (β:=List Int) (j:=6) (jf:=0) e P (by rw[zlt];exact c111) O
       rw[<- ci]
       obtain⟨d5,cl,Y⟩:=ob Y
       refine Mw.lu O (T.stS (K':=[]) ck (rdI _) cl O O O) ?_
       rintro _ _ ⟨d6,rfl,a8,cm⟩
       obtain⟨co,cp,cq,ct,eq129,cu⟩:=gb122 _ _ a8 cm
       obtain⟨a9,eqm129,Y⟩:=ob Y
       obtain rfl:a9=ct:=Option.some.inj (eqm129.symm.trans eq129)
       rw[<- cp]
       exact Mw.nil ((ag) ⟨a9,co,O,(((((x.j af).j a7).j cj).j a8).j cq).w,O,cu,Y⟩)
      ·refine Cw.draw [] [(0,0),(1,0),(2,0),(3,1),(4,0),(5,0),(6,0),(7,0),(8,1),(9,0),(10,0),(11,0),(12,1),(13,0),(14,3)] mixed (by kernel_rfl) fun d7 ba=>?_
       have f:=b.up ba
       refine Dv a O (Di O ?_)
       obtain⟨d8,Q,Y⟩:=ob Y
       refine Mw.p O O (fun _=>R.ix (α:=List Int) f.rd Q O O O) ?_
       obtain⟨d9,c137,r138⟩:=(f.rd.at_ Q).cell O
       refine Mw.q O O (fun _ c=>R.ld O O (zaq (f.rd.at_ Q).1 O c137 c)) (Di O (Dv a O (Di O ?_)))
       obtain⟨ea,ao,Y⟩:=ob Y
       refine Mw.p O O (fun _=>R.ix (α:=List Int) f.rd ao O O O) ?_
       obtain⟨eb,c142,r143⟩:=(f.rd.at_ ao).cell O
       refine Mw.q O O (fun _ c=>R.ld O O (zaq (f.rd.at_ ao).1 O c142 c)) (Di O (Mw.p O O (fun _=>R.add O O) ?_))
       obtain⟨ec,ap,Y⟩:=ob Y
       refine Mw.p O O (fun _=>R.ix (α:=Int) r143 ap O O O) (Mw.q O O (fun _ c=>R.ld O O (zaq (r143.at_ ap).1 O (r143.at_ ap).int c)) ?_)
       obtain⟨ed,cv,Y⟩:=ob Y
       refine Mw.p O O (fun _=>R.ix (α:=Int) r138 cv O O O) ?_
       obtain⟨ee,cw,cx,cy,gb148⟩:=Ow.lend (α:=List Int) (β:=List Int) (j:=7) (jf:=0) f Q (by rw[zlt];exact c137) O
       rw[<- cw]
       obtain⟨ef,cz,Y⟩:=ob Y
       refine Mw.lu O (T.stS (K':=[]) cy (rdI _) cz O O O) ?_
       rintro _ _ ⟨eg,rfl,bb,c0⟩
       obtain⟨c1,c2,c3,c4,eq155,c5⟩:=gb148 _ _ bb c0
       obtain⟨bc,eqm155,Y⟩:=ob Y
       obtain rfl:bc=c4:=Option.some.inj (eqm155.symm.trans eq155)
       rw[<- c2]
       exact Mw.nil ((ag) ⟨bc,c1,O,(((((x.j af).j ba).j cx).j bb).j c3).w,O,c5,Y⟩)
   ·refine Cw.exit ?_
    rw[bz]at Y
    exact rg (mi O (Lw.sub O (Ni O ((agm) ⟨w64 (D-1),L,vI E,k,O,(a1.j W).w,O,X,Y⟩))))
  ·refine Cw.exit ?_
   rw[bv]at Y
   refine sr (mv a O (Nv a O ?_))
   cases Y
   exact Cw.ret (zik O (Res.mk V ⟨a,O,a3.s.sub O O⟩))
theorem p189 {x0 b x1 d k0 r}(f:Rd W K [b] x0)(h:Rd W K [d] x1)(Y:Vm.zfM x0 x1=some r):Q1 189 [b,d] W [] fun W' v=> ∃ a,v=a/\Ow W' k0 [] [a] r:=
 (c189 (f.view _) (h.view _) Y).ad (fk k0) fun _ _ ⟨a,e,i⟩=>⟨a,e,i.back (zgv _)⟩
theorem c156 {x0 x x1 i r}(y:Rd W0 [0] [x] x0)(I:Rd W0 [0] [i] x1)(Y:Vm.zc5 x0 x1=some r):Q0 156 [x,i] W0 fun Wf v=> ∃ Z,v=Z/\OwS Wf LL [] [Z] r:=by
 unfold Vm.zc5 at Y
 refine zao.of Tryz.func156 O O O O (sr (Nv (.slice none 0 0) O (sr (mv x O (mv i O (cr Y (fun _=>p189 (k0:=2) y I) ?_))))))
 rintro z1 J W3 Y l3 ⟨_,rfl,aw⟩
 have a4:=l3.o
 refine Nv J O (sr (Lw.t O (T.lit0 (α:=Int) 3 []) ?_))
 rintro v5 _ ⟨W5,rfl,l5,o5⟩
 have a6:=a4.n l5
 refine Nv v5 O (sr (Ni O (ssr (Ni O (Cw.block ?_)))))
 obtain⟨a0,a1,Y⟩:=zaY Y
 refine Cw.loop 13 71 [6,7,8] (fun m l w=> ∃ B d e f z,CW.w z=w/\Le [3] W5 z/\l=[f,vI d,vI e]/\Ow z 3 [] [f] B/\Vm.zc4 x0 x1 z1 a0 m B d e=some r) _ ⟨([]:List Int),0,0,v5,W5,O,Le.refl _ _,O,o5,Y⟩ ?_
 rintro(_ |bq) _ _ σ ⟨B,d,e,f,z,rfl,A,rfl,K,Y⟩
 ·cases Y
 unfold Vm.zc4 at Y
 have C:=a6.t A
 refine ssr (mi O (mv x O (Lw.ln x0 (y.ul C) O (Lw.lt O (nl (cn Y (fun Y=>?_) fun Y=>?_))))))
 ·refine sk (Cw.block (Cw.block ?_))
  obtain⟨a2,a3,Y⟩:=zaY Y
  refine Cw.join 19 34 [19] (fun l w=> ∃ L D,CW.w D=w/\Le [] z D/\l=[vB L]/\a2 L=some r) ?_ ?_
  ·rintro _ _ σ ⟨L,D,rfl,h,rfl,Y⟩
   rw[a3]at Y
   have a5:=C.n h
   refine cn Y (fun Y=>?_) fun Y=>?_
   ·refine sr (mv f O (mi O (Lw.t O (T.bs 4 [vI d] (cs:=[vI d]) O O (bsv O)) ?_)))
    rintro _ _ ⟨br,bu,rfl,rfl,af,a7⟩
    obtain⟨a8,a9,Y⟩:=ob Y
    refine Lw.t O (T.app1S (α:=Int) (K':=[]) ((K.up h).up af) a7 (rdI _) O O a9) ?_
    rintro ah _ ⟨ba,rfl,bb,bc⟩
    exact Nv ah O (sr (mi O (Lw.add O (Ni O (rg (mi O (Lw.add O (Ni O ((agm) ⟨a8,w64 (d+1),w64 (e+1),ah,ba,O,(((A.j h).j af).j bb).w,O,bc,Y⟩)))))))))
   ·obtain⟨be,bg,Y⟩:=zaY Y
    refine Cw.join 43 66 [43] (fun l w=> ∃ M E,CW.w E=w/\Le [] D E/\l=[vB M]/\be M=some r) ?_ ?_
    ·rintro _ _ σ ⟨M,E,rfl,N,rfl,Y⟩
     rw[bg]at Y
     have ai:=(K.up h).up N
     refine cn Y (fun Y=>?_) fun Y=>?_
     ·refine sr (mv f O (Lw.t O (T.bs 5 [vI (-1)] (cs:=[vI (-1)]) O O (bsv O)) ?_))
      rintro _ _ ⟨bv,bw,rfl,rfl,aj,bh⟩
      obtain⟨bi,bj,Y⟩:=ob Y
      refine Lw.t O (T.app1S (α:=Int) (K':=[]) (ai.up aj) bh (rdI _) O O bj) ?_
      rintro ak _ ⟨bk,rfl,bl,bm⟩
      exact Nv ak O (rg (mi O (Lw.add O (Ni O ((agm) ⟨bi,d,w64 (e+1),ak,bk,O,((((A.j h).j N).j aj).j bl).w,O,bm,Y⟩)))))
     ·exact rg (mi O (Lw.add O (Ni O ((agm) ⟨B,w64 (d+1),e,f,E,O,((A.j h).j N).w,O,ai,Y⟩))))
    ·refine Cw.draw [] [(0,0),(1,0),(2,0),(3,0),(4,0),(5,0),(6,0),(7,0),(8,0),(9,1),(10,0),(11,0),(12,1),(13,0),(14,0),(15,0),(16,1),(17,0),(18,0),(19,0),(20,1),(21,0),(22,0),(23,0)] mixed (by kernel_rfl) fun am F=>?_
     have bn:=a5.n F
     have k:=(((aw.up l5).up A).up h).up F
     refine Di O (Dv i O (Mw.p O O (fun _=>zuo (xs:=x1) (I.ul bn) O) (Mw.p O O (fun _=>R.ge O O) (Db O (bs Y (fun a Y=>?_) fun a Y=>?_)))))
     ·exact dps 17 a O (Mw.p O O (fun _=>R.pk a O (v:=vB true) O) (Hb O (Mw.nil ((ag) ⟨true,am,O,F,O,Y⟩))))
     ·refine Wp a O (fun _=>R.mv (v:=J) O) (Wp a O (fun _=>R.mv (v:=vI e) O) (Wp a O (fun _=>R.add O O) ?_))
      obtain⟨bz,P,Y⟩:=ob Y
      refine Wp a O (fun _=>R.ix (α:=List Int) k.rd P O O O) ?_
      obtain⟨b0,c63,r64⟩:=(k.rd.at_ P).cell O
      refine Wq a O (fun _ c=>R.ld O O (zaq (k.rd.at_ P).1 O c63 c)) (Wp a O (fun _=>R.mv (v:=vI d) O) ?_)
      obtain⟨an,Q,Y⟩:=ob Y
      refine Wp a O (fun _=>R.ix (α:=Int) r64 Q O O O) (Wq a O (fun _ c=>R.ld O O (zaq (r64.at_ Q).1 O (r64.at_ Q).int c)) (Wp a O (fun _=>R.mv (v:=J) O) (Wp a O (fun _=>R.mv (v:=vI e) O) ?_)))
      obtain⟨b1,S,Y⟩:=ob Y
      refine Wp a O (fun _=>R.ix (α:=List Int) k.rd S O O O) ?_
      obtain⟨b2,c70,r71⟩:=(k.rd.at_ S).cell O
      refine Wq a O (fun _ c=>R.ld O O (zaq (k.rd.at_ S).1 O c70 c)) (Wp a O (fun _=>R.mv (v:=vI d) O) (Wp a O (fun _=>R.add O O) ?_))
      obtain⟨ao,U,Y⟩:=ob Y
      exact Wp a O (fun _=>R.ix (α:=Int) r71 U O O O) (Wq a O (fun _ c=>R.ld O O (zaq (r71.at_ U).1 O (r71.at_ U).int c)) (Wp a O (fun _=>R.ge O O) (Mw.p O O (fun _=>R.pk a O (v:=vB (decide (ao<=(an:Int)))) O) (Hb O (Mw.nil ((ag) ⟨decide (ao<=(an:Int)),am,O,F,O,Y⟩))))))
  ·refine Cw.draw [] [(0,0),(1,0),(2,0),(3,0),(4,0),(5,0),(6,0),(7,0),(8,1),(9,0),(10,0),(11,0),(12,1),(13,0),(14,0),(15,0)] mixed (by kernel_rfl) fun ap V=>?_
   have G:=C.n V
   have H:=I.ul G
   refine Di O (Dv i O (Mw.p O O (fun _=>zuo (xs:=x1) H O) (Mw.p O O (fun _=>R.lt O O) (Db O (bs Y (fun b Y=>?_) fun b Y=>?_)))))
   ·refine Wp b O (fun _=>R.mv (v:=x) O) (Wp b O (fun _=>R.mv (v:=vI e) O) ?_)
    obtain⟨aq,W,Y⟩:=ob Y
    refine Wp b O (fun _=>R.ix (α:=Str) (y.ul G) W O O O) (Wq b O (fun _ c=>R.ld O O (zaq ((y.ul G).at_ W).1 O ((y.ul G).at_ W).str c)) (Wp b O (fun _=>R.mv (v:=i) O) (Wp b O (fun _=>R.mv (v:=vI d) O) ?_)))
    obtain⟨ar,X,Y⟩:=ob Y
    exact Wp b O (fun _=>R.ix (α:=Str) H X O O O) (Wq b O (fun _ c=>R.ld O O (zaq (H.at_ X).1 O (H.at_ X).str c)) (Wp b O (fun _=>R.seq O O) (Mw.p O O (fun _=>R.pk b O (v:=vB (aq==ar)) O) (Hb O (Mw.nil ((ag) ⟨(aq==ar),ap,O,V,O,Y⟩))))))
   ·exact dps 9 b O (Mw.p O O (fun _=>R.pk b O (v:=vB false) O) (Hb O (Mw.nil ((ag) ⟨false,ap,O,V,O,Y⟩))))
 ·refine Cw.exit ?_
  rw[a1]at Y
  refine sr (mv f O (Nv f O ?_))
  cases Y
  exact Cw.ret (zik O (Res.mk C ⟨f,O,K.s.sub O O⟩))
theorem p156 {x0 b x1 d k0 r}(f:Rd W K [b] x0)(h:Rd W K [d] x1)(Y:Vm.zc5 x0 x1=some r):Q1 156 [b,d] W [] fun W' v=> ∃ a,v=a/\Ow W' k0 [] [a] r:=
 (c156 (f.view _) (h.view _) Y).ad (fk k0) fun _ _ ⟨a,e,i⟩=>⟨a,e,i.back (zgv _)⟩
theorem c133 {x0 a x1 r}(b:Rd W0 [0] [a] x0)(Y:Vm.zdO x0 x1=some r):Q0 133 [a,vS x1] W0 fun Wf v=> ∃ F,v=F/\Rd Wf [0] [F] r:=by
 unfold Vm.zdO at Y
 refine zao.of Tryz.func133 O O O O (sr (Nv (.slice none 0 0) O (sr (Ni O (Cw.seq (Cw.block ?_))))))
 obtain⟨S,U,Y⟩:=zaY Y
 refine Cw.loop 7 20 [5] (fun m l w=> ∃ i e,CW.w e=w/\Le [] W0 e/\l=[vI i]/\Vm.zdj x0 x1 S m i=some r) _ ⟨0,W0,O,Le.refl _ _,O,Y⟩ ?_
 rintro(_ |m4) _ _ σ ⟨i,e,rfl,G,rfl,Y⟩
 ·cases Y
 unfold Vm.zdj at Y
 have k:=G.o
 refine Cw.seq ?_
 obtain⟨V,W,Y⟩:=zaY Y
 refine Cw.join 7 18 [18] (fun l w=> ∃ y d,CW.w d=w/\Le [] e d/\l=[vB y]/\V y=some r) ?_ ?_
 ·rintro _ _ σ ⟨y,d,rfl,H,rfl,Y⟩
  rw[W]at Y
  have x:=k.n H
  refine cn Y (fun Y=>?_) fun Y=>?_
  ·exact sk (Cw.block (rg (mi O (Lw.add O (Ni O ((agm) ⟨w64 (i+1),d,O,(G.j H).w,O,Y⟩))))))
  ·refine Cw.exit ?_
   rw[U]at Y
   refine Cw.seq ?_
   obtain⟨X,Z,Y⟩:=zaY Y
   refine Cw.join 21 32 [32] (fun l w=> ∃ z A,CW.w A=w/\Le [] d A/\l=[vB z]/\X z=some r) ?_ ?_
   ·rintro _ _ σ ⟨z,A,rfl,aa,rfl,Y⟩
    rw[Z]at Y
    have B:=x.n aa
    refine cn Y (fun Y=>?_) fun Y=>?_
    ·refine sr (mv a O (Nv a O ?_))
     cases Y
     exact Cw.ret (zik O (Res.mk B ⟨a,O,(b.ul B)⟩))
    ·refine sk (sr (Lw.t O (T.lit0 (α:=Str) 2 []) ?_))
     rintro a7 _ ⟨a8,rfl,ac,ae⟩
     have C:=B.n ac
     refine mv a O (mi O ?_)
     obtain⟨ba,I,Y⟩:=ob Y
     have r23:=(b.ul C).cutV I
     refine Lw.r O (R.sl (b.ul C) I O (.inl ⟨O,O⟩) (.inr O)) ?_
     obtain⟨bb,af,Y⟩:=ob Y
     refine Lw.t O (T.appP (α:=Str) ae r23 O O af) ?_
     rintro J _ ⟨bc,rfl,ah,ai⟩
     have aj:=C.t ah
     refine Nv J O (sr (mv J O (ms O (Lw.t O (T.bs 3 [vS x1] (cs:=[vS x1]) O O (bsv O)) ?_))))
     rintro _ _ ⟨be,bg,rfl,rfl,K,ak⟩
     have am:=aj.n K
     obtain⟨bh,an,Y⟩:=ob Y
     refine Lw.t O (T.app1S (α:=Str) (K':=[]) (ai.up K) ak (rdS _) O O an) ?_
     rintro L _ ⟨bi,rfl,ao,ap⟩
     have D:=am.t ao
     refine Nv L O (sr (mv L O (mv a O (mi O ?_))))
     obtain⟨bj,N,Y⟩:=ob Y
     have r40:=(b.ul D).cutV N
     refine Lw.r O (R.sl (b.ul D) N O (.inr O) (.inl ⟨O,O⟩)) ?_
     obtain⟨aq,ar,Y⟩:=ob Y
     refine Lw.t O (T.appP (α:=Str) ap r40 O O ar) ?_
     rintro E _ ⟨bk,rfl,au,av⟩
     have aw:=D.t au
     refine Nv E O ?_
     obtain⟨ax,ay,az,a0⟩:=zmg _ 2
     have a1:Rd (α:=List Str) ax [0] [E] aq:=by rw[a0];exact(av.rd.dye 2).sub (M:=[0]) O
     have a2:=aw.t az
     cases Y
     rw[<- ay]
     exact Cw.ret (zik O (Res.mk a2 ⟨E,O,a1⟩))
   ·refine rg (mi O (mv a O (Lw.ln x0 (b.ul x) O (Lw.lt O (mb O (bs Y (fun f Y=>?_) fun f Y=>?_))))))
    ·refine wak 6 f (mv a O (mi O ?_))
     obtain⟨a3,P,Y⟩:=ob Y
     exact Lw.r O (R.ix (α:=Str) (b.ul x) P O O O) (Lw.r O (R.ld O O ((b.ul x).at_ P).str) (ms O (Lw.seq O (Pb f O (nl ((ag) ⟨(a3==x1),d,O,Le.refl _ _,O,Y⟩))))))
    ·exact psk 6 f O (Pb f O (nl ((ag) ⟨false,d,O,Le.refl _ _,O,Y⟩)))
 ·refine rg (mi O (mv a O (Lw.ln x0 (b.ul k) O (Lw.lt O (mb O (bs Y (fun h Y=>?_) fun h Y=>?_))))))
  ·refine wak 6 h (mv a O (mi O ?_))
   obtain⟨a4,Q,Y⟩:=ob Y
   exact Lw.r O (R.ix (α:=Str) (b.ul k) Q O O O) (Lw.r O (R.ld O O ((b.ul k).at_ Q).str) (ms O (Lw.r O (R.slt O O) (Pb h O (nl ((ag) ⟨Op.bytesLess a4 x1,e,O,Le.refl _ _,O,Y⟩))))))
  ·exact psk 6 h O (Pb h O (nl ((ag) ⟨false,e,O,Le.refl _ _,O,Y⟩)))
theorem p133 {x0 b x1 r}(d:Rd W K [b] x0)(Y:Vm.zdO x0 x1=some r):Q1 133 [b,vS x1] W [] fun W' v=> ∃ a,v=a/\Rd W' (0::K) [a] r:=
 (c133 (d.view _) Y).ad (fk 0) fun _ _ ⟨a,e,f⟩=>⟨a,e,f.back O⟩
theorem c138 {x0 d r}(E:Rd W0 [0] [d] x0)(Y:Vm.zdp x0=some r):Q0 138 [d] W0 fun Wf v=> ∃ F,v=F/\OwS Wf LL [] [F] r:=by
 unfold Vm.zdp at Y
 refine zao.of Tryz.func138 O O O O (sr (Nv (.slice none 0 0) O (sr (Lw.t O (T.lit0 (α:=File) 2 []) ?_))))
 rintro G _ ⟨H,rfl,P,Q⟩
 have S:=P.o
 refine Nv G O (ssr (Ni O (Cw.block ?_)))
 obtain⟨U,V,Y⟩:=zaY Y
 refine Cw.loop 6 27 [3,4] (fun m l w=> ∃ y f a h,CW.w h=w/\Le [2,3] H h/\l=[a,vI f]/\Ow h 2 [] [a] y/\Vm.zcF x0 U m y f=some r) _ ⟨([]:List File),0,G,H,O,Le.refl _ _,O,Q,Y⟩ ?_
 rintro(_ |m9) _ _ σ ⟨y,f,a,h,rfl,I,rfl,K,Y⟩
 ·cases Y
 unfold Vm.zcF at Y
 have z:=S.t I
 refine ssr (mi O (mv d O (Lw.ln x0 (E.ul z) O (Lw.lt O (nl (cn Y (fun Y=>?_) fun Y=>?_))))))
 ·refine sk (Cw.seq (Cw.block (Cw.draw [2,3] [(0,0),(1,0),(2,0),(3,0),(4,0),(5,1),(7,0),(8,0),(9,0),(10,0),(11,1),(6,2),(12,2),(13,0),(14,2),(15,2),(16,0)] mixed (by kernel_rfl) fun ap A=>?_)))
  have W:=z.n A
  refine Dv a O (Dv d O (Di O ?_))
  obtain⟨e,B,Y⟩:=ob Y
  have b:=E.ul W
  refine Mw.p O O (fun _=>R.ix (α:=File) b B O O O) (Df O (Mw.q O O (fun _ c=>R.ld O O (zaq (File.at0 (b.at_ B)).1 O (File.at0 (b.at_ B)).str c)) (Dv d O (Di O ?_))))
  obtain⟨aq,C,Y⟩:=ob Y
  refine Mw.p O O (fun _=>R.ix (α:=File) b C O O O) (Df O ?_)
  obtain⟨ar,c22,r23⟩:=(File.at1 (b.at_ C)).cell O
  refine Mw.q O O (fun _ c=>R.ld O O (zaq (File.at1 (b.at_ C)).1 O c22 c)) (Mw.t O O (T.lit0 (α:=Str) 3 []) ?_)
  rintro au _ ⟨av,rfl,i,X⟩
  have Z:=i.o
  refine m0 i fun aa=>?_
  obtain⟨ac,ae,Y⟩:=ob Y
  refine Mw.t O O (T.appP (α:=Str) X (r23.ul Z) O O ae) ?_
  rintro k _ ⟨aw,rfl,D,L⟩
  refine mc aa D fun af=>Mw.p O O (fun _=>R.bd (zs:=[vS ([]:Str), .slice none 0 0]) (cs:=[vS e.Path,k]) [(0,vS e.Path),(1,k)] O O O (zaA O O (zaA L.oc O zc8))) (Mw.t O O (T.bs 4 [.agg [vS e.Path,k].toArray] (cs:=[vS e.Path,k]) O O (bsA O)) ?_)
  rintro _ _ ⟨ax,ay,rfl,rfl,x,ah⟩
  refine mc af x fun ai=>?_
  obtain⟨aj,ak,Y⟩:=ob Y
  refine Mw.t O O (T.app1 (α:=File) (J:=[3]) (K':=[]) ((((K.up A).up i).up D).up x) ah (File.own e.Path ac (L.up x).s) O O ak) ?_
  rintro M _ ⟨am,rfl,N,an⟩
  exact mc ai N fun az=>Hv M O (Mw.nil (rg (mi O (Lw.add O (Ni O ((agm) ⟨aj,w64 (f+1),M,am,O,(((((I.j A).j i).j D).j x).j N).w,O,an,Y⟩))))))
 ·refine Cw.exit ?_
  rw[V]at Y
  refine sr (mv a O (Nv a O ?_))
  cases Y
  exact Cw.ret (zik O (Res.mk z ⟨a,O,K.s.sub O O⟩))
theorem p138 {x0 b k0 r}(d:Rd W K [b] x0)(Y:Vm.zdp x0=some r):Q1 138 [b] W [] fun W' v=> ∃ a,v=a/\Ow W' k0 [] [a] r:=
 (c138 (d.view _) Y).ad (fk k0) fun _ _ ⟨a,e,f⟩=>⟨a,e,f.back (zgv _)⟩
theorem c83 {x0 A B r}(I:Rd W0 [0] [A,vS x0.Who,B] x0)(Y:Vm.zcW x0=some r):Q0 83 [.agg [A,vS x0.Who,B].toArray] W0 fun Wf v=> ∃ C D,v = .agg [C,vS r.Who,D].toArray/\OwS Wf [31] [] [C] r.Parents/\OwS Wf [32] [] [D] r.Tree:=by
 unfold Vm.zcW at Y
 obtain⟨ao,ap,E,J,K⟩:=Commit.split I
 simp only[List.cons.injEq,and_true,true_and]at E
 obtain⟨rfl,rfl⟩:=E
 refine zao.of Tryz.func83 O O O O (sr (bo 2 O fun g1 W1 L M=>?_))
 have N:=L.o
 refine al 3 [.slice none 0 0,vS ([]:Str), .slice none 0 0] fun g3 W3 F P=>?_
 have Q:=N.n F
 refine nl (Cw.seq (Cw.draw [4] [(1,0),(2,1),(4,0),(5,1),(6,0),(7,1),(0,2),(3,2),(8,2),(9,0),(10,3)] mixed (by kernel_rfl) fun W6 e=>?_))
 have S:=Q.n e
 have f:=(M.up F).up e
 refine Dfl f O O O (Dfl f O O O (Dfl f O O O (Mw.t O O (T.lit0 (α:=Int) 4 []) ?_)))
 rintro ax _ ⟨ay,rfl,l10,U⟩
 have G:=S.n l10
 refine m0 l10 fun V=>?_
 obtain⟨az,W,Y⟩:=ob Y
 refine Mw.t O O (T.appP (α:=Int) U (J.ul G) O O W) ?_
 rintro a _ ⟨a0,rfl,h,X⟩
 have H:=G.t h
 refine mc V h fun Z=>?_
 obtain⟨a1,aa,Y⟩:=ob Y
 refine Mw.t O O (T.call O (p138 (k0:=5) (K.ul H) aa)) ?_
 rintro b _ ⟨a3,rfl,d,⟨_,rfl,i⟩⟩
 have ac:=H.n d
 have k:=X.up d
 refine mc Z d fun a5=>Mw.p O O (fun _=>R.bd (zs:=[.slice none 0 0,vS ([]:Str), .slice none 0 0]) (cs:=[a,vS x0.Who,b]) [(0,a),(1,vS x0.Who),(2,b)] O O O (zaA k.oc O (zaA O O (zaA i.oc O zc8)))) (Mw.lu O (T.sta (vs:=[a,vS x0.Who,b]) ((((P.up e).up l10).up h).up d) O O (zaa k.oc (zaa O (zaa i.oc zaG))) O O) ?_)
 rintro _ _ ⟨a6,rfl,x,ae⟩
 have af:=ac.t x
 refine Mw.nil ?_
 obtain⟨a8,ah,y,ai⟩:=(k.up x).dyeO 31
 have aj:=af.t y
 obtain⟨a9,ak,z,am⟩:=((i.up x).up y).dyeO 32
 have an:=aj.t z
 cases Y
 rw[<- ak.trans (ah)]
 exact Cw.ret (zn3 O ((ae.up y).up z) (Res.mk an ⟨a,b,O,(ai.up z).s,am.s⟩))
theorem p83 {x0 d f k0 k1 r}(h:Rd W K [d,vS x0.Who,f] x0)(Y:Vm.zcW x0=some r):Q1 83 [.agg [d,vS x0.Who,f].toArray] W [] fun W' v=> ∃ a b,v = .agg [a,vS r.Who,b].toArray/\Ow W' k0 [] [a] r.Parents/\Ow W' k1 [] [b] r.Tree:=
 zao.adJ (J:=[]) (fun c=>bif Nat.beq c 0 then 0 else bif Nat.beq c 31 then k0 else bif Nat.beq c 32 then k1 else 0) (c83 (h.view _) Y) fun _ _ ⟨a,b,e,i,k⟩=>⟨a,b,e,i.one1.backN O,k.one1.backN O⟩
theorem c35 {x0 X Z r}(h0:Rd W0 [0] [X,Z] x0)(Y:Vm.zbl x0=some r):Q0 35 [.agg [X,Z].toArray] W0 fun Wf v=> ∃ aa ac,v = .agg [aa,ac].toArray/\OwS Wf [31] [] [aa] r.Commits/\OwS Wf [32] [] [ac] r.Heads:=by
 unfold Vm.zbl at Y
 obtain⟨b5,b6,ae,af,au⟩:=Repo.split h0
 simp only[List.cons.injEq,and_true,true_and]at ae
 obtain⟨rfl,rfl⟩:=ae
 refine zao.of Tryz.func35 O O O O (sr (bo 2 O fun g1 W1 l1 b1=>?_))
 have a2:=l1.o
 refine al 3 [.slice none 0 0, .slice none 0 0] fun g3 W3 l3 b3=>?_
 have a4:=a2.n l3
 refine nl (sr (Lw.t O (T.lit0 (α:=Head) 4 []) ?_))
 rintro v6 _ ⟨W6,rfl,C,o6⟩
 have a7:=a4.n C
 have b8:=(b1.up l3).up C
 refine fl b8 O ?_
 obtain⟨a1,a3,Y⟩:=ob Y
 refine Lw.t O (T.appP (α:=Head) o6 (au.ul a7) O O a3) ?_
 rintro D _ ⟨cf,rfl,E,F⟩
 have a5:=a7.t E
 refine Lw.r O (R.bd (zs:=[.slice none 0 0, .slice none 0 0]) (cs:=[.slice none 0 0,D]) [(1,D)] O O O (zaA F.oc O zc8)) (al 5 [.slice none 0 0, .slice none 0 0] fun a6 cg e a8=>?_)
 have a9:=a5.n e
 refine sta a8 (zaa O (zaa (F.up e).oc zaG)) fun ak i ba=>?_
 have bb:=a9.t i
 refine nl (ssr (Ni O (Cw.block ?_)))
 obtain⟨bc,be,Y⟩:=zaY Y
 refine Cw.loop 10 27 [4] (fun m l w=> ∃ k G x y f d,CW.w d=w/\Le [5,6,7,8] ak d/\l=[vI k]/\Ow d 6 [] [y] G/\Ow d 4 [] [f] x/\Bx d 5 a6 [y,f]/\Vm.zcG x0 bc m k G x=some r) _ ⟨0,([]:List Commit),a1, .slice none 0 0,D,ak,O,Le.refl _ _,O,owN 6 [],((F.up e).up i),ba,Y⟩ ?_
 rintro(_ |ch) _ _ σ ⟨k,G,x,y,f,d,rfl,z,rfl,H,I,L,Y⟩
 ·cases Y
 unfold Vm.zcG at Y
 have M:=bb.t z
 have am:=(((b8.up E).up e).up i).up z
 refine ssr (mi O (fl am O (Lw.ln x0.Commits (af.ul M) O (Lw.lt O (nl (cn Y (fun Y=>?_) fun Y=>?_))))))
 ·refine sk (Cw.seq (Cw.block (Cw.draw [6,7,8] [(0,0),(1,1),(2,0),(3,1),(4,0),(5,0),(6,1),(7,2),(8,2),(9,2),(10,0),(11,3)] mixed (by kernel_rfl) fun ci a=>?_)))
  have bg:=M.n a
  refine Dfl (L.up a) O O O (Dfl (am.up a) O O O (Di O ?_))
  obtain⟨N,P,Y⟩:=ob Y
  have Q:=af.ul bg
  refine Mw.p O O (fun _=>R.ix (α:=Commit) Q P O O O) ?_
  obtain⟨x53,c54,_,r55⟩:=(Q.at_ P).cells
  obtain⟨cj,ck,rfl,r57,r59⟩:=Commit.split r55
  refine Mw.q O O (fun _ c=>R.lda (zkz (Q.at_ P).1 O c54 c) O O) (Dc Y (Le.refl _ _) (fun _=>p83 (k0:=7) (k1:=8) (Commit.rd (K:=[0]) N.Parents N.Who N.Tree r57 r59)) O ?_)
  rintro h _ cl Y A ⟨an,ao,rfl,bh,bi⟩ bj
  refine Mw.t O O (T.bs 9 [.agg [an,vS h.Who,ao].toArray] (cs:=[an,vS h.Who,ao]) O O (bsA O)) ?_
  rintro _ _ ⟨cm,co,rfl,rfl,b,bk⟩
  refine mc bj b fun bl=>?_
  obtain⟨bm,bn,Y⟩:=ob Y
  refine Mw.t O O (T.app1 (α:=Commit) (J:=[7,8]) (K':=[]) (((H.up a).up A).up b) bk (Commit.own h.Parents h.Who h.Tree (bh.up b).s (bi.up b).s) O O bn) ?_
  rintro ap _ ⟨cp,rfl,B,aq⟩
  refine mc bl B fun cq=>Df O (Mw.lu O (T.st (j:=0) (v:=ap) ((((L.up a).up A).up b).up B) O O aq.oc O O) ?_)
  rintro _ _ ⟨bp,rfl,S,bq⟩
  exact Mw.nil (rg (mi O (Lw.add O (Ni O ((agm) ⟨w64 (k+1),bm,x,ap,f,bp,O,(((((z.j a).j A).j b).j B).j S).w,O,(aq.up S),(((((I.up a).up A).up b).up B).up S),bq,Y⟩)))))
 ·refine Cw.exit ?_
  rw[be]at Y
  refine sr (la L (sta (((((b3.up C).up E).up e).up i).up z) (zaa H.oc (zaa I.oc zaG)) fun ct U br=>?_))
  have bu:=M.t U
  refine nl ?_
  obtain⟨cu,bv,V,bw⟩:=(H.up U).dyeO 31
  have bz:=bu.t V
  obtain⟨cv,b0,W,b2⟩:=((I.up U).up V).dyeO 32
  have b4:=bz.t W
  cases Y
  rw[<- b0.trans (bv)]
  exact Cw.ret (zn3 O ((br.up V).up W) (Res.mk b4 ⟨y,f,O,(bw.up W).s,b2.s⟩))
theorem p35 {x0 d f k0 k1 r}(h:Rd W K [d,f] x0)(Y:Vm.zbl x0=some r):Q1 35 [.agg [d,f].toArray] W [] fun W' v=> ∃ a b,v = .agg [a,b].toArray/\Ow W' k0 [] [a] r.Commits/\Ow W' k1 [] [b] r.Heads:=
 zao.adJ (J:=[]) (fun c=>bif Nat.beq c 0 then 0 else bif Nat.beq c 31 then k0 else bif Nat.beq c 32 then k1 else 0) (c35 (h.view _) Y) fun _ _ ⟨a,b,e,i,k⟩=>⟨a,b,e,i.one1.backN O,k.one1.backN O⟩
theorem c86 {x0 y a9 x1 x2 r}(h0:Rd W0 [0] [y,a9] x0)(Y:Vm.zfB x0 x1 x2=some r):Q0 86 [.agg [y,a9].toArray,vS x1,vI x2] W0 fun Wf v=> ∃ ba bb,v = .agg [ba,bb].toArray/\Rd Wf [0] [ba] r.Commits/\Rd Wf [0] [bb] r.Heads:=by
 unfold Vm.zfB at Y
 obtain⟨du,dv,bc,an,I⟩:=Repo.split h0
 simp only[List.cons.injEq,and_true,true_and]at bc
 obtain⟨rfl,rfl⟩:=bc
 refine zao.of Tryz.func86 O O O O (sr (bo 2 O fun g1 W1 l1 b1=>?_))
 have a2:=l1.o
 refine al 3 [.slice none 0 0, .slice none 0 0] fun g3 W3 l3 b3=>?_
 have a4:=a2.n l3
 refine nl (sr (fl (b1.up l3) O (Lw.r O (R.bd (zs:=[.slice none 0 0, .slice none 0 0]) (cs:=[y, .slice none 0 0]) [(0,y)] O O O (zaA an.oc O zc8)) (al 4 [.slice none 0 0, .slice none 0 0] fun J W6 l6 b6=>?_))))
 have a7:=a4.n l6
 refine sta b6 (zaa an.oc (zaa O zaG)) fun bg l10 cf=>?_
 have bh:=a7.t l10
 refine nl (sr (Nb O (ssr (Ni O (Cw.block ?_)))))
 obtain⟨cg,ch,Y⟩:=zaY Y
 refine Cw.loop 13 57 [8,9] (fun m l w=> ∃ L N b z d A a,CW.w a=w/\Le [4,5] bg a/\l=[vB L,vI N]/\Rd a [0] [d] b/\Ow a 5 [] [A] z/\Bx a 4 J [d,A]/\Vm.zcH x0 x1 x2 cg m L N b z=some r) _ ⟨false,0,x0.Commits,([]:List Head),y, .slice none 0 0,bg,O,Le.refl _ _,O,(an.ul bh),owN 5 [],cf,Y⟩ ?_
 rintro(_ |d1) _ _ σ ⟨L,N,b,z,d,A,a,rfl,P,rfl,r18,Q,S,Y⟩
 ·cases Y
 unfold Vm.zcH at Y
 have aq:=bh.t P
 have U:=(((b1.up l3).up l6).up l10).up P
 refine ssr ?_
 have ar:=I.ul aq
 refine mi O (fl U O (Lw.ln x0.Heads ar O (Lw.lt O (nl (cn Y (fun Y=>?_) fun Y=>?_)))))
 ·refine sk ?_
  obtain⟨ci,cj,Y⟩:=zaY Y
  refine Cw.join 20 57 [8] (fun l w=> ∃ V W X Z aa e,CW.w e=w/\Le [4,5] a e/\l=[vB V]/\Rd e [0] [Z] W/\Ow e 5 [] [aa] X/\Bx e 4 J [Z,aa]/\ci V W X=some r) ?_ ?_
  ·rintro _ _ σ ⟨V,W,X,Z,aa,e,rfl,ck,rfl,r35,cl,cm,Y⟩
   rw[cj]at Y
   exact rg (mi O (Lw.add O (Ni O ((agm) ⟨V,w64 (N+1),W,X,Z,aa,e,O,(P.j ck).w,O,r35,cl,cm,Y⟩))))
  ·refine Cw.block ?_
   obtain⟨co,cp,Y⟩:=zaY Y
   refine Cw.join 20 39 [8] (fun l w=> ∃ B C ac D ae f,CW.w f=w/\Le [4,5] a f/\l=[vB B]/\Rd f [0] [D] C/\Ow f 5 [] [ae] ac/\Bx f 4 J [D,ae]/\co B C ac=some r) ?_ ?_
   ·rintro _ _ σ ⟨B,C,ac,D,ae,f,rfl,E,rfl,r48,bi,au,Y⟩
    rw[cp]at Y
    have av:=aq.t E
    refine sr (fl (U.up E) O (mi O ?_))
    obtain⟨d2,bj,Y⟩:=ob Y
    refine Lw.r O (R.ix (α:=Head) (I.ul av) bj O O O) (Lw.fa O (Lw.r O (R.ld O O (Head.at0 ((I.ul av).at_ bj)).str) (ms O (Lw.sne O (nl (cn Y (fun Y=>?_) fun Y=>?_))))))
    ·refine Cw.draw [5] [(0,0),(1,1),(2,0),(3,1),(4,0),(5,0),(6,1),(7,2),(8,2),(9,0),(10,3)] mixed (by kernel_rfl) fun d3 h=>?_
     have bk:=h.o
     refine Dfl (au.up h) O O O (Dfl ((U.up E).up h) O O O (Di O ?_))
     obtain⟨i,aw,Y⟩:=ob Y
     have ax:=I.ul (av.trans bk)
     refine Mw.p O O (fun _=>R.ix (α:=Head) ax aw O O O) ?_
     obtain⟨x71,c72,_,r73⟩:=(ax.at_ aw).cells
     obtain rfl:=Head.split r73
     refine Mw.q O O (fun _ c=>R.lda (zkz (ax.at_ aw).1 O c72 c) O O) (Mw.t O O (T.bs 6 [.agg [vS i.Name,vI i.At].toArray] (cs:=[vS i.Name,vI i.At]) O O (bsA O)) ?_)
     rintro _ _ ⟨d4,d5,rfl,rfl,F,cq⟩
     have ct:=bk.n F
     refine m0 F fun cu=>?_
     obtain⟨cv,cw,Y⟩:=ob Y
     refine Mw.t O O (T.app1S (α:=Head) (K':=[]) ((bi.up h).up F) cq (Head.rd (K:=[]) i.Name i.At) O O cw) ?_
     rintro bl _ ⟨d6,rfl,af,bm⟩
     have cx:=ct.t af
     refine mc cu af fun d7=>Df O (Mw.lu O (T.st (j:=1) (v:=bl) (((au.up h).up F).up af) O O bm.oc O O) ?_)
     rintro _ _ ⟨cy,rfl,ay,cz⟩
     have c0:=cx.t ay
     exact Mw.nil ((ag) ⟨B,C,cv,D,bl,cy,O,((((E.j h).j F).j af).j ay).w,O,(r48.ul c0),(bm.up ay),cz,Y⟩)
    ·exact sk ((ag) ⟨B,C,ac,D,ae,f,O,E,O,r48,bi,au,Y⟩)
   ·obtain⟨c1,c2,Y⟩:=zaY Y
    refine Cw.join 20 31 [31] (fun l w=> ∃ az ah,CW.w ah=w/\Le [] a ah/\l=[vB az]/\c1 az=some r) ?_ ?_
    ·rintro _ _ σ ⟨az,ah,rfl,k,rfl,Y⟩
     rw[c2]at Y
     have bn:=k.o
     have a0:=S.up k
     refine cn Y (fun Y=>?_) fun Y=>?_
     ·refine sr (fl a0 O (ms O (mi O (Lw.r O (R.bd (zs:=[vS ([]:Str),vI 0]) (cs:=[vS x1,vI x2]) [(0,vS x1),(1,vI x2)] O O O (zaA O O (zaA O O zc8))) (Lw.t O (T.bs 7 [.agg [vS x1,vI x2].toArray] (cs:=[vS x1,vI x2]) O O (bsA O)) ?_)))))
      rintro _ _ ⟨d8,d9,rfl,rfl,ai,c3⟩
      have c4:=bn.n ai
      obtain⟨c5,c6,Y⟩:=ob Y
      refine Lw.t O (T.app1S (α:=Head) (K':=[]) ((Q.up k).up ai) c3 (Head.rd (K:=[]) x1 x2) O O c6) ?_
      rintro bp _ ⟨ea,rfl,a1,bq⟩
      have c7:=c4.t a1
      refine Lw.fa O (Lw.u (T.st (j:=1) (v:=bp) ((a0.up ai).up a1) O O bq.oc O O) ?_)
      rintro _ _ ⟨c8,rfl,a3,c9⟩
      have da:=c7.t a3
      exact nl (rg (Nb O ((ag) ⟨true,b,c5,d,bp,c8,O,(((k.j ai).j a1).j a3).w,O,(r18.ul da),(bq.up a3),c9,Y⟩)))
     ·exact sk ((ag) ⟨L,b,z,d,A,ah,O,k.w,O,(r18.ul bn),(Q.up k),a0,Y⟩)
    ·refine rg (mb O (Lw.r O (R.not O) (mb O (bs Y (fun G Y=>?_) fun G Y=>?_))))
     ·refine wak 8 G (fl U O (mi O ?_))
      obtain⟨db,br,Y⟩:=ob Y
      exact Lw.r O (R.ix (α:=Head) ar br O O O) (Lw.fa O (Lw.r O (R.ld O O (Head.at0 (ar.at_ br)).str) (ms O (Lw.r O (R.sge O O) (Pb G O (nl ((ag) ⟨(!Op.bytesLess db.Name x1),a,O,Le.refl _ _,O,Y⟩)))))))
     ·exact psk 8 G O (Pb G O (nl ((ag) ⟨false,a,O,Le.refl _ _,O,Y⟩)))
 ·refine Cw.exit ?_
  rw[ch]at Y
  obtain⟨dc,dd,Y⟩:=zaY Y
  refine Cw.join 58 67 [] (fun l w=> ∃ a5 aj ak H x,CW.w x=w/\Le [4,5] a x/\l=[]/\Rd x [0] [ak] a5/\Ow x 5 [] [H] aj/\Bx x 4 J [ak,H]/\dc a5 aj=some r) ?_ ?_
  ·rintro _ _ σ ⟨a5,aj,ak,H,x,rfl,bu,rfl,r131,bv,de,Y⟩
   rw[dd]at Y
   have df:=aq.t bu
   refine sr (la de (sta ((((b3.up l6).up l10).up P).up bu) (zaa r131.oc (zaa bv.oc zaG)) fun eb bw dg=>?_))
   have bz:=bw.s
   refine nl ?_
   obtain⟨dh,di,b0,dj⟩:=zmg _ 5
   have dk:Rd (α:=List Vm.Head) dh [0] [H] aj:=by rw[dj];exact((bv.up bw).rd.dye 5).sub (M:=[0]) O
   have b2:=b0.s
   cases Y
   rw[<- di]
   exact Cw.ret (zn3 O (dg.up b0) (Res.mk ((df.trans bz).trans b2) ⟨ak,H,O,(r131.ul (bz.trans b2)),dk⟩))
  ·refine sr (mb O (Lw.r O (R.not O) (nl (cn Y (fun Y=>?_) fun Y=>?_))))
   ·refine rg (fl S O (ms O (mi O (Lw.r O (R.bd (zs:=[vS ([]:Str),vI 0]) (cs:=[vS x1,vI x2]) [(0,vS x1),(1,vI x2)] O O O (zaA O O (zaA O O zc8))) (Lw.t O (T.bs 8 [.agg [vS x1,vI x2].toArray] (cs:=[vS x1,vI x2]) O O (bsA O)) ?_)))))
    rintro _ _ ⟨ec,ed,rfl,rfl,am,dl⟩
    have dm:=am.o
    obtain⟨dn,dp,Y⟩:=ob Y
    refine Lw.t O (T.app1S (α:=Head) (K':=[]) (Q.up am) dl (Head.rd (K:=[]) x1 x2) O O dp) ?_
    rintro b4 _ ⟨ee,rfl,a6,b5⟩
    have dq:=dm.t a6
    refine Lw.fa O (Lw.u (T.st (j:=1) (v:=b4) ((S.up am).up a6) O O b5.oc O O) ?_)
    rintro _ _ ⟨dr,rfl,a8,ds⟩
    have dt:=dq.t a8
    exact nl ((ag) ⟨b,dn,d,b4,dr,O,((am.j a6).j a8).w,O,(r18.ul dt),(b5.up a8),ds,Y⟩)
   ·exact sk ((ag) ⟨b,z,d,A,a,O,Le.refl _ _,O,r18,Q,S,Y⟩)
theorem p86 {x0 d f x1 x2 r}(h:Rd W K [d,f] x0)(Y:Vm.zfB x0 x1 x2=some r):Q1 86 [.agg [d,f].toArray,vS x1,vI x2] W [] fun W' v=> ∃ a b,v = .agg [a,b].toArray/\Rd W' (0::K) [a] r.Commits/\Rd W' (0::K) [b] r.Heads:=
 (c86 (h.view _) Y).ad (fk 0) fun _ _ ⟨a,b,e,i,k⟩=>⟨a,b,e,i.back O,k.back O⟩
theorem c169 {x0 h x1 i x2 k r}(G:Rd W0 [0] [h] x0)(H:Rd W0 [0] [i] x1)(I:Rd W0 [0] [k] x2)(Y:Vm.zfN x0 x1 x2=some r):Q0 169 [h,i,k] W0 fun Wf v=> ∃ N,v=N/\Rd Wf [0] [N] r:=by
 unfold Vm.zfN at Y
 refine zao.of Tryz.func169 O O O O (sr (Nv (.slice none 0 0) O (sr (Lw.t O (T.lit0 (α:=Str) 2 []) ?_))))
 rintro J _ ⟨W1,rfl,l1,o1⟩
 have a2:=l1.o
 refine Nv J O (ssr (Ni O (Cw.block ?_)))
 obtain⟨K,af,l3,ai⟩:=zmg _ 2
 rw[<- af]
 have s4:Rd (α:=List Str) K [0] [J] ([]:List Str):=by rw[ai];exact(o1.rd.dye 2).sub (M:=[0]) O
 have a5:=a2.t l3
 obtain⟨am,an,Y⟩:=zaY Y
 refine Cw.loop 12 24 [7,8] (fun m l w=> ∃ x y e b,CW.w b=w/\Le [] K b/\l=[e,vI y]/\Rd b [0] [e] x/\Vm.zb5 x0 am m x y=some r) _ ⟨([]:List Str),0,J,K,O,Le.refl _ _,O,s4,Y⟩ ?_
 rintro(_ |bc) _ _ σ ⟨x,y,e,b,rfl,l10,rfl,r8,Y⟩
 ·cases Y
 unfold Vm.zb5 at Y
 have z:=a5.n l10
 refine ssr (mi O (mv h O (Lw.ln x0 (G.ul z) O (Lw.lt O (nl (cn Y (fun Y=>?_) fun Y=>?_))))))
 ·refine sk (Cw.seq (Cw.block (rg (mv e O (mv h O (mi O ?_))))))
  obtain⟨be,P,Y⟩:=ob Y
  refine Lw.r O (R.ix (α:=File) (G.ul z) P O O O) (Lw.fa O (Lw.r O (R.ld O O (File.at0 ((G.ul z).at_ P)).str) (cr Y (fun _=>p133 r8) ?_)))
  rintro ao Q ap Y aq ⟨_,rfl,ar⟩
  have au:=ar.sub (M:=[0]) O
  exact Nv Q O (rg (mi O (Lw.add O (Ni O ((agm) ⟨ao,w64 (y+1),Q,ap,O,(l10.j aq).w,O,au,Y⟩)))))
 ·refine Cw.exit ?_
  rw[an]at Y
  refine ssr (Ni O (Cw.block ?_))
  obtain⟨av,aw,Y⟩:=zaY Y
  refine Cw.loop 25 37 [7,9] (fun m l w=> ∃ A B f d,CW.w d=w/\Le [] b d/\l=[f,vI B]/\Rd d [0] [f] A/\Vm.za2 x1 av m A B=some r) _ ⟨x,0,e,b,O,Le.refl _ _,O,r8,Y⟩ ?_
  rintro(_ |bg) _ _ σ ⟨A,B,f,d,rfl,S,rfl,r25,Y⟩
  ·cases Y
  unfold Vm.za2 at Y
  have C:=z.n S
  refine ssr (mi O (mv i O (Lw.ln x1 (H.ul C) O (Lw.lt O (nl (cn Y (fun Y=>?_) fun Y=>?_))))))
  ·refine sk (Cw.seq (Cw.block (rg (mv f O (mv i O (mi O ?_))))))
   obtain⟨bh,U,Y⟩:=ob Y
   refine Lw.r O (R.ix (α:=File) (H.ul C) U O O O) (Lw.fa O (Lw.r O (R.ld O O (File.at0 ((H.ul C).at_ U)).str) (cr Y (fun _=>p133 r25) ?_)))
   rintro ax V ay Y az ⟨_,rfl,a0⟩
   have a1:=a0.sub (M:=[0]) O
   exact Nv V O (rg (mi O (Lw.add O (Ni O ((agm) ⟨ax,w64 (B+1),V,ay,O,(S.j az).w,O,a1,Y⟩)))))
  ·refine Cw.exit ?_
   rw[aw]at Y
   refine ssr (Ni O (Cw.block ?_))
   obtain⟨a3,a4,Y⟩:=zaY Y
   refine Cw.loop 38 50 [7,10] (fun m l w=> ∃ L D a E,CW.w E=w/\Le [] d E/\l=[a,vI D]/\Rd E [0] [a] L/\Vm.zaH x2 a3 m L D=some r) _ ⟨A,0,f,d,O,Le.refl _ _,O,r25,Y⟩ ?_
   rintro(_ |bi) _ _ σ ⟨L,D,a,E,rfl,W,rfl,r42,Y⟩
   ·cases Y
   unfold Vm.zaH at Y
   have F:=C.n W
   refine ssr (mi O (mv k O (Lw.ln x2 (I.ul F) O (Lw.lt O (nl (cn Y (fun Y=>?_) fun Y=>?_))))))
   ·refine sk (Cw.seq (Cw.block (rg (mv a O (mv k O (mi O ?_))))))
    obtain⟨bj,X,Y⟩:=ob Y
    refine Lw.r O (R.ix (α:=File) (I.ul F) X O O O) (Lw.fa O (Lw.r O (R.ld O O (File.at0 ((I.ul F).at_ X)).str) (cr Y (fun _=>p133 r42) ?_)))
    rintro a6 Z a7 Y a8 ⟨_,rfl,a9⟩
    have ba:=a9.sub (M:=[0]) O
    exact Nv Z O (rg (mi O (Lw.add O (Ni O ((agm) ⟨a6,w64 (D+1),Z,a7,O,(W.j a8).w,O,ba,Y⟩)))))
   ·refine Cw.exit ?_
    rw[a4]at Y
    refine sr (mv a O (Nv a O ?_))
    cases Y
    exact Cw.ret (zik O (Res.mk F ⟨a,O,r42⟩))
theorem p169 {x0 b x1 d x2 f r}(h:Rd W K [b] x0)(i:Rd W K [d] x1)(k:Rd W K [f] x2)(Y:Vm.zfN x0 x1 x2=some r):Q1 169 [b,d,f] W [] fun W' v=> ∃ a,v=a/\Rd W' (0::K) [a] r:=
 (c169 (h.view _) (i.view _) (k.view _) Y).ad (fk 0) fun _ _ ⟨a,e,x⟩=>⟨a,e,x.back O⟩
theorem c199 {x0 d x1 x2 e x3 r}(i:Rd W0 [0] [d] x0)(k:Rd W0 [0] [e] x2)(Y:Vm.zfC x0 x1 x2 x3=some r):Q0 199 [d,vB x1,e,vB x3] W0 fun Wf v=>v=vB r:=by
 unfold Vm.zfC at Y
 refine zao.of Tryz.func199 O O O O (sr (Nb O ?_))
 obtain⟨x,y,Y⟩:=zaY Y
 refine Cw.join 9 20 [8] (fun l w=> ∃ f h,CW.w h=w/\Le [] W0 h/\l=[vB f]/\x f=some r) ?_ ?_
 ·rintro _ _ σ ⟨f,h,rfl,z,rfl,Y⟩
  rw[y]at Y
  have A:=z.o
  exact .ret (rt Y A)
 ·refine rg (mb O (mb O (Lw.r O (R.beq O O) (mb O (bs Y (fun a Y=>?_) fun a Y=>?_)))))
  ·refine wak 3 a (mb O (Lw.r O (R.not O) (mb O (bs Y (fun b Y=>?_) fun b Y=>?_))))
   ·exact psk 3 b O (wak 1 a (Pb b O (Pb a O (Nb O ((ag) ⟨true,W0,O,Le.refl _ _,O,Y⟩)))))
   ·exact wak 3 b (mv d O (mv e O (ca Y (fun _=>p196 i k) fun B C Y D=>wak 1 a (Pb b O (Pb a O (Nb O ((ag) ⟨B,C,O,D,O,Y⟩)))))))
  ·exact psk 3 a O (puk 3 O (psk 1 a O (Pb a O (Nb O ((ag) ⟨false,W0,O,Le.refl _ _,O,Y⟩)))))
theorem p199 {x0 a x1 x2 b x3 r}(d:Rd W K [a] x0)(f:Rd W K [b] x2)(Y:Vm.zfC x0 x1 x2 x3=some r):Q1 199 [a,vB x1,b,vB x3] W [] fun W' v=>v=vB r:=
 (c199 (d.view _) (f.view _) Y).ad (fk 0) fun _ _ e=>e
theorem c230 {x0 d x1 a x2 b r}(C:Rd W0 [0] [d] x0)(e:Rd W0 [0] [a] x1)(f:Rd W0 [0] [b] x2)(Y:Vm.zgN x0 x1 x2=some r):Q0 230 [d,a,b] W0 fun Wf v=> ∃ W X Z aa,v = .agg [vB r.Clash,W,X,Z,aa].toArray/\OwS Wf [31] [] [W] r.Lines/\OwS Wf [32] [] [X] r.Old/\OwS Wf [33] [] [Z] r.One/\OwS Wf [34] [] [aa] r.Two:=by
 unfold Vm.zgN at Y
 refine zao.of Tryz.func230 O O O O (sr (al 2 [vB false, .slice none 0 0, .slice none 0 0, .slice none 0 0, .slice none 0 0] fun g1 W1 l1 b1=>?_))
 have h:=l1.o
 refine nl (Cw.seq (Cw.block ?_))
 obtain⟨K5,a5,Y⟩:=zaY Y
 refine Cw.join 7 13 [7] (fun l w=> ∃ D E,CW.w E=w/\Le [] W1 E/\l=[vB D]/\K5 D=some r) ?_ ?_
 ·rintro _ _ σ ⟨D,E,rfl,F,rfl,Y⟩
  rw[a5]at Y
  have i:=h.n F
  refine cn Y (fun Y=>?_) fun Y=>?_
  ·refine sr (Lw.t O (T.lit0 (α:=Str) 3 []) ?_)
   rintro v9 _ ⟨W9,rfl,l9,o9⟩
   have af:=i.n l9
   refine mv b O ?_
   obtain⟨ct,a8,Y⟩:=ob Y
   refine Lw.t O (T.appP (α:=Str) o9 (f.ul af) O O a8) ?_
   rintro G _ ⟨cu,rfl,ah,H⟩
   have a9:=af.t ah
   refine Lw.r O (R.bd (zs:=[vB false, .slice none 0 0, .slice none 0 0, .slice none 0 0, .slice none 0 0]) (cs:=[vB false,G, .slice none 0 0, .slice none 0 0, .slice none 0 0]) [(1,G)] O O O (zaA H.oc O zc8)) (sta (((b1.up F).up l9).up ah) (zaa O (zaa H.oc (zaa O (zaa O (zaa O zaG))))) fun cv ai ba=>?_)
   have bb:=a9.t ai
   refine nl ?_
   obtain⟨cw,bc,aj,be⟩:=(H.up ai).dyeO 31
   have bg:=bb.t aj
   cases Y
   rw[<- bc]
   exact Cw.ret (zn3 O (ba.up aj) (Res.mk bg ⟨G, .slice none 0 0, .slice none 0 0, .slice none 0 0,O,be.s,(zp0 []).sub O O,(zp0 []).sub O O,(zp0 []).sub O O⟩))
  ·refine sr (mv b O (mv d O (ca Y (fun _=>p196 (f.ul i) (C.ul i)) fun cx cy Y ak=>?_)))
   have am:=i.n ak
   have an:=(b1.up F).up ak
   refine Nb O (cn Y (fun Y=>?_) fun Y=>?_)
   ·refine sr (Lw.t O (T.lit0 (α:=Str) 4 []) ?_)
    rintro cz _ ⟨c0,rfl,ao,bh⟩
    have ap:=am.n ao
    refine mv a O ?_
    obtain⟨c1,bi,Y⟩:=ob Y
    refine Lw.t O (T.appP (α:=Str) bh (e.ul ap) O O bi) ?_
    rintro I _ ⟨c2,rfl,aq,J⟩
    have bj:=ap.t aq
    refine Lw.r O (R.bd (zs:=[vB false, .slice none 0 0, .slice none 0 0, .slice none 0 0, .slice none 0 0]) (cs:=[vB false,I, .slice none 0 0, .slice none 0 0, .slice none 0 0]) [(1,I)] O O O (zaA J.oc O zc8)) (sta ((an.up ao).up aq) (zaa O (zaa J.oc (zaa O (zaa O (zaa O zaG))))) fun c3 ar bk=>?_)
    have bl:=bj.t ar
    refine nl ?_
    obtain⟨c4,bm,au,bn⟩:=(J.up ar).dyeO 31
    have bp:=bl.t au
    cases Y
    rw[<- bm]
    exact Cw.ret (zn3 O (bk.up au) (Res.mk bp ⟨I, .slice none 0 0, .slice none 0 0, .slice none 0 0,O,bn.s,(zp0 []).sub O O,(zp0 []).sub O O,(zp0 []).sub O O⟩))
   ·refine sk (sr (Lw.t O (T.lit0 (α:=Str) 5 []) ?_))
    rintro c5 _ ⟨c6,rfl,av,bq⟩
    have aw:=am.n av
    refine mv d O ?_
    obtain⟨c7,br,Y⟩:=ob Y
    refine Lw.t O (T.appP (α:=Str) bq (C.ul aw) O O br) ?_
    rintro K _ ⟨c8,rfl,ax,bu⟩
    have bv:=aw.t ax
    refine Lw.t O (T.lit0 (α:=Str) 6 []) ?_
    rintro c9 _ ⟨da,rfl,L,bw⟩
    have ay:=bv.n L
    refine mv a O ?_
    obtain⟨db,bz,Y⟩:=ob Y
    refine Lw.t O (T.appP (α:=Str) bw (e.ul ay) O O bz) ?_
    rintro M _ ⟨dc,rfl,N,b0⟩
    have b2:=ay.t N
    refine Lw.t O (T.lit0 (α:=Str) 7 []) ?_
    rintro dd _ ⟨de,rfl,k,b3⟩
    have az:=b2.n k
    refine mv b O ?_
    obtain⟨df,b4,Y⟩:=ob Y
    refine Lw.t O (T.appP (α:=Str) b3 (f.ul az) O O b4) ?_
    rintro P _ ⟨dg,rfl,x,Q⟩
    have b5:=az.t x
    have S:=(((bu.up L).up N).up k).up x
    have U:=(b0.up k).up x
    refine Lw.r O (R.bd (zs:=[vB false, .slice none 0 0, .slice none 0 0, .slice none 0 0, .slice none 0 0]) (cs:=[vB true, .slice none 0 0,K,M,P]) [(0,vB true),(2,K),(3,M),(4,P)] O O O (zaA O O (zaA S.oc O (zaA U.oc O (zaA Q.oc O zc8))))) (sta ((((((an.up av).up ax).up L).up N).up k).up x) (zaa O (zaa O (zaa S.oc (zaa U.oc (zaa Q.oc zaG))))) fun dh y b6=>?_)
    have b7:=b5.t y
    refine nl ?_
    obtain⟨di,b8,z,b9⟩:=(S.up y).dyeO 32
    have cb:=b7.t z
    obtain⟨dj,cc,A,cd⟩:=((U.up y).up z).dyeO 33
    have ce:=cb.t A
    obtain⟨dk,cf,B,cg⟩:=(((Q.up y).up z).up A).dyeO 34
    have ch:=ce.t B
    cases Y
    rw[<- cf.trans (cc.trans (b8))]
    exact Cw.ret (zn3 O (((b6.up z).up A).up B) (Res.mk ch ⟨.slice none 0 0,K,M,P,O,(zp0 []).sub O O,((b9.up A).up B).s,(cd.up B).s,cg.s⟩))
 ·refine sr (mv a O (mv d O (ca Y (fun _=>p196 (e.ul h) (C.ul h)) fun ci cj Y V=>?_)))
  have a0:=h.n V
  refine Nb O (cn Y (fun Y=>?_) fun Y=>?_)
  ·exact sk ((ag) ⟨ci,cj,O,V,O,Y⟩)
  ·exact rg (mv a O (mv b O (ca Y (fun _=>p196 (e.ul a0) (f.ul a0)) fun ck cl Y cm=>Nb O ((ag) ⟨ck,cl,O,(V.j cm).w,O,Y⟩))))
theorem p230 {x0 h x1 i x2 k k0 k1 k2 k3 r}(x:Rd W K [h] x0)(y:Rd W K [i] x1)(z:Rd W K [k] x2)(Y:Vm.zgN x0 x1 x2=some r):Q1 230 [h,i,k] W [] fun W' v=> ∃ a b d f,v = .agg [vB r.Clash,a,b,d,f].toArray/\Ow W' k0 [] [a] r.Lines/\Ow W' k1 [] [b] r.Old/\Ow W' k2 [] [d] r.One/\Ow W' k3 [] [f] r.Two:=
 zao.adJ (J:=[]) (fun c=>bif Nat.beq c 0 then 0 else bif Nat.beq c 31 then k0 else bif Nat.beq c 32 then k1 else bif Nat.beq c 33 then k2 else bif Nat.beq c 34 then k3 else 0) (c230 (x.view _) (y.view _) (z.view _) Y) fun _ _ ⟨a,b,d,f,e,A,B,C,D⟩=>⟨a,b,d,f,e,A.one1.backN O,B.one1.backN O,C.one1.backN O,D.one1.backN O⟩
end Go.Sx
