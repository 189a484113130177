/- Walks: each function answers as its model, printed by a program of ours. Conditions: the arguments read as they are given. -/
import Derived.Test.YtiahldhbknpmiaaGreatDoorBTs
import Derived.Test.YtiahldhbknpmiaaGreatDoorBM12
import Derived.Test.YtiahldhbknpmiaaGreatDoorBW13
import Derived.Test.YtiahldhbknpmiaaGreatDoorBW14
import Derived.Test.YtiahldhbknpmiaaGreatDoorBW15
import Derived.Test.YtiahldhbknpmiaaGreatDoorBW6
import Derived.Test.YtiahldhbknpmiaaGreatDoorBW7
namespace Go.Sx
open Go Go.Proofs Go.Vm Rp
set_option linter.unusedVariables false
set_option linter.unusedSimpArgs false
variable {W W0:CW}{K:List Nat}
theorem c12 {x0 aq x1 D r}(h0:Rd W0 [0] [aq] x0)(h1:Rd W0 [0] [D] x1)(E:Gl 0 W0 [0])(Y:Vm.zkG x0 x1=some r):Q0 12 [aq,D] W0 fun Wf v=>v=vB r:=by
 unfold Vm.zkG at Y
 refine zaY.of Tryz.func12 O O O O (sr (Nb O (Cw.seq ?_)))
 obtain⟨K3,dq,Y⟩:=zdY Y
 refine Cw.join 14 21 [21] (fun l w=> ∃ y1 W2,CW.w W2=w/\Le [] W0 W2/\l=[vB y1]/\K3 y1=some r) ?_ ?_
 ·rintro _ _ σ ⟨y1,W2,rfl,l2,rfl,Y⟩
  rw[dq]at Y
  have a4:=l2.o
  refine cn Y (fun Y=>?_) fun Y=>?_
  ·exact sr (Nb O (.ret (rt Y a4)))
  ·refine sk (sr (mv aq O (cr Y (fun _=>p55 (k0:=2) (k1:=3) (k2:=4) (h0.ul a4)) ?_)))
   rintro a _ W9 Y l9 ⟨d,e,b,rfl,ch,ci,dt⟩
   have du:=a4.n l9
   refine mv (.tuple [.agg [d,e].toArray,b,vI a.2.2].toArray) O (Lw.r O (R.ext (vs:=[.agg [d,e].toArray,b,vI a.2.2]) (v:= .agg [d,e].toArray) O O) (Lw.r O (R.ext (vs:=[.agg [d,e].toArray,b,vI a.2.2]) (v:=b) O O) (Lw.r O (R.ext (vs:=[.agg [d,e].toArray,b,vI a.2.2]) (v:=vI a.2.2) O O) (al 5 [.slice none 0 0, .slice none 0 0] fun bb f9 P dv=>?_))))
   have dw:=du.n P
   refine sta dv (zai (ch.up P).oc (zai (ci.up P).oc zbt)) fun ga ar cj=>?_
   have ck:=dw.t ar
   have cl:=(ch.up P).up ar
   have cm:=(ci.up P).up ar
   have co:=(dt.up P).up ar
   refine Gv b O (Ni O (sr (la cj (mv b O (mi O (cr Y (fun _=>p56 (K:=[0,2,3,4]) (k0:=6) (x0:=(Vm.Repo.mk a.1.Commits a.1.Heads)) ((Repo.rd (K:=[2,3]) a.1.Commits a.1.Heads (cl.rd.sub (M:=[2,3]) O) (cm.rd.sub (M:=[2,3]) O)).sub (M:=[0,2,3,4]) O) (co.rd.sub (M:=[0,2,3,4]) O) ((E.ul ck).sub (M:=[0,2,3,4]) O)) ?_))))))
   rintro cp X dx Y Z ⟨_,rfl,bc⟩
   have cq:=ck.n Z
   have au:=cl.up Z
   have av:=cm.up Z
   have aw:=co.up Z
   have ax:=cj.up Z
   refine Nv X O (Cw.seq ?_)
   obtain⟨dy,dz,Y⟩:=zdY Y
   refine Cw.join 32 58 [58] (fun l w=> ∃ be aa,CW.w aa=w/\Le [] dx aa/\l=[vB be]/\dy be=some r) ?_ ?_
   ·rintro _ _ σ ⟨be,aa,rfl,k,rfl,Y⟩
    rw[dz]at Y
    have ct:=cq.n k
    refine cn Y (fun Y=>?_) fun Y=>?_
    ·refine sr (mv X O (la (ax.up k) (mv b O (mi O (cr Y (fun _=>p57 (K:=[2,3,4]) (k0:=7) (x0:=(Vm.Repo.mk a.1.Commits a.1.Heads)) ((Repo.rd (K:=[2,3]) a.1.Commits a.1.Heads ((au.up k).rd.sub (M:=[2,3]) O) ((av.up k).rd.sub (M:=[2,3]) O)).sub (M:=[2,3,4]) O) ((aw.up k).rd.sub (M:=[2,3,4]) O)) ?_)))))
     rintro gb gc gd Y cu ⟨_,rfl,d0⟩
     have d1:=ct.n cu
     refine ca Y (fun _=>p47 (K:=[6,7]) (((bc.up k).up cu).rd.sub (M:=[6,7]) O) (d0.rd.sub (M:=[6,7]) O)) fun gf gg Y d2=>?_
     have d3:=d1.n d2
     exact Nb O (.ret (rt Y d3))
    ·refine sk (ssr (Ni O (Cw.block ?_)))
     obtain⟨d4,d5,Y⟩:=zdY Y
     refine Cw.loop 65 85 [4,9] (fun m l w=> ∃ ac ae Q,CW.w Q=w/\Le [] aa Q/\l=[vB ac,vI ae]/\Vm.zfH a d4 m ac ae=some r) _ ⟨false,0,aa,O,Le.refl _ _,O,Y⟩ ?_
     rintro(_ |gh) _ _ σ ⟨ac,ae,Q,rfl,F,rfl,Y⟩
     ·cases Y
     unfold Vm.zfH at Y
     have cv:=ct.n F
     have cw:=(au.up k).up F
     have ay:=(aw.up k).up F
     have cx:=(ax.up k).up F
     refine ssr (mi O (mv b O (Lw.ln a.2.1 ay.rd O (Lw.lt O (nl (cn Y (fun Y=>?_) fun Y=>?_))))))
     ·refine sk (Cw.seq (Cw.block ?_))
      obtain⟨d6,d7,Y⟩:=zdY Y
      refine Cw.join 71 85 [85] (fun l w=> ∃ bg az,CW.w az=w/\Le [] Q az/\l=[vB bg]/\d6 bg=some r) ?_ ?_
      ·rintro _ _ σ ⟨bg,az,rfl,cy,rfl,Y⟩
       rw[d7]at Y
       have d8:=cv.n cy
       refine cn Y (fun Y=>?_) fun Y=>?_
       ·exact sr (Nb O (.ret (rt Y d8)))
       ·exact sk (rg (mi O (Lw.add O (Ni O ((agm) ⟨ac,w64 (ae+1),az,O,(F.j cy).w,O,Y⟩)))))
      ·refine Cw.draw [] [(0,0),(1,0),(2,0),(3,1),(4,0),(5,0),(6,0),(7,0),(8,0),(9,1),(10,0),(11,1),(12,0),(13,0),(14,0)] mixed (by kernel_rfl) fun cz af=>?_
       have S:=ay.up af
       refine Dv b O (Di O ?_)
       obtain⟨gj,bh,Y⟩:=ob Y
       refine Mw.p O O (fun _=>R.ix (α:=Int) S.rd bh O O O) (Mw.q O O (fun _ c=>R.ld O O (zaW (S.rd.at_ bh).1 O (S.rd.at_ bh).int c)) (Mw.p O O (fun _=>R.lt O O) (Db O (bs Y (fun f Y=>?_) fun f Y=>?_))))
       ·exact dps 8 f O (Mw.p O O (fun _=>R.pk f O (v:=vB true) O) (Mw.nil ((ag) ⟨true,cz,O,af,O,Y⟩)))
       ·refine Wp f O (fun _=>R.mv (v:=b) O) (Wp f O (fun _=>R.mv (v:=vI ae) O) ?_)
        obtain⟨c0,bi,Y⟩:=ob Y
        exact Wp f O (fun _=>R.ix (α:=Int) S.rd bi O O O) (Wq f O (fun _ c=>R.ld O O (zaW (S.rd.at_ bi).1 O (S.rd.at_ bi).int c)) (Wp f O (fun _=>R.fa O) (Wq f O (fun _ c=>R.ld (v:=d) O O ((cx.up af).clc O O c)) (Wp f O (fun _=>zp7 (xs:=a.1.Commits) (cw.up af).rd O) (Wp f O (fun _=>R.ge O O) (Mw.p O O (fun _=>R.pk f O (v:=vB (decide (a.1.Commits.length<=(c0:Int)))) O) (Mw.nil ((ag) ⟨decide (a.1.Commits.length<=(c0:Int)),cz,O,af,O,Y⟩))))))))
     ·refine Cw.exit ?_
      rw[d5]at Y
      refine ssr (Ni O (Cw.block ?_))
      obtain⟨d9,ea,Y⟩:=zdY Y
      refine Cw.loop 86 118 [4,10,11,12] (fun m l w=> ∃ a0 U c1 c2 bj,CW.w bj=w/\Le [] Q bj/\l=[vB a0,vI U,c1,c2]/\Vm.zgU a cp d9 m a0 U=some r) _ ⟨ac,0,undef,undef,Q,O,Le.refl _ _,O,Y⟩ ?_
      rintro(_ |gk) _ _ σ ⟨a0,U,c1,c2,bj,rfl,B,rfl,Y⟩
      ·cases Y
      unfold Vm.zgU at Y
      have bk:=cv.n B
      have a1:=cw.up B
      have a2:=((av.up k).up F).up B
      have c3:=((bc.up k).up F).up B
      have a3:=cx.up B
      refine ssr (mi O (fl a3 O (Lw.ln a.1.Commits a1.rd O (Lw.lt O (nl (cn Y (fun Y=>?_) fun Y=>?_))))))
      ·refine sk (Cw.seq (Cw.block (sr (la a3 (mi O (mi O (ca Y (fun _=>p54 (K:=[0,2,3]) (x0:=(Vm.Repo.mk a.1.Commits a.1.Heads)) ((Repo.rd (K:=[2,3]) a.1.Commits a.1.Heads (a1.rd.sub (M:=[2,3]) O) (a2.rd.sub (M:=[2,3]) O)).sub (M:=[0,2,3]) O) ((E.ul bk).sub (M:=[0,2,3]) O)) fun eb c4 Y G=>?_)))))))
       have ec:=bk.n G
       refine Nb O (ssr (Ni O (Cw.block ?_)))
       obtain⟨ed,ee,Y⟩:=zdY Y
       refine Cw.loop 97 113 [11,12] (fun m l w=> ∃ a5 H bl,CW.w bl=w/\Le [] c4 bl/\l=[vB a5,vI H]/\Vm.ze3 a U ed m a5 H=some r) _ ⟨eb,0,c4,O,Le.refl _ _,O,Y⟩ ?_
       rintro(_ |gm) _ _ σ ⟨a5,H,bl,rfl,A,rfl,Y⟩
       ·cases Y
       unfold Vm.ze3 at Y
       have c5:=ec.n A
       have c6:=((ay.up B).up G).up A
       refine ssr (mi O (mv b O (Lw.ln a.2.1 c6.rd O (Lw.lt O (nl (cn Y (fun Y=>?_) fun Y=>?_))))))
       ·refine sk (Cw.seq (Cw.block (Cw.draw [] [(0,0),(1,0),(2,1),(3,0),(4,0),(5,0),(6,0),(7,1),(8,3),(9,0),(10,0),(11,0)] mixed (by kernel_rfl) fun ef I=>?_)))
        have eg:=c5.n I
        have bm:=c6.up I
        refine Db O (Db O (bs Y (fun i Y=>?_) fun i Y=>?_))
        ·refine Wq i O (fun _ c=>R.lda (cs:=[d,e]) ((((a3.up G).up A).up I).clcs O c) O O) (Wp i O (fun _=>R.mv (v:=vI U) O) (Wp i O (fun _=>R.mv (v:=b) O) (Wp i O (fun _=>R.mv (v:=vI H) O) ?_)))
         obtain⟨gn,bn,Y⟩:=ob Y
         refine Wp i O (fun _=>R.ix (α:=Int) bm.rd bn O O O) (Wq i O (fun _ c=>R.ld O O (zaW (bm.rd.at_ bn).1 O (bm.rd.at_ bn).int c)) ?_)
         obtain⟨c7,eh,Y⟩:=ob Y
         refine Mw.gl i O O O O O (T.call O (p54 (K:=[0,2,3]) (x0:=(Vm.Repo.mk a.1.Commits a.1.Heads)) ((Repo.rd (K:=[2,3]) a.1.Commits a.1.Heads ((((a1.up G).up A).up I).rd.sub (M:=[2,3]) O) ((((a2.up G).up A).up I).rd.sub (M:=[2,3]) O)).sub (M:=[0,2,3]) O) ((E.ul eg).sub (M:=[0,2,3]) O) eh)) ?_
         rintro _ _ ⟨ei,rfl,ej,rfl⟩
         exact Wp i O (fun _=>R.not O) (Mw.p O O (fun _=>R.pk i O (v:=vB (!c7)) O) (Hb O (Mw.nil (rg (mi O (Lw.add O (Ni O ((agm) ⟨(!c7),w64 (H+1),ei,O,((A.j I).j ej).w,O,Y⟩))))))))
        ·exact dps 8 i O (Mw.p O O (fun _=>R.pk i O (v:=vB false) O) (Hb O (Mw.nil (rg (mi O (Lw.add O (Ni O ((agm) ⟨false,w64 (H+1),ef,O,(A.j I).w,O,Y⟩))))))))
       ·refine Cw.exit ?_
        rw[ee]at Y
        refine sr (mb O (mv X O (mi O (ca Y (fun _=>p58 (K:=[6]) ((c3.up G).up A).rd) fun go ek Y c8=>?_))))
        have el:=c5.n c8
        refine Lw.r O (R.bne O O) (nl (cn Y (fun Y=>?_) fun Y=>?_))
        ·exact sr (Nb O (.ret (rt Y el)))
        ·exact sk (rg (mi O (Lw.add O (Ni O ((agm) ⟨a0,w64 (U+1),vB a5,vI H,ek,O,(((B.j G).j A).j c8).w,O,Y⟩)))))
      ·refine Cw.exit ?_
       rw[ea]at Y
       refine Cw.seq ?_
       obtain⟨bp,em,Y⟩:=ob Y
       obtain⟨_,en,Y⟩:=ob Y
       obtain⟨a6,eo,Y⟩:=ob Y
       obtain⟨ah,ep,Y⟩:=ob Y
       refine Cw.par [[],[],[],[1,2],[],[4],[],[6],[6,7],[4,5,6,7,8],[4,5,6,7,8,9],[1,2,3,4,5,6,7,8,9,10],[],[0,1,2,3,4,5,6,7,8,9,10,11,12],[0,1,2,3,4,5,6,7,8,9,10,11,12,13]] [[],[],[],[1,2],[],[4],[],[6],[7],[5,8],[9],[3,10],[],[0,11,12],[13]] [[],[],[],[8],[],[],[],[],[],[],[],[8],[],[],[]] [[0],[1],[2],[3],[4],[5],[6],[7],[8],[9],[10],[11],[12],[13],[13,14]] [[],[8],[],[8],[],[],[],[],[],[],[9],[8],[],[10],[]] [0,2,4,5,6,7,8,9,10,11,12,13,14] [8] [fun vs W=>(vs 0) = .agg [d,e].toArray,fun vs W=>Ow W 8 [] [(vs 1)] ([]:List Int),fun vs W=>(vs 2)=b,fun vs W=>Ow W 8 [] [(vs 3)] bp,fun vs W=>(vs 4)=D,fun vs W=>(vs 5)=vI (x1.length:Int),fun vs W=>(vs 6)=ptr ((bx bb).add 0),fun vs W=>(vs 7)=d,fun vs W=>(vs 8)=vI (a.1.Commits.length:Int),fun vs W=>(vs 9)=vI (Int.tmod (x1.length:Int) (a.1.Commits.length:Int)),fun vs W=>(vs 10) = .slice (some (bx (pg (vs 10)))) 1 1/\Bx W 9 (pg (vs 10)) [vI (Int.tmod (x1.length:Int) (a.1.Commits.length:Int))],fun vs W=>Ow W 8 [] [(vs 11)] a6,fun vs W=>(vs 12)=vI a.2.2,fun vs W=>Ow W 10 [] [(vs 13)] ah,fun vs W=>(vs 14)=(vs 13)] [] mixed (by kernel_rfl) O zqt.nil ?_
       intro gr J
       have bq:=bk.n J
       have br:=a1.up J
       have bu:=a3.up J
       refine⟨(zcI.cons ?_ (zcI.cons ?_ (zcI.cons ?_ (zcI.cons ?_ (zcI.cons ?_ (zcI.cons ?_ (zcI.cons ?_ (zcI.cons ?_ (zcI.cons ?_ (zcI.cons ?_ (zcI.cons ?_ (zcI.cons ?_ (zcI.cons ?_ (zcI.cons ?_ (zcI.cons ?_ zcI.nil))))))))))))))),(zha.cons SE (zha.cons SO (zha.cons SE (zha.cons SO (zha.cons SE (zha.cons SE (zha.cons SE (zha.cons SE (zha.cons SE (zha.cons SE (zha.cons (fun vs vs' W W' _ hv l hd h=>by(show(vs' 10) = .slice (some (bx (pg (vs' 10)))) 1 1/\Bx W' 9 (pg (vs' 10)) [vI (Int.tmod (x1.length:Int) (a.1.Commits.length:Int))]);rw[hv 10 (zbB O)];exact⟨h.1,h.2.up l (zgD hd (c:=9) O)⟩) (zha.cons SO (zha.cons SE (zha.cons SO (zha.cons (fun vs vs' W W' _ hv l hd h=>by(show(vs' 14)=(vs' 13));rw[hv 13 (zbB O),hv 14 (zbB O)];exact h) zha.nil))))))))))))))),?_⟩
       ·intro vs gs lW hN hV
        exact Trq (R.lda (cs:=[d,e]) (bu.up lW O).cells O O) O
       ·intro vs gu lW hN hV
        refine Tr.mono (T.lit0 (α:=Int) 8 []) ?_
        rintro er _ ⟨c9,rfl,es,et⟩
        exact⟨c9,O,es,(show Ow c9 8 [] [er] ([]:List Int) from et)⟩
       ·intro vs gv lW hN hV
        exact Trq (R.mv (v:=b) O) O
       ·intro vs eu lW hN hV
        obtain⟨ew,ex⟩: ∃ v,vs 1=v:=⟨_,O⟩
        obtain⟨vs,rfl⟩:=za2 ex
        have ey:Ow eu 8 [] [ew] ([]:List Int):=(hN 1 (zbB O))
        have bv:vs 2=b:=(hN 2 (zbB O))
        obtain⟨vs,rfl⟩:=za2 bv
        refine Tr.mono (T.appP (α:=Int) ey (((ay.up B).up J).up lW O).rd O O em) ?_
        rintro ez _ ⟨da,rfl,e0,e1⟩
        exact⟨da,O,e0,(show Ow da 8 [] [ez] bp from e1)⟩
       ·intro vs gw lW hN hV
        exact Trq (R.mv (v:=D) O) O
       ·intro vs gx lW hN hV
        have e2:=bq.t lW O
        have bw:vs 4=D:=(hN 4 (zbB O))
        obtain⟨vs,rfl⟩:=za2 bw
        exact Trq (zp7 (xs:=x1) (h1.ul e2) O) O
       ·intro vs gy lW hN hV
        exact Trq (R.fa O) O
       ·intro vs gz lW hN hV
        have bz:vs 6=ptr ((bx bb).add 0):=(hN 6 (zbB O))
        obtain⟨vs,rfl⟩:=za2 bz
        exact Trq (R.ld (v:=d) O O ((bu.up lW O).cell O)) O
       ·intro vs g0 lW hN hV
        have b0:vs 7=d:=(hN 7 (zbB O))
        obtain⟨vs,rfl⟩:=za2 b0
        exact Trq (zp7 (xs:=a.1.Commits) (br.up lW O).rd O) O
       ·intro vs g1 lW hN hV
        have b1:vs 5=vI (x1.length:Int):=(hN 5 (zbB O))
        obtain⟨vs,rfl⟩:=za2 b1
        have b2:vs 8=vI (a.1.Commits.length:Int):=(hN 8 (zbB O))
        obtain⟨vs,rfl⟩:=za2 b2
        exact Trq (R.rem O O (nz en)) O
       ·intro vs g2 lW hN hV
        have b3:vs 9=vI (Int.tmod (x1.length:Int) (a.1.Commits.length:Int)):=(hN 9 (zbB O))
        obtain⟨vs,rfl⟩:=za2 b3
        refine Tr.mono (T.bs 9 [vI (Int.tmod (x1.length:Int) (a.1.Commits.length:Int))] (cs:=[vI (Int.tmod (x1.length:Int) (a.1.Commits.length:Int))]) O O (bsv O)) ?_
        rintro _ _ ⟨b4,db,rfl,rfl,e3,e4⟩
        exact⟨db,O,e3,(show(.slice (some (bx b4)) 1 1:Value) = .slice (some (bx b4)) 1 1/\Bx db 9 b4 [vI (Int.tmod (x1.length:Int) (a.1.Commits.length:Int))] from⟨O,e4⟩)⟩
       ·intro vs dc lW hN hV
        obtain⟨e5,e6⟩: ∃ v,vs 3=v:=⟨_,O⟩
        obtain⟨vs,rfl⟩:=za2 e6
        have e7:Ow dc 8 [] [e5] bp:=(hN 3 (zbB O))
        obtain⟨L,b5⟩: ∃ L,vs 10 = .slice (some (bx L)) 1 1:=⟨_,((hN 10 (zbB O))).1⟩
        obtain⟨vs,rfl⟩:=za2 b5
        have e8:Bx dc 9 L [vI (Int.tmod (x1.length:Int) (a.1.Commits.length:Int))]:=(hN 10 (zbB O)).2
        refine Tr.mono (T.app1S (α:=Int) (K':=[]) e7 e8 (rdI _) O O eo) ?_
        rintro e9 _ ⟨dd,rfl,fb,fc⟩
        exact⟨dd,O,fb,(show Ow dd 8 [] [e9] a6 from fc)⟩
       ·intro vs g3 lW hN hV
        exact Trq (R.mv (v:=vI a.2.2) O) O
       ·intro vs fd lW hN hV
        have fe:=bq.t lW O
        have b6:vs 0 = .agg [d,e].toArray:=(hN 0 (zbB O))
        obtain⟨vs,rfl⟩:=za2 b6
        obtain⟨b7,b8⟩: ∃ v,vs 11=v:=⟨_,O⟩
        obtain⟨vs,rfl⟩:=za2 b8
        have ff:Ow fd 8 [] [b7] a6:=(hN 11 (zbB O))
        have b9:vs 12=vI a.2.2:=(hN 12 (zbB O))
        obtain⟨vs,rfl⟩:=za2 b9
        refine Tr.mono (T.call O (p56 (K:=[0,2,3,8]) (k0:=10) (x0:=(Vm.Repo.mk a.1.Commits a.1.Heads)) ((Repo.rd (K:=[2,3]) a.1.Commits a.1.Heads ((br.up lW O).rd.sub (M:=[2,3]) O) (((a2.up J).up lW O).rd.sub (M:=[2,3]) O)).sub (M:=[0,2,3,8]) O) (ff.rd.sub (M:=[0,2,3,8]) O) ((E.ul fe).sub (M:=[0,2,3,8]) O) ep)) ?_
        rintro fg _ ⟨de,rfl,fh,⟨_,rfl,fi⟩⟩
        exact⟨de,O,fh,(show Ow de 10 [] [fg] ah from fi)⟩
       ·intro vs fj lW hN hV
        obtain⟨V,cb⟩: ∃ v,vs 13=v:=⟨_,O⟩
        obtain⟨vs,rfl⟩:=za2 cb
        have g4:Ow fj 10 [] [V] ah:=(hN 13 (zbB O))
        exact Trq (R.as (v:=V) O) O
       ·intro vs a7 ai hN
        have df:=bq.t ai
        have b6:vs 0 = .agg [d,e].toArray:=(hN 0 (zbB O))
        obtain⟨vs,rfl⟩:=za2 b6
        have bv:vs 2=b:=(hN 2 (zbB O))
        obtain⟨vs,rfl⟩:=za2 bv
        have bw:vs 4=D:=(hN 4 (zbB O))
        obtain⟨vs,rfl⟩:=za2 bw
        have b1:vs 5=vI (x1.length:Int):=(hN 5 (zbB O))
        obtain⟨vs,rfl⟩:=za2 b1
        have bz:vs 6=ptr ((bx bb).add 0):=(hN 6 (zbB O))
        obtain⟨vs,rfl⟩:=za2 bz
        have b0:vs 7=d:=(hN 7 (zbB O))
        obtain⟨vs,rfl⟩:=za2 b0
        have b2:vs 8=vI (a.1.Commits.length:Int):=(hN 8 (zbB O))
        obtain⟨vs,rfl⟩:=za2 b2
        have b3:vs 9=vI (Int.tmod (x1.length:Int) (a.1.Commits.length:Int)):=(hN 9 (zbB O))
        obtain⟨vs,rfl⟩:=za2 b3
        obtain⟨L,b5⟩: ∃ L,vs 10 = .slice (some (bx L)) 1 1:=⟨_,((hN 10 (zbB O))).1⟩
        obtain⟨vs,rfl⟩:=za2 b5
        have g5:Bx a7 9 L [vI (Int.tmod (x1.length:Int) (a.1.Commits.length:Int))]:=(hN 10 (zbB O)).2
        obtain⟨b7,b8⟩: ∃ v,vs 11=v:=⟨_,O⟩
        obtain⟨vs,rfl⟩:=za2 b8
        have g6:Ow a7 8 [] [b7] a6:=(hN 11 (zbB O))
        have b9:vs 12=vI a.2.2:=(hN 12 (zbB O))
        obtain⟨vs,rfl⟩:=za2 b9
        obtain⟨V,cb⟩: ∃ v,vs 13=v:=⟨_,O⟩
        obtain⟨vs,rfl⟩:=za2 cb
        have fm:Ow a7 10 [] [V] ah:=(hN 13 (zbB O))
        have fn:vs 14=V:=(hN 14 (zbB O))
        obtain⟨vs,rfl⟩:=za2 fn
        obtain⟨fo,fp,Y⟩:=zdY Y
        refine Cw.join 133 146 [4] (fun l w=> ∃ cc cd,CW.w cd=w/\Le [] a7 cd/\l=[vB cc]/\fo cc=some r) ?_ ?_
        ·rintro _ _ σ ⟨cc,cd,rfl,fq,rfl,Y⟩
         rw[fp]at Y
         have fr:=df.n fq
         exact .ret (rt Y fr)
        ·refine Cw.draw [] [(0,0),(1,0),(2,0),(3,0),(4,0),(5,0),(6,1),(7,0),(9,1),(10,0),(8,2),(11,3),(12,3),(13,0),(14,0)] mixed (by kernel_rfl) fun fs C=>?_
         have dg:=df.n C
         have dh:=(br.up ai).up C
         have di:=((a2.up J).up ai).up C
         have dj:=(bu.up ai).up C
         refine Dv V O (Mw.p O O (fun _=>zp7 (xs:=ah) (fm.up C).rd O) (Dv X O (Mw.p O O (fun _=>zp7 (xs:=cp) (((c3.up J).up ai).up C).rd O) (Mw.p O O (fun _=>R.le O O) (Db O (bs Y (fun x Y=>?_) fun x Y=>?_))))))
         ·refine Wq x O (fun _ c=>R.lda (cs:=[d,e]) (dj.clcs O c) O O) (Wp x O (fun _=>R.mv (v:=vI a.2.2) O) (Wq x O (fun _ c=>R.lda (cs:=[d,e]) (dj.clcs O c) O O) (Wp x O (fun _=>R.mv (v:=vI a.2.2) O) ?_)))
          obtain⟨g7,ft,Y⟩:=ob Y
          refine Wt x O (T.call O (p56 (K:=[0,2,3]) (k0:=11) (x0:=(Vm.Repo.mk a.1.Commits a.1.Heads)) ((Repo.rd (K:=[2,3]) a.1.Commits a.1.Heads (dh.rd.sub (M:=[2,3]) O) (di.rd.sub (M:=[2,3]) O)).sub (M:=[0,2,3]) O) (rdN (K:=[0,2,3])) ((E.ul dg).sub (M:=[0,2,3]) O) ft)) ?_
          rintro g8 _ ⟨g9,rfl,aj,⟨_,rfl,fu⟩⟩
          have fv:=dg.n aj
          refine m0 aj fun ha=>?_
          obtain⟨hb,fw,Y⟩:=ob Y
          refine Mw.gl x O O O O O (T.call O (p59 (K:=[0,2,3]) (k0:=12) (x0:=(Vm.Repo.mk a.1.Commits a.1.Heads)) ((Repo.rd (K:=[2,3]) a.1.Commits a.1.Heads ((dh.up aj).rd.sub (M:=[2,3]) O) ((di.up aj).rd.sub (M:=[2,3]) O)).sub (M:=[0,2,3]) O) ((E.ul fv).sub (M:=[0,2,3]) O) fw)) ?_
          rintro hc _ ⟨he,rfl,dk,⟨_,rfl,fx⟩⟩
          obtain⟨dl,fy,Y⟩:=ob Y
          refine Mw.gl x O O O O O (T.call O (p47 (K:=[11,12]) ((fu.up dk).rd.sub (M:=[11,12]) O) (fx.rd.sub (M:=[11,12]) O) fy)) ?_
          rintro _ _ ⟨fz,rfl,f0,rfl⟩
          exact Mw.p O O (fun _=>R.pk x O (v:=vB dl) O) (Hb O (Mw.nil ((ag) ⟨dl,fz,O,(((C.j aj).j dk).j f0).w,O,Y⟩)))
         ·exact dps 7 x O (Mw.p O O (fun _=>R.pk x O (v:=vB false) O) (Hb O (Mw.nil ((ag) ⟨false,fs,O,C,O,Y⟩))))
   ·refine rg (mv X O (la ax (mv b O (mi O (cr Y (fun _=>p57 (K:=[2,3,4]) (k0:=13) (x0:=(Vm.Repo.mk a.1.Commits a.1.Heads)) ((Repo.rd (K:=[2,3]) a.1.Commits a.1.Heads (au.rd.sub (M:=[2,3]) O) (av.rd.sub (M:=[2,3]) O)).sub (M:=[2,3,4]) O) (aw.rd.sub (M:=[2,3,4]) O)) ?_)))))
    rintro hf hg hh Y y ⟨_,rfl,f1⟩
    have f2:=cq.n y
    refine ca Y (fun _=>p47 (K:=[6,13]) ((bc.up y).rd.sub (M:=[6,13]) O) (f1.rd.sub (M:=[6,13]) O)) fun hi f3 Y z=>?_
    have f4:=f2.n z
    have dm:=(au.up y).up z
    have dn:=(ax.up y).up z
    refine Lw.r O (R.not O) (mb O (bs Y (fun ak Y=>?_) fun ak Y=>?_))
    ·exact psk 3 ak O (Pb ak O (mb O (psk 2 O O (Pb O O (mb O (psk 5 O O (Pb O O (mb O (psk 2 O O (Pb O O (nl ((ag) ⟨true,f3,O,(y.j z).w,O,Y⟩))))))))))))
    ·refine wak 3 ak (la dn (ca Y (fun _=>p43 (K:=[0,2,3]) (x0:=(Vm.Repo.mk a.1.Commits a.1.Heads)) ((Repo.rd (K:=[2,3]) a.1.Commits a.1.Heads (dm.rd.sub (M:=[2,3]) O) (((av.up y).up z).rd.sub (M:=[2,3]) O)).sub (M:=[0,2,3]) O) ((E.ul f4).sub (M:=[0,2,3]) O)) fun hj ce Y N=>Lw.r O (R.not O) (Pb ak O (mb O (bs Y (fun am Y=>?_) fun am Y=>?_)))))
     ·exact psk 2 am O (Pb am O (mb O (psk 5 O O (Pb O O (mb O (psk 2 O O (Pb O O (nl ((ag) ⟨true,ce,O,((y.j z).j N).w,O,Y⟩)))))))))
     ·refine wak 2 am (mi O (Lw.lt O (Pb am O (mb O (bs Y (fun an Y=>?_) fun an Y=>?_)))))
      ·exact psk 5 an O (Pb an O (mb O (psk 2 O O (Pb O O (nl ((ag) ⟨true,ce,O,((y.j z).j N).w,O,Y⟩))))))
      ·refine wak 5 an (mi O (fl (dn.up N) O (Lw.ln a.1.Commits (dm.up N).rd O (Lw.ge O (Pb an O (mb O (bs Y (fun ao Y=>?_) fun ao Y=>?_)))))))
       ·exact psk 2 ao O (Pb ao O (nl ((ag) ⟨true,ce,O,((y.j z).j N).w,O,Y⟩)))
       ·exact wak 2 ao (mv b O (ca Y (fun _=>p58 (K:=[4]) (((aw.up y).up z).up N).rd) fun f5 f6 Y f7=>Pb ao O (nl ((ag) ⟨f5,f6,O,(((y.j z).j N).j f7).w,O,Y⟩))))
 ·refine rg (mv aq O (Lw.ln x0 h0 O (Lw.gt O (mb O (bs Y (fun ap Y=>?_) fun ap Y=>?_)))))
  ·exact psk 3 ap O (Pb ap O (nl ((ag) ⟨true,W0,O,Le.refl _ _,O,Y⟩)))
  ·exact wak 3 ap (mv D O (Lw.ln x1 h1 O (Lw.gt O (Pb ap O (nl ((ag) ⟨decide (1048576< (x1.length:Int)),W0,O,Le.refl _ _,O,Y⟩))))))
theorem p12 {x0 a x1 b r}(d:Rd W K [a] x0)(f:Rd W K [b] x1)(h:Gl 0 W K)(Y:Vm.zkG x0 x1=some r):Q1 12 [a,b] W [] fun W' v=>v=vB r:=
 (c12 (d.view _) (f.view _) (h.view _) Y).ad (fk 0) fun _ _ e=>e
end Go.Sx
