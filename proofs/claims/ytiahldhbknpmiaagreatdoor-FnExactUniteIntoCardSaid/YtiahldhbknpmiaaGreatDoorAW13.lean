/- Walks: each function answers as its model, printed by a program of ours. Conditions: the arguments read as they are given. -/
import Derived.Test.YtiahldhbknpmiaaGreatDoorATs
import Derived.Test.YtiahldhbknpmiaaGreatDoorAM6
import Derived.Test.YtiahldhbknpmiaaGreatDoorAW0
import Derived.Test.YtiahldhbknpmiaaGreatDoorAW12
import Derived.Test.YtiahldhbknpmiaaGreatDoorAW3
import Derived.Test.YtiahldhbknpmiaaGreatDoorAW6
namespace Go.Sx
open Go Go.Proofs Go.Vm Rp
set_option linter.unusedVariables false
set_option linter.unusedSimpArgs false
variable {W W0:CW}{K:List Nat}
theorem c5 {x0 av aw x1 x2 x3 r}(h0:Rd W0 [0] [av,aw] x0)(ba:Gl 0 W0 [0])(Y:Vm.zeV x0 x1 x2 x3=some r):Q0 5 [.agg [av,aw].toArray,vS x1,vS x2,vI x3] W0 fun Wf v=>v=vB r:=by
 unfold Vm.zeV at Y
 obtain⟨d8,d9,bb,S,U⟩:=Repo.split h0
 simp only[List.cons.injEq,and_true,true_and]at bb
 obtain⟨rfl,rfl⟩:=bb
 refine zaz.of Tryz.func5 O O O O (sr (bo 2 O fun g1 W1 l1 b1=>?_))
 have V:=l1.o
 refine Nb O (ssr (ms O (Lw.r O (R.lenS O) (Lw.gt O (nl (cn Y (fun Y=>?_) fun Y=>?_))))))
 ·exact sr (Nb O (.ret (rt Y V)))
 ·refine sk (ssr (ms O (Lw.r O (R.lenS O) (Lw.gt O (nl (cn Y (fun Y=>?_) fun Y=>?_))))))
  ·exact sr (Nb O (.ret (rt Y V)))
  ·refine sk (sr (Ni O (sr (la b1 (mi O (ca Y (fun _=>p15 (Repo.rd (K:=[0]) x0.Commits x0.Heads (S.ul V) (U.ul V))) fun z7 W9 Y l9=>?_))))))
   have ae:=V.n l9
   refine Ni O (ssr (mi O (Lw.lt O (nl (cn Y (fun Y=>?_) fun Y=>?_)))))
   ·exact sr (Nb O (.ret (rt Y ae)))
   ·refine sk (sr (la (b1.up l9) (cr Y (fun _=>p17 (k0:=3) (k1:=4) (Repo.rd (K:=[0]) x0.Commits x0.Heads (S.ul ae) (U.ul ae))) ?_)))
    rintro af _ ee Y bc ⟨ef,eg,rfl,ct,cu⟩
    have cv:=ae.n bc
    refine ms O (ms O (mi O (cr Y (fun _=>p24 (K:=[3,4]) (x0:=(Vm.Repo.mk af.Commits af.Heads)) (Repo.rd (K:=[3,4]) af.Commits af.Heads (ct.rd.sub (M:=[3,4]) O) (cu.rd.sub (M:=[3,4]) O))) ?_)))
    rintro f _ eh Y be ⟨ah,ai,rfl,cw,cx⟩
    have aj:=cw.sub (M:=[0,3,4]) O
    have ak:=cx.sub (M:=[0,3,4]) O
    have cy:=cv.n be
    refine mv (.tuple [.agg [ah,ai].toArray,vI f.2].toArray) O (Lw.r O (R.ext (vs:=[.agg [ah,ai].toArray,vI f.2]) (v:= .agg [ah,ai].toArray) O O) (Lw.r O (R.ext (vs:=[.agg [ah,ai].toArray,vI f.2]) (v:=vI f.2) O O) (al 5 [.slice none 0 0, .slice none 0 0] fun ei ej H cz=>?_)))
    have c2:=cy.n H
    refine sta cz (zaa aj.oc (zaa ak.oc za0)) fun ek I c3=>?_
    have az:=c2.t I
    have bg:=((((b1.up l9).up bc).up be).up H).up I
    refine Ni O (sr (la bg (cr Y (fun _=>p17 (k0:=6) (k1:=7) (Repo.rd (K:=[0]) x0.Commits x0.Heads (S.ul az) (U.ul az))) ?_)))
    rintro B _ el Y D ⟨c4,c6,rfl,bh,bi⟩
    have c7:=az.n D
    refine al 8 [.slice none 0 0, .slice none 0 0] fun em en h c8=>?_
    have c9:=c7.n h
    refine sta c8 (zaa (bh.up h).oc (zaa (bi.up h).oc za0)) fun eo z bj=>?_
    have bk:=c9.t z
    have bl:=(bh.up h).up z
    have bm:=(bi.up h).up z
    refine nl (sr (la bj (ms O (ms O (mi O (cr Y (fun _=>p25 (K:=[0,6,7]) (k0:=9) (k1:=10) (x0:=(Vm.Repo.mk B.Commits B.Heads)) ((Repo.rd (K:=[6,7]) B.Commits B.Heads (bl.rd.sub (M:=[6,7]) O) (bm.rd.sub (M:=[6,7]) O)).sub (M:=[0,6,7]) O) ((ba.ul bk).sub (M:=[0,6,7]) O)) ?_))))))
    rintro a _ ep Y y ⟨am,an,rfl,bn,bp⟩
    have da:=bk.n y
    refine mv (.tuple [.agg [am,an].toArray,vI a.2].toArray) O (Lw.r O (R.ext (vs:=[.agg [am,an].toArray,vI a.2]) (v:= .agg [am,an].toArray) O O) (Lw.r O (R.ext (vs:=[.agg [am,an].toArray,vI a.2]) (v:=vI a.2) O O) (al 11 [.slice none 0 0, .slice none 0 0] fun er es b db=>?_)))
    have dc:=da.n b
    refine sta db (zaa (bn.up b).oc (zaa (bp.up b).oc za0)) fun dd d bq=>?_
    have de:=dc.t d
    have br:=(bn.up b).up d
    have bu:=(bp.up b).up d
    have bv:=(((((c3.up D).up h).up z).up y).up b).up d
    refine Ni O (Cw.seq ?_)
    obtain⟨df,dg,Y⟩:=zbM Y
    refine Cw.join 50 58 [58] (fun l w=> ∃ a0 a1,CW.w a1=w/\Le [] dd a1/\l=[vB a0]/\df a0=some r) ?_ ?_
    ·rintro _ _ σ ⟨a0,a1,rfl,i,rfl,Y⟩
     rw[dg]at Y
     have bw:=de.n i
     refine cn Y (fun Y=>?_) fun Y=>?_
     ·exact sr (Nb O (.ret (rt Y bw)))
     ·refine sk (Cw.seq (Cw.seq (Cw.draw [] [(0,1),(1,1),(2,2),(3,3),(4,0)] mixed (by kernel_rfl) fun et k=>?_)))
      have a3:=bw.n k
      have bz:=(((((((bg.up D).up h).up z).up y).up b).up d).up i).up k
      have b0:=((((bj.up y).up b).up d).up i).up k
      refine Mw.q O O (fun _ c=>R.lda (cs:=[c4,c6]) (b0.clcs O c) O O) (Mw.q O O (fun _ c=>R.lda (cs:=[av,aw]) (bz.clcs O c) O O) ?_)
      obtain⟨ao,dh,Y⟩:=ob Y
      refine Mw.t O O (T.call O (p17 (k0:=12) (k1:=13) (Repo.rd (K:=[0]) x0.Commits x0.Heads (S.ul a3) (U.ul a3)) dh)) ?_
      rintro _ _ ⟨eu,rfl,e,⟨ew,ex,rfl,di,dj⟩⟩
      have dk:=a3.n e
      have b2:=(((((bl.up y).up b).up d).up i).up k).up e
      have b3:=(((((bm.up y).up b).up d).up i).up k).up e
      refine m0 e fun ey=>?_
      obtain⟨ez,dl,Y⟩:=ob Y
      refine Mw.l O O (T.call O (p19 (K:=[6,7,12,13]) (x0:=(Vm.Repo.mk B.Commits B.Heads)) (x1:=(Vm.Repo.mk ao.Commits ao.Heads)) ((Repo.rd (K:=[6,7]) B.Commits B.Heads (b2.rd.sub (M:=[6,7]) O) (b3.rd.sub (M:=[6,7]) O)).sub (M:=[6,7,12,13]) O) ((Repo.rd (K:=[12,13]) ao.Commits ao.Heads (di.rd.sub (M:=[12,13]) O) (dj.rd.sub (M:=[12,13]) O)).sub (M:=[6,7,12,13]) O) dl)) ?_
      rintro _ _ ⟨e0,rfl,x,rfl⟩
      have b4:=dk.n x
      refine Mw.p O O (fun _=>R.not O) (Mw.nil (cn Y (fun Y=>?_) fun Y=>?_))
      ·exact sr (Nb O (.ret (rt Y b4)))
      ·refine sk (sr (Ni O (sr (la ((b0.up e).up x) (mi O (cr Y (fun _=>p20 (K:=[0]) (c0:=6) (c1:=7) (x0:=(Vm.Repo.mk B.Commits B.Heads)) (b2.up x) (b3.up x) O) ?_))))))
       rintro e1 _ b5 Y C ⟨rfl,e2,e3⟩
       have dm:=b4.t C
       have b6:=((((br.up i).up k).up e).up x).up C
       have b7:=((((bu.up i).up k).up e).up x).up C
       have b8:=((((bv.up i).up k).up e).up x).up C
       have a4:=((((bq.up i).up k).up e).up x).up C
       refine Ni O (Cw.seq ?_)
       obtain⟨dn,dp,Y⟩:=zbM Y
       refine Cw.join 67 79 [79] (fun l w=> ∃ a5 a6,CW.w a6=w/\Le [] b5 a6/\l=[vB a5]/\dn a5=some r) ?_ ?_
       ·rintro _ _ σ ⟨a5,a6,rfl,E,rfl,Y⟩
        rw[dp]at Y
        have b9:=dm.n E
        refine cn Y (fun Y=>?_) fun Y=>?_
        ·exact sr (Nb O (.ret (rt Y b9)))
        ·refine sk (sr (Ni O (sr (la (a4.up E) (mi O (cr Y (fun _=>p20 (K:=[0]) (c0:=9) (c1:=10) (x0:=(Vm.Repo.mk a.1.Commits a.1.Heads)) (b6.up E) (b7.up E) O) ?_))))))
         rintro J _ e4 Y Q ⟨rfl,cb,cc⟩
         have dq:=b9.t Q
         have cd:=(a4.up E).up Q
         refine Ni O (sr (Ni O (sr (la cd (mi O (ca Y (fun _=>p21 (K:=[9,10]) (x0:=(Vm.Repo.mk J.2.Commits J.2.Heads)) (Repo.rd (K:=[9,10]) J.2.Commits J.2.Heads (cb.rd.sub (M:=[9,10]) O) (cc.rd.sub (M:=[9,10]) O))) fun e5 e6 Y L=>?_))))))
         have W:=dq.n L
         refine Ni O (ssr (mi O (Lw.lt O (nl (cn Y (fun Y=>?_) fun Y=>?_)))))
         ·exact sr (Nb O (.ret (rt Y W)))
         ·refine sk (ssr (mi O (mi O (Lw.ne O (nl (cn Y (fun Y=>?_) fun Y=>?_))))))
          ·exact sr (Nb O (.ret (rt Y W)))
          ·refine sk (sr (la ((((((bz.up e).up x).up C).up E).up Q).up L) (cr Y (fun _=>p17 (k0:=14) (k1:=15) (Repo.rd (K:=[0]) x0.Commits x0.Heads (S.ul W) (U.ul W))) ?_)))
           rintro ap _ e7 Y N ⟨e8,e9,rfl,dr,ds⟩
           have ce:=W.n N
           refine ms O (ms O (mi O (cr Y (fun _=>p25 (K:=[0,14,15]) (k0:=16) (k1:=17) (x0:=(Vm.Repo.mk ap.Commits ap.Heads)) ((Repo.rd (K:=[14,15]) ap.Commits ap.Heads (dr.rd.sub (M:=[14,15]) O) (ds.rd.sub (M:=[14,15]) O)).sub (M:=[0,14,15]) O) ((ba.ul ce).sub (M:=[0,14,15]) O)) ?_)))
           rintro F _ fb Y P ⟨aq,ar,rfl,cf,cg⟩
           have dt:=ce.n P
           refine mv (.tuple [.agg [aq,ar].toArray,vI F.2].toArray) O (Lw.r O (R.ext (vs:=[.agg [aq,ar].toArray,vI F.2]) (v:= .agg [aq,ar].toArray) O O) (Lw.r O (R.ext (vs:=[.agg [aq,ar].toArray,vI F.2]) (v:=vI F.2) O O) (al 18 [.slice none 0 0, .slice none 0 0] fun fc fd A du=>?_)))
           have dv:=dt.n A
           refine sta du (zaa (cf.up A).oc (zaa (cg.up A).oc za0)) fun dw G dx=>?_
           have dy:=dv.t G
           refine Ni O (Cw.seq ?_)
           obtain⟨dz,d0,Y⟩:=zbM Y
           refine Cw.join 100 108 [108] (fun l w=> ∃ a7 a8,CW.w a8=w/\Le [] dw a8/\l=[vB a7]/\dz a7=some r) ?_ ?_
           ·rintro _ _ σ ⟨a7,a8,rfl,au,rfl,Y⟩
            rw[d0]at Y
            have ch:=dy.n au
            refine cn Y (fun Y=>?_) fun Y=>?_
            ·exact sr (Nb O (.ret (rt Y ch)))
            ·refine sk (sr (Ni O (sr (la ((((((cd.up L).up N).up P).up A).up G).up au) (mi O (ca Y (fun _=>p21 (K:=[9,10]) (x0:=(Vm.Repo.mk J.2.Commits J.2.Heads)) (Repo.rd (K:=[9,10]) J.2.Commits J.2.Heads (((((((cb.up L).up N).up P).up A).up G).up au).rd.sub (M:=[9,10]) O) (((((((cc.up L).up N).up P).up A).up G).up au).rd.sub (M:=[9,10]) O))) fun fe ff Y d1=>?_))))))
             have a9:=ch.n d1
             refine Ni O (ssr (mi O (Lw.lt O (nl (cn Y (fun Y=>?_) fun Y=>?_)))))
             ·exact sr (Nb O (.ret (rt Y a9)))
             ·refine sk (ssr (mi O (mi O (Lw.ne O (nl (cn Y (fun Y=>?_) fun Y=>?_))))))
              ·exact sr (Nb O (.ret (rt Y a9)))
              ·exact sk (sr (Nb O (.ret (rt Y a9))))
           ·refine rg (la dx (la (((((((b8.up E).up Q).up L).up N).up P).up A).up G) ?_))
            have d2:=aj.up ((H.sub (M:=[5,6,7,8,9,10,11,18]) O).trans ((I.sub (M:=[5,6,7,8,9,10,11,18]) O).trans ((D.sub (M:=[5,6,7,8,9,10,11,18]) O).trans ((h.sub (M:=[5,6,7,8,9,10,11,18]) O).trans ((z.sub (M:=[5,6,7,8,9,10,11,18]) O).trans ((y.sub (M:=[5,6,7,8,9,10,11,18]) O).trans ((b.sub (M:=[5,6,7,8,9,10,11,18]) O).trans ((d.sub (M:=[5,6,7,8,9,10,11,18]) O).trans ((i.sub (M:=[5,6,7,8,9,10,11,18]) O).trans ((k.sub (M:=[5,6,7,8,9,10,11,18]) O).trans ((e.sub (M:=[5,6,7,8,9,10,11,18]) O).trans ((x.sub (M:=[5,6,7,8,9,10,11,18]) O).trans ((C.sub (M:=[5,6,7,8,9,10,11,18]) O).trans ((E.sub (M:=[5,6,7,8,9,10,11,18]) O).trans ((Q.sub (M:=[5,6,7,8,9,10,11,18]) O).trans ((L.sub (M:=[5,6,7,8,9,10,11,18]) O).trans ((N.sub (M:=[5,6,7,8,9,10,11,18]) O).trans ((P.sub (M:=[5,6,7,8,9,10,11,18]) O).trans ((A.sub (M:=[5,6,7,8,9,10,11,18]) O).trans (G.sub (M:=[5,6,7,8,9,10,11,18]) O)))))))))))))))))))) O
            have d3:=ak.up ((H.sub (M:=[5,6,7,8,9,10,11,18]) O).trans ((I.sub (M:=[5,6,7,8,9,10,11,18]) O).trans ((D.sub (M:=[5,6,7,8,9,10,11,18]) O).trans ((h.sub (M:=[5,6,7,8,9,10,11,18]) O).trans ((z.sub (M:=[5,6,7,8,9,10,11,18]) O).trans ((y.sub (M:=[5,6,7,8,9,10,11,18]) O).trans ((b.sub (M:=[5,6,7,8,9,10,11,18]) O).trans ((d.sub (M:=[5,6,7,8,9,10,11,18]) O).trans ((i.sub (M:=[5,6,7,8,9,10,11,18]) O).trans ((k.sub (M:=[5,6,7,8,9,10,11,18]) O).trans ((e.sub (M:=[5,6,7,8,9,10,11,18]) O).trans ((x.sub (M:=[5,6,7,8,9,10,11,18]) O).trans ((C.sub (M:=[5,6,7,8,9,10,11,18]) O).trans ((E.sub (M:=[5,6,7,8,9,10,11,18]) O).trans ((Q.sub (M:=[5,6,7,8,9,10,11,18]) O).trans ((L.sub (M:=[5,6,7,8,9,10,11,18]) O).trans ((N.sub (M:=[5,6,7,8,9,10,11,18]) O).trans ((P.sub (M:=[5,6,7,8,9,10,11,18]) O).trans ((A.sub (M:=[5,6,7,8,9,10,11,18]) O).trans (G.sub (M:=[5,6,7,8,9,10,11,18]) O)))))))))))))))))))) O
            refine ca Y (fun _=>p19 (K:=[0,3,4,16,17]) (x0:=(Vm.Repo.mk F.1.Commits F.1.Heads)) ((Repo.rd (K:=[16,17]) F.1.Commits F.1.Heads (((cf.up A).up G).rd.sub (M:=[16,17]) O) (((cg.up A).up G).rd.sub (M:=[16,17]) O)).sub (M:=[0,3,4,16,17]) O) ((Repo.rd (K:=[0,3,4]) f.1.Commits f.1.Heads d2 d3).sub (M:=[0,3,4,16,17]) O)) fun fg ci Y cj=>Lw.r O (R.not O) (mb O (bs Y (fun X Y=>?_) fun X Y=>?_))
            ·exact psk 3 X O (Pb X O (nl ((ag) ⟨true,ci,O,cj,O,Y⟩)))
            ·exact wak 3 X (mi O (mi O (Lw.ne O (Pb X O (nl ((ag) ⟨((F.2:Int) !=(f.2:Int)),ci,O,cj,O,Y⟩))))))
       ·refine rg (mi O (Lw.lt O (mb O (bs Y (fun Z Y=>?_) fun Z Y=>?_))))
        ·exact psk 4 Z O (Pb Z O (mb O (psk 3 O O (Pb O O (nl ((ag) ⟨true,b5,O,Le.refl _ _,O,Y⟩))))))
        ·refine wak 4 Z (la a4 (la b8 ?_))
         have d4:=aj.up ((H.sub (M:=[5,6,7,8,11]) O).trans ((I.sub (M:=[5,6,7,8,11]) O).trans ((D.sub (M:=[5,6,7,8,11]) O).trans ((h.sub (M:=[5,6,7,8,11]) O).trans ((z.sub (M:=[5,6,7,8,11]) O).trans ((y.sub (M:=[5,6,7,8,11]) O).trans ((b.sub (M:=[5,6,7,8,11]) O).trans ((d.sub (M:=[5,6,7,8,11]) O).trans ((i.sub (M:=[5,6,7,8,11]) O).trans ((k.sub (M:=[5,6,7,8,11]) O).trans ((e.sub (M:=[5,6,7,8,11]) O).trans ((x.sub (M:=[5,6,7,8,11]) O).trans (C.sub (M:=[5,6,7,8,11]) O))))))))))))) O
         have d5:=ak.up ((H.sub (M:=[5,6,7,8,11]) O).trans ((I.sub (M:=[5,6,7,8,11]) O).trans ((D.sub (M:=[5,6,7,8,11]) O).trans ((h.sub (M:=[5,6,7,8,11]) O).trans ((z.sub (M:=[5,6,7,8,11]) O).trans ((y.sub (M:=[5,6,7,8,11]) O).trans ((b.sub (M:=[5,6,7,8,11]) O).trans ((d.sub (M:=[5,6,7,8,11]) O).trans ((i.sub (M:=[5,6,7,8,11]) O).trans ((k.sub (M:=[5,6,7,8,11]) O).trans ((e.sub (M:=[5,6,7,8,11]) O).trans ((x.sub (M:=[5,6,7,8,11]) O).trans (C.sub (M:=[5,6,7,8,11]) O))))))))))))) O
         refine ca Y (fun _=>p19 (K:=[0,3,4,9,10]) (x0:=(Vm.Repo.mk a.1.Commits a.1.Heads)) ((Repo.rd (K:=[9,10]) a.1.Commits a.1.Heads (b6.rd.sub (M:=[9,10]) O) (b7.rd.sub (M:=[9,10]) O)).sub (M:=[0,3,4,9,10]) O) ((Repo.rd (K:=[0,3,4]) f.1.Commits f.1.Heads d4 d5).sub (M:=[0,3,4,9,10]) O)) fun fh ck Y cl=>Lw.r O (R.not O) (Pb Z O (mb O (bs Y (fun aa Y=>?_) fun aa Y=>?_)))
         ·exact psk 3 aa O (Pb aa O (nl ((ag) ⟨true,ck,O,cl,O,Y⟩)))
         ·exact wak 3 aa (mi O (mi O (Lw.ne O (Pb aa O (nl ((ag) ⟨((a.2:Int) !=(f.2:Int)),ck,O,cl,O,Y⟩))))))
    ·refine rg (la bq (la bv ?_))
     have d6:=aj.up ((H.sub (M:=[5,8,11]) O).trans ((I.sub (M:=[5,8,11]) O).trans ((D.sub (M:=[5,8,11]) O).trans ((h.sub (M:=[5,8,11]) O).trans ((z.sub (M:=[5,8,11]) O).trans ((y.sub (M:=[5,8,11]) O).trans ((b.sub (M:=[5,8,11]) O).trans (d.sub (M:=[5,8,11]) O)))))))) O
     have d7:=ak.up ((H.sub (M:=[5,8,11]) O).trans ((I.sub (M:=[5,8,11]) O).trans ((D.sub (M:=[5,8,11]) O).trans ((h.sub (M:=[5,8,11]) O).trans ((z.sub (M:=[5,8,11]) O).trans ((y.sub (M:=[5,8,11]) O).trans ((b.sub (M:=[5,8,11]) O).trans (d.sub (M:=[5,8,11]) O)))))))) O
     refine ca Y (fun _=>p19 (K:=[0,3,4,9,10]) (x0:=(Vm.Repo.mk a.1.Commits a.1.Heads)) ((Repo.rd (K:=[9,10]) a.1.Commits a.1.Heads (br.rd.sub (M:=[9,10]) O) (bu.rd.sub (M:=[9,10]) O)).sub (M:=[0,3,4,9,10]) O) ((Repo.rd (K:=[0,3,4]) f.1.Commits f.1.Heads d6 d7).sub (M:=[0,3,4,9,10]) O)) fun fi cm Y co=>Lw.r O (R.not O) (mb O (bs Y (fun ac Y=>?_) fun ac Y=>?_))
     ·exact psk 3 ac O (Pb ac O (nl ((ag) ⟨true,cm,O,co,O,Y⟩)))
     ·exact wak 3 ac (mi O (mi O (Lw.ne O (Pb ac O (nl ((ag) ⟨((a.2:Int) !=(f.2:Int)),cm,O,co,O,Y⟩))))))
theorem p5 {x0 a b x1 x2 x3 r}(d:Rd W K [a,b] x0)(f:Gl 0 W K)(Y:Vm.zeV x0 x1 x2 x3=some r):Q1 5 [.agg [a,b].toArray,vS x1,vS x2,vI x3] W [] fun W' v=>v=vB r:=
 (c5 (d.view _) (f.view _) Y).ad (fk 0) fun _ _ e=>e
end Go.Sx
