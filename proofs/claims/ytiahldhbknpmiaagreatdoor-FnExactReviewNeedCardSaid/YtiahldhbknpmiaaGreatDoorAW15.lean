/- Walks: each function answers as its model, printed by a program of ours. Conditions: the arguments read as they are given. -/
import Derived.Test.YtiahldhbknpmiaaGreatDoorATs
import Derived.Test.YtiahldhbknpmiaaGreatDoorAM7
import Derived.Test.YtiahldhbknpmiaaGreatDoorAW0
import Derived.Test.YtiahldhbknpmiaaGreatDoorAW1
import Derived.Test.YtiahldhbknpmiaaGreatDoorAW14
import Derived.Test.YtiahldhbknpmiaaGreatDoorAW9
namespace Go.Sx
open Go Go.Proofs Go.Vm Rp
set_option linter.unusedVariables false
set_option linter.unusedSimpArgs false
variable {W W0:CW}{K:List Nat}
theorem c195 {x0 b x1 f r}(d:Rd W0 [0] [b] x0)(h:Rd W0 [0] [f] x1)(Y:Vm.zkW x0 x1=some r):Q0 195 [b,f] W0 fun Wf v=> ∃ u0,v=u0/\OwS Wf LL [] [u0] r:=by
 unfold Vm.zkW at Y
 refine zaz.of Tryz.func195 O O O O (sr (Nv (.slice none 0 0) O (sr (Lw.t O (T.lit0 (α:=Change) 2 []) ?_))))
 rintro v1 _ ⟨W1,rfl,l1,o1⟩
 have a2:=l1.o
 refine Nv v1 O (ssr (Ni O (Cw.block ?_)))
 obtain⟨dl,dm,Y⟩:=zbM Y
 refine Cw.loop 17 97 [5,6,7,8,9] (fun m l w=> ∃ k y6 y j7 j8 j9 z,CW.w z=w/\Le [2,4,6] W1 z/\l=[y,vI y6,j7,j8,j9]/\Ow z 2 [] [y] k/\Vm.zhH x0 x1 dl m k y6=some r) _ ⟨([]:List Change),0,v1,undef,undef,undef,W1,O,Le.refl _ _,O,o1,Y⟩ ?_
 rintro(_ |fm) _ _ σ ⟨k,y6,y,j7,j8,j9,z,rfl,l10,rfl,o5,Y⟩
 ·cases Y
 unfold Vm.zhH at Y
 have E:=a2.t l10
 refine ssr (mi O (mv b O (Lw.ln x0 (d.ul E) O (Lw.lt O (nl (cn Y (fun Y=>?_) fun Y=>?_))))))
 ·refine sk ?_
  obtain⟨dn,dp,Y⟩:=zbM Y
  refine Cw.join 23 97 [5,7,8,9] (fun l w=> ∃ ap aq bh bi bj U,CW.w U=w/\Le [2,4,6] z U/\l=[aq,bh,bi,bj]/\Ow U 2 [] [aq] ap/\dn ap=some r) ?_ ?_
  ·rintro _ _ σ ⟨ap,aq,bh,bi,bj,U,rfl,dq,rfl,dr,Y⟩
   rw[dp]at Y
   exact rg (mi O (Lw.add O (Ni O ((agm) ⟨ap,w64 (y6+1),aq,bh,bi,bj,U,O,(l10.j dq).w,O,dr,Y⟩))))
  ·refine Cw.block (sr (mv f O (mv b O (mi O ?_))))
   obtain⟨fn,cj,Y⟩:=ob Y
   refine Lw.r O (R.ix (α:=File) (d.ul E) cj O O O) (Lw.fa O (Lw.r O (R.ld O O (File.at0 ((d.ul E).at_ cj)).str) (cr Y (fun _=>p216 (h.ul E)) ?_)))
   rintro A _ bk Y V ⟨e,rfl,ds⟩
   have ck:=ds.sub (M:=[0]) O
   have ar:=E.n V
   refine mv (.tuple [e,vB A.2].toArray) O (Lw.r O (R.ext (vs:=[e,vB A.2]) (v:=e) O O) (Lw.r O (R.ext (vs:=[e,vB A.2]) (v:=vB A.2) O O) (Gv e O (Nb O ?_))))
   obtain⟨dt,du,Y⟩:=zbM Y
   refine Cw.join 33 59 [5] (fun l w=> ∃ au B W,CW.w W=w/\Le [2,6] bk W/\l=[B]/\Ow W 2 [] [B] au/\dt au=some r) ?_ ?_
   ·rintro _ _ σ ⟨au,B,W,rfl,av,rfl,aw,Y⟩
    rw[du]at Y
    have X:=ar.t av
    refine ssr (mb O (nl (cn Y (fun Y=>?_) fun Y=>?_)))
    ·exact Cw.exit ((ag) ⟨au,B,e,vB A.2,j9,W,O,(V.j av).w,O,aw,Y⟩)
    ·refine sk (sr (mv b O (mv f O (mv b O (mi O ?_)))))
     obtain⟨fo,cl,Y⟩:=ob Y
     refine Lw.r O (R.ix (α:=File) (d.ul X) cl O O O) (Lw.fa O ?_)
     obtain⟨fp,c45,r46⟩:=(File.at1 ((d.ul X).at_ cl)).cell O
     refine Lw.r O (R.ld O O c45) (mv B O (ca Y (fun _=>p219 (K:=[0,2]) ((d.ul X).sub (M:=[0,2]) O) ((h.ul X).sub (M:=[0,2]) O) (r46.sub (M:=[0,2]) O) (aw.rd.sub (M:=[0,2]) O)) fun C fq Y Z=>?_))
     have bl:=X.n Z
     refine Ns O (sr (ms O (Lw.sne O (nl (cn Y (fun Y=>?_) fun Y=>?_)))))
     ·refine rg (mv B O (mv b O (mi O ?_)))
      obtain⟨aa,cm,Y⟩:=ob Y
      refine Lw.r O (R.ix (α:=File) (d.ul bl) cm O O O) (Lw.fa O (Lw.r O (R.ld O O (File.at0 ((d.ul bl).at_ cm)).str) (ms O (Lw.r O (R.bd (zs:=[vI 0,vS ([]:Str),vS ([]:Str), .slice none 0 0, .slice none 0 0]) (cs:=[vI 4,vS aa.Path,vS C, .slice none 0 0, .slice none 0 0]) [(0,vI 4),(1,vS aa.Path),(2,vS C)] O O O (zbc O O (zbc O O (zbc O O ze4)))) (Lw.t O (T.bs 3 [.agg [vI 4,vS aa.Path,vS C, .slice none 0 0, .slice none 0 0].toArray] (cs:=[vI 4,vS aa.Path,vS C, .slice none 0 0, .slice none 0 0]) O O (bsA O)) ?_)))))
      rintro _ _ ⟨fr,fs,rfl,rfl,co,dv⟩
      obtain⟨dw,dx,Y⟩:=ob Y
      refine Lw.t O (T.app1 (α:=Change) (J:=[]) (K':=[]) ((aw.up Z).up co) dv (Change.own 4 aa.Path C ([]:List Str) ([]:List Hunk) (znU []) (znU [])) O O dx) ?_
      rintro cp _ ⟨dy,rfl,dz,d0⟩
      exact Nv cp O ((ag) ⟨dw,cp,e,vB A.2,vS C,dy,O,((((V.j av).j Z).j co).j dz).w,O,d0,Y⟩)
     ·refine Cw.draw [2,4] [(0,0),(1,0),(2,0),(3,0),(4,0),(5,1),(7,0),(8,0),(9,0),(10,0),(11,1),(6,2),(12,2),(13,0),(14,2),(15,2),(16,0)] mixed (by kernel_rfl) fun ft bm=>?_
      have d1:=bl.n bm
      refine Dv B O (Dv b O (Di O ?_))
      obtain⟨ac,bn,Y⟩:=ob Y
      have F:=d.ul d1
      refine Mw.p O O (fun _=>R.ix (α:=File) F bn O O O) (Df O (Mw.q O O (fun _ c=>R.ld O O (zaB (File.at0 (F.at_ bn)).1 O (File.at0 (F.at_ bn)).str c)) (Dv b O (Di O ?_))))
      obtain⟨fu,bp,Y⟩:=ob Y
      refine Mw.p O O (fun _=>R.ix (α:=File) F bp O O O) (Df O ?_)
      obtain⟨fv,c74,r75⟩:=(File.at1 (F.at_ bp)).cell O
      refine Mw.q O O (fun _ c=>R.ld O O (zaB (File.at1 (F.at_ bp)).1 O c74 c)) (Mw.t O O (T.lit0 (α:=Str) 4 []) ?_)
      rintro fw _ ⟨fx,rfl,ax,d2⟩
      have d3:=ax.o
      refine m0 ax fun d4=>?_
      obtain⟨d5,d6,Y⟩:=ob Y
      refine Mw.t O O (T.appP (α:=Str) d2 (r75.ul d3) O O d6) ?_
      rintro ay _ ⟨fy,rfl,bq,cq⟩
      refine mc d4 bq fun d7=>Mw.p O O (fun _=>R.bd (zs:=[vI 0,vS ([]:Str),vS ([]:Str), .slice none 0 0, .slice none 0 0]) (cs:=[vI 2,vS ac.Path,vS ([]:Str),ay, .slice none 0 0]) [(0,vI 2),(1,vS ac.Path),(3,ay)] O O O (zbc O O (zbc O O (zbc cq.oc O ze4)))) (Mw.t O O (T.bs 5 [.agg [vI 2,vS ac.Path,vS ([]:Str),ay, .slice none 0 0].toArray] (cs:=[vI 2,vS ac.Path,vS ([]:Str),ay, .slice none 0 0]) O O (bsA O)) ?_)
      rintro _ _ ⟨fz,f0,rfl,rfl,az,d8⟩
      refine mc d7 az fun d9=>?_
      obtain⟨ea,eb,Y⟩:=ob Y
      refine Mw.t O O (T.app1 (α:=Change) (J:=[4]) (K':=[]) (((((aw.up Z).up bm).up ax).up bq).up az) d8 (Change.own 2 ac.Path ([]:Str) d5 ([]:List Hunk) (cq.up az).s (znU [])) O O eb) ?_
      rintro ct _ ⟨ec,rfl,cu,ed⟩
      exact mc d9 cu fun f1=>Hv ct O (Mw.nil ((ag) ⟨ea,ct,e,vB A.2,vS C,ec,O,(((((((V.j av).j Z).j bm).j ax).j bq).j az).j cu).w,O,ed,Y⟩))
   ·obtain⟨ee,ef,Y⟩:=zbM Y
    refine Cw.join 33 43 [43] (fun l w=> ∃ br a0,CW.w a0=w/\Le [] bk a0/\l=[vB br]/\ee br=some r) ?_ ?_
    ·rintro _ _ σ ⟨br,a0,rfl,a1,rfl,Y⟩
     rw[ef]at Y
     have cv:=a1.o
     have cw:=(o5.up V).up a1
     refine cn Y (fun Y=>?_) fun Y=>?_
     ·refine Cw.draw [2,6] [(0,0),(1,0),(2,0),(3,0),(4,0),(5,1),(6,0),(7,0),(8,0),(9,0),(10,1),(11,0),(12,2),(13,0),(14,2),(15,2),(16,0)] mixed (by kernel_rfl) fun f2 bu=>?_
      have cx:=bu.o
      refine Dv y O (Dv b O (Di O ?_))
      obtain⟨ae,bv,Y⟩:=ob Y
      have G:=d.ul ((ar.trans cv).trans cx)
      refine Mw.p O O (fun _=>R.ix (α:=File) G bv O O O) (Df O (Mw.q O O (fun _ c=>R.ld O O (zaB (File.at0 (G.at_ bv)).1 O (File.at0 (G.at_ bv)).str c)) (Dv b O (Di O ?_))))
      obtain⟨f3,bw,Y⟩:=ob Y
      refine Mw.p O O (fun _=>R.ix (α:=File) G bw O O O) (Df O ?_)
      obtain⟨f4,c109,r110⟩:=(File.at1 (G.at_ bw)).cell O
      refine Mw.q O O (fun _ c=>R.ld O O (zaB (File.at1 (G.at_ bw)).1 O c109 c)) (Dv e O (Dc Y (Le.refl _ _) (fun _=>p218 (k0:=6) r110 (ck.ul (cv.trans cx))) O ?_))
      rintro eg a3 f5 Y cy ⟨_,rfl,cz⟩ eh
      refine Mw.p O O (fun _=>R.bd (zs:=[vI 0,vS ([]:Str),vS ([]:Str), .slice none 0 0, .slice none 0 0]) (cs:=[vI 3,vS ae.Path,vS ([]:Str), .slice none 0 0,a3]) [(0,vI 3),(1,vS ae.Path),(4,a3)] O O O (zbc O O (zbc O O (zbc cz.oc O ze4)))) (Mw.t O O (T.bs 7 [.agg [vI 3,vS ae.Path,vS ([]:Str), .slice none 0 0,a3].toArray] (cs:=[vI 3,vS ae.Path,vS ([]:Str), .slice none 0 0,a3]) O O (bsA O)) ?_)
      rintro _ _ ⟨f6,f7,rfl,rfl,a4,ei⟩
      refine mc eh a4 fun ej=>?_
      obtain⟨ek,el,Y⟩:=ob Y
      refine Mw.t O O (T.app1 (α:=Change) (J:=[6]) (K':=[]) (((cw.up bu).up cy).up a4) ei (Change.own 3 ae.Path ([]:Str) ([]:List Str) eg (znU []) (cz.up a4).s) O O el) ?_
      rintro c0 _ ⟨em,rfl,c1,en⟩
      exact mc ej c1 fun f8=>Hv c0 O (Mw.nil ((ag) ⟨ek,c0,em,O,((((a1.j bu).j cy).j a4).j c1).w,O,en,Y⟩))
     ·exact sk ((ag) ⟨k,y,a0,O,a1.w,O,cw,Y⟩)
    ·refine rg (mb O (mb O (bs Y (fun af Y=>?_) fun af Y=>?_)))
     ·refine wak 8 af (mv e O (mv b O (mi O ?_)))
      obtain⟨f9,c2,Y⟩:=ob Y
      refine Lw.r O (R.ix (α:=File) (d.ul ar) c2 O O O) (Lw.fa O ?_)
      obtain⟨ga,c131,r132⟩:=(File.at1 ((d.ul ar).at_ c2)).cell O
      exact Lw.r O (R.ld O O c131) (ca Y (fun _=>p217 ck r132) fun eo ep Y er=>Lw.r O (R.not O) (Pb af O (nl ((ag) ⟨(!eo),ep,O,er,O,Y⟩))))
     ·exact psk 8 af O (Pb af O (nl ((ag) ⟨false,bk,O,Le.refl _ _,O,Y⟩)))
 ·refine Cw.exit ?_
  rw[dm]at Y
  refine sr (mv y O (Lw.ln k o5.rd O (Ni O (ssr (Ni O (Cw.block ?_))))))
  obtain⟨es,et,Y⟩:=zbM Y
  refine Cw.loop 100 156 [5,11,12,13,14,15] (fun m l w=> ∃ ah H i c3 c4 c5 c6 ai,CW.w ai=w/\Le [2,8] z ai/\l=[i,vI H,c3,c4,c5,c6]/\Ow ai 2 [] [i] ah/\Vm.zer x0 x1 k es m ah H=some r) _ ⟨k,0,y,undef,undef,undef,undef,z,O,Le.refl _ _,O,o5,Y⟩ ?_
  rintro(_ |gb) _ _ σ ⟨ah,H,i,c3,c4,c5,c6,ai,rfl,c7,rfl,c8,Y⟩
  ·cases Y
  unfold Vm.zer at Y
  have I:=E.t c7
  refine ssr (mi O (mv f O (Lw.ln x1 (h.ul I) O (Lw.lt O (nl (cn Y (fun Y=>?_) fun Y=>?_))))))
  ·refine sk ?_
   obtain⟨eu,ew,Y⟩:=zbM Y
   refine Cw.join 106 156 [5,12,13,14,15] (fun l w=> ∃ a5 a6 bz b0 b1 b2 aj,CW.w aj=w/\Le [2,8] ai aj/\l=[a6,bz,b0,b1,b2]/\Ow aj 2 [] [a6] a5/\eu a5=some r) ?_ ?_
   ·rintro _ _ σ ⟨a5,a6,bz,b0,b1,b2,aj,rfl,ex,rfl,ey,Y⟩
    rw[ew]at Y
    exact rg (mi O (Lw.add O (Ni O ((agm) ⟨a5,w64 (H+1),a6,bz,b0,b1,b2,aj,O,(c7.j ex).w,O,ey,Y⟩))))
   ·refine Cw.block (sr (mv b O (mv f O (mi O ?_))))
    obtain⟨gc,c9,Y⟩:=ob Y
    refine Lw.r O (R.ix (α:=File) (h.ul I) c9 O O O) (Lw.fa O (Lw.r O (R.ld O O (File.at0 ((h.ul I).at_ c9)).str) (cr Y (fun _=>p216 (d.ul I)) ?_)))
    rintro L _ da Y a7 ⟨D,rfl,ez⟩
    have gd:=ez.sub (M:=[0]) O
    have e0:=I.n a7
    refine mv (.tuple [D,vB L.2].toArray) O (Lw.r O (R.ext (vs:=[D,vB L.2]) (v:=D) O O) (Lw.r O (R.ext (vs:=[D,vB L.2]) (v:=vB L.2) O O) (Gv D O (Nb O (sr (Nb O (ssr (Ni O (Cw.block ?_)))))))))
    obtain⟨e1,e2,Y⟩:=zbM Y
    refine Cw.loop 116 134 [14,15] (fun m l w=> ∃ N x P,CW.w P=w/\Le [] da P/\l=[vB N,vI x]/\Vm.zfN x1 k ah H e1 m N x=some r) _ ⟨false,0,da,O,Le.refl _ _,O,Y⟩ ?_
    rintro(_ |gf) _ _ σ ⟨N,x,P,rfl,Q,rfl,Y⟩
    ·cases Y
    unfold Vm.zfN at Y
    have db:=e0.n Q
    have b3:=(c8.up a7).up Q
    refine ssr (mi O (mi O (Lw.lt O (nl (cn Y (fun Y=>?_) fun Y=>?_)))))
    ·refine sk (Cw.seq (Cw.block (Cw.draw [] [(0,0),(1,0),(2,0),(3,0),(4,0),(5,0),(6,1),(7,0),(8,0),(9,0),(10,0),(11,1),(12,0),(13,0),(14,0)] mixed (by kernel_rfl) fun dc a8=>?_)))
     have b4:=db.n a8
     have b5:=b3.up a8
     refine Db O (Db O (bs Y (fun a Y=>?_) fun a Y=>?_))
     ·exact dps 11 a O (Mw.p O O (fun _=>R.pk a O (v:=vB true) O) (Hb O (Mw.nil (rg (mi O (Lw.add O (Ni O ((agm) ⟨true,w64 (x+1),dc,O,(Q.j a8).w,O,Y⟩))))))))
     ·refine Wp a O (fun _=>R.mv (v:=i) O) (Wp a O (fun _=>R.mv (v:=vI x) O) ?_)
      obtain⟨dd,b6,Y⟩:=ob Y
      refine Wp a O (fun _=>R.ix (α:=Change) b5.rd b6 O O O) (Wp a O (fun _=>R.fa O) (Wq a O (fun _ c=>R.ld O O (zaB (Change.at2 (b5.rd.at_ b6)).1 O (Change.at2 (b5.rd.at_ b6)).str c)) (Wp a O (fun _=>R.mv (v:=f) O) (Wp a O (fun _=>R.mv (v:=vI H) O) ?_))))
      obtain⟨de,b7,Y⟩:=ob Y
      exact Wp a O (fun _=>R.ix (α:=File) (h.ul b4) b7 O O O) (Wp a O (fun _=>R.fa O) (Wq a O (fun _ c=>R.ld O O (zaB (File.at0 ((h.ul b4).at_ b7)).1 O (File.at0 ((h.ul b4).at_ b7)).str c)) (Wp a O (fun _=>R.seq O O) (Mw.p O O (fun _=>R.pk a O (v:=vB (dd.To==de.Path)) O) (Hb O (Mw.nil (rg (mi O (Lw.add O (Ni O ((agm) ⟨(dd.To==de.Path),w64 (x+1),dc,O,(Q.j a8).w,O,Y⟩)))))))))))
    ·refine Cw.exit ?_
     rw[e2]at Y
     obtain⟨e3,e4,Y⟩:=zbM Y
     refine Cw.join 135 140 [140] (fun l w=> ∃ b8 a9,CW.w a9=w/\Le [] P a9/\l=[vB b8]/\e3 b8=some r) ?_ ?_
     ·rintro _ _ σ ⟨b8,a9,rfl,ak,rfl,Y⟩
      rw[e4]at Y
      have e5:=db.n ak
      refine cn Y (fun Y=>?_) fun Y=>?_
      ·refine Cw.draw [2,8] [(0,0),(1,0),(2,0),(3,0),(4,0),(5,1),(7,0),(8,0),(9,0),(10,0),(11,1),(6,2),(12,2),(13,0),(14,2),(15,2),(16,0)] mixed (by kernel_rfl) fun gg b9=>?_
       have e6:=e5.n b9
       refine Dv i O (Dv f O (Di O ?_))
       obtain⟨am,cb,Y⟩:=ob Y
       have S:=h.ul e6
       refine Mw.p O O (fun _=>R.ix (α:=File) S cb O O O) (Df O (Mw.q O O (fun _ c=>R.ld O O (zaB (File.at0 (S.at_ cb)).1 O (File.at0 (S.at_ cb)).str c)) (Dv f O (Di O ?_))))
       obtain⟨gh,cc,Y⟩:=ob Y
       refine Mw.p O O (fun _=>R.ix (α:=File) S cc O O O) (Df O ?_)
       obtain⟨gj,c203,r204⟩:=(File.at1 (S.at_ cc)).cell O
       refine Mw.q O O (fun _ c=>R.ld O O (zaB (File.at1 (S.at_ cc)).1 O c203 c)) (Mw.t O O (T.lit0 (α:=Str) 8 []) ?_)
       rintro gk _ ⟨gm,rfl,ba,e7⟩
       have e8:=ba.o
       refine m0 ba fun e9=>?_
       obtain⟨fb,fc,Y⟩:=ob Y
       refine Mw.t O O (T.appP (α:=Str) e7 (r204.ul e8) O O fc) ?_
       rintro bb _ ⟨gn,rfl,cd,df⟩
       refine mc e9 cd fun fd=>Mw.p O O (fun _=>R.bd (zs:=[vI 0,vS ([]:Str),vS ([]:Str), .slice none 0 0, .slice none 0 0]) (cs:=[vI 1,vS am.Path,vS ([]:Str),bb, .slice none 0 0]) [(0,vI 1),(1,vS am.Path),(3,bb)] O O O (zbc O O (zbc O O (zbc df.oc O ze4)))) (Mw.t O O (T.bs 9 [.agg [vI 1,vS am.Path,vS ([]:Str),bb, .slice none 0 0].toArray] (cs:=[vI 1,vS am.Path,vS ([]:Str),bb, .slice none 0 0]) O O (bsA O)) ?_)
       rintro _ _ ⟨go,gr,rfl,rfl,bc,fe⟩
       refine mc fd bc fun ff=>?_
       obtain⟨fg,fh,Y⟩:=ob Y
       refine Mw.t O O (T.app1 (α:=Change) (J:=[8]) (K':=[]) (((((b3.up ak).up b9).up ba).up cd).up bc) fe (Change.own 1 am.Path ([]:Str) fb ([]:List Hunk) (df.up bc).s (znU [])) O O fh) ?_
       rintro dg _ ⟨fi,rfl,dh,fj⟩
       exact mc ff dh fun gs=>Hv dg O (Mw.nil ((ag) ⟨fg,dg,D,vB L.2,vB N,vI x,fi,O,(((((((a7.j Q).j ak).j b9).j ba).j cd).j bc).j dh).w,O,fj,Y⟩))
      ·exact sk ((ag) ⟨ah,i,D,vB L.2,vB N,vI x,a9,O,((a7.j Q).j ak).w,O,(b3.up ak),Y⟩)
     ·refine rg (mb O (Lw.r O (R.not O) (mb O (bs Y (fun an Y=>?_) fun an Y=>?_))))
      ·exact wak 2 an (mb O (Lw.r O (R.not O) (Pb an O (nl ((ag) ⟨(!N),P,O,Le.refl _ _,O,Y⟩)))))
      ·exact psk 2 an O (Pb an O (nl ((ag) ⟨false,P,O,Le.refl _ _,O,Y⟩)))
  ·refine Cw.exit ?_
   rw[et]at Y
   refine sr (mv i O (Nv i O ?_))
   cases Y
   exact Cw.ret (zkN O (Res.mk I ⟨i,O,c8.s.sub O O⟩))
theorem p195 {x0 b x1 d k0 r}(f:Rd W K [b] x0)(h:Rd W K [d] x1)(Y:Vm.zkW x0 x1=some r):Q1 195 [b,d] W [] fun W' v=> ∃ a,v=a/\Ow W' k0 [] [a] r:=
 (c195 (f.view _) (h.view _) Y).ad (fk k0) fun _ _ ⟨a,e,i⟩=>⟨a,e,i.back (ziQ _)⟩
theorem c270 {x0 f r}(G:Rd W0 [0] [f] x0)(Y:Vm.zmg x0=some r):Q0 270 [f] W0 fun Wf v=>v=vB r:=by
 unfold Vm.zmg at Y
 refine zaz.of Tryz.func270 O O O O (sr (Nb O (ssr (Ni O (Cw.block ?_)))))
 obtain⟨K4,ah,Y⟩:=zbM Y
 refine Cw.loop 4 76 [2,3] (fun m l w=> ∃ C e D,CW.w D=w/\Le [] W0 D/\l=[vB C,vI e]/\Vm.zhI x0 K4 m C e=some r) _ ⟨false,0,W0,O,Le.refl _ _,O,Y⟩ ?_
 rintro(_ |m5) _ _ σ ⟨C,e,D,rfl,X,rfl,Y⟩
 ·cases Y
 unfold Vm.zhI at Y
 have A:=X.o
 refine ssr (mi O (mv f O (Lw.ln x0 (G.ul A) O (Lw.lt O (nl (cn Y (fun Y=>?_) fun Y=>?_))))))
 ·refine sk (Cw.seq (Cw.block ?_))
  obtain⟨ai,aj,Y⟩:=zbM Y
  refine Cw.join 10 76 [76] (fun l w=> ∃ H E,CW.w E=w/\Le [] D E/\l=[vB H]/\ai H=some r) ?_ ?_
  ·rintro _ _ σ ⟨H,E,rfl,l10,rfl,Y⟩
   rw[aj]at Y
   have ak:=A.n l10
   refine cn Y (fun Y=>?_) fun Y=>?_
   ·exact sr (Nb O (.ret (rt Y ak)))
   ·exact sk (rg (mi O (Lw.add O (Ni O ((agm) ⟨C,w64 (e+1),E,O,(X.j l10).w,O,Y⟩)))))
  ·refine Cw.draw [] [(0,0),(1,0),(2,0),(3,0),(4,1),(5,2),(6,0),(7,0),(8,0),(9,0),(10,0),(11,0),(12,1),(13,2),(14,0),(15,0),(16,0),(17,0),(18,0),(19,0),(20,0),(21,1),(22,0),(23,0),(24,0),(25,0),(26,0),(27,1),(28,0),(29,0),(30,0),(31,0),(32,0),(33,0),(34,0),(35,0),(36,0),(37,1),(38,2),(39,0),(40,0),(41,0),(42,0),(43,0),(44,0),(45,0),(46,0),(47,0),(48,0),(49,1),(50,0),(51,0),(52,0),(53,0),(54,0),(55,1),(56,0),(57,0),(58,0),(59,0),(60,0),(61,1),(62,0),(63,0),(64,0),(65,0),(66,0)] mixed (by kernel_rfl) fun az y=>?_
   have am:=A.n y
   refine Dv f O (Di O ?_)
   obtain⟨a0,I,Y⟩:=ob Y
   have a:=G.ul am
   refine Mw.p O O (fun _=>R.ix (α:=Hunk) a I O O O) (Df O ?_)
   obtain⟨a1,c20,r21⟩:=(Hunk.at1 (a.at_ I)).cell O
   refine Mw.q O O (fun _ c=>R.ld O O (zaB (Hunk.at1 (a.at_ I)).1 O c20 c)) ?_
   obtain⟨a2,an,Y⟩:=ob Y
   refine Mw.t O O (T.call O (p186 r21 an)) ?_
   rintro _ _ ⟨ao,rfl,x,rfl⟩
   have Z:=x.o
   refine m0 x fun ap=>Mw.p O O (fun _=>R.not O) (Db O (bs Y (fun h Y=>?_) fun h Y=>?_))
   ·exact dps 7 h O (Mw.p O O (fun _=>R.pk h O (v:=vB true) O) (Db O (dps 14 O O (Mw.p O O (fun _=>R.pk O O (v:=vB true) O) (Db O (dps 7 O O (Mw.p O O (fun _=>R.pk O O (v:=vB true) O) (Db O (dps 3 O O (dpu 20 O (dps 1 O O (Mw.p O O (fun _=>R.pk O O (v:=vB true) O) (Mw.nil ((ag) ⟨true,ao,O,(y.j x).w,O,Y⟩))))))))))))))
   ·refine Wp h O (fun _=>R.mv (v:=f) O) (Wp h O (fun _=>R.mv (v:=vI e) O) ?_)
    obtain⟨a3,J,Y⟩:=ob Y
    refine Wp h O (fun _=>R.ix (α:=Hunk) a J O O O) (Wp h O (fun _=>R.fa O) ?_)
    obtain⟨a4,c30,r31⟩:=(Hunk.at2 (a.at_ J)).cell O
    refine Wq h O (fun _ c=>R.ld O O (zaB (Hunk.at2 (a.at_ J)).1 O c30 c)) ?_
    obtain⟨aq,ar,Y⟩:=ob Y
    refine Wt h O (T.call O (p186 (r31.ul Z) ar)) ?_
    rintro _ _ ⟨aa,rfl,z,rfl⟩
    have K:=Z.n z
    refine mc ap z fun au=>Wp h O (fun _=>R.not O) (Mw.p O O (fun _=>R.pk h O (v:=vB (!aq)) O) (Db O (bs Y (fun d Y=>?_) fun d Y=>?_)))
    ·exact dps 14 d O (Mw.p O O (fun _=>R.pk d O (v:=vB true) O) (Db O (dps 7 O O (Mw.p O O (fun _=>R.pk O O (v:=vB true) O) (Db O (dps 3 O O (dpu 20 O (dps 1 O O (Mw.p O O (fun _=>R.pk O O (v:=vB true) O) (Mw.nil ((ag) ⟨true,aa,O,((y.j x).j z).w,O,Y⟩)))))))))))
    ·refine Wp d O (fun _=>R.mv (v:=f) O) (Wp d O (fun _=>R.mv (v:=vI e) O) ?_)
     obtain⟨ac,L,Y⟩:=ob Y
     refine Wp d O (fun _=>R.ix (α:=Hunk) a L O O O) (Wp d O (fun _=>R.fa O) ?_)
     obtain⟨a5,c41,r42⟩:=(Hunk.at1 (a.at_ L)).cell O
     refine Wq d O (fun _ c=>R.ld O O (zaB (Hunk.at1 (a.at_ L)).1 O c41 c)) (Wp d O (fun _=>ztT (xs:=ac.Less) (r42.ul K) O) (Wp d O (fun _=>R.mv (v:=f) O) (Wp d O (fun _=>R.mv (v:=vI e) O) ?_)))
     obtain⟨ae,M,Y⟩:=ob Y
     refine Wp d O (fun _=>R.ix (α:=Hunk) a M O O O) (Wp d O (fun _=>R.fa O) ?_)
     obtain⟨a7,c47,r48⟩:=(Hunk.at2 (a.at_ M)).cell O
     refine Wq d O (fun _ c=>R.ld O O (zaB (Hunk.at2 (a.at_ M)).1 O c47 c)) (Wp d O (fun _=>ztT (xs:=ae.More) (r48.ul K) O) (Wp d O (fun _=>R.add O O) (Wp d O (fun _=>R.eq O O) (Mw.p O O (fun _=>R.pk d O (v:=vB ((w64 ((ac.Less.length:Int)+(ae.More.length:Int)):Int)==(0:Int))) O) (Db O (bs Y (fun i Y=>?_) fun i Y=>?_))))))
     ·exact dps 7 i O (Mw.p O O (fun _=>R.pk i O (v:=vB true) O) (Db O (dps 3 O O (dpu 20 O (dps 1 O O (Mw.p O O (fun _=>R.pk O O (v:=vB true) O) (Mw.nil ((ag) ⟨true,aa,O,((y.j x).j z).w,O,Y⟩))))))))
     ·refine Wp i O (fun _=>R.mv (v:=f) O) (Wp i O (fun _=>R.mv (v:=vI e) O) ?_)
      obtain⟨a8,N,Y⟩:=ob Y
      refine Wp i O (fun _=>R.ix (α:=Hunk) a N O O O) (Wp i O (fun _=>R.fa O) (Wq i O (fun _ c=>R.ld O O (zaB (Hunk.at0 (a.at_ N)).1 O (Hunk.at0 (a.at_ N)).int c)) ?_))
      obtain⟨av,aw,Y⟩:=ob Y
      refine Wt i O (T.call O (p71 aw)) ?_
      rintro _ _ ⟨P,rfl,B,rfl⟩
      have ax:=K.n B
      refine mc au B fun a9=>Wp i O (fun _=>R.not O) (Mw.p O O (fun _=>R.pk i O (v:=vB (!av)) O) (Db O (bs Y (fun k Y=>?_) fun k Y=>?_)))
      ·exact dps 3 k O (dpu 20 O (dps 1 k O (Mw.p O O (fun _=>R.pk k O (v:=vB true) O) (Mw.nil ((ag) ⟨true,P,O,(((y.j x).j z).j B).w,O,Y⟩)))))
      ·refine Wp k O (fun _=>R.mv (v:=vI e) O) (Wp k O (fun _=>R.gt O O) (Wp k O (fun _=>R.mv (v:=vB (decide (0< (e:Int)))) O) (bs Y (fun b Y=>?_) fun b Y=>?_)))
       ·refine Wp b O (fun _=>R.mv (v:=f) O) (Wp b O (fun _=>R.mv (v:=vI e) O) ?_)
        obtain⟨Q,S,Y⟩:=ob Y
        refine Wp b O (fun _=>R.ix (α:=Hunk) a S O O O) (Wp b O (fun _=>R.fa O) (Wq b O (fun _ c=>R.ld O O (zaB (Hunk.at0 (a.at_ S)).1 O (Hunk.at0 (a.at_ S)).int c)) (Wp b O (fun _=>R.mv (v:=f) O) (Wp b O (fun _=>R.mv (v:=vI e) O) (Wp b O (fun _=>R.sub O O) ?_)))))
        obtain⟨U,V,Y⟩:=ob Y
        refine Wp b O (fun _=>R.ix (α:=Hunk) a V O O O) (Wp b O (fun _=>R.fa O) (Wq b O (fun _ c=>R.ld O O (zaB (Hunk.at0 (a.at_ V)).1 O (Hunk.at0 (a.at_ V)).int c)) (Wp b O (fun _=>R.mv (v:=f) O) (Wp b O (fun _=>R.mv (v:=vI e) O) (Wp b O (fun _=>R.sub O O) ?_)))))
        obtain⟨F,W,Y⟩:=ob Y
        refine Wp b O (fun _=>R.ix (α:=Hunk) a W O O O) (Wp b O (fun _=>R.fa O) ?_)
        obtain⟨ba,c66,r67⟩:=(Hunk.at1 (a.at_ W)).cell O
        exact Wq b O (fun _ c=>R.ld O O (zaB (Hunk.at1 (a.at_ W)).1 O c66 c)) (Wp b O (fun _=>ztT (xs:=F.Less) (r67.ul ax) O) (Wp b O (fun _=>R.add O O) (Wp b O (fun _=>R.le O O) (Wp k O (fun _=>R.pk b O (v:=vB (decide ((Q.At:Int)<=(w64 (U.At+(F.Less.length:Int)):Int)))) O) (Mw.p O O (fun _=>R.pk k O (v:=vB (decide ((Q.At:Int)<=(w64 (U.At+(F.Less.length:Int)):Int)))) O) (Mw.nil ((ag) ⟨decide ((Q.At:Int)<=(w64 (U.At+(F.Less.length:Int)):Int)),P,O,(((y.j x).j z).j B).w,O,Y⟩)))))))
       ·exact dps 20 b O (Wp k O (fun _=>R.pk b O (v:=vB false) O) (Mw.p O O (fun _=>R.pk k O (v:=vB false) O) (Mw.nil ((ag) ⟨false,P,O,(((y.j x).j z).j B).w,O,Y⟩))))
 ·refine Cw.exit ?_
  rw[ah]at Y
  exact sr (mv f O (Lw.ln x0 (G.ul A) O (Lw.le O (Nb O (.ret (rt Y A))))))
theorem p270 {x0 a r}(b:Rd W K [a] x0)(Y:Vm.zmg x0=some r):Q1 270 [a] W [] fun W' v=>v=vB r:=
 (c270 (b.view _) Y).ad (fk 0) fun _ _ e=>e
theorem c243 {x0 aa ac r}(h0:Rd W0 [0] [vI x0.Kind,vS x0.Path,vS x0.To,aa,ac] x0)(Y:Vm.zld x0=some r):Q0 243 [.agg [vI x0.Kind,vS x0.Path,vS x0.To,aa,ac].toArray] W0 fun Wf v=>v=vB r:=by
 unfold Vm.zld at Y
 obtain⟨be,bg,ae,N,H⟩:=Change.split h0
 simp only[List.cons.injEq,and_true,true_and]at ae
 obtain⟨rfl,rfl⟩:=ae
 refine zaz.of Tryz.func243 O O O O (sr (bo 2 O fun g1 P l1 b1=>?_))
 have a2:=l1.o
 refine Nb O (ssr (fl b1 O (nl (Cw.block ?_))))
 obtain⟨K5,ar,Y⟩:=zbM Y
 refine Cw.join 5 7 [5] (fun l w=> ∃ Q f,CW.w f=w/\Le [] P f/\l=[vB Q]/\K5 Q=some r) ?_ ?_
 ·rintro _ _ σ ⟨Q,f,rfl,l4,rfl,Y⟩
  rw[ar]at Y
  have b:=a2.n l4
  have d:=b1.up l4
  refine cn Y (fun Y=>?_) fun Y=>?_
  ·obtain⟨au,av,Y⟩:=zbM Y
   refine Cw.join 8 26 [2] (fun l w=> ∃ R S,CW.w S=w/\Le [] f S/\l=[vB R]/\au R=some r) ?_ ?_
   ·rintro _ _ σ ⟨R,S,rfl,l10,rfl,Y⟩
    rw[av]at Y
    have aw:=b.n l10
    exact .ret (rt Y aw)
   ·refine rg (fl d O (ca Y (fun _=>p158) fun bi ai Y h=>?_))
    have aj:=b.n h
    have T:=d.up h
    refine mb O (bs Y (fun k Y=>?_) fun k Y=>?_)
    ·refine wak 3 k (fl T O (Lw.seq O (Pb k O (mb O (bs Y (fun x Y=>?_) fun x Y=>?_)))))
     ·refine wak 3 x (fl T O (ca Y (fun _=>p186 (N.ul aj)) fun bj ak Y I=>?_))
      have ax:=aj.n I
      refine Pb x O (mb O (bs Y (fun y Y=>?_) fun y Y=>?_))
      ·exact wak 4 y (fl (T.up I) O (Lw.ln x0.Patch (H.ul ax) O (Lw.eq O (Pb y O (Nb O ((ag) ⟨((x0.Patch.length:Int)==0),ak,O,(h.j I).w,O,Y⟩))))))
      ·exact psk 4 y O (Pb y O (Nb O ((ag) ⟨false,ak,O,(h.j I).w,O,Y⟩)))
     ·exact psk 3 x O (Pb x O (mb O (psk 4 O O (Pb O O (Nb O ((ag) ⟨false,ai,O,h,O,Y⟩))))))
    ·exact psk 3 k O (Pb k O (mb O (psk 3 O O (Pb O O (mb O (psk 4 O O (Pb O O (Nb O ((ag) ⟨false,ai,O,h,O,Y⟩)))))))))
  ·refine sr (Lw.eq O (Nb O (cn Y (fun Y=>?_) fun Y=>?_)))
   ·obtain⟨ay,az,Y⟩:=zbM Y
    refine Cw.join 29 53 [2] (fun l w=> ∃ U V,CW.w V=w/\Le [] f V/\l=[vB U]/\ay U=some r) ?_ ?_
    ·rintro _ _ σ ⟨U,V,rfl,a0,rfl,Y⟩
     rw[az]at Y
     have a1:=b.n a0
     exact .ret (rt Y a1)
    ·refine rg (fl d O (ca Y (fun _=>p158) fun bk J Y e=>?_))
     have W:=b.n e
     have K:=d.up e
     refine mb O (bs Y (fun z Y=>?_) fun z Y=>?_)
     ·refine wak 3 z (fl K O (Lw.seq O (Pb z O (mb O (bs Y (fun A Y=>?_) fun A Y=>?_)))))
      ·refine wak 4 A (fl K O (Lw.ln x0.Text (N.ul W) O (Lw.eq O (Pb A O (mb O (bs Y (fun B Y=>?_) fun B Y=>?_))))))
       ·refine wak 4 B (fl K O (Lw.ln x0.Patch (H.ul W) O (Lw.gt O (Pb B O (mb O (bs Y (fun C Y=>?_) fun C Y=>?_))))))
        ·exact wak 3 C (fl K O (ca Y (fun _=>p270 (H.ul W)) fun a3 a4 Y a5=>Pb C O (Nb O ((ag) ⟨a3,a4,O,(e.j a5).w,O,Y⟩))))
        ·exact psk 3 C O (Pb C O (Nb O ((ag) ⟨false,J,O,e,O,Y⟩)))
       ·exact psk 4 B O (Pb B O (mb O (psk 3 O O (Pb O O (Nb O ((ag) ⟨false,J,O,e,O,Y⟩))))))
      ·exact psk 4 A O (Pb A O (mb O (psk 4 O O (Pb O O (mb O (psk 3 O O (Pb O O (Nb O ((ag) ⟨false,J,O,e,O,Y⟩)))))))))
     ·exact psk 3 z O (Pb z O (mb O (psk 4 O O (Pb O O (mb O (psk 4 O O (Pb O O (mb O (psk 3 O O (Pb O O (Nb O ((ag) ⟨false,J,O,e,O,Y⟩))))))))))))
   ·refine sr (Lw.eq O (Nb O (cn Y (fun Y=>?_) fun Y=>?_)))
    ·obtain⟨a7,a8,Y⟩:=zbM Y
     refine Cw.join 56 82 [2] (fun l w=> ∃ X Z,CW.w Z=w/\Le [] f Z/\l=[vB X]/\a7 X=some r) ?_ ?_
     ·rintro _ _ σ ⟨X,Z,rfl,a9,rfl,Y⟩
      rw[a8]at Y
      have ba:=b.n a9
      exact .ret (rt Y ba)
     ·refine rg (fl d O (ca Y (fun _=>p158) fun bl bb Y a=>?_))
      have bc:=b.n a
      refine mb O (bs Y (fun D Y=>?_) fun D Y=>?_)
      ·refine wak 3 D (fl (d.up a) O (ca Y (fun _=>p158) fun bm L Y i=>?_))
       have am:=bc.n i
       have M:=(d.up a).up i
       refine Pb D O (mb O (bs Y (fun E Y=>?_) fun E Y=>?_))
       ·refine wak 5 E (fl M O (fl M O (Lw.sne O (Pb E O (mb O (bs Y (fun F Y=>?_) fun F Y=>?_))))))
        ·refine wak 4 F (fl M O (Lw.ln x0.Text (N.ul am) O (Lw.eq O (Pb F O (mb O (bs Y (fun G Y=>?_) fun G Y=>?_))))))
         ·exact wak 4 G (fl M O (Lw.ln x0.Patch (H.ul am) O (Lw.eq O (Pb G O (Nb O ((ag) ⟨((x0.Patch.length:Int)==0),L,O,(a.j i).w,O,Y⟩))))))
         ·exact psk 4 G O (Pb G O (Nb O ((ag) ⟨false,L,O,(a.j i).w,O,Y⟩)))
        ·exact psk 4 F O (Pb F O (mb O (psk 4 O O (Pb O O (Nb O ((ag) ⟨false,L,O,(a.j i).w,O,Y⟩))))))
       ·exact psk 5 E O (Pb E O (mb O (psk 4 O O (Pb O O (mb O (psk 4 O O (Pb O O (Nb O ((ag) ⟨false,L,O,(a.j i).w,O,Y⟩)))))))))
      ·exact psk 3 D O (Pb D O (mb O (psk 5 O O (Pb O O (mb O (psk 4 O O (Pb O O (mb O (psk 4 O O (Pb O O (Nb O ((ag) ⟨false,bb,O,a,O,Y⟩))))))))))))
    ·exact sk (sr (Nb O (.ret (rt Y b))))
 ·refine sr (Lw.eq O (Nb O (cn Y (fun Y=>?_) fun Y=>?_)))
  ·exact sk ((ag) ⟨(x0.Kind==1),P,O,Le.refl _ _,O,Y⟩)
  ·exact rg (Lw.eq O (Nb O ((ag) ⟨(x0.Kind==2),P,O,Le.refl _ _,O,Y⟩)))
theorem p243 {x0 a b r}(d:Rd W K [vI x0.Kind,vS x0.Path,vS x0.To,a,b] x0)(Y:Vm.zld x0=some r):Q1 243 [.agg [vI x0.Kind,vS x0.Path,vS x0.To,a,b].toArray] W [] fun W' v=>v=vB r:=
 (c243 (d.view _) Y).ad (fk 0) fun _ _ e=>e
theorem c244 {x0 b x1 r}(B:Rd W0 [0] [b] x0)(Y:Vm.zjp x0 x1=some r):Q0 244 [b,vS x1] W0 fun Wf v=>v=vB r:=by
 unfold Vm.zjp at Y
 refine zaz.of Tryz.func244 O O O O (sr (Nb O (ssr (Ni O (Cw.block ?_)))))
 obtain⟨C,D,Y⟩:=zbM Y
 refine Cw.loop 6 27 [4,5] (fun m l w=> ∃ f h a,CW.w a=w/\Le [] W0 a/\l=[vB f,vI h]/\Vm.zfU x0 x1 C m f h=some r) _ ⟨false,0,W0,O,Le.refl _ _,O,Y⟩ ?_
 rintro(_ |I) _ _ σ ⟨f,h,a,rfl,y,rfl,Y⟩
 ·cases Y
 unfold Vm.zfU at Y
 have k:=y.o
 refine ssr ?_
 have d:=B.ul k
 refine mi O (mv b O (Lw.ln x0 d O (Lw.lt O (nl (cn Y (fun Y=>?_) fun Y=>?_)))))
 ·refine sk (Cw.seq (Cw.block ?_))
  obtain⟨E,F,Y⟩:=zbM Y
  refine Cw.join 12 27 [27] (fun l w=> ∃ x i,CW.w i=w/\Le [] a i/\l=[vB x]/\E x=some r) ?_ ?_
  ·rintro _ _ σ ⟨x,i,rfl,l10,rfl,Y⟩
   rw[F]at Y
   have G:=k.n l10
   refine cn Y (fun Y=>?_) fun Y=>?_
   ·exact sr (Nb O (.ret (rt Y G)))
   ·exact sk (rg (mi O (Lw.add O (Ni O ((agm) ⟨f,w64 (h+1),i,O,(y.j l10).w,O,Y⟩)))))
  ·refine rg (mv b O (mi O ?_))
   obtain⟨J,z,Y⟩:=ob Y
   refine Lw.r O (R.ix (α:=Change) d z O O O) (Lw.fa O (Lw.r O (R.ld O O (Change.at1 (d.at_ z)).str) (ms O (Lw.seq O (mb O (bs Y (fun e Y=>?_) fun e Y=>?_))))))
   ·exact psk 7 e O (Pb e O (nl ((ag) ⟨true,a,O,Le.refl _ _,O,Y⟩)))
   ·refine wak 7 e (mv b O (mi O ?_))
    obtain⟨H,A,Y⟩:=ob Y
    exact Lw.r O (R.ix (α:=Change) d A O O O) (Lw.fa O (Lw.r O (R.ld O O (Change.at2 (d.at_ A)).str) (ms O (Lw.seq O (Pb e O (nl ((ag) ⟨(H.To==x1),a,O,Le.refl _ _,O,Y⟩)))))))
 ·refine Cw.exit ?_
  rw[D]at Y
  exact sr (Nb O (.ret (rt Y k)))
theorem p244 {x0 a x1 r}(b:Rd W K [a] x0)(Y:Vm.zjp x0 x1=some r):Q1 244 [a,vS x1] W [] fun W' v=>v=vB r:=
 (c244 (b.view _) Y).ad (fk 0) fun _ _ e=>e
theorem c215 {x0 f r}(i:Rd W0 [0] [f] x0)(Y:Vm.zmh x0=some r):Q0 215 [f] W0 fun Wf v=>v=vB r:=by
 unfold Vm.zmh at Y
 refine zaz.of Tryz.func215 O O O O (sr (Nb O (ssr (Ni O (Cw.block ?_)))))
 obtain⟨W,X,Y⟩:=zbM Y
 refine Cw.loop 4 47 [2,3] (fun m l w=> ∃ B h C,CW.w C=w/\Le [] W0 C/\l=[vB B,vI h]/\Vm.zhJ x0 W m B h=some r) _ ⟨false,0,W0,O,Le.refl _ _,O,Y⟩ ?_
 rintro(_ |m5) _ _ σ ⟨B,h,C,rfl,M,rfl,Y⟩
 ·cases Y
 unfold Vm.zhJ at Y
 have x:=M.o
 refine ssr (mi O (mv f O (Lw.ln x0 (i.ul x) O (Lw.lt O (nl (cn Y (fun Y=>?_) fun Y=>?_))))))
 ·refine sk (Cw.seq (Cw.block ?_))
  obtain⟨Z,aa,Y⟩:=zbM Y
  refine Cw.join 10 47 [47] (fun l w=> ∃ E D,CW.w D=w/\Le [] C D/\l=[vB E]/\Z E=some r) ?_ ?_
  ·rintro _ _ σ ⟨E,D,rfl,l10,rfl,Y⟩
   rw[aa]at Y
   have ac:=x.n l10
   refine cn Y (fun Y=>?_) fun Y=>?_
   ·exact sr (Nb O (.ret (rt Y ac)))
   ·exact sk (rg (mi O (Lw.add O (Ni O ((agm) ⟨B,w64 (h+1),D,O,(M.j l10).w,O,Y⟩)))))
  ·refine Cw.draw [] [(0,0),(1,0),(2,0),(3,1),(4,2),(5,0),(6,0),(7,0),(8,0),(9,0),(10,0),(11,0),(12,0),(13,0),(14,1),(15,2),(16,0),(17,0),(18,0),(19,0),(20,0),(21,0),(22,0),(23,1),(24,0),(25,0),(26,0),(27,0),(28,0),(29,0),(30,0),(31,0),(32,0),(33,1),(34,2),(35,0),(36,0),(37,0)] mixed (by kernel_rfl) fun aq y=>?_
   have N:=x.n y
   refine Dv f O (Di O ?_)
   obtain⟨z,F,Y⟩:=ob Y
   have e:=i.ul N
   refine Mw.p O O (fun _=>R.ix (α:=Change) e F O O O) ?_
   obtain⟨x19,c20,_,r21⟩:=(e.at_ F).cells
   obtain⟨ar,au,rfl,r23,r25⟩:=Change.split r21
   refine Mw.q O O (fun _ c=>R.lda (zkX (e.at_ F).1 O c20 c) O O) ?_
   obtain⟨av,ae,Y⟩:=ob Y
   refine Mw.t O O (T.call O (p243 (Change.rd (K:=[0]) z.Kind z.Path z.To z.Text z.Patch r23 r25) ae)) ?_
   rintro _ _ ⟨af,rfl,k,rfl⟩
   have G:=N.n k
   refine m0 k fun ah=>Mw.p O O (fun _=>R.not O) (Db O (bs Y (fun b Y=>?_) fun b Y=>?_))
   ·exact dps 10 b O (Mw.p O O (fun _=>R.pk b O (v:=vB true) O) (Db O (dps 7 O O (dpu 10 O (dps 1 O O (Mw.p O O (fun _=>R.pk O O (v:=vB true) O) (Mw.nil ((ag) ⟨true,af,O,(y.j k).w,O,Y⟩))))))))
   ·refine Wp b O (fun _=>R.mv (v:=f) O) (Wp b O (fun _=>R.mv (v:=vI h) O) ?_)
    obtain⟨aw,P,Y⟩:=ob Y
    have r35:=(i.ul G).cutV P
    refine Wp b O (fun _=>R.sl (i.ul G) P O (.inl ⟨O,O⟩) (.inr O)) (Wp b O (fun _=>R.mv (v:=f) O) (Wp b O (fun _=>R.mv (v:=vI h) O) ?_))
    obtain⟨ax,H,Y⟩:=ob Y
    refine Wp b O (fun _=>R.ix (α:=Change) e H O O O) (Wp b O (fun _=>R.fa O) (Wq b O (fun _ c=>R.ld O O (zaB (Change.at1 (e.at_ H)).1 O (Change.at1 (e.at_ H)).str c)) ?_))
    obtain⟨ai,aj,Y⟩:=ob Y
    refine Wt b O (T.call O (p244 r35 aj)) ?_
    rintro _ _ ⟨Q,rfl,A,rfl⟩
    have S:=G.n A
    refine mc ah A fun ak=>Wp b O (fun _=>R.not O) (Mw.p O O (fun _=>R.pk b O (v:=vB (!ai)) O) (Db O (bs Y (fun a Y=>?_) fun a Y=>?_)))
    ·exact dps 7 a O (dpu 10 O (dps 1 a O (Mw.p O O (fun _=>R.pk a O (v:=vB true) O) (Mw.nil ((ag) ⟨true,Q,O,((y.j k).j A).w,O,Y⟩)))))
    ·refine Wp a O (fun _=>R.mv (v:=f) O) (Wp a O (fun _=>R.mv (v:=vI h) O) ?_)
     obtain⟨am,I,Y⟩:=ob Y
     refine Wp a O (fun _=>R.ix (α:=Change) e I O O O) (Wp a O (fun _=>R.fa O) (Wq a O (fun _ c=>R.ld O O (zaB (Change.at2 (e.at_ I)).1 O (Change.at2 (e.at_ I)).str c)) (Wp a O (fun _=>R.sne O O) (Wp a O (fun _=>R.mv (v:=vB (am.To !=([]:Str))) O) (bs Y (fun d Y=>?_) fun d Y=>?_)))))
     ·refine Wp d O (fun _=>R.mv (v:=f) O) (Wp d O (fun _=>R.mv (v:=vI h) O) ?_)
      obtain⟨ay,U,Y⟩:=ob Y
      have r50:=(i.ul S).cutV U
      refine Wp d O (fun _=>R.sl (i.ul S) U O (.inl ⟨O,O⟩) (.inr O)) (Wp d O (fun _=>R.mv (v:=f) O) (Wp d O (fun _=>R.mv (v:=vI h) O) ?_))
      obtain⟨az,J,Y⟩:=ob Y
      refine Wp d O (fun _=>R.ix (α:=Change) e J O O O) (Wp d O (fun _=>R.fa O) (Wq d O (fun _ c=>R.ld O O (zaB (Change.at2 (e.at_ J)).1 O (Change.at2 (e.at_ J)).str c)) ?_))
      obtain⟨L,an,Y⟩:=ob Y
      refine Wt d O (T.call O (p244 r50 an)) ?_
      rintro _ _ ⟨ao,rfl,V,rfl⟩
      exact mc ak V fun a0=>Wp d O (fun _=>R.not O) (Wp a O (fun _=>R.pk d O (v:=vB (!L)) O) (Mw.p O O (fun _=>R.pk a O (v:=vB (!L)) O) (Mw.nil ((ag) ⟨(!L),ao,O,(((y.j k).j A).j V).w,O,Y⟩))))
     ·exact dps 10 d O (Wp a O (fun _=>R.pk d O (v:=vB false) O) (Mw.p O O (fun _=>R.pk a O (v:=vB false) O) (Mw.nil ((ag) ⟨false,Q,O,((y.j k).j A).w,O,Y⟩))))
 ·refine Cw.exit ?_
  rw[X]at Y
  exact sr (mv f O (Lw.ln x0 (i.ul x) O (Lw.le O (Nb O (.ret (rt Y x))))))
theorem p215 {x0 a r}(b:Rd W K [a] x0)(Y:Vm.zmh x0=some r):Q1 215 [a] W [] fun W' v=>v=vB r:=
 (c215 (b.view _) Y).ad (fk 0) fun _ _ e=>e
theorem c194 {x0 a r}(d:Rd W0 [0] [a] x0)(Y:Vm.zem x0=some r):Q0 194 [a] W0 fun Wf v=> ∃ E,v=E/\Rd Wf [0] [E] r:=by
 unfold Vm.zem at Y
 refine zaz.of Tryz.func194 O O O O (sr (Nv (.slice none 0 0) O (sr (Lw.t O (T.lit0 (α:=Str) 2 []) ?_))))
 rintro z _ ⟨W1,rfl,S,U⟩
 have F:=S.o
 refine Nv z O (ssr (mv a O (ca Y (fun _=>p215 (d.ul F)) fun z4 W6 Y G=>?_)))
 have H:=F.n G
 refine Lw.r O (R.not O) (nl (cn Y (fun Y=>?_) fun Y=>?_))
 ·refine sr (Nv (.slice none 0 0) O ?_)
  cases Y
  exact Cw.ret (zkN O (Res.mk H ⟨.slice none 0 0,O,(rdN (K:=[0]))⟩))
 ·refine sk (ssr (Ni O (Cw.block ?_)))
  obtain⟨A,V,l10,W⟩:=zn3 _ 2
  rw[<- V]
  have X:Rd (α:=List Str) A [0] [z] ([]:List Str):=by rw[W];exact((U.up G).rd.dye 2).sub (M:=[0]) O
  have Z:=H.t l10
  obtain⟨aa,ac,Y⟩:=zbM Y
  refine Cw.loop 9 34 [3,4] (fun m l w=> ∃ B i b e,CW.w e=w/\Le [] A e/\l=[b,vI i]/\Rd e [0] [b] B/\Vm.zdm x0 aa m B i=some r) _ ⟨([]:List Str),0,z,A,O,Le.refl _ _,O,X,Y⟩ ?_
  rintro(_ |ax) _ _ σ ⟨B,i,b,e,rfl,I,rfl,r15,Y⟩
  ·cases Y
  unfold Vm.zdm at Y
  have f:=Z.n I
  refine ssr (mi O (mv a O (Lw.ln x0 (d.ul f) O (Lw.lt O (nl (cn Y (fun Y=>?_) fun Y=>?_))))))
  ·refine sk ?_
   obtain⟨ae,af,Y⟩:=zbM Y
   refine Cw.join 15 34 [3] (fun l w=> ∃ k x h,CW.w h=w/\Le [] e h/\l=[x]/\Rd h [0] [x] k/\ae k=some r) ?_ ?_
   ·rintro _ _ σ ⟨k,x,h,rfl,ah,rfl,r25,Y⟩
    rw[af]at Y
    exact rg (mi O (Lw.add O (Ni O ((agm) ⟨k,w64 (i+1),x,h,O,(I.j ah).w,O,r25,Y⟩))))
   ·refine Cw.block (sr (mv b O (mv a O (mi O ?_))))
    obtain⟨ay,J,Y⟩:=ob Y
    refine Lw.r O (R.ix (α:=Change) (d.ul f) J O O O) (Lw.fa O (Lw.r O (R.ld O O (Change.at1 ((d.ul f).at_ J)).str) (cr Y (fun _=>p161 r15) ?_)))
    rintro ai C aj Y D ⟨_,rfl,ak⟩
    have L:=ak.sub (M:=[0]) O
    have am:=f.n D
    refine Nv C O (sr (mv a O (mi O ?_)))
    obtain⟨az,N,Y⟩:=ob Y
    have y:=d.ul am
    refine Lw.r O (R.ix (α:=Change) y N O O O) (Lw.fa O (Lw.r O (R.ld O O (Change.at2 (y.at_ N)).str) (Lw.sne O (nl (cn Y (fun Y=>?_) fun Y=>?_)))))
    ·refine rg (mv C O (mv a O (mi O ?_)))
     obtain⟨a0,P,Y⟩:=ob Y
     refine Lw.r O (R.ix (α:=Change) y P O O O) (Lw.fa O (Lw.r O (R.ld O O (Change.at2 (y.at_ P)).str) (cr Y (fun _=>p161 L) ?_)))
     rintro an Q ao Y ap ⟨_,rfl,aq⟩
     have ar:=aq.sub (M:=[0]) O
     exact Nv Q O ((ag) ⟨an,Q,ao,O,(D.j ap).w,O,ar,Y⟩)
    ·exact sk ((ag) ⟨ai,C,aj,O,D,O,L,Y⟩)
  ·refine Cw.exit ?_
   rw[ac]at Y
   refine sr (mv b O (Nv b O ?_))
   cases Y
   exact Cw.ret (zkN O (Res.mk f ⟨b,O,r15⟩))
theorem p194 {x0 b r}(d:Rd W K [b] x0)(Y:Vm.zem x0=some r):Q1 194 [b] W [] fun W' v=> ∃ a,v=a/\Rd W' (0::K) [a] r:=
 (c194 (d.view _) Y).ad (fk 0) fun _ _ ⟨a,e,f⟩=>⟨a,e,f.back O⟩
theorem c159 {x0 b d x1 B r}(W:Rd W0 [0] [b,d] x0)(X:Rd W0 [0] [vS x1.Branch,vS x1.Into,vS x1.By,B] x1)(Y:Vm.zkD x0 x1=some r):Q0 159 [.agg [b,d].toArray, .agg [vS x1.Branch,vS x1.Into,vS x1.By,B].toArray] W0 fun Wf v=> ∃ C,v=C/\Rd Wf [0] [C] r:=by
 unfold Vm.zkD at Y
 obtain⟨a0,a1,D,e,f⟩:=Repo.split W
 simp only[List.cons.injEq,and_true,true_and]at D
 obtain⟨rfl,rfl⟩:=D
 obtain⟨a3,E,a5⟩:=Review.split X
 simp only[List.cons.injEq,and_true,true_and]at E
 obtain rfl:=E
 refine zaz.of Tryz.func159 O O O O (sr (bo 2 O fun g1 W1 Z F=>?_))
 have a2:=Z.o
 refine bo 3 O fun g3 W3 h G=>?_
 have i:=a2.n h
 refine Nv (.slice none 0 0) O (sr (la (F.up h) (fl G O (ca Y (fun _=>p69 (Repo.rd (K:=[0]) x0.Commits x0.Heads (e.ul i) (f.ul i))) fun z8 bb Y l10=>?_))))
 have k:=i.n l10
 have H:=(F.up h).up l10
 refine Ni O (sr (la H (fl (G.up l10) O (ca Y (fun _=>p69 (Repo.rd (K:=[0]) x0.Commits x0.Heads (e.ul k) (f.ul k))) fun bc be Y I=>?_))))
 have ac:=k.n I
 refine Ni O (Cw.seq (Cw.draw [] [(0,1),(1,0),(2,0),(4,0),(5,1),(6,0),(7,0),(8,0),(9,1),(3,2),(10,2),(11,2),(12,0)] mixed (by kernel_rfl) fun bg J=>?_))
 have x:=ac.n J
 have L:=(H.up I).up J
 refine Mw.q O O (fun _ c=>R.lda (cs:=[b,d]) (L.clcs O c) O O) (Di O (Di O (Dfl L O O O (Di O ?_))))
 obtain⟨bh,y,Y⟩:=ob Y
 have a:=e.ul x
 refine Mw.p O O (fun _=>R.ix (α:=Commit) a y O O O) (Df O ?_)
 obtain⟨bi,c30,r31⟩:=(Commit.at2 (a.at_ y)).cell O
 refine Mw.q O O (fun _ c=>R.ld O O (zaB (Commit.at2 (a.at_ y)).1 O c30 c)) ?_
 obtain⟨bj,ae,Y⟩:=ob Y
 refine Mw.t O O (T.call O (p124 (Repo.rd (K:=[0]) x0.Commits x0.Heads a (f.ul x)) ae)) ?_
 rintro bk _ ⟨bl,rfl,N,⟨_,rfl,af⟩⟩
 have ah:=af.sub (M:=[0]) O
 have P:=N.o
 refine m0 N fun ai=>?_
 obtain⟨aj,ak,Y⟩:=ob Y
 refine Mw.t O O (T.call O (p195 (k0:=4) ah (r31.ul P) ak)) ?_
 rintro am _ ⟨bm,rfl,Q,⟨_,rfl,S⟩⟩
 have an:=(x.trans P).n Q
 refine mc ai Q fun ao=>?_
 obtain⟨ap,aq,Y⟩:=ob Y
 refine Mw.t O O (T.call O (p194 (K:=[4]) S.rd aq)) ?_
 rintro z _ ⟨bn,rfl,A,⟨_,rfl,ar⟩⟩
 have au:=ar.sub (M:=[0,4]) O
 have av:=an.n A
 refine mc ao A fun bp=>Hv z O (Mw.nil ?_)
 obtain⟨U,aw,ax,V⟩:=zn3 _ 4
 have ay:Rd U [0] [z] ap:=by rw[V];exact(au.dye 4).sub (M:=[0]) O
 have bq:Rd (α:=List Vm.Change) U [0] [am] aj:=by rw[V];exact((S.up A).rd.dye 4).sub (M:=[0]) O
 have az:=av.t ax
 cases Y
 rw[<- aw]
 exact Cw.ret (zkN O (Res.mk az ⟨z,O,ay⟩))
theorem p159 {x0 b d x1 f r}(h:Rd W K [b,d] x0)(i:Rd W K [vS x1.Branch,vS x1.Into,vS x1.By,f] x1)(Y:Vm.zkD x0 x1=some r):Q1 159 [.agg [b,d].toArray, .agg [vS x1.Branch,vS x1.Into,vS x1.By,f].toArray] W [] fun W' v=> ∃ a,v=a/\Rd W' (0::K) [a] r:=
 (c159 (h.view _) (i.view _) Y).ad (fk 0) fun _ _ ⟨a,e,k⟩=>⟨a,e,k.back O⟩
theorem c160 {x0 a x1 r}(k:Rd W0 [0] [a] x0)(Y:Vm.zkf x0 x1=some r):Q0 160 [a,vS x1] W0 fun Wf v=>v=vS r:=by
 unfold Vm.zkf at Y
 refine zaz.of Tryz.func160 O O O O (sr (Ns O (sr (Ns O (sr (Ni O (ssr (Ni O (Cw.block ?_)))))))))
 obtain⟨S,T,Y⟩:=zbM Y
 refine Cw.loop 8 50 [5,6,7] (fun m l w=> ∃ x d y e,CW.w e=w/\Le [] W0 e/\l=[vS x,vI d,vI y]/\Vm.zfV x0 x1 S m x d y=some r) _ ⟨([]:Str),0,0,W0,O,Le.refl _ _,O,Y⟩ ?_
 rintro(_ |m6) _ _ σ ⟨x,d,y,e,rfl,H,rfl,Y⟩
 ·cases Y
 unfold Vm.zfV at Y
 have z:=H.o
 refine ssr ?_
 have b:=k.ul z
 refine mi O (mv a O (Lw.ln x0 b O (Lw.lt O (nl (cn Y (fun Y=>?_) fun Y=>?_)))))
 ·refine sk ?_
  obtain⟨U,V,Y⟩:=zbM Y
  refine Cw.join 14 50 [5,6] (fun l w=> ∃ A B C,CW.w C=w/\Le [] e C/\l=[vS A,vI B]/\U A B=some r) ?_ ?_
  ·rintro _ _ σ ⟨A,B,C,rfl,W,rfl,Y⟩
   rw[V]at Y
   exact rg (mi O (Lw.add O (Ni O ((agm) ⟨A,B,w64 (y+1),C,O,(H.j W).w,O,Y⟩))))
  ·refine Cw.block ?_
   obtain⟨X,Z,Y⟩:=zbM Y
   refine Cw.join 14 39 [39] (fun l w=> ∃ E f,CW.w f=w/\Le [] e f/\l=[vB E]/\X E=some r) ?_ ?_
   ·rintro _ _ σ ⟨E,f,rfl,F,rfl,Y⟩
    rw[Z]at Y
    have aa:=z.n F
    refine cn Y (fun Y=>?_) fun Y=>?_
    ·refine sr (mv a O (mi O ?_))
     obtain⟨ac,I,Y⟩:=ob Y
     have D:=k.ul aa
     refine Lw.r O (R.ix (α:=Owner) D I O O O) (Lw.fa O (Lw.r O (R.ld O O (Owner.at1 (D.at_ I)).str) (Ns O (rg (mv a O (mi O ?_))))))
     obtain⟨ae,J,Y⟩:=ob Y
     exact Lw.r O (R.ix (α:=Owner) D J O O O) (Lw.fa O (Lw.r O (R.ld O O (Owner.at0 (D.at_ J)).str) (Lw.r O (R.lenS O) (Ni O ((ag) ⟨ac.Who,(ae.Path.length:Int),f,O,F,O,Y⟩)))))
    ·exact sk ((ag) ⟨x,d,f,O,F,O,Y⟩)
   ·refine rg (mv a O (mi O ?_))
    obtain⟨aj,K,Y⟩:=ob Y
    refine Lw.r O (R.ix (α:=Owner) b K O O O) (Lw.fa O (Lw.r O (R.ld O O (Owner.at0 (b.at_ K)).str) (ms O (Lw.seq O (mb O (bs Y (fun h Y=>?_) fun h Y=>?_))))))
    ·refine psk 7 h O (Pb h O (mb O (wak 8 O (mv a O (mi O ?_)))))
     obtain⟨af,L,Y⟩:=ob Y
     exact Lw.r O (R.ix (α:=Owner) b L O O O) (Lw.fa O (Lw.r O (R.ld O O (Owner.at0 (b.at_ L)).str) (Lw.r O (R.lenS O) (mi O (Lw.gt O (Pb O O (nl ((ag) ⟨decide (d< (af.Path.length:Int)),e,O,Le.refl _ _,O,Y⟩))))))))
    ·refine wak 7 h (mv a O (mi O ?_))
     obtain⟨ak,M,Y⟩:=ob Y
     refine Lw.r O (R.ix (α:=Owner) b M O O O) (Lw.fa O (Lw.r O (R.ld O O (Owner.at0 (b.at_ M)).str) (ms O (ca Y (fun _=>p187) fun am N Y G=>?_))))
     have P:=z.n G
     refine Pb h O (mb O (bs Y (fun i Y=>?_) fun i Y=>?_))
     ·refine wak 8 i (mv a O (mi O ?_))
      obtain⟨ah,Q,Y⟩:=ob Y
      exact Lw.r O (R.ix (α:=Owner) (k.ul P) Q O O O) (Lw.fa O (Lw.r O (R.ld O O (Owner.at0 ((k.ul P).at_ Q)).str) (Lw.r O (R.lenS O) (mi O (Lw.gt O (Pb i O (nl ((ag) ⟨decide (d< (ah.Path.length:Int)),N,O,G,O,Y⟩))))))))
     ·exact psk 8 i O (Pb i O (nl ((ag) ⟨false,N,O,G,O,Y⟩)))
 ·refine Cw.exit ?_
  rw[T]at Y
  exact sr (ms O (Ns O (.ret (rt Y z))))
theorem p160 {x0 a x1 r}(b:Rd W K [a] x0)(Y:Vm.zkf x0 x1=some r):Q1 160 [a,vS x1] W [] fun W' v=>v=vS r:=
 (c160 (b.view _) Y).ad (fk 0) fun _ _ e=>e
theorem c97 {x0 ak am x1 N x2 an r}(h0:Rd W0 [0] [ak,am] x0)(h1:Rd W0 [0] [N] x1)(h2:Rd W0 [0] [vS x2.Branch,vS x2.Into,vS x2.By,an] x2)(Y:Vm.zle x0 x1 x2=some r):Q0 97 [.agg [ak,am].toArray,N, .agg [vS x2.Branch,vS x2.Into,vS x2.By,an].toArray] W0 fun Wf v=> ∃ u0,v=u0/\Rd Wf [0] [u0] r:=by
 unfold Vm.zle at Y
 obtain⟨cd,ce,ap,bc,be⟩:=Repo.split h0
 simp only[List.cons.injEq,and_true,true_and]at ap
 obtain⟨rfl,rfl⟩:=ap
 obtain⟨cf,aq,ar⟩:=Review.split h2
 simp only[List.cons.injEq,and_true,true_and]at aq
 obtain rfl:=aq
 refine zaz.of Tryz.func97 O O O O (sr (bo 2 O fun g1 W1 l1 b1=>?_))
 have a2:=l1.o
 refine bo 3 O fun g3 W3 l3 b3=>?_
 have a4:=a2.n l3
 refine Nv (.slice none 0 0) O (sr (Lw.t O (T.lit0 (α:=Str) 4 []) ?_))
 rintro P _ ⟨W6,rfl,A,o6⟩
 have B:=a4.n A
 refine Nv P O (sr (la ((b1.up l3).up A) (la (b3.up A) (cr Y (fun _=>p159 (Repo.rd (K:=[0]) x0.Commits x0.Heads (bc.ul B) (be.ul B)) (Review.rd (K:=[0]) x2.Branch x2.Into x2.By x2.Yes (ar.ul B))) ?_))))
 rintro aw Q cl Y S ⟨_,rfl,bl⟩
 have bm:=bl.sub (M:=[0]) O
 have U:=B.n S
 refine Nv Q O (ssr (Ni O (Cw.block ?_)))
 obtain⟨V,bn,ax,bp⟩:=zn3 _ 4
 rw[<- bn]
 have bq:Rd (α:=List Str) V [0] [P] ([]:List Str):=by rw[bp];exact((o6.up S).rd.dye 4).sub (M:=[0]) O
 have C:=ax.s
 obtain⟨br,bu,Y⟩:=zbM Y
 refine Cw.loop 17 58 [7,9,10,11,12] (fun m l w=> ∃ D E a ay az a0 f,CW.w f=w/\Le [] V f/\l=[a,vI E,ay,az,a0]/\Rd f [0] [a] D/\Vm.zee x1 x2 aw br m D E=some r) _ ⟨([]:List Str),0,P,undef,undef,undef,V,O,Le.refl _ _,O,bq,Y⟩ ?_
 rintro(_ |cm) _ _ σ ⟨D,E,a,ay,az,a0,f,rfl,W,rfl,r28,Y⟩
 ·cases Y
 unfold Vm.zee at Y
 have F:=W.o
 refine ssr ?_
 have X:=bm.ul (C.trans F)
 refine mi O (mv Q O (Lw.ln aw X O (Lw.lt O (nl (cn Y (fun Y=>?_) fun Y=>?_)))))
 ·refine sk ?_
  obtain⟨bv,bw,Y⟩:=zbM Y
  refine Cw.join 23 58 [7,10,11,12] (fun l w=> ∃ G H Z aa ac h,CW.w h=w/\Le [] f h/\l=[H,Z,aa,ac]/\Rd h [0] [H] G/\bv G=some r) ?_ ?_
  ·rintro _ _ σ ⟨G,H,Z,aa,ac,h,rfl,bz,rfl,r43,Y⟩
   rw[bw]at Y
   exact rg (mi O (Lw.add O (Ni O ((agm) ⟨G,w64 (E+1),H,Z,aa,ac,h,O,(W.j bz).w,O,r43,Y⟩))))
  ·refine Cw.block (sr (mv N O (mv Q O (mi O ?_))))
   obtain⟨co,a1,Y⟩:=ob Y
   refine Lw.r O (R.ix (α:=Str) X a1 O O O) (Lw.r O (R.ld O O (X.at_ a1).str) (ca Y (fun _=>p160 (h1.ul ((U.trans C).trans F))) fun i ae Y I=>?_))
   have af:=I.o
   have a3:=((((b3.up A).up S).up ax).up W).up I
   refine Ns O ?_
   obtain⟨b0,b2,Y⟩:=zbM Y
   refine Cw.join 29 36 [11] (fun l w=> ∃ J k,CW.w k=w/\Le [] ae k/\l=[vB J]/\b0 J=some r) ?_ ?_
   ·rintro _ _ σ ⟨J,k,rfl,L,rfl,Y⟩
    rw[b2]at Y
    have ah:=L.o
    refine ssr (Ni O (Cw.block ?_))
    obtain⟨b4,b5,Y⟩:=zbM Y
    refine Cw.loop 37 53 [11,12] (fun m l w=> ∃ x b d,CW.w d=w/\Le [] k d/\l=[vB x,vI b]/\Vm.zdV x2 i b4 m x b=some r) _ ⟨J,0,k,O,Le.refl _ _,O,Y⟩ ?_
    rintro(_ |cp) _ _ σ ⟨x,b,d,rfl,e,rfl,Y⟩
    ·cases Y
    unfold Vm.zdV at Y
    have ai:=e.o
    have a5:=(a3.up L).up e
    refine ssr ?_
    have aj:=ar.ul (((((U.trans C).trans F).trans af).trans ah).trans ai)
    refine mi O (fl a5 O (Lw.ln x2.Yes aj O (Lw.lt O (nl (cn Y (fun Y=>?_) fun Y=>?_)))))
    ·refine sk (Cw.seq (Cw.block (rg (mb O (mb O (bs Y (fun y Y=>?_) fun y Y=>?_))))))
     ·exact psk 7 y O (Pb y O (Nb O (rg (mi O (Lw.add O (Ni O ((agm) ⟨true,w64 (b+1),d,O,e,O,Y⟩)))))))
     ·refine wak 7 y (fl a5 O (mi O ?_))
      obtain⟨b6,a6,Y⟩:=ob Y
      exact Lw.r O (R.ix (α:=Str) aj a6 O O O) (Lw.r O (R.ld O O (aj.at_ a6).str) (ms O (Lw.seq O (Pb y O (Nb O (rg (mi O (Lw.add O (Ni O ((agm) ⟨(b6==i),w64 (b+1),d,O,e,O,Y⟩))))))))))
    ·refine Cw.exit ?_
     rw[b5]at Y
     refine sr (mb O (Lw.r O (R.not O) (nl (cn Y (fun Y=>?_) fun Y=>?_))))
     ·refine rg (mv a O (ms O (cr Y (fun _=>p161 (r28.ul ((af.trans ah).trans ai))) ?_)))
      rintro b7 a8 b8 Y b9 ⟨_,rfl,cb⟩
      have cc:=cb.sub (M:=[0]) O
      exact Nv a8 O ((ag) ⟨b7,a8,vS i,vB x,vI b,b8,O,(((I.j L).j e).j b9).w,O,cc,Y⟩)
     ·exact sk ((ag) ⟨D,a,vS i,vB x,vI b,d,O,((I.j L).j e).w,O,(r28.ul ((af.trans ah).trans ai)),Y⟩)
   ·refine rg (ms O (Lw.seq O (mb O (bs Y (fun z Y=>?_) fun z Y=>?_))))
    ·exact psk 4 z O (Pb z O (Nb O ((ag) ⟨true,ae,O,Le.refl _ _,O,Y⟩)))
    ·exact wak 4 z (ms O (fl a3 O (Lw.seq O (Pb z O (Nb O ((ag) ⟨(i==x2.By),ae,O,Le.refl _ _,O,Y⟩))))))
 ·refine Cw.exit ?_
  rw[bu]at Y
  refine sr (mv a O (Nv a O ?_))
  cases Y
  exact Cw.ret (zkN O (Res.mk ((U.trans C).trans F) ⟨a,O,r28⟩))
theorem p97 {x0 b d x1 f x2 h r}(i:Rd W K [b,d] x0)(k:Rd W K [f] x1)(x:Rd W K [vS x2.Branch,vS x2.Into,vS x2.By,h] x2)(Y:Vm.zle x0 x1 x2=some r):Q1 97 [.agg [b,d].toArray,f, .agg [vS x2.Branch,vS x2.Into,vS x2.By,h].toArray] W [] fun W' v=> ∃ a,v=a/\Rd W' (0::K) [a] r:=
 (c97 (i.view _) (k.view _) (x.view _) Y).ad (fk 0) fun _ _ ⟨a,e,y⟩=>⟨a,e,y.back O⟩
end Go.Sx
