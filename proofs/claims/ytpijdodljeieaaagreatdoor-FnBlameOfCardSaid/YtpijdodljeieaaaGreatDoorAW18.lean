/- Walks: each function answers as its model, printed by a program of ours. Conditions: the arguments read as they are given. -/
import Derived.Test.YtpijdodljeieaaaGreatDoorATs
import Derived.Test.YtpijdodljeieaaaGreatDoorAM11
import Derived.Test.YtpijdodljeieaaaGreatDoorAW10
import Derived.Test.YtpijdodljeieaaaGreatDoorAW11
import Derived.Test.YtpijdodljeieaaaGreatDoorAW14
import Derived.Test.YtpijdodljeieaaaGreatDoorAW15
import Derived.Test.YtpijdodljeieaaaGreatDoorAW6
namespace Go.Sx
open Go Go.Proofs Go.Vm Rp
set_option linter.unusedVariables false
set_option linter.unusedSimpArgs false
variable {W W0:CW}{K:List Nat}
theorem c27 {x0 b x1 d r}(k:Rd W0 [0] [b] x0)(x:Rd W0 [0] [d] x1)(Y:Vm.ziE x0 x1=some r):Q0 27 [b,d] W0 fun Wf v=> ∃ y,v=y/\OwS Wf LL [] [y] r:=by
 unfold Vm.ziE at Y
 refine zaO.of Tryz.func27 O O O O (sr (Nv (.slice none 0 0) O (Cw.seq ?_)))
 obtain⟨A,B,Y⟩:=zdC Y
 refine Cw.join 5 12 [12] (fun l w=> ∃ f h,CW.w h=w/\Le [] W0 h/\l=[vB f]/\A f=some r) ?_ ?_
 ·rintro _ _ σ ⟨f,h,rfl,C,rfl,Y⟩
  rw[B]at Y
  have e:=C.o
  refine cn Y (fun Y=>?_) fun Y=>?_
  ·refine sr (Nv (.slice none 0 0) O ?_)
   cases Y
   exact Cw.ret (zj5 O (Res.mk e ⟨.slice none 0 0,O,(zo3 []).sub O O⟩))
  ·refine sk (sr (mv b O (mv d O (cr Y (fun _=>p85 (k0:=2) (k.ul e) (x.ul e)) ?_))))
   rintro K z L Y l10 ⟨_,rfl,D⟩
   have E:=e.n l10
   refine Nv z O ?_
   cases Y
   exact Cw.ret (zj5 O (Res.mk E ⟨z,O,D.s.sub O O⟩))
 ·refine rg (mv b O (ca Y (fun _=>p84 k) fun M F Y i=>?_))
  have G:=i.o
  refine Lw.r O (R.not O) (mb O (bs Y (fun a Y=>?_) fun a Y=>?_))
  ·exact psk 3 a O (Pb a O (nl ((ag) ⟨true,F,O,i,O,Y⟩)))
  ·exact wak 3 a (mv d O (ca Y (fun _=>p84 (x.ul G)) fun H I Y J=>Lw.r O (R.not O) (Pb a O (nl ((ag) ⟨(!H),I,O,(i.j J).w,O,Y⟩)))))
theorem p27 {x0 b x1 d k0 r}(f:Rd W K [b] x0)(h:Rd W K [d] x1)(Y:Vm.ziE x0 x1=some r):Q1 27 [b,d] W [] fun W' v=> ∃ a,v=a/\Ow W' k0 [] [a] r:=
 (c27 (f.view _) (h.view _) Y).ad (fk k0) fun _ _ ⟨a,e,i⟩=>⟨a,e,i.back (zkx _)⟩
theorem c5 {x0 af r}(h0:Rd W0 [0] [af] x0)(G:Gl 0 W0 [0])(Y:Vm.zju x0=some r):Q0 5 [af] W0 fun Wf v=>v=vB r:=by
 unfold Vm.zju at Y
 refine zaO.of Tryz.func5 O O O O (sr (Nb O (ssr (mv af O (Lw.ln x0 h0 O (Lw.gt O (nl (cn Y (fun Y=>?_) fun Y=>?_))))))))
 ·exact sr (Nb O (.ret (rt Y (Le.refl _ _))))
 ·refine sk (sr (mv af O (cr Y (fun _=>p23 (k0:=2) (k1:=3) h0) ?_)))
  rintro a _ W4 Y l4 ⟨H,I,rfl,bu,bv⟩
  have a5:=l4.o
  refine mv (.tuple [.agg [H,I].toArray,vI a.2.1,vS a.2.2].toArray) O (Lw.r O (R.ext (vs:=[.agg [H,I].toArray,vI a.2.1,vS a.2.2]) (v:= .agg [H,I].toArray) O O) (Lw.r O (R.ext (vs:=[.agg [H,I].toArray,vI a.2.1,vS a.2.2]) (v:=vI a.2.1) O O) (Lw.r O (R.ext (vs:=[.agg [H,I].toArray,vI a.2.1,vS a.2.2]) (v:=vS a.2.2) O O) (al 4 [.slice none 0 0, .slice none 0 0] fun g6 W6 J b6=>?_))))
  have a7:=a5.n J
  refine sta b6 (zah (bu.up J).oc (zah (bv.up J).oc za4)) fun d8 l10 av=>?_
  have bw:=a7.t l10
  have aw:=(bu.up J).up l10
  have ax:=(bv.up J).up l10
  refine Gi O (Ns O (sr (la av (mi O (ms O (cr Y (fun _=>p22 (K:=[0,2,3]) (k0:=5) (x0:=(Vm.Repo.mk a.1.Commits a.1.Heads)) ((Repo.rd (K:=[2,3]) a.1.Commits a.1.Heads (aw.rd.sub (M:=[2,3]) O) (ax.rd.sub (M:=[2,3]) O)).sub (M:=[0,2,3]) O) ((G.ul bw).sub (M:=[0,2,3]) O)) ?_))))))
  rintro d b cu Y h ⟨_,rfl,ah⟩
  have cv:=bw.n h
  refine Nv b O (Cw.seq ?_)
  obtain⟨cw,cx,Y⟩:=zdC Y
  refine Cw.join 30 41 [41] (fun l w=> ∃ ay az,CW.w az=w/\Le [] cu az/\l=[vB ay]/\cw ay=some r) ?_ ?_
  ·rintro _ _ σ ⟨ay,az,rfl,B,rfl,Y⟩
   rw[cx]at Y
   have a0:=cv.n B
   have L:=(aw.up h).up B
   have bz:=(ax.up h).up B
   have ai:=(av.up h).up B
   refine cn Y (fun Y=>?_) fun Y=>?_
   ·refine sr (mv b O (la ai (mi O (ms O (cr Y (fun _=>p24 (K:=[2,3]) (k0:=6) (x0:=(Vm.Repo.mk a.1.Commits a.1.Heads)) (Repo.rd (K:=[2,3]) a.1.Commits a.1.Heads (L.rd.sub (M:=[2,3]) O) (bz.rd.sub (M:=[2,3]) O))) ?_)))))
    rintro d9 ea eb Y b0 ⟨_,rfl,cy⟩
    have cz:=a0.n b0
    refine ca Y (fun _=>p17 (K:=[5,6]) (((ah.up B).up b0).rd.sub (M:=[5,6]) O) (cy.rd.sub (M:=[5,6]) O)) fun ec ed Y c0=>?_
    have c1:=cz.n c0
    exact Nb O (.ret (rt Y c1))
   ·refine sk (sr (fl ai O (mi O ?_)))
    obtain⟨ee,b1,Y⟩:=ob Y
    refine Lw.r O (R.ix (α:=Commit) L.rd b1 O O O) (Lw.fa O ?_)
    obtain⟨ef,c51,r52⟩:=(Commit.at2 (L.rd.at_ b1)).cell O
    refine Lw.r O (R.ld O O c51) (ms O (cr Y (fun _=>p20 (K:=[0,2]) (k0:=7) (r52.sub (M:=[0,2]) O) ((G.ul a0).sub (M:=[0,2]) O)) ?_))
    rintro f _ eg Y i ⟨e,rfl,c2⟩
    have b2:=a0.n i
    refine mv (.tuple [e,vB f.2].toArray) O (Lw.r O (R.ext (vs:=[e,vB f.2]) (v:=e) O O) (Lw.r O (R.ext (vs:=[e,vB f.2]) (v:=vB f.2) O O) (Gv e O (Nb O (sr (la (ai.up i) (mi O (cr Y (fun _=>p19 (K:=[0,2,3]) (k0:=8) (x0:=(Vm.Repo.mk a.1.Commits a.1.Heads)) ((Repo.rd (K:=[2,3]) a.1.Commits a.1.Heads ((L.up i).rd.sub (M:=[2,3]) O) ((bz.up i).rd.sub (M:=[2,3]) O)).sub (M:=[0,2,3]) O) ((G.ul b2).sub (M:=[0,2,3]) O)) ?_))))))))
    rintro b3 aj b4 Y N ⟨_,rfl,c3⟩
    have c4:=b2.n N
    refine Nv aj O (ssr (Ni O (Cw.block ?_)))
    obtain⟨c6,c7,Y⟩:=zdC Y
    refine Cw.loop 62 101 [2,10,11,12] (fun m l w=> ∃ P ak b5 b7 k,CW.w k=w/\Le [] b4 k/\l=[vB P,vI ak,b5,b7]/\Vm.zew a d f b3 c6 m P ak=some r) _ ⟨false,0,undef,undef,b4,O,Le.refl _ _,O,Y⟩ ?_
    rintro(_ |eh) _ _ σ ⟨P,ak,b5,b7,k,rfl,x,rfl,Y⟩
    ·cases Y
    unfold Vm.zew at Y
    have a1:=c4.n x
    have b8:=((L.up i).up N).up x
    have C:=(((ah.up B).up i).up N).up x
    have a2:=(c2.up N).up x
    have a3:=c3.up x
    have b9:=((ai.up i).up N).up x
    refine ssr (mi O (mv b O (Lw.ln d C.rd O (Lw.lt O (nl (cn Y (fun Y=>?_) fun Y=>?_))))))
    ·refine sk (Cw.seq (Cw.block (Cw.seq (Cw.draw [] [(0,0),(1,1),(2,0),(3,0),(4,0),(5,1),(6,0),(7,0),(8,1),(9,0),(10,2),(11,0),(12,0),(13,0),(14,0),(15,0)] mixed (by kernel_rfl) fun ei y=>?_))))
     have cb:=a1.n y
     have a4:=b8.up y
     have Q:=C.up y
     refine Dfl (b9.up y) O O O (Dv b O (Di O ?_))
     obtain⟨ej,a6,Y⟩:=ob Y
     refine Mw.p O O (fun _=>R.ix (α:=Int) Q.rd a6 O O O) (Mw.q O O (fun _ c=>R.ld O O (zaR (Q.rd.at_ a6).1 O (Q.rd.at_ a6).int c)) ?_)
     obtain⟨ek,a8,Y⟩:=ob Y
     refine Mw.p O O (fun _=>R.ix (α:=Commit) a4.rd a8 O O O) (Df O ?_)
     obtain⟨el,c100,r101⟩:=(Commit.at2 (a4.rd.at_ a8)).cell O
     refine Mw.q O O (fun _ c=>R.ld O O (zaR (Commit.at2 (a4.rd.at_ a8)).1 O c100 c)) (Ds O ?_)
     obtain⟨S,c8,Y⟩:=ob Y
     refine Mw.t O O (T.call O (p20 (K:=[0,2]) (k0:=9) (r101.sub (M:=[0,2]) O) ((G.ul cb).sub (M:=[0,2]) O) c8)) ?_
     rintro _ _ ⟨c9,rfl,z,⟨A,rfl,da⟩⟩
     have db:=cb.n z
     refine m0 z fun em=>Dv (.tuple [A,vB S.2].toArray) O (Mw.p O O (fun _=>R.ext (vs:=[A,vB S.2]) (v:=A) O O) (Mw.p O O (fun _=>R.ext (vs:=[A,vB S.2]) (v:=vB S.2) O O) (Hv A O (Hb O (Mw.nil ?_)))))
     obtain⟨dc,dd,Y⟩:=zdC Y
     refine Cw.join 82 101 [101] (fun l w=> ∃ a9 am,CW.w am=w/\Le [] c9 am/\l=[vB a9]/\dc a9=some r) ?_ ?_
     ·rintro _ _ σ ⟨a9,am,rfl,cc,rfl,Y⟩
      rw[dd]at Y
      have de:=db.n cc
      refine cn Y (fun Y=>?_) fun Y=>?_
      ·exact sr (Nb O (.ret (rt Y de)))
      ·exact sk (rg (mi O (Lw.add O (Ni O ((agm) ⟨P,w64 (ak+1),A,vB S.2,am,O,(((x.j y).j z).j cc).w,O,Y⟩)))))
     ·refine rg (mv aj O (mv b O (mi O ?_)))
      obtain⟨en,cd,Y⟩:=ob Y
      refine Lw.r O (R.ix (α:=Int) (Q.up z).rd cd O O O) (Lw.r O (R.ld O O ((Q.up z).rd.at_ cd).int) (ca Y (fun _=>p26 (K:=[8]) ((a3.up y).up z).rd) fun eo ce Y U=>?_))
      have cf:=((a2.up y).up z).up U
      refine Lw.r O (R.not O) (mb O (bs Y (fun V Y=>?_) fun V Y=>?_))
      ·exact psk 2 V O (Pb V O (mb O (psk 7 O O (Pb O O (nl ((ag) ⟨true,ce,O,U,O,Y⟩))))))
      ·refine wak 2 V (mb O (Lw.r O (R.not O) (Pb V O (mb O (bs Y (fun W Y=>?_) fun W Y=>?_)))))
       ·exact psk 7 W O (Pb W O (nl ((ag) ⟨true,ce,O,U,O,Y⟩)))
       ·refine wak 7 W (mv A O (mv e O (mi O ?_)))
        obtain⟨ep,cg,Y⟩:=ob Y
        exact Lw.r O (R.ix (α:=Str) cf.rd cg O O O) (Lw.r O (R.ld O O (cf.rd.at_ cg).str) (ca Y (fun _=>p21 (K:=[9]) (da.up U).rd) fun df dg Y dh=>Lw.r O (R.not O) (Pb W O (nl ((ag) ⟨(!df),dg,O,(U.j dh).w,O,Y⟩)))))
    ·refine Cw.exit ?_
     rw[c7]at Y
     refine ssr (mv aj O (Lw.ln b3 a3.rd O (Lw.lt O (nl (cn Y (fun Y=>?_) fun Y=>?_)))))
     ·obtain⟨di,dj,Y⟩:=zdC Y
      refine Cw.join 105 119 [2] (fun l w=> ∃ ba bb,CW.w bb=w/\Le [] k bb/\l=[vB ba]/\di ba=some r) ?_ ?_
      ·rintro _ _ σ ⟨ba,bb,rfl,dk,rfl,Y⟩
       rw[dj]at Y
       have dl:=a1.n dk
       exact .ret (rt Y dl)
      ·refine rg (mb O (mb O (bs Y (fun X Y=>?_) fun X Y=>?_)))
       ·refine wak 5 X (mv b O (Lw.ln d C.rd O (mv e O (Lw.ln f.1 a2.rd O (Lw.eq O (Pb X O (mb O (bs Y (fun Z Y=>?_) fun Z Y=>?_))))))))
        ·refine wak 5 Z (mv b O ?_)
         obtain⟨dm,ch,Y⟩:=ob Y
         exact Lw.r O (R.ix (α:=Int) C.rd ch O O O) (Lw.r O (R.ld O O (C.rd.at_ ch).int) (mi O (Lw.eq O (Pb Z O (Nb O ((ag) ⟨((dm:Int)==(a.2.1:Int)),k,O,Le.refl _ _,O,Y⟩))))))
        ·exact psk 5 Z O (Pb Z O (Nb O ((ag) ⟨false,k,O,Le.refl _ _,O,Y⟩)))
       ·exact psk 5 X O (Pb X O (mb O (psk 5 O O (Pb O O (Nb O ((ag) ⟨false,k,O,Le.refl _ _,O,Y⟩))))))
     ·refine sk (Cw.seq (Cw.draw [] [(0,0),(1,1),(2,0),(3,0),(4,1),(5,0),(6,0),(7,1),(8,0),(9,2),(10,0),(11,0),(12,0),(13,0),(14,0)] mixed (by kernel_rfl) fun er D=>?_))
      have ci:=a1.n D
      have bc:=b8.up D
      have be:=a3.up D
      refine Dfl (b9.up D) O O O (Dv aj O ?_)
      obtain⟨es,bg,Y⟩:=ob Y
      refine Mw.p O O (fun _=>R.ix (α:=Int) be.rd bg O O O) (Mw.q O O (fun _ c=>R.ld O O (zaR (be.rd.at_ bg).1 O (be.rd.at_ bg).int c)) ?_)
      obtain⟨et,bh,Y⟩:=ob Y
      refine Mw.p O O (fun _=>R.ix (α:=Commit) bc.rd bh O O O) (Df O ?_)
      obtain⟨eu,c181,r182⟩:=(Commit.at2 (bc.rd.at_ bh)).cell O
      refine Mw.q O O (fun _ c=>R.ld O O (zaR (Commit.at2 (bc.rd.at_ bh)).1 O c181 c)) (Ds O ?_)
      obtain⟨an,dn,Y⟩:=ob Y
      refine Mw.t O O (T.call O (p20 (K:=[0,2]) (k0:=10) (r182.sub (M:=[0,2]) O) ((G.ul ci).sub (M:=[0,2]) O) dn)) ?_
      rintro _ _ ⟨ew,rfl,ao,⟨E,rfl,dp⟩⟩
      have dq:=ci.n ao
      have cj:=(a2.up D).up ao
      refine m0 ao fun ex=>Dv (.tuple [E,vB an.2].toArray) O (Mw.p O O (fun _=>R.ext (vs:=[E,vB an.2]) (v:=E) O O) (Mw.p O O (fun _=>R.ext (vs:=[E,vB an.2]) (v:=vB an.2) O O) (Hv E O (Hb O (Mw.nil (sr (mv E O (mv e O (cr Y (fun _=>p27 (K:=[7,10]) (k0:=11) (dp.rd.sub (M:=[7,10]) O) (cj.rd.sub (M:=[7,10]) O)) ?_)))))))))
      rintro dr ck cl Y bi ⟨_,rfl,ds⟩
      have dt:=dq.n bi
      refine Nv ck O (ssr (Ni O (Cw.block ?_)))
      obtain⟨du,dv,Y⟩:=zdC Y
      refine Cw.loop 136 151 [2,16] (fun m l w=> ∃ ap aq F,CW.w F=w/\Le [] cl F/\l=[vB ap,vI aq]/\Vm.zev a d dr du m ap aq=some r) _ ⟨P,0,cl,O,Le.refl _ _,O,Y⟩ ?_
      rintro(_ |ey) _ _ σ ⟨ap,aq,F,rfl,aa,rfl,Y⟩
      ·cases Y
      unfold Vm.zev at Y
      have cm:=dt.n aa
      have bj:=(((C.up D).up ao).up bi).up aa
      refine ssr (mi O (mv b O (Lw.ln d bj.rd O (Lw.lt O (nl (cn Y (fun Y=>?_) fun Y=>?_))))))
      ·refine sk (Cw.seq (Cw.block (Cw.seq (Cw.draw [] [(0,0),(1,0),(2,0),(3,1),(4,0),(5,0),(6,0),(7,0),(8,2),(9,0)] mixed (by kernel_rfl) fun ez ar=>?_))))
       have dw:=cm.n ar
       have bk:=bj.up ar
       refine Dv b O (Di O ?_)
       obtain⟨e0,bl,Y⟩:=ob Y
       refine Mw.p O O (fun _=>R.ix (α:=Int) bk.rd bl O O O) (Mw.q O O (fun _ c=>R.ld O O (zaR (bk.rd.at_ bl).1 O (bk.rd.at_ bl).int c)) (Di O (Mw.p O O (fun _=>R.eq O O) (Dv ck O (Di O ?_)))))
       obtain⟨e1,dx,Y⟩:=ob Y
       refine Mw.t O O (T.call O (p26 (K:=[11]) ((ds.up aa).up ar).rd dx)) ?_
       rintro _ _ ⟨dy,rfl,bm,rfl⟩
       have dz:=dw.n bm
       refine m0 bm fun e2=>Mw.p O O (fun _=>R.beq O O) (Mw.nil (cn Y (fun Y=>?_) fun Y=>?_))
       ·exact sr (Nb O (.ret (rt Y dz)))
       ·exact sk (rg (mi O (Lw.add O (Ni O ((agm) ⟨ap,w64 (aq+1),dy,O,((aa.j ar).j bm).w,O,Y⟩)))))
      ·refine Cw.exit ?_
       rw[dv]at Y
       obtain⟨d0,d1,Y⟩:=zdC Y
       refine Cw.join 152 159 [2] (fun l w=> ∃ bn bp,CW.w bp=w/\Le [] F bp/\l=[vB bn]/\d0 bn=some r) ?_ ?_
       ·rintro _ _ σ ⟨bn,bp,rfl,d2,rfl,Y⟩
        rw[d1]at Y
        have d3:=cm.n d2
        exact .ret (rt Y d3)
       ·refine rg (mb O (mb O (bs Y (fun ac Y=>?_) fun ac Y=>?_)))
        ·exact wak 5 ac (mv b O (Lw.ln d bj.rd O (mv e O (Lw.ln f.1 ((cj.up bi).up aa).rd O (Lw.eq O (Pb ac O (Nb O ((ag) ⟨((d.length:Int)==(f.1.length:Int)),F,O,Le.refl _ _,O,Y⟩))))))))
        ·exact psk 5 ac O (Pb ac O (Nb O ((ag) ⟨false,F,O,Le.refl _ _,O,Y⟩)))
  ·refine rg (mv b O (la (av.up h) (mi O (ms O (cr Y (fun _=>p24 (K:=[2,3]) (k0:=12) (x0:=(Vm.Repo.mk a.1.Commits a.1.Heads)) (Repo.rd (K:=[2,3]) a.1.Commits a.1.Heads ((aw.up h).rd.sub (M:=[2,3]) O) ((ax.up h).rd.sub (M:=[2,3]) O))) ?_)))))
   rintro e3 e4 e5 Y au ⟨_,rfl,d4⟩
   refine ca Y (fun _=>p17 (K:=[5,12]) ((ah.up au).rd.sub (M:=[5,12]) O) (d4.rd.sub (M:=[5,12]) O)) fun e6 co Y bq=>Lw.r O (R.not O) (mb O (bs Y (fun ae Y=>?_) fun ae Y=>?_))
   ·exact psk 3 ae O (Pb ae O (nl ((ag) ⟨true,co,O,(au.j bq).w,O,Y⟩)))
   ·exact wak 3 ae (mv b O (Lw.ln d ((ah.up au).up bq).rd O (Lw.eq O (Pb ae O (nl ((ag) ⟨((d.length:Int)==0),co,O,(au.j bq).w,O,Y⟩))))))
theorem p5 {x0 a r}(b:Rd W K [a] x0)(d:Gl 0 W K)(Y:Vm.zju x0=some r):Q1 5 [a] W [] fun W' v=>v=vB r:=
 (c5 (b.view _) (d.view _) Y).ad (fk 0) fun _ _ e=>e
end Go.Sx
