/- Walks: each function answers as its model, printed by a program of ours. Conditions: the arguments read as they are given. -/
import Derived.Test.YtpijdodljeieaaaGreatDoorBTs
import Derived.Test.YtpijdodljeieaaaGreatDoorBM16
import Derived.Test.YtpijdodljeieaaaGreatDoorBW0
import Derived.Test.YtpijdodljeieaaaGreatDoorBW1
import Derived.Test.YtpijdodljeieaaaGreatDoorBW11
import Derived.Test.YtpijdodljeieaaaGreatDoorBW12
import Derived.Test.YtpijdodljeieaaaGreatDoorBW14
import Derived.Test.YtpijdodljeieaaaGreatDoorBW16
import Derived.Test.YtpijdodljeieaaaGreatDoorBW17
import Derived.Test.YtpijdodljeieaaaGreatDoorBW2
import Derived.Test.YtpijdodljeieaaaGreatDoorBW3
import Derived.Test.YtpijdodljeieaaaGreatDoorBW5
import Derived.Test.YtpijdodljeieaaaGreatDoorBW6
import Derived.Test.YtpijdodljeieaaaGreatDoorBW9
namespace Go.Sx
open Go Go.Proofs Go.Vm Rp
set_option linter.unusedVariables false
set_option linter.unusedSimpArgs false
variable {W W0:CW}{K:List Nat}
theorem c59 {x0 a6 r}(h0:Rd W0 [0] [a6] x0)(Y:Vm.zh7 x0=some r):Q0 59 [a6] W0 fun Wf v=> ∃ bv bw u1 u2,v = .tuple [.agg [bv,bw].toArray,u1,u2,vS r.2.2.2].toArray/\OwS Wf [31] [] [bv] r.1.Commits/\OwS Wf [32] [] [bw] r.1.Heads/\OwS Wf [33] [] [u1] r.2.1/\OwS Wf [34] [] [u2] r.2.2.1:=by
 unfold Vm.zh7 at Y
 refine zaT.of Tryz.func59 O O O O (sr (al 2 [.slice none 0 0, .slice none 0 0] fun g1 W1 l1 b1=>?_))
 have a2:=l1.o
 refine Gv (.slice none 0 0) O (Gv (.slice none 0 0) O (Ns O (sr (mv a6 O (cr Y (fun _=>p75 (k0:=3) (h0.ul a2)) ?_)))))
 rintro z4 _ W6 Y l6 ⟨a7,b4,rfl,cz,c1⟩
 have s7:=c1.sub (M:=[0]) O
 have a8:=a2.n l6
 refine Np O (sr (mp O (cr Y (fun _=>p122 (k0:=4) (k1:=5) (c0:=3) (x0:=z4) cz s7 O) ?_)))
 rintro a _ e6 Y b5 ⟨G,H,rfl,b6,b7,c3⟩
 have a9:=b5.s
 refine al 6 [.slice none 0 0, .slice none 0 0] fun e7 e8 x c4=>?_
 have ba:=x.o
 refine sta c4 (zaf (b6.up x).oc (zaf (b7.up x).oc zaW)) fun e9 U c5=>?_
 have bb:=U.s
 refine nl (sr (Lw.t O (T.lit0 (α:=Int) 7 []) ?_))
 rintro b8 _ ⟨b9,rfl,I,c6⟩
 have bc:=I.o
 have aq:=((b6.up x).up U).up I
 have cb:=((b7.up x).up U).up I
 have cc:=((c3.up x).up U).up I
 have ar:=c5.up I
 refine Nv b8 O ?_
 obtain⟨c7,c8,Y⟩:=zc4 Y
 refine Cw.join 16 26 [8] (fun l w=> ∃ be y au z V L,CW.w L=w/\Le [3,12] b9 L/\l=[z]/\Ow L 7 [] [z] be/\Rd L [0] [V] y/\Bx L 3 a7 [V,vI au]/\c7 be y au=some r) ?_ ?_
 ·rintro _ _ σ ⟨be,y,au,z,V,L,rfl,X,rfl,c9,r39,da,Y⟩
  rw[c8]at Y
  have db:=((((a8.trans a9).trans ba).trans bb).trans bc).t X
  refine Cw.seq (Cw.draw [3] [(0,1),(1,0),(2,0),(3,1),(4,2),(5,3),(6,0),(7,0),(8,0),(9,0),(10,0)] mixed (by kernel_rfl) fun fb A=>?_)
  have Z:=A.o
  have bg:=(aq.up X).up A
  have bh:=(cb.up X).up A
  have bi:=(ar.up X).up A
  refine Mw.q O O (fun _ c=>R.lda (cs:=[G,H]) (bi.clcs O c) O O) (Dv z O (Dp O (Mw.q O O (fun _ c=>R.lda (cs:=[G,H]) (bi.clcs O c) O O) ?_)))
  obtain⟨cd,dc,Y⟩:=ob Y
  refine Mw.t O O (T.call O (p77 (K:=[0,4,5]) (c0:=3) (x0:=(Vm.l30Rd.mk y au)) (x1:=(Vm.Repo.mk a.1.Commits a.1.Heads)) (da.up A) ((r39.ul Z).sub (M:=[0,4,5]) O) ((Repo.rd (K:=[4,5]) a.1.Commits a.1.Heads (bg.rd.sub (M:=[4,5]) O) (bh.rd.sub (M:=[4,5]) O)).sub (M:=[0,4,5]) O) O dc)) ?_
  rintro _ _ ⟨fc,rfl,e,⟨rfl,dd⟩⟩
  have av:=e.s
  have ce:=(c9.up A).up e
  refine m0 e fun fd=>?_
  obtain⟨N,de,Y⟩:=ob Y
  refine Mw.l O O (T.call O (p54 (K:=[4,5,7]) (k0:=8) (x0:=(Vm.Repo.mk a.1.Commits a.1.Heads)) ((Repo.rd (K:=[4,5]) a.1.Commits a.1.Heads ((bg.up e).rd.sub (M:=[4,5]) O) ((bh.up e).rd.sub (M:=[4,5]) O)).sub (M:=[4,5,7]) O) (ce.rd.sub (M:=[4,5,7]) O) de)) ?_
  rintro _ _ ⟨bj,rfl,B,⟨d,rfl,aw⟩⟩
  have ax:=B.o
  refine Dv (.tuple [d,vB N.2].toArray) O (Mw.p O O (fun _=>R.ext (vs:=[d,vB N.2]) (v:=d) O O) (Mw.p O O (fun _=>R.ext (vs:=[d,vB N.2]) (v:=vB N.2) O O) (Hv d O (Hb O (Mw.nil ?_)))))
  obtain⟨df,dg,Y⟩:=zc4 Y
  refine Cw.join 36 40 [9] (fun l w=> ∃ aa f C,CW.w C=w/\Le [] bj C/\l=[f]/\Ow C 8 [] [f] aa/\df aa=some r) ?_ ?_
  ·rintro _ _ σ ⟨aa,f,C,rfl,D,rfl,bk,Y⟩
   rw[dg]at Y
   have ay:=D.o
   have cf:=(dd.up B).up D
   obtain⟨dh,di,Y⟩:=zc4 Y
   refine Cw.join 41 55 [] (fun l w=> ∃ az a0 bl bm P,CW.w P=w/\Le [3,8,11] C P/\l=[]/\Rd P [0] [bm] az/\Bx P 3 a7 [bm,vI a0]/\Ow P 8 [] [f] bl/\dh az a0 bl=some r) ?_ ?_
   ·rintro _ _ σ ⟨az,a0,bl,bm,P,rfl,Q,rfl,r91,dj,dk,Y⟩
    rw[di]at Y
    have dl:=((((db.trans Z).trans av).trans ax).trans ay).t Q
    refine Cw.seq (Cw.draw [3] [(0,1),(1,0),(2,0),(3,0),(4,2),(5,2),(6,3),(7,0),(8,0),(9,0)] mixed (by kernel_rfl) fun dm h=>?_)
    have cg:=h.o
    refine Mw.q O O (fun _ c=>R.lda (cs:=[G,H]) ((((((bi.up e).up B).up D).up Q).up h).clcs O c) O O) (Dv z O (Dv f O (Dp O (Mw.t O O (T.bsS (α:=Str) (xs:=[([110,101,119]:Str),([109,97,105,110]:Str),([120]:Str)]) 9 [] (W:=dm) [vS ([110,101,119]:Str),vS ([109,97,105,110]:Str),vS ([120]:Str)] (Each.cons ((rdS _)) (Each.cons ((rdS _)) (Each.cons ((rdS _)) Each.nil))) O) ?_))))
    rintro fe _ ⟨ff,rfl,i,dn⟩
    have ch:=i.o
    refine m0 i fun dp=>?_
    obtain⟨fg,dq,Y⟩:=ob Y
    refine Mw.t O O (T.call O (p86 (K:=[0,9]) (c0:=3) (x0:=(Vm.l30Rd.mk az a0)) ((dj.up h).up i) ((r91.ul (cg.trans ch)).sub (M:=[0,9]) O) (dn.rd.sub (M:=[0,9]) O) O dq)) ?_
    rintro _ _ ⟨fh,rfl,E,⟨rfl,fi⟩⟩
    have dr:=((dl.trans cg).trans ch).t E
    have ci:=((((((bg.up e).up B).up D).up Q).up h).up i).up E
    have cj:=((((((bh.up e).up B).up D).up Q).up h).up i).up E
    refine mc dp E fun fj=>Mw.lu O (T.sta (vs:=[G,H]) ((((((((((((((b1.up l6).up b5).up x).up U).up I).up X).up A).up e).up B).up D).up Q).up h).up i).up E) O O (zaf ci.oc (zaf cj.oc zaW)) O O) ?_
    rintro _ _ ⟨fm,rfl,ac,ds⟩
    have dt:=dr.t ac
    refine Hv z O (Hv f O (Hs O (Mw.nil ?_)))
    obtain⟨fn,du,ae,dv⟩:=(ci.up ac).dyeO 31
    have dw:=dt.t ae
    obtain⟨fo,dx,af,dy⟩:=((cj.up ac).up ae).dyeO 32
    have dz:=dw.t af
    obtain⟨fp,d0,ah,d1⟩:=(((((((((ce.up B).up D).up Q).up h).up i).up E).up ac).up ae).up af).dyeO 33
    have d2:=dz.t ah
    obtain⟨fq,d3,ai,d4⟩:=(((((((dk.up h).up i).up E).up ac).up ae).up af).up ah).dyeO 34
    have d5:=d2.t ai
    cases Y
    rw[<- d3.trans (d0.trans (dx.trans (du)))]
    exact Cw.ret (zx3 (zlR.c O ((((ds.up ae).up af).up ah).up ai) (zlR.t O (zlR.t O (zlR.t O zlR.n)))) (Res.mk d5 ⟨G,H,z,f,O,(((dv.up af).up ah).up ai).s,((dy.up ah).up ai).s,(d1.up ai).s,d4.s⟩))
   ·obtain⟨d6,d7,Y⟩:=zc4 Y
    refine Cw.join 41 48 [48] (fun l w=> ∃ bn S aj ak F,CW.w F=w/\Le [3] C F/\l=[vB bn]/\Rd F [0] [ak] S/\Bx F 3 a7 [ak,vI aj]/\d6 bn S aj=some r) ?_ ?_
    ·rintro _ _ σ ⟨bn,S,aj,ak,F,rfl,a1,rfl,r182,ck,Y⟩
     rw[d7]at Y
     refine cn Y (fun Y=>?_) fun Y=>?_
     ·refine rg (mv f O (mp O (Lw.t O (T.bsS (α:=Int) (xs:=[(-99),5,0]) 10 [] (W:=F) [vI (-99),vI 5,vI 0] (Each.cons ((rdI _)) (Each.cons ((rdI _)) (Each.cons ((rdI _)) Each.nil))) O) ?_)))
      rintro fr _ ⟨fs,rfl,a3,d8⟩
      have cl:=a3.o
      refine cr Y (fun _=>p123 (K:=[0,10]) (c0:=3) (x0:=(Vm.l30Rd.mk S aj)) (ck.up a3) ((r182.ul cl).sub (M:=[0,10]) O) (d8.rd.sub (M:=[0,10]) O) O) ?_
      rintro bp _ d9 Y bq ⟨rfl,ea⟩
      have eb:=cl.t bq
      refine Lw.t O (T.bsS (α:=Int) (xs:=[bp.1]) 11 [] (W:=d9) [vI bp.1] (Each.cons ((rdI _)) Each.nil) O) ?_
      rintro ft _ ⟨fu,rfl,a4,ec⟩
      have ed:=eb.n a4
      have cm:=(((bk.up a1).up a3).up bq).up a4
      obtain⟨fv,co,Y⟩:=ob Y
      refine Lw.r O (R.ix (α:=Commit) cm.rd co O O O) (Lw.fa O ?_)
      obtain⟨ee,ef,Y⟩:=ob Y
      refine Lw.u (T.stH (α:=Commit) (β:=List Int) (J:=[11]) (Ow.hole (α:=Commit) (β:=List Int) (jf:=0) cm co) ec.s ef O O O O) ?_
      rintro _ _ ⟨eg,rfl,br,eh⟩
      have ei:=ed.t br
      exact nl ((ag) ⟨S,bp.2,ee,ak,eg,O,((((a1.j a3).j bq).j a4).j br).w,O,(r182.ul ei),((ea.up a4).up br),eh,Y⟩)
     ·exact sk ((ag) ⟨S,aj,aa,ak,F,O,a1.w,O,r182,ck,(bk.up a1),Y⟩)
    ·refine rg (mv f O (Lw.ln aa bk.rd O (Lw.gt O (mb O (bs Y (fun am Y=>?_) fun am Y=>?_)))))
     ·refine wak 3 am (mp O (cr Y (fun _=>p78 (c0:=3) (x0:=(Vm.l30Rd.mk y cd.2)) cf (r39.ul (((Z.trans av).trans ax).trans ay)) O) ?_))
      rintro cp _ ej Y cq ⟨rfl,ek⟩
      have el:=(((Z.trans av).trans ax).trans ay).t cq
      exact Lw.eq O (Pb am O (nl ((ag) ⟨(cp.1==0),y,cp.2,V,ej,O,cq,O,(r39.ul el),ek,Y⟩)))
     ·exact psk 3 am O (Pb am O (nl ((ag) ⟨false,y,cd.2,V,C,O,Le.refl _ _,O,(r39.ul (((Z.trans av).trans ax).trans ay)),cf,Y⟩)))
  ·refine sr (mv d O (Lw.ln N.1 aw.rd O (Lw.gt O (nl (cn Y (fun Y=>?_) fun Y=>?_)))))
   ·refine rg (mv d O ?_)
    obtain⟨em,ct,Y⟩:=ob Y
    have en:=aw.preM ct
    exact Lw.r O (R.sl aw.rd ct O (.inl ⟨O,O⟩) (.inr O)) (Nv (cutV d (0:Int).toNat (3:Int).toNat (Rp.sz (Commit))) O ((ag) ⟨em,(cutV d (0:Int).toNat (3:Int).toNat (Rp.sz (Commit))),bj,O,Le.refl _ _,O,en,Y⟩))
   ·exact sk ((ag) ⟨N.1,d,bj,O,Le.refl _ _,O,aw,Y⟩)
 ·refine sr (fl ar O (Lw.ln a.1.Commits aq.rd O (Lw.gt O (nl (cn Y (fun Y=>?_) fun Y=>?_)))))
  ·refine Cw.draw [3] [(0,1),(1,0),(2,0),(3,1),(4,0),(5,2),(6,2),(7,0)] mixed (by kernel_rfl) fun fw k=>?_
   have cu:=(((a9.trans ba).trans bb).trans bc).n k
   refine Mw.q O O (fun _ c=>R.lda (cs:=[G,H]) ((ar.up k).clcs O c) O O) (Dp O (Dfl (ar.up k) O O O (Mw.p O O (fun _=>zo6 (xs:=a.1.Commits) (aq.up k).rd O) ?_)))
   obtain⟨eo,ep,Y⟩:=ob Y
   refine Mw.t O O (T.call O (p78 (c0:=3) (x0:=(Vm.l30Rd.mk z4.b a.2)) (cc.up k) (s7.ul cu) O ep)) ?_
   rintro _ _ ⟨fx,rfl,an,⟨rfl,er⟩⟩
   have es:=cu.t an
   refine m0 an fun et=>?_
   obtain⟨eu,ew,Y⟩:=ob Y
   refine Mw.t O O (T.call O (p109 (K:=[4,5]) (k0:=12) (x0:=(Vm.Repo.mk a.1.Commits a.1.Heads)) (Repo.rd (K:=[4,5]) a.1.Commits a.1.Heads (((aq.up k).up an).rd.sub (M:=[4,5]) O) (((cb.up k).up an).rd.sub (M:=[4,5]) O)) ew)) ?_
   rintro cv _ ⟨fy,rfl,a5,⟨_,rfl,ex⟩⟩
   have ey:=es.n a5
   refine mc et a5 fun fz=>Hv cv O (Mw.nil ?_)
   obtain⟨ez,e0,bu,e1⟩:=ex.dyeO 7
   have e2:=ey.t bu
   exact(ag) ⟨eu,z4.b,eo.2,cv,b4,ez,e0,(((k.j an).j a5).j bu).w,O,e1,(s7.ul e2),((er.up a5).up bu),Y⟩
  ·exact sk ((ag) ⟨([]:List Int),z4.b,a.2,b8,b4,b9,O,Le.refl _ _,O,c6,(s7.ul (((a9.trans ba).trans bb).trans bc)),cc,Y⟩)
theorem p59 {x0 h k0 k1 k2 k3 r}(i:Rd W K [h] x0)(Y:Vm.zh7 x0=some r):Q1 59 [h] W [] fun W' v=> ∃ a b d f,v = .tuple [.agg [a,b].toArray,d,f,vS r.2.2.2].toArray/\Ow W' k0 [] [a] r.1.Commits/\Ow W' k1 [] [b] r.1.Heads/\Ow W' k2 [] [d] r.2.1/\Ow W' k3 [] [f] r.2.2.1:=
 zaT.adJ (J:=[]) (fun c=>bif Nat.beq c 0 then 0 else bif Nat.beq c 31 then k0 else bif Nat.beq c 32 then k1 else bif Nat.beq c 33 then k2 else bif Nat.beq c 34 then k3 else 0) (c59 (i.view _) Y) fun _ _ ⟨a,b,d,f,e,k,x,y,z⟩=>⟨a,b,d,f,e,k.one1.backN O,x.one1.backN O,y.one1.backN O,z.one1.backN O⟩
theorem c61 {x0 c0 c1 x1 C x2 av x3 r}(h0:Rd W0 [0] [c0,c1] x0)(x:Rd W0 [0] [C] x1)(h2:Rd W0 [0] [av] x2)(Y:Vm.zks x0 x1 x2 x3=some r):Q0 61 [.agg [c0,c1].toArray,C,av,vS x3] W0 fun Wf v=> ∃ c2 c3,v = .tuple [.agg [c2,c3].toArray,vB r.2].toArray/\Rd Wf [0] [c2] r.1.Commits/\Rd Wf [0] [c3] r.1.Heads:=by
 unfold Vm.zks at Y
 obtain⟨hn,ho,c4,H,Z⟩:=Repo.split h0
 simp only[List.cons.injEq,and_true,true_and]at c4
 obtain⟨rfl,rfl⟩:=c4
 refine zaT.of Tryz.func61 O O O O (sr (bo 2 O fun g1 W1 l1 b1=>?_))
 have a2:=l1.o
 refine al 3 [.slice none 0 0, .slice none 0 0] fun g3 W3 l3 b3=>?_
 have a4:=a2.n l3
 refine Nb O (ssr (la (b1.up l3) (ca Y (fun _=>p80 (Repo.rd (K:=[0]) x0.Commits x0.Heads (H.ul a4) (Z.ul a4))) fun z8 ht Y l10=>?_)))
 have aw:=a4.n l10
 have c7:=(b1.up l3).up l10
 refine Lw.r O (R.not O) (nl (cn Y (fun Y=>?_) fun Y=>?_))
 ·refine sr (Lw.r O (R.bd (zs:=[.slice none 0 0, .slice none 0 0]) (cs:=[.slice none 0 0, .slice none 0 0]) [] O O O zg2) (sta (b3.up l10) (zaf O (zaf O zaW)) fun hu ej ek=>?_))
  have el:=aw.t ej
  refine Nb O ?_
  cases Y
  exact Cw.ret (zj5 O ek O (Res.mk el ⟨.slice none 0 0, .slice none 0 0,O,(rdN (K:=[0])),(rdN (K:=[0]))⟩))
 ·refine sk (sr (la c7 (cr Y (fun _=>p95 (k0:=4) (k1:=5) (Repo.rd (K:=[0]) x0.Commits x0.Heads (H.ul aw) (Z.ul aw))) ?_)))
  rintro c8 _ hv Y br ⟨em,en,rfl,c9,da⟩
  have eo:=aw.n br
  refine al 6 [.slice none 0 0, .slice none 0 0] fun ep hw D er=>?_
  have es:=eo.n D
  refine sta er (zaf (c9.up D).oc (zaf (da.up D).oc zaW)) fun bu aa et=>?_
  have ac:=es.t aa
  have db:=((c7.up br).up D).up aa
  refine nl (sr (fl db O (Lw.ln x0.Commits (H.ul ac) O (Ni O (sr (Ni O ?_))))))
  obtain⟨eu,ew,Y⟩:=zc4 Y
  refine Cw.join 26 31 [12] (fun l w=> ∃ ax ae,CW.w ae=w/\Le [] bu ae/\l=[vI ax]/\eu ax=some r) ?_ ?_
  ·rintro _ _ σ ⟨ax,ae,rfl,I,rfl,Y⟩
   rw[ew]at Y
   have ex:=ac.n I
   refine ssr (Ni O (Cw.block ?_))
   obtain⟨ey,ez,Y⟩:=zc4 Y
   refine Cw.loop 32 98 [9,12,13,14,15,16] (fun m l w=> ∃ ay bv af L E az a0 dc dd bw a1 ah a3 a5 e,CW.w e=w/\Le [4,6,9,10,11] ae e/\l=[vB ay,vI bv,vI af,dc,dd,bw]/\Ow e 4 [] [a1] L/\Ow e 5 [] [ah] E/\Bx e 6 ep [a1,ah]/\Ow e 7 [] [a3] az/\Ow e 8 [] [a5] a0/\Bx e 3 g3 [a3,a5]/\Vm.zg7 x0 x1 x2 ey m ay bv af L E az a0=some r) _ ⟨false,ax,0,c8.Commits,c8.Heads,([]:List Commit),([]:List Head),undef,undef,undef,em,en, .slice none 0 0, .slice none 0 0,ae,O,Le.refl _ _,O,(((c9.up D).up aa).up I),(((da.up D).up aa).up I),(et.up I),owN 7 [],owN 8 [],(((((b3.up l10).up br).up D).up aa).up I),Y⟩ ?_
   rintro(_ |hx) _ _ σ ⟨ay,bv,af,L,E,az,a0,dc,dd,bw,a1,ah,a3,a5,e,rfl,bz,rfl,b0,b2,b4,e0,e1,de,Y⟩
   ·cases Y
   unfold Vm.zg7 at Y
   have ai:=ex.t bz
   have df:=(db.up I).up bz
   refine ssr (mi O (mv av O (Lw.ln x2 (h2.ul ai) O (Lw.lt O (nl (cn Y (fun Y=>?_) fun Y=>?_))))))
   ·refine sk (Cw.seq (Cw.block (sr (mv av O (mi O ?_)))))
    obtain⟨b5,dg,Y⟩:=ob Y
    refine Lw.r O (R.ix (α:=Commit) (h2.ul ai) dg O O O) ?_
    obtain⟨x77,c78,_,r79⟩:=((h2.ul ai).at_ dg).cells
    obtain⟨hy,hz,rfl,r81,r83⟩:=Commit.split r79
    refine Lw.r O (R.lda c78 O O) (cr Y (fun _=>p106 (k0:=9) (k1:=10) (Commit.rd (K:=[0]) b5.Parents b5.Who b5.Tree r81 r83)) ?_)
    rintro aj _ h3 Y f ⟨a6,dh,rfl,di,dj⟩
    have e2:=ai.n f
    refine al 11 [.slice none 0 0,vS ([]:Str), .slice none 0 0] fun e3 h4 a e4=>?_
    have e5:=e2.n a
    refine sta e4 (zaf (di.up a).oc (zaf O (zaf (dj.up a).oc zaW))) fun dk d e6=>?_
    have e7:=e5.t d
    refine nl (ssr (Ni O (Cw.block ?_)))
    obtain⟨e8,e9,Y⟩:=zc4 Y
    refine Cw.loop 43 88 [9,15,16] (fun m l w=> ∃ N ak P Q am b6 S U y,CW.w y=w/\Le [9] dk y/\l=[vB N,vI ak,b6]/\Ow y 7 [] [S] P/\Ow y 8 [] [U] Q/\Bx y 3 g3 [S,U]/\Ow y 9 [] [a6] am/\Vm.zg6 x0 x1 af e8 m N ak P Q am=some r) _ ⟨ay,0,az,a0,aj.Parents,bw,a3,a5,dk,O,Le.refl _ _,O,(((e0.up f).up a).up d),(((e1.up f).up a).up d),(((de.up f).up a).up d),((di.up a).up d),Y⟩ ?_
    rintro(_ |h5) _ _ σ ⟨N,ak,P,Q,am,b6,S,U,y,rfl,h,rfl,b7,b8,b9,an,Y⟩
    ·cases Y
    unfold Vm.zg6 at Y
    have fb:=e7.t h
    have dl:=(((b4.up f).up a).up d).up h
    have ao:=e6.up h
    refine ssr (mi O (fl ao O (Lw.ln am an.rd O (Lw.lt O (nl (cn Y (fun Y=>?_) fun Y=>?_))))))
    ·refine sk ?_
     obtain⟨fc,fd,Y⟩:=zc4 Y
     refine Cw.join 50 88 [9,16] (fun l w=> ∃ a7 a8 a9 ba cb bb bc z,CW.w z=w/\Le [9] y z/\l=[vB a7,cb]/\Ow z 7 [] [bb] a8/\Ow z 8 [] [bc] a9/\Bx z 3 g3 [bb,bc]/\Ow z 9 [] [a6] ba/\fc a7 a8 a9 ba=some r) ?_ ?_
     ·rintro _ _ σ ⟨a7,a8,a9,ba,cb,bb,bc,z,rfl,fe,rfl,ff,fg,fh,fi,Y⟩
      rw[fd]at Y
      exact rg (mi O (Lw.add O (Ni O ((agm) ⟨a7,w64 (ak+1),a8,a9,ba,cb,bb,bc,z,O,(h.j fe).w,O,ff,fg,fh,fi,Y⟩))))
     ·refine Cw.block (sr (fl ao O (mi O ?_)))
      obtain⟨cc,dm,Y⟩:=ob Y
      refine Lw.r O (R.ix (α:=Int) an.rd dm O O O) (Lw.r O (R.ld O O (an.rd.at_ dm).int) (Ni O (Cw.block (sr (mi O (mi O (Lw.sub O (ca Y (fun _=>p67) fun h6 fj Y b=>?_))))))))
      have dn:=fb.n b
      have cd:=an.up b
      refine Nb O (cn Y (fun Y=>?_) fun Y=>?_)
      ·refine rg (fl (ao.up b) O (mi O (mi O (mi O (Lw.add O ?_)))))
       obtain⟨h7,fm,Y⟩:=ob Y
       refine Lw.r O (R.ix (α:=Int) cd.rd fm O O O) ?_
       obtain⟨fn,fo,Y⟩:=ob Y
       refine Lw.u (T.stS (K':=[]) cd (rdI _) fo O O O) ?_
       rintro _ _ ⟨fp,rfl,be,fq⟩
       exact nl ((ag) ⟨N,P,Q,fn,vI cc,S,U,fp,O,(b.j be).w,O,((b7.up b).up be),((b8.up b).up be),((b9.up b).up be),fq,Y⟩)
      ·obtain⟨fr,fs,Y⟩:=zc4 Y
       refine Cw.join 69 79 [69] (fun l w=> ∃ ce cf,CW.w cf=w/\Le [] fj cf/\l=[vB ce]/\fr ce=some r) ?_ ?_
       ·rintro _ _ σ ⟨ce,cf,rfl,A,rfl,Y⟩
        rw[fs]at Y
        have bg:=dn.n A
        have dp:=(b9.up b).up A
        refine cn Y (fun Y=>?_) fun Y=>?_
        ·refine Cw.draw [] [(0,0),(1,1),(2,0),(3,0),(4,0),(5,0),(6,0),(7,1),(8,0),(9,3)] mixed (by kernel_rfl) fun h8 F=>?_
         have cg:=bg.n F
         have dq:=(cd.up A).up F
         refine Dfl (((ao.up b).up A).up F) O O O (Di O (Dv C O (Di O (Mw.p O O (fun _=>R.sub O O) ?_))))
         obtain⟨h9,ch,Y⟩:=ob Y
         refine Mw.p O O (fun _=>R.ix (α:=Int) (x.ul cg) ch O O O) (Mw.q O O (fun _ c=>R.ld O O (zaD ((x.ul cg).at_ ch).1 O ((x.ul cg).at_ ch).int c)) ?_)
         obtain⟨ia,ft,Y⟩:=ob Y
         refine Mw.p O O (fun _=>R.ix (α:=Int) dq.rd ft O O O) ?_
         obtain⟨fu,fv,Y⟩:=ob Y
         refine Mw.lu O (T.stS (K':=[]) dq (rdI _) fv O O O) ?_
         rintro _ _ ⟨fw,rfl,bh,fx⟩
         exact Mw.nil ((ag) ⟨N,P,Q,fu,vI cc,S,U,fw,O,(((b.j A).j F).j bh).w,O,((((b7.up b).up A).up F).up bh),((((b8.up b).up A).up F).up bh),((dp.up F).up bh),fx,Y⟩)
        ·refine sr (la ((((((df.up f).up a).up d).up h).up b).up A) (cr Y (fun _=>p95 (k0:=12) (k1:=13) (Repo.rd (K:=[0]) x0.Commits x0.Heads (H.ul bg) (Z.ul bg))) ?_))
         rintro dr _ ib Y ds ⟨dt,du,rfl,dv,dw⟩
         have fy:=bg.n ds
         refine sta (dp.up ds) (zaf dv.oc (zaf dw.oc zaW)) fun ic ci fz=>?_
         have f0:=fy.t ci
         refine Nb O ?_
         obtain⟨f1,f2,cj,f3⟩:=znQ _ 12
         have f4:Rd (α:=List Vm.Commit) f1 [0] [dt] dr.Commits:=by rw[f3];exact((dv.up ci).rd.dye 12).sub (M:=[0]) O
         have f5:=f0.t cj
         obtain⟨f6,f7,dx,f8⟩:=znQ _ 13
         have f9:Rd (α:=List Vm.Head) f6 [0] [du] dr.Heads:=by rw[f8];exact(((dw.up ci).up cj).rd.dye 13).sub (M:=[0]) O
         have dy:=dx.s
         cases Y
         rw[<- f7.trans (f2)]
         exact Cw.ret (zj5 O ((fz.up cj).up dx) O (Res.mk (f5.trans dy) ⟨dt,du,O,(f4.ul dy),f9⟩))
       ·refine rg (mi O (Lw.sub O (mv C O (Lw.ln x1 (x.ul dn) O (Lw.sub O (ca Y (fun _=>p67) fun id dz Y d0=>mb O (bs Y (fun ap Y=>?_) fun ap Y=>?_)))))))
        ·exact wak 2 ap (mi O (Lw.lt O (Pb ap O (Nb O ((ag) ⟨decide (cc< (0:Int)),dz,O,d0,O,Y⟩)))))
        ·exact psk 2 ap O (Pb ap O (Nb O ((ag) ⟨false,dz,O,d0,O,Y⟩)))
    ·refine Cw.exit ?_
     rw[e9]at Y
     refine sr (fl dl O (la ao (Lw.t O (T.bs 14 [.agg [a6,vS aj.Who,dh].toArray] (cs:=[a6,vS aj.Who,dh]) O O (bsA O)) ?_)))
     rintro _ _ ⟨ie,ig,rfl,rfl,i,ga⟩
     obtain⟨ck,gb,Y⟩:=ob Y
     refine Lw.t O (T.app1 (α:=Commit) (J:=[9,10]) (K':=[]) (((((b0.up f).up a).up d).up h).up i) ga (Commit.own am aj.Who aj.Tree (an.up i).s ((((dj.up a).up d).up h).up i).s) O O gb) ?_
     rintro d1 _ ⟨ih,rfl,V,cl⟩
     refine Lw.fa O (Lw.u (T.st (j:=0) (v:=d1) ((dl.up i).up V) O O cl.oc O O) ?_)
     rintro _ _ ⟨gc,rfl,G,d2⟩
     exact nl (rg (fl d2 O (Lw.ln ck (cl.up G).rd O (Lw.sub O (Ni O (rg (mi O (Lw.add O (Ni O ((agm) ⟨N,w64 ((ck.length:Int)-1),w64 (af+1),ck,E,P,Q,ptr (bx e3),vI ak,b6,d1,ah,S,U,gc,O,(((((((bz.j f).j a).j d).j h).j i).j V).j G).w,O,(cl.up G),(((((((b2.up f).up a).up d).up h).up i).up V).up G),d2,(((b7.up i).up V).up G),(((b8.up i).up V).up G),(((b9.up i).up V).up G),Y⟩))))))))))
   ·refine Cw.exit ?_
    rw[ez]at Y
    refine sr (la b4 (ms O (mi O (cr Y (fun _=>p113 (K:=[4,5]) (x0:=(Vm.Repo.mk L E)) (Repo.rd (K:=[4,5]) L E (b0.rd.sub (M:=[4,5]) O) (b2.rd.sub (M:=[4,5]) O))) ?_))))
    rintro W _ ii Y X ⟨cm,co,rfl,gd,gf⟩
    have bi:=gd.sub (M:=[0,4,5]) O
    have bj:=gf.sub (M:=[0,4,5]) O
    have gg:=ai.n X
    refine sta (b4.up X) (zaf bi.oc (zaf bj.oc zaW)) fun gh k d3=>?_
    have bk:=gg.t k
    have d4:=(df.up X).up k
    refine nl (Cw.seq ?_)
    obtain⟨gj,gk,Y⟩:=zc4 Y
    refine Cw.join 103 111 [111] (fun l w=> ∃ cp cq,CW.w cq=w/\Le [] gh cq/\l=[vB cp]/\gj cp=some r) ?_ ?_
    ·rintro _ _ σ ⟨cp,cq,rfl,B,rfl,Y⟩
     rw[gk]at Y
     have bl:=bk.n B
     have d5:=((de.up X).up k).up B
     refine cn Y (fun Y=>?_) fun Y=>?_
     ·refine sr (la (d4.up B) (cr Y (fun _=>p95 (k0:=15) (k1:=16) (Repo.rd (K:=[0]) x0.Commits x0.Heads (H.ul bl) (Z.ul bl))) ?_))
      rintro d6 _ ij Y d7 ⟨d8,d9,rfl,ea,eb⟩
      have gm:=bl.n d7
      refine sta (d5.up d7) (zaf ea.oc (zaf eb.oc zaW)) fun ik ct gn=>?_
      have go:=gm.t ct
      refine Nb O ?_
      obtain⟨gr,gs,cu,gu⟩:=znQ _ 15
      have gv:Rd (α:=List Vm.Commit) gr [0] [d8] d6.Commits:=by rw[gu];exact((ea.up ct).rd.dye 15).sub (M:=[0]) O
      have gw:=go.t cu
      obtain⟨gx,gy,ec,gz⟩:=znQ _ 16
      have g0:Rd (α:=List Vm.Head) gx [0] [d9] d6.Heads:=by rw[gz];exact(((eb.up ct).up cu).rd.dye 16).sub (M:=[0]) O
      have ed:=ec.s
      cases Y
      rw[<- gy.trans (gs)]
      exact Cw.ret (zj5 O ((gn.up cu).up ec) O (Res.mk (gw.trans ed) ⟨d8,d9,O,(gv.ul ed),g0⟩))
     ·refine sk (sr (la (d3.up B) (sta d5 (zaf bi.oc (zaf bj.oc zaW)) fun il aq g2=>?_)))
      have g4:=bl.t aq
      refine Nb O ?_
      have g5:=bi.up ((k.sub (M:=[3,6]) O).trans ((B.sub (M:=[3,6]) O).trans (aq.sub (M:=[3,6]) O))) O
      have g6:=bj.up ((k.sub (M:=[3,6]) O).trans ((B.sub (M:=[3,6]) O).trans (aq.sub (M:=[3,6]) O))) O
      obtain⟨cv,g7,cw,cx⟩:=znQ _ 4
      have g8:Rd cv [0,5] [cm] W.Commits:=by rw[cx];exact(g5.dye 4).sub (M:=[0,5]) O
      have g9:Rd cv [0,5] [co] W.Heads:=by rw[cx];exact(g6.dye 4).sub (M:=[0,5]) O
      have im:Rd (α:=List Vm.Commit) cv [0] [a1] L:=by rw[cx];exact(((((b0.up X).up k).up B).up aq).rd.dye 4).sub (M:=[0]) O
      have ha:=g4.t cw
      obtain⟨cy,hb,ee,cz⟩:=znQ _ 5
      have hc:Rd cy [0] [cm] W.Commits:=by rw[cz];exact(g8.dye 5).sub (M:=[0]) O
      have hd:Rd cy [0] [co] W.Heads:=by rw[cz];exact(g9.dye 5).sub (M:=[0]) O
      have io:Rd (α:=List Vm.Head) cy [0] [ah] E:=by rw[cz];exact((((((b2.up X).up k).up B).up aq).up cw).rd.dye 5).sub (M:=[0]) O
      have he:=ha.t ee
      cases Y
      rw[<- hb.trans (g7)]
      exact Cw.ret (zj5 O ((g2.up cw).up ee) O (Res.mk he ⟨cm,co,O,hc,hd⟩))
    ·refine rg (la d4 (mv C O (ca Y (fun _=>p120 (Repo.rd (K:=[0]) x0.Commits x0.Heads (H.ul bk) (Z.ul bk)) (x.ul bk)) fun ip hf Y ar=>Lw.r O (R.not O) (mb O (bs Y (fun au Y=>?_) fun au Y=>?_)))))
     ·exact psk 3 au O (Pb au O (nl ((ag) ⟨true,hf,O,ar,O,Y⟩)))
     ·refine wak 3 au (la (d3.up ar) ?_)
      have hg:=bi.up ((k.sub (M:=[6]) O).trans (ar.sub (M:=[6]) O)) O
      have hh:=bj.up ((k.sub (M:=[6]) O).trans (ar.sub (M:=[6]) O)) O
      exact ca Y (fun _=>p80 (K:=[0,4,5]) (Repo.rd (K:=[0,4,5]) W.Commits W.Heads hg hh)) fun hi hj Y hk=>Lw.r O (R.not O) (Pb au O (nl ((ag) ⟨(!hi),hj,O,(ar.j hk).w,O,Y⟩)))
  ·refine sr (mv C O (Lw.ln x1 (x.ul ac) O (Lw.gt O (nl (cn Y (fun Y=>?_) fun Y=>?_)))))
   ·refine rg (mv C O ?_)
    obtain⟨hl,ef,Y⟩:=ob Y
    exact Lw.r O (R.ix (α:=Int) (x.ul ac) ef O O O) (Lw.r O (R.ld O O ((x.ul ac).at_ ef).int) (Ni O ((ag) ⟨hl,bu,O,Le.refl _ _,O,Y⟩)))
   ·exact sk ((ag) ⟨(-1),bu,O,Le.refl _ _,O,Y⟩)
theorem p61 {x0 d f x1 h x2 i x3 r}(k:Rd W K [d,f] x0)(x:Rd W K [h] x1)(y:Rd W K [i] x2)(Y:Vm.zks x0 x1 x2 x3=some r):Q1 61 [.agg [d,f].toArray,h,i,vS x3] W [] fun W' v=> ∃ a b,v = .tuple [.agg [a,b].toArray,vB r.2].toArray/\Rd W' (0::K) [a] r.1.Commits/\Rd W' (0::K) [b] r.1.Heads:=
 (c61 (k.view _) (x.view _) (y.view _) Y).ad (fk 0) fun _ _ ⟨a,b,e,z,A⟩=>⟨a,b,e,z.back O,A.back O⟩
theorem c36 {x0 H I x1 J L r}(U:Rd W0 [0] [H,I] x0)(V:Rd W0 [0] [J,L] x1)(Y:Vm.zjs x0 x1=some r):Q0 36 [.agg [H,I].toArray, .agg [J,L].toArray] W0 fun Wf v=>v=vB r:=by
 unfold Vm.zjs at Y
 obtain⟨ah,ai,M,N,aj⟩:=Repo.split U
 simp only[List.cons.injEq,and_true,true_and]at M
 obtain⟨rfl,rfl⟩:=M
 obtain⟨ak,am,P,h,an⟩:=Repo.split V
 simp only[List.cons.injEq,and_true,true_and]at P
 obtain⟨rfl,rfl⟩:=P
 refine zaT.of Tryz.func36 O O O O (sr (bo 2 O fun g1 W1 W Q=>?_))
 have X:=W.o
 refine bo 3 O fun g3 S i k=>?_
 have b:=X.n i
 refine Nb O (ssr (fl (Q.up i) O (Lw.ln x0.Commits (N.ul b) O (fl k O (Lw.ln x1.Commits (h.ul b) O (Lw.lt O (nl (cn Y (fun Y=>?_) fun Y=>?_))))))))
 ·exact sr (Nb O (.ret (rt Y b)))
 ·refine sk (ssr (Ni O (Cw.block ?_)))
  obtain⟨Z,aa,Y⟩:=zc4 Y
  refine Cw.loop 13 31 [4,5] (fun m l w=> ∃ d e x,CW.w x=w/\Le [] S x/\l=[vB d,vI e]/\Vm.zhC x0 x1 Z m d e=some r) _ ⟨false,0,S,O,Le.refl _ _,O,Y⟩ ?_
  rintro(_ |ar) _ _ σ ⟨d,e,x,rfl,a,rfl,Y⟩
  ·cases Y
  unfold Vm.zhC at Y
  have y:=b.n a
  refine ssr (mi O (fl (k.up a) O (Lw.ln x1.Commits (h.ul y) O (Lw.lt O (nl (cn Y (fun Y=>?_) fun Y=>?_))))))
  ·refine sk (Cw.seq (Cw.block (Cw.seq (Cw.draw [] [(0,0),(1,1),(2,0),(3,0),(4,1),(5,0),(6,1),(7,0),(8,0),(9,1),(10,2),(11,0)] mixed (by kernel_rfl) fun au f=>?_))))
   have z:=y.n f
   refine Dfl (((Q.up i).up a).up f) O O O (Di O ?_)
   obtain⟨A,B,Y⟩:=ob Y
   have C:=N.ul z
   refine Mw.p O O (fun _=>R.ix (α:=Commit) C B O O O) ?_
   obtain⟨x26,c27,_,r28⟩:=(C.at_ B).cells
   obtain⟨av,aw,rfl,r30,r32⟩:=Commit.split r28
   refine Mw.q O O (fun _ c=>R.lda (zmh (C.at_ B).1 O c27 c) O O) (Dfl ((k.up a).up f) O O O (Di O ?_))
   obtain⟨D,E,Y⟩:=ob Y
   have F:=h.ul z
   refine Mw.p O O (fun _=>R.ix (α:=Commit) F E O O O) ?_
   obtain⟨x36,c37,_,r38⟩:=(F.at_ E).cells
   obtain⟨ax,ay,rfl,r40,r42⟩:=Commit.split r38
   refine Mw.q O O (fun _ c=>R.lda (zmh (F.at_ E).1 O c37 c) O O) ?_
   obtain⟨az,ac,Y⟩:=ob Y
   refine Mw.t O O (T.call O (p58 (Commit.rd (K:=[0]) A.Parents A.Who A.Tree r30 r32) (Commit.rd (K:=[0]) D.Parents D.Who D.Tree r40 r42) ac)) ?_
   rintro _ _ ⟨ae,rfl,G,rfl⟩
   have af:=z.n G
   refine m0 G fun a0=>Mw.p O O (fun _=>R.not O) (Mw.nil (cn Y (fun Y=>?_) fun Y=>?_))
   ·exact sr (Nb O (.ret (rt Y af)))
   ·exact sk (rg (mi O (Lw.add O (Ni O ((agm) ⟨d,w64 (e+1),ae,O,((a.j f).j G).w,O,Y⟩)))))
  ·refine Cw.exit ?_
   rw[aa]at Y
   exact sr (Nb O (.ret (rt Y y)))
theorem p36 {x0 a b x1 d f r}(h:Rd W K [a,b] x0)(i:Rd W K [d,f] x1)(Y:Vm.zjs x0 x1=some r):Q1 36 [.agg [a,b].toArray, .agg [d,f].toArray] W [] fun W' v=>v=vB r:=
 (c36 (h.view _) (i.view _) Y).ad (fk 0) fun _ _ e=>e
theorem c12 {x0 ap r}(h0:Rd W0 [0] [ap] x0)(aq:Gl 0 W0 [0])(Y:Vm.zjY x0=some r):Q0 12 [ap] W0 fun Wf v=>v=vB r:=by
 unfold Vm.zjY at Y
 refine zaT.of Tryz.func12 O O O O (sr (Nb O (ssr (mv ap O (Lw.ln x0 h0 O (Lw.gt O (nl (cn Y (fun Y=>?_) fun Y=>?_))))))))
 ·exact sr (Nb O (.ret (rt Y (Le.refl _ _))))
 ·refine sk (sr (mv ap O (cr Y (fun _=>p59 (k0:=2) (k1:=3) (k2:=4) (k3:=5) h0) ?_)))
  rintro a _ W4 Y l4 ⟨P,Q,A,f,rfl,b2,b3,c3,c4⟩
  have a5:=l4.o
  refine mv (.tuple [.agg [P,Q].toArray,A,f,vS a.2.2.2].toArray) O (Lw.r O (R.ext (vs:=[.agg [P,Q].toArray,A,f,vS a.2.2.2]) (v:= .agg [P,Q].toArray) O O) (Lw.r O (R.ext (vs:=[.agg [P,Q].toArray,A,f,vS a.2.2.2]) (v:=A) O O) (Lw.r O (R.ext (vs:=[.agg [P,Q].toArray,A,f,vS a.2.2.2]) (v:=f) O O) (Lw.r O (R.ext (vs:=[.agg [P,Q].toArray,A,f,vS a.2.2.2]) (v:=vS a.2.2.2) O O) (al 6 [.slice none 0 0, .slice none 0 0] fun g6 W6 J b6=>?_)))))
  have a7:=a5.n J
  refine sta b6 (zaf (b2.up J).oc (zaf (b3.up J).oc zaW)) fun ez W b4=>?_
  have b5:=a7.t W
  have b7:=(b2.up J).up W
  have b8:=(b3.up J).up W
  have b9:=(c3.up J).up W
  have cb:=(c4.up J).up W
  refine Gv A O (Gv f O (Ns O (sr (la b4 (mv A O (mv f O (ms O (cr Y (fun _=>p60 (K:=[0,2,3,4,5]) (k0:=7) (k1:=8) (x0:=(Vm.Repo.mk a.1.Commits a.1.Heads)) ((Repo.rd (K:=[2,3]) a.1.Commits a.1.Heads (b7.rd.sub (M:=[2,3]) O) (b8.rd.sub (M:=[2,3]) O)).sub (M:=[0,2,3,4,5]) O) (b9.rd.sub (M:=[0,2,3,4,5]) O) (cb.rd.sub (M:=[0,2,3,4,5]) O) ((aq.ul b5).sub (M:=[0,2,3,4,5]) O)) ?_))))))))
  rintro b _ e0 Y S ⟨ar,au,rfl,cc,cd⟩
  have c8:=b5.n S
  refine mv (.tuple [.agg [ar,au].toArray,vB b.2].toArray) O (Lw.r O (R.ext (vs:=[.agg [ar,au].toArray,vB b.2]) (v:= .agg [ar,au].toArray) O O) (Lw.r O (R.ext (vs:=[.agg [ar,au].toArray,vB b.2]) (v:=vB b.2) O O) (al 9 [.slice none 0 0, .slice none 0 0] fun e1 e2 B c9=>?_)))
  have da:=c8.n B
  refine sta c9 (zaf (cc.up B).oc (zaf (cd.up B).oc zaW)) fun e3 H db=>?_
  have dc:=da.t H
  have ce:=((b7.up S).up B).up H
  have cf:=((b8.up S).up B).up H
  have cg:=((b9.up S).up B).up H
  have ch:=((cb.up S).up B).up H
  have ci:=((b4.up S).up B).up H
  refine Nb O (sr (la ci (mv A O (mv f O (ms O (cr Y (fun _=>p61 (K:=[2,3,4,5]) (x0:=(Vm.Repo.mk a.1.Commits a.1.Heads)) ((Repo.rd (K:=[2,3]) a.1.Commits a.1.Heads (ce.rd.sub (M:=[2,3]) O) (cf.rd.sub (M:=[2,3]) O)).sub (M:=[2,3,4,5]) O) (cg.rd.sub (M:=[2,3,4,5]) O) (ch.rd.sub (M:=[2,3,4,5]) O)) ?_))))))
  rintro I _ e4 Y D ⟨av,aw,rfl,dd,de⟩
  have a9:=dd.sub (M:=[0,2,3,4,5]) O
  have ba:=de.sub (M:=[0,2,3,4,5]) O
  have df:=dc.n D
  refine mv (.tuple [.agg [av,aw].toArray,vB I.2].toArray) O (Lw.r O (R.ext (vs:=[.agg [av,aw].toArray,vB I.2]) (v:= .agg [av,aw].toArray) O O) (Lw.r O (R.ext (vs:=[.agg [av,aw].toArray,vB I.2]) (v:=vB I.2) O O) (al 10 [.slice none 0 0, .slice none 0 0] fun e5 e6 k dg=>?_)))
  have dh:=df.n k
  refine sta dg (zaf a9.oc (zaf ba.oc zaW)) fun cj x ck=>?_
  have cl:=dh.t x
  have bb:=((ce.up D).up k).up x
  have bc:=((cf.up D).up k).up x
  have cm:=((((cc.up B).up H).up D).up k).up x
  have co:=((((cd.up B).up H).up D).up k).up x
  have be:=((ci.up D).up k).up x
  have cp:=((db.up D).up k).up x
  refine Nb O (Cw.seq ?_)
  obtain⟨di,dj,Y⟩:=zc4 Y
  refine Cw.join 40 53 [53] (fun l w=> ∃ bg X,CW.w X=w/\Le [] cj X/\l=[vB bg]/\di bg=some r) ?_ ?_
  ·rintro _ _ σ ⟨bg,X,rfl,h,rfl,Y⟩
   rw[dj]at Y
   have ax:=cl.n h
   have ay:=cm.up h
   have az:=co.up h
   have a0:=cp.up h
   refine cn Y (fun Y=>?_) fun Y=>?_
   ·obtain⟨dk,dl,Y⟩:=zc4 Y
    refine Cw.join 54 61 [2] (fun l w=> ∃ bh bi,CW.w bi=w/\Le [] X bi/\l=[vB bh]/\dk bh=some r) ?_ ?_
    ·rintro _ _ σ ⟨bh,bi,rfl,dm,rfl,Y⟩
     rw[dl]at Y
     have dn:=ax.n dm
     exact .ret (rt Y dn)
    ·refine rg (mb O (mb O (Lw.r O (R.beq O O) (mb O (bs Y (fun Z Y=>?_) fun Z Y=>?_)))))
     ·refine wak 3 Z (la a0 (la (ck.up h) ?_))
      have dp:=a9.up ((k.sub (M:=[10]) O).trans ((x.sub (M:=[10]) O).trans (h.sub (M:=[10]) O))) O
      have dq:=ba.up ((k.sub (M:=[10]) O).trans ((x.sub (M:=[10]) O).trans (h.sub (M:=[10]) O))) O
      exact ca Y (fun _=>p31 (K:=[0,2,3,4,5,7,8]) (x0:=(Vm.Repo.mk b.1.Commits b.1.Heads)) ((Repo.rd (K:=[7,8]) b.1.Commits b.1.Heads (ay.rd.sub (M:=[7,8]) O) (az.rd.sub (M:=[7,8]) O)).sub (M:=[0,2,3,4,5,7,8]) O) ((Repo.rd (K:=[0,2,3,4,5]) I.1.Commits I.1.Heads dp dq).sub (M:=[0,2,3,4,5,7,8]) O)) fun dr ds Y dt=>Pb Z O (Nb O ((ag) ⟨dr,ds,O,dt,O,Y⟩))
     ·exact psk 3 Z O (Pb Z O (Nb O ((ag) ⟨false,X,O,Le.refl _ _,O,Y⟩)))
   ·refine sk (ssr (mb O (Lw.r O (R.not O) (nl (cn Y (fun Y=>?_) fun Y=>?_)))))
    ·refine sr (la a0 (la (be.up h) (ca Y (fun _=>p31 (K:=[2,3,7,8]) (x0:=(Vm.Repo.mk b.1.Commits b.1.Heads)) (x1:=(Vm.Repo.mk a.1.Commits a.1.Heads)) ((Repo.rd (K:=[7,8]) b.1.Commits b.1.Heads (ay.rd.sub (M:=[7,8]) O) (az.rd.sub (M:=[7,8]) O)).sub (M:=[2,3,7,8]) O) ((Repo.rd (K:=[2,3]) a.1.Commits a.1.Heads ((bb.up h).rd.sub (M:=[2,3]) O) ((bc.up h).rd.sub (M:=[2,3]) O)).sub (M:=[2,3,7,8]) O)) fun e7 e8 Y du=>?_)))
     have dv:=ax.n du
     exact Nb O (.ret (rt Y dv))
    ·refine sk (sr (la a0 (ms O (ca Y (fun _=>p34 (K:=[0,7,8]) (x0:=(Vm.Repo.mk b.1.Commits b.1.Heads)) ((Repo.rd (K:=[7,8]) b.1.Commits b.1.Heads (ay.rd.sub (M:=[7,8]) O) (az.rd.sub (M:=[7,8]) O)).sub (M:=[0,7,8]) O) ((aq.ul ax).sub (M:=[0,7,8]) O)) fun cq cs Y E=>?_))))
     have dw:=ax.n E
     refine Ni O (ssr (Ni O (Cw.block ?_)))
     obtain⟨dx,dy,Y⟩:=zc4 Y
     refine Cw.loop 70 115 [2,12,13] (fun m l w=> ∃ a1 U ct a2,CW.w a2=w/\Le [11] cs a2/\l=[vB a1,vI U,ct]/\Vm.zfU a b dx m a1 U=some r) _ ⟨false,0,undef,cs,O,Le.refl _ _,O,Y⟩ ?_
     rintro(_ |e9) _ _ σ ⟨a1,U,ct,a2,rfl,C,rfl,Y⟩
     ·cases Y
     unfold Vm.zfU at Y
     have bj:=dw.t C
     have bk:=((bb.up h).up E).up C
     have bl:=(((((ch.up D).up k).up x).up h).up E).up C
     have aa:=(ay.up E).up C
     have cu:=(az.up E).up C
     have bm:=((be.up h).up E).up C
     have a3:=(a0.up E).up C
     refine ssr (mi O (mv f O (Lw.ln a.2.2.1 bl.rd O (Lw.lt O (nl (cn Y (fun Y=>?_) fun Y=>?_))))))
     ·refine sk (Cw.seq (Cw.block (sr (fl a3 O (fl bm O (Lw.ln a.1.Commits bk.rd O (mi O (Lw.add O ?_))))))))
      obtain⟨bn,cv,Y⟩:=ob Y
      refine Lw.r O (R.ix (α:=Commit) aa.rd cv O O O) ?_
      obtain⟨x170,c171,_,r172⟩:=(aa.rd.at_ cv).cells
      obtain⟨dz,d0,rfl,r174,r176⟩:=Commit.split r172
      refine Lw.r O (R.lda c171 O O) (al 11 [.slice none 0 0,vS ([]:Str), .slice none 0 0] fun d1 fb ac d2=>?_)
      have d3:=bj.n ac
      refine sta d2 (zaf r174.oc (zaf O (zaf r176.oc zaW))) fun d4 ae d5=>?_
      have d6:=d3.t ae
      refine nl ?_
      obtain⟨d7,d8,Y⟩:=zc4 Y
      refine Cw.join 85 115 [115] (fun l w=> ∃ bp a4,CW.w a4=w/\Le [] d4 a4/\l=[vB bp]/\d7 bp=some r) ?_ ?_
      ·rintro _ _ σ ⟨bp,a4,rfl,cw,rfl,Y⟩
       rw[d8]at Y
       have d9:=d6.n cw
       refine cn Y (fun Y=>?_) fun Y=>?_
       ·exact sr (Nb O (.ret (rt Y d9)))
       ·exact sk (rg (mi O (Lw.add O (Ni O ((agm) ⟨a1,w64 (U+1),ptr (bx d1),a4,O,(((C.j ac).j ae).j cw).w,O,Y⟩)))))
      ·refine Cw.draw [] [(0,0),(1,1),(2,0),(3,0),(4,0),(5,0),(6,1),(7,0),(8,0),(9,0),(10,1),(11,0),(12,0),(13,0),(14,0),(15,1),(16,2),(17,0),(18,0),(19,0),(20,0),(21,1),(22,0),(23,0),(24,0),(25,0),(26,0),(27,1),(28,0),(29,0),(30,0)] mixed (by kernel_rfl) fun ea L=>?_
       have F:=((bl.up ac).up ae).up L
       have bq:=d5.up L
       refine Dfl bq O O O (Dv f O (Di O ?_))
       obtain⟨fc,br,Y⟩:=ob Y
       refine Mw.p O O (fun _=>R.ix (α:=Commit) F.rd br O O O) (Df O (Mw.q O O (fun _ c=>R.ld O O (zaD (Commit.at1 (F.rd.at_ br)).1 O (Commit.at1 (F.rd.at_ br)).str c)) (Mw.p O O (fun _=>R.sne O O) (Db O (bs Y (fun y Y=>?_) fun y Y=>?_)))))
       ·exact dps 9 y O (Mw.p O O (fun _=>R.pk y O (v:=vB true) O) (Db O (dps 10 O O (Mw.p O O (fun _=>R.pk O O (v:=vB true) O) (Mw.nil ((ag) ⟨true,ea,O,L,O,Y⟩))))))
       ·refine Wp y O (fun _=>R.fa O) (Wq y O (fun _ c=>R.ld (v:=d0) O O (bq.clc O O c)) (Wp y O (fun _=>R.mv (v:=f) O) (Wp y O (fun _=>R.mv (v:=vI U) O) ?_)))
        obtain⟨fd,bu,Y⟩:=ob Y
        refine Wp y O (fun _=>R.ix (α:=Commit) F.rd bu O O O) (Wp y O (fun _=>R.fa O) ?_)
        obtain⟨fe,c232,r233⟩:=(Commit.at2 (F.rd.at_ bu)).cell O
        refine Wq y O (fun _ c=>R.ld O O (zaD (Commit.at2 (F.rd.at_ bu)).1 O c232 c)) ?_
        have eb:=r176.up ((ac.sub (M:=[11]) O).trans ((ae.sub (M:=[11]) O).trans (L.sub (M:=[11]) O))) O
        obtain⟨ec,ed,Y⟩:=ob Y
        refine Wt y O (T.call O (p37 (K:=[5,7]) (eb.sub (M:=[5,7]) O) (r233.sub (M:=[5,7]) O) ed)) ?_
        rintro _ _ ⟨cx,rfl,af,rfl⟩
        refine m0 af fun ff=>Wp y O (fun _=>R.not O) (Mw.p O O (fun _=>R.pk y O (v:=vB (!ec)) O) (Db O (bs Y (fun i Y=>?_) fun i Y=>?_)))
        ·exact dps 10 i O (Mw.p O O (fun _=>R.pk i O (v:=vB true) O) (Mw.nil ((ag) ⟨true,cx,O,(L.j af).w,O,Y⟩)))
        ·have ee:=r174.up ((ac.sub (M:=[11]) O).trans ((ae.sub (M:=[11]) O).trans ((L.sub (M:=[11]) O).trans (af.sub (M:=[11]) O)))) O
         refine Wp i O (fun _=>R.fa O) (Wq i O (fun _ c=>R.ld (v:=dz) O O (bq.clc O O c)) (Wp i O (fun _=>zo6 (xs:=bn.Parents) ee O) (Wp i O (fun _=>R.mv (v:=f) O) (Wp i O (fun _=>R.mv (v:=vI U) O) ?_))))
         obtain⟨bv,bw,Y⟩:=ob Y
         refine Wp i O (fun _=>R.ix (α:=Commit) F.rd bw O O O) (Wp i O (fun _=>R.fa O) ?_)
         obtain⟨fg,c254,r255⟩:=(Commit.at0 (F.rd.at_ bw)).cell O
         have ef:=r255.up (af.sub (M:=[]) O) O
         exact Wq i O (fun _ c=>R.ld O O (zaD (Commit.at0 (F.rd.at_ bw)).1 O c254 c)) (Wp i O (fun _=>zo6 (xs:=bv.Parents) ef O) (Wp i O (fun _=>R.ne O O) (Mw.p O O (fun _=>R.pk i O (v:=vB ((bn.Parents.length:Int) !=(bv.Parents.length:Int))) O) (Mw.nil ((ag) ⟨((bn.Parents.length:Int) !=(bv.Parents.length:Int)),cx,O,(L.j af).w,O,Y⟩)))))
     ·refine Cw.exit ?_
      rw[dy]at Y
      obtain⟨eg,eh,Y⟩:=zc4 Y
      refine Cw.join 116 159 [2] (fun l w=> ∃ bz b0,CW.w b0=w/\Le [] a2 b0/\l=[vB bz]/\eg bz=some r) ?_ ?_
      ·rintro _ _ σ ⟨bz,b0,rfl,ei,rfl,Y⟩
       rw[eh]at Y
       have ej:=bj.n ei
       exact .ret (rt Y ej)
      ·refine rg (la a3 (ca Y (fun _=>p32 (K:=[0,7,8]) (x0:=(Vm.Repo.mk b.1.Commits b.1.Heads)) ((Repo.rd (K:=[7,8]) b.1.Commits b.1.Heads (aa.rd.sub (M:=[7,8]) O) (cu.rd.sub (M:=[7,8]) O)).sub (M:=[0,7,8]) O) ((aq.ul bj).sub (M:=[0,7,8]) O)) fun fh ek Y d=>mb O (bs Y (fun ah Y=>?_) fun ah Y=>?_)))
       ·refine wak 3 ah (la (a3.up d) (la (bm.up d) (ca Y (fun _=>p36 (K:=[2,3,7,8]) (x0:=(Vm.Repo.mk b.1.Commits b.1.Heads)) (x1:=(Vm.Repo.mk a.1.Commits a.1.Heads)) ((Repo.rd (K:=[7,8]) b.1.Commits b.1.Heads ((aa.up d).rd.sub (M:=[7,8]) O) ((cu.up d).rd.sub (M:=[7,8]) O)).sub (M:=[2,3,7,8]) O) ((Repo.rd (K:=[2,3]) a.1.Commits a.1.Heads ((bk.up d).rd.sub (M:=[2,3]) O) (((((bc.up h).up E).up C).up d).rd.sub (M:=[2,3]) O)).sub (M:=[2,3,7,8]) O)) fun fi N Y z=>?_)))
        have a6:=(((((((cg.up D).up k).up x).up h).up E).up C).up d).up z
        have a8:=(bl.up d).up z
        have cy:=(aa.up d).up z
        have cz:=(a3.up d).up z
        refine Pb ah O (mb O (bs Y (fun ai Y=>?_) fun ai Y=>?_))
        ·refine wak 10 ai (fl cz O (Lw.ln b.1.Commits cy.rd O (fl ((bm.up d).up z) O (Lw.ln a.1.Commits ((bk.up d).up z).rd O (mv f O (Lw.ln a.2.2.1 a8.rd O (Lw.add O (Lw.eq O (Pb ai O (mb O (bs Y (fun e Y=>?_) fun e Y=>?_)))))))))))
         ·refine wak 4 e (mv f O (Lw.ln a.2.2.1 a8.rd O (Lw.gt O (mb O (bs Y (fun aj Y=>?_) fun aj Y=>?_)))))
          ·refine wak 6 aj (mi O (fl cz O (Lw.ln b.1.Commits cy.rd O (Lw.sub O (Lw.eq O (wak 2 e (Pb aj O (mb O (bs Y (fun G Y=>?_) fun G Y=>?_)))))))))
           ·exact psk 4 G O (puk 5 O (psk 1 G O (wak 1 e (Pb G O (Pb e O (Nb O ((ag) ⟨true,N,O,(d.j z).w,O,Y⟩)))))))
           ·refine wak 4 G (mv f O (Lw.ln a.2.2.1 a8.rd O (Lw.eq O (mb O (bs Y (fun ak Y=>?_) fun ak Y=>?_)))))
            ·refine wak 5 ak (mi O (mv A O ?_))
             obtain⟨el,c0,Y⟩:=ob Y
             exact Lw.r O (R.ix (α:=Int) a6.rd c0 O O O) (Lw.r O (R.ld O O (a6.rd.at_ c0).int) (Lw.eq O (wak 1 G (Pb ak O (wak 1 e (Pb G O (Pb e O (Nb O ((ag) ⟨((cq:Int)==(el:Int)),N,O,(d.j z).w,O,Y⟩)))))))))
            ·exact psk 5 ak O (wak 1 G (Pb ak O (wak 1 e (Pb G O (Pb e O (Nb O ((ag) ⟨false,N,O,(d.j z).w,O,Y⟩)))))))
          ·refine psk 6 aj O (wak 2 e (Pb aj O (mb O (wak 4 O (mv f O (Lw.ln a.2.2.1 a8.rd O (Lw.eq O (mb O (bs Y (fun am Y=>?_) fun am Y=>?_)))))))))
           ·refine wak 5 am (mi O (mv A O ?_))
            obtain⟨em,c1,Y⟩:=ob Y
            exact Lw.r O (R.ix (α:=Int) a6.rd c1 O O O) (Lw.r O (R.ld O O (a6.rd.at_ c1).int) (Lw.eq O (wak 1 O (Pb am O (wak 1 e (Pb O O (Pb e O (Nb O ((ag) ⟨((cq:Int)==(em:Int)),N,O,(d.j z).w,O,Y⟩)))))))))
           ·exact psk 5 am O (wak 1 O (Pb am O (wak 1 e (Pb O O (Pb e O (Nb O ((ag) ⟨false,N,O,(d.j z).w,O,Y⟩)))))))
         ·exact psk 4 e O (puk 6 O (psk 2 e O (puk 10 O (psk 1 e O (Pb e O (Nb O ((ag) ⟨false,N,O,(d.j z).w,O,Y⟩)))))))
        ·exact psk 10 ai O (Pb ai O (mb O (psk 4 O O (puk 6 O (psk 2 O O (puk 10 O (psk 1 O O (Pb O O (Nb O ((ag) ⟨false,N,O,(d.j z).w,O,Y⟩))))))))))
       ·exact psk 3 ah O (Pb ah O (mb O (psk 10 O O (Pb O O (mb O (psk 4 O O (puk 6 O (psk 2 O O (puk 10 O (psk 1 O O (Pb O O (Nb O ((ag) ⟨false,ek,O,d,O,Y⟩)))))))))))))
  ·refine rg (mb O (mb O (Lw.r O (R.bne O O) (mb O (bs Y (fun an Y=>?_) fun an Y=>?_)))))
   ·exact psk 4 an O (Pb an O (mb O (psk 3 O O (Pb O O (nl ((ag) ⟨true,cj,O,Le.refl _ _,O,Y⟩))))))
   ·refine wak 4 an (la cp (la ck ?_))
    have en:=a9.up ((k.sub (M:=[10]) O).trans (x.sub (M:=[10]) O)) O
    have eo:=ba.up ((k.sub (M:=[10]) O).trans (x.sub (M:=[10]) O)) O
    refine ca Y (fun _=>p31 (K:=[0,2,3,4,5,7,8]) (x0:=(Vm.Repo.mk b.1.Commits b.1.Heads)) ((Repo.rd (K:=[7,8]) b.1.Commits b.1.Heads (cm.rd.sub (M:=[7,8]) O) (co.rd.sub (M:=[7,8]) O)).sub (M:=[0,2,3,4,5,7,8]) O) ((Repo.rd (K:=[0,2,3,4,5]) I.1.Commits I.1.Heads en eo).sub (M:=[0,2,3,4,5,7,8]) O)) fun fj ep Y V=>?_
    have er:=cl.n V
    refine Lw.r O (R.not O) (Pb an O (mb O (bs Y (fun ao Y=>?_) fun ao Y=>?_)))
    ·exact psk 3 ao O (Pb ao O (nl ((ag) ⟨true,ep,O,V,O,Y⟩)))
    ·exact wak 3 ao (la (be.up V) (ca Y (fun _=>p32 (K:=[0,2,3]) (x0:=(Vm.Repo.mk a.1.Commits a.1.Heads)) ((Repo.rd (K:=[2,3]) a.1.Commits a.1.Heads ((bb.up V).rd.sub (M:=[2,3]) O) ((bc.up V).rd.sub (M:=[2,3]) O)).sub (M:=[0,2,3]) O) ((aq.ul er).sub (M:=[0,2,3]) O)) fun es et Y eu=>Lw.r O (R.not O) (Pb ao O (nl ((ag) ⟨(!es),et,O,(V.j eu).w,O,Y⟩)))))
theorem p12 {x0 a r}(b:Rd W K [a] x0)(d:Gl 0 W K)(Y:Vm.zjY x0=some r):Q1 12 [a] W [] fun W' v=>v=vB r:=
 (c12 (b.view _) (d.view _) Y).ad (fk 0) fun _ _ e=>e
end Go.Sx
