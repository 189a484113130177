/- Walks: each function answers as its model, printed by a program of ours. Conditions: the arguments read as they are given. -/
import Derived.Test.YtpijdodljeieaaaGreatDoorATs
import Derived.Test.YtpijdodljeieaaaGreatDoorAM14
import Derived.Test.YtpijdodljeieaaaGreatDoorAW0
import Derived.Test.YtpijdodljeieaaaGreatDoorAW12
import Derived.Test.YtpijdodljeieaaaGreatDoorAW16
import Derived.Test.YtpijdodljeieaaaGreatDoorAW2
import Derived.Test.YtpijdodljeieaaaGreatDoorAW5
import Derived.Test.YtpijdodljeieaaaGreatDoorAW6
import Derived.Test.YtpijdodljeieaaaGreatDoorAW7
import Derived.Test.YtpijdodljeieaaaGreatDoorAW9
namespace Go.Sx
open Go Go.Proofs Go.Vm Rp
set_option linter.unusedVariables false
set_option linter.unusedSimpArgs false
variable {W W0:CW}{K:List Nat}
theorem c46 {x0 z r}(h0:Rd W0 [0] [z] x0)(Y:Vm.zgm x0=some r):Q0 46 [z] W0 fun Wf v=> ∃ P Q,v = .tuple [.agg [P,Q].toArray,vS r.2.1,vI r.2.2].toArray/\OwS Wf [31] [] [P] r.1.Commits/\OwS Wf [32] [] [Q] r.1.Heads:=by
 unfold Vm.zgm at Y
 refine zaO.of Tryz.func46 O O O O (sr (al 2 [.slice none 0 0, .slice none 0 0] fun g1 W1 l1 b1=>?_))
 have S:=l1.o
 refine Gs O (Ni O (sr (mv z O (cr Y (fun _=>p75 (k0:=3) (h0.ul S)) ?_))))
 rintro A _ W6 Y U ⟨bc,be,rfl,ai,aj⟩
 have B:=aj.sub (M:=[0]) O
 have a8:=S.n U
 refine Np O (sr (mp O (cr Y (fun _=>p76 (k0:=4) (k1:=5) (c0:=3) (x0:=A) ai B O) ?_)))
 rintro h _ bg Y V ⟨x,y,rfl,X,Z,am⟩
 have C:=V.s
 refine al 6 [.slice none 0 0, .slice none 0 0] fun bh bi a an=>?_
 have D:=a.o
 refine sta an (zah (X.up a).oc (zah (Z.up a).oc za4)) fun bj i aa=>?_
 have E:=i.s
 refine nl (Cw.seq (Cw.draw [3] [(0,1),(1,0),(4,0),(5,1),(2,2),(3,2),(6,2),(7,3),(8,0),(9,0)] mixed (by kernel_rfl) fun ao d=>?_))
 have F:=d.o
 refine Mw.q O O (fun _ c=>R.lda (cs:=[x,y]) ((aa.up d).clcs O c) O O) (Dp O (Dp O (Mw.q O O (fun _ c=>R.lda (cs:=[x,y]) ((aa.up d).clcs O c) O O) (Mw.t O O (T.bsS (α:=Str) (xs:=[([110,101,119]:Str),([109,97,105,110]:Str),([111,108,100]:Str),([]:Str)]) 7 [] (W:=ao) [vS ([110,101,119]:Str),vS ([109,97,105,110]:Str),vS ([111,108,100]:Str),vS ([]:Str)] (Each.cons ((rdS _)) (Each.cons ((rdS _)) (Each.cons ((rdS _)) (Each.cons ((rdS _)) Each.nil)))) O) ?_))))
 rintro bk _ ⟨bl,rfl,f,ap⟩
 have G:=f.o
 refine m0 f fun aq=>?_
 obtain⟨ar,au,Y⟩:=ob Y
 refine Mw.t O O (T.call O (p86 (K:=[0,7]) (c0:=3) (x0:=(Vm.l30Rd.mk A.b h.2)) ((((am.up a).up i).up d).up f) ((B.ul ((((C.trans D).trans E).trans F).trans G)).sub (M:=[0,7]) O) (ap.rd.sub (M:=[0,7]) O) O au)) ?_
 rintro _ _ ⟨bm,rfl,k,⟨rfl,av⟩⟩
 have ac:=k.s
 have H:=((((X.up a).up i).up d).up f).up k
 have I:=((((Z.up a).up i).up d).up f).up k
 refine mc aq k fun aw=>?_
 obtain⟨bn,ax,Y⟩:=ob Y
 refine Mw.t O O (T.call O (p77 (K:=[0,4,5]) (c0:=3) (x0:=(Vm.l30Rd.mk A.b ar.2)) (x1:=(Vm.Repo.mk h.1.Commits h.1.Heads)) av ((B.ul (((((C.trans D).trans E).trans F).trans G).trans ac)).sub (M:=[0,4,5]) O) ((Repo.rd (K:=[4,5]) h.1.Commits h.1.Heads (H.rd.sub (M:=[4,5]) O) (I.rd.sub (M:=[4,5]) O)).sub (M:=[0,4,5]) O) O ax)) ?_
 rintro _ _ ⟨bp,rfl,e,⟨rfl,bq⟩⟩
 have ay:=((((((a8.trans C).trans D).trans E).trans F).trans G).trans ac).t e
 refine mc aw e fun br=>Mw.lu O (T.sta (vs:=[x,y]) ((((((((b1.up U).up V).up a).up i).up d).up f).up k).up e) O O (zah (H.up e).oc (zah (I.up e).oc za4)) O O) ?_
 rintro _ _ ⟨bu,rfl,J,az⟩
 have a0:=ay.t J
 refine Hs O (Hi O (Mw.nil ?_))
 obtain⟨bv,a1,L,a3⟩:=((H.up e).up J).dyeO 31
 have a4:=a0.t L
 obtain⟨bw,a5,N,a6⟩:=(((I.up e).up J).up L).dyeO 32
 have a7:=a4.t N
 cases Y
 rw[<- a5.trans (a1)]
 exact Cw.ret (zxE (zkw.c O ((az.up L).up N) (zkw.t O (zkw.t O zkw.n))) (Res.mk a7 ⟨x,y,O,(a3.up N).s,a6.s⟩))
theorem p46 {x0 d k0 k1 r}(f:Rd W K [d] x0)(Y:Vm.zgm x0=some r):Q1 46 [d] W [] fun W' v=> ∃ a b,v = .tuple [.agg [a,b].toArray,vS r.2.1,vI r.2.2].toArray/\Ow W' k0 [] [a] r.1.Commits/\Ow W' k1 [] [b] r.1.Heads:=
 zaO.adJ (J:=[]) (fun c=>bif Nat.beq c 0 then 0 else bif Nat.beq c 31 then k0 else bif Nat.beq c 32 then k1 else 0) (c46 (f.view _) Y) fun _ _ ⟨a,b,e,h,i⟩=>⟨a,b,e,h.one1.backN O,i.one1.backN O⟩
theorem c47 {x0 f h x1 x2 r}(h0:Rd W0 [0] [f,h] x0)(S:Gl 0 W0 [0])(Y:Vm.zif x0 x1 x2=some r):Q0 47 [.agg [f,h].toArray,vS x1,vI x2] W0 fun Wf v=> ∃ U V,v = .tuple [.agg [U,V].toArray,vB r.2].toArray/\OwS Wf [31] [] [U] r.1.Commits/\OwS Wf [32] [] [V] r.1.Heads:=by
 unfold Vm.zif at Y
 obtain⟨bw,bz,W,a,b⟩:=Repo.split h0
 simp only[List.cons.injEq,and_true,true_and]at W
 obtain⟨rfl,rfl⟩:=W
 refine zaO.of Tryz.func47 O O O O (sr (bo 2 O fun g1 W1 l1 X=>?_))
 have a2:=l1.o
 refine al 3 [.slice none 0 0, .slice none 0 0] fun g3 W3 B Z=>?_
 have i:=a2.n B
 refine Nb O (ssr (la (X.up B) (ca Y (fun _=>p32 (Repo.rd (K:=[0]) x0.Commits x0.Heads (a.ul i) (b.ul i)) (S.ul i)) fun z9 b7 Y k=>?_)))
 have x:=i.n k
 have C:=(X.up B).up k
 refine Lw.r O (R.not O) (nl (cn Y (fun Y=>?_) fun Y=>?_))
 ·refine sr (Lw.r O (R.bd (zs:=[.slice none 0 0, .slice none 0 0]) (cs:=[.slice none 0 0, .slice none 0 0]) [] O O O zhs) (sta (Z.up k) (zah O (zah O za4)) fun b8 aq ar=>?_))
  have au:=x.t aq
  refine Nb O ?_
  cases Y
  exact Cw.ret (zi2 O ar O (Res.mk au ⟨.slice none 0 0, .slice none 0 0,O,(zo3 []).sub O O,(zo3 []).sub O O⟩))
 ·refine sk (ssr (la C (ms O (ca Y (fun _=>p88 (Repo.rd (K:=[0]) x0.Commits x0.Heads (a.ul x) (b.ul x))) fun b9 cb Y y=>?_))))
  have z:=x.n y
  have aa:=(Z.up k).up y
  refine Lw.ge O (nl (cn Y (fun Y=>?_) fun Y=>?_))
  ·refine sr (la (C.up y) (cr Y (fun _=>p90 (k0:=4) (k1:=5) (Repo.rd (K:=[0]) x0.Commits x0.Heads (a.ul z) (b.ul z))) ?_))
   rintro cc _ cd Y ac ⟨av,aw,rfl,ae,af⟩
   have ax:=z.n ac
   refine sta (aa.up ac) (zah ae.oc (zah af.oc za4)) fun ce D ay=>?_
   have az:=ax.t D
   refine Nb O ?_
   obtain⟨cf,a0,E,a1⟩:=(ae.up D).dyeO 31
   have a3:=az.t E
   obtain⟨cg,a5,F,a6⟩:=((af.up D).up E).dyeO 32
   have a7:=a3.t F
   cases Y
   rw[<- a5.trans (a0)]
   exact Cw.ret (zi2 O ((ay.up E).up F) O (Res.mk a7 ⟨av,aw,O,(a1.up F).s,a6.s⟩))
  ·refine sk (Cw.seq (Cw.draw [6,7,8,9] [(0,1),(1,1),(3,0),(4,0),(2,2),(5,2),(6,2),(7,0),(8,0),(9,3),(10,0)] mixed (by kernel_rfl) fun ch G=>?_))
   have H:=z.n G
   have ah:=(C.up y).up G
   refine Mw.q O O (fun _ c=>R.lda (cs:=[f,h]) (ah.clcs O c) O O) (Mw.q O O (fun _ c=>R.lda (cs:=[f,h]) (ah.clcs O c) O O) (Ds O (Di O ?_)))
   obtain⟨ai,a8,Y⟩:=ob Y
   refine Mw.t O O (T.call O (p90 (k0:=6) (k1:=7) (Repo.rd (K:=[0]) x0.Commits x0.Heads (a.ul H) (b.ul H)) a8)) ?_
   rintro _ _ ⟨ci,rfl,I,⟨cj,ck,rfl,a9,ba⟩⟩
   have bb:=H.n I
   refine m0 I fun bc=>?_
   obtain⟨aj,be,Y⟩:=ob Y
   refine Mw.t O O (T.call O (p112 (K:=[0]) (k0:=8) (k1:=9) (c0:=6) (c1:=7) (x0:=(Vm.Repo.mk ai.Commits ai.Heads)) a9 ba O be)) ?_
   rintro _ _ ⟨cl,rfl,J,⟨cm,co,rfl,bg,bh⟩⟩
   have A:=bb.t J
   refine mc bc J fun bi=>?_
   obtain⟨L,bj,Y⟩:=ob Y
   refine Mw.t O O (T.call O (p89 (k0:=10) (k1:=11) (c0:=8) (c1:=9) (x1:=(Vm.Repo.mk aj.Commits aj.Heads)) (Repo.rd (K:=[0]) x0.Commits x0.Heads (a.ul A) (b.ul A)) bg bh (S.ul A) O bj)) ?_
   rintro _ _ ⟨cp,rfl,M,⟨d,e,rfl,ak,am⟩⟩
   have bk:=A.t M
   refine mc bi M fun cq=>Mw.p O O (fun _=>R.ext (vs:=[.agg [d,e].toArray,vB L.2]) (v:= .agg [d,e].toArray) O O) (Mw.p O O (fun _=>R.ext (vs:=[.agg [d,e].toArray,vB L.2]) (v:=vB L.2) O O) (Mw.lu O (T.sta (vs:=[d,e]) ((((aa.up G).up I).up J).up M) O O (zah ak.oc (zah am.oc za4)) O O) ?_))
   rintro _ _ ⟨ct,rfl,N,bl⟩
   have bm:=bk.t N
   refine Hb O (Mw.nil ?_)
   obtain⟨cu,bn,P,bp⟩:=(ak.up N).dyeO 31
   have bq:=bm.t P
   obtain⟨cv,br,Q,bu⟩:=((am.up N).up P).dyeO 32
   have bv:=bq.t Q
   cases Y
   rw[<- br.trans (bn)]
   exact Cw.ret (zi2 O ((bl.up P).up Q) O (Res.mk bv ⟨d,e,O,(bp.up Q).s,bu.s⟩))
theorem p47 {x0 d f x1 x2 k0 k1 r}(h:Rd W K [d,f] x0)(i:Gl 0 W K)(Y:Vm.zif x0 x1 x2=some r):Q1 47 [.agg [d,f].toArray,vS x1,vI x2] W [] fun W' v=> ∃ a b,v = .tuple [.agg [a,b].toArray,vB r.2].toArray/\Ow W' k0 [] [a] r.1.Commits/\Ow W' k1 [] [b] r.1.Heads:=
 zaO.adJ (J:=[]) (fun c=>bif Nat.beq c 0 then 0 else bif Nat.beq c 31 then k0 else bif Nat.beq c 32 then k1 else 0) (c47 (h.view _) (i.view _) Y) fun _ _ ⟨a,b,e,k,x⟩=>⟨a,b,e,k.one1.backN O,x.one1.backN O⟩
theorem c9 {x0 U r}(h0:Rd W0 [0] [U] x0)(F:Gl 0 W0 [0])(Y:Vm.zh0 x0=some r):Q0 9 [U] W0 fun Wf v=>v=vB r:=by
 unfold Vm.zh0 at Y
 refine zaO.of Tryz.func9 O O O O (sr (Nb O (ssr (mv U O (Lw.ln x0 h0 O (Lw.gt O (nl (cn Y (fun Y=>?_) fun Y=>?_))))))))
 ·exact sr (Nb O (.ret (rt Y (Le.refl _ _))))
 ·refine sk (sr (mv U O (cr Y (fun _=>p46 (k0:=2) (k1:=3) h0) ?_)))
  rintro a _ W4 Y l4 ⟨G,H,rfl,az,a0⟩
  have a5:=l4.o
  refine mv (.tuple [.agg [G,H].toArray,vS a.2.1,vI a.2.2].toArray) O (Lw.r O (R.ext (vs:=[.agg [G,H].toArray,vS a.2.1,vI a.2.2]) (v:= .agg [G,H].toArray) O O) (Lw.r O (R.ext (vs:=[.agg [G,H].toArray,vS a.2.1,vI a.2.2]) (v:=vS a.2.1) O O) (Lw.r O (R.ext (vs:=[.agg [G,H].toArray,vS a.2.1,vI a.2.2]) (v:=vI a.2.2) O O) (al 4 [.slice none 0 0, .slice none 0 0] fun g6 W6 I b6=>?_))))
  have a7:=a5.n I
  refine sta b6 (zah (az.up I).oc (zah (a0.up I).oc za4)) fun df l10 a1=>?_
  have a2:=a7.t l10
  have a3:=(az.up I).up l10
  have a4:=(a0.up I).up l10
  refine Gs O (Ni O (sr (la a1 (ms O (mi O (cr Y (fun _=>p47 (K:=[0,2,3]) (k0:=5) (k1:=6) (x0:=(Vm.Repo.mk a.1.Commits a.1.Heads)) ((Repo.rd (K:=[2,3]) a.1.Commits a.1.Heads (a3.rd.sub (M:=[2,3]) O) (a4.rd.sub (M:=[2,3]) O)).sub (M:=[0,2,3]) O) ((F.ul a2).sub (M:=[0,2,3]) O)) ?_))))))
  rintro b _ dg Y V ⟨W,X,rfl,a6,a8⟩
  have bz:=a2.n V
  refine mv (.tuple [.agg [W,X].toArray,vB b.2].toArray) O (Lw.r O (R.ext (vs:=[.agg [W,X].toArray,vB b.2]) (v:= .agg [W,X].toArray) O O) (Lw.r O (R.ext (vs:=[.agg [W,X].toArray,vB b.2]) (v:=vB b.2) O O) (al 7 [.slice none 0 0, .slice none 0 0] fun dh di y b0=>?_)))
  have b1:=bz.n y
  refine sta b0 (zah (a6.up y).oc (zah (a8.up y).oc za4)) fun dj D b2=>?_
  have b3:=b1.t D
  have a9:=((a3.up V).up y).up D
  have ba:=((a4.up V).up y).up D
  have bb:=((a1.up V).up y).up D
  refine Nb O (sr (la bb (ms O (mi O (cr Y (fun _=>p48 (K:=[2,3]) (x0:=(Vm.Repo.mk a.1.Commits a.1.Heads)) (Repo.rd (K:=[2,3]) a.1.Commits a.1.Heads (a9.rd.sub (M:=[2,3]) O) (ba.rd.sub (M:=[2,3]) O))) ?_)))))
  rintro z _ dk Y B ⟨Z,aa,rfl,b4,b5⟩
  have ak:=b4.sub (M:=[0,2,3]) O
  have am:=b5.sub (M:=[0,2,3]) O
  have b7:=b3.n B
  refine mv (.tuple [.agg [Z,aa].toArray,vB z.2].toArray) O (Lw.r O (R.ext (vs:=[.agg [Z,aa].toArray,vB z.2]) (v:= .agg [Z,aa].toArray) O O) (Lw.r O (R.ext (vs:=[.agg [Z,aa].toArray,vB z.2]) (v:=vB z.2) O O) (al 8 [.slice none 0 0, .slice none 0 0] fun dl dm f b8=>?_)))
  have b9:=b7.n f
  refine sta b8 (zah ak.oc (zah am.oc za4)) fun bc h be=>?_
  have bg:=b9.t h
  have an:=((a9.up B).up f).up h
  have ao:=((ba.up B).up f).up h
  have bh:=((((a6.up y).up D).up B).up f).up h
  have bi:=((((a8.up y).up D).up B).up f).up h
  have ap:=((bb.up B).up f).up h
  have bj:=((b2.up B).up f).up h
  refine Nb O (Cw.seq ?_)
  obtain⟨cb,cc,Y⟩:=zdC Y
  refine Cw.join 35 48 [48] (fun l w=> ∃ aq J,CW.w J=w/\Le [] bc J/\l=[vB aq]/\cb aq=some r) ?_ ?_
  ·rintro _ _ σ ⟨aq,J,rfl,e,rfl,Y⟩
   rw[cc]at Y
   have ac:=bg.n e
   have ae:=bh.up e
   have af:=bi.up e
   have ah:=bj.up e
   refine cn Y (fun Y=>?_) fun Y=>?_
   ·obtain⟨cd,ce,Y⟩:=zdC Y
    refine Cw.join 49 56 [2] (fun l w=> ∃ ar au,CW.w au=w/\Le [] J au/\l=[vB ar]/\cd ar=some r) ?_ ?_
    ·rintro _ _ σ ⟨ar,au,rfl,cf,rfl,Y⟩
     rw[ce]at Y
     have cg:=ac.n cf
     exact .ret (rt Y cg)
    ·refine rg (mb O (mb O (Lw.r O (R.beq O O) (mb O (bs Y (fun L Y=>?_) fun L Y=>?_)))))
     ·refine wak 3 L (la ah (la (be.up e) ?_))
      have ch:=ak.up ((f.sub (M:=[8]) O).trans ((h.sub (M:=[8]) O).trans (e.sub (M:=[8]) O))) O
      have ci:=am.up ((f.sub (M:=[8]) O).trans ((h.sub (M:=[8]) O).trans (e.sub (M:=[8]) O))) O
      exact ca Y (fun _=>p31 (K:=[0,2,3,5,6]) (x0:=(Vm.Repo.mk b.1.Commits b.1.Heads)) ((Repo.rd (K:=[5,6]) b.1.Commits b.1.Heads (ae.rd.sub (M:=[5,6]) O) (af.rd.sub (M:=[5,6]) O)).sub (M:=[0,2,3,5,6]) O) ((Repo.rd (K:=[0,2,3]) z.1.Commits z.1.Heads ch ci).sub (M:=[0,2,3,5,6]) O)) fun cj ck Y cl=>Pb L O (Nb O ((ag) ⟨cj,ck,O,cl,O,Y⟩))
     ·exact psk 3 L O (Pb L O (Nb O ((ag) ⟨false,J,O,Le.refl _ _,O,Y⟩)))
   ·refine sk (ssr (mb O (Lw.r O (R.not O) (nl (cn Y (fun Y=>?_) fun Y=>?_)))))
    ·refine sr (la ah (la (ap.up e) (ca Y (fun _=>p31 (K:=[2,3,5,6]) (x0:=(Vm.Repo.mk b.1.Commits b.1.Heads)) (x1:=(Vm.Repo.mk a.1.Commits a.1.Heads)) ((Repo.rd (K:=[5,6]) b.1.Commits b.1.Heads (ae.rd.sub (M:=[5,6]) O) (af.rd.sub (M:=[5,6]) O)).sub (M:=[2,3,5,6]) O) ((Repo.rd (K:=[2,3]) a.1.Commits a.1.Heads ((an.up e).rd.sub (M:=[2,3]) O) ((ao.up e).rd.sub (M:=[2,3]) O)).sub (M:=[2,3,5,6]) O)) fun dn dp Y cm=>?_)))
     have co:=ac.n cm
     exact Nb O (.ret (rt Y co))
    ·refine sk (sr (la ah (ms O (cr Y (fun _=>p49 (K:=[0,5,6]) (k0:=9) (k1:=10) (x0:=(Vm.Repo.mk b.1.Commits b.1.Heads)) ((Repo.rd (K:=[5,6]) b.1.Commits b.1.Heads (ae.rd.sub (M:=[5,6]) O) (af.rd.sub (M:=[5,6]) O)).sub (M:=[0,5,6]) O) ((F.ul ac).sub (M:=[0,5,6]) O)) ?_))))
     rintro A _ dq Y C ⟨ai,aj,rfl,bk,bl⟩
     have cp:=ac.n C
     refine mv (.tuple [.agg [ai,aj].toArray,vB A.2].toArray) O (Lw.r O (R.ext (vs:=[.agg [ai,aj].toArray,vB A.2]) (v:= .agg [ai,aj].toArray) O O) (Lw.r O (R.ext (vs:=[.agg [ai,aj].toArray,vB A.2]) (v:=vB A.2) O O) (al 11 [.slice none 0 0, .slice none 0 0] fun dr ds i cq=>?_)))
     have cs:=cp.n i
     refine sta cq (zah (bk.up i).oc (zah (bl.up i).oc za4)) fun ct k cu=>?_
     have av:=cs.t k
     have bm:=((ae.up C).up i).up k
     have bn:=((af.up C).up i).up k
     have bp:=((ah.up C).up i).up k
     refine Nb O ?_
     obtain⟨cv,cw,Y⟩:=zdC Y
     refine Cw.join 68 84 [2] (fun l w=> ∃ aw ax,CW.w ax=w/\Le [] ct ax/\l=[vB aw]/\cv aw=some r) ?_ ?_
     ·rintro _ _ σ ⟨aw,ax,rfl,cx,rfl,Y⟩
      rw[cw]at Y
      have cy:=av.n cx
      exact .ret (rt Y cy)
     ·refine rg (la bp (ca Y (fun _=>p32 (K:=[0,5,6]) (x0:=(Vm.Repo.mk b.1.Commits b.1.Heads)) ((Repo.rd (K:=[5,6]) b.1.Commits b.1.Heads (bm.rd.sub (M:=[5,6]) O) (bn.rd.sub (M:=[5,6]) O)).sub (M:=[0,5,6]) O) ((F.ul av).sub (M:=[0,5,6]) O)) fun dt cz Y d=>?_))
      have c0:=av.n d
      refine mb O (bs Y (fun N Y=>?_) fun N Y=>?_)
      ·refine wak 5 N (la (bp.up d) (ms O (ca Y (fun _=>p34 (K:=[0,5,6]) (x0:=(Vm.Repo.mk b.1.Commits b.1.Heads)) ((Repo.rd (K:=[5,6]) b.1.Commits b.1.Heads ((bm.up d).rd.sub (M:=[5,6]) O) ((bn.up d).rd.sub (M:=[5,6]) O)).sub (M:=[0,5,6]) O) ((F.ul c0).sub (M:=[0,5,6]) O)) fun du bq Y x=>mi O (Lw.eq O (Pb N O (mb O (bs Y (fun P Y=>?_) fun P Y=>?_)))))))
       ·refine wak 1 P (mb O (Pb P O (mb O (bs Y (fun Q Y=>?_) fun Q Y=>?_))))
        ·exact wak 3 Q (la ((cu.up d).up x) (la ((((((ap.up e).up C).up i).up k).up d).up x) (ca Y (fun _=>p31 (K:=[2,3,9,10]) (x0:=(Vm.Repo.mk A.1.Commits A.1.Heads)) (x1:=(Vm.Repo.mk a.1.Commits a.1.Heads)) ((Repo.rd (K:=[9,10]) A.1.Commits A.1.Heads (((((bk.up i).up k).up d).up x).rd.sub (M:=[9,10]) O) (((((bl.up i).up k).up d).up x).rd.sub (M:=[9,10]) O)).sub (M:=[2,3,9,10]) O) ((Repo.rd (K:=[2,3]) a.1.Commits a.1.Heads (((((((an.up e).up C).up i).up k).up d).up x).rd.sub (M:=[2,3]) O) (((((((ao.up e).up C).up i).up k).up d).up x).rd.sub (M:=[2,3]) O)).sub (M:=[2,3,9,10]) O)) fun c1 c2 Y c3=>Pb Q O (Nb O ((ag) ⟨c1,c2,O,((d.j x).j c3).w,O,Y⟩)))))
        ·exact psk 3 Q O (Pb Q O (Nb O ((ag) ⟨false,bq,O,(d.j x).w,O,Y⟩)))
       ·exact psk 1 P O (Pb P O (mb O (psk 3 O O (Pb O O (Nb O ((ag) ⟨false,bq,O,(d.j x).w,O,Y⟩))))))
      ·exact psk 5 N O (Pb N O (mb O (psk 1 O O (Pb O O (mb O (psk 3 O O (Pb O O (Nb O ((ag) ⟨false,cz,O,d,O,Y⟩)))))))))
  ·refine rg (mb O (mb O (Lw.r O (R.bne O O) (mb O (bs Y (fun S Y=>?_) fun S Y=>?_)))))
   ·exact psk 4 S O (Pb S O (mb O (psk 3 O O (Pb O O (nl ((ag) ⟨true,bc,O,Le.refl _ _,O,Y⟩))))))
   ·refine wak 4 S (la bj (la be ?_))
    have c4:=ak.up ((f.sub (M:=[8]) O).trans (h.sub (M:=[8]) O)) O
    have c5:=am.up ((f.sub (M:=[8]) O).trans (h.sub (M:=[8]) O)) O
    refine ca Y (fun _=>p31 (K:=[0,2,3,5,6]) (x0:=(Vm.Repo.mk b.1.Commits b.1.Heads)) ((Repo.rd (K:=[5,6]) b.1.Commits b.1.Heads (bh.rd.sub (M:=[5,6]) O) (bi.rd.sub (M:=[5,6]) O)).sub (M:=[0,2,3,5,6]) O) ((Repo.rd (K:=[0,2,3]) z.1.Commits z.1.Heads c4 c5).sub (M:=[0,2,3,5,6]) O)) fun dv c6 Y E=>?_
    have c7:=bg.n E
    refine Lw.r O (R.not O) (Pb S O (mb O (bs Y (fun T Y=>?_) fun T Y=>?_)))
    ·exact psk 3 T O (Pb T O (nl ((ag) ⟨true,c6,O,E,O,Y⟩)))
    ·exact wak 3 T (la (ap.up E) (ca Y (fun _=>p32 (K:=[0,2,3]) (x0:=(Vm.Repo.mk a.1.Commits a.1.Heads)) ((Repo.rd (K:=[2,3]) a.1.Commits a.1.Heads ((an.up E).rd.sub (M:=[2,3]) O) ((ao.up E).rd.sub (M:=[2,3]) O)).sub (M:=[0,2,3]) O) ((F.ul c7).sub (M:=[0,2,3]) O)) fun c8 da Y db=>Lw.r O (R.not O) (Pb T O (nl ((ag) ⟨(!c8),da,O,(E.j db).w,O,Y⟩)))))
theorem p9 {x0 a r}(b:Rd W K [a] x0)(d:Gl 0 W K)(Y:Vm.zh0 x0=some r):Q1 9 [a] W [] fun W' v=>v=vB r:=
 (c9 (b.view _) (d.view _) Y).ad (fk 0) fun _ _ e=>e
end Go.Sx
