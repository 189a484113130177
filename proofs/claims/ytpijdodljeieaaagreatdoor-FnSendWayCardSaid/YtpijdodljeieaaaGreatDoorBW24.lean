/- Walks: each function answers as its model, printed by a program of ours. Conditions: the arguments read as they are given. -/
import Derived.Test.YtpijdodljeieaaaGreatDoorBTs
import Derived.Test.YtpijdodljeieaaaGreatDoorBM17
import Derived.Test.YtpijdodljeieaaaGreatDoorBW0
import Derived.Test.YtpijdodljeieaaaGreatDoorBW1
import Derived.Test.YtpijdodljeieaaaGreatDoorBW10
import Derived.Test.YtpijdodljeieaaaGreatDoorBW12
import Derived.Test.YtpijdodljeieaaaGreatDoorBW13
import Derived.Test.YtpijdodljeieaaaGreatDoorBW15
import Derived.Test.YtpijdodljeieaaaGreatDoorBW16
import Derived.Test.YtpijdodljeieaaaGreatDoorBW3
import Derived.Test.YtpijdodljeieaaaGreatDoorBW6
import Derived.Test.YtpijdodljeieaaaGreatDoorBW7
import Derived.Test.YtpijdodljeieaaaGreatDoorBW9
namespace Go.Sx
open Go Go.Proofs Go.Vm Rp
set_option linter.unusedVariables false
set_option linter.unusedSimpArgs false
variable {W W0:CW}{K:List Nat}
theorem c62 {x0 y r}(h0:Rd W0 [0] [y] x0)(Y:Vm.zjt x0=some r):Q0 62 [y] W0 fun Wf v=> ∃ J L,v = .tuple [.agg [J,L].toArray,vI r.2.1,vI r.2.2].toArray/\OwS Wf [31] [] [J] r.1.Commits/\OwS Wf [32] [] [L] r.1.Heads:=by
 unfold Vm.zjt at Y
 refine zaT.of Tryz.func62 O O O O (sr (al 2 [.slice none 0 0, .slice none 0 0] fun g1 W1 l1 b1=>?_))
 have N:=l1.o
 refine Gi O (Ni O (sr (mv y O (cr Y (fun _=>p75 (k0:=3) (h0.ul N)) ?_))))
 rintro z _ W6 Y P ⟨a6,a7,rfl,ai,aj⟩
 have A:=aj.sub (M:=[0]) O
 have a8:=N.n P
 refine Np O (sr (mp O (cr Y (fun _=>p76 (k0:=4) (k1:=5) (c0:=3) (x0:=z) ai A O) ?_)))
 rintro a _ a9 Y Q ⟨k,x,rfl,S,U,am⟩
 have B:=Q.s
 refine al 6 [.slice none 0 0, .slice none 0 0] fun ba bb d an=>?_
 have C:=d.o
 refine sta an (zaf (S.up d).oc (zaf (U.up d).oc zaW)) fun bc h V=>?_
 have D:=h.s
 have W:=(S.up d).up h
 have X:=(U.up d).up h
 refine nl (sr (mp O (la V (cr Y (fun _=>p77 (K:=[0,4,5]) (c0:=3) (x0:=(Vm.l30Rd.mk z.b a.2)) (x1:=(Vm.Repo.mk a.1.Commits a.1.Heads)) ((am.up d).up h) ((A.ul ((B.trans C).trans D)).sub (M:=[0,4,5]) O) ((Repo.rd (K:=[4,5]) a.1.Commits a.1.Heads (W.rd.sub (M:=[4,5]) O) (X.rd.sub (M:=[4,5]) O)).sub (M:=[0,4,5]) O) O) ?_))))
 rintro ao _ be Y i ⟨rfl,ap⟩
 have Z:=i.s
 refine Ni O (Cw.seq (Cw.draw [3] [(0,1),(1,0),(2,0),(3,1),(4,2),(5,3),(6,0),(7,0)] mixed (by kernel_rfl) fun bg f=>?_))
 have aa:=f.o
 have E:=(W.up i).up f
 have F:=(X.up i).up f
 have ac:=(V.up i).up f
 refine Mw.q O O (fun _ c=>R.lda (cs:=[k,x]) (ac.clcs O c) O O) (Di O (Dp O (Mw.q O O (fun _ c=>R.lda (cs:=[k,x]) (ac.clcs O c) O O) ?_)))
 obtain⟨bh,aq,Y⟩:=ob Y
 refine Mw.t O O (T.call O (p77 (K:=[0,4,5]) (c0:=3) (x0:=(Vm.l30Rd.mk z.b ao.2)) (x1:=(Vm.Repo.mk a.1.Commits a.1.Heads)) (ap.up f) ((A.ul ((((B.trans C).trans D).trans Z).trans aa)).sub (M:=[0,4,5]) O) ((Repo.rd (K:=[4,5]) a.1.Commits a.1.Heads (E.rd.sub (M:=[4,5]) O) (F.rd.sub (M:=[4,5]) O)).sub (M:=[0,4,5]) O) O aq)) ?_
 rintro _ _ ⟨bi,rfl,e,⟨rfl,bj⟩⟩
 have ar:=(((((a8.trans B).trans C).trans D).trans Z).trans aa).t e
 refine m0 e fun bk=>Mw.lu O (T.sta (vs:=[k,x]) (((((((b1.up P).up Q).up d).up h).up i).up f).up e) O O (zaf (E.up e).oc (zaf (F.up e).oc zaW)) O O) ?_
 rintro _ _ ⟨bl,rfl,G,au⟩
 have av:=ar.t G
 refine Hi O (Hi O (Mw.nil ?_))
 obtain⟨bm,aw,H,ax⟩:=((E.up e).up G).dyeO 31
 have ay:=av.t H
 obtain⟨bn,az,I,a0⟩:=(((F.up e).up G).up H).dyeO 32
 have a1:=ay.t I
 cases Y
 rw[<- az.trans (aw)]
 exact Cw.ret (zx3 (zlR.c O ((au.up H).up I) (zlR.t O (zlR.t O zlR.n))) (Res.mk a1 ⟨k,x,O,(ax.up I).s,a0.s⟩))
theorem p62 {x0 d k0 k1 r}(f:Rd W K [d] x0)(Y:Vm.zjt x0=some r):Q1 62 [d] W [] fun W' v=> ∃ a b,v = .tuple [.agg [a,b].toArray,vI r.2.1,vI r.2.2].toArray/\Ow W' k0 [] [a] r.1.Commits/\Ow W' k1 [] [b] r.1.Heads:=
 zaT.adJ (J:=[]) (fun c=>bif Nat.beq c 0 then 0 else bif Nat.beq c 31 then k0 else bif Nat.beq c 32 then k1 else 0) (c62 (f.view _) Y) fun _ _ ⟨a,b,e,h,i⟩=>⟨a,b,e,h.one1.backN O,i.one1.backN O⟩
theorem c63 {x0 x y x1 r}(E:Rd W0 [0] [x,y] x0)(Y:Vm.zlm x0 x1=some r):Q0 63 [.agg [x,y].toArray,vI x1] W0 fun Wf v=> ∃ z,v=z/\OwS Wf LL [] [z] r:=by
 unfold Vm.zlm at Y
 obtain⟨U,V,A,f,B⟩:=Repo.split E
 simp only[List.cons.injEq,and_true,true_and]at A
 obtain⟨rfl,rfl⟩:=A
 refine zaT.of Tryz.func63 O O O O (sr (bo 2 O fun W F G h=>?_))
 have b:=G.o
 refine Nv (.slice none 0 0) O (Cw.seq ?_)
 obtain⟨H,I,Y⟩:=zc4 Y
 refine Cw.join 5 16 [16] (fun l w=> ∃ i k,CW.w k=w/\Le [] F k/\l=[vB i]/\H i=some r) ?_ ?_
 ·rintro _ _ σ ⟨i,k,rfl,C,rfl,Y⟩
  rw[I]at Y
  have d:=b.n C
  refine cn Y (fun Y=>?_) fun Y=>?_
  ·refine sr (Nv (.slice none 0 0) O ?_)
   cases Y
   exact Cw.ret (zmk O (Res.mk d ⟨.slice none 0 0,O,(zp1 []).sub O O⟩))
  ·refine sk (sr (la (h.up C) (mi O (cr Y (fun _=>p109 (k0:=3) (Repo.rd (K:=[0]) x0.Commits x0.Heads (f.ul d) (B.ul d))) ?_))))
   rintro X D Z Y J ⟨_,rfl,L⟩
   have M:=d.n J
   refine Nv D O ?_
   cases Y
   exact Cw.ret (zmk O (Res.mk M ⟨D,O,L.s.sub O O⟩))
 ·refine rg (la h (ca Y (fun _=>p80 (Repo.rd (K:=[0]) x0.Commits x0.Heads (f.ul b) (B.ul b))) fun aa N Y e=>?_))
  have P:=b.n e
  refine Lw.r O (R.not O) (mb O (bs Y (fun a Y=>?_) fun a Y=>?_))
  ·exact psk 7 a O (Pb a O (nl ((ag) ⟨true,N,O,e,O,Y⟩)))
  ·exact wak 7 a (mi O (fl (h.up e) O (Lw.ln x0.Commits (f.ul P) O (Lw.sub O (ca Y (fun _=>p67) fun Q S Y T=>Lw.r O (R.not O) (Pb a O (nl ((ag) ⟨(!Q),S,O,(e.j T).w,O,Y⟩))))))))
theorem p63 {x0 b d x1 k0 r}(f:Rd W K [b,d] x0)(Y:Vm.zlm x0 x1=some r):Q1 63 [.agg [b,d].toArray,vI x1] W [] fun W' v=> ∃ a,v=a/\Ow W' k0 [] [a] r:=
 (c63 (f.view _) Y).ad (fk k0) fun _ _ ⟨a,e,h⟩=>⟨a,e,h.back (zlS _)⟩
theorem c13 {x0 az r}(h0:Rd W0 [0] [az] x0)(k:Gl 0 W0 [0])(Y:Vm.zkx x0=some r):Q0 13 [az] W0 fun Wf v=>v=vB r:=by
 unfold Vm.zkx at Y
 refine zaT.of Tryz.func13 O O O O (sr (Nb O (ssr (mv az O (Lw.ln x0 h0 O (Lw.gt O (nl (cn Y (fun Y=>?_) fun Y=>?_))))))))
 ·exact sr (Nb O (.ret (rt Y (Le.refl _ _))))
 ·refine sk (sr (mv az O (cr Y (fun _=>p62 (k0:=2) (k1:=3) h0) ?_)))
  rintro a _ W4 Y l4 ⟨C,ac,rfl,b1,b2⟩
  have a5:=l4.o
  refine mv (.tuple [.agg [C,ac].toArray,vI a.2.1,vI a.2.2].toArray) O (Lw.r O (R.ext (vs:=[.agg [C,ac].toArray,vI a.2.1,vI a.2.2]) (v:= .agg [C,ac].toArray) O O) (Lw.r O (R.ext (vs:=[.agg [C,ac].toArray,vI a.2.1,vI a.2.2]) (v:=vI a.2.1) O O) (Lw.r O (R.ext (vs:=[.agg [C,ac].toArray,vI a.2.1,vI a.2.2]) (v:=vI a.2.2) O O) (al 4 [.slice none 0 0, .slice none 0 0] fun g6 W6 l6 b6=>?_))))
  have a7:=a5.n l6
  refine sta b6 (zaf (b1.up l6).oc (zaf (b2.up l6).oc zaW)) fun e9 l10 b3=>?_
  have b4:=a7.t l10
  have b5:=(b1.up l6).up l10
  have a9:=(b2.up l6).up l10
  refine Gi O (Ni O (sr (la b3 (mi O (cr Y (fun _=>p41 (K:=[0,2,3]) (k0:=5) (x0:=(Vm.Repo.mk a.1.Commits a.1.Heads)) ((Repo.rd (K:=[2,3]) a.1.Commits a.1.Heads (b5.rd.sub (M:=[2,3]) O) (a9.rd.sub (M:=[2,3]) O)).sub (M:=[0,2,3]) O) ((k.ul b4).sub (M:=[0,2,3]) O)) ?_)))))
  rintro ba ae df Y am ⟨_,rfl,a0⟩
  have dg:=b4.n am
  have a1:=b5.up am
  have bb:=b3.up am
  refine Nv ae O (Cw.seq ?_)
  obtain⟨dh,di,Y⟩:=zc4 Y
  refine Cw.join 29 50 [50] (fun l w=> ∃ bc be,CW.w be=w/\Le [] df be/\l=[vB bc]/\dh bc=some r) ?_ ?_
  ·rintro _ _ σ ⟨bc,be,rfl,Q,rfl,Y⟩
   rw[di]at Y
   have b7:=dg.n Q
   have b8:=(a9.up am).up Q
   have bg:=bb.up Q
   refine cn Y (fun Y=>?_) fun Y=>?_
   ·refine sr (mv ae O (la bg (mi O (cr Y (fun _=>p63 (K:=[2,3]) (k0:=6) (x0:=(Vm.Repo.mk a.1.Commits a.1.Heads)) (Repo.rd (K:=[2,3]) a.1.Commits a.1.Heads ((a1.up Q).rd.sub (M:=[2,3]) O) (b8.rd.sub (M:=[2,3]) O))) ?_))))
    rintro fb fc fd Y b9 ⟨_,rfl,dj⟩
    have dk:=b7.n b9
    refine ca Y (fun _=>p17 (K:=[5,6]) (((a0.up Q).up b9).rd.sub (M:=[5,6]) O) (dj.rd.sub (M:=[5,6]) O)) fun fe ff Y dl=>?_
    have dm:=dk.n dl
    exact Nb O (.ret (rt Y dm))
   ·refine sk (sr (fl bg O (mi O (Lw.r O (R.bd (zs:=[vS ([]:Str),vI 0]) (cs:=[vS ([120]:Str),vI a.2.1]) [(0,vS ([120]:Str)),(1,vI a.2.1)] O O O (zcK O O (zcK O O zg2))) (Lw.t O (T.bsO (α:=Head) (J:=[]) (xs:=[Vm.Head.mk ([120]:Str) a.2.1]) 7 [.agg [vS ([120]:Str),vI a.2.1].toArray] (bsL [[vS ([120]:Str),vI a.2.1]] (zAz O zAy) (OwL.cons (x:=(Vm.Head.mk ([120]:Str) a.2.1)) (OwS.atm (K:=[]) (Head.rd (K:=[]) ([120]:Str) a.2.1)) OwL.nil)) O) ?_)))))
    rintro cb _ ⟨fg,rfl,an,bh⟩
    have dn:=b7.n an
    have bi:=(a1.up Q).up an
    refine Lw.r O (R.bd (zs:=[.slice none 0 0, .slice none 0 0]) (cs:=[C,cb]) [(0,C),(1,cb)] O O O (zcK bi.oc O (zcK bh.oc O zg2))) (al 8 [.slice none 0 0, .slice none 0 0] fun fh fi D dp=>?_)
    have dq:=dn.n D
    refine sta dp (zaf (bi.up D).oc (zaf (bh.up D).oc zaW)) fun fj af dr=>?_
    have cc:=dq.t af
    have cd:=(bi.up D).up af
    refine nl (sr (la dr (cr Y (fun _=>p39 (K:=[0,2,7]) (k0:=9) (k1:=10) (x0:=(Vm.Repo.mk a.1.Commits ([Vm.Head.mk ([120]:Str) a.2.1]:List Head))) ((Repo.rd (K:=[2,7]) a.1.Commits ([Vm.Head.mk ([120]:Str) a.2.1]:List Head) (cd.rd.sub (M:=[2,7]) O) (((bh.up D).up af).rd.sub (M:=[2,7]) O)).sub (M:=[0,2,7]) O) ((k.ul cc).sub (M:=[0,2,7]) O)) ?_)))
    rintro ah _ fm Y ao ⟨fn,fo,rfl,ce,cf⟩
    have ds:=cc.n ao
    refine al 11 [.slice none 0 0, .slice none 0 0] fun fp fq y dt=>?_
    have du:=ds.n y
    refine sta dt (zaf (ce.up y).oc (zaf (cf.up y).oc zaW)) fun fr S dv=>?_
    have dw:=du.t S
    refine nl (sr (Lw.t O (T.lit0 (α:=Int) 12 []) ?_))
    rintro cg _ ⟨ch,rfl,E,dx⟩
    have dy:=dw.n E
    refine Nv cg O (ssr (Ni O (Cw.block ?_)))
    obtain⟨dz,d0,Y⟩:=zc4 Y
    refine Cw.loop 65 74 [9,10] (fun m l w=> ∃ bj ai ap a2,CW.w a2=w/\Le [12] ch a2/\l=[ap,vI ai]/\Ow a2 12 [] [ap] bj/\Vm.zgx ba dz m bj ai=some r) _ ⟨([]:List Int),0,cg,ch,O,Le.refl _ _,O,dx,Y⟩ ?_
    rintro(_ |fs) _ _ σ ⟨bj,ai,ap,a2,rfl,z,rfl,ci,Y⟩
    ·cases Y
    unfold Vm.zgx at Y
    have cj:=dy.t z
    have ck:=((((cd.up ao).up y).up S).up E).up z
    have cl:=(((((((b8.up an).up D).up af).up ao).up y).up S).up E).up z
    have cm:=((((((((a0.up Q).up an).up D).up af).up ao).up y).up S).up E).up z
    have co:=(((((((bg.up an).up D).up af).up ao).up y).up S).up E).up z
    refine ssr (mi O (mv ae O (Lw.ln ba cm.rd O (Lw.lt O (nl (cn Y (fun Y=>?_) fun Y=>?_))))))
    ·refine sk (Cw.seq (Cw.block (rg (mv ap O (mi O (Lw.t O (T.bs 13 [vI ai] (cs:=[vI ai]) O O (bsv O)) ?_))))))
     rintro _ _ ⟨ft,fu,rfl,rfl,cp,d1⟩
     obtain⟨d2,d3,Y⟩:=ob Y
     refine Lw.t O (T.app1S (α:=Int) (K':=[]) (ci.up cp) d1 (rdI _) O O d3) ?_
     rintro cq _ ⟨d4,rfl,d5,d6⟩
     exact Nv cq O (rg (mi O (Lw.add O (Ni O ((agm) ⟨d2,w64 (ai+1),cq,d4,O,((z.j cp).j d5).w,O,d6,Y⟩)))))
    ·refine Cw.exit ?_
     rw[d0]at Y
     refine sr (la co (mv ae O (mi O (cr Y (fun _=>p53 (K:=[0,2,3,5]) (k0:=14) (x0:=(Vm.Repo.mk a.1.Commits a.1.Heads)) ((Repo.rd (K:=[2,3]) a.1.Commits a.1.Heads (ck.rd.sub (M:=[2,3]) O) (cl.rd.sub (M:=[2,3]) O)).sub (M:=[0,2,3,5]) O) (cm.rd.sub (M:=[0,2,3,5]) O) ((k.ul cj).sub (M:=[0,2,3,5]) O)) ?_))))
     rintro F _ fv Y G ⟨H,rfl,ct⟩
     have cu:=cj.n G
     have cv:=((((ce.up y).up S).up E).up z).up G
     have cw:=((dv.up E).up z).up G
     refine mv (.tuple [H,vB F.2].toArray) O (Lw.r O (R.ext (vs:=[H,vB F.2]) (v:=H) O O) (Lw.r O (R.ext (vs:=[H,vB F.2]) (v:=vB F.2) O O) (Gv H O (Nb O (sr (la cw (mv ap O (mv H O (cr Y (fun _=>p60 (K:=[0,9,10,12,14]) (k0:=15) (k1:=16) (x0:=(Vm.Repo.mk ah.Commits ah.Heads)) ((Repo.rd (K:=[9,10]) ah.Commits ah.Heads (cv.rd.sub (M:=[9,10]) O) ((((((cf.up y).up S).up E).up z).up G).rd.sub (M:=[9,10]) O)).sub (M:=[0,9,10,12,14]) O) ((ci.up G).rd.sub (M:=[0,9,10,12,14]) O) (ct.rd.sub (M:=[0,9,10,12,14]) O) ((k.ul cu).sub (M:=[0,9,10,12,14]) O)) ?_)))))))))
     rintro b _ fw Y U ⟨I,L,rfl,cx,cy⟩
     have d7:=cu.n U
     refine mv (.tuple [.agg [I,L].toArray,vB b.2].toArray) O (Lw.r O (R.ext (vs:=[.agg [I,L].toArray,vB b.2]) (v:= .agg [I,L].toArray) O O) (Lw.r O (R.ext (vs:=[.agg [I,L].toArray,vB b.2]) (v:=vB b.2) O O) (al 17 [.slice none 0 0, .slice none 0 0] fun fx fy e d8=>?_)))
     have d9:=d7.n e
     refine sta d8 (zaf (cx.up e).oc (zaf (cy.up e).oc zaW)) fun a3 A ea=>?_
     have eb:=d9.t A
     have cz:=((ct.up U).up e).up A
     refine Nb O (Cw.seq ?_)
     obtain⟨ec,ed,Y⟩:=zc4 Y
     refine Cw.join 89 99 [99] (fun l w=> ∃ bk V,CW.w V=w/\Le [] a3 V/\l=[vB bk]/\ec bk=some r) ?_ ?_
     ·rintro _ _ σ ⟨bk,V,rfl,f,rfl,Y⟩
      rw[ed]at Y
      have c0:=eb.n f
      refine cn Y (fun Y=>?_) fun Y=>?_
      ·obtain⟨ee,ef,Y⟩:=zc4 Y
       refine Cw.join 100 112 [2] (fun l w=> ∃ bl bm,CW.w bm=w/\Le [] V bm/\l=[vB bl]/\ee bl=some r) ?_ ?_
       ·rintro _ _ σ ⟨bl,bm,rfl,eg,rfl,Y⟩
        rw[ef]at Y
        have eh:=c0.n eg
        exact .ret (rt Y eh)
       ·refine rg (mb O (mb O (bs Y (fun B Y=>?_) fun B Y=>?_)))
        ·refine wak 2 B (mb O (mb O (bs Y (fun aq Y=>?_) fun aq Y=>?_)))
         ·exact psk 7 aq O (wak 1 B (Pb aq O (Pb B O (Nb O ((ag) ⟨true,V,O,Le.refl _ _,O,Y⟩)))))
         ·exact wak 7 aq (fl ((((cw.up U).up e).up A).up f) O (Lw.ln ah.Commits ((((cv.up U).up e).up A).up f).rd O (mv H O (Lw.ln F.1 (cz.up f).rd O (Lw.add O (Lw.gt O (wak 1 B (Pb aq O (Pb B O (Nb O ((ag) ⟨decide ((16:Int)< (w64 ((ah.Commits.length:Int)+(F.1.length:Int)):Int)),V,O,Le.refl _ _,O,Y⟩)))))))))))
        ·exact psk 2 B O (puk 7 O (psk 1 B O (Pb B O (Nb O ((ag) ⟨false,V,O,Le.refl _ _,O,Y⟩)))))
      ·refine sk (Cw.seq (Cw.draw [] [(0,1),(1,1),(2,2),(3,3),(4,0),(5,0),(6,0),(7,0),(8,0)] mixed (by kernel_rfl) fun fz W=>?_))
       have c1:=c0.n W
       have bn:=(((cx.up e).up A).up f).up W
       have bp:=(((cy.up e).up A).up f).up W
       have bq:=(ea.up f).up W
       refine Mw.q O O (fun _ c=>R.lda (cs:=[I,L]) (bq.clcs O c) O O) (Mw.q O O (fun _ c=>R.lda (cs:=[I,L]) (bq.clcs O c) O O) ?_)
       obtain⟨f0,ei,Y⟩:=ob Y
       refine Mw.t O O (T.call O (p34 (K:=[0,15,16]) (x0:=(Vm.Repo.mk b.1.Commits b.1.Heads)) ((Repo.rd (K:=[15,16]) b.1.Commits b.1.Heads (bn.rd.sub (M:=[15,16]) O) (bp.rd.sub (M:=[15,16]) O)).sub (M:=[0,15,16]) O) ((k.ul c1).sub (M:=[0,15,16]) O) ei)) ?_
       rintro _ _ ⟨f1,rfl,h,rfl⟩
       have c2:=c1.n h
       refine m0 h fun f2=>?_
       obtain⟨a4,ej,Y⟩:=ob Y
       refine Mw.l O O (T.call O (p35 (K:=[0,15,16]) (k0:=18) (x0:=(Vm.Repo.mk b.1.Commits b.1.Heads)) ((Repo.rd (K:=[15,16]) b.1.Commits b.1.Heads ((bn.up h).rd.sub (M:=[15,16]) O) ((bp.up h).rd.sub (M:=[15,16]) O)).sub (M:=[0,15,16]) O) ((k.ul c2).sub (M:=[0,15,16]) O) ej)) ?_
       rintro _ _ ⟨ek,rfl,X,⟨aj,rfl,el⟩⟩
       have c3:=c2.n X
       refine Dv (.tuple [aj,vB a4.2].toArray) O (Mw.p O O (fun _=>R.ext (vs:=[aj,vB a4.2]) (v:=aj) O O) (Mw.p O O (fun _=>R.ext (vs:=[aj,vB a4.2]) (v:=vB a4.2) O O) (Hv aj O (Hb O (Mw.nil ?_)))))
       obtain⟨em,en,Y⟩:=zc4 Y
       refine Cw.join 120 139 [2] (fun l w=> ∃ br bu,CW.w bu=w/\Le [] ek bu/\l=[vB br]/\em br=some r) ?_ ?_
       ·rintro _ _ σ ⟨br,bu,rfl,eo,rfl,Y⟩
        rw[en]at Y
        have ep:=c3.n eo
        exact .ret (rt Y ep)
       ·refine Cw.draw [] [(0,0),(1,0),(2,1),(3,0),(4,0),(5,0),(6,1),(7,2),(8,0),(9,1),(10,1),(14,1),(15,0),(11,2),(12,2),(13,0),(16,2),(17,0),(18,0),(19,0),(20,0)] mixed (by kernel_rfl) fun f3 i=>?_
        have er:=c3.n i
        have a6:=((((((((ck.up G).up U).up e).up A).up f).up W).up h).up X).up i
        have c4:=((((((((co.up G).up U).up e).up A).up f).up W).up h).up X).up i
        have c5:=((bq.up h).up X).up i
        refine Dv aj O (Dfl c4 O O O (Di O ?_))
        obtain⟨f4,bv,Y⟩:=ob Y
        refine Mw.p O O (fun _=>R.ix (α:=Commit) a6.rd bv O O O) (Df O ?_)
        obtain⟨f5,c347,r348⟩:=(Commit.at2 (a6.rd.at_ bv)).cell O
        refine Mw.q O O (fun _ c=>R.ld O O (zaD (Commit.at2 (a6.rd.at_ bv)).1 O c347 c)) ?_
        obtain⟨f6,es,Y⟩:=ob Y
        refine Mw.t O O (T.call O (p37 (K:=[2,18]) ((el.up i).rd.sub (M:=[2,18]) O) (r348.sub (M:=[2,18]) O) es)) ?_
        rintro _ _ ⟨et,rfl,N,rfl⟩
        have c6:=er.n N
        have c7:=(((bn.up h).up X).up i).up N
        have c8:=(((bp.up h).up X).up i).up N
        refine m0 N fun eu=>Db O (bs Y (fun d Y=>?_) fun d Y=>?_)
        ·refine Wq d O (fun _ c=>R.lda (cs:=[I,L]) (c5.clcs O c) O O) (Wq d O (fun _ c=>R.lda (cs:=[I,L]) (c5.clcs O c) O O) (Wq d O (fun _ c=>R.lda (cs:=[C,ac]) (c4.clcs O c) O O) (Wp d O (fun _=>R.mv (v:=vI a.2.2) O) ?_)))
         obtain⟨f7,ew,Y⟩:=ob Y
         refine Wt d O (T.call O (p34 (K:=[0,15,16]) (x0:=(Vm.Repo.mk b.1.Commits b.1.Heads)) ((Repo.rd (K:=[15,16]) b.1.Commits b.1.Heads (c7.rd.sub (M:=[15,16]) O) (c8.rd.sub (M:=[15,16]) O)).sub (M:=[0,15,16]) O) ((k.ul c6).sub (M:=[0,15,16]) O) ew)) ?_
         rintro _ _ ⟨f8,rfl,Z,rfl⟩
         have c9:=c6.n Z
         refine mc eu Z fun ex=>?_
         obtain⟨bw,ey,Y⟩:=ob Y
         refine Wt d O (T.call O (p41 (K:=[0,15,16]) (k0:=19) (x0:=(Vm.Repo.mk b.1.Commits b.1.Heads)) ((Repo.rd (K:=[15,16]) b.1.Commits b.1.Heads ((c7.up Z).rd.sub (M:=[15,16]) O) ((c8.up Z).rd.sub (M:=[15,16]) O)).sub (M:=[0,15,16]) O) ((k.ul c9).sub (M:=[0,15,16]) O) ey)) ?_
         rintro f9 _ ⟨ga,rfl,ar,⟨_,rfl,ez⟩⟩
         have e0:=c9.n ar
         refine mc ex ar fun e1=>Wp d O (fun _=>zo6 (xs:=bw) ez.rd O) ?_
         obtain⟨bz,e2,Y⟩:=ob Y
         refine Wt d O (T.call O (p41 (K:=[0,2,3]) (k0:=20) (x0:=(Vm.Repo.mk a.1.Commits a.1.Heads)) ((Repo.rd (K:=[2,3]) a.1.Commits a.1.Heads ((((a6.up N).up Z).up ar).rd.sub (M:=[2,3]) O) (((((((((((((cl.up G).up U).up e).up A).up f).up W).up h).up X).up i).up N).up Z).up ar).rd.sub (M:=[2,3]) O)).sub (M:=[0,2,3]) O) ((k.ul e0).sub (M:=[0,2,3]) O) e2)) ?_
         rintro gb _ ⟨e3,rfl,da,⟨_,rfl,e4⟩⟩
         exact mc e1 da fun gc=>Wp d O (fun _=>zo6 (xs:=bz) e4.rd O) (Wp d O (fun _=>R.eq O O) (Mw.p O O (fun _=>R.pk d O (v:=vB ((bw.length:Int)==(bz.length:Int))) O) (Hb O (Mw.nil ((ag) ⟨((bw.length:Int)==(bz.length:Int)),e3,O,((((i.j N).j Z).j ar).j da).w,O,Y⟩)))))
        ·exact dps 10 d O (Mw.p O O (fun _=>R.pk d O (v:=vB false) O) (Hb O (Mw.nil ((ag) ⟨false,et,O,(i.j N).w,O,Y⟩))))
     ·refine rg (mb O (Lw.r O (R.not O) (mb O (bs Y (fun au Y=>?_) fun au Y=>?_))))
      ·exact psk 2 au O (Pb au O (mb O (psk 3 O O (Pb O O (nl ((ag) ⟨true,a3,O,Le.refl _ _,O,Y⟩))))))
      ·refine wak 2 au (mb O (Lw.r O (R.not O) (Pb au O (mb O (bs Y (fun av Y=>?_) fun av Y=>?_)))))
       ·exact psk 3 av O (Pb av O (nl ((ag) ⟨true,a3,O,Le.refl _ _,O,Y⟩)))
       ·exact wak 3 av (mv H O (Lw.ln F.1 cz.rd O (Lw.eq O (Pb av O (nl ((ag) ⟨((F.1.length:Int)==0),a3,O,Le.refl _ _,O,Y⟩))))))
  ·refine rg (mv ae O (la bb (mi O (cr Y (fun _=>p63 (K:=[2,3]) (k0:=21) (x0:=(Vm.Repo.mk a.1.Commits a.1.Heads)) (Repo.rd (K:=[2,3]) a.1.Commits a.1.Heads (a1.rd.sub (M:=[2,3]) O) ((a9.up am).rd.sub (M:=[2,3]) O))) ?_))))
   rintro gd gf gg Y P ⟨_,rfl,e5⟩
   refine ca Y (fun _=>p17 (K:=[5,21]) ((a0.up P).rd.sub (M:=[5,21]) O) (e5.rd.sub (M:=[5,21]) O)) fun gh a8 Y aa=>Lw.r O (R.not O) (mb O (bs Y (fun aw Y=>?_) fun aw Y=>?_))
   ·exact psk 3 aw O (Pb aw O (mb O (psk 2 O O (Pb O O (mb O (psk 5 O O (Pb O O (nl ((ag) ⟨true,a8,O,(P.j aa).w,O,Y⟩)))))))))
   ·refine wak 3 aw (mv ae O (Lw.ln ba ((a0.up P).up aa).rd O (Lw.eq O (Pb aw O (mb O (bs Y (fun ax Y=>?_) fun ax Y=>?_))))))
    ·exact psk 2 ax O (Pb ax O (mb O (psk 5 O O (Pb O O (nl ((ag) ⟨true,a8,O,(P.j aa).w,O,Y⟩))))))
    ·refine wak 2 ax (mi O (Lw.lt O (Pb ax O (mb O (bs Y (fun ay Y=>?_) fun ay Y=>?_)))))
     ·exact psk 5 ay O (Pb ay O (nl ((ag) ⟨true,a8,O,(P.j aa).w,O,Y⟩)))
     ·exact wak 5 ay (mi O (fl ((bb.up P).up aa) O (Lw.ln a.1.Commits ((a1.up P).up aa).rd O (Lw.ge O (Pb ay O (nl ((ag) ⟨decide (a.1.Commits.length<=(a.2.2:Int)),a8,O,(P.j aa).w,O,Y⟩)))))))
theorem p13 {x0 a r}(b:Rd W K [a] x0)(d:Gl 0 W K)(Y:Vm.zkx x0=some r):Q1 13 [a] W [] fun W' v=>v=vB r:=
 (c13 (b.view _) (d.view _) Y).ad (fk 0) fun _ _ e=>e
end Go.Sx
