/- Walks: each function answers as its model, printed by a program of ours. Conditions: the arguments read as they are given. -/
import Derived.Test.YtiahldhbknpmiaaGreatDoorATs
import Derived.Test.YtiahldhbknpmiaaGreatDoorAM6
import Derived.Test.YtiahldhbknpmiaaGreatDoorAW0
import Derived.Test.YtiahldhbknpmiaaGreatDoorAW1
import Derived.Test.YtiahldhbknpmiaaGreatDoorAW2
import Derived.Test.YtiahldhbknpmiaaGreatDoorAW4
import Derived.Test.YtiahldhbknpmiaaGreatDoorAW5
import Derived.Test.YtiahldhbknpmiaaGreatDoorAW6
import Derived.Test.YtiahldhbknpmiaaGreatDoorAW7
import Derived.Test.YtiahldhbknpmiaaGreatDoorAW9
namespace Go.Sx
open Go Go.Proofs Go.Vm Rp
set_option linter.unusedVariables false
set_option linter.unusedSimpArgs false
variable {W W0:CW}{K:List Nat}
theorem c84 {x0 k x x1 x2 x3 r}(h0:Rd W0 [0] [k,x] x0)(Y:Vm.zhE x0 x1 x2 x3=some r):Q0 84 [.agg [k,x].toArray,vS x1,vS x2,vI x3] W0 fun Wf v=> ∃ a3 a5,v = .tuple [.agg [a3,a5].toArray,vI r.2].toArray/\Rd Wf [0] [a3] r.1.Commits/\Rd Wf [0] [a5] r.1.Heads:=by
 unfold Vm.zhE at Y
 obtain⟨db,dc,a6,a,b⟩:=Repo.split h0
 simp only[List.cons.injEq,and_true,true_and]at a6
 obtain⟨rfl,rfl⟩:=a6
 refine zaz.of Tryz.func84 O O O O (sr (bo 2 O fun g1 W1 l1 b1=>?_))
 have a2:=l1.o
 refine al 3 [.slice none 0 0, .slice none 0 0] fun g3 W3 P b3=>?_
 have Q:=a2.n P
 refine Ni O (sr (la (b1.up P) (ms O (ca Y (fun _=>p69 (Repo.rd (K:=[0]) x0.Commits x0.Heads (a.ul Q) (b.ul Q))) fun A dh Y l10=>?_))))
 have S:=Q.n l10
 have a8:=(b1.up P).up l10
 refine Ni O (ssr (la a8 (mi O (cr Y (fun _=>p138 (k0:=4) (Repo.rd (K:=[0]) x0.Commits x0.Heads (a.ul S) (b.ul S))) ?_))))
 rintro di dj dk Y U ⟨_,rfl,bu⟩
 have bv:=S.n U
 refine mi O (ca Y (fun _=>p154 (K:=[4]) bu.rd) fun dl dm Y V=>?_)
 have D:=bv.n V
 have X:=(a8.up U).up V
 have a9:=((b3.up l10).up U).up V
 refine nl (cn Y (fun Y=>?_) fun Y=>?_)
 ·refine sr (la X (sta a9 (zaa a.oc (zaa b.oc za0)) fun dn bw bz=>?_))
  have Z:=D.t bw
  refine Ni O ?_
  cases Y
  exact Cw.ret (zhl O bz O (Res.mk Z ⟨k,x,O,(a.ul Z),(b.ul Z)⟩))
 ·refine sk (ssr (la X (mi O (cr Y (fun _=>p138 (k0:=5) (Repo.rd (K:=[0]) x0.Commits x0.Heads (a.ul D) (b.ul D))) ?_))))
  rintro dp dq dr Y aa ⟨_,rfl,b0⟩
  have b2:=D.n aa
  refine mi O (ca Y (fun _=>p154 (K:=[5]) b0.rd) fun ds dt Y ac=>?_)
  have E:=b2.n ac
  have ba:=(X.up aa).up ac
  have bb:=(a9.up aa).up ac
  refine nl (cn Y (fun Y=>?_) fun Y=>?_)
  ·refine sr (la ba (ms O (mi O (cr Y (fun _=>p87 (Repo.rd (K:=[0]) x0.Commits x0.Heads (a.ul E) (b.ul E))) ?_))))
   rintro du _ dv Y bc ⟨b4,b5,rfl,b6,b7⟩
   have be:=b6.sub (M:=[0]) O
   have bg:=b7.sub (M:=[0]) O
   have b8:=E.n bc
   refine sta (bb.up bc) (zaa be.oc (zaa bg.oc za0)) fun dw b9 cb=>?_
   have ae:=b9.s
   refine Ni O ?_
   cases Y
   exact Cw.ret (zhl O cb O (Res.mk (b8.trans ae) ⟨b4,b5,O,(be.ul ae),(bg.ul ae)⟩))
  ·refine sk (Cw.seq (Cw.draw [] [(0,1),(1,0),(2,0),(4,0),(5,1),(6,0),(7,0),(8,0),(9,1),(10,0),(11,1),(12,0),(13,0),(14,0),(15,1),(3,2),(16,2),(17,0),(18,0),(19,0),(20,0),(21,0)] mixed (by kernel_rfl) fun dx af=>?_))
   have ah:=E.n af
   have F:=ba.up af
   refine Mw.q O O (fun _ c=>R.lda (cs:=[k,x]) (F.clcs O c) O O) (Di O (Di O (Dfl F O O O (Di O ?_))))
   obtain⟨dy,ai,Y⟩:=ob Y
   have i:=a.ul ah
   refine Mw.p O O (fun _=>R.ix (α:=Commit) i ai O O O) (Df O ?_)
   obtain⟨dz,c83,r84⟩:=(Commit.at2 (i.at_ ai)).cell O
   refine Mw.q O O (fun _ c=>R.ld O O (zaB (Commit.at2 (i.at_ ai)).1 O c83 c)) (Dfl F O O O (Di O ?_))
   obtain⟨d0,aj,Y⟩:=ob Y
   refine Mw.p O O (fun _=>R.ix (α:=Commit) i aj O O O) (Df O ?_)
   obtain⟨d1,c88,r89⟩:=(Commit.at2 (i.at_ aj)).cell O
   refine Mw.q O O (fun _ c=>R.ld O O (zaB (Commit.at2 (i.at_ aj)).1 O c88 c)) ?_
   obtain⟨d2,cc,Y⟩:=ob Y
   refine Mw.t O O (T.call O (p124 (Repo.rd (K:=[0]) x0.Commits x0.Heads i (b.ul ah)) cc)) ?_
   rintro d3 _ ⟨d4,rfl,G,⟨_,rfl,cd⟩⟩
   have ce:=cd.sub (M:=[0]) O
   have ak:=G.o
   refine m0 G fun cf=>?_
   obtain⟨H,cg,Y⟩:=ob Y
   refine Mw.t O O (T.call O (p123 (k0:=6) (k1:=7) ce (r84.ul ak) (r89.ul ak) cg)) ?_
   rintro _ _ ⟨ch,rfl,I,⟨d,y,rfl,ci,cj⟩⟩
   have bh:=(ah.trans ak).n I
   have am:=(F.up G).up I
   have bi:=((bb.up af).up G).up I
   refine mc cf I fun d5=>Dv (.tuple [d,y].toArray) O (Mw.p O O (fun _=>R.ext (vs:=[d,y]) (v:=d) O O) (Mw.p O O (fun _=>R.ext (vs:=[d,y]) (v:=y) O O) (Hv d O (Hv y O (Mw.nil (ssr (mv y O (Lw.ln H.2 cj.rd O (Lw.gt O (nl (cn Y (fun Y=>?_) fun Y=>?_)))))))))))
   ·refine sr (la am (sta bi (zaa a.oc (zaa b.oc za0)) fun d6 ck cl=>?_))
    have an:=bh.t ck
    refine Ni O ?_
    cases Y
    exact Cw.ret (zhl O cl O (Res.mk an ⟨k,x,O,(a.ul an),(b.ul an)⟩))
   ·refine sk (sr (la am (ms O (mi O (mi O (Lw.t O (T.bsS (α:=Int) (xs:=[A,x3]) 8 [] (W:=ch) [vI A,vI x3] (Each.cons ((rdI _)) (Each.cons ((rdI _)) Each.nil)) O) ?_))))))
    rintro ao _ ⟨d7,rfl,J,ap⟩
    have aq:=bh.n J
    have ar:=ci.up J
    refine ms O (mv d O (Lw.r O (R.bd (zs:=[.slice none 0 0,vS ([]:Str), .slice none 0 0]) (cs:=[ao,vS x2,d]) [(0,ao),(1,vS x2),(2,d)] O O O (zbc ap.oc O (zbc O O (zbc ar.oc O ze4)))) (cr Y (fun _=>p143 (K:=[0,6,8]) (x2:=(Vm.Commit.mk ([A,x3]:List Int) x2 H.1)) ((Repo.rd (K:=[0]) x0.Commits x0.Heads (a.ul aq) (b.ul aq)).sub (M:=[0,6,8]) O) ((Commit.rd (K:=[6,8]) ([A,x3]:List Int) x2 H.1 (ap.rd.sub (M:=[6,8]) O) (ar.rd.sub (M:=[6,8]) O)).sub (M:=[0,6,8]) O)) ?_)))
    rintro z _ d8 Y B ⟨au,av,rfl,cm,co⟩
    have L:=cm.sub (M:=[0,6,8]) O
    have N:=co.sub (M:=[0,6,8]) O
    have cp:=aq.n B
    refine al 9 [.slice none 0 0, .slice none 0 0] fun d9 ea e cq=>?_
    have ct:=cp.n e
    refine sta cq (zaa L.oc (zaa N.oc za0)) fun eb f bj=>?_
    have cu:=ct.t f
    refine nl (ssr (la bj ?_))
    have cv:=L.up ((e.sub (M:=[9]) O).trans (f.sub (M:=[9]) O)) O
    have cw:=N.up ((e.sub (M:=[9]) O).trans (f.sub (M:=[9]) O)) O
    refine ca Y (fun _=>p68 (K:=[0,6,8]) (Repo.rd (K:=[0,6,8]) z.Commits z.Heads cv cw)) fun ec ed Y h=>?_
    have bk:=cu.n h
    have bl:=((((bi.up J).up B).up e).up f).up h
    refine Lw.r O (R.not O) (nl (cn Y (fun Y=>?_) fun Y=>?_))
    ·refine sr (la (((((am.up J).up B).up e).up f).up h) (sta bl (zaa a.oc (zaa b.oc za0)) fun ee cx cy=>?_))
     have aw:=bk.t cx
     refine Ni O ?_
     cases Y
     exact Cw.ret (zhl O cy O (Res.mk aw ⟨k,x,O,(a.ul aw),(b.ul aw)⟩))
    ·refine sk (sr (la (bj.up h) (sta bl (zaa L.oc (zaa N.oc za0)) fun ef C cz=>?_)))
     have c0:=bk.t C
     refine Ni O ?_
     have c1:=L.up ((e.sub (M:=[3,9]) O).trans ((f.sub (M:=[3,9]) O).trans ((h.sub (M:=[3,9]) O).trans (C.sub (M:=[3,9]) O)))) O
     have c2:=N.up ((e.sub (M:=[3,9]) O).trans ((f.sub (M:=[3,9]) O).trans ((h.sub (M:=[3,9]) O).trans (C.sub (M:=[3,9]) O)))) O
     obtain⟨ax,c3,ay,az⟩:=zn3 _ 6
     have c4:Rd ax [0,8] [au] z.Commits:=by rw[az];exact(c1.dye 6).sub (M:=[0,8]) O
     have c5:Rd ax [0,8] [av] z.Heads:=by rw[az];exact(c2.dye 6).sub (M:=[0,8]) O
     have eg:Rd (α:=List Vm.File) ax [0] [d] H.1:=by rw[az];exact((((((ar.up B).up e).up f).up h).up C).rd.dye 6).sub (M:=[0]) O
     have c6:=c0.t ay
     obtain⟨a0,c7,bm,a1⟩:=zn3 _ 8
     have c8:Rd a0 [0] [au] z.Commits:=by rw[a1];exact(c4.dye 8).sub (M:=[0]) O
     have c9:Rd a0 [0] [av] z.Heads:=by rw[a1];exact(c5.dye 8).sub (M:=[0]) O
     have eh:Rd (α:=List Int) a0 [0] [ao] ([A,x3]:List Int):=by rw[a1];exact(((((((ap.up B).up e).up f).up h).up C).up ay).rd.dye 8).sub (M:=[0]) O
     have da:=c6.t bm
     cases Y
     rw[<- c7.trans (c3)]
     exact Cw.ret (zhl O ((cz.up ay).up bm) O (Res.mk da ⟨au,av,O,c8,c9⟩))
theorem p84 {x0 d f x1 x2 x3 r}(h:Rd W K [d,f] x0)(Y:Vm.zhE x0 x1 x2 x3=some r):Q1 84 [.agg [d,f].toArray,vS x1,vS x2,vI x3] W [] fun W' v=> ∃ a b,v = .tuple [.agg [a,b].toArray,vI r.2].toArray/\Rd W' (0::K) [a] r.1.Commits/\Rd W' (0::K) [b] r.1.Heads:=
 (c84 (h.view _) Y).ad (fk 0) fun _ _ ⟨a,b,e,i,k⟩=>⟨a,b,e,i.back O,k.back O⟩
theorem c24 {x0 U V x1 x2 x3 r}(h0:Rd W0 [0] [U,V] x0)(Y:Vm.ze0 x0 x1 x2 x3=some r):Q0 24 [.agg [U,V].toArray,vS x1,vS x2,vI x3] W0 fun Wf v=> ∃ W X,v = .tuple [.agg [W,X].toArray,vI r.2].toArray/\Rd Wf [0] [W] r.1.Commits/\Rd Wf [0] [X] r.1.Heads:=by
 unfold Vm.ze0 at Y
 obtain⟨cj,ck,Z,h,A⟩:=Repo.split h0
 simp only[List.cons.injEq,and_true,true_and]at Z
 obtain⟨rfl,rfl⟩:=Z
 refine zaz.of Tryz.func24 O O O O (sr (bo 2 O fun g1 W1 l1 b1=>?_))
 have a2:=l1.o
 refine al 3 [.slice none 0 0, .slice none 0 0] fun g3 W3 F b3=>?_
 have G:=a2.n F
 refine Ni O (ssr (la (b1.up F) (ca Y (fun _=>p68 (Repo.rd (K:=[0]) x0.Commits x0.Heads (h.ul G) (A.ul G))) fun z8 a0 Y l10=>?_)))
 have i:=G.n l10
 have B:=(b1.up F).up l10
 refine Lw.r O (R.not O) (nl (cn Y (fun Y=>?_) fun Y=>?_))
 ·refine sr (Lw.r O (R.bd (zs:=[.slice none 0 0, .slice none 0 0]) (cs:=[.slice none 0 0, .slice none 0 0]) [] O O O ze4) (sta (b3.up l10) (zaa O (zaa O za0)) fun ct a1 a3=>?_))
  have a5:=i.t a1
  refine Ni O ?_
  cases Y
  exact Cw.ret (zhl O a3 O (Res.mk a5 ⟨.slice none 0 0, .slice none 0 0,O,(rdN (K:=[0])),(rdN (K:=[0]))⟩))
 ·refine sk (Cw.seq ?_)
  obtain⟨a6,a7,Y⟩:=zbM Y
  refine Cw.join 14 31 [31] (fun l w=> ∃ H I,CW.w I=w/\Le [] a0 I/\l=[vB H]/\a6 H=some r) ?_ ?_
  ·rintro _ _ σ ⟨H,I,rfl,C,rfl,Y⟩
   rw[a7]at Y
   have b:=i.n C
   have ae:=(b3.up l10).up C
   refine cn Y (fun Y=>?_) fun Y=>?_
   ·refine sr (la (B.up C) (cr Y (fun _=>p72 (k0:=4) (k1:=5) (Repo.rd (K:=[0]) x0.Commits x0.Heads (h.ul b) (A.ul b))) ?_))
    rintro af _ cu Y ah ⟨ai,aj,rfl,ak,am⟩
    have a8:=b.n ah
    refine sta (ae.up ah) (zaa ak.oc (zaa am.oc za0)) fun cv J a9=>?_
    have ba:=a8.t J
    refine Ni O ?_
    obtain⟨bb,bc,L,be⟩:=zn3 _ 4
    have bg:Rd (α:=List Vm.Commit) bb [0] [ai] af.Commits:=by rw[be];exact((ak.up J).rd.dye 4).sub (M:=[0]) O
    have bh:=ba.t L
    obtain⟨bi,bj,an,bk⟩:=zn3 _ 5
    have bl:Rd (α:=List Vm.Head) bi [0] [aj] af.Heads:=by rw[bk];exact(((am.up J).up L).rd.dye 5).sub (M:=[0]) O
    have ao:=an.s
    cases Y
    rw[<- bj.trans (bc)]
    exact Cw.ret (zhl O ((a9.up L).up an) O (Res.mk (bh.trans ao) ⟨ai,aj,O,(bg.ul ao),bl⟩))
   ·refine sk (sr (la (B.up C) (cr Y (fun _=>p72 (k0:=6) (k1:=7) (Repo.rd (K:=[0]) x0.Commits x0.Heads (h.ul b) (A.ul b))) ?_)))
    rintro d _ cw Y ap ⟨bm,bn,rfl,aq,ar⟩
    have bp:=b.n ap
    refine ms O (ms O (mi O (cr Y (fun _=>p84 (K:=[6,7]) (x0:=(Vm.Repo.mk d.Commits d.Heads)) (Repo.rd (K:=[6,7]) d.Commits d.Heads (aq.rd.sub (M:=[6,7]) O) (ar.rd.sub (M:=[6,7]) O))) ?_)))
    rintro a _ cx Y D ⟨e,f,rfl,bq,br⟩
    have au:=bq.sub (M:=[0,6,7]) O
    have av:=br.sub (M:=[0,6,7]) O
    have bu:=bp.n D
    refine Lw.r O (R.ext (vs:=[.agg [e,f].toArray,vI a.2]) (v:= .agg [e,f].toArray) O O) (Lw.r O (R.ext (vs:=[.agg [e,f].toArray,vI a.2]) (v:=vI a.2) O O) (sta ((ae.up ap).up D) (zaa au.oc (zaa av.oc za0)) fun cy k bv=>?_))
    have bw:=bu.t k
    refine Ni O ?_
    have bz:=au.up (k.sub (M:=[3]) O) O
    have b0:=av.up (k.sub (M:=[3]) O) O
    obtain⟨N,b2,P,Q⟩:=zn3 _ 6
    have b4:Rd N [0,7] [e] a.1.Commits:=by rw[Q];exact(bz.dye 6).sub (M:=[0,7]) O
    have b5:Rd N [0,7] [f] a.1.Heads:=by rw[Q];exact(b0.dye 6).sub (M:=[0,7]) O
    have cz:Rd (α:=List Vm.Commit) N [0] [bm] d.Commits:=by rw[Q];exact(((aq.up D).up k).rd.dye 6).sub (M:=[0]) O
    have b6:=bw.t P
    obtain⟨S,b7,aw,T⟩:=zn3 _ 7
    have b8:Rd S [0] [e] a.1.Commits:=by rw[T];exact(b4.dye 7).sub (M:=[0]) O
    have b9:Rd S [0] [f] a.1.Heads:=by rw[T];exact(b5.dye 7).sub (M:=[0]) O
    have c0:Rd (α:=List Vm.Head) S [0] [bn] d.Heads:=by rw[T];exact((((ar.up D).up k).up P).rd.dye 7).sub (M:=[0]) O
    have cb:=b6.t aw
    cases Y
    rw[<- b7.trans (b2)]
    exact Cw.ret (zhl O ((bv.up P).up aw) O (Res.mk cb ⟨e,f,O,b8,b9⟩))
  ·refine rg (la B (ms O (ca Y (fun _=>p69 (Repo.rd (K:=[0]) x0.Commits x0.Heads (h.ul i) (A.ul i))) fun c1 cc Y x=>?_)))
   have cd:=i.n x
   refine Lw.lt O (mb O (bs Y (fun y Y=>?_) fun y Y=>?_))
   ·exact psk 3 y O (Pb y O (mb O (psk 7 O O (Pb O O (nl ((ag) ⟨true,cc,O,x,O,Y⟩))))))
   ·refine wak 3 y (ms O (ca Y (fun _=>p70) fun c2 ce Y E=>?_))
    have cf:=cd.n E
    refine Lw.r O (R.not O) (Pb y O (mb O (bs Y (fun z Y=>?_) fun z Y=>?_)))
    ·exact psk 7 z O (Pb z O (nl ((ag) ⟨true,ce,O,(x.j E).w,O,Y⟩)))
    ·exact wak 7 z (mi O (fl ((B.up x).up E) O (Lw.ln x0.Commits (h.ul cf) O (Lw.sub O (ca Y (fun _=>p71) fun cg ch Y ci=>Lw.r O (R.not O) (Pb z O (nl ((ag) ⟨(!cg),ch,O,((x.j E).j ci).w,O,Y⟩))))))))
theorem p24 {x0 d f x1 x2 x3 r}(h:Rd W K [d,f] x0)(Y:Vm.ze0 x0 x1 x2 x3=some r):Q1 24 [.agg [d,f].toArray,vS x1,vS x2,vI x3] W [] fun W' v=> ∃ a b,v = .tuple [.agg [a,b].toArray,vI r.2].toArray/\Rd W' (0::K) [a] r.1.Commits/\Rd W' (0::K) [b] r.1.Heads:=
 (c24 (h.view _) Y).ad (fk 0) fun _ _ ⟨a,b,e,i,k⟩=>⟨a,b,e,i.back O,k.back O⟩
theorem c85 {x0 e f x1 x2 x3 r}(h0:Rd W0 [0] [e,f] x0)(ck:Gl 0 W0 [0])(Y:Vm.zg1 x0 x1 x2 x3=some r):Q0 85 [.agg [e,f].toArray,vS x1,vS x2,vI x3] W0 fun Wf v=> ∃ cl cm,v = .tuple [.agg [cl,cm].toArray,vI r.2].toArray/\OwS Wf [31] [] [cl] r.1.Commits/\OwS Wf [32] [] [cm] r.1.Heads:=by
 unfold Vm.zg1 at Y
 obtain⟨hp,hq,co,i,k⟩:=Repo.split h0
 simp only[List.cons.injEq,and_true,true_and]at co
 obtain⟨rfl,rfl⟩:=co
 refine zaz.of Tryz.func85 O O O O (sr (bo 2 O fun g1 W1 l1 b1=>?_))
 have a2:=l1.o
 refine al 3 [.slice none 0 0, .slice none 0 0] fun g3 W3 l3 b3=>?_
 have a4:=a2.n l3
 refine Ni O (sr (la (b1.up l3) (ms O (ca Y (fun _=>p88 (Repo.rd (K:=[0]) x0.Commits x0.Heads (i.ul a4) (k.ul a4))) fun B cq Y l10=>?_))))
 have ct:=a4.n l10
 have cu:=(b1.up l3).up l10
 refine Ni O (Cw.seq ?_)
 obtain⟨d0,d1,Y⟩:=zbM Y
 refine Cw.join 17 29 [29] (fun l w=> ∃ an ao,CW.w ao=w/\Le [] cq ao/\l=[vB an]/\d0 an=some r) ?_ ?_
 ·rintro _ _ σ ⟨an,ao,rfl,ap,rfl,Y⟩
  rw[d1]at Y
  have D:=ct.n ap
  have aq:=cu.up ap
  have ar:=(b3.up l10).up ap
  refine cn Y (fun Y=>?_) fun Y=>?_
  ·refine sr (la aq (cr Y (fun _=>p90 (k0:=4) (k1:=5) (Repo.rd (K:=[0]) x0.Commits x0.Heads (i.ul D) (k.ul D))) ?_))
   rintro hw _ hx Y cv ⟨d2,d3,rfl,cw,cx⟩
   have d4:=D.n cv
   refine sta (ar.up cv) (zaa cw.oc (zaa cx.oc za0)) fun hy au d5=>?_
   have d6:=d4.t au
   refine Ni O ?_
   obtain⟨hz,d7,av,d8⟩:=(cw.up au).dyeO 31
   have d9:=d6.t av
   obtain⟨h1,ea,aw,eb⟩:=((cx.up au).up av).dyeO 32
   have ec:=d9.t aw
   cases Y
   rw[<- ea.trans (d7)]
   exact Cw.ret (zhl O ((d5.up av).up aw) O (Res.mk ec ⟨d2,d3,O,(d8.up aw).s,eb.s⟩))
  ·refine sk (Cw.seq (Cw.block (sr (la aq (mi O (cr Y (fun _=>p126 (k0:=6) (Repo.rd (K:=[0]) x0.Commits x0.Heads (i.ul D) (k.ul D))) ?_))))))
   rintro h2 h3 h4 Y P ⟨_,rfl,cy⟩
   have E:=D.n P
   have Q:=aq.up P
   refine mi O ?_
   obtain⟨h5,cz,Y⟩:=ob Y
   refine Lw.r O (R.ix (α:=Bool) cy.rd cz O O O) (Lw.r O (R.ld O O (cy.rd.at_ cz).bool) (Nb O (cn Y (fun Y=>?_) fun Y=>?_)))
   ·refine sr (la Q (cr Y (fun _=>p90 (k0:=7) (k1:=8) (Repo.rd (K:=[0]) x0.Commits x0.Heads (i.ul E) (k.ul E))) ?_))
    rintro h6 _ h7 Y c3 ⟨ed,ee,rfl,c4,c5⟩
    have ef:=E.n c3
    refine sta ((ar.up P).up c3) (zaa c4.oc (zaa c5.oc za0)) fun h8 ax eg=>?_
    have eh:=ef.t ax
    refine Ni O ?_
    obtain⟨h9,ei,ay,ej⟩:=(c4.up ax).dyeO 31
    have ek:=eh.t ay
    obtain⟨ia,el,az,em⟩:=((c5.up ax).up ay).dyeO 32
    have en:=ek.t az
    cases Y
    rw[<- el.trans (ei)]
    exact Cw.ret (zhl O ((eg.up ay).up az) O (Res.mk en ⟨ed,ee,O,(ej.up az).s,em.s⟩))
   ·refine sr (la Q (mi O (cr Y (fun _=>p126 (k0:=9) (Repo.rd (K:=[0]) x0.Commits x0.Heads (i.ul E) (k.ul E))) ?_)))
    rintro ib ic id Y S ⟨_,rfl,c6⟩
    have U:=E.n S
    have c7:=(ar.up P).up S
    refine mi O ?_
    obtain⟨ie,c8,Y⟩:=ob Y
    refine Lw.r O (R.ix (α:=Bool) c6.rd c8 O O O) (Lw.r O (R.ld O O (c6.rd.at_ c8).bool) (Nb O (cn Y (fun Y=>?_) fun Y=>?_)))
    ·refine sr (la (Q.up S) (cr Y (fun _=>p90 (k0:=10) (k1:=11) (Repo.rd (K:=[0]) x0.Commits x0.Heads (i.ul U) (k.ul U))) ?_))
     rintro c9 _ ig Y da ⟨ih,ii,rfl,eo,ep⟩
     have er:=U.n da
     refine ms O (mi O (cr Y (fun _=>p91 (K:=[0]) (k0:=12) (k1:=13) (c0:=10) (c1:=11) (x0:=(Vm.Repo.mk c9.Commits c9.Heads)) eo ep O) ?_))
     rintro ij _ ik Y db ⟨es,et,rfl,dc,dd⟩
     have eu:=er.t db
     refine sta ((c7.up da).up db) (zaa dc.oc (zaa dd.oc za0)) fun il a0 ew=>?_
     have ex:=eu.t a0
     refine Ni O ?_
     obtain⟨im,ey,a1,ez⟩:=(dc.up a0).dyeO 31
     have e0:=ex.t a1
     obtain⟨io,e1,a3,e2⟩:=((dd.up a0).up a1).dyeO 32
     have e3:=e0.t a3
     cases Y
     rw[<- e1.trans (ey)]
     exact Cw.ret (zhl O ((ew.up a1).up a3) O (Res.mk e3 ⟨es,et,O,(ez.up a3).s,e2.s⟩))
    ·refine sk (Cw.seq (Cw.draw [] [(0,1),(1,0),(2,0),(4,1),(5,0),(7,1),(8,0),(3,2),(6,2),(9,2),(10,3),(11,0),(12,0),(13,0),(14,0),(15,0)] mixed (by kernel_rfl) fun ip a5=>?_))
     have a6:=U.n a5
     have V:=(Q.up S).up a5
     refine Mw.q O O (fun _ c=>R.lda (cs:=[e,f]) (V.clcs O c) O O) (Di O (Di O (Mw.q O O (fun _ c=>R.lda (cs:=[e,f]) (V.clcs O c) O O) (Di O (Mw.q O O (fun _ c=>R.lda (cs:=[e,f]) (V.clcs O c) O O) (Di O ?_))))))
     obtain⟨iq,e4,Y⟩:=ob Y
     refine Mw.t O O (T.call O (p104 (Repo.rd (K:=[0]) x0.Commits x0.Heads (i.ul a6) (k.ul a6)) e4)) ?_
     rintro ir _ ⟨it,rfl,X,⟨_,rfl,e5⟩⟩
     have e6:=e5.sub (M:=[0]) O
     have F:=a6.n X
     refine m0 X fun e7=>?_
     obtain⟨iu,e8,Y⟩:=ob Y
     refine Mw.t O O (T.call O (p105 (Repo.rd (K:=[0]) x0.Commits x0.Heads (i.ul F) (k.ul F)) e8)) ?_
     rintro iv _ ⟨iw,rfl,Z,⟨_,rfl,e9⟩⟩
     have fb:=e9.sub (M:=[0]) O
     have H:=Z.o
     refine mc e7 Z fun fc=>?_
     obtain⟨iy,fd,Y⟩:=ob Y
     refine Mw.t O O (T.call O (p105 (Repo.rd (K:=[0]) x0.Commits x0.Heads (i.ul (F.trans H)) (k.ul (F.trans H))) fd)) ?_
     rintro iz _ ⟨i0,rfl,aa,⟨_,rfl,fe⟩⟩
     have ff:=fe.sub (M:=[0]) O
     have ac:=aa.o
     refine mc fc aa fun i1=>?_
     obtain⟨G,fg,Y⟩:=ob Y
     refine Mw.l O O (T.call O (p50 (k0:=14) (e6.ul (H.trans ac)) (fb.ul ac) ff (ck.ul ((F.trans H).trans ac)) fg)) ?_
     rintro _ _ ⟨fh,rfl,a7,⟨x,rfl,fi⟩⟩
     have fj:Ow (α:=List (Sh Vm.File)) fh 14 [0] [x] G.1:=fi.sub O
     have ae:=((F.trans H).trans ac).n a7
     have a8:=(((V.up X).up Z).up aa).up a7
     have de:=((((c7.up a5).up X).up Z).up aa).up a7
     refine Dv (.tuple [x,vB G.2].toArray) O (Mw.p O O (fun _=>R.ext (vs:=[x,vB G.2]) (v:=x) O O) (Mw.p O O (fun _=>R.ext (vs:=[x,vB G.2]) (v:=vB G.2) O O) (Hv x O (Hb O (Mw.nil (ssr (mb O (Lw.r O (R.not O) (nl (cn Y (fun Y=>?_) fun Y=>?_))))))))))
     ·refine sr (la a8 (cr Y (fun _=>p90 (k0:=15) (k1:=16) (Repo.rd (K:=[0]) x0.Commits x0.Heads (i.ul ae) (k.ul ae))) ?_))
      rintro i2 _ i3 Y df ⟨fm,fn,rfl,dg,dh⟩
      have fo:=ae.n df
      refine sta (de.up df) (zaa dg.oc (zaa dh.oc za0)) fun i4 a9 fp=>?_
      have fq:=fo.t a9
      refine Ni O ?_
      obtain⟨i5,fr,ba,fs⟩:=(dg.up a9).dyeO 31
      have ft:=fq.t ba
      obtain⟨i6,fu,bb,fv⟩:=((dh.up a9).up ba).dyeO 32
      have fw:=ft.t bb
      cases Y
      rw[<- fu.trans (fr)]
      exact Cw.ret (zhl O ((fp.up ba).up bb) O (Res.mk fw ⟨fm,fn,O,(fs.up bb).s,fv.s⟩))
     ·refine sk (Cw.seq ?_)
      obtain⟨y,fx,Y⟩:=ob Y
      obtain⟨z,fy,Y⟩:=ob Y
      obtain⟨a,fz,Y⟩:=ob Y
      refine Cw.par [[],[],[1],[],[],[],[],[],[6,7],[1,2,3,4,5,6,7,8],[0,1,2,3,4,5,6,7,8,9],[0,1,2,3,4,5,6,7,8,9,10],[0,1,2,3,4,5,6,7,8,9,10,11],[0,1,2,3,4,5,6,7,8,9,10,11],[],[0,1,2,3,4,5,6,7,8,9,10,11,12,14],[0,1,2,3,4,5,6,7,8,9,10,11,12,13,14,15]] [[],[],[1],[],[],[],[],[],[6,7],[2,3,4,5,8],[0,9],[10],[10,11],[10,11],[],[10,12,14],[13]] [[],[],[],[],[],[],[],[],[],[17,18,19],[20,21],[],[],[],[],[24],[]] [[0],[1],[2],[3],[4],[5],[6],[7],[8],[9],[10],[10,11],[10,12],[13],[14],[10,14],[16]] [[],[],[17,18],[],[],[],[],[],[19],[20,21],[22,23],[],[],[],[24],[24],[]] [0,1,3,4,5,6,7,10,11,12,13,15,16] [17,18,19,20,21,24] [fun vs W=>(vs 0) = .agg [e,f].toArray,fun vs W=>(vs 1) = .agg [e,f].toArray,fun vs W=>(vs 2) = .agg [(zas (vs 2) 0),(zas (vs 2) 1)].toArray/\Ow W 17 [] [(zas (vs 2) 0)] y.Commits/\Ow W 18 [] [(zas (vs 2) 1)] y.Heads,fun vs W=>(vs 3)=vS x1,fun vs W=>(vs 4)=vS x2,fun vs W=>(vs 5)=x,fun vs W=>(vs 6)=vI B,fun vs W=>(vs 7)=vI x3,fun vs W=>Ow W 19 [] [(vs 8)] ([B,x3]:List Int),fun vs W=>(vs 9) = .agg [(zas (vs 9) 0),(zas (vs 9) 1)].toArray/\Ow W 20 [] [(zas (vs 9) 0)] z.Commits/\Ow W 21 [] [(zas (vs 9) 1)] z.Heads,fun vs W=>(vs 10) = .tuple [.agg [(zas (zas (vs 10) 0) 0),(zas (zas (vs 10) 0) 1)].toArray,vB a.2].toArray/\Ow W 22 [] [(zas (zas (vs 10) 0) 0)] a.1.Commits/\Ow W 23 [] [(zas (zas (vs 10) 0) 1)] a.1.Heads,fun vs W=>(vs 11) = .tuple [.agg [(zas (zas (vs 10) 0) 0),(zas (zas (vs 10) 0) 1)].toArray,vB a.2].toArray,fun vs W=>(vs 12) = .agg [(zas (zas (vs 10) 0) 0),(zas (zas (vs 10) 0) 1)].toArray,fun vs W=>(vs 13)=vB a.2,fun vs W=>(vs 14)=ptr (bx (pg (vs 14)))/\Bx W 24 (pg (vs 14)) [.slice none 0 0, .slice none 0 0],fun vs W=>(vs 14)=ptr (bx (pg (vs 14)))/\Bx W 24 (pg (vs 14)) [(zas (zas (vs 10) 0) 0),(zas (zas (vs 10) 0) 1)],fun vs W=>(vs 16)=vB a.2] [] mixed (by kernel_rfl) O zrl.nil ?_
      intro i7 I
      have bc:=ae.n I
      refine⟨(zbu.cons ?_ (zbu.cons ?_ (zbu.cons ?_ (zbu.cons ?_ (zbu.cons ?_ (zbu.cons ?_ (zbu.cons ?_ (zbu.cons ?_ (zbu.cons ?_ (zbu.cons ?_ (zbu.cons ?_ (zbu.cons ?_ (zbu.cons ?_ (zbu.cons ?_ (zbu.cons ?_ (zbu.cons ?_ (zbu.cons ?_ zbu.nil))))))))))))))))),(zeJ.cons SE (zeJ.cons SE (zeJ.cons (fun vs vs' W W' _ hv l hd h=>by(show(vs' 2) = .agg [(zas (vs' 2) 0),(zas (vs' 2) 1)].toArray/\Ow W' 17 [] [(zas (vs' 2) 0)] y.Commits/\Ow W' 18 [] [(zas (vs' 2) 1)] y.Heads);rw[hv 2 (zaY O)];exact⟨h.1,h.2.1.upv l (zeg hd (c:=17) O),h.2.2.upv l (zeg hd (c:=18) O)⟩) (zeJ.cons SE (zeJ.cons SE (zeJ.cons SE (zeJ.cons SE (zeJ.cons SE (zeJ.cons SO (zeJ.cons (fun vs vs' W W' _ hv l hd h=>by(show(vs' 9) = .agg [(zas (vs' 9) 0),(zas (vs' 9) 1)].toArray/\Ow W' 20 [] [(zas (vs' 9) 0)] z.Commits/\Ow W' 21 [] [(zas (vs' 9) 1)] z.Heads);rw[hv 9 (zaY O)];exact⟨h.1,h.2.1.upv l (zeg hd (c:=20) O),h.2.2.upv l (zeg hd (c:=21) O)⟩) (zeJ.cons (fun vs vs' W W' _ hv l hd h=>by(show(vs' 10) = .tuple [.agg [(zas (zas (vs' 10) 0) 0),(zas (zas (vs' 10) 0) 1)].toArray,vB a.2].toArray/\Ow W' 22 [] [(zas (zas (vs' 10) 0) 0)] a.1.Commits/\Ow W' 23 [] [(zas (zas (vs' 10) 0) 1)] a.1.Heads);rw[hv 10 (zaY O)];exact⟨h.1,h.2.1.upv l (zeg hd (c:=22) O),h.2.2.upv l (zeg hd (c:=23) O)⟩) (zeJ.cons (fun vs vs' W W' _ hv l hd h=>by(show(vs' 11) = .tuple [.agg [(zas (zas (vs' 10) 0) 0),(zas (zas (vs' 10) 0) 1)].toArray,vB a.2].toArray);rw[hv 10 (zaY O),hv 11 (zaY O)];exact h) (zeJ.cons (fun vs vs' W W' _ hv l hd h=>by(show(vs' 12) = .agg [(zas (zas (vs' 10) 0) 0),(zas (zas (vs' 10) 0) 1)].toArray);rw[hv 10 (zaY O),hv 12 (zaY O)];exact h) (zeJ.cons SE (zeJ.cons (fun vs vs' W W' _ hv l hd h=>by(show(vs' 14)=ptr (bx (pg (vs' 14)))/\Bx W' 24 (pg (vs' 14)) [.slice none 0 0, .slice none 0 0]);rw[hv 14 (zaY O)];exact⟨h.1,h.2.up l (zeg hd (c:=24) O)⟩) (zeJ.cons (fun vs vs' W W' _ hv l hd h=>by(show(vs' 14)=ptr (bx (pg (vs' 14)))/\Bx W' 24 (pg (vs' 14)) [(zas (zas (vs' 10) 0) 0),(zas (zas (vs' 10) 0) 1)]);rw[hv 10 (zaY O),hv 14 (zaY O)];exact⟨h.1,h.2.up l (zeg hd (c:=24) O)⟩) (zeJ.cons SE zeJ.nil))))))))))))))))),?_⟩
      ·intro vs i8 lW hN hV
       exact Trq (R.lda (cs:=[e,f]) ((a8.up I).up lW O).cells O O) O
      ·intro vs i9 lW hN hV
       exact Trq (R.lda (cs:=[e,f]) ((a8.up I).up lW O).cells O O) O
      ·intro vs ja lW hN hV
       have di:=bc.t lW O
       have be:vs 1 = .agg [e,f].toArray:=(hN 1 (zaY O))
       obtain⟨vs,rfl⟩:=zaC be
       refine Tr.mono (T.call O (p90 (k0:=17) (k1:=18) (Repo.rd (K:=[0]) x0.Commits x0.Heads (i.ul di) (k.ul di)) fx)) ?_
       rintro _ _ ⟨bg,rfl,f0,⟨bh,bi,rfl,f1,f2⟩⟩
       exact⟨bg,O,f0,(show(.agg [bh,bi].toArray:Value) = .agg [bh,bi].toArray/\Ow bg 17 [] [bh] y.Commits/\Ow bg 18 [] [bi] y.Heads from⟨O,f1,f2⟩)⟩
      ·intro vs jb lW hN hV
       exact Trq (R.mv (v:=vS x1) O) O
      ·intro vs jc lW hN hV
       exact Trq (R.mv (v:=vS x2) O) O
      ·intro vs jd lW hN hV
       exact Trq (R.mv (v:=x) O) O
      ·intro vs je lW hN hV
       exact Trq (R.mv (v:=vI B) O) O
      ·intro vs jf lW hN hV
       exact Trq (R.mv (v:=vI x3) O) O
      ·intro vs f3 lW hN hV
       have bj:vs 6=vI B:=(hN 6 (zaY O))
       obtain⟨vs,rfl⟩:=zaC bj
       have bk:vs 7=vI x3:=(hN 7 (zaY O))
       obtain⟨vs,rfl⟩:=zaC bk
       refine Tr.mono (T.bsS (α:=Int) (xs:=[B,x3]) 19 [] (W:=f3) [vI B,vI x3] (Each.cons ((rdI _)) (Each.cons ((rdI _)) Each.nil)) O) ?_
       rintro f4 _ ⟨dj,rfl,f5,f6⟩
       exact⟨dj,O,f5,(show Ow dj 19 [] [f4] ([B,x3]:List Int) from f6)⟩
      ·intro vs af lW hN hV
       obtain⟨bl,bm,f7⟩: ∃ bl bm:Value,vs 2 = .agg [bl,bm].toArray:=⟨_,_,(hN 2 (zaY O)).1⟩
       obtain⟨vs,rfl⟩:=zaC f7
       have f8:Ow af 17 [] [bl] y.Commits:=(hN 2 (zaY O)).2.1
       have f9:Ow af 18 [] [bm] y.Heads:=(hN 2 (zaY O)).2.2
       have bn:vs 3=vS x1:=(hN 3 (zaY O))
       obtain⟨vs,rfl⟩:=zaC bn
       have bp:vs 4=vS x2:=(hN 4 (zaY O))
       obtain⟨vs,rfl⟩:=zaC bp
       have bq:vs 5=x:=(hN 5 (zaY O))
       obtain⟨vs,rfl⟩:=zaC bq
       obtain⟨ga,gb⟩: ∃ v,vs 8=v:=⟨_,O⟩
       obtain⟨vs,rfl⟩:=zaC gb
       have gc:Ow af 19 [] [ga] ([B,x3]:List Int):=(hN 8 (zaY O))
       have gd:Rd (α:=List Vm.File) af [14,0] [x] G.1:=Ow.rdSh ((fj.up I).up lW O)
       refine Tr.mono (T.call O (p156 (K:=[0,14]) (k0:=20) (k1:=21) (c0:=17) (c1:=18) (c2:=19) (x0:=(Vm.Repo.mk y.Commits y.Heads)) f8 f9 (gd.sub (M:=[0,14]) O) gc O fy)) ?_
       rintro _ _ ⟨br,rfl,gf,⟨bu,bv,rfl,gg,gh⟩⟩
       exact⟨br,O,gf,(show(.agg [bu,bv].toArray:Value) = .agg [bu,bv].toArray/\Ow br 20 [] [bu] z.Commits/\Ow br 21 [] [bv] z.Heads from⟨O,gg,gh⟩)⟩
      ·intro vs dk lW hN hV
       have bw:=bc.t lW O
       have bz:vs 0 = .agg [e,f].toArray:=(hN 0 (zaY O))
       obtain⟨vs,rfl⟩:=zaC bz
       obtain⟨b0,b2,gj⟩: ∃ b0 b2:Value,vs 9 = .agg [b0,b2].toArray:=⟨_,_,(hN 9 (zaY O)).1⟩
       obtain⟨vs,rfl⟩:=zaC gj
       have gk:Ow dk 20 [] [b0] z.Commits:=(hN 9 (zaY O)).2.1
       have gm:Ow dk 21 [] [b2] z.Heads:=(hN 9 (zaY O)).2.2
       refine Tr.mono (T.call O (p155 (k0:=22) (k1:=23) (c0:=20) (c1:=21) (x1:=(Vm.Repo.mk z.Commits z.Heads)) (Repo.rd (K:=[0]) x0.Commits x0.Heads (i.ul bw) (k.ul bw)) gk gm (ck.ul bw) O fz)) ?_
       rintro _ _ ⟨b4,rfl,gn,⟨b5,b6,rfl,go,gr⟩⟩
       exact⟨b4,O,gn,(show(.tuple [.agg [b5,b6].toArray,vB a.2].toArray:Value) = .tuple [.agg [b5,b6].toArray,vB a.2].toArray/\Ow b4 22 [] [b5] a.1.Commits/\Ow b4 23 [] [b6] a.1.Heads from⟨O,go,gr⟩)⟩
      ·intro vs dl lW hN hV
       obtain⟨b,d,C⟩: ∃ b d:Value,vs 10 = .tuple [.agg [b,d].toArray,vB a.2].toArray:=⟨_,_,(hN 10 (zaY O)).1⟩
       obtain⟨vs,rfl⟩:=zaC C
       have jg:Ow dl 22 [] [b] a.1.Commits:=(hN 10 (zaY O)).2.1
       have jh:Ow dl 23 [] [d] a.1.Heads:=(hN 10 (zaY O)).2.2
       exact Trq (R.mv (v:= .tuple [Value.agg [b,d].toArray,vB a.2].toArray) O) O
      ·intro vs dm lW hN hV
       obtain⟨b,d,C⟩: ∃ b d:Value,vs 10 = .tuple [.agg [b,d].toArray,vB a.2].toArray:=⟨_,_,(hN 10 (zaY O)).1⟩
       obtain⟨vs,rfl⟩:=zaC C
       have ji:Ow dm 22 [] [b] a.1.Commits:=(hN 10 (zaY O)).2.1
       have jj:Ow dm 23 [] [d] a.1.Heads:=(hN 10 (zaY O)).2.2
       have J:vs 11 = .tuple [.agg [b,d].toArray,vB a.2].toArray:=(hN 11 (zaY O))
       obtain⟨vs,rfl⟩:=zaC J
       exact Trq (R.ext (vs:=[Value.agg [b,d].toArray,vB a.2]) (v:= .agg [b,d].toArray) O O) O
      ·intro vs dn lW hN hV
       obtain⟨b,d,C⟩: ∃ b d:Value,vs 10 = .tuple [.agg [b,d].toArray,vB a.2].toArray:=⟨_,_,(hN 10 (zaY O)).1⟩
       obtain⟨vs,rfl⟩:=zaC C
       have jk:Ow dn 22 [] [b] a.1.Commits:=(hN 10 (zaY O)).2.1
       have jl:Ow dn 23 [] [d] a.1.Heads:=(hN 10 (zaY O)).2.2
       have J:vs 11 = .tuple [.agg [b,d].toArray,vB a.2].toArray:=(hN 11 (zaY O))
       obtain⟨vs,rfl⟩:=zaC J
       exact Trq (R.ext (vs:=[Value.agg [b,d].toArray,vB a.2]) (v:=vB a.2) O O) O
      ·intro vs jm lW hN hV
       refine Tr.mono (T.alloc 24 (cs:=[.slice none 0 0, .slice none 0 0]) O) ?_
       rintro _ _ ⟨b7,dp,rfl,rfl,gs,gu⟩
       exact⟨dp,O,gs,(show(ptr (bx b7):Value)=ptr (bx b7)/\Bx dp 24 b7 [.slice none 0 0, .slice none 0 0] from⟨O,gu⟩)⟩
      ·intro vs b8 lW hN hV
       obtain⟨b,d,C⟩: ∃ b d:Value,vs 10 = .tuple [.agg [b,d].toArray,vB a.2].toArray:=⟨_,_,(hN 10 (zaY O)).1⟩
       obtain⟨vs,rfl⟩:=zaC C
       have gv:Ow b8 22 [] [b] a.1.Commits:=(hN 10 (zaY O)).2.1
       have gw:Ow b8 23 [] [d] a.1.Heads:=(hN 10 (zaY O)).2.2
       have b9:vs 12 = .agg [b,d].toArray:=(hN 12 (zaY O))
       obtain⟨vs,rfl⟩:=zaC b9
       obtain⟨A,cb⟩: ∃ A,vs 14=ptr (bx A):=⟨_,((hN 14 (zaY O))).1⟩
       obtain⟨vs,rfl⟩:=zaC cb
       have gx:Bx b8 24 A [.slice none 0 0, .slice none 0 0]:=(hN 14 (zaY O)).2
       refine Tr.mono (T.sta (vs:=[b,d]) gx O O (zaa gv.oc (zaa gw.oc za0)) O O) ?_
       rintro _ _ ⟨dq,rfl,gy,gz⟩
       exact⟨dq,O,gy,(show(ptr (bx A))=ptr (bx A)/\Bx dq 24 A [b,d] from⟨O,gz⟩)⟩
      ·intro vs jo lW hN hV
       have cc:vs 13=vB a.2:=(hN 13 (zaY O))
       obtain⟨vs,rfl⟩:=zaC cc
       exact Trq (R.as (v:=vB a.2) O) O
      ·intro vs cd dr hN
       have ds:=bc.t dr
       have dt:=(de.up I).up dr
       have bz:vs 0 = .agg [e,f].toArray:=(hN 0 (zaY O))
       obtain⟨vs,rfl⟩:=zaC bz
       have be:vs 1 = .agg [e,f].toArray:=(hN 1 (zaY O))
       obtain⟨vs,rfl⟩:=zaC be
       have bn:vs 3=vS x1:=(hN 3 (zaY O))
       obtain⟨vs,rfl⟩:=zaC bn
       have bp:vs 4=vS x2:=(hN 4 (zaY O))
       obtain⟨vs,rfl⟩:=zaC bp
       have bq:vs 5=x:=(hN 5 (zaY O))
       obtain⟨vs,rfl⟩:=zaC bq
       have bj:vs 6=vI B:=(hN 6 (zaY O))
       obtain⟨vs,rfl⟩:=zaC bj
       have bk:vs 7=vI x3:=(hN 7 (zaY O))
       obtain⟨vs,rfl⟩:=zaC bk
       obtain⟨b,d,C⟩: ∃ b d:Value,vs 10 = .tuple [.agg [b,d].toArray,vB a.2].toArray:=⟨_,_,(hN 10 (zaY O)).1⟩
       obtain⟨vs,rfl⟩:=zaC C
       have ah:Ow cd 22 [] [b] a.1.Commits:=(hN 10 (zaY O)).2.1
       have ai:Ow cd 23 [] [d] a.1.Heads:=(hN 10 (zaY O)).2.2
       have J:vs 11 = .tuple [.agg [b,d].toArray,vB a.2].toArray:=(hN 11 (zaY O))
       obtain⟨vs,rfl⟩:=zaC J
       have b9:vs 12 = .agg [b,d].toArray:=(hN 12 (zaY O))
       obtain⟨vs,rfl⟩:=zaC b9
       have cc:vs 13=vB a.2:=(hN 13 (zaY O))
       obtain⟨vs,rfl⟩:=zaC cc
       obtain⟨A,cb⟩: ∃ A,vs 14=ptr (bx A):=⟨_,(hN 15 (zaY O)).1⟩
       obtain⟨vs,rfl⟩:=zaC cb
       have du:Bx cd 24 A [b,d]:=(hN 15 (zaY O)).2
       have g0:vs 16=vB a.2:=(hN 16 (zaY O))
       obtain⟨vs,rfl⟩:=zaC g0
       refine ssr (mb O (Lw.r O (R.not O) (nl (cn Y (fun Y=>?_) fun Y=>?_))))
       ·refine sr (Lw.r O (R.lda (cs:=[b,d]) du.cells O O) (sta dt (zaa ah.oc (zaa ai.oc za0)) fun jp ce g2=>?_))
        have g4:=ds.t ce
        refine Ni O ?_
        obtain⟨jq,g5,cf,g6⟩:=(ah.up ce).dyeO 31
        have g7:=g4.t cf
        obtain⟨jr,g8,cg,g9⟩:=((ai.up ce).up cf).dyeO 32
        have ha:=g7.t cg
        cases Y
        rw[<- g8.trans (g5)]
        exact Cw.ret (zhl O ((g2.up cf).up cg) O (Res.mk ha ⟨b,d,O,(g6.up cg).s,g9.s⟩))
       ·refine sk (sr (Lw.r O (R.lda (cs:=[b,d]) du.cells O O) (sta dt (zaa ah.oc (zaa ai.oc za0)) fun js ch hb=>?_)))
        have hc:=ds.t ch
        refine Ni O ?_
        obtain⟨jt,he,ci,hf⟩:=(ah.up ch).dyeO 31
        have hg:=hc.t ci
        obtain⟨ju,hh,cj,hi⟩:=((ai.up ch).up ci).dyeO 32
        have hj:=hg.t cj
        cases Y
        rw[<- hh.trans (he)]
        exact Cw.ret (zhl O ((hb.up ci).up cj) O (Res.mk hj ⟨b,d,O,(hf.up cj).s,hi.s⟩))
 ·refine rg (mi O (Lw.lt O (mb O (bs Y (fun L Y=>?_) fun L Y=>?_))))
  ·exact psk 3 L O (Pb L O (mb O (psk 4 O O (Pb O O (nl ((ag) ⟨true,cq,O,Le.refl _ _,O,Y⟩))))))
  ·refine wak 3 L (ms O (ca Y (fun _=>p113) fun jv hk Y aj=>?_))
   have dv:=ct.n aj
   refine Lw.r O (R.not O) (Pb L O (mb O (bs Y (fun N Y=>?_) fun N Y=>?_)))
   ·exact psk 4 N O (Pb N O (nl ((ag) ⟨true,hk,O,aj,O,Y⟩)))
   ·exact wak 4 N (la (cu.up aj) (mi O (ca Y (fun _=>p89 (Repo.rd (K:=[0]) x0.Commits x0.Heads (i.ul dv) (k.ul dv))) fun hl hn Y ho=>Lw.r O (R.not O) (Pb N O (nl ((ag) ⟨(!hl),hn,O,(aj.j ho).w,O,Y⟩))))))
theorem p85 {x0 d f x1 x2 x3 k0 k1 r}(h:Rd W K [d,f] x0)(i:Gl 0 W K)(Y:Vm.zg1 x0 x1 x2 x3=some r):Q1 85 [.agg [d,f].toArray,vS x1,vS x2,vI x3] W [] fun W' v=> ∃ a b,v = .tuple [.agg [a,b].toArray,vI r.2].toArray/\Ow W' k0 [] [a] r.1.Commits/\Ow W' k1 [] [b] r.1.Heads:=
 zaz.adJ (J:=[]) (fun c=>bif Nat.beq c 0 then 0 else bif Nat.beq c 31 then k0 else bif Nat.beq c 32 then k1 else 0) (c85 (h.view _) (i.view _) Y) fun _ _ ⟨a,b,e,k,x⟩=>⟨a,b,e,k.one1.backN O,x.one1.backN O⟩
theorem c25 {x0 z A x1 x2 x3 r}(N:Rd W0 [0] [z,A] x0)(B:Gl 0 W0 [0])(Y:Vm.zgK x0 x1 x2 x3=some r):Q0 25 [.agg [z,A].toArray,vS x1,vS x2,vI x3] W0 fun Wf v=> ∃ C D,v = .tuple [.agg [C,D].toArray,vI r.2].toArray/\OwS Wf [31] [] [C] r.1.Commits/\OwS Wf [32] [] [D] r.1.Heads:=by
 unfold Vm.zgK at Y
 obtain⟨ai,aj,E,F,G⟩:=Repo.split N
 simp only[List.cons.injEq,and_true,true_and]at E
 obtain⟨rfl,rfl⟩:=E
 refine zaz.of Tryz.func25 O O O O (sr (bo 2 O fun g1 W1 P H=>?_))
 have Q:=P.o
 refine al 3 [.slice none 0 0, .slice none 0 0] fun g3 W3 h I=>?_
 have b:=Q.n h
 refine Ni O (ssr (la (H.up h) (ca Y (fun _=>p43 (Repo.rd (K:=[0]) x0.Commits x0.Heads (F.ul b) (G.ul b)) (B.ul b)) fun z9 aq Y d=>?_)))
 have a:=b.n d
 refine Lw.r O (R.not O) (nl (cn Y (fun Y=>?_) fun Y=>?_))
 ·refine sr (Lw.r O (R.bd (zs:=[.slice none 0 0, .slice none 0 0]) (cs:=[.slice none 0 0, .slice none 0 0]) [] O O O ze4) (sta (I.up d) (zaa O (zaa O za0)) fun ar S T=>?_))
  have U:=a.t S
  refine Ni O ?_
  cases Y
  exact Cw.ret (zhl O T O (Res.mk U ⟨.slice none 0 0, .slice none 0 0,O,(znU []).sub O O,(znU []).sub O O⟩))
 ·refine sk (sr (la ((H.up h).up d) (ms O (ms O (mi O (cr Y (fun _=>p85 (k0:=4) (k1:=5) (Repo.rd (K:=[0]) x0.Commits x0.Heads (F.ul a) (G.ul a)) (B.ul a)) ?_))))))
  rintro i _ au Y J ⟨e,f,rfl,L,M⟩
  have V:=a.n J
  refine Lw.r O (R.ext (vs:=[.agg [e,f].toArray,vI i.2]) (v:= .agg [e,f].toArray) O O) (Lw.r O (R.ext (vs:=[.agg [e,f].toArray,vI i.2]) (v:=vI i.2) O O) (sta ((I.up d).up J) (zaa L.oc (zaa M.oc za0)) fun av k W=>?_))
  have X:=V.t k
  refine Ni O ?_
  obtain⟨aw,Z,x,aa⟩:=(L.up k).dyeO 31
  have ac:=X.t x
  obtain⟨ax,ae,y,af⟩:=((M.up k).up x).dyeO 32
  have ah:=ac.t y
  cases Y
  rw[<- ae.trans (Z)]
  exact Cw.ret (zhl O ((W.up x).up y) O (Res.mk ah ⟨e,f,O,(aa.up y).s,af.s⟩))
theorem p25 {x0 d f x1 x2 x3 k0 k1 r}(h:Rd W K [d,f] x0)(i:Gl 0 W K)(Y:Vm.zgK x0 x1 x2 x3=some r):Q1 25 [.agg [d,f].toArray,vS x1,vS x2,vI x3] W [] fun W' v=> ∃ a b,v = .tuple [.agg [a,b].toArray,vI r.2].toArray/\Ow W' k0 [] [a] r.1.Commits/\Ow W' k1 [] [b] r.1.Heads:=
 zaz.adJ (J:=[]) (fun c=>bif Nat.beq c 0 then 0 else bif Nat.beq c 31 then k0 else bif Nat.beq c 32 then k1 else 0) (c25 (h.view _) (i.view _) Y) fun _ _ ⟨a,b,e,k,x⟩=>⟨a,b,e,k.one1.backN O,x.one1.backN O⟩
end Go.Sx
