/- Walks: each function answers as its model, printed by a program of ours. Conditions: the arguments read as they are given. -/
import Derived.Test.YtiahldhbknpmiaaGreatDoorBTs
import Derived.Test.YtiahldhbknpmiaaGreatDoorBM14
import Derived.Test.YtiahldhbknpmiaaGreatDoorBW0
import Derived.Test.YtiahldhbknpmiaaGreatDoorBW1
import Derived.Test.YtiahldhbknpmiaaGreatDoorBW10
import Derived.Test.YtiahldhbknpmiaaGreatDoorBW15
import Derived.Test.YtiahldhbknpmiaaGreatDoorBW3
import Derived.Test.YtiahldhbknpmiaaGreatDoorBW4
import Derived.Test.YtiahldhbknpmiaaGreatDoorBW5
import Derived.Test.YtiahldhbknpmiaaGreatDoorBW6
import Derived.Test.YtiahldhbknpmiaaGreatDoorBW8
import Derived.Test.YtiahldhbknpmiaaGreatDoorBW9
import Derived.Test.YtiahldhbknpmiaaGreatDoorBE
namespace Go.Sx
open Go Go.Proofs Go.Vm Rp
set_option linter.unusedVariables false
set_option linter.unusedSimpArgs false
variable {W W0:CW}{K:List Nat}
theorem c121 {x0 y r}(h0:Rd W0 [0] [y] x0)(Y:Vm.zjK x0=some r):Q0 121 [y] W0 fun Wf v=> ∃ J L,v = .tuple [.agg [J,L].toArray,vI r.2.1,vI r.2.2].toArray/\OwS Wf [31] [] [J] r.1.Commits/\OwS Wf [32] [] [L] r.1.Heads:=by
 unfold Vm.zjK at Y
 refine zaY.of Tryz.func121 O O O O (sr (al 2 [.slice none 0 0, .slice none 0 0] fun g1 W1 l1 b1=>?_))
 have N:=l1.o
 refine Gi O (Ni O (sr (mv y O (cr Y (fun _=>p127 (k0:=3) (h0.ul N)) ?_))))
 rintro z _ W6 Y P ⟨a6,a7,rfl,ai,aj⟩
 have A:=aj.sub (M:=[0]) O
 have a8:=N.n P
 refine Np O (sr (mp O (cr Y (fun _=>p128 (k0:=4) (k1:=5) (c0:=3) (x0:=z) ai A O) ?_)))
 rintro a _ a9 Y Q ⟨k,x,rfl,S,U,am⟩
 have B:=Q.s
 refine al 6 [.slice none 0 0, .slice none 0 0] fun ba bb d an=>?_
 have C:=d.o
 refine sta an (zai (S.up d).oc (zai (U.up d).oc zbt)) fun bc h V=>?_
 have D:=h.s
 have W:=(S.up d).up h
 have X:=(U.up d).up h
 refine nl (sr (mp O (la V (cr Y (fun _=>p130 (K:=[0,4,5]) (c0:=3) (x0:=(Vm.l30Rd.mk z.b a.2)) (x1:=(Vm.Repo.mk a.1.Commits a.1.Heads)) ((am.up d).up h) ((A.ul ((B.trans C).trans D)).sub (M:=[0,4,5]) O) ((Repo.rd (K:=[4,5]) a.1.Commits a.1.Heads (W.rd.sub (M:=[4,5]) O) (X.rd.sub (M:=[4,5]) O)).sub (M:=[0,4,5]) O) O) ?_))))
 rintro ao _ be Y i ⟨rfl,ap⟩
 have Z:=i.s
 refine Ni O (Cw.seq (Cw.draw [3] [(0,1),(1,0),(2,0),(3,1),(4,2),(5,3),(6,0),(7,0)] mixed (by kernel_rfl) fun bg f=>?_))
 have aa:=f.o
 have E:=(W.up i).up f
 have F:=(X.up i).up f
 have ac:=(V.up i).up f
 refine Mw.q O O (fun _ c=>R.lda (cs:=[k,x]) (ac.clcs O c) O O) (Di O (Dp O (Mw.q O O (fun _ c=>R.lda (cs:=[k,x]) (ac.clcs O c) O O) ?_)))
 obtain⟨bh,aq,Y⟩:=ob Y
 refine Mw.t O O (T.call O (p130 (K:=[0,4,5]) (c0:=3) (x0:=(Vm.l30Rd.mk z.b ao.2)) (x1:=(Vm.Repo.mk a.1.Commits a.1.Heads)) (ap.up f) ((A.ul ((((B.trans C).trans D).trans Z).trans aa)).sub (M:=[0,4,5]) O) ((Repo.rd (K:=[4,5]) a.1.Commits a.1.Heads (E.rd.sub (M:=[4,5]) O) (F.rd.sub (M:=[4,5]) O)).sub (M:=[0,4,5]) O) O aq)) ?_
 rintro _ _ ⟨bi,rfl,e,⟨rfl,bj⟩⟩
 have ar:=(((((a8.trans B).trans C).trans D).trans Z).trans aa).t e
 refine m0 e fun bk=>Mw.lu O (T.sta (vs:=[k,x]) (((((((b1.up P).up Q).up d).up h).up i).up f).up e) O O (zai (E.up e).oc (zai (F.up e).oc zbt)) O O) ?_
 rintro _ _ ⟨bl,rfl,G,au⟩
 have av:=ar.t G
 refine Hi O (Hi O (Mw.nil ?_))
 obtain⟨bm,aw,H,ax⟩:=((E.up e).up G).dyeO 31
 have ay:=av.t H
 obtain⟨bn,az,I,a0⟩:=(((F.up e).up G).up H).dyeO 32
 have a1:=ay.t I
 cases Y
 rw[<- az.trans (aw)]
 exact Cw.ret (zvS (zjD.c O ((au.up H).up I) (zjD.t O (zjD.t O zjD.n))) (Res.mk a1 ⟨k,x,O,(ax.up I).s,a0.s⟩))
theorem p121 {x0 d k0 k1 r}(f:Rd W K [d] x0)(Y:Vm.zjK x0=some r):Q1 121 [d] W [] fun W' v=> ∃ a b,v = .tuple [.agg [a,b].toArray,vI r.2.1,vI r.2.2].toArray/\Ow W' k0 [] [a] r.1.Commits/\Ow W' k1 [] [b] r.1.Heads:=
 zaY.adJ (J:=[]) (fun c=>bif Nat.beq c 0 then 0 else bif Nat.beq c 31 then k0 else bif Nat.beq c 32 then k1 else 0) (c121 (f.view _) Y) fun _ _ ⟨a,b,e,h,i⟩=>⟨a,b,e,h.one1.backN O,i.one1.backN O⟩
theorem c51 {x0 e r}(C:Rd W0 [0] [e] x0)(Y:Vm.zhT x0=some r):Q0 51 [e] W0 fun Wf v=> ∃ k x,v = .tuple [.agg [k,x].toArray,vI r.2.1,vI r.2.2].toArray/\OwS Wf [31] [] [k] r.1.Commits/\OwS Wf [32] [] [x] r.1.Heads:=by
 unfold Vm.zhT at Y
 refine zaY.of Tryz.func51 O O O O (sr (al 2 [.slice none 0 0, .slice none 0 0] fun P Q D E=>?_))
 have y:=D.o
 refine Gi O (Ni O (sr (mv e O (cr Y (fun _=>p121 (k0:=3) (k1:=4) (C.ul y)) ?_))))
 rintro a _ S Y z ⟨b,d,rfl,A,B⟩
 have F:=y.n z
 refine Lw.r O (R.ext (vs:=[.agg [b,d].toArray,vI a.2.1,vI a.2.2]) (v:= .agg [b,d].toArray) O O) (Lw.r O (R.ext (vs:=[.agg [b,d].toArray,vI a.2.1,vI a.2.2]) (v:=vI a.2.1) O O) (Lw.r O (R.ext (vs:=[.agg [b,d].toArray,vI a.2.1,vI a.2.2]) (v:=vI a.2.2) O O) (sta (E.up z) (zai A.oc (zai B.oc zbt)) fun T f G=>?_)))
 have H:=F.t f
 refine Gi O (Ni O ?_)
 obtain⟨U,I,h,J⟩:=(A.up f).dyeO 31
 have K:=H.t h
 obtain⟨V,L,i,M⟩:=((B.up f).up h).dyeO 32
 have N:=K.t i
 cases Y
 rw[<- L.trans (I)]
 exact Cw.ret (zvS (zjD.c O ((G.up h).up i) (zjD.t O (zjD.t O zjD.n))) (Res.mk N ⟨b,d,O,(J.up i).s,M.s⟩))
theorem p51 {x0 d k0 k1 r}(f:Rd W K [d] x0)(Y:Vm.zhT x0=some r):Q1 51 [d] W [] fun W' v=> ∃ a b,v = .tuple [.agg [a,b].toArray,vI r.2.1,vI r.2.2].toArray/\Ow W' k0 [] [a] r.1.Commits/\Ow W' k1 [] [b] r.1.Heads:=
 zaY.adJ (J:=[]) (fun c=>bif Nat.beq c 0 then 0 else bif Nat.beq c 31 then k0 else bif Nat.beq c 32 then k1 else 0) (c51 (f.view _) Y) fun _ _ ⟨a,b,e,h,i⟩=>⟨a,b,e,h.one1.backN O,i.one1.backN O⟩
theorem c169 {x0 z A x1 x2 r}(h0:Rd W0 [0] [z,A] x0)(Y:Vm.zjj x0 x1 x2=some r):Q0 169 [.agg [z,A].toArray,vI x1,vI x2] W0 fun Wf v=> ∃ u0,v=u0/\OwS Wf LL [] [u0] r:=by
 unfold Vm.zjj at Y
 obtain⟨c4,c5,aj,B,M⟩:=Repo.split h0
 simp only[List.cons.injEq,and_true,true_and]at aj
 obtain⟨rfl,rfl⟩:=aj
 refine zaY.of Tryz.func169 O O O O (sr (bo 2 O fun g1 W1 l1 b1=>?_))
 have a2:=l1.o
 refine Nv (.slice none 0 0) O (Cw.seq (Cw.draw [] [(0,1),(1,0),(3,1),(4,0),(2,2),(5,3),(6,0),(7,0)] mixed (by kernel_rfl) fun W3 l3=>?_))
 have N:=a2.n l3
 have P:=b1.up l3
 refine Mw.q O O (fun _ c=>R.lda (cs:=[z,A]) (P.clcs O c) O O) (Di O (Mw.q O O (fun _ c=>R.lda (cs:=[z,A]) (P.clcs O c) O O) (Di O ?_)))
 obtain⟨z8,e9,Y⟩:=ob Y
 refine Mw.t O O (T.call O (p126 (k0:=3) (Repo.rd (K:=[0]) x0.Commits x0.Heads (B.ul N) (M.ul N)) e9)) ?_
 rintro am _ ⟨c9,rfl,l10,⟨_,rfl,bm⟩⟩
 have Q:=N.n l10
 refine m0 l10 fun da=>?_
 obtain⟨bn,bp,Y⟩:=ob Y
 refine Mw.l O O (T.call O (p126 (k0:=4) (Repo.rd (K:=[0]) x0.Commits x0.Heads (B.ul Q) (M.ul Q)) bp)) ?_
 rintro an _ ⟨db,rfl,S,⟨_,rfl,bq⟩⟩
 have ao:=Q.n S
 have ap:=(P.up l10).up S
 refine Hv am O (Hv an O (Mw.nil (sr (fl ap O (Lw.ln x0.Commits (B.ul ao) O ?_)))))
 obtain⟨U,br,Y⟩:=ob Y
 refine Lw.t O (T.mk (α:=Bool) 5 [] (n:=(x0.Commits.length:Int)) O O br) ?_
 rintro d _ ⟨aq,rfl,C,ar⟩
 have bu:=ao.n C
 refine Nv d O (ssr (mv d O (Lw.ln U ar.rd O (mi O (nl (Cw.block ?_))))))
 obtain⟨bv,bw,Y⟩:=zdY Y
 refine Cw.loop 28 44 [10,28] (fun m l w=> ∃ a V au D,CW.w D=w/\Le [5] aq D/\l=[au,vI a]/\Ow D 5 [] [d] V/\Vm.zfL z8 bn U bv m a V=some r) _ ⟨0,U,undef,aq,O,Le.refl _ _,O,ar,Y⟩ ?_
 rintro(_ |dc) _ _ σ ⟨a,V,au,D,rfl,e,rfl,f,Y⟩
 ·cases Y
 unfold Vm.zfL at Y
 have bz:=bu.t e
 have av:=((bm.up S).up C).up e
 have aw:=(bq.up C).up e
 refine sr (Lw.lt O (nl (Cw.seq (cn Y (fun Y=>?_) fun Y=>?_))))
 ·refine sk (Cw.seq (Cw.block (sr (mi O (Ni O (rg (mv d O (mi O (mv am O (mi O ?_))))))))))
  obtain⟨dd,ax,Y⟩:=ob Y
  refine Lw.r O (R.ix (α:=Bool) av.rd ax O O O) (Lw.r O (R.ld O O (av.rd.at_ ax).bool) (mb O (bs Y (fun i Y=>?_) fun i Y=>?_)))
  ·refine wak 4 i (mv an O (mi O ?_))
   obtain⟨de,ay,Y⟩:=ob Y
   refine Lw.r O (R.ix (α:=Bool) aw.rd ay O O O) (Lw.r O (R.ld O O (aw.rd.at_ ay).bool) (Pb i O ?_))
   obtain⟨df,b0,Y⟩:=ob Y
   refine Lw.r O (R.ix (α:=Bool) f.rd b0 O O O) ?_
   obtain⟨b2,b3,Y⟩:=ob Y
   refine Lw.u (T.stS (K':=[]) f (rdB _) b3 O O O) ?_
   rintro _ _ ⟨b4,rfl,b6,b7⟩
   exact nl (rg (Lw.add O (mi O (nl ((agm) ⟨w64 (a+1),b2,vI a,b4,O,(e.j b6).w,O,b7,Y⟩)))))
  ·refine psk 4 i O (Pb i O ?_)
   obtain⟨dg,b8,Y⟩:=ob Y
   refine Lw.r O (R.ix (α:=Bool) f.rd b8 O O O) ?_
   obtain⟨b9,cb,Y⟩:=ob Y
   refine Lw.u (T.stS (K':=[]) f (rdB _) cb O O O) ?_
   rintro _ _ ⟨cc,rfl,cd,ce⟩
   exact nl (rg (Lw.add O (mi O (nl ((agm) ⟨w64 (a+1),b9,vI a,cc,O,(e.j cd).w,O,ce,Y⟩)))))
 ·refine Cw.exit ?_
  rw[bw]at Y
  refine sr (mv d O (cr Y (fun _=>p200 (K:=[5]) (k0:=6) f.rd) ?_))
  rintro cf h dh Y W ⟨_,rfl,cg⟩
  have ch:=bz.n W
  refine Nv h O (ssr (mv d O (cr Y (fun _=>p134 (K:=[5]) (k0:=7) (f.up W).rd) ?_)))
  rintro az di a0 Y X ⟨_,rfl,Z⟩
  have ci:=ch.n X
  refine Lw.ln az Z.rd O (mi O (nl (Cw.block ?_)))
  obtain⟨cj,ck,Y⟩:=zdY Y
  refine Cw.loop 50 70 [13,15,50] (fun m l w=> ∃ E F a1 aa G,CW.w G=w/\Le [6] a0 G/\l=[a1,aa,vI E]/\Ow G 6 [] [h] F/\Vm.zea x0 az cj m E F=some r) _ ⟨0,cf,undef,undef,a0,O,Le.refl _ _,O,(cg.up X),Y⟩ ?_
  rintro(_ |dj) _ _ σ ⟨E,F,a1,aa,G,rfl,k,rfl,a3,Y⟩
  ·cases Y
  unfold Vm.zea at Y
  have ac:=ci.t k
  refine sr (Lw.lt O (nl (Cw.seq (cn Y (fun Y=>?_) fun Y=>?_))))
  ·refine sk (Cw.seq (Cw.block (sr ?_)))
   obtain⟨a5,a6,Y⟩:=ob Y
   refine Lw.r O (R.ix (α:=Int) (Z.up k).rd a6 O O O) (Lw.r O (R.ld O O ((Z.up k).rd.at_ a6).int) (Ni O (sr (la (((((ap.up C).up e).up W).up X).up k) (mi O (cr Y (fun _=>p126 (k0:=8) (Repo.rd (K:=[0]) x0.Commits x0.Heads (B.ul ac) (M.ul ac))) ?_))))))
   rintro dk dl dm Y a7 ⟨_,rfl,cl⟩
   refine cr Y (fun _=>p134 (K:=[8]) (k0:=9) cl.rd) ?_
   rintro a8 dn a9 Y ba ⟨_,rfl,ae⟩
   refine Lw.ln a8 ae.rd O (mi O (nl (Cw.block ?_)))
   obtain⟨cm,co,Y⟩:=zdY Y
   refine Cw.loop 59 69 [15,59] (fun m l w=> ∃ H x af b,CW.w b=w/\Le [6] a9 b/\l=[af,vI H]/\Ow b 6 [] [h] x/\Vm.zgr a5 a8 cm m H x=some r) _ ⟨0,F,aa,a9,O,Le.refl _ _,O,((a3.up a7).up ba),Y⟩ ?_
   rintro(_ |dp) _ _ σ ⟨H,x,af,b,rfl,I,rfl,J,Y⟩
   ·cases Y
   unfold Vm.zgr at Y
   refine sr (Lw.lt O (nl (Cw.seq (cn Y (fun Y=>?_) fun Y=>?_))))
   ·refine sk ?_
    obtain⟨cp,cq,Y⟩:=zdY Y
    refine Cw.join 61 68 [15] (fun l w=> ∃ L ah y,CW.w y=w/\Le [6] b y/\l=[ah]/\Ow y 6 [] [h] L/\cp L=some r) ?_ ?_
    ·rintro _ _ σ ⟨L,ah,y,rfl,ct,rfl,cu,Y⟩
     rw[cq]at Y
     exact rg (Lw.add O (mi O (nl ((agm) ⟨w64 (H+1),L,ah,y,O,(I.j ct).w,O,cu,Y⟩))))
    ·refine Cw.block (sr ?_)
     obtain⟨bb,bc,Y⟩:=ob Y
     refine Lw.r O (R.ix (α:=Int) (ae.up I).rd bc O O O) (Lw.r O (R.ld O O ((ae.up I).rd.at_ bc).int) (Ni O (sr (mi O (mi O (Lw.ne O (nl (cn Y (fun Y=>?_) fun Y=>?_))))))))
     ·refine rg (mv h O (mi O ?_))
      obtain⟨dq,cv,Y⟩:=ob Y
      refine Lw.r O (R.ix (α:=Bool) J.rd cv O O O) ?_
      obtain⟨cw,cx,Y⟩:=ob Y
      refine Lw.u (T.stS (K':=[]) J (rdB _) cx O O O) ?_
      rintro _ _ ⟨cy,rfl,cz,c0⟩
      exact nl ((ag) ⟨cw,vI bb,cy,O,cz,O,c0,Y⟩)
     ·exact sk ((ag) ⟨x,vI bb,b,O,Le.refl _ _,O,J,Y⟩)
   ·refine Cw.exit ?_
    rw[co]at Y
    exact rg (Lw.add O (mi O (nl ((agm) ⟨w64 (E+1),x,vI a5,af,b,O,(((k.j a7).j ba).j I).w,O,J,Y⟩))))
  ·refine Cw.exit ?_
   rw[ck]at Y
   refine sr (mv h O (cr Y (fun _=>p134 (K:=[6]) (k0:=10) a3.rd) ?_))
   rintro dr be ds Y c1 ⟨_,rfl,c2⟩
   have c3:=ac.n c1
   refine Nv be O ?_
   cases Y
   exact Cw.ret (zmc O (Res.mk c3 ⟨be,O,c2.s.sub O O⟩))
theorem p169 {x0 b d x1 x2 k0 r}(f:Rd W K [b,d] x0)(Y:Vm.zjj x0 x1 x2=some r):Q1 169 [.agg [b,d].toArray,vI x1,vI x2] W [] fun W' v=> ∃ a,v=a/\Ow W' k0 [] [a] r:=
 (c169 (f.view _) Y).ad (fk k0) fun _ _ ⟨a,e,h⟩=>⟨a,e,h.back (zk0 _)⟩
theorem c104 {x0 d e x1 x2 r}(H:Rd W0 [0] [d,e] x0)(Y:Vm.zhU x0 x1 x2=some r):Q0 104 [.agg [d,e].toArray,vI x1,vI x2] W0 fun Wf v=> ∃ x,v=x/\Rd Wf [0] [x] r:=by
 unfold Vm.zhU at Y
 obtain⟨S,U,y,z,A⟩:=Repo.split H
 simp only[List.cons.injEq,and_true,true_and]at y
 obtain⟨rfl,rfl⟩:=y
 refine zaY.of Tryz.func104 O O O O (sr (bo 2 O fun V W I B=>?_))
 have f:=I.o
 refine Nv (.slice none 0 0) O (sr (la B (mi O (mi O (cr Y (fun _=>p169 (k0:=3) (Repo.rd (K:=[0]) x0.Commits x0.Heads (z.ul f) (A.ul f))) ?_)))))
 rintro C a X Y D ⟨_,rfl,E⟩
 have F:=f.n D
 refine Nv a O (ssr (mv a O (Lw.ln C E.rd O (Lw.eq O (nl (cn Y (fun Y=>?_) fun Y=>?_))))))
 ·refine sr (Nv (.slice none 0 0) O ?_)
  cases Y
  exact Cw.ret (zmc O (Res.mk F ⟨.slice none 0 0,O,(rdN (K:=[0]))⟩))
 ·refine sk (Cw.seq (Cw.draw [] [(0,1),(1,0),(2,0),(3,0),(4,0),(5,0),(6,1),(7,3),(8,0)] mixed (by kernel_rfl) fun Z h=>?_))
  have i:=F.n h
  have b:=E.up h
  refine Mw.q O O (fun _ c=>R.lda (cs:=[d,e]) (((B.up D).up h).clcs O c) O O) (Dv a O (Dv a O (Mw.p O O (fun _=>zp7 (xs:=C) b.rd O) (Mw.p O O (fun _=>R.sub O O) ?_))))
  obtain⟨aa,k,Y⟩:=ob Y
  refine Mw.p O O (fun _=>R.ix (α:=Int) b.rd k O O O) (Mw.q O O (fun _ c=>R.ld O O (zaW (b.rd.at_ k).1 O (b.rd.at_ k).int c)) ?_)
  obtain⟨ac,J,Y⟩:=ob Y
  refine Mw.l O O (T.call O (p105 (Repo.rd (K:=[0]) x0.Commits x0.Heads (z.ul i) (A.ul i)) J)) ?_
  rintro G _ ⟨ae,rfl,L,⟨_,rfl,N⟩⟩
  have P:=N.sub (M:=[0]) O
  have Q:=i.n L
  refine Hv G O (Mw.nil ?_)
  cases Y
  exact Cw.ret (zmc O (Res.mk Q ⟨G,O,P⟩))
theorem p104 {x0 b d x1 x2 r}(f:Rd W K [b,d] x0)(Y:Vm.zhU x0 x1 x2=some r):Q1 104 [.agg [b,d].toArray,vI x1,vI x2] W [] fun W' v=> ∃ a,v=a/\Rd W' (0::K) [a] r:=
 (c104 (f.view _) Y).ad (fk 0) fun _ _ ⟨a,e,h⟩=>⟨a,e,h.back O⟩
theorem c52 {x0 d e x1 x2 r}(P:Rd W0 [0] [d,e] x0)(B:Gl 0 W0 [0])(Y:Vm.zjd x0 x1 x2=some r):Q0 52 [.agg [d,e].toArray,vI x1,vI x2] W0 fun Wf v=> ∃ C,v = .tuple [C,vB r.2].toArray/\OwS (α:=List (Sh Vm.File)) Wf LL [0] [C] r.1:=by
 unfold Vm.zjd at Y
 obtain⟨av,aw,D,h,i⟩:=Repo.split P
 simp only[List.cons.injEq,and_true,true_and]at D
 obtain⟨rfl,rfl⟩:=D
 refine zaY.of Tryz.func52 O O O O (sr (bo 2 O fun g1 Q S E=>?_))
 have U:=S.o
 refine Gv (.slice none 0 0) O (Nb O (ssr (la E (mi O (mi O (Lw.t O (T.bsS (α:=Int) (xs:=[x1,x2]) 3 [] (W:=Q) [vI x1,vI x2] (Each.cons ((rdI _)) (Each.cons ((rdI _)) Each.nil)) O) ?_))))))
 rintro v3 _ ⟨W3,rfl,F,V⟩
 have k:=U.n F
 refine ca Y (fun _=>p122 (K:=[0,3]) ((Repo.rd (K:=[0]) x0.Commits x0.Heads (h.ul k) (i.ul k)).sub (M:=[0,3]) O) (V.rd.sub (M:=[0,3]) O) ((B.ul k).sub (M:=[0,3]) O)) fun z9 a1 Y G=>?_
 have H:=k.n G
 refine Lw.r O (R.not O) (nl (cn Y (fun Y=>?_) fun Y=>?_))
 ·refine sr (Gv (.slice none 0 0) O (Nb O ?_))
  cases Y
  exact Cw.ret (zom O O (Res.mk H ⟨.slice none 0 0,O,(zqu [0]).sub O O⟩))
 ·refine sk (Cw.seq (Cw.draw [] [(0,1),(1,0),(2,0),(4,1),(5,0),(7,1),(8,0),(3,2),(6,2),(9,2),(10,3),(11,0),(12,0),(13,0),(14,0)] mixed (by kernel_rfl) fun a3 I=>?_))
  have z:=H.n I
  have A:=((E.up F).up G).up I
  refine Mw.q O O (fun _ c=>R.lda (cs:=[d,e]) (A.clcs O c) O O) (Di O (Di O (Mw.q O O (fun _ c=>R.lda (cs:=[d,e]) (A.clcs O c) O O) (Di O (Mw.q O O (fun _ c=>R.lda (cs:=[d,e]) (A.clcs O c) O O) (Di O ?_))))))
  obtain⟨a5,X,Y⟩:=ob Y
  refine Mw.t O O (T.call O (p104 (Repo.rd (K:=[0]) x0.Commits x0.Heads (h.ul z) (i.ul z)) X)) ?_
  rintro a6 _ ⟨a7,rfl,J,⟨_,rfl,Z⟩⟩
  have aa:=Z.sub (M:=[0]) O
  have a:=z.n J
  refine m0 J fun ac=>?_
  obtain⟨a8,ae,Y⟩:=ob Y
  refine Mw.t O O (T.call O (p105 (Repo.rd (K:=[0]) x0.Commits x0.Heads (h.ul a) (i.ul a)) ae)) ?_
  rintro a9 _ ⟨ba,rfl,L,⟨_,rfl,af⟩⟩
  have ah:=af.sub (M:=[0]) O
  have f:=L.o
  refine mc ac L fun ai=>?_
  obtain⟨bb,aj,Y⟩:=ob Y
  refine Mw.t O O (T.call O (p105 (Repo.rd (K:=[0]) x0.Commits x0.Heads (h.ul (a.trans f)) (i.ul (a.trans f))) aj)) ?_
  rintro bc _ ⟨be,rfl,N,⟨_,rfl,ak⟩⟩
  have am:=ak.sub (M:=[0]) O
  have x:=N.o
  refine mc ai N fun bg=>?_
  obtain⟨y,an,Y⟩:=ob Y
  refine Mw.l O O (T.call O (p50 (k0:=4) (aa.ul (f.trans x)) (ah.ul x) am (B.ul ((a.trans f).trans x)) an)) ?_
  rintro _ _ ⟨ao,rfl,ap,⟨b,rfl,aq⟩⟩
  have ar:Ow (α:=List (Sh Vm.File)) ao 4 [0] [b] y.1:=aq.sub O
  have au:=((a.trans f).trans x).n ap
  refine Mw.p O O (fun _=>R.ext (vs:=[b,vB y.2]) (v:=b) O O) (Mw.p O O (fun _=>R.ext (vs:=[b,vB y.2]) (v:=vB y.2) O O) (Hv b O (Hb O (Mw.nil ?_))))
  cases Y
  exact Cw.ret (zom O O (Res.mk au ⟨b,O,ar.s.sub O O⟩))
theorem p52 {x0 b d x1 x2 k0 r}(f:Rd W K [b,d] x0)(h:Gl 0 W K)(Y:Vm.zjd x0 x1 x2=some r):Q1 52 [.agg [b,d].toArray,vI x1,vI x2] W [] fun W' v=> ∃ a,v = .tuple [a,vB r.2].toArray/\Ow (α:=List (Sh Vm.File)) W' k0 (0::K) [a] r.1:=
 (c52 (f.view _) (h.view _) Y).ad (fk k0) fun _ _ ⟨a,e,i⟩=>⟨a,e,i.backS (zk0 _) O⟩
theorem c53 {x0 z A x1 x2 r}(Z:Rd W0 [0] [z,A] x0)(Y:Vm.zjL x0 x1 x2=some r):Q0 53 [.agg [z,A].toArray,vI x1,vI x2] W0 fun Wf v=> ∃ I,v = .tuple [I,vB r.2].toArray/\OwS Wf LL [] [I] r.1:=by
 unfold Vm.zjL at Y
 obtain⟨a1,a3,J,i,L⟩:=Repo.split Z
 simp only[List.cons.injEq,and_true,true_and]at J
 obtain⟨rfl,rfl⟩:=J
 refine zaY.of Tryz.func53 O O O O (sr (bo 2 O fun g1 W1 l1 k=>?_))
 have x:=l1.o
 refine Gv (.slice none 0 0) O (Nb O (Cw.seq ?_))
 obtain⟨K5,af,Y⟩:=zdY Y
 refine Cw.join 10 30 [30] (fun l w=> ∃ B C,CW.w C=w/\Le [] W1 C/\l=[vB B]/\K5 B=some r) ?_ ?_
 ·rintro _ _ σ ⟨B,C,rfl,N,rfl,Y⟩
  rw[af]at Y
  have P:=x.n N
  refine cn Y (fun Y=>?_) fun Y=>?_
  ·refine sr (Gv (.slice none 0 0) O (Nb O ?_))
   cases Y
   exact Cw.ret (zom O O (Res.mk P ⟨.slice none 0 0,O,(zoR []).sub O O⟩))
  ·refine sk (Cw.seq (Cw.draw [] [(0,1),(1,0),(2,0),(4,0),(5,1),(6,0),(7,0),(8,0),(9,1),(10,0),(11,1),(12,0),(13,0),(14,0),(15,1),(3,2),(16,2),(17,0),(18,0),(19,0),(20,0),(21,0)] mixed (by kernel_rfl) fun W9 Q=>?_))
   have D:=P.n Q
   have E:=(k.up N).up Q
   refine Mw.q O O (fun _ c=>R.lda (cs:=[z,A]) (E.clcs O c) O O) (Di O (Di O (Dfl E O O O (Di O ?_))))
   obtain⟨a7,F,Y⟩:=ob Y
   have a:=i.ul D
   refine Mw.p O O (fun _=>R.ix (α:=Commit) a F O O O) (Df O ?_)
   obtain⟨a8,c16,r17⟩:=(Commit.at2 (a.at_ F)).cell O
   refine Mw.q O O (fun _ c=>R.ld O O (zaW (Commit.at2 (a.at_ F)).1 O c16 c)) (Dfl E O O O (Di O ?_))
   obtain⟨a9,G,Y⟩:=ob Y
   refine Mw.p O O (fun _=>R.ix (α:=Commit) a G O O O) (Df O ?_)
   obtain⟨ba,c21,r22⟩:=(Commit.at2 (a.at_ G)).cell O
   refine Mw.q O O (fun _ c=>R.ld O O (zaW (Commit.at2 (a.at_ G)).1 O c21 c)) ?_
   obtain⟨bb,ah,Y⟩:=ob Y
   refine Mw.t O O (T.call O (p124 (Repo.rd (K:=[0]) x0.Commits x0.Heads a (L.ul D)) ah)) ?_
   rintro bc _ ⟨be,rfl,S,⟨_,rfl,ai⟩⟩
   have aj:=ai.sub (M:=[0]) O
   have H:=S.o
   refine m0 S fun ak=>?_
   obtain⟨am,an,Y⟩:=ob Y
   refine Mw.t O O (T.call O (p123 (k0:=3) (k1:=4) aj (r17.ul H) (r22.ul H) an)) ?_
   rintro _ _ ⟨bg,rfl,U,⟨b,d,rfl,ao,ap⟩⟩
   have V:=(D.trans H).n U
   refine mc ak U fun bh=>Dv (.tuple [b,d].toArray) O (Mw.p O O (fun _=>R.ext (vs:=[b,d]) (v:=b) O O) (Mw.p O O (fun _=>R.ext (vs:=[b,d]) (v:=d) O O) (Hv b O (Hv d O (Mw.nil (ssr (mv d O (Lw.ln am.2 ap.rd O (Lw.gt O (nl (cn Y (fun Y=>?_) fun Y=>?_)))))))))))
   ·refine sr (Gv (.slice none 0 0) O (Nb O ?_))
    cases Y
    exact Cw.ret (zom O O (Res.mk V ⟨.slice none 0 0,O,(zoR []).sub O O⟩))
   ·refine sk (sr (mv b O (cr Y (fun _=>p125 (K:=[3]) (k0:=5) ao.rd) ?_)))
    rintro bi W bj Y aq ⟨_,rfl,ar⟩
    have au:=V.n aq
    refine Gv W O (Nb O ?_)
    cases Y
    exact Cw.ret (zom O O (Res.mk au ⟨W,O,ar.s.sub O O⟩))
 ·refine rg (la k (ca Y (fun _=>p68 (Repo.rd (K:=[0]) x0.Commits x0.Heads (i.ul x) (L.ul x))) fun bk av Y e=>?_))
  have X:=x.n e
  refine Lw.r O (R.not O) (mb O (bs Y (fun f Y=>?_) fun f Y=>?_))
  ·exact psk 7 f O (Pb f O (mb O (psk 7 O O (Pb O O (nl ((ag) ⟨true,av,O,e,O,Y⟩))))))
  ·refine wak 7 f (mi O (fl (k.up e) O (Lw.ln x0.Commits (i.ul X) O (Lw.sub O (ca Y (fun _=>p71) fun bl aw Y y=>?_)))))
   have ax:=X.n y
   refine Lw.r O (R.not O) (Pb f O (mb O (bs Y (fun h Y=>?_) fun h Y=>?_)))
   ·exact psk 7 h O (Pb h O (nl ((ag) ⟨true,aw,O,(e.j y).w,O,Y⟩)))
   ·exact wak 7 h (mi O (fl ((k.up e).up y) O (Lw.ln x0.Commits (i.ul ax) O (Lw.sub O (ca Y (fun _=>p71) fun ay az Y a0=>Lw.r O (R.not O) (Pb h O (nl ((ag) ⟨(!ay),az,O,((e.j y).j a0).w,O,Y⟩))))))))
theorem p53 {x0 b d x1 x2 k0 r}(f:Rd W K [b,d] x0)(Y:Vm.zjL x0 x1 x2=some r):Q1 53 [.agg [b,d].toArray,vI x1,vI x2] W [] fun W' v=> ∃ a,v = .tuple [a,vB r.2].toArray/\Ow W' k0 [] [a] r.1:=
 (c53 (f.view _) Y).ad (fk k0) fun _ _ ⟨a,e,h⟩=>⟨a,e,h.back (zk0 _)⟩
theorem c11 {x0 ac r}(h0:Rd W0 [0] [ac] x0)(G:Gl 0 W0 [0])(Y:Vm.zjt x0=some r):Q0 11 [ac] W0 fun Wf v=>v=vB r:=by
 unfold Vm.zjt at Y
 refine zaY.of Tryz.func11 O O O O (sr (Nb O (ssr (mv ac O (Lw.ln x0 h0 O (Lw.gt O (nl (cn Y (fun Y=>?_) fun Y=>?_))))))))
 ·exact sr (Nb O (.ret (rt Y (Le.refl _ _))))
 ·refine sk (sr (mv ac O (cr Y (fun _=>p51 (k0:=2) (k1:=3) h0) ?_)))
  rintro a _ W4 Y l4 ⟨H,I,rfl,a0,a1⟩
  have a5:=l4.o
  refine mv (.tuple [.agg [H,I].toArray,vI a.2.1,vI a.2.2].toArray) O (Lw.r O (R.ext (vs:=[.agg [H,I].toArray,vI a.2.1,vI a.2.2]) (v:= .agg [H,I].toArray) O O) (Lw.r O (R.ext (vs:=[.agg [H,I].toArray,vI a.2.1,vI a.2.2]) (v:=vI a.2.1) O O) (Lw.r O (R.ext (vs:=[.agg [H,I].toArray,vI a.2.1,vI a.2.2]) (v:=vI a.2.2) O O) (al 4 [.slice none 0 0, .slice none 0 0] fun g6 W6 J b6=>?_))))
  have a7:=a5.n J
  refine sta b6 (zai (a0.up J).oc (zai (a1.up J).oc zbt)) fun cv l10 ak=>?_
  have a2:=a7.t l10
  have am:=(a0.up J).up l10
  have an:=(a1.up J).up l10
  refine Gi O (Ni O (sr (la ak (mi O (mi O (cr Y (fun _=>p52 (K:=[0,2,3]) (k0:=5) (x0:=(Vm.Repo.mk a.1.Commits a.1.Heads)) ((Repo.rd (K:=[2,3]) a.1.Commits a.1.Heads (am.rd.sub (M:=[2,3]) O) (an.rd.sub (M:=[2,3]) O)).sub (M:=[0,2,3]) O) ((G.ul a2).sub (M:=[0,2,3]) O)) ?_))))))
  rintro h _ bn Y y ⟨b,rfl,bp⟩
  have a3:Ow (α:=List (Sh Vm.File)) bn 5 [0,2,3] [b] h.1:=bp.sub O
  have bq:=a2.n y
  refine mv (.tuple [b,vB h.2].toArray) O (Lw.r O (R.ext (vs:=[b,vB h.2]) (v:=b) O O) (Lw.r O (R.ext (vs:=[b,vB h.2]) (v:=vB h.2) O O) (Gv b O (Nb O (sr (la (ak.up y) (mi O (mi O (cr Y (fun _=>p53 (K:=[2,3]) (k0:=6) (x0:=(Vm.Repo.mk a.1.Commits a.1.Heads)) (Repo.rd (K:=[2,3]) a.1.Commits a.1.Heads ((am.up y).rd.sub (M:=[2,3]) O) ((an.up y).rd.sub (M:=[2,3]) O))) ?_)))))))))
  rintro ae _ ao Y B ⟨z,rfl,a4⟩
  have a6:=bq.n B
  have af:=(am.up y).up B
  have ap:=(an.up y).up B
  have ah:=(ak.up y).up B
  refine mv (.tuple [z,vB ae.2].toArray) O (Lw.r O (R.ext (vs:=[z,vB ae.2]) (v:=z) O O) (Lw.r O (R.ext (vs:=[z,vB ae.2]) (v:=vB ae.2) O O) (Gv z O (Nb O (Cw.seq ?_)))))
  obtain⟨br,bu,Y⟩:=zdY Y
  refine Cw.join 37 72 [72] (fun l w=> ∃ aq C,CW.w C=w/\Le [] ao C/\l=[vB aq]/\br aq=some r) ?_ ?_
  ·rintro _ _ σ ⟨aq,C,rfl,i,rfl,Y⟩
   rw[bu]at Y
   have ar:=a6.n i
   have a8:=(a3.up B).up i
   refine cn Y (fun Y=>?_) fun Y=>?_
   ·obtain⟨bv,bw,Y⟩:=zdY Y
    refine Cw.join 73 80 [2] (fun l w=> ∃ au av,CW.w av=w/\Le [] C av/\l=[vB au]/\bv au=some r) ?_ ?_
    ·rintro _ _ σ ⟨au,av,rfl,bz,rfl,Y⟩
     rw[bw]at Y
     have b0:=ar.n bz
     exact .ret (rt Y b0)
    ·refine rg (mb O (mb O (Lw.r O (R.beq O O) (mb O (bs Y (fun L Y=>?_) fun L Y=>?_)))))
     ·refine wak 3 L (mv b O (mv z O ?_))
      have b1:Rd (α:=List Vm.File) C [5,0,2,3] [b] h.1:=Ow.rdSh a8
      exact ca Y (fun _=>p48 (K:=[0,2,3,5,6]) (b1.sub (M:=[0,2,3,5,6]) O) ((a4.up i).rd.sub (M:=[0,2,3,5,6]) O)) fun b2 b3 Y b4=>Pb L O (Nb O ((ag) ⟨b2,b3,O,b4,O,Y⟩))
     ·exact psk 3 L O (Pb L O (Nb O ((ag) ⟨false,C,O,Le.refl _ _,O,Y⟩)))
   ·refine sk (sr (la (ah.up i) (mi O (mi O (cr Y (fun _=>p52 (K:=[0,2,3]) (k0:=7) (x0:=(Vm.Repo.mk a.1.Commits a.1.Heads)) ((Repo.rd (K:=[2,3]) a.1.Commits a.1.Heads ((af.up i).rd.sub (M:=[2,3]) O) ((ap.up i).rd.sub (M:=[2,3]) O)).sub (M:=[0,2,3]) O) ((G.ul ar).sub (M:=[0,2,3]) O)) ?_)))))
    rintro D _ b5 Y N ⟨x,rfl,b7⟩
    have b8:Ow (α:=List (Sh Vm.File)) b5 7 [0,2,3] [x] D.1:=b7.sub O
    have a9:=ar.n N
    have ba:=(af.up i).up N
    have bb:=(ap.up i).up N
    have bc:=(ah.up i).up N
    refine mv (.tuple [x,vB D.2].toArray) O (Lw.r O (R.ext (vs:=[x,vB D.2]) (v:=x) O O) (Lw.r O (R.ext (vs:=[x,vB D.2]) (v:=vB D.2) O O) (Gv x O (Nb O (sr (la bc (mi O (cr Y (fun _=>p45 (K:=[0,2,3]) (k0:=8) (x0:=(Vm.Repo.mk a.1.Commits a.1.Heads)) ((Repo.rd (K:=[2,3]) a.1.Commits a.1.Heads (ba.rd.sub (M:=[2,3]) O) (bb.rd.sub (M:=[2,3]) O)).sub (M:=[0,2,3]) O) ((G.ul a9).sub (M:=[0,2,3]) O)) ?_))))))))
    rintro ai _ aj Y E ⟨F,rfl,b9⟩
    have be:=a9.n E
    have bg:=(a8.up N).up E
    refine mv (.tuple [F,vB ai.2].toArray) O (Lw.r O (R.ext (vs:=[F,vB ai.2]) (v:=F) O O) (Lw.r O (R.ext (vs:=[F,vB ai.2]) (v:=vB ai.2) O O) (Gv F O (Nb O ?_))))
    obtain⟨cb,cc,Y⟩:=zdY Y
    refine Cw.join 94 116 [2] (fun l w=> ∃ aw ax,CW.w ax=w/\Le [] aj ax/\l=[vB aw]/\cb aw=some r) ?_ ?_
    ·rintro _ _ σ ⟨aw,ax,rfl,cd,rfl,Y⟩
     rw[cc]at Y
     have ce:=be.n cd
     exact .ret (rt Y ce)
    ·refine rg (mb O (mb O (Lw.r O (R.beq O O) (mb O (bs Y (fun P Y=>?_) fun P Y=>?_)))))
     ·refine wak 3 P (mv x O (mv b O ?_))
      have cf:Rd (α:=List Vm.File) aj [7,0,2,3] [x] D.1:=Ow.rdSh (b8.up E)
      have cg:Rd (α:=List Vm.File) aj [5,0,2,3] [b] h.1:=Ow.rdSh bg
      refine ca Y (fun _=>p48 (K:=[0,2,3,5,7]) (cf.sub (M:=[0,2,3,5,7]) O) (cg.sub (M:=[0,2,3,5,7]) O)) fun cw ch Y f=>?_
      have ci:=be.n f
      refine Pb P O (mb O (bs Y (fun e Y=>?_) fun e Y=>?_))
      ·refine wak 6 e (la ((bc.up E).up f) (mi O (mi O (ca Y (fun _=>p54 (K:=[0,2,3]) (x0:=(Vm.Repo.mk a.1.Commits a.1.Heads)) ((Repo.rd (K:=[2,3]) a.1.Commits a.1.Heads (((ba.up E).up f).rd.sub (M:=[2,3]) O) (((bb.up E).up f).rd.sub (M:=[2,3]) O)).sub (M:=[0,2,3]) O) ((G.ul ci).sub (M:=[0,2,3]) O)) fun cx ay Y Q=>Lw.r O (R.not O) (mb O (bs Y (fun k Y=>?_) fun k Y=>?_))))))
       ·exact psk 2 k O (puk 3 O (psk 1 k O (wak 1 e (Pb k O (Pb e O (Nb O ((ag) ⟨true,ay,O,(f.j Q).w,O,Y⟩)))))))
       ·refine wak 2 k (mb O (mb O (bs Y (fun S Y=>?_) fun S Y=>?_)))
        ·refine wak 3 S (mv b O (mv F O ?_))
         have cj:Rd (α:=List Vm.File) ay [5,0,2,3] [b] h.1:=Ow.rdSh ((bg.up f).up Q)
         exact ca Y (fun _=>p48 (K:=[0,2,3,5,8]) (cj.sub (M:=[0,2,3,5,8]) O) (((b9.up f).up Q).rd.sub (M:=[0,2,3,5,8]) O)) fun ck cl Y cm=>wak 1 k (Pb S O (wak 1 e (Pb k O (Pb e O (Nb O ((ag) ⟨ck,cl,O,((f.j Q).j cm).w,O,Y⟩))))))
        ·exact psk 3 S O (wak 1 k (Pb S O (wak 1 e (Pb k O (Pb e O (Nb O ((ag) ⟨false,ay,O,(f.j Q).w,O,Y⟩)))))))
      ·exact psk 6 e O (puk 6 O (psk 1 e O (Pb e O (Nb O ((ag) ⟨false,ch,O,f,O,Y⟩)))))
     ·exact psk 3 P O (Pb P O (mb O (psk 6 O O (puk 6 O (psk 1 O O (Pb O O (Nb O ((ag) ⟨false,aj,O,Le.refl _ _,O,Y⟩))))))))
  ·refine rg (mb O (mb O (Lw.r O (R.bne O O) (mb O (bs Y (fun T Y=>?_) fun T Y=>?_)))))
   ·exact psk 4 T O (Pb T O (mb O (psk 3 O O (Pb O O (mb O (psk 2 O O (Pb O O (mb O (psk 2 O O (Pb O O (mb O (psk 5 O O (Pb O O (mb O (psk 5 O O (Pb O O (nl ((ag) ⟨true,ao,O,Le.refl _ _,O,Y⟩))))))))))))))))))
   ·refine wak 4 T (mv b O (mv z O ?_))
    have co:Rd (α:=List Vm.File) ao [5,0,2,3] [b] h.1:=Ow.rdSh (a3.up B)
    refine ca Y (fun _=>p48 (K:=[0,2,3,5,6]) (co.sub (M:=[0,2,3,5,6]) O) (a4.rd.sub (M:=[0,2,3,5,6]) O)) fun cy cp Y d=>?_
    have cq:=a6.n d
    refine Lw.r O (R.not O) (Pb T O (mb O (bs Y (fun U Y=>?_) fun U Y=>?_)))
    ·exact psk 3 U O (Pb U O (mb O (psk 2 O O (Pb O O (mb O (psk 2 O O (Pb O O (mb O (psk 5 O O (Pb O O (mb O (psk 5 O O (Pb O O (nl ((ag) ⟨true,cp,O,d,O,Y⟩)))))))))))))))
    ·refine wak 3 U (la (ah.up d) (ca Y (fun _=>p43 (K:=[0,2,3]) (x0:=(Vm.Repo.mk a.1.Commits a.1.Heads)) ((Repo.rd (K:=[2,3]) a.1.Commits a.1.Heads ((af.up d).rd.sub (M:=[2,3]) O) ((ap.up d).rd.sub (M:=[2,3]) O)).sub (M:=[0,2,3]) O) ((G.ul cq).sub (M:=[0,2,3]) O)) fun cz V Y A=>?_))
     have bh:=(af.up d).up A
     have bi:=(ah.up d).up A
     refine Lw.r O (R.not O) (Pb U O (mb O (bs Y (fun W Y=>?_) fun W Y=>?_)))
     ·exact psk 2 W O (Pb W O (mb O (psk 2 O O (Pb O O (mb O (psk 5 O O (Pb O O (mb O (psk 5 O O (Pb O O (nl ((ag) ⟨true,V,O,(d.j A).w,O,Y⟩))))))))))))
     ·refine wak 2 W (mi O (Lw.lt O (Pb W O (mb O (bs Y (fun X Y=>?_) fun X Y=>?_)))))
      ·exact psk 2 X O (Pb X O (mb O (psk 5 O O (Pb O O (mb O (psk 5 O O (Pb O O (nl ((ag) ⟨true,V,O,(d.j A).w,O,Y⟩)))))))))
      ·refine wak 2 X (mi O (Lw.lt O (Pb X O (mb O (bs Y (fun Z Y=>?_) fun Z Y=>?_)))))
       ·exact psk 5 Z O (Pb Z O (mb O (psk 5 O O (Pb O O (nl ((ag) ⟨true,V,O,(d.j A).w,O,Y⟩))))))
       ·refine wak 5 Z (mi O (fl bi O (Lw.ln a.1.Commits bh.rd O (Lw.ge O (Pb Z O (mb O (bs Y (fun aa Y=>?_) fun aa Y=>?_)))))))
        ·exact psk 5 aa O (Pb aa O (nl ((ag) ⟨true,V,O,(d.j A).w,O,Y⟩)))
        ·exact wak 5 aa (mi O (fl bi O (Lw.ln a.1.Commits bh.rd O (Lw.ge O (Pb aa O (nl ((ag) ⟨decide (a.1.Commits.length<=(a.2.2:Int)),V,O,(d.j A).w,O,Y⟩)))))))
theorem p11 {x0 a r}(b:Rd W K [a] x0)(d:Gl 0 W K)(Y:Vm.zjt x0=some r):Q1 11 [a] W [] fun W' v=>v=vB r:=
 (c11 (b.view _) (d.view _) Y).ad (fk 0) fun _ _ e=>e
end Go.Sx
