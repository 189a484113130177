/- Walks: each function answers as its model, printed by a program of ours. Conditions: the arguments read as they are given. -/
import Derived.Test.YtiahldhbknpmiaaGreatDoorBTs
import Derived.Test.YtiahldhbknpmiaaGreatDoorBM4
import Derived.Test.YtiahldhbknpmiaaGreatDoorBW10
import Derived.Test.YtiahldhbknpmiaaGreatDoorBW11
import Derived.Test.YtiahldhbknpmiaaGreatDoorBW6
import Derived.Test.YtiahldhbknpmiaaGreatDoorBW7
import Derived.Test.YtiahldhbknpmiaaGreatDoorBW9
namespace Go.Sx
open Go Go.Proofs Go.Vm Rp
set_option linter.unusedVariables false
set_option linter.unusedSimpArgs false
variable {W W0:CW}{K:List Nat}
theorem c77 {x0 d e x1 x2 x3 x4 r}(h0:Rd W0 [0] [d,e] x0)(bb:Gl 0 W0 [0])(Y:Vm.zgt x0 x1 x2 x3 x4=some r):Q0 77 [.agg [d,e].toArray,vS x1,vS x2,vI x3,vB x4] W0 fun Wf v=> ∃ ap aq,v = .tuple [.agg [ap,aq].toArray,vI r.2].toArray/\OwS Wf [31] [] [ap] r.1.Commits/\OwS Wf [32] [] [aq] r.1.Heads:=by
 unfold Vm.zgt at Y
 obtain⟨cv,cw,ar,a,b⟩:=Repo.split h0
 simp only[List.cons.injEq,and_true,true_and]at ar
 obtain⟨rfl,rfl⟩:=ar
 refine zaY.of Tryz.func77 O O O O (sr (bo 2 O fun g1 W1 l1 b1=>?_))
 have a2:=l1.o
 refine al 3 [.slice none 0 0, .slice none 0 0] fun g3 W3 l3 b3=>?_
 have A:=a2.n l3
 have B:=b1.up l3
 refine Ni O (Cw.seq ?_)
 obtain⟨K8,bj,Y⟩:=zdY Y
 refine Cw.join 14 28 [28] (fun l w=> ∃ Q S,CW.w S=w/\Le [] W3 S/\l=[vB Q]/\K8 Q=some r) ?_ ?_
 ·rintro _ _ σ ⟨Q,S,rfl,f,rfl,Y⟩
  rw[bj]at Y
  have C:=A.n f
  refine cn Y (fun Y=>?_) fun Y=>?_
  ·refine sr (la (B.up f) (cr Y (fun _=>p90 (k0:=4) (k1:=5) (Repo.rd (K:=[0]) x0.Commits x0.Heads (a.ul C) (b.ul C))) ?_))
   rintro c0 _ c1 Y aw ⟨bk,bl,rfl,ax,ay⟩
   have bm:=C.n aw
   refine sta ((b3.up f).up aw) (zai ax.oc (zai ay.oc zbt)) fun c2 U bn=>?_
   have bp:=bm.t U
   refine Ni O ?_
   obtain⟨c3,bq,V,br⟩:=(ax.up U).dyeO 31
   have bu:=bp.t V
   obtain⟨c4,bv,W,bw⟩:=((ay.up U).up V).dyeO 32
   have bz:=bu.t W
   cases Y
   rw[<- bv.trans (bq)]
   exact Cw.ret (zjs O ((bn.up V).up W) O (Res.mk bz ⟨bk,bl,O,(br.up W).s,bw.s⟩))
  ·refine sk (Cw.seq (Cw.draw [] [(0,1),(1,1),(2,0),(5,1),(6,0),(3,2),(4,2),(7,2),(8,0),(9,0)] mixed (by kernel_rfl) fun c5 X=>?_))
   have Z:=C.n X
   have D:=(B.up f).up X
   refine Mw.q O O (fun _ c=>R.lda (cs:=[d,e]) (D.clcs O c) O O) (Mw.q O O (fun _ c=>R.lda (cs:=[d,e]) (D.clcs O c) O O) (Di O (Mw.q O O (fun _ c=>R.lda (cs:=[d,e]) (D.clcs O c) O O) (Di O ?_))))
   obtain⟨c6,b0,Y⟩:=ob Y
   refine Mw.t O O (T.call O (p146 (Repo.rd (K:=[0]) x0.Commits x0.Heads (a.ul Z) (b.ul Z)) b0)) ?_
   rintro _ _ ⟨c7,rfl,E,rfl⟩
   have aa:=Z.n E
   refine m0 E fun b2=>?_
   obtain⟨az,b4,Y⟩:=ob Y
   refine Mw.t O O (T.call O (p105 (Repo.rd (K:=[0]) x0.Commits x0.Heads (a.ul aa) (b.ul aa)) b4)) ?_
   rintro h _ ⟨c8,rfl,F,⟨_,rfl,b6⟩⟩
   have a0:=b6.sub (M:=[0]) O
   have ac:=aa.n F
   refine mc b2 F fun b7=>?_
   obtain⟨a1,b8,Y⟩:=ob Y
   refine Mw.t O O (T.call O (p105 (Repo.rd (K:=[0]) x0.Commits x0.Heads (a.ul ac) (b.ul ac)) b8)) ?_
   rintro i _ ⟨ae,rfl,G,⟨_,rfl,b9⟩⟩
   have a3:=b9.sub (M:=[0]) O
   have af:=G.o
   refine mc b7 G fun c9=>Hv h O (Hv i O (Mw.nil ?_))
   obtain⟨cb,cc,Y⟩:=zdY Y
   refine Cw.join 39 41 [12,13] (fun l w=> ∃ ah ai H I k,CW.w k=w/\Le [] ae k/\l=[H,I]/\Rd k [0] [H] ah/\Rd k [0] [I] ai/\cb ah ai=some r) ?_ ?_
   ·rintro _ _ σ ⟨ah,ai,H,I,k,rfl,aj,rfl,r68,r71,Y⟩
    rw[cc]at Y
    have J:=(ac.trans af).n aj
    refine sr (la ((((D.up E).up F).up G).up aj) (ms O (ms O (mv H O (mv I O (cr Y (fun _=>p147 (k0:=6) (k1:=7) (Repo.rd (K:=[0]) x0.Commits x0.Heads (a.ul J) (b.ul J)) r68 r71 (bb.ul J)) ?_))))))
    rintro ak _ da Y a5 ⟨L,N,rfl,a6,a7⟩
    have cd:=J.n a5
    refine Lw.r O (R.ext (vs:=[.agg [L,N].toArray,vI ak.2]) (v:= .agg [L,N].toArray) O O) (Lw.r O (R.ext (vs:=[.agg [L,N].toArray,vI ak.2]) (v:=vI ak.2) O O) (sta (((((((b3.up f).up X).up E).up F).up G).up aj).up a5) (zai a6.oc (zai a7.oc zbt)) fun db am ce=>?_))
    have cf:=cd.t am
    refine Ni O ?_
    obtain⟨dc,cg,an,ch⟩:=(a6.up am).dyeO 31
    have ci:=cf.t an
    obtain⟨dd,cj,ao,ck⟩:=((a7.up am).up an).dyeO 32
    have cl:=ci.t ao
    cases Y
    rw[<- cj.trans (cg)]
    exact Cw.ret (zjs O ((ce.up an).up ao) O (Res.mk cl ⟨L,N,O,(ch.up ao).s,ck.s⟩))
   ·refine sr (mb O (nl (cn Y (fun Y=>?_) fun Y=>?_)))
    ·exact rg (mv i O (mv h O (Gv i O (Nv h O ((ag) ⟨a1,az,i,h,ae,O,Le.refl _ _,O,a3,(a0.ul af),Y⟩)))))
    ·exact sk ((ag) ⟨az,a1,h,i,ae,O,Le.refl _ _,O,(a0.ul af),a3,Y⟩)
 ·refine rg (la B (ms O (ca Y (fun _=>p88 (Repo.rd (K:=[0]) x0.Commits x0.Heads (a.ul A) (b.ul A))) fun de cm Y x=>?_)))
  have co:=A.n x
  refine Lw.lt O (mb O (bs Y (fun y Y=>?_) fun y Y=>?_))
  ·exact psk 3 y O (Pb y O (mb O (psk 4 O O (Pb O O (nl ((ag) ⟨true,cm,O,x,O,Y⟩))))))
  ·refine wak 3 y (ms O (ca Y (fun _=>p113) fun df cp Y P=>?_))
   have a8:=co.n P
   refine Lw.r O (R.not O) (Pb y O (mb O (bs Y (fun z Y=>?_) fun z Y=>?_)))
   ·exact psk 4 z O (Pb z O (nl ((ag) ⟨true,cp,O,(x.j P).w,O,Y⟩)))
   ·exact wak 4 z (la ((B.up x).up P) (mi O (ca Y (fun _=>p89 (Repo.rd (K:=[0]) x0.Commits x0.Heads (a.ul a8) (b.ul a8))) fun cq ct Y cu=>Lw.r O (R.not O) (Pb z O (nl ((ag) ⟨(!cq),ct,O,((x.j P).j cu).w,O,Y⟩))))))
theorem p77 {x0 d f x1 x2 x3 x4 k0 k1 r}(h:Rd W K [d,f] x0)(i:Gl 0 W K)(Y:Vm.zgt x0 x1 x2 x3 x4=some r):Q1 77 [.agg [d,f].toArray,vS x1,vS x2,vI x3,vB x4] W [] fun W' v=> ∃ a b,v = .tuple [.agg [a,b].toArray,vI r.2].toArray/\Ow W' k0 [] [a] r.1.Commits/\Ow W' k1 [] [b] r.1.Heads:=
 zaY.adJ (J:=[]) (fun c=>bif Nat.beq c 0 then 0 else bif Nat.beq c 31 then k0 else bif Nat.beq c 32 then k1 else 0) (c77 (h.view _) (i.view _) Y) fun _ _ ⟨a,b,e,k,x⟩=>⟨a,b,e,k.one1.backN O,x.one1.backN O⟩
theorem c112 {x0 x y x1 z A r}(G:Rd W0 [0] [x,vS x0.Who,y] x0)(H:Rd W0 [0] [z,vS x1.Who,A] x1)(Y:Vm.zhK x0 x1=some r):Q0 112 [.agg [x,vS x0.Who,y].toArray, .agg [z,vS x1.Who,A].toArray] W0 fun Wf v=>v=vB r:=by
 unfold Vm.zhK at Y
 obtain⟨Z,aa,B,I,J⟩:=Commit.split G
 simp only[List.cons.injEq,and_true,true_and]at B
 obtain⟨rfl,rfl⟩:=B
 obtain⟨ac,ae,C,K,L⟩:=Commit.split H
 simp only[List.cons.injEq,and_true,true_and]at C
 obtain⟨rfl,rfl⟩:=C
 refine zaY.of Tryz.func112 O O O O (sr (bo 2 O fun g1 W1 M N=>?_))
 have P:=M.o
 refine bo 3 O fun g3 D E f=>?_
 have e:=P.n E
 have h:=N.up E
 refine Nb O ?_
 obtain⟨Q,R,Y⟩:=zdY Y
 refine Cw.join 5 23 [4] (fun l w=> ∃ i k,CW.w k=w/\Le [] D k/\l=[vB i]/\Q i=some r) ?_ ?_
 ·rintro _ _ σ ⟨i,k,rfl,S,rfl,Y⟩
  rw[R]at Y
  have T:=e.n S
  exact .ret (rt Y T)
 ·refine rg (fl h O (fl f O (Lw.seq O (mb O (bs Y (fun a Y=>?_) fun a Y=>?_)))))
  ·refine wak 5 a (fl h O (fl f O (ca Y (fun _=>p47 (I.ul e) (K.ul e)) fun aj U Y b=>?_)))
   have F:=e.n b
   refine Pb a O (mb O (bs Y (fun d Y=>?_) fun d Y=>?_))
   ·exact wak 5 d (fl (h.up b) O (fl (f.up b) O (ca Y (fun _=>p48 (J.ul F) (L.ul F)) fun V W Y X=>Pb d O (Nb O ((ag) ⟨V,W,O,(b.j X).w,O,Y⟩)))))
   ·exact psk 5 d O (Pb d O (Nb O ((ag) ⟨false,U,O,b,O,Y⟩)))
  ·exact psk 5 a O (Pb a O (mb O (psk 5 O O (Pb O O (Nb O ((ag) ⟨false,D,O,Le.refl _ _,O,Y⟩))))))
theorem p112 {x0 a b x1 d f r}(h:Rd W K [a,vS x0.Who,b] x0)(i:Rd W K [d,vS x1.Who,f] x1)(Y:Vm.zhK x0 x1=some r):Q1 112 [.agg [a,vS x0.Who,b].toArray, .agg [d,vS x1.Who,f].toArray] W [] fun W' v=>v=vB r:=
 (c112 (h.view _) (i.view _) Y).ad (fk 0) fun _ _ e=>e
theorem c42 {x0 af ah x1 ai aj r}(h0:Rd W0 [0] [af,ah] x0)(h1:Rd W0 [0] [ai,aj] x1)(Y:Vm.zgH x0 x1=some r):Q0 42 [.agg [af,ah].toArray, .agg [ai,aj].toArray] W0 fun Wf v=>v=vB r:=by
 unfold Vm.zgH at Y
 obtain⟨bb,bc,ak,F,b⟩:=Repo.split h0
 simp only[List.cons.injEq,and_true,true_and]at ak
 obtain⟨rfl,rfl⟩:=ak
 obtain⟨be,bg,am,an,x⟩:=Repo.split h1
 simp only[List.cons.injEq,and_true,true_and]at am
 obtain⟨rfl,rfl⟩:=am
 refine zaY.of Tryz.func42 O O O O (sr (bo 2 O fun g1 W1 l1 b1=>?_))
 have a2:=l1.o
 refine bo 3 O fun g3 G l3 H=>?_
 have d:=a2.n l3
 have I:=b1.up l3
 refine Nb O (Cw.seq ?_)
 obtain⟨K8,az,Y⟩:=zdY Y
 refine Cw.join 7 22 [22] (fun l w=> ∃ J e,CW.w e=w/\Le [] G e/\l=[vB J]/\K8 J=some r) ?_ ?_
 ·rintro _ _ σ ⟨J,e,rfl,L,rfl,Y⟩
  rw[az]at Y
  have a9:=d.n L
  refine cn Y (fun Y=>?_) fun Y=>?_
  ·exact sr (Nb O (.ret (rt Y a9)))
  ·refine sk (ssr (Ni O (Cw.block ?_)))
   obtain⟨a0,a1,Y⟩:=zdY Y
   refine Cw.loop 23 41 [4,5] (fun m l w=> ∃ f y h,CW.w h=w/\Le [] e h/\l=[vB f,vI y]/\Vm.zfs x0 x1 a0 m f y=some r) _ ⟨false,0,e,O,Le.refl _ _,O,Y⟩ ?_
   rintro(_ |bk) _ _ σ ⟨f,y,h,rfl,z,rfl,Y⟩
   ·cases Y
   unfold Vm.zfs at Y
   have M:=a9.n z
   have A:=(I.up L).up z
   have aq:=(H.up L).up z
   refine ssr (mi O (fl A O (Lw.ln x0.Commits (F.ul M) O (Lw.lt O (nl (cn Y (fun Y=>?_) fun Y=>?_))))))
   ·refine sk (Cw.seq (Cw.block (Cw.seq (Cw.draw [] [(0,0),(1,1),(2,0),(3,0),(4,1),(5,0),(6,1),(7,0),(8,0),(9,1),(10,2),(11,0)] mixed (by kernel_rfl) fun bl B=>?_))))
    have N:=M.n B
    refine Dfl (A.up B) O O O (Di O ?_)
    obtain⟨P,Q,Y⟩:=ob Y
    have S:=F.ul N
    refine Mw.p O O (fun _=>R.ix (α:=Commit) S Q O O O) ?_
    obtain⟨x30,c31,_,r32⟩:=(S.at_ Q).cells
    obtain⟨bm,bn,rfl,r34,r36⟩:=Commit.split r32
    refine Mw.q O O (fun _ c=>R.lda (znP (S.at_ Q).1 O c31 c) O O) (Dfl (aq.up B) O O O (Di O ?_))
    obtain⟨U,V,Y⟩:=ob Y
    have W:=an.ul N
    refine Mw.p O O (fun _=>R.ix (α:=Commit) W V O O O) ?_
    obtain⟨x40,c41,_,r42⟩:=(W.at_ V).cells
    obtain⟨bp,bq,rfl,r44,r46⟩:=Commit.split r42
    refine Mw.q O O (fun _ c=>R.lda (znP (W.at_ V).1 O c41 c) O O) ?_
    obtain⟨br,a3,Y⟩:=ob Y
    refine Mw.t O O (T.call O (p112 (Commit.rd (K:=[0]) P.Parents P.Who P.Tree r34 r36) (Commit.rd (K:=[0]) U.Parents U.Who U.Tree r44 r46) a3)) ?_
    rintro _ _ ⟨a5,rfl,X,rfl⟩
    have a6:=N.n X
    refine m0 X fun bu=>Mw.p O O (fun _=>R.not O) (Mw.nil (cn Y (fun Y=>?_) fun Y=>?_))
    ·exact sr (Nb O (.ret (rt Y a6)))
    ·exact sk (rg (mi O (Lw.add O (Ni O ((agm) ⟨f,w64 (y+1),a5,O,((z.j B).j X).w,O,Y⟩)))))
   ·refine Cw.exit ?_
    rw[a1]at Y
    refine ssr (Ni O (Cw.block ?_))
    obtain⟨a7,a8,Y⟩:=zdY Y
    refine Cw.loop 42 59 [4,6] (fun m l w=> ∃ C D Z,CW.w Z=w/\Le [] h Z/\l=[vB C,vI D]/\Vm.zfr x0 x1 a7 m C D=some r) _ ⟨f,0,h,O,Le.refl _ _,O,Y⟩ ?_
    rintro(_ |bv) _ _ σ ⟨C,D,Z,rfl,i,rfl,Y⟩
    ·cases Y
    unfold Vm.zfr at Y
    have aa:=M.n i
    refine ssr (mi O (fl (A.up i) O (Lw.ln x0.Heads (b.ul aa) O (Lw.lt O (nl (cn Y (fun Y=>?_) fun Y=>?_))))))
    ·refine sk (Cw.seq (Cw.block (Cw.seq (Cw.draw [] [(0,0),(1,1),(2,0),(3,0),(4,1),(5,0),(6,1),(7,0),(8,0),(9,1),(10,0)] mixed (by kernel_rfl) fun ba E=>?_))))
     have a:=aa.n E
     refine Dfl ((A.up i).up E) O O O (Di O ?_)
     obtain⟨bw,ac,Y⟩:=ob Y
     refine Mw.p O O (fun _=>R.ix (α:=Head) (b.ul a) ac O O O) ?_
     obtain⟨x71,c72,_,r73⟩:=((b.ul a).at_ ac).cells
     obtain rfl:=Head.split r73
     refine Mw.q O O (fun _ c=>R.lda (znP ((b.ul a).at_ ac).1 O c72 c) O O) (Dfl ((aq.up i).up E) O O O (Di O ?_))
     obtain⟨bz,ae,Y⟩:=ob Y
     refine Mw.p O O (fun _=>R.ix (α:=Head) (x.ul a) ae O O O) ?_
     obtain⟨x77,c78,_,r79⟩:=((x.ul a).at_ ae).cells
     obtain rfl:=Head.split r79
     refine Mw.q O O (fun _ c=>R.lda (znP ((x.ul a).at_ ae).1 O c78 c) O O) (Mw.p O O (fun _=>R.hne O O) (Mw.nil (cn Y (fun Y=>?_) fun Y=>?_)))
     ·exact sr (Nb O (.ret (rt Y a)))
     ·exact sk (rg (mi O (Lw.add O (Ni O ((agm) ⟨C,w64 (D+1),ba,O,(i.j E).w,O,Y⟩)))))
    ·refine Cw.exit ?_
     rw[a8]at Y
     exact sr (Nb O (.ret (rt Y aa)))
 ·refine rg (fl I O (Lw.ln x0.Commits (F.ul d) O (fl H O (Lw.ln x1.Commits (an.ul d) O (Lw.ne O (mb O (bs Y (fun k Y=>?_) fun k Y=>?_)))))))
  ·exact psk 7 k O (Pb k O (nl ((ag) ⟨true,G,O,Le.refl _ _,O,Y⟩)))
  ·exact wak 7 k (fl I O (Lw.ln x0.Heads (b.ul d) O (fl H O (Lw.ln x1.Heads (x.ul d) O (Lw.ne O (Pb k O (nl ((ag) ⟨((x0.Heads.length:Int) !=(x1.Heads.length:Int)),G,O,Le.refl _ _,O,Y⟩))))))))
theorem p42 {x0 a b x1 d f r}(h:Rd W K [a,b] x0)(i:Rd W K [d,f] x1)(Y:Vm.zgH x0 x1=some r):Q1 42 [.agg [a,b].toArray, .agg [d,f].toArray] W [] fun W' v=>v=vB r:=
 (c42 (h.view _) (i.view _) Y).ad (fk 0) fun _ _ e=>e
theorem c44 {x0 d e x1 r}(y:Rd W0 [0] [d,e] x0)(z:Gl 0 W0 [0])(Y:Vm.zgI x0 x1=some r):Q0 44 [.agg [d,e].toArray,vS x1] W0 fun Wf v=>v=vI r:=by
 unfold Vm.zgI at Y
 obtain⟨D,E,f,h,i⟩:=Repo.split y
 simp only[List.cons.injEq,and_true,true_and]at f
 obtain⟨rfl,rfl⟩:=f
 refine zaY.of Tryz.func44 O O O O (sr (bo 2 O fun F G A k=>?_))
 have a:=A.o
 refine Ni O (ssr (la k (ca Y (fun _=>p43 (Repo.rd (K:=[0]) x0.Commits x0.Heads (h.ul a) (i.ul a)) (z.ul a)) fun H I Y x=>?_)))
 have b:=a.n x
 refine Lw.r O (R.not O) (nl (cn Y (fun Y=>?_) fun Y=>?_))
 ·exact sr (Ni O (.ret (rt Y b)))
 ·refine sk (sr (la (k.up x) (ms O (ca Y (fun _=>p88 (Repo.rd (K:=[0]) x0.Commits x0.Heads (h.ul b) (i.ul b))) fun J L Y B=>?_))))
  have C:=b.n B
  exact Ni O (.ret (rt Y C))
theorem p44 {x0 a b x1 r}(d:Rd W K [a,b] x0)(f:Gl 0 W K)(Y:Vm.zgI x0 x1=some r):Q1 44 [.agg [a,b].toArray,vS x1] W [] fun W' v=>v=vI r:=
 (c44 (d.view _) (f.view _) Y).ad (fk 0) fun _ _ e=>e
end Go.Sx
