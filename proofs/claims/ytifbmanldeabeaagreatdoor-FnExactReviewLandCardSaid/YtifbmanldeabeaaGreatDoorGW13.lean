/- Walks: each function answers as its model, printed by a program of ours. Conditions: the arguments read as they are given. -/
import Derived.Test.YtifbmanldeabeaaGreatDoorGTs
import Derived.Test.YtifbmanldeabeaaGreatDoorGM3
import Derived.Test.YtifbmanldeabeaaGreatDoorGW3
import Derived.Test.YtifbmanldeabeaaGreatDoorGW6
import Derived.Test.YtifbmanldeabeaaGreatDoorGE
namespace Go.Sx
open Go Go.Proofs Go.Vm Rp
set_option linter.unusedVariables false
set_option linter.unusedSimpArgs false
variable {W W0:CW}{K:List Nat}
theorem c145 {x0 d x1 r}(i:Rd W0 [0] [d] x0)(h1:Rd W0 [0] [vS x1.Name,vI x1.At] x1)(Y:Vm.zgy x0 x1=some r):Q0 145 [d, .agg [vS x1.Name,vI x1.At].toArray] W0 fun Wf v=> ∃ P,v=P/\OwS Wf LL [] [P] r:=by
 unfold Vm.zgy at Y
 refine zao.of Tryz.func145 O O O O (sr (bo 2 O fun g1 Q l1 S=>?_))
 have U:=l1.o
 refine Nv (.slice none 0 0) O (sr (mv d O (Lw.ln x0 (i.ul U) O (Ni O (Cw.seq (Cw.block ?_))))))
 obtain⟨K6,an,Y⟩:=zaY Y
 refine Cw.loop 8 22 [5] (fun m l w=> ∃ b k,CW.w k=w/\Le [] Q k/\l=[vI b]/\Vm.zeS x0 x1 K6 m b=some r) _ ⟨(x0.length:Int),Q,O,Le.refl _ _,O,Y⟩ ?_
 rintro(_ |m7) _ _ σ ⟨b,k,rfl,x,rfl,Y⟩
 ·cases Y
 unfold Vm.zeS at Y
 have V:=U.n x
 refine Cw.seq ?_
 obtain⟨ao,ap,Y⟩:=zaY Y
 refine Cw.join 8 20 [20] (fun l w=> ∃ C y,CW.w y=w/\Le [] k y/\l=[vB C]/\ao C=some r) ?_ ?_
 ·rintro _ _ σ ⟨C,y,rfl,D,rfl,Y⟩
  rw[ap]at Y
  have aq:=V.n D
  refine cn Y (fun Y=>?_) fun Y=>?_
  ·exact sk (Cw.block (rg (mi O (Lw.sub O (Ni O ((agm) ⟨w64 (b-1),y,O,(x.j D).w,O,Y⟩))))))
  ·refine Cw.exit ?_
   rw[an]at Y
   refine Cw.seq ?_
   obtain⟨E,ar,Y⟩:=ob Y
   obtain⟨z,au,Y⟩:=ob Y
   refine Cw.par [[],[],[0,1],[],[],[4],[0,1,2,3,4,5],[0,1,2,3,4,5,6]] [[],[],[0,1],[],[],[4],[2,3,5],[6]] [[],[],[3],[],[],[],[3],[]] [[0],[1],[2],[3],[4],[5],[6],[6,7]] [[3],[],[3],[],[],[4],[5],[]] [1,3,4,5,6,7] [3] [fun vs W=>Ow W 3 [] [(vs 0)] ([]:List Head),fun vs W=>(vs 1)=d,fun vs W=>Ow W 3 [] [(vs 2)] E,fun vs W=>(vs 3)=vI b,fun vs W=>(vs 4) = .agg [vS x1.Name,vI x1.At].toArray,fun vs W=>(vs 5) = .slice (some (bx (pg (vs 5)))) 1 1/\Bx W 4 (pg (vs 5)) [vS x1.Name,vI x1.At],fun vs W=>Ow W 5 [] [(vs 6)] z,fun vs W=>(vs 7)=(vs 6)] [] mixed (by kernel_rfl) O zsd.nil ?_
   intro bu X
   have Z:=aq.n X
   refine⟨(zaV.cons ?_ (zaV.cons ?_ (zaV.cons ?_ (zaV.cons ?_ (zaV.cons ?_ (zaV.cons ?_ (zaV.cons ?_ (zaV.cons ?_ zaV.nil)))))))),(zdz.cons SO (zdz.cons SE (zdz.cons SO (zdz.cons SE (zdz.cons SE (zdz.cons (fun vs vs' W W' _ hv l hd h=>by(show(vs' 5) = .slice (some (bx (pg (vs' 5)))) 1 1/\Bx W' 4 (pg (vs' 5)) [vS x1.Name,vI x1.At]);rw[hv 5 (zaC O)];exact⟨h.1,h.2.up l (zcn hd (c:=4) O)⟩) (zdz.cons SO (zdz.cons (fun vs vs' W W' _ hv l hd h=>by(show(vs' 7)=(vs' 6));rw[hv 6 (zaC O),hv 7 (zaC O)];exact h) zdz.nil)))))))),?_⟩
   ·intro vs bv lW hN hV
    refine Tr.mono (T.lit0 (α:=Head) 3 []) ?_
    rintro av _ ⟨aa,rfl,aw,ax⟩
    exact⟨aa,O,aw,(show Ow aa 3 [] [av] ([]:List Head) from ax)⟩
   ·intro vs bw lW hN hV
    exact Trq (R.mv (v:=d) O) O
   ·intro vs ay lW hN hV
    have az:=Z.t lW O
    obtain⟨a0,a1⟩: ∃ v,vs 0=v:=⟨_,O⟩
    obtain⟨vs,rfl⟩:=zat a1
    have a3:Ow ay 3 [] [a0] ([]:List Head):=(hN 0 (zaC O))
    have F:vs 1=d:=(hN 1 (zaC O))
    obtain⟨vs,rfl⟩:=zat F
    refine Tr.mono (T.appP (α:=Head) a3 (i.ul az) O O ar) ?_
    rintro a4 _ ⟨ac,rfl,a5,a6⟩
    exact⟨ac,O,a5,(show Ow ac 3 [] [a4] E from a6)⟩
   ·intro vs bz lW hN hV
    exact Trq (R.mv (v:=vI b) O) O
   ·intro vs b0 lW hN hV
    exact Trq (R.lda (cs:=[vS x1.Name,vI x1.At]) ((((S.up x).up D).up X).up lW O).cells O O) O
   ·intro vs b2 lW hN hV
    have G:vs 4 = .agg [vS x1.Name,vI x1.At].toArray:=(hN 4 (zaC O))
    obtain⟨vs,rfl⟩:=zat G
    refine Tr.mono (T.bs 4 [.agg [vS x1.Name,vI x1.At].toArray] (cs:=[vS x1.Name,vI x1.At]) O O (bsA O)) ?_
    rintro _ _ ⟨H,ae,rfl,rfl,a7,a9⟩
    exact⟨ae,O,a7,(show(.slice (some (bx H)) 1 1:Value) = .slice (some (bx H)) 1 1/\Bx ae 4 H [vS x1.Name,vI x1.At] from⟨O,a9⟩)⟩
   ·intro vs af lW hN hV
    obtain⟨ba,bb⟩: ∃ v,vs 2=v:=⟨_,O⟩
    obtain⟨vs,rfl⟩:=zat bb
    have bc:Ow af 3 [] [ba] E:=(hN 2 (zaC O))
    have I:vs 3=vI b:=(hN 3 (zaC O))
    obtain⟨vs,rfl⟩:=zat I
    obtain⟨e,J⟩: ∃ e,vs 5 = .slice (some (bx e)) 1 1:=⟨_,((hN 5 (zaC O))).1⟩
    obtain⟨vs,rfl⟩:=zat J
    have be:Bx af 4 e [vS x1.Name,vI x1.At]:=(hN 5 (zaC O)).2
    refine Tr.mono (T.call O (p173 (k0:=5) (c0:=3) bc be (Head.rd (K:=[0]) x1.Name x1.At) O O au)) ?_
    rintro bg _ ⟨ah,rfl,bh,⟨_,rfl,bi⟩⟩
    exact⟨ah,O,bh,(show Ow ah 5 [] [bg] z from bi)⟩
   ·intro vs bj lW hN hV
    obtain⟨f,L⟩: ∃ v,vs 6=v:=⟨_,O⟩
    obtain⟨vs,rfl⟩:=zat L
    have b3:Ow bj 5 [] [f] z:=(hN 6 (zaC O))
    exact Trq (R.as (v:=f) O) O
   ·intro vs ai bk hN
    have bl:=Z.t bk
    have F:vs 1=d:=(hN 1 (zaC O))
    obtain⟨vs,rfl⟩:=zat F
    have I:vs 3=vI b:=(hN 3 (zaC O))
    obtain⟨vs,rfl⟩:=zat I
    have G:vs 4 = .agg [vS x1.Name,vI x1.At].toArray:=(hN 4 (zaC O))
    obtain⟨vs,rfl⟩:=zat G
    obtain⟨e,J⟩: ∃ e,vs 5 = .slice (some (bx e)) 1 1:=⟨_,((hN 5 (zaC O))).1⟩
    obtain⟨vs,rfl⟩:=zat J
    have b4:Bx ai 4 e [vS x1.Name,vI x1.At]:=(hN 5 (zaC O)).2
    obtain⟨f,L⟩: ∃ v,vs 6=v:=⟨_,O⟩
    obtain⟨vs,rfl⟩:=zat L
    have bm:Ow ai 5 [] [f] z:=(hN 6 (zaC O))
    have bn:vs 7=f:=(hN 7 (zaC O))
    obtain⟨vs,rfl⟩:=zat bn
    cases Y
    exact Cw.ret (zik O (Res.mk bl ⟨f,O,bm.s.sub O O⟩))
 ·refine Cw.draw [] [(0,0),(1,0),(2,0),(3,0),(4,0),(5,0),(6,0),(7,0),(8,1),(9,0),(10,1),(11,0),(12,0)] mixed (by kernel_rfl) fun aj A=>?_
  have M:=V.n A
  refine Di O (Mw.p O O (fun _=>R.gt O O) (Db O (bs Y (fun a Y=>?_) fun a Y=>?_)))
  ·refine Wp a O (fun _=>R.mv (v:=d) O) (Wp a O (fun _=>R.mv (v:=vI b) O) (Wp a O (fun _=>R.sub O O) ?_))
   obtain⟨B,N,Y⟩:=ob Y
   exact Wp a O (fun _=>R.ix (α:=Head) (i.ul M) N O O O) (Wp a O (fun _=>R.fa O) (Wq a O (fun _ c=>R.ld O O (zaq (Head.at0 ((i.ul M).at_ N)).1 O (Head.at0 ((i.ul M).at_ N)).str c)) (Wp a O (fun _=>R.fa O) (Wq a O (fun _ c=>R.ld (v:=vS x1.Name) O O (((S.up x).up A).clc O O c)) (Wp a O (fun _=>R.sgt O O) (Mw.p O O (fun _=>R.pk a O (v:=vB (!(Op.bytesLess B.Name x1.Name||B.Name==x1.Name))) O) (Mw.nil ((ag) ⟨(!(Op.bytesLess B.Name x1.Name||B.Name==x1.Name)),aj,O,A,O,Y⟩))))))))
  ·exact dps 9 a O (Mw.p O O (fun _=>R.pk a O (v:=vB false) O) (Mw.nil ((ag) ⟨false,aj,O,A,O,Y⟩)))
theorem p145 {x0 b x1 k0 r}(d:Rd W K [b] x0)(f:Rd W K [vS x1.Name,vI x1.At] x1)(Y:Vm.zgy x0 x1=some r):Q1 145 [b, .agg [vS x1.Name,vI x1.At].toArray] W [] fun W' v=> ∃ a,v=a/\Ow W' k0 [] [a] r:=
 (c145 (d.view _) (f.view _) Y).ad (fk k0) fun _ _ ⟨a,e,h⟩=>⟨a,e,h.back (zgv _)⟩
theorem c99 {x0 k x x1 x2 r}(am:Ow W0 2 [] [k] x0.Commits)(an:Ow W0 3 [] [x] x0.Heads)(Y:Vm.zbM x0 x1 x2=some r):Q0 99 [.agg [k,x].toArray,vS x1,vI x2] W0 fun Wf v=> ∃ V W,v = .agg [V,W].toArray/\OwS Wf [31] [] [V] r.Commits/\OwS Wf [32] [] [W] r.Heads:=by
 unfold Vm.zbM at Y
 refine zao.of Tryz.func99 O O O O (sr (bo 4 O fun g1 W1 F X=>?_))
 have a2:=F.o
 refine al 5 [.slice none 0 0, .slice none 0 0] fun g5 Z d b5=>?_
 have a6:=a2.n d
 have o8:=(an.up F).up d
 refine nl (ssr (fl (X.up d) O (Lw.ln x0.Heads o8.rd O (mi O (nl (Cw.block ?_))))))
 obtain⟨au,av,Y⟩:=zaY Y
 refine Cw.loop 11 29 [7,11] (fun m l w=> ∃ e y z A ac B C a,CW.w a=w/\Le [] Z a/\l=[ac,vI e]/\Ow a 6 [] [B] y/\Ow a 7 [] [C] z/\Bx a 5 g5 [B,C]/\Ow a 3 [] [x] A/\Vm.zbF x0 x1 x2 au m e y z A=some r) _ ⟨0,([]:List Commit),([]:List Head),x0.Heads,undef, .slice none 0 0, .slice none 0 0,Z,O,Le.refl _ _,O,owN 6 [],owN 7 [],b5,o8,Y⟩ ?_
 rintro(_ |bq) _ _ σ ⟨e,y,z,A,ac,B,C,a,rfl,D,rfl,aw,ax,G,b,Y⟩
 ·cases Y
 unfold Vm.zbF at Y
 have ae:=a6.n D
 have H:=((am.up F).up d).up D
 have f:=(X.up d).up D
 refine sr (Lw.lt O (nl (Cw.seq (cn Y (fun Y=>?_) fun Y=>?_))))
 ·refine sk (Cw.seq (Cw.block (sr (mi O (Ni O (sr (fl f O (mi O ?_))))))))
  obtain⟨br,af,Y⟩:=ob Y
  refine Lw.r O (R.ix (α:=Head) b.rd af O O O) (Lw.fa O (Lw.r O (R.ld O O (Head.at0 (b.rd.at_ af)).str) (ms O (Lw.seq O (nl (cn Y (fun Y=>?_) fun Y=>?_))))))
  ·refine sr (fl f O (mi O (mi O ?_)))
   obtain⟨bu,ah,Y⟩:=ob Y
   refine Lw.r O (R.ix (α:=Head) b.rd ah O O O) (Lw.fa O ?_)
   obtain⟨bv,ay,Y⟩:=ob Y
   refine Lw.u (T.stH (α:=Head) (β:=Int) (J:=[]) (Ow.hole (α:=Head) (β:=Int) (jf:=1) b ah) (OwS.atm (K:=[]) (rdI _)) ay O O O O) ?_
   rintro _ _ ⟨bw,rfl,h,ai⟩
   have az:=ae.t h
   refine nl (sr (la (f.up h) (sta (G.up h) (zaa (H.up h).oc (zaa ai.oc zaG)) fun bz I a0=>?_)))
   have a1:=az.t I
   refine nl ?_
   obtain⟨b0,a3,L,a4⟩:=((H.up h).up I).dyeO 31
   have a5:=a1.t L
   obtain⟨b2,a7,N,a8⟩:=((ai.up I).up L).dyeO 32
   have a9:=a5.t N
   cases Y
   rw[<- a7.trans (a3)]
   exact Cw.ret (zn3 O ((a0.up L).up N) (Res.mk a9 ⟨k,x,O,(a4.up N).s,a8.s⟩))
  ·exact sk (rg (Lw.add O (mi O (nl ((agm) ⟨w64 (e+1),y,z,A,vI e,B,C,a,O,D,O,aw,ax,G,b,Y⟩)))))
 ·refine Cw.exit ?_
  rw[av]at Y
  refine sr (fl f O (ms O (mi O (Lw.r O (R.bd (zs:=[vS ([]:Str),vI 0]) (cs:=[vS x1,vI x2]) [(0,vS x1),(1,vI x2)] O O O (zaA O O (zaA O O zc8))) (cr Y (fun _=>p145 (K:=[0,3]) (k0:=8) (x1:=(Vm.Head.mk x1 x2)) (b.rd.sub (M:=[0,3]) O) ((Head.rd (K:=[0]) x1 x2).sub (M:=[0,3]) O)) ?_)))))
  rintro b3 aj b4 Y E ⟨_,rfl,P⟩
  have ba:=ae.n E
  refine Lw.fa O (Lw.u (T.st (j:=1) (v:=aj) (f.up E) O O P.oc O O) ?_)
  rintro _ _ ⟨b6,rfl,i,bb⟩
  have bc:=ba.t i
  have ak:=(H.up E).up i
  refine nl (sr (la bb (sta ((G.up E).up i) (zaa ak.oc (zaa (P.up i).oc zaG)) fun b7 Q be=>?_)))
  have bg:=bc.t Q
  refine nl ?_
  obtain⟨b8,bh,S,bi⟩:=(ak.up Q).dyeO 31
  have bj:=bg.t S
  obtain⟨b9,bk,U,bl⟩:=(((P.up i).up Q).up S).dyeO 32
  have bm:=bj.t U
  cases Y
  rw[<- bk.trans (bh)]
  exact Cw.ret (zn3 O ((be.up S).up U) (Res.mk bm ⟨k,aj,O,(bi.up U).s,bl.s⟩))
theorem p99 {x0 d f x1 x2 k0 k1 c0 c1 r}(h:Ow W c0 [] [d] x0.Commits)(i:Ow W c1 [] [f] x0.Heads)(hJ:okJ K [c0,c1]=true)(Y:Vm.zbM x0 x1 x2=some r):Q1 99 [.agg [d,f].toArray,vS x1,vI x2] W [c0,c1] fun W' v=> ∃ a b,v = .agg [a,b].toArray/\Ow W' k0 [] [a] r.Commits/\Ow W' k1 [] [b] r.Heads:=
 zao.adJ (J:=[c0,c1]) (fun c=>bif Nat.beq c 0 then 0 else bif Nat.beq c 2 then c0 else bif Nat.beq c 3 then c1 else bif Nat.beq c 31 then k0 else bif Nat.beq c 32 then k1 else 0) (c99 (h.viewJ 0 hJ) (i.viewJ 1 hJ) Y) fun _ _ ⟨a,b,e,k,x⟩=>⟨a,b,e,k.one1.backN O,x.one1.backN O⟩
theorem c146 {x0 e x1 f x2 h r}(B:Rd W0 [0] [e] x0)(C:Rd W0 [0] [f] x1)(D:Rd W0 [0] [h] x2)(i:Gl 0 W0 [0])(Y:Vm.zhc x0 x1 x2=some r):Q0 146 [e,f,h] W0 fun Wf v=>v=vB r:=by
 unfold Vm.zhc at Y
 refine zao.of Tryz.func146 O O O O (sr (Nb O ?_))
 obtain⟨E,F,Y⟩:=zaY Y
 refine Cw.join 7 16 [6] (fun l w=> ∃ k x,CW.w x=w/\Le [] W0 x/\l=[vB k]/\E k=some r) ?_ ?_
 ·rintro _ _ σ ⟨k,x,rfl,G,rfl,Y⟩
  rw[F]at Y
  have H:=G.o
  exact .ret (rt Y H)
 ·refine rg (mv e O (ca Y (fun _=>p93 B i) fun N I Y d=>?_))
  have y:=d.o
  refine mb O (bs Y (fun a Y=>?_) fun a Y=>?_)
  ·refine wak 2 a (mv f O (ca Y (fun _=>p93 (C.ul y) (i.ul y)) fun P J Y z=>?_))
   have A:=y.n z
   refine Pb a O (mb O (bs Y (fun b Y=>?_) fun b Y=>?_))
   ·exact wak 2 b (mv h O (ca Y (fun _=>p93 (D.ul A) (i.ul A)) fun K L Y M=>Pb b O (Nb O ((ag) ⟨K,L,O,((d.j z).j M).w,O,Y⟩))))
   ·exact psk 2 b O (Pb b O (Nb O ((ag) ⟨false,J,O,(d.j z).w,O,Y⟩)))
  ·exact psk 2 a O (Pb a O (mb O (psk 2 O O (Pb O O (Nb O ((ag) ⟨false,I,O,d,O,Y⟩))))))
theorem p146 {x0 a x1 b x2 d r}(f:Rd W K [a] x0)(h:Rd W K [b] x1)(i:Rd W K [d] x2)(k:Gl 0 W K)(Y:Vm.zhc x0 x1 x2=some r):Q1 146 [a,b,d] W [] fun W' v=>v=vB r:=
 (c146 (f.view _) (h.view _) (i.view _) (k.view _) Y).ad (fk 0) fun _ _ e=>e
theorem c174 {x0 x r}(y:Rd W0 [0] [x] x0)(Y:Vm.zim x0=some r):Q0 174 [x] W0 fun Wf v=> ∃ E,v=E/\OwS Wf LL [] [E] r:=by
 unfold Vm.zim at Y
 refine zao.of Tryz.func174 O O O O (sr (Nv (.slice none 0 0) O (sr (Nv (.slice none 0 0) O (ssr (mv x O (Lw.ln x0 y O (mi O (nl (Cw.block ?_))))))))))
 obtain⟨X,Z,Y⟩:=zaY Y
 refine Cw.loop 10 26 [3,5,7,10] (fun m l w=> ∃ f h a F z b,CW.w b=w/\Le [2,3] W0 b/\l=[a,F,z,vI h]/\Ow b 2 [] [a] f/\Vm.zco x0 X m f h=some r) _ ⟨([]:List Str),0, .slice none 0 0,undef,undef,W0,O,Le.refl _ _,O,owN 2 [],Y⟩ ?_
 rintro(_ |m9) _ _ σ ⟨f,h,a,F,z,b,rfl,G,rfl,H,Y⟩
 ·cases Y
 unfold Vm.zco at Y
 have A:=G.s
 refine sr (Lw.lt O (nl (Cw.seq (cn Y (fun Y=>?_) fun Y=>?_))))
 ·refine sk (Cw.seq (Cw.block (sr ?_)))
  obtain⟨I,J,Y⟩:=ob Y
  refine Lw.r O (R.ix (α:=List File) (y.ul A) J O O O) ?_
  obtain⟨B,c16,r17⟩:=((y.ul A).at_ J).cell O
  refine Lw.r O (R.ld O O c16) (Nv B O (sr (mv B O (Lw.ln I r17 O (mi O (nl (Cw.block ?_)))))))
  obtain⟨aa,ac,Y⟩:=zaY Y
  refine Cw.loop 16 25 [3,7,16] (fun m l w=> ∃ i k d C e,CW.w e=w/\Le [2,3] b e/\l=[d,C,vI k]/\Ow e 2 [] [d] i/\Vm.zew I aa m i k=some r) _ ⟨f,0,a,z,b,O,Le.refl _ _,O,H,Y⟩ ?_
  rintro(_ |ay) _ _ σ ⟨i,k,d,C,e,rfl,D,rfl,L,Y⟩
  ·cases Y
  unfold Vm.zew at Y
  have M:=D.s
  refine sr (Lw.lt O (nl (Cw.seq (cn Y (fun Y=>?_) fun Y=>?_))))
  ·refine sk (Cw.seq (Cw.block (sr ?_)))
   obtain⟨N,P,Y⟩:=ob Y
   refine Lw.r O (R.ix (α:=File) (r17.ul M) P O O O) ?_
   obtain⟨x31,c32,_,r33⟩:=((r17.ul M).at_ P).cells
   obtain⟨az,rfl,r35⟩:=File.split r33
   refine Lw.r O (R.lda c32 O O) (al 3 [vS ([]:Str), .slice none 0 0] fun ae a0 Q af=>sta af (zaa O (zaa r35.oc zaG)) fun a1 S ah=>nl (rg (mv d O (fl ah O (Lw.t O (T.bs 4 [vS N.Path] (cs:=[vS N.Path]) O O (bsv O)) ?_)))))
   rintro _ _ ⟨a2,a3,rfl,rfl,U,ai⟩
   obtain⟨aj,ak,Y⟩:=ob Y
   refine Lw.t O (T.app1S (α:=Str) (K':=[]) (((L.up Q).up S).up U) ai (rdS _) O O ak) ?_
   rintro V _ ⟨am,rfl,an,ao⟩
   exact Nv V O (rg (Lw.add O (mi O (nl ((agm) ⟨aj,w64 (k+1),V,ptr (bx ae),am,O,((((D.j Q).j S).j U).j an).w,O,ao,Y⟩)))))
  ·refine Cw.exit ?_
   rw[ac]at Y
   exact rg (Lw.add O (mi O (nl ((agm) ⟨i,w64 (h+1),d,B,C,e,O,(G.j D).w,O,L,Y⟩))))
 ·refine Cw.exit ?_
  rw[Z]at Y
  refine sr (mv a O (cr Y (fun _=>p113 (K:=[0]) (c0:=2) H O) ?_))
  rintro a4 _ a5 Y ap ⟨rfl,aq⟩
  have ar:=A.t ap
  refine nl (sr (mv a O (cr Y (fun _=>p129 (K:=[0]) (k0:=5) (c0:=2) aq O) ?_)))
  rintro a6 W a7 Y au ⟨_,rfl,av⟩
  have aw:=ar.t au
  refine Nv W O ?_
  cases Y
  exact Cw.ret (zik O (Res.mk aw ⟨W,O,av.s.sub O O⟩))
theorem p174 {x0 b k0 r}(d:Rd W K [b] x0)(Y:Vm.zim x0=some r):Q1 174 [b] W [] fun W' v=> ∃ a,v=a/\Ow W' k0 [] [a] r:=
 (c174 (d.view _) Y).ad (fk k0) fun _ _ ⟨a,e,f⟩=>⟨a,e,f.back (zgv _)⟩
theorem c176 {x0 d x1 r}(x:Rd W0 [0] [d] x0)(Y:Vm.zjH x0 x1=some r):Q0 176 [d,vS x1] W0 fun Wf v=> ∃ f,v = .agg [f,vB r.file].toArray/\OwS Wf LL [] [f] r.text:=by
 unfold Vm.zjH at Y
 refine zao.of Tryz.func176 O O O O (sr (al 2 [.slice none 0 0,vB false] fun D E y z=>?_))
 have h:=y.o
 refine nl (sr (mv d O (ms O (cr Y (fun _=>p116 (k0:=3) (x.ul h)) ?_))))
 rintro b _ F Y i ⟨a,rfl,e⟩
 have A:=h.n i
 refine mv (.tuple [a,vB b.2].toArray) O (Lw.r O (R.ext (vs:=[a,vB b.2]) (v:=a) O O) (Lw.r O (R.ext (vs:=[a,vB b.2]) (v:=vB b.2) O O) (Gv a O (Nb O (sr (mv a O (mb O (Lw.r O (R.bd (zs:=[.slice none 0 0,vB false]) (cs:=[a,vB b.2]) [(0,a),(1,vB b.2)] O O O (zaA e.oc O (zaA O O zc8))) (sta (z.up i) (zaa e.oc (zaa O zaG)) fun G k B=>?_)))))))))
 have C:=A.t k
 refine nl ?_
 cases Y
 exact Cw.ret (zn3 O B (Res.mk C ⟨a,O,(e.up k).s.sub O O⟩))
theorem p176 {x0 b x1 k0 r}(d:Rd W K [b] x0)(Y:Vm.zjH x0 x1=some r):Q1 176 [b,vS x1] W [] fun W' v=> ∃ a,v = .agg [a,vB r.file].toArray/\Ow W' k0 [] [a] r.text:=
 (c176 (d.view _) Y).ad (fk k0) fun _ _ ⟨a,e,f⟩=>⟨a,e,f.back (zgv _)⟩
theorem c204 {x0 h x1 i r}(B:Rd W0 [0] [h,vB x0.file] x0)(C:Rd W0 [0] [i,vB x1.file] x1)(Y:Vm.zgl x0 x1=some r):Q0 204 [.agg [h,vB x0.file].toArray, .agg [i,vB x1.file].toArray] W0 fun Wf v=>v=vB r:=by
 unfold Vm.zgl at Y
 obtain⟨P,k,D⟩:=has.split B
 simp only[List.cons.injEq,and_true,true_and]at k
 obtain rfl:=k
 obtain⟨Q,x,E⟩:=has.split C
 simp only[List.cons.injEq,and_true,true_and]at x
 obtain rfl:=x
 refine zao.of Tryz.func204 O O O O (sr (bo 2 O fun S T F y=>?_))
 have G:=F.o
 refine bo 3 O fun U z b A=>?_
 have d:=G.n b
 refine Nb O ?_
 obtain⟨H,I,Y⟩:=zaY Y
 refine Cw.join 5 16 [4] (fun l w=> ∃ e f,CW.w f=w/\Le [] z f/\l=[vB e]/\H e=some r) ?_ ?_
 ·rintro _ _ σ ⟨e,f,rfl,J,rfl,Y⟩
  rw[I]at Y
  have K:=d.n J
  exact .ret (rt Y K)
 ·refine rg (fl (y.up b) O (fl A O (Lw.r O (R.beq O O) (mb O (bs Y (fun a Y=>?_) fun a Y=>?_)))))
  ·exact wak 5 a (fl (y.up b) O (fl A O (ca Y (fun _=>p123 (D.ul d) (E.ul d)) fun L M Y N=>Pb a O (Nb O ((ag) ⟨L,M,O,N,O,Y⟩)))))
  ·exact psk 5 a O (Pb a O (Nb O ((ag) ⟨false,z,O,Le.refl _ _,O,Y⟩)))
theorem p204 {x0 a x1 b r}(d:Rd W K [a,vB x0.file] x0)(f:Rd W K [b,vB x1.file] x1)(Y:Vm.zgl x0 x1=some r):Q1 204 [.agg [a,vB x0.file].toArray, .agg [b,vB x1.file].toArray] W [] fun W' v=>v=vB r:=
 (c204 (d.view _) (f.view _) Y).ad (fk 0) fun _ _ e=>e
theorem c247 {x0 e x1 f x2 h r}(z:Rd W0 [0] [e] x0)(A:Rd W0 [0] [f] x1)(B:Rd W0 [0] [h] x2)(Y:Vm.zin x0 x1 x2=some r):Q0 247 [e,f,h] W0 fun Wf v=>v=vB r:=by
 unfold Vm.zin at Y
 refine zao.of Tryz.func247 O O O O (sr (Nb O ?_))
 obtain⟨C,D,Y⟩:=zaY Y
 refine Cw.join 7 16 [6] (fun l w=> ∃ i k,CW.w k=w/\Le [] W0 k/\l=[vB i]/\C i=some r) ?_ ?_
 ·rintro _ _ σ ⟨i,k,rfl,E,rfl,Y⟩
  rw[D]at Y
  have F:=E.o
  exact .ret (rt Y F)
 ·refine rg (mv e O (ca Y (fun _=>p144 z) fun M G Y d=>?_))
  have y:=d.o
  refine mb O (bs Y (fun a Y=>?_) fun a Y=>?_)
  ·refine wak 2 a (mv f O (ca Y (fun _=>p144 (A.ul y)) fun N H Y x=>?_))
   have I:=y.n x
   refine Pb a O (mb O (bs Y (fun b Y=>?_) fun b Y=>?_))
   ·exact wak 2 b (mv h O (ca Y (fun _=>p144 (B.ul I)) fun J K Y L=>Pb b O (Nb O ((ag) ⟨J,K,O,((d.j x).j L).w,O,Y⟩))))
   ·exact psk 2 b O (Pb b O (Nb O ((ag) ⟨false,H,O,(d.j x).w,O,Y⟩)))
  ·exact psk 2 a O (Pb a O (mb O (psk 2 O O (Pb O O (Nb O ((ag) ⟨false,G,O,d,O,Y⟩))))))
theorem p247 {x0 a x1 b x2 d r}(f:Rd W K [a] x0)(h:Rd W K [b] x1)(i:Rd W K [d] x2)(Y:Vm.zin x0 x1 x2=some r):Q1 247 [a,b,d] W [] fun W' v=>v=vB r:=
 (c247 (f.view _) (h.view _) (i.view _) Y).ad (fk 0) fun _ _ e=>e
theorem c254 {x0 i x1 k a r}(I:Rd W0 [0] [i] x0)(hB1:Bx W0 2 k [a])(b:Ow W0 3 [] [a] x1)(Y:Vm.zdL x0 x1=some r):Q0 254 [i,ptr (bx k)] W0 fun Wf v=> ∃ uc1,v = .tuple #[]/\Ow Wf 3 [] [uc1] r/\Bx Wf 2 k [uc1]:=by
 unfold Vm.zdL at Y
 refine zao.of Tryz.func254 O O O O (ssr (mv i O (Lw.ln x0 I O (Lw.eq O (nl (cn Y (fun Y=>?_) fun Y=>?_))))))
 ·cases Y
  exact Cw.ret (zD0 (Res.mk (Le.refl _ _) ⟨a,O,b,hB1⟩))
 ·refine sk (sr (Lw.r O (R.ld (v:=a) O O (hB1.cell0 O)) (Lw.ln x1 b.rd O (Lw.sub O (Ni O ?_)))))
  obtain⟨V,W,Y⟩:=zaY Y
  refine Cw.join 10 24 [3] (fun l w=> ∃ A B d e,CW.w e=w/\Le [2,3] W0 e/\l=[vI A]/\Ow e 3 [] [d] B/\Bx e 2 k [d]/\V A B=some r) ?_ ?_
  ·rintro _ _ σ ⟨A,B,d,e,rfl,X,rfl,Z,b6,Y⟩
   rw[W]at Y
   have a9:=X.s
   refine Cw.draw [3,4] [(0,1),(1,0),(2,1),(3,0),(4,0),(5,0),(7,0),(6,2),(8,2),(9,0),(10,0),(11,3)] mixed (by kernel_rfl) fun a1 l10=>?_
   have ae:=a9.n l10
   have x:=Z.up l10
   have C:=b6.up l10
   refine Mw.q O O (fun _ c=>R.ld (v:=d) O O (C.clc0 O O c)) (Di O (Mw.q O O (fun _ c=>R.ld (v:=d) O O (C.clc0 O O c)) (Di O ?_)))
   obtain⟨a2,D,Y⟩:=ob Y
   refine Mw.p O O (fun _=>R.ix (α:=Part) x.rd D O O O) (Df O (Dv i O ?_))
   obtain⟨a3,c17,r18⟩:=(Part.at1 (x.rd.at_ D)).cell O
   refine Mw.t O O (Run.tr (R.ld O O c17)) ?_
   rintro _ _ ⟨hu,rfl⟩
   obtain rfl:=hu.symm
   refine⟨⟨_,O,(Le.refl _ _)⟩,?_⟩
   obtain⟨a4,af,E,ah,ai⟩:=Ow.take (α:=Part) (β:=List Str) (j:=4) (jf:=1) x D c17 O
   rw[<- af]
   have K:=ae.t E
   obtain⟨a5,aj,Y⟩:=ob Y
   refine Mw.t O O (T.appP (α:=Str) ah (I.ul K) O O aj) ?_
   rintro a6 _ ⟨a7,rfl,y,ak⟩
   have am:=K.t y
   refine⟨⟨_,O,((E.sub (M:=[3,4]) O).trans (y.sub (M:=[3,4]) O))⟩,?_⟩
   obtain⟨a8,an,Y⟩:=ob Y
   refine Mw.p O O (fun _=>R.ix (α:=Part) x.rd an O O O) (Df O ?_)
   obtain⟨ba,ao,Y⟩:=ob Y
   refine Mw.lu O (T.stH (α:=Part) (β:=List Str) (J:=[4]) (ai.up (y.sub (M:=[4]) O) O) ak.s ao O O O O) ?_
   rintro _ _ ⟨bb,rfl,L,ap⟩
   have aq:=am.t L
   refine Mw.nil ?_
   cases Y
   show zyu _ _ _ .ret _ _
   exact zD0 (Res.mk aq ⟨d,O,ap,(((C.up E).up y).up L)⟩)
  ·obtain⟨ar,au,Y⟩:=zaY Y
   refine Cw.join 10 18 [18] (fun l w=> ∃ F z,CW.w z=w/\Le [] W0 z/\l=[vB F]/\ar F=some r) ?_ ?_
   ·rintro _ _ σ ⟨F,z,rfl,f,rfl,Y⟩
    rw[au]at Y
    have G:=hB1.up f
    refine cn Y (fun Y=>?_) fun Y=>?_
    ·refine sr (lz G O (Lw.r O (R.bd (zs:=[vB false, .slice none 0 0, .slice none 0 0, .slice none 0 0, .slice none 0 0]) (cs:=[vB false, .slice none 0 0, .slice none 0 0, .slice none 0 0, .slice none 0 0]) [] O O O zc8) (Lw.t O (T.bs 5 [.agg [vB false, .slice none 0 0, .slice none 0 0, .slice none 0 0, .slice none 0 0].toArray] (cs:=[vB false, .slice none 0 0, .slice none 0 0, .slice none 0 0, .slice none 0 0]) O O (bsA O)) ?_)))
     rintro _ _ ⟨bc,be,rfl,rfl,H,av⟩
     obtain⟨aw,ax,Y⟩:=ob Y
     refine Lw.t O (T.app1 (α:=Part) (J:=[]) (K':=[]) ((b.up f).up H) av (Part.own false ([]:List Str) ([]:List Str) ([]:List Str) ([]:List Str) (zp0 []) (zp0 []) (zp0 []) (zp0 [])) O O ax) ?_
     rintro N _ ⟨bg,rfl,P,Q⟩
     refine Lw.u (T.st0 (v:=N) ((G.up H).up P) O O Q.oc O O) ?_
     rintro _ _ ⟨ay,rfl,S,az⟩
     exact nl (rg (mi O (Lw.add O (Ni O ((ag) ⟨w64 ((w64 ((x1.length:Int)-1))+1),aw,N,ay,O,(((f.j H).j P).j S).w,O,(Q.up S),az,Y⟩)))))
    ·exact sk ((ag) ⟨w64 ((x1.length:Int)-1),x1,a,z,O,f.w,O,(b.up f),G,Y⟩)
   ·refine rg (mi O (Lw.lt O (mb O (bs Y (fun h Y=>?_) fun h Y=>?_))))
    ·exact psk 5 h O (Pb h O (nl ((ag) ⟨true,W0,O,Le.refl _ _,O,Y⟩)))
    ·refine wak 5 h (Lw.r O (R.ld (v:=a) O O (hB1.cell0 O)) (mi O ?_))
     obtain⟨a0,U,Y⟩:=ob Y
     exact Lw.r O (R.ix (α:=Part) b.rd U O O O) (Lw.fa O (Lw.r O (R.ld O O (Part.at0 (b.rd.at_ U)).bool) (Pb h O (nl ((ag) ⟨a0.Clash,W0,O,Le.refl _ _,O,Y⟩)))))
theorem p254 {x0 b x1 a d c0 c1 r}(f:Rd W K [b] x0)(hB1:Bx W c0 a [d])(h:Ow W c1 [] [d] x1)(hJ:okJ K [c0,c1]=true)(Y:Vm.zdL x0 x1=some r):Q1 254 [b,ptr (bx a)] W [c0,c1] fun W' v=> ∃ uc1,v = .tuple #[]/\Ow W' c1 [] [uc1] r/\Bx W' c0 a [uc1]:=
 zao.adJ (J:=[c0,c1]) (fun c=>bif Nat.beq c 0 then 0 else bif Nat.beq c 2 then c0 else bif Nat.beq c 3 then c1 else 0) (c254 (f.view _) (hB1.viewJ 0 hJ) (h.viewJ 1 hJ) Y) fun _ _ ⟨uc1,e,i,k⟩=>⟨uc1,e,Ow.backJ 1 i O,Bx.backJ 0 k O⟩
theorem c248 {x0 b x1 d x2 e r}(z:Rd W0 [0] [b] x0)(Z:Rd W0 [0] [d] x1)(h2:Rd W0 [0] [e] x2)(Y:Vm.zi7 x0 x1 x2=some r):Q0 248 [b,d,e] W0 fun Wf v=> ∃ u0,v=u0/\OwS Wf LL [] [u0] r:=by
 unfold Vm.zi7 at Y
 refine zao.of Tryz.func248 O O O O (sr (Nv (.slice none 0 0) O (sr (mv b O (mv d O (cr Y (fun _=>p118 (k0:=2) z Z) ?_))))))
 rintro z1 fg W3 Y l3 ⟨_,rfl,c5⟩
 have a4:=l3.o
 refine mv d O (Lw.ln x1 (Z.ul a4) O (Lw.t O (T.bs 3 [vI (x1.length:Int)] (cs:=[vI (x1.length:Int)]) O O (bsv O)) ?_))
 rintro _ _ ⟨g6,W6,rfl,rfl,l6,b6⟩
 have a7:=a4.n l6
 obtain⟨q9,c8,Y⟩:=ob Y
 refine Lw.t O (T.app1S (α:=Int) (K':=[]) (c5.up l6) b6 (rdI _) O O c8) ?_
 rintro P _ ⟨fm,rfl,c9,da⟩
 have a0:=a7.t c9
 refine mv b O (mv e O (cr Y (fun _=>p118 (k0:=4) (z.ul a0) (h2.ul a0)) ?_))
 rintro fn fo fp Y b5 ⟨_,rfl,db⟩
 have b7:=a0.n b5
 refine mv e O (Lw.ln x2 (h2.ul b7) O (Lw.t O (T.bs 5 [vI (x2.length:Int)] (cs:=[vI (x2.length:Int)]) O O (bsv O)) ?_))
 rintro _ _ ⟨fq,fr,rfl,rfl,a1,dc⟩
 have dd:=b7.n a1
 obtain⟨de,df,Y⟩:=ob Y
 refine Lw.t O (T.app1S (α:=Int) (K':=[]) (db.up a1) dc (rdI _) O O df) ?_
 rintro ac _ ⟨fs,rfl,b8,dg⟩
 have dh:=dd.t b8
 refine Gv P O (Nv ac O (sr (al 6 [.slice none 0 0] fun f b9 a2 di=>?_)))
 have dj:=dh.n a2
 have cb:=(((da.up b5).up a1).up b8).up a2
 refine nl (sr (Lw.r O (R.mkF (vs:=[ptr (bx f)]) O) (Nv (.func (.func 254) #[] [ptr (bx f)].toArray) O (sr (Gi O (Gi O (Ni O (ssr (mv P O (Lw.ln q9 cb.rd O (mi O (nl (Cw.block ?_)))))))))))))
 obtain⟨dk,dl,Y⟩:=zaY Y
 refine Cw.loop 35 120 [11,12,13,14,15,16,17,35] (fun m l w=> ∃ k h i a I cc a3 a5 a6 A x,CW.w x=w/\Le [6,7,8,9,10] b9 x/\l=[vI k,vI h,vI i,cc,a3,a5,a6,vI a]/\Ow x 7 [] [A] I/\Bx x 6 f [A]/\Vm.zb9 x0 x1 x2 q9 de dk m k h i a I=some r) _ ⟨0,0,0,0,([]:List Part),undef,undef,undef,undef, .slice none 0 0,b9,O,Le.refl _ _,O,owN 7 [],di,Y⟩ ?_
 rintro(_ |ft) _ _ σ ⟨k,h,i,a,I,cc,a3,a5,a6,A,x,rfl,ae,rfl,a8,a9,Y⟩
 ·cases Y
 unfold Vm.zb9 at Y
 have cd:=dj.t ae
 have ba:=cb.up ae
 have bb:=(dg.up a2).up ae
 refine sr (Lw.lt O (nl (Cw.seq (cn Y (fun Y=>?_) fun Y=>?_))))
 ·refine sk ?_
  obtain⟨dm,dn,Y⟩:=zaY Y
  refine Cw.join 37 119 [11,12,13,14,15,16,17] (fun l w=> ∃ af ah ai aj bc be bg bh ak K,CW.w K=w/\Le [6,7,8,9,10] x K/\l=[vI af,vI ah,vI ai,bc,be,bg,bh]/\Ow K 7 [] [ak] aj/\Bx K 6 f [ak]/\dm af ah ai aj=some r) ?_ ?_
  ·rintro _ _ σ ⟨af,ah,ai,aj,bc,be,bg,bh,ak,K,rfl,dp,rfl,dq,dr,Y⟩
   rw[dn]at Y
   exact rg (Lw.add O (mi O (nl ((agm) ⟨af,ah,ai,w64 (a+1),aj,bc,be,bg,bh,ak,K,O,(ae.j dp).w,O,dq,dr,Y⟩))))
  ·refine Cw.block (sr (mi O (Ni O (Cw.seq ?_))))
   obtain⟨ds,dt,Y⟩:=zaY Y
   refine Cw.join 38 49 [49] (fun l w=> ∃ bi am,CW.w am=w/\Le [] x am/\l=[vB bi]/\ds bi=some r) ?_ ?_
   ·rintro _ _ σ ⟨bi,am,rfl,y,rfl,Y⟩
    rw[dt]at Y
    have du:=cd.n y
    refine cn Y (fun Y=>?_) fun Y=>?_
    ·exact Cw.exit ((ag) ⟨k,h,i,I,vI a,a3,a5,a6,A,am,O,y.w,O,(a8.up y),(a9.up y),Y⟩)
    ·refine sk (Cw.seq (Cw.draw [] [(0,0),(1,0),(2,0),(3,0),(4,0),(5,0),(6,0),(7,0),(8,0),(9,1),(10,0),(11,0),(12,0),(13,0),(14,0),(15,0),(16,1),(17,0),(18,0),(19,0),(20,0)] mixed (by kernel_rfl) fun ce L=>?_))
     have B:=du.n L
     have an:=(ba.up y).up L
     have ao:=(bb.up y).up L
     refine Dv b O (Di O (Di O ?_))
     obtain⟨fu,cf,Y⟩:=ob Y
     have r103:=(z.ul B).cutV cf
     refine Mw.p O O (fun _=>R.sl (z.ul B) cf O (.inr O) (.inr O)) (Dv d O (Di O (Dv P O (Di O ?_))))
     obtain⟨C,bj,Y⟩:=ob Y
     refine Mw.p O O (fun _=>R.ix (α:=Int) an.rd bj O O O) (Mw.q O O (fun _ c=>R.ld O O (zaq (an.rd.at_ bj).1 O (an.rd.at_ bj).int c)) ?_)
     obtain⟨fv,cg,Y⟩:=ob Y
     have r110:=(Z.ul B).cutV cg
     refine Mw.p O O (fun _=>R.sl (Z.ul B) cg O (.inr O) (.inr O)) (Dv e O (Di O (Dv ac O (Di O ?_))))
     obtain⟨D,bk,Y⟩:=ob Y
     refine Mw.p O O (fun _=>R.ix (α:=Int) ao.rd bk O O O) (Mw.q O O (fun _ c=>R.ld O O (zaq (ao.rd.at_ bk).1 O (ao.rd.at_ bk).int c)) ?_)
     obtain⟨fw,ch,Y⟩:=ob Y
     have r117:=(h2.ul B).cutV ch
     refine Mw.p O O (fun _=>R.sl (h2.ul B) ch O (.inr O) (.inr O)) (Hv (cutV b (k:Int).toNat (a:Int).toNat (Rp.sz (Str))) O (Hv (cutV d (h:Int).toNat (C:Int).toNat (Rp.sz (Str))) O (Hv (cutV e (i:Int).toNat (D:Int).toNat (Rp.sz (Str))) O (Mw.nil ?_))))
     obtain⟨dv,dw,Y⟩:=zaY Y
     refine Cw.join 68 96 [] (fun l w=> ∃ Q ap E,CW.w E=w/\Le [6,7,8,9,10] ce E/\l=[]/\Ow E 7 [] [ap] Q/\Bx E 6 f [ap]/\dv Q=some r) ?_ ?_
     ·rintro _ _ σ ⟨Q,ap,E,rfl,aq,rfl,ci,cj,Y⟩
      rw[dw]at Y
      have bl:=B.t aq
      obtain⟨dx,dy,Y⟩:=zaY Y
      refine Cw.join 97 107 [] (fun l w=> ∃ ar au S,CW.w S=w/\Le [6,7] E S/\l=[]/\Ow S 7 [] [au] ar/\Bx S 6 f [au]/\dx ar=some r) ?_ ?_
      ·rintro _ _ σ ⟨ar,au,S,rfl,bm,rfl,dz,d0,Y⟩
       rw[dy]at Y
       refine Cw.draw [] [(0,0),(1,0),(2,0),(3,0),(4,0),(5,1),(6,0),(7,0),(8,0),(9,0),(10,1),(11,0),(12,0),(13,0),(14,0)] mixed (by kernel_rfl) fun d1 U=>?_
       have bn:=((an.up aq).up bm).up U
       have bp:=((ao.up aq).up bm).up U
       refine Di O (Mw.p O O (fun _=>R.add O O) (Dv P O (Di O ?_)))
       obtain⟨d2,bq,Y⟩:=ob Y
       refine Mw.p O O (fun _=>R.ix (α:=Int) bn.rd bq O O O) (Mw.q O O (fun _ c=>R.ld O O (zaq (bn.rd.at_ bq).1 O (bn.rd.at_ bq).int c)) (Mw.p O O (fun _=>R.add O O) (Dv ac O (Di O ?_))))
       obtain⟨d3,br,Y⟩:=ob Y
       exact Mw.p O O (fun _=>R.ix (α:=Int) bp.rd br O O O) (Mw.q O O (fun _ c=>R.ld O O (zaq (bp.rd.at_ br).1 O (bp.rd.at_ br).int c)) (Mw.p O O (fun _=>R.add O O) (Hi O (Hi O (Hi O (Mw.nil ((ag) ⟨w64 (a+1),w64 (d2+1),w64 (d3+1),ar,vI a,(cutV b (k:Int).toNat (a:Int).toNat (Rp.sz (Str))),(cutV d (h:Int).toNat (C:Int).toNat (Rp.sz (Str))),(cutV e (i:Int).toNat (D:Int).toNat (Rp.sz (Str))),au,d1,O,((((y.j L).j aq).j bm).j U).w,O,(dz.up U),(d0.up U),Y⟩)))))))
      ·refine sr (mi O (mv b O (Lw.ln x0 (z.ul bl) O (Lw.lt O (nl (cn Y (fun Y=>?_) fun Y=>?_))))))
       ·refine rg (mv (.func (.func 254) #[] [ptr (bx f)].toArray) O (mv b O (mi O (mi O (Lw.add O ?_)))))
        obtain⟨fx,ck,Y⟩:=ob Y
        have r157:=(z.ul bl).cutV ck
        refine Lw.r O (R.sl (z.ul bl) ck O (.inr O) (.inr O)) ?_
        obtain⟨d4,d5,Y⟩:=ob Y
        refine Lw.t O (T.callV (vals:=[(cutV b (a:Int).toNat (w64 (a+1):Int).toNat (Rp.sz (Str)))]) (caps:=[ptr (bx f)]) O O (p254 (c0:=6) (c1:=7) (x1:=Q) r157 cj ci O d5)) ?_
        rintro _ _ ⟨d6,rfl,d7,⟨d8,rfl,d9,ea⟩⟩
        exact nl ((ag) ⟨d4,d8,d6,O,d7,O,d9,ea,Y⟩)
       ·exact sk ((ag) ⟨Q,ap,E,O,Le.refl _ _,O,ci,cj,Y⟩)
     ·refine Cw.block ?_
      obtain⟨eb,ec,Y⟩:=zaY Y
      refine Cw.join 78 86 [78] (fun l w=> ∃ bu bv,CW.w bv=w/\Le [] ce bv/\l=[vB bu]/\eb bu=some r) ?_ ?_
      ·rintro _ _ σ ⟨bu,bv,rfl,M,rfl,Y⟩
       rw[ec]at Y
       have av:=M.o
       have bw:=((a8.up y).up L).up M
       have bz:=((a9.up y).up L).up M
       refine cn Y (fun Y=>?_) fun Y=>?_
       ·refine rg (mv (.func (.func 254) #[] [ptr (bx f)].toArray) O (mv (cutV e (i:Int).toNat (D:Int).toNat (Rp.sz (Str))) O ?_))
        obtain⟨ed,ee,Y⟩:=ob Y
        refine Lw.t O (T.callV (vals:=[(cutV e (i:Int).toNat (D:Int).toNat (Rp.sz (Str)))]) (caps:=[ptr (bx f)]) O O (p254 (c0:=6) (c1:=7) (x1:=I) (r117.ul av) bz bw O ee)) ?_
        rintro _ _ ⟨ef,rfl,eg,⟨eh,rfl,ei,ej⟩⟩
        exact nl ((ag) ⟨ed,eh,ef,O,(M.j eg).w,O,ei,ej,Y⟩)
       ·refine sr (mv (cutV e (i:Int).toNat (D:Int).toNat (Rp.sz (Str))) O (mv (cutV b (k:Int).toNat (a:Int).toNat (Rp.sz (Str))) O (ca Y (fun _=>p123 (r117.ul av) (r103.ul av)) fun fy fz Y F=>?_)))
        have cl:=av.n F
        refine Nb O (cn Y (fun Y=>?_) fun Y=>?_)
        ·refine rg (mv (.func (.func 254) #[] [ptr (bx f)].toArray) O (mv (cutV d (h:Int).toNat (C:Int).toNat (Rp.sz (Str))) O ?_))
         obtain⟨ek,el,Y⟩:=ob Y
         refine Lw.t O (T.callV (vals:=[(cutV d (h:Int).toNat (C:Int).toNat (Rp.sz (Str)))]) (caps:=[ptr (bx f)]) O O (p254 (c0:=6) (c1:=7) (x1:=I) (r110.ul cl) (bz.up F) (bw.up F) O el)) ?_
         rintro _ _ ⟨em,rfl,en,⟨eo,rfl,ep,er⟩⟩
         exact nl ((ag) ⟨ek,eo,em,O,((M.j F).j en).w,O,ep,er,Y⟩)
        ·refine Cw.draw [] [(0,1),(1,0),(3,0),(5,0),(2,2),(4,2),(6,2),(7,0),(8,2),(9,3),(10,3)] mixed (by kernel_rfl) fun f0 aw=>?_
         have cm:=cl.n aw
         have co:=(bz.up F).up aw
         refine Mw.q O O (fun _ c=>R.ld (v:=A) O O (co.clc0 O O c)) (Dv (cutV b (k:Int).toNat (a:Int).toNat (Rp.sz (Str))) O (Dv (cutV d (h:Int).toNat (C:Int).toNat (Rp.sz (Str))) O (Dv (cutV e (i:Int).toNat (D:Int).toNat (Rp.sz (Str))) O ?_)))
         obtain⟨es,et,Y⟩:=ob Y
         refine Mw.t O O (T.call O (p125 (k0:=8) (r103.ul cm) et)) ?_
         rintro ax _ ⟨f1,rfl,V,⟨_,rfl,eu⟩⟩
         have cp:=cm.n V
         refine m0 V fun ew=>?_
         obtain⟨ex,ey,Y⟩:=ob Y
         refine Mw.t O O (T.call O (p125 (k0:=9) (r110.ul cp) ey)) ?_
         rintro ay _ ⟨f2,rfl,N,⟨_,rfl,cq⟩⟩
         have ez:=cp.n N
         refine mc ew N fun e0=>?_
         obtain⟨e1,e2,Y⟩:=ob Y
         refine Mw.t O O (T.call O (p125 (k0:=10) (r117.ul ez) e2)) ?_
         rintro az _ ⟨f3,rfl,G,⟨_,rfl,ct⟩⟩
         have cu:=(eu.up N).up G
         refine mc e0 G fun e3=>Mw.p O O (fun _=>R.bd (zs:=[vB false, .slice none 0 0, .slice none 0 0, .slice none 0 0, .slice none 0 0]) (cs:=[vB true, .slice none 0 0,ax,ay,az]) [(0,vB true),(2,ax),(3,ay),(4,az)] O O O (zaA O O (zaA cu.oc O (zaA (cq.up G).oc O (zaA ct.oc O zc8))))) (Mw.t O O (T.bs 11 [.agg [vB true, .slice none 0 0,ax,ay,az].toArray] (cs:=[vB true, .slice none 0 0,ax,ay,az]) O O (bsA O)) ?_)
         rintro _ _ ⟨f4,f5,rfl,rfl,H,e4⟩
         refine mc e3 H fun f6=>?_
         obtain⟨e5,e6,Y⟩:=ob Y
         refine Mw.l O O (T.app1 (α:=Part) (J:=[8,9,10]) (K':=[]) ((((((bw.up F).up aw).up V).up N).up G).up H) e4 (Part.own true ([]:List Str) es ex e1 (zp0 []) (cu.up H).s ((cq.up G).up H).s (ct.up H).s) O O e6) ?_
         rintro cv _ ⟨f7,rfl,cw,cx⟩
         refine Mw.lu O (T.st0 (v:=cv) (((((co.up V).up N).up G).up H).up cw) O O cx.oc O O) ?_
         rintro _ _ ⟨e7,rfl,cy,e8⟩
         exact Mw.nil ((ag) ⟨e5,cv,e7,O,((((((((M.j F).j aw).j V).j N).j G).j H).j cw).j cy).w,O,(cx.up cy),e8,Y⟩)
      ·refine rg (mv (cutV d (h:Int).toNat (C:Int).toNat (Rp.sz (Str))) O (mv (cutV b (k:Int).toNat (a:Int).toNat (Rp.sz (Str))) O (ca Y (fun _=>p123 r110 r103) fun f8 e9 Y b0=>?_)))
       have cz:=b0.o
       refine mb O (bs Y (fun W Y=>?_) fun W Y=>?_)
       ·exact psk 3 W O (Pb W O (Nb O ((ag) ⟨true,e9,O,b0,O,Y⟩)))
       ·exact wak 3 W (mv (cutV d (h:Int).toNat (C:Int).toNat (Rp.sz (Str))) O (mv (cutV e (i:Int).toNat (D:Int).toNat (Rp.sz (Str))) O (ca Y (fun _=>p123 (r110.ul cz) (r117.ul cz)) fun fb fc Y fd=>Pb W O (Nb O ((ag) ⟨fb,fc,O,(b0.j fd).w,O,Y⟩)))))
   ·refine rg (mv P O (mi O ?_))
    obtain⟨f9,c2,Y⟩:=ob Y
    refine Lw.r O (R.ix (α:=Int) ba.rd c2 O O O) (Lw.r O (R.ld O O (ba.rd.at_ c2).int) (Lw.lt O (mb O (bs Y (fun X Y=>?_) fun X Y=>?_))))
    ·exact psk 5 X O (Pb X O (nl ((ag) ⟨true,x,O,Le.refl _ _,O,Y⟩)))
    ·refine wak 5 X (mv ac O (mi O ?_))
     obtain⟨fe,c3,Y⟩:=ob Y
     exact Lw.r O (R.ix (α:=Int) bb.rd c3 O O O) (Lw.r O (R.ld O O (bb.rd.at_ c3).int) (Lw.lt O (Pb X O (nl ((ag) ⟨decide (fe< (0:Int)),x,O,Le.refl _ _,O,Y⟩)))))
 ·refine Cw.exit ?_
  rw[dl]at Y
  refine sr (lz a9 O (Nv A O ?_))
  cases Y
  exact Cw.ret (zik O (Res.mk cd ⟨A,O,a8.s.sub O O⟩))
theorem p248 {x0 b x1 d x2 f k0 r}(h:Rd W K [b] x0)(i:Rd W K [d] x1)(k:Rd W K [f] x2)(Y:Vm.zi7 x0 x1 x2=some r):Q1 248 [b,d,f] W [] fun W' v=> ∃ a,v=a/\Ow W' k0 [] [a] r:=
 (c248 (h.view _) (i.view _) (k.view _) Y).ad (fk k0) fun _ _ ⟨a,e,x⟩=>⟨a,e,x.back (zgv _)⟩
theorem c233 {x0 a b d e r}(i:Rd W0 [0] [vB x0.Clash,a,b,d,e] x0)(Y:Vm.zhy x0=some r):Q0 233 [.agg [vB x0.Clash,a,b,d,e].toArray] W0 fun Wf v=> ∃ f,v = .tuple [f,vB r.2].toArray/\OwS Wf LL [] [f] r.1:=by
 unfold Vm.zhy at Y
 obtain⟨y,z,A,B,h,C,D,E,F⟩:=Part.split i
 simp only[List.cons.injEq,and_true,true_and]at h
 obtain⟨rfl,rfl,rfl,rfl⟩:=h
 refine zao.of Tryz.func233 O O O O (sr (bo 2 O fun G H k I=>?_))
 have x:=k.o
 refine Gv (.slice none 0 0) O (Nb O (sr (Gv (.slice none 0 0) O (Nb O ?_))))
 cases Y
 exact Cw.ret (zph O O (Res.mk x ⟨.slice none 0 0,O,(zp0 []).sub O O⟩))
theorem p233 {x0 b d f h k0 r}(i:Rd W K [vB x0.Clash,b,d,f,h] x0)(Y:Vm.zhy x0=some r):Q1 233 [.agg [vB x0.Clash,b,d,f,h].toArray] W [] fun W' v=> ∃ a,v = .tuple [a,vB r.2].toArray/\Ow W' k0 [] [a] r.1:=
 (c233 (i.view _) Y).ad (fk k0) fun _ _ ⟨a,e,k⟩=>⟨a,e,k.back (zgv _)⟩
theorem c232_233 {x0 C x1 D x2 E r}(h0:Rd W0 [0] [C] x0)(h1:Rd W0 [0] [D] x1)(h2:Rd W0 [0] [E] x2)(Y:Vm.zca x0 x1 x2=some r):Q0 232 [C,D,E, .func (.func 233) #[] [].toArray] W0 fun Wf v=> ∃ u0,v = .tuple [u0,vB r.2].toArray/\OwS Wf LL [] [u0] r.1:=by
 unfold Vm.zca at Y
 refine zao.of Tryz.func232 O O O O (sr (Gv (.slice none 0 0) O (Nb O (ssr (mv C O (mv D O (mv E O (ca Y (fun _=>p247 h0 h1 h2) fun z1 W3 Y l3=>?_))))))))
 have i:=l3.o
 refine Lw.r O (R.not O) (nl (cn Y (fun Y=>?_) fun Y=>?_))
 ·refine sr (Gv (.slice none 0 0) O (Nb O ?_))
  cases Y
  exact Cw.ret (zph O O (Res.mk i ⟨.slice none 0 0,O,(zp0 []).sub O O⟩))
 ·refine sk (sr (Nv (.slice none 0 0) O (ssr (mv C O (mv D O (mv E O (cr Y (fun _=>p248 (k0:=2) (h0.ul i) (h1.ul i) (h2.ul i)) ?_)))))))
  rintro P a6 b6 Y a7 ⟨_,rfl,am⟩
  have a8:=i.n a7
  refine Lw.ln P am.rd O (mi O (nl (Cw.block ?_)))
  obtain⟨Q,a9,ba,bb⟩:=zmg _ 2
  rw[<- a9]
  have an:Rd (α:=List Vm.Part) Q [0] [a6] P:=by rw[bb];exact(am.rd.dye 2).sub (M:=[0]) O
  have ao:=a8.t ba
  obtain⟨bc,be,Y⟩:=zaY Y
  refine Cw.loop 26 46 [8,9,10,12,13,14,15,26] (fun m l w=> ∃ k x S F y b ap aq U V z,CW.w z=w/\Le [6,7,8] Q z/\l=[y,vB x,b,ap,aq,U,V,vI F]/\Ow z 5 [] [y] k/\Ow z 6 [] [b] S/\Vm.zaN P bc m k x S F=some r) _ ⟨([]:List Str),false,([]:List Str),0, .slice none 0 0, .slice none 0 0,undef,undef,undef,undef,Q,O,Le.refl _ _,O,owN 5 [],owN 6 [],Y⟩ ?_
  rintro(_ |b7) _ _ σ ⟨k,x,S,F,y,b,ap,aq,U,V,z,rfl,ar,rfl,bg,W,Y⟩
  ·cases Y
  unfold Vm.zaN at Y
  have G:=ar.s
  refine sr (Lw.lt O (nl (Cw.seq (cn Y (fun Y=>?_) fun Y=>?_))))
  ·refine sk (Cw.seq (Cw.block (sr ?_)))
   obtain⟨d,au,Y⟩:=ob Y
   refine Lw.r O (R.ix (α:=Part) (an.ul G) au O O O) ?_
   obtain⟨x36,c37,_,r38⟩:=((an.ul G).at_ au).cells
   obtain⟨X,bh,bi,bj,rfl,r40,r42,r44,r46⟩:=Part.split r38
   refine Lw.r O (R.lda c37 O O) (al 7 [vB false, .slice none 0 0, .slice none 0 0, .slice none 0 0, .slice none 0 0] fun bk b8 H bl=>?_)
   have f:=H.o
   refine sta bl (zaa O (zaa r40.oc (zaa r42.oc (zaa r44.oc (zaa r46.oc zaG))))) fun av I Z=>?_
   have h:=I.s
   have aw:=(bg.up H).up I
   refine nl (sr (fl Z O (Nv X O ?_)))
   obtain⟨bm,bn,Y⟩:=zaY Y
   refine Cw.join 32 42 [8,9,13,14,15] (fun l w=> ∃ J L aa N A ac ae B,CW.w B=w/\Le [8] av B/\l=[N,vB L,A,ac,ae]/\Ow B 5 [] [N] J/\Rd B [0] [A] aa/\bm J L aa=some r) ?_ ?_
   ·rintro _ _ σ ⟨J,L,aa,N,A,ac,ae,B,rfl,ax,rfl,bp,r61,Y⟩
    rw[bn]at Y
    refine rg (mv b O (mv A O ?_))
    obtain⟨bq,br,Y⟩:=ob Y
    refine Lw.t O (T.appP (α:=Str) (((W.up H).up I).up ax) r61 O O br) ?_
    rintro ay _ ⟨bu,rfl,az,bv⟩
    exact Nv ay O (rg (Lw.add O (mi O (nl ((agm) ⟨J,L,bq,w64 (F+1),N,ay,ptr (bx bk),A,ac,ae,bu,O,((((ar.j H).j I).j ax).j az).w,O,(bp.up az),bv,Y⟩)))))
   ·refine sr (fl Z O (nl (cn Y (fun Y=>?_) fun Y=>?_)))
    ·refine sr (mv (.func (.func 233) #[] [].toArray) O (la Z ?_))
     obtain⟨e,bw,Y⟩:=ob Y
     refine Lw.t O (T.callV (vals:=[.agg [vB d.Clash,X,bh,bi,bj].toArray]) (caps:=[]) O O (p233 (k0:=8) (Part.rd (K:=[0]) d.Clash d.Lines d.Old d.One d.Two (r40.ul (f.trans h)) (r42.ul (f.trans h)) (r44.ul (f.trans h)) (r46.ul (f.trans h))) bw)) ?_
     rintro _ _ ⟨b9,rfl,af,⟨a,rfl,bz⟩⟩
     have b0:=(((ao.trans G).trans f).trans h).n af
     refine mv (.tuple [a,vB e.2].toArray) O (Lw.r O (R.ext (vs:=[a,vB e.2]) (v:=a) O O) (Lw.r O (R.ext (vs:=[a,vB e.2]) (v:=vB e.2) O O) (Gv a O (Nb O (ssr (mb O (Lw.r O (R.not O) (nl (cn Y (fun Y=>?_) fun Y=>?_)))))))))
     ·refine sr (Gv (.slice none 0 0) O (Nb O ?_))
      cases Y
      exact Cw.ret (zph O O (Res.mk b0 ⟨.slice none 0 0,O,(zp0 []).sub O O⟩))
     ·refine sk (rg (mv a O (Nv a O ?_)))
      obtain⟨a0,b1,a1,b2⟩:=zmg _ 8
      have b3:Rd (α:=List Str) a0 [0] [a] e.1:=by rw[b2];exact(bz.rd.dye 8).sub (M:=[0]) O
      exact(ag) ⟨k,x,e.1,y,a,a,vB e.2,a0,b1,(af.j a1).w,O,((aw.up af).up a1),b3,Y⟩
    ·exact sk ((ag) ⟨k,x,d.Lines,y,X,U,V,av,O,Le.refl _ _,O,aw,(r40.ul (f.trans h)),Y⟩)
  ·refine Cw.exit ?_
   rw[be]at Y
   refine ssr (mv b O (ca Y (fun _=>p144 (K:=[6]) W.rd) fun cb cc Y a2=>?_))
   have a3:=(ao.trans G).n a2
   refine Lw.r O (R.not O) (nl (cn Y (fun Y=>?_) fun Y=>?_))
   ·refine sr (Gv (.slice none 0 0) O (Nb O ?_))
    cases Y
    exact Cw.ret (zph O O (Res.mk a3 ⟨.slice none 0 0,O,(zp0 []).sub O O⟩))
   ·refine sk (sr (mv b O (Gv b O (Nb O ?_))))
    cases Y
    exact Cw.ret (zph O O (Res.mk a3 ⟨b,O,(W.up a2).s.sub O O⟩))
theorem p232_233 {x0 b x1 d x2 f k0 r}(h:Rd W K [b] x0)(i:Rd W K [d] x1)(k:Rd W K [f] x2)(Y:Vm.zca x0 x1 x2=some r):Q1 232 [b,d,f, .func (.func 233) #[] [].toArray] W [] fun W' v=> ∃ a,v = .tuple [a,vB r.2].toArray/\Ow W' k0 [] [a] r.1:=
 (c232_233 (h.view _) (i.view _) (k.view _) Y).ad (fk k0) fun _ _ ⟨a,e,x⟩=>⟨a,e,x.back (zgv _)⟩
theorem c205 {x0 b x1 d x2 e r}(i:Rd W0 [0] [b] x0)(k:Rd W0 [0] [d] x1)(x:Rd W0 [0] [e] x2)(Y:Vm.zhn x0 x1 x2=some r):Q0 205 [b,d,e] W0 fun Wf v=> ∃ h,v = .tuple [h,vB r.2].toArray/\OwS Wf LL [] [h] r.1:=by
 unfold Vm.zhn at Y
 refine zao.of Tryz.func205 O O O O (sr (Gv (.slice none 0 0) O (Nb O (sr (mv b O (mv d O (mv e O (cr Y (fun _=>p232_233 (k0:=2) i k x) ?_))))))))
 rintro f _ B Y y ⟨a,rfl,z⟩
 have A:=y.o
 refine Lw.r O (R.ext (vs:=[a,vB f.2]) (v:=a) O O) (Lw.r O (R.ext (vs:=[a,vB f.2]) (v:=vB f.2) O O) (Gv a O (Nb O ?_)))
 cases Y
 exact Cw.ret (zph O O (Res.mk A ⟨a,O,z.s.sub O O⟩))
theorem p205 {x0 b x1 d x2 f k0 r}(h:Rd W K [b] x0)(i:Rd W K [d] x1)(k:Rd W K [f] x2)(Y:Vm.zhn x0 x1 x2=some r):Q1 205 [b,d,f] W [] fun W' v=> ∃ a,v = .tuple [a,vB r.2].toArray/\Ow W' k0 [] [a] r.1:=
 (c205 (h.view _) (i.view _) (k.view _) Y).ad (fk k0) fun _ _ ⟨a,e,x⟩=>⟨a,e,x.back (zgv _)⟩
theorem c175 {x0 h x1 I x2 J r}(h0:Rd W0 [0] [h,vB x0.file] x0)(h1:Rd W0 [0] [I,vB x1.file] x1)(h2:Rd W0 [0] [J,vB x2.file] x2)(Y:Vm.zko x0 x1 x2=some r):Q0 175 [.agg [h,vB x0.file].toArray, .agg [I,vB x1.file].toArray, .agg [J,vB x2.file].toArray] W0 fun Wf v=> ∃ Z,v = .tuple [.agg [Z,vB r.1.file].toArray,vI r.2].toArray/\Rd Wf [0] [Z] r.1.text:=by
 unfold Vm.zko at Y
 obtain⟨b9,aa,b⟩:=has.split h0
 simp only[List.cons.injEq,and_true,true_and]at aa
 obtain rfl:=aa
 obtain⟨cb,ac,i⟩:=has.split h1
 simp only[List.cons.injEq,and_true,true_and]at ac
 obtain rfl:=ac
 obtain⟨cc,ae,k⟩:=has.split h2
 simp only[List.cons.injEq,and_true,true_and]at ae
 obtain rfl:=ae
 refine zao.of Tryz.func175 O O O O (sr (bo 2 O fun g1 W1 l1 b1=>?_))
 have a2:=l1.o
 refine bo 3 O fun g3 W3 l3 b3=>?_
 have a4:=a2.n l3
 refine bo 4 O fun g6 W6 L b6=>?_
 have a7:=a4.n L
 refine al 5 [.slice none 0 0,vB false] fun cj a9 l10 ai=>?_
 have D:=a7.n l10
 have N:=((b1.up l3).up L).up l10
 have P:=(b3.up L).up l10
 refine Ni O (Cw.seq (Cw.block ?_))
 obtain⟨ba,bb,Y⟩:=zaY Y
 refine Cw.join 10 18 [10] (fun l w=> ∃ Q S,CW.w S=w/\Le [] a9 S/\l=[vB Q]/\ba Q=some r) ?_ ?_
 ·rintro _ _ σ ⟨Q,S,rfl,d,rfl,Y⟩
  rw[bb]at Y
  have E:=D.n d
  have F:=(b6.up l10).up d
  refine cn Y (fun Y=>?_) fun Y=>?_
  ·refine sr (la F (sta (ai.up d) (zaa k.oc (zaa O zaG)) fun ck bc be=>?_))
   have aj:=E.t bc
   refine Ni O ?_
   cases Y
   exact Cw.ret (zfY O be O (Res.mk aj ⟨J,O,(k.ul aj)⟩))
  ·refine sr (la F (la (N.up d) (ca Y (fun _=>p204 (has.rd (K:=[0]) x2.text x2.file (k.ul E)) (has.rd (K:=[0]) x0.text x0.file (b.ul E))) fun cl T Y e=>?_)))
   have ak:=E.n e
   have U:=(P.up d).up e
   have am:=(ai.up d).up e
   refine Nb O (cn Y (fun Y=>?_) fun Y=>?_)
   ·refine sr (la U (sta am (zaa i.oc (zaa O zaG)) fun cm bg bh=>?_))
    have an:=ak.t bg
    refine Ni O ?_
    cases Y
    exact Cw.ret (zfY O bh O (Res.mk an ⟨I,O,(i.ul an)⟩))
   ·obtain⟨bi,bj,Y⟩:=zaY Y
    refine Cw.join 25 33 [25] (fun l w=> ∃ V W,CW.w W=w/\Le [] T W/\l=[vB V]/\bi V=some r) ?_ ?_
    ·rintro _ _ σ ⟨V,W,rfl,x,rfl,Y⟩
     rw[bj]at Y
     have f:=ak.n x
     have y:=((N.up d).up e).up x
     have G:=am.up x
     refine cn Y (fun Y=>?_) fun Y=>?_
     ·refine sr (la y (sta G (zaa b.oc (zaa O zaG)) fun co bk bl=>?_))
      have ao:=f.t bk
      refine Ni O ?_
      cases Y
      exact Cw.ret (zfY O bl O (Res.mk ao ⟨h,O,(b.ul ao)⟩))
     ·refine sr (fl y O (Lw.r O (R.not O) (Nb O (cn Y (fun Y=>?_) fun Y=>?_))))
      ·refine sr (la y (sta G (zaa b.oc (zaa O zaG)) fun cp bm bn=>?_))
       have ap:=f.t bm
       refine Ni O ?_
       cases Y
       exact Cw.ret (zfY O bn O (Res.mk ap ⟨h,O,(b.ul ap)⟩))
      ·refine sk (sr (fl y O (fl (U.up x) O (fl ((F.up e).up x) O (cr Y (fun _=>p205 (k0:=6) (b.ul f) (i.ul f) (k.ul f)) ?_)))))
       rintro z _ cq Y H ⟨a,rfl,X⟩
       have aq:=f.n H
       refine mv (.tuple [a,vB z.2].toArray) O (Lw.r O (R.ext (vs:=[a,vB z.2]) (v:=a) O O) (Lw.r O (R.ext (vs:=[a,vB z.2]) (v:=vB z.2) O O) (Gv a O (Nb O (ssr (mb O (Lw.r O (R.not O) (nl (cn Y (fun Y=>?_) fun Y=>?_)))))))))
       ·refine sr (la (y.up H) (sta (G.up H) (zaa b.oc (zaa O zaG)) fun ct bp bq=>?_))
        have ar:=aq.t bp
        refine Ni O ?_
        cases Y
        exact Cw.ret (zfY O bq O (Res.mk ar ⟨h,O,(b.ul ar)⟩))
       ·refine sk (sr (mv a O (Lw.r O (R.bd (zs:=[.slice none 0 0,vB false]) (cs:=[a,vB true]) [(0,a),(1,vB true)] O O O (zaA X.oc O (zaA O O zc8))) (sta (G.up H) (zaa X.oc (zaa O zaG)) fun cu au br=>?_))))
        have bu:=aq.t au
        refine Ni O ?_
        obtain⟨bv,bw,av,bz⟩:=zmg _ 6
        have b0:Rd (α:=List Str) bv [0] [a] z.1:=by rw[bz];exact((X.up au).rd.dye 6).sub (M:=[0]) O
        have b2:=bu.t av
        cases Y
        rw[<- bw]
        exact Cw.ret (zfY O (br.up av) O (Res.mk b2 ⟨a,O,b0⟩))
    ·refine rg (fl U O (Lw.r O (R.not O) (mb O (bs Y (fun A Y=>?_) fun A Y=>?_))))
     ·exact psk 3 A O (Pb A O (Nb O ((ag) ⟨true,T,O,Le.refl _ _,O,Y⟩)))
     ·exact wak 3 A (fl (F.up e) O (Lw.r O (R.not O) (Pb A O (Nb O ((ag) ⟨(!x2.file),T,O,Le.refl _ _,O,Y⟩)))))
 ·refine rg (la P (la N (ca Y (fun _=>p204 (has.rd (K:=[0]) x1.text x1.file (i.ul D)) (has.rd (K:=[0]) x0.text x0.file (b.ul D))) fun cv b4 Y B=>?_)))
  have aw:=D.n B
  refine mb O (bs Y (fun C Y=>?_) fun C Y=>?_)
  ·exact psk 3 C O (Pb C O (Nb O ((ag) ⟨true,b4,O,B,O,Y⟩)))
  ·exact wak 3 C (la (P.up B) (la ((b6.up l10).up B) (ca Y (fun _=>p204 (has.rd (K:=[0]) x1.text x1.file (i.ul aw)) (has.rd (K:=[0]) x2.text x2.file (k.ul aw))) fun b5 b7 Y b8=>Pb C O (Nb O ((ag) ⟨b5,b7,O,(B.j b8).w,O,Y⟩)))))
theorem p175 {x0 b x1 d x2 f r}(h:Rd W K [b,vB x0.file] x0)(i:Rd W K [d,vB x1.file] x1)(k:Rd W K [f,vB x2.file] x2)(Y:Vm.zko x0 x1 x2=some r):Q1 175 [.agg [b,vB x0.file].toArray, .agg [d,vB x1.file].toArray, .agg [f,vB x2.file].toArray] W [] fun W' v=> ∃ a,v = .tuple [.agg [a,vB r.1.file].toArray,vI r.2].toArray/\Rd W' (0::K) [a] r.1.text:=
 (c175 (h.view _) (i.view _) (k.view _) Y).ad (fk 0) fun _ _ ⟨a,e,x⟩=>⟨a,e,x.back O⟩
end Go.Sx
