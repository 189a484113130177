/- Walks: each function answers as its model, printed by a program of ours. Conditions: the arguments read as they are given. -/
import Derived.Test.YtpijdodljeieaaaGreatDoorATs
import Derived.Test.YtpijdodljeieaaaGreatDoorAM9
import Derived.Test.YtpijdodljeieaaaGreatDoorAW6
import Derived.Test.YtpijdodljeieaaaGreatDoorAW9
import Derived.Test.YtpijdodljeieaaaGreatDoorAE
namespace Go.Sx
open Go Go.Proofs Go.Vm Rp
set_option linter.unusedVariables false
set_option linter.unusedSimpArgs false
variable {W W0:CW}{K:List Nat}
theorem c143 {x0 d x1 r}(i:Rd W0 [0] [d] x0)(h1:Rd W0 [0] [vS x1.Name,vI x1.At] x1)(Y:Vm.zgO x0 x1=some r):Q0 143 [d, .agg [vS x1.Name,vI x1.At].toArray] W0 fun Wf v=> ∃ P,v=P/\OwS Wf LL [] [P] r:=by
 unfold Vm.zgO at Y
 refine zaO.of Tryz.func143 O O O O (sr (bo 2 O fun g1 Q l1 S=>?_))
 have U:=l1.o
 refine Nv (.slice none 0 0) O (sr (mv d O (Lw.ln x0 (i.ul U) O (Ni O (Cw.seq (Cw.block ?_))))))
 obtain⟨K6,an,Y⟩:=zdC Y
 refine Cw.loop 8 22 [5] (fun m l w=> ∃ b k,CW.w k=w/\Le [] Q k/\l=[vI b]/\Vm.zfj x0 x1 K6 m b=some r) _ ⟨(x0.length:Int),Q,O,Le.refl _ _,O,Y⟩ ?_
 rintro(_ |m7) _ _ σ ⟨b,k,rfl,x,rfl,Y⟩
 ·cases Y
 unfold Vm.zfj at Y
 have V:=U.n x
 refine Cw.seq ?_
 obtain⟨ao,ap,Y⟩:=zdC Y
 refine Cw.join 8 20 [20] (fun l w=> ∃ C y,CW.w y=w/\Le [] k y/\l=[vB C]/\ao C=some r) ?_ ?_
 ·rintro _ _ σ ⟨C,y,rfl,D,rfl,Y⟩
  rw[ap]at Y
  have aq:=V.n D
  refine cn Y (fun Y=>?_) fun Y=>?_
  ·exact sk (Cw.block (rg (mi O (Lw.sub O (Ni O ((agm) ⟨w64 (b-1),y,O,(x.j D).w,O,Y⟩))))))
  ·refine Cw.exit ?_
   rw[an]at Y
   refine Cw.seq ?_
   obtain⟨E,ar,Y⟩:=ob Y
   obtain⟨z,au,Y⟩:=ob Y
   refine Cw.par [[],[],[0,1],[],[],[4],[0,1,2,3,4,5],[0,1,2,3,4,5,6]] [[],[],[0,1],[],[],[4],[2,3,5],[6]] [[],[],[3],[],[],[],[3],[]] [[0],[1],[2],[3],[4],[5],[6],[6,7]] [[3],[],[3],[],[],[4],[5],[]] [1,3,4,5,6,7] [3] [fun vs W=>Ow W 3 [] [(vs 0)] ([]:List Head),fun vs W=>(vs 1)=d,fun vs W=>Ow W 3 [] [(vs 2)] E,fun vs W=>(vs 3)=vI b,fun vs W=>(vs 4) = .agg [vS x1.Name,vI x1.At].toArray,fun vs W=>(vs 5) = .slice (some (bx (pg (vs 5)))) 1 1/\Bx W 4 (pg (vs 5)) [vS x1.Name,vI x1.At],fun vs W=>Ow W 5 [] [(vs 6)] z,fun vs W=>(vs 7)=(vs 6)] [] mixed (by kernel_rfl) O zqj.nil ?_
   intro bu X
   have Z:=aq.n X
   refine⟨(zdm.cons ?_ (zdm.cons ?_ (zdm.cons ?_ (zdm.cons ?_ (zdm.cons ?_ (zdm.cons ?_ (zdm.cons ?_ (zdm.cons ?_ zdm.nil)))))))),(zhG.cons SO (zhG.cons SE (zhG.cons SO (zhG.cons SE (zhG.cons SE (zhG.cons (fun vs vs' W W' _ hv l hd h=>by(show(vs' 5) = .slice (some (bx (pg (vs' 5)))) 1 1/\Bx W' 4 (pg (vs' 5)) [vS x1.Name,vI x1.At]);rw[hv 5 (zcl O)];exact⟨h.1,h.2.up l (ziy hd (c:=4) O)⟩) (zhG.cons SO (zhG.cons (fun vs vs' W W' _ hv l hd h=>by(show(vs' 7)=(vs' 6));rw[hv 6 (zcl O),hv 7 (zcl O)];exact h) zhG.nil)))))))),?_⟩
   ·intro vs bv lW hN hV
    refine Tr.mono (T.lit0 (α:=Head) 3 []) ?_
    rintro av _ ⟨aa,rfl,aw,ax⟩
    exact⟨aa,O,aw,(show Ow aa 3 [] [av] ([]:List Head) from ax)⟩
   ·intro vs bw lW hN hV
    exact Trq (R.mv (v:=d) O) O
   ·intro vs ay lW hN hV
    have az:=Z.t lW O
    obtain⟨a0,a1⟩: ∃ v,vs 0=v:=⟨_,O⟩
    obtain⟨vs,rfl⟩:=za7 a1
    have a3:Ow ay 3 [] [a0] ([]:List Head):=(hN 0 (zcl O))
    have F:vs 1=d:=(hN 1 (zcl O))
    obtain⟨vs,rfl⟩:=za7 F
    refine Tr.mono (T.appP (α:=Head) a3 (i.ul az) O O ar) ?_
    rintro a4 _ ⟨ac,rfl,a5,a6⟩
    exact⟨ac,O,a5,(show Ow ac 3 [] [a4] E from a6)⟩
   ·intro vs bz lW hN hV
    exact Trq (R.mv (v:=vI b) O) O
   ·intro vs b0 lW hN hV
    exact Trq (R.lda (cs:=[vS x1.Name,vI x1.At]) ((((S.up x).up D).up X).up lW O).cells O O) O
   ·intro vs b2 lW hN hV
    have G:vs 4 = .agg [vS x1.Name,vI x1.At].toArray:=(hN 4 (zcl O))
    obtain⟨vs,rfl⟩:=za7 G
    refine Tr.mono (T.bs 4 [.agg [vS x1.Name,vI x1.At].toArray] (cs:=[vS x1.Name,vI x1.At]) O O (bsA O)) ?_
    rintro _ _ ⟨H,ae,rfl,rfl,a7,a9⟩
    exact⟨ae,O,a7,(show(.slice (some (bx H)) 1 1:Value) = .slice (some (bx H)) 1 1/\Bx ae 4 H [vS x1.Name,vI x1.At] from⟨O,a9⟩)⟩
   ·intro vs af lW hN hV
    obtain⟨ba,bb⟩: ∃ v,vs 2=v:=⟨_,O⟩
    obtain⟨vs,rfl⟩:=za7 bb
    have bc:Ow af 3 [] [ba] E:=(hN 2 (zcl O))
    have I:vs 3=vI b:=(hN 3 (zcl O))
    obtain⟨vs,rfl⟩:=za7 I
    obtain⟨e,J⟩: ∃ e,vs 5 = .slice (some (bx e)) 1 1:=⟨_,((hN 5 (zcl O))).1⟩
    obtain⟨vs,rfl⟩:=za7 J
    have be:Bx af 4 e [vS x1.Name,vI x1.At]:=(hN 5 (zcl O)).2
    refine Tr.mono (T.call O (p160 (k0:=5) (c0:=3) bc be (Head.rd (K:=[0]) x1.Name x1.At) O O au)) ?_
    rintro bg _ ⟨ah,rfl,bh,⟨_,rfl,bi⟩⟩
    exact⟨ah,O,bh,(show Ow ah 5 [] [bg] z from bi)⟩
   ·intro vs bj lW hN hV
    obtain⟨f,L⟩: ∃ v,vs 6=v:=⟨_,O⟩
    obtain⟨vs,rfl⟩:=za7 L
    have b3:Ow bj 5 [] [f] z:=(hN 6 (zcl O))
    exact Trq (R.as (v:=f) O) O
   ·intro vs ai bk hN
    have bl:=Z.t bk
    have F:vs 1=d:=(hN 1 (zcl O))
    obtain⟨vs,rfl⟩:=za7 F
    have I:vs 3=vI b:=(hN 3 (zcl O))
    obtain⟨vs,rfl⟩:=za7 I
    have G:vs 4 = .agg [vS x1.Name,vI x1.At].toArray:=(hN 4 (zcl O))
    obtain⟨vs,rfl⟩:=za7 G
    obtain⟨e,J⟩: ∃ e,vs 5 = .slice (some (bx e)) 1 1:=⟨_,((hN 5 (zcl O))).1⟩
    obtain⟨vs,rfl⟩:=za7 J
    have b4:Bx ai 4 e [vS x1.Name,vI x1.At]:=(hN 5 (zcl O)).2
    obtain⟨f,L⟩: ∃ v,vs 6=v:=⟨_,O⟩
    obtain⟨vs,rfl⟩:=za7 L
    have bm:Ow ai 5 [] [f] z:=(hN 6 (zcl O))
    have bn:vs 7=f:=(hN 7 (zcl O))
    obtain⟨vs,rfl⟩:=za7 bn
    cases Y
    exact Cw.ret (zj5 O (Res.mk bl ⟨f,O,bm.s.sub O O⟩))
 ·refine Cw.draw [] [(0,0),(1,0),(2,0),(3,0),(4,0),(5,0),(6,0),(7,0),(8,1),(9,0),(10,1),(11,0),(12,0)] mixed (by kernel_rfl) fun aj A=>?_
  have M:=V.n A
  refine Di O (Mw.p O O (fun _=>R.gt O O) (Db O (bs Y (fun a Y=>?_) fun a Y=>?_)))
  ·refine Wp a O (fun _=>R.mv (v:=d) O) (Wp a O (fun _=>R.mv (v:=vI b) O) (Wp a O (fun _=>R.sub O O) ?_))
   obtain⟨B,N,Y⟩:=ob Y
   exact Wp a O (fun _=>R.ix (α:=Head) (i.ul M) N O O O) (Wp a O (fun _=>R.fa O) (Wq a O (fun _ c=>R.ld O O (zaR (Head.at0 ((i.ul M).at_ N)).1 O (Head.at0 ((i.ul M).at_ N)).str c)) (Wp a O (fun _=>R.fa O) (Wq a O (fun _ c=>R.ld (v:=vS x1.Name) O O (((S.up x).up A).clc O O c)) (Wp a O (fun _=>R.sgt O O) (Mw.p O O (fun _=>R.pk a O (v:=vB (!(Op.bytesLess B.Name x1.Name||B.Name==x1.Name))) O) (Mw.nil ((ag) ⟨(!(Op.bytesLess B.Name x1.Name||B.Name==x1.Name)),aj,O,A,O,Y⟩))))))))
  ·exact dps 9 a O (Mw.p O O (fun _=>R.pk a O (v:=vB false) O) (Mw.nil ((ag) ⟨false,aj,O,A,O,Y⟩)))
theorem p143 {x0 b x1 k0 r}(d:Rd W K [b] x0)(f:Rd W K [vS x1.Name,vI x1.At] x1)(Y:Vm.zgO x0 x1=some r):Q1 143 [b, .agg [vS x1.Name,vI x1.At].toArray] W [] fun W' v=> ∃ a,v=a/\Ow W' k0 [] [a] r:=
 (c143 (d.view _) (f.view _) Y).ad (fk k0) fun _ _ ⟨a,e,h⟩=>⟨a,e,h.back (zkx _)⟩
theorem c112 {x0 k x x1 x2 r}(am:Ow W0 2 [] [k] x0.Commits)(an:Ow W0 3 [] [x] x0.Heads)(Y:Vm.zdz x0 x1 x2=some r):Q0 112 [.agg [k,x].toArray,vS x1,vI x2] W0 fun Wf v=> ∃ V W,v = .agg [V,W].toArray/\OwS Wf [31] [] [V] r.Commits/\OwS Wf [32] [] [W] r.Heads:=by
 unfold Vm.zdz at Y
 refine zaO.of Tryz.func112 O O O O (sr (bo 4 O fun g1 W1 F X=>?_))
 have a2:=F.o
 refine al 5 [.slice none 0 0, .slice none 0 0] fun g5 Z d b5=>?_
 have a6:=a2.n d
 have o8:=(an.up F).up d
 refine nl (ssr (fl (X.up d) O (Lw.ln x0.Heads o8.rd O (mi O (nl (Cw.block ?_))))))
 obtain⟨au,av,Y⟩:=zdC Y
 refine Cw.loop 11 29 [7,11] (fun m l w=> ∃ e y z A ac B C a,CW.w a=w/\Le [] Z a/\l=[ac,vI e]/\Ow a 6 [] [B] y/\Ow a 7 [] [C] z/\Bx a 5 g5 [B,C]/\Ow a 3 [] [x] A/\Vm.zck x0 x1 x2 au m e y z A=some r) _ ⟨0,([]:List Commit),([]:List Head),x0.Heads,undef, .slice none 0 0, .slice none 0 0,Z,O,Le.refl _ _,O,owN 6 [],owN 7 [],b5,o8,Y⟩ ?_
 rintro(_ |bq) _ _ σ ⟨e,y,z,A,ac,B,C,a,rfl,D,rfl,aw,ax,G,b,Y⟩
 ·cases Y
 unfold Vm.zck at Y
 have ae:=a6.n D
 have H:=((am.up F).up d).up D
 have f:=(X.up d).up D
 refine sr (Lw.lt O (nl (Cw.seq (cn Y (fun Y=>?_) fun Y=>?_))))
 ·refine sk (Cw.seq (Cw.block (sr (mi O (Ni O (sr (fl f O (mi O ?_))))))))
  obtain⟨br,af,Y⟩:=ob Y
  refine Lw.r O (R.ix (α:=Head) b.rd af O O O) (Lw.fa O (Lw.r O (R.ld O O (Head.at0 (b.rd.at_ af)).str) (ms O (Lw.seq O (nl (cn Y (fun Y=>?_) fun Y=>?_))))))
  ·refine sr (fl f O (mi O (mi O ?_)))
   obtain⟨bu,ah,Y⟩:=ob Y
   refine Lw.r O (R.ix (α:=Head) b.rd ah O O O) (Lw.fa O ?_)
   obtain⟨bv,ay,Y⟩:=ob Y
   refine Lw.u (T.stH (α:=Head) (β:=Int) (J:=[]) (Ow.hole (α:=Head) (β:=Int) (jf:=1) b ah) (OwS.atm (K:=[]) (rdI _)) ay O O O O) ?_
   rintro _ _ ⟨bw,rfl,h,ai⟩
   have az:=ae.t h
   refine nl (sr (la (f.up h) (sta (G.up h) (zah (H.up h).oc (zah ai.oc za4)) fun bz I a0=>?_)))
   have a1:=az.t I
   refine nl ?_
   obtain⟨b0,a3,L,a4⟩:=((H.up h).up I).dyeO 31
   have a5:=a1.t L
   obtain⟨b2,a7,N,a8⟩:=((ai.up I).up L).dyeO 32
   have a9:=a5.t N
   cases Y
   rw[<- a7.trans (a3)]
   exact Cw.ret (zoh O ((a0.up L).up N) (Res.mk a9 ⟨k,x,O,(a4.up N).s,a8.s⟩))
  ·exact sk (rg (Lw.add O (mi O (nl ((agm) ⟨w64 (e+1),y,z,A,vI e,B,C,a,O,D,O,aw,ax,G,b,Y⟩)))))
 ·refine Cw.exit ?_
  rw[av]at Y
  refine sr (fl f O (ms O (mi O (Lw.r O (R.bd (zs:=[vS ([]:Str),vI 0]) (cs:=[vS x1,vI x2]) [(0,vS x1),(1,vI x2)] O O O (zc0 O O (zc0 O O zhs))) (cr Y (fun _=>p143 (K:=[0,3]) (k0:=8) (x1:=(Vm.Head.mk x1 x2)) (b.rd.sub (M:=[0,3]) O) ((Head.rd (K:=[0]) x1 x2).sub (M:=[0,3]) O)) ?_)))))
  rintro b3 aj b4 Y E ⟨_,rfl,P⟩
  have ba:=ae.n E
  refine Lw.fa O (Lw.u (T.st (j:=1) (v:=aj) (f.up E) O O P.oc O O) ?_)
  rintro _ _ ⟨b6,rfl,i,bb⟩
  have bc:=ba.t i
  have ak:=(H.up E).up i
  refine nl (sr (la bb (sta ((G.up E).up i) (zah ak.oc (zah (P.up i).oc za4)) fun b7 Q be=>?_)))
  have bg:=bc.t Q
  refine nl ?_
  obtain⟨b8,bh,S,bi⟩:=(ak.up Q).dyeO 31
  have bj:=bg.t S
  obtain⟨b9,bk,U,bl⟩:=(((P.up i).up Q).up S).dyeO 32
  have bm:=bj.t U
  cases Y
  rw[<- bk.trans (bh)]
  exact Cw.ret (zoh O ((be.up S).up U) (Res.mk bm ⟨k,aj,O,(bi.up U).s,bl.s⟩))
theorem p112 {x0 d f x1 x2 k0 k1 c0 c1 r}(h:Ow W c0 [] [d] x0.Commits)(i:Ow W c1 [] [f] x0.Heads)(hJ:okJ K [c0,c1]=true)(Y:Vm.zdz x0 x1 x2=some r):Q1 112 [.agg [d,f].toArray,vS x1,vI x2] W [c0,c1] fun W' v=> ∃ a b,v = .agg [a,b].toArray/\Ow W' k0 [] [a] r.Commits/\Ow W' k1 [] [b] r.Heads:=
 zaO.adJ (J:=[c0,c1]) (fun c=>bif Nat.beq c 0 then 0 else bif Nat.beq c 2 then c0 else bif Nat.beq c 3 then c1 else bif Nat.beq c 31 then k0 else bif Nat.beq c 32 then k1 else 0) (c112 (h.viewJ 0 hJ) (i.viewJ 1 hJ) Y) fun _ _ ⟨a,b,e,k,x⟩=>⟨a,b,e,k.one1.backN O,x.one1.backN O⟩
theorem c89 {x0 D E x1 e f r}(S:Rd W0 [0] [D,E] x0)(T:Ow W0 2 [] [e] x1.Commits)(U:Ow W0 3 [] [f] x1.Heads)(V:Gl 0 W0 [0])(Y:Vm.zeA x0 x1=some r):Q0 89 [.agg [D,E].toArray, .agg [e,f].toArray] W0 fun Wf v=> ∃ F G,v = .tuple [.agg [F,G].toArray,vB r.2].toArray/\OwS Wf [31] [] [F] r.1.Commits/\OwS Wf [32] [] [G] r.1.Heads:=by
 unfold Vm.zeA at Y
 obtain⟨a1,a3,H,W,X⟩:=Repo.split S
 simp only[List.cons.injEq,and_true,true_and]at H
 obtain⟨rfl,rfl⟩:=H
 refine zaO.of Tryz.func89 O O O O (sr (bo 4 O fun g1 W1 h Z=>?_))
 have a2:=h.o
 refine bo 5 O fun g5 W5 b I=>?_
 have a6:=a2.n b
 refine al 6 [.slice none 0 0, .slice none 0 0] fun a9 ba l10 J=>?_
 have L:=a6.n l10
 have i:=((T.up h).up b).up l10
 have k:=((U.up h).up b).up l10
 refine Nb O (ssr (la (I.up l10) (ca Y (fun _=>p32 (K:=[0,2,3]) (x0:=(Vm.Repo.mk x1.Commits x1.Heads)) ((Repo.rd (K:=[2,3]) x1.Commits x1.Heads (i.rd.sub (M:=[2,3]) O) (k.rd.sub (M:=[2,3]) O)).sub (M:=[0,2,3]) O) ((V.ul L).sub (M:=[0,2,3]) O)) fun bb bc Y a=>?_)))
 have d:=L.n a
 refine Lw.r O (R.not O) (nl (cn Y (fun Y=>?_) fun Y=>?_))
 ·refine sr (la (((Z.up b).up l10).up a) (cr Y (fun _=>p90 (k0:=7) (k1:=8) (Repo.rd (K:=[0]) x0.Commits x0.Heads (W.ul d) (X.ul d))) ?_))
  rintro be _ bg Y N ⟨ae,af,rfl,P,Q⟩
  have ah:=d.n N
  refine sta ((J.up a).up N) (zah P.oc (zah Q.oc za4)) fun bh x ai=>?_
  have aj:=ah.t x
  refine Nb O ?_
  obtain⟨bi,ak,y,am⟩:=(P.up x).dyeO 31
  have an:=aj.t y
  obtain⟨bj,ao,z,ap⟩:=((Q.up x).up y).dyeO 32
  have aq:=an.t z
  cases Y
  rw[<- ao.trans (ak)]
  exact Cw.ret (zi2 O ((ai.up y).up z) O (Res.mk aq ⟨ae,af,O,(am.up z).s,ap.s⟩))
 ·refine sk (sr (la ((I.up l10).up a) (sta (J.up a) (zah (i.up a).oc (zah (k.up a).oc za4)) fun bk A ar=>?_)))
  have au:=d.t A
  refine Nb O ?_
  obtain⟨bl,av,B,aw⟩:=((i.up a).up A).dyeO 31
  have ax:=au.t B
  obtain⟨bm,ay,C,az⟩:=(((k.up a).up A).up B).dyeO 32
  have a0:=ax.t C
  cases Y
  rw[<- ay.trans (av)]
  exact Cw.ret (zi2 O ((ar.up B).up C) O (Res.mk a0 ⟨e,f,O,(aw.up C).s,az.s⟩))
theorem p89 {x0 d f x1 h i k0 k1 c0 c1 r}(k:Rd W K [d,f] x0)(x:Ow W c0 [] [h] x1.Commits)(y:Ow W c1 [] [i] x1.Heads)(z:Gl 0 W K)(hJ:okJ K [c0,c1]=true)(Y:Vm.zeA x0 x1=some r):Q1 89 [.agg [d,f].toArray, .agg [h,i].toArray] W [c0,c1] fun W' v=> ∃ a b,v = .tuple [.agg [a,b].toArray,vB r.2].toArray/\Ow W' k0 [] [a] r.1.Commits/\Ow W' k1 [] [b] r.1.Heads:=
 zaO.adJ (J:=[c0,c1]) (fun c=>bif Nat.beq c 0 then 0 else bif Nat.beq c 2 then c0 else bif Nat.beq c 3 then c1 else bif Nat.beq c 31 then k0 else bif Nat.beq c 32 then k1 else 0) (c89 (k.view _) (x.viewJ 0 hJ) (y.viewJ 1 hJ) (z.view _) Y) fun _ _ ⟨a,b,e,A,B⟩=>⟨a,b,e,A.one1.backN O,B.one1.backN O⟩
end Go.Sx
