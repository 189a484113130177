/- Walks: each function answers as its model, printed by a program of ours. Conditions: the arguments read as they are given. -/
import Derived.Test.YtpijdodljeieaaaGreatDoorBTs
import Derived.Test.YtpijdodljeieaaaGreatDoorBM10
import Derived.Test.YtpijdodljeieaaaGreatDoorBW5
import Derived.Test.YtpijdodljeieaaaGreatDoorBW6
import Derived.Test.YtpijdodljeieaaaGreatDoorBW8
import Derived.Test.YtpijdodljeieaaaGreatDoorBE
namespace Go.Sx
open Go Go.Proofs Go.Vm Rp
set_option linter.unusedVariables false
set_option linter.unusedSimpArgs false
variable {W W0:CW}{K:List Nat}
theorem c90 {x0 ac ae r}(h0:Rd W0 [0] [ac,ae] x0)(Y:Vm.zga x0=some r):Q0 90 [.agg [ac,ae].toArray] W0 fun Wf v=> ∃ af ah,v = .agg [af,ah].toArray/\OwS Wf [31] [] [af] r.Commits/\OwS Wf [32] [] [ah] r.Heads:=by
 unfold Vm.zga at Y
 obtain⟨co,cp,ai,H,a1⟩:=Repo.split h0
 simp only[List.cons.injEq,and_true,true_and]at ai
 obtain⟨rfl,rfl⟩:=ai
 refine zaT.of Tryz.func90 O O O O (sr (bo 2 O fun g1 W1 l1 b1=>?_))
 have a2:=l1.o
 refine al 3 [.slice none 0 0, .slice none 0 0] fun g3 W3 l3 b3=>?_
 have a4:=a2.n l3
 refine nl (sr (Lw.t O (T.lit0 (α:=Head) 4 []) ?_))
 rintro v6 _ ⟨W6,rfl,I,o6⟩
 have a7:=a4.n I
 have b8:=(b1.up l3).up I
 refine fl b8 O ?_
 obtain⟨bb,bc,Y⟩:=ob Y
 refine Lw.t O (T.appP (α:=Head) o6 (a1.ul a7) O O bc) ?_
 rintro K _ ⟨cy,rfl,L,M⟩
 have be:=a7.t L
 refine Lw.r O (R.bd (zs:=[.slice none 0 0, .slice none 0 0]) (cs:=[.slice none 0 0,K]) [(1,K)] O O O (zcK M.oc O zg2)) (al 5 [.slice none 0 0, .slice none 0 0] fun bg cz i bh=>?_)
 have bi:=be.n i
 refine sta bh (zaf O (zaf (M.up i).oc zaW)) fun an A bj=>?_
 have ao:=bi.t A
 refine nl (ssr (fl (((b8.up L).up i).up A) O (Lw.ln x0.Commits (H.ul ao) O (mi O (nl (Cw.block ?_))))))
 obtain⟨bk,bl,Y⟩:=zc4 Y
 refine Cw.loop 14 33 [5,14] (fun m l w=> ∃ B N C ap D k b,CW.w b=w/\Le [5,6,7,8,9] an b/\l=[ap,vI B]/\Ow b 6 [] [D] N/\Ow b 4 [] [k] C/\Bx b 5 bg [D,k]/\Vm.zdS x0 bk m B N C=some r) _ ⟨0,([]:List Commit),bb,undef, .slice none 0 0,K,an,O,Le.refl _ _,O,owN 6 [],((M.up i).up A),bj,Y⟩ ?_
 rintro(_ |c0) _ _ σ ⟨B,N,C,ap,D,k,b,rfl,P,rfl,Q,S,aq,Y⟩
 ·cases Y
 unfold Vm.zdS at Y
 have U:=ao.t P
 refine sr (Lw.lt O (nl (Cw.seq (cn Y (fun Y=>?_) fun Y=>?_))))
 ·refine sk (Cw.seq (Cw.block (sr ?_)))
  obtain⟨x,ar,Y⟩:=ob Y
  refine Lw.r O (R.ix (α:=Commit) (H.ul U) ar O O O) ?_
  obtain⟨x47,c48,_,r49⟩:=((H.ul U).at_ ar).cells
  obtain⟨c1,c2,rfl,r51,r53⟩:=Commit.split r49
  refine Lw.r O (R.lda c48 O O) (al 7 [.slice none 0 0,vS ([]:Str), .slice none 0 0] fun bm c3 y bn=>?_)
  have bp:=y.o
  refine sta bn (zaf r51.oc (zaf O (zaf r53.oc zaW))) fun c4 z bq=>?_
  have br:=bp.t z
  refine nl (Cw.draw [6,8,9] [(0,0),(1,1),(3,0),(4,1),(6,0),(7,1),(8,0),(9,1),(2,2),(5,2),(10,2),(11,0),(12,2),(13,2),(14,0),(15,3)] mixed (by kernel_rfl) fun c5 d=>?_)
  have bu:=br.n d
  have au:=((aq.up y).up z).up d
  have V:=bq.up d
  refine Dfl au O O O (Dfl V O O O (Dfl V O O O (Dfl V O O O (Mw.t O O (T.lit0 (α:=Int) 8 []) ?_))))
  rintro c6 _ ⟨c7,rfl,e,bv⟩
  have av:=bu.n e
  refine m0 e fun bw=>?_
  obtain⟨bz,b0,Y⟩:=ob Y
  refine Mw.t O O (T.appP (α:=Int) bv (r51.ul av) O O b0) ?_
  rintro E _ ⟨c8,rfl,f,aw⟩
  have b2:=av.t f
  refine mc bw f fun b4=>Dc Y b4 (fun _=>p99 (k0:=9) (r53.ul b2)) O ?_
  rintro b5 F c9 Y h ⟨_,rfl,ax⟩ b6
  refine Mw.p O O (fun _=>R.bd (zs:=[.slice none 0 0,vS ([]:Str), .slice none 0 0]) (cs:=[E,vS x.Who,F]) [(0,E),(1,vS x.Who),(2,F)] O O O (zcK (aw.up h).oc O (zcK O O (zcK ax.oc O zg2)))) (Mw.t O O (T.bs 10 [.agg [E,vS x.Who,F].toArray] (cs:=[E,vS x.Who,F]) O O (bsA O)) ?_)
  rintro _ _ ⟨da,db,rfl,rfl,a,b7⟩
  refine mc b6 a fun b9=>?_
  obtain⟨cb,cc,Y⟩:=ob Y
  refine Mw.t O O (T.app1 (α:=Commit) (J:=[8,9]) (K':=[]) (((((((Q.up y).up z).up d).up e).up f).up h).up a) b7 (Commit.own bz x.Who b5 ((aw.up h).up a).s (ax.up a).s) O O cc) ?_
  rintro ay _ ⟨dc,rfl,G,az⟩
  refine mc b9 G fun dd=>Df O (Mw.lu O (T.st (j:=0) (v:=ay) (((((au.up e).up f).up h).up a).up G) O O az.oc O O) ?_)
  rintro _ _ ⟨cd,rfl,W,ce⟩
  exact Mw.nil (rg (Lw.add O (mi O (nl ((agm) ⟨w64 (B+1),cb,C,ptr (bx bm),ay,k,cd,O,(((((((((P.j y).j z).j d).j e).j f).j h).j a).j G).j W).w,O,(az.up W),(((((((((S.up y).up z).up d).up e).up f).up h).up a).up G).up W),ce,Y⟩)))))
 ·refine Cw.exit ?_
  rw[bl]at Y
  refine sr (la aq (sta (((((b3.up I).up L).up i).up A).up P) (zaf Q.oc (zaf S.oc zaW)) fun de X cf=>?_))
  have cg:=U.t X
  refine nl ?_
  obtain⟨df,ch,Z,ci⟩:=(Q.up X).dyeO 31
  have cj:=cg.t Z
  obtain⟨dg,ck,aa,cl⟩:=((S.up X).up Z).dyeO 32
  have cm:=cj.t aa
  cases Y
  rw[<- ck.trans (ch)]
  exact Cw.ret (zoh O ((cf.up Z).up aa) (Res.mk cm ⟨D,k,O,(ci.up aa).s,cl.s⟩))
theorem p90 {x0 d f k0 k1 r}(h:Rd W K [d,f] x0)(Y:Vm.zga x0=some r):Q1 90 [.agg [d,f].toArray] W [] fun W' v=> ∃ a b,v = .agg [a,b].toArray/\Ow W' k0 [] [a] r.Commits/\Ow W' k1 [] [b] r.Heads:=
 zaT.adJ (J:=[]) (fun c=>bif Nat.beq c 0 then 0 else bif Nat.beq c 31 then k0 else bif Nat.beq c 32 then k1 else 0) (c90 (h.view _) Y) fun _ _ ⟨a,b,e,i,k⟩=>⟨a,b,e,i.one1.backN O,k.one1.backN O⟩
theorem c143 {x0 d x1 r}(i:Rd W0 [0] [d] x0)(h1:Rd W0 [0] [vS x1.Name,vI x1.At] x1)(Y:Vm.zgm x0 x1=some r):Q0 143 [d, .agg [vS x1.Name,vI x1.At].toArray] W0 fun Wf v=> ∃ P,v=P/\OwS Wf LL [] [P] r:=by
 unfold Vm.zgm at Y
 refine zaT.of Tryz.func143 O O O O (sr (bo 2 O fun g1 Q l1 S=>?_))
 have U:=l1.o
 refine Nv (.slice none 0 0) O (sr (mv d O (Lw.ln x0 (i.ul U) O (Ni O (Cw.seq (Cw.block ?_))))))
 obtain⟨K6,an,Y⟩:=zc4 Y
 refine Cw.loop 8 22 [5] (fun m l w=> ∃ b k,CW.w k=w/\Le [] Q k/\l=[vI b]/\Vm.zeE x0 x1 K6 m b=some r) _ ⟨(x0.length:Int),Q,O,Le.refl _ _,O,Y⟩ ?_
 rintro(_ |m7) _ _ σ ⟨b,k,rfl,x,rfl,Y⟩
 ·cases Y
 unfold Vm.zeE at Y
 have V:=U.n x
 refine Cw.seq ?_
 obtain⟨ao,ap,Y⟩:=zc4 Y
 refine Cw.join 8 20 [20] (fun l w=> ∃ C y,CW.w y=w/\Le [] k y/\l=[vB C]/\ao C=some r) ?_ ?_
 ·rintro _ _ σ ⟨C,y,rfl,D,rfl,Y⟩
  rw[ap]at Y
  have aq:=V.n D
  refine cn Y (fun Y=>?_) fun Y=>?_
  ·exact sk (Cw.block (rg (mi O (Lw.sub O (Ni O ((agm) ⟨w64 (b-1),y,O,(x.j D).w,O,Y⟩))))))
  ·refine Cw.exit ?_
   rw[an]at Y
   refine Cw.seq ?_
   obtain⟨E,ar,Y⟩:=ob Y
   obtain⟨z,au,Y⟩:=ob Y
   refine Cw.par [[],[],[0,1],[],[],[4],[0,1,2,3,4,5],[0,1,2,3,4,5,6]] [[],[],[0,1],[],[],[4],[2,3,5],[6]] [[],[],[3],[],[],[],[3],[]] [[0],[1],[2],[3],[4],[5],[6],[6,7]] [[3],[],[3],[],[],[4],[5],[]] [1,3,4,5,6,7] [3] [fun vs W=>Ow W 3 [] [(vs 0)] ([]:List Head),fun vs W=>(vs 1)=d,fun vs W=>Ow W 3 [] [(vs 2)] E,fun vs W=>(vs 3)=vI b,fun vs W=>(vs 4) = .agg [vS x1.Name,vI x1.At].toArray,fun vs W=>(vs 5) = .slice (some (bx (pg (vs 5)))) 1 1/\Bx W 4 (pg (vs 5)) [vS x1.Name,vI x1.At],fun vs W=>Ow W 5 [] [(vs 6)] z,fun vs W=>(vs 7)=(vs 6)] [] mixed (by kernel_rfl) O zrc.nil ?_
   intro bu X
   have Z:=aq.n X
   refine⟨(zc2.cons ?_ (zc2.cons ?_ (zc2.cons ?_ (zc2.cons ?_ (zc2.cons ?_ (zc2.cons ?_ (zc2.cons ?_ (zc2.cons ?_ zc2.nil)))))))),(zhD.cons SO (zhD.cons SE (zhD.cons SO (zhD.cons SE (zhD.cons SE (zhD.cons (fun vs vs' W W' _ hv l hd h=>by(show(vs' 5) = .slice (some (bx (pg (vs' 5)))) 1 1/\Bx W' 4 (pg (vs' 5)) [vS x1.Name,vI x1.At]);rw[hv 5 (zbB O)];exact⟨h.1,h.2.up l (zgn hd (c:=4) O)⟩) (zhD.cons SO (zhD.cons (fun vs vs' W W' _ hv l hd h=>by(show(vs' 7)=(vs' 6));rw[hv 6 (zbB O),hv 7 (zbB O)];exact h) zhD.nil)))))))),?_⟩
   ·intro vs bv lW hN hV
    refine Tr.mono (T.lit0 (α:=Head) 3 []) ?_
    rintro av _ ⟨aa,rfl,aw,ax⟩
    exact⟨aa,O,aw,(show Ow aa 3 [] [av] ([]:List Head) from ax)⟩
   ·intro vs bw lW hN hV
    exact Trq (R.mv (v:=d) O) O
   ·intro vs ay lW hN hV
    have az:=Z.t lW O
    obtain⟨a0,a1⟩: ∃ v,vs 0=v:=⟨_,O⟩
    obtain⟨vs,rfl⟩:=za1 a1
    have a3:Ow ay 3 [] [a0] ([]:List Head):=(hN 0 (zbB O))
    have F:vs 1=d:=(hN 1 (zbB O))
    obtain⟨vs,rfl⟩:=za1 F
    refine Tr.mono (T.appP (α:=Head) a3 (i.ul az) O O ar) ?_
    rintro a4 _ ⟨ac,rfl,a5,a6⟩
    exact⟨ac,O,a5,(show Ow ac 3 [] [a4] E from a6)⟩
   ·intro vs bz lW hN hV
    exact Trq (R.mv (v:=vI b) O) O
   ·intro vs b0 lW hN hV
    exact Trq (R.lda (cs:=[vS x1.Name,vI x1.At]) ((((S.up x).up D).up X).up lW O).cells O O) O
   ·intro vs b2 lW hN hV
    have G:vs 4 = .agg [vS x1.Name,vI x1.At].toArray:=(hN 4 (zbB O))
    obtain⟨vs,rfl⟩:=za1 G
    refine Tr.mono (T.bs 4 [.agg [vS x1.Name,vI x1.At].toArray] (cs:=[vS x1.Name,vI x1.At]) O O (bsA O)) ?_
    rintro _ _ ⟨H,ae,rfl,rfl,a7,a9⟩
    exact⟨ae,O,a7,(show(.slice (some (bx H)) 1 1:Value) = .slice (some (bx H)) 1 1/\Bx ae 4 H [vS x1.Name,vI x1.At] from⟨O,a9⟩)⟩
   ·intro vs af lW hN hV
    obtain⟨ba,bb⟩: ∃ v,vs 2=v:=⟨_,O⟩
    obtain⟨vs,rfl⟩:=za1 bb
    have bc:Ow af 3 [] [ba] E:=(hN 2 (zbB O))
    have I:vs 3=vI b:=(hN 3 (zbB O))
    obtain⟨vs,rfl⟩:=za1 I
    obtain⟨e,J⟩: ∃ e,vs 5 = .slice (some (bx e)) 1 1:=⟨_,((hN 5 (zbB O))).1⟩
    obtain⟨vs,rfl⟩:=za1 J
    have be:Bx af 4 e [vS x1.Name,vI x1.At]:=(hN 5 (zbB O)).2
    refine Tr.mono (T.call O (p160 (k0:=5) (c0:=3) bc be (Head.rd (K:=[0]) x1.Name x1.At) O O au)) ?_
    rintro bg _ ⟨ah,rfl,bh,⟨_,rfl,bi⟩⟩
    exact⟨ah,O,bh,(show Ow ah 5 [] [bg] z from bi)⟩
   ·intro vs bj lW hN hV
    obtain⟨f,L⟩: ∃ v,vs 6=v:=⟨_,O⟩
    obtain⟨vs,rfl⟩:=za1 L
    have b3:Ow bj 5 [] [f] z:=(hN 6 (zbB O))
    exact Trq (R.as (v:=f) O) O
   ·intro vs ai bk hN
    have bl:=Z.t bk
    have F:vs 1=d:=(hN 1 (zbB O))
    obtain⟨vs,rfl⟩:=za1 F
    have I:vs 3=vI b:=(hN 3 (zbB O))
    obtain⟨vs,rfl⟩:=za1 I
    have G:vs 4 = .agg [vS x1.Name,vI x1.At].toArray:=(hN 4 (zbB O))
    obtain⟨vs,rfl⟩:=za1 G
    obtain⟨e,J⟩: ∃ e,vs 5 = .slice (some (bx e)) 1 1:=⟨_,((hN 5 (zbB O))).1⟩
    obtain⟨vs,rfl⟩:=za1 J
    have b4:Bx ai 4 e [vS x1.Name,vI x1.At]:=(hN 5 (zbB O)).2
    obtain⟨f,L⟩: ∃ v,vs 6=v:=⟨_,O⟩
    obtain⟨vs,rfl⟩:=za1 L
    have bm:Ow ai 5 [] [f] z:=(hN 6 (zbB O))
    have bn:vs 7=f:=(hN 7 (zbB O))
    obtain⟨vs,rfl⟩:=za1 bn
    cases Y
    exact Cw.ret (zmk O (Res.mk bl ⟨f,O,bm.s.sub O O⟩))
 ·refine Cw.draw [] [(0,0),(1,0),(2,0),(3,0),(4,0),(5,0),(6,0),(7,0),(8,1),(9,0),(10,1),(11,0),(12,0)] mixed (by kernel_rfl) fun aj A=>?_
  have M:=V.n A
  refine Di O (Mw.p O O (fun _=>R.gt O O) (Db O (bs Y (fun a Y=>?_) fun a Y=>?_)))
  ·refine Wp a O (fun _=>R.mv (v:=d) O) (Wp a O (fun _=>R.mv (v:=vI b) O) (Wp a O (fun _=>R.sub O O) ?_))
   obtain⟨B,N,Y⟩:=ob Y
   exact Wp a O (fun _=>R.ix (α:=Head) (i.ul M) N O O O) (Wp a O (fun _=>R.fa O) (Wq a O (fun _ c=>R.ld O O (zaD (Head.at0 ((i.ul M).at_ N)).1 O (Head.at0 ((i.ul M).at_ N)).str c)) (Wp a O (fun _=>R.fa O) (Wq a O (fun _ c=>R.ld (v:=vS x1.Name) O O (((S.up x).up A).clc O O c)) (Wp a O (fun _=>R.sgt O O) (Mw.p O O (fun _=>R.pk a O (v:=vB (!(Op.bytesLess B.Name x1.Name||B.Name==x1.Name))) O) (Mw.nil ((ag) ⟨(!(Op.bytesLess B.Name x1.Name||B.Name==x1.Name)),aj,O,A,O,Y⟩))))))))
  ·exact dps 9 a O (Mw.p O O (fun _=>R.pk a O (v:=vB false) O) (Mw.nil ((ag) ⟨false,aj,O,A,O,Y⟩)))
theorem p143 {x0 b x1 k0 r}(d:Rd W K [b] x0)(f:Rd W K [vS x1.Name,vI x1.At] x1)(Y:Vm.zgm x0 x1=some r):Q1 143 [b, .agg [vS x1.Name,vI x1.At].toArray] W [] fun W' v=> ∃ a,v=a/\Ow W' k0 [] [a] r:=
 (c143 (d.view _) (f.view _) Y).ad (fk k0) fun _ _ ⟨a,e,h⟩=>⟨a,e,h.back (zlS _)⟩
theorem c112 {x0 k x x1 x2 r}(am:Ow W0 2 [] [k] x0.Commits)(an:Ow W0 3 [] [x] x0.Heads)(Y:Vm.zbc x0 x1 x2=some r):Q0 112 [.agg [k,x].toArray,vS x1,vI x2] W0 fun Wf v=> ∃ V W,v = .agg [V,W].toArray/\OwS Wf [31] [] [V] r.Commits/\OwS Wf [32] [] [W] r.Heads:=by
 unfold Vm.zbc at Y
 refine zaT.of Tryz.func112 O O O O (sr (bo 4 O fun g1 W1 F X=>?_))
 have a2:=F.o
 refine al 5 [.slice none 0 0, .slice none 0 0] fun g5 Z d b5=>?_
 have a6:=a2.n d
 have o8:=(an.up F).up d
 refine nl (ssr (fl (X.up d) O (Lw.ln x0.Heads o8.rd O (mi O (nl (Cw.block ?_))))))
 obtain⟨au,av,Y⟩:=zc4 Y
 refine Cw.loop 11 29 [7,11] (fun m l w=> ∃ e y z A ac B C a,CW.w a=w/\Le [] Z a/\l=[ac,vI e]/\Ow a 6 [] [B] y/\Ow a 7 [] [C] z/\Bx a 5 g5 [B,C]/\Ow a 3 [] [x] A/\Vm.zbb x0 x1 x2 au m e y z A=some r) _ ⟨0,([]:List Commit),([]:List Head),x0.Heads,undef, .slice none 0 0, .slice none 0 0,Z,O,Le.refl _ _,O,owN 6 [],owN 7 [],b5,o8,Y⟩ ?_
 rintro(_ |bq) _ _ σ ⟨e,y,z,A,ac,B,C,a,rfl,D,rfl,aw,ax,G,b,Y⟩
 ·cases Y
 unfold Vm.zbb at Y
 have ae:=a6.n D
 have H:=((am.up F).up d).up D
 have f:=(X.up d).up D
 refine sr (Lw.lt O (nl (Cw.seq (cn Y (fun Y=>?_) fun Y=>?_))))
 ·refine sk (Cw.seq (Cw.block (sr (mi O (Ni O (sr (fl f O (mi O ?_))))))))
  obtain⟨br,af,Y⟩:=ob Y
  refine Lw.r O (R.ix (α:=Head) b.rd af O O O) (Lw.fa O (Lw.r O (R.ld O O (Head.at0 (b.rd.at_ af)).str) (ms O (Lw.seq O (nl (cn Y (fun Y=>?_) fun Y=>?_))))))
  ·refine sr (fl f O (mi O (mi O ?_)))
   obtain⟨bu,ah,Y⟩:=ob Y
   refine Lw.r O (R.ix (α:=Head) b.rd ah O O O) (Lw.fa O ?_)
   obtain⟨bv,ay,Y⟩:=ob Y
   refine Lw.u (T.stH (α:=Head) (β:=Int) (J:=[]) (Ow.hole (α:=Head) (β:=Int) (jf:=1) b ah) (OwS.atm (K:=[]) (rdI _)) ay O O O O) ?_
   rintro _ _ ⟨bw,rfl,h,ai⟩
   have az:=ae.t h
   refine nl (sr (la (f.up h) (sta (G.up h) (zaf (H.up h).oc (zaf ai.oc zaW)) fun bz I a0=>?_)))
   have a1:=az.t I
   refine nl ?_
   obtain⟨b0,a3,L,a4⟩:=((H.up h).up I).dyeO 31
   have a5:=a1.t L
   obtain⟨b2,a7,N,a8⟩:=((ai.up I).up L).dyeO 32
   have a9:=a5.t N
   cases Y
   rw[<- a7.trans (a3)]
   exact Cw.ret (zoh O ((a0.up L).up N) (Res.mk a9 ⟨k,x,O,(a4.up N).s,a8.s⟩))
  ·exact sk (rg (Lw.add O (mi O (nl ((agm) ⟨w64 (e+1),y,z,A,vI e,B,C,a,O,D,O,aw,ax,G,b,Y⟩)))))
 ·refine Cw.exit ?_
  rw[av]at Y
  refine sr (fl f O (ms O (mi O (Lw.r O (R.bd (zs:=[vS ([]:Str),vI 0]) (cs:=[vS x1,vI x2]) [(0,vS x1),(1,vI x2)] O O O (zcK O O (zcK O O zg2))) (cr Y (fun _=>p143 (K:=[0,3]) (k0:=8) (x1:=(Vm.Head.mk x1 x2)) (b.rd.sub (M:=[0,3]) O) ((Head.rd (K:=[0]) x1 x2).sub (M:=[0,3]) O)) ?_)))))
  rintro b3 aj b4 Y E ⟨_,rfl,P⟩
  have ba:=ae.n E
  refine Lw.fa O (Lw.u (T.st (j:=1) (v:=aj) (f.up E) O O P.oc O O) ?_)
  rintro _ _ ⟨b6,rfl,i,bb⟩
  have bc:=ba.t i
  have ak:=(H.up E).up i
  refine nl (sr (la bb (sta ((G.up E).up i) (zaf ak.oc (zaf (P.up i).oc zaW)) fun b7 Q be=>?_)))
  have bg:=bc.t Q
  refine nl ?_
  obtain⟨b8,bh,S,bi⟩:=(ak.up Q).dyeO 31
  have bj:=bg.t S
  obtain⟨b9,bk,U,bl⟩:=(((P.up i).up Q).up S).dyeO 32
  have bm:=bj.t U
  cases Y
  rw[<- bk.trans (bh)]
  exact Cw.ret (zoh O ((be.up S).up U) (Res.mk bm ⟨k,aj,O,(bi.up U).s,bl.s⟩))
theorem p112 {x0 d f x1 x2 k0 k1 c0 c1 r}(h:Ow W c0 [] [d] x0.Commits)(i:Ow W c1 [] [f] x0.Heads)(hJ:okJ K [c0,c1]=true)(Y:Vm.zbc x0 x1 x2=some r):Q1 112 [.agg [d,f].toArray,vS x1,vI x2] W [c0,c1] fun W' v=> ∃ a b,v = .agg [a,b].toArray/\Ow W' k0 [] [a] r.Commits/\Ow W' k1 [] [b] r.Heads:=
 zaT.adJ (J:=[c0,c1]) (fun c=>bif Nat.beq c 0 then 0 else bif Nat.beq c 2 then c0 else bif Nat.beq c 3 then c1 else bif Nat.beq c 31 then k0 else bif Nat.beq c 32 then k1 else 0) (c112 (h.viewJ 0 hJ) (i.viewJ 1 hJ) Y) fun _ _ ⟨a,b,e,k,x⟩=>⟨a,b,e,k.one1.backN O,x.one1.backN O⟩
theorem c89 {x0 D E x1 e f r}(S:Rd W0 [0] [D,E] x0)(T:Ow W0 2 [] [e] x1.Commits)(U:Ow W0 3 [] [f] x1.Heads)(V:Gl 0 W0 [0])(Y:Vm.zda x0 x1=some r):Q0 89 [.agg [D,E].toArray, .agg [e,f].toArray] W0 fun Wf v=> ∃ F G,v = .tuple [.agg [F,G].toArray,vB r.2].toArray/\OwS Wf [31] [] [F] r.1.Commits/\OwS Wf [32] [] [G] r.1.Heads:=by
 unfold Vm.zda at Y
 obtain⟨a1,a3,H,W,X⟩:=Repo.split S
 simp only[List.cons.injEq,and_true,true_and]at H
 obtain⟨rfl,rfl⟩:=H
 refine zaT.of Tryz.func89 O O O O (sr (bo 4 O fun g1 W1 h Z=>?_))
 have a2:=h.o
 refine bo 5 O fun g5 W5 b I=>?_
 have a6:=a2.n b
 refine al 6 [.slice none 0 0, .slice none 0 0] fun a9 ba l10 J=>?_
 have L:=a6.n l10
 have i:=((T.up h).up b).up l10
 have k:=((U.up h).up b).up l10
 refine Nb O (ssr (la (I.up l10) (ca Y (fun _=>p32 (K:=[0,2,3]) (x0:=(Vm.Repo.mk x1.Commits x1.Heads)) ((Repo.rd (K:=[2,3]) x1.Commits x1.Heads (i.rd.sub (M:=[2,3]) O) (k.rd.sub (M:=[2,3]) O)).sub (M:=[0,2,3]) O) ((V.ul L).sub (M:=[0,2,3]) O)) fun bb bc Y a=>?_)))
 have d:=L.n a
 refine Lw.r O (R.not O) (nl (cn Y (fun Y=>?_) fun Y=>?_))
 ·refine sr (la (((Z.up b).up l10).up a) (cr Y (fun _=>p90 (k0:=7) (k1:=8) (Repo.rd (K:=[0]) x0.Commits x0.Heads (W.ul d) (X.ul d))) ?_))
  rintro be _ bg Y N ⟨ae,af,rfl,P,Q⟩
  have ah:=d.n N
  refine sta ((J.up a).up N) (zaf P.oc (zaf Q.oc zaW)) fun bh x ai=>?_
  have aj:=ah.t x
  refine Nb O ?_
  obtain⟨bi,ak,y,am⟩:=(P.up x).dyeO 31
  have an:=aj.t y
  obtain⟨bj,ao,z,ap⟩:=((Q.up x).up y).dyeO 32
  have aq:=an.t z
  cases Y
  rw[<- ao.trans (ak)]
  exact Cw.ret (zj5 O ((ai.up y).up z) O (Res.mk aq ⟨ae,af,O,(am.up z).s,ap.s⟩))
 ·refine sk (sr (la ((I.up l10).up a) (sta (J.up a) (zaf (i.up a).oc (zaf (k.up a).oc zaW)) fun bk A ar=>?_)))
  have au:=d.t A
  refine Nb O ?_
  obtain⟨bl,av,B,aw⟩:=((i.up a).up A).dyeO 31
  have ax:=au.t B
  obtain⟨bm,ay,C,az⟩:=(((k.up a).up A).up B).dyeO 32
  have a0:=ax.t C
  cases Y
  rw[<- ay.trans (av)]
  exact Cw.ret (zj5 O ((ar.up B).up C) O (Res.mk a0 ⟨e,f,O,(aw.up C).s,az.s⟩))
theorem p89 {x0 d f x1 h i k0 k1 c0 c1 r}(k:Rd W K [d,f] x0)(x:Ow W c0 [] [h] x1.Commits)(y:Ow W c1 [] [i] x1.Heads)(z:Gl 0 W K)(hJ:okJ K [c0,c1]=true)(Y:Vm.zda x0 x1=some r):Q1 89 [.agg [d,f].toArray, .agg [h,i].toArray] W [c0,c1] fun W' v=> ∃ a b,v = .tuple [.agg [a,b].toArray,vB r.2].toArray/\Ow W' k0 [] [a] r.1.Commits/\Ow W' k1 [] [b] r.1.Heads:=
 zaT.adJ (J:=[c0,c1]) (fun c=>bif Nat.beq c 0 then 0 else bif Nat.beq c 2 then c0 else bif Nat.beq c 3 then c1 else bif Nat.beq c 31 then k0 else bif Nat.beq c 32 then k1 else 0) (c89 (k.view _) (x.viewJ 0 hJ) (y.viewJ 1 hJ) (z.view _) Y) fun _ _ ⟨a,b,e,A,B⟩=>⟨a,b,e,A.one1.backN O,B.one1.backN O⟩
theorem c60 {x0 cf cg x1 A x2 a7 x3 r}(h0:Rd W0 [0] [cf,cg] x0)(f:Rd W0 [0] [A] x1)(h2:Rd W0 [0] [a7] x2)(ch:Gl 0 W0 [0])(Y:Vm.zgK x0 x1 x2 x3=some r):Q0 60 [.agg [cf,cg].toArray,A,a7,vS x3] W0 fun Wf v=> ∃ dv dw,v = .tuple [.agg [dv,dw].toArray,vB r.2].toArray/\OwS Wf [31] [] [dv] r.1.Commits/\OwS Wf [32] [] [dw] r.1.Heads:=by
 unfold Vm.zgK at Y
 obtain⟨ip,iq,dx,L,U⟩:=Repo.split h0
 simp only[List.cons.injEq,and_true,true_and]at dx
 obtain⟨rfl,rfl⟩:=dx
 refine zaT.of Tryz.func60 O O O O (sr (bo 2 O fun g1 W1 l1 b1=>?_))
 have a2:=l1.o
 refine al 3 [.slice none 0 0, .slice none 0 0] fun g3 W3 l3 b3=>?_
 have a4:=a2.n l3
 refine Nb O (ssr (la (b1.up l3) (ca Y (fun _=>p32 (Repo.rd (K:=[0]) x0.Commits x0.Heads (L.ul a4) (U.ul a4)) (ch.ul a4)) fun z9 d0 Y ba=>?_)))
 have G:=a4.n ba
 have d1:=(b1.up l3).up ba
 refine Lw.r O (R.not O) (nl (cn Y (fun Y=>?_) fun Y=>?_))
 ·refine sr (Lw.r O (R.bd (zs:=[.slice none 0 0, .slice none 0 0]) (cs:=[.slice none 0 0, .slice none 0 0]) [] O O O zg2) (sta (b3.up ba) (zaf O (zaf O zaW)) fun iw fh fi=>?_))
  have fj:=G.t fh
  refine Nb O ?_
  cases Y
  exact Cw.ret (zj5 O fi O (Res.mk fj ⟨.slice none 0 0, .slice none 0 0,O,(zp1 []).sub O O,(zp1 []).sub O O⟩))
 ·refine sk (Cw.seq ?_)
  obtain⟨fm,fn,Y⟩:=zc4 Y
  refine Cw.join 21 37 [37] (fun l w=> ∃ ck cl,CW.w cl=w/\Le [] d0 cl/\l=[vB ck]/\fm ck=some r) ?_ ?_
  ·rintro _ _ σ ⟨ck,cl,rfl,cm,rfl,Y⟩
   rw[fn]at Y
   have V:=G.n cm
   have co:=d1.up cm
   have d2:=(b3.up ba).up cm
   refine cn Y (fun Y=>?_) fun Y=>?_
   ·refine sr (la co (cr Y (fun _=>p90 (k0:=4) (k1:=5) (Repo.rd (K:=[0]) x0.Commits x0.Heads (L.ul V) (U.ul V))) ?_))
    rintro iy _ iz Y d3 ⟨fo,fp,rfl,d4,d5⟩
    have fq:=V.n d3
    refine sta (d2.up d3) (zaf d4.oc (zaf d5.oc zaW)) fun i0 cp fr=>?_
    have fs:=fq.t cp
    refine Nb O ?_
    obtain⟨i1,ft,cq,fu⟩:=(d4.up cp).dyeO 31
    have fv:=fs.t cq
    obtain⟨i2,fw,ct,fx⟩:=((d5.up cp).up cq).dyeO 32
    have fy:=fv.t ct
    cases Y
    rw[<- fw.trans (ft)]
    exact Cw.ret (zj5 O ((fr.up cq).up ct) O (Res.mk fy ⟨fo,fp,O,(fu.up ct).s,fx.s⟩))
   ·refine sk (sr (la co (cr Y (fun _=>p90 (k0:=6) (k1:=7) (Repo.rd (K:=[0]) x0.Commits x0.Heads (L.ul V) (U.ul V))) ?_)))
    rintro d6 _ i3 Y cu ⟨fz,f0,rfl,d7,d8⟩
    have f1:=V.n cu
    refine al 8 [.slice none 0 0, .slice none 0 0] fun f2 i4 M f3=>?_
    have f4:=f1.n M
    refine sta f3 (zaf (d7.up M).oc (zaf (d8.up M).oc zaW)) fun cv av f5=>?_
    have bb:=f4.t av
    refine nl (sr (Ni O ?_))
    obtain⟨f6,f7,Y⟩:=zc4 Y
    refine Cw.join 42 47 [11] (fun l w=> ∃ bc aw,CW.w aw=w/\Le [] cv aw/\l=[vI bc]/\f6 bc=some r) ?_ ?_
    ·rintro _ _ σ ⟨bc,aw,rfl,X,rfl,Y⟩
     rw[f7]at Y
     have d9:=bb.n X
     refine ssr (mv a7 O (Lw.ln x2 (h2.ul d9) O (mi O (nl (Cw.block ?_)))))
     obtain⟨f8,f9,Y⟩:=zc4 Y
     refine Cw.loop 50 111 [9,11,12,13,14,16,50] (fun m l w=> ∃ be cw Z bg bh aa ax ea eb ec cx bi bj bk ay B,CW.w B=w/\Le [6,8,11,12,13,14] aw B/\l=[vB be,vI cw,ea,eb,ec,cx,vI Z]/\Ow B 9 [] [bi] bg/\Ow B 10 [] [bj] bh/\Bx B 3 g3 [bi,bj]/\Ow B 6 [] [bk] aa/\Ow B 7 [] [ay] ax/\Bx B 8 f2 [bk,ay]/\Vm.zdU x0 x1 x2 f8 m be cw Z bg bh aa ax=some r) _ ⟨false,bc,0,([]:List Commit),([]:List Head),d6.Commits,d6.Heads,undef,undef,undef,undef, .slice none 0 0, .slice none 0 0,fz,f0,aw,O,Le.refl _ _,O,owN 9 [],owN 10 [],((((d2.up cu).up M).up av).up X),(((d7.up M).up av).up X),(((d8.up M).up av).up X),(f5.up X),Y⟩ ?_
     rintro(_ |i5) _ _ σ ⟨be,cw,Z,bg,bh,aa,ax,ea,eb,ec,cx,bi,bj,bk,ay,B,rfl,cy,rfl,ga,gb,ed,ee,ef,eg,Y⟩
     ·cases Y
     unfold Vm.zdU at Y
     have bl:=d9.t cy
     have eh:=((((co.up cu).up M).up av).up X).up cy
     refine sr (Lw.lt O (nl (Cw.seq (cn Y (fun Y=>?_) fun Y=>?_))))
     ·refine sk (Cw.seq (Cw.block (sr (mi O ?_))))
      obtain⟨a,ei,Y⟩:=ob Y
      refine Lw.r O (R.ix (α:=Commit) (h2.ul bl) ei O O O) ?_
      obtain⟨x109,c110,_,r111⟩:=((h2.ul bl).at_ ei).cells
      obtain⟨i6,bm,rfl,r113,r115⟩:=Commit.split r111
      refine Lw.r O (R.lda c110 O O) (al 11 [.slice none 0 0,vS ([]:Str), .slice none 0 0] fun N i7 C gc=>?_)
      have bn:=C.o
      refine Gi O (sta gc (zaf r113.oc (zaf O (zaf r115.oc zaW))) fun i8 D gd=>?_)
      have bp:=D.s
      refine nl (Cw.seq ?_)
      obtain⟨ac,gf,Y⟩:=ob Y
      refine Cw.par [[],[0],[],[2],[2,3],[0,1,2,3,4],[],[0,1,2,3,4,5,6]] [[],[0],[],[2],[3],[1,4],[],[4,5,6]] [[],[],[],[],[],[],[],[13]] [[0],[1],[2],[3],[4],[4,5],[6],[4,6]] [[],[],[],[],[12],[],[13],[13]] [0,1,2,3,4,5,7] [13] [fun vs W=>(vs 0)=ptr ((bx N).add 1),fun vs W=>(vs 1)=vS a.Who,fun vs W=>(vs 2)=ptr ((bx N).add 2),fun vs W=>(vs 3)=bm,fun vs W=>Ow W 12 [] [(vs 4)] ac,fun vs W=>(vs 5) = .agg [.slice none 0 0,vS a.Who,(vs 4)].toArray,fun vs W=>(vs 6)=ptr (bx (pg (vs 6)))/\Bx W 13 (pg (vs 6)) [.slice none 0 0,vS ([]:Str), .slice none 0 0],fun vs W=>(vs 6)=ptr (bx (pg (vs 6)))/\Bx W 13 (pg (vs 6)) [.slice none 0 0,vS a.Who,(vs 4)]] [] mixed (by kernel_rfl) O zrc.nil ?_
      intro i9 i
      have bq:=i.o
      have cz:=gd.up i
      refine⟨(zc2.cons ?_ (zc2.cons ?_ (zc2.cons ?_ (zc2.cons ?_ (zc2.cons ?_ (zc2.cons ?_ (zc2.cons ?_ (zc2.cons ?_ zc2.nil)))))))),(zhD.cons SE (zhD.cons SE (zhD.cons SE (zhD.cons SE (zhD.cons SO (zhD.cons (fun vs vs' W W' _ hv l hd h=>by(show(vs' 5) = .agg [.slice none 0 0,vS a.Who,(vs' 4)].toArray);rw[hv 4 (zbB O),hv 5 (zbB O)];exact h) (zhD.cons (fun vs vs' W W' _ hv l hd h=>by(show(vs' 6)=ptr (bx (pg (vs' 6)))/\Bx W' 13 (pg (vs' 6)) [.slice none 0 0,vS ([]:Str), .slice none 0 0]);rw[hv 6 (zbB O)];exact⟨h.1,h.2.up l (zgn hd (c:=13) O)⟩) (zhD.cons (fun vs vs' W W' _ hv l hd h=>by(show(vs' 6)=ptr (bx (pg (vs' 6)))/\Bx W' 13 (pg (vs' 6)) [.slice none 0 0,vS a.Who,(vs' 4)]);rw[hv 4 (zbB O),hv 6 (zbB O)];exact⟨h.1,h.2.up l (zgn hd (c:=13) O)⟩) zhD.nil)))))))),?_⟩
      ·intro vs ja lW hN hV
       exact Trq (R.fa O) O
      ·intro vs jb lW hN hV
       have c2:vs 0=ptr ((bx N).add 1):=(hN 0 (zbB O))
       obtain⟨vs,rfl⟩:=za1 c2
       exact Trq (R.ld (v:=vS a.Who) O O ((cz.up lW O).cell O)) O
      ·intro vs jc lW hN hV
       exact Trq (R.fa O) O
      ·intro vs jd lW hN hV
       have c3:vs 2=ptr ((bx N).add 2):=(hN 2 (zbB O))
       obtain⟨vs,rfl⟩:=za1 c3
       exact Trq (R.ld (v:=bm) O O ((cz.up lW O).cell O)) O
      ·intro vs je lW hN hV
       have gg:=((bn.trans bp).trans bq).t lW O
       have c4:vs 3=bm:=(hN 3 (zbB O))
       obtain⟨vs,rfl⟩:=za1 c4
       refine Tr.mono (T.call O (p99 (k0:=12) (r115.ul gg) gf)) ?_
       rintro gh _ ⟨ej,rfl,gj,⟨_,rfl,gk⟩⟩
       exact⟨ej,O,gj,(show Ow ej 12 [] [gh] ac from gk)⟩
      ·intro vs gm lW hN hV
       have c5:vs 1=vS a.Who:=(hN 1 (zbB O))
       obtain⟨vs,rfl⟩:=za1 c5
       obtain⟨d,az⟩: ∃ v,vs 4=v:=⟨_,O⟩
       obtain⟨vs,rfl⟩:=za1 az
       have gn:Ow gm 12 [] [d] ac:=(hN 4 (zbB O))
       exact Trq (R.bd (zs:=[.slice none 0 0,vS ([]:Str), .slice none 0 0]) (cs:=[.slice none 0 0,vS a.Who,d]) [(1,vS a.Who),(2,d)] O O O (zcK O O (zcK gn.oc O zg2))) O
      ·intro vs jf lW hN hV
       refine Tr.mono (T.alloc 13 (cs:=[.slice none 0 0,vS ([]:Str), .slice none 0 0]) O) ?_
       rintro _ _ ⟨c6,ek,rfl,rfl,go,gr⟩
       exact⟨ek,O,go,(show(ptr (bx c6):Value)=ptr (bx c6)/\Bx ek 13 c6 [.slice none 0 0,vS ([]:Str), .slice none 0 0] from⟨O,gr⟩)⟩
      ·intro vs el lW hN hV
       obtain⟨d,az⟩: ∃ v,vs 4=v:=⟨_,O⟩
       obtain⟨vs,rfl⟩:=za1 az
       have gs:Ow el 12 [] [d] ac:=(hN 4 (zbB O))
       have c7:vs 5 = .agg [.slice none 0 0,vS a.Who,d].toArray:=(hN 5 (zbB O))
       obtain⟨vs,rfl⟩:=za1 c7
       obtain⟨e,c8⟩: ∃ e,vs 6=ptr (bx e):=⟨_,((hN 6 (zbB O))).1⟩
       obtain⟨vs,rfl⟩:=za1 c8
       have gu:Bx el 13 e [.slice none 0 0,vS ([]:Str), .slice none 0 0]:=(hN 6 (zbB O)).2
       refine Tr.mono (T.sta (vs:=[.slice none 0 0,vS a.Who,d]) gu O O (zaf O (zaf O (zaf gs.oc zaW))) O O) ?_
       rintro _ _ ⟨em,rfl,gv,gw⟩
       exact⟨em,O,gv,(show(ptr (bx e))=ptr (bx e)/\Bx em 13 e [.slice none 0 0,vS a.Who,d] from⟨O,gw⟩)⟩
      ·intro vs br k hN
       have c9:=k.s
       have c2:vs 0=ptr ((bx N).add 1):=(hN 0 (zbB O))
       obtain⟨vs,rfl⟩:=za1 c2
       have c5:vs 1=vS a.Who:=(hN 1 (zbB O))
       obtain⟨vs,rfl⟩:=za1 c5
       have c3:vs 2=ptr ((bx N).add 2):=(hN 2 (zbB O))
       obtain⟨vs,rfl⟩:=za1 c3
       have c4:vs 3=bm:=(hN 3 (zbB O))
       obtain⟨vs,rfl⟩:=za1 c4
       obtain⟨d,az⟩: ∃ v,vs 4=v:=⟨_,O⟩
       obtain⟨vs,rfl⟩:=za1 az
       have gx:Ow br 12 [] [d] ac:=(hN 4 (zbB O))
       have c7:vs 5 = .agg [.slice none 0 0,vS a.Who,d].toArray:=(hN 5 (zbB O))
       obtain⟨vs,rfl⟩:=za1 c7
       obtain⟨e,c8⟩: ∃ e,vs 6=ptr (bx e):=⟨_,(hN 7 (zbB O)).1⟩
       obtain⟨vs,rfl⟩:=za1 c8
       have gy:Bx br 13 e [.slice none 0 0,vS a.Who,d]:=(hN 7 (zbB O)).2
       refine ssr (fl (cz.up k) O (Lw.ln a.Parents (r113.ul (((bn.trans bp).trans bq).trans c9)) O (mi O (nl (Cw.block ?_)))))
       obtain⟨gz,g0,Y⟩:=zc4 Y
       refine Cw.loop 64 101 [9,16,64] (fun m l w=> ∃ ae bu af ah bv H ai da aj ak a0 P x,CW.w x=w/\Le [13,14] br x/\l=[vB ae,da,vI bu]/\Ow x 9 [] [aj] af/\Ow x 10 [] [ak] ah/\Bx x 3 g3 [aj,ak]/\Ow x 14 [] [a0] bv/\Ow x 12 [] [P] ai/\Bx x 13 e [a0,vS H,P]/\Vm.zdT x0 x1 Z a gz m ae bu af ah bv H ai=some r) _ ⟨be,0,bg,bh,([]:List Int),a.Who,ac,cx,bi,bj, .slice none 0 0,d,br,O,Le.refl _ _,O,((((ga.up C).up D).up i).up k),((((gb.up C).up D).up i).up k),((((ed.up C).up D).up i).up k),owN 14 [],gx,gy,Y⟩ ?_
       rintro(_ |jg) _ _ σ ⟨ae,bu,af,ah,bv,H,ai,da,aj,ak,a0,P,x,rfl,Q,rfl,db,dc,dd,de,df,en,Y⟩
       ·cases Y
       unfold Vm.zdT at Y
       have eo:=Q.s
       have ep:=((((ee.up C).up D).up i).up k).up Q
       have dg:=((((eg.up C).up D).up i).up k).up Q
       refine sr (Lw.lt O (nl (Cw.seq (cn Y (fun Y=>?_) fun Y=>?_))))
       ·refine sk ?_
        obtain⟨g2,g4,Y⟩:=zc4 Y
        refine Cw.join 66 100 [9,16] (fun l w=> ∃ bw bz b0 b2 b4 b5 dh b6 b7 b8 b9 y,CW.w y=w/\Le [13,14] x y/\l=[vB bw,dh]/\Ow y 9 [] [b6] bz/\Ow y 10 [] [b7] b0/\Bx y 3 g3 [b6,b7]/\Ow y 14 [] [b8] b2/\Ow y 12 [] [b9] b5/\Bx y 13 e [b8,vS b4,b9]/\g2 bw bz b0 b2 b4 b5=some r) ?_ ?_
        ·rintro _ _ σ ⟨bw,bz,b0,b2,b4,b5,dh,b6,b7,b8,b9,y,rfl,g5,rfl,g6,g7,g8,g9,ha,hb,Y⟩
         rw[g4]at Y
         exact rg (Lw.add O (mi O (nl ((agm) ⟨bw,w64 (bu+1),bz,b0,b2,b4,b5,dh,b6,b7,b8,b9,y,O,(Q.j g5).w,O,g6,g7,g8,g9,ha,hb,Y⟩))))
        ·refine Cw.block (sr ?_)
         obtain⟨cb,er,Y⟩:=ob Y
         have es:=r113.ul ((((bn.trans bp).trans bq).trans c9).trans eo)
         refine Lw.r O (R.ix (α:=Int) es er O O O) (Lw.r O (R.ld O O (es.at_ er).int) (Ni O (Cw.block (sr (mi O (mi O (Lw.sub O (ca Y (fun _=>p64) fun jh ji Y b=>?_))))))))
         have di:=(((((bl.trans bn).trans bp).trans bq).trans c9).trans eo).n b
         have et:=(((((eh.up C).up D).up i).up k).up Q).up b
         have cc:=en.up b
         refine Nb O (cn Y (fun Y=>?_) fun Y=>?_)
         ·refine rg (fl cc O (fl et O (Lw.ln x0.Commits (L.ul di) O (mi O (Lw.add O (Lw.t O (T.bs 15 [vI (w64 ((x0.Commits.length:Int)+cb))] (cs:=[vI (w64 ((x0.Commits.length:Int)+cb))]) O O (bsv O)) ?_))))))
          rintro _ _ ⟨jj,jk,rfl,rfl,S,hc⟩
          obtain⟨he,hf,Y⟩:=ob Y
          refine Lw.t O (T.app1S (α:=Int) (K':=[]) ((de.up b).up S) hc (rdI _) O O hf) ?_
          rintro eu _ ⟨jl,rfl,am,ew⟩
          refine Lw.fa O (Lw.u (T.st (j:=0) (v:=eu) ((cc.up S).up am) O O ew.oc O O) ?_)
          rintro _ _ ⟨hg,rfl,an,hh⟩
          exact nl ((ag) ⟨ae,af,ah,he,H,ai,vI cb,aj,ak,eu,P,hg,O,(((b.j S).j am).j an).w,O,((((db.up b).up S).up am).up an),((((dc.up b).up S).up am).up an),((((dd.up b).up S).up am).up an),(ew.up an),((((df.up b).up S).up am).up an),hh,Y⟩)
         ·refine sr (mi O (mv A O (Lw.ln x1 (f.ul di) O (Lw.r O (R.neg O) (ca Y (fun _=>p64) fun jm jo Y z=>?_)))))
          have cd:=di.n z
          have ex:=(dd.up b).up z
          refine Nb O (cn Y (fun Y=>?_) fun Y=>?_)
          ·refine Cw.draw [] [(0,0),(1,1),(2,0),(3,0),(4,0),(5,0),(6,1),(7,2),(8,3),(9,0),(10,3)] mixed (by kernel_rfl) fun jp E=>?_
           have dj:=cd.n E
           refine Dfl ((cc.up z).up E) O O O (Dv A O (Di O (Mw.p O O (fun _=>R.sub O O) ?_)))
           obtain⟨ey,dk,Y⟩:=ob Y
           refine Mw.p O O (fun _=>R.ix (α:=Int) (f.ul dj) dk O O O) (Mw.q O O (fun _ c=>R.ld O O (zaD ((f.ul dj).at_ dk).1 O ((f.ul dj).at_ dk).int c)) (Mw.t O O (T.bs 16 [vI ey] (cs:=[vI ey]) O O (bsv O)) ?_))
           rintro _ _ ⟨jq,jr,rfl,rfl,I,hi⟩
           refine m0 I fun js=>?_
           obtain⟨hj,hk,Y⟩:=ob Y
           refine Mw.l O O (T.app1S (α:=Int) (K':=[]) ((((de.up b).up z).up E).up I) hi (rdI _) O O hk) ?_
           rintro ez _ ⟨jt,rfl,ao,e0⟩
           refine Df O (Mw.lu O (T.st (j:=0) (v:=ez) ((((cc.up z).up E).up I).up ao) O O e0.oc O O) ?_)
           rintro _ _ ⟨hl,rfl,ap,hn⟩
           exact Mw.nil ((ag) ⟨ae,af,ah,hj,H,ai,vI cb,aj,ak,ez,P,hl,O,(((((b.j z).j E).j I).j ao).j ap).w,O,((((((db.up b).up z).up E).up I).up ao).up ap),((((((dc.up b).up z).up E).up I).up ao).up ap),((((ex.up E).up I).up ao).up ap),(e0.up ap),((((((df.up b).up z).up E).up I).up ao).up ap),hn,Y⟩)
          ·refine sr (la (et.up z) (cr Y (fun _=>p90 (k0:=17) (k1:=18) (Repo.rd (K:=[0]) x0.Commits x0.Heads (L.ul cd) (U.ul cd))) ?_))
           rintro ju _ jv Y e1 ⟨ho,hp,rfl,e2,e3⟩
           have hq:=cd.n e1
           refine sta (ex.up e1) (zaf e2.oc (zaf e3.oc zaW)) fun jw dl hr=>?_
           have hs:=hq.t dl
           refine Nb O ?_
           obtain⟨jx,ht,dm,hu⟩:=(e2.up dl).dyeO 31
           have hw:=hs.t dm
           obtain⟨jy,hx,dn,hy⟩:=((e3.up dl).up dm).dyeO 32
           have hz:=hw.t dn
           cases Y
           rw[<- hx.trans (ht)]
           exact Cw.ret (zj5 O ((hr.up dm).up dn) O (Res.mk hz ⟨ho,hp,O,(hu.up dn).s,hy.s⟩))
       ·refine Cw.exit ?_
        rw[g0]at Y
        refine sr (fl dg O (Lw.ln aa ep.rd O (Ni O (rg (fl dg O (la en (Lw.t O (T.bs 19 [.agg [a0,vS H,P].toArray] (cs:=[a0,vS H,P]) O O (bsA O)) ?_)))))))
        rintro _ _ ⟨jz,j0,rfl,rfl,F,h3⟩
        obtain⟨h4,h5,Y⟩:=ob Y
        refine Lw.t O (T.app1 (α:=Commit) (J:=[14,12]) (K':=[]) (ep.up F) h3 (Commit.own bv H ai (de.up F).s (df.up F).s) O O h5) ?_
        rintro e4 _ ⟨j1,rfl,aq,e5⟩
        refine Lw.fa O (Lw.u (T.st (j:=0) (v:=e4) ((dg.up F).up aq) O O e5.oc O O) ?_)
        rintro _ _ ⟨h6,rfl,ar,h7⟩
        exact nl (rg (Lw.add O (mi O (nl ((agm) ⟨ae,(aa.length:Int),w64 (Z+1),af,ah,h4,ax,vI Z,ptr (bx N),ptr (bx e),da,aj,ak,e4,ay,h6,O,((((((((cy.j C).j D).j i).j k).j Q).j F).j aq).j ar).w,O,(((db.up F).up aq).up ar),(((dc.up F).up aq).up ar),(((dd.up F).up aq).up ar),(e5.up ar),((((((((ef.up C).up D).up i).up k).up Q).up F).up aq).up ar),h7,Y⟩)))))
     ·refine Cw.exit ?_
      rw[f9]at Y
      refine Cw.seq (Cw.draw [6,7] [(0,1),(1,1),(2,0),(3,0),(4,2),(5,3),(6,0),(7,0),(8,3),(9,0)] mixed (by kernel_rfl) fun j2 au=>?_)
      have h8:=bl.n au
      refine Mw.q O O (fun _ c=>R.lda (cs:=[cf,cg]) ((eh.up au).clcs O c) O O) (Mw.q O O (fun _ c=>R.lda (cs:=[bk,ay]) ((eg.up au).clcs O c) O O) (Ds O (Di O ?_)))
      obtain⟨e6,h9,Y⟩:=ob Y
      refine Mw.t O O (T.call O (p112 (K:=[0]) (k0:=20) (k1:=21) (c0:=6) (c1:=7) (x0:=(Vm.Repo.mk aa ax)) (ee.up au) (ef.up au) O h9)) ?_
      rintro _ _ ⟨j3,rfl,dp,⟨j4,j5,rfl,ia,ib⟩⟩
      have ce:=h8.t dp
      refine m0 dp fun j6=>?_
      obtain⟨dq,ic,Y⟩:=ob Y
      refine Mw.l O O (T.call O (p89 (k0:=22) (k1:=23) (c0:=20) (c1:=21) (x1:=(Vm.Repo.mk e6.Commits e6.Heads)) (Repo.rd (K:=[0]) x0.Commits x0.Heads (L.ul ce) (U.ul ce)) ia ib (ch.ul ce) O ic)) ?_
      rintro _ _ ⟨j7,rfl,e7,⟨a1,a3,rfl,e8,e9⟩⟩
      have id:=ce.t e7
      refine Mw.p O O (fun _=>R.ext (vs:=[.agg [a1,a3].toArray,vB dq.2]) (v:= .agg [a1,a3].toArray) O O) (Mw.p O O (fun _=>R.ext (vs:=[.agg [a1,a3].toArray,vB dq.2]) (v:=vB dq.2) O O) (Mw.lu O (T.sta (vs:=[a1,a3]) (((ed.up au).up dp).up e7) O O (zaf e8.oc (zaf e9.oc zaW)) O O) ?_))
      rintro _ _ ⟨j8,rfl,dr,ie⟩
      have ig:=id.t dr
      refine Hb O (Mw.nil ?_)
      obtain⟨j9,ih,ds,ii⟩:=(e8.up dr).dyeO 31
      have ij:=ig.t ds
      obtain⟨ka,ik,dt,il⟩:=((e9.up dr).up ds).dyeO 32
      have im:=ij.t dt
      cases Y
      rw[<- ik.trans (ih)]
      exact Cw.ret (zj5 O ((ie.up ds).up dt) O (Res.mk im ⟨a1,a3,O,(ii.up dt).s,il.s⟩))
    ·refine sr (mv A O (Lw.ln x1 (f.ul bb) O (Lw.gt O (nl (cn Y (fun Y=>?_) fun Y=>?_)))))
     ·refine rg (mv A O ?_)
      obtain⟨io,fb,Y⟩:=ob Y
      exact Lw.r O (R.ix (α:=Int) (f.ul bb) fb O O O) (Lw.r O (R.ld O O ((f.ul bb).at_ fb).int) (Ni O ((ag) ⟨io,cv,O,Le.refl _ _,O,Y⟩)))
     ·exact sk ((ag) ⟨(-1),cv,O,Le.refl _ _,O,Y⟩)
  ·refine rg (mv A O (Lw.ln x1 (f.ul G) O (Lw.gt O (mb O (bs Y (fun a5 Y=>?_) fun a5 Y=>?_)))))
   ·exact psk 4 a5 O (Pb a5 O (mb O (psk 6 O O (Pb O O (nl ((ag) ⟨true,d0,O,Le.refl _ _,O,Y⟩))))))
   ·refine wak 4 a5 (la d1 (mv A O (ca Y (fun _=>p71 (Repo.rd (K:=[0]) x0.Commits x0.Heads (L.ul G) (U.ul G)) (f.ul G) (ch.ul G)) fun kb fc Y du=>?_)))
    have fd:=G.n du
    refine Lw.r O (R.not O) (Pb a5 O (mb O (bs Y (fun a6 Y=>?_) fun a6 Y=>?_)))
    ·exact psk 6 a6 O (Pb a6 O (nl ((ag) ⟨true,fc,O,du,O,Y⟩)))
    ·exact wak 6 a6 (mv a7 O (Lw.ln x2 (h2.ul fd) O (mv A O (Lw.ln x1 (f.ul fd) O (Lw.add O (Lw.eq O (Pb a6 O (nl ((ag) ⟨((w64 ((x2.length:Int)+(x1.length:Int)):Int)==(0:Int)),fc,O,du,O,Y⟩)))))))))
theorem p60 {x0 d f x1 h x2 i x3 k0 k1 r}(k:Rd W K [d,f] x0)(x:Rd W K [h] x1)(y:Rd W K [i] x2)(z:Gl 0 W K)(Y:Vm.zgK x0 x1 x2 x3=some r):Q1 60 [.agg [d,f].toArray,h,i,vS x3] W [] fun W' v=> ∃ a b,v = .tuple [.agg [a,b].toArray,vB r.2].toArray/\Ow W' k0 [] [a] r.1.Commits/\Ow W' k1 [] [b] r.1.Heads:=
 zaT.adJ (J:=[]) (fun c=>bif Nat.beq c 0 then 0 else bif Nat.beq c 31 then k0 else bif Nat.beq c 32 then k1 else 0) (c60 (k.view _) (x.view _) (y.view _) (z.view _) Y) fun _ _ ⟨a,b,e,A,B⟩=>⟨a,b,e,A.one1.backN O,B.one1.backN O⟩
end Go.Sx
