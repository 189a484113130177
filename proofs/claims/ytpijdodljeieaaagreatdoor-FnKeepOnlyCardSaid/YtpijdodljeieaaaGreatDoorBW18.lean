/- Walks: each function answers as its model, printed by a program of ours. Conditions: the arguments read as they are given. -/
import Derived.Test.YtpijdodljeieaaaGreatDoorBTs
import Derived.Test.YtpijdodljeieaaaGreatDoorBM12
import Derived.Test.YtpijdodljeieaaaGreatDoorBW0
import Derived.Test.YtpijdodljeieaaaGreatDoorBW1
import Derived.Test.YtpijdodljeieaaaGreatDoorBW11
import Derived.Test.YtpijdodljeieaaaGreatDoorBW3
import Derived.Test.YtpijdodljeieaaaGreatDoorBW7
namespace Go.Sx
open Go Go.Proofs Go.Vm Rp
set_option linter.unusedVariables false
set_option linter.unusedSimpArgs false
variable {W W0:CW}{K:List Nat}
theorem c51 {x0 an ao x1 r}(h0:Rd W0 [0] [an,ao] x0)(Y:Vm.zhG x0 x1=some r):Q0 51 [.agg [an,ao].toArray,vS x1] W0 fun Wf v=> ∃ ap aq,v = .tuple [.agg [ap,aq].toArray,vB r.2].toArray/\OwS Wf [31] [] [ap] r.1.Commits/\OwS Wf [32] [] [aq] r.1.Heads:=by
 unfold Vm.zhG at Y
 obtain⟨ck,cl,ar,au,e⟩:=Repo.split h0
 simp only[List.cons.injEq,and_true,true_and]at ar
 obtain⟨rfl,rfl⟩:=ar
 refine zaT.of Tryz.func51 O O O O (sr (bo 2 O fun g1 W1 l1 b1=>?_))
 have a2:=l1.o
 refine al 3 [.slice none 0 0, .slice none 0 0] fun g3 W3 U b3=>?_
 have V:=a2.n U
 refine Nb O (ssr (la (b1.up U) (ca Y (fun _=>p80 (Repo.rd (K:=[0]) x0.Commits x0.Heads (au.ul V) (e.ul V))) fun z8 cu Y l10=>?_)))
 have D:=V.n l10
 have ax:=(b1.up U).up l10
 refine Lw.r O (R.not O) (nl (cn Y (fun Y=>?_) fun Y=>?_))
 ·refine sr (Lw.r O (R.bd (zs:=[.slice none 0 0, .slice none 0 0]) (cs:=[.slice none 0 0, .slice none 0 0]) [] O O O zg2) (sta (b3.up l10) (zaf O (zaf O zaW)) fun cv ba bb=>?_))
  have bc:=D.t ba
  refine Nb O ?_
  cases Y
  exact Cw.ret (zj5 O bb O (Res.mk bc ⟨.slice none 0 0, .slice none 0 0,O,(zp1 []).sub O O,(zp1 []).sub O O⟩))
 ·refine sk (sr (la ax (cr Y (fun _=>p95 (k0:=4) (k1:=5) (Repo.rd (K:=[0]) x0.Commits x0.Heads (au.ul D) (e.ul D))) ?_)))
  rintro be _ cw Y W ⟨X,cx,rfl,ay,bg⟩
  have bh:=D.n W
  refine al 6 [.slice none 0 0, .slice none 0 0] fun cy cz k bi=>?_
  have bj:=bh.n k
  refine sta bi (zaf (ay.up k).oc (zaf (bg.up k).oc zaW)) fun c0 E bk=>?_
  have bl:=bj.t E
  have Z:=(ay.up k).up E
  refine nl (sr (fl bk O (Lw.r O (R.bd (zs:=[.slice none 0 0, .slice none 0 0]) (cs:=[X, .slice none 0 0]) [(0,X)] O O O (zcK Z.oc O zg2)) (al 7 [.slice none 0 0, .slice none 0 0] fun az c1 y bm=>?_))))
  have bn:=bl.n y
  refine sta bm (zaf (Z.up y).oc (zaf O zaW)) fun a0 F bp=>?_
  have bq:=bn.t F
  refine nl (ssr (Ni O (Cw.block ?_)))
  obtain⟨br,bu,Y⟩:=zc4 Y
  refine Cw.loop 18 42 [8] (fun m l w=> ∃ G z A a f b,CW.w b=w/\Le [7,8] a0 b/\l=[vI G]/\Ow b 4 [] [a] z/\Ow b 8 [] [f] A/\Bx b 7 az [a,f]/\Vm.zdV x0 x1 br m G z A=some r) _ ⟨0,be.Commits,([]:List Head),X, .slice none 0 0,a0,O,Le.refl _ _,O,((Z.up y).up F),owN 8 [],bp,Y⟩ ?_
  rintro(_ |c2) _ _ σ ⟨G,z,A,a,f,b,rfl,H,rfl,I,aa,B,Y⟩
  ·cases Y
  unfold Vm.zdV at Y
  have ac:=bq.t H
  have J:=(((((ax.up W).up k).up E).up y).up F).up H
  refine ssr ?_
  have ae:=e.ul ac
  refine mi O (fl J O (Lw.ln x0.Heads ae O (Lw.lt O (nl (cn Y (fun Y=>?_) fun Y=>?_)))))
  ·refine sk ?_
   obtain⟨bv,bw,Y⟩:=zc4 Y
   refine Cw.join 25 42 [] (fun l w=> ∃ L M N P h,CW.w h=w/\Le [7,8] b h/\l=[]/\Ow h 4 [] [N] L/\Ow h 8 [] [P] M/\Bx h 7 az [N,P]/\bv L M=some r) ?_ ?_
   ·rintro _ _ σ ⟨L,M,N,P,h,rfl,bz,rfl,b0,b2,b4,Y⟩
    rw[bw]at Y
    exact rg (mi O (Lw.add O (Ni O ((agm) ⟨w64 (G+1),L,M,N,P,h,O,(H.j bz).w,O,b0,b2,b4,Y⟩))))
   ·refine Cw.block (sr (fl J O (mi O ?_)))
    obtain⟨c3,a1,Y⟩:=ob Y
    refine Lw.r O (R.ix (α:=Head) ae a1 O O O) (Lw.fa O (Lw.r O (R.ld O O (Head.at0 (ae.at_ a1)).str) (ms O (Lw.sne O (nl (cn Y (fun Y=>?_) fun Y=>?_))))))
    ·refine Cw.draw [8] [(0,0),(1,1),(2,0),(3,1),(4,0),(5,0),(6,1),(7,2),(8,2),(9,0),(10,3)] mixed (by kernel_rfl) fun c4 i=>?_
     have af:=ac.n i
     refine Dfl (B.up i) O O O (Dfl (J.up i) O O O (Di O ?_))
     obtain⟨x,ah,Y⟩:=ob Y
     refine Mw.p O O (fun _=>R.ix (α:=Head) (e.ul af) ah O O O) ?_
     obtain⟨x99,c100,_,r101⟩:=((e.ul af).at_ ah).cells
     obtain rfl:=Head.split r101
     refine Mw.q O O (fun _ c=>R.lda (zmh ((e.ul af).at_ ah).1 O c100 c) O O) (Mw.t O O (T.bs 9 [.agg [vS x.Name,vI x.At].toArray] (cs:=[vS x.Name,vI x.At]) O O (bsA O)) ?_)
     rintro _ _ ⟨c5,c6,rfl,rfl,C,b5⟩
     refine m0 C fun b6=>?_
     obtain⟨b7,b8,Y⟩:=ob Y
     refine Mw.t O O (T.app1S (α:=Head) (K':=[]) ((aa.up i).up C) b5 (Head.rd (K:=[]) x.Name x.At) O O b8) ?_
     rintro a3 _ ⟨c7,rfl,Q,a5⟩
     refine mc b6 Q fun c8=>Df O (Mw.lu O (T.st (j:=1) (v:=a3) (((B.up i).up C).up Q) O O a5.oc O O) ?_)
     rintro _ _ ⟨b9,rfl,ai,cb⟩
     exact Mw.nil ((ag) ⟨z,b7,a,a3,b9,O,(((i.j C).j Q).j ai).w,O,((((I.up i).up C).up Q).up ai),(a5.up ai),cb,Y⟩)
    ·exact sk ((ag) ⟨z,A,a,f,b,O,Le.refl _ _,O,I,aa,B,Y⟩)
  ·refine Cw.exit ?_
   rw[bu]at Y
   refine Cw.seq (Cw.draw [3] [(0,1),(1,0),(2,1),(3,0),(4,0),(5,1),(6,0),(7,0),(8,2),(9,0)] mixed (by kernel_rfl) fun c9 d=>?_)
   have a6:=ac.n d
   have aj:=aa.up d
   refine Mw.q O O (fun _ c=>R.lda (cs:=[a,f]) ((B.up d).clcs O c) O O) (Dfl (B.up d) O O O (Mw.p O O (fun _=>zo6 (xs:=A) aj.rd O) (Dfl (J.up d) O O O (Mw.p O O (fun _=>zo6 (xs:=x0.Heads) (e.ul a6) O) (Mw.p O O (fun _=>R.lt O O) (Mw.tu O (T.sta (vs:=[a,f]) ((((((((b3.up l10).up W).up k).up E).up y).up F).up H).up d) O O (zaf (I.up d).oc (zaf aj.oc zaW)) O O) ?_))))))
   rintro _ _ ⟨da,rfl,S,cc⟩
   have cd:=a6.t S
   refine m0 S fun db=>Hb O (Mw.nil ?_)
   obtain⟨dc,ce,ak,cf⟩:=((I.up d).up S).dyeO 31
   have cg:=cd.t ak
   obtain⟨dd,ch,am,ci⟩:=((aj.up S).up ak).dyeO 32
   have cj:=cg.t am
   cases Y
   rw[<- ch.trans (ce)]
   exact Cw.ret (zj5 O ((cc.up ak).up am) O (Res.mk cj ⟨a,f,O,(cf.up am).s,ci.s⟩))
theorem p51 {x0 d f x1 k0 k1 r}(h:Rd W K [d,f] x0)(Y:Vm.zhG x0 x1=some r):Q1 51 [.agg [d,f].toArray,vS x1] W [] fun W' v=> ∃ a b,v = .tuple [.agg [a,b].toArray,vB r.2].toArray/\Ow W' k0 [] [a] r.1.Commits/\Ow W' k1 [] [b] r.1.Heads:=
 zaT.adJ (J:=[]) (fun c=>bif Nat.beq c 0 then 0 else bif Nat.beq c 31 then k0 else bif Nat.beq c 32 then k1 else 0) (c51 (h.view _) Y) fun _ _ ⟨a,b,e,i,k⟩=>⟨a,b,e,i.one1.backN O,k.one1.backN O⟩
theorem c102 {x0 f i r}(hB0:Bx W0 2 f [i,vI x0.p])(ap:Rd W0 [0] [i] x0.b)(Y:Vm.ziM x0=some r):Q0 102 [ptr (bx f)] W0 fun Wf v=> ∃ bg bh,v = .agg [bg,bh].toArray/\OwS Wf [31] [] [bg] r.1.Commits/\OwS Wf [32] [] [bh] r.1.Heads/\Bx Wf 2 f [i,vI r.2]:=by
 unfold Vm.ziM at Y
 refine zaT.of Tryz.func102 O O O O (sr (al 3 [.slice none 0 0, .slice none 0 0] fun g1 W1 l1 b1=>?_))
 have a2:=l1.o
 have b3:=hB0.up l1
 refine nl (sr (mp O (cr Y (fun _=>p76 (k0:=4) (k1:=5) (c0:=2) (x0:=x0) b3 (ap.ul a2) O) ?_)))
 rintro z5 _ W7 Y l7 ⟨cf,cg,rfl,bl,bm,ch⟩
 have a8:=a2.t l7
 refine al 6 [.slice none 0 0, .slice none 0 0] fun bn ea l10 cj=>?_
 have ck:=a8.n l10
 refine sta cj (zaf (bl.up l10).oc (zaf (bm.up l10).oc zaW)) fun eb I cl=>?_
 have bp:=ck.t I
 refine nl (ssr (mp O (cr Y (fun _=>p78 (c0:=2) (x0:=(Vm.l30Rd.mk x0.b z5.2)) ((ch.up l10).up I) (ap.ul bp) O) ?_)))
 rintro bq _ br Y J ⟨rfl,cm⟩
 have co:=bp.t J
 refine Ni O (Cw.block ?_)
 obtain⟨cp,cq,Y⟩:=zc4 Y
 refine Cw.loop 11 28 [4,5,6] (fun m l w=> ∃ U H D E bu bv z A F,CW.w F=w/\Le [2,6,7,8,9] br F/\l=[vI U,bu,bv]/\Bx F 2 f [i,vI H]/\Ow F 4 [] [z] D/\Ow F 5 [] [A] E/\Bx F 6 bn [z,A]/\Vm.ze5 x0 cp m U H D E=some r) _ ⟨bq.1,bq.2,z5.1.Commits,z5.1.Heads,undef,undef,cf,cg,br,O,Le.refl _ _,O,cm,(((bl.up l10).up I).up J),(((bm.up l10).up I).up J),(cl.up J),Y⟩ ?_
 rintro(_ |ec) _ _ σ ⟨U,H,D,E,bu,bv,z,A,F,rfl,ar,rfl,bw,V,X,au,Y⟩
 ·cases Y
 unfold Vm.ze5 at Y
 have bz:=co.t ar
 refine ssr (mi O (Lw.gt O (nl (cn Y (fun Y=>?_) fun Y=>?_))))
 ·refine sk ?_
  obtain⟨ct,cu,Y⟩:=zc4 Y
  refine Cw.join 15 28 [5,6] (fun l w=> ∃ Z aa ac av aw ae af G,CW.w G=w/\Le [2,6,7,8,9] F G/\l=[av,aw]/\Bx G 2 f [i,vI Z]/\Ow G 4 [] [ae] aa/\Ow G 5 [] [af] ac/\Bx G 6 bn [ae,af]/\ct Z aa ac=some r) ?_ ?_
  ·rintro _ _ σ ⟨Z,aa,ac,av,aw,ae,af,G,rfl,cv,rfl,cw,cx,cy,cz,Y⟩
   rw[cu]at Y
   exact rg (mi O (Lw.sub O (Ni O ((agm) ⟨w64 (U-1),Z,aa,ac,av,aw,ae,af,G,O,(ar.j cv).w,O,cw,cx,cy,cz,Y⟩))))
  ·refine Cw.block (Cw.seq ?_)
   obtain⟨k,c1,Y⟩:=ob Y
   obtain⟨a,c2,Y⟩:=ob Y
   refine Cw.par [[],[],[1],[0,1,2],[0,1,2,3],[0,1,2,3,4],[0,1,2,3,4],[],[0,1,2,3,4,5,7],[0,1,2,3,4,5,6,7,8]] [[],[10],[1,10],[0,2],[3],[3,4],[3,4],[],[3,5,7],[6]] [[],[],[2],[],[],[],[],[],[9],[]] [[0],[1],[2],[3],[3,4],[3,5],[6],[7],[3,7],[9],[]] [[],[],[2],[7,8],[],[],[],[9],[9],[],[2]] [0,1,2,3,4,5,6,8,9] [2,9] [fun vs W=>(vs 0) = .agg [z,A].toArray,fun vs W=>(vs 1)=ptr (bx f),fun vs W=>(vs 2)=vS k.1/\Bx W 2 f [i,vI k.2],fun vs W=>(vs 3) = .tuple [.agg [(zaV (zaV (vs 3) 0) 0),(zaV (zaV (vs 3) 0) 1)].toArray,vB a.2].toArray/\Ow W 7 [] [(zaV (zaV (vs 3) 0) 0)] a.1.Commits/\Ow W 8 [] [(zaV (zaV (vs 3) 0) 1)] a.1.Heads,fun vs W=>(vs 4) = .tuple [.agg [(zaV (zaV (vs 3) 0) 0),(zaV (zaV (vs 3) 0) 1)].toArray,vB a.2].toArray,fun vs W=>(vs 5) = .agg [(zaV (zaV (vs 3) 0) 0),(zaV (zaV (vs 3) 0) 1)].toArray,fun vs W=>(vs 6)=vB a.2,fun vs W=>(vs 7)=ptr (bx (pg (vs 7)))/\Bx W 9 (pg (vs 7)) [.slice none 0 0, .slice none 0 0],fun vs W=>(vs 7)=ptr (bx (pg (vs 7)))/\Bx W 9 (pg (vs 7)) [(zaV (zaV (vs 3) 0) 0),(zaV (zaV (vs 3) 0) 1)],fun vs W=>(vs 9)=vB a.2] [fun _ W=>Bx W 2 f [i,vI H]] mixed (by kernel_rfl) O (zrc.cons (fun _ _ l=>bw.up l O) zrc.nil) ?_
   intro ed B
   have c3:=bz.n B
   refine⟨(zc2.cons ?_ (zc2.cons ?_ (zc2.cons ?_ (zc2.cons ?_ (zc2.cons ?_ (zc2.cons ?_ (zc2.cons ?_ (zc2.cons ?_ (zc2.cons ?_ (zc2.cons ?_ zc2.nil)))))))))),(zhD.cons SE (zhD.cons SE (zhD.cons (fun vs vs' W W' _ hv l hd h=>by(show(vs' 2)=vS k.1/\Bx W' 2 f [i,vI k.2]);rw[hv 2 (zbB O)];exact⟨h.1,h.2.up l (zgn hd (c:=2) O)⟩) (zhD.cons (fun vs vs' W W' _ hv l hd h=>by(show(vs' 3) = .tuple [.agg [(zaV (zaV (vs' 3) 0) 0),(zaV (zaV (vs' 3) 0) 1)].toArray,vB a.2].toArray/\Ow W' 7 [] [(zaV (zaV (vs' 3) 0) 0)] a.1.Commits/\Ow W' 8 [] [(zaV (zaV (vs' 3) 0) 1)] a.1.Heads);rw[hv 3 (zbB O)];exact⟨h.1,h.2.1.upv l (zgn hd (c:=7) O),h.2.2.upv l (zgn hd (c:=8) O)⟩) (zhD.cons (fun vs vs' W W' _ hv l hd h=>by(show(vs' 4) = .tuple [.agg [(zaV (zaV (vs' 3) 0) 0),(zaV (zaV (vs' 3) 0) 1)].toArray,vB a.2].toArray);rw[hv 3 (zbB O),hv 4 (zbB O)];exact h) (zhD.cons (fun vs vs' W W' _ hv l hd h=>by(show(vs' 5) = .agg [(zaV (zaV (vs' 3) 0) 0),(zaV (zaV (vs' 3) 0) 1)].toArray);rw[hv 3 (zbB O),hv 5 (zbB O)];exact h) (zhD.cons SE (zhD.cons (fun vs vs' W W' _ hv l hd h=>by(show(vs' 7)=ptr (bx (pg (vs' 7)))/\Bx W' 9 (pg (vs' 7)) [.slice none 0 0, .slice none 0 0]);rw[hv 7 (zbB O)];exact⟨h.1,h.2.up l (zgn hd (c:=9) O)⟩) (zhD.cons (fun vs vs' W W' _ hv l hd h=>by(show(vs' 7)=ptr (bx (pg (vs' 7)))/\Bx W' 9 (pg (vs' 7)) [(zaV (zaV (vs' 3) 0) 0),(zaV (zaV (vs' 3) 0) 1)]);rw[hv 3 (zbB O),hv 7 (zbB O)];exact⟨h.1,h.2.up l (zgn hd (c:=9) O)⟩) (zhD.cons SE (zhD.cons (fun _ _ _ _ _ _ l hd h=>h.up l (zgn hd (c:=2) O)) zhD.nil))))))))))),?_⟩
   ·intro vs ee lW hN hV
    exact Trq (R.lda (cs:=[z,A]) ((au.up B).up lW O).cells O O) O
   ·intro vs c4 lW hN hV
    have ef:Bx c4 2 f [i,vI H]:=hN 10 (zbB O)
    exact Trq (R.mv (v:=ptr (bx f)) O) O
   ·intro vs c5 lW hN hV
    have c6:=c3.t lW O
    have ax:vs 1=ptr (bx f):=(hN 1 (zbB O))
    obtain⟨vs,rfl⟩:=za1 ax
    have c7:Bx c5 2 f [i,vI H]:=hN 10 (zbB O)
    refine Tr.mono (T.call O (p139 (c0:=2) (x0:=(Vm.l30Rd.mk x0.b H)) c7 (ap.ul c6) O c1)) ?_
    rintro _ _ ⟨b0,rfl,c8,⟨rfl,c9⟩⟩
    exact⟨b0,O,c8,(show(vS k.1:Value)=vS k.1/\Bx b0 2 f [i,vI k.2] from⟨O,c9⟩)⟩
   ·intro vs da lW hN hV
    have ay:vs 0 = .agg [z,A].toArray:=(hN 0 (zbB O))
    obtain⟨vs,rfl⟩:=za1 ay
    have az:vs 2=vS k.1:=(hN 2 (zbB O)).1
    obtain⟨vs,rfl⟩:=za1 az
    have eg:Bx da 2 f [i,vI k.2]:=(hN 2 (zbB O)).2
    refine Tr.mono (T.call O (p51 (K:=[4,5]) (k0:=7) (k1:=8) (x0:=(Vm.Repo.mk D E)) (Repo.rd (K:=[4,5]) D E (((V.up B).up lW O).rd.sub (M:=[4,5]) O) (((X.up B).up lW O).rd.sub (M:=[4,5]) O)) c2)) ?_
    rintro _ _ ⟨a0,rfl,db,⟨a1,a3,rfl,dc,dd⟩⟩
    exact⟨a0,O,db,(show(.tuple [.agg [a1,a3].toArray,vB a.2].toArray:Value) = .tuple [.agg [a1,a3].toArray,vB a.2].toArray/\Ow a0 7 [] [a1] a.1.Commits/\Ow a0 8 [] [a3] a.1.Heads from⟨O,dc,dd⟩)⟩
   ·intro vs b2 lW hN hV
    obtain⟨d,e,C⟩: ∃ d e:Value,vs 3 = .tuple [.agg [d,e].toArray,vB a.2].toArray:=⟨_,_,(hN 3 (zbB O)).1⟩
    obtain⟨vs,rfl⟩:=za1 C
    have eh:Ow b2 7 [] [d] a.1.Commits:=(hN 3 (zbB O)).2.1
    have ei:Ow b2 8 [] [e] a.1.Heads:=(hN 3 (zbB O)).2.2
    exact Trq (R.mv (v:= .tuple [Value.agg [d,e].toArray,vB a.2].toArray) O) O
   ·intro vs b4 lW hN hV
    obtain⟨d,e,C⟩: ∃ d e:Value,vs 3 = .tuple [.agg [d,e].toArray,vB a.2].toArray:=⟨_,_,(hN 3 (zbB O)).1⟩
    obtain⟨vs,rfl⟩:=za1 C
    have ej:Ow b4 7 [] [d] a.1.Commits:=(hN 3 (zbB O)).2.1
    have ek:Ow b4 8 [] [e] a.1.Heads:=(hN 3 (zbB O)).2.2
    have L:vs 4 = .tuple [.agg [d,e].toArray,vB a.2].toArray:=(hN 4 (zbB O))
    obtain⟨vs,rfl⟩:=za1 L
    exact Trq (R.ext (vs:=[Value.agg [d,e].toArray,vB a.2]) (v:= .agg [d,e].toArray) O O) O
   ·intro vs b5 lW hN hV
    obtain⟨d,e,C⟩: ∃ d e:Value,vs 3 = .tuple [.agg [d,e].toArray,vB a.2].toArray:=⟨_,_,(hN 3 (zbB O)).1⟩
    obtain⟨vs,rfl⟩:=za1 C
    have el:Ow b5 7 [] [d] a.1.Commits:=(hN 3 (zbB O)).2.1
    have em:Ow b5 8 [] [e] a.1.Heads:=(hN 3 (zbB O)).2.2
    have L:vs 4 = .tuple [.agg [d,e].toArray,vB a.2].toArray:=(hN 4 (zbB O))
    obtain⟨vs,rfl⟩:=za1 L
    exact Trq (R.ext (vs:=[Value.agg [d,e].toArray,vB a.2]) (v:=vB a.2) O O) O
   ·intro vs en lW hN hV
    refine Tr.mono (T.alloc 9 (cs:=[.slice none 0 0, .slice none 0 0]) O) ?_
    rintro _ _ ⟨a4,b6,rfl,rfl,de,df⟩
    exact⟨b6,O,de,(show(ptr (bx a4):Value)=ptr (bx a4)/\Bx b6 9 a4 [.slice none 0 0, .slice none 0 0] from⟨O,df⟩)⟩
   ·intro vs a5 lW hN hV
    obtain⟨d,e,C⟩: ∃ d e:Value,vs 3 = .tuple [.agg [d,e].toArray,vB a.2].toArray:=⟨_,_,(hN 3 (zbB O)).1⟩
    obtain⟨vs,rfl⟩:=za1 C
    have dg:Ow a5 7 [] [d] a.1.Commits:=(hN 3 (zbB O)).2.1
    have dh:Ow a5 8 [] [e] a.1.Heads:=(hN 3 (zbB O)).2.2
    have a6:vs 5 = .agg [d,e].toArray:=(hN 5 (zbB O))
    obtain⟨vs,rfl⟩:=za1 a6
    obtain⟨y,a7⟩: ∃ y,vs 7=ptr (bx y):=⟨_,((hN 7 (zbB O))).1⟩
    obtain⟨vs,rfl⟩:=za1 a7
    have di:Bx a5 9 y [.slice none 0 0, .slice none 0 0]:=(hN 7 (zbB O)).2
    refine Tr.mono (T.sta (vs:=[d,e]) di O O (zaf dg.oc (zaf dh.oc zaW)) O O) ?_
    rintro _ _ ⟨b7,rfl,dj,dk⟩
    exact⟨b7,O,dj,(show(ptr (bx y))=ptr (bx y)/\Bx b7 9 y [d,e] from⟨O,dk⟩)⟩
   ·intro vs eo lW hN hV
    have a9:vs 6=vB a.2:=(hN 6 (zbB O))
    obtain⟨vs,rfl⟩:=za1 a9
    exact Trq (R.as (v:=vB a.2) O) O
   ·intro vs N P hN
    have b8:=(V.up B).up P
    have b9:=(X.up B).up P
    have ba:=(au.up B).up P
    have ay:vs 0 = .agg [z,A].toArray:=(hN 0 (zbB O))
    obtain⟨vs,rfl⟩:=za1 ay
    have ax:vs 1=ptr (bx f):=(hN 1 (zbB O))
    obtain⟨vs,rfl⟩:=za1 ax
    have az:vs 2=vS k.1:=(hN 2 (zbB O)).1
    obtain⟨vs,rfl⟩:=za1 az
    have cb:Bx N 2 f [i,vI k.2]:=(hN 2 (zbB O)).2
    obtain⟨d,e,C⟩: ∃ d e:Value,vs 3 = .tuple [.agg [d,e].toArray,vB a.2].toArray:=⟨_,_,(hN 3 (zbB O)).1⟩
    obtain⟨vs,rfl⟩:=za1 C
    have bb:Ow N 7 [] [d] a.1.Commits:=(hN 3 (zbB O)).2.1
    have bc:Ow N 8 [] [e] a.1.Heads:=(hN 3 (zbB O)).2.2
    have L:vs 4 = .tuple [.agg [d,e].toArray,vB a.2].toArray:=(hN 4 (zbB O))
    obtain⟨vs,rfl⟩:=za1 L
    have a6:vs 5 = .agg [d,e].toArray:=(hN 5 (zbB O))
    obtain⟨vs,rfl⟩:=za1 a6
    have a9:vs 6=vB a.2:=(hN 6 (zbB O))
    obtain⟨vs,rfl⟩:=za1 a9
    obtain⟨y,a7⟩: ∃ y,vs 7=ptr (bx y):=⟨_,(hN 8 (zbB O)).1⟩
    obtain⟨vs,rfl⟩:=za1 a7
    have cc:Bx N 9 y [d,e]:=(hN 8 (zbB O)).2
    have dl:vs 9=vB a.2:=(hN 9 (zbB O))
    obtain⟨vs,rfl⟩:=za1 dl
    obtain⟨dm,dn,Y⟩:=zc4 Y
    refine Cw.join 22 27 [27] (fun l w=> ∃ be ah,CW.w ah=w/\Le [] N ah/\l=[vB be]/\dm be=some r) ?_ ?_
    ·rintro _ _ σ ⟨be,ah,rfl,x,rfl,Y⟩
     rw[dn]at Y
     refine cn Y (fun Y=>?_) fun Y=>?_
     ·refine rg (la (cc.up x) (sta (ba.up x) (zaf (bb.up x).oc (zaf (bc.up x).oc zaW)) fun ep ai dp=>nl ?_))
      obtain⟨er,dq,aj,dr⟩:=((bb.up x).up ai).dyeO 4
      obtain⟨ds,dt,ak,du⟩:=(((bc.up x).up ai).up aj).dyeO 5
      exact(ag) ⟨k.2,a.1.Commits,a.1.Heads,ptr (bx y),vB a.2,d,e,ds,dt.trans (dq),(((((B.j P).j x).j ai).j aj).j ak).w,O,((((cb.up x).up ai).up aj).up ak),(dr.up ak),du,((dp.up aj).up ak),Y⟩
     ·exact sk ((ag) ⟨k.2,D,E,ptr (bx y),vB a.2,z,A,ah,O,((B.j P).j x).w,O,(cb.up x),(b8.up x),(b9.up x),(ba.up x),Y⟩)
    ·refine rg (Lw.r O (R.lda (cs:=[d,e]) cc.cells O O) (ca Y (fun _=>p80 (K:=[7,8]) (x0:=(Vm.Repo.mk a.1.Commits a.1.Heads)) (Repo.rd (K:=[7,8]) a.1.Commits a.1.Heads (bb.rd.sub (M:=[7,8]) O) (bc.rd.sub (M:=[7,8]) O))) fun es dv Y Q=>mb O (bs Y (fun S Y=>?_) fun S Y=>?_)))
     ·exact wak 2 S (la (ba.up Q) (ca Y (fun _=>p80 (K:=[4,5]) (x0:=(Vm.Repo.mk D E)) (Repo.rd (K:=[4,5]) D E ((b8.up Q).rd.sub (M:=[4,5]) O) ((b9.up Q).rd.sub (M:=[4,5]) O))) fun dw dx Y dy=>Pb S O (nl ((ag) ⟨dw,dx,O,(Q.j dy).w,O,Y⟩))))
     ·exact psk 2 S O (Pb S O (nl ((ag) ⟨false,dv,O,Q,O,Y⟩)))
 ·refine Cw.exit ?_
  rw[cq]at Y
  refine sr (la au (sta (((((b1.up l7).up l10).up I).up J).up ar) (zaf V.oc (zaf X.oc zaW)) fun et am dz=>?_))
  have d0:=bz.t am
  refine nl ?_
  obtain⟨eu,d1,an,d2⟩:=(V.up am).dyeO 31
  have d3:=d0.t an
  obtain⟨ew,d4,ao,d5⟩:=((X.up am).up an).dyeO 32
  have d6:=d3.t ao
  cases Y
  rw[<- d4.trans (d1)]
  exact Cw.ret (zoh O ((dz.up an).up ao) (Res.mk d6 ⟨z,A,O,(d2.up ao).s,d5.s,(((bw.up am).up an).up ao)⟩))
theorem p102 {x0 f h k0 k1 c0 r}(hB0:Bx W c0 f [h,vI x0.p])(i:Rd W K [h] x0.b)(hJ:okJ K [c0]=true)(Y:Vm.ziM x0=some r):Q1 102 [ptr (bx f)] W [c0] fun W' v=> ∃ a d,v = .agg [a,d].toArray/\Ow W' k0 [] [a] r.1.Commits/\Ow W' k1 [] [d] r.1.Heads/\Bx W' c0 f [h,vI r.2]:=
 zaT.adJ (J:=[c0]) (fun c=>bif Nat.beq c 0 then 0 else bif Nat.beq c 2 then c0 else bif Nat.beq c 31 then k0 else bif Nat.beq c 32 then k1 else 0) (c102 (hB0.viewJ 0 hJ) (i.view _) Y) fun _ _ ⟨a,d,e,k,x,y⟩=>⟨a,d,e,k.one1.backN O,x.one1.backN O,Bx.backJ 0 y O⟩
theorem c38 {x0 a r}(A:Rd W0 [0] [a] x0)(Y:Vm.zfQ x0=some r):Q0 38 [a] W0 fun Wf v=> ∃ f h,v = .agg [f,h].toArray/\OwS Wf [31] [] [f] r.Commits/\OwS Wf [32] [] [h] r.Heads:=by
 unfold Vm.zfQ at Y
 refine zaT.of Tryz.func38 O O O O (sr (al 2 [.slice none 0 0, .slice none 0 0] fun V W B C=>?_))
 have i:=B.o
 refine nl (sr (mv a O (cr Y (fun _=>p75 (k0:=3) (A.ul i)) ?_)))
 rintro D _ X Y k ⟨Z,aa,rfl,E,F⟩
 have G:=F.sub (M:=[0]) O
 have H:=i.n k
 refine cr Y (fun _=>p102 (k0:=4) (k1:=5) (c0:=3) (x0:=D) E G O) ?_
 rintro ac _ ae Y x ⟨I,J,rfl,y,z,af⟩
 have K:=H.t x
 refine sta ((C.up k).up x) (zaf y.oc (zaf z.oc zaW)) fun ah b L=>?_
 have N:=K.t b
 refine nl ?_
 obtain⟨ai,P,d,Q⟩:=(y.up b).dyeO 31
 have R:=N.t d
 obtain⟨aj,S,e,T⟩:=((z.up b).up d).dyeO 32
 have U:=R.t e
 cases Y
 rw[<- S.trans (P)]
 exact Cw.ret (zoh O ((L.up d).up e) (Res.mk U ⟨I,J,O,(Q.up e).s,T.s⟩))
theorem p38 {x0 d k0 k1 r}(f:Rd W K [d] x0)(Y:Vm.zfQ x0=some r):Q1 38 [d] W [] fun W' v=> ∃ a b,v = .agg [a,b].toArray/\Ow W' k0 [] [a] r.Commits/\Ow W' k1 [] [b] r.Heads:=
 zaT.adJ (J:=[]) (fun c=>bif Nat.beq c 0 then 0 else bif Nat.beq c 31 then k0 else bif Nat.beq c 32 then k1 else 0) (c38 (f.view _) Y) fun _ _ ⟨a,b,e,h,i⟩=>⟨a,b,e,h.one1.backN O,i.one1.backN O⟩
theorem c105 {x0 G H r}(h0:Rd W0 [0] [G,H] x0)(Y:Vm.zjp x0=some r):Q0 105 [.agg [G,H].toArray] W0 fun Wf v=> ∃ W,v=W/\OwS Wf LL [] [W] r:=by
 unfold Vm.zjp at Y
 obtain⟨b5,b6,X,Z,aa⟩:=Repo.split h0
 simp only[List.cons.injEq,and_true,true_and]at X
 obtain⟨rfl,rfl⟩:=X
 refine zaT.of Tryz.func105 O O O O (sr (bo 2 O fun g1 W1 l1 b1=>?_))
 have a2:=l1.o
 refine Nv (.slice none 0 0) O (sr (fl b1 O (Lw.ln x0.Commits (Z.ul a2) O ?_)))
 obtain⟨q4,e5,Y⟩:=ob Y
 refine Lw.t O (T.mk (α:=Bool) 3 [] (n:=(x0.Commits.length:Int)) O O e5) ?_
 rintro b _ ⟨W6,rfl,l6,o6⟩
 have a7:=a2.n l6
 refine Nv b O (ssr (Ni O (Cw.block ?_)))
 obtain⟨a6,a8,Y⟩:=zc4 Y
 refine Cw.loop 13 39 [4,5,6] (fun m l w=> ∃ y d ai aj z,CW.w z=w/\Le [3] W6 z/\l=[vI y,ai,aj]/\Ow z 3 [] [b] d/\Vm.zer x0 a6 m y d=some r) _ ⟨0,q4,undef,undef,W6,O,Le.refl _ _,O,o6,Y⟩ ?_
 rintro(_ |b9) _ _ σ ⟨y,d,ai,aj,z,rfl,I,rfl,ak,Y⟩
 ·cases Y
 unfold Vm.zer at Y
 have J:=a7.t I
 have L:=(b1.up l6).up I
 refine ssr (mi O (fl L O (Lw.ln x0.Heads (aa.ul J) O (Lw.lt O (nl (cn Y (fun Y=>?_) fun Y=>?_))))))
 ·refine sk (Cw.seq (Cw.block (Cw.seq (Cw.draw [] [(0,1),(1,0),(2,1),(3,0),(4,0),(5,0),(6,1),(7,2),(8,0)] mixed (by kernel_rfl) fun cb h=>?_))))
  have am:=J.n h
  refine Mw.q O O (fun _ c=>R.lda (cs:=[G,H]) ((L.up h).clcs O c) O O) (Dfl (L.up h) O O O (Di O ?_))
  obtain⟨cc,M,Y⟩:=ob Y
  have A:=aa.ul am
  refine Mw.p O O (fun _=>R.ix (α:=Head) A M O O O) (Df O (Mw.q O O (fun _ c=>R.ld O O (zaD (Head.at1 (A.at_ M)).1 O (Head.at1 (A.at_ M)).int c)) (Dc Y (Le.refl _ _) (fun _=>p109 (k0:=4) (Repo.rd (K:=[0]) x0.Commits x0.Heads (Z.ul am) A)) O ?_)))
  rintro an B ao Y ap ⟨_,rfl,a9⟩ cd
  refine Hv B O (Mw.nil (sr (Ni O (Cw.block ?_))))
  obtain⟨ba,bb,Y⟩:=zc4 Y
  refine Cw.loop 28 39 [6] (fun m l w=> ∃ i C k,CW.w k=w/\Le [3] ao k/\l=[vI i]/\Ow k 3 [] [b] C/\Vm.zfR an ba m i C=some r) _ ⟨0,d,ao,O,Le.refl _ _,O,((ak.up h).up ap),Y⟩ ?_
  rintro(_ |ce) _ _ σ ⟨i,C,k,rfl,N,rfl,P,Y⟩
  ·cases Y
  unfold Vm.zfR at Y
  have Q:=a9.up N
  refine ssr (mi O (mv B O (Lw.ln an Q.rd O (Lw.lt O (nl (cn Y (fun Y=>?_) fun Y=>?_))))))
  ·refine sk (Cw.seq (Cw.block (rg (mv b O (mv B O (mi O ?_))))))
   obtain⟨cf,aq,Y⟩:=ob Y
   refine Lw.r O (R.ix (α:=Int) Q.rd aq O O O) (Lw.r O (R.ld O O (Q.rd.at_ aq).int) ?_)
   obtain⟨cg,bc,Y⟩:=ob Y
   refine Lw.r O (R.ix (α:=Bool) P.rd bc O O O) ?_
   obtain⟨be,bg,Y⟩:=ob Y
   refine Lw.u (T.stS (K':=[]) P (rdB _) bg O O O) ?_
   rintro _ _ ⟨bh,rfl,bi,bj⟩
   exact nl (rg (mi O (Lw.add O (Ni O ((agm) ⟨w64 (i+1),be,bh,O,(N.j bi).w,O,bj,Y⟩)))))
  ·refine Cw.exit ?_
   rw[bb]at Y
   exact rg (mi O (Lw.add O (Ni O ((agm) ⟨w64 (y+1),C,B,vI i,k,O,(((I.j h).j ap).j N).w,O,P,Y⟩))))
 ·refine Cw.exit ?_
  rw[a8]at Y
  refine sr (Lw.t O (T.lit0 (α:=Int) 5 []) ?_)
  rintro ar _ ⟨au,rfl,av,bk⟩
  have bl:=J.n av
  refine Nv ar O (ssr (Ni O (Cw.block ?_)))
  obtain⟨bm,bn,Y⟩:=zc4 Y
  refine Cw.loop 41 54 [7,8] (fun m l w=> ∃ D e a f,CW.w f=w/\Le [5] au f/\l=[a,vI e]/\Ow f 5 [] [a] D/\Vm.zdn d bm m D e=some r) _ ⟨([]:List Int),0,ar,au,O,Le.refl _ _,O,bk,Y⟩ ?_
  rintro(_ |ch) _ _ σ ⟨D,e,a,f,rfl,S,rfl,U,Y⟩
  ·cases Y
  unfold Vm.zdn at Y
  have bp:=bl.t S
  have V:=(ak.up av).up S
  refine ssr (mi O (mv b O (Lw.ln d V.rd O (Lw.lt O (nl (cn Y (fun Y=>?_) fun Y=>?_))))))
  ·refine sk ?_
   obtain⟨bq,br,Y⟩:=zc4 Y
   refine Cw.join 47 54 [7] (fun l w=> ∃ E F x,CW.w x=w/\Le [5] f x/\l=[F]/\Ow x 5 [] [F] E/\bq E=some r) ?_ ?_
   ·rintro _ _ σ ⟨E,F,x,rfl,bu,rfl,bv,Y⟩
    rw[br]at Y
    exact rg (mi O (Lw.add O (Ni O ((agm) ⟨E,w64 (e+1),F,x,O,(S.j bu).w,O,bv,Y⟩))))
   ·refine Cw.block (sr (mv b O (mi O ?_)))
    obtain⟨ci,aw,Y⟩:=ob Y
    refine Lw.r O (R.ix (α:=Bool) V.rd aw O O O) (Lw.r O (R.ld O O (V.rd.at_ aw).bool) (nl (cn Y (fun Y=>?_) fun Y=>?_)))
    ·refine rg (mv a O (mi O (Lw.t O (T.bs 6 [vI e] (cs:=[vI e]) O O (bsv O)) ?_)))
     rintro _ _ ⟨cj,ck,rfl,rfl,ax,bw⟩
     obtain⟨bz,b0,Y⟩:=ob Y
     refine Lw.t O (T.app1S (α:=Int) (K':=[]) (U.up ax) bw (rdI _) O O b0) ?_
     rintro ay _ ⟨b2,rfl,b3,b4⟩
     exact Nv ay O ((ag) ⟨bz,ay,b2,O,(ax.j b3).w,O,b4,Y⟩)
    ·exact sk ((ag) ⟨D,a,f,O,Le.refl _ _,O,U,Y⟩)
  ·refine Cw.exit ?_
   rw[bn]at Y
   refine sr (mv a O (Nv a O ?_))
   cases Y
   exact Cw.ret (zmk O (Res.mk bp ⟨a,O,U.s.sub O O⟩))
theorem p105 {x0 b d k0 r}(f:Rd W K [b,d] x0)(Y:Vm.zjp x0=some r):Q1 105 [.agg [b,d].toArray] W [] fun W' v=> ∃ a,v=a/\Ow W' k0 [] [a] r:=
 (c105 (f.view _) Y).ad (fk k0) fun _ _ ⟨a,e,h⟩=>⟨a,e,h.back (zlS _)⟩
theorem c40 {x0 x cf r}(h0:Rd W0 [0] [x,cf] x0)(Y:Vm.zhg x0=some r):Q0 40 [.agg [x,cf].toArray] W0 fun Wf v=> ∃ cg ch,v = .agg [cg,ch].toArray/\OwS Wf [31] [] [cg] r.Commits/\OwS Wf [32] [] [ch] r.Heads:=by
 unfold Vm.zhg at Y
 obtain⟨e6,e7,ci,ah,ai⟩:=Repo.split h0
 simp only[List.cons.injEq,and_true,true_and]at ci
 obtain⟨rfl,rfl⟩:=ci
 refine zaT.of Tryz.func40 O O O O (sr (bo 2 O fun g1 W1 l1 b1=>?_))
 have a2:=l1.o
 refine al 3 [.slice none 0 0, .slice none 0 0] fun g3 W3 l3 b3=>?_
 have a4:=a2.n l3
 refine nl (sr (Lw.r O (R.bd (zs:=[.slice none 0 0, .slice none 0 0]) (cs:=[.slice none 0 0, .slice none 0 0]) [] O O O zg2) (al 4 [.slice none 0 0, .slice none 0 0] fun g6 W6 l6 b6=>?_)))
 have a7:=a4.n l6
 refine sta b6 (zaf O (zaf O zaW)) fun fd l10 cl=>?_
 have a0:=a7.t l10
 have a1:=((b1.up l3).up l6).up l10
 refine nl (ssr (la a1 (ca Y (fun _=>p80 (Repo.rd (K:=[0]) x0.Commits x0.Heads (ah.ul a0) (ai.ul a0))) fun fe ff Y F=>?_)))
 have aj:=a0.n F
 have cm:=((b3.up l6).up l10).up F
 refine Lw.r O (R.not O) (nl (cn Y (fun Y=>?_) fun Y=>?_))
 ·refine sr (la (cl.up F) (sta cm (zaf O (zaf O zaW)) fun fg dj dk=>?_))
  have dl:=aj.t dj
  refine nl ?_
  cases Y
  exact Cw.ret (zoh O dk (Res.mk dl ⟨.slice none 0 0, .slice none 0 0,O,(zp1 []).sub O O,(zp1 []).sub O O⟩))
 ·refine sk (sr (la (a1.up F) (cr Y (fun _=>p105 (k0:=5) (Repo.rd (K:=[0]) x0.Commits x0.Heads (ah.ul aj) (ai.ul aj))) ?_)))
  rintro ak f co Y am ⟨_,rfl,dm⟩
  have dn:=aj.n am
  refine Nv f O (ssr (Ni O (Cw.block ?_)))
  obtain⟨dp,dq,Y⟩:=zc4 Y
  refine Cw.loop 16 54 [5,6,7] (fun m l w=> ∃ i an N cp cq ao P y,CW.w y=w/\Le [4,6,8,9,10] co y/\l=[vI i,cp,cq]/\Ow y 6 [] [ao] an/\Ow y 7 [] [P] N/\Bx y 4 g6 [ao,P]/\Vm.zdW x0 ak dp m i an N=some r) _ ⟨0,([]:List Commit),([]:List Head),undef,undef, .slice none 0 0, .slice none 0 0,co,O,Le.refl _ _,O,owN 6 [],owN 7 [],((cl.up F).up am),Y⟩ ?_
  rintro(_ |fh) _ _ σ ⟨i,an,N,cp,cq,ao,P,y,rfl,Q,rfl,ct,cu,cv,Y⟩
  ·cases Y
  unfold Vm.zdW at Y
  have cw:=dn.t Q
  have a3:=dm.up Q
  have a5:=((a1.up F).up am).up Q
  refine ssr (mi O (mv f O (Lw.ln ak a3.rd O (Lw.lt O (nl (cn Y (fun Y=>?_) fun Y=>?_))))))
  ·refine sk (Cw.seq (Cw.block (Cw.seq ?_)))
   obtain⟨G,cx,Y⟩:=ob Y
   obtain⟨b,cy,Y⟩:=ob Y
   obtain⟨a,dr,Y⟩:=ob Y
   refine Cw.par [[],[0],[],[],[2,3],[2,3,4],[0,1,2,3,4,5],[0,1,2,3,4,5,6],[0,1,2,3,4,5,6,7],[],[0,1,2,3,4,5,6,7,8,9]] [[],[0],[],[],[2,3],[4],[1,5],[6],[7],[],[8,9]] [[],[],[],[],[],[],[],[],[],[],[10]] [[0],[1],[2],[3],[4],[5],[6],[7],[8],[9],[8,9]] [[],[],[],[],[],[],[],[0],[8,9],[10],[10]] [0,1,2,3,4,5,6,7,8,10] [10] [fun vs W=>(vs 0)=ptr ((bx g1).add 0),fun vs W=>(vs 1)=x,fun vs W=>(vs 2)=f,fun vs W=>(vs 3)=vI i,fun vs W=>(vs 4)=ptr ((slA f).add ((i).toNat*Rp.sz (Int))),fun vs W=>(vs 5)=vI G,fun vs W=>(vs 6)=ptr ((slA x).add ((G).toNat*Rp.sz (Commit))),fun vs W=>(vs 7) = .agg [(zaV (vs 7) 0),vS b.Who,(zaV (vs 7) 2)].toArray/\Rd W [0] [(zaV (vs 7) 0)] b.Parents/\Rd W [0] [(zaV (vs 7) 2)] b.Tree,fun vs W=>(vs 8) = .agg [(zaV (vs 8) 0),vS a.Who,(zaV (vs 8) 2)].toArray/\Ow W 8 [] [(zaV (vs 8) 0)] a.Parents/\Ow W 9 [] [(zaV (vs 8) 2)] a.Tree,fun vs W=>(vs 9)=ptr (bx (pg (vs 9)))/\Bx W 10 (pg (vs 9)) [.slice none 0 0,vS ([]:Str), .slice none 0 0],fun vs W=>(vs 9)=ptr (bx (pg (vs 9)))/\Bx W 10 (pg (vs 9)) [(zaV (vs 8) 0),vS a.Who,(zaV (vs 8) 2)]] [] mixed (by kernel_rfl) O zrc.nil ?_
   intro fi B
   have cz:=cw.n B
   have a6:=a3.up B
   refine⟨(zc2.cons ?_ (zc2.cons ?_ (zc2.cons ?_ (zc2.cons ?_ (zc2.cons ?_ (zc2.cons ?_ (zc2.cons ?_ (zc2.cons ?_ (zc2.cons ?_ (zc2.cons ?_ (zc2.cons ?_ zc2.nil))))))))))),(zhD.cons SE (zhD.cons SE (zhD.cons SE (zhD.cons SE (zhD.cons SE (zhD.cons SE (zhD.cons SE (zhD.cons (fun vs vs' W W' _ hv l hd h=>by(show(vs' 7) = .agg [(zaV (vs' 7) 0),vS b.Who,(zaV (vs' 7) 2)].toArray/\Rd W' [0] [(zaV (vs' 7) 0)] b.Parents/\Rd W' [0] [(zaV (vs' 7) 2)] b.Tree);rw[hv 7 (zbB O)];exact⟨h.1,h.2.1.up l (zmi hd (K:=[0]) O),h.2.2.up l (zmi hd (K:=[0]) O)⟩) (zhD.cons (fun vs vs' W W' _ hv l hd h=>by(show(vs' 8) = .agg [(zaV (vs' 8) 0),vS a.Who,(zaV (vs' 8) 2)].toArray/\Ow W' 8 [] [(zaV (vs' 8) 0)] a.Parents/\Ow W' 9 [] [(zaV (vs' 8) 2)] a.Tree);rw[hv 8 (zbB O)];exact⟨h.1,h.2.1.upv l (zgn hd (c:=8) O),h.2.2.upv l (zgn hd (c:=9) O)⟩) (zhD.cons (fun vs vs' W W' _ hv l hd h=>by(show(vs' 9)=ptr (bx (pg (vs' 9)))/\Bx W' 10 (pg (vs' 9)) [.slice none 0 0,vS ([]:Str), .slice none 0 0]);rw[hv 9 (zbB O)];exact⟨h.1,h.2.up l (zgn hd (c:=10) O)⟩) (zhD.cons (fun vs vs' W W' _ hv l hd h=>by(show(vs' 9)=ptr (bx (pg (vs' 9)))/\Bx W' 10 (pg (vs' 9)) [(zaV (vs' 8) 0),vS a.Who,(zaV (vs' 8) 2)]);rw[hv 8 (zbB O),hv 9 (zbB O)];exact⟨h.1,h.2.up l (zgn hd (c:=10) O)⟩) zhD.nil))))))))))),?_⟩
   ·intro vs fj lW hN hV
    exact Trq (R.fa O) O
   ·intro vs fm lW hN hV
    have a8:vs 0=ptr ((bx g1).add 0):=(hN 0 (zbB O))
    obtain⟨vs,rfl⟩:=za1 a8
    exact Trq (R.ld (v:=x) O O (((a5.up B).up lW O).cell O)) O
   ·intro vs fn lW hN hV
    exact Trq (R.mv (v:=f) O) O
   ·intro vs fo lW hN hV
    exact Trq (R.mv (v:=vI i) O) O
   ·intro vs fp lW hN hV
    have a9:vs 2=f:=(hN 2 (zbB O))
    obtain⟨vs,rfl⟩:=za1 a9
    have ba:vs 3=vI i:=(hN 3 (zbB O))
    obtain⟨vs,rfl⟩:=za1 ba
    exact Trq (R.ix (α:=Int) (a6.up lW O).rd cx O O O) O
   ·intro vs fq lW hN hV
    have bb:vs 4=ptr ((slA f).add ((i).toNat*Rp.sz (Int))):=(hN 4 (zbB O))
    obtain⟨vs,rfl⟩:=za1 bb
    exact Trq (R.ld O O ((a6.up lW O).rd.at_ cx).int) O
   ·intro vs fr lW hN hV
    have ds:=cz.t lW O
    have bc:vs 1=x:=(hN 1 (zbB O))
    obtain⟨vs,rfl⟩:=za1 bc
    have be:vs 5=vI G:=(hN 5 (zbB O))
    obtain⟨vs,rfl⟩:=za1 be
    exact Trq (R.ix (α:=Commit) (ah.ul ds) cy O O O) O
   ·intro vs c0 lW hN hV
    have dt:=cz.t lW O
    have bg:vs 6=ptr ((slA x).add ((G).toNat*Rp.sz (Commit))):=(hN 6 (zbB O))
    obtain⟨vs,rfl⟩:=za1 bg
    obtain⟨x179,c180,_,r181⟩:=((ah.ul dt).at_ cy).cells
    obtain⟨bh,bi,rfl,r183,r185⟩:=Commit.split r181
    exact Trq (R.lda c180 O O) (show(.agg [bh,vS b.Who,bi].toArray:Value) = .agg [bh,vS b.Who,bi].toArray/\Rd c0 [0] [bh] b.Parents/\Rd c0 [0] [bi] b.Tree from⟨O,r183,r185⟩)
   ·intro vs c1 lW hN hV
    obtain⟨C,D,bj⟩: ∃ C D:Value,vs 7 = .agg [C,vS b.Who,D].toArray:=⟨_,_,(hN 7 (zbB O)).1⟩
    obtain⟨vs,rfl⟩:=za1 bj
    have du:Rd c1 [0] [C] b.Parents:=(hN 7 (zbB O)).2.1
    have dv:Rd c1 [0] [D] b.Tree:=(hN 7 (zbB O)).2.2
    refine Tr.mono (T.call O (p106 (k0:=8) (k1:=9) (Commit.rd (K:=[0]) b.Parents b.Who b.Tree du dv) dr)) ?_
    rintro _ _ ⟨bk,rfl,dw,⟨bl,bm,rfl,dx,dy⟩⟩
    exact⟨bk,O,dw,(show(.agg [bl,vS a.Who,bm].toArray:Value) = .agg [bl,vS a.Who,bm].toArray/\Ow bk 8 [] [bl] a.Parents/\Ow bk 9 [] [bm] a.Tree from⟨O,dx,dy⟩)⟩
   ·intro vs fs lW hN hV
    refine Tr.mono (T.alloc 10 (cs:=[.slice none 0 0,vS ([]:Str), .slice none 0 0]) O) ?_
    rintro _ _ ⟨bn,c2,rfl,rfl,dz,d0⟩
    exact⟨c2,O,dz,(show(ptr (bx bn):Value)=ptr (bx bn)/\Bx c2 10 bn [.slice none 0 0,vS ([]:Str), .slice none 0 0] from⟨O,d0⟩)⟩
   ·intro vs bp lW hN hV
    obtain⟨d,e,bq⟩: ∃ d e:Value,vs 8 = .agg [d,vS a.Who,e].toArray:=⟨_,_,(hN 8 (zbB O)).1⟩
    obtain⟨vs,rfl⟩:=za1 bq
    have d1:Ow bp 8 [] [d] a.Parents:=(hN 8 (zbB O)).2.1
    have d2:Ow bp 9 [] [e] a.Tree:=(hN 8 (zbB O)).2.2
    obtain⟨k,br⟩: ∃ k,vs 9=ptr (bx k):=⟨_,((hN 9 (zbB O))).1⟩
    obtain⟨vs,rfl⟩:=za1 br
    have d3:Bx bp 10 k [.slice none 0 0,vS ([]:Str), .slice none 0 0]:=(hN 9 (zbB O)).2
    refine Tr.mono (T.sta (vs:=[d,vS a.Who,e]) d3 O O (zaf d1.oc (zaf O (zaf d2.oc zaW))) O O) ?_
    rintro _ _ ⟨c3,rfl,d4,d5⟩
    exact⟨c3,O,d4,(show(ptr (bx k))=ptr (bx k)/\Bx c3 10 k [d,vS a.Who,e] from⟨O,d5⟩)⟩
   ·intro vs E S hN
    have a8:vs 0=ptr ((bx g1).add 0):=(hN 0 (zbB O))
    obtain⟨vs,rfl⟩:=za1 a8
    have bc:vs 1=x:=(hN 1 (zbB O))
    obtain⟨vs,rfl⟩:=za1 bc
    have a9:vs 2=f:=(hN 2 (zbB O))
    obtain⟨vs,rfl⟩:=za1 a9
    have ba:vs 3=vI i:=(hN 3 (zbB O))
    obtain⟨vs,rfl⟩:=za1 ba
    have bb:vs 4=ptr ((slA f).add ((i).toNat*Rp.sz (Int))):=(hN 4 (zbB O))
    obtain⟨vs,rfl⟩:=za1 bb
    have be:vs 5=vI G:=(hN 5 (zbB O))
    obtain⟨vs,rfl⟩:=za1 be
    have bg:vs 6=ptr ((slA x).add ((G).toNat*Rp.sz (Commit))):=(hN 6 (zbB O))
    obtain⟨vs,rfl⟩:=za1 bg
    obtain⟨C,D,bj⟩: ∃ C D:Value,vs 7 = .agg [C,vS b.Who,D].toArray:=⟨_,_,(hN 7 (zbB O)).1⟩
    obtain⟨vs,rfl⟩:=za1 bj
    have ft:Rd E [0] [C] b.Parents:=(hN 7 (zbB O)).2.1
    have fu:Rd E [0] [D] b.Tree:=(hN 7 (zbB O)).2.2
    obtain⟨d,e,bq⟩: ∃ d e:Value,vs 8 = .agg [d,vS a.Who,e].toArray:=⟨_,_,(hN 8 (zbB O)).1⟩
    obtain⟨vs,rfl⟩:=za1 bq
    have d6:Ow E 8 [] [d] a.Parents:=(hN 8 (zbB O)).2.1
    have d7:Ow E 9 [] [e] a.Tree:=(hN 8 (zbB O)).2.2
    obtain⟨k,br⟩: ∃ k,vs 9=ptr (bx k):=⟨_,(hN 10 (zbB O)).1⟩
    obtain⟨vs,rfl⟩:=za1 br
    have d8:Bx E 10 k [d,vS a.Who,e]:=(hN 10 (zbB O)).2
    refine ssr (Ni O (Cw.block ?_))
    obtain⟨d9,ea,Y⟩:=zc4 Y
    refine Cw.loop 31 48 [7] (fun m l w=> ∃ U V ap,CW.w ap=w/\Le [8] E ap/\l=[vI U]/\Ow ap 8 [] [d] V/\Vm.ze6 ak d9 m U V=some r) _ ⟨0,a.Parents,E,O,Le.refl _ _,O,d6,Y⟩ ?_
    rintro(_ |fv) _ _ σ ⟨U,V,ap,rfl,z,rfl,bu,Y⟩
    ·cases Y
    unfold Vm.ze6 at Y
    have c4:=((cv.up B).up S).up z
    have aq:=d8.up z
    refine ssr (mi O (fl aq O (Lw.ln V bu.rd O (Lw.lt O (nl (cn Y (fun Y=>?_) fun Y=>?_))))))
    ·refine sk (Cw.seq (Cw.block (Cw.draw [] [(0,0),(1,1),(2,0),(3,0),(4,0),(5,1),(6,0),(7,0),(8,1),(9,2),(10,0),(11,3)] mixed (by kernel_rfl) fun fw X=>?_)))
     have Z:=bu.up X
     refine Dfl (aq.up X) O O O (Di O (Dv f O (Dfl (aq.up X) O O O (Di O ?_))))
     obtain⟨fx,bv,Y⟩:=ob Y
     refine Mw.p O O (fun _=>R.ix (α:=Int) Z.rd bv O O O) (Mw.q O O (fun _ c=>R.ld O O (zaD (Z.rd.at_ bv).1 O (Z.rd.at_ bv).int c)) (Dc Y (Le.refl _ _) (fun _=>p107 (K:=[5]) (((a6.up S).up z).up X).rd) O ?_))
     rintro fy _ fz Y c5 rfl f0
     obtain⟨f1,eb,Y⟩:=ob Y
     refine Mw.p O O (fun _=>R.ix (α:=Int) Z.rd eb O O O) ?_
     obtain⟨ec,ed,Y⟩:=ob Y
     refine Mw.lu O (T.stS (K':=[]) (Z.up c5) (rdI _) ed O O O) ?_
     rintro _ _ ⟨ee,rfl,ef,eg⟩
     exact Mw.nil (rg (mi O (Lw.add O (Ni O ((agm) ⟨w64 (U+1),ec,ee,O,(((z.j X).j c5).j ef).w,O,eg,Y⟩)))))
    ·refine Cw.exit ?_
     rw[ea]at Y
     refine rg (fl c4 O (la aq (Lw.t O (T.bs 11 [.agg [d,vS a.Who,e].toArray] (cs:=[d,vS a.Who,e]) O O (bsA O)) ?_)))
     rintro _ _ ⟨f2,f3,rfl,rfl,H,eh⟩
     obtain⟨ei,ej,Y⟩:=ob Y
     refine Lw.t O (T.app1 (α:=Commit) (J:=[8,9]) (K':=[]) ((((ct.up B).up S).up z).up H) eh (Commit.own V a.Who a.Tree (bu.up H).s ((d7.up z).up H).s) O O ej) ?_
     rintro c6 _ ⟨f4,rfl,bw,c7⟩
     refine Lw.fa O (Lw.u (T.st (j:=0) (v:=c6) ((c4.up H).up bw) O O c7.oc O O) ?_)
     rintro _ _ ⟨ek,rfl,bz,el⟩
     exact nl (rg (mi O (Lw.add O (Ni O ((agm) ⟨w64 (i+1),ei,N,ptr (bx k),vI U,c6,P,ek,O,((((((Q.j B).j S).j z).j H).j bw).j bz).w,O,(c7.up bz),((((((cu.up B).up S).up z).up H).up bw).up bz),el,Y⟩)))))
  ·refine Cw.exit ?_
   rw[dq]at Y
   refine ssr (Ni O (Cw.block ?_))
   obtain⟨em,en,Y⟩:=zc4 Y
   refine Cw.loop 55 81 [8] (fun m l w=> ∃ ar au b0 aa av I,CW.w I=w/\Le [4,7] y I/\l=[vI ar]/\Ow I 6 [] [aa] au/\Ow I 7 [] [av] b0/\Bx I 4 g6 [aa,av]/\Vm.zb0 x0 ak em m ar au b0=some r) _ ⟨0,an,N,ao,P,y,O,Le.refl _ _,O,ct,cu,cv,Y⟩ ?_
   rintro(_ |f5) _ _ σ ⟨ar,au,b0,aa,av,I,rfl,L,rfl,b2,b4,b5,Y⟩
   ·cases Y
   unfold Vm.zb0 at Y
   have b7:=cw.t L
   refine ssr (mi O (fl (a5.up L) O (Lw.ln x0.Heads (ai.ul b7) O (Lw.lt O (nl (cn Y (fun Y=>?_) fun Y=>?_))))))
   ·refine sk (Cw.seq (Cw.block (Cw.draw [7] [(0,0),(1,1),(2,0),(3,1),(4,0),(5,0),(6,0),(7,1),(8,0),(9,0),(10,1),(11,0),(12,0),(13,0),(14,1),(15,2),(16,0),(17,2),(18,2),(19,0),(20,3)] mixed (by kernel_rfl) fun f6 A=>?_)))
    have eo:=b7.n A
    have c8:=(a5.up L).up A
    refine Dfl (b5.up A) O O O (Dfl c8 O O O (Di O ?_))
    obtain⟨ac,b8,Y⟩:=ob Y
    have M:=ai.ul eo
    refine Mw.p O O (fun _=>R.ix (α:=Head) M b8 O O O) (Df O (Mw.q O O (fun _ c=>R.ld O O (zaD (Head.at0 (M.at_ b8)).1 O (Head.at0 (M.at_ b8)).str c)) (Dv f O (Dfl c8 O O O (Di O ?_)))))
    obtain⟨f7,b9,Y⟩:=ob Y
    refine Mw.p O O (fun _=>R.ix (α:=Head) M b9 O O O) (Df O (Mw.q O O (fun _ c=>R.ld O O (zaD (Head.at1 (M.at_ b9)).1 O (Head.at1 (M.at_ b9)).int c)) (Dc Y (Le.refl _ _) (fun _=>p107 (K:=[5]) ((a3.up L).up A).rd) O ?_)))
    rintro ae _ f8 Y aw rfl ep
    refine Mw.p O O (fun _=>R.bd (zs:=[vS ([]:Str),vI 0]) (cs:=[vS ac.Name,vI ae]) [(0,vS ac.Name),(1,vI ae)] O O O (zcK O O (zcK O O zg2))) (Mw.t O O (T.bs 12 [.agg [vS ac.Name,vI ae].toArray] (cs:=[vS ac.Name,vI ae]) O O (bsA O)) ?_)
    rintro _ _ ⟨f9,ga,rfl,rfl,af,er⟩
    refine mc ep af fun es=>?_
    obtain⟨et,eu,Y⟩:=ob Y
    refine Mw.t O O (T.app1S (α:=Head) (K':=[]) (((b4.up A).up aw).up af) er (Head.rd (K:=[]) ac.Name ae) O O eu) ?_
    rintro c9 _ ⟨gb,rfl,ax,da⟩
    refine mc es ax fun gc=>Df O (Mw.lu O (T.st (j:=1) (v:=c9) ((((b5.up A).up aw).up af).up ax) O O da.oc O O) ?_)
    rintro _ _ ⟨ew,rfl,cb,ex⟩
    exact Mw.nil (rg (mi O (Lw.add O (Ni O ((agm) ⟨w64 (ar+1),au,et,aa,c9,ew,O,(((((L.j A).j aw).j af).j ax).j cb).w,O,(((((b2.up A).up aw).up af).up ax).up cb),(da.up cb),ex,Y⟩)))))
   ·refine Cw.exit ?_
    rw[en]at Y
    refine sr (la b5 (sta (((cm.up am).up Q).up L) (zaf b2.oc (zaf b4.oc zaW)) fun gd cc ey=>?_))
    have ez:=b7.t cc
    refine nl ?_
    obtain⟨gf,e0,cd,e1⟩:=(b2.up cc).dyeO 31
    have e2:=ez.t cd
    obtain⟨gg,e3,ce,e4⟩:=((b4.up cc).up cd).dyeO 32
    have e5:=e2.t ce
    cases Y
    rw[<- e3.trans (e0)]
    exact Cw.ret (zoh O ((ey.up cd).up ce) (Res.mk e5 ⟨aa,av,O,(e1.up ce).s,e4.s⟩))
theorem p40 {x0 d f k0 k1 r}(h:Rd W K [d,f] x0)(Y:Vm.zhg x0=some r):Q1 40 [.agg [d,f].toArray] W [] fun W' v=> ∃ a b,v = .agg [a,b].toArray/\Ow W' k0 [] [a] r.Commits/\Ow W' k1 [] [b] r.Heads:=
 zaT.adJ (J:=[]) (fun c=>bif Nat.beq c 0 then 0 else bif Nat.beq c 31 then k0 else bif Nat.beq c 32 then k1 else 0) (c40 (h.view _) Y) fun _ _ ⟨a,b,e,i,k⟩=>⟨a,b,e,i.one1.backN O,k.one1.backN O⟩
end Go.Sx
