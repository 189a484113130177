/- Walks: each function answers as its model, printed by a program of ours. Conditions: the arguments read as they are given. -/
import Derived.Test.YtjokjcdckcpijaaGreatDoorXATs
import Derived.Test.YtjokjcdckcpijaaGreatDoorXAM0
import Derived.Test.YtjokjcdckcpijaaGreatDoorXAW0
import Derived.Test.YtjokjcdckcpijaaGreatDoorXAW1
namespace Go.Sx
open Go Go.Proofs Go.Vm Rp
set_option linter.unusedVariables false
set_option linter.unusedSimpArgs false
variable {W W0:CW}{K:List Nat}
theorem c77 {x0 y a9 x1 x2 r}(h0:Rd W0 [0] [y,a9] x0)(Y:Vm.zdA x0 x1 x2=some r):Q0 77 [.agg [y,a9].toArray,vS x1,vI x2] W0 fun Wf v=> ∃ ba bb,v = .agg [ba,bb].toArray/\Rd Wf [0] [ba] r.Commits/\Rd Wf [0] [bb] r.Heads:=by
 unfold Vm.zdA at Y
 obtain⟨du,dv,bc,an,I⟩:=Repo.split h0
 simp only[List.cons.injEq,and_true,true_and]at bc
 obtain⟨rfl,rfl⟩:=bc
 refine zap.of Tryz.func77 O O O O (sr (bo 2 O fun g1 W1 l1 b1=>?_))
 have a2:=l1.o
 refine al 3 [.slice none 0 0, .slice none 0 0] fun g3 W3 l3 b3=>?_
 have a4:=a2.n l3
 refine nl (sr (fl (b1.up l3) O (Lw.r O (R.bd (zs:=[.slice none 0 0, .slice none 0 0]) (cs:=[y, .slice none 0 0]) [(0,y)] O O O (zaD an.oc O zcU)) (al 4 [.slice none 0 0, .slice none 0 0] fun J W6 l6 b6=>?_))))
 have a7:=a4.n l6
 refine sta b6 (zaa an.oc (zaa O zaw)) fun bg l10 cf=>?_
 have bh:=a7.t l10
 refine nl (sr (Nb O (ssr (Ni O (Cw.block ?_)))))
 obtain⟨cg,ch,Y⟩:=za1 Y
 refine Cw.loop 13 57 [8,9] (fun m l w=> ∃ L N b z d A a,CW.w a=w/\Le [4,5] bg a/\l=[vB L,vI N]/\Rd a [0] [d] b/\Ow a 5 [] [A] z/\Bx a 4 J [d,A]/\Vm.zbV x0 x1 x2 cg m L N b z=some r) _ ⟨false,0,x0.Commits,([]:List Head),y, .slice none 0 0,bg,O,Le.refl _ _,O,(an.ul bh),owN 5 [],cf,Y⟩ ?_
 rintro(_ |d1) _ _ σ ⟨L,N,b,z,d,A,a,rfl,P,rfl,r18,Q,S,Y⟩
 ·cases Y
 unfold Vm.zbV at Y
 have aq:=bh.t P
 have U:=(((b1.up l3).up l6).up l10).up P
 refine ssr ?_
 have ar:=I.ul aq
 refine mi O (fl U O (Lw.ln x0.Heads ar O (Lw.lt O (nl (cn Y (fun Y=>?_) fun Y=>?_)))))
 ·refine sk ?_
  obtain⟨ci,cj,Y⟩:=za1 Y
  refine Cw.join 20 57 [8] (fun l w=> ∃ V W X Z aa e,CW.w e=w/\Le [4,5] a e/\l=[vB V]/\Rd e [0] [Z] W/\Ow e 5 [] [aa] X/\Bx e 4 J [Z,aa]/\ci V W X=some r) ?_ ?_
  ·rintro _ _ σ ⟨V,W,X,Z,aa,e,rfl,ck,rfl,r35,cl,cm,Y⟩
   rw[cj]at Y
   exact rg (mi O (Lw.add O (Ni O ((agm) ⟨V,w64 (N+1),W,X,Z,aa,e,O,(P.j ck).w,O,r35,cl,cm,Y⟩))))
  ·refine Cw.block ?_
   obtain⟨co,cp,Y⟩:=za1 Y
   refine Cw.join 20 39 [8] (fun l w=> ∃ B C ac D ae f,CW.w f=w/\Le [4,5] a f/\l=[vB B]/\Rd f [0] [D] C/\Ow f 5 [] [ae] ac/\Bx f 4 J [D,ae]/\co B C ac=some r) ?_ ?_
   ·rintro _ _ σ ⟨B,C,ac,D,ae,f,rfl,E,rfl,r48,bi,au,Y⟩
    rw[cp]at Y
    have av:=aq.t E
    refine sr (fl (U.up E) O (mi O ?_))
    obtain⟨d2,bj,Y⟩:=ob Y
    refine Lw.r O (R.ix (α:=Head) (I.ul av) bj O O O) (Lw.fa O (Lw.r O (R.ld O O (Head.at0 ((I.ul av).at_ bj)).str) (ms O (Lw.sne O (nl (cn Y (fun Y=>?_) fun Y=>?_))))))
    ·refine Cw.draw [5] [(0,0),(1,1),(2,0),(3,1),(4,0),(5,0),(6,1),(7,2),(8,2),(9,0),(10,3)] mixed (by kernel_rfl) fun d3 h=>?_
     have bk:=h.o
     refine Dfl (au.up h) O O O (Dfl ((U.up E).up h) O O O (Di O ?_))
     obtain⟨i,aw,Y⟩:=ob Y
     have ax:=I.ul (av.trans bk)
     refine Mw.p O O (fun _=>R.ix (α:=Head) ax aw O O O) ?_
     obtain⟨x71,c72,_,r73⟩:=(ax.at_ aw).cells
     obtain rfl:=Head.split r73
     refine Mw.q O O (fun _ c=>R.lda (zoR (ax.at_ aw).1 O c72 c) O O) (Mw.t O O (T.bs 6 [.agg [vS i.Name,vI i.At].toArray] (cs:=[vS i.Name,vI i.At]) O O (bsA O)) ?_)
     rintro _ _ ⟨d4,d5,rfl,rfl,F,cq⟩
     have ct:=bk.n F
     refine m0 F fun cu=>?_
     obtain⟨cv,cw,Y⟩:=ob Y
     refine Mw.t O O (T.app1S (α:=Head) (K':=[]) ((bi.up h).up F) cq (Head.rd (K:=[]) i.Name i.At) O O cw) ?_
     rintro bl _ ⟨d6,rfl,af,bm⟩
     have cx:=ct.t af
     refine mc cu af fun d7=>Df O (Mw.lu O (T.st (j:=1) (v:=bl) (((au.up h).up F).up af) O O bm.oc O O) ?_)
     rintro _ _ ⟨cy,rfl,ay,cz⟩
     have c0:=cx.t ay
     exact Mw.nil ((ag) ⟨B,C,cv,D,bl,cy,O,((((E.j h).j F).j af).j ay).w,O,(r48.ul c0),(bm.up ay),cz,Y⟩)
    ·exact sk ((ag) ⟨B,C,ac,D,ae,f,O,E,O,r48,bi,au,Y⟩)
   ·obtain⟨c1,c2,Y⟩:=za1 Y
    refine Cw.join 20 31 [31] (fun l w=> ∃ az ah,CW.w ah=w/\Le [] a ah/\l=[vB az]/\c1 az=some r) ?_ ?_
    ·rintro _ _ σ ⟨az,ah,rfl,k,rfl,Y⟩
     rw[c2]at Y
     have bn:=k.o
     have a0:=S.up k
     refine cn Y (fun Y=>?_) fun Y=>?_
     ·refine sr (fl a0 O (ms O (mi O (Lw.r O (R.bd (zs:=[vS ([]:Str),vI 0]) (cs:=[vS x1,vI x2]) [(0,vS x1),(1,vI x2)] O O O (zaD O O (zaD O O zcU))) (Lw.t O (T.bs 7 [.agg [vS x1,vI x2].toArray] (cs:=[vS x1,vI x2]) O O (bsA O)) ?_)))))
      rintro _ _ ⟨d8,d9,rfl,rfl,ai,c3⟩
      have c4:=bn.n ai
      obtain⟨c5,c6,Y⟩:=ob Y
      refine Lw.t O (T.app1S (α:=Head) (K':=[]) ((Q.up k).up ai) c3 (Head.rd (K:=[]) x1 x2) O O c6) ?_
      rintro bp _ ⟨ea,rfl,a1,bq⟩
      have c7:=c4.t a1
      refine Lw.fa O (Lw.u (T.st (j:=1) (v:=bp) ((a0.up ai).up a1) O O bq.oc O O) ?_)
      rintro _ _ ⟨c8,rfl,a3,c9⟩
      have da:=c7.t a3
      exact nl (rg (Nb O ((ag) ⟨true,b,c5,d,bp,c8,O,(((k.j ai).j a1).j a3).w,O,(r18.ul da),(bq.up a3),c9,Y⟩)))
     ·exact sk ((ag) ⟨L,b,z,d,A,ah,O,k.w,O,(r18.ul bn),(Q.up k),a0,Y⟩)
    ·refine rg (mb O (Lw.r O (R.not O) (mb O (bs Y (fun G Y=>?_) fun G Y=>?_))))
     ·refine wak 8 G (fl U O (mi O ?_))
      obtain⟨db,br,Y⟩:=ob Y
      exact Lw.r O (R.ix (α:=Head) ar br O O O) (Lw.fa O (Lw.r O (R.ld O O (Head.at0 (ar.at_ br)).str) (ms O (Lw.r O (R.sge O O) (Pb G O (nl ((ag) ⟨(!Op.bytesLess db.Name x1),a,O,Le.refl _ _,O,Y⟩)))))))
     ·exact psk 8 G O (Pb G O (nl ((ag) ⟨false,a,O,Le.refl _ _,O,Y⟩)))
 ·refine Cw.exit ?_
  rw[ch]at Y
  obtain⟨dc,dd,Y⟩:=za1 Y
  refine Cw.join 58 67 [] (fun l w=> ∃ a5 aj ak H x,CW.w x=w/\Le [4,5] a x/\l=[]/\Rd x [0] [ak] a5/\Ow x 5 [] [H] aj/\Bx x 4 J [ak,H]/\dc a5 aj=some r) ?_ ?_
  ·rintro _ _ σ ⟨a5,aj,ak,H,x,rfl,bu,rfl,r131,bv,de,Y⟩
   rw[dd]at Y
   have df:=aq.t bu
   refine sr (la de (sta ((((b3.up l6).up l10).up P).up bu) (zaa r131.oc (zaa bv.oc zaw)) fun eb bw dg=>?_))
   have bz:=bw.s
   refine nl ?_
   obtain⟨dh,di,b0,dj⟩:=zgV _ 5
   have dk:Rd (α:=List Vm.Head) dh [0] [H] aj:=by rw[dj];exact((bv.up bw).rd.dye 5).sub (M:=[0]) O
   have b2:=b0.s
   cases Y
   rw[<- di]
   exact Cw.ret (zkj O (dg.up b0) (Res.mk ((df.trans bz).trans b2) ⟨ak,H,O,(r131.ul (bz.trans b2)),dk⟩))
  ·refine sr (mb O (Lw.r O (R.not O) (nl (cn Y (fun Y=>?_) fun Y=>?_))))
   ·refine rg (fl S O (ms O (mi O (Lw.r O (R.bd (zs:=[vS ([]:Str),vI 0]) (cs:=[vS x1,vI x2]) [(0,vS x1),(1,vI x2)] O O O (zaD O O (zaD O O zcU))) (Lw.t O (T.bs 8 [.agg [vS x1,vI x2].toArray] (cs:=[vS x1,vI x2]) O O (bsA O)) ?_)))))
    rintro _ _ ⟨ec,ed,rfl,rfl,am,dl⟩
    have dm:=am.o
    obtain⟨dn,dp,Y⟩:=ob Y
    refine Lw.t O (T.app1S (α:=Head) (K':=[]) (Q.up am) dl (Head.rd (K:=[]) x1 x2) O O dp) ?_
    rintro b4 _ ⟨ee,rfl,a6,b5⟩
    have dq:=dm.t a6
    refine Lw.fa O (Lw.u (T.st (j:=1) (v:=b4) ((S.up am).up a6) O O b5.oc O O) ?_)
    rintro _ _ ⟨dr,rfl,a8,ds⟩
    have dt:=dq.t a8
    exact nl ((ag) ⟨b,dn,d,b4,dr,O,((am.j a6).j a8).w,O,(r18.ul dt),(b5.up a8),ds,Y⟩)
   ·exact sk ((ag) ⟨b,z,d,A,a,O,Le.refl _ _,O,r18,Q,S,Y⟩)
theorem p77 {x0 d f x1 x2 r}(h:Rd W K [d,f] x0)(Y:Vm.zdA x0 x1 x2=some r):Q1 77 [.agg [d,f].toArray,vS x1,vI x2] W [] fun W' v=> ∃ a b,v = .agg [a,b].toArray/\Rd W' (0::K) [a] r.Commits/\Rd W' (0::K) [b] r.Heads:=
 (c77 (h.view _) Y).ad (fk 0) fun _ _ ⟨a,b,e,i,k⟩=>⟨a,b,e,i.back O,k.back O⟩
theorem c85 {x0 x a x1 x2 d e r}(h0:Rd W0 [0] [x,a] x0)(h2:Rd W0 [0] [d,vS x2.Who,e] x2)(Y:Vm.zcN x0 x1 x2=some r):Q0 85 [.agg [x,a].toArray,vS x1, .agg [d,vS x2.Who,e].toArray] W0 fun Wf v=> ∃ ah ai,v = .agg [ah,ai].toArray/\Rd Wf [0] [ah] r.Commits/\Rd Wf [0] [ai] r.Heads:=by
 unfold Vm.zcN at Y
 obtain⟨c9,da,aj,ak,E⟩:=Repo.split h0
 simp only[List.cons.injEq,and_true,true_and]at aj
 obtain⟨rfl,rfl⟩:=aj
 obtain⟨db,dc,am,bc,be⟩:=Commit.split h2
 simp only[List.cons.injEq,and_true,true_and]at am
 obtain⟨rfl,rfl⟩:=am
 refine zap.of Tryz.func85 O O O O (sr (bo 2 O fun y W1 l1 b1=>?_))
 have a2:=l1.o
 refine bo 3 O fun g3 W3 l3 b3=>?_
 have a4:=a2.n l3
 refine al 4 [.slice none 0 0, .slice none 0 0] fun g6 W6 F b6=>?_
 have a7:=a4.n F
 refine nl (Cw.seq ?_)
 obtain⟨A,bn,Y⟩:=ob Y
 obtain⟨f,bp,Y⟩:=ob Y
 refine Cw.par [[],[],[1],[0,1,2],[],[4],[0,1,2,3,4,5],[],[7],[0,1,2,3,4,5,6,7,8],[],[0,1,2,3,4,5,6,7,8,9,10]] [[],[],[1],[0,2],[],[4],[3,5],[],[7],[6,8],[],[6,9,10]] [[],[],[],[5],[],[],[5],[],[],[],[],[7]] [[0],[1],[2],[3],[4],[5],[6],[7],[8],[6,9],[10],[6,10]] [[5],[],[],[0,5],[],[6],[0,5],[],[],[],[7],[7]] [1,2,4,5,6,7,8,9,11] [5,7] [fun vs W=>Ow W 5 [] [(vs 0)] ([]:List Commit),fun vs W=>(vs 1)=ptr ((bx y).add 0),fun vs W=>(vs 2)=x,fun vs W=>Ow (α:=List (Sh Vm.Commit)) W 5 [0] [(vs 3)] A,fun vs W=>(vs 4) = .agg [d,vS x2.Who,e].toArray,fun vs W=>(vs 5) = .slice (some (bx (pg (vs 5)))) 1 1/\Bx W 6 (pg (vs 5)) [d,vS x2.Who,e],fun vs W=>Ow (α:=List (Sh Vm.Commit)) W 5 [0] [(vs 6)] f,fun vs W=>(vs 7)=ptr ((bx y).add 1),fun vs W=>(vs 8)=a,fun vs W=>(vs 9) = .agg [(vs 6),a].toArray,fun vs W=>(vs 10)=ptr (bx (pg (vs 10)))/\Bx W 7 (pg (vs 10)) [.slice none 0 0, .slice none 0 0],fun vs W=>(vs 10)=ptr (bx (pg (vs 10)))/\Bx W 7 (pg (vs 10)) [(vs 6),a]] [] mixed (by kernel_rfl) O zoZ.nil ?_
 intro di B
 have G:=a7.n B
 have H:=((b1.up l3).up F).up B
 refine⟨(zdc.cons ?_ (zdc.cons ?_ (zdc.cons ?_ (zdc.cons ?_ (zdc.cons ?_ (zdc.cons ?_ (zdc.cons ?_ (zdc.cons ?_ (zdc.cons ?_ (zdc.cons ?_ (zdc.cons ?_ (zdc.cons ?_ zdc.nil)))))))))))),(zgf.cons SO (zgf.cons SE (zgf.cons SE (zgf.cons (fun vs vs' W W' _ hv l hd h=>by(show Ow (α:=List (Sh Vm.Commit)) W' 5 [0] [(vs' 3)] A);rw[hv 3 (zcr O)];exact h.up l (zhr hd (K:=[5,0]) O)) (zgf.cons SE (zgf.cons (fun vs vs' W W' _ hv l hd h=>by(show(vs' 5) = .slice (some (bx (pg (vs' 5)))) 1 1/\Bx W' 6 (pg (vs' 5)) [d,vS x2.Who,e]);rw[hv 5 (zcr O)];exact⟨h.1,h.2.up l (zf9 hd (c:=6) O)⟩) (zgf.cons (fun vs vs' W W' _ hv l hd h=>by(show Ow (α:=List (Sh Vm.Commit)) W' 5 [0] [(vs' 6)] f);rw[hv 6 (zcr O)];exact h.up l (zhr hd (K:=[5,0]) O)) (zgf.cons SE (zgf.cons SE (zgf.cons (fun vs vs' W W' _ hv l hd h=>by(show(vs' 9) = .agg [(vs' 6),a].toArray);rw[hv 6 (zcr O),hv 9 (zcr O)];exact h) (zgf.cons (fun vs vs' W W' _ hv l hd h=>by(show(vs' 10)=ptr (bx (pg (vs' 10)))/\Bx W' 7 (pg (vs' 10)) [.slice none 0 0, .slice none 0 0]);rw[hv 10 (zcr O)];exact⟨h.1,h.2.up l (zf9 hd (c:=7) O)⟩) (zgf.cons (fun vs vs' W W' _ hv l hd h=>by(show(vs' 10)=ptr (bx (pg (vs' 10)))/\Bx W' 7 (pg (vs' 10)) [(vs' 6),a]);rw[hv 6 (zcr O),hv 10 (zcr O)];exact⟨h.1,h.2.up l (zf9 hd (c:=7) O)⟩) zgf.nil)))))))))))),?_⟩
 ·intro vs dj lW hN hV
  refine Tr.mono (T.lit0 (α:=Commit) 5 []) ?_
  rintro bq _ ⟨ao,rfl,br,bu⟩
  exact⟨ao,O,br,(show Ow ao 5 [] [bq] ([]:List Commit) from bu)⟩
 ·intro vs dk lW hN hV
  exact Trq (R.fa O) O
 ·intro vs dl lW hN hV
  have I:vs 1=ptr ((bx y).add 0):=(hN 1 (zcr O))
  obtain⟨vs,rfl⟩:=zcf I
  exact Trq (R.ld (v:=x) O O ((H.up lW O).cell O)) O
 ·intro vs bv lW hN hV
  have bw:=G.t lW O
  obtain⟨bz,b0⟩: ∃ v,vs 0=v:=⟨_,O⟩
  obtain⟨vs,rfl⟩:=zcf b0
  have b2:Ow bv 5 [] [bz] ([]:List Commit):=(hN 0 (zcr O))
  have J:vs 2=x:=(hN 2 (zcr O))
  obtain⟨vs,rfl⟩:=zcf J
  obtain⟨dm,b4,ap,b5⟩:=b2.toSh
  rw[<- b4]
  have b7:=bw.t ap
  refine Tr.mono (T.appS (α:=Sh Vm.Commit) (K':=[0]) b5 (ak.ul b7).shL O O bn) ?_
  rintro b8 _ ⟨aq,rfl,b9,cb⟩
  exact⟨aq,O,((ap.sub (M:=[5]) O).trans (b9.sub (M:=[5]) O)),(show Ow (α:=List (Sh Vm.Commit)) aq 5 [0] [b8] A from cb)⟩
 ·intro vs dn lW hN hV
  exact Trq (R.lda (cs:=[d,vS x2.Who,e]) (((b3.up F).up B).up lW O).cells O O) O
 ·intro vs dp lW hN hV
  have L:vs 4 = .agg [d,vS x2.Who,e].toArray:=(hN 4 (zcr O))
  obtain⟨vs,rfl⟩:=zcf L
  refine Tr.mono (T.bs 6 [.agg [d,vS x2.Who,e].toArray] (cs:=[d,vS x2.Who,e]) O O (bsA O)) ?_
  rintro _ _ ⟨N,ar,rfl,rfl,cc,cd⟩
  exact⟨ar,O,cc,(show(.slice (some (bx N)) 1 1:Value) = .slice (some (bx N)) 1 1/\Bx ar 6 N [d,vS x2.Who,e] from⟨O,cd⟩)⟩
 ·intro vs au lW hN hV
  have av:=G.t lW O
  obtain⟨ce,cf⟩: ∃ v,vs 3=v:=⟨_,O⟩
  obtain⟨vs,rfl⟩:=zcf cf
  have cg:Ow (α:=List (Sh Vm.Commit)) au 5 [0] [ce] A:=(hN 3 (zcr O))
  obtain⟨k,P⟩: ∃ k,vs 5 = .slice (some (bx k)) 1 1:=⟨_,((hN 5 (zcr O))).1⟩
  obtain⟨vs,rfl⟩:=zcf P
  have ch:Bx au 6 k [d,vS x2.Who,e]:=(hN 5 (zcr O)).2
  refine Tr.mono (T.app1S (α:=Sh Vm.Commit) (K':=[0]) cg ch (Commit.rd (K:=[0]) x2.Parents x2.Who x2.Tree (bc.ul av) (be.ul av)).sh1 O O bp) ?_
  rintro ci _ ⟨aw,rfl,cj,ck⟩
  exact⟨aw,O,cj,(show Ow (α:=List (Sh Vm.Commit)) aw 5 [0] [ci] f from ck)⟩
 ·intro vs dq lW hN hV
  exact Trq (R.fa O) O
 ·intro vs dr lW hN hV
  have Q:vs 7=ptr ((bx y).add 1):=(hN 7 (zcr O))
  obtain⟨vs,rfl⟩:=zcf Q
  exact Trq (R.ld (v:=a) O O ((H.up lW O).cell O)) O
 ·intro vs cl lW hN hV
  obtain⟨b,z⟩: ∃ v,vs 6=v:=⟨_,O⟩
  obtain⟨vs,rfl⟩:=zcf z
  have cm:Ow (α:=List (Sh Vm.Commit)) cl 5 [0] [b] f:=(hN 6 (zcr O))
  have S:vs 8=a:=(hN 8 (zcr O))
  obtain⟨vs,rfl⟩:=zcf S
  exact Trq (R.bd (zs:=[.slice none 0 0, .slice none 0 0]) (cs:=[b,a]) [(0,b),(1,a)] O O O (zaD cm.oc O (zaD E.oc O zcU))) O
 ·intro vs ds lW hN hV
  refine Tr.mono (T.alloc 7 (cs:=[.slice none 0 0, .slice none 0 0]) O) ?_
  rintro _ _ ⟨U,ax,rfl,rfl,co,cp⟩
  exact⟨ax,O,co,(show(ptr (bx U):Value)=ptr (bx U)/\Bx ax 7 U [.slice none 0 0, .slice none 0 0] from⟨O,cp⟩)⟩
 ·intro vs ay lW hN hV
  obtain⟨b,z⟩: ∃ v,vs 6=v:=⟨_,O⟩
  obtain⟨vs,rfl⟩:=zcf z
  have cq:Ow (α:=List (Sh Vm.Commit)) ay 5 [0] [b] f:=(hN 6 (zcr O))
  have V:vs 9 = .agg [b,a].toArray:=(hN 9 (zcr O))
  obtain⟨vs,rfl⟩:=zcf V
  obtain⟨i,X⟩: ∃ i,vs 10=ptr (bx i):=⟨_,((hN 10 (zcr O))).1⟩
  obtain⟨vs,rfl⟩:=zcf X
  have ct:Bx ay 7 i [.slice none 0 0, .slice none 0 0]:=(hN 10 (zcr O)).2
  refine Tr.mono (T.sta (vs:=[b,a]) ct O O (zaa cq.oc (zaa E.oc zaw)) O O) ?_
  rintro _ _ ⟨az,rfl,cu,cv⟩
  exact⟨az,O,cu,(show(ptr (bx i))=ptr (bx i)/\Bx az 7 i [b,a] from⟨O,cv⟩)⟩
 ·intro vs C Z hN
  have aa:=G.t Z
  have I:vs 1=ptr ((bx y).add 0):=(hN 1 (zcr O))
  obtain⟨vs,rfl⟩:=zcf I
  have J:vs 2=x:=(hN 2 (zcr O))
  obtain⟨vs,rfl⟩:=zcf J
  have L:vs 4 = .agg [d,vS x2.Who,e].toArray:=(hN 4 (zcr O))
  obtain⟨vs,rfl⟩:=zcf L
  obtain⟨k,P⟩: ∃ k,vs 5 = .slice (some (bx k)) 1 1:=⟨_,((hN 5 (zcr O))).1⟩
  obtain⟨vs,rfl⟩:=zcf P
  have dt:Bx C 6 k [d,vS x2.Who,e]:=(hN 5 (zcr O)).2
  obtain⟨b,z⟩: ∃ v,vs 6=v:=⟨_,O⟩
  obtain⟨vs,rfl⟩:=zcf z
  have a0:Ow (α:=List (Sh Vm.Commit)) C 5 [0] [b] f:=(hN 6 (zcr O))
  have Q:vs 7=ptr ((bx y).add 1):=(hN 7 (zcr O))
  obtain⟨vs,rfl⟩:=zcf Q
  have S:vs 8=a:=(hN 8 (zcr O))
  obtain⟨vs,rfl⟩:=zcf S
  have V:vs 9 = .agg [b,a].toArray:=(hN 9 (zcr O))
  obtain⟨vs,rfl⟩:=zcf V
  obtain⟨i,X⟩: ∃ i,vs 10=ptr (bx i):=⟨_,(hN 11 (zcr O)).1⟩
  obtain⟨vs,rfl⟩:=zcf X
  have cw:Bx C 7 i [b,a]:=(hN 11 (zcr O)).2
  refine sr (Lw.r O (R.lda (cs:=[b,a]) cw.cells O O) (ms O (fl (H.up Z) O (Lw.ln x0.Commits (ak.ul aa) O ?_))))
  have cx:Rd (α:=List Vm.Commit) C [5,0] [b] f:=Ow.rdSh a0
  refine cr Y (fun _=>p77 (K:=[0,5]) (x0:=(Vm.Repo.mk f x0.Heads)) (Repo.rd (K:=[0,5]) f x0.Heads (cx.sub (M:=[0,5]) O) ((E.ul aa).sub (M:=[0,5]) O))) ?_
  rintro a1 _ du Y ac ⟨a3,a5,rfl,cy,cz⟩
  have a6:=cy.sub (M:=[0,5]) O
  have a8:=cz.sub (M:=[0,5]) O
  have c0:=aa.n ac
  refine sta (((b6.up B).up Z).up ac) (zaa a6.oc (zaa a8.oc zaw)) fun dv D c1=>?_
  have c2:=c0.t D
  refine nl ?_
  have c3:=a6.up (D.sub (M:=[4]) O) O
  have c4:=a8.up (D.sub (M:=[4]) O) O
  obtain⟨ae,c5,a9,af⟩:=zgV _ 5
  have c6:Rd ae [0] [a3] a1.Commits:=by rw[af];exact(c3.dye 5).sub (M:=[0]) O
  have c7:Rd ae [0] [a5] a1.Heads:=by rw[af];exact(c4.dye 5).sub (M:=[0]) O
  have dw:Rd (α:=List Vm.Commit) ae [0] [b] f:=by rw[af];exact(((a0.up ac).up D).rd.dye 5).sub (M:=[0]) O
  have c8:=c2.t a9
  cases Y
  rw[<- c5]
  exact Cw.ret (zkj O (c1.up a9) (Res.mk c8 ⟨a3,a5,O,c6,c7⟩))
theorem p85 {x0 d f x1 x2 h i r}(k:Rd W K [d,f] x0)(x:Rd W K [h,vS x2.Who,i] x2)(Y:Vm.zcN x0 x1 x2=some r):Q1 85 [.agg [d,f].toArray,vS x1, .agg [h,vS x2.Who,i].toArray] W [] fun W' v=> ∃ a b,v = .agg [a,b].toArray/\Rd W' (0::K) [a] r.Commits/\Rd W' (0::K) [b] r.Heads:=
 (c85 (k.view _) (x.view _) Y).ad (fk 0) fun _ _ ⟨a,b,e,y,z⟩=>⟨a,b,e,y.back O,z.back O⟩
theorem c75 {x0 E F x1 x2 x3 ac r}(h0:Rd W0 [0] [E,F] x0)(h3:Rd W0 [0] [ac] x3)(Y:Vm.zcI x0 x1 x2 x3=some r):Q0 75 [.agg [E,F].toArray,vS x1,vS x2,ac] W0 fun Wf v=> ∃ bq br,v = .tuple [.agg [bq,br].toArray,vB r.2].toArray/\Rd Wf [0] [bq] r.1.Commits/\Rd Wf [0] [br] r.1.Heads:=by
 unfold Vm.zcI at Y
 obtain⟨e1,e2,bu,J,L⟩:=Repo.split h0
 simp only[List.cons.injEq,and_true,true_and]at bu
 obtain⟨rfl,rfl⟩:=bu
 refine zap.of Tryz.func75 O O O O (sr (bo 2 O fun g1 W1 l1 b1=>?_))
 have a2:=l1.o
 refine al 3 [.slice none 0 0, .slice none 0 0] fun g3 W3 l3 b3=>?_
 have a4:=a2.n l3
 refine Nb O (ssr (la (b1.up l3) (ca Y (fun _=>p17 (Repo.rd (K:=[0]) x0.Commits x0.Heads (J.ul a4) (L.ul a4))) fun z8 e8 Y l10=>?_)))
 have ah:=a4.n l10
 refine Lw.r O (R.not O) (nl (cn Y (fun Y=>?_) fun Y=>?_))
 ·refine sr (Lw.r O (R.bd (zs:=[.slice none 0 0, .slice none 0 0]) (cs:=[.slice none 0 0, .slice none 0 0]) [] O O O zcU) (sta (b3.up l10) (zaa O (zaa O zaw)) fun e9 cy cz=>?_))
  have c0:=ah.t cy
  refine Nb O ?_
  cases Y
  exact Cw.ret (zeM O cz O (Res.mk c0 ⟨.slice none 0 0, .slice none 0 0,O,(rdN (K:=[0])),(rdN (K:=[0]))⟩))
 ·refine sk (sr (ms O (mv ac O (cr Y (fun _=>p56 (k0:=4) (h3.ul ah)) ?_))))
  rintro bz U fb Y ai ⟨_,rfl,aj⟩
  have c1:=ah.n ai
  refine Lw.r O (R.bd (zs:=[.slice none 0 0,vS ([]:Str), .slice none 0 0]) (cs:=[.slice none 0 0,vS x2,U]) [(1,vS x2),(2,U)] O O O (zaD O O (zaD aj.oc O zcU))) (al 5 [.slice none 0 0,vS ([]:Str), .slice none 0 0] fun c2 fc N c3=>?_)
  have c4:=c1.n N
  refine sta c3 (zaa O (zaa O (zaa (aj.up N).oc zaw))) fun c5 V b0=>?_
  have X:=c4.t V
  have ak:=((((b1.up l3).up l10).up ai).up N).up V
  refine nl ?_
  obtain⟨c6,c7,Y⟩:=za1 Y
  refine Cw.join 20 28 [] (fun l w=> ∃ G k H x y I,CW.w I=w/\Le [5,12] c5 I/\l=[]/\Ow I 6 [] [x] G/\Ow I 4 [] [y] H/\Bx I 5 c2 [x,vS k,y]/\c6 G k H=some r) ?_ ?_
  ·rintro _ _ σ ⟨G,k,H,x,y,I,rfl,am,rfl,b2,b4,c8,Y⟩
   rw[c7]at Y
   have c9:=X.t am
   refine Cw.seq ?_
   obtain⟨b,da,Y⟩:=ob Y
   obtain⟨a,db,Y⟩:=ob Y
   refine Cw.par [[],[0],[],[],[0,1,2,3],[],[0,1,2,3,4,5]] [[],[0],[],[],[1,2,3],[],[4,5]] [[],[],[],[],[],[],[9]] [[0],[1],[2],[3],[4],[5],[4,5]] [[],[7,8],[],[],[0,4,6,7,8],[9],[9]] [0,1,2,3,4,6] [9] [fun vs W=>(vs 0) = .agg [E,F].toArray,fun vs W=>(vs 1) = .agg [(zaK (vs 1) 0),(zaK (vs 1) 1)].toArray/\Ow W 7 [] [(zaK (vs 1) 0)] b.Commits/\Ow W 8 [] [(zaK (vs 1) 1)] b.Heads,fun vs W=>(vs 2)=vS x1,fun vs W=>(vs 3) = .agg [x,vS k,y].toArray,fun vs W=>(vs 4) = .agg [(zaK (vs 4) 0),(zaK (vs 4) 1)].toArray/\Rd W [0,4,6,7,8] [(zaK (vs 4) 0)] a.Commits/\Rd W [0,4,6,7,8] [(zaK (vs 4) 1)] a.Heads,fun vs W=>(vs 5)=ptr (bx (pg (vs 5)))/\Bx W 9 (pg (vs 5)) [.slice none 0 0, .slice none 0 0],fun vs W=>(vs 5)=ptr (bx (pg (vs 5)))/\Bx W 9 (pg (vs 5)) [(zaK (vs 4) 0),(zaK (vs 4) 1)]] [] mixed (by kernel_rfl) O zoZ.nil ?_
   intro fd z
   have b5:=c9.n z
   have b6:=(ak.up am).up z
   refine⟨(zdc.cons ?_ (zdc.cons ?_ (zdc.cons ?_ (zdc.cons ?_ (zdc.cons ?_ (zdc.cons ?_ (zdc.cons ?_ zdc.nil))))))),(zgf.cons SE (zgf.cons (fun vs vs' W W' _ hv l hd h=>by(show(vs' 1) = .agg [(zaK (vs' 1) 0),(zaK (vs' 1) 1)].toArray/\Ow W' 7 [] [(zaK (vs' 1) 0)] b.Commits/\Ow W' 8 [] [(zaK (vs' 1) 1)] b.Heads);rw[hv 1 (zcr O)];exact⟨h.1,h.2.1.upv l (zf9 hd (c:=7) O),h.2.2.upv l (zf9 hd (c:=8) O)⟩) (zgf.cons SE (zgf.cons SE (zgf.cons (fun vs vs' W W' _ hv l hd h=>by(show(vs' 4) = .agg [(zaK (vs' 4) 0),(zaK (vs' 4) 1)].toArray/\Rd W' [0,4,6,7,8] [(zaK (vs' 4) 0)] a.Commits/\Rd W' [0,4,6,7,8] [(zaK (vs' 4) 1)] a.Heads);rw[hv 4 (zcr O)];exact⟨h.1,h.2.1.up l (zhr hd (K:=[0,4,6,7,8]) O),h.2.2.up l (zhr hd (K:=[0,4,6,7,8]) O)⟩) (zgf.cons (fun vs vs' W W' _ hv l hd h=>by(show(vs' 5)=ptr (bx (pg (vs' 5)))/\Bx W' 9 (pg (vs' 5)) [.slice none 0 0, .slice none 0 0]);rw[hv 5 (zcr O)];exact⟨h.1,h.2.up l (zf9 hd (c:=9) O)⟩) (zgf.cons (fun vs vs' W W' _ hv l hd h=>by(show(vs' 5)=ptr (bx (pg (vs' 5)))/\Bx W' 9 (pg (vs' 5)) [(zaK (vs' 4) 0),(zaK (vs' 4) 1)]);rw[hv 4 (zcr O),hv 5 (zcr O)];exact⟨h.1,h.2.up l (zf9 hd (c:=9) O)⟩) zgf.nil))))))),?_⟩
   ·intro vs fe lW hN hV
    exact Trq (R.lda (cs:=[E,F]) (b6.up lW O).cells O O) O
   ·intro vs ff lW hN hV
    have b7:=b5.t lW O
    have an:vs 0 = .agg [E,F].toArray:=(hN 0 (zcr O))
    obtain⟨vs,rfl⟩:=zcf an
    refine Tr.mono (T.call O (p36 (k0:=7) (k1:=8) (Repo.rd (K:=[0]) x0.Commits x0.Heads (J.ul b7) (L.ul b7)) da)) ?_
    rintro _ _ ⟨ao,rfl,dc,⟨ap,aq,rfl,dd,de⟩⟩
    exact⟨ao,O,dc,(show(.agg [ap,aq].toArray:Value) = .agg [ap,aq].toArray/\Ow ao 7 [] [ap] b.Commits/\Ow ao 8 [] [aq] b.Heads from⟨O,dd,de⟩)⟩
   ·intro vs fg lW hN hV
    exact Trq (R.mv (v:=vS x1) O) O
   ·intro vs fh lW hN hV
    exact Trq (R.lda (cs:=[x,vS k,y]) ((c8.up z).up lW O).cells O O) O
   ·intro vs b8 lW hN hV
    obtain⟨A,B,ar⟩: ∃ A B:Value,vs 1 = .agg [A,B].toArray:=⟨_,_,(hN 1 (zcr O)).1⟩
    obtain⟨vs,rfl⟩:=zcf ar
    have df:Ow b8 7 [] [A] b.Commits:=(hN 1 (zcr O)).2.1
    have dg:Ow b8 8 [] [B] b.Heads:=(hN 1 (zcr O)).2.2
    have au:vs 2=vS x1:=(hN 2 (zcr O))
    obtain⟨vs,rfl⟩:=zcf au
    have av:vs 3 = .agg [x,vS k,y].toArray:=(hN 3 (zcr O))
    obtain⟨vs,rfl⟩:=zcf av
    refine Tr.mono (T.call O (p85 (K:=[4,6,7,8]) (x0:=(Vm.Repo.mk b.Commits b.Heads)) (x2:=(Vm.Commit.mk G k H)) ((Repo.rd (K:=[7,8]) b.Commits b.Heads (df.rd.sub (M:=[7,8]) O) (dg.rd.sub (M:=[7,8]) O)).sub (M:=[4,6,7,8]) O) ((Commit.rd (K:=[4,6]) G k H (((b2.up z).up lW O).rd.sub (M:=[4,6]) O) (((b4.up z).up lW O).rd.sub (M:=[4,6]) O)).sub (M:=[4,6,7,8]) O) db)) ?_
    rintro _ _ ⟨aw,rfl,dh,⟨ax,ay,rfl,di,dj⟩⟩
    have dk:=di.sub (M:=[0,4,6,7,8]) O
    have dl:=dj.sub (M:=[0,4,6,7,8]) O
    exact⟨aw,O,dh,(show(.agg [ax,ay].toArray:Value) = .agg [ax,ay].toArray/\Rd aw [0,4,6,7,8] [ax] a.Commits/\Rd aw [0,4,6,7,8] [ay] a.Heads from⟨O,dk,dl⟩)⟩
   ·intro vs fi lW hN hV
    refine Tr.mono (T.alloc 9 (cs:=[.slice none 0 0, .slice none 0 0]) O) ?_
    rintro _ _ ⟨az,b9,rfl,rfl,dm,dn⟩
    exact⟨b9,O,dm,(show(ptr (bx az):Value)=ptr (bx az)/\Bx b9 9 az [.slice none 0 0, .slice none 0 0] from⟨O,dn⟩)⟩
   ·intro vs a0 lW hN hV
    obtain⟨d,e,a1⟩: ∃ d e:Value,vs 4 = .agg [d,e].toArray:=⟨_,_,(hN 4 (zcr O)).1⟩
    obtain⟨vs,rfl⟩:=zcf a1
    have dp:Rd a0 [0,4,6,7,8] [d] a.Commits:=(hN 4 (zcr O)).2.1
    have dq:Rd a0 [0,4,6,7,8] [e] a.Heads:=(hN 4 (zcr O)).2.2
    obtain⟨f,a3⟩: ∃ f,vs 5=ptr (bx f):=⟨_,((hN 5 (zcr O))).1⟩
    obtain⟨vs,rfl⟩:=zcf a3
    have dr:Bx a0 9 f [.slice none 0 0, .slice none 0 0]:=(hN 5 (zcr O)).2
    refine Tr.mono (T.sta (vs:=[d,e]) dr O O (zaa dp.oc (zaa dq.oc zaw)) O O) ?_
    rintro _ _ ⟨cb,rfl,ds,dt⟩
    exact⟨cb,O,ds,(show(ptr (bx f))=ptr (bx f)/\Bx cb 9 f [d,e] from⟨O,dt⟩)⟩
   ·intro vs P Q hN
    have du:=b5.t Q
    have an:vs 0 = .agg [E,F].toArray:=(hN 0 (zcr O))
    obtain⟨vs,rfl⟩:=zcf an
    obtain⟨A,B,ar⟩: ∃ A B:Value,vs 1 = .agg [A,B].toArray:=⟨_,_,(hN 1 (zcr O)).1⟩
    obtain⟨vs,rfl⟩:=zcf ar
    have dv:Ow P 7 [] [A] b.Commits:=(hN 1 (zcr O)).2.1
    have dw:Ow P 8 [] [B] b.Heads:=(hN 1 (zcr O)).2.2
    have au:vs 2=vS x1:=(hN 2 (zcr O))
    obtain⟨vs,rfl⟩:=zcf au
    have av:vs 3 = .agg [x,vS k,y].toArray:=(hN 3 (zcr O))
    obtain⟨vs,rfl⟩:=zcf av
    obtain⟨d,e,a1⟩: ∃ d e:Value,vs 4 = .agg [d,e].toArray:=⟨_,_,(hN 4 (zcr O)).1⟩
    obtain⟨vs,rfl⟩:=zcf a1
    have a5:Rd P [0,4,6,7,8] [d] a.Commits:=(hN 4 (zcr O)).2.1
    have a6:Rd P [0,4,6,7,8] [e] a.Heads:=(hN 4 (zcr O)).2.2
    obtain⟨f,a3⟩: ∃ f,vs 5=ptr (bx f):=⟨_,(hN 6 (zcr O)).1⟩
    obtain⟨vs,rfl⟩:=zcf a3
    have cc:Bx P 9 f [d,e]:=(hN 6 (zcr O)).2
    refine ssr (Lw.r O (R.lda (cs:=[d,e]) cc.cells O O) (ca Y (fun _=>p17 (K:=[0,4,6,7,8]) (Repo.rd (K:=[0,4,6,7,8]) a.Commits a.Heads a5 a6)) fun fj fm Y i=>?_))
    have Z:=du.n i
    have cd:=(((((((b3.up l10).up ai).up N).up V).up am).up z).up Q).up i
    refine Lw.r O (R.not O) (nl (cn Y (fun Y=>?_) fun Y=>?_))
    ·refine sr (la ((b6.up Q).up i) (cr Y (fun _=>p36 (k0:=10) (k1:=11) (Repo.rd (K:=[0]) x0.Commits x0.Heads (J.ul Z) (L.ul Z))) ?_))
     rintro ce _ fn Y cf ⟨cg,ch,rfl,ci,cj⟩
     have dx:=Z.n cf
     refine sta (cd.up cf) (zaa ci.oc (zaa cj.oc zaw)) fun fo a7 dy=>?_
     have dz:=dx.t a7
     refine Nb O ?_
     obtain⟨d0,d1,a8,d2⟩:=zgV _ 10
     have d3:Rd (α:=List Vm.Commit) d0 [0] [cg] ce.Commits:=by rw[d2];exact((ci.up a7).rd.dye 10).sub (M:=[0]) O
     have d4:=dz.t a8
     obtain⟨d5,d6,ck,d7⟩:=zgV _ 11
     have d8:Rd (α:=List Vm.Head) d5 [0] [ch] ce.Heads:=by rw[d7];exact(((cj.up a7).up a8).rd.dye 11).sub (M:=[0]) O
     have cl:=ck.s
     cases Y
     rw[<- d6.trans (d1)]
     exact Cw.ret (zeM O ((dy.up a8).up ck) O (Res.mk (d4.trans cl) ⟨cg,ch,O,(d3.ul cl),d8⟩))
    ·refine sk (sr (la (cc.up i) (sta cd (zaa a5.oc (zaa a6.oc zaw)) fun fp C d9=>?_)))
     have ea:=Z.t C
     refine Nb O ?_
     have eb:=a5.up ((i.sub (M:=[3]) O).trans (C.sub (M:=[3]) O)) O
     have ec:=a6.up ((i.sub (M:=[3]) O).trans (C.sub (M:=[3]) O)) O
     obtain⟨a9,ed,S,ba⟩:=zgV _ 4
     have ee:Rd a9 [0,6,7,8] [d] a.Commits:=by rw[ba];exact(eb.dye 4).sub (M:=[0,6,7,8]) O
     have ef:Rd a9 [0,6,7,8] [e] a.Heads:=by rw[ba];exact(ec.dye 4).sub (M:=[0,6,7,8]) O
     have fq:Rd (α:=List Vm.File) a9 [0] [y] H:=by rw[ba];exact(((((b4.up z).up Q).up i).up C).rd.dye 4).sub (M:=[0]) O
     have eg:=ea.t S
     obtain⟨bb,eh,aa,bc⟩:=zgV _ 6
     have ei:Rd bb [0,7,8] [d] a.Commits:=by rw[bc];exact(ee.dye 6).sub (M:=[0,7,8]) O
     have ej:Rd bb [0,7,8] [e] a.Heads:=by rw[bc];exact(ef.dye 6).sub (M:=[0,7,8]) O
     have fr:Rd (α:=List Int) bb [0] [x] G:=by rw[bc];exact((((((b2.up z).up Q).up i).up C).up S).rd.dye 6).sub (M:=[0]) O
     have ek:=eg.t aa
     obtain⟨be,el,bg,bh⟩:=zgV _ 7
     have em:Rd be [0,8] [d] a.Commits:=by rw[bh];exact(ei.dye 7).sub (M:=[0,8]) O
     have en:Rd be [0,8] [e] a.Heads:=by rw[bh];exact(ej.dye 7).sub (M:=[0,8]) O
     have fs:Rd (α:=List Vm.Commit) be [0] [A] b.Commits:=by rw[bh];exact(((((dv.up i).up C).up S).up aa).rd.dye 7).sub (M:=[0]) O
     have eo:=ek.t bg
     obtain⟨bi,ep,cm,bj⟩:=zgV _ 8
     have er:Rd bi [0] [d] a.Commits:=by rw[bj];exact(em.dye 8).sub (M:=[0]) O
     have es:Rd bi [0] [e] a.Heads:=by rw[bj];exact(en.dye 8).sub (M:=[0]) O
     have ft:Rd (α:=List Vm.Head) bi [0] [B] b.Heads:=by rw[bj];exact((((((dw.up i).up C).up S).up aa).up bg).rd.dye 8).sub (M:=[0]) O
     have et:=eo.t cm
     cases Y
     rw[<- ep.trans (el.trans (eh.trans (ed)))]
     exact Cw.ret (zeM O ((((d9.up S).up aa).up bg).up cm) O (Res.mk et ⟨d,e,O,er,es⟩))
  ·refine sr (la ak (ms O (ca Y (fun _=>p59 (Repo.rd (K:=[0]) x0.Commits x0.Heads (J.ul X) (L.ul X))) fun fu eu Y D=>?_)))
   have co:=X.n D
   have cp:=((aj.up N).up V).up D
   refine Lw.ge O (nl (cn Y (fun Y=>?_) fun Y=>?_))
   ·refine rg (la (ak.up D) (ms O (ca Y (fun _=>p59 (Repo.rd (K:=[0]) x0.Commits x0.Heads (J.ul co) (L.ul co))) fun bk ew Y bl=>Lw.t O (T.bsS (α:=Int) (xs:=[bk]) 12 [] (W:=ew) [vI bk] (Each.cons ((rdI _)) Each.nil) O) ?_)))
    rintro cq _ ⟨fv,rfl,bm,ct⟩
    refine Lw.fa O (Lw.u (T.st (j:=0) (v:=cq) (((b0.up D).up bl).up bm) O O ct.oc O O) ?_)
    rintro _ _ ⟨fw,rfl,bn,ex⟩
    refine nl ?_
    obtain⟨ey,ez,bp,e0⟩:=(ct.up bn).dyeO 6
    exact(ag) ⟨([bk]:List Int),x2,bz,cq,U,ey,ez,((((D.j bl).j bm).j bn).j bp).w,O,e0,((((cp.up bl).up bm).up bn).up bp),(ex.up bp),Y⟩
   ·exact sk ((ag) ⟨([]:List Int),x2,bz, .slice none 0 0,U,eu,O,D.w,O,owN 6 [],cp,(b0.up D),Y⟩)
theorem p75 {x0 d f x1 x2 x3 h r}(i:Rd W K [d,f] x0)(k:Rd W K [h] x3)(Y:Vm.zcI x0 x1 x2 x3=some r):Q1 75 [.agg [d,f].toArray,vS x1,vS x2,h] W [] fun W' v=> ∃ a b,v = .tuple [.agg [a,b].toArray,vB r.2].toArray/\Rd W' (0::K) [a] r.1.Commits/\Rd W' (0::K) [b] r.1.Heads:=
 (c75 (i.view _) (k.view _) Y).ad (fk 0) fun _ _ ⟨a,b,e,x,y⟩=>⟨a,b,e,x.back O,y.back O⟩
theorem c61 {x0 h i x1 L x2 A x3 r}(Z:Rd W0 [0] [h,i] x0)(h1:Rd W0 [0] [vI x1.Kind,vS x1.Branch,vS x1.Who,vS x1.Path,vS x1.To,vI x1.At,L] x1)(h2:Rd W0 [0] [A] x2)(Y:Vm.zbc x0 x1 x2 x3=some r):Q0 61 [.agg [h,i].toArray, .agg [vI x1.Kind,vS x1.Branch,vS x1.Who,vS x1.Path,vS x1.To,vI x1.At,L].toArray,A,vB x3] W0 fun Wf v=> ∃ N P,v = .tuple [.agg [N,P].toArray,vI r.2].toArray/\Rd Wf [0] [N] r.1.Commits/\Rd Wf [0] [P] r.1.Heads:=by
 unfold Vm.zbc at Y
 obtain⟨aw,ax,Q,a,b⟩:=Repo.split Z
 simp only[List.cons.injEq,and_true,true_and]at Q
 obtain⟨rfl,rfl⟩:=Q
 obtain⟨ay,S,az⟩:=Op.split h1
 simp only[List.cons.injEq,and_true,true_and]at S
 obtain rfl:=S
 refine zap.of Tryz.func61 O O O O (sr (bo 2 O fun g1 W1 l1 b1=>?_))
 have a2:=l1.o
 refine bo 3 O fun g3 W3 T U=>?_
 have a4:=a2.n T
 refine al 4 [.slice none 0 0, .slice none 0 0] fun g6 W6 k V=>?_
 have d:=a4.n k
 have B:=(b1.up T).up k
 refine Ni O (ssr (mb O (Lw.r O (R.not O) (nl (cn Y (fun Y=>?_) fun Y=>?_)))))
 ·refine sr (la B (sta V (zaa a.oc (zaa b.oc zaw)) fun a9 aj ak=>?_))
  have C:=d.t aj
  refine Ni O ?_
  cases Y
  exact Cw.ret (zeM O ak O (Res.mk C ⟨h,i,O,(a.ul C),(b.ul C)⟩))
 ·refine sk (sr (la B (fl (U.up k) O (fl (U.up k) O (mv A O (cr Y (fun _=>p75 (Repo.rd (K:=[0]) x0.Commits x0.Heads (a.ul d) (b.ul d)) (h2.ul d)) ?_))))))
  rintro x _ ba Y D ⟨e,f,rfl,am,an⟩
  have E:=am.sub (M:=[0]) O
  have F:=an.sub (M:=[0]) O
  have W:=d.n D
  refine mv (.tuple [.agg [e,f].toArray,vB x.2].toArray) O (Lw.r O (R.ext (vs:=[.agg [e,f].toArray,vB x.2]) (v:= .agg [e,f].toArray) O O) (Lw.r O (R.ext (vs:=[.agg [e,f].toArray,vB x.2]) (v:=vB x.2) O O) (al 5 [.slice none 0 0, .slice none 0 0] fun bb bc G ao=>?_)))
  have y:=G.o
  refine sta ao (zaa E.oc (zaa F.oc zaw)) fun be H ap=>?_
  have z:=H.s
  have X:=((V.up D).up G).up H
  refine Nb O (ssr (mb O (Lw.r O (R.not O) (nl (cn Y (fun Y=>?_) fun Y=>?_)))))
  ·refine sr (la (((B.up D).up G).up H) (sta X (zaa a.oc (zaa b.oc zaw)) fun bg aq ar=>?_))
   have I:=((W.trans y).trans z).t aq
   refine Ni O ?_
   cases Y
   exact Cw.ret (zeM O ar O (Res.mk I ⟨h,i,O,(a.ul I),(b.ul I)⟩))
  ·refine sk (sr (la ap (sta X (zaa E.oc (zaa F.oc zaw)) fun bh au av=>?_)))
   have J:=au.s
   refine Ni O ?_
   cases Y
   exact Cw.ret (zeM O av O (Res.mk (((W.trans y).trans z).trans J) ⟨e,f,O,(E.ul ((y.trans z).trans J)),(F.ul ((y.trans z).trans J))⟩))
theorem p61 {x0 d f x1 h x2 i x3 r}(k:Rd W K [d,f] x0)(x:Rd W K [vI x1.Kind,vS x1.Branch,vS x1.Who,vS x1.Path,vS x1.To,vI x1.At,h] x1)(y:Rd W K [i] x2)(Y:Vm.zbc x0 x1 x2 x3=some r):Q1 61 [.agg [d,f].toArray, .agg [vI x1.Kind,vS x1.Branch,vS x1.Who,vS x1.Path,vS x1.To,vI x1.At,h].toArray,i,vB x3] W [] fun W' v=> ∃ a b,v = .tuple [.agg [a,b].toArray,vI r.2].toArray/\Rd W' (0::K) [a] r.1.Commits/\Rd W' (0::K) [b] r.1.Heads:=
 (c61 (k.view _) (x.view _) (y.view _) Y).ad (fk 0) fun _ _ ⟨a,b,e,z,A⟩=>⟨a,b,e,z.back O,A.back O⟩
theorem c76 {x0 d x1 r}(C:Rd W0 [0] [d] x0)(Y:Vm.zd9 x0 x1=some r):Q0 76 [d,vS x1] W0 fun Wf v=> ∃ H,v=H/\OwS (α:=List (Sh Vm.File)) Wf LL [0] [H] r:=by
 unfold Vm.zd9 at Y
 refine zap.of Tryz.func76 O O O O (sr (Nv (.slice none 0 0) O (sr (Lw.t O (T.lit0 (α:=File) 2 []) ?_))))
 rintro I _ ⟨W1,rfl,V,W⟩
 have X:=V.o
 refine Nv I O (ssr (Ni O (Cw.block ?_)))
 obtain⟨Z,aa,Y⟩:=za1 Y
 obtain⟨J,ac,l9,o9⟩:=W.toSh
 have ah:=X.t l9
 rw[<- ac]
 refine Cw.loop 8 37 [5,6] (fun m l w=> ∃ (k:List Vm.File) (x:Int) (a:Value) (b:CW),b.w=w/\Le [2] J b/\l=[a,vI x]/\Ow (α:=List (Sh Vm.File)) b 2 [0] [a] k/\Vm.zbW x0 x1 Z m k x=some r) _ ⟨([]:List File),0,I,J,O,Le.refl _ _,O,o9,Y⟩ ?_
 rintro(_ |a3) _ _ σ ⟨k,x,a,b,rfl,L,rfl,D,Y⟩
 ·cases Y
 unfold Vm.zbW at Y
 have E:=ah.t L
 refine ssr ?_
 have e:=C.ul E
 refine mi O (mv d O (Lw.ln x0 e O (Lw.lt O (nl (cn Y (fun Y=>?_) fun Y=>?_)))))
 ·refine sk ?_
  obtain⟨ai,aj,Y⟩:=za1 Y
  refine Cw.join 14 37 [5] (fun l w=> ∃ (y:List Vm.File) (z:Value) (f:CW),f.w=w/\Le [2] b f/\l=[z]/\Ow (α:=List (Sh Vm.File)) f 2 [0] [z] y/\ai y=some r) ?_ ?_
  ·rintro _ _ σ ⟨y,z,f,rfl,ak,rfl,am,Y⟩
   rw[aj]at Y
   exact rg (mi O (Lw.add O (Ni O ((agm) ⟨y,w64 (x+1),z,f,O,(L.j ak).w,O,am,Y⟩))))
  ·refine Cw.block ?_
   obtain⟨an,ao,Y⟩:=za1 Y
   refine Cw.join 14 30 [30] (fun l w=> ∃ F A,CW.w A=w/\Le [] b A/\l=[vB F]/\an F=some r) ?_ ?_
   ·rintro _ _ σ ⟨F,A,rfl,h,rfl,Y⟩
    rw[ao]at Y
    have M:=E.n h
    refine cn Y (fun Y=>?_) fun Y=>?_
    ·refine rg (mv a O (mv d O (mi O ?_)))
     obtain⟨B,N,Y⟩:=ob Y
     refine Lw.r O (R.ix (α:=File) (C.ul M) N O O O) ?_
     obtain⟨x30,c31,_,r32⟩:=((C.ul M).at_ N).cells
     obtain⟨P,rfl,r34⟩:=File.split r32
     refine Lw.r O (R.lda c31 O O) (Lw.t O (T.bs 3 [.agg [vS B.Path,P].toArray] (cs:=[vS B.Path,P]) O O (bsA O)) ?_)
     rintro _ _ ⟨a4,a5,rfl,rfl,G,ap⟩
     have aq:=G.o
     obtain⟨ar,au,Y⟩:=ob Y
     refine Lw.t O (T.app1S (α:=Sh Vm.File) (K':=[0]) ((D.up h).up G) ap (File.rd (K:=[0]) B.Path B.Text (r34.ul aq)).sh1 O O au) ?_
     rintro Q _ ⟨av,rfl,aw,ax⟩
     exact Nv Q O ((ag) ⟨ar,Q,av,O,((h.j G).j aw).w,O,ax,Y⟩)
    ·exact sk ((ag) ⟨k,a,A,O,h.w,O,(D.up h),Y⟩)
   ·refine rg (mv d O (mi O ?_))
    obtain⟨a6,S,Y⟩:=ob Y
    refine Lw.r O (R.ix (α:=File) e S O O O) (Lw.fa O (Lw.r O (R.ld O O (File.at0 (e.at_ S)).str) (ms O (Lw.sne O (mb O (bs Y (fun i Y=>?_) fun i Y=>?_))))))
    ·refine wak 8 i (ms O (mv d O (mi O ?_)))
     obtain⟨a7,U,Y⟩:=ob Y
     exact Lw.r O (R.ix (α:=File) e U O O O) (Lw.fa O (Lw.r O (R.ld O O (File.at0 (e.at_ U)).str) (ca Y (fun _=>p45) fun ay az Y a0=>Lw.r O (R.not O) (Pb i O (nl ((ag) ⟨(!ay),az,O,a0,O,Y⟩))))))
    ·exact psk 8 i O (Pb i O (nl ((ag) ⟨false,b,O,Le.refl _ _,O,Y⟩)))
 ·refine Cw.exit ?_
  rw[aa]at Y
  refine sr (mv a O (Nv a O ?_))
  cases Y
  exact Cw.ret (zhg O (Res.mk E ⟨a,O,D.s.sub O O⟩))
theorem p76 {x0 b x1 k0 r}(d:Rd W K [b] x0)(Y:Vm.zd9 x0 x1=some r):Q1 76 [b,vS x1] W [] fun W' v=> ∃ a,v=a/\Ow (α:=List (Sh Vm.File)) W' k0 (0::K) [a] r:=
 (c76 (d.view _) Y).ad (fk k0) fun _ _ ⟨a,e,f⟩=>⟨a,e,f.backS (zhe _) O⟩
theorem c62 {x0 b x1 r}(d:Rd W0 [0] [b] x0)(Y:Vm.zcw x0 x1=some r):Q0 62 [b,vS x1] W0 fun Wf v=> ∃ h,v = .tuple [h,vB r.2].toArray/\OwS (α:=List (Sh Vm.File)) Wf LL [0] [h] r.1:=by
 unfold Vm.zcw at Y
 refine zap.of Tryz.func62 O O O O (sr (Gv (.slice none 0 0) O (Nb O (ssr (mv b O (ca Y (fun _=>p32 d) fun P Q Y B=>?_))))))
 have e:=B.o
 refine Lw.r O (R.not O) (nl (cn Y (fun Y=>?_) fun Y=>?_))
 ·refine sr (Gv (.slice none 0 0) O (Nb O ?_))
  cases Y
  exact Cw.ret (zit O O (Res.mk e ⟨.slice none 0 0,O,(zlO [0]).sub O O⟩))
 ·refine sk (sr (mv b O (cr Y (fun _=>p56 (k0:=2) (d.ul e)) ?_)))
  rintro C D S Y E ⟨_,rfl,i⟩
  have F:=e.n E
  refine ms O (cr Y (fun _=>p76 (K:=[2]) (k0:=3) i.rd) ?_)
  rintro f a G Y k ⟨_,rfl,x⟩
  have y:=F.n k
  refine Nv a O (sr ?_)
  have H:Rd (α:=List Vm.File) G [3,0,2] [a] f:=Ow.rdSh x
  refine mv a O (mv a O (Lw.ln f H O (mv b O (Lw.ln x0 (d.ul y) O (Lw.lt O (Gv a O (Nb O ?_)))))))
  obtain⟨z,I,J,A⟩:=zgV _ 2
  have T:Rd (α:=List Vm.File) z [0] [D] C:=by rw[A];exact((i.up k).rd.dye 2).sub (M:=[0]) O
  have L:Ow (α:=List (Sh Vm.File)) z 3 [0] [a] f:=by rw[A];exact(x.dyeA 2 O).sub O
  have N:=y.t J
  cases Y
  rw[<- I]
  exact Cw.ret (zit O O (Res.mk N ⟨a,O,L.s.sub O O⟩))
theorem p62 {x0 b x1 k0 r}(d:Rd W K [b] x0)(Y:Vm.zcw x0 x1=some r):Q1 62 [b,vS x1] W [] fun W' v=> ∃ a,v = .tuple [a,vB r.2].toArray/\Ow (α:=List (Sh Vm.File)) W' k0 (0::K) [a] r.1:=
 (c62 (d.view _) Y).ad (fk k0) fun _ _ ⟨a,e,f⟩=>⟨a,e,f.backS (zhe _) O⟩
theorem c63 {x0 b x1 x2 r}(f:Rd W0 [0] [b] x0)(Y:Vm.zcx x0 x1 x2=some r):Q0 63 [b,vS x1,vS x2] W0 fun Wf v=> ∃ u0,v = .tuple [u0,vB r.2].toArray/\OwS (α:=List (Sh Vm.File)) Wf LL [0] [u0] r.1:=by
 unfold Vm.zcx at Y
 refine zap.of Tryz.func63 O O O O (sr (Gv (.slice none 0 0) O (Nb O (ssr (mv b O (ca Y (fun _=>p32 f) fun z1 W3 Y l3=>?_))))))
 have P:=l3.o
 refine Lw.r O (R.not O) (nl (cn Y (fun Y=>?_) fun Y=>?_))
 ·refine sr (Gv (.slice none 0 0) O (Nb O ?_))
  cases Y
  exact Cw.ret (zit O O (Res.mk P ⟨.slice none 0 0,O,(zlO [0]).sub O O⟩))
 ·refine sk (sr (mv b O (cr Y (fun _=>p56 (k0:=2) (f.ul P)) ?_)))
  rintro z7 a9 W9 Y l9 ⟨_,rfl,ao⟩
  have bb:=P.n l9
  refine ms O (cr Y (fun _=>p76 (K:=[2]) (k0:=3) ao.rd) ?_)
  rintro D i Q Y ap ⟨_,rfl,aq⟩
  have ar:=bb.n ap
  refine Nv i O (Cw.seq ?_)
  obtain⟨bc,be,Y⟩:=za1 Y
  refine Cw.join 18 27 [27] (fun l w=> ∃ S U,CW.w U=w/\Le [] Q U/\l=[vB S]/\bc S=some r) ?_ ?_
  ·rintro _ _ σ ⟨S,U,rfl,V,rfl,Y⟩
   rw[be]at Y
   have E:=ar.n V
   refine cn Y (fun Y=>?_) fun Y=>?_
   ·refine sr (mv b O (cr Y (fun _=>p56 (k0:=4) (f.ul E)) ?_))
    rintro da au db Y bg ⟨_,rfl,bh⟩
    have bi:=E.n bg
    refine Gv au O (Nb O ?_)
    obtain⟨dc,bj,bk,bl⟩:=bh.toSh
    have bm:=bi.t bk
    cases Y
    rw[<- bj]
    exact Cw.ret (zit O O (Res.mk bm ⟨au,O,bl.s.sub O O⟩))
   ·refine sk (sr (mv b O (Lw.ln x0 (f.ul E) O (Ni O (ssr (Ni O (Cw.block ?_)))))))
    obtain⟨F,bn,bp,av⟩:=zgV _ 2
    rw[<- bn]
    have dd:Rd (α:=List Vm.File) F [0] [a9] z7:=by rw[av];exact(((ao.up ap).up V).rd.dye 2).sub (M:=[0]) O
    have bq:Ow (α:=List (Sh Vm.File)) F 3 [0] [i] D:=by rw[av];exact((aq.up V).dyeA 2 O).sub O
    have br:=E.t bp
    obtain⟨bu,bv,Y⟩:=za1 Y
    refine Cw.loop 32 71 [8,10] (fun m l w=> ∃ (d:List Vm.File) (G:Int) (a:Value) (e:CW),e.w=w/\Le [3,5] F e/\l=[a,vI G]/\Ow (α:=List (Sh Vm.File)) e 3 [0] [a] d/\Vm.zaM x0 x1 x2 bu m d G=some r) _ ⟨D,0,i,F,O,Le.refl _ _,O,bq,Y⟩ ?_
    rintro(_ |de) _ _ σ ⟨d,G,a,e,rfl,aw,rfl,k,Y⟩
    ·cases Y
    unfold Vm.zaM at Y
    have W:=br.t aw
    refine ssr ?_
    have x:=f.ul W
    refine mi O (mv b O (Lw.ln x0 x O (Lw.lt O (nl (cn Y (fun Y=>?_) fun Y=>?_)))))
    ·refine sk ?_
     obtain⟨bw,bz,Y⟩:=za1 Y
     refine Cw.join 38 71 [8] (fun l w=> ∃ (H:List Vm.File) (I:Value) (y:CW),y.w=w/\Le [3,5] e y/\l=[I]/\Ow (α:=List (Sh Vm.File)) y 3 [0] [I] H/\bw H=some r) ?_ ?_
     ·rintro _ _ σ ⟨H,I,y,rfl,b0,rfl,b1,Y⟩
      rw[bz]at Y
      exact rg (mi O (Lw.add O (Ni O ((agm) ⟨H,w64 (G+1),I,y,O,(aw.j b0).w,O,b1,Y⟩))))
     ·refine Cw.block ?_
      obtain⟨b2,b3,Y⟩:=za1 Y
      refine Cw.join 38 53 [53] (fun l w=> ∃ X J,CW.w J=w/\Le [] e J/\l=[vB X]/\b2 X=some r) ?_ ?_
      ·rintro _ _ σ ⟨X,J,rfl,z,rfl,Y⟩
       rw[b3]at Y
       have b4:=W.n z
       refine cn Y (fun Y=>?_) fun Y=>?_
       ·refine Cw.draw [] [(0,0),(1,0),(2,0),(3,0),(4,0),(5,0),(6,1),(7,0),(8,0),(9,0),(10,0),(11,0),(12,0),(13,0),(14,0),(15,1),(16,0),(17,2),(18,0)] mixed (by kernel_rfl) fun b5 Z=>?_
        have b6:=b4.n Z
        have ax:=(k.up z).up Z
        refine Dv a O (Ds O (Dv b O (Di O ?_)))
        obtain⟨u64,aa,Y⟩:=ob Y
        have h:=f.ul b6
        refine Mw.p O O (fun _=>R.ix (α:=File) h aa O O O) (Df O (Mw.q O O (fun _ c=>R.ld O O (zam (File.at0 (h.at_ aa)).1 O (File.at0 (h.at_ aa)).str c)) (Ds O (Mw.p O O (fun _=>R.lenS O) ?_))))
        obtain⟨df,b7,Y⟩:=ob Y
        refine Mw.p O O (fun _=>R.ss b7 O (.inr O) (.inl ⟨O,O⟩)) ?_
        obtain⟨L,b8,Y⟩:=ob Y
        refine Mw.p O O (fun _=>R.sad b8 O O) (Dv b O (Di O ?_))
        obtain⟨ay,ac,Y⟩:=ob Y
        refine Mw.p O O (fun _=>R.ix (α:=File) h ac O O O) (Df O ?_)
        obtain⟨az,c74,r75⟩:=(File.at1 (h.at_ ac)).cell O
        refine Mw.q O O (fun _ c=>R.ld O O (zam (File.at1 (h.at_ ac)).1 O c74 c)) (Mw.p O O (fun _=>R.bd (zs:=[vS ([]:Str), .slice none 0 0]) (cs:=[vS L,az]) [(0,vS L),(1,az)] O O O (zaD O O (zaD r75.oc O zcU))) ?_)
        have b9:Rd (α:=List Vm.File) b5 [3,0] [a] d:=Ow.rdSh ax
        obtain⟨ae,cb,Y⟩:=ob Y
        refine Mw.t O O (T.call O (p74 (K:=[0,3]) (k0:=5) (x1:=(Vm.File.mk L ay.Text)) (b9.sub (M:=[0,3]) O) ((File.rd (K:=[0]) L ay.Text r75).sub (M:=[0,3]) O) cb)) ?_
        rintro N _ ⟨cc,rfl,af,⟨_,rfl,cd⟩⟩
        have ce:Ow (α:=List (Sh Vm.File)) cc 5 [0,3] [N] ae:=cd.sub O
        refine m0 af fun dg=>Hv N O (Mw.nil ?_)
        obtain⟨a0,cf,cg,a1⟩:=zgV _ 3
        have dh:Rd (α:=List Vm.File) a0 [0] [a] d:=by rw[a1];exact((ax.up af).rd.dye 3).sub (M:=[0]) O
        have ch:Ow (α:=List (Sh Vm.File)) a0 5 [0] [N] ae:=by rw[a1];exact(ce.dyeA 3 O).sub O
        obtain⟨ci,cj,ck,cl⟩:=ch.dyeO 3
        exact(ag) ⟨ae,N,ci,cj.trans (cf),((((z.j Z).j af).j cg).j ck).w,O,cl,Y⟩
       ·exact sk ((ag) ⟨d,a,J,O,z.w,O,(k.up z),Y⟩)
      ·refine rg (mv b O (mi O ?_))
       obtain⟨di,a2,Y⟩:=ob Y
       refine Lw.r O (R.ix (α:=File) x a2 O O O) (Lw.fa O (Lw.r O (R.ld O O (File.at0 (x.at_ a2)).str) (ms O (Lw.seq O (mb O (bs Y (fun A Y=>?_) fun A Y=>?_))))))
       ·exact psk 7 A O (Pb A O (nl ((ag) ⟨true,e,O,Le.refl _ _,O,Y⟩)))
       ·refine wak 7 A (ms O (mv b O (mi O ?_)))
        obtain⟨dj,a3,Y⟩:=ob Y
        exact Lw.r O (R.ix (α:=File) x a3 O O O) (Lw.fa O (Lw.r O (R.ld O O (File.at0 (x.at_ a3)).str) (ca Y (fun _=>p45) fun cm co Y cp=>Pb A O (nl ((ag) ⟨cm,co,O,cp,O,Y⟩)))))
    ·refine Cw.exit ?_
     rw[bv]at Y
     refine Cw.seq ?_
     obtain⟨cq,ct,Y⟩:=za1 Y
     refine Cw.join 72 80 [80] (fun l w=> ∃ ah ai,CW.w ai=w/\Le [] e ai/\l=[vB ah]/\cq ah=some r) ?_ ?_
     ·rintro _ _ σ ⟨ah,ai,rfl,a5,rfl,Y⟩
      rw[ct]at Y
      have aj:=W.n a5
      refine cn Y (fun Y=>?_) fun Y=>?_
      ·refine sr (mv b O (cr Y (fun _=>p56 (k0:=6) (f.ul aj)) ?_))
       rintro dk a6 dl Y cu ⟨_,rfl,cv⟩
       have cw:=aj.n cu
       refine Gv a6 O (Nb O ?_)
       obtain⟨dm,cx,cy,cz⟩:=cv.toSh
       have c0:=cw.t cy
       cases Y
       rw[<- cx]
       exact Cw.ret (zit O O (Res.mk c0 ⟨a6,O,cz.s.sub O O⟩))
      ·refine sk (sr (mv a O (Gv a O (Nb O ?_))))
       cases Y
       exact Cw.ret (zit O O (Res.mk aj ⟨a,O,(k.up a5).s.sub O O⟩))
     ·refine rg (mv a O ?_)
      have c1:Rd (α:=List Vm.File) e [3,0] [a] d:=Ow.rdSh k
      refine ca Y (fun _=>p32 (K:=[0,3]) (c1.sub (M:=[0,3]) O)) fun dn ak Y am=>Lw.r O (R.not O) (mb O (bs Y (fun B Y=>?_) fun B Y=>?_))
      ·exact psk 4 B O (Pb B O (nl ((ag) ⟨true,ak,O,am,O,Y⟩)))
      ·refine wak 4 B (mv a O ?_)
       have c2:Rd (α:=List Vm.File) ak [3,0] [a] d:=Ow.rdSh (k.up am)
       exact Lw.ln d c2 O (mi O (Lw.ne O (Pb B O (nl ((ag) ⟨((d.length:Int) !=(x0.length:Int)),ak,O,am,O,Y⟩)))))
  ·refine rg ?_
   have c3:Rd (α:=List Vm.File) Q [3,0,2] [i] D:=Ow.rdSh aq
   refine mv i O (Lw.ln D c3 O (mv b O (Lw.ln x0 (f.ul ar) O (Lw.eq O (mb O (bs Y (fun C Y=>?_) fun C Y=>?_))))))
   ·exact psk 3 C O (Pb C O (nl ((ag) ⟨true,Q,O,Le.refl _ _,O,Y⟩)))
   ·exact wak 3 C (ms O (ca Y (fun _=>p43) fun c4 c5 Y c6=>Lw.r O (R.not O) (Pb C O (nl ((ag) ⟨(!c4),c5,O,c6,O,Y⟩)))))
theorem p63 {x0 b x1 x2 k0 r}(d:Rd W K [b] x0)(Y:Vm.zcx x0 x1 x2=some r):Q1 63 [b,vS x1,vS x2] W [] fun W' v=> ∃ a,v = .tuple [a,vB r.2].toArray/\Ow (α:=List (Sh Vm.File)) W' k0 (0::K) [a] r.1:=
 (c63 (d.view _) Y).ad (fk k0) fun _ _ ⟨a,e,f⟩=>⟨a,e,f.backS (zhe _) O⟩
theorem c64 {x0 X Z x1 x2 r}(h0:Rd W0 [0] [X,Z] x0)(Y:Vm.zby x0 x1 x2=some r):Q0 64 [.agg [X,Z].toArray,vS x1,vI x2] W0 fun Wf v=> ∃ aa ac,v = .tuple [.agg [aa,ac].toArray,vB r.2].toArray/\Rd Wf [0] [aa] r.1.Commits/\Rd Wf [0] [ac] r.1.Heads:=by
 unfold Vm.zby at Y
 obtain⟨co,cp,ae,y,z⟩:=Repo.split h0
 simp only[List.cons.injEq,and_true,true_and]at ae
 obtain⟨rfl,rfl⟩:=ae
 refine zap.of Tryz.func64 O O O O (sr (bo 2 O fun g1 W1 l1 b1=>?_))
 have a2:=l1.o
 refine al 3 [.slice none 0 0, .slice none 0 0] fun g3 W3 E b3=>?_
 have F:=a2.n E
 refine Nb O (ssr (la (b1.up E) (ca Y (fun _=>p17 (Repo.rd (K:=[0]) x0.Commits x0.Heads (y.ul F) (z.ul F))) fun z8 cx Y l10=>?_)))
 have A:=F.n l10
 have ai:=(b1.up E).up l10
 refine Lw.r O (R.not O) (nl (cn Y (fun Y=>?_) fun Y=>?_))
 ·refine sr (Lw.r O (R.bd (zs:=[.slice none 0 0, .slice none 0 0]) (cs:=[.slice none 0 0, .slice none 0 0]) [] O O O zcU) (sta (b3.up l10) (zaa O (zaa O zaw)) fun cy a5 a6=>?_))
  have a7:=A.t a5
  refine Nb O ?_
  cases Y
  exact Cw.ret (zeM O a6 O (Res.mk a7 ⟨.slice none 0 0, .slice none 0 0,O,(rdN (K:=[0])),(rdN (K:=[0]))⟩))
 ·refine sk (sr (la ai (cr Y (fun _=>p36 (k0:=4) (k1:=5) (Repo.rd (K:=[0]) x0.Commits x0.Heads (y.ul A) (z.ul A))) ?_)))
  rintro e _ cz Y G ⟨a8,a9,rfl,aj,ak⟩
  have ba:=A.n G
  refine ms O (mi O (cr Y (fun _=>p77 (K:=[4,5]) (x0:=(Vm.Repo.mk e.Commits e.Heads)) (Repo.rd (K:=[4,5]) e.Commits e.Heads (aj.rd.sub (M:=[4,5]) O) (ak.rd.sub (M:=[4,5]) O))) ?_))
  rintro f _ c0 Y h ⟨H,I,rfl,bb,bc⟩
  have B:=bb.sub (M:=[0,4,5]) O
  have C:=bc.sub (M:=[0,4,5]) O
  have be:=ba.n h
  refine al 6 [.slice none 0 0, .slice none 0 0] fun c1 c2 a bg=>?_
  have bh:=be.n a
  refine sta bg (zaa B.oc (zaa C.oc zaw)) fun bi b am=>?_
  have J:=bh.t b
  have an:=(((ai.up G).up h).up a).up b
  refine nl (Cw.seq ?_)
  obtain⟨bj,bk,Y⟩:=za1 Y
  refine Cw.join 18 26 [26] (fun l w=> ∃ L N,CW.w N=w/\Le [] bi N/\l=[vB L]/\bj L=some r) ?_ ?_
  ·rintro _ _ σ ⟨L,N,rfl,d,rfl,Y⟩
   rw[bk]at Y
   have D:=J.n d
   have ao:=(((((b3.up l10).up G).up h).up a).up b).up d
   refine cn Y (fun Y=>?_) fun Y=>?_
   ·refine sr (la (an.up d) (cr Y (fun _=>p36 (k0:=7) (k1:=8) (Repo.rd (K:=[0]) x0.Commits x0.Heads (y.ul D) (z.ul D))) ?_))
    rintro ap _ c3 Y aq ⟨ar,au,rfl,av,aw⟩
    have bl:=D.n aq
    refine sta (ao.up aq) (zaa av.oc (zaa aw.oc zaw)) fun c4 P bm=>?_
    have bn:=bl.t P
    refine Nb O ?_
    obtain⟨bp,bq,Q,br⟩:=zgV _ 7
    have bu:Rd (α:=List Vm.Commit) bp [0] [ar] ap.Commits:=by rw[br];exact((av.up P).rd.dye 7).sub (M:=[0]) O
    have bv:=bn.t Q
    obtain⟨bw,bz,ax,b0⟩:=zgV _ 8
    have b2:Rd (α:=List Vm.Head) bw [0] [au] ap.Heads:=by rw[b0];exact(((aw.up P).up Q).rd.dye 8).sub (M:=[0]) O
    have ay:=ax.s
    cases Y
    rw[<- bz.trans (bq)]
    exact Cw.ret (zeM O ((bm.up Q).up ax) O (Res.mk (bv.trans ay) ⟨ar,au,O,(bu.ul ay),b2⟩))
   ·refine sk (sr (la (am.up d) (sta ao (zaa B.oc (zaa C.oc zaw)) fun c5 i b4=>?_)))
    have b5:=D.t i
    refine Nb O ?_
    have b6:=B.up ((a.sub (M:=[3,6]) O).trans ((b.sub (M:=[3,6]) O).trans ((d.sub (M:=[3,6]) O).trans (i.sub (M:=[3,6]) O)))) O
    have b7:=C.up ((a.sub (M:=[3,6]) O).trans ((b.sub (M:=[3,6]) O).trans ((d.sub (M:=[3,6]) O).trans (i.sub (M:=[3,6]) O)))) O
    obtain⟨S,b8,T,U⟩:=zgV _ 4
    have b9:Rd S [0,5] [H] f.Commits:=by rw[U];exact(b6.dye 4).sub (M:=[0,5]) O
    have cb:Rd S [0,5] [I] f.Heads:=by rw[U];exact(b7.dye 4).sub (M:=[0,5]) O
    have c6:Rd (α:=List Vm.Commit) S [0] [a8] e.Commits:=by rw[U];exact((((((aj.up h).up a).up b).up d).up i).rd.dye 4).sub (M:=[0]) O
    have cc:=b5.t T
    obtain⟨V,cd,az,W⟩:=zgV _ 5
    have ce:Rd V [0] [H] f.Commits:=by rw[W];exact(b9.dye 5).sub (M:=[0]) O
    have cf:Rd V [0] [I] f.Heads:=by rw[W];exact(cb.dye 5).sub (M:=[0]) O
    have c7:Rd (α:=List Vm.Head) V [0] [a9] e.Heads:=by rw[W];exact(((((((ak.up h).up a).up b).up d).up i).up T).rd.dye 5).sub (M:=[0]) O
    have cg:=cc.t az
    cases Y
    rw[<- cd.trans (b8)]
    exact Cw.ret (zeM O ((b4.up T).up az) O (Res.mk cg ⟨H,I,O,ce,cf⟩))
  ·refine rg (la an (ms O (ca Y (fun _=>p59 (Repo.rd (K:=[0]) x0.Commits x0.Heads (y.ul J) (z.ul J))) fun c8 ch Y k=>Lw.ge O (mb O (bs Y (fun x Y=>?_) fun x Y=>?_)))))
   ·exact psk 3 x O (Pb x O (nl ((ag) ⟨true,ch,O,k,O,Y⟩)))
   ·refine wak 3 x (la (am.up k) ?_)
    have ci:=B.up ((a.sub (M:=[6]) O).trans ((b.sub (M:=[6]) O).trans (k.sub (M:=[6]) O))) O
    have cj:=C.up ((a.sub (M:=[6]) O).trans ((b.sub (M:=[6]) O).trans (k.sub (M:=[6]) O))) O
    exact ca Y (fun _=>p17 (K:=[0,4,5]) (Repo.rd (K:=[0,4,5]) f.Commits f.Heads ci cj)) fun ck cl Y cm=>Lw.r O (R.not O) (Pb x O (nl ((ag) ⟨(!ck),cl,O,(k.j cm).w,O,Y⟩)))
theorem p64 {x0 d f x1 x2 r}(h:Rd W K [d,f] x0)(Y:Vm.zby x0 x1 x2=some r):Q1 64 [.agg [d,f].toArray,vS x1,vI x2] W [] fun W' v=> ∃ a b,v = .tuple [.agg [a,b].toArray,vB r.2].toArray/\Rd W' (0::K) [a] r.1.Commits/\Rd W' (0::K) [b] r.1.Heads:=
 (c64 (h.view _) Y).ad (fk 0) fun _ _ ⟨a,b,e,i,k⟩=>⟨a,b,e,i.back O,k.back O⟩
end Go.Sx
