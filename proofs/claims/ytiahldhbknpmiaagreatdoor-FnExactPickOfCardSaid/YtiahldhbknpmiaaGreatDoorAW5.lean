/- Walks: each function answers as its model, printed by a program of ours. Conditions: the arguments read as they are given. -/
import Derived.Test.YtiahldhbknpmiaaGreatDoorATs
import Derived.Test.YtiahldhbknpmiaaGreatDoorAM1
import Derived.Test.YtiahldhbknpmiaaGreatDoorAW1
import Derived.Test.YtiahldhbknpmiaaGreatDoorAW2
import Derived.Test.YtiahldhbknpmiaaGreatDoorAE
namespace Go.Sx
open Go Go.Proofs Go.Vm Rp
set_option linter.unusedVariables false
set_option linter.unusedSimpArgs false
variable {W W0:CW}{K:List Nat}
theorem c87 {x0 y a9 x1 x2 r}(h0:Rd W0 [0] [y,a9] x0)(Y:Vm.zfi x0 x1 x2=some r):Q0 87 [.agg [y,a9].toArray,vS x1,vI x2] W0 fun Wf v=> ∃ ba bb,v = .agg [ba,bb].toArray/\Rd Wf [0] [ba] r.Commits/\Rd Wf [0] [bb] r.Heads:=by
 unfold Vm.zfi at Y
 obtain⟨du,dv,bc,an,I⟩:=Repo.split h0
 simp only[List.cons.injEq,and_true,true_and]at bc
 obtain⟨rfl,rfl⟩:=bc
 refine zaz.of Tryz.func87 O O O O (sr (bo 2 O fun g1 W1 l1 b1=>?_))
 have a2:=l1.o
 refine al 3 [.slice none 0 0, .slice none 0 0] fun g3 W3 l3 b3=>?_
 have a4:=a2.n l3
 refine nl (sr (fl (b1.up l3) O (Lw.r O (R.bd (zs:=[.slice none 0 0, .slice none 0 0]) (cs:=[y, .slice none 0 0]) [(0,y)] O O O (zbc an.oc O ze4)) (al 4 [.slice none 0 0, .slice none 0 0] fun J W6 l6 b6=>?_))))
 have a7:=a4.n l6
 refine sta b6 (zaa an.oc (zaa O za0)) fun bg l10 cf=>?_
 have bh:=a7.t l10
 refine nl (sr (Nb O (ssr (Ni O (Cw.block ?_)))))
 obtain⟨cg,ch,Y⟩:=zbM Y
 refine Cw.loop 13 57 [8,9] (fun m l w=> ∃ L N b z d A a,CW.w a=w/\Le [4,5] bg a/\l=[vB L,vI N]/\Rd a [0] [d] b/\Ow a 5 [] [A] z/\Bx a 4 J [d,A]/\Vm.zcD x0 x1 x2 cg m L N b z=some r) _ ⟨false,0,x0.Commits,([]:List Head),y, .slice none 0 0,bg,O,Le.refl _ _,O,(an.ul bh),owN 5 [],cf,Y⟩ ?_
 rintro(_ |d1) _ _ σ ⟨L,N,b,z,d,A,a,rfl,P,rfl,r18,Q,S,Y⟩
 ·cases Y
 unfold Vm.zcD at Y
 have aq:=bh.t P
 have U:=(((b1.up l3).up l6).up l10).up P
 refine ssr ?_
 have ar:=I.ul aq
 refine mi O (fl U O (Lw.ln x0.Heads ar O (Lw.lt O (nl (cn Y (fun Y=>?_) fun Y=>?_)))))
 ·refine sk ?_
  obtain⟨ci,cj,Y⟩:=zbM Y
  refine Cw.join 20 57 [8] (fun l w=> ∃ V W X Z aa e,CW.w e=w/\Le [4,5] a e/\l=[vB V]/\Rd e [0] [Z] W/\Ow e 5 [] [aa] X/\Bx e 4 J [Z,aa]/\ci V W X=some r) ?_ ?_
  ·rintro _ _ σ ⟨V,W,X,Z,aa,e,rfl,ck,rfl,r35,cl,cm,Y⟩
   rw[cj]at Y
   exact rg (mi O (Lw.add O (Ni O ((agm) ⟨V,w64 (N+1),W,X,Z,aa,e,O,(P.j ck).w,O,r35,cl,cm,Y⟩))))
  ·refine Cw.block ?_
   obtain⟨co,cp,Y⟩:=zbM Y
   refine Cw.join 20 39 [8] (fun l w=> ∃ B C ac D ae f,CW.w f=w/\Le [4,5] a f/\l=[vB B]/\Rd f [0] [D] C/\Ow f 5 [] [ae] ac/\Bx f 4 J [D,ae]/\co B C ac=some r) ?_ ?_
   ·rintro _ _ σ ⟨B,C,ac,D,ae,f,rfl,E,rfl,r48,bi,au,Y⟩
    rw[cp]at Y
    have av:=aq.t E
    refine sr (fl (U.up E) O (mi O ?_))
    obtain⟨d2,bj,Y⟩:=ob Y
    refine Lw.r O (R.ix (α:=Head) (I.ul av) bj O O O) (Lw.fa O (Lw.r O (R.ld O O (Head.at0 ((I.ul av).at_ bj)).str) (ms O (Lw.sne O (nl (cn Y (fun Y=>?_) fun Y=>?_))))))
    ·refine Cw.draw [5] [(0,0),(1,1),(2,0),(3,1),(4,0),(5,0),(6,1),(7,2),(8,2),(9,0),(10,3)] mixed (by kernel_rfl) fun d3 h=>?_
     have bk:=h.o
     refine Dfl (au.up h) O O O (Dfl ((U.up E).up h) O O O (Di O ?_))
     obtain⟨i,aw,Y⟩:=ob Y
     have ax:=I.ul (av.trans bk)
     refine Mw.p O O (fun _=>R.ix (α:=Head) ax aw O O O) ?_
     obtain⟨x71,c72,_,r73⟩:=(ax.at_ aw).cells
     obtain rfl:=Head.split r73
     refine Mw.q O O (fun _ c=>R.lda (zkX (ax.at_ aw).1 O c72 c) O O) (Mw.t O O (T.bs 6 [.agg [vS i.Name,vI i.At].toArray] (cs:=[vS i.Name,vI i.At]) O O (bsA O)) ?_)
     rintro _ _ ⟨d4,d5,rfl,rfl,F,cq⟩
     have ct:=bk.n F
     refine m0 F fun cu=>?_
     obtain⟨cv,cw,Y⟩:=ob Y
     refine Mw.t O O (T.app1S (α:=Head) (K':=[]) ((bi.up h).up F) cq (Head.rd (K:=[]) i.Name i.At) O O cw) ?_
     rintro bl _ ⟨d6,rfl,af,bm⟩
     have cx:=ct.t af
     refine mc cu af fun d7=>Df O (Mw.lu O (T.st (j:=1) (v:=bl) (((au.up h).up F).up af) O O bm.oc O O) ?_)
     rintro _ _ ⟨cy,rfl,ay,cz⟩
     have c0:=cx.t ay
     exact Mw.nil ((ag) ⟨B,C,cv,D,bl,cy,O,((((E.j h).j F).j af).j ay).w,O,(r48.ul c0),(bm.up ay),cz,Y⟩)
    ·exact sk ((ag) ⟨B,C,ac,D,ae,f,O,E,O,r48,bi,au,Y⟩)
   ·obtain⟨c1,c2,Y⟩:=zbM Y
    refine Cw.join 20 31 [31] (fun l w=> ∃ az ah,CW.w ah=w/\Le [] a ah/\l=[vB az]/\c1 az=some r) ?_ ?_
    ·rintro _ _ σ ⟨az,ah,rfl,k,rfl,Y⟩
     rw[c2]at Y
     have bn:=k.o
     have a0:=S.up k
     refine cn Y (fun Y=>?_) fun Y=>?_
     ·refine sr (fl a0 O (ms O (mi O (Lw.r O (R.bd (zs:=[vS ([]:Str),vI 0]) (cs:=[vS x1,vI x2]) [(0,vS x1),(1,vI x2)] O O O (zbc O O (zbc O O ze4))) (Lw.t O (T.bs 7 [.agg [vS x1,vI x2].toArray] (cs:=[vS x1,vI x2]) O O (bsA O)) ?_)))))
      rintro _ _ ⟨d8,d9,rfl,rfl,ai,c3⟩
      have c4:=bn.n ai
      obtain⟨c5,c6,Y⟩:=ob Y
      refine Lw.t O (T.app1S (α:=Head) (K':=[]) ((Q.up k).up ai) c3 (Head.rd (K:=[]) x1 x2) O O c6) ?_
      rintro bp _ ⟨ea,rfl,a1,bq⟩
      have c7:=c4.t a1
      refine Lw.fa O (Lw.u (T.st (j:=1) (v:=bp) ((a0.up ai).up a1) O O bq.oc O O) ?_)
      rintro _ _ ⟨c8,rfl,a3,c9⟩
      have da:=c7.t a3
      exact nl (rg (Nb O ((ag) ⟨true,b,c5,d,bp,c8,O,(((k.j ai).j a1).j a3).w,O,(r18.ul da),(bq.up a3),c9,Y⟩)))
     ·exact sk ((ag) ⟨L,b,z,d,A,ah,O,k.w,O,(r18.ul bn),(Q.up k),a0,Y⟩)
    ·refine rg (mb O (Lw.r O (R.not O) (mb O (bs Y (fun G Y=>?_) fun G Y=>?_))))
     ·refine wak 8 G (fl U O (mi O ?_))
      obtain⟨db,br,Y⟩:=ob Y
      exact Lw.r O (R.ix (α:=Head) ar br O O O) (Lw.fa O (Lw.r O (R.ld O O (Head.at0 (ar.at_ br)).str) (ms O (Lw.r O (R.sge O O) (Pb G O (nl ((ag) ⟨(!Op.bytesLess db.Name x1),a,O,Le.refl _ _,O,Y⟩)))))))
     ·exact psk 8 G O (Pb G O (nl ((ag) ⟨false,a,O,Le.refl _ _,O,Y⟩)))
 ·refine Cw.exit ?_
  rw[ch]at Y
  obtain⟨dc,dd,Y⟩:=zbM Y
  refine Cw.join 58 67 [] (fun l w=> ∃ a5 aj ak H x,CW.w x=w/\Le [4,5] a x/\l=[]/\Rd x [0] [ak] a5/\Ow x 5 [] [H] aj/\Bx x 4 J [ak,H]/\dc a5 aj=some r) ?_ ?_
  ·rintro _ _ σ ⟨a5,aj,ak,H,x,rfl,bu,rfl,r131,bv,de,Y⟩
   rw[dd]at Y
   have df:=aq.t bu
   refine sr (la de (sta ((((b3.up l6).up l10).up P).up bu) (zaa r131.oc (zaa bv.oc za0)) fun eb bw dg=>?_))
   have bz:=bw.s
   refine nl ?_
   obtain⟨dh,di,b0,dj⟩:=zn3 _ 5
   have dk:Rd (α:=List Vm.Head) dh [0] [H] aj:=by rw[dj];exact((bv.up bw).rd.dye 5).sub (M:=[0]) O
   have b2:=b0.s
   cases Y
   rw[<- di]
   exact Cw.ret (zn1 O (dg.up b0) (Res.mk ((df.trans bz).trans b2) ⟨ak,H,O,(r131.ul (bz.trans b2)),dk⟩))
  ·refine sr (mb O (Lw.r O (R.not O) (nl (cn Y (fun Y=>?_) fun Y=>?_))))
   ·refine rg (fl S O (ms O (mi O (Lw.r O (R.bd (zs:=[vS ([]:Str),vI 0]) (cs:=[vS x1,vI x2]) [(0,vS x1),(1,vI x2)] O O O (zbc O O (zbc O O ze4))) (Lw.t O (T.bs 8 [.agg [vS x1,vI x2].toArray] (cs:=[vS x1,vI x2]) O O (bsA O)) ?_)))))
    rintro _ _ ⟨ec,ed,rfl,rfl,am,dl⟩
    have dm:=am.o
    obtain⟨dn,dp,Y⟩:=ob Y
    refine Lw.t O (T.app1S (α:=Head) (K':=[]) (Q.up am) dl (Head.rd (K:=[]) x1 x2) O O dp) ?_
    rintro b4 _ ⟨ee,rfl,a6,b5⟩
    have dq:=dm.t a6
    refine Lw.fa O (Lw.u (T.st (j:=1) (v:=b4) ((S.up am).up a6) O O b5.oc O O) ?_)
    rintro _ _ ⟨dr,rfl,a8,ds⟩
    have dt:=dq.t a8
    exact nl ((ag) ⟨b,dn,d,b4,dr,O,((am.j a6).j a8).w,O,(r18.ul dt),(b5.up a8),ds,Y⟩)
   ·exact sk ((ag) ⟨b,z,d,A,a,O,Le.refl _ _,O,r18,Q,S,Y⟩)
theorem p87 {x0 d f x1 x2 r}(h:Rd W K [d,f] x0)(Y:Vm.zfi x0 x1 x2=some r):Q1 87 [.agg [d,f].toArray,vS x1,vI x2] W [] fun W' v=> ∃ a b,v = .agg [a,b].toArray/\Rd W' (0::K) [a] r.Commits/\Rd W' (0::K) [b] r.Heads:=
 (c87 (h.view _) Y).ad (fk 0) fun _ _ ⟨a,b,e,i,k⟩=>⟨a,b,e,i.back O,k.back O⟩
theorem c143 {x0 x a x1 x2 d e r}(h0:Rd W0 [0] [x,a] x0)(h2:Rd W0 [0] [d,vS x2.Who,e] x2)(Y:Vm.zeL x0 x1 x2=some r):Q0 143 [.agg [x,a].toArray,vS x1, .agg [d,vS x2.Who,e].toArray] W0 fun Wf v=> ∃ ah ai,v = .agg [ah,ai].toArray/\Rd Wf [0] [ah] r.Commits/\Rd Wf [0] [ai] r.Heads:=by
 unfold Vm.zeL at Y
 obtain⟨c9,da,aj,ak,E⟩:=Repo.split h0
 simp only[List.cons.injEq,and_true,true_and]at aj
 obtain⟨rfl,rfl⟩:=aj
 obtain⟨db,dc,am,bc,be⟩:=Commit.split h2
 simp only[List.cons.injEq,and_true,true_and]at am
 obtain⟨rfl,rfl⟩:=am
 refine zaz.of Tryz.func143 O O O O (sr (bo 2 O fun y W1 l1 b1=>?_))
 have a2:=l1.o
 refine bo 3 O fun g3 W3 l3 b3=>?_
 have a4:=a2.n l3
 refine al 4 [.slice none 0 0, .slice none 0 0] fun g6 W6 F b6=>?_
 have a7:=a4.n F
 refine nl (Cw.seq ?_)
 obtain⟨A,bn,Y⟩:=ob Y
 obtain⟨f,bp,Y⟩:=ob Y
 refine Cw.par [[],[],[1],[0,1,2],[],[4],[0,1,2,3,4,5],[],[7],[0,1,2,3,4,5,6,7,8],[],[0,1,2,3,4,5,6,7,8,9,10]] [[],[],[1],[0,2],[],[4],[3,5],[],[7],[6,8],[],[6,9,10]] [[],[],[],[5],[],[],[5],[],[],[],[],[7]] [[0],[1],[2],[3],[4],[5],[6],[7],[8],[6,9],[10],[6,10]] [[5],[],[],[0,5],[],[6],[0,5],[],[],[],[7],[7]] [1,2,4,5,6,7,8,9,11] [5,7] [fun vs W=>Ow W 5 [] [(vs 0)] ([]:List Commit),fun vs W=>(vs 1)=ptr ((bx y).add 0),fun vs W=>(vs 2)=x,fun vs W=>Ow (α:=List (Sh Vm.Commit)) W 5 [0] [(vs 3)] A,fun vs W=>(vs 4) = .agg [d,vS x2.Who,e].toArray,fun vs W=>(vs 5) = .slice (some (bx (pg (vs 5)))) 1 1/\Bx W 6 (pg (vs 5)) [d,vS x2.Who,e],fun vs W=>Ow (α:=List (Sh Vm.Commit)) W 5 [0] [(vs 6)] f,fun vs W=>(vs 7)=ptr ((bx y).add 1),fun vs W=>(vs 8)=a,fun vs W=>(vs 9) = .agg [(vs 6),a].toArray,fun vs W=>(vs 10)=ptr (bx (pg (vs 10)))/\Bx W 7 (pg (vs 10)) [.slice none 0 0, .slice none 0 0],fun vs W=>(vs 10)=ptr (bx (pg (vs 10)))/\Bx W 7 (pg (vs 10)) [(vs 6),a]] [] mixed (by kernel_rfl) O zrl.nil ?_
 intro di B
 have G:=a7.n B
 have H:=((b1.up l3).up F).up B
 refine⟨(zbu.cons ?_ (zbu.cons ?_ (zbu.cons ?_ (zbu.cons ?_ (zbu.cons ?_ (zbu.cons ?_ (zbu.cons ?_ (zbu.cons ?_ (zbu.cons ?_ (zbu.cons ?_ (zbu.cons ?_ (zbu.cons ?_ zbu.nil)))))))))))),(zeJ.cons SO (zeJ.cons SE (zeJ.cons SE (zeJ.cons (fun vs vs' W W' _ hv l hd h=>by(show Ow (α:=List (Sh Vm.Commit)) W' 5 [0] [(vs' 3)] A);rw[hv 3 (zaY O)];exact h.up l (znb hd (K:=[5,0]) O)) (zeJ.cons SE (zeJ.cons (fun vs vs' W W' _ hv l hd h=>by(show(vs' 5) = .slice (some (bx (pg (vs' 5)))) 1 1/\Bx W' 6 (pg (vs' 5)) [d,vS x2.Who,e]);rw[hv 5 (zaY O)];exact⟨h.1,h.2.up l (zeg hd (c:=6) O)⟩) (zeJ.cons (fun vs vs' W W' _ hv l hd h=>by(show Ow (α:=List (Sh Vm.Commit)) W' 5 [0] [(vs' 6)] f);rw[hv 6 (zaY O)];exact h.up l (znb hd (K:=[5,0]) O)) (zeJ.cons SE (zeJ.cons SE (zeJ.cons (fun vs vs' W W' _ hv l hd h=>by(show(vs' 9) = .agg [(vs' 6),a].toArray);rw[hv 6 (zaY O),hv 9 (zaY O)];exact h) (zeJ.cons (fun vs vs' W W' _ hv l hd h=>by(show(vs' 10)=ptr (bx (pg (vs' 10)))/\Bx W' 7 (pg (vs' 10)) [.slice none 0 0, .slice none 0 0]);rw[hv 10 (zaY O)];exact⟨h.1,h.2.up l (zeg hd (c:=7) O)⟩) (zeJ.cons (fun vs vs' W W' _ hv l hd h=>by(show(vs' 10)=ptr (bx (pg (vs' 10)))/\Bx W' 7 (pg (vs' 10)) [(vs' 6),a]);rw[hv 6 (zaY O),hv 10 (zaY O)];exact⟨h.1,h.2.up l (zeg hd (c:=7) O)⟩) zeJ.nil)))))))))))),?_⟩
 ·intro vs dj lW hN hV
  refine Tr.mono (T.lit0 (α:=Commit) 5 []) ?_
  rintro bq _ ⟨ao,rfl,br,bu⟩
  exact⟨ao,O,br,(show Ow ao 5 [] [bq] ([]:List Commit) from bu)⟩
 ·intro vs dk lW hN hV
  exact Trq (R.fa O) O
 ·intro vs dl lW hN hV
  have I:vs 1=ptr ((bx y).add 0):=(hN 1 (zaY O))
  obtain⟨vs,rfl⟩:=zaC I
  exact Trq (R.ld (v:=x) O O ((H.up lW O).cell O)) O
 ·intro vs bv lW hN hV
  have bw:=G.t lW O
  obtain⟨bz,b0⟩: ∃ v,vs 0=v:=⟨_,O⟩
  obtain⟨vs,rfl⟩:=zaC b0
  have b2:Ow bv 5 [] [bz] ([]:List Commit):=(hN 0 (zaY O))
  have J:vs 2=x:=(hN 2 (zaY O))
  obtain⟨vs,rfl⟩:=zaC J
  obtain⟨dm,b4,ap,b5⟩:=b2.toSh
  rw[<- b4]
  have b7:=bw.t ap
  refine Tr.mono (T.appS (α:=Sh Vm.Commit) (K':=[0]) b5 (ak.ul b7).shL O O bn) ?_
  rintro b8 _ ⟨aq,rfl,b9,cb⟩
  exact⟨aq,O,((ap.sub (M:=[5]) O).trans (b9.sub (M:=[5]) O)),(show Ow (α:=List (Sh Vm.Commit)) aq 5 [0] [b8] A from cb)⟩
 ·intro vs dn lW hN hV
  exact Trq (R.lda (cs:=[d,vS x2.Who,e]) (((b3.up F).up B).up lW O).cells O O) O
 ·intro vs dp lW hN hV
  have L:vs 4 = .agg [d,vS x2.Who,e].toArray:=(hN 4 (zaY O))
  obtain⟨vs,rfl⟩:=zaC L
  refine Tr.mono (T.bs 6 [.agg [d,vS x2.Who,e].toArray] (cs:=[d,vS x2.Who,e]) O O (bsA O)) ?_
  rintro _ _ ⟨N,ar,rfl,rfl,cc,cd⟩
  exact⟨ar,O,cc,(show(.slice (some (bx N)) 1 1:Value) = .slice (some (bx N)) 1 1/\Bx ar 6 N [d,vS x2.Who,e] from⟨O,cd⟩)⟩
 ·intro vs au lW hN hV
  have av:=G.t lW O
  obtain⟨ce,cf⟩: ∃ v,vs 3=v:=⟨_,O⟩
  obtain⟨vs,rfl⟩:=zaC cf
  have cg:Ow (α:=List (Sh Vm.Commit)) au 5 [0] [ce] A:=(hN 3 (zaY O))
  obtain⟨k,P⟩: ∃ k,vs 5 = .slice (some (bx k)) 1 1:=⟨_,((hN 5 (zaY O))).1⟩
  obtain⟨vs,rfl⟩:=zaC P
  have ch:Bx au 6 k [d,vS x2.Who,e]:=(hN 5 (zaY O)).2
  refine Tr.mono (T.app1S (α:=Sh Vm.Commit) (K':=[0]) cg ch (Commit.rd (K:=[0]) x2.Parents x2.Who x2.Tree (bc.ul av) (be.ul av)).sh1 O O bp) ?_
  rintro ci _ ⟨aw,rfl,cj,ck⟩
  exact⟨aw,O,cj,(show Ow (α:=List (Sh Vm.Commit)) aw 5 [0] [ci] f from ck)⟩
 ·intro vs dq lW hN hV
  exact Trq (R.fa O) O
 ·intro vs dr lW hN hV
  have Q:vs 7=ptr ((bx y).add 1):=(hN 7 (zaY O))
  obtain⟨vs,rfl⟩:=zaC Q
  exact Trq (R.ld (v:=a) O O ((H.up lW O).cell O)) O
 ·intro vs cl lW hN hV
  obtain⟨b,z⟩: ∃ v,vs 6=v:=⟨_,O⟩
  obtain⟨vs,rfl⟩:=zaC z
  have cm:Ow (α:=List (Sh Vm.Commit)) cl 5 [0] [b] f:=(hN 6 (zaY O))
  have S:vs 8=a:=(hN 8 (zaY O))
  obtain⟨vs,rfl⟩:=zaC S
  exact Trq (R.bd (zs:=[.slice none 0 0, .slice none 0 0]) (cs:=[b,a]) [(0,b),(1,a)] O O O (zbc cm.oc O (zbc E.oc O ze4))) O
 ·intro vs ds lW hN hV
  refine Tr.mono (T.alloc 7 (cs:=[.slice none 0 0, .slice none 0 0]) O) ?_
  rintro _ _ ⟨U,ax,rfl,rfl,co,cp⟩
  exact⟨ax,O,co,(show(ptr (bx U):Value)=ptr (bx U)/\Bx ax 7 U [.slice none 0 0, .slice none 0 0] from⟨O,cp⟩)⟩
 ·intro vs ay lW hN hV
  obtain⟨b,z⟩: ∃ v,vs 6=v:=⟨_,O⟩
  obtain⟨vs,rfl⟩:=zaC z
  have cq:Ow (α:=List (Sh Vm.Commit)) ay 5 [0] [b] f:=(hN 6 (zaY O))
  have V:vs 9 = .agg [b,a].toArray:=(hN 9 (zaY O))
  obtain⟨vs,rfl⟩:=zaC V
  obtain⟨i,X⟩: ∃ i,vs 10=ptr (bx i):=⟨_,((hN 10 (zaY O))).1⟩
  obtain⟨vs,rfl⟩:=zaC X
  have ct:Bx ay 7 i [.slice none 0 0, .slice none 0 0]:=(hN 10 (zaY O)).2
  refine Tr.mono (T.sta (vs:=[b,a]) ct O O (zaa cq.oc (zaa E.oc za0)) O O) ?_
  rintro _ _ ⟨az,rfl,cu,cv⟩
  exact⟨az,O,cu,(show(ptr (bx i))=ptr (bx i)/\Bx az 7 i [b,a] from⟨O,cv⟩)⟩
 ·intro vs C Z hN
  have aa:=G.t Z
  have I:vs 1=ptr ((bx y).add 0):=(hN 1 (zaY O))
  obtain⟨vs,rfl⟩:=zaC I
  have J:vs 2=x:=(hN 2 (zaY O))
  obtain⟨vs,rfl⟩:=zaC J
  have L:vs 4 = .agg [d,vS x2.Who,e].toArray:=(hN 4 (zaY O))
  obtain⟨vs,rfl⟩:=zaC L
  obtain⟨k,P⟩: ∃ k,vs 5 = .slice (some (bx k)) 1 1:=⟨_,((hN 5 (zaY O))).1⟩
  obtain⟨vs,rfl⟩:=zaC P
  have dt:Bx C 6 k [d,vS x2.Who,e]:=(hN 5 (zaY O)).2
  obtain⟨b,z⟩: ∃ v,vs 6=v:=⟨_,O⟩
  obtain⟨vs,rfl⟩:=zaC z
  have a0:Ow (α:=List (Sh Vm.Commit)) C 5 [0] [b] f:=(hN 6 (zaY O))
  have Q:vs 7=ptr ((bx y).add 1):=(hN 7 (zaY O))
  obtain⟨vs,rfl⟩:=zaC Q
  have S:vs 8=a:=(hN 8 (zaY O))
  obtain⟨vs,rfl⟩:=zaC S
  have V:vs 9 = .agg [b,a].toArray:=(hN 9 (zaY O))
  obtain⟨vs,rfl⟩:=zaC V
  obtain⟨i,X⟩: ∃ i,vs 10=ptr (bx i):=⟨_,(hN 11 (zaY O)).1⟩
  obtain⟨vs,rfl⟩:=zaC X
  have cw:Bx C 7 i [b,a]:=(hN 11 (zaY O)).2
  refine sr (Lw.r O (R.lda (cs:=[b,a]) cw.cells O O) (ms O (fl (H.up Z) O (Lw.ln x0.Commits (ak.ul aa) O ?_))))
  have cx:Rd (α:=List Vm.Commit) C [5,0] [b] f:=Ow.rdSh a0
  refine cr Y (fun _=>p87 (K:=[0,5]) (x0:=(Vm.Repo.mk f x0.Heads)) (Repo.rd (K:=[0,5]) f x0.Heads (cx.sub (M:=[0,5]) O) ((E.ul aa).sub (M:=[0,5]) O))) ?_
  rintro a1 _ du Y ac ⟨a3,a5,rfl,cy,cz⟩
  have a6:=cy.sub (M:=[0,5]) O
  have a8:=cz.sub (M:=[0,5]) O
  have c0:=aa.n ac
  refine sta (((b6.up B).up Z).up ac) (zaa a6.oc (zaa a8.oc za0)) fun dv D c1=>?_
  have c2:=c0.t D
  refine nl ?_
  have c3:=a6.up (D.sub (M:=[4]) O) O
  have c4:=a8.up (D.sub (M:=[4]) O) O
  obtain⟨ae,c5,a9,af⟩:=zn3 _ 5
  have c6:Rd ae [0] [a3] a1.Commits:=by rw[af];exact(c3.dye 5).sub (M:=[0]) O
  have c7:Rd ae [0] [a5] a1.Heads:=by rw[af];exact(c4.dye 5).sub (M:=[0]) O
  have dw:Rd (α:=List Vm.Commit) ae [0] [b] f:=by rw[af];exact(((a0.up ac).up D).rd.dye 5).sub (M:=[0]) O
  have c8:=c2.t a9
  cases Y
  rw[<- c5]
  exact Cw.ret (zn1 O (c1.up a9) (Res.mk c8 ⟨a3,a5,O,c6,c7⟩))
theorem p143 {x0 d f x1 x2 h i r}(k:Rd W K [d,f] x0)(x:Rd W K [h,vS x2.Who,i] x2)(Y:Vm.zeL x0 x1 x2=some r):Q1 143 [.agg [d,f].toArray,vS x1, .agg [h,vS x2.Who,i].toArray] W [] fun W' v=> ∃ a b,v = .agg [a,b].toArray/\Rd W' (0::K) [a] r.Commits/\Rd W' (0::K) [b] r.Heads:=
 (c143 (k.view _) (x.view _) Y).ad (fk 0) fun _ _ ⟨a,b,e,y,z⟩=>⟨a,b,e,y.back O,z.back O⟩
theorem c117 {x0 k r}(x:Rd W0 [0] [k] x0)(Y:Vm.zbI x0=some r):Q0 117 [k] W0 fun Wf v=> ∃ C,v=C/\OwS Wf LL [] [C] r:=by
 unfold Vm.zbI at Y
 refine zaz.of Tryz.func117 O O O O (sr (Nv (.slice none 0 0) O (sr (Nv (.slice none 0 0) O (ssr (mv k O (Lw.ln x0 x O (mi O (nl (Cw.block ?_))))))))))
 obtain⟨N,P,Y⟩:=zbM Y
 refine Cw.loop 8 21 [3,5,8] (fun m l w=> ∃ y e a D f,CW.w f=w/\Le [2,3,4] W0 f/\l=[a,D,vI e]/\Ow f 2 [] [a] y/\Vm.zbQ x0 N m y e=some r) _ ⟨([]:List File),0, .slice none 0 0,undef,W0,O,Le.refl _ _,O,owN 2 [],Y⟩ ?_
 rintro(_ |m8) _ _ σ ⟨y,e,a,D,f,rfl,E,rfl,F,Y⟩
 ·cases Y
 unfold Vm.zbQ at Y
 have z:=E.s
 refine sr (Lw.lt O (nl (Cw.seq (cn Y (fun Y=>?_) fun Y=>?_))))
 ·refine sk (Cw.seq (Cw.block (sr ?_)))
  obtain⟨b,G,Y⟩:=ob Y
  refine Lw.r O (R.ix (α:=File) (x.ul z) G O O O) ?_
  obtain⟨x14,c15,_,r16⟩:=((x.ul z).at_ G).cells
  obtain⟨ak,rfl,r18⟩:=File.split r16
  refine Lw.r O (R.lda c15 O O) (al 3 [vS ([]:Str), .slice none 0 0] fun Q am A S=>?_)
  have U:=A.o
  refine sta S (zaa O (zaa r18.oc za0)) fun an B H=>?_
  have V:=U.t B
  refine nl (Cw.draw [2,4] [(0,0),(1,0),(2,1),(3,0),(4,1),(5,2),(6,0),(7,2),(8,2),(9,0)] mixed (by kernel_rfl) fun ao d=>?_)
  have W:=V.n d
  refine Dv a O (Dfl (H.up d) O O O (Dfl (H.up d) O O O (Dc Y (Le.refl _ _) (fun _=>p168 (k0:=4) (r18.ul W)) O ?_)))
  rintro X h ap Y I ⟨_,rfl,K⟩ Z
  refine Mw.p O O (fun _=>R.bd (zs:=[vS ([]:Str), .slice none 0 0]) (cs:=[vS b.Path,h]) [(0,vS b.Path),(1,h)] O O O (zbc O O (zbc K.oc O ze4))) (Mw.t O O (T.bs 5 [.agg [vS b.Path,h].toArray] (cs:=[vS b.Path,h]) O O (bsA O)) ?_)
  rintro _ _ ⟨aq,ar,rfl,rfl,i,aa⟩
  refine mc Z i fun ac=>?_
  obtain⟨ae,af,Y⟩:=ob Y
  refine Mw.t O O (T.app1 (α:=File) (J:=[4]) (K':=[]) (((((F.up A).up B).up d).up I).up i) aa (File.own b.Path X (K.up i).s) O O af) ?_
  rintro L _ ⟨ah,rfl,M,ai⟩
  exact mc ac M fun au=>Hv L O (Mw.nil (rg (Lw.add O (mi O (nl ((agm) ⟨ae,w64 (e+1),L,ptr (bx Q),ah,O,((((((E.j A).j B).j d).j I).j i).j M).w,O,ai,Y⟩))))))
 ·refine Cw.exit ?_
  rw[P]at Y
  refine sr (mv a O (Nv a O ?_))
  cases Y
  exact Cw.ret (zkN O (Res.mk z ⟨a,O,F.s.sub O O⟩))
theorem p117 {x0 b k0 r}(d:Rd W K [b] x0)(Y:Vm.zbI x0=some r):Q1 117 [b] W [] fun W' v=> ∃ a,v=a/\Ow W' k0 [] [a] r:=
 (c117 (d.view _) Y).ad (fk k0) fun _ _ ⟨a,e,f⟩=>⟨a,e,f.back (ziQ _)⟩
theorem c90 {x0 ac ae r}(h0:Rd W0 [0] [ac,ae] x0)(Y:Vm.zaP x0=some r):Q0 90 [.agg [ac,ae].toArray] W0 fun Wf v=> ∃ af ah,v = .agg [af,ah].toArray/\OwS Wf [31] [] [af] r.Commits/\OwS Wf [32] [] [ah] r.Heads:=by
 unfold Vm.zaP at Y
 obtain⟨co,cp,ai,H,a1⟩:=Repo.split h0
 simp only[List.cons.injEq,and_true,true_and]at ai
 obtain⟨rfl,rfl⟩:=ai
 refine zaz.of Tryz.func90 O O O O (sr (bo 2 O fun g1 W1 l1 b1=>?_))
 have a2:=l1.o
 refine al 3 [.slice none 0 0, .slice none 0 0] fun g3 W3 l3 b3=>?_
 have a4:=a2.n l3
 refine nl (sr (Lw.t O (T.lit0 (α:=Head) 4 []) ?_))
 rintro v6 _ ⟨W6,rfl,I,o6⟩
 have a7:=a4.n I
 have b8:=(b1.up l3).up I
 refine fl b8 O ?_
 obtain⟨bb,bc,Y⟩:=ob Y
 refine Lw.t O (T.appP (α:=Head) o6 (a1.ul a7) O O bc) ?_
 rintro K _ ⟨cy,rfl,L,M⟩
 have be:=a7.t L
 refine Lw.r O (R.bd (zs:=[.slice none 0 0, .slice none 0 0]) (cs:=[.slice none 0 0,K]) [(1,K)] O O O (zbc M.oc O ze4)) (al 5 [.slice none 0 0, .slice none 0 0] fun bg cz i bh=>?_)
 have bi:=be.n i
 refine sta bh (zaa O (zaa (M.up i).oc za0)) fun an A bj=>?_
 have ao:=bi.t A
 refine nl (ssr (fl (((b8.up L).up i).up A) O (Lw.ln x0.Commits (H.ul ao) O (mi O (nl (Cw.block ?_))))))
 obtain⟨bk,bl,Y⟩:=zbM Y
 refine Cw.loop 14 33 [5,14] (fun m l w=> ∃ B N C ap D k b,CW.w b=w/\Le [5,6,7,8,9] an b/\l=[ap,vI B]/\Ow b 6 [] [D] N/\Ow b 4 [] [k] C/\Bx b 5 bg [D,k]/\Vm.zbR x0 bk m B N C=some r) _ ⟨0,([]:List Commit),bb,undef, .slice none 0 0,K,an,O,Le.refl _ _,O,owN 6 [],((M.up i).up A),bj,Y⟩ ?_
 rintro(_ |c0) _ _ σ ⟨B,N,C,ap,D,k,b,rfl,P,rfl,Q,S,aq,Y⟩
 ·cases Y
 unfold Vm.zbR at Y
 have U:=ao.t P
 refine sr (Lw.lt O (nl (Cw.seq (cn Y (fun Y=>?_) fun Y=>?_))))
 ·refine sk (Cw.seq (Cw.block (sr ?_)))
  obtain⟨x,ar,Y⟩:=ob Y
  refine Lw.r O (R.ix (α:=Commit) (H.ul U) ar O O O) ?_
  obtain⟨x47,c48,_,r49⟩:=((H.ul U).at_ ar).cells
  obtain⟨c1,c2,rfl,r51,r53⟩:=Commit.split r49
  refine Lw.r O (R.lda c48 O O) (al 7 [.slice none 0 0,vS ([]:Str), .slice none 0 0] fun bm c3 y bn=>?_)
  have bp:=y.o
  refine sta bn (zaa r51.oc (zaa O (zaa r53.oc za0))) fun c4 z bq=>?_
  have br:=bp.t z
  refine nl (Cw.draw [6,8,9] [(0,0),(1,1),(3,0),(4,1),(6,0),(7,1),(8,0),(9,1),(2,2),(5,2),(10,2),(11,0),(12,2),(13,2),(14,0),(15,3)] mixed (by kernel_rfl) fun c5 d=>?_)
  have bu:=br.n d
  have au:=((aq.up y).up z).up d
  have V:=bq.up d
  refine Dfl au O O O (Dfl V O O O (Dfl V O O O (Dfl V O O O (Mw.t O O (T.lit0 (α:=Int) 8 []) ?_))))
  rintro c6 _ ⟨c7,rfl,e,bv⟩
  have av:=bu.n e
  refine m0 e fun bw=>?_
  obtain⟨bz,b0,Y⟩:=ob Y
  refine Mw.t O O (T.appP (α:=Int) bv (r51.ul av) O O b0) ?_
  rintro E _ ⟨c8,rfl,f,aw⟩
  have b2:=av.t f
  refine mc bw f fun b4=>Dc Y b4 (fun _=>p117 (k0:=9) (r53.ul b2)) O ?_
  rintro b5 F c9 Y h ⟨_,rfl,ax⟩ b6
  refine Mw.p O O (fun _=>R.bd (zs:=[.slice none 0 0,vS ([]:Str), .slice none 0 0]) (cs:=[E,vS x.Who,F]) [(0,E),(1,vS x.Who),(2,F)] O O O (zbc (aw.up h).oc O (zbc O O (zbc ax.oc O ze4)))) (Mw.t O O (T.bs 10 [.agg [E,vS x.Who,F].toArray] (cs:=[E,vS x.Who,F]) O O (bsA O)) ?_)
  rintro _ _ ⟨da,db,rfl,rfl,a,b7⟩
  refine mc b6 a fun b9=>?_
  obtain⟨cb,cc,Y⟩:=ob Y
  refine Mw.t O O (T.app1 (α:=Commit) (J:=[8,9]) (K':=[]) (((((((Q.up y).up z).up d).up e).up f).up h).up a) b7 (Commit.own bz x.Who b5 ((aw.up h).up a).s (ax.up a).s) O O cc) ?_
  rintro ay _ ⟨dc,rfl,G,az⟩
  refine mc b9 G fun dd=>Df O (Mw.lu O (T.st (j:=0) (v:=ay) (((((au.up e).up f).up h).up a).up G) O O az.oc O O) ?_)
  rintro _ _ ⟨cd,rfl,W,ce⟩
  exact Mw.nil (rg (Lw.add O (mi O (nl ((agm) ⟨w64 (B+1),cb,C,ptr (bx bm),ay,k,cd,O,(((((((((P.j y).j z).j d).j e).j f).j h).j a).j G).j W).w,O,(az.up W),(((((((((S.up y).up z).up d).up e).up f).up h).up a).up G).up W),ce,Y⟩)))))
 ·refine Cw.exit ?_
  rw[bl]at Y
  refine sr (la aq (sta (((((b3.up I).up L).up i).up A).up P) (zaa Q.oc (zaa S.oc za0)) fun de X cf=>?_))
  have cg:=U.t X
  refine nl ?_
  obtain⟨df,ch,Z,ci⟩:=(Q.up X).dyeO 31
  have cj:=cg.t Z
  obtain⟨dg,ck,aa,cl⟩:=((S.up X).up Z).dyeO 32
  have cm:=cj.t aa
  cases Y
  rw[<- ck.trans (ch)]
  exact Cw.ret (zn1 O ((cf.up Z).up aa) (Res.mk cm ⟨D,k,O,(ci.up aa).s,cl.s⟩))
theorem p90 {x0 d f k0 k1 r}(h:Rd W K [d,f] x0)(Y:Vm.zaP x0=some r):Q1 90 [.agg [d,f].toArray] W [] fun W' v=> ∃ a b,v = .agg [a,b].toArray/\Ow W' k0 [] [a] r.Commits/\Ow W' k1 [] [b] r.Heads:=
 zaz.adJ (J:=[]) (fun c=>bif Nat.beq c 0 then 0 else bif Nat.beq c 31 then k0 else bif Nat.beq c 32 then k1 else 0) (c90 (h.view _) Y) fun _ _ ⟨a,b,e,i,k⟩=>⟨a,b,e,i.one1.backN O,k.one1.backN O⟩
theorem c119 {x0 e x1 f x2 h r}(B:Rd W0 [0] [e] x0)(C:Rd W0 [0] [f] x1)(D:Rd W0 [0] [h] x2)(i:Gl 0 W0 [0])(Y:Vm.zd6 x0 x1 x2=some r):Q0 119 [e,f,h] W0 fun Wf v=>v=vB r:=by
 unfold Vm.zd6 at Y
 refine zaz.of Tryz.func119 O O O O (sr (Nb O ?_))
 obtain⟨E,F,Y⟩:=zbM Y
 refine Cw.join 7 16 [6] (fun l w=> ∃ k x,CW.w x=w/\Le [] W0 x/\l=[vB k]/\E k=some r) ?_ ?_
 ·rintro _ _ σ ⟨k,x,rfl,G,rfl,Y⟩
  rw[F]at Y
  have H:=G.o
  exact .ret (rt Y H)
 ·refine rg (mv e O (ca Y (fun _=>p114 B i) fun N I Y d=>?_))
  have y:=d.o
  refine mb O (bs Y (fun a Y=>?_) fun a Y=>?_)
  ·refine wak 2 a (mv f O (ca Y (fun _=>p114 (C.ul y) (i.ul y)) fun P J Y z=>?_))
   have A:=y.n z
   refine Pb a O (mb O (bs Y (fun b Y=>?_) fun b Y=>?_))
   ·exact wak 2 b (mv h O (ca Y (fun _=>p114 (D.ul A) (i.ul A)) fun K L Y M=>Pb b O (Nb O ((ag) ⟨K,L,O,((d.j z).j M).w,O,Y⟩))))
   ·exact psk 2 b O (Pb b O (Nb O ((ag) ⟨false,J,O,(d.j z).w,O,Y⟩)))
  ·exact psk 2 a O (Pb a O (mb O (psk 2 O O (Pb O O (Nb O ((ag) ⟨false,I,O,d,O,Y⟩))))))
theorem p119 {x0 a x1 b x2 d r}(f:Rd W K [a] x0)(h:Rd W K [b] x1)(i:Rd W K [d] x2)(k:Gl 0 W K)(Y:Vm.zd6 x0 x1 x2=some r):Q1 119 [a,b,d] W [] fun W' v=>v=vB r:=
 (c119 (f.view _) (h.view _) (i.view _) (k.view _) Y).ad (fk 0) fun _ _ e=>e
theorem c175 {x0 x r}(y:Rd W0 [0] [x] x0)(Y:Vm.zeH x0=some r):Q0 175 [x] W0 fun Wf v=> ∃ E,v=E/\OwS Wf LL [] [E] r:=by
 unfold Vm.zeH at Y
 refine zaz.of Tryz.func175 O O O O (sr (Nv (.slice none 0 0) O (sr (Nv (.slice none 0 0) O (ssr (mv x O (Lw.ln x0 y O (mi O (nl (Cw.block ?_))))))))))
 obtain⟨X,Z,Y⟩:=zbM Y
 refine Cw.loop 10 26 [3,5,7,10] (fun m l w=> ∃ f h a F z b,CW.w b=w/\Le [2,3] W0 b/\l=[a,F,z,vI h]/\Ow b 2 [] [a] f/\Vm.zaW x0 X m f h=some r) _ ⟨([]:List Str),0, .slice none 0 0,undef,undef,W0,O,Le.refl _ _,O,owN 2 [],Y⟩ ?_
 rintro(_ |m9) _ _ σ ⟨f,h,a,F,z,b,rfl,G,rfl,H,Y⟩
 ·cases Y
 unfold Vm.zaW at Y
 have A:=G.s
 refine sr (Lw.lt O (nl (Cw.seq (cn Y (fun Y=>?_) fun Y=>?_))))
 ·refine sk (Cw.seq (Cw.block (sr ?_)))
  obtain⟨I,J,Y⟩:=ob Y
  refine Lw.r O (R.ix (α:=List File) (y.ul A) J O O O) ?_
  obtain⟨B,c16,r17⟩:=((y.ul A).at_ J).cell O
  refine Lw.r O (R.ld O O c16) (Nv B O (sr (mv B O (Lw.ln I r17 O (mi O (nl (Cw.block ?_)))))))
  obtain⟨aa,ac,Y⟩:=zbM Y
  refine Cw.loop 16 25 [3,7,16] (fun m l w=> ∃ i k d C e,CW.w e=w/\Le [2,3] b e/\l=[d,C,vI k]/\Ow e 2 [] [d] i/\Vm.zbS I aa m i k=some r) _ ⟨f,0,a,z,b,O,Le.refl _ _,O,H,Y⟩ ?_
  rintro(_ |ay) _ _ σ ⟨i,k,d,C,e,rfl,D,rfl,L,Y⟩
  ·cases Y
  unfold Vm.zbS at Y
  have M:=D.s
  refine sr (Lw.lt O (nl (Cw.seq (cn Y (fun Y=>?_) fun Y=>?_))))
  ·refine sk (Cw.seq (Cw.block (sr ?_)))
   obtain⟨N,P,Y⟩:=ob Y
   refine Lw.r O (R.ix (α:=File) (r17.ul M) P O O O) ?_
   obtain⟨x31,c32,_,r33⟩:=((r17.ul M).at_ P).cells
   obtain⟨az,rfl,r35⟩:=File.split r33
   refine Lw.r O (R.lda c32 O O) (al 3 [vS ([]:Str), .slice none 0 0] fun ae a0 Q af=>sta af (zaa O (zaa r35.oc za0)) fun a1 S ah=>nl (rg (mv d O (fl ah O (Lw.t O (T.bs 4 [vS N.Path] (cs:=[vS N.Path]) O O (bsv O)) ?_)))))
   rintro _ _ ⟨a2,a3,rfl,rfl,U,ai⟩
   obtain⟨aj,ak,Y⟩:=ob Y
   refine Lw.t O (T.app1S (α:=Str) (K':=[]) (((L.up Q).up S).up U) ai (rdS _) O O ak) ?_
   rintro V _ ⟨am,rfl,an,ao⟩
   exact Nv V O (rg (Lw.add O (mi O (nl ((agm) ⟨aj,w64 (k+1),V,ptr (bx ae),am,O,((((D.j Q).j S).j U).j an).w,O,ao,Y⟩)))))
  ·refine Cw.exit ?_
   rw[ac]at Y
   exact rg (Lw.add O (mi O (nl ((agm) ⟨i,w64 (h+1),d,B,C,e,O,(G.j D).w,O,L,Y⟩))))
 ·refine Cw.exit ?_
  rw[Z]at Y
  refine sr (mv a O (cr Y (fun _=>p164 (K:=[0]) (c0:=2) H O) ?_))
  rintro a4 _ a5 Y ap ⟨rfl,aq⟩
  have ar:=A.t ap
  refine nl (sr (mv a O (cr Y (fun _=>p172 (K:=[0]) (k0:=5) (c0:=2) aq O) ?_)))
  rintro a6 W a7 Y au ⟨_,rfl,av⟩
  have aw:=ar.t au
  refine Nv W O ?_
  cases Y
  exact Cw.ret (zkN O (Res.mk aw ⟨W,O,av.s.sub O O⟩))
theorem p175 {x0 b k0 r}(d:Rd W K [b] x0)(Y:Vm.zeH x0=some r):Q1 175 [b] W [] fun W' v=> ∃ a,v=a/\Ow W' k0 [] [a] r:=
 (c175 (d.view _) Y).ad (fk k0) fun _ _ ⟨a,e,f⟩=>⟨a,e,f.back (ziQ _)⟩
theorem c177 {x0 d x1 r}(x:Rd W0 [0] [d] x0)(Y:Vm.zgl x0 x1=some r):Q0 177 [d,vS x1] W0 fun Wf v=> ∃ f,v = .agg [f,vB r.file].toArray/\OwS Wf LL [] [f] r.text:=by
 unfold Vm.zgl at Y
 refine zaz.of Tryz.func177 O O O O (sr (al 2 [.slice none 0 0,vB false] fun D E y z=>?_))
 have h:=y.o
 refine nl (sr (mv d O (ms O (cr Y (fun _=>p165 (k0:=3) (x.ul h)) ?_))))
 rintro b _ F Y i ⟨a,rfl,e⟩
 have A:=h.n i
 refine mv (.tuple [a,vB b.2].toArray) O (Lw.r O (R.ext (vs:=[a,vB b.2]) (v:=a) O O) (Lw.r O (R.ext (vs:=[a,vB b.2]) (v:=vB b.2) O O) (Gv a O (Nb O (sr (mv a O (mb O (Lw.r O (R.bd (zs:=[.slice none 0 0,vB false]) (cs:=[a,vB b.2]) [(0,a),(1,vB b.2)] O O O (zbc e.oc O (zbc O O ze4))) (sta (z.up i) (zaa e.oc (zaa O za0)) fun G k B=>?_)))))))))
 have C:=A.t k
 refine nl ?_
 cases Y
 exact Cw.ret (zn1 O B (Res.mk C ⟨a,O,(e.up k).s.sub O O⟩))
theorem p177 {x0 b x1 k0 r}(d:Rd W K [b] x0)(Y:Vm.zgl x0 x1=some r):Q1 177 [b,vS x1] W [] fun W' v=> ∃ a,v = .agg [a,vB r.file].toArray/\Ow W' k0 [] [a] r.text:=
 (c177 (d.view _) Y).ad (fk k0) fun _ _ ⟨a,e,f⟩=>⟨a,e,f.back (ziQ _)⟩
theorem c203 {x0 h x1 i r}(B:Rd W0 [0] [h,vB x0.file] x0)(C:Rd W0 [0] [i,vB x1.file] x1)(Y:Vm.zdO x0 x1=some r):Q0 203 [.agg [h,vB x0.file].toArray, .agg [i,vB x1.file].toArray] W0 fun Wf v=>v=vB r:=by
 unfold Vm.zdO at Y
 obtain⟨P,k,D⟩:=has.split B
 simp only[List.cons.injEq,and_true,true_and]at k
 obtain rfl:=k
 obtain⟨Q,x,E⟩:=has.split C
 simp only[List.cons.injEq,and_true,true_and]at x
 obtain rfl:=x
 refine zaz.of Tryz.func203 O O O O (sr (bo 2 O fun S T F y=>?_))
 have G:=F.o
 refine bo 3 O fun U z b A=>?_
 have d:=G.n b
 refine Nb O ?_
 obtain⟨H,I,Y⟩:=zbM Y
 refine Cw.join 5 16 [4] (fun l w=> ∃ e f,CW.w f=w/\Le [] z f/\l=[vB e]/\H e=some r) ?_ ?_
 ·rintro _ _ σ ⟨e,f,rfl,J,rfl,Y⟩
  rw[I]at Y
  have K:=d.n J
  exact .ret (rt Y K)
 ·refine rg (fl (y.up b) O (fl A O (Lw.r O (R.beq O O) (mb O (bs Y (fun a Y=>?_) fun a Y=>?_)))))
  ·exact wak 5 a (fl (y.up b) O (fl A O (ca Y (fun _=>p166 (D.ul d) (E.ul d)) fun L M Y N=>Pb a O (Nb O ((ag) ⟨L,M,O,N,O,Y⟩)))))
  ·exact psk 5 a O (Pb a O (Nb O ((ag) ⟨false,z,O,Le.refl _ _,O,Y⟩)))
theorem p203 {x0 a x1 b r}(d:Rd W K [a,vB x0.file] x0)(f:Rd W K [b,vB x1.file] x1)(Y:Vm.zdO x0 x1=some r):Q1 203 [.agg [a,vB x0.file].toArray, .agg [b,vB x1.file].toArray] W [] fun W' v=>v=vB r:=
 (c203 (d.view _) (f.view _) Y).ad (fk 0) fun _ _ e=>e
theorem c255 {x0 e x1 f x2 h r}(z:Rd W0 [0] [e] x0)(A:Rd W0 [0] [f] x1)(B:Rd W0 [0] [h] x2)(Y:Vm.zeI x0 x1 x2=some r):Q0 255 [e,f,h] W0 fun Wf v=>v=vB r:=by
 unfold Vm.zeI at Y
 refine zaz.of Tryz.func255 O O O O (sr (Nb O ?_))
 obtain⟨C,D,Y⟩:=zbM Y
 refine Cw.join 7 16 [6] (fun l w=> ∃ i k,CW.w k=w/\Le [] W0 k/\l=[vB i]/\C i=some r) ?_ ?_
 ·rintro _ _ σ ⟨i,k,rfl,E,rfl,Y⟩
  rw[D]at Y
  have F:=E.o
  exact .ret (rt Y F)
 ·refine rg (mv e O (ca Y (fun _=>p174 z) fun M G Y d=>?_))
  have y:=d.o
  refine mb O (bs Y (fun a Y=>?_) fun a Y=>?_)
  ·refine wak 2 a (mv f O (ca Y (fun _=>p174 (A.ul y)) fun N H Y x=>?_))
   have I:=y.n x
   refine Pb a O (mb O (bs Y (fun b Y=>?_) fun b Y=>?_))
   ·exact wak 2 b (mv h O (ca Y (fun _=>p174 (B.ul I)) fun J K Y L=>Pb b O (Nb O ((ag) ⟨J,K,O,((d.j x).j L).w,O,Y⟩))))
   ·exact psk 2 b O (Pb b O (Nb O ((ag) ⟨false,H,O,(d.j x).w,O,Y⟩)))
  ·exact psk 2 a O (Pb a O (mb O (psk 2 O O (Pb O O (Nb O ((ag) ⟨false,G,O,d,O,Y⟩))))))
theorem p255 {x0 a x1 b x2 d r}(f:Rd W K [a] x0)(h:Rd W K [b] x1)(i:Rd W K [d] x2)(Y:Vm.zeI x0 x1 x2=some r):Q1 255 [a,b,d] W [] fun W' v=>v=vB r:=
 (c255 (f.view _) (h.view _) (i.view _) Y).ad (fk 0) fun _ _ e=>e
theorem c277 {x0 i x1 k a r}(I:Rd W0 [0] [i] x0)(hB1:Bx W0 2 k [a])(b:Ow W0 3 [] [a] x1)(Y:Vm.zbK x0 x1=some r):Q0 277 [i,ptr (bx k)] W0 fun Wf v=> ∃ uc1,v = .tuple #[]/\Ow Wf 3 [] [uc1] r/\Bx Wf 2 k [uc1]:=by
 unfold Vm.zbK at Y
 refine zaz.of Tryz.func277 O O O O (ssr (mv i O (Lw.ln x0 I O (Lw.eq O (nl (cn Y (fun Y=>?_) fun Y=>?_))))))
 ·cases Y
  exact Cw.ret (zCg (Res.mk (Le.refl _ _) ⟨a,O,b,hB1⟩))
 ·refine sk (sr (Lw.r O (R.ld (v:=a) O O (hB1.cell0 O)) (Lw.ln x1 b.rd O (Lw.sub O (Ni O ?_)))))
  obtain⟨V,W,Y⟩:=zbM Y
  refine Cw.join 10 24 [3] (fun l w=> ∃ A B d e,CW.w e=w/\Le [2,3] W0 e/\l=[vI A]/\Ow e 3 [] [d] B/\Bx e 2 k [d]/\V A B=some r) ?_ ?_
  ·rintro _ _ σ ⟨A,B,d,e,rfl,X,rfl,Z,b6,Y⟩
   rw[W]at Y
   have a9:=X.s
   refine Cw.draw [3,4] [(0,1),(1,0),(2,1),(3,0),(4,0),(5,0),(7,0),(6,2),(8,2),(9,0),(10,0),(11,3)] mixed (by kernel_rfl) fun a1 l10=>?_
   have ae:=a9.n l10
   have x:=Z.up l10
   have C:=b6.up l10
   refine Mw.q O O (fun _ c=>R.ld (v:=d) O O (C.clc0 O O c)) (Di O (Mw.q O O (fun _ c=>R.ld (v:=d) O O (C.clc0 O O c)) (Di O ?_)))
   obtain⟨a2,D,Y⟩:=ob Y
   refine Mw.p O O (fun _=>R.ix (α:=Part) x.rd D O O O) (Df O (Dv i O ?_))
   obtain⟨a3,c17,r18⟩:=(Part.at1 (x.rd.at_ D)).cell O
   refine Mw.t O O (Run.tr (R.ld O O c17)) ?_
   rintro _ _ ⟨hu,rfl⟩
   obtain rfl:=hu.symm
   refine⟨⟨_,O,(Le.refl _ _)⟩,?_⟩
   obtain⟨a4,af,E,ah,ai⟩:=Ow.take (α:=Part) (β:=List Str) (j:=4) (jf:=1) x D c17 O
   rw[<- af]
   have K:=ae.t E
   obtain⟨a5,aj,Y⟩:=ob Y
   refine Mw.t O O (T.appP (α:=Str) ah (I.ul K) O O aj) ?_
   rintro a6 _ ⟨a7,rfl,y,ak⟩
   have am:=K.t y
   refine⟨⟨_,O,((E.sub (M:=[3,4]) O).trans (y.sub (M:=[3,4]) O))⟩,?_⟩
   obtain⟨a8,an,Y⟩:=ob Y
   refine Mw.p O O (fun _=>R.ix (α:=Part) x.rd an O O O) (Df O ?_)
   obtain⟨ba,ao,Y⟩:=ob Y
   refine Mw.lu O (T.stH (α:=Part) (β:=List Str) (J:=[4]) (ai.up (y.sub (M:=[4]) O) O) ak.s ao O O O O) ?_
   rintro _ _ ⟨bb,rfl,L,ap⟩
   have aq:=am.t L
   refine Mw.nil ?_
   cases Y
   show zwl _ _ _ .ret _ _
   exact zCg (Res.mk aq ⟨d,O,ap,(((C.up E).up y).up L)⟩)
  ·obtain⟨ar,au,Y⟩:=zbM Y
   refine Cw.join 10 18 [18] (fun l w=> ∃ F z,CW.w z=w/\Le [] W0 z/\l=[vB F]/\ar F=some r) ?_ ?_
   ·rintro _ _ σ ⟨F,z,rfl,f,rfl,Y⟩
    rw[au]at Y
    have G:=hB1.up f
    refine cn Y (fun Y=>?_) fun Y=>?_
    ·refine sr (lz G O (Lw.r O (R.bd (zs:=[vB false, .slice none 0 0, .slice none 0 0, .slice none 0 0, .slice none 0 0]) (cs:=[vB false, .slice none 0 0, .slice none 0 0, .slice none 0 0, .slice none 0 0]) [] O O O ze4) (Lw.t O (T.bs 5 [.agg [vB false, .slice none 0 0, .slice none 0 0, .slice none 0 0, .slice none 0 0].toArray] (cs:=[vB false, .slice none 0 0, .slice none 0 0, .slice none 0 0, .slice none 0 0]) O O (bsA O)) ?_)))
     rintro _ _ ⟨bc,be,rfl,rfl,H,av⟩
     obtain⟨aw,ax,Y⟩:=ob Y
     refine Lw.t O (T.app1 (α:=Part) (J:=[]) (K':=[]) ((b.up f).up H) av (Part.own false ([]:List Str) ([]:List Str) ([]:List Str) ([]:List Str) (znU []) (znU []) (znU []) (znU [])) O O ax) ?_
     rintro N _ ⟨bg,rfl,P,Q⟩
     refine Lw.u (T.st0 (v:=N) ((G.up H).up P) O O Q.oc O O) ?_
     rintro _ _ ⟨ay,rfl,S,az⟩
     exact nl (rg (mi O (Lw.add O (Ni O ((ag) ⟨w64 ((w64 ((x1.length:Int)-1))+1),aw,N,ay,O,(((f.j H).j P).j S).w,O,(Q.up S),az,Y⟩)))))
    ·exact sk ((ag) ⟨w64 ((x1.length:Int)-1),x1,a,z,O,f.w,O,(b.up f),G,Y⟩)
   ·refine rg (mi O (Lw.lt O (mb O (bs Y (fun h Y=>?_) fun h Y=>?_))))
    ·exact psk 5 h O (Pb h O (nl ((ag) ⟨true,W0,O,Le.refl _ _,O,Y⟩)))
    ·refine wak 5 h (Lw.r O (R.ld (v:=a) O O (hB1.cell0 O)) (mi O ?_))
     obtain⟨a0,U,Y⟩:=ob Y
     exact Lw.r O (R.ix (α:=Part) b.rd U O O O) (Lw.fa O (Lw.r O (R.ld O O (Part.at0 (b.rd.at_ U)).bool) (Pb h O (nl ((ag) ⟨a0.Clash,W0,O,Le.refl _ _,O,Y⟩)))))
theorem p277 {x0 b x1 a d c0 c1 r}(f:Rd W K [b] x0)(hB1:Bx W c0 a [d])(h:Ow W c1 [] [d] x1)(hJ:okJ K [c0,c1]=true)(Y:Vm.zbK x0 x1=some r):Q1 277 [b,ptr (bx a)] W [c0,c1] fun W' v=> ∃ uc1,v = .tuple #[]/\Ow W' c1 [] [uc1] r/\Bx W' c0 a [uc1]:=
 zaz.adJ (J:=[c0,c1]) (fun c=>bif Nat.beq c 0 then 0 else bif Nat.beq c 2 then c0 else bif Nat.beq c 3 then c1 else 0) (c277 (f.view _) (hB1.viewJ 0 hJ) (h.viewJ 1 hJ) Y) fun _ _ ⟨uc1,e,i,k⟩=>⟨uc1,e,Ow.backJ 1 i O,Bx.backJ 0 k O⟩
theorem c256 {x0 b x1 d x2 e r}(z:Rd W0 [0] [b] x0)(Z:Rd W0 [0] [d] x1)(h2:Rd W0 [0] [e] x2)(Y:Vm.zfp x0 x1 x2=some r):Q0 256 [b,d,e] W0 fun Wf v=> ∃ u0,v=u0/\OwS Wf LL [] [u0] r:=by
 unfold Vm.zfp at Y
 refine zaz.of Tryz.func256 O O O O (sr (Nv (.slice none 0 0) O (sr (mv b O (mv d O (cr Y (fun _=>p199 (k0:=2) z Z) ?_))))))
 rintro z1 fg W3 Y l3 ⟨_,rfl,c5⟩
 have a4:=l3.o
 refine mv d O (Lw.ln x1 (Z.ul a4) O (Lw.t O (T.bs 3 [vI (x1.length:Int)] (cs:=[vI (x1.length:Int)]) O O (bsv O)) ?_))
 rintro _ _ ⟨g6,W6,rfl,rfl,l6,b6⟩
 have a7:=a4.n l6
 obtain⟨q9,c8,Y⟩:=ob Y
 refine Lw.t O (T.app1S (α:=Int) (K':=[]) (c5.up l6) b6 (rdI _) O O c8) ?_
 rintro P _ ⟨fm,rfl,c9,da⟩
 have a0:=a7.t c9
 refine mv b O (mv e O (cr Y (fun _=>p199 (k0:=4) (z.ul a0) (h2.ul a0)) ?_))
 rintro fn fo fp Y b5 ⟨_,rfl,db⟩
 have b7:=a0.n b5
 refine mv e O (Lw.ln x2 (h2.ul b7) O (Lw.t O (T.bs 5 [vI (x2.length:Int)] (cs:=[vI (x2.length:Int)]) O O (bsv O)) ?_))
 rintro _ _ ⟨fq,fr,rfl,rfl,a1,dc⟩
 have dd:=b7.n a1
 obtain⟨de,df,Y⟩:=ob Y
 refine Lw.t O (T.app1S (α:=Int) (K':=[]) (db.up a1) dc (rdI _) O O df) ?_
 rintro ac _ ⟨fs,rfl,b8,dg⟩
 have dh:=dd.t b8
 refine Gv P O (Nv ac O (sr (al 6 [.slice none 0 0] fun f b9 a2 di=>?_)))
 have dj:=dh.n a2
 have cb:=(((da.up b5).up a1).up b8).up a2
 refine nl (sr (Lw.r O (R.mkF (vs:=[ptr (bx f)]) O) (Nv (.func (.func 277) #[] [ptr (bx f)].toArray) O (sr (Gi O (Gi O (Ni O (ssr (mv P O (Lw.ln q9 cb.rd O (mi O (nl (Cw.block ?_)))))))))))))
 obtain⟨dk,dl,Y⟩:=zbM Y
 refine Cw.loop 35 120 [11,12,13,14,15,16,17,35] (fun m l w=> ∃ k h i a I cc a3 a5 a6 A x,CW.w x=w/\Le [6,7,8,9,10] b9 x/\l=[vI k,vI h,vI i,cc,a3,a5,a6,vI a]/\Ow x 7 [] [A] I/\Bx x 6 f [A]/\Vm.zaM x0 x1 x2 q9 de dk m k h i a I=some r) _ ⟨0,0,0,0,([]:List Part),undef,undef,undef,undef, .slice none 0 0,b9,O,Le.refl _ _,O,owN 7 [],di,Y⟩ ?_
 rintro(_ |ft) _ _ σ ⟨k,h,i,a,I,cc,a3,a5,a6,A,x,rfl,ae,rfl,a8,a9,Y⟩
 ·cases Y
 unfold Vm.zaM at Y
 have cd:=dj.t ae
 have ba:=cb.up ae
 have bb:=(dg.up a2).up ae
 refine sr (Lw.lt O (nl (Cw.seq (cn Y (fun Y=>?_) fun Y=>?_))))
 ·refine sk ?_
  obtain⟨dm,dn,Y⟩:=zbM Y
  refine Cw.join 37 119 [11,12,13,14,15,16,17] (fun l w=> ∃ af ah ai aj bc be bg bh ak K,CW.w K=w/\Le [6,7,8,9,10] x K/\l=[vI af,vI ah,vI ai,bc,be,bg,bh]/\Ow K 7 [] [ak] aj/\Bx K 6 f [ak]/\dm af ah ai aj=some r) ?_ ?_
  ·rintro _ _ σ ⟨af,ah,ai,aj,bc,be,bg,bh,ak,K,rfl,dp,rfl,dq,dr,Y⟩
   rw[dn]at Y
   exact rg (Lw.add O (mi O (nl ((agm) ⟨af,ah,ai,w64 (a+1),aj,bc,be,bg,bh,ak,K,O,(ae.j dp).w,O,dq,dr,Y⟩))))
  ·refine Cw.block (sr (mi O (Ni O (Cw.seq ?_))))
   obtain⟨ds,dt,Y⟩:=zbM Y
   refine Cw.join 38 49 [49] (fun l w=> ∃ bi am,CW.w am=w/\Le [] x am/\l=[vB bi]/\ds bi=some r) ?_ ?_
   ·rintro _ _ σ ⟨bi,am,rfl,y,rfl,Y⟩
    rw[dt]at Y
    have du:=cd.n y
    refine cn Y (fun Y=>?_) fun Y=>?_
    ·exact Cw.exit ((ag) ⟨k,h,i,I,vI a,a3,a5,a6,A,am,O,y.w,O,(a8.up y),(a9.up y),Y⟩)
    ·refine sk (Cw.seq (Cw.draw [] [(0,0),(1,0),(2,0),(3,0),(4,0),(5,0),(6,0),(7,0),(8,0),(9,1),(10,0),(11,0),(12,0),(13,0),(14,0),(15,0),(16,1),(17,0),(18,0),(19,0),(20,0)] mixed (by kernel_rfl) fun ce L=>?_))
     have B:=du.n L
     have an:=(ba.up y).up L
     have ao:=(bb.up y).up L
     refine Dv b O (Di O (Di O ?_))
     obtain⟨fu,cf,Y⟩:=ob Y
     have r103:=(z.ul B).cutV cf
     refine Mw.p O O (fun _=>R.sl (z.ul B) cf O (.inr O) (.inr O)) (Dv d O (Di O (Dv P O (Di O ?_))))
     obtain⟨C,bj,Y⟩:=ob Y
     refine Mw.p O O (fun _=>R.ix (α:=Int) an.rd bj O O O) (Mw.q O O (fun _ c=>R.ld O O (zaB (an.rd.at_ bj).1 O (an.rd.at_ bj).int c)) ?_)
     obtain⟨fv,cg,Y⟩:=ob Y
     have r110:=(Z.ul B).cutV cg
     refine Mw.p O O (fun _=>R.sl (Z.ul B) cg O (.inr O) (.inr O)) (Dv e O (Di O (Dv ac O (Di O ?_))))
     obtain⟨D,bk,Y⟩:=ob Y
     refine Mw.p O O (fun _=>R.ix (α:=Int) ao.rd bk O O O) (Mw.q O O (fun _ c=>R.ld O O (zaB (ao.rd.at_ bk).1 O (ao.rd.at_ bk).int c)) ?_)
     obtain⟨fw,ch,Y⟩:=ob Y
     have r117:=(h2.ul B).cutV ch
     refine Mw.p O O (fun _=>R.sl (h2.ul B) ch O (.inr O) (.inr O)) (Hv (cutV b (k:Int).toNat (a:Int).toNat (Rp.sz (Str))) O (Hv (cutV d (h:Int).toNat (C:Int).toNat (Rp.sz (Str))) O (Hv (cutV e (i:Int).toNat (D:Int).toNat (Rp.sz (Str))) O (Mw.nil ?_))))
     obtain⟨dv,dw,Y⟩:=zbM Y
     refine Cw.join 68 96 [] (fun l w=> ∃ Q ap E,CW.w E=w/\Le [6,7,8,9,10] ce E/\l=[]/\Ow E 7 [] [ap] Q/\Bx E 6 f [ap]/\dv Q=some r) ?_ ?_
     ·rintro _ _ σ ⟨Q,ap,E,rfl,aq,rfl,ci,cj,Y⟩
      rw[dw]at Y
      have bl:=B.t aq
      obtain⟨dx,dy,Y⟩:=zbM Y
      refine Cw.join 97 107 [] (fun l w=> ∃ ar au S,CW.w S=w/\Le [6,7] E S/\l=[]/\Ow S 7 [] [au] ar/\Bx S 6 f [au]/\dx ar=some r) ?_ ?_
      ·rintro _ _ σ ⟨ar,au,S,rfl,bm,rfl,dz,d0,Y⟩
       rw[dy]at Y
       refine Cw.draw [] [(0,0),(1,0),(2,0),(3,0),(4,0),(5,1),(6,0),(7,0),(8,0),(9,0),(10,1),(11,0),(12,0),(13,0),(14,0)] mixed (by kernel_rfl) fun d1 U=>?_
       have bn:=((an.up aq).up bm).up U
       have bp:=((ao.up aq).up bm).up U
       refine Di O (Mw.p O O (fun _=>R.add O O) (Dv P O (Di O ?_)))
       obtain⟨d2,bq,Y⟩:=ob Y
       refine Mw.p O O (fun _=>R.ix (α:=Int) bn.rd bq O O O) (Mw.q O O (fun _ c=>R.ld O O (zaB (bn.rd.at_ bq).1 O (bn.rd.at_ bq).int c)) (Mw.p O O (fun _=>R.add O O) (Dv ac O (Di O ?_))))
       obtain⟨d3,br,Y⟩:=ob Y
       exact Mw.p O O (fun _=>R.ix (α:=Int) bp.rd br O O O) (Mw.q O O (fun _ c=>R.ld O O (zaB (bp.rd.at_ br).1 O (bp.rd.at_ br).int c)) (Mw.p O O (fun _=>R.add O O) (Hi O (Hi O (Hi O (Mw.nil ((ag) ⟨w64 (a+1),w64 (d2+1),w64 (d3+1),ar,vI a,(cutV b (k:Int).toNat (a:Int).toNat (Rp.sz (Str))),(cutV d (h:Int).toNat (C:Int).toNat (Rp.sz (Str))),(cutV e (i:Int).toNat (D:Int).toNat (Rp.sz (Str))),au,d1,O,((((y.j L).j aq).j bm).j U).w,O,(dz.up U),(d0.up U),Y⟩)))))))
      ·refine sr (mi O (mv b O (Lw.ln x0 (z.ul bl) O (Lw.lt O (nl (cn Y (fun Y=>?_) fun Y=>?_))))))
       ·refine rg (mv (.func (.func 277) #[] [ptr (bx f)].toArray) O (mv b O (mi O (mi O (Lw.add O ?_)))))
        obtain⟨fx,ck,Y⟩:=ob Y
        have r157:=(z.ul bl).cutV ck
        refine Lw.r O (R.sl (z.ul bl) ck O (.inr O) (.inr O)) ?_
        obtain⟨d4,d5,Y⟩:=ob Y
        refine Lw.t O (T.callV (vals:=[(cutV b (a:Int).toNat (w64 (a+1):Int).toNat (Rp.sz (Str)))]) (caps:=[ptr (bx f)]) O O (p277 (c0:=6) (c1:=7) (x1:=Q) r157 cj ci O d5)) ?_
        rintro _ _ ⟨d6,rfl,d7,⟨d8,rfl,d9,ea⟩⟩
        exact nl ((ag) ⟨d4,d8,d6,O,d7,O,d9,ea,Y⟩)
       ·exact sk ((ag) ⟨Q,ap,E,O,Le.refl _ _,O,ci,cj,Y⟩)
     ·refine Cw.block ?_
      obtain⟨eb,ec,Y⟩:=zbM Y
      refine Cw.join 78 86 [78] (fun l w=> ∃ bu bv,CW.w bv=w/\Le [] ce bv/\l=[vB bu]/\eb bu=some r) ?_ ?_
      ·rintro _ _ σ ⟨bu,bv,rfl,M,rfl,Y⟩
       rw[ec]at Y
       have av:=M.o
       have bw:=((a8.up y).up L).up M
       have bz:=((a9.up y).up L).up M
       refine cn Y (fun Y=>?_) fun Y=>?_
       ·refine rg (mv (.func (.func 277) #[] [ptr (bx f)].toArray) O (mv (cutV e (i:Int).toNat (D:Int).toNat (Rp.sz (Str))) O ?_))
        obtain⟨ed,ee,Y⟩:=ob Y
        refine Lw.t O (T.callV (vals:=[(cutV e (i:Int).toNat (D:Int).toNat (Rp.sz (Str)))]) (caps:=[ptr (bx f)]) O O (p277 (c0:=6) (c1:=7) (x1:=I) (r117.ul av) bz bw O ee)) ?_
        rintro _ _ ⟨ef,rfl,eg,⟨eh,rfl,ei,ej⟩⟩
        exact nl ((ag) ⟨ed,eh,ef,O,(M.j eg).w,O,ei,ej,Y⟩)
       ·refine sr (mv (cutV e (i:Int).toNat (D:Int).toNat (Rp.sz (Str))) O (mv (cutV b (k:Int).toNat (a:Int).toNat (Rp.sz (Str))) O (ca Y (fun _=>p166 (r117.ul av) (r103.ul av)) fun fy fz Y F=>?_)))
        have cl:=av.n F
        refine Nb O (cn Y (fun Y=>?_) fun Y=>?_)
        ·refine rg (mv (.func (.func 277) #[] [ptr (bx f)].toArray) O (mv (cutV d (h:Int).toNat (C:Int).toNat (Rp.sz (Str))) O ?_))
         obtain⟨ek,el,Y⟩:=ob Y
         refine Lw.t O (T.callV (vals:=[(cutV d (h:Int).toNat (C:Int).toNat (Rp.sz (Str)))]) (caps:=[ptr (bx f)]) O O (p277 (c0:=6) (c1:=7) (x1:=I) (r110.ul cl) (bz.up F) (bw.up F) O el)) ?_
         rintro _ _ ⟨em,rfl,en,⟨eo,rfl,ep,er⟩⟩
         exact nl ((ag) ⟨ek,eo,em,O,((M.j F).j en).w,O,ep,er,Y⟩)
        ·refine Cw.draw [] [(0,1),(1,0),(3,0),(5,0),(2,2),(4,2),(6,2),(7,0),(8,2),(9,3),(10,3)] mixed (by kernel_rfl) fun f0 aw=>?_
         have cm:=cl.n aw
         have co:=(bz.up F).up aw
         refine Mw.q O O (fun _ c=>R.ld (v:=A) O O (co.clc0 O O c)) (Dv (cutV b (k:Int).toNat (a:Int).toNat (Rp.sz (Str))) O (Dv (cutV d (h:Int).toNat (C:Int).toNat (Rp.sz (Str))) O (Dv (cutV e (i:Int).toNat (D:Int).toNat (Rp.sz (Str))) O ?_)))
         obtain⟨es,et,Y⟩:=ob Y
         refine Mw.t O O (T.call O (p168 (k0:=8) (r103.ul cm) et)) ?_
         rintro ax _ ⟨f1,rfl,V,⟨_,rfl,eu⟩⟩
         have cp:=cm.n V
         refine m0 V fun ew=>?_
         obtain⟨ex,ey,Y⟩:=ob Y
         refine Mw.t O O (T.call O (p168 (k0:=9) (r110.ul cp) ey)) ?_
         rintro ay _ ⟨f2,rfl,N,⟨_,rfl,cq⟩⟩
         have ez:=cp.n N
         refine mc ew N fun e0=>?_
         obtain⟨e1,e2,Y⟩:=ob Y
         refine Mw.t O O (T.call O (p168 (k0:=10) (r117.ul ez) e2)) ?_
         rintro az _ ⟨f3,rfl,G,⟨_,rfl,ct⟩⟩
         have cu:=(eu.up N).up G
         refine mc e0 G fun e3=>Mw.p O O (fun _=>R.bd (zs:=[vB false, .slice none 0 0, .slice none 0 0, .slice none 0 0, .slice none 0 0]) (cs:=[vB true, .slice none 0 0,ax,ay,az]) [(0,vB true),(2,ax),(3,ay),(4,az)] O O O (zbc O O (zbc cu.oc O (zbc (cq.up G).oc O (zbc ct.oc O ze4))))) (Mw.t O O (T.bs 11 [.agg [vB true, .slice none 0 0,ax,ay,az].toArray] (cs:=[vB true, .slice none 0 0,ax,ay,az]) O O (bsA O)) ?_)
         rintro _ _ ⟨f4,f5,rfl,rfl,H,e4⟩
         refine mc e3 H fun f6=>?_
         obtain⟨e5,e6,Y⟩:=ob Y
         refine Mw.l O O (T.app1 (α:=Part) (J:=[8,9,10]) (K':=[]) ((((((bw.up F).up aw).up V).up N).up G).up H) e4 (Part.own true ([]:List Str) es ex e1 (znU []) (cu.up H).s ((cq.up G).up H).s (ct.up H).s) O O e6) ?_
         rintro cv _ ⟨f7,rfl,cw,cx⟩
         refine Mw.lu O (T.st0 (v:=cv) (((((co.up V).up N).up G).up H).up cw) O O cx.oc O O) ?_
         rintro _ _ ⟨e7,rfl,cy,e8⟩
         exact Mw.nil ((ag) ⟨e5,cv,e7,O,((((((((M.j F).j aw).j V).j N).j G).j H).j cw).j cy).w,O,(cx.up cy),e8,Y⟩)
      ·refine rg (mv (cutV d (h:Int).toNat (C:Int).toNat (Rp.sz (Str))) O (mv (cutV b (k:Int).toNat (a:Int).toNat (Rp.sz (Str))) O (ca Y (fun _=>p166 r110 r103) fun f8 e9 Y b0=>?_)))
       have cz:=b0.o
       refine mb O (bs Y (fun W Y=>?_) fun W Y=>?_)
       ·exact psk 3 W O (Pb W O (Nb O ((ag) ⟨true,e9,O,b0,O,Y⟩)))
       ·exact wak 3 W (mv (cutV d (h:Int).toNat (C:Int).toNat (Rp.sz (Str))) O (mv (cutV e (i:Int).toNat (D:Int).toNat (Rp.sz (Str))) O (ca Y (fun _=>p166 (r110.ul cz) (r117.ul cz)) fun fb fc Y fd=>Pb W O (Nb O ((ag) ⟨fb,fc,O,(b0.j fd).w,O,Y⟩)))))
   ·refine rg (mv P O (mi O ?_))
    obtain⟨f9,c2,Y⟩:=ob Y
    refine Lw.r O (R.ix (α:=Int) ba.rd c2 O O O) (Lw.r O (R.ld O O (ba.rd.at_ c2).int) (Lw.lt O (mb O (bs Y (fun X Y=>?_) fun X Y=>?_))))
    ·exact psk 5 X O (Pb X O (nl ((ag) ⟨true,x,O,Le.refl _ _,O,Y⟩)))
    ·refine wak 5 X (mv ac O (mi O ?_))
     obtain⟨fe,c3,Y⟩:=ob Y
     exact Lw.r O (R.ix (α:=Int) bb.rd c3 O O O) (Lw.r O (R.ld O O (bb.rd.at_ c3).int) (Lw.lt O (Pb X O (nl ((ag) ⟨decide (fe< (0:Int)),x,O,Le.refl _ _,O,Y⟩)))))
 ·refine Cw.exit ?_
  rw[dl]at Y
  refine sr (lz a9 O (Nv A O ?_))
  cases Y
  exact Cw.ret (zkN O (Res.mk cd ⟨A,O,a8.s.sub O O⟩))
theorem p256 {x0 b x1 d x2 f k0 r}(h:Rd W K [b] x0)(i:Rd W K [d] x1)(k:Rd W K [f] x2)(Y:Vm.zfp x0 x1 x2=some r):Q1 256 [b,d,f] W [] fun W' v=> ∃ a,v=a/\Ow W' k0 [] [a] r:=
 (c256 (h.view _) (i.view _) (k.view _) Y).ad (fk k0) fun _ _ ⟨a,e,x⟩=>⟨a,e,x.back (ziQ _)⟩
theorem c235 {x0 a b d e r}(i:Rd W0 [0] [vB x0.Clash,a,b,d,e] x0)(Y:Vm.zfa x0=some r):Q0 235 [.agg [vB x0.Clash,a,b,d,e].toArray] W0 fun Wf v=> ∃ f,v = .tuple [f,vB r.2].toArray/\OwS Wf LL [] [f] r.1:=by
 unfold Vm.zfa at Y
 obtain⟨y,z,A,B,h,C,D,E,F⟩:=Part.split i
 simp only[List.cons.injEq,and_true,true_and]at h
 obtain⟨rfl,rfl,rfl,rfl⟩:=h
 refine zaz.of Tryz.func235 O O O O (sr (bo 2 O fun G H k I=>?_))
 have x:=k.o
 refine Gv (.slice none 0 0) O (Nb O (sr (Gv (.slice none 0 0) O (Nb O ?_))))
 cases Y
 exact Cw.ret (zp3 O O (Res.mk x ⟨.slice none 0 0,O,(znU []).sub O O⟩))
theorem p235 {x0 b d f h k0 r}(i:Rd W K [vB x0.Clash,b,d,f,h] x0)(Y:Vm.zfa x0=some r):Q1 235 [.agg [vB x0.Clash,b,d,f,h].toArray] W [] fun W' v=> ∃ a,v = .tuple [a,vB r.2].toArray/\Ow W' k0 [] [a] r.1:=
 (c235 (i.view _) Y).ad (fk k0) fun _ _ ⟨a,e,k⟩=>⟨a,e,k.back (ziQ _)⟩
end Go.Sx
