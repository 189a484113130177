/- Walks: each function answers as its model, printed by a program of ours. Conditions: the arguments read as they are given. -/
import Derived.Test.YtiahldhbknpmiaaGreatDoorATs
import Derived.Test.YtiahldhbknpmiaaGreatDoorAM3
import Derived.Test.YtiahldhbknpmiaaGreatDoorAW1
import Derived.Test.YtiahldhbknpmiaaGreatDoorAW2
import Derived.Test.YtiahldhbknpmiaaGreatDoorAW4
import Derived.Test.YtiahldhbknpmiaaGreatDoorAW5
import Derived.Test.YtiahldhbknpmiaaGreatDoorAW6
namespace Go.Sx
open Go Go.Proofs Go.Vm Rp
set_option linter.unusedVariables false
set_option linter.unusedSimpArgs false
variable {W W0:CW}{K:List Nat}
theorem c74 {x0 k x x1 r}(D:Rd W0 [0] [k,x] x0)(Y:Vm.zcr x0 x1=some r):Q0 74 [.agg [k,x].toArray,vI x1] W0 fun Wf v=> ∃ y,v=y/\Rd Wf [0] [y] r:=by
 unfold Vm.zcr at Y
 obtain⟨G,H,z,d,I⟩:=Repo.split D
 simp only[List.cons.injEq,and_true,true_and]at z
 obtain⟨rfl,rfl⟩:=z
 refine zaz.of Tryz.func74 O O O O (sr (bo 2 O fun J L E e=>?_))
 have b:=E.o
 refine Nv (.slice none 0 0) O (ssr (fl e O (mi O ?_)))
 obtain⟨F,A,Y⟩:=ob Y
 refine Lw.r O (R.ix (α:=Commit) (d.ul b) A O O O) (Lw.fa O ?_)
 obtain⟨M,c7,r8⟩:=(Commit.at0 ((d.ul b).at_ A)).cell O
 refine Lw.r O (R.ld O O c7) (Lw.ln F.Parents r8 O (Lw.eq O (nl (cn Y (fun Y=>?_) fun Y=>?_))))
 ·refine sr (Nv (.slice none 0 0) O ?_)
  cases Y
  exact Cw.ret (zkN O (Res.mk b ⟨.slice none 0 0,O,(rdN (K:=[0]))⟩))
 ·refine sk (Cw.seq (Cw.draw [] [(0,0),(1,1),(2,0),(3,1),(4,0),(5,0),(6,0),(7,1),(8,0),(9,1),(10,0),(11,0),(12,1),(13,0)] mixed (by kernel_rfl) fun N l10=>?_))
  have B:=b.n l10
  refine Dfl (e.up l10) O O O (Dfl (e.up l10) O O O (Di O ?_))
  obtain⟨P,f,Y⟩:=ob Y
  have a:=d.ul B
  refine Mw.p O O (fun _=>R.ix (α:=Commit) a f O O O) (Df O ?_)
  obtain⟨Q,c17,r18⟩:=(Commit.at0 (a.at_ f)).cell O
  refine Mw.q O O (fun _ c=>R.ld O O (zaB (Commit.at0 (a.at_ f)).1 O c17 c)) ?_
  obtain⟨S,h,Y⟩:=ob Y
  refine Mw.p O O (fun _=>R.ix (α:=Int) r18 h O O O) (Mw.q O O (fun _ c=>R.ld O O (zaB (r18.at_ h).1 O (r18.at_ h).int c)) ?_)
  obtain⟨T,i,Y⟩:=ob Y
  refine Mw.p O O (fun _=>R.ix (α:=Commit) a i O O O) (Df O ?_)
  obtain⟨C,c24,r25⟩:=(Commit.at2 (a.at_ i)).cell O
  refine Mw.q O O (fun _ c=>R.ld O O (zaB (Commit.at2 (a.at_ i)).1 O c24 c)) (Hv C O (Mw.nil ?_))
  cases Y
  exact Cw.ret (zkN O (Res.mk B ⟨C,O,r25⟩))
theorem p74 {x0 b d x1 r}(f:Rd W K [b,d] x0)(Y:Vm.zcr x0 x1=some r):Q1 74 [.agg [b,d].toArray,vI x1] W [] fun W' v=> ∃ a,v=a/\Rd W' (0::K) [a] r:=
 (c74 (f.view _) Y).ad (fk 0) fun _ _ ⟨a,e,h⟩=>⟨a,e,h.back O⟩
theorem c73 {x0 B C x1 x2 x3 H x4 I r}(h0:Rd W0 [0] [B,C] x0)(h3:Rd W0 [0] [H] x3)(h4:Rd W0 [0] [I] x4)(Y:Vm.zds x0 x1 x2 x3 x4=some r):Q0 73 [.agg [B,C].toArray,vS x1,vS x2,H,I] W0 fun Wf v=> ∃ ak am,v = .tuple [.agg [ak,am].toArray,vI r.2].toArray/\Rd Wf [0] [ak] r.1.Commits/\Rd Wf [0] [am] r.1.Heads:=by
 unfold Vm.zds at Y
 obtain⟨b7,b8,an,e,h⟩:=Repo.split h0
 simp only[List.cons.injEq,and_true,true_and]at an
 obtain⟨rfl,rfl⟩:=an
 refine zaz.of Tryz.func73 O O O O (sr (bo 2 O fun g1 W1 l1 b1=>?_))
 have a2:=l1.o
 refine al 3 [.slice none 0 0, .slice none 0 0] fun g3 W3 J b3=>?_
 have L:=a2.n J
 refine Ni O (sr (la (b1.up J) (ms O (ca Y (fun _=>p69 (Repo.rd (K:=[0]) x0.Commits x0.Heads (e.ul L) (h.ul L))) fun x ce Y l10=>?_))))
 have y:=L.n l10
 have ap:=(b1.up J).up l10
 refine Ni O (sr (mv H O (fl ap O (mi O ?_))))
 obtain⟨cf,aq,Y⟩:=ob Y
 refine Lw.r O (R.ix (α:=Commit) (e.ul y) aq O O O) (Lw.fa O ?_)
 obtain⟨cg,c18,r19⟩:=(Commit.at2 ((e.ul y).at_ aq)).cell O
 refine Lw.r O (R.ld O O c18) (mv I O (cr Y (fun _=>p123 (k0:=4) (k1:=5) (h3.ul y) r19 (h4.ul y)) ?_))
 rintro D _ a7 Y N ⟨a,i,rfl,a8,a9⟩
 have ar:=y.n N
 have P:=ap.up N
 have au:=(b3.up l10).up N
 refine mv (.tuple [a,i].toArray) O (Lw.r O (R.ext (vs:=[a,i]) (v:=a) O O) (Lw.r O (R.ext (vs:=[a,i]) (v:=i) O O) (Gv a O (Nv i O (ssr (mv i O (Lw.ln D.2 a9.rd O (Lw.gt O (nl (cn Y (fun Y=>?_) fun Y=>?_))))))))))
 ·refine sr (la P (sta au (zaa e.oc (zaa h.oc za0)) fun ch ba bb=>?_))
  have Q:=ar.t ba
  refine Ni O ?_
  cases Y
  exact Cw.ret (zhl O bb O (Res.mk Q ⟨B,C,O,(e.ul Q),(h.ul Q)⟩))
 ·refine sk (sr (la P (ms O (mi O (Lw.t O (T.bsS (α:=Int) (xs:=[x]) 6 [] (W:=a7) [vI x] (Each.cons ((rdI _)) Each.nil) O) ?_)))))
  rintro S _ ⟨ci,rfl,E,U⟩
  have V:=ar.n E
  have X:=a8.up E
  refine ms O (mv a O (Lw.r O (R.bd (zs:=[.slice none 0 0,vS ([]:Str), .slice none 0 0]) (cs:=[S,vS x2,a]) [(0,S),(1,vS x2),(2,a)] O O O (zbc U.oc O (zbc O O (zbc X.oc O ze4)))) (cr Y (fun _=>p143 (K:=[0,4,6]) (x2:=(Vm.Commit.mk ([x]:List Int) x2 D.1)) ((Repo.rd (K:=[0]) x0.Commits x0.Heads (e.ul V) (h.ul V)).sub (M:=[0,4,6]) O) ((Commit.rd (K:=[4,6]) ([x]:List Int) x2 D.1 (U.rd.sub (M:=[4,6]) O) (X.rd.sub (M:=[4,6]) O)).sub (M:=[0,4,6]) O)) ?_)))
  rintro k _ cj Y z ⟨Z,aa,rfl,bc,be⟩
  have F:=bc.sub (M:=[0,4,6]) O
  have G:=be.sub (M:=[0,4,6]) O
  have bg:=V.n z
  refine al 7 [.slice none 0 0, .slice none 0 0] fun ck cl b bh=>?_
  have bi:=bg.n b
  refine sta bh (zaa F.oc (zaa G.oc za0)) fun cm d av=>?_
  have bj:=bi.t d
  refine nl (ssr (la av ?_))
  have bk:=F.up ((b.sub (M:=[7]) O).trans (d.sub (M:=[7]) O)) O
  have bl:=G.up ((b.sub (M:=[7]) O).trans (d.sub (M:=[7]) O)) O
  refine ca Y (fun _=>p68 (K:=[0,4,6]) (Repo.rd (K:=[0,4,6]) k.Commits k.Heads bk bl)) fun co cp Y f=>?_
  have aw:=bj.n f
  have ax:=((((au.up E).up z).up b).up d).up f
  refine Lw.r O (R.not O) (nl (cn Y (fun Y=>?_) fun Y=>?_))
  ·refine sr (la (((((P.up E).up z).up b).up d).up f) (sta ax (zaa e.oc (zaa h.oc za0)) fun cq bm bn=>?_))
   have ac:=aw.t bm
   refine Ni O ?_
   cases Y
   exact Cw.ret (zhl O bn O (Res.mk ac ⟨B,C,O,(e.ul ac),(h.ul ac)⟩))
  ·refine sk (sr (la (av.up f) (sta ax (zaa F.oc (zaa G.oc za0)) fun ct A bp=>?_)))
   have bq:=aw.t A
   refine Ni O ?_
   have br:=F.up ((b.sub (M:=[3,7]) O).trans ((d.sub (M:=[3,7]) O).trans ((f.sub (M:=[3,7]) O).trans (A.sub (M:=[3,7]) O)))) O
   have bu:=G.up ((b.sub (M:=[3,7]) O).trans ((d.sub (M:=[3,7]) O).trans ((f.sub (M:=[3,7]) O).trans (A.sub (M:=[3,7]) O)))) O
   obtain⟨ae,bv,af,ah⟩:=zn3 _ 4
   have bw:Rd ae [0,6] [Z] k.Commits:=by rw[ah];exact(br.dye 4).sub (M:=[0,6]) O
   have bz:Rd ae [0,6] [aa] k.Heads:=by rw[ah];exact(bu.dye 4).sub (M:=[0,6]) O
   have cu:Rd (α:=List Vm.File) ae [0] [a] D.1:=by rw[ah];exact((((((X.up z).up b).up d).up f).up A).rd.dye 4).sub (M:=[0]) O
   have b0:=bq.t af
   obtain⟨ai,b2,ay,aj⟩:=zn3 _ 6
   have b4:Rd ai [0] [Z] k.Commits:=by rw[aj];exact(bw.dye 6).sub (M:=[0]) O
   have b5:Rd ai [0] [aa] k.Heads:=by rw[aj];exact(bz.dye 6).sub (M:=[0]) O
   have cv:Rd (α:=List Int) ai [0] [S] ([x]:List Int):=by rw[aj];exact(((((((U.up z).up b).up d).up f).up A).up af).rd.dye 6).sub (M:=[0]) O
   have b6:=b0.t ay
   cases Y
   rw[<- b2.trans (bv)]
   exact Cw.ret (zhl O ((bp.up af).up ay) O (Res.mk b6 ⟨Z,aa,O,b4,b5⟩))
theorem p73 {x0 d f x1 x2 x3 h x4 i r}(k:Rd W K [d,f] x0)(x:Rd W K [h] x3)(y:Rd W K [i] x4)(Y:Vm.zds x0 x1 x2 x3 x4=some r):Q1 73 [.agg [d,f].toArray,vS x1,vS x2,h,i] W [] fun W' v=> ∃ a b,v = .tuple [.agg [a,b].toArray,vI r.2].toArray/\Rd W' (0::K) [a] r.1.Commits/\Rd W' (0::K) [b] r.1.Heads:=
 (c73 (k.view _) (x.view _) (y.view _) Y).ad (fk 0) fun _ _ ⟨a,b,e,z,A⟩=>⟨a,b,e,z.back O,A.back O⟩
theorem c146 {x0 d e x1 r}(y:Rd W0 [0] [d,e] x0)(Y:Vm.zb5 x0 x1=some r):Q0 146 [.agg [d,e].toArray,vI x1] W0 fun Wf v=>v=vI r:=by
 unfold Vm.zb5 at Y
 obtain⟨C,D,f,z,E⟩:=Repo.split y
 simp only[List.cons.injEq,and_true,true_and]at f
 obtain⟨rfl,rfl⟩:=f
 refine zaz.of Tryz.func146 O O O O (sr (bo 2 O fun F G A h=>?_))
 have b:=A.o
 refine Ni O (ssr (fl h O (mi O ?_)))
 obtain⟨B,i,Y⟩:=ob Y
 have a:=z.ul b
 refine Lw.r O (R.ix (α:=Commit) a i O O O) (Lw.fa O ?_)
 obtain⟨H,c7,r8⟩:=(Commit.at0 (a.at_ i)).cell O
 refine Lw.r O (R.ld O O c7) (Lw.ln B.Parents r8 O (Lw.eq O (nl (cn Y (fun Y=>?_) fun Y=>?_))))
 ·exact sr (Ni O (.ret (rt Y b)))
 ·refine sk (sr (fl h O (mi O ?_)))
  obtain⟨I,k,Y⟩:=ob Y
  refine Lw.r O (R.ix (α:=Commit) a k O O O) (Lw.fa O ?_)
  obtain⟨J,c13,r14⟩:=(Commit.at0 (a.at_ k)).cell O
  refine Lw.r O (R.ld O O c13) ?_
  obtain⟨K,x,Y⟩:=ob Y
  exact Lw.r O (R.ix (α:=Int) r14 x O O O) (Lw.r O (R.ld O O (r14.at_ x).int) (Ni O (.ret (rt Y b))))
theorem p146 {x0 a b x1 r}(d:Rd W K [a,b] x0)(Y:Vm.zb5 x0 x1=some r):Q1 146 [.agg [a,b].toArray,vI x1] W [] fun W' v=>v=vI r:=
 (c146 (d.view _) Y).ad (fk 0) fun _ _ e=>e
theorem c147 {x0 f i x1 x2 x3 N x4 P r}(h0:Rd W0 [0] [f,i] x0)(h3:Rd W0 [0] [N] x3)(h4:Rd W0 [0] [P] x4)(bk:Gl 0 W0 [0])(Y:Vm.zba x0 x1 x2 x3 x4=some r):Q0 147 [.agg [f,i].toArray,vS x1,vS x2,N,P] W0 fun Wf v=> ∃ bl bm,v = .tuple [.agg [bl,bm].toArray,vI r.2].toArray/\OwS Wf [31] [] [bl] r.1.Commits/\OwS Wf [32] [] [bm] r.1.Heads:=by
 unfold Vm.zba at Y
 obtain⟨el,em,bn,C,D⟩:=Repo.split h0
 simp only[List.cons.injEq,and_true,true_and]at bn
 obtain⟨rfl,rfl⟩:=bn
 refine zaz.of Tryz.func147 O O O O (sr (bo 2 O fun g1 W1 l1 b1=>?_))
 have a2:=l1.o
 refine al 3 [.slice none 0 0, .slice none 0 0] fun g3 W3 Q b3=>?_
 have S:=a2.n Q
 refine Ni O (sr (la (b1.up Q) (ms O (ca Y (fun _=>p88 (Repo.rd (K:=[0]) x0.Commits x0.Heads (C.ul S) (D.ul S))) fun z es Y l10=>?_))))
 have U:=S.n l10
 have bq:=(b1.up Q).up l10
 refine Ni O (sr (mv N O (la bq (mi O (cr Y (fun _=>p105 (Repo.rd (K:=[0]) x0.Commits x0.Heads (C.ul U) (D.ul U))) ?_)))))
 rintro et eu ew Y V ⟨_,rfl,ck⟩
 have cl:=ck.sub (M:=[0]) O
 have G:=U.n V
 refine mv P O (cr Y (fun _=>p50 (k0:=4) (h3.ul G) cl (h4.ul G) (bk.ul G)) ?_)
 rintro B _ cm Y X ⟨e,rfl,co⟩
 have cp:Ow (α:=List (Sh Vm.File)) cm 4 [0] [e] B.1:=co.sub O
 have H:=G.n X
 have Z:=(bq.up V).up X
 have br:=((b3.up l10).up V).up X
 refine mv (.tuple [e,vB B.2].toArray) O (Lw.r O (R.ext (vs:=[e,vB B.2]) (v:=e) O O) (Lw.r O (R.ext (vs:=[e,vB B.2]) (v:=vB B.2) O O) (Gv e O (Nb O (ssr (mb O (Lw.r O (R.not O) (nl (cn Y (fun Y=>?_) fun Y=>?_)))))))))
 ·refine sr (la Z (cr Y (fun _=>p90 (k0:=5) (k1:=6) (Repo.rd (K:=[0]) x0.Commits x0.Heads (C.ul H) (D.ul H))) ?_))
  rintro ex _ ey Y bu ⟨cq,ct,rfl,bv,bw⟩
  have cu:=H.n bu
  refine sta (br.up bu) (zaa bv.oc (zaa bw.oc za0)) fun ez aa cv=>?_
  have cw:=cu.t aa
  refine Ni O ?_
  obtain⟨e0,cx,ac,cy⟩:=(bv.up aa).dyeO 31
  have cz:=cw.t ac
  obtain⟨e1,c3,ae,c4⟩:=((bw.up aa).up ac).dyeO 32
  have c5:=cz.t ae
  cases Y
  rw[<- c3.trans (cx)]
  exact Cw.ret (zhl O ((cv.up ac).up ae) O (Res.mk c5 ⟨cq,ct,O,(cy.up ae).s,c4.s⟩))
 ·refine sk (Cw.seq ?_)
  obtain⟨k,c6,Y⟩:=ob Y
  obtain⟨x,c7,Y⟩:=ob Y
  obtain⟨a,c8,Y⟩:=ob Y
  refine Cw.par [[],[],[1],[],[],[],[],[6],[1,2,3,4,5,6,7],[0,1,2,3,4,5,6,7,8],[0,1,2,3,4,5,6,7,8,9],[0,1,2,3,4,5,6,7,8,9,10],[0,1,2,3,4,5,6,7,8,9,10],[],[0,1,2,3,4,5,6,7,8,9,10,11,13],[0,1,2,3,4,5,6,7,8,9,10,11,12,13,14]] [[],[],[1],[],[],[],[],[6],[2,3,4,5,7],[0,8],[9],[9,10],[9,10],[],[9,11,13],[12]] [[],[],[],[],[],[],[],[],[7,8,9],[10,11],[],[],[],[],[14],[]] [[0],[1],[2],[3],[4],[5],[6],[7],[8],[9],[9,10],[9,11],[12],[13],[9,13],[15]] [[],[],[7,8],[],[],[],[],[9],[10,11],[12,13],[],[],[],[14],[14],[]] [0,1,3,4,5,6,9,10,11,12,14,15] [7,8,9,10,11,14] [fun vs W=>(vs 0) = .agg [f,i].toArray,fun vs W=>(vs 1) = .agg [f,i].toArray,fun vs W=>(vs 2) = .agg [(zas (vs 2) 0),(zas (vs 2) 1)].toArray/\Ow W 7 [] [(zas (vs 2) 0)] k.Commits/\Ow W 8 [] [(zas (vs 2) 1)] k.Heads,fun vs W=>(vs 3)=vS x1,fun vs W=>(vs 4)=vS x2,fun vs W=>(vs 5)=e,fun vs W=>(vs 6)=vI z,fun vs W=>Ow W 9 [] [(vs 7)] ([z]:List Int),fun vs W=>(vs 8) = .agg [(zas (vs 8) 0),(zas (vs 8) 1)].toArray/\Ow W 10 [] [(zas (vs 8) 0)] x.Commits/\Ow W 11 [] [(zas (vs 8) 1)] x.Heads,fun vs W=>(vs 9) = .tuple [.agg [(zas (zas (vs 9) 0) 0),(zas (zas (vs 9) 0) 1)].toArray,vB a.2].toArray/\Ow W 12 [] [(zas (zas (vs 9) 0) 0)] a.1.Commits/\Ow W 13 [] [(zas (zas (vs 9) 0) 1)] a.1.Heads,fun vs W=>(vs 10) = .tuple [.agg [(zas (zas (vs 9) 0) 0),(zas (zas (vs 9) 0) 1)].toArray,vB a.2].toArray,fun vs W=>(vs 11) = .agg [(zas (zas (vs 9) 0) 0),(zas (zas (vs 9) 0) 1)].toArray,fun vs W=>(vs 12)=vB a.2,fun vs W=>(vs 13)=ptr (bx (pg (vs 13)))/\Bx W 14 (pg (vs 13)) [.slice none 0 0, .slice none 0 0],fun vs W=>(vs 13)=ptr (bx (pg (vs 13)))/\Bx W 14 (pg (vs 13)) [(zas (zas (vs 9) 0) 0),(zas (zas (vs 9) 0) 1)],fun vs W=>(vs 15)=vB a.2] [] mixed (by kernel_rfl) O zrl.nil ?_
  intro e2 E
  have af:=H.n E
  refine⟨(zbu.cons ?_ (zbu.cons ?_ (zbu.cons ?_ (zbu.cons ?_ (zbu.cons ?_ (zbu.cons ?_ (zbu.cons ?_ (zbu.cons ?_ (zbu.cons ?_ (zbu.cons ?_ (zbu.cons ?_ (zbu.cons ?_ (zbu.cons ?_ (zbu.cons ?_ (zbu.cons ?_ (zbu.cons ?_ zbu.nil)))))))))))))))),(zeJ.cons SE (zeJ.cons SE (zeJ.cons (fun vs vs' W W' _ hv l hd h=>by(show(vs' 2) = .agg [(zas (vs' 2) 0),(zas (vs' 2) 1)].toArray/\Ow W' 7 [] [(zas (vs' 2) 0)] k.Commits/\Ow W' 8 [] [(zas (vs' 2) 1)] k.Heads);rw[hv 2 (zaY O)];exact⟨h.1,h.2.1.upv l (zeg hd (c:=7) O),h.2.2.upv l (zeg hd (c:=8) O)⟩) (zeJ.cons SE (zeJ.cons SE (zeJ.cons SE (zeJ.cons SE (zeJ.cons SO (zeJ.cons (fun vs vs' W W' _ hv l hd h=>by(show(vs' 8) = .agg [(zas (vs' 8) 0),(zas (vs' 8) 1)].toArray/\Ow W' 10 [] [(zas (vs' 8) 0)] x.Commits/\Ow W' 11 [] [(zas (vs' 8) 1)] x.Heads);rw[hv 8 (zaY O)];exact⟨h.1,h.2.1.upv l (zeg hd (c:=10) O),h.2.2.upv l (zeg hd (c:=11) O)⟩) (zeJ.cons (fun vs vs' W W' _ hv l hd h=>by(show(vs' 9) = .tuple [.agg [(zas (zas (vs' 9) 0) 0),(zas (zas (vs' 9) 0) 1)].toArray,vB a.2].toArray/\Ow W' 12 [] [(zas (zas (vs' 9) 0) 0)] a.1.Commits/\Ow W' 13 [] [(zas (zas (vs' 9) 0) 1)] a.1.Heads);rw[hv 9 (zaY O)];exact⟨h.1,h.2.1.upv l (zeg hd (c:=12) O),h.2.2.upv l (zeg hd (c:=13) O)⟩) (zeJ.cons (fun vs vs' W W' _ hv l hd h=>by(show(vs' 10) = .tuple [.agg [(zas (zas (vs' 9) 0) 0),(zas (zas (vs' 9) 0) 1)].toArray,vB a.2].toArray);rw[hv 9 (zaY O),hv 10 (zaY O)];exact h) (zeJ.cons (fun vs vs' W W' _ hv l hd h=>by(show(vs' 11) = .agg [(zas (zas (vs' 9) 0) 0),(zas (zas (vs' 9) 0) 1)].toArray);rw[hv 9 (zaY O),hv 11 (zaY O)];exact h) (zeJ.cons SE (zeJ.cons (fun vs vs' W W' _ hv l hd h=>by(show(vs' 13)=ptr (bx (pg (vs' 13)))/\Bx W' 14 (pg (vs' 13)) [.slice none 0 0, .slice none 0 0]);rw[hv 13 (zaY O)];exact⟨h.1,h.2.up l (zeg hd (c:=14) O)⟩) (zeJ.cons (fun vs vs' W W' _ hv l hd h=>by(show(vs' 13)=ptr (bx (pg (vs' 13)))/\Bx W' 14 (pg (vs' 13)) [(zas (zas (vs' 9) 0) 0),(zas (zas (vs' 9) 0) 1)]);rw[hv 9 (zaY O),hv 13 (zaY O)];exact⟨h.1,h.2.up l (zeg hd (c:=14) O)⟩) (zeJ.cons SE zeJ.nil)))))))))))))))),?_⟩
  ·intro vs e3 lW hN hV
   exact Trq (R.lda (cs:=[f,i]) ((Z.up E).up lW O).cells O O) O
  ·intro vs e4 lW hN hV
   exact Trq (R.lda (cs:=[f,i]) ((Z.up E).up lW O).cells O O) O
  ·intro vs e5 lW hN hV
   have bz:=af.t lW O
   have ah:vs 1 = .agg [f,i].toArray:=(hN 1 (zaY O))
   obtain⟨vs,rfl⟩:=zaC ah
   refine Tr.mono (T.call O (p90 (k0:=7) (k1:=8) (Repo.rd (K:=[0]) x0.Commits x0.Heads (C.ul bz) (D.ul bz)) c6)) ?_
   rintro _ _ ⟨ai,rfl,c9,⟨aj,ak,rfl,da,db⟩⟩
   exact⟨ai,O,c9,(show(.agg [aj,ak].toArray:Value) = .agg [aj,ak].toArray/\Ow ai 7 [] [aj] k.Commits/\Ow ai 8 [] [ak] k.Heads from⟨O,da,db⟩)⟩
  ·intro vs e6 lW hN hV
   exact Trq (R.mv (v:=vS x1) O) O
  ·intro vs e7 lW hN hV
   exact Trq (R.mv (v:=vS x2) O) O
  ·intro vs e8 lW hN hV
   exact Trq (R.mv (v:=e) O) O
  ·intro vs e9 lW hN hV
   exact Trq (R.mv (v:=vI z) O) O
  ·intro vs dc lW hN hV
   have am:vs 6=vI z:=(hN 6 (zaY O))
   obtain⟨vs,rfl⟩:=zaC am
   refine Tr.mono (T.bsS (α:=Int) (xs:=[z]) 9 [] (W:=dc) [vI z] (Each.cons ((rdI _)) Each.nil) O) ?_
   rintro dd _ ⟨b0,rfl,de,df⟩
   exact⟨b0,O,de,(show Ow b0 9 [] [dd] ([z]:List Int) from df)⟩
  ·intro vs I lW hN hV
   obtain⟨an,ao,dg⟩: ∃ an ao:Value,vs 2 = .agg [an,ao].toArray:=⟨_,_,(hN 2 (zaY O)).1⟩
   obtain⟨vs,rfl⟩:=zaC dg
   have dh:Ow I 7 [] [an] k.Commits:=(hN 2 (zaY O)).2.1
   have di:Ow I 8 [] [ao] k.Heads:=(hN 2 (zaY O)).2.2
   have ap:vs 3=vS x1:=(hN 3 (zaY O))
   obtain⟨vs,rfl⟩:=zaC ap
   have aq:vs 4=vS x2:=(hN 4 (zaY O))
   obtain⟨vs,rfl⟩:=zaC aq
   have ar:vs 5=e:=(hN 5 (zaY O))
   obtain⟨vs,rfl⟩:=zaC ar
   obtain⟨dj,dk⟩: ∃ v,vs 7=v:=⟨_,O⟩
   obtain⟨vs,rfl⟩:=zaC dk
   have dl:Ow I 9 [] [dj] ([z]:List Int):=(hN 7 (zaY O))
   have dm:Rd (α:=List Vm.File) I [4,0] [e] B.1:=Ow.rdSh ((cp.up E).up lW O)
   refine Tr.mono (T.call O (p156 (K:=[0,4]) (k0:=10) (k1:=11) (c0:=7) (c1:=8) (c2:=9) (x0:=(Vm.Repo.mk k.Commits k.Heads)) dh di (dm.sub (M:=[0,4]) O) dl O c7)) ?_
   rintro _ _ ⟨au,rfl,dn,⟨av,aw,rfl,dp,dq⟩⟩
   exact⟨au,O,dn,(show(.agg [av,aw].toArray:Value) = .agg [av,aw].toArray/\Ow au 10 [] [av] x.Commits/\Ow au 11 [] [aw] x.Heads from⟨O,dp,dq⟩)⟩
  ·intro vs b2 lW hN hV
   have ax:=af.t lW O
   have ay:vs 0 = .agg [f,i].toArray:=(hN 0 (zaY O))
   obtain⟨vs,rfl⟩:=zaC ay
   obtain⟨az,a0,dr⟩: ∃ az a0:Value,vs 8 = .agg [az,a0].toArray:=⟨_,_,(hN 8 (zaY O)).1⟩
   obtain⟨vs,rfl⟩:=zaC dr
   have ds:Ow b2 10 [] [az] x.Commits:=(hN 8 (zaY O)).2.1
   have dt:Ow b2 11 [] [a0] x.Heads:=(hN 8 (zaY O)).2.2
   refine Tr.mono (T.call O (p155 (k0:=12) (k1:=13) (c0:=10) (c1:=11) (x1:=(Vm.Repo.mk x.Commits x.Heads)) (Repo.rd (K:=[0]) x0.Commits x0.Heads (C.ul ax) (D.ul ax)) ds dt (bk.ul ax) O c8)) ?_
   rintro _ _ ⟨a1,rfl,du,⟨a3,a5,rfl,dv,dw⟩⟩
   exact⟨a1,O,du,(show(.tuple [.agg [a3,a5].toArray,vB a.2].toArray:Value) = .tuple [.agg [a3,a5].toArray,vB a.2].toArray/\Ow a1 12 [] [a3] a.1.Commits/\Ow a1 13 [] [a5] a.1.Heads from⟨O,dv,dw⟩)⟩
  ·intro vs b4 lW hN hV
   obtain⟨b,d,A⟩: ∃ b d:Value,vs 9 = .tuple [.agg [b,d].toArray,vB a.2].toArray:=⟨_,_,(hN 9 (zaY O)).1⟩
   obtain⟨vs,rfl⟩:=zaC A
   have fb:Ow b4 12 [] [b] a.1.Commits:=(hN 9 (zaY O)).2.1
   have fc:Ow b4 13 [] [d] a.1.Heads:=(hN 9 (zaY O)).2.2
   exact Trq (R.mv (v:= .tuple [Value.agg [b,d].toArray,vB a.2].toArray) O) O
  ·intro vs b5 lW hN hV
   obtain⟨b,d,A⟩: ∃ b d:Value,vs 9 = .tuple [.agg [b,d].toArray,vB a.2].toArray:=⟨_,_,(hN 9 (zaY O)).1⟩
   obtain⟨vs,rfl⟩:=zaC A
   have fd:Ow b5 12 [] [b] a.1.Commits:=(hN 9 (zaY O)).2.1
   have fe:Ow b5 13 [] [d] a.1.Heads:=(hN 9 (zaY O)).2.2
   have F:vs 10 = .tuple [.agg [b,d].toArray,vB a.2].toArray:=(hN 10 (zaY O))
   obtain⟨vs,rfl⟩:=zaC F
   exact Trq (R.ext (vs:=[Value.agg [b,d].toArray,vB a.2]) (v:= .agg [b,d].toArray) O O) O
  ·intro vs b6 lW hN hV
   obtain⟨b,d,A⟩: ∃ b d:Value,vs 9 = .tuple [.agg [b,d].toArray,vB a.2].toArray:=⟨_,_,(hN 9 (zaY O)).1⟩
   obtain⟨vs,rfl⟩:=zaC A
   have ff:Ow b6 12 [] [b] a.1.Commits:=(hN 9 (zaY O)).2.1
   have fg:Ow b6 13 [] [d] a.1.Heads:=(hN 9 (zaY O)).2.2
   have F:vs 10 = .tuple [.agg [b,d].toArray,vB a.2].toArray:=(hN 10 (zaY O))
   obtain⟨vs,rfl⟩:=zaC F
   exact Trq (R.ext (vs:=[Value.agg [b,d].toArray,vB a.2]) (v:=vB a.2) O O) O
  ·intro vs fh lW hN hV
   refine Tr.mono (T.alloc 14 (cs:=[.slice none 0 0, .slice none 0 0]) O) ?_
   rintro _ _ ⟨a6,b7,rfl,rfl,dx,dy⟩
   exact⟨b7,O,dx,(show(ptr (bx a6):Value)=ptr (bx a6)/\Bx b7 14 a6 [.slice none 0 0, .slice none 0 0] from⟨O,dy⟩)⟩
  ·intro vs a7 lW hN hV
   obtain⟨b,d,A⟩: ∃ b d:Value,vs 9 = .tuple [.agg [b,d].toArray,vB a.2].toArray:=⟨_,_,(hN 9 (zaY O)).1⟩
   obtain⟨vs,rfl⟩:=zaC A
   have dz:Ow a7 12 [] [b] a.1.Commits:=(hN 9 (zaY O)).2.1
   have d0:Ow a7 13 [] [d] a.1.Heads:=(hN 9 (zaY O)).2.2
   have a8:vs 11 = .agg [b,d].toArray:=(hN 11 (zaY O))
   obtain⟨vs,rfl⟩:=zaC a8
   obtain⟨y,a9⟩: ∃ y,vs 13=ptr (bx y):=⟨_,((hN 13 (zaY O))).1⟩
   obtain⟨vs,rfl⟩:=zaC a9
   have d1:Bx a7 14 y [.slice none 0 0, .slice none 0 0]:=(hN 13 (zaY O)).2
   refine Tr.mono (T.sta (vs:=[b,d]) d1 O O (zaa dz.oc (zaa d0.oc za0)) O O) ?_
   rintro _ _ ⟨b8,rfl,d2,d3⟩
   exact⟨b8,O,d2,(show(ptr (bx y))=ptr (bx y)/\Bx b8 14 y [b,d] from⟨O,d3⟩)⟩
  ·intro vs fi lW hN hV
   have ba:vs 12=vB a.2:=(hN 12 (zaY O))
   obtain⟨vs,rfl⟩:=zaC ba
   exact Trq (R.as (v:=vB a.2) O) O
  ·intro vs bb b9 hN
   have cb:=af.t b9
   have cc:=(br.up E).up b9
   have ay:vs 0 = .agg [f,i].toArray:=(hN 0 (zaY O))
   obtain⟨vs,rfl⟩:=zaC ay
   have ah:vs 1 = .agg [f,i].toArray:=(hN 1 (zaY O))
   obtain⟨vs,rfl⟩:=zaC ah
   have ap:vs 3=vS x1:=(hN 3 (zaY O))
   obtain⟨vs,rfl⟩:=zaC ap
   have aq:vs 4=vS x2:=(hN 4 (zaY O))
   obtain⟨vs,rfl⟩:=zaC aq
   have ar:vs 5=e:=(hN 5 (zaY O))
   obtain⟨vs,rfl⟩:=zaC ar
   have am:vs 6=vI z:=(hN 6 (zaY O))
   obtain⟨vs,rfl⟩:=zaC am
   obtain⟨b,d,A⟩: ∃ b d:Value,vs 9 = .tuple [.agg [b,d].toArray,vB a.2].toArray:=⟨_,_,(hN 9 (zaY O)).1⟩
   obtain⟨vs,rfl⟩:=zaC A
   have J:Ow bb 12 [] [b] a.1.Commits:=(hN 9 (zaY O)).2.1
   have L:Ow bb 13 [] [d] a.1.Heads:=(hN 9 (zaY O)).2.2
   have F:vs 10 = .tuple [.agg [b,d].toArray,vB a.2].toArray:=(hN 10 (zaY O))
   obtain⟨vs,rfl⟩:=zaC F
   have a8:vs 11 = .agg [b,d].toArray:=(hN 11 (zaY O))
   obtain⟨vs,rfl⟩:=zaC a8
   have ba:vs 12=vB a.2:=(hN 12 (zaY O))
   obtain⟨vs,rfl⟩:=zaC ba
   obtain⟨y,a9⟩: ∃ y,vs 13=ptr (bx y):=⟨_,(hN 14 (zaY O)).1⟩
   obtain⟨vs,rfl⟩:=zaC a9
   have cd:Bx bb 14 y [b,d]:=(hN 14 (zaY O)).2
   have d4:vs 15=vB a.2:=(hN 15 (zaY O))
   obtain⟨vs,rfl⟩:=zaC d4
   refine ssr (mb O (Lw.r O (R.not O) (nl (cn Y (fun Y=>?_) fun Y=>?_))))
   ·refine sr (Lw.r O (R.lda (cs:=[b,d]) cd.cells O O) (sta cc (zaa J.oc (zaa L.oc za0)) fun fj bc d5=>?_))
    have d6:=cb.t bc
    refine Ni O ?_
    obtain⟨fm,d7,be,d8⟩:=(J.up bc).dyeO 31
    have d9:=d6.t be
    obtain⟨fn,ea,bg,eb⟩:=((L.up bc).up be).dyeO 32
    have ec:=d9.t bg
    cases Y
    rw[<- ea.trans (d7)]
    exact Cw.ret (zhl O ((d5.up be).up bg) O (Res.mk ec ⟨b,d,O,(d8.up bg).s,eb.s⟩))
   ·refine sk (sr (Lw.r O (R.lda (cs:=[b,d]) cd.cells O O) (sta cc (zaa J.oc (zaa L.oc za0)) fun fo bh ed=>?_)))
    have ee:=cb.t bh
    refine Ni O ?_
    obtain⟨fp,ef,bi,eg⟩:=(J.up bh).dyeO 31
    have eh:=ee.t bi
    obtain⟨fq,ei,bj,ej⟩:=((L.up bh).up bi).dyeO 32
    have ek:=eh.t bj
    cases Y
    rw[<- ei.trans (ef)]
    exact Cw.ret (zhl O ((ed.up bi).up bj) O (Res.mk ek ⟨b,d,O,(eg.up bj).s,ej.s⟩))
theorem p147 {x0 d f x1 x2 x3 h x4 i k0 k1 r}(k:Rd W K [d,f] x0)(x:Rd W K [h] x3)(y:Rd W K [i] x4)(z:Gl 0 W K)(Y:Vm.zba x0 x1 x2 x3 x4=some r):Q1 147 [.agg [d,f].toArray,vS x1,vS x2,h,i] W [] fun W' v=> ∃ a b,v = .tuple [.agg [a,b].toArray,vI r.2].toArray/\Ow W' k0 [] [a] r.1.Commits/\Ow W' k1 [] [b] r.1.Heads:=
 zaz.adJ (J:=[]) (fun c=>bif Nat.beq c 0 then 0 else bif Nat.beq c 31 then k0 else bif Nat.beq c 32 then k1 else 0) (c147 (k.view _) (x.view _) (y.view _) (z.view _) Y) fun _ _ ⟨a,b,e,A,B⟩=>⟨a,b,e,A.one1.backN O,B.one1.backN O⟩
theorem c77 {x0 d e x1 x2 x3 x4 r}(h0:Rd W0 [0] [d,e] x0)(bb:Gl 0 W0 [0])(Y:Vm.zcY x0 x1 x2 x3 x4=some r):Q0 77 [.agg [d,e].toArray,vS x1,vS x2,vI x3,vB x4] W0 fun Wf v=> ∃ ap aq,v = .tuple [.agg [ap,aq].toArray,vI r.2].toArray/\OwS Wf [31] [] [ap] r.1.Commits/\OwS Wf [32] [] [aq] r.1.Heads:=by
 unfold Vm.zcY at Y
 obtain⟨cv,cw,ar,a,b⟩:=Repo.split h0
 simp only[List.cons.injEq,and_true,true_and]at ar
 obtain⟨rfl,rfl⟩:=ar
 refine zaz.of Tryz.func77 O O O O (sr (bo 2 O fun g1 W1 l1 b1=>?_))
 have a2:=l1.o
 refine al 3 [.slice none 0 0, .slice none 0 0] fun g3 W3 l3 b3=>?_
 have A:=a2.n l3
 have B:=b1.up l3
 refine Ni O (Cw.seq ?_)
 obtain⟨K8,bj,Y⟩:=zbM Y
 refine Cw.join 14 28 [28] (fun l w=> ∃ Q S,CW.w S=w/\Le [] W3 S/\l=[vB Q]/\K8 Q=some r) ?_ ?_
 ·rintro _ _ σ ⟨Q,S,rfl,f,rfl,Y⟩
  rw[bj]at Y
  have C:=A.n f
  refine cn Y (fun Y=>?_) fun Y=>?_
  ·refine sr (la (B.up f) (cr Y (fun _=>p90 (k0:=4) (k1:=5) (Repo.rd (K:=[0]) x0.Commits x0.Heads (a.ul C) (b.ul C))) ?_))
   rintro c0 _ c1 Y aw ⟨bk,bl,rfl,ax,ay⟩
   have bm:=C.n aw
   refine sta ((b3.up f).up aw) (zaa ax.oc (zaa ay.oc za0)) fun c2 U bn=>?_
   have bp:=bm.t U
   refine Ni O ?_
   obtain⟨c3,bq,V,br⟩:=(ax.up U).dyeO 31
   have bu:=bp.t V
   obtain⟨c4,bv,W,bw⟩:=((ay.up U).up V).dyeO 32
   have bz:=bu.t W
   cases Y
   rw[<- bv.trans (bq)]
   exact Cw.ret (zhl O ((bn.up V).up W) O (Res.mk bz ⟨bk,bl,O,(br.up W).s,bw.s⟩))
  ·refine sk (Cw.seq (Cw.draw [] [(0,1),(1,1),(2,0),(5,1),(6,0),(3,2),(4,2),(7,2),(8,0),(9,0)] mixed (by kernel_rfl) fun c5 X=>?_))
   have Z:=C.n X
   have D:=(B.up f).up X
   refine Mw.q O O (fun _ c=>R.lda (cs:=[d,e]) (D.clcs O c) O O) (Mw.q O O (fun _ c=>R.lda (cs:=[d,e]) (D.clcs O c) O O) (Di O (Mw.q O O (fun _ c=>R.lda (cs:=[d,e]) (D.clcs O c) O O) (Di O ?_))))
   obtain⟨c6,b0,Y⟩:=ob Y
   refine Mw.t O O (T.call O (p146 (Repo.rd (K:=[0]) x0.Commits x0.Heads (a.ul Z) (b.ul Z)) b0)) ?_
   rintro _ _ ⟨c7,rfl,E,rfl⟩
   have aa:=Z.n E
   refine m0 E fun b2=>?_
   obtain⟨az,b4,Y⟩:=ob Y
   refine Mw.t O O (T.call O (p105 (Repo.rd (K:=[0]) x0.Commits x0.Heads (a.ul aa) (b.ul aa)) b4)) ?_
   rintro h _ ⟨c8,rfl,F,⟨_,rfl,b6⟩⟩
   have a0:=b6.sub (M:=[0]) O
   have ac:=aa.n F
   refine mc b2 F fun b7=>?_
   obtain⟨a1,b8,Y⟩:=ob Y
   refine Mw.t O O (T.call O (p105 (Repo.rd (K:=[0]) x0.Commits x0.Heads (a.ul ac) (b.ul ac)) b8)) ?_
   rintro i _ ⟨ae,rfl,G,⟨_,rfl,b9⟩⟩
   have a3:=b9.sub (M:=[0]) O
   have af:=G.o
   refine mc b7 G fun c9=>Hv h O (Hv i O (Mw.nil ?_))
   obtain⟨cb,cc,Y⟩:=zbM Y
   refine Cw.join 39 41 [12,13] (fun l w=> ∃ ah ai H I k,CW.w k=w/\Le [] ae k/\l=[H,I]/\Rd k [0] [H] ah/\Rd k [0] [I] ai/\cb ah ai=some r) ?_ ?_
   ·rintro _ _ σ ⟨ah,ai,H,I,k,rfl,aj,rfl,r68,r71,Y⟩
    rw[cc]at Y
    have J:=(ac.trans af).n aj
    refine sr (la ((((D.up E).up F).up G).up aj) (ms O (ms O (mv H O (mv I O (cr Y (fun _=>p147 (k0:=6) (k1:=7) (Repo.rd (K:=[0]) x0.Commits x0.Heads (a.ul J) (b.ul J)) r68 r71 (bb.ul J)) ?_))))))
    rintro ak _ da Y a5 ⟨L,N,rfl,a6,a7⟩
    have cd:=J.n a5
    refine Lw.r O (R.ext (vs:=[.agg [L,N].toArray,vI ak.2]) (v:= .agg [L,N].toArray) O O) (Lw.r O (R.ext (vs:=[.agg [L,N].toArray,vI ak.2]) (v:=vI ak.2) O O) (sta (((((((b3.up f).up X).up E).up F).up G).up aj).up a5) (zaa a6.oc (zaa a7.oc za0)) fun db am ce=>?_))
    have cf:=cd.t am
    refine Ni O ?_
    obtain⟨dc,cg,an,ch⟩:=(a6.up am).dyeO 31
    have ci:=cf.t an
    obtain⟨dd,cj,ao,ck⟩:=((a7.up am).up an).dyeO 32
    have cl:=ci.t ao
    cases Y
    rw[<- cj.trans (cg)]
    exact Cw.ret (zhl O ((ce.up an).up ao) O (Res.mk cl ⟨L,N,O,(ch.up ao).s,ck.s⟩))
   ·refine sr (mb O (nl (cn Y (fun Y=>?_) fun Y=>?_)))
    ·exact rg (mv i O (mv h O (Gv i O (Nv h O ((ag) ⟨a1,az,i,h,ae,O,Le.refl _ _,O,a3,(a0.ul af),Y⟩)))))
    ·exact sk ((ag) ⟨az,a1,h,i,ae,O,Le.refl _ _,O,(a0.ul af),a3,Y⟩)
 ·refine rg (la B (ms O (ca Y (fun _=>p88 (Repo.rd (K:=[0]) x0.Commits x0.Heads (a.ul A) (b.ul A))) fun de cm Y x=>?_)))
  have co:=A.n x
  refine Lw.lt O (mb O (bs Y (fun y Y=>?_) fun y Y=>?_))
  ·exact psk 3 y O (Pb y O (mb O (psk 4 O O (Pb O O (nl ((ag) ⟨true,cm,O,x,O,Y⟩))))))
  ·refine wak 3 y (ms O (ca Y (fun _=>p113) fun df cp Y P=>?_))
   have a8:=co.n P
   refine Lw.r O (R.not O) (Pb y O (mb O (bs Y (fun z Y=>?_) fun z Y=>?_)))
   ·exact psk 4 z O (Pb z O (nl ((ag) ⟨true,cp,O,(x.j P).w,O,Y⟩)))
   ·exact wak 4 z (la ((B.up x).up P) (mi O (ca Y (fun _=>p89 (Repo.rd (K:=[0]) x0.Commits x0.Heads (a.ul a8) (b.ul a8))) fun cq ct Y cu=>Lw.r O (R.not O) (Pb z O (nl ((ag) ⟨(!cq),ct,O,((x.j P).j cu).w,O,Y⟩))))))
theorem p77 {x0 d f x1 x2 x3 x4 k0 k1 r}(h:Rd W K [d,f] x0)(i:Gl 0 W K)(Y:Vm.zcY x0 x1 x2 x3 x4=some r):Q1 77 [.agg [d,f].toArray,vS x1,vS x2,vI x3,vB x4] W [] fun W' v=> ∃ a b,v = .tuple [.agg [a,b].toArray,vI r.2].toArray/\Ow W' k0 [] [a] r.1.Commits/\Ow W' k1 [] [b] r.1.Heads:=
 zaz.adJ (J:=[]) (fun c=>bif Nat.beq c 0 then 0 else bif Nat.beq c 31 then k0 else bif Nat.beq c 32 then k1 else 0) (c77 (h.view _) (i.view _) Y) fun _ _ ⟨a,b,e,k,x⟩=>⟨a,b,e,k.one1.backN O,x.one1.backN O⟩
end Go.Sx
