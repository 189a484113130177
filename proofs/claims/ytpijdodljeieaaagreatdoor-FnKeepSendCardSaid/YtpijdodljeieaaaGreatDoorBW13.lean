/- Walks: each function answers as its model, printed by a program of ours. Conditions: the arguments read as they are given. -/
import Derived.Test.YtpijdodljeieaaaGreatDoorBTs
import Derived.Test.YtpijdodljeieaaaGreatDoorBM7
import Derived.Test.YtpijdodljeieaaaGreatDoorBW6
import Derived.Test.YtpijdodljeieaaaGreatDoorBW7
import Derived.Test.YtpijdodljeieaaaGreatDoorBW8
namespace Go.Sx
open Go Go.Proofs Go.Vm Rp
set_option linter.unusedVariables false
set_option linter.unusedSimpArgs false
variable {W W0:CW}{K:List Nat}
theorem c118 {x0 x y x1 f x2 r}(F:Rd W0 [0] [x,y] x0)(z:Rd W0 [0] [f] x1)(G:Gl 0 W0 [0])(Y:Vm.zbI x0 x1 x2=some r):Q0 118 [.agg [x,y].toArray,f,vI x2] W0 fun Wf v=>v=vB r:=by
 unfold Vm.zbI at Y
 obtain⟨S,T,A,B,C⟩:=Repo.split F
 simp only[List.cons.injEq,and_true,true_and]at A
 obtain⟨rfl,rfl⟩:=A
 refine zaT.of Tryz.func118 O O O O (sr (bo 2 O fun U H I D=>?_))
 have a:=I.o
 refine Nb O ?_
 obtain⟨J,L,Y⟩:=zc4 Y
 refine Cw.join 7 19 [6] (fun l w=> ∃ h i,CW.w i=w/\Le [] H i/\l=[vB h]/\J h=some r) ?_ ?_
 ·rintro _ _ σ ⟨h,i,rfl,M,rfl,Y⟩
  rw[L]at Y
  have N:=a.n M
  exact .ret (rt Y N)
 ·refine rg (la D (mv f O (ca Y (fun _=>p71 (Repo.rd (K:=[0]) x0.Commits x0.Heads (B.ul a) (C.ul a)) (z.ul a) (G.ul a)) fun V E Y b=>?_)))
  have k:=a.n b
  refine mb O (bs Y (fun d Y=>?_) fun d Y=>?_)
  ·refine wak 3 d (mv f O (Lw.ln x1 (z.ul k) O (Lw.le O (Pb d O (mb O (bs Y (fun e Y=>?_) fun e Y=>?_))))))
   ·exact wak 3 e (la (D.up b) (mi O (ca Y (fun _=>p98 (Repo.rd (K:=[0]) x0.Commits x0.Heads (B.ul k) (C.ul k))) fun P Q Y R=>Pb e O (Nb O ((ag) ⟨P,Q,O,(b.j R).w,O,Y⟩)))))
   ·exact psk 3 e O (Pb e O (Nb O ((ag) ⟨false,E,O,b,O,Y⟩)))
  ·exact psk 3 d O (Pb d O (mb O (psk 3 O O (Pb O O (Nb O ((ag) ⟨false,E,O,b,O,Y⟩))))))
theorem p118 {x0 a b x1 d x2 r}(f:Rd W K [a,b] x0)(h:Rd W K [d] x1)(i:Gl 0 W K)(Y:Vm.zbI x0 x1 x2=some r):Q1 118 [.agg [a,b].toArray,d,vI x2] W [] fun W' v=>v=vB r:=
 (c118 (f.view _) (h.view _) (i.view _) Y).ad (fk 0) fun _ _ e=>e
theorem c119 {x0 G H x1 x2 y r}(h0:Rd W0 [0] [G,H] x0)(z:Rd W0 [0] [y] x2)(Y:Vm.zfd x0 x1 x2=some r):Q0 119 [.agg [G,H].toArray,vI x1,y] W0 fun Wf v=> ∃ I,v=I/\OwS Wf LL [] [I] r:=by
 unfold Vm.zfd at Y
 obtain⟨a5,a6,J,L,M⟩:=Repo.split h0
 simp only[List.cons.injEq,and_true,true_and]at J
 obtain⟨rfl,rfl⟩:=J
 refine zaT.of Tryz.func119 O O O O (sr (bo 2 O fun g1 W1 l1 N=>?_))
 have A:=l1.o
 refine Nv (.slice none 0 0) O (sr (la N (mi O (cr Y (fun _=>p108 (k0:=3) (Repo.rd (K:=[0]) x0.Commits x0.Heads (L.ul A) (M.ul A))) ?_))))
 rintro z5 a P Y Q ⟨_,rfl,ak⟩
 have S:=A.n Q
 refine Nv a O (ssr (mv y O (Lw.ln x2 (z.ul S) O (mi O (nl (Cw.block ?_))))))
 obtain⟨am,an,Y⟩:=zc4 Y
 refine Cw.loop 17 34 [9,11,17] (fun m l w=> ∃ e f U B h,CW.w h=w/\Le [3] P h/\l=[U,B,vI e]/\Ow h 3 [] [a] f/\Vm.zbK x0 x2 am m e f=some r) _ ⟨0,z5,undef,undef,P,O,Le.refl _ _,O,ak,Y⟩ ?_
 rintro(_ |ba) _ _ σ ⟨e,f,U,B,h,rfl,C,rfl,V,Y⟩
 ·cases Y
 unfold Vm.zbK at Y
 have b:=S.t C
 refine sr (Lw.lt O (nl (Cw.seq (cn Y (fun Y=>?_) fun Y=>?_))))
 ·refine sk (Cw.seq (Cw.block (sr ?_)))
  obtain⟨ao,W,Y⟩:=ob Y
  refine Lw.r O (R.ix (α:=Int) (z.ul b) W O O O) (Lw.r O (R.ld O O ((z.ul b).at_ W).int) (Ni O (sr (la ((N.up Q).up C) (mi O (cr Y (fun _=>p108 (k0:=4) (Repo.rd (K:=[0]) x0.Commits x0.Heads (L.ul b) (M.ul b))) ?_))))))
  rintro bb bc be Y X ⟨_,rfl,ap⟩
  refine cr Y (fun _=>p103 (K:=[4]) (k0:=5) ap.rd) ?_
  rintro Z bg aa Y ac ⟨_,rfl,D⟩
  refine Lw.ln Z D.rd O (mi O (nl (Cw.block ?_)))
  obtain⟨aq,ar,Y⟩:=zc4 Y
  refine Cw.loop 26 33 [11,26] (fun m l w=> ∃ i k E d,CW.w d=w/\Le [3] aa d/\l=[E,vI i]/\Ow d 3 [] [a] k/\Vm.zc6 Z aq m i k=some r) _ ⟨0,f,B,aa,O,Le.refl _ _,O,((V.up X).up ac),Y⟩ ?_
  rintro(_ |bh) _ _ σ ⟨i,k,E,d,rfl,x,rfl,F,Y⟩
  ·cases Y
  unfold Vm.zc6 at Y
  refine sr (Lw.lt O (nl (Cw.seq (cn Y (fun Y=>?_) fun Y=>?_))))
  ·refine sk (Cw.seq (Cw.block (sr ?_)))
   obtain⟨au,ae,Y⟩:=ob Y
   refine Lw.r O (R.ix (α:=Int) (D.up x).rd ae O O O) (Lw.r O (R.ld O O ((D.up x).rd.at_ ae).int) (Ni O (rg (mv a O (mi O ?_)))))
   obtain⟨bi,av,Y⟩:=ob Y
   refine Lw.r O (R.ix (α:=Bool) F.rd av O O O) ?_
   obtain⟨aw,ax,Y⟩:=ob Y
   refine Lw.u (T.stS (K':=[]) F (rdB _) ax O O O) ?_
   rintro _ _ ⟨ay,rfl,az,a0⟩
   exact nl (rg (Lw.add O (mi O (nl ((agm) ⟨w64 (i+1),aw,vI au,ay,O,(x.j az).w,O,a0,Y⟩)))))
  ·refine Cw.exit ?_
   rw[ar]at Y
   exact rg (Lw.add O (mi O (nl ((agm) ⟨w64 (e+1),k,vI ao,E,d,O,(((C.j X).j ac).j x).w,O,F,Y⟩))))
 ·refine Cw.exit ?_
  rw[an]at Y
  refine sr (mv a O (cr Y (fun _=>p103 (K:=[3]) (k0:=6) V.rd) ?_))
  rintro bj af bk Y a1 ⟨_,rfl,a3⟩
  have a4:=b.n a1
  refine Nv af O ?_
  cases Y
  exact Cw.ret (zmk O (Res.mk a4 ⟨af,O,a3.s.sub O O⟩))
theorem p119 {x0 b d x1 x2 f k0 r}(h:Rd W K [b,d] x0)(i:Rd W K [f] x2)(Y:Vm.zfd x0 x1 x2=some r):Q1 119 [.agg [b,d].toArray,vI x1,f] W [] fun W' v=> ∃ a,v=a/\Ow W' k0 [] [a] r:=
 (c119 (h.view _) (i.view _) Y).ad (fk k0) fun _ _ ⟨a,e,k⟩=>⟨a,e,k.back (zlS _)⟩
theorem c66 {x0 b x1 r}(h:Rd W0 [0] [b] x0)(Y:Vm.zdq x0 x1=some r):Q0 66 [b,vI x1] W0 fun Wf v=>v=vI r:=by
 unfold Vm.zdq at Y
 refine zaT.of Tryz.func66 O O O O (sr (Ni O (ssr (mv b O (Lw.ln x0 h O (mi O (nl (Cw.block ?_))))))))
 obtain⟨y,z,Y⟩:=zc4 Y
 refine Cw.loop 8 18 [4,5,8] (fun m l w=> ∃ d a i e,CW.w e=w/\Le [] W0 e/\l=[vI d,i,vI a]/\Vm.zbt x0 x1 y m d a=some r) _ ⟨0,0,undef,W0,O,Le.refl _ _,O,Y⟩ ?_
 rintro(_ |A) _ _ σ ⟨d,a,i,e,rfl,k,rfl,Y⟩
 ·cases Y
 unfold Vm.zbt at Y
 have f:=k.o
 refine sr (Lw.lt O (nl (Cw.seq (cn Y (fun Y=>?_) fun Y=>?_))))
 ·refine sk (Cw.seq (Cw.block (sr (mi O (Ni O (sr (mi O (mv b O (mi O ?_)))))))))
  obtain⟨B,x,Y⟩:=ob Y
  refine Lw.r O (R.ix (α:=Int) (h.ul f) x O O O) (Lw.r O (R.ld O O ((h.ul f).at_ x).int) (Lw.eq O (nl (cn Y (fun Y=>?_) fun Y=>?_))))
  ·exact sr (mi O (Ni O (.ret (rt Y f))))
  ·exact sk (rg (Lw.add O (mi O (nl ((agm) ⟨d,w64 (a+1),vI a,e,O,k,O,Y⟩)))))
 ·refine Cw.exit ?_
  rw[z]at Y
  exact sr (Ni O (.ret (rt Y f)))
theorem p66 {x0 a x1 r}(b:Rd W K [a] x0)(Y:Vm.zdq x0 x1=some r):Q1 66 [a,vI x1] W [] fun W' v=>v=vI r:=
 (c66 (b.view _) Y).ad (fk 0) fun _ _ e=>e
theorem c53 {x0 a D x1 P x2 r}(h0:Rd W0 [0] [a,D] x0)(h1:Rd W0 [0] [P] x1)(dj:Gl 0 W0 [0])(Y:Vm.zie x0 x1 x2=some r):Q0 53 [.agg [a,D].toArray,P,vI x2] W0 fun Wf v=> ∃ u0,v = .tuple [u0,vB r.2].toArray/\OwS Wf LL [] [u0] r.1:=by
 unfold Vm.zie at Y
 obtain⟨e4,e5,ch,y,ba⟩:=Repo.split h0
 simp only[List.cons.injEq,and_true,true_and]at ch
 obtain⟨rfl,rfl⟩:=ch
 refine zaT.of Tryz.func53 O O O O (sr (bo 2 O fun g1 W1 l1 b1=>?_))
 have Q:=l1.o
 refine Gv (.slice none 0 0) O (Nb O (ssr (la b1 (mv P O (mi O (ca Y (fun _=>p118 (Repo.rd (K:=[0]) x0.Commits x0.Heads (y.ul Q) (ba.ul Q)) (h1.ul Q) (dj.ul Q)) fun z7 W9 Y l9=>?_))))))
 have S:=Q.n l9
 refine Lw.r O (R.not O) (nl (cn Y (fun Y=>?_) fun Y=>?_))
 ·refine sr (Gv (.slice none 0 0) O (Nb O ?_))
  cases Y
  exact Cw.ret (zqq O O (Res.mk S ⟨.slice none 0 0,O,(zp1 []).sub O O⟩))
 ·refine sk (sr (la (b1.up l9) (mi O (mv P O (cr Y (fun _=>p119 (k0:=3) (Repo.rd (K:=[0]) x0.Commits x0.Heads (y.ul S) (ba.ul S)) (h1.ul S)) ?_)))))
  rintro bg bh ci Y cj ⟨_,rfl,ck⟩
  have dl:=S.n cj
  refine Nv bh O (sr (Nv (.slice none 0 0) O (ssr (mv bh O (Lw.ln bg ck.rd O (mi O (nl (Cw.block ?_))))))))
  obtain⟨dm,dn,Y⟩:=zc4 Y
  refine Cw.loop 28 84 [6,7,9,11,12,14,15,16,28] (fun m l w=> ∃ ai aj bi ak am z cl cm bj bk bl U,CW.w U=w/\Le [5,6,7,8] ci U/\l=[am,vB aj,z,cl,cm,bj,bk,bl,vI ak]/\Ow U 4 [] [am] ai/\Ow U 5 [] [z] bi/\Vm.zdH x0 x1 bg dm m ai aj bi ak=some r) _ ⟨([]:List Commit),false,([]:List Commit),0, .slice none 0 0, .slice none 0 0,undef,undef,undef,undef,undef,ci,O,Le.refl _ _,O,owN 4 [],owN 5 [],Y⟩ ?_
  rintro(_ |e9) _ _ σ ⟨ai,aj,bi,ak,am,z,cl,cm,bj,bk,bl,U,rfl,an,rfl,dp,co,Y⟩
  ·cases Y
  unfold Vm.zdH at Y
  have cp:=dl.t an
  have bm:=ck.up an
  refine sr (Lw.lt O (nl (Cw.seq (cn Y (fun Y=>?_) fun Y=>?_))))
  ·refine sk (Cw.seq (Cw.block (sr ?_)))
   obtain⟨b,cq,Y⟩:=ob Y
   refine Lw.r O (R.ix (α:=Int) bm.rd cq O O O) (Lw.r O (R.ld O O (bm.rd.at_ cq).int) (Ni O (Cw.seq ?_)))
   obtain⟨d,ct,Y⟩:=ob Y
   obtain⟨V,dq,Y⟩:=ob Y
   obtain⟨E,dr,Y⟩:=ob Y
   refine Cw.par [[],[0],[],[0,1,2],[0,1,2,3],[0,1,2,3,4],[],[],[6,7],[6,7,8],[0,1,2,3,4,5,6,7,8,9],[],[0,1,2,3,4,5,6,7,8,9,10,11]] [[],[0],[],[1,2],[3],[4],[],[],[6,7],[8],[5,9],[],[9,10,11]] [[],[],[],[],[],[],[],[],[],[],[],[],[7]] [[0],[1],[2],[3],[4],[5],[6],[7],[8],[9],[9,10],[11],[9,11]] [[],[],[],[],[],[],[],[],[0],[6],[],[7],[7]] [0,1,2,3,4,5,6,7,8,9,10,12] [7] [fun vs W=>(vs 0)=ptr ((bx g1).add 0),fun vs W=>(vs 1)=a,fun vs W=>(vs 2)=vI b,fun vs W=>(vs 3)=ptr ((slA a).add ((b).toNat*Rp.sz (Commit))),fun vs W=>(vs 4)=ptr (((slA a).add ((b).toNat*Rp.sz (Commit))).add 1),fun vs W=>(vs 5)=vS d.Who,fun vs W=>(vs 6) = .agg [a,D].toArray,fun vs W=>(vs 7)=vI b,fun vs W=>Rd W [0] [(vs 8)] V,fun vs W=>Ow W 6 [] [(vs 9)] E,fun vs W=>(vs 10) = .agg [.slice none 0 0,vS d.Who,(vs 9)].toArray,fun vs W=>(vs 11)=ptr (bx (pg (vs 11)))/\Bx W 7 (pg (vs 11)) [.slice none 0 0,vS ([]:Str), .slice none 0 0],fun vs W=>(vs 11)=ptr (bx (pg (vs 11)))/\Bx W 7 (pg (vs 11)) [.slice none 0 0,vS d.Who,(vs 9)]] [] mixed (by kernel_rfl) O zrc.nil ?_
   intro fb F
   have ao:=cp.n F
   have bn:=(((b1.up l9).up cj).up an).up F
   refine⟨(zc2.cons ?_ (zc2.cons ?_ (zc2.cons ?_ (zc2.cons ?_ (zc2.cons ?_ (zc2.cons ?_ (zc2.cons ?_ (zc2.cons ?_ (zc2.cons ?_ (zc2.cons ?_ (zc2.cons ?_ (zc2.cons ?_ (zc2.cons ?_ zc2.nil))))))))))))),(zhD.cons SE (zhD.cons SE (zhD.cons SE (zhD.cons SE (zhD.cons SE (zhD.cons SE (zhD.cons SE (zhD.cons SE (zhD.cons (fun vs vs' W W' _ hv l hd h=>by(show Rd W' [0] [(vs' 8)] V);rw[hv 8 (zbB O)];exact h.up l (zmi hd (K:=[0]) O)) (zhD.cons SO (zhD.cons (fun vs vs' W W' _ hv l hd h=>by(show(vs' 10) = .agg [.slice none 0 0,vS d.Who,(vs' 9)].toArray);rw[hv 9 (zbB O),hv 10 (zbB O)];exact h) (zhD.cons (fun vs vs' W W' _ hv l hd h=>by(show(vs' 11)=ptr (bx (pg (vs' 11)))/\Bx W' 7 (pg (vs' 11)) [.slice none 0 0,vS ([]:Str), .slice none 0 0]);rw[hv 11 (zbB O)];exact⟨h.1,h.2.up l (zgn hd (c:=7) O)⟩) (zhD.cons (fun vs vs' W W' _ hv l hd h=>by(show(vs' 11)=ptr (bx (pg (vs' 11)))/\Bx W' 7 (pg (vs' 11)) [.slice none 0 0,vS d.Who,(vs' 9)]);rw[hv 9 (zbB O),hv 11 (zbB O)];exact⟨h.1,h.2.up l (zgn hd (c:=7) O)⟩) zhD.nil))))))))))))),?_⟩
   ·intro vs fc lW hN hV
    exact Trq (R.fa O) O
   ·intro vs fd lW hN hV
    have bp:vs 0=ptr ((bx g1).add 0):=(hN 0 (zbB O))
    obtain⟨vs,rfl⟩:=za1 bp
    exact Trq (R.ld (v:=a) O O ((bn.up lW O).cell O)) O
   ·intro vs fe lW hN hV
    exact Trq (R.mv (v:=vI b) O) O
   ·intro vs ff lW hN hV
    have ds:=ao.t lW O
    have bq:vs 1=a:=(hN 1 (zbB O))
    obtain⟨vs,rfl⟩:=za1 bq
    have br:vs 2=vI b:=(hN 2 (zbB O))
    obtain⟨vs,rfl⟩:=za1 br
    exact Trq (R.ix (α:=Commit) (y.ul ds) ct O O O) O
   ·intro vs fg lW hN hV
    have bu:vs 3=ptr ((slA a).add ((b).toNat*Rp.sz (Commit))):=(hN 3 (zbB O))
    obtain⟨vs,rfl⟩:=za1 bu
    exact Trq (R.fa O) O
   ·intro vs fh lW hN hV
    have dt:=ao.t lW O
    have bv:vs 4=ptr (((slA a).add ((b).toNat*Rp.sz (Commit))).add 1):=(hN 4 (zbB O))
    obtain⟨vs,rfl⟩:=za1 bv
    exact Trq (R.ld O O (Commit.at1 ((y.ul dt).at_ ct)).str) O
   ·intro vs fi lW hN hV
    exact Trq (R.lda (cs:=[a,D]) (bn.up lW O).cells O O) O
   ·intro vs fj lW hN hV
    exact Trq (R.mv (v:=vI b) O) O
   ·intro vs fm lW hN hV
    have cu:=ao.t lW O
    have bw:vs 6 = .agg [a,D].toArray:=(hN 6 (zbB O))
    obtain⟨vs,rfl⟩:=za1 bw
    have bz:vs 7=vI b:=(hN 7 (zbB O))
    obtain⟨vs,rfl⟩:=za1 bz
    refine Tr.mono (T.call O (p100 (Repo.rd (K:=[0]) x0.Commits x0.Heads (y.ul cu) (ba.ul cu)) dq)) ?_
    rintro du _ ⟨cv,rfl,dv,⟨_,rfl,dw⟩⟩
    have dx:=dw.sub (M:=[0]) O
    exact⟨cv,O,dv,(show Rd cv [0] [du] V from dx)⟩
   ·intro vs dy lW hN hV
    obtain⟨b0,b2⟩: ∃ v,vs 8=v:=⟨_,O⟩
    obtain⟨vs,rfl⟩:=za1 b2
    have dz:Rd dy [0] [b0] V:=(hN 8 (zbB O))
    refine Tr.mono (T.call O (p99 (k0:=6) dz dr)) ?_
    rintro d0 _ ⟨cw,rfl,d1,⟨_,rfl,d2⟩⟩
    exact⟨cw,O,d1,(show Ow cw 6 [] [d0] E from d2)⟩
   ·intro vs d3 lW hN hV
    have b3:vs 5=vS d.Who:=(hN 5 (zbB O))
    obtain⟨vs,rfl⟩:=za1 b3
    obtain⟨e,X⟩: ∃ v,vs 9=v:=⟨_,O⟩
    obtain⟨vs,rfl⟩:=za1 X
    have d4:Ow d3 6 [] [e] E:=(hN 9 (zbB O))
    exact Trq (R.bd (zs:=[.slice none 0 0,vS ([]:Str), .slice none 0 0]) (cs:=[.slice none 0 0,vS d.Who,e]) [(1,vS d.Who),(2,e)] O O O (zcK O O (zcK d4.oc O zg2))) O
   ·intro vs fn lW hN hV
    refine Tr.mono (T.alloc 7 (cs:=[.slice none 0 0,vS ([]:Str), .slice none 0 0]) O) ?_
    rintro _ _ ⟨b4,cx,rfl,rfl,d5,d6⟩
    exact⟨cx,O,d5,(show(ptr (bx b4):Value)=ptr (bx b4)/\Bx cx 7 b4 [.slice none 0 0,vS ([]:Str), .slice none 0 0] from⟨O,d6⟩)⟩
   ·intro vs cy lW hN hV
    obtain⟨e,X⟩: ∃ v,vs 9=v:=⟨_,O⟩
    obtain⟨vs,rfl⟩:=za1 X
    have d7:Ow cy 6 [] [e] E:=(hN 9 (zbB O))
    have b5:vs 10 = .agg [.slice none 0 0,vS d.Who,e].toArray:=(hN 10 (zbB O))
    obtain⟨vs,rfl⟩:=za1 b5
    obtain⟨f,b6⟩: ∃ f,vs 11=ptr (bx f):=⟨_,((hN 11 (zbB O))).1⟩
    obtain⟨vs,rfl⟩:=za1 b6
    have d8:Bx cy 7 f [.slice none 0 0,vS ([]:Str), .slice none 0 0]:=(hN 11 (zbB O)).2
    refine Tr.mono (T.sta (vs:=[.slice none 0 0,vS d.Who,e]) d8 O O (zaf O (zaf O (zaf d7.oc zaW))) O O) ?_
    rintro _ _ ⟨cz,rfl,d9,ea⟩
    exact⟨cz,O,d9,(show(ptr (bx f))=ptr (bx f)/\Bx cz 7 f [.slice none 0 0,vS d.Who,e] from⟨O,ea⟩)⟩
   ·intro vs Z G hN
    have b7:=ao.t G
    have bp:vs 0=ptr ((bx g1).add 0):=(hN 0 (zbB O))
    obtain⟨vs,rfl⟩:=za1 bp
    have bq:vs 1=a:=(hN 1 (zbB O))
    obtain⟨vs,rfl⟩:=za1 bq
    have br:vs 2=vI b:=(hN 2 (zbB O))
    obtain⟨vs,rfl⟩:=za1 br
    have bu:vs 3=ptr ((slA a).add ((b).toNat*Rp.sz (Commit))):=(hN 3 (zbB O))
    obtain⟨vs,rfl⟩:=za1 bu
    have bv:vs 4=ptr (((slA a).add ((b).toNat*Rp.sz (Commit))).add 1):=(hN 4 (zbB O))
    obtain⟨vs,rfl⟩:=za1 bv
    have b3:vs 5=vS d.Who:=(hN 5 (zbB O))
    obtain⟨vs,rfl⟩:=za1 b3
    have bw:vs 6 = .agg [a,D].toArray:=(hN 6 (zbB O))
    obtain⟨vs,rfl⟩:=za1 bw
    have bz:vs 7=vI b:=(hN 7 (zbB O))
    obtain⟨vs,rfl⟩:=za1 bz
    obtain⟨b0,b2⟩: ∃ v,vs 8=v:=⟨_,O⟩
    obtain⟨vs,rfl⟩:=za1 b2
    have fo:Rd Z [0] [b0] V:=(hN 8 (zbB O))
    obtain⟨e,X⟩: ∃ v,vs 9=v:=⟨_,O⟩
    obtain⟨vs,rfl⟩:=za1 X
    have eb:Ow Z 6 [] [e] E:=(hN 9 (zbB O))
    have b5:vs 10 = .agg [.slice none 0 0,vS d.Who,e].toArray:=(hN 10 (zbB O))
    obtain⟨vs,rfl⟩:=za1 b5
    obtain⟨f,b6⟩: ∃ f,vs 11=ptr (bx f):=⟨_,(hN 12 (zbB O)).1⟩
    obtain⟨vs,rfl⟩:=za1 b6
    have ec:Bx Z 7 f [.slice none 0 0,vS d.Who,e]:=(hN 12 (zbB O)).2
    refine ssr (fl (bn.up G) O (mi O ?_))
    obtain⟨c0,c1,Y⟩:=ob Y
    refine Lw.r O (R.ix (α:=Commit) (y.ul b7) c1 O O O) (Lw.fa O ?_)
    obtain⟨fp,c215,r216⟩:=(Commit.at0 ((y.ul b7).at_ c1)).cell O
    refine Lw.r O (R.ld O O c215) (Lw.ln c0.Parents r216 O (mi O (nl (Cw.block ?_))))
    obtain⟨ed,ee,Y⟩:=zc4 Y
    refine Cw.loop 50 79 [6,7,14,15,16,50] (fun m l w=> ∃ H I ap aq i L N b8 b9 cb aa A k,CW.w k=w/\Le [7,8] Z k/\l=[N,vB I,b8,b9,cb,vI ap]/\Ow k 4 [] [N] H/\Ow k 8 [] [aa] aq/\Ow k 6 [] [A] L/\Bx k 7 f [aa,vS i,A]/\Vm.zeU x1 bg c0 ed m H I ap aq i L=some r) _ ⟨ai,aj,0,([]:List Int),d.Who,E,am,bj,bk,bl, .slice none 0 0,e,Z,O,Le.refl _ _,O,((dp.up F).up G),owN 8 [],eb,ec,Y⟩ ?_
    rintro(_ |fq) _ _ σ ⟨H,I,ap,aq,i,L,N,b8,b9,cb,aa,A,k,rfl,ac,rfl,c2,c3,c4,c5,Y⟩
    ·cases Y
    unfold Vm.zeU at Y
    have cc:=ac.s
    refine sr (Lw.lt O (nl (Cw.seq (cn Y (fun Y=>?_) fun Y=>?_))))
    ·refine sk ?_
     obtain⟨ef,eg,Y⟩:=zc4 Y
     refine Cw.join 52 78 [6,7,14,15,16] (fun l w=> ∃ ar au av aw ax ay cd ce cf az a0 x,CW.w x=w/\Le [7,8] k x/\l=[ay,vB au,cd,ce,cf]/\Ow x 4 [] [ay] ar/\Ow x 8 [] [az] av/\Ow x 6 [] [a0] ax/\Bx x 7 f [az,vS aw,a0]/\ef ar au av aw ax=some r) ?_ ?_
     ·rintro _ _ σ ⟨ar,au,av,aw,ax,ay,cd,ce,cf,az,a0,x,rfl,eh,rfl,ei,ej,ek,el,Y⟩
      rw[eg]at Y
      exact rg (Lw.add O (mi O (nl ((agm) ⟨ar,au,w64 (ap+1),av,aw,ax,ay,cd,ce,cf,az,a0,x,O,(ac.j eh).w,O,ei,ej,ek,el,Y⟩))))
     ·refine Cw.block (sr ?_)
      obtain⟨c6,c7,Y⟩:=ob Y
      refine Lw.r O (R.ix (α:=Int) (r216.ul cc) c7 O O O) (Lw.r O (R.ld O O ((r216.ul cc).at_ c7).int) (Ni O (sr (mv bh O (mi O (ca Y (fun _=>p66 (K:=[3]) (((bm.up F).up G).up ac).rd) fun a1 fr Y B=>?_))))))
      have c8:=(b7.trans cc).n B
      refine mv P O (mi O (ca Y (fun _=>p66 (h1.ul c8)) fun a3 fs Y C=>?_))
      have em:=c8.n C
      have c9:=(c2.up B).up C
      have da:=(c4.up B).up C
      have db:=(c3.up B).up C
      have a4:=(c5.up B).up C
      refine Gi O (Ni O (Cw.block (sr (mi O (Lw.ge O (Nb O (cn Y (fun Y=>?_) fun Y=>?_)))))))
      ·refine rg (fl a4 O (mi O (Lw.t O (T.bs 9 [vI a1] (cs:=[vI a1]) O O (bsv O)) ?_)))
       rintro _ _ ⟨ft,fu,rfl,rfl,ae,en⟩
       obtain⟨eo,ep,Y⟩:=ob Y
       refine Lw.t O (T.app1S (α:=Int) (K':=[]) (db.up ae) en (rdI _) O O ep) ?_
       rintro dc _ ⟨fv,rfl,a5,dd⟩
       refine Lw.fa O (Lw.u (T.st (j:=0) (v:=dc) ((a4.up ae).up a5) O O dd.oc O O) ?_)
       rintro _ _ ⟨er,rfl,a6,es⟩
       exact nl ((ag) ⟨H,I,eo,i,L,N,vI c6,vI a1,vI a3,dc,A,er,O,((((B.j C).j ae).j a5).j a6).w,O,(((c9.up ae).up a5).up a6),(dd.up a6),(((da.up ae).up a5).up a6),es,Y⟩)
      ·refine sr (mi O (Lw.ge O (Nb O (cn Y (fun Y=>?_) fun Y=>?_))))
       ·refine rg (fl a4 O (mi O (Lw.sub O (Lw.t O (T.bs 10 [vI (w64 ((-1)-a3))] (cs:=[vI (w64 ((-1)-a3))]) O O (bsv O)) ?_))))
        rintro _ _ ⟨fw,fx,rfl,rfl,af,et⟩
        obtain⟨eu,ew,Y⟩:=ob Y
        refine Lw.t O (T.app1S (α:=Int) (K':=[]) (db.up af) et (rdI _) O O ew) ?_
        rintro de _ ⟨fy,rfl,a7,df⟩
        refine Lw.fa O (Lw.u (T.st (j:=0) (v:=de) ((a4.up af).up a7) O O df.oc O O) ?_)
        rintro _ _ ⟨ex,rfl,a8,ey⟩
        exact nl ((ag) ⟨H,I,eu,i,L,N,vI c6,vI a1,vI a3,de,A,ex,O,((((B.j C).j af).j a7).j a8).w,O,(((c9.up af).up a7).up a8),(df.up a8),(((da.up af).up a7).up a8),ey,Y⟩)
       ·refine sr (Gv (.slice none 0 0) O (Nb O ?_))
        cases Y
        exact Cw.ret (zqq O O (Res.mk em ⟨.slice none 0 0,O,(zp1 []).sub O O⟩))
    ·refine Cw.exit ?_
     rw[ee]at Y
     refine rg (mv z O (la c5 (Lw.t O (T.bs 11 [.agg [aa,vS i,A].toArray] (cs:=[aa,vS i,A]) O O (bsA O)) ?_)))
     rintro _ _ ⟨fz,f0,rfl,rfl,ah,ez⟩
     obtain⟨e0,e1,Y⟩:=ob Y
     refine Lw.t O (T.app1 (α:=Commit) (J:=[8,6]) (K':=[]) ((((co.up F).up G).up ac).up ah) ez (Commit.own aq i L (c3.up ah).s (c4.up ah).s) O O e1) ?_
     rintro dg _ ⟨e2,rfl,dh,e3⟩
     exact Nv dg O (rg (Lw.add O (mi O (nl ((agm) ⟨H,I,e0,w64 (ak+1),N,dg,vI b,ptr (bx f),b8,b9,cb,e2,O,(((((an.j F).j G).j ac).j ah).j dh).w,O,((c2.up ah).up dh),e3,Y⟩)))))
  ·refine Cw.exit ?_
   rw[dn]at Y
   refine sr (mv z O (Gv z O (Nb O ?_)))
   cases Y
   exact Cw.ret (zqq O O (Res.mk cp ⟨z,O,co.s.sub O O⟩))
theorem p53 {x0 b d x1 f x2 k0 r}(h:Rd W K [b,d] x0)(i:Rd W K [f] x1)(k:Gl 0 W K)(Y:Vm.zie x0 x1 x2=some r):Q1 53 [.agg [b,d].toArray,f,vI x2] W [] fun W' v=> ∃ a,v = .tuple [a,vB r.2].toArray/\Ow W' k0 [] [a] r.1:=
 (c53 (h.view _) (i.view _) (k.view _) Y).ad (fk k0) fun _ _ ⟨a,e,x⟩=>⟨a,e,x.back (zlS _)⟩
end Go.Sx
