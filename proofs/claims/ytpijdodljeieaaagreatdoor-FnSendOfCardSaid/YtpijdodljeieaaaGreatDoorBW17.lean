/- Walks: each function answers as its model, printed by a program of ours. Conditions: the arguments read as they are given. -/
import Derived.Test.YtpijdodljeieaaaGreatDoorBTs
import Derived.Test.YtpijdodljeieaaaGreatDoorBM11
import Derived.Test.YtpijdodljeieaaaGreatDoorBW0
import Derived.Test.YtpijdodljeieaaaGreatDoorBW1
import Derived.Test.YtpijdodljeieaaaGreatDoorBW11
import Derived.Test.YtpijdodljeieaaaGreatDoorBW3
namespace Go.Sx
open Go Go.Proofs Go.Vm Rp
set_option linter.unusedVariables false
set_option linter.unusedSimpArgs false
variable {W W0:CW}{K:List Nat}
theorem c120 {x0 A B x1 a r}(E:Rd W0 [0] [A,B] x0)(b:Rd W0 [0] [a] x1)(Y:Vm.zhj x0 x1=some r):Q0 120 [.agg [A,B].toArray,a] W0 fun Wf v=>v=vB r:=by
 unfold Vm.zhj at Y
 obtain⟨P,Q,C,F,S⟩:=Repo.split E
 simp only[List.cons.injEq,and_true,true_and]at C
 obtain⟨rfl,rfl⟩:=C
 refine zaT.of Tryz.func120 O O O O (sr (bo 2 O fun U D G H=>?_))
 have I:=G.o
 refine Nb O (ssr (Ni O (Cw.block ?_)))
 obtain⟨J,K,Y⟩:=zc4 Y
 refine Cw.loop 6 21 [4,5] (fun m l w=> ∃ e f i,CW.w i=w/\Le [] D i/\l=[vB e,vI f]/\Vm.zgu x0 x1 J m e f=some r) _ ⟨false,0,D,O,Le.refl _ _,O,Y⟩ ?_
 rintro(_ |V) _ _ σ ⟨e,f,i,rfl,k,rfl,Y⟩
 ·cases Y
 unfold Vm.zgu at Y
 have h:=I.n k
 refine ssr (mi O (mv a O (Lw.ln x1 (b.ul h) O (Lw.lt O (nl (cn Y (fun Y=>?_) fun Y=>?_))))))
 ·refine sk (Cw.seq (Cw.block (Cw.seq (Cw.draw [] [(0,0),(1,0),(2,0),(3,1),(4,0),(5,1),(6,0),(7,0),(8,2),(9,0)] mixed (by kernel_rfl) fun W x=>?_))))
  have d:=h.n x
  refine Dv a O (Di O ?_)
  obtain⟨X,y,Y⟩:=ob Y
  refine Mw.p O O (fun _=>R.ix (α:=Int) (b.ul d) y O O O) (Mw.q O O (fun _ c=>R.ld O O (zaD ((b.ul d).at_ y).1 O ((b.ul d).at_ y).int c)) (Dfl ((H.up k).up x) O O O (Mw.p O O (fun _=>zo6 (xs:=x0.Commits) (F.ul d) O) (Mw.p O O (fun _=>R.sub O O) ?_))))
  obtain⟨Z,L,Y⟩:=ob Y
  refine Mw.t O O (T.call O (p67 L)) ?_
  rintro _ _ ⟨M,rfl,z,rfl⟩
  have N:=d.n z
  refine m0 z fun aa=>Mw.p O O (fun _=>R.not O) (Mw.nil (cn Y (fun Y=>?_) fun Y=>?_))
  ·exact sr (Nb O (.ret (rt Y N)))
  ·exact sk (rg (mi O (Lw.add O (Ni O ((agm) ⟨e,w64 (f+1),M,O,((k.j x).j z).w,O,Y⟩)))))
 ·refine Cw.exit ?_
  rw[K]at Y
  exact sr (mv a O (Lw.ln x1 (b.ul h) O (Lw.le O (Nb O (.ret (rt Y h))))))
theorem p120 {x0 a b x1 d r}(f:Rd W K [a,b] x0)(h:Rd W K [d] x1)(Y:Vm.zhj x0 x1=some r):Q1 120 [.agg [a,b].toArray,d] W [] fun W' v=>v=vB r:=
 (c120 (f.view _) (h.view _) Y).ad (fk 0) fun _ _ e=>e
theorem c145 {x0 H I x1 z x2 r}(h0:Rd W0 [0] [H,I] x0)(A:Rd W0 [0] [z] x1)(Y:Vm.zjo x0 x1 x2=some r):Q0 145 [.agg [H,I].toArray,z,vI x2] W0 fun Wf v=> ∃ W,v=W/\OwS Wf LL [] [W] r:=by
 unfold Vm.zjo at Y
 obtain⟨br,bu,X,Z,aa⟩:=Repo.split h0
 simp only[List.cons.injEq,and_true,true_and]at X
 obtain⟨rfl,rfl⟩:=X
 refine zaT.of Tryz.func145 O O O O (sr (bo 2 O fun g1 W1 l1 b1=>?_))
 have J:=l1.o
 refine Nv (.slice none 0 0) O (sr (la b1 (mi O (cr Y (fun _=>p109 (k0:=3) (Repo.rd (K:=[0]) x0.Commits x0.Heads (Z.ul J) (aa.ul J))) ?_))))
 rintro L B W7 Y l7 ⟨_,rfl,ay⟩
 have a8:=J.n l7
 refine Nv B O (sr (Lw.t O (T.lit0 (α:=Int) 4 []) ?_))
 rintro af _ ⟨ah,rfl,l10,a0⟩
 have a1:=a8.n l10
 refine Nv af O (ssr (Ni O (Cw.block ?_)))
 obtain⟨a3,a4,Y⟩:=zc4 Y
 refine Cw.loop 16 50 [8,9,10,11] (fun m l w=> ∃ C h d ai aj f,CW.w f=w/\Le [4] ah f/\l=[d,vI h,ai,aj]/\Ow f 4 [] [d] C/\Vm.zfP x0 x1 L a3 m C h=some r) _ ⟨([]:List Int),0,af,undef,undef,ah,O,Le.refl _ _,O,a0,Y⟩ ?_
 rintro(_ |b0) _ _ σ ⟨C,h,d,ai,aj,f,rfl,D,rfl,M,Y⟩
 ·cases Y
 unfold Vm.zfP at Y
 have ak:=a1.t D
 have am:=(ay.up l10).up D
 refine ssr (mi O (mv B O (Lw.ln L am.rd O (Lw.lt O (nl (cn Y (fun Y=>?_) fun Y=>?_))))))
 ·refine sk ?_
  obtain⟨a5,a6,Y⟩:=zc4 Y
  refine Cw.join 22 50 [8,10,11] (fun l w=> ∃ E F N P i,CW.w i=w/\Le [4] f i/\l=[F,N,P]/\Ow i 4 [] [F] E/\a5 E=some r) ?_ ?_
  ·rintro _ _ σ ⟨E,F,N,P,i,rfl,a7,rfl,a9,Y⟩
   rw[a6]at Y
   exact rg (mi O (Lw.add O (Ni O ((agm) ⟨E,w64 (h+1),F,N,P,i,O,(D.j a7).w,O,a9,Y⟩))))
  ·refine Cw.block (sr (Nb O (ssr (Ni O (Cw.block ?_)))))
   obtain⟨ba,bb,Y⟩:=zc4 Y
   refine Cw.loop 22 42 [10,11] (fun m l w=> ∃ k e G,CW.w G=w/\Le [] f G/\l=[vB k,vI e]/\Vm.zd7 x0 x1 L h ba m k e=some r) _ ⟨true,0,f,O,Le.refl _ _,O,Y⟩ ?_
   rintro(_ |b2) _ _ σ ⟨k,e,G,rfl,b,rfl,Y⟩
   ·cases Y
   unfold Vm.zd7 at Y
   have an:=ak.n b
   have Q:=am.up b
   refine ssr (mi O (mv z O (Lw.ln x1 (A.ul an) O (Lw.lt O (nl (cn Y (fun Y=>?_) fun Y=>?_))))))
   ·refine sk (Cw.seq (Cw.block (Cw.draw [] [(0,0),(1,0),(2,1),(3,0),(4,0),(5,0),(6,1),(8,0),(9,0),(10,0),(11,1),(7,2),(12,3),(13,0),(14,0),(15,0)] mixed (by kernel_rfl) fun bc x=>?_)))
    have y:=an.n x
    have S:=Q.up x
    refine Db O (Db O (bs Y (fun a Y=>?_) fun a Y=>?_))
    ·refine Wq a O (fun _ c=>R.lda (cs:=[H,I]) ((((((b1.up l7).up l10).up D).up b).up x).clcs O c) O O) (Wp a O (fun _=>R.mv (v:=z) O) (Wp a O (fun _=>R.mv (v:=vI e) O) ?_))
     obtain⟨b3,U,Y⟩:=ob Y
     refine Wp a O (fun _=>R.ix (α:=Int) (A.ul y) U O O O) (Wq a O (fun _ c=>R.ld O O (zaD ((A.ul y).at_ U).1 O ((A.ul y).at_ U).int c)) (Wp a O (fun _=>R.mv (v:=B) O) (Wp a O (fun _=>R.mv (v:=vI h) O) ?_)))
     obtain⟨b4,V,Y⟩:=ob Y
     refine Wp a O (fun _=>R.ix (α:=Int) S.rd V O O O) (Wq a O (fun _ c=>R.ld O O (zaD (S.rd.at_ V).1 O (S.rd.at_ V).int c)) ?_)
     obtain⟨b5,be,Y⟩:=ob Y
     refine Wt a O (T.call O (p109 (k0:=5) (Repo.rd (K:=[0]) x0.Commits x0.Heads (Z.ul y) (aa.ul y)) be)) ?_
     rintro b6 _ ⟨b7,rfl,ao,⟨_,rfl,bg⟩⟩
     refine m0 ao fun b8=>?_
     obtain⟨ap,bh,Y⟩:=ob Y
     refine Mw.gl a O O O O O (T.call O (p161 (K:=[5]) bg.rd bh)) ?_
     rintro _ _ ⟨bi,rfl,bj,rfl⟩
     exact Wp a O (fun _=>R.not O) (Mw.p O O (fun _=>R.pk a O (v:=vB (!ap)) O) (Hb O (Mw.nil (rg (mi O (Lw.add O (Ni O ((agm) ⟨(!ap),w64 (e+1),bi,O,(((b.j x).j ao).j bj).w,O,Y⟩))))))))
    ·exact dps 12 a O (Mw.p O O (fun _=>R.pk a O (v:=vB false) O) (Hb O (Mw.nil (rg (mi O (Lw.add O (Ni O ((agm) ⟨false,w64 (e+1),bc,O,(b.j x).w,O,Y⟩))))))))
   ·refine Cw.exit ?_
    rw[bb]at Y
    refine sr (mb O (nl (cn Y (fun Y=>?_) fun Y=>?_)))
    ·refine rg (mv d O (mv B O (mi O ?_)))
     obtain⟨aq,ar,Y⟩:=ob Y
     refine Lw.r O (R.ix (α:=Int) Q.rd ar O O O) (Lw.r O (R.ld O O (Q.rd.at_ ar).int) (Lw.t O (T.bs 6 [vI aq] (cs:=[vI aq]) O O (bsv O)) ?_))
     rintro _ _ ⟨b9,cb,rfl,rfl,au,bk⟩
     obtain⟨bl,bm,Y⟩:=ob Y
     refine Lw.t O (T.app1S (α:=Int) (K':=[]) ((M.up b).up au) bk (rdI _) O O bm) ?_
     rintro av _ ⟨bn,rfl,bp,bq⟩
     exact Nv av O ((ag) ⟨bl,av,vB k,vI e,bn,O,((b.j au).j bp).w,O,bq,Y⟩)
    ·exact sk ((ag) ⟨C,d,vB k,vI e,G,O,b.w,O,(M.up b),Y⟩)
 ·refine Cw.exit ?_
  rw[a4]at Y
  refine sr (mv d O (Nv d O ?_))
  cases Y
  exact Cw.ret (zmk O (Res.mk ak ⟨d,O,M.s.sub O O⟩))
theorem p145 {x0 b d x1 f x2 k0 r}(h:Rd W K [b,d] x0)(i:Rd W K [f] x1)(Y:Vm.zjo x0 x1 x2=some r):Q1 145 [.agg [b,d].toArray,f,vI x2] W [] fun W' v=> ∃ a,v=a/\Ow W' k0 [] [a] r:=
 (c145 (h.view _) (i.view _) Y).ad (fk k0) fun _ _ ⟨a,e,k⟩=>⟨a,e,k.back (zlS _)⟩
theorem c121 {x0 d e x1 b x2 r}(k:Rd W0 [0] [d,e] x0)(x:Rd W0 [0] [b] x1)(Y:Vm.zkv x0 x1 x2=some r):Q0 121 [.agg [d,e].toArray,b,vI x2] W0 fun Wf v=> ∃ f,v=f/\OwS Wf LL [] [f] r:=by
 unfold Vm.zkv at Y
 obtain⟨F,G,h,y,z⟩:=Repo.split k
 simp only[List.cons.injEq,and_true,true_and]at h
 obtain⟨rfl,rfl⟩:=h
 refine zaT.of Tryz.func121 O O O O (sr (bo 2 O fun H I A B=>?_))
 have a:=A.o
 refine Nv (.slice none 0 0) O (sr (la B (mv b O (mi O (cr Y (fun _=>p145 (k0:=3) (Repo.rd (K:=[0]) x0.Commits x0.Heads (y.ul a) (z.ul a)) (x.ul a)) ?_)))))
 rintro J i L Y C ⟨_,rfl,D⟩
 have E:=a.n C
 refine Nv i O ?_
 cases Y
 exact Cw.ret (zmk O (Res.mk E ⟨i,O,D.s.sub O O⟩))
theorem p121 {x0 b d x1 f x2 k0 r}(h:Rd W K [b,d] x0)(i:Rd W K [f] x1)(Y:Vm.zkv x0 x1 x2=some r):Q1 121 [.agg [b,d].toArray,f,vI x2] W [] fun W' v=> ∃ a,v=a/\Ow W' k0 [] [a] r:=
 (c121 (h.view _) (i.view _) Y).ad (fk k0) fun _ _ ⟨a,e,k⟩=>⟨a,e,k.back (zlS _)⟩
theorem c54 {x0 x ci x1 U x2 r}(h0:Rd W0 [0] [x,ci] x0)(h1:Rd W0 [0] [U] x1)(Y:Vm.ziH x0 x1 x2=some r):Q0 54 [.agg [x,ci].toArray,U,vI x2] W0 fun Wf v=> ∃ u0,v = .tuple [u0,vB r.2].toArray/\OwS Wf LL [] [u0] r.1:=by
 unfold Vm.ziH at Y
 obtain⟨e7,e8,ck,E,a5⟩:=Repo.split h0
 simp only[List.cons.injEq,and_true,true_and]at ck
 obtain⟨rfl,rfl⟩:=ck
 refine zaT.of Tryz.func54 O O O O (sr (bo 2 O fun g1 W1 l1 b1=>?_))
 have a2:=l1.o
 refine Gv (.slice none 0 0) O (Nb O (sr (Lw.t O (T.lit0 (α:=Commit) 3 []) ?_)))
 rintro v3 _ ⟨W3,rfl,l3,o3⟩
 have a4:=a2.n l3
 have V:=b1.up l3
 refine Nv v3 O (Cw.seq ?_)
 obtain⟨K8,dk,Y⟩:=zc4 Y
 refine Cw.join 16 33 [33] (fun l w=> ∃ y6 W7,CW.w W7=w/\Le [] W3 W7/\l=[vB y6]/\K8 y6=some r) ?_ ?_
 ·rintro _ _ σ ⟨y6,W7,rfl,l7,rfl,Y⟩
  rw[dk]at Y
  have X:=a4.n l7
  refine cn Y (fun Y=>?_) fun Y=>?_
  ·refine sr (Gv (.slice none 0 0) O (Nb O ?_))
   cases Y
   exact Cw.ret (zqq O O (Res.mk X ⟨.slice none 0 0,O,(zp1 []).sub O O⟩))
  ·refine sk (sr (la (V.up l7) (mv U O (mi O (cr Y (fun _=>p121 (k0:=4) (Repo.rd (K:=[0]) x0.Commits x0.Heads (E.ul X) (a5.ul X)) (h1.ul X)) ?_)))))
   rintro ba k co Y bb ⟨_,rfl,cp⟩
   have dl:=X.n bb
   refine Nv k O (ssr (Ni O (Cw.block ?_)))
   obtain⟨dm,dn,Y⟩:=zc4 Y
   refine Cw.loop 38 96 [6,7,8,10,11,12,13,14] (fun m l w=> ∃ aq ar bc f au y cq ct be bg Z,CW.w Z=w/\Le [3,6,7,8] co Z/\l=[au,vB ar,y,vI f,cq,ct,be,bg]/\Ow Z 5 [] [au] aq/\Ow Z 3 [] [y] bc/\Vm.zeS x0 x1 ba dm m aq ar bc f=some r) _ ⟨([]:List Commit),false,([]:List Commit),0, .slice none 0 0,v3,undef,undef,undef,undef,co,O,Le.refl _ _,O,owN 5 [],((o3.up l7).up bb),Y⟩ ?_
   rintro(_ |fb) _ _ σ ⟨aq,ar,bc,f,au,y,cq,ct,be,bg,Z,rfl,aa,rfl,dp,cu,Y⟩
   ·cases Y
   unfold Vm.zeS at Y
   have cv:=dl.t aa
   refine ssr (mi O (mv k O (Lw.ln ba (cp.up aa).rd O (Lw.lt O (nl (cn Y (fun Y=>?_) fun Y=>?_))))))
   ·refine sk (Cw.seq (Cw.block (Cw.seq ?_)))
    obtain⟨F,cw,Y⟩:=ob Y
    obtain⟨b,cx,Y⟩:=ob Y
    obtain⟨a,dq,Y⟩:=ob Y
    refine Cw.par [[],[0],[],[],[2,3],[2,3,4],[0,1,2,3,4,5],[0,1,2,3,4,5,6],[0,1,2,3,4,5,6,7],[],[0,1,2,3,4,5,6,7,8,9]] [[],[0],[],[],[2,3],[4],[1,5],[6],[7],[],[8,9]] [[],[],[],[],[],[],[],[],[],[],[8]] [[0],[1],[2],[3],[4],[5],[6],[7],[8],[9],[8,9]] [[],[],[],[],[],[],[],[0],[6,7],[8],[8]] [0,1,2,3,4,5,6,7,8,10] [8] [fun vs W=>(vs 0)=ptr ((bx g1).add 0),fun vs W=>(vs 1)=x,fun vs W=>(vs 2)=k,fun vs W=>(vs 3)=vI f,fun vs W=>(vs 4)=ptr ((slA k).add ((f).toNat*Rp.sz (Int))),fun vs W=>(vs 5)=vI F,fun vs W=>(vs 6)=ptr ((slA x).add ((F).toNat*Rp.sz (Commit))),fun vs W=>(vs 7) = .agg [(zaV (vs 7) 0),vS b.Who,(zaV (vs 7) 2)].toArray/\Rd W [0] [(zaV (vs 7) 0)] b.Parents/\Rd W [0] [(zaV (vs 7) 2)] b.Tree,fun vs W=>(vs 8) = .agg [(zaV (vs 8) 0),vS a.Who,(zaV (vs 8) 2)].toArray/\Ow W 6 [] [(zaV (vs 8) 0)] a.Parents/\Ow W 7 [] [(zaV (vs 8) 2)] a.Tree,fun vs W=>(vs 9)=ptr (bx (pg (vs 9)))/\Bx W 8 (pg (vs 9)) [.slice none 0 0,vS ([]:Str), .slice none 0 0],fun vs W=>(vs 9)=ptr (bx (pg (vs 9)))/\Bx W 8 (pg (vs 9)) [(zaV (vs 8) 0),vS a.Who,(zaV (vs 8) 2)]] [] mixed (by kernel_rfl) O zrc.nil ?_
    intro fc G
    have bh:=cv.n G
    have bi:=(cp.up aa).up G
    refine⟨(zc2.cons ?_ (zc2.cons ?_ (zc2.cons ?_ (zc2.cons ?_ (zc2.cons ?_ (zc2.cons ?_ (zc2.cons ?_ (zc2.cons ?_ (zc2.cons ?_ (zc2.cons ?_ (zc2.cons ?_ zc2.nil))))))))))),(zhD.cons SE (zhD.cons SE (zhD.cons SE (zhD.cons SE (zhD.cons SE (zhD.cons SE (zhD.cons SE (zhD.cons (fun vs vs' W W' _ hv l hd h=>by(show(vs' 7) = .agg [(zaV (vs' 7) 0),vS b.Who,(zaV (vs' 7) 2)].toArray/\Rd W' [0] [(zaV (vs' 7) 0)] b.Parents/\Rd W' [0] [(zaV (vs' 7) 2)] b.Tree);rw[hv 7 (zbB O)];exact⟨h.1,h.2.1.up l (zmi hd (K:=[0]) O),h.2.2.up l (zmi hd (K:=[0]) O)⟩) (zhD.cons (fun vs vs' W W' _ hv l hd h=>by(show(vs' 8) = .agg [(zaV (vs' 8) 0),vS a.Who,(zaV (vs' 8) 2)].toArray/\Ow W' 6 [] [(zaV (vs' 8) 0)] a.Parents/\Ow W' 7 [] [(zaV (vs' 8) 2)] a.Tree);rw[hv 8 (zbB O)];exact⟨h.1,h.2.1.upv l (zgn hd (c:=6) O),h.2.2.upv l (zgn hd (c:=7) O)⟩) (zhD.cons (fun vs vs' W W' _ hv l hd h=>by(show(vs' 9)=ptr (bx (pg (vs' 9)))/\Bx W' 8 (pg (vs' 9)) [.slice none 0 0,vS ([]:Str), .slice none 0 0]);rw[hv 9 (zbB O)];exact⟨h.1,h.2.up l (zgn hd (c:=8) O)⟩) (zhD.cons (fun vs vs' W W' _ hv l hd h=>by(show(vs' 9)=ptr (bx (pg (vs' 9)))/\Bx W' 8 (pg (vs' 9)) [(zaV (vs' 8) 0),vS a.Who,(zaV (vs' 8) 2)]);rw[hv 8 (zbB O),hv 9 (zbB O)];exact⟨h.1,h.2.up l (zgn hd (c:=8) O)⟩) zhD.nil))))))))))),?_⟩
    ·intro vs fd lW hN hV
     exact Trq (R.fa O) O
    ·intro vs fe lW hN hV
     have bj:vs 0=ptr ((bx g1).add 0):=(hN 0 (zbB O))
     obtain⟨vs,rfl⟩:=za1 bj
     exact Trq (R.ld (v:=x) O O ((((((V.up l7).up bb).up aa).up G).up lW O).cell O)) O
    ·intro vs ff lW hN hV
     exact Trq (R.mv (v:=k) O) O
    ·intro vs fg lW hN hV
     exact Trq (R.mv (v:=vI f) O) O
    ·intro vs fh lW hN hV
     have bk:vs 2=k:=(hN 2 (zbB O))
     obtain⟨vs,rfl⟩:=za1 bk
     have bl:vs 3=vI f:=(hN 3 (zbB O))
     obtain⟨vs,rfl⟩:=za1 bl
     exact Trq (R.ix (α:=Int) (bi.up lW O).rd cw O O O) O
    ·intro vs fi lW hN hV
     have bm:vs 4=ptr ((slA k).add ((f).toNat*Rp.sz (Int))):=(hN 4 (zbB O))
     obtain⟨vs,rfl⟩:=za1 bm
     exact Trq (R.ld O O ((bi.up lW O).rd.at_ cw).int) O
    ·intro vs fj lW hN hV
     have dr:=bh.t lW O
     have bn:vs 1=x:=(hN 1 (zbB O))
     obtain⟨vs,rfl⟩:=za1 bn
     have bp:vs 5=vI F:=(hN 5 (zbB O))
     obtain⟨vs,rfl⟩:=za1 bp
     exact Trq (R.ix (α:=Commit) (E.ul dr) cx O O O) O
    ·intro vs cy lW hN hV
     have ds:=bh.t lW O
     have bq:vs 6=ptr ((slA x).add ((F).toNat*Rp.sz (Commit))):=(hN 6 (zbB O))
     obtain⟨vs,rfl⟩:=za1 bq
     obtain⟨x139,c140,_,r141⟩:=((E.ul ds).at_ cx).cells
     obtain⟨br,bu,rfl,r143,r145⟩:=Commit.split r141
     exact Trq (R.lda c140 O O) (show(.agg [br,vS b.Who,bu].toArray:Value) = .agg [br,vS b.Who,bu].toArray/\Rd cy [0] [br] b.Parents/\Rd cy [0] [bu] b.Tree from⟨O,r143,r145⟩)
    ·intro vs cz lW hN hV
     obtain⟨z,A,bv⟩: ∃ z A:Value,vs 7 = .agg [z,vS b.Who,A].toArray:=⟨_,_,(hN 7 (zbB O)).1⟩
     obtain⟨vs,rfl⟩:=za1 bv
     have dt:Rd cz [0] [z] b.Parents:=(hN 7 (zbB O)).2.1
     have du:Rd cz [0] [A] b.Tree:=(hN 7 (zbB O)).2.2
     refine Tr.mono (T.call O (p106 (k0:=6) (k1:=7) (Commit.rd (K:=[0]) b.Parents b.Who b.Tree dt du) dq)) ?_
     rintro _ _ ⟨bw,rfl,dv,⟨bz,b0,rfl,dw,dx⟩⟩
     exact⟨bw,O,dv,(show(.agg [bz,vS a.Who,b0].toArray:Value) = .agg [bz,vS a.Who,b0].toArray/\Ow bw 6 [] [bz] a.Parents/\Ow bw 7 [] [b0] a.Tree from⟨O,dw,dx⟩)⟩
    ·intro vs fm lW hN hV
     refine Tr.mono (T.alloc 8 (cs:=[.slice none 0 0,vS ([]:Str), .slice none 0 0]) O) ?_
     rintro _ _ ⟨b2,c0,rfl,rfl,dy,dz⟩
     exact⟨c0,O,dy,(show(ptr (bx b2):Value)=ptr (bx b2)/\Bx c0 8 b2 [.slice none 0 0,vS ([]:Str), .slice none 0 0] from⟨O,dz⟩)⟩
    ·intro vs b3 lW hN hV
     obtain⟨d,e,b4⟩: ∃ d e:Value,vs 8 = .agg [d,vS a.Who,e].toArray:=⟨_,_,(hN 8 (zbB O)).1⟩
     obtain⟨vs,rfl⟩:=za1 b4
     have d0:Ow b3 6 [] [d] a.Parents:=(hN 8 (zbB O)).2.1
     have d1:Ow b3 7 [] [e] a.Tree:=(hN 8 (zbB O)).2.2
     obtain⟨i,b6⟩: ∃ i,vs 9=ptr (bx i):=⟨_,((hN 9 (zbB O))).1⟩
     obtain⟨vs,rfl⟩:=za1 b6
     have d2:Bx b3 8 i [.slice none 0 0,vS ([]:Str), .slice none 0 0]:=(hN 9 (zbB O)).2
     refine Tr.mono (T.sta (vs:=[d,vS a.Who,e]) d2 O O (zaf d0.oc (zaf O (zaf d1.oc zaW))) O O) ?_
     rintro _ _ ⟨c1,rfl,d3,d4⟩
     exact⟨c1,O,d3,(show(ptr (bx i))=ptr (bx i)/\Bx c1 8 i [d,vS a.Who,e] from⟨O,d4⟩)⟩
    ·intro vs B ac hN
     have d5:=bh.t ac
     have bj:vs 0=ptr ((bx g1).add 0):=(hN 0 (zbB O))
     obtain⟨vs,rfl⟩:=za1 bj
     have bn:vs 1=x:=(hN 1 (zbB O))
     obtain⟨vs,rfl⟩:=za1 bn
     have bk:vs 2=k:=(hN 2 (zbB O))
     obtain⟨vs,rfl⟩:=za1 bk
     have bl:vs 3=vI f:=(hN 3 (zbB O))
     obtain⟨vs,rfl⟩:=za1 bl
     have bm:vs 4=ptr ((slA k).add ((f).toNat*Rp.sz (Int))):=(hN 4 (zbB O))
     obtain⟨vs,rfl⟩:=za1 bm
     have bp:vs 5=vI F:=(hN 5 (zbB O))
     obtain⟨vs,rfl⟩:=za1 bp
     have bq:vs 6=ptr ((slA x).add ((F).toNat*Rp.sz (Commit))):=(hN 6 (zbB O))
     obtain⟨vs,rfl⟩:=za1 bq
     obtain⟨z,A,bv⟩: ∃ z A:Value,vs 7 = .agg [z,vS b.Who,A].toArray:=⟨_,_,(hN 7 (zbB O)).1⟩
     obtain⟨vs,rfl⟩:=za1 bv
     have fn:Rd B [0] [z] b.Parents:=(hN 7 (zbB O)).2.1
     have fo:Rd B [0] [A] b.Tree:=(hN 7 (zbB O)).2.2
     obtain⟨d,e,b4⟩: ∃ d e:Value,vs 8 = .agg [d,vS a.Who,e].toArray:=⟨_,_,(hN 8 (zbB O)).1⟩
     obtain⟨vs,rfl⟩:=za1 b4
     have d6:Ow B 6 [] [d] a.Parents:=(hN 8 (zbB O)).2.1
     have d7:Ow B 7 [] [e] a.Tree:=(hN 8 (zbB O)).2.2
     obtain⟨i,b6⟩: ∃ i,vs 9=ptr (bx i):=⟨_,(hN 10 (zbB O)).1⟩
     obtain⟨vs,rfl⟩:=za1 b6
     have d8:Bx B 8 i [d,vS a.Who,e]:=(hN 10 (zbB O)).2
     refine ssr (Ni O (Cw.block ?_))
     obtain⟨d9,ea,Y⟩:=zc4 Y
     refine Cw.loop 53 92 [6,7,12,13,14] (fun m l w=> ∃ H I ae af L b7 b8 M,CW.w M=w/\Le [6] B M/\l=[L,vB I,vI ae,b7,b8]/\Ow M 5 [] [L] H/\Ow M 6 [] [d] af/\Vm.zgv x1 ba d9 m H I ae af=some r) _ ⟨aq,ar,0,a.Parents,au,be,bg,B,O,Le.refl _ _,O,((dp.up G).up ac),d6,Y⟩ ?_
     rintro(_ |fp) _ _ σ ⟨H,I,ae,af,L,b7,b8,M,rfl,C,rfl,c2,ah,Y⟩
     ·cases Y
     unfold Vm.zgv at Y
     have eb:=d5.t C
     have ai:=d8.up C
     refine ssr (mi O (fl ai O (Lw.ln af ah.rd O (Lw.lt O (nl (cn Y (fun Y=>?_) fun Y=>?_))))))
     ·refine sk ?_
      obtain⟨ec,ed,Y⟩:=zc4 Y
      refine Cw.join 60 92 [6,7,13,14] (fun l w=> ∃ av aw ax ay b9 cb N,CW.w N=w/\Le [6] M N/\l=[ay,vB aw,b9,cb]/\Ow N 5 [] [ay] av/\Ow N 6 [] [d] ax/\ec av aw ax=some r) ?_ ?_
      ·rintro _ _ σ ⟨av,aw,ax,ay,b9,cb,N,rfl,ee,rfl,ef,eg,Y⟩
       rw[ed]at Y
       exact rg (mi O (Lw.add O (Ni O ((agm) ⟨av,aw,w64 (ae+1),ax,ay,b9,cb,N,O,(C.j ee).w,O,ef,eg,Y⟩))))
      ·refine Cw.block (sr (mv k O (fl ai O (mi O ?_))))
       obtain⟨fq,c3,Y⟩:=ob Y
       refine Lw.r O (R.ix (α:=Int) ah.rd c3 O O O) (Lw.r O (R.ld O O (ah.rd.at_ c3).int) (ca Y (fun _=>p107 (K:=[4]) ((bi.up ac).up C).rd) fun c4 fr Y D=>?_))
       have c5:=eb.n D
       have cc:=ah.up D
       refine Ni O (sr (mv U O (fl (ai.up D) O (mi O ?_))))
       obtain⟨fs,c6,Y⟩:=ob Y
       refine Lw.r O (R.ix (α:=Int) cc.rd c6 O O O) (Lw.r O (R.ld O O (cc.rd.at_ c6).int) (ca Y (fun _=>p107 (h1.ul c5)) fun cd ce Y P=>?_))
       have eh:=c5.n P
       refine Ni O (Cw.seq ?_)
       obtain⟨ei,ej,Y⟩:=zc4 Y
       refine Cw.join 74 79 [79] (fun l w=> ∃ cf cg,CW.w cg=w/\Le [] ce cg/\l=[vB cf]/\ei cf=some r) ?_ ?_
       ·rintro _ _ σ ⟨cf,cg,rfl,Q,rfl,Y⟩
        rw[ej]at Y
        have ek:=eh.n Q
        have c7:=(cc.up P).up Q
        have c8:=((ai.up D).up P).up Q
        refine cn Y (fun Y=>?_) fun Y=>?_
        ·refine sr (Gv (.slice none 0 0) O (Nb O ?_))
         cases Y
         exact Cw.ret (zqq O O (Res.mk ek ⟨.slice none 0 0,O,(zp1 []).sub O O⟩))
        ·refine sk (sr (fl c8 O (mi O (mi O ?_))))
         obtain⟨ft,el,Y⟩:=ob Y
         refine Lw.r O (R.ix (α:=Int) c7.rd el O O O) ?_
         obtain⟨em,en,Y⟩:=ob Y
         refine Lw.u (T.stS (K':=[]) c7 (rdI _) en O O O) ?_
         rintro _ _ ⟨eo,rfl,az,ch⟩
         have c9:=(((c2.up D).up P).up Q).up az
         refine nl (sr (mi O (Lw.lt O (nl (cn Y (fun Y=>?_) fun Y=>?_)))))
         ·refine rg (fl (c8.up az) O (mi O (mi O (Lw.sub O ?_))))
          obtain⟨fu,ep,Y⟩:=ob Y
          refine Lw.r O (R.ix (α:=Int) ch.rd ep O O O) ?_
          obtain⟨er,es,Y⟩:=ob Y
          refine Lw.u (T.stS (K':=[]) ch (rdI _) es O O O) ?_
          rintro _ _ ⟨et,rfl,da,eu⟩
          exact nl ((ag) ⟨H,I,er,L,vI c4,vI cd,et,O,((((D.j P).j Q).j az).j da).w,O,(c9.up da),eu,Y⟩)
         ·exact sk ((ag) ⟨H,I,em,L,vI c4,vI cd,eo,O,(((D.j P).j Q).j az).w,O,c9,ch,Y⟩)
       ·refine rg (mi O (Lw.lt O (mb O (bs Y (fun aj Y=>?_) fun aj Y=>?_))))
        ·exact wak 2 aj (mi O (Lw.lt O (Pb aj O (nl ((ag) ⟨decide (cd< (0:Int)),ce,O,Le.refl _ _,O,Y⟩)))))
        ·exact psk 2 aj O (Pb aj O (nl ((ag) ⟨false,ce,O,Le.refl _ _,O,Y⟩)))
     ·refine Cw.exit ?_
      rw[ea]at Y
      refine rg (mv y O (la ai (Lw.t O (T.bs 9 [.agg [d,vS a.Who,e].toArray] (cs:=[d,vS a.Who,e]) O O (bsA O)) ?_)))
      rintro _ _ ⟨fv,fw,rfl,rfl,ak,ew⟩
      obtain⟨ex,ey,Y⟩:=ob Y
      refine Lw.t O (T.app1 (α:=Commit) (J:=[6,7]) (K':=[]) ((((cu.up G).up ac).up C).up ak) ew (Commit.own af a.Who a.Tree (ah.up ak).s ((d7.up C).up ak).s) O O ey) ?_
      rintro db _ ⟨ez,rfl,dc,e0⟩
      exact Nv db O (rg (mi O (Lw.add O (Ni O ((agm) ⟨H,I,ex,w64 (f+1),L,db,ptr (bx i),vI ae,b7,b8,ez,O,(((((aa.j G).j ac).j C).j ak).j dc).w,O,((c2.up ak).up dc),e0,Y⟩)))))
   ·refine Cw.exit ?_
    rw[dn]at Y
    refine sr (mv y O (Gv y O (Nb O ?_)))
    cases Y
    exact Cw.ret (zqq O O (Res.mk cv ⟨y,O,cu.s.sub O O⟩))
 ·refine rg (la V (ca Y (fun _=>p80 (Repo.rd (K:=[0]) x0.Commits x0.Heads (E.ul a4) (a5.ul a4))) fun fx e1 Y S=>?_))
  have a0:=a4.n S
  refine Lw.r O (R.not O) (mb O (bs Y (fun am Y=>?_) fun am Y=>?_))
  ·exact psk 4 am O (Pb am O (mb O (psk 7 O O (Pb O O (nl ((ag) ⟨true,e1,O,S,O,Y⟩))))))
  ·refine wak 4 am (la (V.up S) (mv U O (ca Y (fun _=>p120 (Repo.rd (K:=[0]) x0.Commits x0.Heads (E.ul a0) (a5.ul a0)) (h1.ul a0)) fun fy e2 Y a1=>?_)))
   have e3:=a0.n a1
   refine Lw.r O (R.not O) (Pb am O (mb O (bs Y (fun an Y=>?_) fun an Y=>?_)))
   ·exact psk 7 an O (Pb an O (nl ((ag) ⟨true,e2,O,(S.j a1).w,O,Y⟩)))
   ·exact wak 7 an (mi O (fl ((V.up S).up a1) O (Lw.ln x0.Commits (E.ul e3) O (Lw.sub O (ca Y (fun _=>p67) fun e4 e5 Y e6=>Lw.r O (R.not O) (Pb an O (nl ((ag) ⟨(!e4),e5,O,((S.j a1).j e6).w,O,Y⟩))))))))
theorem p54 {x0 b d x1 f x2 k0 r}(h:Rd W K [b,d] x0)(i:Rd W K [f] x1)(Y:Vm.ziH x0 x1 x2=some r):Q1 54 [.agg [b,d].toArray,f,vI x2] W [] fun W' v=> ∃ a,v = .tuple [a,vB r.2].toArray/\Ow W' k0 [] [a] r.1:=
 (c54 (h.view _) (i.view _) Y).ad (fk k0) fun _ _ ⟨a,e,k⟩=>⟨a,e,k.back (zlS _)⟩
end Go.Sx
