/- Walks: each function answers as its model, printed by a program of ours. Conditions: the arguments read as they are given. -/
import Derived.Test.YtifbmanldeabeaaGreatDoorGTs
import Derived.Test.YtifbmanldeabeaaGreatDoorGM3
import Derived.Test.YtifbmanldeabeaaGreatDoorGW14
namespace Go.Sx
open Go Go.Proofs Go.Vm Rp
set_option linter.unusedVariables false
set_option linter.unusedSimpArgs false
variable {W W0:CW}{K:List Nat}
theorem c149 {x0 b x1 e r}(d:Rd W0 [0] [b] x0)(f:Rd W0 [0] [e] x1)(Y:Vm.zlA x0 x1=some r):Q0 149 [b,e] W0 fun Wf v=>v=vB r:=by
 unfold Vm.zlA at Y
 refine zao.of Tryz.func149 O O O O (sr (Nb O (ssr (mv b O (Lw.ln x0 d O (mv e O (Lw.ln x1 f O (Lw.ne O (nl (cn Y (fun Y=>?_) fun Y=>?_))))))))))
 ·exact sr (Nb O (.ret (rt Y (Le.refl _ _))))
 ·refine sk (ssr (Ni O (Cw.block ?_)))
  obtain⟨E,F,Y⟩:=zaY Y
  refine Cw.loop 11 26 [4,5] (fun m l w=> ∃ h i k,CW.w k=w/\Le [] W0 k/\l=[vB h,vI i]/\Vm.zhX x0 x1 E m h i=some r) _ ⟨false,0,W0,O,Le.refl _ _,O,Y⟩ ?_
  rintro(_ |J) _ _ σ ⟨h,i,k,rfl,A,rfl,Y⟩
  ·cases Y
  unfold Vm.zhX at Y
  have x:=A.o
  refine ssr (mi O (mv b O (Lw.ln x0 (d.ul x) O (Lw.lt O (nl (cn Y (fun Y=>?_) fun Y=>?_))))))
  ·refine sk (Cw.seq (Cw.block (Cw.seq (Cw.draw [] [(0,0),(1,0),(2,0),(3,1),(4,0),(5,0),(6,0),(7,1),(8,3),(9,0)] mixed (by kernel_rfl) fun L l10=>?_))))
   have a:=x.n l10
   refine Dv b O (Di O ?_)
   obtain⟨B,y,Y⟩:=ob Y
   refine Mw.p O O (fun _=>R.ix (α:=File) (d.ul a) y O O O) ?_
   obtain⟨x15,c16,_,r17⟩:=((d.ul a).at_ y).cells
   obtain⟨M,rfl,r19⟩:=File.split r17
   refine Mw.q O O (fun _ c=>R.lda (zkz ((d.ul a).at_ y).1 O c16 c) O O) (Dv e O (Di O ?_))
   obtain⟨C,z,Y⟩:=ob Y
   refine Mw.p O O (fun _=>R.ix (α:=File) (f.ul a) z O O O) ?_
   obtain⟨x23,c24,_,r25⟩:=((f.ul a).at_ z).cells
   obtain⟨N,rfl,r27⟩:=File.split r25
   refine Mw.q O O (fun _ c=>R.lda (zkz ((f.ul a).at_ z).1 O c24 c) O O) ?_
   obtain⟨P,G,Y⟩:=ob Y
   refine Mw.l O O (T.call O (p177 (File.rd (K:=[0]) B.Path B.Text r19) (File.rd (K:=[0]) C.Path C.Text r27) G)) ?_
   rintro _ _ ⟨H,rfl,D,rfl⟩
   have I:=a.n D
   refine Mw.p O O (fun _=>R.not O) (Mw.nil (cn Y (fun Y=>?_) fun Y=>?_))
   ·exact sr (Nb O (.ret (rt Y I)))
   ·exact sk (rg (mi O (Lw.add O (Ni O ((agm) ⟨h,w64 (i+1),H,O,((A.j l10).j D).w,O,Y⟩)))))
  ·refine Cw.exit ?_
   rw[F]at Y
   exact sr (Nb O (.ret (rt Y x)))
theorem p149 {x0 a x1 b r}(d:Rd W K [a] x0)(f:Rd W K [b] x1)(Y:Vm.zlA x0 x1=some r):Q1 149 [a,b] W [] fun W' v=>v=vB r:=
 (c149 (d.view _) (f.view _) Y).ad (fk 0) fun _ _ e=>e
theorem c103 {x0 f h x1 i k r}(C:Rd W0 [0] [f,vS x0.Who,h] x0)(D:Rd W0 [0] [i,vS x1.Who,k] x1)(Y:Vm.zkF x0 x1=some r):Q0 103 [.agg [f,vS x0.Who,h].toArray, .agg [i,vS x1.Who,k].toArray] W0 fun Wf v=>v=vB r:=by
 unfold Vm.zkF at Y
 obtain⟨L,M,x,E,F⟩:=Commit.split C
 simp only[List.cons.injEq,and_true,true_and]at x
 obtain⟨rfl,rfl⟩:=x
 obtain⟨N,P,y,G,H⟩:=Commit.split D
 simp only[List.cons.injEq,and_true,true_and]at y
 obtain⟨rfl,rfl⟩:=y
 refine zao.of Tryz.func103 O O O O (sr (bo 2 O fun Q S I z=>?_))
 have J:=I.o
 refine bo 3 O fun T U b d=>?_
 have e:=J.n b
 refine Nb O (ssr (fl (z.up b) O (fl d O (ca Y (fun _=>p148 (E.ul e) (G.ul e)) fun V W Y l10=>?_))))
 have a:=e.n l10
 have A:=(z.up b).up l10
 refine Lw.r O (R.not O) (nl (cn Y (fun Y=>?_) fun Y=>?_))
 ·exact sr (Nb O (.ret (rt Y a)))
 ·refine sk (ssr (fl A O (fl (d.up l10) O (Lw.sne O (nl (cn Y (fun Y=>?_) fun Y=>?_))))))
  ·exact sr (Nb O (.ret (rt Y a)))
  ·refine sk (ssr (fl A O (fl (d.up l10) O (ca Y (fun _=>p149 (F.ul a) (H.ul a)) fun X Z Y K=>?_))))
   have B:=a.n K
   refine Lw.r O (R.not O) (nl (cn Y (fun Y=>?_) fun Y=>?_))
   ·exact sr (Nb O (.ret (rt Y B)))
   ·exact sk (sr (Nb O (.ret (rt Y B))))
theorem p103 {x0 a b x1 d f r}(h:Rd W K [a,vS x0.Who,b] x0)(i:Rd W K [d,vS x1.Who,f] x1)(Y:Vm.zkF x0 x1=some r):Q1 103 [.agg [a,vS x0.Who,b].toArray, .agg [d,vS x1.Who,f].toArray] W [] fun W' v=>v=vB r:=
 (c103 (h.view _) (i.view _) Y).ad (fk 0) fun _ _ e=>e
theorem c46 {x0 b x1 e r}(d:Rd W0 [0] [b] x0)(f:Rd W0 [0] [e] x1)(Y:Vm.zjI x0 x1=some r):Q0 46 [b,e] W0 fun Wf v=>v=vB r:=by
 unfold Vm.zjI at Y
 refine zao.of Tryz.func46 O O O O (sr (Nb O (ssr (mv b O (Lw.ln x0 d O (mv e O (Lw.ln x1 f O (Lw.ne O (nl (cn Y (fun Y=>?_) fun Y=>?_))))))))))
 ·exact sr (Nb O (.ret (rt Y (Le.refl _ _))))
 ·refine sk (ssr (Ni O (Cw.block ?_)))
  obtain⟨E,F,Y⟩:=zaY Y
  refine Cw.loop 11 26 [4,5] (fun m l w=> ∃ h i k,CW.w k=w/\Le [] W0 k/\l=[vB h,vI i]/\Vm.zf6 x0 x1 E m h i=some r) _ ⟨false,0,W0,O,Le.refl _ _,O,Y⟩ ?_
  rintro(_ |J) _ _ σ ⟨h,i,k,rfl,C,rfl,Y⟩
  ·cases Y
  unfold Vm.zf6 at Y
  have x:=C.o
  refine ssr (mi O (mv b O (Lw.ln x0 (d.ul x) O (Lw.lt O (nl (cn Y (fun Y=>?_) fun Y=>?_))))))
  ·refine sk (Cw.seq (Cw.block (Cw.seq (Cw.draw [] [(0,0),(1,0),(2,0),(3,1),(4,0),(5,0),(6,0),(7,1),(8,3),(9,0)] mixed (by kernel_rfl) fun L l10=>?_))))
   have a:=x.n l10
   refine Dv b O (Di O ?_)
   obtain⟨y,z,Y⟩:=ob Y
   refine Mw.p O O (fun _=>R.ix (α:=Commit) (d.ul a) z O O O) ?_
   obtain⟨x15,c16,_,r17⟩:=((d.ul a).at_ z).cells
   obtain⟨M,N,rfl,r19,r21⟩:=Commit.split r17
   refine Mw.q O O (fun _ c=>R.lda (zkz ((d.ul a).at_ z).1 O c16 c) O O) (Dv e O (Di O ?_))
   obtain⟨A,B,Y⟩:=ob Y
   refine Mw.p O O (fun _=>R.ix (α:=Commit) (f.ul a) B O O O) ?_
   obtain⟨x25,c26,_,r27⟩:=((f.ul a).at_ B).cells
   obtain⟨P,Q,rfl,r29,r31⟩:=Commit.split r27
   refine Mw.q O O (fun _ c=>R.lda (zkz ((f.ul a).at_ B).1 O c26 c) O O) ?_
   obtain⟨S,G,Y⟩:=ob Y
   refine Mw.l O O (T.call O (p103 (Commit.rd (K:=[0]) y.Parents y.Who y.Tree r19 r21) (Commit.rd (K:=[0]) A.Parents A.Who A.Tree r29 r31) G)) ?_
   rintro _ _ ⟨H,rfl,D,rfl⟩
   have I:=a.n D
   refine Mw.p O O (fun _=>R.not O) (Mw.nil (cn Y (fun Y=>?_) fun Y=>?_))
   ·exact sr (Nb O (.ret (rt Y I)))
   ·exact sk (rg (mi O (Lw.add O (Ni O ((agm) ⟨h,w64 (i+1),H,O,((C.j l10).j D).w,O,Y⟩)))))
  ·refine Cw.exit ?_
   rw[F]at Y
   exact sr (Nb O (.ret (rt Y x)))
theorem p46 {x0 a x1 b r}(d:Rd W K [a] x0)(f:Rd W K [b] x1)(Y:Vm.zjI x0 x1=some r):Q1 46 [a,b] W [] fun W' v=>v=vB r:=
 (c46 (d.view _) (f.view _) Y).ad (fk 0) fun _ _ e=>e
theorem c104 {x0 x1 r}(i:Rd W0 [0] [vS x0.Name,vI x0.At] x0)(k:Rd W0 [0] [vS x1.Name,vI x1.At] x1)(Y:Vm.zmF x0 x1=some r):Q0 104 [.agg [vS x0.Name,vI x0.At].toArray, .agg [vS x1.Name,vI x1.At].toArray] W0 fun Wf v=>v=vB r:=by
 unfold Vm.zmF at Y
 refine zao.of Tryz.func104 O O O O (sr (bo 2 O fun x y f d=>?_))
 have h:=f.o
 refine bo 3 O fun z A a e=>?_
 have b:=h.n a
 refine Nb O (ssr (fl (d.up a) O (fl e O (Lw.sne O (nl (cn Y (fun Y=>?_) fun Y=>?_))))))
 ·exact sr (Nb O (.ret (rt Y b)))
 ·refine sk (ssr (fl (d.up a) O (fl e O (Lw.ne O (nl (cn Y (fun Y=>?_) fun Y=>?_))))))
  ·exact sr (Nb O (.ret (rt Y b)))
  ·exact sk (sr (Nb O (.ret (rt Y b))))
theorem p104 {x0 x1 r}(a:Rd W K [vS x0.Name,vI x0.At] x0)(b:Rd W K [vS x1.Name,vI x1.At] x1)(Y:Vm.zmF x0 x1=some r):Q1 104 [.agg [vS x0.Name,vI x0.At].toArray, .agg [vS x1.Name,vI x1.At].toArray] W [] fun W' v=>v=vB r:=
 (c104 (a.view _) (b.view _) Y).ad (fk 0) fun _ _ e=>e
theorem c47 {x0 b x1 e r}(d:Rd W0 [0] [b] x0)(f:Rd W0 [0] [e] x1)(Y:Vm.zlB x0 x1=some r):Q0 47 [b,e] W0 fun Wf v=>v=vB r:=by
 unfold Vm.zlB at Y
 refine zao.of Tryz.func47 O O O O (sr (Nb O (ssr (mv b O (Lw.ln x0 d O (mv e O (Lw.ln x1 f O (Lw.ne O (nl (cn Y (fun Y=>?_) fun Y=>?_))))))))))
 ·exact sr (Nb O (.ret (rt Y (Le.refl _ _))))
 ·refine sk (ssr (Ni O (Cw.block ?_)))
  obtain⟨E,F,Y⟩:=zaY Y
  refine Cw.loop 11 26 [4,5] (fun m l w=> ∃ h i k,CW.w k=w/\Le [] W0 k/\l=[vB h,vI i]/\Vm.zhY x0 x1 E m h i=some r) _ ⟨false,0,W0,O,Le.refl _ _,O,Y⟩ ?_
  rintro(_ |J) _ _ σ ⟨h,i,k,rfl,A,rfl,Y⟩
  ·cases Y
  unfold Vm.zhY at Y
  have x:=A.o
  refine ssr (mi O (mv b O (Lw.ln x0 (d.ul x) O (Lw.lt O (nl (cn Y (fun Y=>?_) fun Y=>?_))))))
  ·refine sk (Cw.seq (Cw.block (Cw.seq (Cw.draw [] [(0,0),(1,0),(2,0),(3,1),(4,0),(5,0),(6,0),(7,1),(8,3),(9,0)] mixed (by kernel_rfl) fun L l10=>?_))))
   have a:=x.n l10
   refine Dv b O (Di O ?_)
   obtain⟨B,y,Y⟩:=ob Y
   refine Mw.p O O (fun _=>R.ix (α:=Head) (d.ul a) y O O O) ?_
   obtain⟨x15,c16,_,r17⟩:=((d.ul a).at_ y).cells
   obtain rfl:=Head.split r17
   refine Mw.q O O (fun _ c=>R.lda (zkz ((d.ul a).at_ y).1 O c16 c) O O) (Dv e O (Di O ?_))
   obtain⟨C,z,Y⟩:=ob Y
   refine Mw.p O O (fun _=>R.ix (α:=Head) (f.ul a) z O O O) ?_
   obtain⟨x21,c22,_,r23⟩:=((f.ul a).at_ z).cells
   obtain rfl:=Head.split r23
   refine Mw.q O O (fun _ c=>R.lda (zkz ((f.ul a).at_ z).1 O c22 c) O O) ?_
   obtain⟨M,G,Y⟩:=ob Y
   refine Mw.l O O (T.call O (p104 (Head.rd (K:=[0]) B.Name B.At) (Head.rd (K:=[0]) C.Name C.At) G)) ?_
   rintro _ _ ⟨H,rfl,D,rfl⟩
   have I:=a.n D
   refine Mw.p O O (fun _=>R.not O) (Mw.nil (cn Y (fun Y=>?_) fun Y=>?_))
   ·exact sr (Nb O (.ret (rt Y I)))
   ·exact sk (rg (mi O (Lw.add O (Ni O ((agm) ⟨h,w64 (i+1),H,O,((A.j l10).j D).w,O,Y⟩)))))
  ·refine Cw.exit ?_
   rw[F]at Y
   exact sr (Nb O (.ret (rt Y x)))
theorem p47 {x0 a x1 b r}(d:Rd W K [a] x0)(f:Rd W K [b] x1)(Y:Vm.zlB x0 x1=some r):Q1 47 [a,b] W [] fun W' v=>v=vB r:=
 (c47 (d.view _) (f.view _) Y).ad (fk 0) fun _ _ e=>e
theorem c14 {x0 e f x1 h i r}(B:Rd W0 [0] [e,f] x0)(C:Rd W0 [0] [h,i] x1)(Y:Vm.zjl x0 x1=some r):Q0 14 [.agg [e,f].toArray, .agg [h,i].toArray] W0 fun Wf v=>v=vB r:=by
 unfold Vm.zjl at Y
 obtain⟨K,L,k,D,E⟩:=Repo.split B
 simp only[List.cons.injEq,and_true,true_and]at k
 obtain⟨rfl,rfl⟩:=k
 obtain⟨M,N,x,F,G⟩:=Repo.split C
 simp only[List.cons.injEq,and_true,true_and]at x
 obtain⟨rfl,rfl⟩:=x
 refine zao.of Tryz.func14 O O O O (sr (bo 2 O fun P Q H y=>?_))
 have I:=H.o
 refine bo 3 O fun S T b z=>?_
 have d:=I.n b
 refine Nb O (ssr (fl (y.up b) O (fl z O (ca Y (fun _=>p46 (D.ul d) (F.ul d)) fun U V Y l10=>?_))))
 have a:=d.n l10
 refine Lw.r O (R.not O) (nl (cn Y (fun Y=>?_) fun Y=>?_))
 ·exact sr (Nb O (.ret (rt Y a)))
 ·refine sk (ssr (fl ((y.up b).up l10) O (fl (z.up l10) O (ca Y (fun _=>p47 (E.ul a) (G.ul a)) fun W X Y J=>?_))))
  have A:=a.n J
  refine Lw.r O (R.not O) (nl (cn Y (fun Y=>?_) fun Y=>?_))
  ·exact sr (Nb O (.ret (rt Y A)))
  ·exact sk (sr (Nb O (.ret (rt Y A))))
theorem p14 {x0 a b x1 d f r}(h:Rd W K [a,b] x0)(i:Rd W K [d,f] x1)(Y:Vm.zjl x0 x1=some r):Q1 14 [.agg [a,b].toArray, .agg [d,f].toArray] W [] fun W' v=>v=vB r:=
 (c14 (h.view _) (i.view _) Y).ad (fk 0) fun _ _ e=>e
theorem c48 {x0 x1 r}(i:Rd W0 [0] [vS x0.Path,vS x0.Who] x0)(k:Rd W0 [0] [vS x1.Path,vS x1.Who] x1)(Y:Vm.zlC x0 x1=some r):Q0 48 [.agg [vS x0.Path,vS x0.Who].toArray, .agg [vS x1.Path,vS x1.Who].toArray] W0 fun Wf v=>v=vB r:=by
 unfold Vm.zlC at Y
 refine zao.of Tryz.func48 O O O O (sr (bo 2 O fun x y f d=>?_))
 have h:=f.o
 refine bo 3 O fun z A a e=>?_
 have b:=h.n a
 refine Nb O (ssr (fl (d.up a) O (fl e O (Lw.sne O (nl (cn Y (fun Y=>?_) fun Y=>?_))))))
 ·exact sr (Nb O (.ret (rt Y b)))
 ·refine sk (ssr (fl (d.up a) O (fl e O (Lw.sne O (nl (cn Y (fun Y=>?_) fun Y=>?_))))))
  ·exact sr (Nb O (.ret (rt Y b)))
  ·exact sk (sr (Nb O (.ret (rt Y b))))
theorem p48 {x0 x1 r}(a:Rd W K [vS x0.Path,vS x0.Who] x0)(b:Rd W K [vS x1.Path,vS x1.Who] x1)(Y:Vm.zlC x0 x1=some r):Q1 48 [.agg [vS x0.Path,vS x0.Who].toArray, .agg [vS x1.Path,vS x1.Who].toArray] W [] fun W' v=>v=vB r:=
 (c48 (a.view _) (b.view _) Y).ad (fk 0) fun _ _ e=>e
theorem c15 {x0 b x1 e r}(d:Rd W0 [0] [b] x0)(f:Rd W0 [0] [e] x1)(Y:Vm.zkG x0 x1=some r):Q0 15 [b,e] W0 fun Wf v=>v=vB r:=by
 unfold Vm.zkG at Y
 refine zao.of Tryz.func15 O O O O (sr (Nb O (ssr (mv b O (Lw.ln x0 d O (mv e O (Lw.ln x1 f O (Lw.ne O (nl (cn Y (fun Y=>?_) fun Y=>?_))))))))))
 ·exact sr (Nb O (.ret (rt Y (Le.refl _ _))))
 ·refine sk (ssr (Ni O (Cw.block ?_)))
  obtain⟨E,F,Y⟩:=zaY Y
  refine Cw.loop 11 26 [4,5] (fun m l w=> ∃ h i k,CW.w k=w/\Le [] W0 k/\l=[vB h,vI i]/\Vm.zgS x0 x1 E m h i=some r) _ ⟨false,0,W0,O,Le.refl _ _,O,Y⟩ ?_
  rintro(_ |J) _ _ σ ⟨h,i,k,rfl,A,rfl,Y⟩
  ·cases Y
  unfold Vm.zgS at Y
  have x:=A.o
  refine ssr (mi O (mv b O (Lw.ln x0 (d.ul x) O (Lw.lt O (nl (cn Y (fun Y=>?_) fun Y=>?_))))))
  ·refine sk (Cw.seq (Cw.block (Cw.seq (Cw.draw [] [(0,0),(1,0),(2,0),(3,1),(4,0),(5,0),(6,0),(7,1),(8,3),(9,0)] mixed (by kernel_rfl) fun L l10=>?_))))
   have a:=x.n l10
   refine Dv b O (Di O ?_)
   obtain⟨B,y,Y⟩:=ob Y
   refine Mw.p O O (fun _=>R.ix (α:=Owner) (d.ul a) y O O O) ?_
   obtain⟨x15,c16,_,r17⟩:=((d.ul a).at_ y).cells
   obtain rfl:=Owner.split r17
   refine Mw.q O O (fun _ c=>R.lda (zkz ((d.ul a).at_ y).1 O c16 c) O O) (Dv e O (Di O ?_))
   obtain⟨C,z,Y⟩:=ob Y
   refine Mw.p O O (fun _=>R.ix (α:=Owner) (f.ul a) z O O O) ?_
   obtain⟨x21,c22,_,r23⟩:=((f.ul a).at_ z).cells
   obtain rfl:=Owner.split r23
   refine Mw.q O O (fun _ c=>R.lda (zkz ((f.ul a).at_ z).1 O c22 c) O O) ?_
   obtain⟨M,G,Y⟩:=ob Y
   refine Mw.l O O (T.call O (p48 (Owner.rd (K:=[0]) B.Path B.Who) (Owner.rd (K:=[0]) C.Path C.Who) G)) ?_
   rintro _ _ ⟨H,rfl,D,rfl⟩
   have I:=a.n D
   refine Mw.p O O (fun _=>R.not O) (Mw.nil (cn Y (fun Y=>?_) fun Y=>?_))
   ·exact sr (Nb O (.ret (rt Y I)))
   ·exact sk (rg (mi O (Lw.add O (Ni O ((agm) ⟨h,w64 (i+1),H,O,((A.j l10).j D).w,O,Y⟩)))))
  ·refine Cw.exit ?_
   rw[F]at Y
   exact sr (Nb O (.ret (rt Y x)))
theorem p15 {x0 a x1 b r}(d:Rd W K [a] x0)(f:Rd W K [b] x1)(Y:Vm.zkG x0 x1=some r):Q1 15 [a,b] W [] fun W' v=>v=vB r:=
 (c15 (d.view _) (f.view _) Y).ad (fk 0) fun _ _ e=>e
theorem c16 {x0 e x1 f r}(y:Rd W0 [0] [vS x0.Branch,vS x0.Into,vS x0.By,e] x0)(z:Rd W0 [0] [vS x1.Branch,vS x1.Into,vS x1.By,f] x1)(Y:Vm.zkH x0 x1=some r):Q0 16 [.agg [vS x0.Branch,vS x0.Into,vS x0.By,e].toArray, .agg [vS x1.Branch,vS x1.Into,vS x1.By,f].toArray] W0 fun Wf v=>v=vB r:=by
 unfold Vm.zkH at Y
 obtain⟨G,h,A⟩:=Review.split y
 simp only[List.cons.injEq,and_true,true_and]at h
 obtain rfl:=h
 obtain⟨H,i,B⟩:=Review.split z
 simp only[List.cons.injEq,and_true,true_and]at i
 obtain rfl:=i
 refine zao.of Tryz.func16 O O O O (sr (bo 2 O fun I J C D=>?_))
 have E:=C.o
 refine bo 3 O fun K L k b=>?_
 have a:=E.n k
 have d:=D.up k
 refine Nb O (ssr (fl d O (fl b O (Lw.sne O (nl (cn Y (fun Y=>?_) fun Y=>?_))))))
 ·exact sr (Nb O (.ret (rt Y a)))
 ·refine sk (ssr (fl d O (fl b O (Lw.sne O (nl (cn Y (fun Y=>?_) fun Y=>?_))))))
  ·exact sr (Nb O (.ret (rt Y a)))
  ·refine sk (ssr (fl d O (fl b O (Lw.sne O (nl (cn Y (fun Y=>?_) fun Y=>?_))))))
   ·exact sr (Nb O (.ret (rt Y a)))
   ·refine sk (ssr (fl d O (fl b O (ca Y (fun _=>p49 (A.ul a) (B.ul a)) fun M N Y F=>?_))))
    have x:=a.n F
    refine Lw.r O (R.not O) (nl (cn Y (fun Y=>?_) fun Y=>?_))
    ·exact sr (Nb O (.ret (rt Y x)))
    ·exact sk (sr (Nb O (.ret (rt Y x))))
theorem p16 {x0 a x1 b r}(d:Rd W K [vS x0.Branch,vS x0.Into,vS x0.By,a] x0)(f:Rd W K [vS x1.Branch,vS x1.Into,vS x1.By,b] x1)(Y:Vm.zkH x0 x1=some r):Q1 16 [.agg [vS x0.Branch,vS x0.Into,vS x0.By,a].toArray, .agg [vS x1.Branch,vS x1.Into,vS x1.By,b].toArray] W [] fun W' v=>v=vB r:=
 (c16 (d.view _) (f.view _) Y).ad (fk 0) fun _ _ e=>e
theorem c105 {x0 a x1 r}(k:Ow W0 2 [] [a] x0)(Y:Vm.zkI x0 x1=some r):Q0 105 [a,vI x1] W0 fun Wf v=>v=vI r.1/\Ow Wf 2 [] [a] r.2:=by
 unfold Vm.zkI at Y
 refine zao.of Tryz.func105 O O O O (sr (Ni O (ssr (Ni O (Cw.block ?_)))))
 obtain⟨x,y,Y⟩:=zaY Y
 refine Cw.loop 6 17 [1,5] (fun m l w=> ∃ b d e f,CW.w f=w/\Le [2] W0 f/\l=[vI b,vI d]/\Ow f 2 [] [a] e/\Vm.zgT x m b d e=some r) _ ⟨x1,0,x0,W0,O,Le.refl _ _,O,k,Y⟩ ?_
 rintro(_ |G) _ _ σ ⟨b,d,e,f,rfl,i,rfl,h,Y⟩
 ·cases Y
 unfold Vm.zgT at Y
 have z:=i.s
 refine ssr (mi O (mv a O (Lw.ln e h.rd O (Lw.lt O (nl (cn Y (fun Y=>?_) fun Y=>?_))))))
 ·refine sk (Cw.seq (Cw.block (sr (mv a O (mi O (mi O ?_))))))
  obtain⟨H,A,Y⟩:=ob Y
  refine Lw.r O (R.ix (α:=Int) h.rd A O O O) ?_
  obtain⟨B,C,Y⟩:=ob Y
  refine Lw.u (T.stS (K':=[]) h (rdI _) C O O O) ?_
  rintro _ _ ⟨D,rfl,E,F⟩
  exact nl (rg (mi O (Lw.add O (Ni O (rg (mi O (Lw.add O (Ni O ((agm) ⟨w64 (b+1),w64 (d+1),B,D,O,(i.j E).w,O,F,Y⟩)))))))))
 ·refine Cw.exit ?_
  rw[y]at Y
  refine sr (mi O (Ni O ?_))
  cases Y
  exact Cw.ret (zik O (Res.mk z ⟨O,h⟩))
theorem p105 {x0 a x1 c0 r}(b:Ow W c0 [] [a] x0)(hJ:okJ K [c0]=true)(Y:Vm.zkI x0 x1=some r):Q1 105 [a,vI x1] W [c0] fun W' v=>v=vI r.1/\Ow W' c0 [] [a] r.2:=
 zao.adJ (J:=[c0]) (fun c=>bif Nat.beq c 0 then 0 else bif Nat.beq c 2 then c0 else 0) (c105 (b.viewJ 0 hJ) Y) fun _ _ ⟨e,d⟩=>⟨e,Ow.backJ 0 d O⟩
theorem c52 {x0 r}(Y:Vm.zbA x0=some r):Q0 52 [vI x0] W0 fun Wf v=>v=vS r:=by
 unfold Vm.zbA at Y
 refine zao.of Tryz.func52 O O O O (sr (Ns O (ssr (mi O (Lw.le O (nl (cn Y (fun Y=>?_) fun Y=>?_)))))))
 ·exact sr (Ns O (.ret (rt Y (Le.refl _ _))))
 ·refine sk (sr (Ns O (Cw.seq (Cw.block ?_))))
  obtain⟨f,i,Y⟩:=zaY Y
  refine Cw.loop 6 17 [0,3] (fun m l w=> ∃ a d b,CW.w b=w/\Le [] W0 b/\l=[vI a,vS d]/\Vm.zfP f m a d=some r) _ ⟨x0,([]:Str),W0,O,Le.refl _ _,O,Y⟩ ?_
  rintro(_ |D) _ _ σ ⟨a,d,b,rfl,e,rfl,Y⟩
  ·cases Y
  unfold Vm.zfP at Y
  have k:=e.o
  refine ssr (mi O (Lw.gt O (nl (cn Y (fun Y=>?_) fun Y=>?_))))
  ·refine sk (Cw.block (sr (mi O (Lw.r O (R.rem O O (by decide)) (Lw.add O (Lw.r O (R.cv8 O O) (Lw.t O (T.bsS (α:=Byte) (xs:=[(by8 (w64 (48+(Int.tmod a 10))))]) 2 [] (W:=b) [.int .u8 (UInt8.toNat (by8 (w64 (48+(Int.tmod a 10)))):Int)] (Each.cons ((rdY _)) Each.nil) O) ?_)))))))
   rintro E _ ⟨x,rfl,y,z⟩
   refine Lw.r O (R.cvB (xs:=([(by8 (w64 (48+(Int.tmod a 10))))]:List Byte)) z.rd O (fun h=>h.1)) (ms O ?_)
   obtain⟨A,B,Y⟩:=ob Y
   exact Lw.r O (R.sad B O O) (Ns O (rg (mi O (Lw.r O (R.quo O O (by decide)) (Ni O ((agm) ⟨w64 (Int.tdiv a 10),A,x,O,(e.j y).w,O,Y⟩))))))
  ·refine Cw.exit ?_
   rw[i]at Y
   refine sr (ms O ?_)
   obtain⟨F,C,Y⟩:=ob Y
   exact Lw.r O (R.sad C O O) (Ns O (.ret (rt Y k)))
theorem p52 {x0 r}(Y:Vm.zbA x0=some r):Q1 52 [vI x0] W [] fun W' v=>v=vS r:=
 (c52 (W0:=W.view [] []) Y).ad (fk 0) fun _ _ e=>e
theorem c53 {x0 a x1 r}(x:Ow W0 2 [] [a] x0)(Y:Vm.zex x0 x1=some r):Q0 53 [a,vI x1] W0 fun Wf v=>v=vI r.1/\Ow Wf 2 [] [a] r.2:=by
 unfold Vm.zex at Y
 refine zao.of Tryz.func53 O O O O (sr (Ni O (ssr (Ni O (Cw.block ?_)))))
 obtain⟨y,z,Y⟩:=zaY Y
 refine Cw.loop 6 18 [1,5] (fun m l w=> ∃ b d e f,CW.w f=w/\Le [2] W0 f/\l=[vI b,vI d]/\Ow f 2 [] [a] e/\Vm.zdc y m b d e=some r) _ ⟨x1,0,x0,W0,O,Le.refl _ _,O,x,Y⟩ ?_
 rintro(_ |H) _ _ σ ⟨b,d,e,f,rfl,k,rfl,h,Y⟩
 ·cases Y
 unfold Vm.zdc at Y
 have A:=k.s
 refine ssr (mi O (mv a O (Lw.ln e h.rd O (Lw.lt O (nl (cn Y (fun Y=>?_) fun Y=>?_))))))
 ·refine sk (Cw.seq (Cw.block (sr (mv a O (mi O (mi O (ca Y (fun _=>p52) fun I J Y i=>?_)))))))
  obtain⟨K,B,Y⟩:=ob Y
  refine Lw.r O (R.ix (α:=Str) (h.up i).rd B O O O) ?_
  obtain⟨C,D,Y⟩:=ob Y
  refine Lw.u (T.stS (K':=[]) (h.up i) (rdS _) D O O O) ?_
  rintro _ _ ⟨E,rfl,F,G⟩
  exact nl (rg (mi O (Lw.add O (Ni O (rg (mi O (Lw.add O (Ni O ((agm) ⟨w64 (b+1),w64 (d+1),C,E,O,((k.j i).j F).w,O,G,Y⟩)))))))))
 ·refine Cw.exit ?_
  rw[z]at Y
  refine sr (mi O (Ni O ?_))
  cases Y
  exact Cw.ret (zik O (Res.mk A ⟨O,h⟩))
theorem p53 {x0 a x1 c0 r}(b:Ow W c0 [] [a] x0)(hJ:okJ K [c0]=true)(Y:Vm.zex x0 x1=some r):Q1 53 [a,vI x1] W [c0] fun W' v=>v=vI r.1/\Ow W' c0 [] [a] r.2:=
 zao.adJ (J:=[c0]) (fun c=>bif Nat.beq c 0 then 0 else bif Nat.beq c 2 then c0 else 0) (c53 (b.viewJ 0 hJ) Y) fun _ _ ⟨e,d⟩=>⟨e,Ow.backJ 0 d O⟩
theorem c106 {x0 a x1 r}(C:Ow W0 2 [] [a] x0)(Y:Vm.zjJ x0 x1=some r):Q0 106 [a,vI x1] W0 fun Wf v=>v=vI r.1/\Ow Wf 2 [] [a] r.2:=by
 unfold Vm.zjJ at Y
 refine zao.of Tryz.func106 O O O O (sr (Ni O (ssr (Ni O (Cw.block ?_)))))
 obtain⟨D,E,Y⟩:=zaY Y
 refine Cw.loop 6 26 [1,5] (fun m l w=> ∃ h b d e,CW.w e=w/\Le [2,3] W0 e/\l=[vI h,vI b]/\Ow e 2 [] [a] d/\Vm.zf7 D m h b d=some r) _ ⟨x1,0,x0,W0,O,Le.refl _ _,O,C,Y⟩ ?_
 rintro(_ |X) _ _ σ ⟨h,b,d,e,rfl,y,rfl,f,Y⟩
 ·cases Y
 unfold Vm.zf7 at Y
 have F:=y.s
 refine ssr (mi O (mv a O (Lw.ln d f.rd O (Lw.lt O (nl (cn Y (fun Y=>?_) fun Y=>?_))))))
 ·refine sk (Cw.seq (Cw.block (sr (mv a O (mi O (mi O (ca Y (fun _=>p52) fun Z aa Y i=>?_)))))))
  obtain⟨ac,z,Y⟩:=ob Y
  refine Lw.r O (R.ix (α:=File) (f.up i).rd z O O O) (Lw.fa O ?_)
  obtain⟨ae,G,Y⟩:=ob Y
  refine Lw.u (T.stH (α:=File) (β:=Str) (J:=[]) (Ow.hole (α:=File) (β:=Str) (jf:=0) (f.up i) z) (OwS.atm (K:=[]) (rdS _)) G O O O O) ?_
  rintro _ _ ⟨af,rfl,H,k⟩
  refine nl (sr (mi O (Lw.add O (Ni O (rg (mv a O (mi O ?_)))))))
  obtain⟨ah,x,Y⟩:=ob Y
  refine Lw.r O (R.ix (α:=File) k.rd x O O O) (Lw.fa O ?_)
  obtain⟨ai,c24,r25⟩:=(File.at1 (k.rd.at_ x)).cell O
  refine Lw.r O (R.ld O O c24) (mi O ?_)
  obtain⟨aj,I,L,M,gb26⟩:=Ow.lend (α:=File) (β:=List Str) (j:=3) (jf:=1) k x c24 O
  rw[<- I]
  refine cr Y (fun _=>p53 (K:=[0]) (c0:=3) M O) ?_
  rintro N _ ak Y A ⟨rfl,P⟩
  obtain⟨Q,S,U,V,eq33,W⟩:=gb26 _ _ A P
  obtain⟨B,eqm33,Y⟩:=ob Y
  obtain rfl:B=V:=Option.some.inj (eqm33.symm.trans eq33)
  rw[<- S]
  exact Ni O (rg (mi O (Lw.add O (Ni O ((agm) ⟨N.1,w64 (b+1),B,Q,O,(((((y.j i).j H).j L).j A).j U).w,O,W,Y⟩)))))
 ·refine Cw.exit ?_
  rw[E]at Y
  refine sr (mi O (Ni O ?_))
  cases Y
  exact Cw.ret (zik O (Res.mk F ⟨O,f⟩))
theorem p106 {x0 a x1 c0 r}(b:Ow W c0 [] [a] x0)(hJ:okJ K [c0]=true)(Y:Vm.zjJ x0 x1=some r):Q1 106 [a,vI x1] W [c0] fun W' v=>v=vI r.1/\Ow W' c0 [] [a] r.2:=
 zao.adJ (J:=[c0]) (fun c=>bif Nat.beq c 0 then 0 else bif Nat.beq c 2 then c0 else 0) (c106 (b.viewJ 0 hJ) Y) fun _ _ ⟨e,d⟩=>⟨e,Ow.backJ 0 d O⟩
theorem c50 {x0 a x1 r}(F:Ow W0 2 [] [a] x0)(Y:Vm.zib x0 x1=some r):Q0 50 [a,vI x1] W0 fun Wf v=>v=vI r.1/\Ow Wf 2 [] [a] r.2:=by
 unfold Vm.zib at Y
 refine zao.of Tryz.func50 O O O O (sr (Ni O (ssr (Ni O (Cw.block ?_)))))
 obtain⟨G,H,Y⟩:=zaY Y
 refine Cw.loop 6 33 [1,5] (fun m l w=> ∃ h d e f,CW.w f=w/\Le [2,3,4] W0 f/\l=[vI h,vI d]/\Ow f 2 [] [a] e/\Vm.zfc G m h d e=some r) _ ⟨x1,0,x0,W0,O,Le.refl _ _,O,F,Y⟩ ?_
 rintro(_ |m7) _ _ σ ⟨h,d,e,f,rfl,z,rfl,b,Y⟩
 ·cases Y
 unfold Vm.zfc at Y
 have I:=z.s
 refine ssr (mi O (mv a O (Lw.ln e b.rd O (Lw.lt O (nl (cn Y (fun Y=>?_) fun Y=>?_))))))
 ·refine sk (Cw.seq (Cw.block (sr (mv a O (mi O ?_)))))
  obtain⟨ao,i,Y⟩:=ob Y
  refine Lw.r O (R.ix (α:=Commit) b.rd i O O O) (Lw.fa O ?_)
  obtain⟨ap,c13,r14⟩:=(Commit.at0 (b.rd.at_ i)).cell O
  refine Lw.r O (R.ld O O c13) (mi O ?_)
  obtain⟨aq,L,M,N,gb15⟩:=Ow.lend (α:=Commit) (β:=List Int) (j:=3) (jf:=0) b i c13 O
  rw[<- L]
  refine cr Y (fun _=>p105 (K:=[0]) (c0:=3) N O) ?_
  rintro ar _ au Y A ⟨rfl,P⟩
  obtain⟨av,Q,S,U,eq22,B⟩:=gb15 _ _ A P
  obtain⟨V,eqm22,Y⟩:=ob Y
  obtain rfl:V=U:=Option.some.inj (eqm22.symm.trans eq22)
  rw[<- Q]
  refine Ni O (sr (mv a O (mi O (mi O (ca Y (fun _=>p52) fun aw ax Y k=>?_)))))
  obtain⟨ay,C,Y⟩:=ob Y
  refine Lw.r O (R.ix (α:=Commit) (B.up k).rd C O O O) (Lw.fa O ?_)
  obtain⟨az,W,Y⟩:=ob Y
  refine Lw.u (T.stH (α:=Commit) (β:=Str) (J:=[]) (Ow.hole (α:=Commit) (β:=Str) (jf:=1) (B.up k) C) (OwS.atm (K:=[]) (rdS _)) W O O O O) ?_
  rintro _ _ ⟨a0,rfl,X,x⟩
  refine nl (sr (mi O (Lw.add O (Ni O (rg (mv a O (mi O ?_)))))))
  obtain⟨a1,y,Y⟩:=ob Y
  refine Lw.r O (R.ix (α:=Commit) x.rd y O O O) (Lw.fa O ?_)
  obtain⟨a2,c38,r39⟩:=(Commit.at2 (x.rd.at_ y)).cell O
  refine Lw.r O (R.ld O O c38) (mi O ?_)
  obtain⟨a3,Z,aa,ac,gb40⟩:=Ow.lend (α:=Commit) (β:=List File) (j:=4) (jf:=2) x y c38 O
  rw[<- Z]
  refine cr Y (fun _=>p106 (K:=[0]) (c0:=4) ac O) ?_
  rintro ae _ a4 Y D ⟨rfl,af⟩
  obtain⟨ah,ai,aj,ak,eq47,am⟩:=gb40 _ _ D af
  obtain⟨E,eqm47,Y⟩:=ob Y
  obtain rfl:E=ak:=Option.some.inj (eqm47.symm.trans eq47)
  rw[<- ai]
  exact Ni O (rg (mi O (Lw.add O (Ni O ((agm) ⟨ae.1,w64 (d+1),E,ah,O,((((((((z.j M).j A).j S).j k).j X).j aa).j D).j aj).w,O,am,Y⟩)))))
 ·refine Cw.exit ?_
  rw[H]at Y
  refine sr (mi O (Ni O ?_))
  cases Y
  exact Cw.ret (zik O (Res.mk I ⟨O,b⟩))
theorem p50 {x0 a x1 c0 r}(b:Ow W c0 [] [a] x0)(hJ:okJ K [c0]=true)(Y:Vm.zib x0 x1=some r):Q1 50 [a,vI x1] W [c0] fun W' v=>v=vI r.1/\Ow W' c0 [] [a] r.2:=
 zao.adJ (J:=[c0]) (fun c=>bif Nat.beq c 0 then 0 else bif Nat.beq c 2 then c0 else 0) (c50 (b.viewJ 0 hJ) Y) fun _ _ ⟨e,d⟩=>⟨e,Ow.backJ 0 d O⟩
theorem c51 {x0 a x1 r}(A:Ow W0 2 [] [a] x0)(Y:Vm.zjK x0 x1=some r):Q0 51 [a,vI x1] W0 fun Wf v=>v=vI r.1/\Ow Wf 2 [] [a] r.2:=by
 unfold Vm.zjK at Y
 refine zao.of Tryz.func51 O O O O (sr (Ni O (ssr (Ni O (Cw.block ?_)))))
 obtain⟨B,C,Y⟩:=zaY Y
 refine Cw.loop 6 26 [1,5] (fun m l w=> ∃ b d e f,CW.w f=w/\Le [2] W0 f/\l=[vI b,vI d]/\Ow f 2 [] [a] e/\Vm.zf8 B m b d e=some r) _ ⟨x1,0,x0,W0,O,Le.refl _ _,O,A,Y⟩ ?_
 rintro(_ |N) _ _ σ ⟨b,d,e,f,rfl,k,rfl,h,Y⟩
 ·cases Y
 unfold Vm.zf8 at Y
 have D:=k.s
 refine ssr (mi O (mv a O (Lw.ln e h.rd O (Lw.lt O (nl (cn Y (fun Y=>?_) fun Y=>?_))))))
 ·refine sk (Cw.seq (Cw.block (sr (mv a O (mi O (mi O (ca Y (fun _=>p52) fun P Q Y i=>?_)))))))
  obtain⟨S,x,Y⟩:=ob Y
  refine Lw.r O (R.ix (α:=Head) (h.up i).rd x O O O) (Lw.fa O ?_)
  obtain⟨U,E,Y⟩:=ob Y
  refine Lw.u (T.stH (α:=Head) (β:=Str) (J:=[]) (Ow.hole (α:=Head) (β:=Str) (jf:=0) (h.up i) x) (OwS.atm (K:=[]) (rdS _)) E O O O O) ?_
  rintro _ _ ⟨V,rfl,F,y⟩
  refine nl (sr (mi O (Lw.add O (Ni O (sr (mv a O (mi O (mi O ?_))))))))
  obtain⟨W,z,Y⟩:=ob Y
  refine Lw.r O (R.ix (α:=Head) y.rd z O O O) (Lw.fa O ?_)
  obtain⟨G,H,Y⟩:=ob Y
  refine Lw.u (T.stH (α:=Head) (β:=Int) (J:=[]) (Ow.hole (α:=Head) (β:=Int) (jf:=1) y z) (OwS.atm (K:=[]) (rdI _)) H O O O O) ?_
  rintro _ _ ⟨I,rfl,L,M⟩
  exact nl (rg (mi O (Lw.add O (Ni O (rg (mi O (Lw.add O (Ni O ((agm) ⟨w64 ((w64 (b+1))+1),w64 (d+1),G,I,O,(((k.j i).j F).j L).w,O,M,Y⟩)))))))))
 ·refine Cw.exit ?_
  rw[C]at Y
  refine sr (mi O (Ni O ?_))
  cases Y
  exact Cw.ret (zik O (Res.mk D ⟨O,h⟩))
theorem p51 {x0 a x1 c0 r}(b:Ow W c0 [] [a] x0)(hJ:okJ K [c0]=true)(Y:Vm.zjK x0 x1=some r):Q1 51 [a,vI x1] W [c0] fun W' v=>v=vI r.1/\Ow W' c0 [] [a] r.2:=
 zao.adJ (J:=[c0]) (fun c=>bif Nat.beq c 0 then 0 else bif Nat.beq c 2 then c0 else 0) (c51 (b.viewJ 0 hJ) Y) fun _ _ ⟨e,d⟩=>⟨e,Ow.backJ 0 d O⟩
theorem c17 {x0 a b x1 r}(i:Ow W0 2 [] [a] x0.Commits)(k:Ow W0 3 [] [b] x0.Heads)(Y:Vm.zjm x0 x1=some r):Q0 17 [.agg [a,b].toArray,vI x1] W0 fun Wf v=>v=vI r.1/\Ow Wf 2 [] [a] r.2.Commits/\Ow Wf 3 [] [b] r.2.Heads:=by
 unfold Vm.zjm at Y
 refine zao.of Tryz.func17 O O O O (sr (bo 4 O fun C D d f=>?_))
 have x:=d.o
 refine Ni O (sr (fl f O (mi O (cr Y (fun _=>p50 (K:=[0]) (c0:=2) (i.up d) O) ?_))))
 rintro E _ F Y e ⟨rfl,y⟩
 have z:=x.t e
 refine Ni O (sr (fl (f.up e) O (mi O (cr Y (fun _=>p51 (K:=[0]) (c0:=3) ((k.up d).up e) O) ?_))))
 rintro G _ H Y h ⟨rfl,A⟩
 have B:=z.t h
 refine Ni O (sr (mi O (Ni O ?_)))
 cases Y
 exact Cw.ret (zik O (Res.mk B ⟨O,(y.up h),A⟩))
theorem p17 {x0 a b x1 c0 c1 r}(d:Ow W c0 [] [a] x0.Commits)(f:Ow W c1 [] [b] x0.Heads)(hJ:okJ K [c0,c1]=true)(Y:Vm.zjm x0 x1=some r):Q1 17 [.agg [a,b].toArray,vI x1] W [c0,c1] fun W' v=>v=vI r.1/\Ow W' c0 [] [a] r.2.Commits/\Ow W' c1 [] [b] r.2.Heads:=
 zao.adJ (J:=[c0,c1]) (fun c=>bif Nat.beq c 0 then 0 else bif Nat.beq c 2 then c0 else bif Nat.beq c 3 then c1 else 0) (c17 (d.viewJ 0 hJ) (f.viewJ 1 hJ) Y) fun _ _ ⟨e,h,i⟩=>⟨e,Ow.backJ 0 h O,Ow.backJ 1 i O⟩
theorem c18 {x0 a x1 r}(B:Ow W0 2 [] [a] x0)(Y:Vm.zi2 x0 x1=some r):Q0 18 [a,vI x1] W0 fun Wf v=>v=vI r.1/\Ow Wf 2 [] [a] r.2:=by
 unfold Vm.zi2 at Y
 refine zao.of Tryz.func18 O O O O (sr (Ni O (ssr (Ni O (Cw.block ?_)))))
 obtain⟨C,D,Y⟩:=zaY Y
 refine Cw.loop 6 27 [1,5] (fun m l w=> ∃ b d e f,CW.w f=w/\Le [2] W0 f/\l=[vI b,vI d]/\Ow f 2 [] [a] e/\Vm.zfH C m b d e=some r) _ ⟨x1,0,x0,W0,O,Le.refl _ _,O,B,Y⟩ ?_
 rintro(_ |P) _ _ σ ⟨b,d,e,f,rfl,x,rfl,h,Y⟩
 ·cases Y
 unfold Vm.zfH at Y
 have E:=x.s
 refine ssr (mi O (mv a O (Lw.ln e h.rd O (Lw.lt O (nl (cn Y (fun Y=>?_) fun Y=>?_))))))
 ·refine sk (Cw.seq (Cw.block (sr (mv a O (mi O (mi O (ca Y (fun _=>p52) fun Q S Y i=>?_)))))))
  obtain⟨U,y,Y⟩:=ob Y
  refine Lw.r O (R.ix (α:=Owner) (h.up i).rd y O O O) (Lw.fa O ?_)
  obtain⟨V,F,Y⟩:=ob Y
  refine Lw.u (T.stH (α:=Owner) (β:=Str) (J:=[]) (Ow.hole (α:=Owner) (β:=Str) (jf:=0) (h.up i) y) (OwS.atm (K:=[]) (rdS _)) F O O O O) ?_
  rintro _ _ ⟨W,rfl,G,z⟩
  refine nl (sr (mi O (Lw.add O (Ni O (sr (mv a O (mi O (mi O (ca Y (fun _=>p52) fun X Z Y k=>?_)))))))))
  obtain⟨aa,A,Y⟩:=ob Y
  refine Lw.r O (R.ix (α:=Owner) (z.up k).rd A O O O) (Lw.fa O ?_)
  obtain⟨H,I,Y⟩:=ob Y
  refine Lw.u (T.stH (α:=Owner) (β:=Str) (J:=[]) (Ow.hole (α:=Owner) (β:=Str) (jf:=1) (z.up k) A) (OwS.atm (K:=[]) (rdS _)) I O O O O) ?_
  rintro _ _ ⟨L,rfl,M,N⟩
  exact nl (rg (mi O (Lw.add O (Ni O (rg (mi O (Lw.add O (Ni O ((agm) ⟨w64 ((w64 (b+1))+1),w64 (d+1),H,L,O,((((x.j i).j G).j k).j M).w,O,N,Y⟩)))))))))
 ·refine Cw.exit ?_
  rw[D]at Y
  refine sr (mi O (Ni O ?_))
  cases Y
  exact Cw.ret (zik O (Res.mk E ⟨O,h⟩))
theorem p18 {x0 a x1 c0 r}(b:Ow W c0 [] [a] x0)(hJ:okJ K [c0]=true)(Y:Vm.zi2 x0 x1=some r):Q1 18 [a,vI x1] W [c0] fun W' v=>v=vI r.1/\Ow W' c0 [] [a] r.2:=
 zao.adJ (J:=[c0]) (fun c=>bif Nat.beq c 0 then 0 else bif Nat.beq c 2 then c0 else 0) (c18 (b.viewJ 0 hJ) Y) fun _ _ ⟨e,d⟩=>⟨e,Ow.backJ 0 d O⟩
theorem c19 {x0 a x1 r}(d:Ow W0 2 [] [a] x0.Yes)(Y:Vm.zi3 x0 x1=some r):Q0 19 [.agg [vS x0.Branch,vS x0.Into,vS x0.By,a].toArray,vI x1] W0 fun Wf v=>v=vI r.1/\Ow Wf 2 [] [a] r.2.Yes:=by
 unfold Vm.zi3 at Y
 refine zao.of Tryz.func19 O O O O (sr (bo 3 O fun x y b e=>?_))
 have f:=b.o
 refine Ni O (sr (fl e O (mi O (cr Y (fun _=>p53 (K:=[0]) (c0:=2) (d.up b) O) ?_))))
 rintro z _ A Y h ⟨rfl,i⟩
 have k:=f.t h
 refine Ni O (sr (mi O (Ni O ?_)))
 cases Y
 exact Cw.ret (zik O (Res.mk k ⟨O,i⟩))
theorem p19 {x0 a x1 c0 r}(b:Ow W c0 [] [a] x0.Yes)(hJ:okJ K [c0]=true)(Y:Vm.zi3 x0 x1=some r):Q1 19 [.agg [vS x0.Branch,vS x0.Into,vS x0.By,a].toArray,vI x1] W [c0] fun W' v=>v=vI r.1/\Ow W' c0 [] [a] r.2.Yes:=
 zao.adJ (J:=[c0]) (fun c=>bif Nat.beq c 0 then 0 else bif Nat.beq c 2 then c0 else 0) (c19 (b.viewJ 0 hJ) Y) fun _ _ ⟨e,d⟩=>⟨e,Ow.backJ 0 d O⟩
theorem c107 {x0 a x1 r}(y:Rd W0 [0] [a] x0)(Y:Vm.zkJ x0 x1=some r):Q0 107 [a,vI x1] W0 fun Wf v=>v=vI r:=by
 unfold Vm.zkJ at Y
 refine zao.of Tryz.func107 O O O O (sr (Ni O (ssr (Ni O (Cw.block ?_)))))
 obtain⟨z,A,Y⟩:=zaY Y
 refine Cw.loop 6 19 [1,4,5] (fun m l w=> ∃ b d e f,CW.w f=w/\Le [] W0 f/\l=[vI b,vI d,vI e]/\Vm.zgU x0 z m b d e=some r) _ ⟨x1,0,0,W0,O,Le.refl _ _,O,Y⟩ ?_
 rintro(_ |B) _ _ σ ⟨b,d,e,f,rfl,k,rfl,Y⟩
 ·cases Y
 unfold Vm.zgU at Y
 have h:=k.o
 refine ssr ?_
 have i:=y.ul h
 refine mi O (mv a O (Lw.ln x0 i O (Lw.lt O (nl (cn Y (fun Y=>?_) fun Y=>?_)))))
 ·refine sk (Cw.seq (Cw.block (ssr (mv a O (mi O ?_)))))
  obtain⟨C,x,Y⟩:=ob Y
  refine Lw.r O (R.ix (α:=Int) i x O O O) (Lw.r O (R.ld O O (i.at_ x).int) (mi O (Lw.ne O (nl (cn Y (fun Y=>?_) fun Y=>?_)))))
  ·exact sr (Ni O (.ret (rt Y h)))
  ·exact sk (rg (mi O (Lw.add O (Ni O (rg (mi O (Lw.add O (Ni O ((agm) ⟨w64 (b+1),d,w64 (e+1),f,O,k,O,Y⟩)))))))))
 ·refine Cw.exit ?_
  rw[A]at Y
  exact sr (mi O (Ni O (.ret (rt Y h))))
theorem p107 {x0 a x1 r}(b:Rd W K [a] x0)(Y:Vm.zkJ x0 x1=some r):Q1 107 [a,vI x1] W [] fun W' v=>v=vI r:=
 (c107 (b.view _) Y).ad (fk 0) fun _ _ e=>e
theorem c150 {x0 a x1 r}(b:Rd W0 [0] [a] x0)(Y:Vm.zfQ x0 x1=some r):Q0 150 [a,vI x1] W0 fun Wf v=>v=vI r:=by
 unfold Vm.zfQ at Y
 refine zao.of Tryz.func150 O O O O (sr (Ni O (ssr (Ni O (Cw.block ?_)))))
 obtain⟨A,B,Y⟩:=zaY Y
 refine Cw.loop 6 20 [1,4,5] (fun m l w=> ∃ d e f i,CW.w i=w/\Le [] W0 i/\l=[vI d,vI e,vI f]/\Vm.zdd x0 A m d e f=some r) _ ⟨x1,0,0,W0,O,Le.refl _ _,O,Y⟩ ?_
 rintro(_ |F) _ _ σ ⟨d,e,f,i,rfl,z,rfl,Y⟩
 ·cases Y
 unfold Vm.zdd at Y
 have k:=z.o
 refine ssr (mi O (mv a O (Lw.ln x0 (b.ul k) O (Lw.lt O (nl (cn Y (fun Y=>?_) fun Y=>?_))))))
 ·refine sk (Cw.seq (Cw.block (Cw.seq (Cw.seq (Cw.draw [] [(0,0),(1,0),(2,0),(3,1),(4,0),(5,2),(6,0)] mixed (by kernel_rfl) fun G l10=>?_)))))
  have h:=k.n l10
  refine Dv a O (Di O ?_)
  obtain⟨H,x,Y⟩:=ob Y
  refine Mw.p O O (fun _=>R.ix (α:=Str) (b.ul h) x O O O) (Mw.q O O (fun _ c=>R.ld O O (zaq ((b.ul h).at_ x).1 O ((b.ul h).at_ x).str c)) (Di O ?_))
  obtain⟨I,C,Y⟩:=ob Y
  refine Mw.t O O (T.call O (p52 C)) ?_
  rintro _ _ ⟨D,rfl,y,rfl⟩
  have E:=h.n y
  refine m0 y fun J=>Mw.p O O (fun _=>R.sne O O) (Mw.nil (cn Y (fun Y=>?_) fun Y=>?_))
  ·exact sr (Ni O (.ret (rt Y E)))
  ·exact sk (rg (mi O (Lw.add O (Ni O (rg (mi O (Lw.add O (Ni O ((agm) ⟨w64 (d+1),e,w64 (f+1),D,O,((z.j l10).j y).w,O,Y⟩)))))))))
 ·refine Cw.exit ?_
  rw[B]at Y
  exact sr (mi O (Ni O (.ret (rt Y k))))
theorem p150 {x0 a x1 r}(b:Rd W K [a] x0)(Y:Vm.zfQ x0 x1=some r):Q1 150 [a,vI x1] W [] fun W' v=>v=vI r:=
 (c150 (b.view _) Y).ad (fk 0) fun _ _ e=>e
theorem c108 {x0 b x1 r}(a:Rd W0 [0] [b] x0)(Y:Vm.zjL x0 x1=some r):Q0 108 [b,vI x1] W0 fun Wf v=>v=vI r:=by
 unfold Vm.zjL at Y
 refine zao.of Tryz.func108 O O O O (sr (Ni O (ssr (Ni O (Cw.block ?_)))))
 obtain⟨D,E,Y⟩:=zaY Y
 refine Cw.loop 6 30 [1,4,5] (fun m l w=> ∃ i d e k,CW.w k=w/\Le [] W0 k/\l=[vI i,vI d,vI e]/\Vm.zf9 x0 D m i d e=some r) _ ⟨x1,0,0,W0,O,Le.refl _ _,O,Y⟩ ?_
 rintro(_ |J) _ _ σ ⟨i,d,e,k,rfl,A,rfl,Y⟩
 ·cases Y
 unfold Vm.zf9 at Y
 have x:=A.o
 refine ssr (mi O (mv b O (Lw.ln x0 (a.ul x) O (Lw.lt O (nl (cn Y (fun Y=>?_) fun Y=>?_))))))
 ·refine sk (Cw.seq (Cw.block (Cw.seq (Cw.seq (Cw.draw [] [(0,0),(1,0),(2,0),(3,0),(4,1),(5,0),(6,2),(7,0)] mixed (by kernel_rfl) fun K l10=>?_)))))
  have f:=x.n l10
  refine Dv b O (Di O ?_)
  obtain⟨L,y,Y⟩:=ob Y
  refine Mw.p O O (fun _=>R.ix (α:=File) (a.ul f) y O O O) (Df O (Mw.q O O (fun _ c=>R.ld O O (zaq (File.at0 ((a.ul f).at_ y)).1 O (File.at0 ((a.ul f).at_ y)).str c)) (Di O ?_)))
  obtain⟨M,F,Y⟩:=ob Y
  refine Mw.t O O (T.call O (p52 F)) ?_
  rintro _ _ ⟨N,rfl,z,rfl⟩
  have h:=f.n z
  refine m0 z fun P=>Mw.p O O (fun _=>R.sne O O) (Mw.nil (cn Y (fun Y=>?_) fun Y=>?_))
  ·exact sr (Ni O (.ret (rt Y h)))
  ·refine sk (sr (mi O (Lw.add O (Ni O (sr (mv b O (mi O ?_)))))))
   obtain⟨Q,B,Y⟩:=ob Y
   refine Lw.r O (R.ix (α:=File) (a.ul h) B O O O) (Lw.fa O ?_)
   obtain⟨S,c24,r25⟩:=(File.at1 ((a.ul h).at_ B)).cell O
   refine Lw.r O (R.ld O O c24) (mi O (ca Y (fun _=>p150 r25) fun G H Y C=>?_))
   have I:=h.n C
   refine Ni O (sr (mi O (Lw.lt O (nl (cn Y (fun Y=>?_) fun Y=>?_)))))
   ·exact sr (Ni O (.ret (rt Y I)))
   ·exact sk (rg (mi O (Lw.add O (Ni O ((agm) ⟨G,d,w64 (e+1),H,O,(((A.j l10).j z).j C).w,O,Y⟩)))))
 ·refine Cw.exit ?_
  rw[E]at Y
  exact sr (mi O (Ni O (.ret (rt Y x))))
theorem p108 {x0 a x1 r}(b:Rd W K [a] x0)(Y:Vm.zjL x0 x1=some r):Q1 108 [a,vI x1] W [] fun W' v=>v=vI r:=
 (c108 (b.view _) Y).ad (fk 0) fun _ _ e=>e
theorem c54 {x0 a x1 r}(b:Rd W0 [0] [a] x0)(Y:Vm.zic x0 x1=some r):Q0 54 [a,vI x1] W0 fun Wf v=>v=vI r:=by
 unfold Vm.zic at Y
 refine zao.of Tryz.func54 O O O O (sr (Ni O (ssr (Ni O (Cw.block ?_)))))
 obtain⟨I,J,Y⟩:=zaY Y
 refine Cw.loop 6 39 [1,4,5] (fun m l w=> ∃ i d e k,CW.w k=w/\Le [] W0 k/\l=[vI i,vI d,vI e]/\Vm.zfd x0 I m i d e=some r) _ ⟨x1,0,0,W0,O,Le.refl _ _,O,Y⟩ ?_
 rintro(_ |P) _ _ σ ⟨i,d,e,k,rfl,B,rfl,Y⟩
 ·cases Y
 unfold Vm.zfd at Y
 have x:=B.o
 refine ssr ?_
 have y:=b.ul x
 refine mi O (mv a O (Lw.ln x0 y O (Lw.lt O (nl (cn Y (fun Y=>?_) fun Y=>?_)))))
 ·refine sk (Cw.seq (Cw.block (sr (mv a O (mi O ?_)))))
  obtain⟨Q,C,Y⟩:=ob Y
  refine Lw.r O (R.ix (α:=Commit) y C O O O) (Lw.fa O ?_)
  obtain⟨S,c13,r14⟩:=(Commit.at0 (y.at_ C)).cell O
  refine Lw.r O (R.ld O O c13) (mi O (ca Y (fun _=>p107 r14) fun U V Y D=>?_))
  have E:=x.n D
  refine Ni O (ssr (mi O (Lw.lt O (nl (cn Y (fun Y=>?_) fun Y=>?_)))))
  ·exact sr (Ni O (.ret (rt Y E)))
  ·refine sk (Cw.seq (Cw.seq (Cw.draw [] [(0,0),(1,0),(2,0),(3,0),(4,1),(5,0),(6,2),(7,0)] mixed (by kernel_rfl) fun W F=>?_)))
   have f:=E.n F
   refine Dv a O (Di O ?_)
   obtain⟨X,z,Y⟩:=ob Y
   refine Mw.p O O (fun _=>R.ix (α:=Commit) (b.ul f) z O O O) (Df O (Mw.q O O (fun _ c=>R.ld O O (zaq (Commit.at1 ((b.ul f).at_ z)).1 O (Commit.at1 ((b.ul f).at_ z)).str c)) (Di O ?_)))
   obtain⟨Z,K,Y⟩:=ob Y
   refine Mw.t O O (T.call O (p52 K)) ?_
   rintro _ _ ⟨aa,rfl,A,rfl⟩
   have h:=f.n A
   refine m0 A fun ac=>Mw.p O O (fun _=>R.sne O O) (Mw.nil (cn Y (fun Y=>?_) fun Y=>?_))
   ·exact sr (Ni O (.ret (rt Y h)))
   ·refine sk (sr (mi O (Lw.add O (Ni O (sr (mv a O (mi O ?_)))))))
    obtain⟨ae,G,Y⟩:=ob Y
    refine Lw.r O (R.ix (α:=Commit) (b.ul h) G O O O) (Lw.fa O ?_)
    obtain⟨af,c34,r35⟩:=(Commit.at2 ((b.ul h).at_ G)).cell O
    refine Lw.r O (R.ld O O c34) (mi O (ca Y (fun _=>p108 r35) fun L M Y H=>?_))
    have N:=h.n H
    refine Ni O (sr (mi O (Lw.lt O (nl (cn Y (fun Y=>?_) fun Y=>?_)))))
    ·exact sr (Ni O (.ret (rt Y N)))
    ·exact sk (rg (mi O (Lw.add O (Ni O ((agm) ⟨L,d,w64 (e+1),M,O,((((B.j D).j F).j A).j H).w,O,Y⟩)))))
 ·refine Cw.exit ?_
  rw[J]at Y
  exact sr (mi O (Ni O (.ret (rt Y x))))
theorem p54 {x0 a x1 r}(b:Rd W K [a] x0)(Y:Vm.zic x0 x1=some r):Q1 54 [a,vI x1] W [] fun W' v=>v=vI r:=
 (c54 (b.view _) Y).ad (fk 0) fun _ _ e=>e
theorem c55 {x0 b x1 r}(a:Rd W0 [0] [b] x0)(Y:Vm.zjM x0 x1=some r):Q0 55 [b,vI x1] W0 fun Wf v=>v=vI r:=by
 unfold Vm.zjM at Y
 refine zao.of Tryz.func55 O O O O (sr (Ni O (ssr (Ni O (Cw.block ?_)))))
 obtain⟨C,D,Y⟩:=zaY Y
 refine Cw.loop 6 30 [1,4,5] (fun m l w=> ∃ d e f k,CW.w k=w/\Le [] W0 k/\l=[vI d,vI e,vI f]/\Vm.zga x0 C m d e f=some r) _ ⟨x1,0,0,W0,O,Le.refl _ _,O,Y⟩ ?_
 rintro(_ |G) _ _ σ ⟨d,e,f,k,rfl,A,rfl,Y⟩
 ·cases Y
 unfold Vm.zga at Y
 have x:=A.o
 refine ssr (mi O (mv b O (Lw.ln x0 (a.ul x) O (Lw.lt O (nl (cn Y (fun Y=>?_) fun Y=>?_))))))
 ·refine sk (Cw.seq (Cw.block (Cw.seq (Cw.seq (Cw.draw [] [(0,0),(1,0),(2,0),(3,0),(4,1),(5,0),(6,2),(7,0)] mixed (by kernel_rfl) fun H l10=>?_)))))
  have h:=x.n l10
  refine Dv b O (Di O ?_)
  obtain⟨I,y,Y⟩:=ob Y
  refine Mw.p O O (fun _=>R.ix (α:=Head) (a.ul h) y O O O) (Df O (Mw.q O O (fun _ c=>R.ld O O (zaq (Head.at0 ((a.ul h).at_ y)).1 O (Head.at0 ((a.ul h).at_ y)).str c)) (Di O ?_)))
  obtain⟨J,E,Y⟩:=ob Y
  refine Mw.t O O (T.call O (p52 E)) ?_
  rintro _ _ ⟨F,rfl,z,rfl⟩
  have i:=h.n z
  refine m0 z fun K=>Mw.p O O (fun _=>R.sne O O) (Mw.nil (cn Y (fun Y=>?_) fun Y=>?_))
  ·exact sr (Ni O (.ret (rt Y i)))
  ·refine sk (sr (mi O (Lw.add O (Ni O (ssr (mv b O (mi O ?_)))))))
   obtain⟨L,B,Y⟩:=ob Y
   refine Lw.r O (R.ix (α:=Head) (a.ul i) B O O O) (Lw.fa O (Lw.r O (R.ld O O (Head.at1 ((a.ul i).at_ B)).int) (mi O (Lw.ne O (nl (cn Y (fun Y=>?_) fun Y=>?_))))))
   ·exact sr (Ni O (.ret (rt Y i)))
   ·exact sk (rg (mi O (Lw.add O (Ni O (rg (mi O (Lw.add O (Ni O ((agm) ⟨w64 ((w64 (d+1))+1),e,w64 (f+1),F,O,((A.j l10).j z).w,O,Y⟩)))))))))
 ·refine Cw.exit ?_
  rw[D]at Y
  exact sr (mi O (Ni O (.ret (rt Y x))))
theorem p55 {x0 a x1 r}(b:Rd W K [a] x0)(Y:Vm.zjM x0 x1=some r):Q1 55 [a,vI x1] W [] fun W' v=>v=vI r:=
 (c55 (b.view _) Y).ad (fk 0) fun _ _ e=>e
theorem c20 {x0 b d x1 r}(x:Rd W0 [0] [b,d] x0)(Y:Vm.zjn x0 x1=some r):Q0 20 [.agg [b,d].toArray,vI x1] W0 fun Wf v=>v=vI r:=by
 unfold Vm.zjn at Y
 obtain⟨C,D,e,y,z⟩:=Repo.split x
 simp only[List.cons.injEq,and_true,true_and]at e
 obtain⟨rfl,rfl⟩:=e
 refine zao.of Tryz.func20 O O O O (sr (bo 2 O fun E F A f=>?_))
 have h:=A.o
 refine Ni O (sr (fl f O (mi O (ca Y (fun _=>p54 (y.ul h)) fun G H Y i=>?_))))
 have a:=h.n i
 refine Ni O (ssr (mi O (Lw.lt O (nl (cn Y (fun Y=>?_) fun Y=>?_)))))
 ·exact sr (Ni O (.ret (rt Y a)))
 ·refine sk (sr (fl (f.up i) O (mi O (ca Y (fun _=>p55 (z.ul a)) fun I J Y B=>?_))))
  have k:=a.n B
  refine Ni O (ssr (mi O (Lw.lt O (nl (cn Y (fun Y=>?_) fun Y=>?_)))))
  ·exact sr (Ni O (.ret (rt Y k)))
  ·exact sk (sr (mi O (Ni O (.ret (rt Y k)))))
theorem p20 {x0 a b x1 r}(d:Rd W K [a,b] x0)(Y:Vm.zjn x0 x1=some r):Q1 20 [.agg [a,b].toArray,vI x1] W [] fun W' v=>v=vI r:=
 (c20 (d.view _) Y).ad (fk 0) fun _ _ e=>e
end Go.Sx
