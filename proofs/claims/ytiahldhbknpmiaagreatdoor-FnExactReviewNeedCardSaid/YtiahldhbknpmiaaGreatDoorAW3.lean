/- Walks: each function answers as its model, printed by a program of ours. Conditions: the arguments read as they are given. -/
import Derived.Test.YtiahldhbknpmiaaGreatDoorATs
import Derived.Test.YtiahldhbknpmiaaGreatDoorAM0
import Derived.Test.YtiahldhbknpmiaaGreatDoorAW2
namespace Go.Sx
open Go Go.Proofs Go.Vm Rp
set_option linter.unusedVariables false
set_option linter.unusedSimpArgs false
variable {W W0:CW}{K:List Nat}
theorem c78 {x0 b x1 e r}(d:Rd W0 [0] [b] x0)(f:Rd W0 [0] [e] x1)(Y:Vm.zjw x0 x1=some r):Q0 78 [b,e] W0 fun Wf v=>v=vB r:=by
 unfold Vm.zjw at Y
 refine zaz.of Tryz.func78 O O O O (sr (Nb O (ssr (mv b O (Lw.ln x0 d O (mv e O (Lw.ln x1 f O (Lw.ne O (nl (cn Y (fun Y=>?_) fun Y=>?_))))))))))
 ·exact sr (Nb O (.ret (rt Y (Le.refl _ _))))
 ·refine sk (ssr (Ni O (Cw.block ?_)))
  obtain⟨E,F,Y⟩:=zbM Y
  refine Cw.loop 11 26 [4,5] (fun m l w=> ∃ h i k,CW.w k=w/\Le [] W0 k/\l=[vB h,vI i]/\Vm.zgy x0 x1 E m h i=some r) _ ⟨false,0,W0,O,Le.refl _ _,O,Y⟩ ?_
  rintro(_ |J) _ _ σ ⟨h,i,k,rfl,C,rfl,Y⟩
  ·cases Y
  unfold Vm.zgy at Y
  have x:=C.o
  refine ssr (mi O (mv b O (Lw.ln x0 (d.ul x) O (Lw.lt O (nl (cn Y (fun Y=>?_) fun Y=>?_))))))
  ·refine sk (Cw.seq (Cw.block (Cw.seq (Cw.draw [] [(0,0),(1,0),(2,0),(3,1),(4,0),(5,0),(6,0),(7,1),(8,3),(9,0)] mixed (by kernel_rfl) fun L l10=>?_))))
   have a:=x.n l10
   refine Dv b O (Di O ?_)
   obtain⟨y,z,Y⟩:=ob Y
   refine Mw.p O O (fun _=>R.ix (α:=Commit) (d.ul a) z O O O) ?_
   obtain⟨x15,c16,_,r17⟩:=((d.ul a).at_ z).cells
   obtain⟨M,N,rfl,r19,r21⟩:=Commit.split r17
   refine Mw.q O O (fun _ c=>R.lda (zkX ((d.ul a).at_ z).1 O c16 c) O O) (Dv e O (Di O ?_))
   obtain⟨A,B,Y⟩:=ob Y
   refine Mw.p O O (fun _=>R.ix (α:=Commit) (f.ul a) B O O O) ?_
   obtain⟨x25,c26,_,r27⟩:=((f.ul a).at_ B).cells
   obtain⟨P,Q,rfl,r29,r31⟩:=Commit.split r27
   refine Mw.q O O (fun _ c=>R.lda (zkX ((f.ul a).at_ B).1 O c26 c) O O) ?_
   obtain⟨S,G,Y⟩:=ob Y
   refine Mw.l O O (T.call O (p148 (Commit.rd (K:=[0]) y.Parents y.Who y.Tree r19 r21) (Commit.rd (K:=[0]) A.Parents A.Who A.Tree r29 r31) G)) ?_
   rintro _ _ ⟨H,rfl,D,rfl⟩
   have I:=a.n D
   refine Mw.p O O (fun _=>R.not O) (Mw.nil (cn Y (fun Y=>?_) fun Y=>?_))
   ·exact sr (Nb O (.ret (rt Y I)))
   ·exact sk (rg (mi O (Lw.add O (Ni O ((agm) ⟨h,w64 (i+1),H,O,((C.j l10).j D).w,O,Y⟩)))))
  ·refine Cw.exit ?_
   rw[F]at Y
   exact sr (Nb O (.ret (rt Y x)))
theorem p78 {x0 a x1 b r}(d:Rd W K [a] x0)(f:Rd W K [b] x1)(Y:Vm.zjw x0 x1=some r):Q1 78 [a,b] W [] fun W' v=>v=vB r:=
 (c78 (d.view _) (f.view _) Y).ad (fk 0) fun _ _ e=>e
theorem c149 {x0 x1 r}(i:Rd W0 [0] [vS x0.Name,vI x0.At] x0)(k:Rd W0 [0] [vS x1.Name,vI x1.At] x1)(Y:Vm.zl1 x0 x1=some r):Q0 149 [.agg [vS x0.Name,vI x0.At].toArray, .agg [vS x1.Name,vI x1.At].toArray] W0 fun Wf v=>v=vB r:=by
 unfold Vm.zl1 at Y
 refine zaz.of Tryz.func149 O O O O (sr (bo 2 O fun x y f d=>?_))
 have h:=f.o
 refine bo 3 O fun z A a e=>?_
 have b:=h.n a
 refine Nb O (ssr (fl (d.up a) O (fl e O (Lw.sne O (nl (cn Y (fun Y=>?_) fun Y=>?_))))))
 ·exact sr (Nb O (.ret (rt Y b)))
 ·refine sk (ssr (fl (d.up a) O (fl e O (Lw.ne O (nl (cn Y (fun Y=>?_) fun Y=>?_))))))
  ·exact sr (Nb O (.ret (rt Y b)))
  ·exact sk (sr (Nb O (.ret (rt Y b))))
theorem p149 {x0 x1 r}(a:Rd W K [vS x0.Name,vI x0.At] x0)(b:Rd W K [vS x1.Name,vI x1.At] x1)(Y:Vm.zl1 x0 x1=some r):Q1 149 [.agg [vS x0.Name,vI x0.At].toArray, .agg [vS x1.Name,vI x1.At].toArray] W [] fun W' v=>v=vB r:=
 (c149 (a.view _) (b.view _) Y).ad (fk 0) fun _ _ e=>e
theorem c79 {x0 b x1 e r}(d:Rd W0 [0] [b] x0)(f:Rd W0 [0] [e] x1)(Y:Vm.zk9 x0 x1=some r):Q0 79 [b,e] W0 fun Wf v=>v=vB r:=by
 unfold Vm.zk9 at Y
 refine zaz.of Tryz.func79 O O O O (sr (Nb O (ssr (mv b O (Lw.ln x0 d O (mv e O (Lw.ln x1 f O (Lw.ne O (nl (cn Y (fun Y=>?_) fun Y=>?_))))))))))
 ·exact sr (Nb O (.ret (rt Y (Le.refl _ _))))
 ·refine sk (ssr (Ni O (Cw.block ?_)))
  obtain⟨E,F,Y⟩:=zbM Y
  refine Cw.loop 11 26 [4,5] (fun m l w=> ∃ h i k,CW.w k=w/\Le [] W0 k/\l=[vB h,vI i]/\Vm.zh0 x0 x1 E m h i=some r) _ ⟨false,0,W0,O,Le.refl _ _,O,Y⟩ ?_
  rintro(_ |J) _ _ σ ⟨h,i,k,rfl,A,rfl,Y⟩
  ·cases Y
  unfold Vm.zh0 at Y
  have x:=A.o
  refine ssr (mi O (mv b O (Lw.ln x0 (d.ul x) O (Lw.lt O (nl (cn Y (fun Y=>?_) fun Y=>?_))))))
  ·refine sk (Cw.seq (Cw.block (Cw.seq (Cw.draw [] [(0,0),(1,0),(2,0),(3,1),(4,0),(5,0),(6,0),(7,1),(8,3),(9,0)] mixed (by kernel_rfl) fun L l10=>?_))))
   have a:=x.n l10
   refine Dv b O (Di O ?_)
   obtain⟨B,y,Y⟩:=ob Y
   refine Mw.p O O (fun _=>R.ix (α:=Head) (d.ul a) y O O O) ?_
   obtain⟨x15,c16,_,r17⟩:=((d.ul a).at_ y).cells
   obtain rfl:=Head.split r17
   refine Mw.q O O (fun _ c=>R.lda (zkX ((d.ul a).at_ y).1 O c16 c) O O) (Dv e O (Di O ?_))
   obtain⟨C,z,Y⟩:=ob Y
   refine Mw.p O O (fun _=>R.ix (α:=Head) (f.ul a) z O O O) ?_
   obtain⟨x21,c22,_,r23⟩:=((f.ul a).at_ z).cells
   obtain rfl:=Head.split r23
   refine Mw.q O O (fun _ c=>R.lda (zkX ((f.ul a).at_ z).1 O c22 c) O O) ?_
   obtain⟨M,G,Y⟩:=ob Y
   refine Mw.l O O (T.call O (p149 (Head.rd (K:=[0]) B.Name B.At) (Head.rd (K:=[0]) C.Name C.At) G)) ?_
   rintro _ _ ⟨H,rfl,D,rfl⟩
   have I:=a.n D
   refine Mw.p O O (fun _=>R.not O) (Mw.nil (cn Y (fun Y=>?_) fun Y=>?_))
   ·exact sr (Nb O (.ret (rt Y I)))
   ·exact sk (rg (mi O (Lw.add O (Ni O ((agm) ⟨h,w64 (i+1),H,O,((A.j l10).j D).w,O,Y⟩)))))
  ·refine Cw.exit ?_
   rw[F]at Y
   exact sr (Nb O (.ret (rt Y x)))
theorem p79 {x0 a x1 b r}(d:Rd W K [a] x0)(f:Rd W K [b] x1)(Y:Vm.zk9 x0 x1=some r):Q1 79 [a,b] W [] fun W' v=>v=vB r:=
 (c79 (d.view _) (f.view _) Y).ad (fk 0) fun _ _ e=>e
theorem c19 {x0 e f x1 h i r}(B:Rd W0 [0] [e,f] x0)(C:Rd W0 [0] [h,i] x1)(Y:Vm.zdq x0 x1=some r):Q0 19 [.agg [e,f].toArray, .agg [h,i].toArray] W0 fun Wf v=>v=vB r:=by
 unfold Vm.zdq at Y
 obtain⟨K,L,k,D,E⟩:=Repo.split B
 simp only[List.cons.injEq,and_true,true_and]at k
 obtain⟨rfl,rfl⟩:=k
 obtain⟨M,N,x,F,G⟩:=Repo.split C
 simp only[List.cons.injEq,and_true,true_and]at x
 obtain⟨rfl,rfl⟩:=x
 refine zaz.of Tryz.func19 O O O O (sr (bo 2 O fun P Q H y=>?_))
 have I:=H.o
 refine bo 3 O fun S T b z=>?_
 have d:=I.n b
 refine Nb O (ssr (fl (y.up b) O (fl z O (ca Y (fun _=>p78 (D.ul d) (F.ul d)) fun U V Y l10=>?_))))
 have a:=d.n l10
 refine Lw.r O (R.not O) (nl (cn Y (fun Y=>?_) fun Y=>?_))
 ·exact sr (Nb O (.ret (rt Y a)))
 ·refine sk (ssr (fl ((y.up b).up l10) O (fl (z.up l10) O (ca Y (fun _=>p79 (E.ul a) (G.ul a)) fun W X Y J=>?_))))
  have A:=a.n J
  refine Lw.r O (R.not O) (nl (cn Y (fun Y=>?_) fun Y=>?_))
  ·exact sr (Nb O (.ret (rt Y A)))
  ·exact sk (sr (Nb O (.ret (rt Y A))))
theorem p19 {x0 a b x1 d f r}(h:Rd W K [a,b] x0)(i:Rd W K [d,f] x1)(Y:Vm.zdq x0 x1=some r):Q1 19 [.agg [a,b].toArray, .agg [d,f].toArray] W [] fun W' v=>v=vB r:=
 (c19 (h.view _) (i.view _) Y).ad (fk 0) fun _ _ e=>e
theorem c150 {x0 a x1 r}(k:Ow W0 2 [] [a] x0)(Y:Vm.zkz x0 x1=some r):Q0 150 [a,vI x1] W0 fun Wf v=>v=vI r.1/\Ow Wf 2 [] [a] r.2:=by
 unfold Vm.zkz at Y
 refine zaz.of Tryz.func150 O O O O (sr (Ni O (ssr (Ni O (Cw.block ?_)))))
 obtain⟨x,y,Y⟩:=zbM Y
 refine Cw.loop 6 17 [1,5] (fun m l w=> ∃ b d e f,CW.w f=w/\Le [2] W0 f/\l=[vI b,vI d]/\Ow f 2 [] [a] e/\Vm.zhd x m b d e=some r) _ ⟨x1,0,x0,W0,O,Le.refl _ _,O,k,Y⟩ ?_
 rintro(_ |G) _ _ σ ⟨b,d,e,f,rfl,i,rfl,h,Y⟩
 ·cases Y
 unfold Vm.zhd at Y
 have z:=i.s
 refine ssr (mi O (mv a O (Lw.ln e h.rd O (Lw.lt O (nl (cn Y (fun Y=>?_) fun Y=>?_))))))
 ·refine sk (Cw.seq (Cw.block (sr (mv a O (mi O (mi O ?_))))))
  obtain⟨H,A,Y⟩:=ob Y
  refine Lw.r O (R.ix (α:=Int) h.rd A O O O) ?_
  obtain⟨B,C,Y⟩:=ob Y
  refine Lw.u (T.stS (K':=[]) h (rdI _) C O O O) ?_
  rintro _ _ ⟨D,rfl,E,F⟩
  exact nl (rg (mi O (Lw.add O (Ni O (rg (mi O (Lw.add O (Ni O ((agm) ⟨w64 (b+1),w64 (d+1),B,D,O,(i.j E).w,O,F,Y⟩)))))))))
 ·refine Cw.exit ?_
  rw[y]at Y
  refine sr (mi O (Ni O ?_))
  cases Y
  exact Cw.ret (zkN O (Res.mk z ⟨O,h⟩))
theorem p150 {x0 a x1 c0 r}(b:Ow W c0 [] [a] x0)(hJ:okJ K [c0]=true)(Y:Vm.zkz x0 x1=some r):Q1 150 [a,vI x1] W [c0] fun W' v=>v=vI r.1/\Ow W' c0 [] [a] r.2:=
 zaz.adJ (J:=[c0]) (fun c=>bif Nat.beq c 0 then 0 else bif Nat.beq c 2 then c0 else 0) (c150 (b.viewJ 0 hJ) Y) fun _ _ ⟨e,d⟩=>⟨e,Ow.backJ 0 d O⟩
theorem c110 {x0 r}(Y:Vm.zcp x0=some r):Q0 110 [vI x0] W0 fun Wf v=>v=vS r:=by
 unfold Vm.zcp at Y
 refine zaz.of Tryz.func110 O O O O (sr (Ns O (ssr (mi O (Lw.le O (nl (cn Y (fun Y=>?_) fun Y=>?_)))))))
 ·exact sr (Ns O (.ret (rt Y (Le.refl _ _))))
 ·refine sk (sr (Ns O (Cw.seq (Cw.block ?_))))
  obtain⟨f,i,Y⟩:=zbM Y
  refine Cw.loop 6 17 [0,3] (fun m l w=> ∃ a d b,CW.w b=w/\Le [] W0 b/\l=[vI a,vS d]/\Vm.zgo f m a d=some r) _ ⟨x0,([]:Str),W0,O,Le.refl _ _,O,Y⟩ ?_
  rintro(_ |D) _ _ σ ⟨a,d,b,rfl,e,rfl,Y⟩
  ·cases Y
  unfold Vm.zgo at Y
  have k:=e.o
  refine ssr (mi O (Lw.gt O (nl (cn Y (fun Y=>?_) fun Y=>?_))))
  ·refine sk (Cw.block (sr (mi O (Lw.r O (R.rem O O (by decide)) (Lw.add O (Lw.r O (R.cv8 O O) (Lw.t O (T.bsS (α:=zn4) (xs:=[(by8 (w64 (48+(Int.tmod a 10))))]) 2 [] (W:=b) [.int .u8 (UInt8.toNat (by8 (w64 (48+(Int.tmod a 10)))):Int)] (Each.cons ((rdY _)) Each.nil) O) ?_)))))))
   rintro E _ ⟨x,rfl,y,z⟩
   refine Lw.r O (R.cvB (xs:=([(by8 (w64 (48+(Int.tmod a 10))))]:List zn4)) z.rd O (fun h=>h.1)) (ms O ?_)
   obtain⟨A,B,Y⟩:=ob Y
   exact Lw.r O (R.sad B O O) (Ns O (rg (mi O (Lw.r O (R.quo O O (by decide)) (Ni O ((agm) ⟨w64 (Int.tdiv a 10),A,x,O,(e.j y).w,O,Y⟩))))))
  ·refine Cw.exit ?_
   rw[i]at Y
   refine sr (ms O ?_)
   obtain⟨F,C,Y⟩:=ob Y
   exact Lw.r O (R.sad C O O) (Ns O (.ret (rt Y k)))
theorem p110 {x0 r}(Y:Vm.zcp x0=some r):Q1 110 [vI x0] W [] fun W' v=>v=vS r:=
 (c110 (W0:=W.view [] []) Y).ad (fk 0) fun _ _ e=>e
theorem c39 {x0 a x1 r}(x:Ow W0 2 [] [a] x0)(Y:Vm.zed x0 x1=some r):Q0 39 [a,vI x1] W0 fun Wf v=>v=vI r.1/\Ow Wf 2 [] [a] r.2:=by
 unfold Vm.zed at Y
 refine zaz.of Tryz.func39 O O O O (sr (Ni O (ssr (Ni O (Cw.block ?_)))))
 obtain⟨y,z,Y⟩:=zbM Y
 refine Cw.loop 6 18 [1,5] (fun m l w=> ∃ b d e f,CW.w f=w/\Le [2] W0 f/\l=[vI b,vI d]/\Ow f 2 [] [a] e/\Vm.zdF y m b d e=some r) _ ⟨x1,0,x0,W0,O,Le.refl _ _,O,x,Y⟩ ?_
 rintro(_ |H) _ _ σ ⟨b,d,e,f,rfl,k,rfl,h,Y⟩
 ·cases Y
 unfold Vm.zdF at Y
 have A:=k.s
 refine ssr (mi O (mv a O (Lw.ln e h.rd O (Lw.lt O (nl (cn Y (fun Y=>?_) fun Y=>?_))))))
 ·refine sk (Cw.seq (Cw.block (sr (mv a O (mi O (mi O (ca Y (fun _=>p110) fun I J Y i=>?_)))))))
  obtain⟨K,B,Y⟩:=ob Y
  refine Lw.r O (R.ix (α:=Str) (h.up i).rd B O O O) ?_
  obtain⟨C,D,Y⟩:=ob Y
  refine Lw.u (T.stS (K':=[]) (h.up i) (rdS _) D O O O) ?_
  rintro _ _ ⟨E,rfl,F,G⟩
  exact nl (rg (mi O (Lw.add O (Ni O (rg (mi O (Lw.add O (Ni O ((agm) ⟨w64 (b+1),w64 (d+1),C,E,O,((k.j i).j F).w,O,G,Y⟩)))))))))
 ·refine Cw.exit ?_
  rw[z]at Y
  refine sr (mi O (Ni O ?_))
  cases Y
  exact Cw.ret (zkN O (Res.mk A ⟨O,h⟩))
theorem p39 {x0 a x1 c0 r}(b:Ow W c0 [] [a] x0)(hJ:okJ K [c0]=true)(Y:Vm.zed x0 x1=some r):Q1 39 [a,vI x1] W [c0] fun W' v=>v=vI r.1/\Ow W' c0 [] [a] r.2:=
 zaz.adJ (J:=[c0]) (fun c=>bif Nat.beq c 0 then 0 else bif Nat.beq c 2 then c0 else 0) (c39 (b.viewJ 0 hJ) Y) fun _ _ ⟨e,d⟩=>⟨e,Ow.backJ 0 d O⟩
theorem c151 {x0 a x1 r}(C:Ow W0 2 [] [a] x0)(Y:Vm.zjx x0 x1=some r):Q0 151 [a,vI x1] W0 fun Wf v=>v=vI r.1/\Ow Wf 2 [] [a] r.2:=by
 unfold Vm.zjx at Y
 refine zaz.of Tryz.func151 O O O O (sr (Ni O (ssr (Ni O (Cw.block ?_)))))
 obtain⟨D,E,Y⟩:=zbM Y
 refine Cw.loop 6 26 [1,5] (fun m l w=> ∃ h b d e,CW.w e=w/\Le [2,3] W0 e/\l=[vI h,vI b]/\Ow e 2 [] [a] d/\Vm.zgz D m h b d=some r) _ ⟨x1,0,x0,W0,O,Le.refl _ _,O,C,Y⟩ ?_
 rintro(_ |X) _ _ σ ⟨h,b,d,e,rfl,y,rfl,f,Y⟩
 ·cases Y
 unfold Vm.zgz at Y
 have F:=y.s
 refine ssr (mi O (mv a O (Lw.ln d f.rd O (Lw.lt O (nl (cn Y (fun Y=>?_) fun Y=>?_))))))
 ·refine sk (Cw.seq (Cw.block (sr (mv a O (mi O (mi O (ca Y (fun _=>p110) fun Z aa Y i=>?_)))))))
  obtain⟨ac,z,Y⟩:=ob Y
  refine Lw.r O (R.ix (α:=File) (f.up i).rd z O O O) (Lw.fa O ?_)
  obtain⟨ae,G,Y⟩:=ob Y
  refine Lw.u (T.stH (α:=File) (β:=Str) (J:=[]) (Ow.hole (α:=File) (β:=Str) (jf:=0) (f.up i) z) (OwS.atm (K:=[]) (rdS _)) G O O O O) ?_
  rintro _ _ ⟨af,rfl,H,k⟩
  refine nl (sr (mi O (Lw.add O (Ni O (rg (mv a O (mi O ?_)))))))
  obtain⟨ah,x,Y⟩:=ob Y
  refine Lw.r O (R.ix (α:=File) k.rd x O O O) (Lw.fa O ?_)
  obtain⟨ai,c24,r25⟩:=(File.at1 (k.rd.at_ x)).cell O
  refine Lw.r O (R.ld O O c24) (mi O ?_)
  obtain⟨aj,I,L,M,gb26⟩:=Ow.lend (α:=File) (β:=List Str) (j:=3) (jf:=1) k x c24 O
  rw[<- I]
  refine cr Y (fun _=>p39 (K:=[0]) (c0:=3) M O) ?_
  rintro N _ ak Y A ⟨rfl,P⟩
  obtain⟨Q,S,U,V,eq33,W⟩:=gb26 _ _ A P
  obtain⟨B,eqm33,Y⟩:=ob Y
  obtain rfl:B=V:=Option.some.inj (eqm33.symm.trans eq33)
  rw[<- S]
  exact Ni O (rg (mi O (Lw.add O (Ni O ((agm) ⟨N.1,w64 (b+1),B,Q,O,(((((y.j i).j H).j L).j A).j U).w,O,W,Y⟩)))))
 ·refine Cw.exit ?_
  rw[E]at Y
  refine sr (mi O (Ni O ?_))
  cases Y
  exact Cw.ret (zkN O (Res.mk F ⟨O,f⟩))
theorem p151 {x0 a x1 c0 r}(b:Ow W c0 [] [a] x0)(hJ:okJ K [c0]=true)(Y:Vm.zjx x0 x1=some r):Q1 151 [a,vI x1] W [c0] fun W' v=>v=vI r.1/\Ow W' c0 [] [a] r.2:=
 zaz.adJ (J:=[c0]) (fun c=>bif Nat.beq c 0 then 0 else bif Nat.beq c 2 then c0 else 0) (c151 (b.viewJ 0 hJ) Y) fun _ _ ⟨e,d⟩=>⟨e,Ow.backJ 0 d O⟩
theorem c80 {x0 a x1 r}(F:Ow W0 2 [] [a] x0)(Y:Vm.zid x0 x1=some r):Q0 80 [a,vI x1] W0 fun Wf v=>v=vI r.1/\Ow Wf 2 [] [a] r.2:=by
 unfold Vm.zid at Y
 refine zaz.of Tryz.func80 O O O O (sr (Ni O (ssr (Ni O (Cw.block ?_)))))
 obtain⟨G,H,Y⟩:=zbM Y
 refine Cw.loop 6 33 [1,5] (fun m l w=> ∃ h d e f,CW.w f=w/\Le [2,3,4] W0 f/\l=[vI h,vI d]/\Ow f 2 [] [a] e/\Vm.zfE G m h d e=some r) _ ⟨x1,0,x0,W0,O,Le.refl _ _,O,F,Y⟩ ?_
 rintro(_ |m7) _ _ σ ⟨h,d,e,f,rfl,z,rfl,b,Y⟩
 ·cases Y
 unfold Vm.zfE at Y
 have I:=z.s
 refine ssr (mi O (mv a O (Lw.ln e b.rd O (Lw.lt O (nl (cn Y (fun Y=>?_) fun Y=>?_))))))
 ·refine sk (Cw.seq (Cw.block (sr (mv a O (mi O ?_)))))
  obtain⟨ao,i,Y⟩:=ob Y
  refine Lw.r O (R.ix (α:=Commit) b.rd i O O O) (Lw.fa O ?_)
  obtain⟨ap,c13,r14⟩:=(Commit.at0 (b.rd.at_ i)).cell O
  refine Lw.r O (R.ld O O c13) (mi O ?_)
  obtain⟨aq,L,M,N,gb15⟩:=Ow.lend (α:=Commit) (β:=List Int) (j:=3) (jf:=0) b i c13 O
  rw[<- L]
  refine cr Y (fun _=>p150 (K:=[0]) (c0:=3) N O) ?_
  rintro ar _ au Y A ⟨rfl,P⟩
  obtain⟨av,Q,S,U,eq22,B⟩:=gb15 _ _ A P
  obtain⟨V,eqm22,Y⟩:=ob Y
  obtain rfl:V=U:=Option.some.inj (eqm22.symm.trans eq22)
  rw[<- Q]
  refine Ni O (sr (mv a O (mi O (mi O (ca Y (fun _=>p110) fun aw ax Y k=>?_)))))
  obtain⟨ay,C,Y⟩:=ob Y
  refine Lw.r O (R.ix (α:=Commit) (B.up k).rd C O O O) (Lw.fa O ?_)
  obtain⟨az,W,Y⟩:=ob Y
  refine Lw.u (T.stH (α:=Commit) (β:=Str) (J:=[]) (Ow.hole (α:=Commit) (β:=Str) (jf:=1) (B.up k) C) (OwS.atm (K:=[]) (rdS _)) W O O O O) ?_
  rintro _ _ ⟨a0,rfl,X,x⟩
  refine nl (sr (mi O (Lw.add O (Ni O (rg (mv a O (mi O ?_)))))))
  obtain⟨a1,y,Y⟩:=ob Y
  refine Lw.r O (R.ix (α:=Commit) x.rd y O O O) (Lw.fa O ?_)
  obtain⟨a2,c38,r39⟩:=(Commit.at2 (x.rd.at_ y)).cell O
  refine Lw.r O (R.ld O O c38) (mi O ?_)
  obtain⟨a3,Z,aa,ac,gb40⟩:=Ow.lend (α:=Commit) (β:=List File) (j:=4) (jf:=2) x y c38 O
  rw[<- Z]
  refine cr Y (fun _=>p151 (K:=[0]) (c0:=4) ac O) ?_
  rintro ae _ a4 Y D ⟨rfl,af⟩
  obtain⟨ah,ai,aj,ak,eq47,am⟩:=gb40 _ _ D af
  obtain⟨E,eqm47,Y⟩:=ob Y
  obtain rfl:E=ak:=Option.some.inj (eqm47.symm.trans eq47)
  rw[<- ai]
  exact Ni O (rg (mi O (Lw.add O (Ni O ((agm) ⟨ae.1,w64 (d+1),E,ah,O,((((((((z.j M).j A).j S).j k).j X).j aa).j D).j aj).w,O,am,Y⟩)))))
 ·refine Cw.exit ?_
  rw[H]at Y
  refine sr (mi O (Ni O ?_))
  cases Y
  exact Cw.ret (zkN O (Res.mk I ⟨O,b⟩))
theorem p80 {x0 a x1 c0 r}(b:Ow W c0 [] [a] x0)(hJ:okJ K [c0]=true)(Y:Vm.zid x0 x1=some r):Q1 80 [a,vI x1] W [c0] fun W' v=>v=vI r.1/\Ow W' c0 [] [a] r.2:=
 zaz.adJ (J:=[c0]) (fun c=>bif Nat.beq c 0 then 0 else bif Nat.beq c 2 then c0 else 0) (c80 (b.viewJ 0 hJ) Y) fun _ _ ⟨e,d⟩=>⟨e,Ow.backJ 0 d O⟩
theorem c81 {x0 a x1 r}(A:Ow W0 2 [] [a] x0)(Y:Vm.zjy x0 x1=some r):Q0 81 [a,vI x1] W0 fun Wf v=>v=vI r.1/\Ow Wf 2 [] [a] r.2:=by
 unfold Vm.zjy at Y
 refine zaz.of Tryz.func81 O O O O (sr (Ni O (ssr (Ni O (Cw.block ?_)))))
 obtain⟨B,C,Y⟩:=zbM Y
 refine Cw.loop 6 26 [1,5] (fun m l w=> ∃ b d e f,CW.w f=w/\Le [2] W0 f/\l=[vI b,vI d]/\Ow f 2 [] [a] e/\Vm.zgA B m b d e=some r) _ ⟨x1,0,x0,W0,O,Le.refl _ _,O,A,Y⟩ ?_
 rintro(_ |N) _ _ σ ⟨b,d,e,f,rfl,k,rfl,h,Y⟩
 ·cases Y
 unfold Vm.zgA at Y
 have D:=k.s
 refine ssr (mi O (mv a O (Lw.ln e h.rd O (Lw.lt O (nl (cn Y (fun Y=>?_) fun Y=>?_))))))
 ·refine sk (Cw.seq (Cw.block (sr (mv a O (mi O (mi O (ca Y (fun _=>p110) fun P Q Y i=>?_)))))))
  obtain⟨S,x,Y⟩:=ob Y
  refine Lw.r O (R.ix (α:=Head) (h.up i).rd x O O O) (Lw.fa O ?_)
  obtain⟨U,E,Y⟩:=ob Y
  refine Lw.u (T.stH (α:=Head) (β:=Str) (J:=[]) (Ow.hole (α:=Head) (β:=Str) (jf:=0) (h.up i) x) (OwS.atm (K:=[]) (rdS _)) E O O O O) ?_
  rintro _ _ ⟨V,rfl,F,y⟩
  refine nl (sr (mi O (Lw.add O (Ni O (sr (mv a O (mi O (mi O ?_))))))))
  obtain⟨W,z,Y⟩:=ob Y
  refine Lw.r O (R.ix (α:=Head) y.rd z O O O) (Lw.fa O ?_)
  obtain⟨G,H,Y⟩:=ob Y
  refine Lw.u (T.stH (α:=Head) (β:=Int) (J:=[]) (Ow.hole (α:=Head) (β:=Int) (jf:=1) y z) (OwS.atm (K:=[]) (rdI _)) H O O O O) ?_
  rintro _ _ ⟨I,rfl,L,M⟩
  exact nl (rg (mi O (Lw.add O (Ni O (rg (mi O (Lw.add O (Ni O ((agm) ⟨w64 ((w64 (b+1))+1),w64 (d+1),G,I,O,(((k.j i).j F).j L).w,O,M,Y⟩)))))))))
 ·refine Cw.exit ?_
  rw[C]at Y
  refine sr (mi O (Ni O ?_))
  cases Y
  exact Cw.ret (zkN O (Res.mk D ⟨O,h⟩))
theorem p81 {x0 a x1 c0 r}(b:Ow W c0 [] [a] x0)(hJ:okJ K [c0]=true)(Y:Vm.zjy x0 x1=some r):Q1 81 [a,vI x1] W [c0] fun W' v=>v=vI r.1/\Ow W' c0 [] [a] r.2:=
 zaz.adJ (J:=[c0]) (fun c=>bif Nat.beq c 0 then 0 else bif Nat.beq c 2 then c0 else 0) (c81 (b.viewJ 0 hJ) Y) fun _ _ ⟨e,d⟩=>⟨e,Ow.backJ 0 d O⟩
theorem c20 {x0 a b x1 r}(i:Ow W0 2 [] [a] x0.Commits)(k:Ow W0 3 [] [b] x0.Heads)(Y:Vm.zeG x0 x1=some r):Q0 20 [.agg [a,b].toArray,vI x1] W0 fun Wf v=>v=vI r.1/\Ow Wf 2 [] [a] r.2.Commits/\Ow Wf 3 [] [b] r.2.Heads:=by
 unfold Vm.zeG at Y
 refine zaz.of Tryz.func20 O O O O (sr (bo 4 O fun C D d f=>?_))
 have x:=d.o
 refine Ni O (sr (fl f O (mi O (cr Y (fun _=>p80 (K:=[0]) (c0:=2) (i.up d) O) ?_))))
 rintro E _ F Y e ⟨rfl,y⟩
 have z:=x.t e
 refine Ni O (sr (fl (f.up e) O (mi O (cr Y (fun _=>p81 (K:=[0]) (c0:=3) ((k.up d).up e) O) ?_))))
 rintro G _ H Y h ⟨rfl,A⟩
 have B:=z.t h
 refine Ni O (sr (mi O (Ni O ?_)))
 cases Y
 exact Cw.ret (zkN O (Res.mk B ⟨O,(y.up h),A⟩))
theorem p20 {x0 a b x1 c0 c1 r}(d:Ow W c0 [] [a] x0.Commits)(f:Ow W c1 [] [b] x0.Heads)(hJ:okJ K [c0,c1]=true)(Y:Vm.zeG x0 x1=some r):Q1 20 [.agg [a,b].toArray,vI x1] W [c0,c1] fun W' v=>v=vI r.1/\Ow W' c0 [] [a] r.2.Commits/\Ow W' c1 [] [b] r.2.Heads:=
 zaz.adJ (J:=[c0,c1]) (fun c=>bif Nat.beq c 0 then 0 else bif Nat.beq c 2 then c0 else bif Nat.beq c 3 then c1 else 0) (c20 (d.viewJ 0 hJ) (f.viewJ 1 hJ) Y) fun _ _ ⟨e,h,i⟩=>⟨e,Ow.backJ 0 h O,Ow.backJ 1 i O⟩
theorem c40 {x0 a x1 r}(b:Rd W0 [0] [a] x0)(Y:Vm.zeX x0 x1=some r):Q0 40 [a,vI x1] W0 fun Wf v=>v=vI r:=by
 unfold Vm.zeX at Y
 refine zaz.of Tryz.func40 O O O O (sr (Ni O (ssr (Ni O (Cw.block ?_)))))
 obtain⟨A,B,Y⟩:=zbM Y
 refine Cw.loop 6 20 [1,4,5] (fun m l w=> ∃ d e f i,CW.w i=w/\Le [] W0 i/\l=[vI d,vI e,vI f]/\Vm.zdG x0 A m d e f=some r) _ ⟨x1,0,0,W0,O,Le.refl _ _,O,Y⟩ ?_
 rintro(_ |F) _ _ σ ⟨d,e,f,i,rfl,z,rfl,Y⟩
 ·cases Y
 unfold Vm.zdG at Y
 have k:=z.o
 refine ssr (mi O (mv a O (Lw.ln x0 (b.ul k) O (Lw.lt O (nl (cn Y (fun Y=>?_) fun Y=>?_))))))
 ·refine sk (Cw.seq (Cw.block (Cw.seq (Cw.seq (Cw.draw [] [(0,0),(1,0),(2,0),(3,1),(4,0),(5,2),(6,0)] mixed (by kernel_rfl) fun G l10=>?_)))))
  have h:=k.n l10
  refine Dv a O (Di O ?_)
  obtain⟨H,x,Y⟩:=ob Y
  refine Mw.p O O (fun _=>R.ix (α:=Str) (b.ul h) x O O O) (Mw.q O O (fun _ c=>R.ld O O (zaB ((b.ul h).at_ x).1 O ((b.ul h).at_ x).str c)) (Di O ?_))
  obtain⟨I,C,Y⟩:=ob Y
  refine Mw.t O O (T.call O (p110 C)) ?_
  rintro _ _ ⟨D,rfl,y,rfl⟩
  have E:=h.n y
  refine m0 y fun J=>Mw.p O O (fun _=>R.sne O O) (Mw.nil (cn Y (fun Y=>?_) fun Y=>?_))
  ·exact sr (Ni O (.ret (rt Y E)))
  ·exact sk (rg (mi O (Lw.add O (Ni O (rg (mi O (Lw.add O (Ni O ((agm) ⟨w64 (d+1),e,w64 (f+1),D,O,((z.j l10).j y).w,O,Y⟩)))))))))
 ·refine Cw.exit ?_
  rw[B]at Y
  exact sr (mi O (Ni O (.ret (rt Y k))))
theorem p40 {x0 a x1 r}(b:Rd W K [a] x0)(Y:Vm.zeX x0 x1=some r):Q1 40 [a,vI x1] W [] fun W' v=>v=vI r:=
 (c40 (b.view _) Y).ad (fk 0) fun _ _ e=>e
end Go.Sx
