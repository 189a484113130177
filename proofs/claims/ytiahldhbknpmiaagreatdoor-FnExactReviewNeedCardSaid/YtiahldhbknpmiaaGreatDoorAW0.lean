/- Walks: each function answers as its model, printed by a program of ours. Conditions: the arguments read as they are given. -/
import Derived.Test.YtiahldhbknpmiaaGreatDoorATs
import Derived.Test.YtiahldhbknpmiaaGreatDoorAM0
namespace Go.Sx
open Go Go.Proofs Go.Vm Rp
set_option linter.unusedVariables false
set_option linter.unusedSimpArgs false
variable {W W0:CW}{K:List Nat}
theorem c184 {x0 a x1 r}(b:Rd W0 [0] [a] x0)(Y:Vm.zlT x0 x1=some r):Q0 184 [a,vI x1] W0 fun Wf v=>v=vI r:=by
 unfold Vm.zlT at Y
 refine zaz.of Tryz.func184 O O O O (sr (Ni O (sr (mi O (mv a O (Lw.ln x0 b O (Lw.sub O (Ni O (ssr (mi O (Lw.lt O (nl (cn Y (fun Y=>?_) fun Y=>?_)))))))))))))
 ·exact sr (Ni O (.ret (rt Y (Le.refl _ _))))
 ·exact sk (sr (mi O (Ni O (.ret (rt Y (Le.refl _ _))))))
theorem p184 {x0 a x1 r}(b:Rd W K [a] x0)(Y:Vm.zlT x0 x1=some r):Q1 184 [a,vI x1] W [] fun W' v=>v=vI r:=
 (c184 (b.view _) Y).ad (fk 0) fun _ _ e=>e
theorem c94 {x0 a x1 r}(k:Rd W0 [0] [a] x0)(Y:Vm.zgH x0 x1=some r):Q0 94 [a,vI x1] W0 fun Wf v=>v=vI r:=by
 unfold Vm.zgH at Y
 refine zaz.of Tryz.func94 O O O O (sr (Ni O (sr (mi O (mv a O (Lw.ln x0 k O (Lw.sub O (Ni O (ssr (mi O (Lw.lt O (nl (cn Y (fun Y=>?_) fun Y=>?_)))))))))))))
 ·exact sr (Ni O (.ret (rt Y (Le.refl _ _))))
 ·refine sk (ssr (Ni O (Cw.block ?_)))
  obtain⟨z,A,Y⟩:=zbM Y
  refine Cw.loop 12 26 [1,4,5] (fun m l w=> ∃ b d e f,CW.w f=w/\Le [] W0 f/\l=[vI b,vI d,vI e]/\Vm.zeh x0 z m b d e=some r) _ ⟨w64 (x1-(x0.length:Int)),0,0,W0,O,Le.refl _ _,O,Y⟩ ?_
  rintro(_ |C) _ _ σ ⟨b,d,e,f,rfl,x,rfl,Y⟩
  ·cases Y
  unfold Vm.zeh at Y
  have h:=x.o
  refine ssr ?_
  have i:=k.ul h
  refine mi O (mv a O (Lw.ln x0 i O (Lw.lt O (nl (cn Y (fun Y=>?_) fun Y=>?_)))))
  ·refine sk (Cw.seq (Cw.block (sr (mi O (mv a O (mi O ?_))))))
   obtain⟨B,y,Y⟩:=ob Y
   refine Lw.r O (R.ix (α:=Str) i y O O O) (Lw.r O (R.ld O O (i.at_ y).str) (Lw.r O (R.lenS O) (Lw.sub O (Ni O (sr (mi O (Lw.lt O (nl (cn Y (fun Y=>?_) fun Y=>?_)))))))))
   ·exact sr (Ni O (.ret (rt Y h)))
   ·exact sk (rg (mi O (Lw.add O (Ni O ((agm) ⟨w64 (b-(B.length:Int)),d,w64 (e+1),f,O,x,O,Y⟩)))))
  ·refine Cw.exit ?_
   rw[A]at Y
   exact sr (mi O (Ni O (.ret (rt Y h))))
theorem p94 {x0 a x1 r}(b:Rd W K [a] x0)(Y:Vm.zgH x0 x1=some r):Q1 94 [a,vI x1] W [] fun W' v=>v=vI r:=
 (c94 (b.view _) Y).ad (fk 0) fun _ _ e=>e
theorem c209 {x0 b x1 r}(h:Rd W0 [0] [vS x0.Path,b] x0)(Y:Vm.zlU x0 x1=some r):Q0 209 [.agg [vS x0.Path,b].toArray,vI x1] W0 fun Wf v=>v=vI r:=by
 unfold Vm.zlU at Y
 obtain⟨y,d,i⟩:=File.split h
 simp only[List.cons.injEq,and_true,true_and]at d
 obtain rfl:=d
 refine zaz.of Tryz.func209 O O O O (sr (bo 2 O fun z A k e=>?_))
 have a:=k.o
 refine Ni O (sr (mi O (fl e O (Lw.r O (R.lenS O) (Lw.sub O (Ni O (ssr (mi O (Lw.lt O (nl (cn Y (fun Y=>?_) fun Y=>?_)))))))))))
 ·exact sr (Ni O (.ret (rt Y a)))
 ·refine sk (sr (fl e O (mi O (ca Y (fun _=>p94 (i.ul a)) fun B C Y x=>?_))))
  have f:=a.n x
  refine Ni O (ssr (mi O (Lw.lt O (nl (cn Y (fun Y=>?_) fun Y=>?_)))))
  ·exact sr (Ni O (.ret (rt Y f)))
  ·exact sk (sr (mi O (Ni O (.ret (rt Y f)))))
theorem p209 {x0 a x1 r}(b:Rd W K [vS x0.Path,a] x0)(Y:Vm.zlU x0 x1=some r):Q1 209 [.agg [vS x0.Path,a].toArray,vI x1] W [] fun W' v=>v=vI r:=
 (c209 (b.view _) Y).ad (fk 0) fun _ _ e=>e
theorem c185 {x0 a x1 r}(k:Rd W0 [0] [a] x0)(Y:Vm.zk4 x0 x1=some r):Q0 185 [a,vI x1] W0 fun Wf v=>v=vI r:=by
 unfold Vm.zk4 at Y
 refine zaz.of Tryz.func185 O O O O (sr (Ni O (sr (mi O (mv a O (Lw.ln x0 k O (Lw.sub O (Ni O (ssr (mi O (Lw.lt O (nl (cn Y (fun Y=>?_) fun Y=>?_)))))))))))))
 ·exact sr (Ni O (.ret (rt Y (Le.refl _ _))))
 ·refine sk (ssr (Ni O (Cw.block ?_)))
  obtain⟨B,C,Y⟩:=zbM Y
  refine Cw.loop 12 25 [1,4,5] (fun m l w=> ∃ e b d f,CW.w f=w/\Le [] W0 f/\l=[vI e,vI b,vI d]/\Vm.zhV x0 B m e b d=some r) _ ⟨w64 (x1-(x0.length:Int)),0,0,W0,O,Le.refl _ _,O,Y⟩ ?_
  rintro(_ |G) _ _ σ ⟨e,b,d,f,rfl,x,rfl,Y⟩
  ·cases Y
  unfold Vm.zhV at Y
  have h:=x.o
  refine ssr ?_
  have i:=k.ul h
  refine mi O (mv a O (Lw.ln x0 i O (Lw.lt O (nl (cn Y (fun Y=>?_) fun Y=>?_)))))
  ·refine sk (Cw.seq (Cw.block (sr (mv a O (mi O ?_)))))
   obtain⟨y,z,Y⟩:=ob Y
   refine Lw.r O (R.ix (α:=File) i z O O O) ?_
   obtain⟨x13,c14,_,r15⟩:=(i.at_ z).cells
   obtain⟨H,rfl,r17⟩:=File.split r15
   refine Lw.r O (R.lda c14 O O) (mi O (ca Y (fun _=>p209 (File.rd (K:=[0]) y.Path y.Text r17)) fun D E Y A=>?_))
   have F:=h.n A
   refine Ni O (sr (mi O (Lw.lt O (nl (cn Y (fun Y=>?_) fun Y=>?_)))))
   ·exact sr (Ni O (.ret (rt Y F)))
   ·exact sk (rg (mi O (Lw.add O (Ni O ((agm) ⟨D,b,w64 (d+1),E,O,(x.j A).w,O,Y⟩)))))
  ·refine Cw.exit ?_
   rw[C]at Y
   exact sr (mi O (Ni O (.ret (rt Y h))))
theorem p185 {x0 a x1 r}(b:Rd W K [a] x0)(Y:Vm.zk4 x0 x1=some r):Q1 185 [a,vI x1] W [] fun W' v=>v=vI r:=
 (c185 (b.view _) Y).ad (fk 0) fun _ _ e=>e
theorem c139 {x0 e f x1 r}(x:Rd W0 [0] [e,vS x0.Who,f] x0)(Y:Vm.zkw x0 x1=some r):Q0 139 [.agg [e,vS x0.Who,f].toArray,vI x1] W0 fun Wf v=>v=vI r:=by
 unfold Vm.zkw at Y
 obtain⟨C,D,h,y,z⟩:=Commit.split x
 simp only[List.cons.injEq,and_true,true_and]at h
 obtain⟨rfl,rfl⟩:=h
 refine zaz.of Tryz.func139 O O O O (sr (bo 2 O fun E F A b=>?_))
 have i:=A.o
 refine Ni O (sr (fl b O (mi O (ca Y (fun _=>p184 (y.ul i)) fun G H Y d=>?_))))
 have a:=i.n d
 refine Ni O (ssr (mi O (Lw.lt O (nl (cn Y (fun Y=>?_) fun Y=>?_)))))
 ·exact sr (Ni O (.ret (rt Y a)))
 ·refine sk (sr (mi O (fl (b.up d) O (Lw.r O (R.lenS O) (Lw.sub O (Ni O (ssr (mi O (Lw.lt O (nl (cn Y (fun Y=>?_) fun Y=>?_)))))))))))
  ·exact sr (Ni O (.ret (rt Y a)))
  ·refine sk (sr (fl (b.up d) O (mi O (ca Y (fun _=>p185 (z.ul a)) fun I J Y B=>?_))))
   have k:=a.n B
   refine Ni O (ssr (mi O (Lw.lt O (nl (cn Y (fun Y=>?_) fun Y=>?_)))))
   ·exact sr (Ni O (.ret (rt Y k)))
   ·exact sk (sr (mi O (Ni O (.ret (rt Y k)))))
theorem p139 {x0 a b x1 r}(d:Rd W K [a,vS x0.Who,b] x0)(Y:Vm.zkw x0 x1=some r):Q1 139 [.agg [a,vS x0.Who,b].toArray,vI x1] W [] fun W' v=>v=vI r:=
 (c139 (d.view _) Y).ad (fk 0) fun _ _ e=>e
theorem c66 {x0 a x1 r}(x:Rd W0 [0] [a] x0)(Y:Vm.zju x0 x1=some r):Q0 66 [a,vI x1] W0 fun Wf v=>v=vI r:=by
 unfold Vm.zju at Y
 refine zaz.of Tryz.func66 O O O O (sr (Ni O (sr (mi O (mv a O (Lw.ln x0 x O (Lw.sub O (Ni O (ssr (mi O (Lw.lt O (nl (cn Y (fun Y=>?_) fun Y=>?_)))))))))))))
 ·exact sr (Ni O (.ret (rt Y (Le.refl _ _))))
 ·refine sk (ssr (Ni O (Cw.block ?_)))
  obtain⟨B,C,Y⟩:=zbM Y
  refine Cw.loop 12 25 [1,4,5] (fun m l w=> ∃ e b d f,CW.w f=w/\Le [] W0 f/\l=[vI e,vI b,vI d]/\Vm.zgw x0 B m e b d=some r) _ ⟨w64 (x1-(x0.length:Int)),0,0,W0,O,Le.refl _ _,O,Y⟩ ?_
  rintro(_ |G) _ _ σ ⟨e,b,d,f,rfl,y,rfl,Y⟩
  ·cases Y
  unfold Vm.zgw at Y
  have h:=y.o
  refine ssr ?_
  have i:=x.ul h
  refine mi O (mv a O (Lw.ln x0 i O (Lw.lt O (nl (cn Y (fun Y=>?_) fun Y=>?_)))))
  ·refine sk (Cw.seq (Cw.block (sr (mv a O (mi O ?_)))))
   obtain⟨k,z,Y⟩:=ob Y
   refine Lw.r O (R.ix (α:=Commit) i z O O O) ?_
   obtain⟨x13,c14,_,r15⟩:=(i.at_ z).cells
   obtain⟨H,I,rfl,r17,r19⟩:=Commit.split r15
   refine Lw.r O (R.lda c14 O O) (mi O (ca Y (fun _=>p139 (Commit.rd (K:=[0]) k.Parents k.Who k.Tree r17 r19)) fun D E Y A=>?_))
   have F:=h.n A
   refine Ni O (sr (mi O (Lw.lt O (nl (cn Y (fun Y=>?_) fun Y=>?_)))))
   ·exact sr (Ni O (.ret (rt Y F)))
   ·exact sk (rg (mi O (Lw.add O (Ni O ((agm) ⟨D,b,w64 (d+1),E,O,(y.j A).w,O,Y⟩)))))
  ·refine Cw.exit ?_
   rw[C]at Y
   exact sr (mi O (Ni O (.ret (rt Y h))))
theorem p66 {x0 a x1 r}(b:Rd W K [a] x0)(Y:Vm.zju x0 x1=some r):Q1 66 [a,vI x1] W [] fun W' v=>v=vI r:=
 (c66 (b.view _) Y).ad (fk 0) fun _ _ e=>e
theorem c140 {x0 x1 r}(e:Rd W0 [0] [vS x0.Name,vI x0.At] x0)(Y:Vm.zlV x0 x1=some r):Q0 140 [.agg [vS x0.Name,vI x0.At].toArray,vI x1] W0 fun Wf v=>v=vI r:=by
 unfold Vm.zlV at Y
 refine zaz.of Tryz.func140 O O O O (sr (bo 2 O fun f h b d=>?_))
 have a:=b.o
 refine Ni O (sr (mi O (fl d O (Lw.r O (R.lenS O) (Lw.sub O (Ni O (ssr (mi O (Lw.lt O (nl (cn Y (fun Y=>?_) fun Y=>?_)))))))))))
 ·exact sr (Ni O (.ret (rt Y a)))
 ·exact sk (sr (mi O (Ni O (.ret (rt Y a)))))
theorem p140 {x0 x1 r}(a:Rd W K [vS x0.Name,vI x0.At] x0)(Y:Vm.zlV x0 x1=some r):Q1 140 [.agg [vS x0.Name,vI x0.At].toArray,vI x1] W [] fun W' v=>v=vI r:=
 (c140 (a.view _) Y).ad (fk 0) fun _ _ e=>e
theorem c67 {x0 a x1 r}(k:Rd W0 [0] [a] x0)(Y:Vm.zk5 x0 x1=some r):Q0 67 [a,vI x1] W0 fun Wf v=>v=vI r:=by
 unfold Vm.zk5 at Y
 refine zaz.of Tryz.func67 O O O O (sr (Ni O (sr (mi O (mv a O (Lw.ln x0 k O (Lw.sub O (Ni O (ssr (mi O (Lw.lt O (nl (cn Y (fun Y=>?_) fun Y=>?_)))))))))))))
 ·exact sr (Ni O (.ret (rt Y (Le.refl _ _))))
 ·refine sk (ssr (Ni O (Cw.block ?_)))
  obtain⟨B,C,Y⟩:=zbM Y
  refine Cw.loop 12 25 [1,4,5] (fun m l w=> ∃ e b d f,CW.w f=w/\Le [] W0 f/\l=[vI e,vI b,vI d]/\Vm.zhW x0 B m e b d=some r) _ ⟨w64 (x1-(x0.length:Int)),0,0,W0,O,Le.refl _ _,O,Y⟩ ?_
  rintro(_ |G) _ _ σ ⟨e,b,d,f,rfl,x,rfl,Y⟩
  ·cases Y
  unfold Vm.zhW at Y
  have h:=x.o
  refine ssr ?_
  have i:=k.ul h
  refine mi O (mv a O (Lw.ln x0 i O (Lw.lt O (nl (cn Y (fun Y=>?_) fun Y=>?_)))))
  ·refine sk (Cw.seq (Cw.block (sr (mv a O (mi O ?_)))))
   obtain⟨y,z,Y⟩:=ob Y
   refine Lw.r O (R.ix (α:=Head) i z O O O) ?_
   obtain⟨x13,c14,_,r15⟩:=(i.at_ z).cells
   obtain rfl:=Head.split r15
   refine Lw.r O (R.lda c14 O O) (mi O (ca Y (fun _=>p140 (Head.rd (K:=[0]) y.Name y.At)) fun D E Y A=>?_))
   have F:=h.n A
   refine Ni O (sr (mi O (Lw.lt O (nl (cn Y (fun Y=>?_) fun Y=>?_)))))
   ·exact sr (Ni O (.ret (rt Y F)))
   ·exact sk (rg (mi O (Lw.add O (Ni O ((agm) ⟨D,b,w64 (d+1),E,O,(x.j A).w,O,Y⟩)))))
  ·refine Cw.exit ?_
   rw[C]at Y
   exact sr (mi O (Ni O (.ret (rt Y h))))
theorem p67 {x0 a x1 r}(b:Rd W K [a] x0)(Y:Vm.zk5 x0 x1=some r):Q1 67 [a,vI x1] W [] fun W' v=>v=vI r:=
 (c67 (b.view _) Y).ad (fk 0) fun _ _ e=>e
theorem c15 {x0 b d x1 r}(x:Rd W0 [0] [b,d] x0)(Y:Vm.ziJ x0 x1=some r):Q0 15 [.agg [b,d].toArray,vI x1] W0 fun Wf v=>v=vI r:=by
 unfold Vm.ziJ at Y
 obtain⟨C,D,e,y,z⟩:=Repo.split x
 simp only[List.cons.injEq,and_true,true_and]at e
 obtain⟨rfl,rfl⟩:=e
 refine zaz.of Tryz.func15 O O O O (sr (bo 2 O fun E F A f=>?_))
 have h:=A.o
 refine Ni O (sr (fl f O (mi O (ca Y (fun _=>p66 (y.ul h)) fun G H Y i=>?_))))
 have a:=h.n i
 refine Ni O (ssr (mi O (Lw.lt O (nl (cn Y (fun Y=>?_) fun Y=>?_)))))
 ·exact sr (Ni O (.ret (rt Y a)))
 ·refine sk (sr (fl (f.up i) O (mi O (ca Y (fun _=>p67 (z.ul a)) fun I J Y B=>?_))))
  have k:=a.n B
  refine Ni O (ssr (mi O (Lw.lt O (nl (cn Y (fun Y=>?_) fun Y=>?_)))))
  ·exact sr (Ni O (.ret (rt Y k)))
  ·exact sk (sr (mi O (Ni O (.ret (rt Y k)))))
theorem p15 {x0 a b x1 r}(d:Rd W K [a,b] x0)(Y:Vm.ziJ x0 x1=some r):Q1 15 [.agg [a,b].toArray,vI x1] W [] fun W' v=>v=vI r:=
 (c15 (d.view _) Y).ad (fk 0) fun _ _ e=>e
theorem c188 {x0 b r}(d:Rd W0 [0] [b] x0)(Y:Vm.zlW x0=some r):Q0 188 [b] W0 fun Wf v=> ∃ x,v=x/\OwS Wf LL [] [x] r:=by
 unfold Vm.zlW at Y
 refine zaz.of Tryz.func188 O O O O (sr (Nv (.slice none 0 0) O (sr (mv b O (Lw.ln x0 d O ?_)))))
 obtain⟨B,C,Y⟩:=ob Y
 refine Lw.t O (T.mk (α:=Int) 2 [] (n:=(x0.length:Int)) O O C) ?_
 rintro a _ ⟨y,rfl,D,E⟩
 have F:=D.o
 refine Nv a O (ssr (Ni O (Cw.block ?_)))
 obtain⟨G,H,Y⟩:=zbM Y
 refine Cw.loop 8 20 [4] (fun m l w=> ∃ e i f,CW.w f=w/\Le [2] y f/\l=[vI e]/\Ow f 2 [] [a] i/\Vm.ziK x0 G m e i=some r) _ ⟨0,B,y,O,Le.refl _ _,O,E,Y⟩ ?_
 rintro(_ |P) _ _ σ ⟨e,i,f,rfl,z,rfl,k,Y⟩
 ·cases Y
 unfold Vm.ziK at Y
 have h:=F.t z
 refine ssr (mi O (mv b O (Lw.ln x0 (d.ul h) O (Lw.lt O (nl (cn Y (fun Y=>?_) fun Y=>?_))))))
 ·refine sk (Cw.seq (Cw.block (rg (mv a O (mi O (mv b O (mi O ?_)))))))
  obtain⟨Q,A,Y⟩:=ob Y
  refine Lw.r O (R.ix (α:=Int) (d.ul h) A O O O) (Lw.r O (R.ld O O ((d.ul h).at_ A).int) ?_)
  obtain⟨S,I,Y⟩:=ob Y
  refine Lw.r O (R.ix (α:=Int) k.rd I O O O) ?_
  obtain⟨J,K,Y⟩:=ob Y
  refine Lw.u (T.stS (K':=[]) k (rdI _) K O O O) ?_
  rintro _ _ ⟨L,rfl,M,N⟩
  exact nl (rg (mi O (Lw.add O (Ni O ((agm) ⟨w64 (e+1),J,L,O,(z.j M).w,O,N,Y⟩)))))
 ·refine Cw.exit ?_
  rw[H]at Y
  refine sr (mv a O (Nv a O ?_))
  cases Y
  exact Cw.ret (zkN O (Res.mk h ⟨a,O,k.s.sub O O⟩))
theorem p188 {x0 b k0 r}(d:Rd W K [b] x0)(Y:Vm.zlW x0=some r):Q1 188 [b] W [] fun W' v=> ∃ a,v=a/\Ow W' k0 [] [a] r:=
 (c188 (d.view _) Y).ad (fk k0) fun _ _ ⟨a,e,f⟩=>⟨a,e,f.back (ziQ _)⟩
theorem c99 {x0 b r}(d:Rd W0 [0] [b] x0)(Y:Vm.zgI x0=some r):Q0 99 [b] W0 fun Wf v=> ∃ x,v=x/\OwS Wf LL [] [x] r:=by
 unfold Vm.zgI at Y
 refine zaz.of Tryz.func99 O O O O (sr (Nv (.slice none 0 0) O (sr (mv b O (Lw.ln x0 d O ?_)))))
 obtain⟨B,C,Y⟩:=ob Y
 refine Lw.t O (T.mk (α:=Str) 2 [] (n:=(x0.length:Int)) O O C) ?_
 rintro a _ ⟨y,rfl,D,E⟩
 have F:=D.o
 refine Nv a O (ssr (Ni O (Cw.block ?_)))
 obtain⟨G,H,Y⟩:=zbM Y
 refine Cw.loop 8 20 [4] (fun m l w=> ∃ e i f,CW.w f=w/\Le [2] y f/\l=[vI e]/\Ow f 2 [] [a] i/\Vm.zei x0 G m e i=some r) _ ⟨0,B,y,O,Le.refl _ _,O,E,Y⟩ ?_
 rintro(_ |P) _ _ σ ⟨e,i,f,rfl,z,rfl,k,Y⟩
 ·cases Y
 unfold Vm.zei at Y
 have h:=F.t z
 refine ssr (mi O (mv b O (Lw.ln x0 (d.ul h) O (Lw.lt O (nl (cn Y (fun Y=>?_) fun Y=>?_))))))
 ·refine sk (Cw.seq (Cw.block (rg (mv a O (mi O (mv b O (mi O ?_)))))))
  obtain⟨Q,A,Y⟩:=ob Y
  refine Lw.r O (R.ix (α:=Str) (d.ul h) A O O O) (Lw.r O (R.ld O O ((d.ul h).at_ A).str) ?_)
  obtain⟨S,I,Y⟩:=ob Y
  refine Lw.r O (R.ix (α:=Str) k.rd I O O O) ?_
  obtain⟨J,K,Y⟩:=ob Y
  refine Lw.u (T.stS (K':=[]) k (rdS _) K O O O) ?_
  rintro _ _ ⟨L,rfl,M,N⟩
  exact nl (rg (mi O (Lw.add O (Ni O ((agm) ⟨w64 (e+1),J,L,O,(z.j M).w,O,N,Y⟩)))))
 ·refine Cw.exit ?_
  rw[H]at Y
  refine sr (mv a O (Nv a O ?_))
  cases Y
  exact Cw.ret (zkN O (Res.mk h ⟨a,O,k.s.sub O O⟩))
theorem p99 {x0 b k0 r}(d:Rd W K [b] x0)(Y:Vm.zgI x0=some r):Q1 99 [b] W [] fun W' v=> ∃ a,v=a/\Ow W' k0 [] [a] r:=
 (c99 (d.view _) Y).ad (fk k0) fun _ _ ⟨a,e,f⟩=>⟨a,e,f.back (ziQ _)⟩
theorem c211 {x0 f r}(B:Rd W0 [0] [vS x0.Path,f] x0)(Y:Vm.zlX x0=some r):Q0 211 [.agg [vS x0.Path,f].toArray] W0 fun Wf v=> ∃ h,v = .agg [vS r.Path,h].toArray/\OwS Wf LL [] [h] r.Text:=by
 unfold Vm.zlX at Y
 obtain⟨R,i,C⟩:=File.split B
 simp only[List.cons.injEq,and_true,true_and]at i
 obtain rfl:=i
 refine zaz.of Tryz.func211 O O O O (sr (bo 2 O fun S U D E=>?_))
 have F:=D.o
 refine al 3 [vS ([]:Str), .slice none 0 0] fun V W k G=>?_
 have H:=F.n k
 refine nl (sr (al 4 [vS ([]:Str), .slice none 0 0] fun X Z b I=>?_))
 have J:=H.n b
 have x:=(E.up k).up b
 refine nl (sr (fl x O (Lw.fa O (Lw.u (T.st (j:=0) (v:=vS x0.Path) I O O O O O) ?_))))
 rintro _ _ ⟨aa,rfl,l10,K⟩
 have y:=J.t l10
 refine nl (sr (fl (x.up l10) O (cr Y (fun _=>p99 (k0:=5) (C.ul y)) ?_)))
 rintro ac z ae Y d ⟨_,rfl,e⟩
 have L:=y.n d
 refine Lw.fa O (Lw.u (T.st (j:=1) (v:=z) (K.up d) O O e.oc O O) ?_)
 rintro _ _ ⟨af,rfl,a,M⟩
 have N:=L.t a
 refine nl (sr (la M (sta ((((G.up b).up l10).up d).up a) (zaa O (zaa (e.up a).oc za0)) fun ah A P=>?_)))
 have Q:=N.t A
 refine nl ?_
 cases Y
 exact Cw.ret (zn1 O P (Res.mk Q ⟨z,O,((e.up a).up A).s.sub O O⟩))
theorem p211 {x0 b k0 r}(d:Rd W K [vS x0.Path,b] x0)(Y:Vm.zlX x0=some r):Q1 211 [.agg [vS x0.Path,b].toArray] W [] fun W' v=> ∃ a,v = .agg [vS r.Path,a].toArray/\Ow W' k0 [] [a] r.Text:=
 (c211 (d.view _) Y).ad (fk k0) fun _ _ ⟨a,e,f⟩=>⟨a,e,f.back (ziQ _)⟩
theorem c189 {x0 b r}(d:Rd W0 [0] [b] x0)(Y:Vm.zk6 x0=some r):Q0 189 [b] W0 fun Wf v=> ∃ y,v=y/\OwS Wf LL [] [y] r:=by
 unfold Vm.zk6 at Y
 refine zaz.of Tryz.func189 O O O O (sr (Nv (.slice none 0 0) O (sr (mv b O (Lw.ln x0 d O ?_)))))
 obtain⟨E,F,Y⟩:=ob Y
 refine Lw.t O (T.mk (α:=File) 2 [] (n:=(x0.length:Int)) O O F) ?_
 rintro a _ ⟨z,rfl,G,H⟩
 have I:=G.o
 refine Nv a O (ssr (Ni O (Cw.block ?_)))
 obtain⟨L,M,Y⟩:=zbM Y
 refine Cw.loop 8 21 [4] (fun m l w=> ∃ e i f,CW.w f=w/\Le [2,3] z f/\l=[vI e]/\Ow f 2 [] [a] i/\Vm.zhX x0 L m e i=some r) _ ⟨0,E,z,O,Le.refl _ _,O,H,Y⟩ ?_
 rintro(_ |X) _ _ σ ⟨e,i,f,rfl,A,rfl,k,Y⟩
 ·cases Y
 unfold Vm.zhX at Y
 have h:=I.t A
 refine ssr (mi O (mv b O (Lw.ln x0 (d.ul h) O (Lw.lt O (nl (cn Y (fun Y=>?_) fun Y=>?_))))))
 ·refine sk (Cw.seq (Cw.block (rg (mv a O (mi O (mv b O (mi O ?_)))))))
  obtain⟨B,C,Y⟩:=ob Y
  refine Lw.r O (R.ix (α:=File) (d.ul h) C O O O) ?_
  obtain⟨x16,c17,_,r18⟩:=((d.ul h).at_ C).cells
  obtain⟨Z,rfl,r20⟩:=File.split r18
  refine Lw.r O (R.lda c17 O O) (cr Y (fun _=>p211 (k0:=3) (File.rd (K:=[0]) B.Path B.Text r20)) ?_)
  rintro D _ aa Y x ⟨ac,rfl,N⟩
  obtain⟨ae,P,Y⟩:=ob Y
  refine Lw.r O (R.ix (α:=File) (k.up x).rd P O O O) ?_
  obtain⟨Q,S,Y⟩:=ob Y
  refine Lw.u (T.stO (J:=[3]) (k.up x) (File.own D.Path D.Text N.s) S O O O) ?_
  rintro _ _ ⟨U,rfl,V,W⟩
  exact nl (rg (mi O (Lw.add O (Ni O ((agm) ⟨w64 (e+1),Q,U,O,((A.j x).j V).w,O,W,Y⟩)))))
 ·refine Cw.exit ?_
  rw[M]at Y
  refine sr (mv a O (Nv a O ?_))
  cases Y
  exact Cw.ret (zkN O (Res.mk h ⟨a,O,k.s.sub O O⟩))
theorem p189 {x0 b k0 r}(d:Rd W K [b] x0)(Y:Vm.zk6 x0=some r):Q1 189 [b] W [] fun W' v=> ∃ a,v=a/\Ow W' k0 [] [a] r:=
 (c189 (d.view _) Y).ad (fk k0) fun _ _ ⟨a,e,f⟩=>⟨a,e,f.back (ziQ _)⟩
theorem c144 {x0 z A r}(N:Rd W0 [0] [z,vS x0.Who,A] x0)(Y:Vm.zkx x0=some r):Q0 144 [.agg [z,vS x0.Who,A].toArray] W0 fun Wf v=> ∃ B C,v = .agg [B,vS r.Who,C].toArray/\OwS Wf [31] [] [B] r.Parents/\OwS Wf [32] [] [C] r.Tree:=by
 unfold Vm.zkx at Y
 obtain⟨au,av,D,P,Q⟩:=Commit.split N
 simp only[List.cons.injEq,and_true,true_and]at D
 obtain⟨rfl,rfl⟩:=D
 refine zaz.of Tryz.func144 O O O O (sr (bo 2 O fun g1 W1 R S=>?_))
 have U:=R.o
 refine al 3 [.slice none 0 0,vS ([]:Str), .slice none 0 0] fun g3 W3 E V=>?_
 have W:=U.n E
 refine nl (sr (al 4 [.slice none 0 0,vS ([]:Str), .slice none 0 0] fun g6 W6 h X=>?_))
 have F:=W.n h
 have G:=(S.up E).up h
 refine nl (sr (fl G O (cr Y (fun _=>p188 (k0:=5) (P.ul F)) ?_)))
 rintro a3 H a5 Y b ⟨_,rfl,I⟩
 have Z:=F.n b
 refine Lw.fa O (Lw.u (T.st (j:=0) (v:=H) (X.up b) O O I.oc O O) ?_)
 rintro _ _ ⟨a6,rfl,d,aa⟩
 have ac:=Z.t d
 have J:=(G.up b).up d
 refine nl (sr (fl J O (Lw.fa O (Lw.u (T.st (j:=1) (v:=vS x0.Who) aa O O O O O) ?_))))
 rintro _ _ ⟨a8,rfl,e,ae⟩
 have K:=ac.t e
 refine nl (sr (fl (J.up e) O (cr Y (fun _=>p189 (k0:=6) (Q.ul K)) ?_)))
 rintro a9 L ba Y f ⟨_,rfl,i⟩
 have af:=K.n f
 refine Lw.fa O (Lw.u (T.st (j:=2) (v:=L) (ae.up f) O O i.oc O O) ?_)
 rintro _ _ ⟨bb,rfl,a,ah⟩
 have ai:=af.t a
 have M:=(((I.up d).up e).up f).up a
 refine nl (sr (la ah (sta ((((((V.up h).up b).up d).up e).up f).up a) (zaa M.oc (zaa O (zaa (i.up a).oc za0))) fun bc k aj=>?_)))
 have ak:=ai.t k
 refine nl ?_
 obtain⟨be,am,x,an⟩:=(M.up k).dyeO 31
 have ao:=ak.t x
 obtain⟨bg,ap,y,aq⟩:=(((i.up a).up k).up x).dyeO 32
 have ar:=ao.t y
 cases Y
 rw[<- ap.trans (am)]
 exact Cw.ret (zn1 O ((aj.up x).up y) (Res.mk ar ⟨H,L,O,(an.up y).s,aq.s⟩))
theorem p144 {x0 d f k0 k1 r}(h:Rd W K [d,vS x0.Who,f] x0)(Y:Vm.zkx x0=some r):Q1 144 [.agg [d,vS x0.Who,f].toArray] W [] fun W' v=> ∃ a b,v = .agg [a,vS r.Who,b].toArray/\Ow W' k0 [] [a] r.Parents/\Ow W' k1 [] [b] r.Tree:=
 zaz.adJ (J:=[]) (fun c=>bif Nat.beq c 0 then 0 else bif Nat.beq c 31 then k0 else bif Nat.beq c 32 then k1 else 0) (c144 (h.view _) Y) fun _ _ ⟨a,b,e,i,k⟩=>⟨a,b,e,i.one1.backN O,k.one1.backN O⟩
theorem c75 {x0 b r}(d:Rd W0 [0] [b] x0)(Y:Vm.zjv x0=some r):Q0 75 [b] W0 fun Wf v=> ∃ A,v=A/\OwS Wf LL [] [A] r:=by
 unfold Vm.zjv at Y
 refine zaz.of Tryz.func75 O O O O (sr (Nv (.slice none 0 0) O (sr (mv b O (Lw.ln x0 d O ?_)))))
 obtain⟨E,F,Y⟩:=ob Y
 refine Lw.t O (T.mk (α:=Commit) 2 [] (n:=(x0.length:Int)) O O F) ?_
 rintro a _ ⟨B,rfl,G,H⟩
 have I:=G.o
 refine Nv a O (ssr (Ni O (Cw.block ?_)))
 obtain⟨L,M,Y⟩:=zbM Y
 refine Cw.loop 8 21 [4] (fun m l w=> ∃ e i f,CW.w f=w/\Le [2,3,4] B f/\l=[vI e]/\Ow f 2 [] [a] i/\Vm.zgx x0 L m e i=some r) _ ⟨0,E,B,O,Le.refl _ _,O,H,Y⟩ ?_
 rintro(_ |Z) _ _ σ ⟨e,i,f,rfl,C,rfl,k,Y⟩
 ·cases Y
 unfold Vm.zgx at Y
 have h:=I.t C
 refine ssr (mi O (mv b O (Lw.ln x0 (d.ul h) O (Lw.lt O (nl (cn Y (fun Y=>?_) fun Y=>?_))))))
 ·refine sk (Cw.seq (Cw.block (rg (mv a O (mi O (mv b O (mi O ?_)))))))
  obtain⟨x,D,Y⟩:=ob Y
  refine Lw.r O (R.ix (α:=Commit) (d.ul h) D O O O) ?_
  obtain⟨x16,c17,_,r18⟩:=((d.ul h).at_ D).cells
  obtain⟨aa,ac,rfl,r20,r22⟩:=Commit.split r18
  refine Lw.r O (R.lda c17 O O) (cr Y (fun _=>p144 (k0:=3) (k1:=4) (Commit.rd (K:=[0]) x.Parents x.Who x.Tree r20 r22)) ?_)
  rintro y _ ae Y z ⟨af,ah,rfl,N,P⟩
  obtain⟨ai,Q,Y⟩:=ob Y
  refine Lw.r O (R.ix (α:=Commit) (k.up z).rd Q O O O) ?_
  obtain⟨S,U,Y⟩:=ob Y
  refine Lw.u (T.stO (J:=[3,4]) (k.up z) (Commit.own y.Parents y.Who y.Tree N.s P.s) U O O O) ?_
  rintro _ _ ⟨V,rfl,W,X⟩
  exact nl (rg (mi O (Lw.add O (Ni O ((agm) ⟨w64 (e+1),S,V,O,((C.j z).j W).w,O,X,Y⟩)))))
 ·refine Cw.exit ?_
  rw[M]at Y
  refine sr (mv a O (Nv a O ?_))
  cases Y
  exact Cw.ret (zkN O (Res.mk h ⟨a,O,k.s.sub O O⟩))
theorem p75 {x0 b k0 r}(d:Rd W K [b] x0)(Y:Vm.zjv x0=some r):Q1 75 [b] W [] fun W' v=> ∃ a,v=a/\Ow W' k0 [] [a] r:=
 (c75 (d.view _) Y).ad (fk k0) fun _ _ ⟨a,e,f⟩=>⟨a,e,f.back (ziQ _)⟩
theorem c145 {x0 r}(H:Rd W0 [0] [vS x0.Name,vI x0.At] x0)(Y:Vm.zlY x0=some r):Q0 145 [.agg [vS x0.Name,vI x0.At].toArray] W0 fun Wf v=>v = .agg [vS r.Name,vI r.At].toArray:=by
 unfold Vm.zlY at Y
 refine zaz.of Tryz.func145 O O O O (sr (bo 2 O fun I J f h=>?_))
 have i:=f.o
 refine al 3 [vS ([]:Str),vI 0] fun K L b k=>?_
 have x:=i.n b
 refine nl (sr (al 4 [vS ([]:Str),vI 0] fun M N a y=>?_))
 have z:=x.n a
 have d:=(h.up b).up a
 refine nl (sr (fl d O (Lw.fa O (Lw.u (T.st (j:=0) (v:=vS x0.Name) y O O O O O) ?_))))
 rintro _ _ ⟨P,rfl,l10,A⟩
 have B:=z.t l10
 refine nl (sr (fl (d.up l10) O (Lw.fa O (Lw.u (T.st (j:=1) (v:=vI x0.At) A O O O O O) ?_))))
 rintro _ _ ⟨Q,rfl,e,C⟩
 have D:=B.t e
 refine nl (sr (la C (sta (((k.up a).up l10).up e) (zaa O (zaa O za0)) fun R E F=>?_)))
 have G:=D.t E
 refine nl ?_
 cases Y
 exact Cw.ret (zn1 O F (Res.mk G O))
theorem p145 {x0 r}(a:Rd W K [vS x0.Name,vI x0.At] x0)(Y:Vm.zlY x0=some r):Q1 145 [.agg [vS x0.Name,vI x0.At].toArray] W [] fun W' v=>v = .agg [vS r.Name,vI r.At].toArray:=
 (c145 (a.view _) Y).ad (fk 0) fun _ _ e=>e
theorem c76 {x0 b r}(d:Rd W0 [0] [b] x0)(Y:Vm.zk7 x0=some r):Q0 76 [b] W0 fun Wf v=> ∃ y,v=y/\OwS Wf LL [] [y] r:=by
 unfold Vm.zk7 at Y
 refine zaz.of Tryz.func76 O O O O (sr (Nv (.slice none 0 0) O (sr (mv b O (Lw.ln x0 d O ?_)))))
 obtain⟨E,F,Y⟩:=ob Y
 refine Lw.t O (T.mk (α:=Head) 2 [] (n:=(x0.length:Int)) O O F) ?_
 rintro a _ ⟨z,rfl,G,H⟩
 have I:=G.o
 refine Nv a O (ssr (Ni O (Cw.block ?_)))
 obtain⟨J,L,Y⟩:=zbM Y
 refine Cw.loop 8 21 [4] (fun m l w=> ∃ e i f,CW.w f=w/\Le [2] z f/\l=[vI e]/\Ow f 2 [] [a] i/\Vm.zhY x0 J m e i=some r) _ ⟨0,E,z,O,Le.refl _ _,O,H,Y⟩ ?_
 rintro(_ |V) _ _ σ ⟨e,i,f,rfl,A,rfl,k,Y⟩
 ·cases Y
 unfold Vm.zhY at Y
 have h:=I.t A
 refine ssr (mi O (mv b O (Lw.ln x0 (d.ul h) O (Lw.lt O (nl (cn Y (fun Y=>?_) fun Y=>?_))))))
 ·refine sk (Cw.seq (Cw.block (rg (mv a O (mi O (mv b O (mi O ?_)))))))
  obtain⟨B,C,Y⟩:=ob Y
  refine Lw.r O (R.ix (α:=Head) (d.ul h) C O O O) ?_
  obtain⟨x16,c17,_,r18⟩:=((d.ul h).at_ C).cells
  obtain rfl:=Head.split r18
  refine Lw.r O (R.lda c17 O O) (ca Y (fun _=>p145 (Head.rd (K:=[0]) B.Name B.At)) fun D W Y x=>?_)
  obtain⟨X,M,Y⟩:=ob Y
  refine Lw.r O (R.ix (α:=Head) (k.up x).rd M O O O) ?_
  obtain⟨N,P,Y⟩:=ob Y
  refine Lw.u (T.stS (K':=[]) (k.up x) (Head.rd (K:=[]) D.Name D.At) P O O O) ?_
  rintro _ _ ⟨Q,rfl,S,U⟩
  exact nl (rg (mi O (Lw.add O (Ni O ((agm) ⟨w64 (e+1),N,Q,O,((A.j x).j S).w,O,U,Y⟩)))))
 ·refine Cw.exit ?_
  rw[L]at Y
  refine sr (mv a O (Nv a O ?_))
  cases Y
  exact Cw.ret (zkN O (Res.mk h ⟨a,O,k.s.sub O O⟩))
theorem p76 {x0 b k0 r}(d:Rd W K [b] x0)(Y:Vm.zk7 x0=some r):Q1 76 [b] W [] fun W' v=> ∃ a,v=a/\Ow W' k0 [] [a] r:=
 (c76 (d.view _) Y).ad (fk k0) fun _ _ ⟨a,e,f⟩=>⟨a,e,f.back (ziQ _)⟩
theorem c17 {x0 y z r}(L:Rd W0 [0] [y,z] x0)(Y:Vm.zc1 x0=some r):Q0 17 [.agg [y,z].toArray] W0 fun Wf v=> ∃ A B,v = .agg [A,B].toArray/\OwS Wf [31] [] [A] r.Commits/\OwS Wf [32] [] [B] r.Heads:=by
 unfold Vm.zc1 at Y
 obtain⟨ao,ap,C,M,N⟩:=Repo.split L
 simp only[List.cons.injEq,and_true,true_and]at C
 obtain⟨rfl,rfl⟩:=C
 refine zaz.of Tryz.func17 O O O O (sr (bo 2 O fun g1 W1 P Q=>?_))
 have R:=P.o
 refine al 3 [.slice none 0 0, .slice none 0 0] fun g3 W3 D S=>?_
 have U:=R.n D
 refine nl (sr (al 4 [.slice none 0 0, .slice none 0 0] fun g6 W6 f V=>?_))
 have E:=U.n f
 have F:=(Q.up D).up f
 refine nl (sr (fl F O (cr Y (fun _=>p75 (k0:=5) (M.ul E)) ?_)))
 rintro ay G az Y b ⟨_,rfl,H⟩
 have W:=E.n b
 refine Lw.fa O (Lw.u (T.st (j:=0) (v:=G) (V.up b) O O H.oc O O) ?_)
 rintro _ _ ⟨a0,rfl,d,X⟩
 have I:=W.t d
 refine nl (sr (fl ((F.up b).up d) O (cr Y (fun _=>p76 (k0:=6) (N.ul I)) ?_)))
 rintro a1 J a3 Y e ⟨_,rfl,h⟩
 have Z:=I.n e
 refine Lw.fa O (Lw.u (T.st (j:=1) (v:=J) (X.up e) O O h.oc O O) ?_)
 rintro _ _ ⟨a5,rfl,a,aa⟩
 have ac:=Z.t a
 have K:=((H.up d).up e).up a
 refine nl (sr (la aa (sta (((((S.up f).up b).up d).up e).up a) (zaa K.oc (zaa (h.up a).oc za0)) fun a6 i ae=>?_)))
 have af:=ac.t i
 refine nl ?_
 obtain⟨a8,ah,k,ai⟩:=(K.up i).dyeO 31
 have aj:=af.t k
 obtain⟨a9,ak,x,am⟩:=(((h.up a).up i).up k).dyeO 32
 have an:=aj.t x
 cases Y
 rw[<- ak.trans (ah)]
 exact Cw.ret (zn1 O ((ae.up k).up x) (Res.mk an ⟨G,J,O,(ai.up x).s,am.s⟩))
theorem p17 {x0 d f k0 k1 r}(h:Rd W K [d,f] x0)(Y:Vm.zc1 x0=some r):Q1 17 [.agg [d,f].toArray] W [] fun W' v=> ∃ a b,v = .agg [a,b].toArray/\Ow W' k0 [] [a] r.Commits/\Ow W' k1 [] [b] r.Heads:=
 zaz.adJ (J:=[]) (fun c=>bif Nat.beq c 0 then 0 else bif Nat.beq c 31 then k0 else bif Nat.beq c 32 then k1 else 0) (c17 (h.view _) Y) fun _ _ ⟨a,b,e,i,k⟩=>⟨a,b,e,i.one1.backN O,k.one1.backN O⟩
theorem c71 {x0 x1 x2 r}(Y:Vm.zec x0 x1 x2=some r):Q0 71 [vI x0,vI x1,vI x2] W0 fun Wf v=>v=vB r:=by
 unfold Vm.zec at Y
 refine zaz.of Tryz.func71 O O O O (sr (Nb O ?_))
 obtain⟨e,f,Y⟩:=zbM Y
 refine Cw.join 7 14 [6] (fun l w=> ∃ b d,CW.w d=w/\Le [] W0 d/\l=[vB b]/\e b=some r) ?_ ?_
 ·rintro _ _ σ ⟨b,d,rfl,h,rfl,Y⟩
  rw[f]at Y
  have i:=h.o
  exact .ret (rt Y i)
 ·refine rg (mi O (mi O (Lw.ge O (mb O (bs Y (fun a Y=>?_) fun a Y=>?_)))))
  ·exact wak 3 a (mi O (mi O (Lw.le O (Pb a O (Nb O ((ag) ⟨decide (x0<=(x2:Int)),W0,O,Le.refl _ _,O,Y⟩))))))
  ·exact psk 3 a O (Pb a O (Nb O ((ag) ⟨false,W0,O,Le.refl _ _,O,Y⟩)))
theorem p71 {x0 x1 x2 r}(Y:Vm.zec x0 x1 x2=some r):Q1 71 [vI x0,vI x1,vI x2] W [] fun W' v=>v=vB r:=
 (c71 (W0:=W.view [] []) Y).ad (fk 0) fun _ _ e=>e
theorem c70 {x0 r}(Y:Vm.zcJ x0=some r):Q0 70 [vS x0] W0 fun Wf v=>v=vB r:=by
 unfold Vm.zcJ at Y
 refine zaz.of Tryz.func70 O O O O (sr (Nb O (ssr (Ni O (Cw.block ?_)))))
 obtain⟨B,C,Y⟩:=zbM Y
 refine Cw.loop 4 31 [2,3] (fun m l w=> ∃ h i a,CW.w a=w/\Le [] W0 a/\l=[vB h,vI i]/\Vm.zbU x0 B m h i=some r) _ ⟨false,0,W0,O,Le.refl _ _,O,Y⟩ ?_
 rintro(_ |S) _ _ σ ⟨h,i,a,rfl,y,rfl,Y⟩
 ·cases Y
 unfold Vm.zbU at Y
 have z:=y.o
 refine ssr (mi O (ms O (Lw.r O (R.lenS O) (Lw.lt O (nl (cn Y (fun Y=>?_) fun Y=>?_))))))
 ·refine sk (Cw.seq (Cw.block ?_))
  obtain⟨D,E,Y⟩:=zbM Y
  refine Cw.join 10 31 [31] (fun l w=> ∃ x k,CW.w k=w/\Le [] a k/\l=[vB x]/\D x=some r) ?_ ?_
  ·rintro _ _ σ ⟨x,k,rfl,A,rfl,Y⟩
   rw[E]at Y
   have F:=z.n A
   refine cn Y (fun Y=>?_) fun Y=>?_
   ·exact sr (Nb O (.ret (rt Y F)))
   ·exact sk (rg (mi O (Lw.add O (Ni O ((agm) ⟨h,w64 (i+1),k,O,(y.j A).w,O,Y⟩)))))
  ·refine rg (ms O (mi O ?_))
   obtain⟨T,G,Y⟩:=ob Y
   refine Lw.r O (R.chm G O O) (Lw.lt O (mb O (bs Y (fun d Y=>?_) fun d Y=>?_)))
   ·refine psk 4 d O (Pb d O (mb O (wak 5 O (ms O (mi O ?_)))))
    obtain⟨U,H,Y⟩:=ob Y
    refine Lw.r O (R.chm H O O) (Lw.lt O (mb O (bs Y (fun e Y=>?_) fun e Y=>?_)))
    ·exact psk 4 e O (wak 1 O (Pb e O (Pb O O (nl ((ag) ⟨true,a,O,Le.refl _ _,O,Y⟩)))))
    ·refine wak 4 e (ms O (mi O ?_))
     obtain⟨I,J,Y⟩:=ob Y
     exact Lw.r O (R.chm J O O) (Lw.gt O (wak 1 O (Pb e O (Pb O O (nl ((ag) ⟨decide ((57:Int)< ((UInt8.toNat I:Int):Int)),a,O,Le.refl _ _,O,Y⟩))))))
   ·refine wak 4 d (ms O (mi O ?_))
    obtain⟨V,K,Y⟩:=ob Y
    refine Lw.r O (R.chm K O O) (Lw.gt O (Pb d O (mb O (bs Y (fun b Y=>?_) fun b Y=>?_))))
    ·refine wak 5 b (ms O (mi O ?_))
     obtain⟨W,L,Y⟩:=ob Y
     refine Lw.r O (R.chm L O O) (Lw.lt O (mb O (bs Y (fun f Y=>?_) fun f Y=>?_)))
     ·exact psk 4 f O (wak 1 b (Pb f O (Pb b O (nl ((ag) ⟨true,a,O,Le.refl _ _,O,Y⟩)))))
     ·refine wak 4 f (ms O (mi O ?_))
      obtain⟨M,N,Y⟩:=ob Y
      exact Lw.r O (R.chm N O O) (Lw.gt O (wak 1 b (Pb f O (Pb b O (nl ((ag) ⟨decide ((57:Int)< ((UInt8.toNat M:Int):Int)),a,O,Le.refl _ _,O,Y⟩))))))
    ·exact psk 5 b O (puk 4 O (psk 1 b O (Pb b O (nl ((ag) ⟨false,a,O,Le.refl _ _,O,Y⟩)))))
 ·refine Cw.exit ?_
  rw[C]at Y
  refine sr (ms O (Lw.r O (R.lenS O) (ca Y (fun _=>p71) fun X Z Y P=>?_)))
  have Q:=z.n P
  exact Nb O (.ret (rt Y Q))
theorem p70 {x0 r}(Y:Vm.zcJ x0=some r):Q1 70 [vS x0] W [] fun W' v=>v=vB r:=
 (c70 (W0:=W.view [] []) Y).ad (fk 0) fun _ _ e=>e
theorem c193 {x0 x1 x2 r}(Y:Vm.zgk x0 x1 x2=some r):Q0 193 [vS x0, .int .u8 (UInt8.toNat x1:Int),vI x2] W0 fun Wf v=> ∃ D,v=D/\OwS Wf LL [] [D] r:=by
 unfold Vm.zgk at Y
 refine zaz.of Tryz.func193 O O O O (sr (Nv (.slice none 0 0) O (sr (Lw.t O (T.lit0 (α:=Str) 2 []) ?_))))
 rintro E _ ⟨F,rfl,P,Q⟩
 have S:=P.o
 refine Nv E O (sr (Ni O (ssr (Ni O (Cw.block ?_)))))
 obtain⟨U,V,Y⟩:=zbM Y
 refine Cw.loop 11 36 [7,8,9] (fun m l w=> ∃ d k e a b,CW.w b=w/\Le [2] F b/\l=[a,vI k,vI e]/\Ow b 2 [] [a] d/\Vm.zdM x0 x1 x2 U m d k e=some r) _ ⟨([]:List Str),0,0,E,F,O,Le.refl _ _,O,Q,Y⟩ ?_
 rintro(_ |a0) _ _ σ ⟨d,k,e,a,b,rfl,G,rfl,H,Y⟩
 ·cases Y
 unfold Vm.zdM at Y
 have W:=S.t G
 refine Cw.seq ?_
 obtain⟨X,Z,Y⟩:=zbM Y
 refine Cw.join 11 20 [20] (fun l w=> ∃ A f,CW.w f=w/\Le [] b f/\l=[vB A]/\X A=some r) ?_ ?_
 ·rintro _ _ σ ⟨A,f,rfl,B,rfl,Y⟩
  rw[Z]at Y
  have aa:=W.n B
  have C:=H.up B
  refine cn Y (fun Y=>?_) fun Y=>?_
  ·refine sk ?_
   obtain⟨ac,ae,Y⟩:=zbM Y
   refine Cw.join 23 36 [7,8] (fun l w=> ∃ x y z h,CW.w h=w/\Le [2] f h/\l=[z,vI y]/\Ow h 2 [] [z] x/\ac x y=some r) ?_ ?_
   ·rintro _ _ σ ⟨x,y,z,h,rfl,af,rfl,ah,Y⟩
    rw[ae]at Y
    exact rg (mi O (Lw.add O (Ni O ((agm) ⟨x,y,w64 (e+1),z,h,O,((G.j B).j af).w,O,ah,Y⟩))))
   ·refine Cw.block (sr (ms O (mi O ?_)))
    obtain⟨a1,ai,Y⟩:=ob Y
    refine Lw.r O (R.chm ai O O) (mv (.int .u8 (UInt8.toNat x1:Int)) O (Lw.eq O (nl (cn Y (fun Y=>?_) fun Y=>?_))))
    ·refine sr (mv a O (ms O (mi O (mi O ?_))))
     obtain⟨I,aj,Y⟩:=ob Y
     refine Lw.r O (R.ss aj O (.inr O) (.inr O)) (Lw.t O (T.bs 3 [vS I] (cs:=[vS I]) O O (bsv O)) ?_)
     rintro _ _ ⟨a3,a4,rfl,rfl,J,ak⟩
     obtain⟨am,an,Y⟩:=ob Y
     refine Lw.t O (T.app1S (α:=Str) (K':=[]) (C.up J) ak (rdS _) O O an) ?_
     rintro K _ ⟨ao,rfl,ap,aq⟩
     exact Nv K O (rg (mi O (Lw.add O (Ni O ((ag) ⟨am,w64 (e+1),K,ao,O,(J.j ap).w,O,aq,Y⟩)))))
    ·exact sk ((ag) ⟨d,k,a,f,O,Le.refl _ _,O,C,Y⟩)
  ·refine Cw.exit ?_
   rw[V]at Y
   refine sr (mv a O (ms O (mi O ?_)))
   obtain⟨L,ar,Y⟩:=ob Y
   refine Lw.r O (R.ss ar O (.inr O) (.inl ⟨O,O⟩)) (Lw.t O (T.bs 4 [vS L] (cs:=[vS L]) O O (bsv O)) ?_)
   rintro _ _ ⟨a5,a6,rfl,rfl,M,au⟩
   have av:=aa.n M
   obtain⟨a7,aw,Y⟩:=ob Y
   refine Lw.t O (T.app1S (α:=Str) (K':=[]) (C.up M) au (rdS _) O O aw) ?_
   rintro N _ ⟨a8,rfl,ax,ay⟩
   have az:=av.t ax
   refine Nv N O ?_
   cases Y
   exact Cw.ret (zkN O (Res.mk az ⟨N,O,ay.s.sub O O⟩))
 ·refine rg (mi O (ms O (Lw.r O (R.lenS O) (Lw.lt O (mb O (bs Y (fun i Y=>?_) fun i Y=>?_))))))
  ·exact wak 4 i (mv a O (Lw.ln d H.rd O (mi O (Lw.lt O (Pb i O (nl ((ag) ⟨decide (d.length< (x2:Int)),b,O,Le.refl _ _,O,Y⟩)))))))
  ·exact psk 4 i O (Pb i O (nl ((ag) ⟨false,b,O,Le.refl _ _,O,Y⟩)))
theorem p193 {x0 x1 x2 k0 r}(Y:Vm.zgk x0 x1 x2=some r):Q1 193 [vS x0, .int .u8 (UInt8.toNat x1:Int),vI x2] W [] fun W' v=> ∃ a,v=a/\Ow W' k0 [] [a] r:=
 (c193 (W0:=W.view [] []) Y).ad (fk k0) fun _ _ ⟨a,e,b⟩=>⟨a,e,b.back (ziQ _)⟩
theorem c158 {x0 r}(Y:Vm.zdC x0=some r):Q0 158 [vS x0] W0 fun Wf v=>v=vB r:=by
 unfold Vm.zdC at Y
 refine zaz.of Tryz.func158 O O O O (sr (Nb O (sr (ms O (cr Y (fun _=>p193 (k0:=2)) ?_)))))
 rintro f a k Y A ⟨_,rfl,B⟩
 have C:=A.o
 refine Nv a O (ssr (Ni O (Cw.block ?_)))
 obtain⟨D,E,Y⟩:=zbM Y
 refine Cw.loop 7 18 [2,4] (fun m l w=> ∃ b d h,CW.w h=w/\Le [] k h/\l=[vB b,vI d]/\Vm.zbV f D m b d=some r) _ ⟨false,0,k,O,Le.refl _ _,O,Y⟩ ?_
 rintro(_ |H) _ _ σ ⟨b,d,h,rfl,i,rfl,Y⟩
 ·cases Y
 unfold Vm.zbV at Y
 have x:=C.n i
 have e:=B.up i
 refine ssr (mi O (mv a O (Lw.ln f e.rd O (Lw.lt O (nl (cn Y (fun Y=>?_) fun Y=>?_))))))
 ·refine sk (Cw.seq (Cw.block (sr (mv a O (mi O ?_)))))
  obtain⟨I,y,Y⟩:=ob Y
  refine Lw.r O (R.ix (α:=Str) e.rd y O O O) (Lw.r O (R.ld O O (e.rd.at_ y).str) (ca Y (fun _=>p70) fun J F Y z=>?_))
  have G:=x.n z
  refine Lw.r O (R.not O) (nl (cn Y (fun Y=>?_) fun Y=>?_))
  ·exact sr (Nb O (.ret (rt Y G)))
  ·exact sk (rg (mi O (Lw.add O (Ni O ((agm) ⟨b,w64 (d+1),F,O,(i.j z).w,O,Y⟩)))))
 ·refine Cw.exit ?_
  rw[E]at Y
  exact sr (mv a O (Lw.ln f e.rd O (Lw.le O (Nb O (.ret (rt Y x))))))
theorem p158 {x0 r}(Y:Vm.zdC x0=some r):Q1 158 [vS x0] W [] fun W' v=>v=vB r:=
 (c158 (W0:=W.view [] []) Y).ad (fk 0) fun _ _ e=>e
theorem c210 {x0 r}(Y:Vm.zff x0=some r):Q0 210 [vS x0] W0 fun Wf v=>v=vB r:=by
 unfold Vm.zff at Y
 refine zaz.of Tryz.func210 O O O O (sr (Nb O (ssr (Ni O (Cw.block ?_)))))
 obtain⟨y,z,Y⟩:=zbM Y
 refine Cw.loop 4 19 [2,3] (fun m l w=> ∃ d e a,CW.w a=w/\Le [] W0 a/\l=[vB d,vI e]/\Vm.zbW x0 y m d e=some r) _ ⟨false,0,W0,O,Le.refl _ _,O,Y⟩ ?_
 rintro(_ |G) _ _ σ ⟨d,e,a,rfl,i,rfl,Y⟩
 ·cases Y
 unfold Vm.zbW at Y
 have k:=i.o
 refine ssr (mi O (ms O (Lw.r O (R.lenS O) (Lw.lt O (nl (cn Y (fun Y=>?_) fun Y=>?_))))))
 ·refine sk (Cw.seq (Cw.block ?_))
  obtain⟨A,B,Y⟩:=zbM Y
  refine Cw.join 10 19 [19] (fun l w=> ∃ h f,CW.w f=w/\Le [] a f/\l=[vB h]/\A h=some r) ?_ ?_
  ·rintro _ _ σ ⟨h,f,rfl,x,rfl,Y⟩
   rw[B]at Y
   have C:=k.n x
   refine cn Y (fun Y=>?_) fun Y=>?_
   ·exact sr (Nb O (.ret (rt Y C)))
   ·exact sk (rg (mi O (Lw.add O (Ni O ((agm) ⟨d,w64 (e+1),f,O,(i.j x).w,O,Y⟩)))))
  ·refine rg (ms O (mi O ?_))
   obtain⟨H,D,Y⟩:=ob Y
   refine Lw.r O (R.chm D O O) (Lw.lt O (mb O (bs Y (fun b Y=>?_) fun b Y=>?_)))
   ·exact psk 4 b O (Pb b O (nl ((ag) ⟨true,a,O,Le.refl _ _,O,Y⟩)))
   ·refine wak 4 b (ms O (mi O ?_))
    obtain⟨E,F,Y⟩:=ob Y
    exact Lw.r O (R.chm F O O) (Lw.gt O (Pb b O (nl ((ag) ⟨decide ((126:Int)< ((UInt8.toNat E:Int):Int)),a,O,Le.refl _ _,O,Y⟩))))
 ·refine Cw.exit ?_
  rw[z]at Y
  exact sr (ms O (Lw.r O (R.lenS O) (Lw.le O (Nb O (.ret (rt Y k))))))
theorem p210 {x0 r}(Y:Vm.zff x0=some r):Q1 210 [vS x0] W [] fun W' v=>v=vB r:=
 (c210 (W0:=W.view [] []) Y).ad (fk 0) fun _ _ e=>e
theorem c186 {x0 a r}(y:Rd W0 [0] [a] x0)(Y:Vm.zcK x0=some r):Q0 186 [a] W0 fun Wf v=>v=vB r:=by
 unfold Vm.zcK at Y
 refine zaz.of Tryz.func186 O O O O (sr (Nb O (ssr (Ni O (Cw.block ?_)))))
 obtain⟨z,A,Y⟩:=zbM Y
 refine Cw.loop 4 15 [2,3] (fun m l w=> ∃ b d f,CW.w f=w/\Le [] W0 f/\l=[vB b,vI d]/\Vm.zc3 x0 z m b d=some r) _ ⟨false,0,W0,O,Le.refl _ _,O,Y⟩ ?_
 rintro(_ |D) _ _ σ ⟨b,d,f,rfl,i,rfl,Y⟩
 ·cases Y
 unfold Vm.zc3 at Y
 have h:=i.o
 refine ssr ?_
 have e:=y.ul h
 refine mi O (mv a O (Lw.ln x0 e O (Lw.lt O (nl (cn Y (fun Y=>?_) fun Y=>?_)))))
 ·refine sk (Cw.seq (Cw.block (sr (mv a O (mi O ?_)))))
  obtain⟨E,k,Y⟩:=ob Y
  refine Lw.r O (R.ix (α:=Str) e k O O O) (Lw.r O (R.ld O O (e.at_ k).str) (ca Y (fun _=>p210) fun F B Y x=>?_))
  have C:=h.n x
  refine Lw.r O (R.not O) (nl (cn Y (fun Y=>?_) fun Y=>?_))
  ·exact sr (Nb O (.ret (rt Y C)))
  ·exact sk (rg (mi O (Lw.add O (Ni O ((agm) ⟨b,w64 (d+1),B,O,(i.j x).w,O,Y⟩)))))
 ·refine Cw.exit ?_
  rw[A]at Y
  exact sr (mv a O (Lw.ln x0 e O (Lw.le O (Nb O (.ret (rt Y h))))))
theorem p186 {x0 a r}(b:Rd W K [a] x0)(Y:Vm.zcK x0=some r):Q1 186 [a] W [] fun W' v=>v=vB r:=
 (c186 (b.view _) Y).ad (fk 0) fun _ _ e=>e
theorem c187 {x0 x1 r}(Y:Vm.zgY x0 x1=some r):Q0 187 [vS x0,vS x1] W0 fun Wf v=>v=vB r:=by
 unfold Vm.zgY at Y
 refine zaz.of Tryz.func187 O O O O (sr (Nb O ?_))
 obtain⟨f,h,Y⟩:=zbM Y
 refine Cw.join 5 24 [4] (fun l w=> ∃ d e,CW.w e=w/\Le [] W0 e/\l=[vB d]/\f d=some r) ?_ ?_
 ·rintro _ _ σ ⟨d,e,rfl,i,rfl,Y⟩
  rw[h]at Y
  have k:=i.o
  exact .ret (rt Y k)
 ·refine rg (ms O (Lw.r O (R.lenS O) (ms O (Lw.r O (R.lenS O) (Lw.gt O (mb O (bs Y (fun a Y=>?_) fun a Y=>?_)))))))
  ·refine wak 6 a (ms O (ms O (Lw.r O (R.lenS O) ?_)))
   obtain⟨A,x,Y⟩:=ob Y
   refine Lw.r O (R.ss x O (.inl ⟨O,O⟩) (.inr O)) (ms O (Lw.seq O (Pb a O (mb O (bs Y (fun b Y=>?_) fun b Y=>?_)))))
   ·refine wak 5 b (ms O (ms O (Lw.r O (R.lenS O) ?_)))
    obtain⟨y,z,Y⟩:=ob Y
    exact Lw.r O (R.chm z O O) (Lw.eq O (Pb b O (Nb O ((ag) ⟨(((UInt8.toNat y:Int):Int)==(47:Int)),W0,O,Le.refl _ _,O,Y⟩))))
   ·exact psk 5 b O (Pb b O (Nb O ((ag) ⟨false,W0,O,Le.refl _ _,O,Y⟩)))
  ·exact psk 6 a O (Pb a O (mb O (psk 5 O O (Pb O O (Nb O ((ag) ⟨false,W0,O,Le.refl _ _,O,Y⟩))))))
theorem p187 {x0 x1 r}(Y:Vm.zgY x0 x1=some r):Q1 187 [vS x0,vS x1] W [] fun W' v=>v=vB r:=
 (c187 (W0:=W.view [] []) Y).ad (fk 0) fun _ _ e=>e
theorem c141 {x0 d r}(z:Rd W0 [0] [d] x0)(Y:Vm.zgZ x0=some r):Q0 141 [d] W0 fun Wf v=>v=vB r:=by
 unfold Vm.zgZ at Y
 refine zaz.of Tryz.func141 O O O O (sr (Nb O (ssr (Ni O (Cw.block ?_)))))
 obtain⟨K5,ai,Y⟩:=zbM Y
 refine Cw.loop 5 61 [2,3,4] (fun m l w=> ∃ F h V G,CW.w G=w/\Le [] W0 G/\l=[vB F,vI h,V]/\Vm.zc4 x0 K5 m F h=some r) _ ⟨false,0,undef,W0,O,Le.refl _ _,O,Y⟩ ?_
 rintro(_ |m6) _ _ σ ⟨F,h,V,G,rfl,W,rfl,Y⟩
 ·cases Y
 unfold Vm.zc4 at Y
 have A:=W.o
 refine ssr (mi O (mv d O (Lw.ln x0 (z.ul A) O (Lw.lt O (nl (cn Y (fun Y=>?_) fun Y=>?_))))))
 ·refine sk (Cw.seq (Cw.block (Cw.seq ?_)))
  obtain⟨aj,ak,Y⟩:=zbM Y
  refine Cw.join 11 44 [44] (fun l w=> ∃ J B,CW.w B=w/\Le [] G B/\l=[vB J]/\aj J=some r) ?_ ?_
  ·rintro _ _ σ ⟨J,B,rfl,X,rfl,Y⟩
   rw[ak]at Y
   have Z:=A.n X
   refine cn Y (fun Y=>?_) fun Y=>?_
   ·exact sr (Nb O (.ret (rt Y Z)))
   ·refine sk (sr (Ni O (Cw.block ?_)))
    obtain⟨am,an,Y⟩:=zbM Y
    refine Cw.loop 45 61 [2,4] (fun m l w=> ∃ C D H,CW.w H=w/\Le [] B H/\l=[vB C,vI D]/\Vm.zbN x0 h am m C D=some r) _ ⟨F,0,B,O,Le.refl _ _,O,Y⟩ ?_
    rintro(_ |a1) _ _ σ ⟨C,D,H,rfl,K,rfl,Y⟩
    ·cases Y
    unfold Vm.zbN at Y
    have aa:=Z.n K
    refine ssr (mi O (mv d O (Lw.ln x0 (z.ul aa) O (Lw.lt O (nl (cn Y (fun Y=>?_) fun Y=>?_))))))
    ·refine sk (Cw.seq (Cw.block (Cw.seq (Cw.draw [] [(0,0),(1,0),(2,0),(3,0),(4,1),(5,0),(6,0),(7,0),(8,0),(9,1),(10,3)] mixed (by kernel_rfl) fun a2 ac=>?_))))
     have ae:=aa.n ac
     refine Dv d O (Di O ?_)
     obtain⟨a3,L,Y⟩:=ob Y
     have i:=z.ul ae
     refine Mw.p O O (fun _=>R.ix (α:=File) i L O O O) (Df O (Mw.q O O (fun _ c=>R.ld O O (zaB (File.at0 (i.at_ L)).1 O (File.at0 (i.at_ L)).str c)) (Dv d O (Di O ?_))))
     obtain⟨a4,M,Y⟩:=ob Y
     refine Mw.p O O (fun _=>R.ix (α:=File) i M O O O) (Df O (Mw.q O O (fun _ c=>R.ld O O (zaB (File.at0 (i.at_ M)).1 O (File.at0 (i.at_ M)).str c)) ?_))
     obtain⟨a5,ao,Y⟩:=ob Y
     refine Mw.l O O (T.call O (p187 ao)) ?_
     rintro _ _ ⟨ap,rfl,af,rfl⟩
     have aq:=ae.n af
     refine Mw.nil (cn Y (fun Y=>?_) fun Y=>?_)
     ·exact sr (Nb O (.ret (rt Y aq)))
     ·exact sk (rg (mi O (Lw.add O (Ni O ((agm) ⟨C,w64 (D+1),ap,O,((K.j ac).j af).w,O,Y⟩)))))
    ·refine Cw.exit ?_
     rw[an]at Y
     exact rg (mi O (Lw.add O (Ni O ((agm) ⟨C,w64 (h+1),vI D,H,O,((W.j X).j K).w,O,Y⟩))))
  ·refine Cw.draw [] [(0,0),(1,0),(2,0),(3,0),(4,1),(5,2),(6,0),(7,0),(8,0),(9,0),(10,0),(11,0),(12,1),(13,2),(14,0),(15,0),(16,0),(17,0),(18,0),(19,0),(20,0),(21,0),(22,0),(23,0),(24,1),(25,0),(26,0),(27,0),(28,0),(29,0),(30,1),(31,0),(32,0),(33,0)] mixed (by kernel_rfl) fun a6 E=>?_
   have ar:=A.n E
   refine Dv d O (Di O ?_)
   obtain⟨a8,N,Y⟩:=ob Y
   have b:=z.ul ar
   refine Mw.p O O (fun _=>R.ix (α:=File) b N O O O) (Df O (Mw.q O O (fun _ c=>R.ld O O (zaB (File.at0 (b.at_ N)).1 O (File.at0 (b.at_ N)).str c)) ?_))
   obtain⟨a9,au,Y⟩:=ob Y
   refine Mw.t O O (T.call O (p158 au)) ?_
   rintro _ _ ⟨av,rfl,k,rfl⟩
   have aw:=k.o
   refine m0 k fun ax=>Mw.p O O (fun _=>R.not O) (Db O (bs Y (fun e Y=>?_) fun e Y=>?_))
   ·exact dps 7 e O (Mw.p O O (fun _=>R.pk e O (v:=vB true) O) (Db O (dps 3 O O (dpu 12 O (dps 1 O O (Mw.p O O (fun _=>R.pk O O (v:=vB true) O) (Mw.nil ((ag) ⟨true,av,O,(E.j k).w,O,Y⟩))))))))
   ·refine Wp e O (fun _=>R.mv (v:=d) O) (Wp e O (fun _=>R.mv (v:=vI h) O) ?_)
    obtain⟨ba,P,Y⟩:=ob Y
    refine Wp e O (fun _=>R.ix (α:=File) b P O O O) (Wp e O (fun _=>R.fa O) ?_)
    obtain⟨bb,c48,r49⟩:=(File.at1 (b.at_ P)).cell O
    refine Wq e O (fun _ c=>R.ld O O (zaB (File.at1 (b.at_ P)).1 O c48 c)) ?_
    obtain⟨ay,az,Y⟩:=ob Y
    refine Wt e O (T.call O (p186 (r49.ul aw) az)) ?_
    rintro _ _ ⟨Q,rfl,I,rfl⟩
    refine mc ax I fun bc=>Wp e O (fun _=>R.not O) (Mw.p O O (fun _=>R.pk e O (v:=vB (!ay)) O) (Db O (bs Y (fun f Y=>?_) fun f Y=>?_)))
    ·exact dps 3 f O (dpu 12 O (dps 1 f O (Mw.p O O (fun _=>R.pk f O (v:=vB true) O) (Mw.nil ((ag) ⟨true,Q,O,((E.j k).j I).w,O,Y⟩)))))
    ·refine Wp f O (fun _=>R.mv (v:=vI h) O) (Wp f O (fun _=>R.gt O O) (Wp f O (fun _=>R.mv (v:=vB (decide (0< (h:Int)))) O) (bs Y (fun a Y=>?_) fun a Y=>?_)))
     ·refine Wp a O (fun _=>R.mv (v:=d) O) (Wp a O (fun _=>R.mv (v:=vI h) O) ?_)
      obtain⟨x,S,Y⟩:=ob Y
      refine Wp a O (fun _=>R.ix (α:=File) b S O O O) (Wp a O (fun _=>R.fa O) (Wq a O (fun _ c=>R.ld O O (zaB (File.at0 (b.at_ S)).1 O (File.at0 (b.at_ S)).str c)) (Wp a O (fun _=>R.mv (v:=d) O) (Wp a O (fun _=>R.mv (v:=vI h) O) (Wp a O (fun _=>R.sub O O) ?_)))))
      obtain⟨y,U,Y⟩:=ob Y
      exact Wp a O (fun _=>R.ix (α:=File) b U O O O) (Wp a O (fun _=>R.fa O) (Wq a O (fun _ c=>R.ld O O (zaB (File.at0 (b.at_ U)).1 O (File.at0 (b.at_ U)).str c)) (Wp a O (fun _=>R.sle O O) (Wp f O (fun _=>R.pk a O (v:=vB (Op.bytesLess x.Path y.Path||x.Path==y.Path)) O) (Mw.p O O (fun _=>R.pk f O (v:=vB (Op.bytesLess x.Path y.Path||x.Path==y.Path)) O) (Mw.nil ((ag) ⟨(Op.bytesLess x.Path y.Path||x.Path==y.Path),Q,O,((E.j k).j I).w,O,Y⟩)))))))
     ·exact dps 12 a O (Wp f O (fun _=>R.pk a O (v:=vB false) O) (Mw.p O O (fun _=>R.pk f O (v:=vB false) O) (Mw.nil ((ag) ⟨false,Q,O,((E.j k).j I).w,O,Y⟩))))
 ·refine Cw.exit ?_
  rw[ai]at Y
  exact sr (mv d O (Lw.ln x0 (z.ul A) O (Lw.le O (Nb O (.ret (rt Y A))))))
theorem p141 {x0 a r}(b:Rd W K [a] x0)(Y:Vm.zgZ x0=some r):Q1 141 [a] W [] fun W' v=>v=vB r:=
 (c141 (b.view _) Y).ad (fk 0) fun _ _ e=>e
end Go.Sx
