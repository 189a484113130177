/- Walks: each function answers as its model, printed by a program of ours. Conditions: the arguments read as they are given. -/
import Derived.Test.YtifbmanldeabeaaGreatDoorGTs
import Derived.Test.YtifbmanldeabeaaGreatDoorGM3
import Derived.Test.YtifbmanldeabeaaGreatDoorGW0
import Derived.Test.YtifbmanldeabeaaGreatDoorGW1
import Derived.Test.YtifbmanldeabeaaGreatDoorGW2
import Derived.Test.YtifbmanldeabeaaGreatDoorGW3
import Derived.Test.YtifbmanldeabeaaGreatDoorGW5
namespace Go.Sx
open Go Go.Proofs Go.Vm Rp
set_option linter.unusedVariables false
set_option linter.unusedSimpArgs false
variable {W W0:CW}{K:List Nat}
theorem c134 {x0 a x1 r}(b:Rd W0 [0] [a] x0)(Y:Vm.zmw x0 x1=some r):Q0 134 [a,vI x1] W0 fun Wf v=>v=vI r:=by
 unfold Vm.zmw at Y
 refine zao.of Tryz.func134 O O O O (sr (Ni O (sr (mi O (mv a O (Lw.ln x0 b O (Lw.sub O (Ni O (ssr (mi O (Lw.lt O (nl (cn Y (fun Y=>?_) fun Y=>?_)))))))))))))
 ·exact sr (Ni O (.ret (rt Y (Le.refl _ _))))
 ·exact sk (sr (mi O (Ni O (.ret (rt Y (Le.refl _ _))))))
theorem p134 {x0 a x1 r}(b:Rd W K [a] x0)(Y:Vm.zmw x0 x1=some r):Q1 134 [a,vI x1] W [] fun W' v=>v=vI r:=
 (c134 (b.view _) Y).ad (fk 0) fun _ _ e=>e
theorem c33 {x0 a x1 r}(k:Rd W0 [0] [a] x0)(Y:Vm.zgj x0 x1=some r):Q0 33 [a,vI x1] W0 fun Wf v=>v=vI r:=by
 unfold Vm.zgj at Y
 refine zao.of Tryz.func33 O O O O (sr (Ni O (sr (mi O (mv a O (Lw.ln x0 k O (Lw.sub O (Ni O (ssr (mi O (Lw.lt O (nl (cn Y (fun Y=>?_) fun Y=>?_)))))))))))))
 ·exact sr (Ni O (.ret (rt Y (Le.refl _ _))))
 ·refine sk (ssr (Ni O (Cw.block ?_)))
  obtain⟨z,A,Y⟩:=zaY Y
  refine Cw.loop 12 26 [1,4,5] (fun m l w=> ∃ b d e f,CW.w f=w/\Le [] W0 f/\l=[vI b,vI d,vI e]/\Vm.zdV x0 z m b d e=some r) _ ⟨w64 (x1-(x0.length:Int)),0,0,W0,O,Le.refl _ _,O,Y⟩ ?_
  rintro(_ |C) _ _ σ ⟨b,d,e,f,rfl,x,rfl,Y⟩
  ·cases Y
  unfold Vm.zdV at Y
  have h:=x.o
  refine ssr ?_
  have i:=k.ul h
  refine mi O (mv a O (Lw.ln x0 i O (Lw.lt O (nl (cn Y (fun Y=>?_) fun Y=>?_)))))
  ·refine sk (Cw.seq (Cw.block (sr (mi O (mv a O (mi O ?_))))))
   obtain⟨B,y,Y⟩:=ob Y
   refine Lw.r O (R.ix (α:=Str) i y O O O) (Lw.r O (R.ld O O (i.at_ y).str) (Lw.r O (R.lenS O) (Lw.sub O (Ni O (sr (mi O (Lw.lt O (nl (cn Y (fun Y=>?_) fun Y=>?_)))))))))
   ·exact sr (Ni O (.ret (rt Y h)))
   ·exact sk (rg (mi O (Lw.add O (Ni O ((agm) ⟨w64 (b-(B.length:Int)),d,w64 (e+1),f,O,x,O,Y⟩)))))
  ·refine Cw.exit ?_
   rw[A]at Y
   exact sr (mi O (Ni O (.ret (rt Y h))))
theorem p33 {x0 a x1 r}(b:Rd W K [a] x0)(Y:Vm.zgj x0 x1=some r):Q1 33 [a,vI x1] W [] fun W' v=>v=vI r:=
 (c33 (b.view _) Y).ad (fk 0) fun _ _ e=>e
theorem c167 {x0 b x1 r}(h:Rd W0 [0] [vS x0.Path,b] x0)(Y:Vm.zmx x0 x1=some r):Q0 167 [.agg [vS x0.Path,b].toArray,vI x1] W0 fun Wf v=>v=vI r:=by
 unfold Vm.zmx at Y
 obtain⟨y,d,i⟩:=File.split h
 simp only[List.cons.injEq,and_true,true_and]at d
 obtain rfl:=d
 refine zao.of Tryz.func167 O O O O (sr (bo 2 O fun z A k e=>?_))
 have a:=k.o
 refine Ni O (sr (mi O (fl e O (Lw.r O (R.lenS O) (Lw.sub O (Ni O (ssr (mi O (Lw.lt O (nl (cn Y (fun Y=>?_) fun Y=>?_)))))))))))
 ·exact sr (Ni O (.ret (rt Y a)))
 ·refine sk (sr (fl e O (mi O (ca Y (fun _=>p33 (i.ul a)) fun B C Y x=>?_))))
  have f:=a.n x
  refine Ni O (ssr (mi O (Lw.lt O (nl (cn Y (fun Y=>?_) fun Y=>?_)))))
  ·exact sr (Ni O (.ret (rt Y f)))
  ·exact sk (sr (mi O (Ni O (.ret (rt Y f)))))
theorem p167 {x0 a x1 r}(b:Rd W K [vS x0.Path,a] x0)(Y:Vm.zmx x0 x1=some r):Q1 167 [.agg [vS x0.Path,a].toArray,vI x1] W [] fun W' v=>v=vI r:=
 (c167 (b.view _) Y).ad (fk 0) fun _ _ e=>e
theorem c135 {x0 a x1 r}(k:Rd W0 [0] [a] x0)(Y:Vm.zlu x0 x1=some r):Q0 135 [a,vI x1] W0 fun Wf v=>v=vI r:=by
 unfold Vm.zlu at Y
 refine zao.of Tryz.func135 O O O O (sr (Ni O (sr (mi O (mv a O (Lw.ln x0 k O (Lw.sub O (Ni O (ssr (mi O (Lw.lt O (nl (cn Y (fun Y=>?_) fun Y=>?_)))))))))))))
 ·exact sr (Ni O (.ret (rt Y (Le.refl _ _))))
 ·refine sk (ssr (Ni O (Cw.block ?_)))
  obtain⟨B,C,Y⟩:=zaY Y
  refine Cw.loop 12 25 [1,4,5] (fun m l w=> ∃ e b d f,CW.w f=w/\Le [] W0 f/\l=[vI e,vI b,vI d]/\Vm.zhT x0 B m e b d=some r) _ ⟨w64 (x1-(x0.length:Int)),0,0,W0,O,Le.refl _ _,O,Y⟩ ?_
  rintro(_ |G) _ _ σ ⟨e,b,d,f,rfl,x,rfl,Y⟩
  ·cases Y
  unfold Vm.zhT at Y
  have h:=x.o
  refine ssr ?_
  have i:=k.ul h
  refine mi O (mv a O (Lw.ln x0 i O (Lw.lt O (nl (cn Y (fun Y=>?_) fun Y=>?_)))))
  ·refine sk (Cw.seq (Cw.block (sr (mv a O (mi O ?_)))))
   obtain⟨y,z,Y⟩:=ob Y
   refine Lw.r O (R.ix (α:=File) i z O O O) ?_
   obtain⟨x13,c14,_,r15⟩:=(i.at_ z).cells
   obtain⟨H,rfl,r17⟩:=File.split r15
   refine Lw.r O (R.lda c14 O O) (mi O (ca Y (fun _=>p167 (File.rd (K:=[0]) y.Path y.Text r17)) fun D E Y A=>?_))
   have F:=h.n A
   refine Ni O (sr (mi O (Lw.lt O (nl (cn Y (fun Y=>?_) fun Y=>?_)))))
   ·exact sr (Ni O (.ret (rt Y F)))
   ·exact sk (rg (mi O (Lw.add O (Ni O ((agm) ⟨D,b,w64 (d+1),E,O,(x.j A).w,O,Y⟩)))))
  ·refine Cw.exit ?_
   rw[C]at Y
   exact sr (mi O (Ni O (.ret (rt Y h))))
theorem p135 {x0 a x1 r}(b:Rd W K [a] x0)(Y:Vm.zlu x0 x1=some r):Q1 135 [a,vI x1] W [] fun W' v=>v=vI r:=
 (c135 (b.view _) Y).ad (fk 0) fun _ _ e=>e
theorem c78 {x0 e f x1 r}(x:Rd W0 [0] [e,vS x0.Who,f] x0)(Y:Vm.zkB x0 x1=some r):Q0 78 [.agg [e,vS x0.Who,f].toArray,vI x1] W0 fun Wf v=>v=vI r:=by
 unfold Vm.zkB at Y
 obtain⟨C,D,h,y,z⟩:=Commit.split x
 simp only[List.cons.injEq,and_true,true_and]at h
 obtain⟨rfl,rfl⟩:=h
 refine zao.of Tryz.func78 O O O O (sr (bo 2 O fun E F A b=>?_))
 have i:=A.o
 refine Ni O (sr (fl b O (mi O (ca Y (fun _=>p134 (y.ul i)) fun G H Y d=>?_))))
 have a:=i.n d
 refine Ni O (ssr (mi O (Lw.lt O (nl (cn Y (fun Y=>?_) fun Y=>?_)))))
 ·exact sr (Ni O (.ret (rt Y a)))
 ·refine sk (sr (mi O (fl (b.up d) O (Lw.r O (R.lenS O) (Lw.sub O (Ni O (ssr (mi O (Lw.lt O (nl (cn Y (fun Y=>?_) fun Y=>?_)))))))))))
  ·exact sr (Ni O (.ret (rt Y a)))
  ·refine sk (sr (fl (b.up d) O (mi O (ca Y (fun _=>p135 (z.ul a)) fun I J Y B=>?_))))
   have k:=a.n B
   refine Ni O (ssr (mi O (Lw.lt O (nl (cn Y (fun Y=>?_) fun Y=>?_)))))
   ·exact sr (Ni O (.ret (rt Y k)))
   ·exact sk (sr (mi O (Ni O (.ret (rt Y k)))))
theorem p78 {x0 a b x1 r}(d:Rd W K [a,vS x0.Who,b] x0)(Y:Vm.zkB x0 x1=some r):Q1 78 [.agg [a,vS x0.Who,b].toArray,vI x1] W [] fun W' v=>v=vI r:=
 (c78 (d.view _) Y).ad (fk 0) fun _ _ e=>e
theorem c30 {x0 a x1 r}(x:Rd W0 [0] [a] x0)(Y:Vm.zjF x0 x1=some r):Q0 30 [a,vI x1] W0 fun Wf v=>v=vI r:=by
 unfold Vm.zjF at Y
 refine zao.of Tryz.func30 O O O O (sr (Ni O (sr (mi O (mv a O (Lw.ln x0 x O (Lw.sub O (Ni O (ssr (mi O (Lw.lt O (nl (cn Y (fun Y=>?_) fun Y=>?_)))))))))))))
 ·exact sr (Ni O (.ret (rt Y (Le.refl _ _))))
 ·refine sk (ssr (Ni O (Cw.block ?_)))
  obtain⟨B,C,Y⟩:=zaY Y
  refine Cw.loop 12 25 [1,4,5] (fun m l w=> ∃ e b d f,CW.w f=w/\Le [] W0 f/\l=[vI e,vI b,vI d]/\Vm.zf4 x0 B m e b d=some r) _ ⟨w64 (x1-(x0.length:Int)),0,0,W0,O,Le.refl _ _,O,Y⟩ ?_
  rintro(_ |G) _ _ σ ⟨e,b,d,f,rfl,y,rfl,Y⟩
  ·cases Y
  unfold Vm.zf4 at Y
  have h:=y.o
  refine ssr ?_
  have i:=x.ul h
  refine mi O (mv a O (Lw.ln x0 i O (Lw.lt O (nl (cn Y (fun Y=>?_) fun Y=>?_)))))
  ·refine sk (Cw.seq (Cw.block (sr (mv a O (mi O ?_)))))
   obtain⟨k,z,Y⟩:=ob Y
   refine Lw.r O (R.ix (α:=Commit) i z O O O) ?_
   obtain⟨x13,c14,_,r15⟩:=(i.at_ z).cells
   obtain⟨H,I,rfl,r17,r19⟩:=Commit.split r15
   refine Lw.r O (R.lda c14 O O) (mi O (ca Y (fun _=>p78 (Commit.rd (K:=[0]) k.Parents k.Who k.Tree r17 r19)) fun D E Y A=>?_))
   have F:=h.n A
   refine Ni O (sr (mi O (Lw.lt O (nl (cn Y (fun Y=>?_) fun Y=>?_)))))
   ·exact sr (Ni O (.ret (rt Y F)))
   ·exact sk (rg (mi O (Lw.add O (Ni O ((agm) ⟨D,b,w64 (d+1),E,O,(y.j A).w,O,Y⟩)))))
  ·refine Cw.exit ?_
   rw[C]at Y
   exact sr (mi O (Ni O (.ret (rt Y h))))
theorem p30 {x0 a x1 r}(b:Rd W K [a] x0)(Y:Vm.zjF x0 x1=some r):Q1 30 [a,vI x1] W [] fun W' v=>v=vI r:=
 (c30 (b.view _) Y).ad (fk 0) fun _ _ e=>e
theorem c79 {x0 x1 r}(e:Rd W0 [0] [vS x0.Name,vI x0.At] x0)(Y:Vm.zmy x0 x1=some r):Q0 79 [.agg [vS x0.Name,vI x0.At].toArray,vI x1] W0 fun Wf v=>v=vI r:=by
 unfold Vm.zmy at Y
 refine zao.of Tryz.func79 O O O O (sr (bo 2 O fun f h b d=>?_))
 have a:=b.o
 refine Ni O (sr (mi O (fl d O (Lw.r O (R.lenS O) (Lw.sub O (Ni O (ssr (mi O (Lw.lt O (nl (cn Y (fun Y=>?_) fun Y=>?_)))))))))))
 ·exact sr (Ni O (.ret (rt Y a)))
 ·exact sk (sr (mi O (Ni O (.ret (rt Y a)))))
theorem p79 {x0 x1 r}(a:Rd W K [vS x0.Name,vI x0.At] x0)(Y:Vm.zmy x0 x1=some r):Q1 79 [.agg [vS x0.Name,vI x0.At].toArray,vI x1] W [] fun W' v=>v=vI r:=
 (c79 (a.view _) Y).ad (fk 0) fun _ _ e=>e
theorem c31 {x0 a x1 r}(k:Rd W0 [0] [a] x0)(Y:Vm.zlv x0 x1=some r):Q0 31 [a,vI x1] W0 fun Wf v=>v=vI r:=by
 unfold Vm.zlv at Y
 refine zao.of Tryz.func31 O O O O (sr (Ni O (sr (mi O (mv a O (Lw.ln x0 k O (Lw.sub O (Ni O (ssr (mi O (Lw.lt O (nl (cn Y (fun Y=>?_) fun Y=>?_)))))))))))))
 ·exact sr (Ni O (.ret (rt Y (Le.refl _ _))))
 ·refine sk (ssr (Ni O (Cw.block ?_)))
  obtain⟨B,C,Y⟩:=zaY Y
  refine Cw.loop 12 25 [1,4,5] (fun m l w=> ∃ e b d f,CW.w f=w/\Le [] W0 f/\l=[vI e,vI b,vI d]/\Vm.zhU x0 B m e b d=some r) _ ⟨w64 (x1-(x0.length:Int)),0,0,W0,O,Le.refl _ _,O,Y⟩ ?_
  rintro(_ |G) _ _ σ ⟨e,b,d,f,rfl,x,rfl,Y⟩
  ·cases Y
  unfold Vm.zhU at Y
  have h:=x.o
  refine ssr ?_
  have i:=k.ul h
  refine mi O (mv a O (Lw.ln x0 i O (Lw.lt O (nl (cn Y (fun Y=>?_) fun Y=>?_)))))
  ·refine sk (Cw.seq (Cw.block (sr (mv a O (mi O ?_)))))
   obtain⟨y,z,Y⟩:=ob Y
   refine Lw.r O (R.ix (α:=Head) i z O O O) ?_
   obtain⟨x13,c14,_,r15⟩:=(i.at_ z).cells
   obtain rfl:=Head.split r15
   refine Lw.r O (R.lda c14 O O) (mi O (ca Y (fun _=>p79 (Head.rd (K:=[0]) y.Name y.At)) fun D E Y A=>?_))
   have F:=h.n A
   refine Ni O (sr (mi O (Lw.lt O (nl (cn Y (fun Y=>?_) fun Y=>?_)))))
   ·exact sr (Ni O (.ret (rt Y F)))
   ·exact sk (rg (mi O (Lw.add O (Ni O ((agm) ⟨D,b,w64 (d+1),E,O,(x.j A).w,O,Y⟩)))))
  ·refine Cw.exit ?_
   rw[C]at Y
   exact sr (mi O (Ni O (.ret (rt Y h))))
theorem p31 {x0 a x1 r}(b:Rd W K [a] x0)(Y:Vm.zlv x0 x1=some r):Q1 31 [a,vI x1] W [] fun W' v=>v=vI r:=
 (c31 (b.view _) Y).ad (fk 0) fun _ _ e=>e
theorem c6 {x0 b d x1 r}(x:Rd W0 [0] [b,d] x0)(Y:Vm.zmz x0 x1=some r):Q0 6 [.agg [b,d].toArray,vI x1] W0 fun Wf v=>v=vI r:=by
 unfold Vm.zmz at Y
 obtain⟨C,D,e,y,z⟩:=Repo.split x
 simp only[List.cons.injEq,and_true,true_and]at e
 obtain⟨rfl,rfl⟩:=e
 refine zao.of Tryz.func6 O O O O (sr (bo 2 O fun E F A f=>?_))
 have h:=A.o
 refine Ni O (sr (fl f O (mi O (ca Y (fun _=>p30 (y.ul h)) fun G H Y i=>?_))))
 have a:=h.n i
 refine Ni O (ssr (mi O (Lw.lt O (nl (cn Y (fun Y=>?_) fun Y=>?_)))))
 ·exact sr (Ni O (.ret (rt Y a)))
 ·refine sk (sr (fl (f.up i) O (mi O (ca Y (fun _=>p31 (z.ul a)) fun I J Y B=>?_))))
  have k:=a.n B
  refine Ni O (ssr (mi O (Lw.lt O (nl (cn Y (fun Y=>?_) fun Y=>?_)))))
  ·exact sr (Ni O (.ret (rt Y k)))
  ·exact sk (sr (mi O (Ni O (.ret (rt Y k)))))
theorem p6 {x0 a b x1 r}(d:Rd W K [a,b] x0)(Y:Vm.zmz x0 x1=some r):Q1 6 [.agg [a,b].toArray,vI x1] W [] fun W' v=>v=vI r:=
 (c6 (d.view _) Y).ad (fk 0) fun _ _ e=>e
theorem c32 {x0 x1 r}(e:Rd W0 [0] [vS x0.Path,vS x0.Who] x0)(Y:Vm.zlw x0 x1=some r):Q0 32 [.agg [vS x0.Path,vS x0.Who].toArray,vI x1] W0 fun Wf v=>v=vI r:=by
 unfold Vm.zlw at Y
 refine zao.of Tryz.func32 O O O O (sr (bo 2 O fun f h d b=>?_))
 have a:=d.o
 refine Ni O (sr (mi O (fl b O (Lw.r O (R.lenS O) (Lw.sub O (Ni O (ssr (mi O (Lw.lt O (nl (cn Y (fun Y=>?_) fun Y=>?_)))))))))))
 ·exact sr (Ni O (.ret (rt Y a)))
 ·refine sk (sr (mi O (fl b O (Lw.r O (R.lenS O) (Lw.sub O (Ni O (ssr (mi O (Lw.lt O (nl (cn Y (fun Y=>?_) fun Y=>?_)))))))))))
  ·exact sr (Ni O (.ret (rt Y a)))
  ·exact sk (sr (mi O (Ni O (.ret (rt Y a)))))
theorem p32 {x0 x1 r}(a:Rd W K [vS x0.Path,vS x0.Who] x0)(Y:Vm.zlw x0 x1=some r):Q1 32 [.agg [vS x0.Path,vS x0.Who].toArray,vI x1] W [] fun W' v=>v=vI r:=
 (c32 (a.view _) Y).ad (fk 0) fun _ _ e=>e
theorem c7 {x0 a x1 r}(k:Rd W0 [0] [a] x0)(Y:Vm.zkC x0 x1=some r):Q0 7 [a,vI x1] W0 fun Wf v=>v=vI r:=by
 unfold Vm.zkC at Y
 refine zao.of Tryz.func7 O O O O (sr (Ni O (sr (mi O (mv a O (Lw.ln x0 k O (Lw.sub O (Ni O (ssr (mi O (Lw.lt O (nl (cn Y (fun Y=>?_) fun Y=>?_)))))))))))))
 ·exact sr (Ni O (.ret (rt Y (Le.refl _ _))))
 ·refine sk (ssr (Ni O (Cw.block ?_)))
  obtain⟨B,C,Y⟩:=zaY Y
  refine Cw.loop 12 25 [1,4,5] (fun m l w=> ∃ e b d f,CW.w f=w/\Le [] W0 f/\l=[vI e,vI b,vI d]/\Vm.zgQ x0 B m e b d=some r) _ ⟨w64 (x1-(x0.length:Int)),0,0,W0,O,Le.refl _ _,O,Y⟩ ?_
  rintro(_ |G) _ _ σ ⟨e,b,d,f,rfl,x,rfl,Y⟩
  ·cases Y
  unfold Vm.zgQ at Y
  have h:=x.o
  refine ssr ?_
  have i:=k.ul h
  refine mi O (mv a O (Lw.ln x0 i O (Lw.lt O (nl (cn Y (fun Y=>?_) fun Y=>?_)))))
  ·refine sk (Cw.seq (Cw.block (sr (mv a O (mi O ?_)))))
   obtain⟨y,z,Y⟩:=ob Y
   refine Lw.r O (R.ix (α:=Owner) i z O O O) ?_
   obtain⟨x13,c14,_,r15⟩:=(i.at_ z).cells
   obtain rfl:=Owner.split r15
   refine Lw.r O (R.lda c14 O O) (mi O (ca Y (fun _=>p32 (Owner.rd (K:=[0]) y.Path y.Who)) fun D E Y A=>?_))
   have F:=h.n A
   refine Ni O (sr (mi O (Lw.lt O (nl (cn Y (fun Y=>?_) fun Y=>?_)))))
   ·exact sr (Ni O (.ret (rt Y F)))
   ·exact sk (rg (mi O (Lw.add O (Ni O ((agm) ⟨D,b,w64 (d+1),E,O,(x.j A).w,O,Y⟩)))))
  ·refine Cw.exit ?_
   rw[C]at Y
   exact sr (mi O (Ni O (.ret (rt Y h))))
theorem p7 {x0 a x1 r}(b:Rd W K [a] x0)(Y:Vm.zkC x0 x1=some r):Q1 7 [a,vI x1] W [] fun W' v=>v=vI r:=
 (c7 (b.view _) Y).ad (fk 0) fun _ _ e=>e
theorem c8 {x0 d x1 r}(h:Rd W0 [0] [vS x0.Branch,vS x0.Into,vS x0.By,d] x0)(Y:Vm.zkD x0 x1=some r):Q0 8 [.agg [vS x0.Branch,vS x0.Into,vS x0.By,d].toArray,vI x1] W0 fun Wf v=>v=vI r:=by
 unfold Vm.zkD at Y
 obtain⟨y,e,i⟩:=Review.split h
 simp only[List.cons.injEq,and_true,true_and]at e
 obtain rfl:=e
 refine zao.of Tryz.func8 O O O O (sr (bo 2 O fun z A k b=>?_))
 have a:=k.o
 refine Ni O (sr (mi O (fl b O (Lw.r O (R.lenS O) (Lw.sub O (Ni O (ssr (mi O (Lw.lt O (nl (cn Y (fun Y=>?_) fun Y=>?_)))))))))))
 ·exact sr (Ni O (.ret (rt Y a)))
 ·refine sk (sr (mi O (fl b O (Lw.r O (R.lenS O) (Lw.sub O (Ni O (ssr (mi O (Lw.lt O (nl (cn Y (fun Y=>?_) fun Y=>?_)))))))))))
  ·exact sr (Ni O (.ret (rt Y a)))
  ·refine sk (sr (mi O (fl b O (Lw.r O (R.lenS O) (Lw.sub O (Ni O (ssr (mi O (Lw.lt O (nl (cn Y (fun Y=>?_) fun Y=>?_)))))))))))
   ·exact sr (Ni O (.ret (rt Y a)))
   ·refine sk (sr (fl b O (mi O (ca Y (fun _=>p33 (i.ul a)) fun B C Y x=>?_))))
    have f:=a.n x
    refine Ni O (ssr (mi O (Lw.lt O (nl (cn Y (fun Y=>?_) fun Y=>?_)))))
    ·exact sr (Ni O (.ret (rt Y f)))
    ·exact sk (sr (mi O (Ni O (.ret (rt Y f)))))
theorem p8 {x0 a x1 r}(b:Rd W K [vS x0.Branch,vS x0.Into,vS x0.By,a] x0)(Y:Vm.zkD x0 x1=some r):Q1 8 [.agg [vS x0.Branch,vS x0.Into,vS x0.By,a].toArray,vI x1] W [] fun W' v=>v=vI r:=
 (c8 (b.view _) Y).ad (fk 0) fun _ _ e=>e
theorem c141 {x0 b r}(d:Rd W0 [0] [b] x0)(Y:Vm.zmA x0=some r):Q0 141 [b] W0 fun Wf v=> ∃ x,v=x/\OwS Wf LL [] [x] r:=by
 unfold Vm.zmA at Y
 refine zao.of Tryz.func141 O O O O (sr (Nv (.slice none 0 0) O (sr (mv b O (Lw.ln x0 d O ?_)))))
 obtain⟨B,C,Y⟩:=ob Y
 refine Lw.t O (T.mk (α:=Int) 2 [] (n:=(x0.length:Int)) O O C) ?_
 rintro a _ ⟨y,rfl,D,E⟩
 have F:=D.o
 refine Nv a O (ssr (Ni O (Cw.block ?_)))
 obtain⟨G,H,Y⟩:=zaY Y
 refine Cw.loop 8 20 [4] (fun m l w=> ∃ e i f,CW.w f=w/\Le [2] y f/\l=[vI e]/\Ow f 2 [] [a] i/\Vm.ziz x0 G m e i=some r) _ ⟨0,B,y,O,Le.refl _ _,O,E,Y⟩ ?_
 rintro(_ |P) _ _ σ ⟨e,i,f,rfl,z,rfl,k,Y⟩
 ·cases Y
 unfold Vm.ziz at Y
 have h:=F.t z
 refine ssr (mi O (mv b O (Lw.ln x0 (d.ul h) O (Lw.lt O (nl (cn Y (fun Y=>?_) fun Y=>?_))))))
 ·refine sk (Cw.seq (Cw.block (rg (mv a O (mi O (mv b O (mi O ?_)))))))
  obtain⟨Q,A,Y⟩:=ob Y
  refine Lw.r O (R.ix (α:=Int) (d.ul h) A O O O) (Lw.r O (R.ld O O ((d.ul h).at_ A).int) ?_)
  obtain⟨S,I,Y⟩:=ob Y
  refine Lw.r O (R.ix (α:=Int) k.rd I O O O) ?_
  obtain⟨J,K,Y⟩:=ob Y
  refine Lw.u (T.stS (K':=[]) k (rdI _) K O O O) ?_
  rintro _ _ ⟨L,rfl,M,N⟩
  exact nl (rg (mi O (Lw.add O (Ni O ((agm) ⟨w64 (e+1),J,L,O,(z.j M).w,O,N,Y⟩)))))
 ·refine Cw.exit ?_
  rw[H]at Y
  refine sr (mv a O (Nv a O ?_))
  cases Y
  exact Cw.ret (zik O (Res.mk h ⟨a,O,k.s.sub O O⟩))
theorem p141 {x0 b k0 r}(d:Rd W K [b] x0)(Y:Vm.zmA x0=some r):Q1 141 [b] W [] fun W' v=> ∃ a,v=a/\Ow W' k0 [] [a] r:=
 (c141 (d.view _) Y).ad (fk k0) fun _ _ ⟨a,e,f⟩=>⟨a,e,f.back (zgv _)⟩
theorem c41 {x0 b r}(d:Rd W0 [0] [b] x0)(Y:Vm.zgk x0=some r):Q0 41 [b] W0 fun Wf v=> ∃ x,v=x/\OwS Wf LL [] [x] r:=by
 unfold Vm.zgk at Y
 refine zao.of Tryz.func41 O O O O (sr (Nv (.slice none 0 0) O (sr (mv b O (Lw.ln x0 d O ?_)))))
 obtain⟨B,C,Y⟩:=ob Y
 refine Lw.t O (T.mk (α:=Str) 2 [] (n:=(x0.length:Int)) O O C) ?_
 rintro a _ ⟨y,rfl,D,E⟩
 have F:=D.o
 refine Nv a O (ssr (Ni O (Cw.block ?_)))
 obtain⟨G,H,Y⟩:=zaY Y
 refine Cw.loop 8 20 [4] (fun m l w=> ∃ e i f,CW.w f=w/\Le [2] y f/\l=[vI e]/\Ow f 2 [] [a] i/\Vm.zdW x0 G m e i=some r) _ ⟨0,B,y,O,Le.refl _ _,O,E,Y⟩ ?_
 rintro(_ |P) _ _ σ ⟨e,i,f,rfl,z,rfl,k,Y⟩
 ·cases Y
 unfold Vm.zdW at Y
 have h:=F.t z
 refine ssr (mi O (mv b O (Lw.ln x0 (d.ul h) O (Lw.lt O (nl (cn Y (fun Y=>?_) fun Y=>?_))))))
 ·refine sk (Cw.seq (Cw.block (rg (mv a O (mi O (mv b O (mi O ?_)))))))
  obtain⟨Q,A,Y⟩:=ob Y
  refine Lw.r O (R.ix (α:=Str) (d.ul h) A O O O) (Lw.r O (R.ld O O ((d.ul h).at_ A).str) ?_)
  obtain⟨S,I,Y⟩:=ob Y
  refine Lw.r O (R.ix (α:=Str) k.rd I O O O) ?_
  obtain⟨J,K,Y⟩:=ob Y
  refine Lw.u (T.stS (K':=[]) k (rdS _) K O O O) ?_
  rintro _ _ ⟨L,rfl,M,N⟩
  exact nl (rg (mi O (Lw.add O (Ni O ((agm) ⟨w64 (e+1),J,L,O,(z.j M).w,O,N,Y⟩)))))
 ·refine Cw.exit ?_
  rw[H]at Y
  refine sr (mv a O (Nv a O ?_))
  cases Y
  exact Cw.ret (zik O (Res.mk h ⟨a,O,k.s.sub O O⟩))
theorem p41 {x0 b k0 r}(d:Rd W K [b] x0)(Y:Vm.zgk x0=some r):Q1 41 [b] W [] fun W' v=> ∃ a,v=a/\Ow W' k0 [] [a] r:=
 (c41 (d.view _) Y).ad (fk k0) fun _ _ ⟨a,e,f⟩=>⟨a,e,f.back (zgv _)⟩
theorem c171 {x0 f r}(B:Rd W0 [0] [vS x0.Path,f] x0)(Y:Vm.zmB x0=some r):Q0 171 [.agg [vS x0.Path,f].toArray] W0 fun Wf v=> ∃ h,v = .agg [vS r.Path,h].toArray/\OwS Wf LL [] [h] r.Text:=by
 unfold Vm.zmB at Y
 obtain⟨R,i,C⟩:=File.split B
 simp only[List.cons.injEq,and_true,true_and]at i
 obtain rfl:=i
 refine zao.of Tryz.func171 O O O O (sr (bo 2 O fun S U D E=>?_))
 have F:=D.o
 refine al 3 [vS ([]:Str), .slice none 0 0] fun V W k G=>?_
 have H:=F.n k
 refine nl (sr (al 4 [vS ([]:Str), .slice none 0 0] fun X Z b I=>?_))
 have J:=H.n b
 have x:=(E.up k).up b
 refine nl (sr (fl x O (Lw.fa O (Lw.u (T.st (j:=0) (v:=vS x0.Path) I O O O O O) ?_))))
 rintro _ _ ⟨aa,rfl,l10,K⟩
 have y:=J.t l10
 refine nl (sr (fl (x.up l10) O (cr Y (fun _=>p41 (k0:=5) (C.ul y)) ?_)))
 rintro ac z ae Y d ⟨_,rfl,e⟩
 have L:=y.n d
 refine Lw.fa O (Lw.u (T.st (j:=1) (v:=z) (K.up d) O O e.oc O O) ?_)
 rintro _ _ ⟨af,rfl,a,M⟩
 have N:=L.t a
 refine nl (sr (la M (sta ((((G.up b).up l10).up d).up a) (zaa O (zaa (e.up a).oc zaG)) fun ah A P=>?_)))
 have Q:=N.t A
 refine nl ?_
 cases Y
 exact Cw.ret (zn3 O P (Res.mk Q ⟨z,O,((e.up a).up A).s.sub O O⟩))
theorem p171 {x0 b k0 r}(d:Rd W K [vS x0.Path,b] x0)(Y:Vm.zmB x0=some r):Q1 171 [.agg [vS x0.Path,b].toArray] W [] fun W' v=> ∃ a,v = .agg [vS r.Path,a].toArray/\Ow W' k0 [] [a] r.Text:=
 (c171 (d.view _) Y).ad (fk k0) fun _ _ ⟨a,e,f⟩=>⟨a,e,f.back (zgv _)⟩
theorem c142 {x0 b r}(d:Rd W0 [0] [b] x0)(Y:Vm.zlx x0=some r):Q0 142 [b] W0 fun Wf v=> ∃ y,v=y/\OwS Wf LL [] [y] r:=by
 unfold Vm.zlx at Y
 refine zao.of Tryz.func142 O O O O (sr (Nv (.slice none 0 0) O (sr (mv b O (Lw.ln x0 d O ?_)))))
 obtain⟨E,F,Y⟩:=ob Y
 refine Lw.t O (T.mk (α:=File) 2 [] (n:=(x0.length:Int)) O O F) ?_
 rintro a _ ⟨z,rfl,G,H⟩
 have I:=G.o
 refine Nv a O (ssr (Ni O (Cw.block ?_)))
 obtain⟨L,M,Y⟩:=zaY Y
 refine Cw.loop 8 21 [4] (fun m l w=> ∃ e i f,CW.w f=w/\Le [2,3] z f/\l=[vI e]/\Ow f 2 [] [a] i/\Vm.zhV x0 L m e i=some r) _ ⟨0,E,z,O,Le.refl _ _,O,H,Y⟩ ?_
 rintro(_ |X) _ _ σ ⟨e,i,f,rfl,A,rfl,k,Y⟩
 ·cases Y
 unfold Vm.zhV at Y
 have h:=I.t A
 refine ssr (mi O (mv b O (Lw.ln x0 (d.ul h) O (Lw.lt O (nl (cn Y (fun Y=>?_) fun Y=>?_))))))
 ·refine sk (Cw.seq (Cw.block (rg (mv a O (mi O (mv b O (mi O ?_)))))))
  obtain⟨B,C,Y⟩:=ob Y
  refine Lw.r O (R.ix (α:=File) (d.ul h) C O O O) ?_
  obtain⟨x16,c17,_,r18⟩:=((d.ul h).at_ C).cells
  obtain⟨Z,rfl,r20⟩:=File.split r18
  refine Lw.r O (R.lda c17 O O) (cr Y (fun _=>p171 (k0:=3) (File.rd (K:=[0]) B.Path B.Text r20)) ?_)
  rintro D _ aa Y x ⟨ac,rfl,N⟩
  obtain⟨ae,P,Y⟩:=ob Y
  refine Lw.r O (R.ix (α:=File) (k.up x).rd P O O O) ?_
  obtain⟨Q,S,Y⟩:=ob Y
  refine Lw.u (T.stO (J:=[3]) (k.up x) (File.own D.Path D.Text N.s) S O O O) ?_
  rintro _ _ ⟨U,rfl,V,W⟩
  exact nl (rg (mi O (Lw.add O (Ni O ((agm) ⟨w64 (e+1),Q,U,O,((A.j x).j V).w,O,W,Y⟩)))))
 ·refine Cw.exit ?_
  rw[M]at Y
  refine sr (mv a O (Nv a O ?_))
  cases Y
  exact Cw.ret (zik O (Res.mk h ⟨a,O,k.s.sub O O⟩))
theorem p142 {x0 b k0 r}(d:Rd W K [b] x0)(Y:Vm.zlx x0=some r):Q1 142 [b] W [] fun W' v=> ∃ a,v=a/\Ow W' k0 [] [a] r:=
 (c142 (d.view _) Y).ad (fk k0) fun _ _ ⟨a,e,f⟩=>⟨a,e,f.back (zgv _)⟩
theorem c90 {x0 z A r}(N:Rd W0 [0] [z,vS x0.Who,A] x0)(Y:Vm.zkE x0=some r):Q0 90 [.agg [z,vS x0.Who,A].toArray] W0 fun Wf v=> ∃ B C,v = .agg [B,vS r.Who,C].toArray/\OwS Wf [31] [] [B] r.Parents/\OwS Wf [32] [] [C] r.Tree:=by
 unfold Vm.zkE at Y
 obtain⟨au,av,D,P,Q⟩:=Commit.split N
 simp only[List.cons.injEq,and_true,true_and]at D
 obtain⟨rfl,rfl⟩:=D
 refine zao.of Tryz.func90 O O O O (sr (bo 2 O fun g1 W1 R S=>?_))
 have U:=R.o
 refine al 3 [.slice none 0 0,vS ([]:Str), .slice none 0 0] fun g3 W3 E V=>?_
 have W:=U.n E
 refine nl (sr (al 4 [.slice none 0 0,vS ([]:Str), .slice none 0 0] fun g6 W6 h X=>?_))
 have F:=W.n h
 have G:=(S.up E).up h
 refine nl (sr (fl G O (cr Y (fun _=>p141 (k0:=5) (P.ul F)) ?_)))
 rintro a3 H a5 Y b ⟨_,rfl,I⟩
 have Z:=F.n b
 refine Lw.fa O (Lw.u (T.st (j:=0) (v:=H) (X.up b) O O I.oc O O) ?_)
 rintro _ _ ⟨a6,rfl,d,aa⟩
 have ac:=Z.t d
 have J:=(G.up b).up d
 refine nl (sr (fl J O (Lw.fa O (Lw.u (T.st (j:=1) (v:=vS x0.Who) aa O O O O O) ?_))))
 rintro _ _ ⟨a8,rfl,e,ae⟩
 have K:=ac.t e
 refine nl (sr (fl (J.up e) O (cr Y (fun _=>p142 (k0:=6) (Q.ul K)) ?_)))
 rintro a9 L ba Y f ⟨_,rfl,i⟩
 have af:=K.n f
 refine Lw.fa O (Lw.u (T.st (j:=2) (v:=L) (ae.up f) O O i.oc O O) ?_)
 rintro _ _ ⟨bb,rfl,a,ah⟩
 have ai:=af.t a
 have M:=(((I.up d).up e).up f).up a
 refine nl (sr (la ah (sta ((((((V.up h).up b).up d).up e).up f).up a) (zaa M.oc (zaa O (zaa (i.up a).oc zaG))) fun bc k aj=>?_)))
 have ak:=ai.t k
 refine nl ?_
 obtain⟨be,am,x,an⟩:=(M.up k).dyeO 31
 have ao:=ak.t x
 obtain⟨bg,ap,y,aq⟩:=(((i.up a).up k).up x).dyeO 32
 have ar:=ao.t y
 cases Y
 rw[<- ap.trans (am)]
 exact Cw.ret (zn3 O ((aj.up x).up y) (Res.mk ar ⟨H,L,O,(an.up y).s,aq.s⟩))
theorem p90 {x0 d f k0 k1 r}(h:Rd W K [d,vS x0.Who,f] x0)(Y:Vm.zkE x0=some r):Q1 90 [.agg [d,vS x0.Who,f].toArray] W [] fun W' v=> ∃ a b,v = .agg [a,vS r.Who,b].toArray/\Ow W' k0 [] [a] r.Parents/\Ow W' k1 [] [b] r.Tree:=
 zao.adJ (J:=[]) (fun c=>bif Nat.beq c 0 then 0 else bif Nat.beq c 31 then k0 else bif Nat.beq c 32 then k1 else 0) (c90 (h.view _) Y) fun _ _ ⟨a,b,e,i,k⟩=>⟨a,b,e,i.one1.backN O,k.one1.backN O⟩
theorem c38 {x0 b r}(d:Rd W0 [0] [b] x0)(Y:Vm.zjG x0=some r):Q0 38 [b] W0 fun Wf v=> ∃ A,v=A/\OwS Wf LL [] [A] r:=by
 unfold Vm.zjG at Y
 refine zao.of Tryz.func38 O O O O (sr (Nv (.slice none 0 0) O (sr (mv b O (Lw.ln x0 d O ?_)))))
 obtain⟨E,F,Y⟩:=ob Y
 refine Lw.t O (T.mk (α:=Commit) 2 [] (n:=(x0.length:Int)) O O F) ?_
 rintro a _ ⟨B,rfl,G,H⟩
 have I:=G.o
 refine Nv a O (ssr (Ni O (Cw.block ?_)))
 obtain⟨L,M,Y⟩:=zaY Y
 refine Cw.loop 8 21 [4] (fun m l w=> ∃ e i f,CW.w f=w/\Le [2,3,4] B f/\l=[vI e]/\Ow f 2 [] [a] i/\Vm.zf5 x0 L m e i=some r) _ ⟨0,E,B,O,Le.refl _ _,O,H,Y⟩ ?_
 rintro(_ |Z) _ _ σ ⟨e,i,f,rfl,C,rfl,k,Y⟩
 ·cases Y
 unfold Vm.zf5 at Y
 have h:=I.t C
 refine ssr (mi O (mv b O (Lw.ln x0 (d.ul h) O (Lw.lt O (nl (cn Y (fun Y=>?_) fun Y=>?_))))))
 ·refine sk (Cw.seq (Cw.block (rg (mv a O (mi O (mv b O (mi O ?_)))))))
  obtain⟨x,D,Y⟩:=ob Y
  refine Lw.r O (R.ix (α:=Commit) (d.ul h) D O O O) ?_
  obtain⟨x16,c17,_,r18⟩:=((d.ul h).at_ D).cells
  obtain⟨aa,ac,rfl,r20,r22⟩:=Commit.split r18
  refine Lw.r O (R.lda c17 O O) (cr Y (fun _=>p90 (k0:=3) (k1:=4) (Commit.rd (K:=[0]) x.Parents x.Who x.Tree r20 r22)) ?_)
  rintro y _ ae Y z ⟨af,ah,rfl,N,P⟩
  obtain⟨ai,Q,Y⟩:=ob Y
  refine Lw.r O (R.ix (α:=Commit) (k.up z).rd Q O O O) ?_
  obtain⟨S,U,Y⟩:=ob Y
  refine Lw.u (T.stO (J:=[3,4]) (k.up z) (Commit.own y.Parents y.Who y.Tree N.s P.s) U O O O) ?_
  rintro _ _ ⟨V,rfl,W,X⟩
  exact nl (rg (mi O (Lw.add O (Ni O ((agm) ⟨w64 (e+1),S,V,O,((C.j z).j W).w,O,X,Y⟩)))))
 ·refine Cw.exit ?_
  rw[M]at Y
  refine sr (mv a O (Nv a O ?_))
  cases Y
  exact Cw.ret (zik O (Res.mk h ⟨a,O,k.s.sub O O⟩))
theorem p38 {x0 b k0 r}(d:Rd W K [b] x0)(Y:Vm.zjG x0=some r):Q1 38 [b] W [] fun W' v=> ∃ a,v=a/\Ow W' k0 [] [a] r:=
 (c38 (d.view _) Y).ad (fk k0) fun _ _ ⟨a,e,f⟩=>⟨a,e,f.back (zgv _)⟩
theorem c91 {x0 r}(H:Rd W0 [0] [vS x0.Name,vI x0.At] x0)(Y:Vm.zmC x0=some r):Q0 91 [.agg [vS x0.Name,vI x0.At].toArray] W0 fun Wf v=>v = .agg [vS r.Name,vI r.At].toArray:=by
 unfold Vm.zmC at Y
 refine zao.of Tryz.func91 O O O O (sr (bo 2 O fun I J f h=>?_))
 have i:=f.o
 refine al 3 [vS ([]:Str),vI 0] fun K L b k=>?_
 have x:=i.n b
 refine nl (sr (al 4 [vS ([]:Str),vI 0] fun M N a y=>?_))
 have z:=x.n a
 have d:=(h.up b).up a
 refine nl (sr (fl d O (Lw.fa O (Lw.u (T.st (j:=0) (v:=vS x0.Name) y O O O O O) ?_))))
 rintro _ _ ⟨P,rfl,l10,A⟩
 have B:=z.t l10
 refine nl (sr (fl (d.up l10) O (Lw.fa O (Lw.u (T.st (j:=1) (v:=vI x0.At) A O O O O O) ?_))))
 rintro _ _ ⟨Q,rfl,e,C⟩
 have D:=B.t e
 refine nl (sr (la C (sta (((k.up a).up l10).up e) (zaa O (zaa O zaG)) fun R E F=>?_)))
 have G:=D.t E
 refine nl ?_
 cases Y
 exact Cw.ret (zn3 O F (Res.mk G O))
theorem p91 {x0 r}(a:Rd W K [vS x0.Name,vI x0.At] x0)(Y:Vm.zmC x0=some r):Q1 91 [.agg [vS x0.Name,vI x0.At].toArray] W [] fun W' v=>v = .agg [vS r.Name,vI r.At].toArray:=
 (c91 (a.view _) Y).ad (fk 0) fun _ _ e=>e
theorem c39 {x0 b r}(d:Rd W0 [0] [b] x0)(Y:Vm.zly x0=some r):Q0 39 [b] W0 fun Wf v=> ∃ y,v=y/\OwS Wf LL [] [y] r:=by
 unfold Vm.zly at Y
 refine zao.of Tryz.func39 O O O O (sr (Nv (.slice none 0 0) O (sr (mv b O (Lw.ln x0 d O ?_)))))
 obtain⟨E,F,Y⟩:=ob Y
 refine Lw.t O (T.mk (α:=Head) 2 [] (n:=(x0.length:Int)) O O F) ?_
 rintro a _ ⟨z,rfl,G,H⟩
 have I:=G.o
 refine Nv a O (ssr (Ni O (Cw.block ?_)))
 obtain⟨J,L,Y⟩:=zaY Y
 refine Cw.loop 8 21 [4] (fun m l w=> ∃ e i f,CW.w f=w/\Le [2] z f/\l=[vI e]/\Ow f 2 [] [a] i/\Vm.zhW x0 J m e i=some r) _ ⟨0,E,z,O,Le.refl _ _,O,H,Y⟩ ?_
 rintro(_ |V) _ _ σ ⟨e,i,f,rfl,A,rfl,k,Y⟩
 ·cases Y
 unfold Vm.zhW at Y
 have h:=I.t A
 refine ssr (mi O (mv b O (Lw.ln x0 (d.ul h) O (Lw.lt O (nl (cn Y (fun Y=>?_) fun Y=>?_))))))
 ·refine sk (Cw.seq (Cw.block (rg (mv a O (mi O (mv b O (mi O ?_)))))))
  obtain⟨B,C,Y⟩:=ob Y
  refine Lw.r O (R.ix (α:=Head) (d.ul h) C O O O) ?_
  obtain⟨x16,c17,_,r18⟩:=((d.ul h).at_ C).cells
  obtain rfl:=Head.split r18
  refine Lw.r O (R.lda c17 O O) (ca Y (fun _=>p91 (Head.rd (K:=[0]) B.Name B.At)) fun D W Y x=>?_)
  obtain⟨X,M,Y⟩:=ob Y
  refine Lw.r O (R.ix (α:=Head) (k.up x).rd M O O O) ?_
  obtain⟨N,P,Y⟩:=ob Y
  refine Lw.u (T.stS (K':=[]) (k.up x) (Head.rd (K:=[]) D.Name D.At) P O O O) ?_
  rintro _ _ ⟨Q,rfl,S,U⟩
  exact nl (rg (mi O (Lw.add O (Ni O ((agm) ⟨w64 (e+1),N,Q,O,((A.j x).j S).w,O,U,Y⟩)))))
 ·refine Cw.exit ?_
  rw[L]at Y
  refine sr (mv a O (Nv a O ?_))
  cases Y
  exact Cw.ret (zik O (Res.mk h ⟨a,O,k.s.sub O O⟩))
theorem p39 {x0 b k0 r}(d:Rd W K [b] x0)(Y:Vm.zly x0=some r):Q1 39 [b] W [] fun W' v=> ∃ a,v=a/\Ow W' k0 [] [a] r:=
 (c39 (d.view _) Y).ad (fk k0) fun _ _ ⟨a,e,f⟩=>⟨a,e,f.back (zgv _)⟩
theorem c10 {x0 y z r}(L:Rd W0 [0] [y,z] x0)(Y:Vm.zjk x0=some r):Q0 10 [.agg [y,z].toArray] W0 fun Wf v=> ∃ A B,v = .agg [A,B].toArray/\OwS Wf [31] [] [A] r.Commits/\OwS Wf [32] [] [B] r.Heads:=by
 unfold Vm.zjk at Y
 obtain⟨ao,ap,C,M,N⟩:=Repo.split L
 simp only[List.cons.injEq,and_true,true_and]at C
 obtain⟨rfl,rfl⟩:=C
 refine zao.of Tryz.func10 O O O O (sr (bo 2 O fun g1 W1 P Q=>?_))
 have R:=P.o
 refine al 3 [.slice none 0 0, .slice none 0 0] fun g3 W3 D S=>?_
 have U:=R.n D
 refine nl (sr (al 4 [.slice none 0 0, .slice none 0 0] fun g6 W6 f V=>?_))
 have E:=U.n f
 have F:=(Q.up D).up f
 refine nl (sr (fl F O (cr Y (fun _=>p38 (k0:=5) (M.ul E)) ?_)))
 rintro ay G az Y b ⟨_,rfl,H⟩
 have W:=E.n b
 refine Lw.fa O (Lw.u (T.st (j:=0) (v:=G) (V.up b) O O H.oc O O) ?_)
 rintro _ _ ⟨a0,rfl,d,X⟩
 have I:=W.t d
 refine nl (sr (fl ((F.up b).up d) O (cr Y (fun _=>p39 (k0:=6) (N.ul I)) ?_)))
 rintro a1 J a3 Y e ⟨_,rfl,h⟩
 have Z:=I.n e
 refine Lw.fa O (Lw.u (T.st (j:=1) (v:=J) (X.up e) O O h.oc O O) ?_)
 rintro _ _ ⟨a5,rfl,a,aa⟩
 have ac:=Z.t a
 have K:=((H.up d).up e).up a
 refine nl (sr (la aa (sta (((((S.up f).up b).up d).up e).up a) (zaa K.oc (zaa (h.up a).oc zaG)) fun a6 i ae=>?_)))
 have af:=ac.t i
 refine nl ?_
 obtain⟨a8,ah,k,ai⟩:=(K.up i).dyeO 31
 have aj:=af.t k
 obtain⟨a9,ak,x,am⟩:=(((h.up a).up i).up k).dyeO 32
 have an:=aj.t x
 cases Y
 rw[<- ak.trans (ah)]
 exact Cw.ret (zn3 O ((ae.up k).up x) (Res.mk an ⟨G,J,O,(ai.up x).s,am.s⟩))
theorem p10 {x0 d f k0 k1 r}(h:Rd W K [d,f] x0)(Y:Vm.zjk x0=some r):Q1 10 [.agg [d,f].toArray] W [] fun W' v=> ∃ a b,v = .agg [a,b].toArray/\Ow W' k0 [] [a] r.Commits/\Ow W' k1 [] [b] r.Heads:=
 zao.adJ (J:=[]) (fun c=>bif Nat.beq c 0 then 0 else bif Nat.beq c 31 then k0 else bif Nat.beq c 32 then k1 else 0) (c10 (h.view _) Y) fun _ _ ⟨a,b,e,i,k⟩=>⟨a,b,e,i.one1.backN O,k.one1.backN O⟩
theorem c40 {x0 r}(H:Rd W0 [0] [vS x0.Path,vS x0.Who] x0)(Y:Vm.zlz x0=some r):Q0 40 [.agg [vS x0.Path,vS x0.Who].toArray] W0 fun Wf v=>v = .agg [vS r.Path,vS r.Who].toArray:=by
 unfold Vm.zlz at Y
 refine zao.of Tryz.func40 O O O O (sr (bo 2 O fun I J f h=>?_))
 have i:=f.o
 refine al 3 [vS ([]:Str),vS ([]:Str)] fun K L b k=>?_
 have x:=i.n b
 refine nl (sr (al 4 [vS ([]:Str),vS ([]:Str)] fun M N a y=>?_))
 have z:=x.n a
 have d:=(h.up b).up a
 refine nl (sr (fl d O (Lw.fa O (Lw.u (T.st (j:=0) (v:=vS x0.Path) y O O O O O) ?_))))
 rintro _ _ ⟨P,rfl,l10,A⟩
 have B:=z.t l10
 refine nl (sr (fl (d.up l10) O (Lw.fa O (Lw.u (T.st (j:=1) (v:=vS x0.Who) A O O O O O) ?_))))
 rintro _ _ ⟨Q,rfl,e,C⟩
 have D:=B.t e
 refine nl (sr (la C (sta (((k.up a).up l10).up e) (zaa O (zaa O zaG)) fun R E F=>?_)))
 have G:=D.t E
 refine nl ?_
 cases Y
 exact Cw.ret (zn3 O F (Res.mk G O))
theorem p40 {x0 r}(a:Rd W K [vS x0.Path,vS x0.Who] x0)(Y:Vm.zlz x0=some r):Q1 40 [.agg [vS x0.Path,vS x0.Who].toArray] W [] fun W' v=>v = .agg [vS r.Path,vS r.Who].toArray:=
 (c40 (a.view _) Y).ad (fk 0) fun _ _ e=>e
theorem c11 {x0 b r}(d:Rd W0 [0] [b] x0)(Y:Vm.zha x0=some r):Q0 11 [b] W0 fun Wf v=> ∃ y,v=y/\OwS Wf LL [] [y] r:=by
 unfold Vm.zha at Y
 refine zao.of Tryz.func11 O O O O (sr (Nv (.slice none 0 0) O (sr (mv b O (Lw.ln x0 d O ?_)))))
 obtain⟨E,F,Y⟩:=ob Y
 refine Lw.t O (T.mk (α:=Owner) 2 [] (n:=(x0.length:Int)) O O F) ?_
 rintro a _ ⟨z,rfl,G,H⟩
 have I:=G.o
 refine Nv a O (ssr (Ni O (Cw.block ?_)))
 obtain⟨J,L,Y⟩:=zaY Y
 refine Cw.loop 8 21 [4] (fun m l w=> ∃ e i f,CW.w f=w/\Le [2] z f/\l=[vI e]/\Ow f 2 [] [a] i/\Vm.zgR x0 J m e i=some r) _ ⟨0,E,z,O,Le.refl _ _,O,H,Y⟩ ?_
 rintro(_ |V) _ _ σ ⟨e,i,f,rfl,A,rfl,k,Y⟩
 ·cases Y
 unfold Vm.zgR at Y
 have h:=I.t A
 refine ssr (mi O (mv b O (Lw.ln x0 (d.ul h) O (Lw.lt O (nl (cn Y (fun Y=>?_) fun Y=>?_))))))
 ·refine sk (Cw.seq (Cw.block (rg (mv a O (mi O (mv b O (mi O ?_)))))))
  obtain⟨B,C,Y⟩:=ob Y
  refine Lw.r O (R.ix (α:=Owner) (d.ul h) C O O O) ?_
  obtain⟨x16,c17,_,r18⟩:=((d.ul h).at_ C).cells
  obtain rfl:=Owner.split r18
  refine Lw.r O (R.lda c17 O O) (ca Y (fun _=>p40 (Owner.rd (K:=[0]) B.Path B.Who)) fun D W Y x=>?_)
  obtain⟨X,M,Y⟩:=ob Y
  refine Lw.r O (R.ix (α:=Owner) (k.up x).rd M O O O) ?_
  obtain⟨N,P,Y⟩:=ob Y
  refine Lw.u (T.stS (K':=[]) (k.up x) (Owner.rd (K:=[]) D.Path D.Who) P O O O) ?_
  rintro _ _ ⟨Q,rfl,S,U⟩
  exact nl (rg (mi O (Lw.add O (Ni O ((agm) ⟨w64 (e+1),N,Q,O,((A.j x).j S).w,O,U,Y⟩)))))
 ·refine Cw.exit ?_
  rw[L]at Y
  refine sr (mv a O (Nv a O ?_))
  cases Y
  exact Cw.ret (zik O (Res.mk h ⟨a,O,k.s.sub O O⟩))
theorem p11 {x0 b k0 r}(d:Rd W K [b] x0)(Y:Vm.zha x0=some r):Q1 11 [b] W [] fun W' v=> ∃ a,v=a/\Ow W' k0 [] [a] r:=
 (c11 (d.view _) Y).ad (fk k0) fun _ _ ⟨a,e,f⟩=>⟨a,e,f.back (zgv _)⟩
theorem c12 {x0 k r}(E:Rd W0 [0] [vS x0.Branch,vS x0.Into,vS x0.By,k] x0)(Y:Vm.zhb x0=some r):Q0 12 [.agg [vS x0.Branch,vS x0.Into,vS x0.By,k].toArray] W0 fun Wf v=> ∃ x,v = .agg [vS r.Branch,vS r.Into,vS r.By,x].toArray/\OwS Wf LL [] [x] r.Yes:=by
 unfold Vm.zhb at Y
 obtain⟨aa,y,F⟩:=Review.split E
 simp only[List.cons.injEq,and_true,true_and]at y
 obtain rfl:=y
 refine zao.of Tryz.func12 O O O O (sr (bo 2 O fun g1 W1 G H=>?_))
 have I:=G.o
 refine al 3 [vS ([]:Str),vS ([]:Str),vS ([]:Str), .slice none 0 0] fun g3 W3 z J=>?_
 have K:=I.n z
 refine nl (sr (al 4 [vS ([]:Str),vS ([]:Str),vS ([]:Str), .slice none 0 0] fun g6 W6 b L=>?_))
 have M:=K.n b
 have d:=(H.up z).up b
 refine nl (sr (fl d O (Lw.fa O (Lw.u (T.st (j:=0) (v:=vS x0.Branch) L O O O O O) ?_))))
 rintro _ _ ⟨ak,rfl,l10,N⟩
 have P:=M.t l10
 refine nl (sr (fl (d.up l10) O (Lw.fa O (Lw.u (T.st (j:=1) (v:=vS x0.Into) N O O O O O) ?_))))
 rintro _ _ ⟨am,rfl,e,Q⟩
 have R:=P.t e
 have A:=(d.up l10).up e
 refine nl (sr (fl A O (Lw.fa O (Lw.u (T.st (j:=2) (v:=vS x0.By) Q O O O O O) ?_))))
 rintro _ _ ⟨an,rfl,f,S⟩
 have B:=R.t f
 refine nl (sr (fl (A.up f) O (cr Y (fun _=>p41 (k0:=5) (F.ul B)) ?_)))
 rintro ao C ap Y h ⟨_,rfl,i⟩
 have U:=B.n h
 refine Lw.fa O (Lw.u (T.st (j:=3) (v:=C) (S.up h) O O i.oc O O) ?_)
 rintro _ _ ⟨aq,rfl,a,V⟩
 have W:=U.t a
 refine nl (sr (la V (sta ((((((J.up b).up l10).up e).up f).up h).up a) (zaa O (zaa O (zaa O (zaa (i.up a).oc zaG)))) fun ar D X=>?_)))
 have Z:=W.t D
 refine nl ?_
 cases Y
 exact Cw.ret (zn3 O X (Res.mk Z ⟨C,O,((i.up a).up D).s.sub O O⟩))
theorem p12 {x0 b k0 r}(d:Rd W K [vS x0.Branch,vS x0.Into,vS x0.By,b] x0)(Y:Vm.zhb x0=some r):Q1 12 [.agg [vS x0.Branch,vS x0.Into,vS x0.By,b].toArray] W [] fun W' v=> ∃ a,v = .agg [vS r.Branch,vS r.Into,vS r.By,a].toArray/\Ow W' k0 [] [a] r.Yes:=
 (c12 (d.view _) Y).ad (fk k0) fun _ _ ⟨a,e,f⟩=>⟨a,e,f.back (zgv _)⟩
theorem c9 {x0 D E x1 I x2 aj r}(h0:Rd W0 [0] [D,E] x0)(h1:Rd W0 [0] [I] x1)(h2:Rd W0 [0] [vS x2.Branch,vS x2.Into,vS x2.By,aj] x2)(Y:Vm.zgx x0 x1 x2=some r):Q0 9 [.agg [D,E].toArray,I, .agg [vS x2.Branch,vS x2.Into,vS x2.By,aj].toArray] W0 fun Wf v=> ∃ ak am,v = .tuple [.agg [ak,am].toArray,vI r.2].toArray/\Rd Wf [0] [ak] r.1.Commits/\Rd Wf [0] [am] r.1.Heads:=by
 unfold Vm.zgx at Y
 obtain⟨dm,dn,an,h,i⟩:=Repo.split h0
 simp only[List.cons.injEq,and_true,true_and]at an
 obtain⟨rfl,rfl⟩:=an
 obtain⟨dp,ao,bn⟩:=Review.split h2
 simp only[List.cons.injEq,and_true,true_and]at ao
 obtain rfl:=ao
 refine zao.of Tryz.func9 O O O O (sr (bo 2 O fun g1 W1 l1 b1=>?_))
 have a2:=l1.o
 refine bo 3 O fun g3 W3 l3 b3=>?_
 have a4:=a2.n l3
 refine al 4 [.slice none 0 0, .slice none 0 0] fun g6 W6 J b6=>?_
 have L:=a4.n J
 have N:=(b1.up l3).up J
 refine Ni O (ssr (la N (ca Y (fun _=>p34 (Repo.rd (K:=[0]) x0.Commits x0.Heads (h.ul L) (i.ul L))) fun dw dx Y k=>?_)))
 have x:=L.n k
 have ar:=(b3.up J).up k
 refine Lw.r O (R.not O) (nl (cn Y (fun Y=>?_) fun Y=>?_))
 ·refine sr (Lw.r O (R.bd (zs:=[.slice none 0 0, .slice none 0 0]) (cs:=[.slice none 0 0, .slice none 0 0]) [] O O O zc8) (sta (b6.up k) (zaa O (zaa O zaG)) fun dy bw bz=>?_))
  have b0:=x.t bw
  refine Ni O ?_
  cases Y
  exact Cw.ret (zfY O bz O (Res.mk b0 ⟨.slice none 0 0, .slice none 0 0,O,(rdN (K:=[0])),(rdN (K:=[0]))⟩))
 ·refine sk (sr (la (N.up k) (mv I O (la ar (cr Y (fun _=>p28 (Repo.rd (K:=[0]) x0.Commits x0.Heads (h.ul x) (i.ul x)) (h1.ul x) (Review.rd (K:=[0]) x2.Branch x2.Into x2.By x2.Yes (bn.ul x))) ?_)))))
  rintro A _ dz Y F ⟨y,rfl,b2⟩
  have b4:=b2.sub (M:=[0]) O
  have a:=x.n F
  have G:=(N.up k).up F
  have P:=(b6.up k).up F
  refine mv (.tuple [y,vB A.2].toArray) O (Lw.r O (R.ext (vs:=[y,vB A.2]) (v:=y) O O) (Lw.r O (R.ext (vs:=[y,vB A.2]) (v:=vB A.2) O O) (Gv y O (Nb O (Cw.seq (Cw.block (sr (mb O (Lw.r O (R.not O) (Nb O (cn Y (fun Y=>?_) fun Y=>?_)))))))))))
  ·refine sr (la G (cr Y (fun _=>p35 (k0:=5) (k1:=6) (Repo.rd (K:=[0]) x0.Commits x0.Heads (h.ul a) (i.ul a))) ?_))
   rintro au _ d0 Y av ⟨aw,ax,rfl,ay,az⟩
   have b5:=a.n av
   refine sta (P.up av) (zaa ay.oc (zaa az.oc zaG)) fun d1 Q b7=>?_
   have b9:=b5.t Q
   refine Ni O ?_
   obtain⟨cb,cc,S,cd⟩:=zmg _ 5
   have ce:Rd (α:=List Vm.Commit) cb [0] [aw] au.Commits:=by rw[cd];exact((ay.up Q).rd.dye 5).sub (M:=[0]) O
   have cf:=b9.t S
   obtain⟨cg,ch,a0,ci⟩:=zmg _ 6
   have cj:Rd (α:=List Vm.Head) cg [0] [ax] au.Heads:=by rw[ci];exact(((az.up Q).up S).rd.dye 6).sub (M:=[0]) O
   have a1:=a0.s
   cases Y
   rw[<- ch.trans (cc)]
   exact Cw.ret (zfY O ((b7.up S).up a0) O (Res.mk (cf.trans a1) ⟨aw,ax,O,(ce.ul a1),cj⟩))
  ·refine sr (mv y O (Lw.ln A.1 b4 O (Lw.gt O (Nb O (cn Y (fun Y=>?_) fun Y=>?_)))))
   ·refine sr (la G (cr Y (fun _=>p35 (k0:=7) (k1:=8) (Repo.rd (K:=[0]) x0.Commits x0.Heads (h.ul a) (i.ul a))) ?_))
    rintro a3 _ d2 Y a5 ⟨a6,a8,rfl,a9,ba⟩
    have ck:=a.n a5
    refine sta (P.up a5) (zaa a9.oc (zaa ba.oc zaG)) fun d3 U cl=>?_
    have cm:=ck.t U
    refine Ni O ?_
    obtain⟨co,cp,V,cq⟩:=zmg _ 7
    have ct:Rd (α:=List Vm.Commit) co [0] [a6] a3.Commits:=by rw[cq];exact((a9.up U).rd.dye 7).sub (M:=[0]) O
    have cu:=cm.t V
    obtain⟨cv,cw,bb,cx⟩:=zmg _ 8
    have cy:Rd (α:=List Vm.Head) cv [0] [a8] a3.Heads:=by rw[cx];exact(((ba.up U).up V).rd.dye 8).sub (M:=[0]) O
    have bc:=bb.s
    cases Y
    rw[<- cw.trans (cp)]
    exact Cw.ret (zfY O ((cl.up V).up bb) O (Res.mk (cu.trans bc) ⟨a6,a8,O,(ct.ul bc),cy⟩))
   ·refine sk (Cw.seq (Cw.draw [] [(0,1),(2,0),(3,1),(4,0),(5,1),(6,1),(7,0),(8,1),(1,2),(9,2),(10,3),(11,0),(12,0),(13,3),(14,0)] mixed (by kernel_rfl) fun d4 B=>?_))
    have W:=a.n B
    have X:=(ar.up F).up B
    refine Mw.q O O (fun _ c=>R.lda (cs:=[D,E]) ((G.up B).clcs O c) O O) (Dfl X O O O (Dfl X O O O (Mw.q O O (fun _ c=>R.lda (cs:=[D,E]) ((G.up B).clcs O c) O O) (Dfl X O O O ?_))))
    obtain⟨z,cz,Y⟩:=ob Y
    refine Mw.t O O (T.call O (p35 (k0:=9) (k1:=10) (Repo.rd (K:=[0]) x0.Commits x0.Heads (h.ul W) (i.ul W)) cz)) ?_
    rintro _ _ ⟨d5,rfl,Z,⟨c0,c1,rfl,be,bg⟩⟩
    have aa:=W.n Z
    refine m0 Z fun c2=>?_
    obtain⟨d6,c3,Y⟩:=ob Y
    refine Mw.t O O (T.call O (p37 (Repo.rd (K:=[0]) x0.Commits x0.Heads (h.ul aa) (i.ul aa)) c3)) ?_
    rintro _ _ ⟨d7,rfl,b,rfl⟩
    have c4:=aa.n b
    refine mc c2 b fun d8=>?_
    obtain⟨d,c5,Y⟩:=ob Y
    refine Mw.l O O (T.call O (p36 (K:=[9,10]) (x0:=(Vm.Repo.mk z.Commits z.Heads)) (Repo.rd (K:=[9,10]) z.Commits z.Heads ((be.up b).rd.sub (M:=[9,10]) O) ((bg.up b).rd.sub (M:=[9,10]) O)) c5)) ?_
    rintro _ _ ⟨d9,rfl,H,⟨e,f,rfl,c6,c7⟩⟩
    have bh:=c6.sub (M:=[0,9,10]) O
    have bi:=c7.sub (M:=[0,9,10]) O
    have c8:=c4.n H
    refine Mw.p O O (fun _=>R.ext (vs:=[.agg [e,f].toArray,vI d.2]) (v:= .agg [e,f].toArray) O O) (Mw.p O O (fun _=>R.ext (vs:=[.agg [e,f].toArray,vI d.2]) (v:=vI d.2) O O) (Mw.lu O (T.sta (vs:=[e,f]) ((((P.up B).up Z).up b).up H) O O (zaa bh.oc (zaa bi.oc zaG)) O O) ?_))
    rintro _ _ ⟨ea,rfl,C,da⟩
    have db:=c8.t C
    refine Hi O (Mw.nil ?_)
    have dc:=bh.up (C.sub (M:=[4]) O) O
    have dd:=bi.up (C.sub (M:=[4]) O) O
    obtain⟨ac,de,ae,af⟩:=zmg _ 9
    have df:Rd ac [0,10] [e] d.1.Commits:=by rw[af];exact(dc.dye 9).sub (M:=[0,10]) O
    have dg:Rd ac [0,10] [f] d.1.Heads:=by rw[af];exact(dd.dye 9).sub (M:=[0,10]) O
    have eb:Rd (α:=List Vm.Commit) ac [0] [c0] z.Commits:=by rw[af];exact((((be.up b).up H).up C).rd.dye 9).sub (M:=[0]) O
    have dh:=db.t ae
    obtain⟨ah,di,bj,ai⟩:=zmg _ 10
    have dj:Rd ah [0] [e] d.1.Commits:=by rw[ai];exact(df.dye 10).sub (M:=[0]) O
    have dk:Rd ah [0] [f] d.1.Heads:=by rw[ai];exact(dg.dye 10).sub (M:=[0]) O
    have ec:Rd (α:=List Vm.Head) ah [0] [c1] z.Heads:=by rw[ai];exact(((((bg.up b).up H).up C).up ae).rd.dye 10).sub (M:=[0]) O
    have dl:=dh.t bj
    cases Y
    rw[<- di.trans (de)]
    exact Cw.ret (zfY O ((da.up ae).up bj) O (Res.mk dl ⟨e,f,O,dj,dk⟩))
theorem p9 {x0 d f x1 h x2 i r}(k:Rd W K [d,f] x0)(x:Rd W K [h] x1)(y:Rd W K [vS x2.Branch,vS x2.Into,vS x2.By,i] x2)(Y:Vm.zgx x0 x1 x2=some r):Q1 9 [.agg [d,f].toArray,h, .agg [vS x2.Branch,vS x2.Into,vS x2.By,i].toArray] W [] fun W' v=> ∃ a b,v = .tuple [.agg [a,b].toArray,vI r.2].toArray/\Rd W' (0::K) [a] r.1.Commits/\Rd W' (0::K) [b] r.1.Heads:=
 (c9 (k.view _) (x.view _) (y.view _) Y).ad (fk 0) fun _ _ ⟨a,b,e,z,A⟩=>⟨a,b,e,z.back O,A.back O⟩
theorem c96 {x0 k r}(x:Rd W0 [0] [k] x0)(Y:Vm.zee x0=some r):Q0 96 [k] W0 fun Wf v=> ∃ C,v=C/\OwS Wf LL [] [C] r:=by
 unfold Vm.zee at Y
 refine zao.of Tryz.func96 O O O O (sr (Nv (.slice none 0 0) O (sr (Nv (.slice none 0 0) O (ssr (mv k O (Lw.ln x0 x O (mi O (nl (Cw.block ?_))))))))))
 obtain⟨N,P,Y⟩:=zaY Y
 refine Cw.loop 8 21 [3,5,8] (fun m l w=> ∃ y e a D f,CW.w f=w/\Le [2,3,4] W0 f/\l=[a,D,vI e]/\Ow f 2 [] [a] y/\Vm.zeu x0 N m y e=some r) _ ⟨([]:List File),0, .slice none 0 0,undef,W0,O,Le.refl _ _,O,owN 2 [],Y⟩ ?_
 rintro(_ |m8) _ _ σ ⟨y,e,a,D,f,rfl,E,rfl,F,Y⟩
 ·cases Y
 unfold Vm.zeu at Y
 have z:=E.s
 refine sr (Lw.lt O (nl (Cw.seq (cn Y (fun Y=>?_) fun Y=>?_))))
 ·refine sk (Cw.seq (Cw.block (sr ?_)))
  obtain⟨b,G,Y⟩:=ob Y
  refine Lw.r O (R.ix (α:=File) (x.ul z) G O O O) ?_
  obtain⟨x14,c15,_,r16⟩:=((x.ul z).at_ G).cells
  obtain⟨ak,rfl,r18⟩:=File.split r16
  refine Lw.r O (R.lda c15 O O) (al 3 [vS ([]:Str), .slice none 0 0] fun Q am A S=>?_)
  have U:=A.o
  refine sta S (zaa O (zaa r18.oc zaG)) fun an B H=>?_
  have V:=U.t B
  refine nl (Cw.draw [2,4] [(0,0),(1,0),(2,1),(3,0),(4,1),(5,2),(6,0),(7,2),(8,2),(9,0)] mixed (by kernel_rfl) fun ao d=>?_)
  have W:=V.n d
  refine Dv a O (Dfl (H.up d) O O O (Dfl (H.up d) O O O (Dc Y (Le.refl _ _) (fun _=>p125 (k0:=4) (r18.ul W)) O ?_)))
  rintro X h ap Y I ⟨_,rfl,K⟩ Z
  refine Mw.p O O (fun _=>R.bd (zs:=[vS ([]:Str), .slice none 0 0]) (cs:=[vS b.Path,h]) [(0,vS b.Path),(1,h)] O O O (zaA O O (zaA K.oc O zc8))) (Mw.t O O (T.bs 5 [.agg [vS b.Path,h].toArray] (cs:=[vS b.Path,h]) O O (bsA O)) ?_)
  rintro _ _ ⟨aq,ar,rfl,rfl,i,aa⟩
  refine mc Z i fun ac=>?_
  obtain⟨ae,af,Y⟩:=ob Y
  refine Mw.t O O (T.app1 (α:=File) (J:=[4]) (K':=[]) (((((F.up A).up B).up d).up I).up i) aa (File.own b.Path X (K.up i).s) O O af) ?_
  rintro L _ ⟨ah,rfl,M,ai⟩
  exact mc ac M fun au=>Hv L O (Mw.nil (rg (Lw.add O (mi O (nl ((agm) ⟨ae,w64 (e+1),L,ptr (bx Q),ah,O,((((((E.j A).j B).j d).j I).j i).j M).w,O,ai,Y⟩))))))
 ·refine Cw.exit ?_
  rw[P]at Y
  refine sr (mv a O (Nv a O ?_))
  cases Y
  exact Cw.ret (zik O (Res.mk z ⟨a,O,F.s.sub O O⟩))
theorem p96 {x0 b k0 r}(d:Rd W K [b] x0)(Y:Vm.zee x0=some r):Q1 96 [b] W [] fun W' v=> ∃ a,v=a/\Ow W' k0 [] [a] r:=
 (c96 (d.view _) Y).ad (fk k0) fun _ _ ⟨a,e,f⟩=>⟨a,e,f.back (zgv _)⟩
theorem c43 {x0 ac ae r}(h0:Rd W0 [0] [ac,ae] x0)(Y:Vm.zbJ x0=some r):Q0 43 [.agg [ac,ae].toArray] W0 fun Wf v=> ∃ af ah,v = .agg [af,ah].toArray/\OwS Wf [31] [] [af] r.Commits/\OwS Wf [32] [] [ah] r.Heads:=by
 unfold Vm.zbJ at Y
 obtain⟨co,cp,ai,H,a1⟩:=Repo.split h0
 simp only[List.cons.injEq,and_true,true_and]at ai
 obtain⟨rfl,rfl⟩:=ai
 refine zao.of Tryz.func43 O O O O (sr (bo 2 O fun g1 W1 l1 b1=>?_))
 have a2:=l1.o
 refine al 3 [.slice none 0 0, .slice none 0 0] fun g3 W3 l3 b3=>?_
 have a4:=a2.n l3
 refine nl (sr (Lw.t O (T.lit0 (α:=Head) 4 []) ?_))
 rintro v6 _ ⟨W6,rfl,I,o6⟩
 have a7:=a4.n I
 have b8:=(b1.up l3).up I
 refine fl b8 O ?_
 obtain⟨bb,bc,Y⟩:=ob Y
 refine Lw.t O (T.appP (α:=Head) o6 (a1.ul a7) O O bc) ?_
 rintro K _ ⟨cy,rfl,L,M⟩
 have be:=a7.t L
 refine Lw.r O (R.bd (zs:=[.slice none 0 0, .slice none 0 0]) (cs:=[.slice none 0 0,K]) [(1,K)] O O O (zaA M.oc O zc8)) (al 5 [.slice none 0 0, .slice none 0 0] fun bg cz i bh=>?_)
 have bi:=be.n i
 refine sta bh (zaa O (zaa (M.up i).oc zaG)) fun an A bj=>?_
 have ao:=bi.t A
 refine nl (ssr (fl (((b8.up L).up i).up A) O (Lw.ln x0.Commits (H.ul ao) O (mi O (nl (Cw.block ?_))))))
 obtain⟨bk,bl,Y⟩:=zaY Y
 refine Cw.loop 14 33 [5,14] (fun m l w=> ∃ B N C ap D k b,CW.w b=w/\Le [5,6,7,8,9] an b/\l=[ap,vI B]/\Ow b 6 [] [D] N/\Ow b 4 [] [k] C/\Bx b 5 bg [D,k]/\Vm.zev x0 bk m B N C=some r) _ ⟨0,([]:List Commit),bb,undef, .slice none 0 0,K,an,O,Le.refl _ _,O,owN 6 [],((M.up i).up A),bj,Y⟩ ?_
 rintro(_ |c0) _ _ σ ⟨B,N,C,ap,D,k,b,rfl,P,rfl,Q,S,aq,Y⟩
 ·cases Y
 unfold Vm.zev at Y
 have U:=ao.t P
 refine sr (Lw.lt O (nl (Cw.seq (cn Y (fun Y=>?_) fun Y=>?_))))
 ·refine sk (Cw.seq (Cw.block (sr ?_)))
  obtain⟨x,ar,Y⟩:=ob Y
  refine Lw.r O (R.ix (α:=Commit) (H.ul U) ar O O O) ?_
  obtain⟨x47,c48,_,r49⟩:=((H.ul U).at_ ar).cells
  obtain⟨c1,c2,rfl,r51,r53⟩:=Commit.split r49
  refine Lw.r O (R.lda c48 O O) (al 7 [.slice none 0 0,vS ([]:Str), .slice none 0 0] fun bm c3 y bn=>?_)
  have bp:=y.o
  refine sta bn (zaa r51.oc (zaa O (zaa r53.oc zaG))) fun c4 z bq=>?_
  have br:=bp.t z
  refine nl (Cw.draw [6,8,9] [(0,0),(1,1),(3,0),(4,1),(6,0),(7,1),(8,0),(9,1),(2,2),(5,2),(10,2),(11,0),(12,2),(13,2),(14,0),(15,3)] mixed (by kernel_rfl) fun c5 d=>?_)
  have bu:=br.n d
  have au:=((aq.up y).up z).up d
  have V:=bq.up d
  refine Dfl au O O O (Dfl V O O O (Dfl V O O O (Dfl V O O O (Mw.t O O (T.lit0 (α:=Int) 8 []) ?_))))
  rintro c6 _ ⟨c7,rfl,e,bv⟩
  have av:=bu.n e
  refine m0 e fun bw=>?_
  obtain⟨bz,b0,Y⟩:=ob Y
  refine Mw.t O O (T.appP (α:=Int) bv (r51.ul av) O O b0) ?_
  rintro E _ ⟨c8,rfl,f,aw⟩
  have b2:=av.t f
  refine mc bw f fun b4=>Dc Y b4 (fun _=>p96 (k0:=9) (r53.ul b2)) O ?_
  rintro b5 F c9 Y h ⟨_,rfl,ax⟩ b6
  refine Mw.p O O (fun _=>R.bd (zs:=[.slice none 0 0,vS ([]:Str), .slice none 0 0]) (cs:=[E,vS x.Who,F]) [(0,E),(1,vS x.Who),(2,F)] O O O (zaA (aw.up h).oc O (zaA O O (zaA ax.oc O zc8)))) (Mw.t O O (T.bs 10 [.agg [E,vS x.Who,F].toArray] (cs:=[E,vS x.Who,F]) O O (bsA O)) ?_)
  rintro _ _ ⟨da,db,rfl,rfl,a,b7⟩
  refine mc b6 a fun b9=>?_
  obtain⟨cb,cc,Y⟩:=ob Y
  refine Mw.t O O (T.app1 (α:=Commit) (J:=[8,9]) (K':=[]) (((((((Q.up y).up z).up d).up e).up f).up h).up a) b7 (Commit.own bz x.Who b5 ((aw.up h).up a).s (ax.up a).s) O O cc) ?_
  rintro ay _ ⟨dc,rfl,G,az⟩
  refine mc b9 G fun dd=>Df O (Mw.lu O (T.st (j:=0) (v:=ay) (((((au.up e).up f).up h).up a).up G) O O az.oc O O) ?_)
  rintro _ _ ⟨cd,rfl,W,ce⟩
  exact Mw.nil (rg (Lw.add O (mi O (nl ((agm) ⟨w64 (B+1),cb,C,ptr (bx bm),ay,k,cd,O,(((((((((P.j y).j z).j d).j e).j f).j h).j a).j G).j W).w,O,(az.up W),(((((((((S.up y).up z).up d).up e).up f).up h).up a).up G).up W),ce,Y⟩)))))
 ·refine Cw.exit ?_
  rw[bl]at Y
  refine sr (la aq (sta (((((b3.up I).up L).up i).up A).up P) (zaa Q.oc (zaa S.oc zaG)) fun de X cf=>?_))
  have cg:=U.t X
  refine nl ?_
  obtain⟨df,ch,Z,ci⟩:=(Q.up X).dyeO 31
  have cj:=cg.t Z
  obtain⟨dg,ck,aa,cl⟩:=((S.up X).up Z).dyeO 32
  have cm:=cj.t aa
  cases Y
  rw[<- ck.trans (ch)]
  exact Cw.ret (zn3 O ((cf.up Z).up aa) (Res.mk cm ⟨D,k,O,(ci.up aa).s,cl.s⟩))
theorem p43 {x0 d f k0 k1 r}(h:Rd W K [d,f] x0)(Y:Vm.zbJ x0=some r):Q1 43 [.agg [d,f].toArray] W [] fun W' v=> ∃ a b,v = .agg [a,b].toArray/\Ow W' k0 [] [a] r.Commits/\Ow W' k1 [] [b] r.Heads:=
 zao.adJ (J:=[]) (fun c=>bif Nat.beq c 0 then 0 else bif Nat.beq c 31 then k0 else bif Nat.beq c 32 then k1 else 0) (c43 (h.view _) Y) fun _ _ ⟨a,b,e,i,k⟩=>⟨a,b,e,i.one1.backN O,k.one1.backN O⟩
end Go.Sx
