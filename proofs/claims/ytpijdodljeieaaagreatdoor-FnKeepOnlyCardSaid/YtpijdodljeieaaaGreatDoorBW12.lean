/- Walks: each function answers as its model, printed by a program of ours. Conditions: the arguments read as they are given. -/
import Derived.Test.YtpijdodljeieaaaGreatDoorBTs
import Derived.Test.YtpijdodljeieaaaGreatDoorBM6
import Derived.Test.YtpijdodljeieaaaGreatDoorBW6
namespace Go.Sx
open Go Go.Proofs Go.Vm Rp
set_option linter.unusedVariables false
set_option linter.unusedSimpArgs false
variable {W W0:CW}{K:List Nat}
theorem c88 {x0 h i x1 r}(F:Rd W0 [0] [h,i] x0)(Y:Vm.zhl x0 x1=some r):Q0 88 [.agg [h,i].toArray,vS x1] W0 fun Wf v=>v=vI r:=by
 unfold Vm.zhl at Y
 obtain⟨Q,S,k,T,e⟩:=Repo.split F
 simp only[List.cons.injEq,and_true,true_and]at k
 obtain⟨rfl,rfl⟩:=k
 refine zaT.of Tryz.func88 O O O O (sr (bo 2 O fun U x G H=>?_))
 have y:=G.o
 refine Ni O (ssr (fl H O (Lw.ln x0.Heads (e.ul y) O (mi O (nl (Cw.block ?_))))))
 obtain⟨I,J,Y⟩:=zc4 Y
 refine Cw.loop 10 20 [4,6,10] (fun m l w=> ∃ a b z f,CW.w f=w/\Le [3] x f/\l=[vI a,z,vI b]/\Vm.zdo x0 x1 I m a b=some r) _ ⟨0,0,undef,x,O,Le.refl _ _,O,Y⟩ ?_
 rintro(_ |V) _ _ σ ⟨a,b,z,f,rfl,A,rfl,Y⟩
 ·cases Y
 unfold Vm.zdo at Y
 have d:=y.t A
 refine sr (Lw.lt O (nl (Cw.seq (cn Y (fun Y=>?_) fun Y=>?_))))
 ·refine sk (Cw.seq (Cw.block (sr ?_)))
  obtain⟨W,B,Y⟩:=ob Y
  refine Lw.r O (R.ix (α:=Head) (e.ul d) B O O O) ?_
  obtain⟨x16,c17,_,r18⟩:=((e.ul d).at_ B).cells
  obtain rfl:=Head.split r18
  refine Lw.r O (R.lda c17 O O) (al 3 [vS ([]:Str),vI 0] fun K X C L=>?_)
  have M:=d.n C
  refine sta L (zaf O (zaf O zaW)) fun N D E=>?_
  have P:=M.t D
  refine nl (sr (fl E O (ms O (Lw.seq O (nl (cn Y (fun Y=>?_) fun Y=>?_))))))
  ·exact sr (fl E O (Ni O (.ret (rt Y P))))
  ·exact sk (rg (Lw.add O (mi O (nl ((agm) ⟨a,w64 (b+1),ptr (bx K),N,O,((A.j C).j D).w,O,Y⟩)))))
 ·refine Cw.exit ?_
  rw[J]at Y
  exact sr (Ni O (.ret (rt Y d)))
theorem p88 {x0 a b x1 r}(d:Rd W K [a,b] x0)(Y:Vm.zhl x0 x1=some r):Q1 88 [.agg [a,b].toArray,vS x1] W [] fun W' v=>v=vI r:=
 (c88 (d.view _) Y).ad (fk 0) fun _ _ e=>e
theorem c34 {x0 d e x1 r}(y:Rd W0 [0] [d,e] x0)(z:Gl 0 W0 [0])(Y:Vm.zgb x0 x1=some r):Q0 34 [.agg [d,e].toArray,vS x1] W0 fun Wf v=>v=vI r:=by
 unfold Vm.zgb at Y
 obtain⟨D,E,f,h,i⟩:=Repo.split y
 simp only[List.cons.injEq,and_true,true_and]at f
 obtain⟨rfl,rfl⟩:=f
 refine zaT.of Tryz.func34 O O O O (sr (bo 2 O fun F G A k=>?_))
 have a:=A.o
 refine Ni O (ssr (la k (ca Y (fun _=>p32 (Repo.rd (K:=[0]) x0.Commits x0.Heads (h.ul a) (i.ul a)) (z.ul a)) fun H I Y x=>?_)))
 have b:=a.n x
 refine Lw.r O (R.not O) (nl (cn Y (fun Y=>?_) fun Y=>?_))
 ·exact sr (Ni O (.ret (rt Y b)))
 ·refine sk (sr (la (k.up x) (ms O (ca Y (fun _=>p88 (Repo.rd (K:=[0]) x0.Commits x0.Heads (h.ul b) (i.ul b))) fun J L Y B=>?_))))
  have C:=b.n B
  exact Ni O (.ret (rt Y C))
theorem p34 {x0 a b x1 r}(d:Rd W K [a,b] x0)(f:Gl 0 W K)(Y:Vm.zgb x0 x1=some r):Q1 34 [.agg [a,b].toArray,vS x1] W [] fun W' v=>v=vI r:=
 (c34 (d.view _) (f.view _) Y).ad (fk 0) fun _ _ e=>e
end Go.Sx
