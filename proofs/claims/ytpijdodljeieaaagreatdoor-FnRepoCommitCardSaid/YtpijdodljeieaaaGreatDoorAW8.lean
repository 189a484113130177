/- Walks: each function answers as its model, printed by a program of ours. Conditions: the arguments read as they are given. -/
import Derived.Test.YtpijdodljeieaaaGreatDoorATs
import Derived.Test.YtpijdodljeieaaaGreatDoorAM2
namespace Go.Sx
open Go Go.Proofs Go.Vm Rp
set_option linter.unusedVariables false
set_option linter.unusedSimpArgs false
variable {W W0:CW}{K:List Nat}
theorem c100 {x0 b d x1 r}(x:Rd W0 [0] [b,d] x0)(Y:Vm.zbK x0 x1=some r):Q0 100 [.agg [b,d].toArray,vI x1] W0 fun Wf v=> ∃ e,v=e/\Rd Wf [0] [e] r:=by
 unfold Vm.zbK at Y
 obtain⟨A,B,f,h,C⟩:=Repo.split x
 simp only[List.cons.injEq,and_true,true_and]at f
 obtain⟨rfl,rfl⟩:=f
 refine zaO.of Tryz.func100 O O O O (sr (bo 2 O fun D E y z=>?_))
 have a:=y.o
 refine Nv (.slice none 0 0) O (ssr (mi O (Lw.lt O (nl (cn Y (fun Y=>?_) fun Y=>?_)))))
 ·refine sr (Nv (.slice none 0 0) O ?_)
  cases Y
  exact Cw.ret (zj5 O (Res.mk a ⟨.slice none 0 0,O,(rdN (K:=[0]))⟩))
 ·refine sk (sr (fl z O (mi O ?_)))
  obtain⟨F,i,Y⟩:=ob Y
  refine Lw.r O (R.ix (α:=Commit) (h.ul a) i O O O) (Lw.fa O ?_)
  obtain⟨k,c8,r9⟩:=(Commit.at2 ((h.ul a).at_ i)).cell O
  refine Lw.r O (R.ld O O c8) (Nv k O ?_)
  cases Y
  exact Cw.ret (zj5 O (Res.mk a ⟨k,O,r9⟩))
theorem p100 {x0 b d x1 r}(f:Rd W K [b,d] x0)(Y:Vm.zbK x0 x1=some r):Q1 100 [.agg [b,d].toArray,vI x1] W [] fun W' v=> ∃ a,v=a/\Rd W' (0::K) [a] r:=
 (c100 (f.view _) Y).ad (fk 0) fun _ _ ⟨a,e,h⟩=>⟨a,e,h.back O⟩
end Go.Sx
