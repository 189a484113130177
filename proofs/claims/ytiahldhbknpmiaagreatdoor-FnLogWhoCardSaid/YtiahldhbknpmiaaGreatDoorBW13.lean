/- Walks: each function answers as its model, printed by a program of ours. Conditions: the arguments read as they are given. -/
import Derived.Test.YtiahldhbknpmiaaGreatDoorBTs
import Derived.Test.YtiahldhbknpmiaaGreatDoorBM5
import Derived.Test.YtiahldhbknpmiaaGreatDoorBW8
namespace Go.Sx
open Go Go.Proofs Go.Vm Rp
set_option linter.unusedVariables false
set_option linter.unusedSimpArgs false
variable {W W0:CW}{K:List Nat}
theorem c59 {x0 d e x1 r}(B:Rd W0 [0] [d,e] x0)(C:Gl 0 W0 [0])(Y:Vm.zkf x0 x1=some r):Q0 59 [.agg [d,e].toArray,vI x1] W0 fun Wf v=> ∃ f,v=f/\OwS Wf LL [] [f] r:=by
 unfold Vm.zkf at Y
 obtain⟨Q,S,h,i,k⟩:=Repo.split B
 simp only[List.cons.injEq,and_true,true_and]at h
 obtain⟨rfl,rfl⟩:=h
 refine zaY.of Tryz.func59 O O O O (sr (bo 2 O fun U D E x=>?_))
 have F:=E.o
 refine Nv (.slice none 0 0) O (ssr (la x (mi O (Lw.t O (T.bsS (α:=Int) (xs:=[x1]) 3 [] (W:=D) [vI x1] (Each.cons ((rdI _)) Each.nil) O) ?_))))
 rintro V _ ⟨X,rfl,y,G⟩
 have a:=F.n y
 refine ca Y (fun _=>p122 (K:=[0,3]) ((Repo.rd (K:=[0]) x0.Commits x0.Heads (i.ul a) (k.ul a)).sub (M:=[0,3]) O) (G.rd.sub (M:=[0,3]) O) ((C.ul a).sub (M:=[0,3]) O)) fun Z aa Y z=>?_
 have b:=a.n z
 refine Lw.r O (R.not O) (nl (cn Y (fun Y=>?_) fun Y=>?_))
 ·refine sr (Nv (.slice none 0 0) O ?_)
  cases Y
  exact Cw.ret (zmc O (Res.mk b ⟨.slice none 0 0,O,(zoR []).sub O O⟩))
 ·refine sk (sr (la ((x.up y).up z) (mi O (cr Y (fun _=>p126 (k0:=4) (Repo.rd (K:=[0]) x0.Commits x0.Heads (i.ul b) (k.ul b))) ?_))))
  rintro ac ae af Y H ⟨_,rfl,I⟩
  have J:=b.n H
  refine cr Y (fun _=>p134 (K:=[4]) (k0:=5) I.rd) ?_
  rintro ah A ai Y L ⟨_,rfl,N⟩
  have P:=J.n L
  refine Nv A O ?_
  cases Y
  exact Cw.ret (zmc O (Res.mk P ⟨A,O,N.s.sub O O⟩))
theorem p59 {x0 b d x1 k0 r}(f:Rd W K [b,d] x0)(h:Gl 0 W K)(Y:Vm.zkf x0 x1=some r):Q1 59 [.agg [b,d].toArray,vI x1] W [] fun W' v=> ∃ a,v=a/\Ow W' k0 [] [a] r:=
 (c59 (f.view _) (h.view _) Y).ad (fk k0) fun _ _ ⟨a,e,i⟩=>⟨a,e,i.back (zk0 _)⟩
end Go.Sx
