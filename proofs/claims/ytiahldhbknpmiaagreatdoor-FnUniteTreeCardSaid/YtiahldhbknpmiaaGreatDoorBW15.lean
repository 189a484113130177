/- Walks: each function answers as its model, printed by a program of ours. Conditions: the arguments read as they are given. -/
import Derived.Test.YtiahldhbknpmiaaGreatDoorBTs
import Derived.Test.YtiahldhbknpmiaaGreatDoorBM7
import Derived.Test.YtiahldhbknpmiaaGreatDoorBW8
namespace Go.Sx
open Go Go.Proofs Go.Vm Rp
set_option linter.unusedVariables false
set_option linter.unusedSimpArgs false
variable {W W0:CW}{K:List Nat}
theorem c54 {x0 i k x1 x2 r}(G:Rd W0 [0] [i,k] x0)(H:Gl 0 W0 [0])(Y:Vm.zkn x0 x1 x2=some r):Q0 54 [.agg [i,k].toArray,vI x1,vI x2] W0 fun Wf v=>v=vB r:=by
 unfold Vm.zkn at Y
 obtain⟨Z,aa,x,y,z⟩:=Repo.split G
 simp only[List.cons.injEq,and_true,true_and]at x
 obtain⟨rfl,rfl⟩:=x
 refine zaY.of Tryz.func54 O O O O (sr (bo 2 O fun g1 A I B=>?_))
 have C:=I.o
 refine Nb O ?_
 obtain⟨J,L,Y⟩:=zdY Y
 refine Cw.join 7 19 [6] (fun l w=> ∃ f h,CW.w h=w/\Le [] A h/\l=[vB f]/\J f=some r) ?_ ?_
 ·rintro _ _ σ ⟨f,h,rfl,N,rfl,Y⟩
  rw[L]at Y
  have P:=C.n N
  exact .ret (rt Y P)
 ·refine rg (la B (mi O (mi O (Lw.t O (T.bsS (α:=Int) (xs:=[x1,x2]) 3 [] (W:=A) [vI x1,vI x2] (Each.cons ((rdI _)) (Each.cons ((rdI _)) Each.nil)) O) ?_))))
  rintro v8 _ ⟨W8,rfl,b,Q⟩
  have d:=C.n b
  refine ca Y (fun _=>p122 (K:=[0,3]) ((Repo.rd (K:=[0]) x0.Commits x0.Heads (y.ul d) (z.ul d)).sub (M:=[0,3]) O) (Q.rd.sub (M:=[0,3]) O) ((H.ul d).sub (M:=[0,3]) O)) fun ah S Y e=>?_
  have D:=d.n e
  refine mb O (bs Y (fun a Y=>?_) fun a Y=>?_)
  ·refine wak 6 a (la ((B.up b).up e) (mi O (cr Y (fun _=>p126 (k0:=4) (Repo.rd (K:=[0]) x0.Commits x0.Heads (y.ul D) (z.ul D))) ?_)))
   rintro ai aj U Y V ⟨_,rfl,E⟩
   refine mi O ?_
   obtain⟨X,F,Y⟩:=ob Y
   exact Lw.r O (R.ix (α:=Bool) E.rd F O O O) (Lw.r O (R.ld O O (E.rd.at_ F).bool) (Pb a O (Nb O ((ag) ⟨X,U,O,((b.j e).j V).w,O,Y⟩))))
  ·exact psk 6 a O (Pb a O (Nb O ((ag) ⟨false,S,O,(b.j e).w,O,Y⟩)))
theorem p54 {x0 a b x1 x2 r}(d:Rd W K [a,b] x0)(f:Gl 0 W K)(Y:Vm.zkn x0 x1 x2=some r):Q1 54 [.agg [a,b].toArray,vI x1,vI x2] W [] fun W' v=>v=vB r:=
 (c54 (d.view _) (f.view _) Y).ad (fk 0) fun _ _ e=>e
end Go.Sx
