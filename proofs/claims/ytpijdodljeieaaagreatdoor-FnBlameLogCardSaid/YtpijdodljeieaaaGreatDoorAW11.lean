/- Walks: each function answers as its model, printed by a program of ours. Conditions: the arguments read as they are given. -/
import Derived.Test.YtpijdodljeieaaaGreatDoorATs
import Derived.Test.YtpijdodljeieaaaGreatDoorAM4
import Derived.Test.YtpijdodljeieaaaGreatDoorAW0
import Derived.Test.YtpijdodljeieaaaGreatDoorAW1
import Derived.Test.YtpijdodljeieaaaGreatDoorAW10
namespace Go.Sx
open Go Go.Proofs Go.Vm Rp
set_option linter.unusedVariables false
set_option linter.unusedSimpArgs false
variable {W W0:CW}{K:List Nat}
theorem c24 {x0 x y x1 x2 r}(E:Rd W0 [0] [x,y] x0)(Y:Vm.zfT x0 x1 x2=some r):Q0 24 [.agg [x,y].toArray,vI x1,vS x2] W0 fun Wf v=> ∃ z,v=z/\OwS Wf LL [] [z] r:=by
 unfold Vm.zfT at Y
 obtain⟨U,V,A,f,B⟩:=Repo.split E
 simp only[List.cons.injEq,and_true,true_and]at A
 obtain⟨rfl,rfl⟩:=A
 refine zaO.of Tryz.func24 O O O O (sr (bo 2 O fun W F G h=>?_))
 have b:=G.o
 refine Nv (.slice none 0 0) O (Cw.seq ?_)
 obtain⟨H,I,Y⟩:=zdC Y
 refine Cw.join 7 18 [18] (fun l w=> ∃ i k,CW.w k=w/\Le [] F k/\l=[vB i]/\H i=some r) ?_ ?_
 ·rintro _ _ σ ⟨i,k,rfl,C,rfl,Y⟩
  rw[I]at Y
  have d:=b.n C
  refine cn Y (fun Y=>?_) fun Y=>?_
  ·refine sr (Nv (.slice none 0 0) O ?_)
   cases Y
   exact Cw.ret (zj5 O (Res.mk d ⟨.slice none 0 0,O,(zo3 []).sub O O⟩))
  ·refine sk (sr (la (h.up C) (mi O (ms O (cr Y (fun _=>p70 (k0:=3) (Repo.rd (K:=[0]) x0.Commits x0.Heads (f.ul d) (B.ul d))) ?_)))))
   rintro X D Z Y J ⟨_,rfl,L⟩
   have M:=d.n J
   refine Nv D O ?_
   cases Y
   exact Cw.ret (zj5 O (Res.mk M ⟨D,O,L.s.sub O O⟩))
 ·refine rg (la h (ca Y (fun _=>p80 (Repo.rd (K:=[0]) x0.Commits x0.Heads (f.ul b) (B.ul b))) fun aa N Y e=>?_))
  have P:=b.n e
  refine Lw.r O (R.not O) (mb O (bs Y (fun a Y=>?_) fun a Y=>?_))
  ·exact psk 7 a O (Pb a O (nl ((ag) ⟨true,N,O,e,O,Y⟩)))
  ·exact wak 7 a (mi O (fl (h.up e) O (Lw.ln x0.Commits (f.ul P) O (Lw.sub O (ca Y (fun _=>p67) fun Q S Y T=>Lw.r O (R.not O) (Pb a O (nl ((ag) ⟨(!Q),S,O,(e.j T).w,O,Y⟩))))))))
theorem p24 {x0 b d x1 x2 k0 r}(f:Rd W K [b,d] x0)(Y:Vm.zfT x0 x1 x2=some r):Q1 24 [.agg [b,d].toArray,vI x1,vS x2] W [] fun W' v=> ∃ a,v=a/\Ow W' k0 [] [a] r:=
 (c24 (f.view _) Y).ad (fk k0) fun _ _ ⟨a,e,h⟩=>⟨a,e,h.back (zkx _)⟩
end Go.Sx
