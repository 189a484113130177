/- Walks: each function answers as its model, printed by a program of ours. Conditions: the arguments read as they are given. -/
import Derived.Test.YtpijdodljeieaaaGreatDoorBTs
import Derived.Test.YtpijdodljeieaaaGreatDoorBM3
import Derived.Test.YtpijdodljeieaaaGreatDoorBW0
namespace Go.Sx
open Go Go.Proofs Go.Vm Rp
set_option linter.unusedVariables false
set_option linter.unusedSimpArgs false
variable {W W0:CW}{K:List Nat}
theorem c77 {x0 d e x1 i k r}(hB0:Bx W0 2 d [e,vI x0.p])(f:Rd W0 [0] [e] x0.b)(G:Rd W0 [0] [i,k] x1)(Y:Vm.zgS x0 x1=some r):Q0 77 [ptr (bx d), .agg [i,k].toArray] W0 fun Wf v=>v=vI r.1/\Bx Wf 2 d [e,vI r.2]:=by
 unfold Vm.zgS at Y
 obtain⟨U,V,x,y,X⟩:=Repo.split G
 simp only[List.cons.injEq,and_true,true_and]at x
 obtain⟨rfl,rfl⟩:=x
 refine zaT.of Tryz.func77 O O O O (sr (bo 3 O fun Z W1 z A=>?_))
 have B:=z.o
 have H:=hB0.up z
 refine Ni O (ssr (mp O (cr Y (fun _=>p78 (c0:=2) (x0:=x0) H (f.ul B) O) ?_)))
 rintro C _ I Y h ⟨rfl,D⟩
 have a:=B.t h
 refine Lw.eq O (nl (cn Y (fun Y=>?_) fun Y=>?_))
 ·refine sr (mp O (fl (A.up h) O (Lw.ln x1.Commits (y.ul a) O (Lw.t O (T.bsS (α:=Int) (xs:=[(-1),(x1.Commits.length:Int)]) 4 [] (W:=I) [vI (-1),vI (x1.Commits.length:Int)] (Each.cons ((rdI _)) (Each.cons ((rdI _)) Each.nil)) O) ?_))))
  rintro ac _ ⟨ae,rfl,E,J⟩
  have F:=a.n E
  refine cr Y (fun _=>p123 (K:=[0,4]) (c0:=2) (x0:=(Vm.l30Rd.mk x0.b C.2)) (D.up E) ((f.ul F).sub (M:=[0,4]) O) (J.rd.sub (M:=[0,4]) O) O) ?_
  rintro af _ ah Y L ⟨rfl,N⟩
  have P:=F.t L
  refine Ni O ?_
  cases Y
  exact Cw.ret (zmk O (Res.mk P ⟨O,N⟩))
 ·refine sk (sr (mp O (fl (A.up h) O (Lw.ln x1.Commits (y.ul a) O (cr Y (fun _=>p78 (c0:=2) (x0:=(Vm.l30Rd.mk x0.b C.2)) D (f.ul a) O) ?_)))))
  rintro ai _ aj Y Q ⟨rfl,R⟩
  have S:=a.t Q
  refine Ni O ?_
  cases Y
  exact Cw.ret (zmk O (Res.mk S ⟨O,R⟩))
theorem p77 {x0 a d x1 f h c0 r}(hB0:Bx W c0 a [d,vI x0.p])(i:Rd W K [d] x0.b)(k:Rd W K [f,h] x1)(hJ:okJ K [c0]=true)(Y:Vm.zgS x0 x1=some r):Q1 77 [ptr (bx a), .agg [f,h].toArray] W [c0] fun W' v=>v=vI r.1/\Bx W' c0 a [d,vI r.2]:=
 zaT.adJ (J:=[c0]) (fun c=>bif Nat.beq c 0 then 0 else bif Nat.beq c 2 then c0 else 0) (c77 (hB0.viewJ 0 hJ) (i.view _) (k.view _) Y) fun _ _ ⟨e,x⟩=>⟨e,Bx.backJ 0 x O⟩
end Go.Sx
