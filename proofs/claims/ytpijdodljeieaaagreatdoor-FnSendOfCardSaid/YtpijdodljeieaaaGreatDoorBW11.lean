/- Walks: each function answers as its model, printed by a program of ours. Conditions: the arguments read as they are given. -/
import Derived.Test.YtpijdodljeieaaaGreatDoorBTs
import Derived.Test.YtpijdodljeieaaaGreatDoorBM5
import Derived.Test.YtpijdodljeieaaaGreatDoorBW6
namespace Go.Sx
open Go Go.Proofs Go.Vm Rp
set_option linter.unusedVariables false
set_option linter.unusedSimpArgs false
variable {W W0:CW}{K:List Nat}
theorem c107 {x0 a x1 r}(x:Rd W0 [0] [a] x0)(Y:Vm.zfc x0 x1=some r):Q0 107 [a,vI x1] W0 fun Wf v=>v=vI r:=by
 unfold Vm.zfc at Y
 refine zaT.of Tryz.func107 O O O O (sr (Ni O (ssr (Ni O (Cw.block ?_)))))
 obtain⟨y,z,Y⟩:=zc4 Y
 refine Cw.loop 6 18 [4,5] (fun m l w=> ∃ b d e,CW.w e=w/\Le [] W0 e/\l=[vI b,vI d]/\Vm.zc0 x0 x1 y m b d=some r) _ ⟨0,0,W0,O,Le.refl _ _,O,Y⟩ ?_
 rintro(_ |A) _ _ σ ⟨b,d,e,rfl,i,rfl,Y⟩
 ·cases Y
 unfold Vm.zc0 at Y
 have f:=i.o
 refine ssr ?_
 have h:=x.ul f
 refine mi O (mv a O (Lw.ln x0 h O (Lw.lt O (nl (cn Y (fun Y=>?_) fun Y=>?_)))))
 ·refine sk (Cw.seq (Cw.block (sr (mv a O (mi O ?_)))))
  obtain⟨B,k,Y⟩:=ob Y
  refine Lw.r O (R.ix (α:=Int) h k O O O) (Lw.r O (R.ld O O (h.at_ k).int) (mi O (Lw.eq O (nl (cn Y (fun Y=>?_) fun Y=>?_)))))
  ·exact sr (mi O (Ni O (.ret (rt Y f))))
  ·exact sk (rg (mi O (Lw.add O (Ni O ((agm) ⟨b,w64 (d+1),e,O,i,O,Y⟩)))))
 ·refine Cw.exit ?_
  rw[z]at Y
  exact sr (Ni O (.ret (rt Y f)))
theorem p107 {x0 a x1 r}(b:Rd W K [a] x0)(Y:Vm.zfc x0 x1=some r):Q1 107 [a,vI x1] W [] fun W' v=>v=vI r:=
 (c107 (b.view _) Y).ad (fk 0) fun _ _ e=>e
theorem c58 {x0 x y x1 z A r}(G:Rd W0 [0] [x,vS x0.Who,y] x0)(H:Rd W0 [0] [z,vS x1.Who,A] x1)(Y:Vm.zfA x0 x1=some r):Q0 58 [.agg [x,vS x0.Who,y].toArray, .agg [z,vS x1.Who,A].toArray] W0 fun Wf v=>v=vB r:=by
 unfold Vm.zfA at Y
 obtain⟨Z,aa,B,I,J⟩:=Commit.split G
 simp only[List.cons.injEq,and_true,true_and]at B
 obtain⟨rfl,rfl⟩:=B
 obtain⟨ac,ae,C,K,L⟩:=Commit.split H
 simp only[List.cons.injEq,and_true,true_and]at C
 obtain⟨rfl,rfl⟩:=C
 refine zaT.of Tryz.func58 O O O O (sr (bo 2 O fun g1 W1 M N=>?_))
 have P:=M.o
 refine bo 3 O fun g3 D E f=>?_
 have e:=P.n E
 have h:=N.up E
 refine Nb O ?_
 obtain⟨Q,R,Y⟩:=zc4 Y
 refine Cw.join 5 23 [4] (fun l w=> ∃ i k,CW.w k=w/\Le [] D k/\l=[vB i]/\Q i=some r) ?_ ?_
 ·rintro _ _ σ ⟨i,k,rfl,S,rfl,Y⟩
  rw[R]at Y
  have T:=e.n S
  exact .ret (rt Y T)
 ·refine rg (fl h O (fl f O (Lw.seq O (mb O (bs Y (fun a Y=>?_) fun a Y=>?_)))))
  ·refine wak 5 a (fl h O (fl f O (ca Y (fun _=>p17 (I.ul e) (K.ul e)) fun aj U Y b=>?_)))
   have F:=e.n b
   refine Pb a O (mb O (bs Y (fun d Y=>?_) fun d Y=>?_))
   ·exact wak 5 d (fl (h.up b) O (fl (f.up b) O (ca Y (fun _=>p37 (J.ul F) (L.ul F)) fun V W Y X=>Pb d O (Nb O ((ag) ⟨V,W,O,(b.j X).w,O,Y⟩)))))
   ·exact psk 5 d O (Pb d O (Nb O ((ag) ⟨false,U,O,b,O,Y⟩)))
  ·exact psk 5 a O (Pb a O (mb O (psk 5 O O (Pb O O (Nb O ((ag) ⟨false,D,O,Le.refl _ _,O,Y⟩))))))
theorem p58 {x0 a b x1 d f r}(h:Rd W K [a,vS x0.Who,b] x0)(i:Rd W K [d,vS x1.Who,f] x1)(Y:Vm.zfA x0 x1=some r):Q1 58 [.agg [a,vS x0.Who,b].toArray, .agg [d,vS x1.Who,f].toArray] W [] fun W' v=>v=vB r:=
 (c58 (h.view _) (i.view _) Y).ad (fk 0) fun _ _ e=>e
end Go.Sx
