/- Walks: each function answers as its model, printed by a program of ours. Conditions: the arguments read as they are given. -/
import Derived.Test.YtpijdodljeieaaaGreatDoorATs
import Derived.Test.YtpijdodljeieaaaGreatDoorAM7
import Derived.Test.YtpijdodljeieaaaGreatDoorAW10
import Derived.Test.YtpijdodljeieaaaGreatDoorAW6
namespace Go.Sx
open Go Go.Proofs Go.Vm Rp
set_option linter.unusedVariables false
set_option linter.unusedSimpArgs false
variable {W W0:CW}{K:List Nat}
theorem c65 {x0 k x x1 r}(G:Rd W0 [0] [k,x] x0)(Y:Vm.zgN x0 x1=some r):Q0 65 [.agg [k,x].toArray,vI x1] W0 fun Wf v=> ∃ y,v=y/\OwS Wf LL [] [y] r:=by
 unfold Vm.zgN at Y
 obtain⟨Z,aa,z,H,I⟩:=Repo.split G
 simp only[List.cons.injEq,and_true,true_and]at z
 obtain⟨rfl,rfl⟩:=z
 refine zaO.of Tryz.func65 O O O O (sr (bo 2 O fun g1 A J L=>?_))
 have M:=J.o
 refine Nv (.slice none 0 0) O (sr (Nv (.slice none 0 0) O (Cw.seq (Cw.block ?_))))
 obtain⟨N,P,Y⟩:=zdC Y
 refine Cw.loop 6 14 [1,5] (fun m l w=> ∃ b f a d,CW.w d=w/\Le [3] A d/\l=[vI b,a]/\Ow d 3 [] [a] f/\Vm.zd7 x0 N m b f=some r) _ ⟨x1,([]:List Int), .slice none 0 0,A,O,Le.refl _ _,O,owN 3 [],Y⟩ ?_
 rintro(_ |m9) _ _ σ ⟨b,f,a,d,rfl,h,rfl,B,Y⟩
 ·cases Y
 unfold Vm.zd7 at Y
 have C:=M.t h
 refine ssr (mi O (Lw.ge O (nl (cn Y (fun Y=>?_) fun Y=>?_))))
 ·refine sk (Cw.block (sr (mv a O (mi O (Lw.t O (T.bs 4 [vI b] (cs:=[vI b]) O O (bsv O)) ?_)))))
  rintro _ _ ⟨af,ah,rfl,rfl,e,Q⟩
  have R:=C.n e
  obtain⟨S,U,Y⟩:=ob Y
  refine Lw.t O (T.app1S (α:=Int) (K':=[]) (B.up e) Q (rdI _) O O U) ?_
  rintro D _ ⟨ai,rfl,i,V⟩
  have E:=R.t i
  exact Nv D O (rg (la (((L.up h).up e).up i) (mi O (ca Y (fun _=>p124 (Repo.rd (K:=[0]) x0.Commits x0.Heads (H.ul E) (I.ul E))) fun W X Y F=>Ni O ((agm) ⟨W,S,D,X,O,(((h.j e).j i).j F).w,O,(V.up F),Y⟩)))))
 ·refine Cw.exit ?_
  rw[P]at Y
  refine sr (mv a O (Nv a O ?_))
  cases Y
  exact Cw.ret (zj5 O (Res.mk C ⟨a,O,B.s.sub O O⟩))
theorem p65 {x0 b d x1 k0 r}(f:Rd W K [b,d] x0)(Y:Vm.zgN x0 x1=some r):Q1 65 [.agg [b,d].toArray,vI x1] W [] fun W' v=> ∃ a,v=a/\Ow W' k0 [] [a] r:=
 (c65 (f.view _) Y).ad (fk k0) fun _ _ ⟨a,e,h⟩=>⟨a,e,h.back (zkx _)⟩
theorem c19 {x0 d e x1 r}(B:Rd W0 [0] [d,e] x0)(C:Gl 0 W0 [0])(Y:Vm.zik x0 x1=some r):Q0 19 [.agg [d,e].toArray,vI x1] W0 fun Wf v=> ∃ f,v=f/\OwS Wf LL [] [f] r:=by
 unfold Vm.zik at Y
 obtain⟨L,N,h,i,k⟩:=Repo.split B
 simp only[List.cons.injEq,and_true,true_and]at h
 obtain⟨rfl,rfl⟩:=h
 refine zaO.of Tryz.func19 O O O O (sr (bo 2 O fun P D E x=>?_))
 have F:=E.o
 refine Nv (.slice none 0 0) O (ssr (la x (mi O (Lw.t O (T.bsS (α:=Int) (xs:=[x1]) 3 [] (W:=D) [vI x1] (Each.cons ((rdI _)) Each.nil) O) ?_))))
 rintro Q _ ⟨S,rfl,y,G⟩
 have a:=F.n y
 refine ca Y (fun _=>p71 (K:=[0,3]) ((Repo.rd (K:=[0]) x0.Commits x0.Heads (i.ul a) (k.ul a)).sub (M:=[0,3]) O) (G.rd.sub (M:=[0,3]) O) ((C.ul a).sub (M:=[0,3]) O)) fun U V Y z=>?_
 have b:=a.n z
 refine Lw.r O (R.not O) (nl (cn Y (fun Y=>?_) fun Y=>?_))
 ·refine sr (Nv (.slice none 0 0) O ?_)
  cases Y
  exact Cw.ret (zj5 O (Res.mk b ⟨.slice none 0 0,O,(zo3 []).sub O O⟩))
 ·refine sk (sr (la ((x.up y).up z) (mi O (cr Y (fun _=>p65 (k0:=4) (Repo.rd (K:=[0]) x0.Commits x0.Heads (i.ul b) (k.ul b))) ?_))))
  rintro X A Z Y H ⟨_,rfl,I⟩
  have J:=b.n H
  refine Nv A O ?_
  cases Y
  exact Cw.ret (zj5 O (Res.mk J ⟨A,O,I.s.sub O O⟩))
theorem p19 {x0 b d x1 k0 r}(f:Rd W K [b,d] x0)(h:Gl 0 W K)(Y:Vm.zik x0 x1=some r):Q1 19 [.agg [b,d].toArray,vI x1] W [] fun W' v=> ∃ a,v=a/\Ow W' k0 [] [a] r:=
 (c19 (f.view _) (h.view _) Y).ad (fk k0) fun _ _ ⟨a,e,i⟩=>⟨a,e,i.back (zkx _)⟩
theorem c20 {x0 b x1 r}(f:Rd W0 [0] [b] x0)(i:Gl 0 W0 [0])(Y:Vm.zgE x0 x1=some r):Q0 20 [b,vS x1] W0 fun Wf v=> ∃ h,v = .tuple [h,vB r.2].toArray/\OwS Wf LL [] [h] r.1:=by
 unfold Vm.zgE at Y
 refine zaO.of Tryz.func20 O O O O (sr (Gv (.slice none 0 0) O (Nb O (ssr (mv b O (ca Y (fun _=>p72 f i) fun A B Y k=>?_))))))
 have d:=k.o
 refine Lw.r O (R.not O) (nl (cn Y (fun Y=>?_) fun Y=>?_))
 ·refine sr (Gv (.slice none 0 0) O (Nb O ?_))
  cases Y
  exact Cw.ret (zo2 O O (Res.mk d ⟨.slice none 0 0,O,(zo3 []).sub O O⟩))
 ·refine sk (sr (mv b O (ms O (cr Y (fun _=>p73 (k0:=2) (f.ul d)) ?_))))
  rintro e _ C Y x ⟨a,rfl,y⟩
  have z:=d.n x
  refine Lw.r O (R.ext (vs:=[a,vB e.2]) (v:=a) O O) (Lw.r O (R.ext (vs:=[a,vB e.2]) (v:=vB e.2) O O) (Gv a O (Nb O ?_)))
  cases Y
  exact Cw.ret (zo2 O O (Res.mk z ⟨a,O,y.s.sub O O⟩))
theorem p20 {x0 b x1 k0 r}(d:Rd W K [b] x0)(f:Gl 0 W K)(Y:Vm.zgE x0 x1=some r):Q1 20 [b,vS x1] W [] fun W' v=> ∃ a,v = .tuple [a,vB r.2].toArray/\Ow W' k0 [] [a] r.1:=
 (c20 (d.view _) (f.view _) Y).ad (fk k0) fun _ _ ⟨a,e,h⟩=>⟨a,e,h.back (zkx _)⟩
theorem c21 {x0 a x1 r}(x:Rd W0 [0] [a] x0)(Y:Vm.ziT x0 x1=some r):Q0 21 [a,vS x1] W0 fun Wf v=>v=vB r:=by
 unfold Vm.ziT at Y
 refine zaO.of Tryz.func21 O O O O (sr (Nb O (ssr (Ni O (Cw.block ?_)))))
 obtain⟨y,z,Y⟩:=zdC Y
 refine Cw.loop 6 17 [4,5] (fun m l w=> ∃ b d e,CW.w e=w/\Le [] W0 e/\l=[vB b,vI d]/\Vm.zeV x0 x1 y m b d=some r) _ ⟨false,0,W0,O,Le.refl _ _,O,Y⟩ ?_
 rintro(_ |A) _ _ σ ⟨b,d,e,rfl,i,rfl,Y⟩
 ·cases Y
 unfold Vm.zeV at Y
 have f:=i.o
 refine ssr ?_
 have h:=x.ul f
 refine mi O (mv a O (Lw.ln x0 h O (Lw.lt O (nl (cn Y (fun Y=>?_) fun Y=>?_)))))
 ·refine sk (Cw.seq (Cw.block (sr (mv a O (mi O ?_)))))
  obtain⟨B,k,Y⟩:=ob Y
  refine Lw.r O (R.ix (α:=Str) h k O O O) (Lw.r O (R.ld O O (h.at_ k).str) (ms O (Lw.seq O (nl (cn Y (fun Y=>?_) fun Y=>?_)))))
  ·exact sr (Nb O (.ret (rt Y f)))
  ·exact sk (rg (mi O (Lw.add O (Ni O ((agm) ⟨b,w64 (d+1),e,O,i,O,Y⟩)))))
 ·refine Cw.exit ?_
  rw[z]at Y
  exact sr (Nb O (.ret (rt Y f)))
theorem p21 {x0 a x1 r}(b:Rd W K [a] x0)(Y:Vm.ziT x0 x1=some r):Q1 21 [a,vS x1] W [] fun W' v=>v=vB r:=
 (c21 (b.view _) Y).ad (fk 0) fun _ _ e=>e
end Go.Sx
