/- Walks: each function answers as its model, printed by a program of ours. Conditions: the arguments read as they are given. -/
import Derived.Test.YtiahldhbknpmiaaGreatDoorBTs
import Derived.Test.YtiahldhbknpmiaaGreatDoorBM9
import Derived.Test.YtiahldhbknpmiaaGreatDoorBW11
import Derived.Test.YtiahldhbknpmiaaGreatDoorBW12
import Derived.Test.YtiahldhbknpmiaaGreatDoorBW6
namespace Go.Sx
open Go Go.Proofs Go.Vm Rp
set_option linter.unusedVariables false
set_option linter.unusedSimpArgs false
variable {W W0:CW}{K:List Nat}
theorem c49 {x0 e r}(C:Rd W0 [0] [e] x0)(Y:Vm.zhG x0=some r):Q0 49 [e] W0 fun Wf v=> ∃ k x,v = .tuple [.agg [k,x].toArray,vS r.2.1,vS r.2.2.1,vI r.2.2.2].toArray/\OwS Wf [31] [] [k] r.1.Commits/\OwS Wf [32] [] [x] r.1.Heads:=by
 unfold Vm.zhG at Y
 refine zaY.of Tryz.func49 O O O O (sr (al 2 [.slice none 0 0, .slice none 0 0] fun P Q D E=>?_))
 have y:=D.o
 refine Gs O (Gs O (Ni O (sr (mv e O (cr Y (fun _=>p111 (k0:=3) (k1:=4) (C.ul y)) ?_)))))
 rintro a _ S Y z ⟨b,d,rfl,A,B⟩
 have F:=y.n z
 refine Lw.r O (R.ext (vs:=[.agg [b,d].toArray,vS a.2.1,vS a.2.2.1,vI a.2.2.2]) (v:= .agg [b,d].toArray) O O) (Lw.r O (R.ext (vs:=[.agg [b,d].toArray,vS a.2.1,vS a.2.2.1,vI a.2.2.2]) (v:=vS a.2.1) O O) (Lw.r O (R.ext (vs:=[.agg [b,d].toArray,vS a.2.1,vS a.2.2.1,vI a.2.2.2]) (v:=vS a.2.2.1) O O) (Lw.r O (R.ext (vs:=[.agg [b,d].toArray,vS a.2.1,vS a.2.2.1,vI a.2.2.2]) (v:=vI a.2.2.2) O O) (sta (E.up z) (zai A.oc (zai B.oc zbt)) fun T f G=>?_))))
 have H:=F.t f
 refine Gs O (Gs O (Ni O ?_))
 obtain⟨U,I,h,J⟩:=(A.up f).dyeO 31
 have K:=H.t h
 obtain⟨V,L,i,M⟩:=((B.up f).up h).dyeO 32
 have N:=K.t i
 cases Y
 rw[<- L.trans (I)]
 exact Cw.ret (zvS (zjD.c O ((G.up h).up i) (zjD.t O (zjD.t O (zjD.t O zjD.n)))) (Res.mk N ⟨b,d,O,(J.up i).s,M.s⟩))
theorem p49 {x0 d k0 k1 r}(f:Rd W K [d] x0)(Y:Vm.zhG x0=some r):Q1 49 [d] W [] fun W' v=> ∃ a b,v = .tuple [.agg [a,b].toArray,vS r.2.1,vS r.2.2.1,vI r.2.2.2].toArray/\Ow W' k0 [] [a] r.1.Commits/\Ow W' k1 [] [b] r.1.Heads:=
 zaY.adJ (J:=[]) (fun c=>bif Nat.beq c 0 then 0 else bif Nat.beq c 31 then k0 else bif Nat.beq c 32 then k1 else 0) (c49 (f.view _) Y) fun _ _ ⟨a,b,e,h,i⟩=>⟨a,b,e,h.one1.backN O,i.one1.backN O⟩
theorem c23 {x0 z A x1 x2 x3 r}(N:Rd W0 [0] [z,A] x0)(B:Gl 0 W0 [0])(Y:Vm.zkg x0 x1 x2 x3=some r):Q0 23 [.agg [z,A].toArray,vS x1,vS x2,vI x3] W0 fun Wf v=> ∃ C D,v = .tuple [.agg [C,D].toArray,vI r.2].toArray/\OwS Wf [31] [] [C] r.1.Commits/\OwS Wf [32] [] [D] r.1.Heads:=by
 unfold Vm.zkg at Y
 obtain⟨ai,aj,E,F,G⟩:=Repo.split N
 simp only[List.cons.injEq,and_true,true_and]at E
 obtain⟨rfl,rfl⟩:=E
 refine zaY.of Tryz.func23 O O O O (sr (bo 2 O fun g1 W1 P H=>?_))
 have Q:=P.o
 refine al 3 [.slice none 0 0, .slice none 0 0] fun g3 W3 h I=>?_
 have b:=Q.n h
 refine Ni O (ssr (la (H.up h) (ca Y (fun _=>p43 (Repo.rd (K:=[0]) x0.Commits x0.Heads (F.ul b) (G.ul b)) (B.ul b)) fun z9 aq Y d=>?_)))
 have a:=b.n d
 refine Lw.r O (R.not O) (nl (cn Y (fun Y=>?_) fun Y=>?_))
 ·refine sr (Lw.r O (R.bd (zs:=[.slice none 0 0, .slice none 0 0]) (cs:=[.slice none 0 0, .slice none 0 0]) [] O O O zh4) (sta (I.up d) (zai O (zai O zbt)) fun ar S T=>?_))
  have U:=a.t S
  refine Ni O ?_
  cases Y
  exact Cw.ret (zjs O T O (Res.mk U ⟨.slice none 0 0, .slice none 0 0,O,(zoR []).sub O O,(zoR []).sub O O⟩))
 ·refine sk (sr (la ((H.up h).up d) (ms O (ms O (mi O (cr Y (fun _=>p77 (k0:=4) (k1:=5) (Repo.rd (K:=[0]) x0.Commits x0.Heads (F.ul a) (G.ul a)) (B.ul a)) ?_))))))
  rintro i _ au Y J ⟨e,f,rfl,L,M⟩
  have V:=a.n J
  refine Lw.r O (R.ext (vs:=[.agg [e,f].toArray,vI i.2]) (v:= .agg [e,f].toArray) O O) (Lw.r O (R.ext (vs:=[.agg [e,f].toArray,vI i.2]) (v:=vI i.2) O O) (sta ((I.up d).up J) (zai L.oc (zai M.oc zbt)) fun av k W=>?_))
  have X:=V.t k
  refine Ni O ?_
  obtain⟨aw,Z,x,aa⟩:=(L.up k).dyeO 31
  have ac:=X.t x
  obtain⟨ax,ae,y,af⟩:=((M.up k).up x).dyeO 32
  have ah:=ac.t y
  cases Y
  rw[<- ae.trans (Z)]
  exact Cw.ret (zjs O ((W.up x).up y) O (Res.mk ah ⟨e,f,O,(aa.up y).s,af.s⟩))
theorem p23 {x0 d f x1 x2 x3 k0 k1 r}(h:Rd W K [d,f] x0)(i:Gl 0 W K)(Y:Vm.zkg x0 x1 x2 x3=some r):Q1 23 [.agg [d,f].toArray,vS x1,vS x2,vI x3] W [] fun W' v=> ∃ a b,v = .tuple [.agg [a,b].toArray,vI r.2].toArray/\Ow W' k0 [] [a] r.1.Commits/\Ow W' k1 [] [b] r.1.Heads:=
 zaY.adJ (J:=[]) (fun c=>bif Nat.beq c 0 then 0 else bif Nat.beq c 31 then k0 else bif Nat.beq c 32 then k1 else 0) (c23 (h.view _) (i.view _) Y) fun _ _ ⟨a,b,e,k,x⟩=>⟨a,b,e,k.one1.backN O,x.one1.backN O⟩
end Go.Sx
