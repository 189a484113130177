/- Walks: each function answers as its model, printed by a program of ours. Conditions: the arguments read as they are given. -/
import Derived.Test.YtiahldhbknpmiaaGreatDoorBTs
import Derived.Test.YtiahldhbknpmiaaGreatDoorBM10
import Derived.Test.YtiahldhbknpmiaaGreatDoorBW12
namespace Go.Sx
open Go Go.Proofs Go.Vm Rp
set_option linter.unusedVariables false
set_option linter.unusedSimpArgs false
variable {W W0:CW}{K:List Nat}
theorem c46 {x0 H I x1 J L r}(U:Rd W0 [0] [H,I] x0)(V:Rd W0 [0] [J,L] x1)(Y:Vm.zhF x0 x1=some r):Q0 46 [.agg [H,I].toArray, .agg [J,L].toArray] W0 fun Wf v=>v=vB r:=by
 unfold Vm.zhF at Y
 obtain⟨ah,ai,M,N,aj⟩:=Repo.split U
 simp only[List.cons.injEq,and_true,true_and]at M
 obtain⟨rfl,rfl⟩:=M
 obtain⟨ak,am,P,h,an⟩:=Repo.split V
 simp only[List.cons.injEq,and_true,true_and]at P
 obtain⟨rfl,rfl⟩:=P
 refine zaY.of Tryz.func46 O O O O (sr (bo 2 O fun g1 W1 W Q=>?_))
 have X:=W.o
 refine bo 3 O fun g3 S i k=>?_
 have b:=X.n i
 refine Nb O (ssr (fl (Q.up i) O (Lw.ln x0.Commits (N.ul b) O (fl k O (Lw.ln x1.Commits (h.ul b) O (Lw.lt O (nl (cn Y (fun Y=>?_) fun Y=>?_))))))))
 ·exact sr (Nb O (.ret (rt Y b)))
 ·refine sk (ssr (Ni O (Cw.block ?_)))
  obtain⟨Z,aa,Y⟩:=zdY Y
  refine Cw.loop 13 31 [4,5] (fun m l w=> ∃ d e x,CW.w x=w/\Le [] S x/\l=[vB d,vI e]/\Vm.zgj x0 x1 Z m d e=some r) _ ⟨false,0,S,O,Le.refl _ _,O,Y⟩ ?_
  rintro(_ |ar) _ _ σ ⟨d,e,x,rfl,a,rfl,Y⟩
  ·cases Y
  unfold Vm.zgj at Y
  have y:=b.n a
  refine ssr (mi O (fl (k.up a) O (Lw.ln x1.Commits (h.ul y) O (Lw.lt O (nl (cn Y (fun Y=>?_) fun Y=>?_))))))
  ·refine sk (Cw.seq (Cw.block (Cw.seq (Cw.draw [] [(0,0),(1,1),(2,0),(3,0),(4,1),(5,0),(6,1),(7,0),(8,0),(9,1),(10,2),(11,0)] mixed (by kernel_rfl) fun au f=>?_))))
   have z:=y.n f
   refine Dfl (((Q.up i).up a).up f) O O O (Di O ?_)
   obtain⟨A,B,Y⟩:=ob Y
   have C:=N.ul z
   refine Mw.p O O (fun _=>R.ix (α:=Commit) C B O O O) ?_
   obtain⟨x26,c27,_,r28⟩:=(C.at_ B).cells
   obtain⟨av,aw,rfl,r30,r32⟩:=Commit.split r28
   refine Mw.q O O (fun _ c=>R.lda (znP (C.at_ B).1 O c27 c) O O) (Dfl ((k.up a).up f) O O O (Di O ?_))
   obtain⟨D,E,Y⟩:=ob Y
   have F:=h.ul z
   refine Mw.p O O (fun _=>R.ix (α:=Commit) F E O O O) ?_
   obtain⟨x36,c37,_,r38⟩:=(F.at_ E).cells
   obtain⟨ax,ay,rfl,r40,r42⟩:=Commit.split r38
   refine Mw.q O O (fun _ c=>R.lda (znP (F.at_ E).1 O c37 c) O O) ?_
   obtain⟨az,ac,Y⟩:=ob Y
   refine Mw.t O O (T.call O (p112 (Commit.rd (K:=[0]) A.Parents A.Who A.Tree r30 r32) (Commit.rd (K:=[0]) D.Parents D.Who D.Tree r40 r42) ac)) ?_
   rintro _ _ ⟨ae,rfl,G,rfl⟩
   have af:=z.n G
   refine m0 G fun a0=>Mw.p O O (fun _=>R.not O) (Mw.nil (cn Y (fun Y=>?_) fun Y=>?_))
   ·exact sr (Nb O (.ret (rt Y af)))
   ·exact sk (rg (mi O (Lw.add O (Ni O ((agm) ⟨d,w64 (e+1),ae,O,((a.j f).j G).w,O,Y⟩)))))
  ·refine Cw.exit ?_
   rw[aa]at Y
   exact sr (Nb O (.ret (rt Y y)))
theorem p46 {x0 a b x1 d f r}(h:Rd W K [a,b] x0)(i:Rd W K [d,f] x1)(Y:Vm.zhF x0 x1=some r):Q1 46 [.agg [a,b].toArray, .agg [d,f].toArray] W [] fun W' v=>v=vB r:=
 (c46 (h.view _) (i.view _) Y).ad (fk 0) fun _ _ e=>e
end Go.Sx
