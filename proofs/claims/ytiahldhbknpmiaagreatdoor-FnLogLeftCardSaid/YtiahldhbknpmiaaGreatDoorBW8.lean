/- Walks: each function answers as its model, printed by a program of ours. Conditions: the arguments read as they are given. -/
import Derived.Test.YtiahldhbknpmiaaGreatDoorBTs
import Derived.Test.YtiahldhbknpmiaaGreatDoorBM2
import Derived.Test.YtiahldhbknpmiaaGreatDoorBW6
namespace Go.Sx
open Go Go.Proofs Go.Vm Rp
set_option linter.unusedVariables false
set_option linter.unusedSimpArgs false
variable {W W0:CW}{K:List Nat}
theorem c122 {x0 y z x1 f r}(J:Rd W0 [0] [y,z] x0)(h:Rd W0 [0] [f] x1)(L:Gl 0 W0 [0])(Y:Vm.zfi x0 x1=some r):Q0 122 [.agg [y,z].toArray,f] W0 fun Wf v=>v=vB r:=by
 unfold Vm.zfi at Y
 obtain⟨U,V,A,B,C⟩:=Repo.split J
 simp only[List.cons.injEq,and_true,true_and]at A
 obtain⟨rfl,rfl⟩:=A
 refine zaY.of Tryz.func122 O O O O (sr (bo 2 O fun W X M D=>?_))
 have b:=M.o
 refine Nb O (ssr (la D (ca Y (fun _=>p43 (Repo.rd (K:=[0]) x0.Commits x0.Heads (B.ul b) (C.ul b)) (L.ul b)) fun Z E Y F=>?_)))
 have i:=b.n F
 refine Lw.r O (R.not O) (nl (cn Y (fun Y=>?_) fun Y=>?_))
 ·exact sr (Nb O (.ret (rt Y i)))
 ·refine sk (ssr (mv f O (Lw.ln x1 (h.ul i) O (mi O (nl (Cw.block ?_))))))
  obtain⟨N,P,Y⟩:=zdY Y
  refine Cw.loop 12 20 [4,6,12] (fun m l w=> ∃ d e G k,CW.w k=w/\Le [] E k/\l=[vB d,G,vI e]/\Vm.zdr x0 x1 N m d e=some r) _ ⟨false,0,undef,E,O,Le.refl _ _,O,Y⟩ ?_
  rintro(_ |aa) _ _ σ ⟨d,e,G,k,rfl,x,rfl,Y⟩
  ·cases Y
  unfold Vm.zdr at Y
  have a:=i.n x
  refine sr (Lw.lt O (nl (Cw.seq (cn Y (fun Y=>?_) fun Y=>?_))))
  ·refine sk (Cw.seq (Cw.block (sr ?_)))
   obtain⟨Q,H,Y⟩:=ob Y
   refine Lw.r O (R.ix (α:=Int) (h.ul a) H O O O) (Lw.r O (R.ld O O ((h.ul a).at_ H).int) (Ni O (sr (la ((D.up F).up x) (mi O (ca Y (fun _=>p89 (Repo.rd (K:=[0]) x0.Commits x0.Heads (B.ul a) (C.ul a))) fun ac S Y I=>?_))))))
   have T:=a.n I
   refine Lw.r O (R.not O) (nl (cn Y (fun Y=>?_) fun Y=>?_))
   ·exact sr (Nb O (.ret (rt Y T)))
   ·exact sk (rg (Lw.add O (mi O (nl ((agm) ⟨d,w64 (e+1),vI Q,S,O,(x.j I).w,O,Y⟩)))))
  ·refine Cw.exit ?_
   rw[P]at Y
   exact sr (Nb O (.ret (rt Y a)))
theorem p122 {x0 a b x1 d r}(f:Rd W K [a,b] x0)(h:Rd W K [d] x1)(i:Gl 0 W K)(Y:Vm.zfi x0 x1=some r):Q1 122 [.agg [a,b].toArray,d] W [] fun W' v=>v=vB r:=
 (c122 (f.view _) (h.view _) (i.view _) Y).ad (fk 0) fun _ _ e=>e
theorem c126 {x0 H I x1 r}(h0:Rd W0 [0] [H,I] x0)(Y:Vm.zbE x0 x1=some r):Q0 126 [.agg [H,I].toArray,vI x1] W0 fun Wf v=> ∃ J,v=J/\OwS Wf LL [] [J] r:=by
 unfold Vm.zbE at Y
 obtain⟨a3,a4,K,A,a5⟩:=Repo.split h0
 simp only[List.cons.injEq,and_true,true_and]at K
 obtain⟨rfl,rfl⟩:=K
 refine zaY.of Tryz.func126 O O O O (sr (bo 2 O fun g1 W1 l1 L=>?_))
 have M:=l1.o
 refine Nv (.slice none 0 0) O (sr (fl L O (Lw.ln x0.Commits (A.ul M) O ?_)))
 obtain⟨q4,e5,Y⟩:=ob Y
 refine Lw.t O (T.mk (α:=Bool) 3 [] (n:=(x0.Commits.length:Int)) O O e5) ?_
 rintro a _ ⟨W6,rfl,N,P⟩
 have a7:=M.n N
 refine Nv a O (sr (mv a O (mi O ?_)))
 obtain⟨u9,ai,Y⟩:=ob Y
 refine Lw.r O (R.ix (α:=Bool) P.rd ai O O O) ?_
 obtain⟨aj,ak,Y⟩:=ob Y
 refine Lw.u (T.stS (K':=[]) P (rdB _) ak O O O) ?_
 rintro _ _ ⟨Q,rfl,S,am⟩
 have an:=a7.t S
 refine nl (ssr (mi O (Ni O (Cw.block ?_))))
 obtain⟨ao,ap,Y⟩:=zdY Y
 refine Cw.loop 17 39 [6,8] (fun m l w=> ∃ i d k b,CW.w b=w/\Le [3] Q b/\l=[vI i,k]/\Ow b 3 [] [a] d/\Vm.za1 x0 ao m i d=some r) _ ⟨x1,aj,undef,Q,O,Le.refl _ _,O,am,Y⟩ ?_
 rintro(_ |bc) _ _ σ ⟨i,d,k,b,rfl,B,rfl,e,Y⟩
 ·cases Y
 unfold Vm.za1 at Y
 have C:=an.t B
 refine ssr (mi O (Lw.ge O (nl (cn Y (fun Y=>?_) fun Y=>?_))))
 ·refine sk ?_
  obtain⟨U,aq,Y⟩:=zdY Y
  refine Cw.join 21 39 [8] (fun l w=> ∃ x D f,CW.w f=w/\Le [3] b f/\l=[D]/\Ow f 3 [] [a] x/\U x=some r) ?_ ?_
  ·rintro _ _ σ ⟨x,D,f,rfl,ar,rfl,au,Y⟩
   rw[aq]at Y
   exact rg (mi O (Lw.sub O (Ni O ((agm) ⟨w64 (i-1),x,D,f,O,(B.j ar).w,O,au,Y⟩))))
  ·refine Cw.block (sr (mv a O (mi O ?_)))
   obtain⟨be,V,Y⟩:=ob Y
   refine Lw.r O (R.ix (α:=Bool) e.rd V O O O) (Lw.r O (R.ld O O (e.rd.at_ V).bool) (nl (cn Y (fun Y=>?_) fun Y=>?_)))
   ·refine sr (fl (((L.up N).up S).up B) O (mi O ?_))
    obtain⟨W,X,Y⟩:=ob Y
    refine Lw.r O (R.ix (α:=Commit) (A.ul C) X O O O) (Lw.fa O ?_)
    obtain⟨bg,c40,r41⟩:=(Commit.at0 ((A.ul C).at_ X)).cell O
    refine Lw.r O (R.ld O O c40) (Lw.ln W.Parents r41 O (mi O (nl (Cw.block (Cw.loop 32 39 [8,32] (fun m l w=> ∃ y z E h,CW.w h=w/\Le [3] b h/\l=[E,vI y]/\Ow h 3 [] [a] z/\Vm.zbn U W m y z=some r) _ ⟨0,d,k,b,O,Le.refl _ _,O,e,Y⟩ ?_)))))
    rintro(_ |bh) _ _ σ ⟨y,z,E,h,rfl,F,rfl,G,Y⟩
    ·cases Y
    unfold Vm.zbn at Y
    have Z:=F.s
    refine sr (Lw.lt O (nl (Cw.seq (cn Y (fun Y=>?_) fun Y=>?_))))
    ·refine sk (Cw.seq (Cw.block (sr ?_)))
     obtain⟨av,aa,Y⟩:=ob Y
     refine Lw.r O (R.ix (α:=Int) (r41.ul Z) aa O O O) (Lw.r O (R.ld O O ((r41.ul Z).at_ aa).int) (Ni O (rg (mv a O (mi O ?_)))))
     obtain⟨bi,aw,Y⟩:=ob Y
     refine Lw.r O (R.ix (α:=Bool) G.rd aw O O O) ?_
     obtain⟨ax,ay,Y⟩:=ob Y
     refine Lw.u (T.stS (K':=[]) G (rdB _) ay O O O) ?_
     rintro _ _ ⟨az,rfl,a0,a1⟩
     exact nl (rg (Lw.add O (mi O (nl ((agm) ⟨w64 (y+1),ax,vI av,az,O,(F.j a0).w,O,a1,Y⟩)))))
    ·exact Cw.exit ((ag) ⟨z,E,h,O,F,O,G,Y⟩)
   ·exact sk ((ag) ⟨d,k,b,O,Le.refl _ _,O,e,Y⟩)
 ·refine Cw.exit ?_
  rw[ap]at Y
  refine sr (mv a O (Nv a O ?_))
  cases Y
  exact Cw.ret (zmc O (Res.mk C ⟨a,O,e.s.sub O O⟩))
theorem p126 {x0 b d x1 k0 r}(f:Rd W K [b,d] x0)(Y:Vm.zbE x0 x1=some r):Q1 126 [.agg [b,d].toArray,vI x1] W [] fun W' v=> ∃ a,v=a/\Ow W' k0 [] [a] r:=
 (c126 (f.view _) Y).ad (fk k0) fun _ _ ⟨a,e,h⟩=>⟨a,e,h.back (zk0 _)⟩
theorem c134 {x0 k r}(x:Rd W0 [0] [k] x0)(Y:Vm.zc3 x0=some r):Q0 134 [k] W0 fun Wf v=> ∃ C,v=C/\OwS Wf LL [] [C] r:=by
 unfold Vm.zc3 at Y
 refine zaY.of Tryz.func134 O O O O (sr (Nv (.slice none 0 0) O (sr (Nv (.slice none 0 0) O (ssr (mv k O (Lw.ln x0 x O (mi O (nl (Cw.block ?_))))))))))
 obtain⟨K,L,Y⟩:=zdY Y
 refine Cw.loop 8 18 [3,4,5,8] (fun m l w=> ∃ f a b D E d,CW.w d=w/\Le [2] W0 d/\l=[b,D,E,vI a]/\Ow d 2 [] [b] f/\Vm.zej x0 K m f a=some r) _ ⟨([]:List Int),0, .slice none 0 0,undef,undef,W0,O,Le.refl _ _,O,owN 2 [],Y⟩ ?_
 rintro(_ |m9) _ _ σ ⟨f,a,b,D,E,d,rfl,F,rfl,y,Y⟩
 ·cases Y
 unfold Vm.zej at Y
 have z:=F.s
 refine sr (Lw.lt O (nl (Cw.seq (cn Y (fun Y=>?_) fun Y=>?_))))
 ·refine sk ?_
  obtain⟨M,N,Y⟩:=zdY Y
  refine Cw.join 10 17 [3,4,5] (fun l w=> ∃ h i A B e,CW.w e=w/\Le [2] d e/\l=[i,A,B]/\Ow e 2 [] [i] h/\M h=some r) ?_ ?_
  ·rintro _ _ σ ⟨h,i,A,B,e,rfl,P,rfl,Q,Y⟩
   rw[N]at Y
   exact rg (Lw.add O (mi O (nl ((agm) ⟨h,w64 (a+1),i,A,B,e,O,(F.j P).w,O,Q,Y⟩))))
  ·refine Cw.block (sr (mi O ?_))
   obtain⟨G,H,Y⟩:=ob Y
   refine Lw.r O (R.ix (α:=Bool) (x.ul z) H O O O) (Lw.r O (R.ld O O ((x.ul z).at_ H).bool) (Gi O (Nb O (sr (mb O (nl (cn Y (fun Y=>?_) fun Y=>?_)))))))
   ·refine rg (mv b O (mi O (Lw.t O (T.bs 3 [vI a] (cs:=[vI a]) O O (bsv O)) ?_)))
    rintro _ _ ⟨ac,ae,rfl,rfl,I,S⟩
    obtain⟨U,V,Y⟩:=ob Y
    refine Lw.t O (T.app1S (α:=Int) (K':=[]) (y.up I) S (rdI _) O O V) ?_
    rintro J _ ⟨W,rfl,X,Z⟩
    exact Nv J O ((ag) ⟨U,J,vI a,vB G,W,O,(I.j X).w,O,Z,Y⟩)
   ·exact sk ((ag) ⟨f,b,vI a,vB G,d,O,Le.refl _ _,O,y,Y⟩)
 ·refine Cw.exit ?_
  rw[L]at Y
  refine sr (mv b O (Nv b O ?_))
  cases Y
  exact Cw.ret (zmc O (Res.mk z ⟨b,O,y.s.sub O O⟩))
theorem p134 {x0 b k0 r}(d:Rd W K [b] x0)(Y:Vm.zc3 x0=some r):Q1 134 [b] W [] fun W' v=> ∃ a,v=a/\Ow W' k0 [] [a] r:=
 (c134 (d.view _) Y).ad (fk k0) fun _ _ ⟨a,e,f⟩=>⟨a,e,f.back (zk0 _)⟩
end Go.Sx
