/- Walks: each function answers as its model, printed by a program of ours. Conditions: the arguments read as they are given. -/
import Derived.Test.YtiahldhbknpmiaaGreatDoorBTs
import Derived.Test.YtiahldhbknpmiaaGreatDoorBM3
import Derived.Test.YtiahldhbknpmiaaGreatDoorBW6
import Derived.Test.YtiahldhbknpmiaaGreatDoorBE
namespace Go.Sx
open Go Go.Proofs Go.Vm Rp
set_option linter.unusedVariables false
set_option linter.unusedSimpArgs false
variable {W W0:CW}{K:List Nat}
theorem c168 {x0 a r}(f:Rd W0 [0] [a] x0)(Y:Vm.zfj x0=some r):Q0 168 [a] W0 fun Wf v=> ∃ b,v=b/\OwS Wf LL [] [b] r:=by
 unfold Vm.zfj at Y
 refine zaY.of Tryz.func168 O O O O (sr (Nv (.slice none 0 0) O (sr (Lw.t O (T.lit0 (α:=Str) 2 []) ?_))))
 rintro A _ ⟨B,rfl,h,i⟩
 have d:=h.o
 refine mv a O ?_
 obtain⟨C,k,Y⟩:=ob Y
 refine Lw.t O (T.appP (α:=Str) i (f.ul d) O O k) ?_
 rintro e _ ⟨D,rfl,x,y⟩
 have z:=d.t x
 refine Nv e O ?_
 cases Y
 exact Cw.ret (zmc O (Res.mk z ⟨e,O,y.s.sub O O⟩))
theorem p168 {x0 b k0 r}(d:Rd W K [b] x0)(Y:Vm.zfj x0=some r):Q1 168 [b] W [] fun W' v=> ∃ a,v=a/\Ow W' k0 [] [a] r:=
 (c168 (d.view _) Y).ad (fk k0) fun _ _ ⟨a,e,f⟩=>⟨a,e,f.back (zk0 _)⟩
theorem c117 {x0 k r}(x:Rd W0 [0] [k] x0)(Y:Vm.zc4 x0=some r):Q0 117 [k] W0 fun Wf v=> ∃ C,v=C/\OwS Wf LL [] [C] r:=by
 unfold Vm.zc4 at Y
 refine zaY.of Tryz.func117 O O O O (sr (Nv (.slice none 0 0) O (sr (Nv (.slice none 0 0) O (ssr (mv k O (Lw.ln x0 x O (mi O (nl (Cw.block ?_))))))))))
 obtain⟨N,P,Y⟩:=zdY Y
 refine Cw.loop 8 21 [3,5,8] (fun m l w=> ∃ y e a D f,CW.w f=w/\Le [2,3,4] W0 f/\l=[a,D,vI e]/\Ow f 2 [] [a] y/\Vm.zds x0 N m y e=some r) _ ⟨([]:List File),0, .slice none 0 0,undef,W0,O,Le.refl _ _,O,owN 2 [],Y⟩ ?_
 rintro(_ |m8) _ _ σ ⟨y,e,a,D,f,rfl,E,rfl,F,Y⟩
 ·cases Y
 unfold Vm.zds at Y
 have z:=E.s
 refine sr (Lw.lt O (nl (Cw.seq (cn Y (fun Y=>?_) fun Y=>?_))))
 ·refine sk (Cw.seq (Cw.block (sr ?_)))
  obtain⟨b,G,Y⟩:=ob Y
  refine Lw.r O (R.ix (α:=File) (x.ul z) G O O O) ?_
  obtain⟨x14,c15,_,r16⟩:=((x.ul z).at_ G).cells
  obtain⟨ak,rfl,r18⟩:=File.split r16
  refine Lw.r O (R.lda c15 O O) (al 3 [vS ([]:Str), .slice none 0 0] fun Q am A S=>?_)
  have U:=A.o
  refine sta S (zai O (zai r18.oc zbt)) fun an B H=>?_
  have V:=U.t B
  refine nl (Cw.draw [2,4] [(0,0),(1,0),(2,1),(3,0),(4,1),(5,2),(6,0),(7,2),(8,2),(9,0)] mixed (by kernel_rfl) fun ao d=>?_)
  have W:=V.n d
  refine Dv a O (Dfl (H.up d) O O O (Dfl (H.up d) O O O (Dc Y (Le.refl _ _) (fun _=>p168 (k0:=4) (r18.ul W)) O ?_)))
  rintro X h ap Y I ⟨_,rfl,K⟩ Z
  refine Mw.p O O (fun _=>R.bd (zs:=[vS ([]:Str), .slice none 0 0]) (cs:=[vS b.Path,h]) [(0,vS b.Path),(1,h)] O O O (zc7 O O (zc7 K.oc O zh4))) (Mw.t O O (T.bs 5 [.agg [vS b.Path,h].toArray] (cs:=[vS b.Path,h]) O O (bsA O)) ?_)
  rintro _ _ ⟨aq,ar,rfl,rfl,i,aa⟩
  refine mc Z i fun ac=>?_
  obtain⟨ae,af,Y⟩:=ob Y
  refine Mw.t O O (T.app1 (α:=File) (J:=[4]) (K':=[]) (((((F.up A).up B).up d).up I).up i) aa (File.own b.Path X (K.up i).s) O O af) ?_
  rintro L _ ⟨ah,rfl,M,ai⟩
  exact mc ac M fun au=>Hv L O (Mw.nil (rg (Lw.add O (mi O (nl ((agm) ⟨ae,w64 (e+1),L,ptr (bx Q),ah,O,((((((E.j A).j B).j d).j I).j i).j M).w,O,ai,Y⟩))))))
 ·refine Cw.exit ?_
  rw[P]at Y
  refine sr (mv a O (Nv a O ?_))
  cases Y
  exact Cw.ret (zmc O (Res.mk z ⟨a,O,F.s.sub O O⟩))
theorem p117 {x0 b k0 r}(d:Rd W K [b] x0)(Y:Vm.zc4 x0=some r):Q1 117 [b] W [] fun W' v=> ∃ a,v=a/\Ow W' k0 [] [a] r:=
 (c117 (d.view _) Y).ad (fk k0) fun _ _ ⟨a,e,f⟩=>⟨a,e,f.back (zk0 _)⟩
theorem c105 {x0 b d x1 r}(x:Rd W0 [0] [b,d] x0)(Y:Vm.zaN x0 x1=some r):Q0 105 [.agg [b,d].toArray,vI x1] W0 fun Wf v=> ∃ e,v=e/\Rd Wf [0] [e] r:=by
 unfold Vm.zaN at Y
 obtain⟨A,B,f,h,C⟩:=Repo.split x
 simp only[List.cons.injEq,and_true,true_and]at f
 obtain⟨rfl,rfl⟩:=f
 refine zaY.of Tryz.func105 O O O O (sr (bo 2 O fun D E y z=>?_))
 have a:=y.o
 refine Nv (.slice none 0 0) O (ssr (mi O (Lw.lt O (nl (cn Y (fun Y=>?_) fun Y=>?_)))))
 ·refine sr (Nv (.slice none 0 0) O ?_)
  cases Y
  exact Cw.ret (zmc O (Res.mk a ⟨.slice none 0 0,O,(rdN (K:=[0]))⟩))
 ·refine sk (sr (fl z O (mi O ?_)))
  obtain⟨F,i,Y⟩:=ob Y
  refine Lw.r O (R.ix (α:=Commit) (h.ul a) i O O O) (Lw.fa O ?_)
  obtain⟨k,c8,r9⟩:=(Commit.at2 ((h.ul a).at_ i)).cell O
  refine Lw.r O (R.ld O O c8) (Nv k O ?_)
  cases Y
  exact Cw.ret (zmc O (Res.mk a ⟨k,O,r9⟩))
theorem p105 {x0 b d x1 r}(f:Rd W K [b,d] x0)(Y:Vm.zaN x0 x1=some r):Q1 105 [.agg [b,d].toArray,vI x1] W [] fun W' v=> ∃ a,v=a/\Rd W' (0::K) [a] r:=
 (c105 (f.view _) Y).ad (fk 0) fun _ _ ⟨a,e,h⟩=>⟨a,e,h.back O⟩
theorem c119 {x0 e x1 f x2 h r}(B:Rd W0 [0] [e] x0)(C:Rd W0 [0] [f] x1)(D:Rd W0 [0] [h] x2)(i:Gl 0 W0 [0])(Y:Vm.zgE x0 x1 x2=some r):Q0 119 [e,f,h] W0 fun Wf v=>v=vB r:=by
 unfold Vm.zgE at Y
 refine zaY.of Tryz.func119 O O O O (sr (Nb O ?_))
 obtain⟨E,F,Y⟩:=zdY Y
 refine Cw.join 7 16 [6] (fun l w=> ∃ k x,CW.w x=w/\Le [] W0 x/\l=[vB k]/\E k=some r) ?_ ?_
 ·rintro _ _ σ ⟨k,x,rfl,G,rfl,Y⟩
  rw[F]at Y
  have H:=G.o
  exact .ret (rt Y H)
 ·refine rg (mv e O (ca Y (fun _=>p114 B i) fun N I Y d=>?_))
  have y:=d.o
  refine mb O (bs Y (fun a Y=>?_) fun a Y=>?_)
  ·refine wak 2 a (mv f O (ca Y (fun _=>p114 (C.ul y) (i.ul y)) fun P J Y z=>?_))
   have A:=y.n z
   refine Pb a O (mb O (bs Y (fun b Y=>?_) fun b Y=>?_))
   ·exact wak 2 b (mv h O (ca Y (fun _=>p114 (D.ul A) (i.ul A)) fun K L Y M=>Pb b O (Nb O ((ag) ⟨K,L,O,((d.j z).j M).w,O,Y⟩))))
   ·exact psk 2 b O (Pb b O (Nb O ((ag) ⟨false,J,O,(d.j z).w,O,Y⟩)))
  ·exact psk 2 a O (Pb a O (mb O (psk 2 O O (Pb O O (Nb O ((ag) ⟨false,I,O,d,O,Y⟩))))))
theorem p119 {x0 a x1 b x2 d r}(f:Rd W K [a] x0)(h:Rd W K [b] x1)(i:Rd W K [d] x2)(k:Gl 0 W K)(Y:Vm.zgE x0 x1 x2=some r):Q1 119 [a,b,d] W [] fun W' v=>v=vB r:=
 (c119 (f.view _) (h.view _) (i.view _) (k.view _) Y).ad (fk 0) fun _ _ e=>e
theorem c175 {x0 x r}(y:Rd W0 [0] [x] x0)(Y:Vm.zg6 x0=some r):Q0 175 [x] W0 fun Wf v=> ∃ E,v=E/\OwS Wf LL [] [E] r:=by
 unfold Vm.zg6 at Y
 refine zaY.of Tryz.func175 O O O O (sr (Nv (.slice none 0 0) O (sr (Nv (.slice none 0 0) O (ssr (mv x O (Lw.ln x0 y O (mi O (nl (Cw.block ?_))))))))))
 obtain⟨X,Z,Y⟩:=zdY Y
 refine Cw.loop 10 26 [3,5,7,10] (fun m l w=> ∃ f h a F z b,CW.w b=w/\Le [2,3] W0 b/\l=[a,F,z,vI h]/\Ow b 2 [] [a] f/\Vm.zbm x0 X m f h=some r) _ ⟨([]:List Str),0, .slice none 0 0,undef,undef,W0,O,Le.refl _ _,O,owN 2 [],Y⟩ ?_
 rintro(_ |m9) _ _ σ ⟨f,h,a,F,z,b,rfl,G,rfl,H,Y⟩
 ·cases Y
 unfold Vm.zbm at Y
 have A:=G.s
 refine sr (Lw.lt O (nl (Cw.seq (cn Y (fun Y=>?_) fun Y=>?_))))
 ·refine sk (Cw.seq (Cw.block (sr ?_)))
  obtain⟨I,J,Y⟩:=ob Y
  refine Lw.r O (R.ix (α:=List File) (y.ul A) J O O O) ?_
  obtain⟨B,c16,r17⟩:=((y.ul A).at_ J).cell O
  refine Lw.r O (R.ld O O c16) (Nv B O (sr (mv B O (Lw.ln I r17 O (mi O (nl (Cw.block ?_)))))))
  obtain⟨aa,ac,Y⟩:=zdY Y
  refine Cw.loop 16 25 [3,7,16] (fun m l w=> ∃ i k d C e,CW.w e=w/\Le [2,3] b e/\l=[d,C,vI k]/\Ow e 2 [] [d] i/\Vm.zdt I aa m i k=some r) _ ⟨f,0,a,z,b,O,Le.refl _ _,O,H,Y⟩ ?_
  rintro(_ |ay) _ _ σ ⟨i,k,d,C,e,rfl,D,rfl,L,Y⟩
  ·cases Y
  unfold Vm.zdt at Y
  have M:=D.s
  refine sr (Lw.lt O (nl (Cw.seq (cn Y (fun Y=>?_) fun Y=>?_))))
  ·refine sk (Cw.seq (Cw.block (sr ?_)))
   obtain⟨N,P,Y⟩:=ob Y
   refine Lw.r O (R.ix (α:=File) (r17.ul M) P O O O) ?_
   obtain⟨x31,c32,_,r33⟩:=((r17.ul M).at_ P).cells
   obtain⟨az,rfl,r35⟩:=File.split r33
   refine Lw.r O (R.lda c32 O O) (al 3 [vS ([]:Str), .slice none 0 0] fun ae a0 Q af=>sta af (zai O (zai r35.oc zbt)) fun a1 S ah=>nl (rg (mv d O (fl ah O (Lw.t O (T.bs 4 [vS N.Path] (cs:=[vS N.Path]) O O (bsv O)) ?_)))))
   rintro _ _ ⟨a2,a3,rfl,rfl,U,ai⟩
   obtain⟨aj,ak,Y⟩:=ob Y
   refine Lw.t O (T.app1S (α:=Str) (K':=[]) (((L.up Q).up S).up U) ai (rdS _) O O ak) ?_
   rintro V _ ⟨am,rfl,an,ao⟩
   exact Nv V O (rg (Lw.add O (mi O (nl ((agm) ⟨aj,w64 (k+1),V,ptr (bx ae),am,O,((((D.j Q).j S).j U).j an).w,O,ao,Y⟩)))))
  ·refine Cw.exit ?_
   rw[ac]at Y
   exact rg (Lw.add O (mi O (nl ((agm) ⟨i,w64 (h+1),d,B,C,e,O,(G.j D).w,O,L,Y⟩))))
 ·refine Cw.exit ?_
  rw[Z]at Y
  refine sr (mv a O (cr Y (fun _=>p164 (K:=[0]) (c0:=2) H O) ?_))
  rintro a4 _ a5 Y ap ⟨rfl,aq⟩
  have ar:=A.t ap
  refine nl (sr (mv a O (cr Y (fun _=>p172 (K:=[0]) (k0:=5) (c0:=2) aq O) ?_)))
  rintro a6 W a7 Y au ⟨_,rfl,av⟩
  have aw:=ar.t au
  refine Nv W O ?_
  cases Y
  exact Cw.ret (zmc O (Res.mk aw ⟨W,O,av.s.sub O O⟩))
theorem p175 {x0 b k0 r}(d:Rd W K [b] x0)(Y:Vm.zg6 x0=some r):Q1 175 [b] W [] fun W' v=> ∃ a,v=a/\Ow W' k0 [] [a] r:=
 (c175 (d.view _) Y).ad (fk k0) fun _ _ ⟨a,e,f⟩=>⟨a,e,f.back (zk0 _)⟩
theorem c165 {x0 i x1 r}(k:Rd W0 [0] [i] x0)(Y:Vm.zkN x0 x1=some r):Q0 165 [i,vS x1] W0 fun Wf v=> ∃ z,v = .tuple [z,vB r.2].toArray/\OwS Wf LL [] [z] r.1:=by
 unfold Vm.zkN at Y
 refine zaY.of Tryz.func165 O O O O (sr (Gv (.slice none 0 0) O (Nb O (ssr (mv i O (Lw.ln x0 k O (mi O (nl (Cw.block ?_)))))))))
 obtain⟨H,I,Y⟩:=zdY Y
 refine Cw.loop 10 21 [4,5,7,10] (fun m l w=> ∃ a b d e A f,CW.w f=w/\Le [3] W0 f/\l=[e,vB b,A,vI d]/\Ow f 2 [] [e] a/\Vm.zfF x0 x1 H m a b d=some r) _ ⟨([]:List Str),false,0, .slice none 0 0,undef,W0,O,Le.refl _ _,O,owN 2 [],Y⟩ ?_
 rintro(_ |S) _ _ σ ⟨a,b,d,e,A,f,rfl,B,rfl,J,Y⟩
 ·cases Y
 unfold Vm.zfF at Y
 have h:=B.s
 refine sr (Lw.lt O (nl (Cw.seq (cn Y (fun Y=>?_) fun Y=>?_))))
 ·refine sk (Cw.seq (Cw.block (sr ?_)))
  obtain⟨T,C,Y⟩:=ob Y
  refine Lw.r O (R.ix (α:=File) (k.ul h) C O O O) ?_
  obtain⟨x15,c16,_,r17⟩:=((k.ul h).at_ C).cells
  obtain⟨U,rfl,r19⟩:=File.split r17
  refine Lw.r O (R.lda c16 O O) (al 3 [vS ([]:Str), .slice none 0 0] fun K V x L=>?_)
  have D:=x.o
  refine sta L (zai O (zai r19.oc zbt)) fun M y E=>?_
  have F:=y.s
  refine nl (sr (fl E O (ms O (Lw.seq O (nl (cn Y (fun Y=>?_) fun Y=>?_))))))
  ·refine sr (fl E O (cr Y (fun _=>p168 (k0:=4) (r19.ul (D.trans F))) ?_))
   rintro W G X Y N ⟨_,rfl,P⟩
   have Q:=((h.trans D).trans F).n N
   refine Gv G O (Nb O ?_)
   cases Y
   exact Cw.ret (zom O O (Res.mk Q ⟨G,O,P.s.sub O O⟩))
  ·exact sk (rg (Lw.add O (mi O (nl ((agm) ⟨a,b,w64 (d+1),e,ptr (bx K),M,O,((B.j x).j y).w,O,((J.up x).up y),Y⟩)))))
 ·refine Cw.exit ?_
  rw[I]at Y
  refine sr (Gv (.slice none 0 0) O (Nb O ?_))
  cases Y
  exact Cw.ret (zom O O (Res.mk h ⟨.slice none 0 0,O,(zoR []).sub O O⟩))
theorem p165 {x0 b x1 k0 r}(d:Rd W K [b] x0)(Y:Vm.zkN x0 x1=some r):Q1 165 [b,vS x1] W [] fun W' v=> ∃ a,v = .tuple [a,vB r.2].toArray/\Ow W' k0 [] [a] r.1:=
 (c165 (d.view _) Y).ad (fk k0) fun _ _ ⟨a,e,f⟩=>⟨a,e,f.back (zk0 _)⟩
theorem c177 {x0 d x1 r}(x:Rd W0 [0] [d] x0)(Y:Vm.ziQ x0 x1=some r):Q0 177 [d,vS x1] W0 fun Wf v=> ∃ f,v = .agg [f,vB r.file].toArray/\OwS Wf LL [] [f] r.text:=by
 unfold Vm.ziQ at Y
 refine zaY.of Tryz.func177 O O O O (sr (al 2 [.slice none 0 0,vB false] fun D E y z=>?_))
 have h:=y.o
 refine nl (sr (mv d O (ms O (cr Y (fun _=>p165 (k0:=3) (x.ul h)) ?_))))
 rintro b _ F Y i ⟨a,rfl,e⟩
 have A:=h.n i
 refine mv (.tuple [a,vB b.2].toArray) O (Lw.r O (R.ext (vs:=[a,vB b.2]) (v:=a) O O) (Lw.r O (R.ext (vs:=[a,vB b.2]) (v:=vB b.2) O O) (Gv a O (Nb O (sr (mv a O (mb O (Lw.r O (R.bd (zs:=[.slice none 0 0,vB false]) (cs:=[a,vB b.2]) [(0,a),(1,vB b.2)] O O O (zc7 e.oc O (zc7 O O zh4))) (sta (z.up i) (zai e.oc (zai O zbt)) fun G k B=>?_)))))))))
 have C:=A.t k
 refine nl ?_
 cases Y
 exact Cw.ret (zoQ O B (Res.mk C ⟨a,O,(e.up k).s.sub O O⟩))
theorem p177 {x0 b x1 k0 r}(d:Rd W K [b] x0)(Y:Vm.ziQ x0 x1=some r):Q1 177 [b,vS x1] W [] fun W' v=> ∃ a,v = .agg [a,vB r.file].toArray/\Ow W' k0 [] [a] r.text:=
 (c177 (d.view _) Y).ad (fk k0) fun _ _ ⟨a,e,f⟩=>⟨a,e,f.back (zk0 _)⟩
theorem c166 {x0 b x1 f r}(d:Rd W0 [0] [b] x0)(h:Rd W0 [0] [f] x1)(Y:Vm.zbe x0 x1=some r):Q0 166 [b,f] W0 fun Wf v=>v=vB r:=by
 unfold Vm.zbe at Y
 refine zaY.of Tryz.func166 O O O O (sr (Nb O (ssr (mv b O (Lw.ln x0 d O (mv f O (Lw.ln x1 h O (Lw.ne O (nl (cn Y (fun Y=>?_) fun Y=>?_))))))))))
 ·exact sr (Nb O (.ret (rt Y (Le.refl _ _))))
 ·refine sk (ssr (mv b O (Lw.ln x0 d O (mi O (nl (Cw.block ?_))))))
  obtain⟨C,D,Y⟩:=zdY Y
  refine Cw.loop 13 25 [4,5,13] (fun m l w=> ∃ i e z k,CW.w k=w/\Le [] W0 k/\l=[vB i,z,vI e]/\Vm.zaQ x0 x1 C m i e=some r) _ ⟨false,0,undef,W0,O,Le.refl _ _,O,Y⟩ ?_
  rintro(_ |F) _ _ σ ⟨i,e,z,k,rfl,A,rfl,Y⟩
  ·cases Y
  unfold Vm.zaQ at Y
  have B:=A.o
  refine sr (Lw.lt O (nl (Cw.seq (cn Y (fun Y=>?_) fun Y=>?_))))
  ·refine sk (Cw.seq (Cw.block (sr (mi O (Ni O (Cw.seq (Cw.draw [] [(0,0),(1,0),(2,0),(3,1),(4,0),(5,0),(6,0),(7,1),(8,0)] mixed (by kernel_rfl) fun E l10=>?_)))))))
   have a:=B.n l10
   refine Dv b O (Di O ?_)
   obtain⟨G,x,Y⟩:=ob Y
   refine Mw.p O O (fun _=>R.ix (α:=Str) (d.ul a) x O O O) (Mw.q O O (fun _ c=>R.ld O O (zaW ((d.ul a).at_ x).1 O ((d.ul a).at_ x).str c)) (Dv f O (Di O ?_)))
   obtain⟨H,y,Y⟩:=ob Y
   refine Mw.p O O (fun _=>R.ix (α:=Str) (h.ul a) y O O O) (Mw.q O O (fun _ c=>R.ld O O (zaW ((h.ul a).at_ y).1 O ((h.ul a).at_ y).str c)) (Mw.p O O (fun _=>R.sne O O) (Mw.nil (cn Y (fun Y=>?_) fun Y=>?_))))
   ·exact sr (Nb O (.ret (rt Y a)))
   ·exact sk (rg (Lw.add O (mi O (nl ((agm) ⟨i,w64 (e+1),vI e,E,O,(A.j l10).w,O,Y⟩)))))
  ·refine Cw.exit ?_
   rw[D]at Y
   exact sr (Nb O (.ret (rt Y B)))
theorem p166 {x0 a x1 b r}(d:Rd W K [a] x0)(f:Rd W K [b] x1)(Y:Vm.zbe x0 x1=some r):Q1 166 [a,b] W [] fun W' v=>v=vB r:=
 (c166 (d.view _) (f.view _) Y).ad (fk 0) fun _ _ e=>e
theorem c203 {x0 h x1 i r}(B:Rd W0 [0] [h,vB x0.file] x0)(C:Rd W0 [0] [i,vB x1.file] x1)(Y:Vm.zf4 x0 x1=some r):Q0 203 [.agg [h,vB x0.file].toArray, .agg [i,vB x1.file].toArray] W0 fun Wf v=>v=vB r:=by
 unfold Vm.zf4 at Y
 obtain⟨P,k,D⟩:=has.split B
 simp only[List.cons.injEq,and_true,true_and]at k
 obtain rfl:=k
 obtain⟨Q,x,E⟩:=has.split C
 simp only[List.cons.injEq,and_true,true_and]at x
 obtain rfl:=x
 refine zaY.of Tryz.func203 O O O O (sr (bo 2 O fun S T F y=>?_))
 have G:=F.o
 refine bo 3 O fun U z b A=>?_
 have d:=G.n b
 refine Nb O ?_
 obtain⟨H,I,Y⟩:=zdY Y
 refine Cw.join 5 16 [4] (fun l w=> ∃ e f,CW.w f=w/\Le [] z f/\l=[vB e]/\H e=some r) ?_ ?_
 ·rintro _ _ σ ⟨e,f,rfl,J,rfl,Y⟩
  rw[I]at Y
  have K:=d.n J
  exact .ret (rt Y K)
 ·refine rg (fl (y.up b) O (fl A O (Lw.r O (R.beq O O) (mb O (bs Y (fun a Y=>?_) fun a Y=>?_)))))
  ·exact wak 5 a (fl (y.up b) O (fl A O (ca Y (fun _=>p166 (D.ul d) (E.ul d)) fun L M Y N=>Pb a O (Nb O ((ag) ⟨L,M,O,N,O,Y⟩)))))
  ·exact psk 5 a O (Pb a O (Nb O ((ag) ⟨false,z,O,Le.refl _ _,O,Y⟩)))
theorem p203 {x0 a x1 b r}(d:Rd W K [a,vB x0.file] x0)(f:Rd W K [b,vB x1.file] x1)(Y:Vm.zf4 x0 x1=some r):Q1 203 [.agg [a,vB x0.file].toArray, .agg [b,vB x1.file].toArray] W [] fun W' v=>v=vB r:=
 (c203 (d.view _) (f.view _) Y).ad (fk 0) fun _ _ e=>e
theorem c255 {x0 e x1 f x2 h r}(z:Rd W0 [0] [e] x0)(A:Rd W0 [0] [f] x1)(B:Rd W0 [0] [h] x2)(Y:Vm.zg7 x0 x1 x2=some r):Q0 255 [e,f,h] W0 fun Wf v=>v=vB r:=by
 unfold Vm.zg7 at Y
 refine zaY.of Tryz.func255 O O O O (sr (Nb O ?_))
 obtain⟨C,D,Y⟩:=zdY Y
 refine Cw.join 7 16 [6] (fun l w=> ∃ i k,CW.w k=w/\Le [] W0 k/\l=[vB i]/\C i=some r) ?_ ?_
 ·rintro _ _ σ ⟨i,k,rfl,E,rfl,Y⟩
  rw[D]at Y
  have F:=E.o
  exact .ret (rt Y F)
 ·refine rg (mv e O (ca Y (fun _=>p174 z) fun M G Y d=>?_))
  have y:=d.o
  refine mb O (bs Y (fun a Y=>?_) fun a Y=>?_)
  ·refine wak 2 a (mv f O (ca Y (fun _=>p174 (A.ul y)) fun N H Y x=>?_))
   have I:=y.n x
   refine Pb a O (mb O (bs Y (fun b Y=>?_) fun b Y=>?_))
   ·exact wak 2 b (mv h O (ca Y (fun _=>p174 (B.ul I)) fun J K Y L=>Pb b O (Nb O ((ag) ⟨J,K,O,((d.j x).j L).w,O,Y⟩))))
   ·exact psk 2 b O (Pb b O (Nb O ((ag) ⟨false,H,O,(d.j x).w,O,Y⟩)))
  ·exact psk 2 a O (Pb a O (mb O (psk 2 O O (Pb O O (Nb O ((ag) ⟨false,G,O,d,O,Y⟩))))))
theorem p255 {x0 a x1 b x2 d r}(f:Rd W K [a] x0)(h:Rd W K [b] x1)(i:Rd W K [d] x2)(Y:Vm.zg7 x0 x1 x2=some r):Q1 255 [a,b,d] W [] fun W' v=>v=vB r:=
 (c255 (f.view _) (h.view _) (i.view _) Y).ad (fk 0) fun _ _ e=>e
theorem c232 {x0 k x1 x r}(y:Rd W0 [0] [k] x0)(z:Rd W0 [0] [x] x1)(Y:Vm.zlC x0 x1=some r):Q0 232 [k,x] W0 fun Wf v=> ∃ u0,v=u0/\OwS Wf LL [] [u0] r:=by
 unfold Vm.zlC at Y
 refine zaY.of Tryz.func232 O O O O (sr (Nv (.slice none 0 0) O (sr (mv k O (Lw.ln x0 y O (Lw.add O ?_))))))
 obtain⟨M,e2,Y⟩:=ob Y
 refine Lw.t O (T.mk (α:=List Int) 2 [] (n:=w64 ((x0.length:Int)+1)) O O e2) ?_
 rintro a _ ⟨W3,rfl,l3,o3⟩
 have a4:=l3.o
 refine Nv a O (ssr (mv a O (Lw.ln M o3.rd O (mi O (nl (Cw.block ?_))))))
 obtain⟨a3,a5,Y⟩:=zdY Y
 refine Cw.loop 15 25 [6,15] (fun m l w=> ∃ A F j5 e,CW.w e=w/\Le [2,3] W3 e/\l=[j5,vI A]/\Ow e 2 [] [a] F/\Vm.zgG x1 M a3 m A F=some r) _ ⟨0,M,undef,W3,O,Le.refl _ _,O,o3,Y⟩ ?_
 rintro(_ |cg) _ _ σ ⟨A,F,j5,e,rfl,l9,rfl,N,Y⟩
 ·cases Y
 unfold Vm.zgG at Y
 have P:=a4.t l9
 refine sr (Lw.lt O (nl (Cw.seq (cn Y (fun Y=>?_) fun Y=>?_))))
 ·refine sk (Cw.seq (Cw.block (sr (mi O (Ni O (rg (mv a O (mi O (mv x O (Lw.ln x1 (z.ul P) O (Lw.add O ?_)))))))))))
  obtain⟨ch,a6,Y⟩:=ob Y
  refine Lw.t O (T.mk (α:=Int) 3 [] (n:=w64 ((x1.length:Int)+1)) O O a6) ?_
  rintro ci _ ⟨cj,rfl,Q,ao⟩
  obtain⟨ck,a7,Y⟩:=ob Y
  refine Lw.r O (R.ix (α:=List Int) (N.up Q).rd a7 O O O) ?_
  obtain⟨a8,a9,Y⟩:=ob Y
  refine Lw.u (T.stO (J:=[3]) (N.up Q) ao.s a9 O O (zqU ao.oc)) ?_
  rintro _ _ ⟨ba,rfl,bb,bc⟩
  exact nl (rg (Lw.add O (mi O (nl ((agm) ⟨w64 (A+1),a8,vI A,ba,O,((l9.j Q).j bb).w,O,bc,Y⟩)))))
 ·refine Cw.exit ?_
  rw[a5]at Y
  refine ssr (mv k O (Lw.ln x0 (y.ul P) O (Lw.sub O (Ni O (Cw.block ?_)))))
  obtain⟨be,bg,Y⟩:=zdY Y
  refine Cw.loop 29 87 [7,8] (fun m l w=> ∃ B G ap f,CW.w f=w/\Le [2,4,5] e f/\l=[vI B,ap]/\Ow f 2 [] [a] G/\Vm.zeR x0 x1 be m B G=some r) _ ⟨w64 ((x0.length:Int)-1),F,undef,e,O,Le.refl _ _,O,N,Y⟩ ?_
  rintro(_ |cl) _ _ σ ⟨B,G,ap,f,rfl,aq,rfl,ar,Y⟩
  ·cases Y
  unfold Vm.zeR at Y
  have S:=P.t aq
  refine ssr (mi O (Lw.ge O (nl (cn Y (fun Y=>?_) fun Y=>?_))))
  ·refine sk (Cw.seq (Cw.block (sr (mv x O (Lw.ln x1 (z.ul S) O (Lw.sub O (Ni O (Cw.block ?_))))))))
   obtain⟨bh,bi,Y⟩:=zdY Y
   refine Cw.loop 36 87 [8] (fun m l w=> ∃ C H h,CW.w h=w/\Le [2,4,5] f h/\l=[vI C]/\Ow h 2 [] [a] H/\Vm.zgF x0 x1 B bh m C H=some r) _ ⟨w64 ((x1.length:Int)-1),G,f,O,Le.refl _ _,O,ar,Y⟩ ?_
   rintro(_ |cm) _ _ σ ⟨C,H,h,rfl,U,rfl,V,Y⟩
   ·cases Y
   unfold Vm.zgF at Y
   have bj:=S.t U
   refine ssr (mi O (Lw.ge O (nl (cn Y (fun Y=>?_) fun Y=>?_))))
   ·refine sk ?_
    obtain⟨bk,bl,Y⟩:=zdY Y
    refine Cw.join 40 87 [] (fun l w=> ∃ I D,CW.w D=w/\Le [2,4,5] h D/\l=[]/\Ow D 2 [] [a] I/\bk I=some r) ?_ ?_
    ·rintro _ _ σ ⟨I,D,rfl,bm,rfl,bn,Y⟩
     rw[bl]at Y
     exact rg (mi O (Lw.sub O (Ni O ((agm) ⟨w64 (C-1),I,D,O,(U.j bm).w,O,bn,Y⟩))))
    ·refine Cw.block (Cw.seq (Cw.draw [] [(0,0),(1,0),(2,0),(3,1),(4,0),(5,0),(6,0),(7,1),(8,0)] mixed (by kernel_rfl) fun co E=>?_))
     have i:=bj.n E
     refine Dv k O (Di O ?_)
     obtain⟨cp,W,Y⟩:=ob Y
     refine Mw.p O O (fun _=>R.ix (α:=Str) (y.ul i) W O O O) (Mw.q O O (fun _ c=>R.ld O O (zaW ((y.ul i).at_ W).1 O ((y.ul i).at_ W).str c)) (Dv x O (Di O ?_)))
     obtain⟨cq,X,Y⟩:=ob Y
     refine Mw.p O O (fun _=>R.ix (α:=Str) (z.ul i) X O O O) (Mw.q O O (fun _ c=>R.ld O O (zaW ((z.ul i).at_ X).1 O ((z.ul i).at_ X).str c)) (Mw.p O O (fun _=>R.seq O O) (Mw.nil (cn Y (fun Y=>?_) fun Y=>?_))))
     ·refine Cw.draw [] [(0,0),(1,0),(2,0),(3,1),(4,0),(5,0),(6,0),(7,0),(8,0),(9,1),(10,0),(11,0),(12,0),(13,1),(14,0),(15,0),(16,3)] mixed (by kernel_rfl) fun cs au=>?_
      have d:=(V.up E).up au
      refine Dv a O (Di O ?_)
      obtain⟨ct,K,Y⟩:=ob Y
      refine Mw.p O O (fun _=>R.ix (α:=List Int) d.rd K O O O) ?_
      obtain⟨cu,c66,r67⟩:=(d.rd.at_ K).cell O
      refine Mw.q O O (fun _ c=>R.ld O O (zaW (d.rd.at_ K).1 O c66 c)) (Di O (Dv a O (Di O (Mw.p O O (fun _=>R.add O O) ?_))))
      obtain⟨cv,Z,Y⟩:=ob Y
      refine Mw.p O O (fun _=>R.ix (α:=List Int) d.rd Z O O O) ?_
      obtain⟨cw,c71,r72⟩:=(d.rd.at_ Z).cell O
      refine Mw.q O O (fun _ c=>R.ld O O (zaW (d.rd.at_ Z).1 O c71 c)) (Di O (Mw.p O O (fun _=>R.add O O) ?_))
      obtain⟨cx,aa,Y⟩:=ob Y
      refine Mw.p O O (fun _=>R.ix (α:=Int) r72 aa O O O) (Mw.q O O (fun _ c=>R.ld O O (zaW (r72.at_ aa).1 O (r72.at_ aa).int c)) (Mw.p O O (fun _=>R.add O O) ?_))
      obtain⟨cy,bp,Y⟩:=ob Y
      refine Mw.p O O (fun _=>R.ix (α:=Int) r67 bp O O O) ?_
      obtain⟨cz,bq,br,bu,gb77⟩:=Ow.lend (α:=List Int) (β:=List Int) (j:=4) (jf:=0) d K (by rw[zmQ];exact c66) O
      rw[<- bq]
      obtain⟨c0,bv,Y⟩:=ob Y
      refine Mw.lu O (T.stS (K':=[]) bu (rdI _) bv O O O) ?_
      rintro _ _ ⟨c1,rfl,av,bw⟩
      obtain⟨bz,b0,b1,b2,eq84,b3⟩:=gb77 _ _ av bw
      obtain⟨aw,eqm84,Y⟩:=ob Y
      obtain rfl:aw=b2:=Option.some.inj (eqm84.symm.trans eq84)
      rw[<- b0]
      exact Mw.nil ((ag) ⟨aw,bz,O,((((E.j au).j br).j av).j b1).w,O,b3,Y⟩)
     ·refine Cw.draw [] [(0,0),(1,0),(2,0),(3,1),(4,0),(5,0),(6,0),(7,0),(8,0),(9,1),(10,0),(11,0),(12,1),(13,0),(14,0),(15,0),(16,1),(17,0),(18,0),(19,0),(20,1),(21,0),(22,0),(23,3)] mixed (by kernel_rfl) fun c2 ax=>?_
      have b:=(V.up E).up ax
      refine Dv a O (Di O ?_)
      obtain⟨c3,L,Y⟩:=ob Y
      refine Mw.p O O (fun _=>R.ix (α:=List Int) b.rd L O O O) ?_
      obtain⟨c4,c92,r93⟩:=(b.rd.at_ L).cell O
      refine Mw.q O O (fun _ c=>R.ld O O (zaW (b.rd.at_ L).1 O c92 c)) (Di O (Dv a O (Di O (Mw.p O O (fun _=>R.add O O) ?_))))
      obtain⟨c5,ac,Y⟩:=ob Y
      refine Mw.p O O (fun _=>R.ix (α:=List Int) b.rd ac O O O) ?_
      obtain⟨c6,c97,r98⟩:=(b.rd.at_ ac).cell O
      refine Mw.q O O (fun _ c=>R.ld O O (zaW (b.rd.at_ ac).1 O c97 c)) (Di O ?_)
      obtain⟨c7,ae,Y⟩:=ob Y
      refine Mw.p O O (fun _=>R.ix (α:=Int) r98 ae O O O) (Mw.q O O (fun _ c=>R.ld O O (zaW (r98.at_ ae).1 O (r98.at_ ae).int c)) (Dv a O (Di O ?_)))
      obtain⟨c8,af,Y⟩:=ob Y
      refine Mw.p O O (fun _=>R.ix (α:=List Int) b.rd af O O O) ?_
      obtain⟨c9,c104,r105⟩:=(b.rd.at_ af).cell O
      refine Mw.q O O (fun _ c=>R.ld O O (zaW (b.rd.at_ af).1 O c104 c)) (Di O (Mw.p O O (fun _=>R.add O O) ?_))
      obtain⟨da,ah,Y⟩:=ob Y
      refine Mw.p O O (fun _=>R.ix (α:=Int) r105 ah O O O) (Mw.q O O (fun _ c=>R.ld O O (zaW (r105.at_ ah).1 O (r105.at_ ah).int c)) (Mw.p O O (fun _=>R.max O O) ?_))
      obtain⟨db,b4,Y⟩:=ob Y
      refine Mw.p O O (fun _=>R.ix (α:=Int) r93 b4 O O O) ?_
      obtain⟨dc,b5,b6,b7,gb110⟩:=Ow.lend (α:=List Int) (β:=List Int) (j:=5) (jf:=0) b L (by rw[zmQ];exact c92) O
      rw[<- b5]
      obtain⟨dd,b8,Y⟩:=ob Y
      refine Mw.lu O (T.stS (K':=[]) b7 (rdI _) b8 O O O) ?_
      rintro _ _ ⟨de,rfl,ay,b9⟩
      obtain⟨cb,cc,cd,ce,eq117,cf⟩:=gb110 _ _ ay b9
      obtain⟨az,eqm117,Y⟩:=ob Y
      obtain rfl:az=ce:=Option.some.inj (eqm117.symm.trans eq117)
      rw[<- cc]
      exact Mw.nil ((ag) ⟨az,cb,O,((((E.j ax).j b6).j ay).j cd).w,O,cf,Y⟩)
   ·refine Cw.exit ?_
    rw[bi]at Y
    exact rg (mi O (Lw.sub O (Ni O ((agm) ⟨w64 (B-1),H,vI C,h,O,(aq.j U).w,O,V,Y⟩))))
  ·refine Cw.exit ?_
   rw[bg]at Y
   refine sr (mv a O (Nv a O ?_))
   cases Y
   exact Cw.ret (zmc O (Res.mk S ⟨a,O,ar.s.sub O O⟩))
theorem p232 {x0 b x1 d k0 r}(f:Rd W K [b] x0)(h:Rd W K [d] x1)(Y:Vm.zlC x0 x1=some r):Q1 232 [b,d] W [] fun W' v=> ∃ a,v=a/\Ow W' k0 [] [a] r:=
 (c232 (f.view _) (h.view _) Y).ad (fk k0) fun _ _ ⟨a,e,i⟩=>⟨a,e,i.back (zk0 _)⟩
theorem c199 {x0 x x1 i r}(y:Rd W0 [0] [x] x0)(H:Rd W0 [0] [i] x1)(Y:Vm.zjc x0 x1=some r):Q0 199 [x,i] W0 fun Wf v=> ∃ X,v=X/\OwS Wf LL [] [X] r:=by
 unfold Vm.zjc at Y
 refine zaY.of Tryz.func199 O O O O (sr (Nv (.slice none 0 0) O (sr (mv x O (mv i O (cr Y (fun _=>p232 (k0:=2) y H) ?_))))))
 rintro z1 I Z Y l3 ⟨_,rfl,ar⟩
 have a4:=l3.o
 refine Nv I O (sr (Nv (.slice none 0 0) O (ssr (Gi O (Ni O (Cw.block ?_))))))
 obtain⟨av,aw,Y⟩:=zdY Y
 refine Cw.loop 12 70 [6,7,8] (fun m l w=> ∃ A e d f z,CW.w z=w/\Le [3] Z z/\l=[f,vI e,vI d]/\Ow z 3 [] [f] A/\Vm.zf5 x0 x1 z1 av m A e d=some r) _ ⟨([]:List Int),0,0, .slice none 0 0,Z,O,Le.refl _ _,O,owN 3 [],Y⟩ ?_
 rintro(_ |bi) _ _ σ ⟨A,e,d,f,z,rfl,l10,rfl,J,Y⟩
 ·cases Y
 unfold Vm.zf5 at Y
 have B:=a4.t l10
 refine ssr (mi O (mv x O (Lw.ln x0 (y.ul B) O (Lw.lt O (nl (cn Y (fun Y=>?_) fun Y=>?_))))))
 ·refine sk (Cw.block (Cw.block ?_))
  obtain⟨ax,ay,Y⟩:=zdY Y
  refine Cw.join 18 33 [18] (fun l w=> ∃ K C,CW.w C=w/\Le [] z C/\l=[vB K]/\ax K=some r) ?_ ?_
  ·rintro _ _ σ ⟨K,C,rfl,h,rfl,Y⟩
   rw[ay]at Y
   have az:=B.n h
   refine cn Y (fun Y=>?_) fun Y=>?_
   ·refine sr (mv f O (mi O (Lw.t O (T.bs 4 [vI d] (cs:=[vI d]) O O (bsv O)) ?_)))
    rintro _ _ ⟨bj,bk,rfl,rfl,aa,a0⟩
    obtain⟨a1,a2,Y⟩:=ob Y
    refine Lw.t O (T.app1S (α:=Int) (K':=[]) ((J.up h).up aa) a0 (rdI _) O O a2) ?_
    rintro ac _ ⟨a3,rfl,a5,a6⟩
    exact Nv ac O (sr (mi O (Lw.add O (Ni O (rg (mi O (Lw.add O (Ni O ((agm) ⟨a1,w64 (e+1),w64 (d+1),ac,a3,O,(((l10.j h).j aa).j a5).w,O,a6,Y⟩)))))))))
   ·obtain⟨a7,a8,Y⟩:=zdY Y
    refine Cw.join 42 65 [42] (fun l w=> ∃ L D,CW.w D=w/\Le [] C D/\l=[vB L]/\a7 L=some r) ?_ ?_
    ·rintro _ _ σ ⟨L,D,rfl,M,rfl,Y⟩
     rw[a8]at Y
     have ae:=(J.up h).up M
     refine cn Y (fun Y=>?_) fun Y=>?_
     ·refine sr (mv f O (Lw.t O (T.bs 5 [vI (-1)] (cs:=[vI (-1)]) O O (bsv O)) ?_))
      rintro _ _ ⟨bl,bm,rfl,rfl,af,a9⟩
      obtain⟨ba,bb,Y⟩:=ob Y
      refine Lw.t O (T.app1S (α:=Int) (K':=[]) (ae.up af) a9 (rdI _) O O bb) ?_
      rintro ah _ ⟨bc,rfl,be,bg⟩
      exact Nv ah O (rg (mi O (Lw.add O (Ni O ((agm) ⟨ba,w64 (e+1),d,ah,bc,O,((((l10.j h).j M).j af).j be).w,O,bg,Y⟩)))))
     ·exact rg (mi O (Lw.add O (Ni O ((agm) ⟨A,e,w64 (d+1),f,D,O,((l10.j h).j M).w,O,ae,Y⟩))))
    ·refine Cw.draw [] [(0,0),(1,0),(2,0),(3,0),(4,0),(5,0),(6,0),(7,0),(8,0),(9,1),(10,0),(11,0),(12,1),(13,0),(14,0),(15,0),(16,1),(17,0),(18,0),(19,0),(20,1),(21,0),(22,0),(23,0)] mixed (by kernel_rfl) fun ai E=>?_
     have bh:=az.n E
     have k:=((ar.up l10).up h).up E
     refine Di O (Dv i O (Mw.p O O (fun _=>zp7 (xs:=x1) (H.ul bh) O) (Mw.p O O (fun _=>R.eq O O) (Db O (bs Y (fun a Y=>?_) fun a Y=>?_)))))
     ·exact dps 17 a O (Mw.p O O (fun _=>R.pk a O (v:=vB true) O) (Hb O (Mw.nil ((ag) ⟨true,ai,O,E,O,Y⟩))))
     ·refine Wp a O (fun _=>R.mv (v:=I) O) (Wp a O (fun _=>R.mv (v:=vI e) O) (Wp a O (fun _=>R.add O O) ?_))
      obtain⟨bn,N,Y⟩:=ob Y
      refine Wp a O (fun _=>R.ix (α:=List Int) k.rd N O O O) ?_
      obtain⟨bp,c60,r61⟩:=(k.rd.at_ N).cell O
      refine Wq a O (fun _ c=>R.ld O O (zaW (k.rd.at_ N).1 O c60 c)) (Wp a O (fun _=>R.mv (v:=vI d) O) ?_)
      obtain⟨aj,P,Y⟩:=ob Y
      refine Wp a O (fun _=>R.ix (α:=Int) r61 P O O O) (Wq a O (fun _ c=>R.ld O O (zaW (r61.at_ P).1 O (r61.at_ P).int c)) (Wp a O (fun _=>R.mv (v:=I) O) (Wp a O (fun _=>R.mv (v:=vI e) O) ?_)))
      obtain⟨u64,Q,Y⟩:=ob Y
      refine Wp a O (fun _=>R.ix (α:=List Int) k.rd Q O O O) ?_
      obtain⟨bq,c67,r68⟩:=(k.rd.at_ Q).cell O
      refine Wq a O (fun _ c=>R.ld O O (zaW (k.rd.at_ Q).1 O c67 c)) (Wp a O (fun _=>R.mv (v:=vI d) O) (Wp a O (fun _=>R.add O O) ?_))
      obtain⟨ak,S,Y⟩:=ob Y
      exact Wp a O (fun _=>R.ix (α:=Int) r68 S O O O) (Wq a O (fun _ c=>R.ld O O (zaW (r68.at_ S).1 O (r68.at_ S).int c)) (Wp a O (fun _=>R.ge O O) (Mw.p O O (fun _=>R.pk a O (v:=vB (decide (ak<=(aj:Int)))) O) (Hb O (Mw.nil ((ag) ⟨decide (ak<=(aj:Int)),ai,O,E,O,Y⟩))))))
  ·refine Cw.draw [] [(0,0),(1,0),(2,0),(3,0),(4,0),(5,0),(6,0),(7,0),(8,1),(9,0),(10,0),(11,0),(12,1),(13,0),(14,0),(15,0)] mixed (by kernel_rfl) fun am U=>?_
   have F:=B.n U
   have G:=H.ul F
   refine Di O (Dv i O (Mw.p O O (fun _=>zp7 (xs:=x1) G O) (Mw.p O O (fun _=>R.lt O O) (Db O (bs Y (fun b Y=>?_) fun b Y=>?_)))))
   ·refine Wp b O (fun _=>R.mv (v:=x) O) (Wp b O (fun _=>R.mv (v:=vI e) O) ?_)
    obtain⟨an,V,Y⟩:=ob Y
    refine Wp b O (fun _=>R.ix (α:=Str) (y.ul F) V O O O) (Wq b O (fun _ c=>R.ld O O (zaW ((y.ul F).at_ V).1 O ((y.ul F).at_ V).str c)) (Wp b O (fun _=>R.mv (v:=i) O) (Wp b O (fun _=>R.mv (v:=vI d) O) ?_)))
    obtain⟨ao,W,Y⟩:=ob Y
    exact Wp b O (fun _=>R.ix (α:=Str) G W O O O) (Wq b O (fun _ c=>R.ld O O (zaW (G.at_ W).1 O (G.at_ W).str c)) (Wp b O (fun _=>R.seq O O) (Mw.p O O (fun _=>R.pk b O (v:=vB (an==ao)) O) (Hb O (Mw.nil ((ag) ⟨(an==ao),am,O,U,O,Y⟩))))))
   ·exact dps 9 b O (Mw.p O O (fun _=>R.pk b O (v:=vB false) O) (Hb O (Mw.nil ((ag) ⟨false,am,O,U,O,Y⟩))))
 ·refine Cw.exit ?_
  rw[aw]at Y
  refine sr (mv f O (Nv f O ?_))
  cases Y
  exact Cw.ret (zmc O (Res.mk B ⟨f,O,J.s.sub O O⟩))
theorem p199 {x0 b x1 d k0 r}(f:Rd W K [b] x0)(h:Rd W K [d] x1)(Y:Vm.zjc x0 x1=some r):Q1 199 [b,d] W [] fun W' v=> ∃ a,v=a/\Ow W' k0 [] [a] r:=
 (c199 (f.view _) (h.view _) Y).ad (fk k0) fun _ _ ⟨a,e,i⟩=>⟨a,e,i.back (zk0 _)⟩
theorem c277 {x0 i x1 k a r}(I:Rd W0 [0] [i] x0)(hB1:Bx W0 2 k [a])(b:Ow W0 3 [] [a] x1)(Y:Vm.zdh x0 x1=some r):Q0 277 [i,ptr (bx k)] W0 fun Wf v=> ∃ uc1,v = .tuple #[]/\Ow Wf 3 [] [uc1] r/\Bx Wf 2 k [uc1]:=by
 unfold Vm.zdh at Y
 refine zaY.of Tryz.func277 O O O O (ssr (mv i O (Lw.ln x0 I O (Lw.eq O (nl (cn Y (fun Y=>?_) fun Y=>?_))))))
 ·cases Y
  exact Cw.ret (zzH (Res.mk (Le.refl _ _) ⟨a,O,b,hB1⟩))
 ·refine sk (sr (Lw.r O (R.ld (v:=a) O O (hB1.cell0 O)) (Lw.ln x1 b.rd O (Lw.sub O (Ni O ?_)))))
  obtain⟨V,W,Y⟩:=zdY Y
  refine Cw.join 10 24 [3] (fun l w=> ∃ A B d e,CW.w e=w/\Le [2,3] W0 e/\l=[vI A]/\Ow e 3 [] [d] B/\Bx e 2 k [d]/\V A B=some r) ?_ ?_
  ·rintro _ _ σ ⟨A,B,d,e,rfl,X,rfl,Z,b6,Y⟩
   rw[W]at Y
   have a9:=X.s
   refine Cw.draw [3,4] [(0,1),(1,0),(2,1),(3,0),(4,0),(5,0),(7,0),(6,2),(8,2),(9,0),(10,0),(11,3)] mixed (by kernel_rfl) fun a1 l10=>?_
   have ae:=a9.n l10
   have x:=Z.up l10
   have C:=b6.up l10
   refine Mw.q O O (fun _ c=>R.ld (v:=d) O O (C.clc0 O O c)) (Di O (Mw.q O O (fun _ c=>R.ld (v:=d) O O (C.clc0 O O c)) (Di O ?_)))
   obtain⟨a2,D,Y⟩:=ob Y
   refine Mw.p O O (fun _=>R.ix (α:=Part) x.rd D O O O) (Df O (Dv i O ?_))
   obtain⟨a3,c17,r18⟩:=(Part.at1 (x.rd.at_ D)).cell O
   refine Mw.t O O (Run.tr (R.ld O O c17)) ?_
   rintro _ _ ⟨hu,rfl⟩
   obtain rfl:=hu.symm
   refine⟨⟨_,O,(Le.refl _ _)⟩,?_⟩
   obtain⟨a4,af,E,ah,ai⟩:=Ow.take (α:=Part) (β:=List Str) (j:=4) (jf:=1) x D c17 O
   rw[<- af]
   have K:=ae.t E
   obtain⟨a5,aj,Y⟩:=ob Y
   refine Mw.t O O (T.appP (α:=Str) ah (I.ul K) O O aj) ?_
   rintro a6 _ ⟨a7,rfl,y,ak⟩
   have am:=K.t y
   refine⟨⟨_,O,((E.sub (M:=[3,4]) O).trans (y.sub (M:=[3,4]) O))⟩,?_⟩
   obtain⟨a8,an,Y⟩:=ob Y
   refine Mw.p O O (fun _=>R.ix (α:=Part) x.rd an O O O) (Df O ?_)
   obtain⟨ba,ao,Y⟩:=ob Y
   refine Mw.lu O (T.stH (α:=Part) (β:=List Str) (J:=[4]) (ai.up (y.sub (M:=[4]) O) O) ak.s ao O O O O) ?_
   rintro _ _ ⟨bb,rfl,L,ap⟩
   have aq:=am.t L
   refine Mw.nil ?_
   cases Y
   show ztI _ _ _ .ret _ _
   exact zzH (Res.mk aq ⟨d,O,ap,(((C.up E).up y).up L)⟩)
  ·obtain⟨ar,au,Y⟩:=zdY Y
   refine Cw.join 10 18 [18] (fun l w=> ∃ F z,CW.w z=w/\Le [] W0 z/\l=[vB F]/\ar F=some r) ?_ ?_
   ·rintro _ _ σ ⟨F,z,rfl,f,rfl,Y⟩
    rw[au]at Y
    have G:=hB1.up f
    refine cn Y (fun Y=>?_) fun Y=>?_
    ·refine sr (lz G O (Lw.r O (R.bd (zs:=[vB false, .slice none 0 0, .slice none 0 0, .slice none 0 0, .slice none 0 0]) (cs:=[vB false, .slice none 0 0, .slice none 0 0, .slice none 0 0, .slice none 0 0]) [] O O O zh4) (Lw.t O (T.bs 5 [.agg [vB false, .slice none 0 0, .slice none 0 0, .slice none 0 0, .slice none 0 0].toArray] (cs:=[vB false, .slice none 0 0, .slice none 0 0, .slice none 0 0, .slice none 0 0]) O O (bsA O)) ?_)))
     rintro _ _ ⟨bc,be,rfl,rfl,H,av⟩
     obtain⟨aw,ax,Y⟩:=ob Y
     refine Lw.t O (T.app1 (α:=Part) (J:=[]) (K':=[]) ((b.up f).up H) av (Part.own false ([]:List Str) ([]:List Str) ([]:List Str) ([]:List Str) (zoR []) (zoR []) (zoR []) (zoR [])) O O ax) ?_
     rintro N _ ⟨bg,rfl,P,Q⟩
     refine Lw.u (T.st0 (v:=N) ((G.up H).up P) O O Q.oc O O) ?_
     rintro _ _ ⟨ay,rfl,S,az⟩
     exact nl (rg (mi O (Lw.add O (Ni O ((ag) ⟨w64 ((w64 ((x1.length:Int)-1))+1),aw,N,ay,O,(((f.j H).j P).j S).w,O,(Q.up S),az,Y⟩)))))
    ·exact sk ((ag) ⟨w64 ((x1.length:Int)-1),x1,a,z,O,f.w,O,(b.up f),G,Y⟩)
   ·refine rg (mi O (Lw.lt O (mb O (bs Y (fun h Y=>?_) fun h Y=>?_))))
    ·exact psk 5 h O (Pb h O (nl ((ag) ⟨true,W0,O,Le.refl _ _,O,Y⟩)))
    ·refine wak 5 h (Lw.r O (R.ld (v:=a) O O (hB1.cell0 O)) (mi O ?_))
     obtain⟨a0,U,Y⟩:=ob Y
     exact Lw.r O (R.ix (α:=Part) b.rd U O O O) (Lw.fa O (Lw.r O (R.ld O O (Part.at0 (b.rd.at_ U)).bool) (Pb h O (nl ((ag) ⟨a0.Clash,W0,O,Le.refl _ _,O,Y⟩)))))
theorem p277 {x0 b x1 a d c0 c1 r}(f:Rd W K [b] x0)(hB1:Bx W c0 a [d])(h:Ow W c1 [] [d] x1)(hJ:okJ K [c0,c1]=true)(Y:Vm.zdh x0 x1=some r):Q1 277 [b,ptr (bx a)] W [c0,c1] fun W' v=> ∃ uc1,v = .tuple #[]/\Ow W' c1 [] [uc1] r/\Bx W' c0 a [uc1]:=
 zaY.adJ (J:=[c0,c1]) (fun c=>bif Nat.beq c 0 then 0 else bif Nat.beq c 2 then c0 else bif Nat.beq c 3 then c1 else 0) (c277 (f.view _) (hB1.viewJ 0 hJ) (h.viewJ 1 hJ) Y) fun _ _ ⟨uc1,e,i,k⟩=>⟨uc1,e,Ow.backJ 1 i O,Bx.backJ 0 k O⟩
theorem c256 {x0 b x1 d x2 e r}(z:Rd W0 [0] [b] x0)(Z:Rd W0 [0] [d] x1)(h2:Rd W0 [0] [e] x2)(Y:Vm.zhV x0 x1 x2=some r):Q0 256 [b,d,e] W0 fun Wf v=> ∃ u0,v=u0/\OwS Wf LL [] [u0] r:=by
 unfold Vm.zhV at Y
 refine zaY.of Tryz.func256 O O O O (sr (Nv (.slice none 0 0) O (sr (mv b O (mv d O (cr Y (fun _=>p199 (k0:=2) z Z) ?_))))))
 rintro z1 fg W3 Y l3 ⟨_,rfl,c5⟩
 have a4:=l3.o
 refine mv d O (Lw.ln x1 (Z.ul a4) O (Lw.t O (T.bs 3 [vI (x1.length:Int)] (cs:=[vI (x1.length:Int)]) O O (bsv O)) ?_))
 rintro _ _ ⟨g6,W6,rfl,rfl,l6,b6⟩
 have a7:=a4.n l6
 obtain⟨q9,c8,Y⟩:=ob Y
 refine Lw.t O (T.app1S (α:=Int) (K':=[]) (c5.up l6) b6 (rdI _) O O c8) ?_
 rintro P _ ⟨fm,rfl,c9,da⟩
 have a0:=a7.t c9
 refine mv b O (mv e O (cr Y (fun _=>p199 (k0:=4) (z.ul a0) (h2.ul a0)) ?_))
 rintro fn fo fp Y b5 ⟨_,rfl,db⟩
 have b7:=a0.n b5
 refine mv e O (Lw.ln x2 (h2.ul b7) O (Lw.t O (T.bs 5 [vI (x2.length:Int)] (cs:=[vI (x2.length:Int)]) O O (bsv O)) ?_))
 rintro _ _ ⟨fq,fr,rfl,rfl,a1,dc⟩
 have dd:=b7.n a1
 obtain⟨de,df,Y⟩:=ob Y
 refine Lw.t O (T.app1S (α:=Int) (K':=[]) (db.up a1) dc (rdI _) O O df) ?_
 rintro ac _ ⟨fs,rfl,b8,dg⟩
 have dh:=dd.t b8
 refine Gv P O (Nv ac O (sr (al 6 [.slice none 0 0] fun f b9 a2 di=>?_)))
 have dj:=dh.n a2
 have cb:=(((da.up b5).up a1).up b8).up a2
 refine nl (sr (Lw.r O (R.mkF (vs:=[ptr (bx f)]) O) (Nv (.func (.func 277) #[] [ptr (bx f)].toArray) O (sr (Gi O (Gi O (Ni O (ssr (mv P O (Lw.ln q9 cb.rd O (mi O (nl (Cw.block ?_)))))))))))))
 obtain⟨dk,dl,Y⟩:=zdY Y
 refine Cw.loop 35 120 [11,12,13,14,15,16,17,35] (fun m l w=> ∃ k h i a I cc a3 a5 a6 A x,CW.w x=w/\Le [6,7,8,9,10] b9 x/\l=[vI k,vI h,vI i,cc,a3,a5,a6,vI a]/\Ow x 7 [] [A] I/\Bx x 6 f [A]/\Vm.zbc x0 x1 x2 q9 de dk m k h i a I=some r) _ ⟨0,0,0,0,([]:List Part),undef,undef,undef,undef, .slice none 0 0,b9,O,Le.refl _ _,O,owN 7 [],di,Y⟩ ?_
 rintro(_ |ft) _ _ σ ⟨k,h,i,a,I,cc,a3,a5,a6,A,x,rfl,ae,rfl,a8,a9,Y⟩
 ·cases Y
 unfold Vm.zbc at Y
 have cd:=dj.t ae
 have ba:=cb.up ae
 have bb:=(dg.up a2).up ae
 refine sr (Lw.lt O (nl (Cw.seq (cn Y (fun Y=>?_) fun Y=>?_))))
 ·refine sk ?_
  obtain⟨dm,dn,Y⟩:=zdY Y
  refine Cw.join 37 119 [11,12,13,14,15,16,17] (fun l w=> ∃ af ah ai aj bc be bg bh ak K,CW.w K=w/\Le [6,7,8,9,10] x K/\l=[vI af,vI ah,vI ai,bc,be,bg,bh]/\Ow K 7 [] [ak] aj/\Bx K 6 f [ak]/\dm af ah ai aj=some r) ?_ ?_
  ·rintro _ _ σ ⟨af,ah,ai,aj,bc,be,bg,bh,ak,K,rfl,dp,rfl,dq,dr,Y⟩
   rw[dn]at Y
   exact rg (Lw.add O (mi O (nl ((agm) ⟨af,ah,ai,w64 (a+1),aj,bc,be,bg,bh,ak,K,O,(ae.j dp).w,O,dq,dr,Y⟩))))
  ·refine Cw.block (sr (mi O (Ni O (Cw.seq ?_))))
   obtain⟨ds,dt,Y⟩:=zdY Y
   refine Cw.join 38 49 [49] (fun l w=> ∃ bi am,CW.w am=w/\Le [] x am/\l=[vB bi]/\ds bi=some r) ?_ ?_
   ·rintro _ _ σ ⟨bi,am,rfl,y,rfl,Y⟩
    rw[dt]at Y
    have du:=cd.n y
    refine cn Y (fun Y=>?_) fun Y=>?_
    ·exact Cw.exit ((ag) ⟨k,h,i,I,vI a,a3,a5,a6,A,am,O,y.w,O,(a8.up y),(a9.up y),Y⟩)
    ·refine sk (Cw.seq (Cw.draw [] [(0,0),(1,0),(2,0),(3,0),(4,0),(5,0),(6,0),(7,0),(8,0),(9,1),(10,0),(11,0),(12,0),(13,0),(14,0),(15,0),(16,1),(17,0),(18,0),(19,0),(20,0)] mixed (by kernel_rfl) fun ce L=>?_))
     have B:=du.n L
     have an:=(ba.up y).up L
     have ao:=(bb.up y).up L
     refine Dv b O (Di O (Di O ?_))
     obtain⟨fu,cf,Y⟩:=ob Y
     have r103:=(z.ul B).cutV cf
     refine Mw.p O O (fun _=>R.sl (z.ul B) cf O (.inr O) (.inr O)) (Dv d O (Di O (Dv P O (Di O ?_))))
     obtain⟨C,bj,Y⟩:=ob Y
     refine Mw.p O O (fun _=>R.ix (α:=Int) an.rd bj O O O) (Mw.q O O (fun _ c=>R.ld O O (zaW (an.rd.at_ bj).1 O (an.rd.at_ bj).int c)) ?_)
     obtain⟨fv,cg,Y⟩:=ob Y
     have r110:=(Z.ul B).cutV cg
     refine Mw.p O O (fun _=>R.sl (Z.ul B) cg O (.inr O) (.inr O)) (Dv e O (Di O (Dv ac O (Di O ?_))))
     obtain⟨D,bk,Y⟩:=ob Y
     refine Mw.p O O (fun _=>R.ix (α:=Int) ao.rd bk O O O) (Mw.q O O (fun _ c=>R.ld O O (zaW (ao.rd.at_ bk).1 O (ao.rd.at_ bk).int c)) ?_)
     obtain⟨fw,ch,Y⟩:=ob Y
     have r117:=(h2.ul B).cutV ch
     refine Mw.p O O (fun _=>R.sl (h2.ul B) ch O (.inr O) (.inr O)) (Hv (cutV b (k:Int).toNat (a:Int).toNat (Rp.sz (Str))) O (Hv (cutV d (h:Int).toNat (C:Int).toNat (Rp.sz (Str))) O (Hv (cutV e (i:Int).toNat (D:Int).toNat (Rp.sz (Str))) O (Mw.nil ?_))))
     obtain⟨dv,dw,Y⟩:=zdY Y
     refine Cw.join 68 96 [] (fun l w=> ∃ Q ap E,CW.w E=w/\Le [6,7,8,9,10] ce E/\l=[]/\Ow E 7 [] [ap] Q/\Bx E 6 f [ap]/\dv Q=some r) ?_ ?_
     ·rintro _ _ σ ⟨Q,ap,E,rfl,aq,rfl,ci,cj,Y⟩
      rw[dw]at Y
      have bl:=B.t aq
      obtain⟨dx,dy,Y⟩:=zdY Y
      refine Cw.join 97 107 [] (fun l w=> ∃ ar au S,CW.w S=w/\Le [6,7] E S/\l=[]/\Ow S 7 [] [au] ar/\Bx S 6 f [au]/\dx ar=some r) ?_ ?_
      ·rintro _ _ σ ⟨ar,au,S,rfl,bm,rfl,dz,d0,Y⟩
       rw[dy]at Y
       refine Cw.draw [] [(0,0),(1,0),(2,0),(3,0),(4,0),(5,1),(6,0),(7,0),(8,0),(9,0),(10,1),(11,0),(12,0),(13,0),(14,0)] mixed (by kernel_rfl) fun d1 U=>?_
       have bn:=((an.up aq).up bm).up U
       have bp:=((ao.up aq).up bm).up U
       refine Di O (Mw.p O O (fun _=>R.add O O) (Dv P O (Di O ?_)))
       obtain⟨d2,bq,Y⟩:=ob Y
       refine Mw.p O O (fun _=>R.ix (α:=Int) bn.rd bq O O O) (Mw.q O O (fun _ c=>R.ld O O (zaW (bn.rd.at_ bq).1 O (bn.rd.at_ bq).int c)) (Mw.p O O (fun _=>R.add O O) (Dv ac O (Di O ?_))))
       obtain⟨d3,br,Y⟩:=ob Y
       exact Mw.p O O (fun _=>R.ix (α:=Int) bp.rd br O O O) (Mw.q O O (fun _ c=>R.ld O O (zaW (bp.rd.at_ br).1 O (bp.rd.at_ br).int c)) (Mw.p O O (fun _=>R.add O O) (Hi O (Hi O (Hi O (Mw.nil ((ag) ⟨w64 (a+1),w64 (d2+1),w64 (d3+1),ar,vI a,(cutV b (k:Int).toNat (a:Int).toNat (Rp.sz (Str))),(cutV d (h:Int).toNat (C:Int).toNat (Rp.sz (Str))),(cutV e (i:Int).toNat (D:Int).toNat (Rp.sz (Str))),au,d1,O,((((y.j L).j aq).j bm).j U).w,O,(dz.up U),(d0.up U),Y⟩)))))))
      ·refine sr (mi O (mv b O (Lw.ln x0 (z.ul bl) O (Lw.lt O (nl (cn Y (fun Y=>?_) fun Y=>?_))))))
       ·refine rg (mv (.func (.func 277) #[] [ptr (bx f)].toArray) O (mv b O (mi O (mi O (Lw.add O ?_)))))
        obtain⟨fx,ck,Y⟩:=ob Y
        have r157:=(z.ul bl).cutV ck
        refine Lw.r O (R.sl (z.ul bl) ck O (.inr O) (.inr O)) ?_
        obtain⟨d4,d5,Y⟩:=ob Y
        refine Lw.t O (T.callV (vals:=[(cutV b (a:Int).toNat (w64 (a+1):Int).toNat (Rp.sz (Str)))]) (caps:=[ptr (bx f)]) O O (p277 (c0:=6) (c1:=7) (x1:=Q) r157 cj ci O d5)) ?_
        rintro _ _ ⟨d6,rfl,d7,⟨d8,rfl,d9,ea⟩⟩
        exact nl ((ag) ⟨d4,d8,d6,O,d7,O,d9,ea,Y⟩)
       ·exact sk ((ag) ⟨Q,ap,E,O,Le.refl _ _,O,ci,cj,Y⟩)
     ·refine Cw.block ?_
      obtain⟨eb,ec,Y⟩:=zdY Y
      refine Cw.join 78 86 [78] (fun l w=> ∃ bu bv,CW.w bv=w/\Le [] ce bv/\l=[vB bu]/\eb bu=some r) ?_ ?_
      ·rintro _ _ σ ⟨bu,bv,rfl,M,rfl,Y⟩
       rw[ec]at Y
       have av:=M.o
       have bw:=((a8.up y).up L).up M
       have bz:=((a9.up y).up L).up M
       refine cn Y (fun Y=>?_) fun Y=>?_
       ·refine rg (mv (.func (.func 277) #[] [ptr (bx f)].toArray) O (mv (cutV e (i:Int).toNat (D:Int).toNat (Rp.sz (Str))) O ?_))
        obtain⟨ed,ee,Y⟩:=ob Y
        refine Lw.t O (T.callV (vals:=[(cutV e (i:Int).toNat (D:Int).toNat (Rp.sz (Str)))]) (caps:=[ptr (bx f)]) O O (p277 (c0:=6) (c1:=7) (x1:=I) (r117.ul av) bz bw O ee)) ?_
        rintro _ _ ⟨ef,rfl,eg,⟨eh,rfl,ei,ej⟩⟩
        exact nl ((ag) ⟨ed,eh,ef,O,(M.j eg).w,O,ei,ej,Y⟩)
       ·refine sr (mv (cutV e (i:Int).toNat (D:Int).toNat (Rp.sz (Str))) O (mv (cutV b (k:Int).toNat (a:Int).toNat (Rp.sz (Str))) O (ca Y (fun _=>p166 (r117.ul av) (r103.ul av)) fun fy fz Y F=>?_)))
        have cl:=av.n F
        refine Nb O (cn Y (fun Y=>?_) fun Y=>?_)
        ·refine rg (mv (.func (.func 277) #[] [ptr (bx f)].toArray) O (mv (cutV d (h:Int).toNat (C:Int).toNat (Rp.sz (Str))) O ?_))
         obtain⟨ek,el,Y⟩:=ob Y
         refine Lw.t O (T.callV (vals:=[(cutV d (h:Int).toNat (C:Int).toNat (Rp.sz (Str)))]) (caps:=[ptr (bx f)]) O O (p277 (c0:=6) (c1:=7) (x1:=I) (r110.ul cl) (bz.up F) (bw.up F) O el)) ?_
         rintro _ _ ⟨em,rfl,en,⟨eo,rfl,ep,er⟩⟩
         exact nl ((ag) ⟨ek,eo,em,O,((M.j F).j en).w,O,ep,er,Y⟩)
        ·refine Cw.draw [] [(0,1),(1,0),(3,0),(5,0),(2,2),(4,2),(6,2),(7,0),(8,2),(9,3),(10,3)] mixed (by kernel_rfl) fun f0 aw=>?_
         have cm:=cl.n aw
         have co:=(bz.up F).up aw
         refine Mw.q O O (fun _ c=>R.ld (v:=A) O O (co.clc0 O O c)) (Dv (cutV b (k:Int).toNat (a:Int).toNat (Rp.sz (Str))) O (Dv (cutV d (h:Int).toNat (C:Int).toNat (Rp.sz (Str))) O (Dv (cutV e (i:Int).toNat (D:Int).toNat (Rp.sz (Str))) O ?_)))
         obtain⟨es,et,Y⟩:=ob Y
         refine Mw.t O O (T.call O (p168 (k0:=8) (r103.ul cm) et)) ?_
         rintro ax _ ⟨f1,rfl,V,⟨_,rfl,eu⟩⟩
         have cp:=cm.n V
         refine m0 V fun ew=>?_
         obtain⟨ex,ey,Y⟩:=ob Y
         refine Mw.t O O (T.call O (p168 (k0:=9) (r110.ul cp) ey)) ?_
         rintro ay _ ⟨f2,rfl,N,⟨_,rfl,cq⟩⟩
         have ez:=cp.n N
         refine mc ew N fun e0=>?_
         obtain⟨e1,e2,Y⟩:=ob Y
         refine Mw.t O O (T.call O (p168 (k0:=10) (r117.ul ez) e2)) ?_
         rintro az _ ⟨f3,rfl,G,⟨_,rfl,ct⟩⟩
         have cu:=(eu.up N).up G
         refine mc e0 G fun e3=>Mw.p O O (fun _=>R.bd (zs:=[vB false, .slice none 0 0, .slice none 0 0, .slice none 0 0, .slice none 0 0]) (cs:=[vB true, .slice none 0 0,ax,ay,az]) [(0,vB true),(2,ax),(3,ay),(4,az)] O O O (zc7 O O (zc7 cu.oc O (zc7 (cq.up G).oc O (zc7 ct.oc O zh4))))) (Mw.t O O (T.bs 11 [.agg [vB true, .slice none 0 0,ax,ay,az].toArray] (cs:=[vB true, .slice none 0 0,ax,ay,az]) O O (bsA O)) ?_)
         rintro _ _ ⟨f4,f5,rfl,rfl,H,e4⟩
         refine mc e3 H fun f6=>?_
         obtain⟨e5,e6,Y⟩:=ob Y
         refine Mw.l O O (T.app1 (α:=Part) (J:=[8,9,10]) (K':=[]) ((((((bw.up F).up aw).up V).up N).up G).up H) e4 (Part.own true ([]:List Str) es ex e1 (zoR []) (cu.up H).s ((cq.up G).up H).s (ct.up H).s) O O e6) ?_
         rintro cv _ ⟨f7,rfl,cw,cx⟩
         refine Mw.lu O (T.st0 (v:=cv) (((((co.up V).up N).up G).up H).up cw) O O cx.oc O O) ?_
         rintro _ _ ⟨e7,rfl,cy,e8⟩
         exact Mw.nil ((ag) ⟨e5,cv,e7,O,((((((((M.j F).j aw).j V).j N).j G).j H).j cw).j cy).w,O,(cx.up cy),e8,Y⟩)
      ·refine rg (mv (cutV d (h:Int).toNat (C:Int).toNat (Rp.sz (Str))) O (mv (cutV b (k:Int).toNat (a:Int).toNat (Rp.sz (Str))) O (ca Y (fun _=>p166 r110 r103) fun f8 e9 Y b0=>?_)))
       have cz:=b0.o
       refine mb O (bs Y (fun W Y=>?_) fun W Y=>?_)
       ·exact psk 3 W O (Pb W O (Nb O ((ag) ⟨true,e9,O,b0,O,Y⟩)))
       ·exact wak 3 W (mv (cutV d (h:Int).toNat (C:Int).toNat (Rp.sz (Str))) O (mv (cutV e (i:Int).toNat (D:Int).toNat (Rp.sz (Str))) O (ca Y (fun _=>p166 (r110.ul cz) (r117.ul cz)) fun fb fc Y fd=>Pb W O (Nb O ((ag) ⟨fb,fc,O,(b0.j fd).w,O,Y⟩)))))
   ·refine rg (mv P O (mi O ?_))
    obtain⟨f9,c2,Y⟩:=ob Y
    refine Lw.r O (R.ix (α:=Int) ba.rd c2 O O O) (Lw.r O (R.ld O O (ba.rd.at_ c2).int) (Lw.lt O (mb O (bs Y (fun X Y=>?_) fun X Y=>?_))))
    ·exact psk 5 X O (Pb X O (nl ((ag) ⟨true,x,O,Le.refl _ _,O,Y⟩)))
    ·refine wak 5 X (mv ac O (mi O ?_))
     obtain⟨fe,c3,Y⟩:=ob Y
     exact Lw.r O (R.ix (α:=Int) bb.rd c3 O O O) (Lw.r O (R.ld O O (bb.rd.at_ c3).int) (Lw.lt O (Pb X O (nl ((ag) ⟨decide (fe< (0:Int)),x,O,Le.refl _ _,O,Y⟩)))))
 ·refine Cw.exit ?_
  rw[dl]at Y
  refine sr (lz a9 O (Nv A O ?_))
  cases Y
  exact Cw.ret (zmc O (Res.mk cd ⟨A,O,a8.s.sub O O⟩))
theorem p256 {x0 b x1 d x2 f k0 r}(h:Rd W K [b] x0)(i:Rd W K [d] x1)(k:Rd W K [f] x2)(Y:Vm.zhV x0 x1 x2=some r):Q1 256 [b,d,f] W [] fun W' v=> ∃ a,v=a/\Ow W' k0 [] [a] r:=
 (c256 (h.view _) (i.view _) (k.view _) Y).ad (fk k0) fun _ _ ⟨a,e,x⟩=>⟨a,e,x.back (zk0 _)⟩
theorem c235 {x0 a b d e r}(i:Rd W0 [0] [vB x0.Clash,a,b,d,e] x0)(Y:Vm.zhJ x0=some r):Q0 235 [.agg [vB x0.Clash,a,b,d,e].toArray] W0 fun Wf v=> ∃ f,v = .tuple [f,vB r.2].toArray/\OwS Wf LL [] [f] r.1:=by
 unfold Vm.zhJ at Y
 obtain⟨y,z,A,B,h,C,D,E,F⟩:=Part.split i
 simp only[List.cons.injEq,and_true,true_and]at h
 obtain⟨rfl,rfl,rfl,rfl⟩:=h
 refine zaY.of Tryz.func235 O O O O (sr (bo 2 O fun G H k I=>?_))
 have x:=k.o
 refine Gv (.slice none 0 0) O (Nb O (sr (Gv (.slice none 0 0) O (Nb O ?_))))
 cases Y
 exact Cw.ret (zom O O (Res.mk x ⟨.slice none 0 0,O,(zoR []).sub O O⟩))
theorem p235 {x0 b d f h k0 r}(i:Rd W K [vB x0.Clash,b,d,f,h] x0)(Y:Vm.zhJ x0=some r):Q1 235 [.agg [vB x0.Clash,b,d,f,h].toArray] W [] fun W' v=> ∃ a,v = .tuple [a,vB r.2].toArray/\Ow W' k0 [] [a] r.1:=
 (c235 (i.view _) Y).ad (fk k0) fun _ _ ⟨a,e,k⟩=>⟨a,e,k.back (zk0 _)⟩
end Go.Sx
